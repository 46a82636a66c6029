import PyProof.Rows.All
import Wide.All
import OpenK.AllK
import Wide.FinOn
import HandS.Base
import HandS.Call
import HandS.List
import HandS.Comp
import HandS.Ends
import HandS.Dict
import HandS.Iter
import HandS.Text
import HandS.Words
import HandS.WordsList
import HandS.Codes
import HandS.Exc
import HandS.Hot
import HandS.ExcInit
import HandS.ExcOwn
import HandS.ExcField
import HandS.WordsExc
import HandS.TupMul
import HandS.TupAny
import HandS.TupSets
import HandS.SetFor
import HandS.Strs
import HandS.Deep
import HandS.Conv
import KE.DatumOrd
import PyProof.StrOps2
import HandS.Walk
import PyProof.EqAt
import HandS.Small
import PyProof.MinMaxWalk
import HandS.TupLe
import PyProof.NeKinds
import HandS.Zip
import HandS.Star
import HandS.Replace
import HandS.IsInst
import HandS.Lambda
import HandS.EndTab
import KE.KExcIs
import HandS.ReplaceLit
import HandS.ReplaceDef
import KE.KNestM
import KE.KLam
import PySem.Challenge.RW_breadrota_k01_syntax_faults
set_option Elab.async false
set_option linter.all false
set_option maxRecDepth 100000
set_option maxHeartbeats 3900000
local macro_rules | `(tactic| walk_at "sub") => `(tactic| repeat (first | exact List.Sublist.refl _ | exact List.nil_sublist _ | refine List.Sublist.cons₂ _ ?_ | refine List.Sublist.cons _ ?_))
/-! The common kit: what a call leaves of the heap (Wd), a callee's contract (Cal). -/
namespace Br
open PySem PySem.Spec PyProof.Rows L2

/-- from H0 to H: all outside M is kept, tuples are kept, the domain grows; l is known now: new objects and those of M -/
structure Wd (M : List Addr) (H0 H : Hp) (l : List (Addr × HO)) : Prop where
  base : ∀ b o, b ∉ M → H0 b = some o → H b = some o
  tups : ∀ b xs, H0 b = some (.tup xs) → H b = some (.tup xs)
  own : ∀ q ∈ l, H0 q.1 = none ∨ q.1 ∈ M
  at_ : ∀ q ∈ l, H q.1 = some q.2
  nd : (l.map Prod.fst).Nodup
  free : ∀ p, H p = none → H0 p = none

theorem Wd.refl (H : Hp) : Wd [] H H [] := ⟨fun _ _ _ h => h, fun _ _ h => h, fun _ h => (nomatch h), fun _ h => (nomatch h), List.nodup_nil, fun _ h => h⟩
theorem Wd.start1 {H : Hp} {d : Addr} {o : HO} (h : H d = some o) : Wd [d] H H [(d, o)] :=
  ⟨fun _ _ _ h => h, fun _ _ h => h, fun q hq => by rw [List.mem_singleton.mp hq]; exact .inr List.mem_cons_self, fun q hq => by rw [List.mem_singleton.mp hq]; exact h, by simp, fun _ h => h⟩
theorem Wd.mono {M M' : List Addr} {H0 H : Hp} {l : List (Addr × HO)} (w : Wd M H0 H l) (h : ∀ a ∈ M, a ∈ M') : Wd M' H0 H l :=
  ⟨fun b o hb e => w.base b o (fun z => hb (h b z)) e, w.tups, fun q hq => (w.own q hq).imp id (h _), w.at_, w.nd, w.free⟩
theorem Wd.get {M : List Addr} {H0 H : Hp} {l : List (Addr × HO)} (w : Wd M H0 H l) (i : Nat) {a : Addr} {o : HO} (h : l[i]? = some (a, o)) : H a = some o :=
  w.at_ (a, o) (List.mem_of_getElem? h)
theorem Wd.old {M : List Addr} {H0 H : Hp} {l : List (Addr × HO)} (w : Wd M H0 H l) {a : Addr} {o : HO} (h : H0 a = some o) (hm : a ∉ M) : H a = some o := w.base a o hm h
/-- a new object -/
theorem Wd.new {M : List Addr} {H0 H : Hp} {l : List (Addr × HO)} (w : Wd M H0 H l) {p : Addr} (o : HO) (hp : H p = none) : Wd M H0 (upd H p o) ((p, o) :: l) where
  base := fun b u hb e => by rw [upd_ne (ne_of_none (w.base b u hb e) hp)]; exact w.base b u hb e
  tups := fun b u e => by rw [upd_ne (ne_of_none (w.tups b u e) hp)]; exact w.tups b u e
  own := fun q hq => by
    rcases List.mem_cons.mp hq with rfl | hq
    · exact .inl (w.free _ hp)
    · exact w.own q hq
  at_ := fun q hq => by
    rcases List.mem_cons.mp hq with rfl | hq
    · exact upd_same
    · rw [upd_ne (ne_of_none (w.at_ q hq) hp)]; exact w.at_ q hq
  nd := by
    rw [List.map_cons, List.nodup_cons]
    refine ⟨fun hm => ?_, w.nd⟩
    obtain ⟨q, hq, e⟩ := List.mem_map.mp hm
    have := w.at_ q hq
    rw [e, hp] at this; cases this
  free := fun b e => w.free b (by
    by_cases hb : b = p
    · rw [hb]; exact hp
    · rw [upd_ne hb] at e; exact e)
theorem mem_set {α : Type} {l : List α} {i : Nat} {x y : α} (h : y ∈ l.set i x) : y = x ∨ y ∈ l := (List.mem_or_eq_of_mem_set h).symm
/-- an object of the ledger is changed -/
theorem Wd.put {M : List Addr} {H0 H : Hp} {l : List (Addr × HO)} (w : Wd M H0 H l) (i : Nat) {a : Addr} {o : HO} (o' : HO) (h : l[i]? = some (a, o)) (hn : ∀ xs, o ≠ .tup xs) : Wd M H0 (upd H a o') (l.set i (a, o')) where
  base := fun b u hb e => by
    have ha := List.mem_of_getElem? h
    have : b ≠ a := fun z => by
      subst z
      rcases w.own _ ha with q | q
      · rw [show H0 b = none from q] at e; cases e
      · exact hb q
    rw [upd_ne this]; exact w.base b u hb e
  tups := fun b u e => by
    have ha := w.at_ _ (List.mem_of_getElem? h)
    have : b ≠ a := fun z => by
      subst z
      have e2 := w.tups b u e
      rw [show H b = some o from ha] at e2
      exact hn u (Option.some.inj e2)
    rw [upd_ne this]; exact w.tups b u e
  own := fun q hq => by
    rcases mem_set hq with rfl | hq
    · exact w.own (a, o) (List.mem_of_getElem? h)
    · exact w.own q hq
  at_ := fun q hq => by
    obtain ⟨j, hj⟩ := List.mem_iff_getElem?.mp hq
    by_cases e : i = j
    · subst e
      have hi : i < l.length := (List.getElem?_eq_some_iff.mp h).1
      rw [List.getElem?_set_self hi] at hj
      cases hj
      exact upd_same
    · rw [List.getElem?_set_ne e] at hj
      have hq' := w.at_ q (List.mem_of_getElem? hj)
      have : q.1 ≠ a := fun z => by
        have h1 : (l.map Prod.fst)[i]? = some a := by rw [List.getElem?_map, h]; rfl
        have h2 : (l.map Prod.fst)[j]? = some a := by rw [List.getElem?_map, hj, ← z]; rfl
        exact e (nd_ix w.nd h1 h2)
      rw [upd_ne this]; exact hq'
  nd := by
    have e : (l.set i (a, o')).map Prod.fst = l.map Prod.fst := by
      rw [List.map_set]
      refine List.ext_getElem? fun j => ?_
      by_cases e : i = j
      · subst e
        have hi : i < l.length := (List.getElem?_eq_some_iff.mp h).1
        rw [List.getElem?_set_self (by rw [List.length_map]; exact hi), List.getElem?_map, h]; rfl
      · rw [List.getElem?_set_ne e]
    rw [e]; exact w.nd
  free := fun b e => w.free b (by
    by_cases hb : b = a
    · subst hb; rw [upd_same] at e; cases e
    · rw [upd_ne hb] at e; exact e)
/-- a callee that changed nothing old -/
theorem Wd.call0 {M : List Addr} {H0 H H' : Hp} {l l' : List (Addr × HO)} (w : Wd M H0 H l) (c : Wd [] H H' l') : Wd M H0 H' (l' ++ l) where
  base := fun b u hb e => c.base b u (by simp) (w.base b u hb e)
  tups := fun b u e => c.tups b u (w.tups b u e)
  own := fun q hq => by
    rcases List.mem_append.mp hq with hq | hq
    · rcases c.own q hq with z | z
      · exact .inl (w.free _ z)
      · cases z
    · exact w.own q hq
  at_ := fun q hq => by
    rcases List.mem_append.mp hq with hq | hq
    · exact c.at_ q hq
    · exact c.base _ _ (by simp) (w.at_ q hq)
  nd := by
    rw [List.map_append, List.nodup_append]
    refine ⟨c.nd, w.nd, fun a ha b hb e => ?_⟩
    obtain ⟨q, hq, e1⟩ := List.mem_map.mp ha
    obtain ⟨r, hr, e2⟩ := List.mem_map.mp hb
    have h1 := w.at_ r hr
    rcases c.own q hq with z | z
    · rw [e1, e, ← e2, h1] at z; cases z
    · cases z
  free := fun b e => w.free b (c.free b e)
/-- a callee that changed the ledger's first object alone -/
theorem Wd.call1 {M : List Addr} {H0 H H' : Hp} {l l' : List (Addr × HO)} {d : Addr} {o o' : HO} (w : Wd M H0 H ((d, o) :: l)) (ho : ∀ xs, o ≠ .tup xs) (c : Wd [d] H H' ((d, o') :: l')) : Wd M H0 H' ((d, o') :: (l' ++ l)) where
  base := fun b u hb e => by
    have hd : b ≠ d := fun z => by
      subst z
      rcases w.own _ List.mem_cons_self with q | q
      · rw [show H0 b = none from q] at e; cases e
      · exact hb q
    exact c.base b u (by simpa using hd) (w.base b u hb e)
  tups := fun b u e => c.tups b u (w.tups b u e)
  own := fun q hq => by
    rcases List.mem_cons.mp hq with rfl | hq
    · exact w.own (d, o) List.mem_cons_self
    · rcases List.mem_append.mp hq with hq | hq
      · rcases c.own q (List.mem_cons_of_mem _ hq) with z | z
        · exact .inl (w.free _ z)
        · have hn := c.nd
          rw [List.map_cons, List.nodup_cons] at hn
          have : q.1 = d := by simpa using z
          exact absurd (List.mem_map.mpr ⟨q, hq, this⟩) hn.1
      · exact w.own q (List.mem_cons_of_mem _ hq)
  at_ := fun q hq => by
    rcases List.mem_cons.mp hq with rfl | hq
    · exact c.at_ _ List.mem_cons_self
    · rcases List.mem_append.mp hq with hq | hq
      · exact c.at_ q (List.mem_cons_of_mem _ hq)
      · have hn := w.nd
        rw [List.map_cons, List.nodup_cons] at hn
        have hd : q.1 ≠ d := fun z => hn.1 (List.mem_map.mpr ⟨q, hq, z⟩)
        exact c.base _ _ (by simpa using hd) (w.at_ q (List.mem_cons_of_mem _ hq))
  nd := by
    have hn := w.nd
    have hn' := c.nd
    rw [List.map_cons, List.nodup_cons] at hn hn'
    rw [List.map_cons, List.map_append, List.nodup_cons, List.nodup_append]
    refine ⟨fun hm => ?_, hn'.2, hn.2, fun a ha b hb e => ?_⟩
    · rcases List.mem_append.mp hm with h | h
      · exact hn'.1 h
      · exact hn.1 h
    · obtain ⟨q, hq, e1⟩ := List.mem_map.mp ha
      obtain ⟨r, hr, e2⟩ := List.mem_map.mp hb
      have h1 := w.at_ r (List.mem_cons_of_mem _ hr)
      rcases c.own q (List.mem_cons_of_mem _ hq) with z | z
      · rw [e1, e, ← e2, h1] at z; cases z
      · have : q.1 = d := by simpa using z
        exact hn'.1 (List.mem_map.mpr ⟨q, hq, this⟩)
  free := fun b e => w.free b (c.free b e)
/-- forget -/
theorem Wd.sub {M : List Addr} {H0 H : Hp} {l l' : List (Addr × HO)} (w : Wd M H0 H l) (h : List.Sublist l' l) : Wd M H0 H l' :=
  ⟨w.base, w.tups, fun q hq => w.own q (h.subset hq), fun q hq => w.at_ q (h.subset hq), (h.map Prod.fst).nodup w.nd, w.free⟩
theorem Wd.perm {M : List Addr} {H0 H : Hp} {l l' : List (Addr × HO)} (w : Wd M H0 H l) (h : List.Perm l l') : Wd M H0 H l' :=
  ⟨w.base, w.tups, fun q hq => w.own q (h.mem_iff.mpr hq), fun q hq => w.at_ q (h.mem_iff.mpr hq), (h.map Prod.fst).nodup_iff.mp w.nd, w.free⟩
/-- a new object behind the first -/
theorem Wd.new1 {M : List Addr} {H0 H : Hp} {l : List (Addr × HO)} {e : Addr × HO} (w : Wd M H0 H (e :: l)) {p : Addr} (o : HO) (hp : H p = none) : Wd M H0 (upd H p o) (e :: (p, o) :: l) :=
  (w.new o hp).perm (.swap _ _ _)

/-- tuples are kept -/
def KT (H H' : Hp) : Prop := ∀ b xs, H b = some (.tup xs) → H' b = some (.tup xs)
theorem KT.refl (H : Hp) : KT H H := fun _ _ h => h
theorem KT.new {H H' : Hp} (k : KT H H') {p : Addr} {o : HO} (hp : H' p = none) : KT H (upd H' p o) := fun b xs e => by
  rw [upd_ne (ne_of_none (k b xs e) hp)]; exact k b xs e
theorem KT.call {M : List Addr} {H H' H'' : Hp} {l : List (Addr × HO)} (k : KT H H') (c : Wd M H' H'' l) : KT H H'' := fun b xs e => c.tups b xs (k b xs e)
theorem KT.put {H H' : Hp} (k : KT H H') {p : Addr} {o u : HO} (hp : H' p = some u) (hn : ∀ xs, u ≠ .tup xs) : KT H (upd H' p o) := fun b xs e => by
  rw [upd_ne (ne_of (k b xs e) hp (hn xs).symm)]; exact k b xs e
/-- a def of the module and its contract -/
structure Cal (P : Program) (w : World) (K : PySem.W.Frag) (mg : Str → Option Value) (base : Heap) (k : Nat) (x : Str) (ps : List Str) (sp : Sp) : Prop where
  ex : ∃ (f : Addr) (fd : FuncData), mg x = some (.ref f) ∧ PySem.W.keepIn K (.ref f) = true ∧ Binds K fd ps [] ∧ FnOk P w K mg base CX0 k f fd ps sp
/-- a def of the module as the top left it -/
structure DefAt (K : PySem.W.Frag) (mg : Str → Option Value) (x : Str) (st : Stmt) (ps : List Str) : Prop where
  ex : ∃ (f : Addr) (fd : FuncData), mg x = some (.ref f) ∧ Fun K x x st f fd ∧ Binds K fd ps []
theorem DefAt.cal {P : Program} {w : World} {K : PySem.W.Frag} {mg : Str → Option Value} {base : Heap} {k : Nat} {x : Str} {st : Stmt} {ps : List Str} {sp : Sp} (D : DefAt K mg x st ps)
    (h : ∀ f fd, Fun K x x st f fd → FnOk P w K mg base CX0 k f fd ps sp) : Cal P w K mg base k x ps sp := by
  obtain ⟨f, fd, m, F, b⟩ := D.ex
  exact ⟨f, fd, m, F.kp, b, h f fd F⟩
/-- the names of built-ins that the module leaves as they are -/
structure Bi (mg : Str → Option Value) : Prop where
  len : mg "len" = none
  range : mg "range" = none
  list : mg "list" = none
  tuple : mg "tuple" = none
  int : mg "int" = none
  str : mg "str" = none
  abs : mg "abs" = none
  max : mg "max" = none
  sorted : mg "sorted" = none
  set : mg "set" = none
  any : mg "any" = none
  all : mg "all" = none
  enumerate : mg "enumerate" = none
  isinstance : mg "isinstance" = none
  bool : mg "bool" = none
  sum : mg "sum" = none
  zip : mg "zip" = none
  min : mg "min" = none
  dict : mg "dict" = none
  divmod : mg "divmod" = none
  ValueError : mg "ValueError" = none
end Br

/-! A comprehension whose element may raise: the exception leaves the block and flies on in the def. -/
namespace Br
open PySem PySem.Spec PySem.Calls PyProof.Rows L2
section
variable {M : Model} {A : Around} {E : Value → Shared → Prop} {s : Shared} {env : Env}
/-- the block's end, its own environment named -/
def cPost (M : Model) (A : Around) (E : Value → Shared → Prop) (Qz : Value → Shared → Prop) (acc : Value) (ce : Env) (r : Result) (z : Shared) : Prop :=
  match r with
  | .ok _ => ∃ m, z.heap.Ns ce.locals m ∧ ∀ hz, Heap.SameBut ce.locals z.heap hz → Qz acc { z with heap := hz }
  | .error x => ∃ m, z.heap.Ns ce.locals m ∧ ∀ hz, Heap.SameBut ce.locals z.heap hz → wpAny M A (PySem.passOn "comprehension.variables-let-go" x ce : Sem Value) (fun _ _ => False) E { z with heap := hz }
theorem comp_any {e : Expr} {scope : Scope} {pos : Pos} {newAcc first : Sem Value} {g : Comprehension} {gs : List Comprehension} {cl : List (Str × Addr)} {Q : Value → Shared → Prop}
    (hcl : clausesOf e = g :: gs) (hs : ∀ x, foldedSetIterable g.iter env x = pure x) (hclos : closureFor scope env = pure cl) (hkind : scope.kind = .function) (hnames : ∀ x ∈ scope.names, x.2 = .local → scope.names.lookup x.1 = some .local)
    (h : wpAny M A first (fun x z1 => wpAny M A (pyIter x) (fun it z2 => wpAny M A newAcc (fun acc z3 => wpAny M A (newFunctionEnv scope env.globals cl [] env.qual none .none (some env)) (fun ce z4 =>
        codeAny M A (.compStart e 0 it acc { ce with scope := relabel scope env }) (cPost M A E Q acc { ce with scope := relabel scope env }) z4) E z3) E z2) E z1) E s) :
    wpAny M A (comprehension e scope env pos newAcc false first none) Q E s := by
  unfold comprehension
  rw [hclos, hcl]
  refine wpAny_bind (wpAny_mono h (fun x z1 k1 => wpAny_bind (wpAny_standAt (wpAny_bind (wpAny_of_eq (hs x) (wpAny_bind (wpAny_holding (wpAny_mono k1 (fun it z2 k2 =>
    wpAny_standIf (wpAny_bind (wpAny_mono k2 (fun acc z3 k3 => wpAny_bind (wpAny_pure (wpAny_bind (wpAny_mono k3 (fun ce z4 k4 => ?_) fun _ _ y => y)))) fun _ _ y => y))) fun _ _ y => y))))))) fun _ _ y => y)
  dsimp only
  have hv : ∀ x ∈ (scope.names.filter fun x => (x.2 == .local || x.2 == .cell) && x.1 != (".0" : Str)).reverse, x.2 = .local → Env.kindOf { ce with scope := relabel scope env } x.1 = some .local := fun x hx hl =>
    lookup_relabel_local (hnames x (List.mem_filter.mp (List.mem_reverse.mp hx)).1 hl)
  refine wpAny_holding (wpAny_bind (wpAny_attempt (wpAny_holding (wpAny_run (codeAny_mono k4 fun r z5 hr => ?_)))))
  cases r with
  | ok f =>
    obtain ⟨m, hn, q⟩ := hr
    exact wpAny_bind (wpAny_holding (wpAny_comp_letGo (cenv := { ce with scope := relabel scope env }) hkind _ z5 m hv hn fun hz mz _ sz => wpAny_pure (q hz sz)))
  | error x =>
    obtain ⟨m, hn, q⟩ := hr
    exact wpAny_bind (wpAny_holding (wpAny_comp_letGo (cenv := { ce with scope := relabel scope env }) hkind _ z5 m hv hn fun hz mz _ sz => wpAny_mono (q hz sz) (fun _ _ f => f.elim) fun _ _ y => y))
end
theorem ff_but {base h h' : Heap} {C : Addr} (k : ∀ b, b ≠ C → h'.get? b = h.get? b) (hb : ∀ b o, base.get? b = some o → True) : ∀ {l : List Env}, h.FunFrames base l → C ∉ frs l → h'.FunFrames (PySem.W.hideAll base [C]) l
  | [], _, _ => trivial
  | env :: l, h1, hc => by
    obtain ⟨hk, ⟨L, o, hf, hn, ho, hd⟩, hr⟩ := h1
    have hL : L ∈ frs (env :: l) := List.mem_filterMap.mpr ⟨env, List.mem_cons_self, hf⟩
    refine ⟨hk, ⟨L, o, hf, ?_, (k L fun z => hc (z ▸ hL)).trans ho, hd⟩, ff_but k hb hr fun hm => hc ?_⟩
    · cases q : (PySem.W.hideAll base [C]).get? L with
      | none => rfl
      | some o' => rw [PySem.W.of_hideAll _ q] at hn; cases hn
    · obtain ⟨e, he, q⟩ := List.mem_filterMap.mp hm
      exact List.mem_filterMap.mpr ⟨e, List.mem_cons_of_mem _ he, q⟩
section
variable {X : Cx} {W : WX} {pins : List (Addr × Obj)} {σ : L2.St} {H3 : Hp} {s3 : Shared} {scope : Scope} {cl : List (Str × Addr)} {fp : List Addr} {Qz : Value → Shared → Prop} {D : Addr}
/-- what an element's exception meets -/
def blkE (X : Cx) (Qz : Value → Shared → Prop) (D : Addr) (ce : Env) : Value → Shared → Prop :=
  notedBy (model X.prog X.w) X.A ce fun e z => cPost (model X.prog X.w) X.A X.xe Qz (.ref D) ce (.error e) z
theorem note_same {M : Model} {A : Around} {Q : Unit → Shared → Prop} {E : Value → Shared → Prop} {s : Shared} {e : Value} {ce env : Env} (h : ce.frame = env.frame) (k : wpAny M A (noteFrame e env) Q E s) : wpAny M A (noteFrame e ce) Q E s := by
  unfold noteFrame PySem.frameOf at k ⊢
  rw [h]
  exact k
theorem blk_pass (hs : X.stack = X.env :: X.outer) (hf : X.env.frame = some X.env.locals) (tk : Takes X W) (I3 : Inv X pins σ H3 s3) {ce : Env} (hce : ce.locals = s3.heap.objs.size) (hcf : ce.frame = X.env.frame)
    (f3 : ∀ b ∈ fp, FpOk X pins H3 b ∧ b < s3.heap.objs.size) :
    Passes (L2.CX X.prog X.w) ((X.blk s3 H3 scope ce fp).wish (blkE X Qz D ce)) (fun cls d H' => W cls d σ H') := by
  intro pins2 σ2 H s e z I0 c
  have I : Inv (X.blk s3 H3 scope ce fp) pins2 σ2 H s := I0.unwish
  have ok := I3.ok
  have hfr : X.A.frames = some (X.env :: X.outer) := by rw [ok.frames, hs]
  obtain ⟨a, B, sI, p2, σ4, H2, cls, d, rfl, J, nb, up, sky, na, os, ag, w⟩ := XE.of_call (X := X.blk s3 H3 scope ce fp) (W := fun cls d _ H' => W cls d σ H') I (fun _ _ _ h => h) c
  obtain ⟨a1, B1, _, _, _, ea, fl1, _⟩ := c
  cases ea
  obtain ⟨_, _, _, oe1, vs1, T1, oT1, ts1, he1, _, hd1, hv1, _, _, hT1, hdT1, h31⟩ := fl1
  have fl : HandSPX.FlyingZ B (X.env :: X.outer) a (Zc cls d) z.heap := by
    rw [← hs]
    rcases sky with ⟨_, _, _, oe, vs, he, _, hd, h1⟩ | fl | hh
    · rw [he1] at he; cases he
      rw [hd1] at hd; cases hd
      rw [hv1] at h1; cases h1
    · exact fl
    · obtain ⟨_, _, _, oe, vs, T, oT, ts, he, _, hd, h1, _, _, hT, hdT, h3⟩ := hh
      rw [he1] at he; cases he
      rw [hd1] at hd; cases hd
      rw [hv1] at h1; cases h1
      rw [hT1] at hT; cases hT
      rw [hdT1] at hdT; cases hdT
      rw [h31] at h3; cases h3
  have hC3 : FpOk X pins H2 s3.heap.objs.size := I3.fpOk (Nat.le_refl _) (by have q := J.free; rw [show (X.blk s3 H3 scope ce fp).env.locals = s3.heap.objs.size from hce] at q; exact q)
  have nfr : s3.heap.objs.size ∉ frs (X.env :: X.outer) := fun hm => by
    obtain ⟨e, he, q⟩ := List.mem_filterMap.mp hm
    rcases List.mem_cons.mp he with rfl | he
    · rw [hf] at q; exact hC3.2.1 (Option.some.inj q).symm
    · exact hC3.2.2.1 (List.mem_filterMap.mpr ⟨e, he, q⟩)
  unfold blkE notedBy
  refine note_same hcf ?_
  refine HandSPX.looks_onZ Zc.steady hfr hf fl fun h1 hh1 up1 => ?_
  obtain ⟨m, hns, _⟩ := J.loc
  have hns : sI.heap.Ns ce.locals m := hns
  rw [hce] at hns
  obtain ⟨oC, es, ep, hoC, hdC⟩ := id hns
  have hC1 : h1.get? s3.heap.objs.size = some oC := hh1.1 _ _ (nb _ _ hoC (by rw [show (X.blk s3 H3 scope ce fp).stack = X.env :: X.outer from hs]; exact nfr))
  refine ⟨m, by rw [hce]; exact ⟨oC, es, ep, hC1, hdC⟩, fun h2 sb => ?_⟩
  rw [hce] at sb
  have k2 : ∀ b, b ≠ s3.heap.objs.size → h2.get? b = h1.get? b := sb.2
  have hh2 : HandSPX.HeldZ (PySem.W.hideAll B [s3.heap.objs.size]) (X.env :: X.outer) a (Zc cls d) X.env.locals h2 := by
    obtain ⟨x1, x2, x3, oe, vs, T, oT, ts, he, hz, hd, hv, hT0, hTe, hT, hdT, h3⟩ := hh1
    have nf : ∀ {b o ws}, h1.get? b = some o → o.data = .fields ws → b ≠ s3.heap.objs.size := fun e1 e2 q => by
      rw [q, hC1] at e1; cases e1
      rw [hdC.1] at e2; cases e2
    have hid : ∀ b, B.get? b = none → (PySem.W.hideAll B [s3.heap.objs.size]).get? b = none := fun b q => by
      cases q2 : (PySem.W.hideAll B [s3.heap.objs.size]).get? b with
      | none => rfl
      | some o' => rw [PySem.W.of_hideAll _ q2] at q; cases q
    refine ⟨fun b o e => ?_, hid _ x2, ff_but k2 (fun _ _ _ => trivial) x3 nfr, oe, vs, T, oT, ts, (k2 _ (nf he hd)).trans he, hz, hd, hv, hid _ hT0, hTe, (k2 _ (nf hT hdT)).trans hT, hdT, h3⟩
    have hb : b ≠ s3.heap.objs.size := fun q => by rw [q, PySem.W.hideAll_none _ (by simp)] at e; cases e
    exact (k2 b hb).trans (x1 b o (PySem.W.of_hideAll _ e))
  obtain ⟨_, _, _, oe5, vs5, T5, oT5, ts5, he5, _, hd5, hv5, _⟩ := id hh2
  unfold PySem.passOn
  refine wpAny_bind (wpAny_field he5 hd5 hv5 ?_)
  rw [if_neg (show ¬ ((Value.ref T5 == Value.none) = true) from by simp)]
  have fin : wpAny (model X.prog X.w) X.A (setFlight (.ref a) ce.frame) (fun _ z4 => wpAny (model X.prog X.w) X.A (throw (.ref a) : Sem Value) (fun _ _ => False) X.xe z4) X.xe { z with heap := h2 } := by
    rw [hcf, hf]
    refine HandSPX.setFlight_onZ hh2 fun h3 hh3 up3 => wpAny_throw (tk _ _ ?_)
    have nC : ∀ b o, (PySem.W.hideAll sI.heap [s3.heap.objs.size]).get? b = some o → b ≠ s3.heap.objs.size := fun b o e q => by rw [q, PySem.W.hideAll_none _ (by simp)] at e; cases e
    have hid : ∀ b o, b ≠ s3.heap.objs.size → sI.heap.get? b = some o → (PySem.W.hideAll sI.heap [s3.heap.objs.size]).get? b = some o := fun b o hb e => PySem.W.hideAll_get _ e (by simpa using hb)
    have old : ∀ b o, s3.heap.get? b = some o → b ≠ s3.heap.objs.size := fun b o e => Nat.ne_of_lt (Heap.lt_size e)
    have jb := J.base
    have U : Un (frs X.stack) fp H3 H2 s3.heap (PySem.W.hideAll sI.heap [s3.heap.objs.size]) := {
      keep := fun b o e n q1 q2 => hid b o (old b o e) (jb.keep b o e n q1 q2)
      slot := fun b o e n q1 q2 => by
        obtain ⟨sl, q⟩ := jb.slot b o e n q1 q2
        exact ⟨sl, hid b _ (old b o e) q⟩
      free := jb.free
      there := fun b o e q1 => by
        obtain ⟨o', q⟩ := jb.there b o e q1
        exact ⟨o', hid b _ (old b o e) q⟩
      tups := jb.tups
      frzs := jb.frzs
      tbls := jb.tbls }
    have hokB : HOk X.prog X.w H2 (PySem.W.hideAll sI.heap [s3.heap.objs.size]) := fun b o q => (J.hok b o q).stay (fun c u hc r => hid c u (fun q2 => by
      subst q2
      rcases hc with hc | hc
      · rw [← hc, hC3.1] at q; cases q
      · rw [hC3.1] at hc; cases hc) r) (fun _ r => r) fun _ _ r => r
    have I7 : Inv X pins σ H2 { sI with heap := PySem.W.hideAll sI.heap [s3.heap.objs.size] } := I3.call' (s' := { sI with heap := PySem.W.hideAll sI.heap [s3.heap.objs.size] }) (ch := fp) J.os U hokB J.bare fun b hb => ⟨(f3 b hb).1.2.2.2.1, (f3 b hb).1.2.1, (f3 b hb).1.2.2.2.2.1, (f3 b hb).1.2.2.2.2.2⟩
    refine ⟨a, PySem.W.hideAll B [s3.heap.objs.size], _, pins, σ, H2, cls, d, rfl, I7, fun b o e hb => PySem.W.hideAll_get _ (nb b o (PySem.W.of_hideAll _ e) hb) (by simpa using nC b o e), fun b o e hn => ?_, .inr (.inr (by rw [hs]; exact hh3)), na, os, ag, w⟩
    obtain ⟨l1, e1⟩ := up b o (PySem.W.of_hideAll _ e) hn
    obtain ⟨l2, e2⟩ := up1 b _ e1 hn
    obtain ⟨l3, e3⟩ := up3 b _ ((k2 b (nC b o e)).trans e2) hn
    exact ⟨l3, e3⟩
  first
    | exact wpAny_bind (wpAny_pure (wpAny_bind fin))
    | exact wpAny_bind fin
end
section
variable {X : Cx} {W : WX}
theorem thF {α : Type} {t : Sem α} {Q Q' : α → Shared → Prop} {M : Model} {A : Around} {E : Value → Shared → Prop} {z : Shared} (h : wpAny M A t Q (fun _ _ => False) z) (k : ∀ a y, Q a y → Q' a y) : wpAny M A t Q' E z := wpAny_mono h k fun _ _ q => False.elim q
/-- [elt for target in iter if ..], elt may raise: te, what elt asks, told by the def's wish; the tests may lean on the state at the block's start -/
theorem pe_lcI {elt tg iter : Expr} {ifs : List Expr} {scope : Scope} {own : List (Str × Nat)} {pos : Pos} {wi : TI} {g : TG} {tt : TT} {te : XK → TE} (hc : X.calm = true) (hst : X.stack = X.env :: X.outer) (hfm : X.env.frame = some X.env.locals) (tk : Takes X W) (hN : X.N.Nodup)
    (hi : PI X tg iter wi) (ok : BlkOk X.N X.env.scope scope own)
    (hg : ∀ (y : Shared) (H : Hp) (C : Addr) (cl : List (Str × Addr)) (fp : List Addr), PG (X.blk y H scope (compEnvC scope cl C X.env) fp) tg g)
    (ht : ∀ (y : Shared) (H : Hp) (C : Addr) (cl : List (Str × Addr)) (fp : List Addr), (∃ pins σ, Inv X pins σ H y ∧ ∀ b ∈ fp, FpOk X pins H b) → PTs (X.blk y H scope (compEnvC scope cl C X.env) fp) ifs tt)
    (he : ∀ (y : Shared) (H : Hp) (C : Addr) (cl : List (Str × Addr)) (fp : List Addr) (xe : Value → Shared → Prop) (E : XK), Passes (L2.CX X.prog X.w) ((X.blk y H scope (compEnvC scope cl C X.env) fp).wish xe) E → PE ((X.blk y H scope (compEnvC scope cl C X.env) fp).wish xe) elt (te E))
    (hfs : ∀ x, foldedSetIterable iter X.env x = pure x := by intro _; rfl) :
    PE X (.ListComp elt [⟨tg, iter, ifs, 0⟩] scope pos) (fun σ H Q => tLc wi g tt (te fun cls d H' => W cls d σ H') (own.map (·.2)) σ H Q) := by
  refine ⟨fun pins y σ H Q I h => ?_⟩
  rw [eval_ListComp]
  have hfree : ∀ n ∈ scope.names, n.2 = .free → ∃ c, X.env.cells.lookup n.1 = some c := fun n hn e => (ok.free n hn e).elim (fun k => I.ok.has _ (.inl k)) fun k => I.ok.has _ (.inr k)
  refine comp_any rfl hfs (closure_ok hfree) ok.kind (fun n hn e => by rw [ok.uniq n hn, e]) (thn (hi.run pins y σ H _ I h) fun xv y1 hx => thn hx fun itv y2 h2 => ?_)
  obtain ⟨it, fp, tn, J, H2, e, I2, T, st2, f2, q⟩ := h2
  subst e
  refine wpAny_newObj_type (newEnv_comp ?_) (by show 0 ≤ sizeLine; decide)
  generalize hD : y2.heap.objs.size = D
  have hDn : H2 D = none := I2.hok.fresh (Nat.le_of_eq hD)
  obtain ⟨Wt, ⟨m0, w0⟩, turn⟩ := q D hDn
  generalize hy3 : ({ y2 with heap := y2.heap.push { cls := .type "list", data := .seq ([] : List Value).toArray } } : Shared) = y3
  have I3 : Inv X pins σ (upd H2 D (.lst [])) y3 := by
    rw [← hy3]
    exact I2.laid (t' := y2.toks) (fun b o e => Heap.get?_push_of_some _ e) (Nat.le_of_eq hD) ⟨Nat.zero_le _, [], 0, .nil, by rw [← hD]; exact Heap.get?_push_size _ rfl⟩
  have h3 : y3.heap = y2.heap.push { cls := .type "list", data := .seq ([] : List Value).toArray } := by rw [← hy3]
  have sz : ∀ b ∈ fp, b < y2.heap.objs.size := fun b hb => (T.obj _ _ st2 b hb).elim fun o e => Heap.lt_size e.1
  have f3 : ∀ b ∈ fp, FpOk X pins (upd H2 D (.lst [])) b ∧ b < y3.heap.objs.size := fun b hb =>
    ⟨⟨by rw [upd_ne (by rw [← hD]; exact Nat.ne_of_lt (sz b hb))]; exact (f2 b hb).1, (f2 b hb).2⟩, by rw [h3, Heap.size_push]; exact Nat.lt_succ_of_lt (sz b hb)⟩
  have st3 : tn 0 y3.heap := T.keep _ _ _ st2 fun b _ o e => by rw [h3]; exact Heap.get?_push_of_some _ e
  have I4 := block_start I3 ok hN f3
  have pg := hg y3 (upd H2 D (.lst [])) y3.heap.objs.size (cellsFrom (y3.heap.objs.size + 1) scope.names (cloFrom X.env.cells scope.names [])) fp
  have pt := ht y3 (upd H2 D (.lst [])) y3.heap.objs.size (cellsFrom (y3.heap.objs.size + 1) scope.names (cloFrom X.env.cells scope.names [])) fp ⟨pins, σ, I3, fun b hb => (f3 b hb).1⟩
  have pe := fun xe E => he y3 (upd H2 D (.lst [])) y3.heap.objs.size (cellsFrom (y3.heap.objs.size + 1) scope.names (cloFrom X.env.cells scope.names [])) fp xe E
  show codeAny _ _ (.compStart (.ListComp elt [⟨tg, iter, ifs, 0⟩] scope pos) 0 (.ref it) (.ref D) (compEnvC scope (cellsFrom (y3.heap.objs.size + 1) scope.names (cloFrom X.env.cells scope.names [])) y3.heap.objs.size X.env)) (cPost (model X.prog X.w) X.A X.xe (EP X pins σ Q) (.ref D) (compEnvC scope (cellsFrom (y3.heap.objs.size + 1) scope.names (cloFrom X.env.cells scope.names [])) y3.heap.objs.size X.env)) { y3 with heap := pushCells (y3.heap.push { cls := .type "dict", data := .dict #[] }) scope.names }
  have nfp : ∀ b ∈ fp, (upd H2 D (.lst [])) b = none := fun b hb => (f3 b hb).1.1
  generalize hce : compEnvC scope (cellsFrom (y3.heap.objs.size + 1) scope.names (cloFrom X.env.cells scope.names [])) y3.heap.objs.size X.env = ce at I4 pg pt pe ⊢
  have cL : ce.locals = y3.heap.objs.size := by subst hce; rfl
  have cF : ce.frame = X.env.frame := by subst hce; rfl
  generalize hH3 : upd H2 D (.lst []) = H3 at I3 I4 pg pt pe w0 nfp f3
  generalize hy4 : ({ y3 with heap := pushCells (y3.heap.push { cls := .type "dict", data := .dict #[] }) scope.names } : Shared) = y4 at I4 ⊢
  have ps := pe _ _ (blk_pass (scope := scope) (Qz := EP X pins σ Q) (D := D) hst hfm tk I3 cL cF f3)
  have st4 : tn 0 y4.heap := T.keep _ _ _ st3 fun b _ o e => by rw [← hy4]; exact pushCells_keeps _ _ _ _ (Heap.get?_push_of_some _ e)
  have stat : ∀ {σ' : L2.St} {H' : Hp} {z : Shared}, Inv (X.blk y3 H3 scope ce fp) [] σ' H' z → (∀ b ∈ fp, H' b = none) → ∀ b ∈ fp, FpOk (X.blk y3 H3 scope ce fp) [] H' b := fun {σ' H' z} I' hn b hb =>
    ⟨hn b hb, (I'.ok.exf b hb).1, I'.ok.exfs b hb, .inl hb, fun x c e => (I'.ok.exf b hb).2 x c e, fun p hp => absurd (show p ∈ ([] : List (Addr × Obj)) ++ [] from hp) (by simp)⟩
  have loop : codeAny (model X.prog X.w) X.A (.compLoop (.ListComp elt [⟨tg, iter, ifs, 0⟩] scope pos) 0 (.ref it) (.ref D) ce) (cPost (model X.prog X.w) X.A X.xe (EP X pins σ Q) (.ref D) ce) y4 := by
    refine compLoop_any (fun n z => ∃ i H', Inv (X.blk y3 H3 scope ce fp) [] (wipe σ (own.map (·.2))) H' z ∧ tn i z.heap ∧ (∀ b ∈ fp, H' b = none) ∧ Wt i n H') ?_ m0 ⟨0, H3, I4, st4, nfp, w0⟩
    rintro n y5 ⟨i, H5, I5, st5, n5, w5⟩
    rcases turn i n H5 w5 with ⟨stop, qq⟩ | ⟨go, Nx, hNx, step⟩
    · refine thF (T.done (X.blk y3 H3 scope ce fp) rfl rfl rfl hc i [] y5 _ H5 (fun _ _ => False) I5 (stat I5 n5) st5 stop) fun r y6 ⟨hr, I6⟩ => ?_
      subst hr
      have I7 : Inv X pins σ H5 y6 := I3.call' (ch := fp) I6.os I6.base I6.hok I6.bare fun b hb => ⟨(f3 b hb).1.2.2.2.1, (f3 b hb).1.2.1, (f3 b hb).1.2.2.2.2.1, (f3 b hb).1.2.2.2.2.2⟩
      have nC : H5 y3.heap.objs.size = none := by rw [← cL]; exact I6.free
      obtain ⟨m, hn, _⟩ := I6.loc
      have hn : y6.heap.Ns ce.locals m := hn
      obtain ⟨g0, g1, g2, g3, g4, g5⟩ := I3.fpOk (Nat.le_refl _) nC
      refine ⟨m, hn, fun hz sb => ?_⟩
      rw [cL] at sb
      exact ⟨.ref D, H5, I7.turned (t' := y6.toks) (fun b o hb e => (sb.2 b hb).trans e) g0 g1 g3 g4 g5, rfl, qq⟩
    · refine thF (T.item (X.blk y3 H3 scope ce fp) rfl rfl rfl hc i [] y5 _ H5 (fun _ _ => False) I5 (stat I5 n5) st5 go) fun r y6 ⟨u, hr, k6⟩ => ?_
      subst hr
      refine thF k6 fun _ y7 ⟨x, H7, I7, r7, yx7, st7, n7⟩ => ?_
      have I7' := I7.pinned (stat I7 n7) (T.obj _ _ st7)
      refine thF (pg.run _ y7 _ H7 x u _ I7' r7 (step x H7 yx7)) fun _ y8 ⟨σ8, H8, I8, hw8, q8⟩ => ?_
      refine thF (pt.run _ y8 σ8 H8 _ I8 q8) fun b y9 ⟨H9, I9, q9⟩ => ?_
      have fin : ∀ {z : Shared} {H' : Hp}, Inv (X.blk y3 H3 scope ce fp) ([] ++ pinsAt fp y7.heap) σ8 H' z → Nx H' → ∃ m, m < n ∧ ∃ i H', Inv (X.blk y3 H3 scope ce fp) [] (wipe σ (own.map (·.2))) H' z ∧ tn i z.heap ∧ (∀ b ∈ fp, H' b = none) ∧ Wt i m H' := fun {z H'} I' nx => by
        obtain ⟨m', hm, w'⟩ := hNx H' nx
        have pin' : ∀ b ∈ fp, ∀ o, y7.heap.get? b = some o → z.heap.get? b = some o ∧ H' b = none := fun b hb o e =>
          have q := I'.pin (b, o) (List.mem_append_right _ (List.mem_append_right _ (mem_pinsAt hb e)))
          ⟨q.1, q.2.1⟩
        have hl : (wipe σ (own.map (·.2))).length = σ8.length := by rw [← hw8, wipe_length]
        refine ⟨m', hm, i + 1, H', (I'.unpinned (pins := [])).weak hl (fun j v e => (wipe_some (by rw [← hw8] at e; exact e)).1), T.keep _ _ _ st7 fun b hb o e => (pin' b hb o e).1, fun b hb => ?_, w'⟩
        obtain ⟨o, e, _⟩ := T.obj _ _ st7 b hb
        exact (pin' b hb o e).2
      cases b with
      | false =>
        simp only [Bool.false_eq_true, if_false] at q9 ⊢
        exact fin I9 q9
      | true =>
        simp only [if_true] at q9 ⊢
        refine wpAny_mono (ps.run _ y9 σ8 H9 _ (I9.wish _) q9) (fun v y10 ⟨yv, H10, I10, r10, acc, hD10, hz10, nx⟩ => ?_) fun _ _ q => q
        exact app_ok (X := X.blk y3 H3 scope ce fp) I10.unwish hD10 hz10 r10 fun y11 I11 => fin I11 nx
  exact codeAny_compStart_list loop (T.self X.A 0 _ _ _ st4 loop)
/-- the same, the tests by themselves -/
theorem pe_lcX {elt tg iter : Expr} {ifs : List Expr} {scope : Scope} {own : List (Str × Nat)} {pos : Pos} {wi : TI} {g : TG} {tt : TT} {te : XK → TE} (hc : X.calm = true) (hst : X.stack = X.env :: X.outer) (hfm : X.env.frame = some X.env.locals) (tk : Takes X W) (hN : X.N.Nodup)
    (hi : PI X tg iter wi) (ok : BlkOk X.N X.env.scope scope own)
    (hg : ∀ (y : Shared) (H : Hp) (C : Addr) (cl : List (Str × Addr)) (fp : List Addr), PG (X.blk y H scope (compEnvC scope cl C X.env) fp) tg g)
    (ht : ∀ (y : Shared) (H : Hp) (C : Addr) (cl : List (Str × Addr)) (fp : List Addr), PTs (X.blk y H scope (compEnvC scope cl C X.env) fp) ifs tt)
    (he : ∀ (y : Shared) (H : Hp) (C : Addr) (cl : List (Str × Addr)) (fp : List Addr) (xe : Value → Shared → Prop) (E : XK), Passes (L2.CX X.prog X.w) ((X.blk y H scope (compEnvC scope cl C X.env) fp).wish xe) E → PE ((X.blk y H scope (compEnvC scope cl C X.env) fp).wish xe) elt (te E))
    (hfs : ∀ x, foldedSetIterable iter X.env x = pure x := by intro _; rfl) :
    PE X (.ListComp elt [⟨tg, iter, ifs, 0⟩] scope pos) (fun σ H Q => tLc wi g tt (te fun cls d H' => W cls d σ H') (own.map (·.2)) σ H Q) := pe_lcI hc hst hfm tk hN hi ok hg (fun y H C cl fp _ => ht y H C cl fp) he hfs
end
end Br

/-! The program's exception classes: made by their own __init__ that calls the base's, raised, told by the ledger. -/
namespace Br
open PySem PySem.Spec PyProof.Rows L2
/-- the base class at CR: RotaError.__init__ is ValueError's -/
structure BaseX (K : PySem.W.Frag) (mg : Str → Option Value) (CR : Addr) : Prop where
  g : mg "RotaError" = some (.ref CR)
  rd : PySem.W.readsIn K CR (.type "type") = true
  ga : PySem.W.specialIn K (.ref CR) "__getattribute__" = some (some (.builtin "type.__getattribute__"))
  at_ : PySem.W.findCls K (.ref CR) (.type "type") "__init__" = some (.val (.builtin "ValueError.__init__"))
section
variable {X : Cx} {e : Expr} {es : List Expr} {ta : TA} {p1 p2 pos : Pos} {CR : Addr}
theorem pe_rinit {pl : Sem Bool} (B : BaseX X.K X.mg CR) (hg : Gl X "RotaError") (ha : PA X (e :: es) ta)
    (he : starEach (e :: es) X.env = (false, eval e X.env) :: starEach es X.env := by rfl) (hpl : (backTo pos (starEach es X.env)).any (·.1) = false := by rfl)
    (hc : eval (.Call (.Attribute (.Name "RotaError" p1) "__init__" p2) (e :: es) [] pos) X.env = (do
      let ov ← eval (.Name "RotaError" p1) X.env
      standAt p2.atName
      let (f, first) ← holding [ov] (getMethod ov "__init__" pl)
      callWith pos f first (backTo pos (starEach (e :: es) X.env)) (backToKw pos (keywordEach [] X.env))) := by rfl) :
    PE X (.Call (.Attribute (.Name "RotaError" p1) "__init__" p2) (e :: es) [] pos) (tVeI X.K ta) := by
  refine ⟨fun pins y σ H Q I h => ?_⟩
  refine PySem.W.methodCall_KW (ld_glob I hg B.g ?_ (by decide)) hc
  refine PySem.W.method_cls I.kIn B.ga (PySem.W.cls_value I.kIn B.rd B.at_ (by decide +kernel) ?_)
  refine PyProof.Rows.callWith_method1 (thn (ha.run pos pins _ σ H _ (I.tok _) h) fun us y1 ⟨vs, H1, I1, r1, a, C, ws, ev, hl, T, ea, q⟩ => ?_) he hpl
  subst ev
  cases r1 with
  | @cons _ u0 _ ur ra rw2 =>
    obtain rfl : u0 = Value.ref a := ra
    exact oinit_ok T I1 ea (by rw [← Paired.length rw2, sizeLine_eq]; omega) fun z J => ⟨.non, H1, J, rfl, q⟩
end
/-- an error as it lies behind a call: of the class at C, its dict d holds fs; nothing old is changed -/
def spEx (C : Addr) (fs : List Str) : Sp := fun vs H Q _ => ∃ (a : Addr) (ws : List V), vs = .ref a :: ws ∧ ws.length = fs.length ∧ H a = some (exo a C none) ∧
  ∀ (dx : Addr) (H' : Hp), H dx = none → dx ≠ a → (∀ b, b ≠ dx → b ≠ a → H' b = H b) → H' a = some (exo a C (some dx)) → H' dx = some (exd dx (fs.zip ws).reverse) → Q .non H'
/-- an own exception class with an __init__, ready to be raised -/
structure ExAt (P : Program) (w : World) (K : PySem.W.Frag) (mg : Str → Option Value) (base : Heap) (x : Str) (C : Addr) (fs : List Str) : Prop where
  T : OexC K C
  gC : mg x = some (.ref C)
  ex : ∃ (fI : Addr) (fd : FuncData) (ps : List Str), PySem.W.findIn K (.ref C) "__init__" = some (some (.ref fI)) ∧ PySem.W.typeIn K (.ref fI) = some (.type "function") ∧ FnOk P w K mg base CX0 1 fI fd ps (spEx C fs) ∧ Binds K fd ps []
theorem del_wd {H H2 : Hp} {a d : Addr} {C : Addr} {fs : List (Str × V)} (ha : H a = none) (hd : H d = none) (ne : d ≠ a) (k : ∀ b, b ≠ d → b ≠ a → H2 b = upd H a (exo a C none) b) : Wd [] H (upd (del H2 a) d (.xd fs)) [(d, .xd fs)] where
  base := fun b o _ e => by
    have h1 := ne_of_none e hd
    have h2 := ne_of_none e ha
    rw [upd_ne h1, del_ne h2, k b h1 h2, upd_ne h2]; exact e
  tups := fun b xs e => by
    have h1 := ne_of_none e hd
    have h2 := ne_of_none e ha
    rw [upd_ne h1, del_ne h2, k b h1 h2, upd_ne h2]; exact e
  own := fun q hq => by rw [List.mem_singleton.mp hq]; exact .inl hd
  at_ := fun q hq => by rw [List.mem_singleton.mp hq]; exact upd_same
  nd := by simp
  free := fun b e => by
    by_cases h1 : b = d
    · rw [h1]; exact hd
    by_cases h2 : b = a
    · rw [h2]; exact ha
    rw [upd_ne h1, del_ne h2, k b h1 h2, upd_ne h2] at e; exact e
section
variable {X : Cx} {e : Expr} {es : List Expr} {ta : TA} {p pos : Pos} {C : Addr} {x : Str} {fs : List Str}
def tUp (t : TA) : TA := fun σ H Q => ∃ R : List V → Hp → Prop, t σ H R ∧ ∀ vs H1, R vs H1 → Q vs H1
theorem pa_up (h : PA X es ta) : PA X es (tUp ta) := ⟨fun pos pins y σ H Q I ⟨R, h1, h2⟩ => thn (h.run pos pins y σ H R I h1) fun us z ⟨vs, H1, I1, r1, q⟩ => ⟨vs, H1, I1, r1, h2 _ _ q⟩⟩
def tMkE (C : Addr) (fs : List Str) (ta : TA) : L2.St → Hp → XK → Prop := fun σ H Q => ta σ H fun ws H1 => ws.length = fs.length ∧ ∀ d H', Wd [] H1 H' [(d, .xd (fs.zip ws).reverse)] → Q (.ref C) (some d) H'
theorem pmk_ex (D : ExAt X.prog X.w X.K X.mg X.base x C fs) (hr : Room 2 X.A) (hg : Gl X x) (ha : PA X (e :: es) ta) (hz : fs.length ≤ 1000) (hdb : (x == ("__debug__" : Str)) = false := by decide)
    (he : starEach (e :: es) X.env = (false, eval e X.env) :: starEach es X.env := by rfl) (hpl : (backTo pos (starEach es X.env)).any (·.1) = false := by rfl) :
    PMk X (.Call (.Name x p) (e :: es) [] pos) (tMkE C fs ta) := by
  obtain ⟨fI, fd, ps, iC, tI, F1, b⟩ := D.ex
  have h := pmk_oex (X := X) (dvs := []) (p := p) (pos := pos) D.T iC tI F1 hr b .nil (fun _ _ _ _ _ _ _ z => False.elim z) hg D.gC (pa_up ha) hdb he hpl
  intro pins y σ H Q I q
  refine h pins y σ H Q I ⟨_, q, fun ws H1 ⟨hl, k⟩ => ⟨by omega, fun a ha0 => ⟨a, ws, by rw [List.append_nil], hl, upd_same, fun dx H' hd ne hk h1 h2 => ⟨rfl, dx, _, h1, h2, ?_, ?_⟩⟩⟩⟩
  · rw [upd_ne ne] at hd; exact hd
  · exact k dx _ (del_wd ha0 (by rw [upd_ne ne] at hd; exact hd) ne hk)
end
/-- the class as the top left it: its __init__ is st, in order self and the fields -/
structure ExTxt (K : PySem.W.Frag) (mg : Str → Option Value) (x q : Str) (C : Addr) (st : Stmt) (ps fs : List Str) : Prop where
  T : OexC K C
  gC : mg x = some (.ref C)
  no : ∀ f ∈ fs, PySem.W.findIn K (.ref C) f = some none
  ex : ∃ (fI : Addr) (fd : FuncData), PySem.W.findIn K (.ref C) "__init__" = some (some (.ref fI)) ∧ PySem.W.typeIn K (.ref fI) = some (.type "function") ∧ Fun K "__init__" q st fI fd ∧ Binds K fd ps []
theorem ExTxt.at_ {P : Program} {w : World} {K : PySem.W.Frag} {mg : Str → Option Value} {base : Heap} {x q : Str} {C : Addr} {st : Stmt} {ps fs : List Str} (D : ExTxt K mg x q C st ps fs)
    (h : ∀ fI fd, Fun K "__init__" q st fI fd → FnOk P w K mg base CX0 1 fI fd ps (spEx C fs)) : ExAt P w K mg base x C fs := by
  obtain ⟨fI, fd, h1, h2, F, b⟩ := D.ex
  exact ⟨D.T, D.gC, fI, fd, ps, h1, h2, h fI fd F, b⟩
end Br

/-! Rules that the layer lacks. -/
namespace Br
open PySem PySem.Spec PyProof.Rows L2
section
variable {X : Cx}
/-! ### max of a tuple of ints -/
theorem maxOf_ge : ∀ (xs : List Int) (x : Int), (PySem.W.maxOf x xs ∈ x :: xs) ∧ ∀ y ∈ x :: xs, y ≤ PySem.W.maxOf x xs
  | [], x => by simp [PySem.W.maxOf]
  | z :: xs, x => by
    have e : PySem.W.maxOf x (z :: xs) = PySem.W.maxOf (if x < z then z else x) xs := by
      show List.foldl _ _ (z :: xs) = _
      rw [List.foldl_cons]
      show List.foldl _ (if decide (x < z) = true then z else x) xs = List.foldl _ (if x < z then z else x) xs
      simp only [decide_eq_true_eq]
    rw [e]
    obtain ⟨h1, h2⟩ := maxOf_ge xs (if x < z then z else x)
    have hw : x ≤ (if x < z then z else x) ∧ z ≤ (if x < z then z else x) ∧ ((if x < z then z else x) = z ∨ (if x < z then z else x) = x) := by
      by_cases c : x < z
      · rw [if_pos c]; omega
      · rw [if_neg c]; omega
    generalize (if x < z then z else x) = v at *
    have h3 := h2 _ List.mem_cons_self
    refine ⟨?_, fun y hy => ?_⟩
    · rcases List.mem_cons.mp h1 with h | h
      · rw [h]; rcases hw.2.2 with r | r <;> simp [r]
      · exact List.mem_cons_of_mem _ (List.mem_cons_of_mem _ h)
    · rcases List.mem_cons.mp hy with h | h
      · subst h; omega
      · rcases List.mem_cons.mp h with h | h
        · subst h; omega
        · exact h2 y (List.mem_cons_of_mem _ h)
theorem holds_of_ints {h : Heap} : ∀ {vs : List Value} {ns : List Int}, IntsAre vs ns → PySem.W.HoldAll h vs ns
  | _, _, .nil => PySem.W.HoldAll.nil
  | _, _, .cons n t hr => PySem.W.HoldAll.cons ⟨_, Reads.int n t⟩ (holds_of_ints hr)
def rMaxT (K : PySem.W.Frag) : List V → Hp → VK → Prop := fun vs H Q => ∃ (a : Addr) (ns : List Int), vs = [V.ref a] ∧ SqT K H a (ns.map V.int) ∧ 0 < ns.length ∧ ∀ m, m ∈ ns → (∀ y, y ∈ ns → y ≤ m) → Q (.int m) H
theorem cr_maxT (hc : X.calm = true) (hu : X.A.units + 64 < cLine) : CallR X (.builtin "max") (rMaxT X.K) := by
  intro pins s σ H vs us Q I r h
  obtain ⟨a, ns, rfl, hs, hne, q⟩ := h
  obtain ⟨its, rv, hl, _⟩ := I.tuple hs
  rw [Vals.ref1 r]
  have hi := rv.ints
  cases ns with
  | nil => simp at hne
  | cons x xs =>
    refine PySem.W.max_tuple_datum (α := Int) (x := x) (xs := xs) (I.ok.hd hc) hl (by simpa using holds_of_ints hi) (by show _ + 1 + 0 < _; omega) fun i v h' tk hv hh hk => ?_
    obtain ⟨as, rd⟩ := hh
    obtain ⟨m1, m2⟩ := maxOf_ge xs x
    generalize PySem.W.maxOf x xs = m at *
    have : ∃ t, v = Value.int m t := by cases rd; exact ⟨_, rfl⟩
    obtain ⟨t, rfl⟩ := this
    exact ⟨.int m, H, I.kept hk, ⟨t, rfl⟩, q m m1 m2⟩
/-! ### a match over texts -/
structure PCs (X : Cx) (cs : List MatchCase) (t : Str → TS) : Prop where
  run : ∀ (pins : List (Addr × Obj)) (s : Shared) (σ : L2.St) (H : Hp) (D : Ends) (z : Str) (tk : Tok) (first : Bool), Inv X pins σ H s → t z D σ H → wpAny (model X.prog X.w) X.A (matchCases cs X.env (.str z tk) first) (SP X pins D) X.xe s
def tMatch (te : TE) (tc : Str → TS) : TS := fun D σ H => te σ H fun x H1 => ∃ z, x = .str z ∧ tc z D σ H1
theorem ps_match {e : Expr} {te : TE} {cs : List MatchCase} {tc : Str → TS} {pos : Pos} (he : PE X e te) (hc : PCs X cs tc) : PS X (.Match e cs pos) (tMatch te tc) := by
  refine ⟨fun pins s σ H D I h => ?_⟩
  show wpAny _ _ (do standAt pos; let v ← eval e X.env; matchCases cs X.env v true) _ _ _
  refine wpAny_bind (wpAny_standAt (wpAny_bind (thn (he.run pins s σ H _ I h) fun v s1 ⟨x, H1, I1, r1, z, hz, q⟩ => ?_)))
  subst hz
  obtain ⟨tk, rfl⟩ := r1
  exact hc.run pins s1 σ H1 D z tk true I1 q
theorem pcs_nil : PCs X [] (fun _ D σ H => D.nx σ H) := ⟨fun pins s σ H D z tk first I h => wpAny_pure ⟨σ, H, I, h⟩⟩
theorem pcs_str {c : Str} {j cpos pos} {body : List Stmt} {rest : List MatchCase} {tb : TS} {tr : Str → TS} (hb : PSs X body tb) (hr : PCs X rest tr) :
    PCs X (⟨.MatchValue (.Constant (.str c) j cpos) pos, none, body⟩ :: rest) (fun z D σ H => if z = c then tb D σ H else tr z D σ H) := by
  refine ⟨fun pins s σ H D z tk first I h => ?_⟩
  unfold matchCases
  refine wpAny_bind (wpAny_holding ?_)
  unfold matchPattern
  refine wpAny_bind (Calls.Constant_str (wpAny_bind (wpAny_standAt (wpAny_bind (eq_str (wpAny_bind (wpAny_truthy_bool ?_)))))))
  have I1 := I.tok (s.toks + 1)
  by_cases e : z = c
  · rw [if_pos e] at h
    subst e
    rw [beq_self_eq_true]
    refine wpAny_pure ?_
    dsimp only
    refine wpAny_bind (wpAny_holding ?_)
    refine wpAny_pure (wpAny_bind (wpAny_pure ?_))
    exact hb.run pins _ σ H D I1 h
  · rw [if_neg e] at h
    rw [show (z == c) = false from beq_eq_false_iff_ne.mpr e]
    refine wpAny_pure ?_
    exact hr.run pins _ σ H D z tk false I1 h
theorem pcs_any {pos} {body : List Stmt} {tb : TS} (hb : PSs X body tb) : PCs X [⟨.MatchAs none none pos, none, body⟩] (fun _ D σ H => tb D σ H) := by
  refine ⟨fun pins s σ H D z tk first I h => ?_⟩
  unfold matchCases
  refine wpAny_bind (wpAny_holding ?_)
  unfold matchPattern
  refine wpAny_pure ?_
  dsimp only
  refine wpAny_bind (wpAny_holding ?_)
  refine wpAny_pure (wpAny_bind (wpAny_pure ?_))
  exact hb.run pins _ σ H D I h
/-! ### tuple * int, str * int -/
theorem tup_mul1 (l : Addr) (items : Array Value) (n : Nat) (dd : Option Addr) (sl : Array (Option Value)) (u : Tok) :
    Meets (Builtin.«tuple.__mul__» ⟨[.ref l, .int 1 u], []⟩) (fun _ R s => s.heap.get? l = some { cls := .type "tuple", dict := dd, data := .seq items n, slots := sl } ∧ R (.ok (.ret (Value.ref l))) s) :=
  .of_wp fun prog w A R s h => by
    obtain ⟨hp, g, d, tk, os⟩ := s
    obtain ⟨hl, h⟩ := h
    have f1 := AutoSeq1.idx_int
    have c1 : (items.isEmpty || (1 : Int) == 1) = true := by simp
    wp_walk using wpAny_loadPart' hl
    exact ⟨_, rfl, h⟩
def rRepA (K : PySem.W.Frag) : R2 := fun x y H Q => ∃ l k xs, x = .ref l ∧ y = .int k ∧ SqT K H l xs ∧ xs ≠ [] ∧ 1 ≤ k ∧ k ≤ 1000 ∧ xs.length ≤ 1000 ∧ (k = 1 → Q (.ref l) H) ∧ (2 ≤ k → ∀ p, H p = none → Q (.ref p) (upd H p (.tup (List.replicate k.toNat xs).flatten)))
theorem op_repA : OpR X (binaryOp .Mult) (rRepA X.K) := by
  intro pins s σ H x y v u Q I rx ry h
  obtain ⟨l, k, xs, rfl, rfl, hT, hne, h1, h2, hz, q1, q2⟩ := h
  by_cases hk : k = 1
  · subst hk
    cases rx
    obtain ⟨t, rfl⟩ := ry
    obtain ⟨its, r, ⟨⟨cls, dd, data, sl⟩, ho, hc, n, hd⟩, hs⟩ := I.tuple hT
    simp only at hc hd
    subst hc hd
    exact wpAny_binaryOp_repeat_ref (T := "tuple") (U := "int") (by decide) ⟨_, ho, rfl⟩ (fun s' => typeIs_int s' 1 t) noFill_tuple_mul F.fills_int_mul F.slot_int_rmul repeat_tuple F.slot_int_index.lookup
      (call_meets F.slot_int_rmul (typeIs_int s 1 t) F.entry_int_rmul (F.args_int_rmul_2 _ _) (int_rmul_tuple 1 t l its.toArray n dd sl)
        ⟨ho, rfl, ⟨_, ho, rfl⟩, call_meets F.slot_tuple_mul ⟨_, ho, rfl⟩ F.entry_tuple_mul (F.args_tuple_mul_2 _ _) (tup_mul1 l its.toArray n dd sl t) ⟨ho, ⟨.ref l, H, I, rfl, q1 rfl⟩⟩⟩)
  · exact op_repT pins s σ H (.ref l) (.int k) v u Q I rx ry ⟨l, k, xs, rfl, rfl, hT, hne, by omega, h2, hz, q2 (by omega)⟩
def repS (z : Str) (k : Nat) : Str := ⟨(List.replicate k z.cps).foldl (· ++ ·) #[]⟩
theorem foldl_rep (b : Array Nat) : ∀ (k : Nat) (a : Array Nat), (List.foldl (· ++ ·) a (List.replicate k b)).toList = a.toList ++ (List.replicate k b.toList).flatten
  | 0, a => by simp
  | k + 1, a => by
    rw [List.replicate_succ, List.foldl_cons, foldl_rep b k, List.replicate_succ, List.flatten_cons, Array.toList_append, List.append_assoc]
theorem repS_list (z : Str) (k : Nat) : (repS z k).cps.toList = (List.replicate k z.cps.toList).flatten := by
  have := foldl_rep z.cps k #[]
  simpa [repS] using this
theorem repS_length (z : Str) (k : Nat) : (repS z k).length = k * z.length := by
  have h := congrArg List.length (repS_list z k)
  rw [List.length_flatten, List.map_replicate, List.sum_replicate_nat] at h
  simpa [Str.length] using h
def rRepS : R2 := fun x y H Q => ∃ z k, x = .str z ∧ y = .int k ∧ 1 ≤ k ∧ k ≤ 1000 ∧ 0 < z.length ∧ z.length ≤ 1000 ∧ Q (.str (repS z k.toNat)) H
theorem op_repS : OpR X (binaryOp .Mult) rRepS := by
  intro pins s σ H x y v u Q I rx ry h
  obtain ⟨z, k, rfl, rfl, h1, h2, hz0, hz, q⟩ := h
  obtain ⟨t, rfl⟩ := rx
  obtain ⟨t', rfl⟩ := ry
  refine PySem.P.mul_str (by rw [decide_eq_false (by omega), decide_eq_false (by omega)]; rfl) (fun _ _ => ?_) (fun _ _ => ?_) ?_
  · have : (1000 : Int) ≤ (2 ^ 63 - 1) / k := by
      exact (Int.le_ediv_iff_mul_le (by omega)).mpr (by omega)
    omega
  · have h3 : z.length * k.toNat ≤ 1000 * 1000 := Nat.mul_le_mul hz (by omega)
    unfold PySem.Builtin.Str.tooLong
    exact decide_eq_false (by have := sizeLine_eq; omega)
  · rw [if_neg (by omega)]
    by_cases c : (k == 1 || z.length == 0) = true
    · rw [if_pos c]
      have hk : k = 1 := by
        rcases Bool.or_eq_true _ _ ▸ c with c | c
        · exact eq_of_beq c
        · have := eq_of_beq c; omega
      subst hk
      refine ⟨.str z, H, I, ⟨t, rfl⟩, ?_⟩
      have e : repS z (1 : Int).toNat = z := by
        show (⟨#[] ++ z.cps⟩ : Str) = z
        rw [Array.empty_append]
      rw [e] at q
      exact q
    · rw [if_neg c]
      refine ⟨?_, .str (repS z k.toNat), H, I.tok _, ⟨_, rfl⟩, q⟩
      have h3 : k.toNat * z.length ≤ 1000 * 1000 := Nat.mul_le_mul (by omega) hz
      have h4 := repS_length z k.toNat
      have := sizeLine_eq
      show (repS z k.toNat).length ≤ sizeLine
      omega
/-! ### the layer's rules with the written part named -/
abbrev rLenS (K : PySem.W.Frag) : List V → Hp → VK → Prop := fun xs H Q => ∃ p ys, xs = [.ref p] ∧ (SqL K H p ys ∨ SqT K H p ys) ∧ Q (.int ys.length) H
abbrev rListOf (K : PySem.W.Frag) : List V → Hp → VK → Prop := fun xs H Q => ∃ p ys, xs = [.ref p] ∧ (SqL K H p ys ∨ SqT K H p ys) ∧ ∀ l, H l = none → Q (.ref l) (upd H l (.lst ys))
abbrev rTupOf (K : PySem.W.Frag) : List V → Hp → VK → Prop := fun xs H Q => ∃ p ys, xs = [.ref p] ∧ ((SqL K H p ys ∧ ∀ l, H l = none → Q (.ref l) (upd H l (.tup ys))) ∨ (SqT K H p ys ∧ Q (.ref p) H))
abbrev rJoin (K : PySem.W.Frag) : V → List V → Hp → VK → Prop := fun x xs H Q => ∃ a p, ∃ ys : List Str, x = .str a ∧ xs = [.ref p] ∧ (SqL K H p (ys.map V.str) ∨ SqT K H p (ys.map V.str)) ∧ (ys.map (·.length)).sum + ys.length * a.length ≤ 16777216 ∧ Q (.str (Txt.join a ys)) H
variable {K : PySem.W.Frag}
theorem pe_fldK (hK : X.K = K) {e : Expr} {ta : TE} {f : Str} {pos : Pos} (he : PE X e ta) (hb : attributeBase e f X.env (eval e X.env) = eval e X.env) : PE X (.Attribute e f pos) (tFld K ta f) := by
  subst hK; exact pe_fld he hb
theorem pe_bmK (hK : X.K = K) {T id : String} {name : Str} {r : V → List V → Hp → VK → Prop} {o e : Expr} {es : List Expr} {to : TE} {t : TA} {apos cpos : Pos} (pa : PlainAttrs T) (slot : Slot T name id) (hty : typeOf (.builtin id) = pure (.type "method_descriptor")) (hm : MtR X id r) (ho : PE X o to) (ha : PA X (e :: es) t)
    (hbase : attributeBase o name X.env (eval o X.env) = eval o X.env := by rfl)
    (hfew : ((backTo cpos (starEach (e :: es) X.env)).all (fun x => !x.1) && (backToKw cpos (keywordEach [] X.env)).all (fun x => x.1.isSome) && decide ((e :: es).length + ([] : List Keyword).length + (if ([] : List Keyword).isEmpty then 0 else 1) < 30)) = true := by rfl)
    (hline : (apos.endLine == cpos.line) = true := by rfl) (hs : starEach (e :: es) X.env = (false, eval e X.env) :: starEach es X.env := by rfl) (hplain : (backTo cpos (starEach es X.env)).any (·.1) = false := by rfl) :
    PE X (.Call (.Attribute o name apos) (e :: es) [] cpos) (tBM K T r to t) := by
  subst hK; exact pe_bm pa slot hty hm ho ha hbase hfew hline hs hplain
theorem pe_joinK (hK : X.K = K) {o e : Expr} {to te : TE} {apos pos : Pos} (ho : PE X o to) (he : PE X e te) (hs : starEach [e] X.env = [(false, eval e X.env)] := by rfl) (hbase : attributeBase o "join" X.env (eval o X.env) = eval o X.env := by rfl) (hline : (apos.endLine == pos.line) = true := by rfl) :
    PE X (.Call (.Attribute o "join" apos) [e] [] pos) (tM1 (rJoin K) to te) := by
  subst hK; exact pe_join ho he hs hbase hline
theorem pi_listK (hK : X.K = K) {tg l : Expr} {tl : TE} (hl : PE X l tl) : PI X tg l (iList K tl) := by subst hK; exact pi_list hl
theorem pi_tupK (hK : X.K = K) {tg l : Expr} {tl : TE} (hl : PE X l tl) : PI X tg l (iTup K tl) := by subst hK; exact pi_tup hl
theorem pg_tupK (hK : X.K = K) {es : List Expr} {k : Nat} {t : TGs} {n : Nat} {pos : Pos} (hc : X.calm = true) (h : PGs X es t)
    (hn : (assignEach es X.env).length = n := by rfl) (hst : (assignEach es X.env).findIdx? (·.1) = none := by rfl) : PG X (.Tuple es k pos) (gTup K n t) := by
  subst hK; exact pg_tup hc h hn hst
end
end Br

namespace Br
open PySem PySem.Spec PyProof.Rows L2
def topS (i : Nat) : Stmt := PySem.Challenge.pw_breadrota_k01_syntax_faults.main.body.getD i (.Pass ⟨0, 0, 0, 0⟩)
/-- the source of numbers: the seed, the digits left of the present cell, the cells to come -/
def dl (a b : Int) (r : List Int) : HO := .lst (V.int a :: V.int b :: r.map V.int)
structure DOk (a b : Int) (r : List Int) : Prop where
  a0 : 0 ≤ a
  b0 : 0 ≤ b
  r0 : ∀ x ∈ r, 0 ≤ x
section
variable {P : Program} {w : World} {K : PySem.W.Frag} {mg : Str → Option Value} {base : Heap}
def spBelow : Sp := fun vs H Q _ => ∃ (d : Addr) (n a b : Int) (r : List Int), vs = [.ref d, .int n] ∧ 0 < n ∧ n < 1073741824 ∧ H d = some (dl a b r) ∧ DOk a b r ∧
  ∀ (k a' b' : Int) (r' : List Int) (H' : Hp), Wd [d] H H' [(d, dl a' b' r')] → DOk a' b' r' → 0 ≤ k → k < n → Q (.int k) H'
abbrev s_law_below : Stmt := topS 47
theorem sc_law_below : FnScope ["_law_d", "_law_limit", "_law_result"] ["_law_d", "_law_limit"] (defScope s_law_below) := ⟨rfl, rfl, rfl, by decide +kernel, rfl, by decide +kernel, by decide +kernel⟩
theorem put0 {H0 H : Hp} {d : Addr} {a b : Int} {r : List Int} (w : Wd [d] H0 H [(d, dl a b r)]) (a' b' : Int) (r' : List Int) : Wd [d] H0 (upd H d (dl a' b' r')) [(d, dl a' b' r')] :=
  w.put 0 (dl a' b' r') rfl (fun xs q => by cases q)
theorem cal_below (D : DefAt K mg "_law_below" s_law_below ["_law_d", "_law_limit"]) (T : Bi mg) : Cal P w K mg base 1 "_law_below" ["_law_d", "_law_limit"] spBelow := D.cal fun f fd F => by
  have nd := sc_law_below.nd
  refine F.ok sc_law_below (fun vs H Q E h => ?_) (fun cdv A outer s H vs Q E hr h => ?_)
  · obtain ⟨d, n, a, b, r, rfl, _⟩ := h; rfl
  obtain ⟨d, n, a, b, r, rfl, n0, n1, hd, ok, k⟩ := h
  refine ⟨_, (C8.pss_cut (ps_if (PW.pt (pw_and (pt_cmpR op_eq (pe_ix (r := rIxL K) ix_list (pv 0) pe_int (fun _ _ => rfl)) pe_int (nomark _)) (pw_and1 (pt_cmpR op_gt (pe_callB (r := rLenS K) call_len_seq (by rfl) T.len PySem.boot_len (pa_cons (pv 0) pa_nil)) pe_int (nomark _)))))
 (pss_one (ps_asg (pe_bmK (K := K) rfl PySem.F.plainAttrs_list PySem.F.slot_list_pop PySem.F.type_list_pop mt_popAt (pv 0) (pa_cons pe_int pa_nil)) (pg_sub (pv 0) pe_int set_list)))
 pss_nil)
 (pss_cons (ps_if (pt_cmpR op_gt (pe_ix (r := rIxL K) ix_list (pv 0) pe_int (fun _ _ => rfl)) pe_int (nomark _))
 (pss_cons (ps_set (i := 2) nd rfl (Or.inl rfl) (pe_op op_modN (pe_ix (r := rIxL K) ix_list (pv 0) pe_int (fun _ _ => rfl)) (pv 1)))
 (pss_cons (ps_asg (pe_op op_fdivN (pe_ix (r := rIxL K) ix_list (pv 0) pe_int (fun _ _ => rfl)) (pv 1)) (pg_sub (pv 0) pe_int set_list))
 (pss_one (ps_ret (pv 2)))))
 pss_nil)
 (pss_cons (ps_asg (pe_op op_mod (pe_op op_add (pe_op op_mul (pe_ix (r := rIxL K) ix_list (pv 0) pe_int (fun _ _ => rfl)) pe_int) pe_int) pe_int) (pg_sub (pv 0) pe_int set_list))
 (pss_one (ps_ret (pe_op op_modN (pe_op op_fdiv (pe_ix (r := rIxL K) ix_list (pv 0) pe_int (fun _ _ => rfl)) pe_int) (pv 1))))))), ?_⟩
  refine ⟨fun σ H1 => σ = [some (.ref d), some (.int n), none] ∧ ∃ a b r, Wd [d] H H1 [(d, dl a b r)] ∧ DOk a b r, ?_, ?_⟩
  · -- if _law_d[1] == 0 and len(_law_d) > 2: _law_d[1] = _law_d.pop(2)
    refine ⟨_, rfl, _, _, _, _, rfl, rfl, SqL.of hd, atI_nat (j := 1) rfl, rfl, _, rfl, ?_⟩
    refine ite2 (fun _ => ?_) (fun _ => ⟨rfl, a, b, r, Wd.start1 hd, ok⟩)
    refine ⟨_, rfl, d, _, rfl, .inl (SqL.of hd), _, _, rfl, rfl, _, rfl, ?_⟩
    refine ite2 (fun h2 => ?_) (fun _ => ⟨rfl, a, b, r, Wd.start1 hd, ok⟩)
    cases r with
    | nil => simp at h2
    | cons x r =>
      refine ⟨_, rfl, .inl ⟨rfl, _, SqL.of hd⟩, d, _, 2, 2, V.int x, rfl, rfl, hd, by decide, by decide, ?_, rfl, ?_⟩
      · simp [seqIndex?]; omega
      refine ⟨_, rfl, d, _, 1, 1, rfl, rfl, upd_same, ?_, ?_⟩
      · simp [ixN, seqIndex?]; omega
      rw [upd_upd]
      exact ⟨rfl, a, x, r, put0 (Wd.start1 hd) a x r, ⟨ok.a0, ok.r0 x List.mem_cons_self, fun y hy => ok.r0 y (List.mem_cons_of_mem _ hy)⟩⟩
  · rintro σ H1 ⟨rfl, a, b, r, w1, ok⟩
    have hd := w1.get 0 rfl
    -- if _law_d[1] > 0: ..
    refine ⟨_, rfl, _, _, _, _, rfl, rfl, SqL.of hd, atI_nat (j := 1) rfl, _, _, rfl, rfl, _, rfl, ?_⟩
    refine ite2 (fun hb => ?_) (fun hb => ?_)
    · have hb' : 0 < b := of_decide_eq_true hb
      refine ⟨_, rfl, _, _, _, _, rfl, rfl, SqL.of hd, atI_nat (j := 1) rfl, _, rfl, _, _, rfl, rfl, (by omega), ?_⟩
      refine ⟨_, rfl, _, _, _, _, rfl, rfl, SqL.of hd, atI_nat (j := 1) rfl, _, rfl, _, _, rfl, rfl, ⟨by omega, by omega⟩, ?_⟩
      refine ⟨_, rfl, d, _, 1, 1, rfl, rfl, hd, ?_, ?_⟩
      · simp [ixN, seqIndex?]; omega
      refine ⟨_, rfl, ?_⟩
      refine k _ _ _ _ _ (put0 w1 a (b.fdiv n) r) ⟨ok.a0, Int.fdiv_nonneg ok.b0 (by omega), ok.r0⟩ (Int.fmod_nonneg_of_pos _ n0) (Int.fmod_lt_of_pos _ n0)
    · refine ⟨_, rfl, _, _, _, _, rfl, rfl, SqL.of hd, atI_nat (j := 0) rfl, _, _, rfl, rfl, .inr ⟨by decide, by decide⟩, _, _, rfl, rfl, _, _, rfl, rfl, (by show (0 : Int) < 2147483647; decide), ?_⟩
      refine ⟨_, rfl, d, _, 0, 0, rfl, rfl, hd, ?_, ?_⟩
      · simp [ixN, seqIndex?]; omega
      have w2 := put0 w1 ((a * 48271 + 11) % 2147483647) b r
      have h0 : (0 : Int) ≤ (a * 48271 + 11) % 2147483647 := Int.emod_nonneg _ (by decide)
      refine ⟨_, rfl, _, _, _, _, rfl, rfl, SqL.of (w2.get 0 rfl), atI_nat (j := 0) rfl, _, _, rfl, rfl, ⟨by decide, by decide⟩, _, rfl, _, _, rfl, rfl, (by omega), ?_⟩
      exact k _ _ _ _ _ w2 ⟨h0, ok.b0, ok.r0⟩ (Int.fmod_nonneg_of_pos _ n0) (Int.fmod_lt_of_pos _ n0)
end
end Br

/-! Comprehensions whose element changes nothing: the list is (xs.filter p).map f. -/
namespace Br
open PySem PySem.Spec PyProof.Rows L2
section
variable {K : PySem.W.Frag} {a : Addr} {xs : List V} {g : TG} {tt : TT} {te : TE} {vs : List Nat} {σ : L2.St} {H1 H0 : Hp} {D : Addr} {Qd : Hp → Prop} {M : List Addr} {l : List (Addr × HO)}
theorem take_more {α : Type} {l : List α} {i : Nat} {x : α} (h : l[i]? = some x) : l.take (i + 1) = l.take i ++ [x] := by
  rw [List.take_add_one, h]; rfl
/-- what one turn gives -/
def LcEl (g : TG) (tt : TT) (te : TE) (vs : List Nat) (σ : L2.St) (p : V → Bool) (f : V → V) (x : V) (H : Hp) : Prop :=
  ∀ (R : V → Hp → Prop) (S : Hp → Prop), (p x = true → R (f x) H) → (p x = false → S H) → g x (wipe σ vs) H fun σ2 H2 => wipe σ2 vs = wipe σ vs ∧ tt σ2 H2 fun b H3 => if b = true then te σ2 H3 R else S H3
theorem lc_turn {p : V → Bool} {f : V → V} (w : ∀ H', (∃ c, Wd M H0 H' ((D, .lst c) :: l)) → ∀ (i : Nat) (x : V), xs[i]? = some x → LcEl g tt te vs σ p f x H') (hz : xs.length ≤ 1000) :
    ∀ (i : Nat) (x : V) (H : Hp), xs[i]? = some x → Wd M H0 H ((D, .lst (((xs.take i).filter p).map f)) :: l) → g x (wipe σ vs) H fun σ2 H2 => wipe σ2 vs = wipe σ vs ∧ tt σ2 H2 fun b H3 =>
      if b = true then te σ2 H3 fun y H4 => ∃ acc, H4 D = some (.lst acc) ∧ acc.length < sizeLine ∧ Wd M H0 (upd H4 D (.lst (acc ++ [y]))) ((D, .lst (((xs.take (i + 1)).filter p).map f)) :: l)
      else Wd M H0 H3 ((D, .lst (((xs.take (i + 1)).filter p).map f)) :: l) := fun i x H hx wd => by
  refine w H ⟨_, wd⟩ i x hx _ _ (fun hp => ?_) (fun hp => ?_)
  · refine ⟨_, wd.get 0 rfl, ?_, ?_⟩
    · rw [List.length_map]
      have h1 := List.length_filter_le p (xs.take i)
      rw [List.length_take] at h1
      exact Nat.lt_of_le_of_lt (m := 1000) (by omega) (by decide)
    · have := wd.put 0 (.lst (((xs.take i).filter p).map f ++ [f x])) rfl (fun xs q => by cases q)
      rw [take_more hx, List.filter_append, List.map_append]
      simp only [List.filter_cons, hp, if_true, List.filter_nil, List.map_cons, List.map_nil]
      exact this
  · rw [take_more hx, List.filter_append]
    simp only [List.filter_cons, hp, Bool.false_eq_true, if_false, List.filter_nil, List.append_nil]
    exact wd
theorem lc_tupF (p : V → Bool) (f : V → V) (w : Wd M H0 H1 l) (hD : H1 D = none) (hs : ∀ H' c, Wd M H0 H' ((D, c) :: l) → SqT K H' a xs) (hz : xs.length ≤ 1000)
    (he : ∀ H', (∃ c, Wd M H0 H' ((D, .lst c) :: l)) → ∀ (i : Nat) (x : V), xs[i]? = some x → LcEl g tt te vs σ p f x H')
    (hd : ∀ H', Wd M H0 H' ((D, .lst ((xs.filter p).map f)) :: l) → Qd H') :
    ∃ W : Nat → Nat → Hp → Prop, (∃ m, W 0 m (upd H1 D (.lst []))) ∧ ∀ i m H, W i m H → ((Itt K a).stop i H ∧ Qd H) ∨ ((Itt K a).go i H ∧ ∃ Nx : Hp → Prop, (∀ H', Nx H' → ∃ m', m' < m ∧ W (i + 1) m' H') ∧ ∀ x H', (Itt K a).yld i H x H' → g x (wipe σ vs) H' fun σ2 H2 => wipe σ2 vs = wipe σ vs ∧ tt σ2 H2 fun b H3 =>
        if b = true then te σ2 H3 fun y H4 => ∃ acc, H4 D = some (.lst acc) ∧ acc.length < sizeLine ∧ Nx (upd H4 D (.lst (acc ++ [y]))) else Nx H3) :=
  lc_tup (K := K) (a := a) (xs := xs) (fun i H => Wd M H0 H ((D, .lst (((xs.take i).filter p).map f)) :: l)) (w.new (.lst []) hD) (fun i H _ wd => hs H _ wd) (lc_turn he hz) (fun H wd => hd H (by rw [List.take_length] at wd; exact wd))
theorem lc_lstF (p : V → Bool) (f : V → V) (w : Wd M H0 H1 l) (hD : H1 D = none) (hs : ∀ H' c, Wd M H0 H' ((D, c) :: l) → SqL K H' a xs) (hz : xs.length ≤ 1000)
    (he : ∀ H', (∃ c, Wd M H0 H' ((D, .lst c) :: l)) → ∀ (i : Nat) (x : V), xs[i]? = some x → LcEl g tt te vs σ p f x H')
    (hd : ∀ H', Wd M H0 H' ((D, .lst ((xs.filter p).map f)) :: l) → Qd H') :
    ∃ W : Nat → Nat → Hp → Prop, (∃ m, W 0 m (upd H1 D (.lst []))) ∧ ∀ i m H, W i m H → ((Itl K a).stop i H ∧ Qd H) ∨ ((Itl K a).go i H ∧ ∃ Nx : Hp → Prop, (∀ H', Nx H' → ∃ m', m' < m ∧ W (i + 1) m' H') ∧ ∀ x H', (Itl K a).yld i H x H' → g x (wipe σ vs) H' fun σ2 H2 => wipe σ2 vs = wipe σ vs ∧ tt σ2 H2 fun b H3 =>
        if b = true then te σ2 H3 fun y H4 => ∃ acc, H4 D = some (.lst acc) ∧ acc.length < sizeLine ∧ Nx (upd H4 D (.lst (acc ++ [y]))) else Nx H3) :=
  lc_list (K := K) (a := a) (xs := xs) (fun i H => Wd M H0 H ((D, .lst (((xs.take i).filter p).map f)) :: l)) (w.new (.lst []) hD) (fun i H _ wd => hs H _ wd) (lc_turn he hz) (fun H wd => hd H (by rw [List.take_length] at wd; exact wd))
theorem filter_yes {α : Type} (l : List α) : l.filter (fun _ => true) = l := List.filter_eq_self.mpr fun _ _ => rfl
end
end Br

namespace Br
open PySem PySem.Spec PyProof.Rows L2
/-! ### the lexer -/
/-- a class's __init__ and its contract; a method's -/
structure MkAt (P : Program) (w : World) (K : PySem.W.Frag) (mg : Str → Option Value) (base : Heap) (k : Nat) (x : Str) (C : Addr) (ps : List Str) (sp : Sp) : Prop where
  ex : ∃ (f : Addr) (fd : FuncData), mg x = some (.ref C) ∧ Mk K C f ∧ Binds K fd ps [] ∧ FnOk P w K mg base CX0 k f fd ps sp
structure MeAt (P : Program) (w : World) (K : PySem.W.Frag) (mg : Str → Option Value) (base : Heap) (k : Nat) (C : Addr) (m : Str) (ps : List Str) (sp : Sp) : Prop where
  ex : ∃ (f : Addr) (fd : FuncData), Meth K C m f ∧ Binds K fd ps [] ∧ FnOk P w K mg base CX0 k f fd ps sp
structure InitAt (K : PySem.W.Frag) (mg : Str → Option Value) (x q : Str) (C : Addr) (st : Stmt) (ps : List Str) : Prop where
  ex : ∃ (f : Addr) (fd : FuncData), mg x = some (.ref C) ∧ Mk K C f ∧ Fun K "__init__" q st f fd ∧ Binds K fd ps []
structure MethAt (K : PySem.W.Frag) (C : Addr) (m q : Str) (st : Stmt) (ps : List Str) : Prop where
  ex : ∃ (f : Addr) (fd : FuncData), Meth K C m f ∧ Fun K m q st f fd ∧ Binds K fd ps []
theorem InitAt.mk' {P : Program} {w : World} {K : PySem.W.Frag} {mg : Str → Option Value} {base : Heap} {k : Nat} {x q : Str} {C : Addr} {st : Stmt} {ps : List Str} {sp : Sp} (D : InitAt K mg x q C st ps)
    (h : ∀ f fd, Fun K "__init__" q st f fd → FnOk P w K mg base CX0 k f fd ps sp) : MkAt P w K mg base k x C ps sp := by
  obtain ⟨f, fd, m, M, F, b⟩ := D.ex
  exact ⟨f, fd, m, M, b, h f fd F⟩
theorem MethAt.me {P : Program} {w : World} {K : PySem.W.Frag} {mg : Str → Option Value} {base : Heap} {k : Nat} {m q : Str} {C : Addr} {st : Stmt} {ps : List Str} {sp : Sp} (D : MethAt K C m q st ps)
    (h : ∀ f fd, Fun K m q st f fd → FnOk P w K mg base CX0 k f fd ps sp) : MeAt P w K mg base k C m ps sp := by
  obtain ⟨f, fd, M, F, b⟩ := D.ex
  exact ⟨f, fd, M, b, h f fd F⟩
/-- a new instance -/
theorem Wd.make {M : List Addr} {H0 H : Hp} {l : List (Addr × HO)} (w : Wd M H0 H l) {x dx : Addr} (C : Addr) (hx : H x = none) (hd : H dx = none) (ne : dx ≠ x) :
    Wd M H0 (upd (upd H dx (.own x)) x (.ins C dx [])) ((x, .ins C dx []) :: (dx, .own x) :: l) :=
  (w.new (.own x) hd).new (.ins C dx []) (by rw [upd_ne ne.symm]; exact hx)
def slotI (σ : L2.St) (i : Nat) : Int := match σ[i]? with
  | some (some (V.int e)) => e
  | _ => 0
structure TokCls (K : PySem.W.Frag) (CT : Addr) : Prop where
  cl : Cls K CT
  nk : NoAttr K CT "kind"
  nt : NoAttr K CT "text"
  nl : NoAttr K CT "line"
  nc : NoAttr K CT "column"
def tkF (k t : Str) (l c : Int) : List (Str × V) := [("kind", .str k), ("text", .str t), ("line", .int l), ("column", .int c)]
theorem putF_ne {f g : Str} {v x : V} {r : List (Str × V)} (h : ¬ g = f) : putF f v ((g, x) :: r) = (g, x) :: putF f v r := if_neg h
theorem tkF_new (k t : Str) (l c : Int) : putF "column" (.int c) (putF "line" (.int l) (putF "text" (.str t) (putF "kind" (.str k) []))) = tkF k t l c := by
  have e1 : putF "text" (.str t) (putF "kind" (.str k) []) = [(("kind" : Str), V.str k), ("text", V.str t)] := putF_ne (by decide +kernel)
  have e2 : putF "line" (.int l) [(("kind" : Str), V.str k), ("text", V.str t)] = [(("kind" : Str), V.str k), ("text", V.str t), ("line", V.int l)] := by
    rw [putF_ne (by decide +kernel), putF_ne (by decide +kernel)]; rfl
  rw [e1, e2, putF_ne (by decide +kernel), putF_ne (by decide +kernel), putF_ne (by decide +kernel)]
  rfl
theorem look_ne {f g : Str} {x : V} {r : List (Str × V)} (h : (f == g) = false) : List.lookup f ((g, x) :: r) = List.lookup f r := by
  simp only [List.lookup, h]
theorem look_eq {f : Str} {x : V} {r : List (Str × V)} : List.lookup f ((f, x) :: r) = some x := by
  simp only [List.lookup, beq_self_eq_true]
theorem tk_kind (k t : Str) (l c : Int) : (tkF k t l c).lookup ("kind" : Str) = some (.str k) := look_eq
theorem tk_text (k t : Str) (l c : Int) : (tkF k t l c).lookup ("text" : Str) = some (.str t) := (look_ne (by decide +kernel)).trans look_eq
theorem tk_line (k t : Str) (l c : Int) : (tkF k t l c).lookup ("line" : Str) = some (.int l) := (look_ne (by decide +kernel)).trans ((look_ne (by decide +kernel)).trans look_eq)
theorem tk_column (k t : Str) (l c : Int) : (tkF k t l c).lookup ("column" : Str) = some (.int c) := (look_ne (by decide +kernel)).trans ((look_ne (by decide +kernel)).trans ((look_ne (by decide +kernel)).trans look_eq))
/-- what stands at the head of a row's rest, as the lexer reads it: the kind, the text -/
def dig (c : Nat) : Bool := decide (c ∈ TL.tl "0123456789")
def ltr (c : Nat) : Bool := decide (c ∈ TL.tl "abcdefghijklmnopqrstuvwxyz")
def kws : List Str := ["people", "turns", "weights", "away", "of", "makeup"]
def tokAt : List Nat → Option (Str × Str)
  | [] => none
  | c :: r => if c = 59 then some ("sign", ";")
    else if dig c = true then (let w := (c :: r).takeWhile dig; if w.length > 2 ∨ (w.length > 1 ∧ c = 48) then none else some ("number", ⟨w.toArray⟩))
    else (let w := (c :: r).takeWhile ltr; if (⟨w.toArray⟩ : Str) ∈ kws then some ("keyword", ⟨w.toArray⟩) else if 1 ≤ w.length ∧ w.length ≤ 8 then some ("name", ⟨w.toArray⟩) else none)
theorem at_iN {α : Type} {xs : List α} {z : Int} {j : Nat} {v : α} (e : z = (j : Int)) (h : xs[j]? = some v) : atI xs z = some v := by
  rw [e]; exact atI_nat h
theorem run_le (p : Nat → Bool) (l : List Nat) : (l.takeWhile p).length ≤ l.length := (List.takeWhile_sublist p).length_le
theorem take_run (p : Nat → Bool) : ∀ l : List Nat, l.take (l.takeWhile p).length = l.takeWhile p
  | [] => rfl
  | c :: r => by
    rw [List.takeWhile_cons]
    split
    · rw [List.length_cons, List.take_succ_cons, take_run p r]
    · rfl
theorem cut_run (z : Str) (i : Nat) (p : Nat → Bool) (h : i ≤ z.length) : cutS z (some (i : Int)) (some ((i : Int) + (((TL.tl z).drop i).takeWhile p).length)) = ⟨(((TL.tl z).drop i).takeWhile p).toArray⟩ := by
  have hl : ((TL.tl z).drop i).length = z.length - i := by rw [List.length_drop, ← TL.len_tl]
  have hw := run_le p ((TL.tl z).drop i)
  unfold cutS
  have e : (i : Int) + (((TL.tl z).drop i).takeWhile p).length = ((i + (((TL.tl z).drop i).takeWhile p).length : Nat) : Int) := by omega
  rw [e, HT.sIx_nat, HT.sIx_nat, Nat.min_eq_left h, Nat.min_eq_left (by omega), Nat.add_sub_cancel_left]
  show (⟨(List.take _ ((TL.tl z).drop i)).toArray⟩ : Str) = _
  rw [take_run]
section
variable {P : Program} {w : World} {K : PySem.W.Frag} {mg : Str → Option Value} {base : Heap} {CT : Addr}
def spTokI (CT : Addr) : Sp := fun vs H Q _ => ∃ (x dx : Addr) (k t : Str) (l c : Int), vs = [.ref x, .str k, .str t, .int l, .int c] ∧ H x = some (.ins CT dx []) ∧
  ∀ H' : Hp, Wd [x] H H' [(x, .ins CT dx (tkF k t l c))] → Q .non H'
abbrev sToken___init__ : Stmt := inClass (topS 29) 0
theorem scToken___init__ : FnScope ["self", "kind", "text", "line", "column"] ["self", "kind", "text", "line", "column"] (defScope sToken___init__) := ⟨rfl, rfl, rfl, by decide +kernel, rfl, by decide +kernel, by decide +kernel⟩
theorem mk_token (D : InitAt K mg "Token" "Token.__init__" CT sToken___init__ ["self", "kind", "text", "line", "column"]) (TC : TokCls K CT) : MkAt P w K mg base 1 "Token" CT ["self", "kind", "text", "line", "column"] (spTokI CT) := D.mk' fun f fd F => by
  have nd := scToken___init__.nd
  refine F.ok scToken___init__ (fun vs H Q E h => ?_) (fun cdv A outer s H vs Q E hr h => ?_)
  · obtain ⟨x, dx, k, t, l, c, rfl, _⟩ := h; rfl
  obtain ⟨x, dx, k, t, l, c, rfl, hx, q⟩ := h
  refine ⟨_, (pss_cons (ps_fld (pv 0) (pv 1) rfl)
 (pss_cons (ps_fld (pv 0) (pv 2) rfl)
 (pss_cons (ps_fld (pv 0) (pv 3) rfl)
 (pss_one (ps_fld (pv 0) (pv 4) rfl))))), ?_⟩
  have w0 := Wd.start1 hx
  refine ⟨_, rfl, _, rfl, x, CT, dx, [], rfl, hx, TC.cl, TC.nk, (by show 0 < 1000; decide), ?_⟩
  refine ⟨_, rfl, _, rfl, x, CT, dx, _, rfl, upd_same, TC.cl, TC.nt, (by show 1 < 1000; decide), ?_⟩
  have e1 : putF "text" (.str t) (putF "kind" (.str k) []) = [(("kind" : Str), V.str k), ("text", V.str t)] := putF_ne (by decide +kernel)
  refine ⟨_, rfl, _, rfl, x, CT, dx, _, rfl, upd_same, TC.cl, TC.nl, (by rw [e1]; show 2 < 1000; decide), ?_⟩
  have e2 : putF "line" (.int l) (putF "text" (.str t) (putF "kind" (.str k) [])) = [(("kind" : Str), V.str k), ("text", V.str t), ("line", V.int l)] := by
    rw [e1, putF_ne (by decide +kernel), putF_ne (by decide +kernel)]; rfl
  refine ⟨_, rfl, _, rfl, x, CT, dx, _, rfl, upd_same, TC.cl, TC.nc, (by rw [e2]; show 3 < 1000; decide), ?_⟩
  rw [tkF_new, upd_upd, upd_upd, upd_upd]
  exact q _ (w0.put 0 (.ins CT dx (tkF k t l c)) rfl (fun xs q => by cases q))
/-! run_end -/
def spRunEnd : Sp := fun vs H Q _ => ∃ (z ls : Str) (i : Nat), vs = [.str z, .int i, .str ls] ∧ i ≤ z.length ∧ z.length ≤ sizeLine ∧ Q (.int ((i : Int) + (((TL.tl z).drop i).takeWhile fun c => decide (c ∈ TL.tl ls)).length)) H
abbrev srun_end : Stmt := topS 30
theorem scrun_end : FnScope ["row", "start", "letters", "end"] ["row", "start", "letters"] (defScope srun_end) := ⟨rfl, rfl, rfl, by decide +kernel, rfl, by decide +kernel, by decide +kernel⟩
theorem cal_run_end (D : DefAt K mg "run_end" srun_end ["row", "start", "letters"]) (T : Bi mg) : Cal P w K mg base 1 "run_end" ["row", "start", "letters"] spRunEnd := D.cal fun f fd F => by
  have nd := scrun_end.nd
  refine F.ok scrun_end (fun vs H Q E h => ?_) (fun cdv A outer s H vs Q E hr h => ?_)
  · obtain ⟨z, ls, i, rfl, _⟩ := h; rfl
  obtain ⟨z, ls, i, rfl, hi, hz, q⟩ := h
  refine ⟨_, (pss_cons (ps_set (i := 3) nd rfl (Or.inl rfl) (pv 1))
 (pss_cons (ps_while PassesOwn.never (PW.pt (pw_and (pt_cmpR op_lt (pv 3) (pe_callB call_len_str (by rfl) T.len PySem.boot_len (pa_cons (pv 0) pa_nil)) (nomark _)) (pw_and1 (pt_cmpR op_in_sign (pe_ix ix_str (pv 0) (pv 3) (fun _ _ => rfl)) (pv 2) (by rfl)))))
 (pss_one (ps_aug (i := 3) nd rfl (Or.inl rfl) pe_int ip_add)))
 (pss_one (ps_ret (pv 3))))), ?_⟩
  have hl : ((TL.tl z).drop i).length = z.length - i := by rw [List.length_drop, ← TL.len_tl]
  generalize hp : (fun c => decide (c ∈ TL.tl ls)) = p at q
  have hw := run_le p ((TL.tl z).drop i)
  have hget : ∀ j : Nat, ((TL.tl z).drop i)[j]? = (TL.tl z)[i + j]? := fun j => List.getElem?_drop
  have hrun : ∀ (l : List Nat) (j : Nat), j ≤ (l.takeWhile p).length → ∀ c, l[j]? = some c → (p c = true ↔ j < (l.takeWhile p).length) := by
    intro l
    induction l with
    | nil => intro j _ c h; simp at h
    | cons a l ih =>
      intro j hj c hc
      rw [List.takeWhile_cons] at hj ⊢
      by_cases ha : p a = true
      · rw [if_pos ha, List.length_cons] at hj ⊢
        cases j with
        | zero => simp at hc; subst hc; simp [ha]
        | succ j =>
          have := ih j (by omega) c (by simpa using hc)
          exact this.trans ⟨fun h => by omega, fun h => by omega⟩
      · rw [if_neg ha] at hj ⊢
        have : j = 0 := by simpa using hj
        subst this
        simp at hc; subst hc
        simp [ha]
  generalize hn : (((TL.tl z).drop i).takeWhile p).length = n at q hw
  refine ⟨_, rfl, while_by (fun σ H' => H' = H ∧ ∃ j : Nat, j ≤ n ∧ σ = [some (.str z), some (.int i), some (.str ls), some (.int ((i : Int) + j))]) (fun σ _ => z.length - (slotI σ 3).toNat)
    ⟨rfl, 0, Nat.zero_le _, by simp; rfl⟩ ?_ ?_⟩
  · rintro σ H1 ⟨rfl, j, hj, rfl⟩
    refine ⟨_, rfl, _, rfl, z, rfl, hz, _, _, rfl, rfl, _, rfl, ?_⟩
    refine ite2 (fun hc => ?_) (fun hc => ?_)
    · have hlt : i + j < z.length := by have := of_decide_eq_true hc; omega
      have hlt' : i + j < (TL.tl z).length := by rw [← TL.len_tl]; exact hlt
      refine ⟨_, rfl, _, rfl, z, _, (TL.tl z)[i + j], rfl, rfl, hz, at_iN (j := i + j) (by omega) (List.getElem?_eq_getElem hlt'), _, rfl, _, ls, rfl, rfl, _, rfl, ?_⟩
      have hr := hrun ((TL.tl z).drop i) j (by rw [hn]; exact hj) (TL.tl z)[i + j] (by rw [hget]; exact List.getElem?_eq_getElem hlt')
      rw [hn] at hr
      refine ite2 (fun hc2 => ?_) (fun hc2 => ?_)
      · have hjn : j < n := hr.mp (by rw [← hp]; exact hc2)
        refine ⟨_, rfl, _, _, rfl, rfl, ⟨rfl, j + 1, hjn, ?_⟩, ?_⟩
        · show [_, _, _, some (V.int ((i : Int) + j + 1))] = _
          rw [show (i : Int) + j + 1 = (i : Int) + (j + 1 : Nat) by omega]
        · show z.length - ((i : Int) + j + 1).toNat < z.length - ((i : Int) + j).toNat
          omega
      · have hjn : j = n := by
          have : ¬ j < n := fun h => hc2 (by rw [← hp] at hr; exact hr.mpr h)
          omega
        subst hjn
        exact ⟨_, rfl, q⟩
    · have hjn : j = n := by
        have : ¬ (i : Int) + j < z.length := fun h => hc (decide_eq_true h)
        omega
      subst hjn
      exact ⟨_, rfl, q⟩
  · intro σ H Q Q' h hc
    obtain ⟨v3, e3, v0, e0, z, ez, hz, i, j, ei, ej, c, ec, hc⟩ := hc
    refine ⟨v3, e3, v0, e0, z, ez, hz, i, j, ei, ej, c, ec, ?_⟩
    cases c with
    | false => exact h _ _ hc
    | true =>
      obtain ⟨a1, a2, a3, a4, a5, a6, a7, a8, a9, b1, b2, b3, b4, b5, b6, b7, b8, b9, c1, c2⟩ := hc
      exact ⟨a1, a2, a3, a4, a5, a6, a7, a8, a9, b1, b2, b3, b4, b5, b6, b7, b8, b9, c1, h _ _ c2⟩
end
end Br

/-! SyntaxFault and CheckFault are made. -/
namespace Br
open PySem PySem.Spec PyProof.Rows L2
section
variable {P : Program} {w : World} {K : PySem.W.Frag} {mg : Str → Option Value} {base : Heap} {C CR : Addr}
abbrev sSyntaxFault___init__ : Stmt := inClass (topS 2) 0
theorem scSyntaxFault___init__ : FnScope ["self", "line", "column"] ["self", "line", "column"] (defScope sSyntaxFault___init__) := ⟨rfl, rfl, rfl, by decide +kernel, rfl, by decide +kernel, by decide +kernel⟩
theorem ex_SyntaxFault (D : ExTxt K mg "SyntaxFault" "SyntaxFault.__init__" C sSyntaxFault___init__ ["self", "line", "column"] ["line", "column"]) (BX : BaseX K mg CR) : ExAt P w K mg base "SyntaxFault" C ["line", "column"] := D.at_ fun fI fd F => by
  have nd := scSyntaxFault___init__.nd
  have T := D.T
  have no := D.no
  refine F.ok scSyntaxFault___init__ (fun vs H Q E h => ?_) (fun cdv A outer s H vs Q E hr h => ?_)
  · obtain ⟨a, ws, rfl, hl, _⟩ := h
    show ws.length + 1 = 3
    rw [hl]; rfl
  obtain ⟨a, ws, rfl, hl, ha, k⟩ := h
  match ws, hl with
  | [v1, v2], _ =>
  refine ⟨_, (pss_cons (ps_expr (pe_rinit BX (by rfl) (pa_cons (pv 0) (pa_cons (pv 1) (pa_cons (pv 2) pa_nil)))))
 (pss_cons (ps_ost (pv 0) (pv 1))
 (pss_one (ps_ost (pv 0) (pv 2))))), ?_⟩
  refine ⟨_, rfl, _, rfl, _, rfl, a, C, _, rfl, (by show 2 ≤ 1000; decide), T, ha, ?_⟩
  refine ⟨_, rfl, _, rfl, a, C, rfl, T, no _ (by simp), .inl ⟨ha, fun dx hd ne => ?_⟩⟩
  have ua : upd (upd H dx (exd dx [(("line" : Str), v1)])) a (exo a C (some dx)) dx = some (exd dx [(("line" : Str), v1)]) := by rw [upd_ne ne, upd_same]
  refine ⟨_, rfl, _, rfl, a, C, rfl, T, no _ (by simp), .inr ⟨dx, _, upd_same, ua, (by show 1 ≤ 900; decide), ?_⟩⟩
  exact k dx _ hd ne (fun b h1 h2 => by rw [upd_ne h1, upd_ne h2, upd_ne h1]) (by rw [upd_ne (Ne.symm ne), upd_same]) (by rw [upd_same]; rfl)
abbrev sCheckFault___init__ : Stmt := inClass (topS 3) 0
theorem scCheckFault___init__ : FnScope ["self", "reason", "line", "column"] ["self", "reason", "line", "column"] (defScope sCheckFault___init__) := ⟨rfl, rfl, rfl, by decide +kernel, rfl, by decide +kernel, by decide +kernel⟩
theorem ex_CheckFault (D : ExTxt K mg "CheckFault" "CheckFault.__init__" C sCheckFault___init__ ["self", "reason", "line", "column"] ["reason", "line", "column"]) (BX : BaseX K mg CR) : ExAt P w K mg base "CheckFault" C ["reason", "line", "column"] := D.at_ fun fI fd F => by
  have nd := scCheckFault___init__.nd
  have T := D.T
  have no := D.no
  refine F.ok scCheckFault___init__ (fun vs H Q E h => ?_) (fun cdv A outer s H vs Q E hr h => ?_)
  · obtain ⟨a, ws, rfl, hl, _⟩ := h
    show ws.length + 1 = 4
    rw [hl]; rfl
  obtain ⟨a, ws, rfl, hl, ha, k⟩ := h
  match ws, hl with
  | [v1, v2, v3], _ =>
  refine ⟨_, (pss_cons (ps_expr (pe_rinit BX (by rfl) (pa_cons (pv 0) (pa_cons (pv 1) (pa_cons (pv 2) (pa_cons (pv 3) pa_nil))))))
 (pss_cons (ps_ost (pv 0) (pv 1))
 (pss_cons (ps_ost (pv 0) (pv 2))
 (pss_one (ps_ost (pv 0) (pv 3)))))), ?_⟩
  refine ⟨_, rfl, _, rfl, _, rfl, _, rfl, a, C, _, rfl, (by show 3 ≤ 1000; decide), T, ha, ?_⟩
  refine ⟨_, rfl, _, rfl, a, C, rfl, T, no _ (by simp), .inl ⟨ha, fun dx hd ne => ?_⟩⟩
  have ua : upd (upd H dx (exd dx [(("reason" : Str), v1)])) a (exo a C (some dx)) dx = some (exd dx [(("reason" : Str), v1)]) := by rw [upd_ne ne, upd_same]
  have ub : upd (upd H dx (exd dx [(("reason" : Str), v1)])) a (exo a C (some dx)) a = some (exo a C (some dx)) := upd_same
  refine ⟨_, rfl, _, rfl, a, C, rfl, T, no _ (by simp), .inr ⟨dx, _, ub, ua, (by show 1 ≤ 900; decide), ?_⟩⟩
  refine ⟨_, rfl, _, rfl, a, C, rfl, T, no _ (by simp), .inr ⟨dx, _, (upd_ne (Ne.symm ne)).trans ub, upd_same, (by show 2 ≤ 900; decide), ?_⟩⟩
  exact k dx _ hd ne (fun b h1 h2 => by rw [upd_ne h1, upd_ne h1, upd_ne h2, upd_ne h1]) (by rw [upd_ne (Ne.symm ne), upd_ne (Ne.symm ne), upd_same]) (by rw [upd_same]; rfl)
end
end Br

namespace Br
open PySem PySem.Spec PyProof.Rows L2
/-- the lexer's constants -/
structure LexC (K : PySem.W.Frag) (mg : Str → Option Value) : Prop where
  END_SIGN : ∃ t, mg "END_SIGN" = some (.str ";" t)
  SIGN : ∃ t, mg "SIGN" = some (.str "sign" t)
  DIGITS : ∃ t, mg "DIGITS" = some (.str "0123456789" t)
  MAX_DIGITS : ∃ t, mg "MAX_DIGITS" = some (.int 2 t)
  NUMBER : ∃ t, mg "NUMBER" = some (.str "number" t)
  LETTERS : ∃ t, mg "LETTERS" = some (.str "abcdefghijklmnopqrstuvwxyz" t)
  KEYWORDS : ∃ kw, mg "KEYWORDS" = some (.ref kw) ∧ ∀ H : Hp, SqT K H kw (kws.map V.str)
  KEYWORD : ∃ t, mg "KEYWORD" = some (.str "keyword" t)
  MAX_LETTERS : ∃ t, mg "MAX_LETTERS" = some (.int 8 t)
  NAME : ∃ t, mg "NAME" = some (.str "name" t)
  END : ∃ t, mg "END" = some (.str "end" t)
  SPACES : ∃ t, mg "SPACES" = some (.str " \n" t)
theorem inV_strs (x : Str) : ∀ l : List Str, inV (.str x) (l.map V.str) = decide (x ∈ l)
  | [] => by simp [inV]
  | y :: l => by
    have ih := inV_strs x l
    unfold inV at ih ⊢
    rw [List.map_cons, List.any_cons, ih, Bool.eq_iff_iff, Bool.or_eq_true, decide_eq_true_eq, decide_eq_true_eq, List.mem_cons]
    exact or_congr ⟨fun h => (eq_of_beq (show (y == x) = true from h)).symm, fun h => (show (y == x) = true from beq_iff_eq.mpr h.symm)⟩ Iff.rfl
theorem flat_strs' (l : List Str) : (l.map V.str).all flatV = true := by
  rw [List.all_eq_true]
  intro v hv
  obtain ⟨s, _, rfl⟩ := List.mem_map.mp hv
  rfl
section
variable {P : Program} {w : World} {K : PySem.W.Frag} {mg : Str → Option Value} {base : Heap} {CT : Addr}
def spReadTok (CT : Addr) : Sp := fun vs H Q _ => ∃ (z k t : Str) (line : Int) (col : Nat), vs = [.str z, .int line, .int col] ∧ z.length ≤ sizeLine ∧ tokAt ((TL.tl z).drop col) = some (k, t) ∧
  ∀ (x dx : Addr) (H' : Hp), Wd [] H H' [(x, .ins CT dx (tkF k t line col)), (dx, .own x)] → Q (.ref x) H'
theorem tok_fin {H H' : Hp} {x dx : Addr} {fs : List (Str × V)} (hx : H x = none) (hd : H dx = none) (ne : dx ≠ x) (c : Wd [x] (upd (upd H dx (.own x)) x (.ins CT dx [])) H' [(x, .ins CT dx fs)]) : Wd [] H H' [(x, .ins CT dx fs), (dx, .own x)] :=
  ((Wd.refl H).make CT hx hd ne).call1 (fun xs q => by cases q) c
abbrev sread_token : Stmt := topS 31
theorem scread_token : FnScope ["row", "line", "column", "first", "word"] ["row", "line", "column"] (defScope sread_token) := ⟨rfl, rfl, rfl, by decide +kernel, rfl, by decide +kernel, by decide +kernel⟩
theorem cal_read_token (D : DefAt K mg "read_token" sread_token ["row", "line", "column"]) (T : Bi mg) (C : LexC K mg) (C1 : Cal P w K mg base 1 "run_end" ["row", "start", "letters"] spRunEnd) (CM : MkAt P w K mg base 1 "Token" CT ["self", "kind", "text", "line", "column"] (spTokI CT)) :
    Cal P w K mg base 3 "read_token" ["row", "line", "column"] (spReadTok CT) := D.cal fun f fd F => by
  have nd := scread_token.nd
  obtain ⟨t1, c_END_SIGN⟩ := C.END_SIGN
  obtain ⟨t2, c_SIGN⟩ := C.SIGN
  obtain ⟨t3, c_DIGITS⟩ := C.DIGITS
  obtain ⟨t4, c_MAX_DIGITS⟩ := C.MAX_DIGITS
  obtain ⟨t5, c_NUMBER⟩ := C.NUMBER
  obtain ⟨t6, c_LETTERS⟩ := C.LETTERS
  obtain ⟨a_KEYWORDS, c_KEYWORDS, hkw⟩ := C.KEYWORDS
  obtain ⟨t7, c_KEYWORD⟩ := C.KEYWORD
  obtain ⟨t8, c_MAX_LETTERS⟩ := C.MAX_LETTERS
  obtain ⟨t9, c_NAME⟩ := C.NAME
  obtain ⟨f1, fd1, m_run_end, kp_run_end, b_run_end, G_run_end⟩ := C1.ex
  obtain ⟨f2, fd2, mC_Token, Mk_Token, b_Token, G_Token⟩ := CM.ex
  refine F.ok scread_token (fun vs H Q E h => ?_) (fun cdv A outer s H vs Q E hr h => ?_)
  · obtain ⟨z, k, t, line, col, rfl, _⟩ := h; rfl
  obtain ⟨z, k, t, line, col, rfl, hz, htok, q⟩ := h
  refine ⟨_, (pss_cons (ps_set (i := 3) nd rfl (Or.inl rfl) (pe_ix ix_str (pv 0) (pv 2) (fun _ _ => rfl)))
 (pss_cons (ps_if (pt_cmpR op_eq (pv 3) (pe_glob (v := .str ";") (by rfl) c_END_SIGN ⟨_, rfl⟩) (nomark _))
 (pss_one (ps_ret (pe_make Mk_Token G_Token (hr.mono (by first | decide | omega)) (by rfl) mC_Token b_Token .nil pass0 (pa_cons (pe_glob (v := .str "sign") (by rfl) c_SIGN ⟨_, rfl⟩) (pa_cons (pv 3) (pa_cons (pv 1) (pa_cons (pv 2) pa_nil)))))))
 pss_nil)
 (pss_cons (ps_if (pt_cmpR op_in_sign (pv 3) (pe_glob (v := .str "0123456789") (by rfl) c_DIGITS ⟨_, rfl⟩) (by rfl))
 (pss_cons (ps_set (i := 4) nd rfl (Or.inl rfl) (pe_slice sl_str (pv 0) (po_some (pv 2)) (po_some (pe_call G_run_end (hr.mono (by first | decide | omega)) (by rfl) m_run_end kp_run_end b_run_end .nil pass0 (pa_cons (pv 0) (pa_cons (pv 2) (pa_cons (pe_glob (v := .str "0123456789") (by rfl) c_DIGITS ⟨_, rfl⟩) pa_nil)))))))
 (pss_cons (ps_if (PW.pt (pw_or (pt_cmpR op_gt (pe_callB call_len_str (by rfl) T.len PySem.boot_len (pa_cons (pv 4) pa_nil)) (pe_glob (v := .int 2) (by rfl) c_MAX_DIGITS ⟨_, rfl⟩) (nomark _)) (pw_or1 (PW.pt (pw_and (pt_cmpR op_gt (pe_callB call_len_str (by rfl) T.len PySem.boot_len (pa_cons (pv 4) pa_nil)) pe_int (nomark _)) (pw_and1 (pt_cmpR op_eq (pv 3) pe_str (nomark _))))))))
 pss_never
 pss_nil)
 (pss_one (ps_ret (pe_make Mk_Token G_Token (hr.mono (by first | decide | omega)) (by rfl) mC_Token b_Token .nil pass0 (pa_cons (pe_glob (v := .str "number") (by rfl) c_NUMBER ⟨_, rfl⟩) (pa_cons (pv 4) (pa_cons (pv 1) (pa_cons (pv 2) pa_nil)))))))))
 pss_nil)
 (pss_cons (ps_set (i := 4) nd rfl (Or.inl rfl) (pe_slice sl_str (pv 0) (po_some (pv 2)) (po_some (pe_call G_run_end (hr.mono (by first | decide | omega)) (by rfl) m_run_end kp_run_end b_run_end .nil pass0 (pa_cons (pv 0) (pa_cons (pv 2) (pa_cons (pe_glob (v := .str "abcdefghijklmnopqrstuvwxyz") (by rfl) c_LETTERS ⟨_, rfl⟩) pa_nil)))))))
 (pss_cons (ps_if (pt_cmpR (r := rIn K false) op_in_seq (pv 4) (pe_glob (v := .ref a_KEYWORDS) (by rfl) c_KEYWORDS rfl) (by rfl))
 (pss_one (ps_ret (pe_make Mk_Token G_Token (hr.mono (by first | decide | omega)) (by rfl) mC_Token b_Token .nil pass0 (pa_cons (pe_glob (v := .str "keyword") (by rfl) c_KEYWORD ⟨_, rfl⟩) (pa_cons (pv 4) (pa_cons (pv 1) (pa_cons (pv 2) pa_nil)))))))
 pss_nil)
 (pss_cons (ps_if (pt_not (pt_chain op_le op_le pe_int (pe_callB call_len_str (by rfl) T.len PySem.boot_len (pa_cons (pv 4) pa_nil)) (pe_glob (v := .int 8) (by rfl) c_MAX_LETTERS ⟨_, rfl⟩)))
 pss_never
 pss_nil)
 (pss_one (ps_ret (pe_make Mk_Token G_Token (hr.mono (by first | decide | omega)) (by rfl) mC_Token b_Token .nil pass0 (pa_cons (pe_glob (v := .str "name") (by rfl) c_NAME ⟨_, rfl⟩) (pa_cons (pv 4) (pa_cons (pv 1) (pa_cons (pv 2) pa_nil))))))))))))), ?_⟩
  have hcol : col < (TL.tl z).length := by
    refine Nat.lt_of_not_le fun hle => ?_
    rw [List.drop_eq_nil_of_le hle] at htok
    cases htok
  have hcol' : col ≤ z.length := by rw [TL.len_tl]; omega
  obtain ⟨c, r, hcr⟩ : ∃ c r, (TL.tl z).drop col = c :: r := ⟨_, _, List.drop_eq_getElem_cons hcol⟩
  have hc : (TL.tl z)[col]? = some c := by
    have := congrArg (fun l => l[0]?) hcr
    simpa [List.getElem?_drop] using this
  have cutd : ∀ p : Nat → Bool, cutS z (some (col : Int)) (some ((col : Int) + (((TL.tl z).drop col).takeWhile p).length)) = ⟨((c :: r).takeWhile p).toArray⟩ := fun p => by
    rw [cut_run z col p hcol', hcr]
  have wl : ∀ p : Nat → Bool, (⟨((c :: r).takeWhile p).toArray⟩ : Str).length = ((c :: r).takeWhile p).length := fun p => by simp [Str.length]
  have hlen : (c :: r).length ≤ sizeLine := by
    have h2 := congrArg List.length hcr
    rw [List.length_drop, ← TL.len_tl] at h2
    exact Nat.le_trans (by omega) hz
  have wz : ∀ p : Nat → Bool, ((c :: r).takeWhile p).length ≤ sizeLine := fun p => Nat.le_trans (run_le p (c :: r)) hlen
  rw [hcr] at htok
  refine ⟨_, rfl, _, rfl, z, _, c, rfl, rfl, hz, atI_nat hc, ?_⟩
  have fs : decide (V.str ⟨#[c]⟩ = V.str ";") = decide (c = 59) := by
    rw [decide_eq_decide]
    constructor
    · intro h
      have := congrArg (fun v => match v with | V.str s => TL.tl s | _ => []) h
      have e : TL.tl (";" : Str) = [59] := by decide +kernel
      simp only [e] at this
      simpa [TL.tl] using this
    · rintro rfl; rfl
  refine ⟨_, rfl, rfl, _, rfl, ?_⟩
  rw [fs]
  simp only [tokAt] at htok
  by_cases h1 : c = 59
  · rw [if_pos h1] at htok
    cases htok
    subst h1
    refine ite2 (fun _ => ?_) (fun h => absurd (decide_eq_true rfl) h)
    refine ⟨_, rfl, _, rfl, _, rfl, fun x dx hx hd ne => ?_⟩
    exact ⟨x, dx, _, _, _, _, rfl, upd_same, fun H' c => ⟨rfl, q x dx H' (tok_fin hx hd ne c)⟩⟩
  rw [if_neg h1] at htok
  refine ite2 (fun h => absurd (of_decide_eq_true h) h1) (fun _ => ?_)
  refine ⟨_, rfl, c, "0123456789", rfl, rfl, _, rfl, ?_⟩
  have fd : decide (c ∈ ("0123456789" : Str).cps.toList) = dig c := rfl
  rw [fd]
  by_cases h2 : dig c = true
  · rw [if_pos h2] at htok
    refine ite2 (fun _ => ?_) (fun h => absurd h2 h)
    refine ⟨_, rfl, _, rfl, _, rfl, _, rfl, _, rfl, z, "0123456789", col, rfl, hcol', hz, _, rfl, z, rfl, hz, ?_⟩
    have e1 : cutS z (some (col : Int)) (some ((col : Int) + ((List.drop col (TL.tl z)).takeWhile fun c => decide (c ∈ TL.tl "0123456789")).length)) = ⟨((c :: r).takeWhile dig).toArray⟩ := cutd dig
    rw [e1]
    have h3 := wl dig
    have h4 := wz dig
    generalize hw : (c :: r).takeWhile dig = wd at *
    by_cases h5 : wd.length > 2 ∨ (wd.length > 1 ∧ c = 48)
    · rw [if_pos h5] at htok; cases htok
    rw [if_neg h5] at htok
    cases htok
    have f0 : decide (V.str ⟨#[c]⟩ = V.str "0") = decide (c = 48) := by
      rw [decide_eq_decide]
      constructor
      · intro h
        have := congrArg (fun v => match v with | V.str s => TL.tl s | _ => []) h
        have e : TL.tl ("0" : Str) = [48] := by decide +kernel
        simp only [e] at this
        simpa [TL.tl] using this
      · rintro rfl; rfl
    refine ⟨_, rfl, _, rfl, by rw [h3]; exact h4, _, _, rfl, rfl, _, rfl, ?_⟩
    refine ite2 (fun h => absurd (of_decide_eq_true h) (by rw [h3]; omega)) (fun _ => ?_)
    have fin : ∀ x dx, H x = none → H dx = none → dx ≠ x → spTokI CT (.ref x :: ([V.str "number", V.str ⟨wd.toArray⟩, V.int line, V.int col] ++ [])) (upd (upd H dx (.own x)) x (.ins CT dx [])) (fun v H2 => v = .non ∧ Q (.ref x) H2) E0 := fun x dx hx hd ne =>
      ⟨x, dx, _, _, _, _, rfl, upd_same, fun H' c => ⟨rfl, q x dx H' (tok_fin hx hd ne c)⟩⟩
    refine ⟨_, rfl, _, rfl, by rw [h3]; exact h4, _, _, rfl, rfl, _, rfl, ?_⟩
    refine ite2 (fun h6 => ?_) (fun _ => ⟨_, rfl, _, rfl, _, rfl, fin⟩)
    refine ⟨_, rfl, rfl, _, rfl, ?_⟩
    rw [f0]
    have h7 := of_decide_eq_true h6
    refine ite2 (fun h8 => absurd (of_decide_eq_true h8) (by rw [h3] at h7; omega)) (fun _ => ⟨_, rfl, _, rfl, _, rfl, fin⟩)
  rw [if_neg h2] at htok
  refine ite2 (fun h => absurd h h2) (fun _ => ?_)
  refine ⟨_, rfl, _, rfl, _, rfl, _, rfl, _, rfl, z, "abcdefghijklmnopqrstuvwxyz", col, rfl, hcol', hz, _, rfl, z, rfl, hz, ?_⟩
  have e1 : cutS z (some (col : Int)) (some ((col : Int) + ((List.drop col (TL.tl z)).takeWhile fun c => decide (c ∈ TL.tl "abcdefghijklmnopqrstuvwxyz")).length)) = ⟨((c :: r).takeWhile ltr).toArray⟩ := cutd ltr
  rw [e1]
  have h3 := wl ltr
  have h4 := wz ltr
  generalize hw : (c :: r).takeWhile ltr = wd at *
  have fin : ∀ x dx, H x = none → H dx = none → dx ≠ x → spTokI CT (.ref x :: ([V.str k, V.str ⟨wd.toArray⟩, V.int line, V.int col] ++ [])) (upd (upd H dx (.own x)) x (.ins CT dx [])) (fun v H2 => v = .non ∧ Q (.ref x) H2) E0 := fun x dx hx hd ne =>
    ⟨x, dx, _, _, _, _, rfl, upd_same, fun H' c => ⟨rfl, q x dx H' (by
      have ht : t = ⟨wd.toArray⟩ := by
        split at htok
        · cases htok; rfl
        · split at htok
          · cases htok; rfl
          · cases htok
      rw [ht]
      exact tok_fin hx hd ne c)⟩⟩
  refine ⟨_, rfl, a_KEYWORDS, kws.map V.str, rfl, .inr (hkw _), rfl, flat_strs' _, _, rfl, ?_⟩
  rw [if_neg Bool.false_ne_true, inV_strs]
  by_cases h5 : (⟨wd.toArray⟩ : Str) ∈ kws
  · rw [if_pos h5] at htok
    cases htok
    refine ite2 (fun _ => ?_) (fun h => absurd (decide_eq_true h5) h)
    exact ⟨_, rfl, _, rfl, _, rfl, fin⟩
  rw [if_neg h5] at htok
  refine ite2 (fun h => absurd (of_decide_eq_true h) h5) (fun _ => ?_)
  by_cases h6 : 1 ≤ wd.length ∧ wd.length ≤ 8
  · rw [if_pos h6] at htok
    cases htok
    refine ⟨_, rfl, _, rfl, by rw [h3]; exact h4, _, _, rfl, rfl, _, rfl, ?_⟩
    refine ite2 (fun _ => ?_) (fun h => absurd (decide_eq_true (by rw [h3]; omega)) h)
    refine ⟨_, _, rfl, rfl, _, rfl, ?_⟩
    refine ite2 (fun h => ?_) (fun _ => ?_)
    · rw [show decide ((((⟨wd.toArray⟩ : Str).length : Nat) : Int) ≤ 8) = true from decide_eq_true (by rw [h3]; omega)] at h
      cases h
    · exact ⟨_, rfl, _, rfl, _, rfl, fin⟩
  · rw [if_neg h6] at htok
    cases htok
end
end Br

/-! Contracts of defs and methods that may raise. -/
namespace Br
open PySem PySem.Spec PyProof.Rows L2
structure CalX (P : Program) (w : World) (K : PySem.W.Frag) (mg : Str → Option Value) (base : Heap) (k : Nat) (x : Str) (ps : List Str) (sp : Sp) : Prop where
  ex : ∃ (f : Addr) (fd : FuncData), mg x = some (.ref f) ∧ PySem.W.keepIn K (.ref f) = true ∧ Binds K fd ps [] ∧ FnOk P w K mg base (L2.CX P w) k f fd ps sp
structure MeX (P : Program) (w : World) (K : PySem.W.Frag) (mg : Str → Option Value) (base : Heap) (k : Nat) (C : Addr) (m : Str) (ps : List Str) (sp : Sp) : Prop where
  ex : ∃ (f : Addr) (fd : FuncData), Meth K C m f ∧ Binds K fd ps [] ∧ FnOk P w K mg base (L2.CX P w) k f fd ps sp
section
variable {P : Program} {w : World} {K : PySem.W.Frag} {mg : Str → Option Value} {base : Heap} {k : Nat} {x m q : Str} {C : Addr} {st : Stmt} {ps : List Str} {sp : Sp}
theorem DefAt.calX (D : DefAt K mg x st ps) (h : ∀ f fd, Fun K x x st f fd → FnOk P w K mg base (L2.CX P w) k f fd ps sp) : CalX P w K mg base k x ps sp := by
  obtain ⟨f, fd, m, F, b⟩ := D.ex
  exact ⟨f, fd, m, F.kp, b, h f fd F⟩
theorem MethAt.meX (D : MethAt K C m q st ps) (h : ∀ f fd, Fun K m q st f fd → FnOk P w K mg base (L2.CX P w) k f fd ps sp) : MeX P w K mg base k C m ps sp := by
  obtain ⟨f, fd, M, F, b⟩ := D.ex
  exact ⟨f, fd, M, b, h f fd F⟩
end
end Br

namespace Br
open PySem PySem.Spec PyProof.Rows L2
/-! read_token, any text -/
/-- what SyntaxFault carries -/
def synD (l c : Int) : HO := .xd [("column", .int c), ("line", .int l)]
section
variable {P : Program} {w : World} {K : PySem.W.Frag} {mg : Str → Option Value} {base : Heap} {CT CF : Addr}
def spReadG (CT CF : Addr) : Sp := fun vs H Q E => ∃ (z : Str) (line : Int) (col : Nat), vs = [.str z, .int line, .int col] ∧ z.length ≤ sizeLine ∧ col < z.length ∧
  match tokAt ((TL.tl z).drop col) with
  | some (k, t) => ∀ (x dx : Addr) (H' : Hp), Wd [] H H' [(x, .ins CT dx (tkF k t line col)), (dx, .own x)] → Q (.ref x) H'
  | none => ∀ (d : Addr) (H' : Hp), Wd [] H H' [(d, synD line col)] → E (.ref CF) (some d) H'
theorem cal_readG (D : DefAt K mg "read_token" sread_token ["row", "line", "column"]) (T : Bi mg) (C : LexC K mg) (C1 : Cal P w K mg base 1 "run_end" ["row", "start", "letters"] spRunEnd) (CM : MkAt P w K mg base 1 "Token" CT ["self", "kind", "text", "line", "column"] (spTokI CT)) (EX_SyntaxFault : ExAt P w K mg base "SyntaxFault" CF ["line", "column"]) :
    CalX P w K mg base 3 "read_token" ["row", "line", "column"] (spReadG CT CF) := D.calX fun f fd F => by
  have nd := scread_token.nd
  obtain ⟨t1, c_END_SIGN⟩ := C.END_SIGN
  obtain ⟨t2, c_SIGN⟩ := C.SIGN
  obtain ⟨t3, c_DIGITS⟩ := C.DIGITS
  obtain ⟨t4, c_MAX_DIGITS⟩ := C.MAX_DIGITS
  obtain ⟨t5, c_NUMBER⟩ := C.NUMBER
  obtain ⟨t6, c_LETTERS⟩ := C.LETTERS
  obtain ⟨a_KEYWORDS, c_KEYWORDS, hkw⟩ := C.KEYWORDS
  obtain ⟨t7, c_KEYWORD⟩ := C.KEYWORD
  obtain ⟨t8, c_MAX_LETTERS⟩ := C.MAX_LETTERS
  obtain ⟨t9, c_NAME⟩ := C.NAME
  obtain ⟨f1, fd1, m_run_end, kp_run_end, b_run_end, G_run_end⟩ := C1.ex
  obtain ⟨f2, fd2, mC_Token, Mk_Token, b_Token, G_Token⟩ := CM.ex
  refine F.okX scread_token (fun vs H Q E h => ?_) (fun cdv A outer s H vs Q E hr h => ?_)
  · obtain ⟨z, line, col, rfl, _⟩ := h; rfl
  obtain ⟨z, line, col, rfl, hz, hcz, q⟩ := h
  refine ⟨_, (pss_cons (ps_set (i := 3) nd rfl (Or.inl rfl) (pe_ix ix_str (pv 0) (pv 2) (fun _ _ => rfl)))
 (pss_cons (ps_if (pt_cmpR op_eq (pv 3) (pe_glob (v := .str ";") (by rfl) c_END_SIGN ⟨_, rfl⟩) (nomark _))
 (pss_one (ps_ret (pe_make Mk_Token G_Token (hr.mono (by first | decide | omega)) (by rfl) mC_Token b_Token .nil pass0 (pa_cons (pe_glob (v := .str "sign") (by rfl) c_SIGN ⟨_, rfl⟩) (pa_cons (pv 3) (pa_cons (pv 1) (pa_cons (pv 2) pa_nil)))))))
 pss_nil)
 (pss_cons (ps_if (pt_cmpR op_in_sign (pv 3) (pe_glob (v := .str "0123456789") (by rfl) c_DIGITS ⟨_, rfl⟩) (by rfl))
 (pss_cons (ps_set (i := 4) nd rfl (Or.inl rfl) (pe_slice sl_str (pv 0) (po_some (pv 2)) (po_some (pe_call G_run_end (hr.mono (by first | decide | omega)) (by rfl) m_run_end kp_run_end b_run_end .nil pass0 (pa_cons (pv 0) (pa_cons (pv 2) (pa_cons (pe_glob (v := .str "0123456789") (by rfl) c_DIGITS ⟨_, rfl⟩) pa_nil)))))))
 (pss_cons (ps_if (PW.pt (pw_or (pt_cmpR op_gt (pe_callB call_len_str (by rfl) T.len PySem.boot_len (pa_cons (pv 4) pa_nil)) (pe_glob (v := .int 2) (by rfl) c_MAX_DIGITS ⟨_, rfl⟩) (nomark _)) (pw_or1 (PW.pt (pw_and (pt_cmpR op_gt (pe_callB call_len_str (by rfl) T.len PySem.boot_len (pa_cons (pv 4) pa_nil)) pe_int (nomark _)) (pw_and1 (pt_cmpR op_eq (pv 3) pe_str (nomark _))))))))
 (pss_one (ps_raise rfl (takes_of rfl rfl rfl rfl) (pmk_ex EX_SyntaxFault (hr.mono (by first | decide | omega)) (by rfl) (pa_cons (pv 1) (pa_cons (pv 2) pa_nil)) (by decide))))
 pss_nil)
 (pss_one (ps_ret (pe_make Mk_Token G_Token (hr.mono (by first | decide | omega)) (by rfl) mC_Token b_Token .nil pass0 (pa_cons (pe_glob (v := .str "number") (by rfl) c_NUMBER ⟨_, rfl⟩) (pa_cons (pv 4) (pa_cons (pv 1) (pa_cons (pv 2) pa_nil)))))))))
 pss_nil)
 (pss_cons (ps_set (i := 4) nd rfl (Or.inl rfl) (pe_slice sl_str (pv 0) (po_some (pv 2)) (po_some (pe_call G_run_end (hr.mono (by first | decide | omega)) (by rfl) m_run_end kp_run_end b_run_end .nil pass0 (pa_cons (pv 0) (pa_cons (pv 2) (pa_cons (pe_glob (v := .str "abcdefghijklmnopqrstuvwxyz") (by rfl) c_LETTERS ⟨_, rfl⟩) pa_nil)))))))
 (pss_cons (ps_if (pt_cmpR (r := rIn K false) op_in_seq (pv 4) (pe_glob (v := .ref a_KEYWORDS) (by rfl) c_KEYWORDS rfl) (by rfl))
 (pss_one (ps_ret (pe_make Mk_Token G_Token (hr.mono (by first | decide | omega)) (by rfl) mC_Token b_Token .nil pass0 (pa_cons (pe_glob (v := .str "keyword") (by rfl) c_KEYWORD ⟨_, rfl⟩) (pa_cons (pv 4) (pa_cons (pv 1) (pa_cons (pv 2) pa_nil)))))))
 pss_nil)
 (pss_cons (ps_if (pt_not (pt_chain op_le op_le pe_int (pe_callB call_len_str (by rfl) T.len PySem.boot_len (pa_cons (pv 4) pa_nil)) (pe_glob (v := .int 8) (by rfl) c_MAX_LETTERS ⟨_, rfl⟩)))
 (pss_one (ps_raise rfl (takes_of rfl rfl rfl rfl) (pmk_ex EX_SyntaxFault (hr.mono (by first | decide | omega)) (by rfl) (pa_cons (pv 1) (pa_cons (pv 2) pa_nil)) (by decide))))
 pss_nil)
 (pss_one (ps_ret (pe_make Mk_Token G_Token (hr.mono (by first | decide | omega)) (by rfl) mC_Token b_Token .nil pass0 (pa_cons (pe_glob (v := .str "name") (by rfl) c_NAME ⟨_, rfl⟩) (pa_cons (pv 4) (pa_cons (pv 1) (pa_cons (pv 2) pa_nil))))))))))))), ?_⟩
  have hcol : col < (TL.tl z).length := by rw [← TL.len_tl]; exact hcz
  have hcol' : col ≤ z.length := by rw [TL.len_tl]; omega
  obtain ⟨c, r, hcr⟩ : ∃ c r, (TL.tl z).drop col = c :: r := ⟨_, _, List.drop_eq_getElem_cons hcol⟩
  have hc : (TL.tl z)[col]? = some c := by
    have := congrArg (fun l => l[0]?) hcr
    simpa [List.getElem?_drop] using this
  have cutd : ∀ p : Nat → Bool, cutS z (some (col : Int)) (some ((col : Int) + (((TL.tl z).drop col).takeWhile p).length)) = ⟨((c :: r).takeWhile p).toArray⟩ := fun p => by
    rw [cut_run z col p hcol', hcr]
  have wl : ∀ p : Nat → Bool, (⟨((c :: r).takeWhile p).toArray⟩ : Str).length = ((c :: r).takeWhile p).length := fun p => by simp [Str.length]
  have hlen : (c :: r).length ≤ sizeLine := by
    have h2 := congrArg List.length hcr
    rw [List.length_drop, ← TL.len_tl] at h2
    exact Nat.le_trans (by omega) hz
  have wz : ∀ p : Nat → Bool, ((c :: r).takeWhile p).length ≤ sizeLine := fun p => Nat.le_trans (run_le p (c :: r)) hlen
  rw [hcr] at q
  refine ⟨_, rfl, _, rfl, z, _, c, rfl, rfl, hz, atI_nat hc, ?_⟩
  have fs : decide (V.str ⟨#[c]⟩ = V.str ";") = decide (c = 59) := by
    rw [decide_eq_decide]
    constructor
    · intro h
      have := congrArg (fun v => match v with | V.str s => TL.tl s | _ => []) h
      have e : TL.tl (";" : Str) = [59] := by decide +kernel
      simp only [e] at this
      simpa [TL.tl] using this
    · rintro rfl; rfl
  refine ⟨_, rfl, rfl, _, rfl, ?_⟩
  rw [fs]
  simp only [tokAt] at q
  by_cases h1 : c = 59
  · rw [if_pos h1] at q
    dsimp only at q
    subst h1
    refine ite2 (fun _ => ?_) (fun h => absurd (decide_eq_true rfl) h)
    refine ⟨_, rfl, _, rfl, _, rfl, fun x dx hx hd ne => ?_⟩
    exact ⟨x, dx, _, _, _, _, rfl, upd_same, fun H' c => ⟨rfl, q x dx H' (tok_fin hx hd ne c)⟩⟩
  rw [if_neg h1] at q
  refine ite2 (fun h => absurd (of_decide_eq_true h) h1) (fun _ => ?_)
  refine ⟨_, rfl, c, "0123456789", rfl, rfl, _, rfl, ?_⟩
  have fd : decide (c ∈ ("0123456789" : Str).cps.toList) = dig c := rfl
  rw [fd]
  by_cases h2 : dig c = true
  · rw [if_pos h2] at q
    refine ite2 (fun _ => ?_) (fun h => absurd h2 h)
    refine ⟨_, rfl, _, rfl, _, rfl, _, rfl, _, rfl, z, "0123456789", col, rfl, hcol', hz, _, rfl, z, rfl, hz, ?_⟩
    have e1 : cutS z (some (col : Int)) (some ((col : Int) + ((List.drop col (TL.tl z)).takeWhile fun c => decide (c ∈ TL.tl "0123456789")).length)) = ⟨((c :: r).takeWhile dig).toArray⟩ := cutd dig
    rw [e1]
    have h3 := wl dig
    have h4 := wz dig
    generalize hw : (c :: r).takeWhile dig = wd at *
    have f0 : decide (V.str ⟨#[c]⟩ = V.str "0") = decide (c = 48) := by
      rw [decide_eq_decide]
      constructor
      · intro h
        have := congrArg (fun v => match v with | V.str s => TL.tl s | _ => []) h
        have e : TL.tl ("0" : Str) = [48] := by decide +kernel
        simp only [e] at this
        simpa [TL.tl] using this
      · rintro rfl; rfl
    by_cases h5 : wd.length > 2 ∨ (wd.length > 1 ∧ c = 48)
    · rw [if_pos h5] at q
      dsimp only at q
      refine ⟨_, rfl, _, rfl, by rw [h3]; exact h4, _, _, rfl, rfl, _, rfl, ?_⟩
      refine ite2 (fun _ => ?_) (fun n1 => ?_)
      · exact iteT ⟨_, rfl, _, rfl, rfl, fun d H' w => q d H' w⟩
      have n2 : ¬ wd.length > 2 := fun h => n1 (decide_eq_true (by rw [h3]; omega))
      have h6 := h5.resolve_left n2
      refine ⟨_, rfl, _, rfl, by rw [h3]; exact h4, _, _, rfl, rfl, _, rfl, ?_⟩
      refine ite2 (fun _ => ?_) (fun h => absurd (decide_eq_true (by rw [h3]; omega)) h)
      refine ⟨_, rfl, rfl, _, rfl, ?_⟩
      rw [f0, decide_eq_true h6.2]
      exact iteT ⟨_, rfl, _, rfl, rfl, fun d H' w => q d H' w⟩
    rw [if_neg h5] at q
    dsimp only at q
    refine ⟨_, rfl, _, rfl, by rw [h3]; exact h4, _, _, rfl, rfl, _, rfl, ?_⟩
    refine ite2 (fun h => absurd (of_decide_eq_true h) (by rw [h3]; omega)) (fun _ => ?_)
    have fin : ∀ x dx, H x = none → H dx = none → dx ≠ x → spTokI CT (.ref x :: ([V.str "number", V.str ⟨wd.toArray⟩, V.int line, V.int col] ++ [])) (upd (upd H dx (.own x)) x (.ins CT dx [])) (fun v H2 => v = .non ∧ Q (.ref x) H2) E0 := fun x dx hx hd ne =>
      ⟨x, dx, _, _, _, _, rfl, upd_same, fun H' c => ⟨rfl, q x dx H' (tok_fin hx hd ne c)⟩⟩
    refine ⟨_, rfl, _, rfl, by rw [h3]; exact h4, _, _, rfl, rfl, _, rfl, ?_⟩
    refine ite2 (fun h6 => ?_) (fun _ => ⟨_, rfl, _, rfl, _, rfl, fin⟩)
    refine ⟨_, rfl, rfl, _, rfl, ?_⟩
    rw [f0]
    have h7 := of_decide_eq_true h6
    refine ite2 (fun h8 => absurd (of_decide_eq_true h8) (by rw [h3] at h7; omega)) (fun _ => ⟨_, rfl, _, rfl, _, rfl, fin⟩)
  rw [if_neg h2] at q
  refine ite2 (fun h => absurd h h2) (fun _ => ?_)
  refine ⟨_, rfl, _, rfl, _, rfl, _, rfl, _, rfl, z, "abcdefghijklmnopqrstuvwxyz", col, rfl, hcol', hz, _, rfl, z, rfl, hz, ?_⟩
  have e1 : cutS z (some (col : Int)) (some ((col : Int) + ((List.drop col (TL.tl z)).takeWhile fun c => decide (c ∈ TL.tl "abcdefghijklmnopqrstuvwxyz")).length)) = ⟨((c :: r).takeWhile ltr).toArray⟩ := cutd ltr
  rw [e1]
  have h3 := wl ltr
  have h4 := wz ltr
  generalize hw : (c :: r).takeWhile ltr = wd at *
  have fin : ∀ k : Str, (∀ (x dx : Addr) (H' : Hp), Wd [] H H' [(x, .ins CT dx (tkF k ⟨wd.toArray⟩ line col)), (dx, .own x)] → Q (.ref x) H') → ∀ x dx, H x = none → H dx = none → dx ≠ x → spTokI CT (.ref x :: ([V.str k, V.str ⟨wd.toArray⟩, V.int line, V.int col] ++ [])) (upd (upd H dx (.own x)) x (.ins CT dx [])) (fun v H2 => v = .non ∧ Q (.ref x) H2) E0 := fun k q x dx hx hd ne =>
    ⟨x, dx, _, _, _, _, rfl, upd_same, fun H' c => ⟨rfl, q x dx H' (tok_fin hx hd ne c)⟩⟩
  refine ⟨_, rfl, a_KEYWORDS, kws.map V.str, rfl, .inr (hkw _), rfl, flat_strs' _, _, rfl, ?_⟩
  rw [if_neg Bool.false_ne_true, inV_strs]
  by_cases h5 : (⟨wd.toArray⟩ : Str) ∈ kws
  · rw [if_pos h5] at q
    dsimp only at q
    refine ite2 (fun _ => ?_) (fun h => absurd (decide_eq_true h5) h)
    exact ⟨_, rfl, _, rfl, _, rfl, fin _ q⟩
  rw [if_neg h5] at q
  refine ite2 (fun h => absurd (of_decide_eq_true h) h5) (fun _ => ?_)
  by_cases h6 : 1 ≤ wd.length ∧ wd.length ≤ 8
  · rw [if_pos h6] at q
    dsimp only at q
    refine ⟨_, rfl, _, rfl, by rw [h3]; exact h4, _, _, rfl, rfl, _, rfl, ?_⟩
    refine ite2 (fun _ => ?_) (fun h => absurd (decide_eq_true (by rw [h3]; omega)) h)
    refine ⟨_, _, rfl, rfl, _, rfl, ?_⟩
    refine ite2 (fun h => ?_) (fun _ => ?_)
    · rw [show decide ((((⟨wd.toArray⟩ : Str).length : Nat) : Int) ≤ 8) = true from decide_eq_true (by rw [h3]; omega)] at h
      cases h
    · exact ⟨_, rfl, _, rfl, _, rfl, fin _ q⟩
  · rw [if_neg h6] at q
    dsimp only at q
    refine ⟨_, rfl, _, rfl, by rw [h3]; exact h4, _, _, rfl, rfl, _, rfl, ?_⟩
    refine ite2 (fun h7 => ?_) (fun _ => ?_)
    · have h8 := of_decide_eq_true h7
      rw [h3] at h8
      refine ⟨_, _, rfl, rfl, _, rfl, ?_⟩
      rw [show decide ((((⟨wd.toArray⟩ : Str).length : Nat) : Int) ≤ 8) = false from decide_eq_false (by rw [h3]; omega)]
      exact iteT ⟨_, rfl, _, rfl, rfl, fun d H' w => q d H' w⟩
    · exact ⟨_, rfl, iteT ⟨_, rfl, _, rfl, rfl, fun d H' w => q d H' w⟩⟩
end
end Br

namespace Br
open PySem PySem.Spec PyProof.Rows L2
/-! ### the whole lexer -/
/-- the tokens of a row -/
inductive LexR : List Nat → List (Str × Str) → Prop
  | nil : LexR [] []
  | space {c r ts} : c = 32 ∨ c = 10 → LexR r ts → LexR (c :: r) ts
  | tok {c r k t ts} : ¬ (c = 32 ∨ c = 10) → tokAt (c :: r) = some (k, t) → LexR ((c :: r).drop t.length) ts → LexR (c :: r) ((k, t) :: ts)
theorem tokAt_pos {l : List Nat} {k t : Str} (h : tokAt l = some (k, t)) : 1 ≤ t.length := by
  cases l with
  | nil => cases h
  | cons c r =>
    simp only [tokAt] at h
    split at h
    · cases h; decide
    · split at h
      · rename_i hd
        split at h
        · cases h
        · cases h
          show 1 ≤ ((c :: r).takeWhile dig).toArray.size
          rw [List.takeWhile_cons, if_pos hd]; simp
      · split at h
        · rename_i hk
          cases h
          have : ∀ s ∈ kws, 1 ≤ s.length := by decide
          exact this _ hk
        · split at h
          · rename_i hk
            cases h
            exact hk.1
          · cases h
theorem tokAt_len {l : List Nat} {k t : Str} {n : Nat} (h : tokAt l = some (k, t)) (hn : l.length ≤ n) : t.length ≤ n := by
  cases l with
  | nil => cases h
  | cons c r =>
    have hp : ∀ p : Nat → Bool, ((c :: r).takeWhile p).length ≤ n := fun p => Nat.le_trans (run_le p _) hn
    simp only [tokAt] at h
    split at h
    · cases h
      exact Nat.le_trans (show 1 ≤ (c :: r).length by simp) hn
    · split at h
      · split at h
        · cases h
        · cases h; exact hp dig
      · split at h
        · cases h; exact hp ltr
        · split at h
          · cases h; exact hp ltr
          · cases h
def Tks (CT : Addr) (H : Hp) (L : List (Addr × (Str × Str))) : Prop := ∀ q ∈ L, ∃ dx l c, H q.1 = some (.ins CT dx (tkF q.2.1 q.2.2 l c))
def trefs (L : List (Addr × (Str × Str))) : List V := L.map fun q => V.ref q.1
theorem trefs_len (L : List (Addr × (Str × Str))) : (trefs L).length = L.length := List.length_map ..
theorem Tks.nil {CT : Addr} {H : Hp} : Tks CT H [] := fun q h => nomatch h
theorem Tks.new {CT : Addr} {H : Hp} {L : List (Addr × (Str × Str))} (h : Tks CT H L) {p : Addr} {o : HO} (hp : H p = none) : Tks CT (upd H p o) L := fun q hq => by
  obtain ⟨dx, l, c, e⟩ := h q hq
  exact ⟨dx, l, c, by rw [upd_ne (ne_of_none e hp)]; exact e⟩
theorem Tks.put {CT : Addr} {H : Hp} {L : List (Addr × (Str × Str))} (h : Tks CT H L) {p : Addr} {o u : HO} (hp : H p = some u) (hu : ∀ dx fs, u ≠ .ins CT dx fs) : Tks CT (upd H p o) L := fun q hq => by
  obtain ⟨dx, l, c, e⟩ := h q hq
  exact ⟨dx, l, c, by rw [upd_ne (ne_of e hp (fun z => hu _ _ z.symm))]; exact e⟩
theorem Tks.call {CT : Addr} {H H' : Hp} {L : List (Addr × (Str × Str))} {l : List (Addr × HO)} (h : Tks CT H L) (c : Wd [] H H' l) : Tks CT H' L := fun q hq => by
  obtain ⟨dx, l, c', e⟩ := h q hq
  exact ⟨dx, l, c', c.base _ _ (by simp) e⟩
theorem Tks.snoc {CT : Addr} {H : Hp} {L : List (Addr × (Str × Str))} (h : Tks CT H L) {x dx : Addr} {k t : Str} {l c : Int} (e : H x = some (.ins CT dx (tkF k t l c))) : Tks CT H (L ++ [(x, (k, t))]) := fun q hq => by
  rcases List.mem_append.mp hq with hq | hq
  · exact h q hq
  · rw [List.mem_singleton.mp hq]; exact ⟨dx, l, c, e⟩
section
variable {P : Program} {w : World} {K : PySem.W.Frag} {mg : Str → Option Value} {base : Heap} {CT : Addr}
def spTokenize (CT : Addr) : Sp := fun vs H Q _ => ∃ (z : Str) (tss : List (List (Str × Str))), vs = [.str z] ∧ z.length + 2 ≤ sizeLine ∧ (Txt.split z "\n").length = tss.length ∧
  (∀ (i : Nat) row ts, (Txt.split z "\n")[i]? = some row → tss[i]? = some ts → row.length ≤ sizeLine ∧ LexR (TL.tl row) ts) ∧ tss.flatten.length < 1000 ∧ (Txt.split z "\n").length ≤ sizeLine ∧
  ∀ (p : Addr) (L : List (Addr × (Str × Str))) (H' : Hp), Wd [] H H' [(p, .lst (trefs L))] → Tks CT H' L → L.map (·.2) = tss.flatten ++ [(("end" : Str), ("" : Str))] → Q (.ref p) H'
abbrev stokenize : Stmt := topS 32
theorem sctokenize : FnScope ["source", "tokens", "rows", "line", "row", "column", "token"] ["source"] (defScope stokenize) := ⟨rfl, rfl, rfl, by decide +kernel, rfl, by decide +kernel, by decide +kernel⟩
theorem cal_tokenize (D : DefAt K mg "tokenize" stokenize ["source"]) (T : Bi mg) (C : LexC K mg) (TC : TokCls K CT) (C1 : Cal P w K mg base 3 "read_token" ["row", "line", "column"] (spReadTok CT)) (CM : MkAt P w K mg base 1 "Token" CT ["self", "kind", "text", "line", "column"] (spTokI CT)) :
    Cal P w K mg base 4 "tokenize" ["source"] (spTokenize CT) := D.cal fun f fd F => by
  have nd := sctokenize.nd
  obtain ⟨t1, c_SPACES⟩ := C.SPACES
  obtain ⟨t2, c_END⟩ := C.END
  obtain ⟨f1, fd1, m_read_token, kp_read_token, b_read_token, G_read_token⟩ := C1.ex
  obtain ⟨f2, fd2, mC_Token, Mk_Token, b_Token, G_Token⟩ := CM.ex
  refine F.ok sctokenize (fun vs H Q E h => ?_) (fun cdv A outer s H vs Q E hr h => ?_)
  · obtain ⟨z, k, rfl, _⟩ := h; rfl
  obtain ⟨z, tss, rfl, hz, hlen, hlex, hfew, hrows, q⟩ := h
  refine ⟨_, (pss_cons (ps_set (i := 1) nd rfl (Or.inl rfl) (pe_lst pa_nil))
 (pss_cons (ps_set (i := 2) nd rfl (Or.inl rfl) (pe_split (pv 0) pe_str))
 (pss_cons (ps_for PassesOwn.never rfl (pi_enum (by rfl) T.enumerate (pa_cons (pv 2) pa_nil)) (pg_tupK (K := K) (n := 2) rfl rfl (pgs_cons (pg_name (i := 3) nd rfl (Or.inl rfl)) (pgs_cons (pg_name (i := 4) nd rfl (Or.inl rfl)) pgs_nil)))
 (pss_cons (ps_set (i := 5) nd rfl (Or.inl rfl) pe_int)
 (pss_one (ps_while PassesOwn.never (pt_cmpR op_lt (pv 5) (pe_callB call_len_str (by rfl) T.len PySem.boot_len (pa_cons (pv 4) pa_nil)) (nomark _))
 (pss_one (ps_if (pt_cmpR op_in_sign (pe_ix ix_str (pv 4) (pv 5) (fun _ _ => rfl)) (pe_glob (v := .str " \n") (by rfl) c_SPACES ⟨_, rfl⟩) (by rfl))
 (pss_one (ps_aug (i := 5) nd rfl (Or.inl rfl) pe_int ip_add))
 (pss_cons (ps_set (i := 6) nd rfl (Or.inl rfl) (pe_call G_read_token (hr.mono (by first | decide | omega)) (by rfl) m_read_token kp_read_token b_read_token .nil pass0 (pa_cons (pv 4) (pa_cons (pv 3) (pa_cons (pv 5) pa_nil)))))
 (pss_cons (ps_expr (pe_bmK (K := K) rfl PySem.F.plainAttrs_list PySem.F.slot_list_append PySem.F.type_list_append mt_append (pv 1) (pa_cons (pv 6) pa_nil)))
 (pss_one (ps_aug (i := 5) nd rfl (Or.inl rfl) (pe_callB call_len_str (by rfl) T.len PySem.boot_len (pa_cons (pe_fldK (K := K) rfl (pv 6) rfl) pa_nil)) ip_add))))))))))
 (pss_one (ps_ret (pe_op op_cat (pv 1) (pe_lst (pa_cons (pe_make Mk_Token G_Token (hr.mono (by first | decide | omega)) (by rfl) mC_Token b_Token .nil pass0 (pa_cons (pe_glob (v := .str "end") (by rfl) c_END ⟨_, rfl⟩) (pa_cons pe_str (pa_cons (pe_callB (r := rLenS K) call_len_seq (by rfl) T.len PySem.boot_len (pa_cons (pv 2) pa_nil)) (pa_cons pe_int pa_nil))))) pa_nil)))))))), ?_⟩
  refine ⟨(by show 0 ≤ sizeLine; decide), fun p hp => ?_⟩
  have w1 := (Wd.refl H).new (.lst []) hp
  refine ⟨_, rfl, ⟨_, rfl⟩, z, "\n", rfl, rfl, rfl, hz, fun rr hrr => ?_⟩
  generalize hR : Txt.split z "\n" = rows at *
  have w2 := w1.new1 (.lst (rows.map V.str)) hrr
  have w2s := w2
  refine ⟨_, rfl, rr, rows.map V.str, rfl, SqL.of (w2.get 1 rfl), ?_⟩
  refine for_it (walk_enum (xs := rows.map V.str)) (fun i σ H1 => ∃ (L : List (Addr × (Str × Str))) (a b c d : Option V), σ = [some (.str z), some (.ref p), some (.ref rr), a, b, c, d] ∧
    Wd [] H H1 [(p, .lst (trefs L)), (rr, .lst (rows.map V.str))] ∧ Tks CT H1 L ∧ L.map (·.2) = (tss.take i).flatten) ?_ ?_ ?_ ?_
  · exact ⟨[], _, _, _, _, rfl, w2, Tks.nil, rfl⟩
  · rintro i σ H1 _ ⟨L, a, b, c, d, rfl, w, _⟩
    exact SqL.of (w.get 1 rfl)
  · rintro i x σ H1 H1' hi ⟨L, a, b, c, d, rfl, w3, hT, hL⟩ ⟨T0, x1, x2, rfl, hT0, rfl, e1, e2⟩
    cases e1
    obtain ⟨row, hrow, rfl⟩ : ∃ row, rows[i]? = some row ∧ x2 = V.str row := by
      have e3 : (rows.map V.str)[i]? = some x2 := e2
      rw [List.getElem?_map] at e3
      cases e : rows[i]? with
      | none => rw [e] at e3; cases e3
      | some b => rw [e] at e3; exact ⟨b, rfl, (Option.some.inj e3).symm⟩
    have hil : i < tss.length := by rw [← hlen]; exact (List.getElem?_eq_some_iff.mp hrow).1
    obtain ⟨ts, hts⟩ : ∃ ts, tss[i]? = some ts := ⟨_, List.getElem?_eq_getElem hil⟩
    obtain ⟨hrl, hx⟩ := hlex i row ts hrow hts
    have w4 := (w3.new (.tup [.int (i : Nat), .str row]) hT0)
    have hfl : (tss.take (i + 1)).flatten = (tss.take i).flatten ++ ts := by
      rw [List.take_succ, hts]; simp
    have hle : (tss.take (i + 1)).flatten.length ≤ tss.flatten.length := by
      conv => rhs; rw [← List.take_append_drop (i + 1) tss]
      rw [List.flatten_append, List.length_append]; omega
    refine ⟨T0, _, rfl, SqT.of (w4.get 0 rfl), rfl, _, _, rfl, _, _, rfl, rfl, ?_⟩
    refine while_by (fun σ H' => ∃ (L : List (Addr × (Str × Str))) (col : Nat) (d : Option V), σ = [some (.str z), some (.ref p), some (.ref rr), some (.int (i : Nat)), some (.str row), some (.int col), d] ∧
      Wd [] H H' [(p, .lst (trefs L)), (rr, .lst (rows.map V.str))] ∧ Tks CT H' L ∧ ∃ rest, LexR ((TL.tl row).drop col) rest ∧ L.map (·.2) ++ rest = (tss.take (i + 1)).flatten) (fun σ _ => row.length - (slotI σ 5).toNat)
      ⟨L, 0, d, rfl, w4.sub (by walk_at "sub"), hT.new hT0, ts, hx, by rw [hL, hfl]⟩ ?_ ?_
    · rintro σ H2 ⟨L2, col, d2, rfl, w5, hT2, rest, hx2, hL2⟩
      refine ⟨_, rfl, _, rfl, row, rfl, hrl, _, _, rfl, rfl, _, rfl, ?_⟩
      refine ite2 (fun hc => ?_) (fun hc => ?_)
      · have hlt : col < row.length := by have := of_decide_eq_true hc; omega
        have hlt' : col < (TL.tl row).length := by rw [← TL.len_tl]; exact hlt
        have hdr := List.drop_eq_getElem_cons hlt'
        have hget := List.getElem?_eq_getElem hlt'
        generalize (TL.tl row)[col] = c0 at hdr hget
        refine ⟨_, rfl, _, rfl, row, _, c0, rfl, rfl, hrl, atI_nat hget, c0, " \n", rfl, rfl, _, rfl, ?_⟩
        have fsp : decide (c0 ∈ (" \n" : Str).cps.toList) = decide (c0 = 32 ∨ c0 = 10) := by
          have e : (" \n" : Str).cps.toList = [32, 10] := by decide +kernel
          rw [e]; simp
        rw [fsp]
        rw [hdr] at hx2
        have hcols : (TL.tl row).drop (col + 1) = ((TL.tl row).drop col).drop 1 := by rw [List.drop_drop]
        refine ite2 (fun hs => ?_) (fun hs => ?_)
        · have hs := of_decide_eq_true hs
          refine ⟨_, rfl, _, _, rfl, rfl, ⟨L2, col + 1, d2, ?_, w5, hT2, rest, ?_, hL2⟩, ?_⟩
          · show [_, _, _, _, _, some (V.int ((col : Int) + 1)), _] = _
            rw [show (col : Int) + 1 = ((col + 1 : Nat) : Int) by omega]
          · cases hx2 with
            | space _ h => exact h
            | tok h => exact absurd hs h
          · show row.length - ((col : Int) + 1).toNat < row.length - ((col : Int)).toNat
            omega
        · have hs : ¬ (c0 = 32 ∨ c0 = 10) := fun h => hs (decide_eq_true h)
          cases hx2 with
          | space h => exact absurd h hs
          | @tok _ _ k t ts2 _ ht hx3 =>
          have hpos := tokAt_pos ht
          refine ⟨_, rfl, _, rfl, _, rfl, row, k, t, (i : Nat), col, rfl, hrl, by rw [hdr]; exact ht, fun x dx H3 c => ?_⟩
          have w6 := w5.call0 c
          have hT3 := (hT2.call c).snoc (w6.get 0 rfl)
          refine ⟨_, rfl, .inl ⟨rfl, _, SqL.of (w6.get 2 rfl)⟩, _, rfl, ?_⟩
          have hLl : (L2 ++ [(x, (k, t))]).length ≤ tss.flatten.length := by
            have := congrArg List.length hL2
            rw [List.length_append, List.length_map, List.length_cons] at this
            rw [List.length_append]
            show L2.length + 1 ≤ _
            omega
          refine ⟨p, _, _, rfl, rfl, w6.get 2 rfl, ?_, ?_⟩
          · rw [trefs_len]
            have hL9 : L2.length + 1 ≤ tss.flatten.length := by simpa using hLl
            exact Nat.lt_of_lt_of_le (m := 1000) (by omega) (by decide)
          have w7 := w6.put 2 (.lst (trefs L2 ++ [.ref x])) rfl (fun xs q => by cases q)
          have hT4 := hT3.put (p := p) (o := .lst (trefs L2 ++ [.ref x])) (w6.get 2 rfl) (fun _ _ q => by cases q)
          have hTx := hT4 (x, (k, t)) (by simp)
          obtain ⟨dx2, l2, c2, hTx⟩ := hTx
          have htl : t.length ≤ sizeLine := tokAt_len ht (by
            have h2 := congrArg List.length hdr
            rw [List.length_drop, ← TL.len_tl] at h2
            rw [← h2]
            exact Nat.le_trans (Nat.sub_le _ _) hrl)
          refine ⟨_, rfl, _, rfl, x, CT, dx2, _, _, rfl, hTx, TC.cl, TC.nt, tk_text k t _ _, t, rfl, htl, _, _, rfl, rfl, ⟨L2 ++ [(x, (k, t))], col + t.length, some (.ref x), ?_, ?_, hT4, ts2, ?_, ?_⟩, ?_⟩
          · show [_, _, _, _, _, some (V.int ((col : Int) + t.length)), _] = _
            rw [show (col : Int) + t.length = ((col + t.length : Nat) : Int) by omega]
          · have w8 := w7.sub (l' := [(p, HO.lst (trefs L2 ++ [.ref x])), (rr, .lst (rows.map V.str))]) (by walk_at "sub")
            have e : trefs (L2 ++ [(x, (k, t))]) = trefs L2 ++ [.ref x] := by simp [trefs]
            rw [e]; exact w8
          · rw [← hdr, List.drop_drop] at hx3
            exact hx3
          · rw [← hL2, List.map_append, List.append_assoc]; rfl
          · show row.length - ((col : Int) + t.length).toNat < row.length - ((col : Int)).toNat
            omega
      · have hge : (TL.tl row).drop col = [] := List.drop_eq_nil_of_le (by
          rw [← TL.len_tl]
          have : ¬ (col : Int) < row.length := fun h => hc (decide_eq_true h)
          omega)
        rw [hge] at hx2
        cases hx2
        rw [List.append_nil] at hL2
        exact ⟨L2, _, _, _, _, rfl, w5, hT2, hL2⟩
    · intro σ H Q Q' h hc
      obtain ⟨v5, e5, v4, e4, zz, ez, hzz, i1, i2, ei1, ei2, hc⟩ := hc
      refine ⟨v5, e5, v4, e4, zz, ez, hzz, i1, i2, ei1, ei2, ?_⟩
      obtain ⟨b, hb, hc⟩ := hc
      exact ⟨b, hb, h _ _ hc⟩
  · rintro σ H1 ⟨L, a, b, c, d, rfl, w3, hT, hL⟩
    rw [List.length_map, hlen, List.take_length] at hL
    refine ⟨_, rfl, _, rfl, rr, _, rfl, .inl (SqL.of (w3.get 1 rfl)), fun x dx hx hd ne => ?_⟩
    refine ⟨x, dx, _, _, _, _, rfl, upd_same, fun H2 c2 => ⟨rfl, (by show 1 ≤ sizeLine; decide), fun pl hpl => ?_⟩⟩
    have w4 := w3.call0 (tok_fin hx hd ne c2)
    have hT2 := (hT.call (tok_fin hx hd ne c2)).snoc (w4.get 0 rfl)
    have w5 := w4.new (.lst [V.ref x]) hpl
    have hT3 := hT2.new (o := .lst [V.ref x]) hpl
    have hLl : L.length = tss.flatten.length := by rw [← hL, List.length_map]
    refine ⟨p, pl, _, _, rfl, rfl, w5.get 3 rfl, w5.get 0 rfl, ?_, fun p2 hp2 => ?_⟩
    · rw [trefs_len, hLl]
      exact Nat.le_trans (m := 1000) (by show _ + 1 ≤ _; omega) (by decide)
    · refine q p2 (L ++ [(x, (("end" : Str), ("" : Str)))]) _ ?_ (hT3.new hp2) (by rw [List.map_append, hL]; rfl)
      have e : trefs (L ++ [(x, (("end" : Str), ("" : Str)))]) = trefs L ++ [.ref x] := by simp [trefs]
      rw [e]
      exact (w5.new (.lst (trefs L ++ [.ref x])) hp2).sub (.cons₂ _ (List.nil_sublist _))
end
end Br

namespace Br
open PySem PySem.Spec PyProof.Rows L2
section
variable {P : Program} {w : World} {K : PySem.W.Frag} {mg : Str → Option Value} {base : Heap}
theorem int_of_map {ns : List Int} {i : Nat} {y : V} (h : (ns.map V.int)[i]? = some y) : ∃ z, ns[i]? = some z ∧ y = V.int z := by
  rw [List.getElem?_map] at h
  cases e : ns[i]? with
  | none => rw [e] at h; cases h
  | some z => rw [e] at h; exact ⟨z, rfl, (Option.some.inj h).symm⟩
/-- a list that is read stands still -/
theorem Wd.seq {M : List Addr} {H0 H : Hp} {l : List (Addr × HO)} (w : Wd M H0 H l) {a : Addr} {xs : List V} (h : SqL K H0 a xs) (hm : a ∉ M) : SqL K H a xs := by
  rcases h with (h | ⟨o, h⟩) | h
  · exact .inl (.inl (w.base _ _ hm h))
  · exact .inl (.inr ⟨o, w.base _ _ hm h⟩)
  · exact .inr h
def spRandom (K : PySem.W.Frag) : Sp := fun vs H Q _ => ∃ (a : Addr) (ns : List Int) (salt : Int), vs = [.ref a, .int salt] ∧ 0 ≤ salt ∧ SqL K H a (ns.map V.int) ∧ ns.length ≤ 63 ∧
  ∀ (d : Addr) (x y : Int) (r : List Int) (H' : Hp), Wd [] H H' [(d, dl x y r)] → DOk x y r → Q (.ref d) H'
abbrev s_law_random : Stmt := topS 45
theorem sc_law_random : FnScope ["_law_script", "_law_salt", "_law_seed", "_law_cell"] ["_law_script", "_law_salt"] (defScope s_law_random) := ⟨rfl, rfl, rfl, by decide +kernel, rfl, by decide +kernel, by decide +kernel⟩
theorem cal_random (D : DefAt K mg "_law_random" s_law_random ["_law_script", "_law_salt"]) (T : Bi mg) : Cal P w K mg base 1 "_law_random" ["_law_script", "_law_salt"] (spRandom K) := D.cal fun f fd F => by
  have nd := sc_law_random.nd
  refine F.ok sc_law_random (fun vs H Q E h => ?_) (fun cdv A outer s H vs Q E hr h => ?_)
  · obtain ⟨a, ns, salt, rfl, _⟩ := h; rfl
  obtain ⟨a, ns, salt, rfl, hsalt, hS, hl, k⟩ := h
  refine ⟨_, (pss_cons (ps_set (i := 2) nd rfl (Or.inl rfl) (pv 1))
 (pss_cons (ps_for PassesOwn.never rfl (pi_listK (K := K) rfl (pv 0)) (pg_name (i := 3) nd rfl (Or.inl rfl))
 (pss_one (ps_set (i := 2) nd rfl (Or.inl rfl) (pe_op op_mod (pe_op op_add (pe_op op_mul (pv 2) pe_int) (pe_callB call_abs (by rfl) T.abs (by decide +kernel) (pa_cons (pv 3) pa_nil))) pe_int))))
 (pss_one (ps_ret (pe_op op_cat (pe_lst (pa_cons (pv 2) (pa_cons pe_int pa_nil))) (pe_lc (own := [("_law_cell", 3)]) rfl nd (pi_listK (K := K) rfl (pv 0)) (blkOk_by (N := ["_law_script", "_law_salt", "_law_seed", "_law_cell"]) (sc := defScope s_law_random) (by decide +kernel)) (fun _ _ _ _ _ => (pg_name (i := 3) nd rfl (Or.inl rfl))) (fun _ _ _ _ _ => (pts_one (pt_cmpR op_ge (pv 3) (pe_op op_pow pe_int pe_int) (nomark _)))) (fun _ _ _ _ _ => (pv 3)))))))), ?_⟩
  refine ⟨_, rfl, _, rfl, a, rfl, ⟨_, hS⟩, for_list (K := K) (a := a) (xs := ns.map V.int) (fun i σ H' => H' = H ∧ ∃ s v, 0 ≤ s ∧ σ = [some (.ref a), some (.int salt), some (.int s), v])
    ⟨rfl, salt, none, hsalt, rfl⟩ (fun i σ H' _ ⟨e, _⟩ => e ▸ hS) ?_ ?_⟩
  · rintro i y σ H' hi ⟨rfl, s, v, hs, rfl⟩
    obtain ⟨z, _, rfl⟩ := int_of_map hi
    refine ⟨_, rfl, _, _, rfl, rfl, .inr ⟨by decide, by decide⟩, _, rfl, _, rfl, _, _, rfl, rfl, _, _, rfl, rfl, (by show (0 : Int) < 2147483647; decide), ?_⟩
    exact ⟨rfl, _, _, Int.emod_nonneg _ (by decide), rfl⟩
  · rintro σ H' ⟨rfl, s, v, hs, rfl⟩
    refine ⟨_, rfl, (by show 2 ≤ sizeLine; decide), fun p hp => ?_⟩
    have w1 := (Wd.refl H').new (.lst [V.int s, V.int 0]) hp
    refine ⟨_, rfl, a, rfl, ⟨_, w1.seq hS (by simp)⟩, fun D hD => ?_⟩
    have w2 := w1.new (.lst []) hD
    refine lc_list (K := K) (a := a) (xs := ns.map V.int) (fun i H2 => ∃ r : List Int, Wd [] H' H2 [(D, .lst (r.map V.int)), (p, .lst [V.int s, V.int 0])] ∧ (∀ x ∈ r, 0 ≤ x) ∧ r.length ≤ i)
      ⟨[], w2, by simp, by simp⟩ (fun i H2 _ ⟨r, w3, _⟩ => w3.seq hS (by simp)) ?_ ?_
    · rintro i y H2 hi ⟨r, w3, hr0, hrl⟩
      obtain ⟨z, hz, rfl⟩ := int_of_map hi
      have hi63 := (List.getElem?_eq_some_iff.mp hz).1
      refine ⟨rfl, _, rfl, _, _, rfl, rfl, ⟨by decide, by decide, by decide⟩, _, _, rfl, rfl, _, rfl, ?_⟩
      refine ite2 (fun hc => ?_) (fun _ => ⟨r, w3, hr0, by omega⟩)
      have hc' : (10 : Int) ^ (18 : Int).toNat ≤ z := of_decide_eq_true hc
      have z0 : 0 ≤ z := Int.le_trans (by decide) hc'
      refine ⟨_, rfl, _, w3.get 0 rfl, (by rw [List.length_map]; show r.length < sizeLine; exact Nat.lt_of_le_of_lt hrl (Nat.lt_of_lt_of_le hi63 (Nat.le_trans hl (by decide)))), r ++ [z], ?_, ?_, ?_⟩
      · have := w3.put 0 (.lst ((r ++ [z]).map V.int)) rfl (fun xs q => by cases q)
        rw [List.map_append] at this ⊢
        exact this
      · intro x hx
        rcases List.mem_append.mp hx with hx | hx
        · exact hr0 x hx
        · rw [List.mem_singleton.mp hx]; exact z0
      · simp; omega
    · rintro H2 ⟨r, w3, hr0, hrl⟩
      have hrl' : r.length ≤ 63 := by rw [List.length_map] at hrl; omega
      refine ⟨p, D, _, _, rfl, rfl, w3.get 1 rfl, w3.get 0 rfl, (by rw [List.length_map]; exact Nat.le_trans (Nat.add_le_add_left hrl' 2) (by decide)), fun q hq => ?_⟩
      refine k q s 0 r _ ?_ ⟨hs, by omega, hr0⟩
      exact (w3.new (dl s 0 r) hq).sub (by simp)
end
end Br

namespace Br
open PySem PySem.Spec PyProof.Rows L2
section
variable {P : Program} {w : World} {K : PySem.W.Frag} {mg : Str → Option Value} {base : Heap}
def listLen (H : Hp) : Option (Option V) → Nat
  | some (some (.ref p)) => match H p with
    | some (.lst l) => l.length
    | _ => 0
  | _ => 0
/-- an int or a text -/
def IS : V → Prop
  | .int _ => True
  | .str s => PySem.PyData.strOk s = true
  | _ => False
def spShuffled (K : PySem.W.Frag) : Sp := fun vs H Q _ => ∃ (d a : Addr) (x y : Int) (r : List Int) (xs : List V), vs = [.ref d, .ref a] ∧ (SqL K H a xs ∨ SqT K H a xs) ∧ H d = some (dl x y r) ∧ DOk x y r ∧ (∀ v ∈ xs, IS v) ∧ xs.length ≤ 1000 ∧
  ∀ (ys : List V) (p : Addr) (x' y' : Int) (r' : List Int) (H' : Hp), Wd [d] H H' [(d, dl x' y' r'), (p, .lst ys)] → DOk x' y' r' → ys.Perm xs → Q (.ref p) H'
def dataOf : V → PyData
  | .int i => .int i
  | .str s => .str s
  | _ => .none
theorem dp_all {H : Hp} : ∀ {xs : List V}, (∀ v ∈ xs, IS v) → DpAll K H xs (xs.map dataOf)
  | [], _ => .nil
  | v :: vs, h => by
    refine .cons ?_ (dp_all fun u hu => h u (List.mem_cons_of_mem _ hu))
    have := h v List.mem_cons_self
    cases v <;> first | exact .int _ | exact .str _ | exact False.elim this
theorem lay_all : ∀ {xs : List V}, (∀ v ∈ xs, IS v) → PyData.canLayAll0 (xs.map dataOf) = true
  | [], _ => rfl
  | v :: vs, h => by
    have h1 := h v List.mem_cons_self
    have h2 := lay_all (xs := vs) fun u hu => h u (List.mem_cons_of_mem _ hu)
    rw [List.map_cons, PyData.canLayAll0, h2, Bool.and_true]
    cases v <;> first | rfl | exact h1 | exact False.elim h1
theorem depth_all : ∀ {xs : List V}, PyData.depthAll (xs.map dataOf) = 0
  | [] => rfl
  | v :: vs => by
    rw [List.map_cons, PyData.depthAll, depth_all (xs := vs)]
    cases v <;> rfl
theorem shaped_list {xs : List V} (h : ∀ v ∈ xs, IS v) : SeqAt.shaped (.list (xs.map dataOf)) = true := by
  unfold SeqAt.shaped
  rw [PyData.canLay0, lay_all h, PyData.depth, depth_all]; rfl
theorem eqv_nil (ds : List PyData) : PyData.eqv (.list ds) (.list []) = ds.isEmpty := by
  rw [PyData.eqv]; cases ds <;> rfl
theorem erase_perm {α : Type} {l : List α} {i : Nat} {y : α} (h : l[i]? = some y) : (y :: l.eraseIdx i).Perm l := by
  induction l generalizing i with
  | nil => simp at h
  | cons a r ih =>
    cases i with
    | zero => simp at h; subst h; exact .refl _
    | succ i => exact (List.Perm.swap a y _).trans ((ih (by simpa using h)).cons a)
abbrev s_law_shuffled : Stmt := topS 48
theorem sc_law_shuffled : FnScope ["_law_d", "_law_items", "_law_pool", "_law_result"] ["_law_d", "_law_items"] (defScope s_law_shuffled) := ⟨rfl, rfl, rfl, by decide +kernel, rfl, by decide +kernel, by decide +kernel⟩
theorem cal_shuffled (D : DefAt K mg "_law_shuffled" s_law_shuffled ["_law_d", "_law_items"]) (T : Bi mg) (C1 : Cal P w K mg base 1 "_law_below" ["_law_d", "_law_limit"] spBelow) : Cal P w K mg base 2 "_law_shuffled" ["_law_d", "_law_items"] (spShuffled K) := D.cal fun f fd F => by
  have nd := sc_law_shuffled.nd
  obtain ⟨f_below, fd_below, m__law_below, kp__law_below, b__law_below, G__law_below⟩ := C1.ex
  refine F.ok sc_law_shuffled (fun vs H Q E h => ?_) (fun cdv A outer s H vs Q E hr h => ?_)
  · obtain ⟨d, a, x, y, r, xs, rfl, _⟩ := h; rfl
  obtain ⟨d, a, x, y, r, xs, rfl, hS, hd, ok, his, hl, k⟩ := h
  have hu := hr.units
  refine ⟨_, (pss_cons (ps_set (i := 2) nd rfl (Or.inl rfl) (pe_callTy (r := rListOf K) call_list_of (by rfl) T.list (by decide +kernel) (pa_cons (pv 1) pa_nil)))
 (pss_cons (ps_set (i := 3) nd rfl (Or.inl rfl) (pe_lst pa_nil))
 (pss_cons (ps_while PassesOwn.never (pt_cmpR (r := rNeD K) (op_neD hu) (pv 2) (pe_lst pa_nil) (nomark _))
 (pss_one (ps_expr (pe_bmK (K := K) rfl PySem.F.plainAttrs_list PySem.F.slot_list_append PySem.F.type_list_append mt_append (pv 3) (pa_cons (pe_bmK (K := K) rfl PySem.F.plainAttrs_list PySem.F.slot_list_pop PySem.F.type_list_pop mt_popAt (pv 2) (pa_cons (pe_call G__law_below (hr.mono (by first | decide | omega)) (by rfl) m__law_below kp__law_below b__law_below .nil pass0 (pa_cons (pv 0) (pa_cons (pe_callB (r := rLenS K) call_len_seq (by rfl) T.len PySem.boot_len (pa_cons (pv 2) pa_nil)) pa_nil))) pa_nil)) pa_nil)))))
 (pss_one (ps_ret (pv 3)))))), ?_⟩
  refine ⟨_, rfl, _, _, rfl, hS, fun pl hpl => ?_⟩
  have w1 := (Wd.start1 hd).new1 (.lst xs) hpl
  refine ⟨Nat.zero_le _, fun rs hrs => ?_⟩
  have w2 := w1.new1 (.lst []) hrs
  refine while_by (fun σ H' => ∃ (pool res : List V) (x y : Int) (r : List Int), σ = [some (.ref d), some (.ref a), some (.ref pl), some (.ref rs)] ∧ Wd [d] H H' [(d, dl x y r), (rs, .lst res), (pl, .lst pool)] ∧ DOk x y r ∧ (res ++ pool).Perm xs) (fun σ H => listLen H σ[2]?)
    ⟨xs, [], x, y, r, rfl, w2, ok, .refl _⟩ ?_ ?_
  · rintro σ H1 ⟨pool, res, x, y, r, rfl, w3, ok, hp⟩
    have hm : ∀ v ∈ pool, IS v := fun v hv => his v (hp.mem_iff.mp (List.mem_append_right _ hv))
    refine ⟨_, rfl, Nat.zero_le _, fun e he => ?_⟩
    have w4 := (w3.new1 (.lst []) he)
    refine ⟨.list (pool.map dataOf), .list [], .lst (SqL.of (w4.get 3 rfl)) (dp_all hm), .lst (SqL.of (w4.get 1 rfl)) .nil, shaped_list hm, rfl, _, rfl, ?_⟩
    rw [eqv_nil]
    cases pool with
    | nil =>
      refine iteF ?_
      refine ⟨_, rfl, ?_⟩
      rw [List.append_nil] at hp
      exact k res rs x y r _ (w4.sub (by simp)) ok hp
    | cons v0 vs0 =>
      refine iteT ?_
      have hlen : (v0 :: vs0).length ≤ 1000 := by
        have := hp.length_eq
        rw [List.length_append] at this
        omega
      have hlen0 : 0 < (v0 :: vs0).length := Nat.succ_pos _
      have hres : res.length < 1000 := by
        have := hp.length_eq
        rw [List.length_append] at this
        omega
      generalize v0 :: vs0 = pool at *
      refine ⟨_, rfl, .inl ⟨rfl, _, SqL.of (w4.get 2 rfl)⟩, _, rfl, .inl ⟨rfl, _, SqL.of (w4.get 3 rfl)⟩, _, rfl, _, rfl, pl, pool, rfl, .inl (SqL.of (w4.get 3 rfl)), ?_⟩
      refine ⟨d, _, x, y, r, rfl, by omega, by omega, w4.get 0 rfl, ok, fun i x' y' r' H2 c ok' hi0 hi1 => ?_⟩
      have w5 := w4.call1 (fun xs q => by cases q) c
      obtain ⟨j, rfl⟩ : ∃ j : Nat, i = j := ⟨i.toNat, by omega⟩
      have hj : j < pool.length := by omega
      refine ⟨pl, pool, j, j, pool[j], rfl, rfl, w5.get 3 rfl, by omega, by omega, ?_, List.getElem?_eq_getElem hj, ?_⟩
      · simp [seqIndex?]; omega
      have w6 := w5.put 3 (.lst (pool.eraseIdx j)) rfl (fun xs q => by cases q)
      refine ⟨rs, res, pool[j], rfl, rfl, w6.get 2 rfl, Nat.lt_trans hres (by decide), ?_⟩
      have w7 := w6.put 2 (.lst (res ++ [pool[j]])) rfl (fun xs q => by cases q)
      refine ⟨⟨pool.eraseIdx j, res ++ [pool[j]], x', y', r', rfl, w7.sub (by simp), ok', ?_⟩, ?_⟩
      · refine List.Perm.trans ?_ hp
        rw [List.append_assoc]
        exact (erase_perm (List.getElem?_eq_getElem hj)).append_left res
      · have h1 := w7.get 3 rfl
        have h2 := w3.get 2 rfl
        show listLen _ (some (some (.ref pl))) < listLen _ (some (some (.ref pl)))
        unfold listLen
        simp only [h1, h2]
        rw [List.length_eraseIdx]
        split <;> omega
  · intro σ H Q Q' h hc
    obtain ⟨v, e, z, q⟩ := hc
    exact ⟨v, e, z, fun p hp => by
      obtain ⟨d, e, h1, h2, h3, h4, c, h5, h6⟩ := q p hp
      exact ⟨d, e, h1, h2, h3, h4, c, h5, h _ _ h6⟩⟩
end
end Br

/-! x == [] for a list of any things. -/
namespace Br
open PySem PySem.Spec PyProof.Rows L2
section
variable {X : Cx}
def rEqN (K : PySem.W.Frag) : R2 := fun x y H Q => ∃ a b xs, x = .ref a ∧ y = .ref b ∧ SqL K H a xs ∧ SqL K H b [] ∧ Q (.bl xs.isEmpty) H
theorem op_eqNil (hu : X.A.units < cLine) : OpR X (compareOp .Eq) (rEqN X.K) := by
  intro pins s σ H x y v u Q I rx ry h
  obtain ⟨a, b, xs, rfl, rfl, ha, hb, q⟩ := h
  cases rx
  cases ry
  obtain ⟨its, r1, ⟨o1, n1, p1, c1, d1, e1⟩, z1⟩ := I.list ha
  obtain ⟨jts, r2, ⟨o2, n2, p2, c2, d2, e2⟩, z2⟩ := I.list hb
  cases r2
  have hl : s.heap.IsList a its.toArray := ⟨o1, p1, c1, n1, e1⟩
  have hb' : s.heap.IsList b (([] : List Value).toArray) := ⟨o2, p2, c2, n2, e2⟩
  cases r1 with
  | nil =>
    refine PySem.SeqAt.eq_listAt (e := fun _ => true) hl hb' rfl hu (fun j h1 => ?_) ⟨.bl true, H, I, rfl, q⟩
    simp at h1
  | cons h t =>
    refine PySem.SeqAt.eq_list_lengthsAt hl hb' (by simp) hu ⟨.bl false, H, I, rfl, q⟩
theorem op_eqNil2 (hu : X.A.units + 64 < cLine) : OpR X (compareOp .Eq) (rEqN X.K) := op_eqNil (by omega)
theorem set_dict2 (hu : X.A.units + 64 < cLine) : PSet X rSetD := set_dict (by omega)
abbrev rTIndex (K : PySem.W.Frag) : V → List V → Hp → VK → Prop := fun x xs H Q => ∃ p, ∃ ys : List Str, ∃ z j, x = .ref p ∧ xs = [.str z] ∧ SqT K H p (ys.map V.str) ∧ ys[j]? = some z ∧ (∀ m, m < j → ys[m]? ≠ some z) ∧ Q (.int (j : Nat)) H
end
end Br

/-! tuple(xs) told to be without a dict of its own; t.index(z) of such a tuple. -/
namespace Br
open PySem PySem.Spec PyProof.Rows L2
section
variable {X : Cx}
/-- tuple(a list): a new tuple, locked, of which it is known that it has no dict -/
abbrev rTupOfF (K : PySem.W.Frag) : List V → Hp → VK → Prop := fun xs H Q => ∃ p ys, xs = [.ref p] ∧ SqL K H p ys ∧ ∀ l o, o.dict = none → H l = none → Q (.ref l) (upd H l (.frz o (.tup ys)))
theorem call_tuple_ofF : CallR X (.type "tuple") (rTupOfF X.K) := by
  intro pins s σ H xs us Q I r h
  obtain ⟨p, ys, rfl, hq, q⟩ := h
  obtain ⟨u, rfl, rx⟩ := vals1 r
  cases rx
  obtain ⟨its, r', pl, hz⟩ := I.list hq
  have hlen := r'.length
  refine call_tuple_list pl.isList (fun h2 kp => ?_) (by simp only [List.size_toArray] <;> omega)
  have I1 : Inv X pins σ H { s with heap := h2 } := I.kept (t' := s.toks) kp
  have hpush := Heap.get?_push_size h2 (o := { cls := .type "tuple", data := .seq its.toArray }) rfl
  have I2 : Inv X pins σ (upd H h2.objs.size (.frz { cls := .type "tuple", data := .seq its.toArray } (.tup ys))) { s with heap := h2.push { cls := .type "tuple", data := .seq its.toArray } } :=
    I1.laid (t' := s.toks) (fun b o e => Heap.get?_push_of_some _ e) (Nat.le_refl _) (show ObjOk X.prog X.w _ _ _ (.frz _ (.tup ys)) from ⟨hpush, hz, its, r', IsTup.new _ _⟩)
  exact ⟨.ref h2.objs.size, _, I2, rfl, q _ _ rfl (I1.hok.fresh (Nat.le_refl _))⟩
/-- the receiver is such a tuple -/
def tBMF (r : V → List V → Hp → VK → Prop) (to : TE) (t : TA) : TE := fun σ H Q => to σ H fun x H1 => (∃ a o xs, x = .ref a ∧ o.dict = none ∧ H1 a = some (.frz o (.tup xs))) ∧ t σ H1 fun xs H2 => r x xs H2 Q
variable {o e : Expr} {es : List Expr} {to : TE} {t : TA} {name : Str} {apos cpos : Pos} {id : String} {r : V → List V → Hp → VK → Prop}
theorem pe_bmF (slot : Slot "tuple" name id) (hty : typeOf (.builtin id) = pure (.type "method_descriptor")) (hm : MtR X id r) (ho : PE X o to) (ha : PA X (e :: es) t)
    (hb : attributeBase o name X.env (eval o X.env) = eval o X.env := by rfl)
    (hf : ((backTo cpos (starEach (e :: es) X.env)).all (fun x => !x.1) && (backToKw cpos (keywordEach [] X.env)).all (fun x => x.1.isSome) && decide ((e :: es).length + ([] : List Keyword).length + (if ([] : List Keyword).isEmpty then 0 else 1) < 30)) = true := by rfl)
    (hn : (apos.endLine == cpos.line) = true := by rfl) (hs : starEach (e :: es) X.env = (false, eval e X.env) :: starEach es X.env := by rfl) (hp : (backTo cpos (starEach es X.env)).any (·.1) = false := by rfl) :
    PE X (.Call (.Attribute o name apos) (e :: es) [] cpos) (tBMF r to t) := by
  refine ⟨fun pins s σ H Q I h => ?_⟩
  refine wpAny_Call_method_late hb hf hn rfl (thn (ho.run pins s σ H _ I h) fun v s1 ⟨x, H1, I1, r1, ⟨a, ob, xs, ex, hd, hfz⟩, q1⟩ => ?_)
  subst ex
  cases r1
  obtain ⟨g1, _, its, _, ⟨o2, p2, c2, n2, d2⟩⟩ := I1.hok a _ hfz
  refine ⟨"tuple", id, PySem.F.plainAttrs_tuple, slot, hty, ⟨o2, p2, c2⟩, fun b eb => ?_, ?_⟩
  · cases eb; exact ⟨ob, g1, hd⟩
  · have hA := ha.run cpos pins s1 σ H1 _ I1 q1
    rw [hs] at hA ⊢
    refine Calls.callWith_builtin (by show (false || (backTo cpos (starEach es X.env)).any (·.1)) = false; rw [hp]; rfl) (Calls.evalArgs_plain ?_)
    exact thn hA fun us s2 ⟨vs, H2, I2, r2, q2⟩ => hm pins s2 σ H2 (.ref a) vs (.ref a) us Q I2 rfl r2 q2
end
end Br

/-! set(xs) of a list of ints; sorted of such a set is the layer's own. -/
namespace Br
open PySem PySem.Spec PyProof.Rows L2
section
variable {P : Program} {w : World} {A : Around} {E : Value → Shared → Prop} {s : Shared}
abbrev emp (w : World) : Obj := { cls := .type "set", dict := none, data := .set #[] 0 (.fresh 0 0 (!w.params.followText "set-order")) }
abbrev itO (l : Addr) : Obj := { cls := .type "list_iterator", data := .fields #[.ref l, .int 0 0] }
theorem call_set_ints {l : Addr} {vs : Array Value} (ns : List Int) {Q : Value → Shared → Prop} (calm : A.handled = none) (hl : s.heap.IsList l vs) (hv : IntsAre vs.toList ns) (room : ns.length + 1 < scanBound)
    (out : ∀ (h' : Heap) (tk c : Nat), SetR w h' s.heap.objs.size (fun j => decide (j ∈ ns)) c → c ≤ ns.length → (∀ b o, s.heap.get? b = some o → h'.get? b = some o) → Q (.ref s.heap.objs.size) { s with heap := h', toks := tk }) :
    wpAny (model P w) A (call (.type "set") [.ref l]) Q E s := by
  have size : vs.size = ns.length := by simpa using IntsAre.length hv
  have ⟨c, tl, mro1⟩ := F.called_set.mro
  have k1 := F.called_set.made; have k2 := F.called_set.sub
  apply wpAny_call; apply codeAny_of_tree
  change wpAny _ _ (callAny (.type "set") _) _ _ _
  apply wpAny_pure
  refine ⟨Code.quiet_builtin _ (by decide +kernel), codeAny_builtin F.entry_type_call ?_⟩
  rw [Around.under_plain (weight_type_call_type "set" [.ref l] []) rfl]
  have k3 := F.called_set.notType; have k4 := F.called_set.canCreate
  have k5 := F.typeCall_set_1 (.ref l)
  repeat (any_goals (first | assumption | wp_step))
  apply codeAny_mono (code_set_led1 (.ref l) (E := E) (Q₁ := fun v t => v = .ref s.heap.objs.size ∧ t = { s with heap := s.heap.push (emp w) }) ⟨rfl, rfl⟩)
  intro r t hr
  cases r with
  | error e => exact hr
  | ok fl =>
  cases fl with
  | ret v =>
    obtain ⟨rfl, rfl⟩ := hr
    have at1 : (s.heap.push (emp w)).get? s.heap.objs.size = some (emp w) := Heap.get?_push_size _ rfl
    have ty1 : Shared.TypeIs { s with heap := s.heap.push (emp w) } (.ref s.heap.objs.size) "set" := ⟨_, at1, rfl⟩
    have i1 := F.called_set.init.lookup; have i2 := F.called_set.init.bind (.ref s.heap.objs.size)
    repeat (any_goals (first | assumption | wp_step))
    refine codeAny_mono (codeAny_call_builtin (R := wants (fun r t => r = .none ∧ ∃ h' tk c, t = { s with heap := h', toks := tk } ∧ SetR w h' s.heap.objs.size (fun j => decide (j ∈ ns)) c ∧ c ≤ ns.length ∧ (∀ b o, s.heap.get? b = some o → h'.get? b = some o)) E)
      F.called_set.init.plain F.entry_set_init (check_set_init_1 ty1 ?_)) fun r2 t2 hr2 => ?_
    · obtain ⟨⟨q1, q2, q3, q4⟩, hob, hcl, m, hda⟩ := hl
      simp only at hcl hda
      subst hcl hda
      have hob2 : (s.heap.push (emp w)).get? l = some { cls := .type "list", dict := q2, data := .seq vs m, slots := q4 } := Heap.get?_push_of_some _ hob
      have u1 := F.sub_list_set; have u2 := F.sub_list_frozenset
      have u3 : (Value.type "list" == Value.type "dict") = false := by decide
      have li : (s.heap.push (emp w)).IsList l vs := ⟨_, hob2, rfl, m, rfl⟩
      unfold Builtin.«set.__init__» noKeywords Builtin.Frozenset.updateFrom
      generalize hPI : pyIter = PI
      wp_walk
      subst hPI
      apply wpAny_pyIter_list li
      apply wpAny_bind; apply wpAny_runValue
      have lt1 : l < s.heap.objs.size := Heap.lt_size hob
      have calm3 : A.in1.in1.in1.handled = none := by simp [calm]
      have ne1 : l ≠ (s.heap.push (emp w)).objs.size := by
        rw [Heap.size_push]; exact Nat.ne_of_lt (Nat.lt_succ_of_lt lt1)
      have no1 : s.heap.objs.size ∉ [(s.heap.push (emp w)).objs.size, l] := by
        rw [Heap.size_push]
        intro z
        rcases List.mem_cons.mp z with z | z
        · exact absurd z (Nat.ne_of_lt (Nat.lt_succ_self _))
        · exact absurd (List.mem_singleton.mp z) (Nat.ne_of_gt lt1)
      have items : ∀ (i : Nat) (v : Value), vs[i]? = some v → ∃ k t, ns[i]? = some k ∧ v = .int k t := fun i v h => by
        have hi : i < ns.length := by rw [← size]; exact (Array.getElem?_eq_some_iff.mp h).1
        obtain ⟨t, e⟩ := PyProof.Rows.IntsAre.int_at hv i v (by rw [Array.getElem?_toList]; exact h)
        refine ⟨ns[i], t, List.getElem?_eq_getElem hi, ?_⟩
        rw [e, List.getD_eq_getElem?_getD, List.getElem?_eq_getElem hi]; rfl
      refine set_update_ints ((Walks.list calm3 _ l ne1 vs).toS) s.heap.objs.size no1 ns size room items (vs.size - 0) 0 _ (by omega) (Nat.zero_le _)
        ⟨⟨_, Heap.get?_push_size _ rfl, rfl, rfl⟩, (li.push _)⟩ ?first ?last
      case first =>
        have : ((s.heap.push (emp w)).push (itO l)).get? s.heap.objs.size = some (emp w) := Heap.get?_push_of_some _ at1
        exact ⟨0, Nat.le_refl 0, setR_new_at this⟩
      case last =>
        rintro ⟨h', g2, d2, tk2, o2⟩ c2 mv hc2 R2
        have e1 : g2 = s.gens := mv.gens
        have e2 : d2 = s.drawn := mv.drawn
        have e3 : o2 = s.os := mv.os
        subst e1 e2 e3
        change wpAny _ _ _ _ _ _
        apply wpAny_pure
        change wpAny _ _ (ret Value.none) _ _ _
        rw [size] at hc2
        refine wpAny_pure ⟨rfl, h', tk2, c2, rfl, R2, hc2, fun b o e => ?_⟩
        have b0 : b < s.heap.objs.size := Heap.lt_size e
        refine mv.heap b o (fun z => ?_) (Heap.get?_push_of_some _ (Heap.get?_push_of_some _ e))
        rcases List.mem_cons.mp z with z | z
        · exact absurd z (Nat.ne_of_lt b0)
        · rw [List.mem_singleton.mp z, Heap.size_push] at b0
          exact absurd (Nat.lt_of_succ_lt b0) (Nat.lt_irrefl _)
    · cases r2 with
      | error e => exact hr2
      | ok f2 =>
        cases f2 with
        | ret v2 =>
          obtain ⟨rfl, h', tk, c2, rfl, R2, hc2, kp⟩ := hr2
          repeat (any_goals (first | assumption | wp_step))
          exact out _ _ _ R2 hc2 kp
        | _ => exact hr2.elim
  | _ => exact hr.elim
end
section
variable {X : Cx}
def rSetI (K : PySem.W.Frag) (w : World) : List V → Hp → VK → Prop := fun xs H Q => ∃ (l : Addr) (ns : List Int), xs = [V.ref l] ∧ SqL K H l (ns.map V.int) ∧ ns.length ≤ 1000 ∧
  ∀ (a : Addr) (c : Nat), H a = none → c ≤ ns.length → Q (.ref a) (upd H a (SetO w a (fun j => decide (j ∈ ns)) c))
theorem cr_setI (hc : X.calm = true) : CallR X (.type "set") (rSetI X.K X.w) := by
  intro pins s σ H xs us Q I r h
  obtain ⟨l, ns, rfl, hl, hn, q⟩ := h
  rw [Vals.ref1 r]
  obtain ⟨its, rv, pl, hz⟩ := I.list hl
  refine call_set_ints ns (I.ok.hd hc) pl.isList (by simpa using rv.ints) (by unfold scanBound; omega) fun h' tk c R hcn k => ?_
  have hf : H s.heap.objs.size = none := I.hok.fresh (Nat.le_refl _)
  exact ⟨.ref _, upd H s.heap.objs.size (SetO X.w s.heap.objs.size (fun j => decide (j ∈ ns)) c), I.laid (t' := tk) k (Nat.le_refl _) (setO_new R), rfl, q _ c hf hcn⟩
end
end Br

namespace Br
open PySem PySem.Spec PyProof.Rows L2
/-- a rota, as plain data -/
structure Rota where
  names : List Str
  turns : List Int
  weights : List Int
  aways : List (Int × Int × Int)
  makers : List Int
def tri (t : Int × Int × Int) : List V := [.int t.1, .int t.2.1, .int t.2.2]
/-- tuples of three ints -/
def AwAt (H : Hp) : List Addr → List (Int × Int × Int) → Prop := Paired fun a t => H a = some (.tup (tri t))
/-- the names: a tuple that is known to have no dict -/
def NmT (H : Hp) (a : Addr) (ns : List Str) : Prop := ∃ o : Obj, o.dict = none ∧ H a = some (.frz o (.tup (ns.map V.str)))
def Le (H H' : Hp) : Prop := ∀ b o, H b = some o → H' b = some o
theorem Wd.le {H H' : Hp} {l : List (Addr × HO)} (w : Wd [] H H' l) : Le H H' := fun b o e => w.base b o (by simp) e
theorem NmT.sq {K : PySem.W.Frag} {H : Hp} {a : Addr} {ns : List Str} (h : NmT H a ns) : SqT K H a (ns.map V.str) := by
  obtain ⟨o, _, e⟩ := h; exact .inl (.inr ⟨o, e⟩)
theorem NmT.le {H H' : Hp} (k : Le H H') {a : Addr} {ns : List Str} (h : NmT H a ns) : NmT H' a ns := by
  obtain ⟨o, d, e⟩ := h; exact ⟨o, d, k _ _ e⟩
def RotaAt (H : Hp) (a : Addr) (r : Rota) : Prop := ∃ (an at_ aw aa am : Addr) (as : List Addr), H a = some (.tup [.ref an, .ref at_, .ref aw, .ref aa, .ref am]) ∧ NmT H an r.names ∧
  H at_ = some (.tup (r.turns.map V.int)) ∧ H aw = some (.tup (r.weights.map V.int)) ∧ H aa = some (.tup (as.map V.ref)) ∧ AwAt H as r.aways ∧ H am = some (.tup (r.makers.map V.int))
def six : List Str := ["a", "b", "cc", "longname", "x", "zed"]
/-- what may be a name -/
def NmF (z : Str) : Prop := (∀ c ∈ z.cps.toList, c ∈ ("abcdefghijklmnopqrstuvwxyz" : Str).cps.toList) ∧ 1 ≤ z.length ∧ z.length ≤ 8 ∧ z ∉ (["people", "turns", "weights", "away", "of", "makeup"] : List Str)
theorem six_nmf : ∀ x ∈ six, NmF x := by unfold NmF; decide +kernel
def lexLt (s t : Int × Int × Int) : Prop := s.1 < t.1 ∨ s.1 = t.1 ∧ (s.2.1 < t.2.1 ∨ s.2.1 = t.2.1 ∧ s.2.2 < t.2.2)
def AwOk (n : Int) (t : Int × Int × Int) : Prop := 0 ≤ t.1 ∧ t.1 < n ∧ 0 ≤ t.2.1 ∧ t.2.1 < t.2.2 ∧ t.2.2 ∈ ([2, 3, 4, 6, 8, 12] : List Int)
/-- a rota of the laws' make -/
structure ROk (r : Rota) : Prop where
  n1 : 1 ≤ r.names.length
  n6 : r.names.length ≤ 6
  nd : r.names.Nodup
  six : ∀ x ∈ r.names, NmF x
  t0 : ∀ t ∈ r.turns, 0 ≤ t ∧ t < r.names.length
  tall : ∀ k : Nat, k < r.names.length → (k : Int) ∈ r.turns
  t12 : r.turns.length ≤ 12
  wl : r.weights.length = r.names.length
  w0 : ∀ x ∈ r.weights, 1 ≤ x ∧ x ≤ 9
  asc : r.aways.Pairwise lexLt
  a6 : r.aways.length ≤ 20
  a0 : ∀ t ∈ r.aways, AwOk r.names.length t
  masc : r.makers.Pairwise (· < ·)
  m0 : ∀ k ∈ r.makers, 0 ≤ k ∧ k < r.names.length
theorem AwAt.keep {H H' : Hp} (k : ∀ b xs, H b = some (.tup xs) → H' b = some (.tup xs)) : ∀ {as : List Addr} {ts : List (Int × Int × Int)}, AwAt H as ts → AwAt H' as ts
  | _, _, .nil => .nil
  | _, _, .cons h t => .cons (k _ _ h) (AwAt.keep k t)
theorem RotaAt.le {H H' : Hp} (k : Le H H') {a : Addr} {r : Rota} (h : RotaAt H a r) : RotaAt H' a r := by
  obtain ⟨an, at_, aw, aa, am, as, h1, h2, h3, h4, h5, h6, h7⟩ := h
  exact ⟨an, at_, aw, aa, am, as, k _ _ h1, h2.le k, k _ _ h3, k _ _ h4, k _ _ h5, h6.keep fun b xs => k b _, k _ _ h7⟩
theorem AwAt.length {H : Hp} : ∀ {as : List Addr} {ts : List (Int × Int × Int)}, AwAt H as ts → as.length = ts.length
  | _, _, .nil => rfl
  | _, _, .cons _ t => by rw [List.length_cons, List.length_cons, AwAt.length t]
theorem AwAt.append {H : Hp} : ∀ {as bs : List Addr} {ts us : List (Int × Int × Int)}, AwAt H as ts → AwAt H bs us → AwAt H (as ++ bs) (ts ++ us)
  | _, _, _, _, .nil, h => h
  | _, _, _, _, .cons h t, h' => .cons h (AwAt.append t h')
theorem pick {ns : List Int} {i : Int} (h0 : 0 ≤ i) (h1 : i < ns.length) : ∃ m ∈ ns, atI (ns.map V.int) i = some (V.int m) := by
  obtain ⟨j, rfl⟩ : ∃ j : Nat, i = j := ⟨i.toNat, by omega⟩
  have hj : j < ns.length := by omega
  exact ⟨ns[j], List.getElem_mem hj, atI_nat (by rw [List.getElem?_map, List.getElem?_eq_getElem hj]; rfl)⟩
theorem cut_take (xs : List V) {k : Int} (h : 0 ≤ k) : cutV xs none (some k) = xs.take k.toNat := by
  obtain ⟨j, rfl⟩ : ∃ j : Nat, k = j := ⟨k.toNat, by omega⟩
  unfold cutV
  rw [HT.sIx_none, HT.sIx_nat, List.drop_zero, Nat.sub_zero, Int.toNat_natCast]
  by_cases c : j ≤ xs.length
  · rw [Nat.min_eq_left c]
  · rw [Nat.min_eq_right (by omega), List.take_of_length_le (Nat.le_refl _), List.take_of_length_le (by omega)]
theorem cut_drop (xs : List V) {k : Int} (h : 0 ≤ k) : cutV xs (some k) none = xs.drop k.toNat := by
  obtain ⟨j, rfl⟩ : ∃ j : Nat, k = j := ⟨k.toNat, by omega⟩
  unfold cutV
  rw [HT.sIx_none, HT.sIx_nat, Int.toNat_natCast]
  by_cases c : j ≤ xs.length
  · rw [Nat.min_eq_left c]
    exact List.take_of_length_le (by rw [List.length_drop]; omega)
  · rw [Nat.min_eq_right (by omega), List.drop_eq_nil_of_le (Nat.le_refl _), List.drop_eq_nil_of_le (by omega), List.take_nil]
theorem six_is : ∀ v ∈ six.map V.str, IS v := fun v hv => by
  obtain ⟨s, hs, rfl⟩ := List.mem_map.mp hv
  have : ∀ s ∈ six, PySem.PyData.strOk s = true := by decide +kernel
  exact this s hs
def dataT (t : Int × Int × Int) : PyData := .tuple [.int t.1, .int t.2.1, .int t.2.2]
theorem dp_aw {K : PySem.W.Frag} {H : Hp} : ∀ {as : List Addr} {ts : List (Int × Int × Int)}, AwAt H as ts → DpAll K H (as.map V.ref) (ts.map dataT)
  | _, _, .nil => .nil
  | _, _, .cons h t => .cons (.tup (SqT.of h) (.cons (.int _) (.cons (.int _) (.cons (.int _) .nil)))) (dp_aw t)
theorem shaped_t (t : Int × Int × Int) : SeqAt.shaped (dataT t) = true := rfl
theorem lay_ts : ∀ ts : List (Int × Int × Int), PyData.canLayAll0 (ts.map dataT) = true
  | [] => rfl
  | t :: ts => by rw [List.map_cons, PyData.canLayAll0, lay_ts ts, Bool.and_true]; rfl
theorem depth_ts : ∀ ts : List (Int × Int × Int), PyData.depthAll (ts.map dataT) ≤ 1
  | [] => Nat.zero_le _
  | t :: ts => by
    rw [List.map_cons, PyData.depthAll]
    have h1 : (dataT t).depth = 1 := rfl
    have := depth_ts ts
    omega
theorem shaped_ts (ts : List (Int × Int × Int)) : SeqAt.shaped (.list (ts.map dataT)) = true := by
  unfold SeqAt.shaped
  rw [PyData.canLay0, lay_ts, PyData.depth, Bool.true_and]
  exact decide_eq_true (by have := depth_ts ts; omega)
theorem eqv_t (s t : Int × Int × Int) : PyData.eqv (dataT s) (dataT t) = decide (s = t) := by
  obtain ⟨a, b, c⟩ := s
  obtain ⟨a', b', c'⟩ := t
  show PyData.eqv (.tuple [.int a, .int b, .int c]) (.tuple [.int a', .int b', .int c']) = _
  rw [PyData.eqv, PyData.eqvAll, PyData.eqvAll, PyData.eqvAll, PyData.eqvAll, PyData.eqv, PyData.eqv, PyData.eqv, Bool.and_true]
  rw [Bool.eq_iff_iff]
  simp
theorem any_t (ts : List (Int × Int × Int)) (t : Int × Int × Int) : ((ts.map dataT).any fun z => PyData.eqv z (dataT t)) = decide (t ∈ ts) := by
  induction ts with
  | nil => rfl
  | cons s ts ih =>
    rw [List.map_cons, List.any_cons, ih, eqv_t, Bool.eq_iff_iff, Bool.or_eq_true, decide_eq_true_eq, decide_eq_true_eq, decide_eq_true_eq, List.mem_cons]
    exact ⟨fun h => h.imp Eq.symm id, fun h => h.imp Eq.symm id⟩
theorem AwAt.zip {H : Hp} : ∀ {as : List Addr} {ts : List (Int × Int × Int)}, AwAt H as ts → ∃ L : List (Addr × Int × Int × Int), as = L.map (·.1) ∧ ts = L.map (·.2) ∧ ∀ q ∈ L, H q.1 = some (.tup (tri q.2))
  | _, _, .nil => ⟨[], rfl, rfl, by simp⟩
  | _, _, .cons (a := a) (b := b) h t => by
    obtain ⟨L, e1, e2, h2⟩ := AwAt.zip t
    refine ⟨(a, b) :: L, by rw [List.map_cons, ← e1], by rw [List.map_cons, ← e2], fun q hq => ?_⟩
    rcases List.mem_cons.mp hq with rfl | hq
    · exact h
    · exact h2 q hq
theorem AwAt.of {H : Hp} : ∀ {L : List (Addr × Int × Int × Int)}, (∀ q ∈ L, H q.1 = some (.tup (tri q.2))) → AwAt H (L.map (·.1)) (L.map (·.2))
  | [], _ => .nil
  | q :: L, h => .cons (h q List.mem_cons_self) (AwAt.of fun r hr => h r (List.mem_cons_of_mem _ hr))
theorem code3 (a b c : Int) : TS.code 13 [a, b, c] = a * 169 + b * 13 + c := by
  have e2 : (13 : Int) ^ 2 = 169 := by decide
  have e1 : (13 : Int) ^ 1 = 13 := by decide
  have e0 : (13 : Int) ^ 0 = 1 := by decide
  show a * 13 ^ 2 + (b * 13 ^ 1 + (c * 13 ^ 0 + 0)) = _
  rw [e2, e1, e0]; omega
theorem lex_of_code {n : Int} (hn : n ≤ 13) {s t : Int × Int × Int} (hs : AwOk n s) (ht : AwOk n t) (h : TS.code 13 [s.1, s.2.1, s.2.2] ≤ TS.code 13 [t.1, t.2.1, t.2.2]) (ne : s ≠ t) : lexLt s t := by
  rw [code3, code3] at h
  obtain ⟨a, b, c⟩ := s
  obtain ⟨a', b', c'⟩ := t
  obtain ⟨h1, h2, h3, h4, h5⟩ := hs
  obtain ⟨g1, g2, g3, g4, g5⟩ := ht
  simp only at *
  have h6 : c ≤ 12 := by simp at h5; omega
  have g6 : c' ≤ 12 := by simp at g5; omega
  have : ¬ (a = a' ∧ b = b' ∧ c = c') := fun ⟨x, y, z⟩ => ne (by rw [x, y, z])
  unfold lexLt
  simp only
  omega
theorem pairwise_both {α : Type} {R S : α → α → Prop} {l : List α} (h : l.Pairwise R) (n : l.Nodup) (f : ∀ a ∈ l, ∀ b ∈ l, R a b → a ≠ b → S a b) : l.Pairwise S := by
  have := List.pairwise_and_iff.mpr ⟨h, n⟩
  exact this.imp_of_mem fun ha hb ⟨r, ne⟩ => f _ ha _ hb r ne
theorem perm_of_map {α β : Type} (f : α → β) : ∀ {l : List α} {ys : List β}, ys.Perm (l.map f) → ∃ l' : List α, ys = l'.map f ∧ l'.Perm l
  | [], ys, h => ⟨[], by simpa using h, .refl _⟩
  | x :: r, ys, h => by
    have hm : f x ∈ ys := h.mem_iff.mpr (by simp)
    obtain ⟨a, b, rfl⟩ := List.append_of_mem hm
    have h2 : (a ++ b).Perm (r.map f) := List.Perm.cons_inv (List.perm_middle.symm.trans h)
    obtain ⟨l', e, hp⟩ := perm_of_map f h2
    refine ⟨l'.take a.length ++ x :: l'.drop a.length, ?_, ?_⟩
    · have e1 : (l'.take a.length).map f = a := by rw [List.map_take, ← e, List.take_left]
      have e2 : (l'.drop a.length).map f = b := by rw [List.map_drop, ← e, List.drop_left]
      rw [List.map_append, List.map_cons, e1, e2]
    · refine List.perm_middle.trans (List.Perm.cons x ?_)
      rw [List.take_append_drop]; exact hp
section
variable {P : Program} {w : World} {K : PySem.W.Frag} {mg : Str → Option Value} {base : Heap}
def spRota (K : PySem.W.Frag) : Sp := fun vs H Q _ => ∃ (d : Addr) (n x y : Int) (r : List Int), vs = [.ref d, .int n] ∧ 1 ≤ n ∧ n ≤ 6 ∧ H d = some (dl x y r) ∧ DOk x y r ∧
  ∀ (ro : Rota) (a : Addr) (x' y' : Int) (r' : List Int) (H' : Hp), Wd [d] H H' [(d, dl x' y' r')] → DOk x' y' r' → RotaAt H' a ro → ROk ro → (ro.names.length ≤ n.toNat ∧ (∀ x ∈ ro.names, x ∈ six) ∧ ro.aways.length ≤ 6) → Q (.ref a) H'
abbrev s_law_rota : Stmt := topS 49
theorem sc_law_rota : FnScope ["_law_d", "_law_most", "_law_many_here", "_law_names", "_law_turns", "_law_weights", "_law_aways", "_law_k", "_law_modulus", "_law_away", "_law_makers"] ["_law_d", "_law_most"] (defScope s_law_rota) := ⟨rfl, rfl, rfl, by decide +kernel, rfl, by decide +kernel, by decide +kernel⟩
theorem cal_rota (D : DefAt K mg "_law_rota" s_law_rota ["_law_d", "_law_most"]) (T : Bi mg) (C1 : Cal P w K mg base 1 "_law_below" ["_law_d", "_law_limit"] spBelow) (C2 : Cal P w K mg base 2 "_law_shuffled" ["_law_d", "_law_items"] (spShuffled K)) : Cal P w K mg base 3 "_law_rota" ["_law_d", "_law_most"] (spRota K) := D.cal fun f fd F => by
  have nd := sc_law_rota.nd
  obtain ⟨f_below, fd_below, m__law_below, kp__law_below, b__law_below, G__law_below⟩ := C1.ex
  obtain ⟨f_sh, fd_sh, m__law_shuffled, kp__law_shuffled, b__law_shuffled, G__law_shuffled⟩ := C2.ex
  refine F.ok sc_law_rota (fun vs H Q E h => ?_) (fun cdv A outer s H vs Q E hr h => ?_)
  · obtain ⟨d, n, x, y, r, rfl, _⟩ := h; rfl
  obtain ⟨d, n, x, y, r, rfl, hn1, hn6, hd, ok, k⟩ := h
  have hu := hr.units
  have hu65 : (A.deeper (envOfC "_law_rota" (defScope s_law_rota) s.heap.objs.size f cdv)).units + 65 < cLine := by have := hr.un; omega
  refine ⟨_, (pss_cons (ps_set (i := 2) nd rfl (Or.inr rfl) (pe_op op_add pe_int (pe_call G__law_below (hr.mono (by first | decide | omega)) (by rfl) m__law_below kp__law_below b__law_below .nil pass0 (pa_cons (pv 0) (pa_cons (pv 1) pa_nil)))))
 (pss_cons (ps_set (i := 3) nd rfl (Or.inl rfl) (pe_callTy (r := rTupOfF K) call_tuple_ofF (by rfl) T.tuple (by decide +kernel) (pa_cons (pe_slice (r := rSlL K) sl_list (pe_call G__law_shuffled (hr.mono (by first | decide | omega)) (by rfl) m__law_shuffled kp__law_shuffled b__law_shuffled .nil pass0 (pa_cons (pv 0) (pa_cons (pe_lst (pa_cons pe_str (pa_cons pe_str (pa_cons pe_str (pa_cons pe_str (pa_cons pe_str (pa_cons pe_str pa_nil))))))) pa_nil))) po_none (po_some (pv 2))) pa_nil)))
 (pss_cons (ps_set (i := 4) nd rfl (Or.inl rfl) (pe_op op_cat (pe_listRg rfl (by rfl) T.list (prg_1 (by rfl) T.range (pv 2))) (pe_lc (own := [("_law_k", 7)]) rfl nd (pi_range1 (by rfl) T.range (pa_cons (pe_call G__law_below (hr.mono (by first | decide | omega)) (by rfl) m__law_below kp__law_below b__law_below .nil pass0 (pa_cons (pv 0) (pa_cons (pe_ix (r := rIxL K) ix_list (pe_lst (pa_cons pe_int (pa_cons pe_int pa_nil))) (pe_call G__law_below (hr.mono (by first | decide | omega)) (by rfl) m__law_below kp__law_below b__law_below .nil pass0 (pa_cons (pv 0) (pa_cons pe_int pa_nil))) (fun _ _ => rfl)) pa_nil))) pa_nil)) (blkOk_by (N := ["_law_d", "_law_most", "_law_many_here", "_law_names", "_law_turns", "_law_weights", "_law_aways", "_law_k", "_law_modulus", "_law_away", "_law_makers"]) (sc := defScope s_law_rota) (by decide +kernel)) (fun _ _ _ _ _ => (pg_name (i := 7) nd rfl (Or.inl rfl))) (fun _ _ _ _ _ => pts_nil) (fun _ _ _ _ _ => (pe_call G__law_below (hr.mono (by first | decide | omega)) (by rfl) m__law_below kp__law_below b__law_below .nil pass0 (pa_cons (pv 0) (pa_cons (pv 2) pa_nil)))))))
 (C8.pss_cut (ps_set (i := 5) nd rfl (Or.inl rfl) (pe_op (r := rRepA K) op_repA (pe_tup (pa_cons pe_int pa_nil)) (pv 2)))
 (C8.pss_cut (ps_if (pt_cmpR op_eq (pe_call G__law_below (hr.mono (by first | decide | omega)) (by rfl) m__law_below kp__law_below b__law_below .nil pass0 (pa_cons (pv 0) (pa_cons pe_int pa_nil))) pe_int (nomark _))
 (pss_one (ps_set (i := 5) nd rfl (Or.inl rfl) (pe_callTy (r := rTupOf K) call_tuple_of (by rfl) T.tuple (by decide +kernel) (pa_cons (pe_lc (own := [("_law_k", 7)]) rfl nd (pi_range1 (by rfl) T.range (pa_cons (pv 2) pa_nil)) (blkOk_by (N := ["_law_d", "_law_most", "_law_many_here", "_law_names", "_law_turns", "_law_weights", "_law_aways", "_law_k", "_law_modulus", "_law_away", "_law_makers"]) (sc := defScope s_law_rota) (by decide +kernel)) (fun _ _ _ _ _ => (pg_name (i := 7) nd rfl (Or.inl rfl))) (fun _ _ _ _ _ => pts_nil) (fun _ _ _ _ _ => (pe_op op_add pe_int (pe_call G__law_below (hr.mono (by first | decide | omega)) (by rfl) m__law_below kp__law_below b__law_below .nil pass0 (pa_cons (pv 0) (pa_cons (pe_ix (r := rIxL K) ix_list (pe_lst (pa_cons pe_int (pa_cons pe_int pa_nil))) (pe_call G__law_below (hr.mono (by first | decide | omega)) (by rfl) m__law_below kp__law_below b__law_below .nil pass0 (pa_cons (pv 0) (pa_cons pe_int pa_nil))) (fun _ _ => rfl)) pa_nil)))))) pa_nil))))
 pss_nil)
 (pss_cons (ps_set (i := 6) nd rfl (Or.inl rfl) (pe_lst pa_nil))
 (pss_cons (ps_for PassesOwn.never rfl (pi_range1 (by rfl) T.range (pa_cons (pe_call G__law_below (hr.mono (by first | decide | omega)) (by rfl) m__law_below kp__law_below b__law_below .nil pass0 (pa_cons (pv 0) (pa_cons (pe_ix (r := rIxL K) ix_list (pe_lst (pa_cons pe_int (pa_cons pe_int pa_nil))) (pe_call G__law_below (hr.mono (by first | decide | omega)) (by rfl) m__law_below kp__law_below b__law_below .nil pass0 (pa_cons (pv 0) (pa_cons pe_int pa_nil))) (fun _ _ => rfl)) pa_nil))) pa_nil)) (pg_name (i := 7) nd rfl (Or.inl rfl))
 (pss_cons (ps_set (i := 8) nd rfl (Or.inl rfl) (pe_ix (r := rIxL K) ix_list (pe_lst (pa_cons pe_int (pa_cons pe_int (pa_cons pe_int (pa_cons pe_int (pa_cons pe_int (pa_cons pe_int pa_nil))))))) (pe_call G__law_below (hr.mono (by first | decide | omega)) (by rfl) m__law_below kp__law_below b__law_below .nil pass0 (pa_cons (pv 0) (pa_cons (pe_ix (r := rIxL K) ix_list (pe_lst (pa_cons pe_int (pa_cons pe_int (pa_cons pe_int pa_nil)))) (pe_call G__law_below (hr.mono (by first | decide | omega)) (by rfl) m__law_below kp__law_below b__law_below .nil pass0 (pa_cons (pv 0) (pa_cons pe_int pa_nil))) (fun _ _ => rfl)) pa_nil))) (fun _ _ => rfl)))
 (pss_cons (ps_set (i := 9) nd rfl (Or.inl rfl) (pe_tup (pa_cons (pe_call G__law_below (hr.mono (by first | decide | omega)) (by rfl) m__law_below kp__law_below b__law_below .nil pass0 (pa_cons (pv 0) (pa_cons (pv 2) pa_nil))) (pa_cons (pe_call G__law_below (hr.mono (by first | decide | omega)) (by rfl) m__law_below kp__law_below b__law_below .nil pass0 (pa_cons (pv 0) (pa_cons (pv 8) pa_nil))) (pa_cons (pv 8) pa_nil)))))
 (pss_one (ps_set (i := 6) nd rfl (Or.inl rfl) (pe_op op_cat (pv 6) (pe_op op_rep (pe_lst (pa_cons (pv 9) pa_nil)) (pe_callTy call_int1 (by rfl) T.int (by decide +kernel) (pa_cons (pe_cmpR (r := rNotInD K) (op_notInD hu65) (pv 9) (pv 6) (by rfl)) pa_nil)))))))))
 (pss_cons (ps_set (i := 10) nd rfl (Or.inl rfl) (pe_callTy (r := rTupOf K) call_tuple_of (by rfl) T.tuple (by decide +kernel) (pa_cons (pe_lc (own := [("_law_k", 7)]) rfl nd (pi_range1 (by rfl) T.range (pa_cons (pv 2) pa_nil)) (blkOk_by (N := ["_law_d", "_law_most", "_law_many_here", "_law_names", "_law_turns", "_law_weights", "_law_aways", "_law_k", "_law_modulus", "_law_away", "_law_makers"]) (sc := defScope s_law_rota) (by decide +kernel)) (fun _ _ _ _ _ => (pg_name (i := 7) nd rfl (Or.inl rfl))) (fun _ _ _ _ _ => (pts_one (pt_cmpR op_eq (pe_call G__law_below (hr.mono (by first | decide | omega)) (by rfl) m__law_below kp__law_below b__law_below .nil pass0 (pa_cons (pv 0) (pa_cons pe_int pa_nil))) pe_int (nomark _)))) (fun _ _ _ _ _ => (pv 7))) pa_nil)))
 (pss_one (ps_ret (pe_tup (pa_cons (pv 3) (pa_cons (pe_callTy (r := rTupOf K) call_tuple_of (by rfl) T.tuple (by decide +kernel) (pa_cons (pe_call G__law_shuffled (hr.mono (by first | decide | omega)) (by rfl) m__law_shuffled kp__law_shuffled b__law_shuffled .nil pass0 (pa_cons (pv 0) (pa_cons (pv 4) pa_nil))) pa_nil)) (pa_cons (pv 5) (pa_cons (pe_callTy (r := rTupOf K) call_tuple_of (by rfl) T.tuple (by decide +kernel) (pa_cons (pe_callB (r := rSortU K 3 13) (cr_sortT (by decide)) (by rfl) T.sorted (by decide +kernel) (pa_cons (pv 6) pa_nil)) pa_nil)) (pa_cons (pv 10) pa_nil)))))))))))))))), ?_⟩
  -- many
  refine ⟨_, rfl, _, rfl, d, n, x, y, r, rfl, by omega, by omega, hd, ok, fun i x y r H1 c ok hi0 hi1 => ?_⟩
  have w1 := (Wd.start1 hd).call1 (fun xs q => by cases q) c
  refine ⟨_, _, rfl, rfl, ?_⟩
  obtain ⟨m, rfl⟩ : ∃ m : Nat, i = (m : Int) := ⟨i.toNat, by omega⟩
  -- names
  refine ⟨_, rfl, (by show 6 ≤ sizeLine; decide), fun p hp => ?_⟩
  have w2 := w1.new1 (.lst (six.map V.str)) hp
  refine ⟨d, p, x, y, r, six.map V.str, rfl, .inl (SqL.of (w2.get 1 rfl)), w2.get 0 rfl, ok, ?_, by decide, fun ys q x y r H2 c ok hperm => ?_⟩
  · exact six_is
  have w3 := w2.call1 (fun xs q => by cases q) c
  obtain ⟨ns, rfl, hns⟩ := perm_of_map V.str hperm
  refine ⟨_, rfl, _, rfl, q, _, rfl, SqL.of (w3.get 1 rfl), fun p2 hp2 => ?_⟩
  rw [cut_take _ (by omega)]
  have w4 := w3.new1 (.lst ((ns.map V.str).take (1 + (m : Int)).toNat)) hp2
  refine ⟨p2, _, rfl, SqL.of (w4.get 1 rfl), fun an ono hono han => ?_⟩
  have w5 := (w4.new1 (.frz ono (.tup ((ns.map V.str).take (1 + (m : Int)).toNat))) han).sub (l' := [(d, dl x y r), (an, .frz ono (.tup ((ns.map V.str).take (1 + (m : Int)).toNat)))]) (by simp)
  have em : (1 + (m : Int)).toNat = m + 1 := by omega
  rw [em, ← List.map_take] at w5 ⊢
  -- turns
  refine ⟨_, rfl, _, rfl, RgOk.of_le (by omega) (by omega) (by omega) (by omega), fun q hq => ?_⟩
  have w6 := w5.new1 (.lst (rgV 0 (1 + (m : Int)))) hq
  refine ⟨_, rfl, (by show 2 ≤ sizeLine; decide), fun p hp => ?_⟩
  have w7 := w6.new1 (.lst (([2, 7] : List Int).map V.int)) hp
  refine ⟨_, rfl, d, 2, x, y, r, rfl, by omega, by omega, w7.get 0 rfl, ok, fun i x y r H1 c ok hi0 hi1 => ?_⟩
  have w8 := w7.call1 (fun xs q => by cases q) c
  obtain ⟨z, hz, hz2⟩ := pick (ns := [2, 7]) hi0 hi1
  refine ⟨p, _, i, _, rfl, rfl, SqL.of (w8.get 1 rfl), hz2, ?_⟩
  have hz3 : z = 2 ∨ z = 7 := by simpa using hz
  refine ⟨d, z, x, y, r, rfl, by omega, by omega, w8.get 0 rfl, ok, fun j x y r H1 c ok hj0 hj1 => ?_⟩
  have w9 := (w8.call1 (fun xs q => by cases q) c).sub (l' := [(d, dl x y r), (q, .lst (rgV 0 (1 + (m : Int)))), (an, .frz ono (.tup ((ns.take (m + 1)).map V.str)))]) (by simp)
  refine ⟨j, rfl, by omega, by omega, fun D hD => ?_⟩
  have w10 := w9.new1 (.lst []) hD
  refine lc_range (lo := 0) (n := j.toNat) (fun i H2 => ∃ (l : List Int) (x y : Int) (r : List Int), Wd [d] H H2 [(d, dl x y r), (D, .lst (l.map V.int)), (q, .lst (rgV 0 (1 + (m : Int)))), (an, .frz ono (.tup ((ns.take (m + 1)).map V.str)))] ∧ DOk x y r ∧ (∀ t ∈ l, 0 ≤ t ∧ t < 1 + (m : Int)) ∧ l.length = i)
    ⟨[], x, y, r, w10, ok, by simp, rfl⟩ ?_ ?_
  · rintro i H2 hi ⟨l, x, y, r, w11, ok, hl, hll⟩
    refine ⟨rfl, _, rfl, _, rfl, d, _, x, y, r, rfl, by omega, by omega, w11.get 0 rfl, ok, fun t x y r H1 c ok ht0 ht1 => ?_⟩
    have w12 := w11.call1 (fun xs q => by cases q) c
    have hll' : l.length ≤ 10 := by omega
    refine ⟨_, w12.get 1 rfl, Nat.lt_of_le_of_lt (by rw [List.length_map]; exact hll') (by decide), l ++ [t], x, y, r, ?_, ok, ?_, by simp; omega⟩
    · have := w12.put 1 (.lst ((l ++ [t]).map V.int)) rfl (fun xs q => by cases q)
      rw [List.map_append] at this ⊢
      exact this
    · intro u hu
      rcases List.mem_append.mp hu with hu | hu
      · exact hl u hu
      · rw [List.mem_singleton.mp hu]; exact ⟨ht0, ht1⟩
  rintro H2 ⟨l, x, y, r, w11, ok, hl, hll⟩
  refine ⟨q, D, _, _, rfl, rfl, w11.get 2 rfl, w11.get 1 rfl, ?_, fun tn htn => ?_⟩
  · rw [rgV_length, List.length_map]; exact Nat.le_trans (m := 100) (by omega) (by decide)
  have w12 := (w11.new1 (.lst (rgV 0 (1 + (m : Int)) ++ l.map V.int)) htn).sub (l' := [(d, dl x y r), (tn, .lst (rgV 0 (1 + (m : Int)) ++ l.map V.int)), (an, .frz ono (.tup ((ns.take (m + 1)).map V.str)))]) (by simp)
  have el : rgV 0 (1 + (m : Int)) ++ l.map V.int = ((List.range (m + 1)).map (fun i : Nat => (i : Int)) ++ l).map V.int := by
    unfold rgV
    rw [List.map_append, List.map_map, show (1 + (m : Int) - 0).toNat = m + 1 by omega]
    congr 1
    refine List.map_congr_left fun i _ => ?_
    show V.int (0 + (i : Int)) = V.int i
    rw [Int.zero_add]
  rw [el] at w12 ⊢
  clear el
  generalize hT : (List.range (m + 1)).map (fun i : Nat => (i : Int)) ++ l = tu at w12 ⊢
  have htu : (∀ t ∈ tu, 0 ≤ t ∧ t < 1 + (m : Int)) ∧ (∀ k : Nat, k < m + 1 → (k : Int) ∈ tu) ∧ tu.length ≤ 12 := by
    subst hT
    refine ⟨fun t ht => ?_, fun k hk => ?_, ?_⟩
    · rcases List.mem_append.mp ht with ht | ht
      · obtain ⟨u, hu, rfl⟩ := List.mem_map.mp ht
        have := List.mem_range.mp hu
        omega
      · exact hl t ht
    · exact List.mem_append_left _ (List.mem_map.mpr ⟨k, List.mem_range.mpr hk, rfl⟩)
    · rw [List.length_append, List.length_map, List.length_range]; omega
  generalize hN : ns.take (m + 1) = nm at w12 ⊢
  have hnm : nm.length = m + 1 ∧ nm.Nodup ∧ ∀ x ∈ nm, x ∈ six := by
    subst hN
    have h6 : ns.length = 6 := hns.length_eq
    refine ⟨by rw [List.length_take]; omega, List.Nodup.sublist (List.take_sublist _ _) (hns.nodup_iff.mpr (by decide +kernel)), fun x hx => hns.mem_iff.mp (List.mem_of_mem_take hx)⟩
  -- weights
  have Mid : ∃ Mid : L2.St → Hp → Prop, Mid = fun σ H' => ∃ (aw : Addr) (ws : List Int) (x y : Int) (r : List Int), σ = [some (.ref d), some (.int n), some (.int (1 + (m : Int))), some (.ref an), some (.ref tn), some (.ref aw), none, none, none, none, none] ∧
    Wd [d] H H' [(d, dl x y r), (tn, .lst (tu.map V.int)), (an, .frz ono (.tup (nm.map V.str))), (aw, .tup (ws.map V.int))] ∧ DOk x y r ∧ ws.length = m + 1 ∧ ∀ v ∈ ws, 1 ≤ v ∧ v ≤ 9 := ⟨_, rfl⟩
  obtain ⟨Mid, hMid⟩ := Mid
  have hrep : ∀ k : Nat, (List.replicate k [V.int 1]).flatten = (List.replicate k (1 : Int)).map V.int := fun k => by
    induction k with
    | zero => rfl
    | succ k ih => rw [List.replicate_succ, List.flatten_cons, ih, List.replicate_succ]; rfl
  refine ⟨Mid, ?_, ?_⟩
  · refine ⟨(by show 1 ≤ sizeLine; decide), fun p hp => ?_⟩
    have w13 := w12.new (.tup [V.int 1]) hp
    refine ⟨_, rfl, p, _, _, rfl, rfl, SqT.of (w13.get 0 rfl), by simp, by omega, by omega, by show 1 ≤ 1000; decide, fun e => ?_, fun e q hq => ?_⟩
    · rw [hMid]
      have em0 : m = 0 := by omega
      subst em0
      exact ⟨p, [1], x, y, r, rfl, w13.perm (by
        show List.Perm [(p, HO.tup [V.int 1]), _, _, _] [_, _, _, _]
        exact (List.perm_append_comm (l₁ := [(p, HO.tup [V.int 1])]) (l₂ := [_, _, _]))), ok, rfl, by simp⟩
    · rw [hMid]
      refine ⟨q, List.replicate (m + 1) 1, x, y, r, rfl, ?_, ok, by simp, ?_⟩
      · have w14 := w13.new (.tup (List.replicate (1 + (m : Int)).toNat [V.int 1]).flatten) hq
        rw [em, hrep] at w14 ⊢
        refine (w14.perm (List.perm_append_comm (l₁ := [_, _]) (l₂ := [_, _, _]))).sub ?_
        simp
      · intro v hv
        rw [(List.mem_replicate.mp hv).2]; omega
  rintro σ H3 hmid
  -- if _law_below(_law_d, 2) == 0: weights
  refine ⟨Mid, ?_, ?_⟩
  · rw [hMid] at hmid
    obtain ⟨aw, ws, x, y, r, rfl, w1, ok, hwl, hw0⟩ := hmid
    refine ⟨_, rfl, d, 2, x, y, r, rfl, by omega, by omega, w1.get 0 rfl, ok, fun i x y r H1 c ok hi0 hi1 => ?_⟩
    have w2 := w1.call1 (fun xs q => by cases q) c
    refine ⟨rfl, _, rfl, ?_⟩
    refine ite2 (fun _ => ?_) (fun _ => ?_)
    · refine ⟨_, rfl, _, rfl, by omega, by omega, fun D hD => ?_⟩
      have w3 := w2.new1 (.lst []) hD
      refine lc_range (lo := 0) (n := (1 + (m : Int)).toNat) (fun i H2 => ∃ (l : List Int) (x y : Int) (r : List Int), Wd [d] H H2 [(d, dl x y r), (D, .lst (l.map V.int)), (tn, .lst (tu.map V.int)), (an, .frz ono (.tup (nm.map V.str)))] ∧ DOk x y r ∧ (∀ t ∈ l, 1 ≤ t ∧ t ≤ 9) ∧ l.length = i)
        ⟨[], x, y, r, w3.sub (by simp), ok, by simp, rfl⟩ ?_ ?_
      · rintro i H2 hi ⟨l, x, y, r, w4, ok, hl, hll⟩
        refine ⟨rfl, _, rfl, (by show 2 ≤ sizeLine; decide), fun p hp => ?_⟩
        have w5 := w4.new1 (.lst (([3, 9] : List Int).map V.int)) hp
        refine ⟨_, rfl, d, 2, x, y, r, rfl, by omega, by omega, w5.get 0 rfl, ok, fun i' x y r H1 c ok hi0 hi1 => ?_⟩
        have w6 := w5.call1 (fun xs q => by cases q) c
        obtain ⟨z, hz, hz2⟩ := pick (ns := [3, 9]) hi0 hi1
        refine ⟨p, _, i', _, rfl, rfl, SqL.of (w6.get 1 rfl), hz2, ?_⟩
        have hz3 : z = 3 ∨ z = 9 := by simpa using hz
        refine ⟨d, z, x, y, r, rfl, by omega, by omega, w6.get 0 rfl, ok, fun j x y r H1 c ok hj0 hj1 => ?_⟩
        have w7 := w6.call1 (fun xs q => by cases q) c
        refine ⟨_, _, rfl, rfl, ?_⟩
        refine ⟨_, w7.get 2 rfl, Nat.lt_of_le_of_lt (m := 100) (by rw [List.length_map]; omega) (by decide), l ++ [1 + j], x, y, r, ?_, ok, ?_, by simp; omega⟩
        · have := w7.put 2 (.lst ((l ++ [1 + j]).map V.int)) rfl (fun xs q => by cases q)
          rw [List.map_append] at this ⊢
          exact this.sub (by simp)
        · intro u hu
          rcases List.mem_append.mp hu with hu | hu
          · exact hl u hu
          · rw [List.mem_singleton.mp hu]; omega
      rintro H2 ⟨l, x, y, r, w4, ok, hl, hll⟩
      refine ⟨D, _, rfl, .inl ⟨SqL.of (w4.get 1 rfl), fun t ht => ?_⟩⟩
      show Mid _ _
      rw [hMid]
      refine ⟨t, l, x, y, r, rfl, ?_, ok, by omega, hl⟩
      exact ((w4.new (.tup (l.map V.int)) ht).perm (List.perm_append_comm (l₁ := [_]) (l₂ := [_, _, _, _]))).sub (by simp)
    · show Mid _ _
      rw [hMid]
      exact ⟨aw, ws, x, y, r, rfl, w2.sub (by simp), ok, hwl, hw0⟩
  intro σ H4 hmid
  rw [hMid] at hmid
  obtain ⟨aw, ws, x, y, r, rfl, w1, ok, hwl, hw0⟩ := hmid
  -- aways
  refine ⟨Nat.zero_le _, fun al hal => ?_⟩
  have w2 := w1.new1 (.lst []) hal
  refine ⟨_, rfl, (by show 2 ≤ sizeLine; decide), fun p hp => ?_⟩
  have w3 := w2.new1 (.lst (([3, 7] : List Int).map V.int)) hp
  refine ⟨_, rfl, d, 2, x, y, r, rfl, by omega, by omega, w3.get 0 rfl, ok, fun i x y r H1 c ok hi0 hi1 => ?_⟩
  have w4 := w3.call1 (fun xs q => by cases q) c
  obtain ⟨z, hz, hz2⟩ := pick (ns := [3, 7]) hi0 hi1
  refine ⟨p, _, i, _, rfl, rfl, SqL.of (w4.get 1 rfl), hz2, ?_⟩
  have hz3 : z = 3 ∨ z = 7 := by simpa using hz
  refine ⟨d, z, x, y, r, rfl, by omega, by omega, w4.get 0 rfl, ok, fun j x y r H1 c ok hj0 hj1 => ?_⟩
  have w5 := (w4.call1 (fun xs q => by cases q) c).sub (l' := [(d, dl x y r), (al, .lst []), (tn, .lst (tu.map V.int)), (an, .frz ono (.tup (nm.map V.str))), (aw, .tup (ws.map V.int))]) (by simp)
  refine ⟨j, rfl, by omega, by omega, for_range (lo := 0) (n := j.toNat) (fun i σ H' => ∃ (al : Addr) (as : List Addr) (ts : List (Int × Int × Int)) (v7 v8 v9 : Option V) (x y : Int) (r : List Int),
    σ = [some (.ref d), some (.int n), some (.int (1 + (m : Int))), some (.ref an), some (.ref tn), some (.ref aw), some (.ref al), v7, v8, v9, none] ∧
    Wd [d] H H' [(d, dl x y r), (al, .lst (as.map V.ref)), (tn, .lst (tu.map V.int)), (an, .frz ono (.tup (nm.map V.str))), (aw, .tup (ws.map V.int))] ∧ DOk x y r ∧ AwAt H' as ts ∧ ts.Nodup ∧ (∀ t ∈ ts, AwOk (1 + (m : Int)) t) ∧ ts.length ≤ i)
    ⟨al, [], [], none, none, none, x, y, r, rfl, w5, ok, .nil, List.nodup_nil, by simp, by simp⟩ ?_ ?_⟩
  · rintro i σ H5 hi ⟨al, as, ts, v7, v8, v9, x, y, r, rfl, w6, ok, haw, htn, hto, htl⟩
    have hc2 : (1 + (m : Int)) < 1073741824 := by omega
    refine ⟨(by show 6 ≤ sizeLine; decide), fun p hp => ?_⟩
    have w7 := w6.new1 (.lst (([2, 3, 4, 6, 8, 12] : List Int).map V.int)) hp
    refine ⟨_, rfl, (by show 3 ≤ sizeLine; decide), fun p2 hp2 => ?_⟩
    have k1 := ((KT.refl H5).new (o := .lst (([2, 3, 4, 6, 8, 12] : List Int).map V.int)) hp)
    have w8 := w7.new1 (.lst (([2, 4, 6] : List Int).map V.int)) hp2
    refine ⟨_, rfl, d, 3, x, y, r, rfl, by omega, by omega, w8.get 0 rfl, ok, fun i' x y r H1 c ok hi0 hi1 => ?_⟩
    have k2 := (k1.new (o := .lst (([2, 4, 6] : List Int).map V.int)) hp2).call c
    have w9 := w8.call1 (fun xs q => by cases q) c
    obtain ⟨z, hz, hz2⟩ := pick (ns := [2, 4, 6]) hi0 hi1
    refine ⟨p2, _, i', _, rfl, rfl, SqL.of (w9.get 1 rfl), hz2, ?_⟩
    have hz3 : z = 2 ∨ z = 4 ∨ z = 6 := by simpa using hz
    refine ⟨d, z, x, y, r, rfl, by omega, by omega, w9.get 0 rfl, ok, fun i2 x y r H1 c ok hi0 hi1 => ?_⟩
    have k3 := k2.call c
    have w10 := w9.call1 (fun xs q => by cases q) c
    obtain ⟨mo, hmo, hmo2⟩ := pick (ns := [2, 3, 4, 6, 8, 12]) hi0 (show i2 < (6 : Int) by omega)
    refine ⟨p, _, i2, _, rfl, rfl, SqL.of (w10.get 2 rfl), hmo2, ?_⟩
    have hmo3 : 2 ≤ mo ∧ mo ≤ 12 := by simp at hmo; omega
    -- the absence
    refine ⟨_, rfl, _, rfl, d, _, x, y, r, rfl, by omega, hc2, w10.get 0 rfl, ok, fun pe x y r H1 c ok hp0 hp1 => ?_⟩
    have k4 := k3.call c
    have w11 := w10.call1 (fun xs q => by cases q) c
    refine ⟨_, rfl, _, rfl, d, _, x, y, r, rfl, by omega, by omega, w11.get 0 rfl, ok, fun re x y r H1 c ok hr0 hr1 => ?_⟩
    have w12 := (w11.call1 (fun xs q => by cases q) c).sub (l' := [(d, dl x y r), (al, .lst (as.map V.ref)), (tn, .lst (tu.map V.int)), (an, .frz ono (.tup (nm.map V.str))), (aw, .tup (ws.map V.int))]) (by simp)
    refine ⟨_, rfl, (by show 3 ≤ sizeLine; decide), fun t ht => ?_⟩
    have haw2 : AwAt H1 as ts := haw.keep (k4.call c)
    have w13 := w12.new1 (.tup (tri (pe, re, mo))) ht
    have haw3 : AwAt (upd H1 t (.tup (tri (pe, re, mo)))) as ts := haw2.keep fun b xs e => by rw [upd_ne (ne_of_none e ht)]; exact e
    refine ⟨_, rfl, _, rfl, (by show 1 ≤ sizeLine; decide), fun q hq => ?_⟩
    have w14 := w13.new1 (.lst [V.ref t]) hq
    have haw4 : AwAt _ as ts := haw3.keep fun b xs e => (upd_ne (o := .lst [V.ref t]) (ne_of_none e hq)).trans e
    refine ⟨_, rfl, _, rfl, dataT (pe, re, mo), ts.map dataT, .tup (SqT.of (w14.get 2 rfl)) (.cons (.int _) (.cons (.int _) (.cons (.int _) .nil))), .lst (SqL.of (w14.get 3 rfl)) (dp_aw haw4), shaped_t _, shaped_ts _, ?_⟩
    rw [any_t]
    have hts : ts.length ≤ 5 := by omega
    have hb : ∀ e : Bool, (if (!e) = true then (1 : Int) else 0) = if e = true then 0 else 1 := fun e => by cases e <;> rfl
    refine .inr ⟨_, rfl, q, _, [V.ref t], rfl, rfl, w14.get 1 rfl, ?_, ?_, ?_, fun u hu' => ?_⟩
    · rw [hb]; split <;> decide
    · rw [hb]; split <;> decide
    · rw [hb]
      split
      · exact (by decide : 1 * (0 : Int).toNat ≤ sizeLine)
      · exact (by decide : 1 * (1 : Int).toNat ≤ sizeLine)
    rw [hb] at *
    have w15 := w14.new1 (.lst (List.replicate (if decide ((pe, re, mo) ∈ ts) = true then (0 : Int) else 1).toNat [V.ref t]).flatten) hu'
    have e1 : as.length = ts.length := haw.length
    refine ⟨al, u, _, _, rfl, rfl, w15.get 4 rfl, w15.get 1 rfl, ?_, fun v hv => ?_⟩
    · rw [List.length_map, e1]
      by_cases c : (pe, re, mo) ∈ ts
      · rw [decide_eq_true c]; exact Nat.le_trans (m := 100) (by simp; omega) (by decide)
      · rw [decide_eq_false c]; exact Nat.le_trans (m := 100) (by simp; omega) (by decide)
    have w16 := w15.new1 (.lst (as.map V.ref ++ (List.replicate (if decide ((pe, re, mo) ∈ ts) = true then (0 : Int) else 1).toNat [V.ref t]).flatten)) hv
    have haw5 : AwAt _ as ts := haw4.keep (((KT.refl _).new (o := .lst (List.replicate (if decide ((pe, re, mo) ∈ ts) = true then (0 : Int) else 1).toNat [V.ref t]).flatten) hu').new (o := .lst (as.map V.ref ++ (List.replicate (if decide ((pe, re, mo) ∈ ts) = true then (0 : Int) else 1).toNat [V.ref t]).flatten)) hv)
    have htt := w16.get 4 rfl
    have w17 := w16.sub (l' := [(d, dl x y r), (v, .lst (as.map V.ref ++ (List.replicate (if decide ((pe, re, mo) ∈ ts) = true then (0 : Int) else 1).toNat [V.ref t]).flatten)), (tn, .lst (tu.map V.int)), (an, .frz ono (.tup (nm.map V.str))), (aw, .tup (ws.map V.int))]) (by walk_at "sub")
    clear w15 w16 w14 w13
    by_cases c : (pe, re, mo) ∈ ts
    · rw [decide_eq_true c] at *
      refine ⟨v, as, ts, _, _, _, x, y, r, rfl, ?_, ok, haw5, htn, hto, by omega⟩
      rw [if_pos rfl] at *
      simpa [tri] using w17
    · rw [decide_eq_false c] at *
      refine ⟨v, as ++ [t], ts ++ [(pe, re, mo)], _, _, _, x, y, r, rfl, ?_, ok, haw5.append (.cons htt .nil), ?_, ?_, by simp; omega⟩
      · rw [if_neg (by decide)] at *
        simpa [tri] using w17
      · rw [List.nodup_append]
        exact ⟨htn, by simp, fun a ha b hb => by rw [List.mem_singleton.mp hb]; exact fun e => c (e ▸ ha)⟩
      · intro a ha
        rcases List.mem_append.mp ha with ha | ha
        · exact hto a ha
        · rw [List.mem_singleton.mp ha]; exact ⟨hp0, hp1, hr0, hr1, hmo⟩
  rintro σ H5 ⟨al, as, ts, v7, v8, v9, x, y, r, rfl, w6, ok, haw, htn, hto, htl⟩
  have htl6 : ts.length ≤ 6 := by omega
  -- makers
  refine ⟨_, rfl, _, rfl, by omega, by omega, fun D hD => ?_⟩
  have w7 := w6.new1 (.lst []) hD
  have haw2 : AwAt _ as ts := haw.keep ((KT.refl H5).new (o := .lst []) hD)
  refine lc_range (lo := 0) (n := (1 + (m : Int)).toNat) (fun i H2 => ∃ (l : List Int) (x y : Int) (r : List Int), Wd [d] H H2 [(d, dl x y r), (D, .lst (l.map V.int)), (al, .lst (as.map V.ref)), (tn, .lst (tu.map V.int)), (an, .frz ono (.tup (nm.map V.str))), (aw, .tup (ws.map V.int))] ∧ DOk x y r ∧ AwAt H2 as ts ∧ l.Pairwise (· < ·) ∧ (∀ t ∈ l, 0 ≤ t ∧ t < i) ∧ l.length ≤ i)
    ⟨[], x, y, r, w7, ok, haw2, .nil, by simp, by simp⟩ ?_ ?_
  · rintro i H2 hi ⟨l, x, y, r, w8, ok, haw, hlp, hl, hll⟩
    refine ⟨rfl, _, rfl, d, 2, x, y, r, rfl, by omega, by omega, w8.get 0 rfl, ok, fun i' x y r H1 c ok hi0 hi1 => ?_⟩
    have haw2 : AwAt H1 as ts := haw.keep ((KT.refl _).call c)
    have w9 := w8.call1 (fun xs q => by cases q) c
    refine ⟨rfl, _, rfl, ?_⟩
    refine ite2 (fun _ => ?_) (fun _ => ⟨l, x, y, r, w9, ok, haw2, hlp, fun t ht => by have := hl t ht; omega, by omega⟩)
    refine ⟨_, rfl, _, w9.get 1 rfl, Nat.lt_of_le_of_lt (m := 100) (by rw [List.length_map]; omega) (by decide), l ++ [0 + (i : Int)], x, y, r, ?_, ok, ?_, ?_, ?_, by simp; omega⟩
    · have := w9.put 1 (.lst ((l ++ [0 + (i : Int)]).map V.int)) rfl (fun xs q => by cases q)
      rw [List.map_append] at this ⊢
      exact this
    · exact haw2.keep ((KT.refl _).put (w9.get 1 rfl) (fun xs q => by cases q))
    · rw [List.pairwise_append]
      exact ⟨hlp, by simp, fun a ha b hb => by rw [List.mem_singleton.mp hb]; have := hl a ha; omega⟩
    · intro t ht
      rcases List.mem_append.mp ht with ht | ht
      · have := hl t ht; omega
      · rw [List.mem_singleton.mp ht]; omega
  rintro H6 ⟨mk, x, y, r, w8, ok, haw, hmp, hmo, hml⟩
  have hlim : (1 + (m : Int)).toNat ≤ 6 := by omega
  refine ⟨D, _, rfl, .inl ⟨SqL.of (w8.get 1 rfl), fun am ham => ?_⟩⟩
  have w9 := (w8.new1 (.tup (mk.map V.int)) ham).sub (l' := [(d, dl x y r), (am, .tup (mk.map V.int)), (al, .lst (as.map V.ref)), (tn, .lst (tu.map V.int)), (an, .frz ono (.tup (nm.map V.str))), (aw, .tup (ws.map V.int))]) (by walk_at "sub")
  have haw3 := haw.keep ((KT.refl _).new (o := .tup (mk.map V.int)) ham)
  -- the tuple
  refine ⟨_, rfl, _, rfl, _, rfl, d, tn, x, y, r, tu.map V.int, rfl, .inl (SqL.of (w9.get 3 rfl)), w9.get 0 rfl, ok, ?_, ?_, fun ys q x y r H2 c ok hperm => ?_⟩
  · intro v hv
    obtain ⟨z, _, rfl⟩ := List.mem_map.mp hv
    trivial
  · rw [List.length_map]; exact Nat.le_trans htu.2.2 (by decide)
  obtain ⟨tz, rfl, htz⟩ := perm_of_map V.int hperm
  have haw4 := haw3.keep ((KT.refl _).call c)
  have w10 := w9.call1 (fun xs q => by cases q) c
  refine ⟨q, _, rfl, .inl ⟨SqL.of (w10.get 1 rfl), fun at_ hat => ?_⟩⟩
  have w11 := w10.new1 (.tup (tz.map V.int)) hat
  have haw5 := haw4.keep ((KT.refl _).new (o := .tup (tz.map V.int)) hat)
  obtain ⟨L, e1, e2, hL⟩ := haw5.zip
  have htd : ts.length = L.length := by rw [e2, List.length_map]
  refine ⟨_, rfl, _, rfl, al, as.map V.ref, rfl, SqL.of (w11.get 4 rfl), ?_, ?_, fun ys p hperm hpw hp => ?_⟩
  · rw [List.length_map, haw.length]; omega
  · intro u hu
    obtain ⟨a, ha, rfl⟩ := List.mem_map.mp hu
    rw [e1] at ha
    obtain ⟨g, hg, rfl⟩ := List.mem_map.mp ha
    have ho := hto g.2 (by rw [e2]; exact List.mem_map.mpr ⟨g, hg, rfl⟩)
    refine ⟨[g.2.1, g.2.2.1, g.2.2.2], ⟨g.1, rfl, SqT.of (hL g hg)⟩, rfl, fun z hz => ?_⟩
    obtain ⟨h1, h2, h3, h4, h5⟩ := ho
    have h6 : g.2.2.2 ≤ 12 := by simp at h5; omega
    simp only [List.mem_cons, List.not_mem_nil, or_false] at hz
    rcases hz with rfl | rfl | rfl <;> omega
  rw [e1, List.map_map] at hperm
  obtain ⟨L2, rfl, hL2⟩ := perm_of_map _ hperm
  have w12 := w11.new1 (.lst (L2.map (V.ref ∘ fun x => x.1))) hp
  have hL3 : ∀ g ∈ L2, upd _ p (.lst (L2.map (V.ref ∘ fun x => x.1))) g.1 = some (.tup (tri g.2)) := fun g hg => (upd_ne (ne_of_none (hL g (hL2.mem_iff.mp hg)) hp)).trans (hL g (hL2.mem_iff.mp hg))
  have hsorted : (L2.map (·.2)).Pairwise lexLt := by
    have hpt : (L2.map (·.2)).Perm ts := by rw [e2]; exact hL2.map _
    rw [List.pairwise_map] at hpw
    have hpw2 : L2.Pairwise fun s t => TS.code 13 [s.2.1, s.2.2.1, s.2.2.2] ≤ TS.code 13 [t.2.1, t.2.2.1, t.2.2.2] :=
      hpw.imp_of_mem fun {s t} hs ht h => h _ _ ⟨s.1, rfl, SqT.of (hL s (hL2.mem_iff.mp hs))⟩ ⟨t.1, rfl, SqT.of (hL t (hL2.mem_iff.mp ht))⟩
    have hpw3 : (L2.map (·.2)).Pairwise fun s t => TS.code 13 [s.1, s.2.1, s.2.2] ≤ TS.code 13 [t.1, t.2.1, t.2.2] := List.pairwise_map.mpr hpw2
    exact pairwise_both hpw3 (hpt.nodup_iff.mpr htn) fun a ha b hb h ne => lex_of_code (n := 1 + (m : Int)) (by omega) (hto a (hpt.mem_iff.mp ha)) (hto b (hpt.mem_iff.mp hb)) h ne
  refine ⟨p, _, rfl, .inl ⟨SqL.of (w12.get 1 rfl), fun aa haa => ?_⟩⟩
  have w13 := w12.new1 (.tup (L2.map (V.ref ∘ fun x => x.1))) haa
  refine ⟨_, rfl, (by show 5 ≤ sizeLine; decide), fun a ha => ?_⟩
  have w14 := w13.new1 (.tup [V.ref an, V.ref at_, V.ref aw, V.ref aa, V.ref am]) ha
  have hpt : (L2.map (·.2)).Perm ts := by rw [e2]; exact hL2.map _
  refine k ⟨nm, tz, ws, L2.map (·.2), mk⟩ a x y r _ (w14.sub (by walk_at "sub")) ok ?_ ?_ ⟨by show nm.length ≤ _; omega, hnm.2.2, by rw [show (⟨nm, tz, ws, L2.map (·.2), mk⟩ : Rota).aways = L2.map (·.2) from rfl, hpt.length_eq]; exact htl6⟩
  · refine ⟨an, at_, aw, aa, am, L2.map (·.1), w14.get 1 rfl, ⟨ono, hono, w14.get 9 rfl⟩, w14.get 4 rfl, w14.get 10 rfl, ?_, AwAt.of fun g hg => ?_, w14.get 6 rfl⟩
    · rw [List.map_map]; exact w14.get 2 rfl
    · rw [upd_ne (ne_of_none ((upd_ne (ne_of_none (hL3 g hg) haa)).trans (hL3 g hg)) ha), upd_ne (ne_of_none (hL3 g hg) haa)]
      exact hL3 g hg
  · have hmm : nm.length = m + 1 := hnm.1
    refine ⟨by show 1 ≤ nm.length; omega, by show nm.length ≤ 6; omega, hnm.2.1, fun x hx => six_nmf x (hnm.2.2 x hx), ?_, ?_, ?_, ?_, hw0, hsorted, ?_, ?_, hmp, ?_⟩
    · intro t ht
      have := htu.1 t (htz.mem_iff.mp ht)
      show 0 ≤ t ∧ t < (nm.length : Int)
      omega
    · intro k hk
      have hk2 : k < nm.length := hk
      exact htz.mem_iff.mpr (htu.2.1 k (by omega))
    · show tz.length ≤ 12
      rw [htz.length_eq]; exact htu.2.2
    · show ws.length = nm.length
      omega
    · show (L2.map (·.2)).length ≤ 20
      rw [hpt.length_eq]; exact Nat.le_trans htl6 (by decide)
    · intro t ht
      have := hto t (hpt.mem_iff.mp ht)
      show AwOk (nm.length : Int) t
      rw [hmm, show ((m + 1 : Nat) : Int) = 1 + (m : Int) by omega]
      exact this
    · intro k hk
      have := hmo k hk
      show 0 ≤ k ∧ k < (nm.length : Int)
      omega
end
end Br

namespace Br
open PySem PySem.Spec PyProof.Rows L2
/-! ### the canonical text of a rota, as a function -/
def num (i : Int) : Str := (toString i : String)
def nm (r : Rota) (k : Int) : Str := r.names.getD k.toNat Str.empty
def awW (r : Rota) (t : Int × Int × Int) : List Str := ["away", nm r t.1, num t.2.1, "of", num t.2.2]
def heavy (r : Rota) : Bool := r.weights.any fun v => decide (1 < v)
def lines2 (r : Rota) : List (List Str) := ["people" :: r.names, "turns" :: r.turns.map (nm r)]
def linesW (r : Rota) : List (List Str) := if heavy r = true then ["weights" :: r.weights.map num] else []
def linesM (r : Rota) : List (List Str) := if r.makers.isEmpty = true then [] else ["makeup" :: r.makers.map (nm r)]
def lineWords (r : Rota) : List (List Str) := lines2 r ++ linesW r ++ r.aways.map (awW r) ++ linesM r
def lineS (ws : List Str) : Str := Txt.join " " ws ++ ";"
def textOf (r : Rota) : Str := Txt.join "\n" ((lineWords r).map lineS)
/-! ### sizes -/
theorem joinL_len (S : List Nat) : ∀ ps : List (List Nat), (TL.joinL S ps).length ≤ (ps.map fun p => p.length + S.length).sum
  | [] => Nat.zero_le _
  | [p] => by simp [TL.joinL]
  | p :: q :: r => by
    have := joinL_len S (q :: r)
    rw [TL.joinL, List.length_append, List.length_append, List.map_cons, List.sum_cons]
    omega
theorem sum_le {α : Type} (f : α → Nat) (b : Nat) : ∀ l : List α, (∀ x ∈ l, f x ≤ b) → (l.map f).sum ≤ l.length * b
  | [], _ => by simp
  | x :: l, h => by
    have h1 := h x List.mem_cons_self
    have h2 := sum_le f b l fun y hy => h y (List.mem_cons_of_mem _ hy)
    rw [List.map_cons, List.sum_cons, List.length_cons, Nat.succ_mul]
    omega
theorem join_len (y : Str) (ps : List Str) (b : Nat) (h : ∀ p ∈ ps, p.length ≤ b) : (Txt.join y ps).length ≤ ps.length * (b + y.length) := by
  rw [TL.join_eq, TL.len_tl, TL.tl_join]
  refine Nat.le_trans (joinL_len _ _) ?_
  rw [List.map_map]
  refine sum_le _ _ _ fun p hp => ?_
  have h1 := h p hp
  rw [TL.len_tl] at h1
  show (TL.tl p).length + (TL.tl y).length ≤ b + y.length
  rw [← TL.len_tl y]; omega
theorem app_len (x y : Str) : (x ++ y).length = x.length + y.length := by
  rw [TL.len_tl, TL.tl_append, List.length_append, ← TL.len_tl, ← TL.len_tl]
theorem num_len {n : Nat} (h : n < 10000) : (num n).length ≤ 4 := by
  unfold num
  rw [TL.len_tl]
  show (TL.tl (Str.ofString (toString ((n : Nat) : Int)))).length ≤ 4
  rw [TL.tl_num]
  exact TL.numL_len (by decide) (by simpa using h)
theorem num_len' {i : Int} (h0 : 0 ≤ i) (h : i < 10000) : (num i).length ≤ 4 := by
  obtain ⟨n, rfl⟩ : ∃ n : Nat, i = n := ⟨i.toNat, by omega⟩
  exact num_len (by omega)
theorem nm_mem {r : Rota} {k : Int} (h0 : 0 ≤ k) (h : k < r.names.length) : r.names[k.toNat]? = some (nm r k) := by
  unfold nm
  rw [List.getD_eq_getElem?_getD, List.getElem?_eq_getElem (by omega)]; rfl
theorem six_len : ∀ s ∈ six, s.length ≤ 8 := by decide +kernel
theorem nm_len {r : Rota} (ok : ROk r) {k : Int} (h0 : 0 ≤ k) (h : k < r.names.length) : (nm r k).length ≤ 8 :=
  (ok.six _ (List.mem_of_getElem? (nm_mem h0 h))).2.2.1
/-- ascending numbers below n are at most n -/
theorem asc_len : ∀ {n : Nat} {l : List Int}, l.Pairwise (· < ·) → (∀ k ∈ l, 0 ≤ k ∧ k < n) → l.length ≤ n := by
  intro n l hp h
  have key : ∀ (l : List Int) (lo : Int), l.Pairwise (· < ·) → (∀ k ∈ l, lo ≤ k ∧ k < n) → (l.length : Int) ≤ max 0 (n - lo) := by
    intro l
    induction l with
    | nil => intro lo _ _; simp; omega
    | cons a l ih =>
      intro lo hp h
      rw [List.pairwise_cons] at hp
      have h1 := h a List.mem_cons_self
      have := ih (a + 1) hp.2 fun k hk => ⟨by have := hp.1 k hk; omega, (h k (List.mem_cons_of_mem _ hk)).2⟩
      rw [List.length_cons]
      omega
  have := key l 0 hp h
  omega
theorem words_len {r : Rota} (ok : ROk r) : ∀ ws ∈ lineWords r, ws.length ≤ 13 ∧ ∀ x ∈ ws, x.length ≤ 8 := by
  intro ws hws
  simp only [lineWords, List.mem_append] at hws
  rcases hws with ((h | h) | h) | h
  · simp only [lines2, List.mem_cons, List.not_mem_nil, or_false] at h
    rcases h with rfl | rfl
    · refine ⟨by rw [List.length_cons]; have := ok.n6; omega, fun x hx => ?_⟩
      rcases List.mem_cons.mp hx with rfl | hx
      · decide
      · exact (ok.six x hx).2.2.1
    · refine ⟨by rw [List.length_cons, List.length_map]; have := ok.t12; omega, fun x hx => ?_⟩
      rcases List.mem_cons.mp hx with rfl | hx
      · decide
      · obtain ⟨t, ht, rfl⟩ := List.mem_map.mp hx
        exact nm_len ok (ok.t0 t ht).1 (ok.t0 t ht).2
  · unfold linesW at h
    split at h
    · rw [List.mem_singleton.mp h]
      refine ⟨by rw [List.length_cons, List.length_map, ok.wl]; have := ok.n6; omega, fun x hx => ?_⟩
      rcases List.mem_cons.mp hx with rfl | hx
      · decide
      · obtain ⟨v, hv, rfl⟩ := List.mem_map.mp hx
        have := ok.w0 v hv
        exact Nat.le_trans (num_len' (by omega) (by omega)) (by decide)
    · cases h
  · obtain ⟨t, ht, rfl⟩ := List.mem_map.mp h
    obtain ⟨h1, h2, h3, h4, h5⟩ := ok.a0 t ht
    have h6 : t.2.2 ≤ 12 := by simp at h5; omega
    refine ⟨by show 5 ≤ 13; decide, fun x hx => ?_⟩
    simp only [awW, List.mem_cons, List.not_mem_nil, or_false] at hx
    rcases hx with rfl | rfl | rfl | rfl | rfl
    · decide
    · exact nm_len ok h1 h2
    · exact Nat.le_trans (num_len' (by omega) (by omega)) (by decide)
    · decide
    · exact Nat.le_trans (num_len' (by omega) (by omega)) (by decide)
  · unfold linesM at h
    split at h
    · cases h
    · rw [List.mem_singleton.mp h]
      have hm : r.makers.length ≤ 6 := by
        have := asc_len ok.masc (n := r.names.length) ok.m0
        have := ok.n6
        omega
      refine ⟨by rw [List.length_cons, List.length_map]; omega, fun x hx => ?_⟩
      rcases List.mem_cons.mp hx with rfl | hx
      · decide
      · obtain ⟨k, hk, rfl⟩ := List.mem_map.mp hx
        exact nm_len ok (ok.m0 k hk).1 (ok.m0 k hk).2
theorem lineS_len {ws : List Str} (h1 : ws.length ≤ 13) (h2 : ∀ x ∈ ws, x.length ≤ 8) : (lineS ws).length ≤ 200 := by
  unfold lineS
  rw [app_len]
  have := join_len " " ws 8 h2
  have e1 : ((" " : Str)).length = 1 := by decide
  have e2 : ((";" : Str)).length = 1 := by decide
  rw [e1] at this
  rw [e2]
  omega
theorem lines_few {r : Rota} (ok : ROk r) : (lineWords r).length ≤ 24 := by
  unfold lineWords lines2 linesW linesM
  rw [List.length_append, List.length_append, List.length_append, List.length_map]
  have := ok.a6
  have h1 : (if heavy r = true then [("weights" : Str) :: r.weights.map num] else []).length ≤ 1 := by split <;> simp
  have h2 : (if r.makers.isEmpty = true then [] else [("makeup" : Str) :: r.makers.map (nm r)]).length ≤ 1 := by split <;> simp
  simp only [List.length_cons, List.length_nil]
  omega
/-- the lines' lists on the heap -/
def TL1 (L : List (Addr × List Str)) : List (Addr × HO) := L.map fun q => (q.1, HO.lst (q.2.map V.str))
def refs (L : List (Addr × List Str)) : List V := L.map fun q => V.ref q.1
theorem TL1_append (L M : List (Addr × List Str)) : TL1 (L ++ M) = TL1 L ++ TL1 M := List.map_append
theorem refs_append (L M : List (Addr × List Str)) : refs (L ++ M) = refs L ++ refs M := List.map_append
theorem refs_length (L : List (Addr × List Str)) : (refs L).length = L.length := List.length_map _
section
variable {P : Program} {w : World} {K : PySem.W.Frag} {mg : Str → Option Value} {base : Heap}
theorem AwAt.at {H : Hp} : ∀ {as : List Addr} {ts : List (Int × Int × Int)} {i : Nat} {a : Addr}, AwAt H as ts → as[i]? = some a → ∃ t, ts[i]? = some t ∧ H a = some (.tup (tri t))
  | _, _, i, a, .nil, h => by simp at h
  | _, _, 0, a, .cons h _, e => by simp at e; subst e; exact ⟨_, rfl, h⟩
  | _, _, i + 1, a, .cons _ t, e => by simpa using AwAt.at t (i := i) (by simpa using e)
theorem shaped_tup {xs : List V} (h : ∀ v ∈ xs, IS v) : SeqAt.shaped (.tuple (xs.map dataOf)) = true := by
  unfold SeqAt.shaped
  rw [PyData.canLay0, lay_all h, PyData.depth, depth_all]; rfl
theorem eqv_nilT (ds : List PyData) : PyData.eqv (.tuple ds) (.tuple []) = ds.isEmpty := by
  rw [PyData.eqv]; cases ds <;> rfl
/-- a new line is appended -/
theorem lines_push {M : List Addr} {H0 H : Hp} {ll p : Addr} {L : List (Addr × List Str)} {ws : List Str} {X : List (Addr × HO)} (w : Wd M H0 H ((p, .lst (ws.map V.str)) :: (ll, .lst (refs L)) :: (TL1 L ++ X))) :
    Wd M H0 (upd H ll (.lst (refs L ++ [V.ref p]))) ((ll, .lst (refs (L ++ [(p, ws)]))) :: (TL1 (L ++ [(p, ws)]) ++ X)) := by
  have w1 := w.put 1 (.lst (refs L ++ [V.ref p])) rfl (fun xs q => by cases q)
  rw [refs_append, TL1_append]
  refine w1.perm ?_
  show List.Perm ((p, HO.lst (ws.map V.str)) :: (ll, HO.lst (refs L ++ [V.ref p])) :: (TL1 L ++ X)) ((ll, HO.lst (refs L ++ [V.ref p])) :: ((TL1 L ++ [(p, HO.lst (ws.map V.str))]) ++ X))
  refine (List.Perm.swap _ _ _).trans (List.Perm.cons _ ?_)
  rw [List.append_assoc]
  exact List.perm_middle.symm
def spText : Sp := fun vs H Q _ => ∃ (a : Addr) (r : Rota), vs = [.ref a] ∧ RotaAt H a r ∧ ROk r ∧ ∀ H' : Hp, Wd [] H H' [] → Q (.str (textOf r)) H'
abbrev s_law_text : Stmt := topS 46
theorem sc_law_text : FnScope ["_law_rota_here", "_law_names", "_law_turns", "_law_weights", "_law_aways", "_law_makers", "_law_lines", "_law_k", "_law_weight", "_law_first", "_law_second", "_law_line"] ["_law_rota_here"] (defScope s_law_text) := ⟨rfl, rfl, rfl, by decide +kernel, rfl, by decide +kernel, by decide +kernel⟩
theorem cal_text (D : DefAt K mg "_law_text" s_law_text ["_law_rota_here"]) (T : Bi mg) : Cal P w K mg base 1 "_law_text" ["_law_rota_here"] spText := D.cal fun f fd F => by
  have nd := sc_law_text.nd
  refine F.ok sc_law_text (fun vs H Q E h => ?_) (fun cdv A outer s H vs Q E hr h => ?_)
  · obtain ⟨a, r, rfl, _⟩ := h; rfl
  obtain ⟨a, r, rfl, ⟨an, at_, aw, aa, am, as, h1, h2, h3, h4, h5, h6, h7⟩, ok, k⟩ := h
  have hu := hr.units
  have keep : ∀ {H' : Hp} {l : List (Addr × HO)}, Wd [] H H' l → ∀ {b : Addr} {xs : List V}, H b = some (.tup xs) → SqT K H' b xs := fun w _ _ e => SqT.of (w.tups _ _ e)
  refine ⟨_, (pss_cons (ps_asg (pv 0) (pg_tupK (K := K) (n := 5) rfl rfl (pgs_cons (pg_name (i := 1) nd rfl (Or.inr rfl)) (pgs_cons (pg_name (i := 2) nd rfl (Or.inl rfl)) (pgs_cons (pg_name (i := 3) nd rfl (Or.inl rfl)) (pgs_cons (pg_name (i := 4) nd rfl (Or.inl rfl)) (pgs_cons (pg_name (i := 5) nd rfl (Or.inl rfl)) pgs_nil)))))))
 (pss_cons (ps_set (i := 6) nd rfl (Or.inl rfl) (pe_lst (pa_cons (pe_op op_cat (pe_lst (pa_cons pe_str pa_nil)) (pe_callTy (r := rListOf K) call_list_of (by rfl) T.list (by decide +kernel) (pa_cons (pv 1) pa_nil))) (pa_cons (pe_op op_cat (pe_lst (pa_cons pe_str pa_nil)) (pe_lc (own := [("_law_k", 7)]) rfl nd (pi_tupK (K := K) rfl (pv 2)) (blkOk_by (N := ["_law_rota_here", "_law_names", "_law_turns", "_law_weights", "_law_aways", "_law_makers", "_law_lines", "_law_k", "_law_weight", "_law_first", "_law_second", "_law_line"]) (sc := defScope s_law_text) (by decide +kernel)) (fun _ _ _ _ _ => (pg_name (i := 7) nd rfl (Or.inl rfl))) (fun _ _ _ _ _ => pts_nil) (fun _ _ _ _ _ => (pe_ix (r := rIxT K) ix_tup (pv 1) (pv 7) (fun _ _ => rfl))))) pa_nil))))
 (C8.pss_cut (ps_if (pt_cmpR op_gt (pe_callB (r := rMaxT K) (cr_maxT rfl hu) (by rfl) T.max (by decide +kernel) (pa_cons (pv 3) pa_nil)) pe_int (nomark _))
 (pss_one (ps_expr (pe_bmK (K := K) rfl PySem.F.plainAttrs_list PySem.F.slot_list_append PySem.F.type_list_append mt_append (pv 6) (pa_cons (pe_op op_cat (pe_lst (pa_cons pe_str pa_nil)) (pe_lc (own := [("_law_weight", 8)]) rfl nd (pi_tupK (K := K) rfl (pv 3)) (blkOk_by (N := ["_law_rota_here", "_law_names", "_law_turns", "_law_weights", "_law_aways", "_law_makers", "_law_lines", "_law_k", "_law_weight", "_law_first", "_law_second", "_law_line"]) (sc := defScope s_law_text) (by decide +kernel)) (fun _ _ _ _ _ => (pg_name (i := 8) nd rfl (Or.inl rfl))) (fun _ _ _ _ _ => pts_nil) (fun _ _ _ _ _ => (pe_callTy call_str_int (by rfl) T.str (by decide +kernel) (pa_cons (pv 8) pa_nil))))) pa_nil))))
 pss_nil)
 (pss_cons (ps_set (i := 6) nd rfl (Or.inl rfl) (pe_op op_cat (pv 6) (pe_lc (own := [("_law_k", 7), ("_law_first", 9), ("_law_second", 10)]) rfl nd (pi_tupK (K := K) rfl (pv 4)) (blkOk_by (N := ["_law_rota_here", "_law_names", "_law_turns", "_law_weights", "_law_aways", "_law_makers", "_law_lines", "_law_k", "_law_weight", "_law_first", "_law_second", "_law_line"]) (sc := defScope s_law_text) (by decide +kernel)) (fun _ _ _ _ _ => (pg_tupK (K := K) (n := 3) rfl rfl (pgs_cons (pg_name (i := 7) nd rfl (Or.inl rfl)) (pgs_cons (pg_name (i := 9) nd rfl (Or.inl rfl)) (pgs_cons (pg_name (i := 10) nd rfl (Or.inl rfl)) pgs_nil))))) (fun _ _ _ _ _ => pts_nil) (fun _ _ _ _ _ => (pe_lst (pa_cons pe_str (pa_cons (pe_ix (r := rIxT K) ix_tup (pv 1) (pv 7) (fun _ _ => rfl)) (pa_cons (pe_callTy call_str_int (by rfl) T.str (by decide +kernel) (pa_cons (pv 9) pa_nil)) (pa_cons pe_str (pa_cons (pe_callTy call_str_int (by rfl) T.str (by decide +kernel) (pa_cons (pv 10) pa_nil)) pa_nil))))))))))
 (C8.pss_cut (ps_if (pt_cmpR (r := rNeD K) (op_neD hu) (pv 5) (pe_tup pa_nil) (nomark _))
 (pss_one (ps_expr (pe_bmK (K := K) rfl PySem.F.plainAttrs_list PySem.F.slot_list_append PySem.F.type_list_append mt_append (pv 6) (pa_cons (pe_op op_cat (pe_lst (pa_cons pe_str pa_nil)) (pe_lc (own := [("_law_k", 7)]) rfl nd (pi_tupK (K := K) rfl (pv 5)) (blkOk_by (N := ["_law_rota_here", "_law_names", "_law_turns", "_law_weights", "_law_aways", "_law_makers", "_law_lines", "_law_k", "_law_weight", "_law_first", "_law_second", "_law_line"]) (sc := defScope s_law_text) (by decide +kernel)) (fun _ _ _ _ _ => (pg_name (i := 7) nd rfl (Or.inl rfl))) (fun _ _ _ _ _ => pts_nil) (fun _ _ _ _ _ => (pe_ix (r := rIxT K) ix_tup (pv 1) (pv 7) (fun _ _ => rfl))))) pa_nil))))
 pss_nil)
 (pss_one (ps_ret (pe_joinK (K := K) rfl pe_str (pe_lc (own := [("_law_line", 11)]) rfl nd (pi_listK (K := K) rfl (pv 6)) (blkOk_by (N := ["_law_rota_here", "_law_names", "_law_turns", "_law_weights", "_law_aways", "_law_makers", "_law_lines", "_law_k", "_law_weight", "_law_first", "_law_second", "_law_line"]) (sc := defScope s_law_text) (by decide +kernel)) (fun _ _ _ _ _ => (pg_name (i := 11) nd rfl (Or.inl rfl))) (fun _ _ _ _ _ => pts_nil) (fun _ _ _ _ _ => (pe_op op_add_str (pe_joinK (K := K) rfl pe_str (pv 11)) pe_str))))))))))), ?_⟩
  refine ⟨_, rfl, a, _, rfl, SqT.of h1, rfl, _, _, rfl, _, _, rfl, _, _, rfl, _, _, rfl, _, _, rfl, rfl, ?_⟩
  -- the first two lines
  refine ⟨(by show 1 ≤ sizeLine; decide), fun p1 hp1 => ?_⟩
  have w1 := (Wd.refl H).new (.lst ((["people"] : List Str).map V.str)) hp1
  refine ⟨_, rfl, an, _, rfl, .inr ((h2.le w1.le).sq), fun p2 hp2 => ?_⟩
  have w2 := w1.new (.lst (r.names.map V.str)) hp2
  have n6 := ok.n6
  have t12 := ok.t12
  refine ⟨p1, p2, _, _, rfl, rfl, w2.get 1 rfl, w2.get 0 rfl, (Nat.le_trans (m := 100) (by simp only [List.length_map, List.length_cons, List.length_nil]; omega) (by decide)), fun l1 hl1 => ?_⟩
  have w3 := (w2.new (.lst ((("people" : Str) :: r.names).map V.str)) hl1).sub (l' := [(l1, .lst ((("people" : Str) :: r.names).map V.str))]) (by walk_at "sub")
  refine ⟨(by show 1 ≤ sizeLine; decide), fun p3 hp3 => ?_⟩
  have w4 := w3.new (.lst ((["turns"] : List Str).map V.str)) hp3
  refine ⟨_, rfl, at_, rfl, ⟨_, keep w4 h3⟩, fun D1 hD1 => ?_⟩
  refine lc_tupF (K := K) (a := at_) (xs := r.turns.map V.int) (fun _ => true) (fun v => match v with | .int i => V.str (nm r i) | v => v) w4 hD1 (fun H' c w => keep w h3) (by rw [List.length_map]; omega) (fun H' ⟨c, w⟩ i x hx R S hR _ => ?_) (fun H' w5 => ?_)
  · obtain ⟨t, ht, rfl⟩ := int_of_map hx
    have h0 := ok.t0 t (List.mem_of_getElem? ht)
    refine ⟨rfl, _, rfl, _, rfl, an, _, _, _, rfl, rfl, (h2.le w.le).sq, ?_, hR rfl⟩
    exact at_of (j := t.toNat) (by omega) (by rw [List.getElem?_map, nm_mem h0.1 h0.2]; rfl)
  have e5 : (r.turns.map V.int).map (fun v => match v with | .int i => V.str (nm r i) | v => v) = (r.turns.map (nm r)).map V.str := by rw [List.map_map, List.map_map]; rfl
  rw [filter_yes, e5] at w5
  refine ⟨p3, D1, _, _, rfl, rfl, w5.get 1 rfl, w5.get 0 rfl, (Nat.le_trans (m := 100) (by simp only [List.length_map, List.length_cons, List.length_nil]; omega) (by decide)), fun l2 hl2 => ?_⟩
  have w6 := (w5.new (.lst ((("turns" : Str) :: r.turns.map (nm r)).map V.str)) hl2).sub (l' := [(l2, .lst ((("turns" : Str) :: r.turns.map (nm r)).map V.str)), (l1, .lst ((("people" : Str) :: r.names).map V.str))]) (by walk_at "sub")
  refine ⟨(by show 2 ≤ sizeLine; decide), fun ll hll => ?_⟩
  have w7 : Wd [] H _ ((ll, .lst (refs [(l1, ("people" : Str) :: r.names), (l2, ("turns" : Str) :: r.turns.map (nm r))])) :: (TL1 [(l1, ("people" : Str) :: r.names), (l2, ("turns" : Str) :: r.turns.map (nm r))] ++ [])) :=
    (w6.new (.lst [V.ref l1, V.ref l2]) hll).perm (List.Perm.cons _ (List.Perm.swap _ _ _))
  -- weights
  refine ⟨fun σ H' => ∃ (ll : Addr) (L : List (Addr × List Str)), σ = [some (.ref a), some (.ref an), some (.ref at_), some (.ref aw), some (.ref aa), some (.ref am), some (.ref ll), none, none, none, none, none] ∧
    Wd [] H H' ((ll, .lst (refs L)) :: (TL1 L ++ [])) ∧ L.map (·.2) = lines2 r ++ linesW r, ?_, ?_⟩
  · have hw0 : 0 < r.weights.length := by have := ok.wl; have := ok.n1; omega
    refine ⟨_, rfl, aw, r.weights, rfl, keep w7 h4, hw0, fun m hm hmax => ?_⟩
    refine ⟨_, _, rfl, rfl, _, rfl, ?_⟩
    refine ite2 (fun hc => ?_) (fun hc => ?_)
    · have hh : heavy r = true := List.any_eq_true.mpr ⟨m, hm, hc⟩
      refine ⟨_, rfl, .inl ⟨rfl, _, SqL.of (w7.get 0 rfl)⟩, (by show 1 ≤ sizeLine; decide), fun p hp => ?_⟩
      have w8 := w7.new (.lst ((["weights"] : List Str).map V.str)) hp
      refine ⟨_, rfl, aw, rfl, ⟨_, keep w8 h4⟩, fun D hD => ?_⟩
      refine lc_tupF (K := K) (a := aw) (xs := r.weights.map V.int) (fun _ => true) (fun v => match v with | .int i => V.str (num i) | v => v) w8 hD (fun H' c w => keep w h4) (by rw [List.length_map, ok.wl]; omega) (fun H' ⟨c, w⟩ i x hx R S hR _ => ?_) (fun H' w9 => ?_)
      · obtain ⟨t, ht, rfl⟩ := int_of_map hx
        have h0 := ok.w0 t (List.mem_of_getElem? ht)
        exact ⟨rfl, _, rfl, t, rfl, Nat.lt_of_le_of_lt (Nat.log2_le_self _) (by omega), hR rfl⟩
      have e9 : (r.weights.map V.int).map (fun v => match v with | .int i => V.str (num i) | v => v) = (r.weights.map num).map V.str := by rw [List.map_map, List.map_map]; rfl
      rw [filter_yes, e9] at w9
      refine ⟨p, D, _, _, rfl, rfl, w9.get 1 rfl, w9.get 0 rfl, (Nat.le_trans (m := 100) (by simp only [List.length_map, List.length_cons, List.length_nil, ok.wl]; omega) (by decide)), fun l hl => ?_⟩
      have w10 := (w9.new (.lst ((("weights" : Str) :: r.weights.map num).map V.str)) hl).sub (l' := (l, .lst ((("weights" : Str) :: r.weights.map num).map V.str)) :: (ll, .lst (refs [(l1, ("people" : Str) :: r.names), (l2, ("turns" : Str) :: r.turns.map (nm r))])) :: (TL1 [(l1, ("people" : Str) :: r.names), (l2, ("turns" : Str) :: r.turns.map (nm r))] ++ [])) (by walk_at "sub")
      refine ⟨ll, _, _, rfl, rfl, w10.get 1 rfl, (by show 2 < sizeLine; decide), ?_⟩
      have w11 := lines_push w10
      exact ⟨ll, _, rfl, w11, by simp [lines2, linesW, hh]⟩
    · refine ⟨ll, _, rfl, w7, ?_⟩
      have hh : heavy r = false := by
        rw [Bool.eq_false_iff]
        intro hh
        obtain ⟨v, hv, hv1⟩ := List.any_eq_true.mp hh
        have := hmax v hv
        have := of_decide_eq_true hv1
        exact hc (decide_eq_true (by omega))
      simp [lines2, linesW, hh]
  rintro σ H1 ⟨ll, L, rfl, w8, hL⟩
  have hLl : L.length ≤ 3 := by
    have := congrArg List.length hL
    rw [List.length_map, List.length_append] at this
    have h2 : (linesW r).length ≤ 1 := by unfold linesW; split <;> simp
    simp only [lines2, List.length_cons, List.length_nil] at this
    omega
  have a6 := ok.a6
  -- the absences
  refine ⟨_, rfl, _, rfl, aa, rfl, ⟨_, keep w8 h5⟩, fun D hD => ?_⟩
  have w9 := w8.new (.lst []) hD
  refine lc_tup (K := K) (a := aa) (xs := as.map V.ref) (fun i H2 => ∃ L2 : List (Addr × List Str), Wd [] H H2 ((D, .lst (refs L2)) :: (TL1 L2 ++ ((ll, HO.lst (refs L)) :: (TL1 L ++ [])))) ∧ L2.map (·.2) = (r.aways.take i).map (awW r))
    ⟨[], w9, rfl⟩ (fun i H2 _ ⟨L2, w, _⟩ => keep w h5) ?_ ?_
  · rintro i x H2 hx ⟨L2, w10, hL2⟩
    obtain ⟨b, hb, rfl⟩ : ∃ b, as[i]? = some b ∧ x = V.ref b := by
      rw [List.getElem?_map] at hx
      cases e : as[i]? with
      | none => rw [e] at hx; cases hx
      | some b => rw [e] at hx; exact ⟨b, rfl, (Option.some.inj hx).symm⟩
    obtain ⟨t, ht, hbt⟩ := h6.at hb
    obtain ⟨g1, g2, g3, g4, g5⟩ := ok.a0 t (List.mem_of_getElem? ht)
    have g6 : t.2.2 ≤ 12 := by simp at g5; omega
    have hl2 : L2.length = i := by
      have h8 := congrArg List.length hL2
      rw [List.length_map, List.length_map, List.length_take] at h8
      have := (List.getElem?_eq_some_iff.mp ht).1
      omega
    have hi6 := (List.getElem?_eq_some_iff.mp ht).1
    refine ⟨b, tri t, rfl, keep w10 hbt, rfl, _, _, rfl, _, _, rfl, _, _, rfl, rfl, rfl, ?_⟩
    refine ⟨_, rfl, _, rfl, an, _, _, _, rfl, rfl, (h2.le w10.le).sq, at_of (j := t.1.toNat) (by omega) (by rw [List.getElem?_map, nm_mem g1 g2]; rfl), ?_⟩
    refine ⟨_, rfl, t.2.1, rfl, Nat.lt_of_le_of_lt (Nat.log2_le_self _) (by omega), ?_⟩
    refine ⟨_, rfl, t.2.2, rfl, Nat.lt_of_le_of_lt (Nat.log2_le_self _) (by omega), ?_⟩
    refine ⟨(by show 5 ≤ sizeLine; decide), fun p hp => ?_⟩
    have w11 := w10.new (.lst ((awW r t).map V.str)) hp
    refine ⟨refs L2, w11.get 1 rfl, ?_, L2 ++ [(p, awW r t)], ?_, ?_⟩
    · rw [refs_length]; exact Nat.lt_of_le_of_lt (m := 100) (by omega) (by decide)
    · exact lines_push w11
    · rw [List.map_append, hL2, take_more ht, List.map_append]; rfl
  rintro H2 ⟨L2, w10, hL2⟩
  rw [List.length_map, h6.length, List.take_length] at hL2
  have hL2l : L2.length ≤ 20 := by
    have h8 := congrArg List.length hL2
    rw [List.length_map, List.length_map] at h8
    omega
  have hll := w10.at_ (ll, .lst (refs L)) (by simp)
  refine ⟨ll, D, _, _, rfl, rfl, hll, w10.get 0 rfl, ?_, fun ll2 hll2 => ?_⟩
  · rw [refs_length, refs_length]; exact Nat.le_trans (m := 100) (by omega) (by decide)
  have w11 : Wd [] H (upd H2 ll2 (.lst (refs L ++ refs L2))) ((ll2, .lst (refs (L ++ L2))) :: (TL1 (L ++ L2) ++ [])) := by
    have w12 := w10.new (.lst (refs L ++ refs L2)) hll2
    rw [refs_append, TL1_append]
    refine (w12.perm (l' := (ll2, HO.lst (refs L ++ refs L2)) :: (D, HO.lst (refs L2)) :: (ll, HO.lst (refs L)) :: (TL1 L ++ TL1 L2 ++ [])) ?_).sub (by walk_at "sub")
    refine List.Perm.cons _ (List.Perm.cons _ ?_)
    rw [List.append_nil, List.append_nil]
    exact List.perm_middle.trans (List.Perm.cons _ List.perm_append_comm)
  have hL3 : (L ++ L2).map (·.2) = lines2 r ++ linesW r ++ r.aways.map (awW r) := by rw [List.map_append, hL, hL2]
  have hL3l : (L ++ L2).length ≤ 23 := by rw [List.length_append]; omega
  generalize L ++ L2 = L3 at w11 hL3 hL3l
  clear w10 w9 w8
  -- who makes up
  refine ⟨fun σ H' => ∃ (ll : Addr) (L : List (Addr × List Str)), σ = [some (.ref a), some (.ref an), some (.ref at_), some (.ref aw), some (.ref aa), some (.ref am), some (.ref ll), none, none, none, none, none] ∧
    Wd [] H H' ((ll, .lst (refs L)) :: (TL1 L ++ [])) ∧ L.map (·.2) = lineWords r, ?_, ?_⟩
  · refine ⟨_, rfl, Nat.zero_le _, fun e he => ?_⟩
    have w12 := w11.new (.tup []) he
    have hms : ∀ v ∈ r.makers.map V.int, IS v := fun v hv => by
      obtain ⟨z, _, rfl⟩ := List.mem_map.mp hv
      trivial
    refine ⟨.tuple ((r.makers.map V.int).map dataOf), .tuple [], .tup (keep w12 h7) (dp_all hms), .tup (SqT.of (w12.get 0 rfl)) .nil, shaped_tup hms, rfl, _, rfl, ?_⟩
    rw [eqv_nilT]
    have hie : ((r.makers.map V.int).map dataOf).isEmpty = r.makers.isEmpty := by cases r.makers <;> rfl
    rw [hie]
    have mlen : r.makers.length ≤ 6 := by
      have := asc_len ok.masc (n := r.names.length) ok.m0
      omega
    cases hm : r.makers.isEmpty with
    | true =>
      refine ⟨ll2, L3, rfl, w12.sub (List.Sublist.cons _ (List.Sublist.refl _)), ?_⟩
      rw [hL3, lineWords, linesM, if_pos hm, List.append_nil]
    | false =>
      refine ⟨_, rfl, .inl ⟨rfl, _, SqL.of (w12.get 1 rfl)⟩, (by show 1 ≤ sizeLine; decide), fun p hp => ?_⟩
      have w13 := w12.new (.lst ((["makeup"] : List Str).map V.str)) hp
      refine ⟨_, rfl, am, rfl, ⟨_, keep w13 h7⟩, fun D hD => ?_⟩
      refine lc_tupF (K := K) (a := am) (xs := r.makers.map V.int) (fun _ => true) (fun v => match v with | .int i => V.str (nm r i) | v => v) w13 hD (fun H' c w => keep w h7) (by rw [List.length_map]; omega) (fun H' ⟨c, w⟩ i x hx R S hR _ => ?_) (fun H' w14 => ?_)
      · obtain ⟨t, ht, rfl⟩ := int_of_map hx
        have h0 := ok.m0 t (List.mem_of_getElem? ht)
        refine ⟨rfl, _, rfl, _, rfl, an, _, _, _, rfl, rfl, (h2.le w.le).sq, ?_, hR rfl⟩
        exact at_of (j := t.toNat) (by omega) (by rw [List.getElem?_map, nm_mem h0.1 h0.2]; rfl)
      have e14 : (r.makers.map V.int).map (fun v => match v with | .int i => V.str (nm r i) | v => v) = (r.makers.map (nm r)).map V.str := by rw [List.map_map, List.map_map]; rfl
      rw [filter_yes, e14] at w14
      refine ⟨p, D, _, _, rfl, rfl, w14.get 1 rfl, w14.get 0 rfl, (Nat.le_trans (m := 100) (by simp only [List.length_map, List.length_cons, List.length_nil]; omega) (by decide)), fun l hl => ?_⟩
      have w15 := (w14.new (.lst ((("makeup" : Str) :: r.makers.map (nm r)).map V.str)) hl).sub (l' := (l, .lst ((("makeup" : Str) :: r.makers.map (nm r)).map V.str)) :: (ll2, .lst (refs L3)) :: (TL1 L3 ++ [])) (by walk_at "sub")
      refine ⟨ll2, _, _, rfl, rfl, w15.get 1 rfl, (by rw [refs_length]; exact Nat.lt_of_le_of_lt (m := 100) (by omega) (by decide)), ?_⟩
      refine ⟨ll2, _, rfl, lines_push w15, ?_⟩
      rw [List.map_append, hL3, lineWords, linesM, hm]; rfl
  rintro σ H3 ⟨ll3, L4, rfl, w12, hL4⟩
  have hL4l : L4.length ≤ 24 := by
    have h8 := congrArg List.length hL4
    rw [List.length_map] at h8
    have := lines_few ok
    omega
  -- the text
  refine ⟨⟨_, rfl⟩, _, rfl, ll3, rfl, ⟨_, SqL.of (w12.get 0 rfl)⟩, fun D hD => ?_⟩
  have w13 := w12.new (.lst []) hD
  refine lc_list (K := K) (a := ll3) (xs := refs L4) (fun i H2 => Wd [] H H2 ((D, .lst ((L4.take i).map fun q => V.str (lineS q.2))) :: (ll3, .lst (refs L4)) :: (TL1 L4 ++ [])))
    w13 (fun i H2 _ w => SqL.of (w.get 1 rfl)) ?_ ?_
  · rintro i x H2 hx w14
    obtain ⟨q, hq, rfl⟩ : ∃ q, L4[i]? = some q ∧ x = V.ref q.1 := by
      unfold refs at hx
      rw [List.getElem?_map] at hx
      cases e : L4[i]? with
      | none => rw [e] at hx; cases hx
      | some b => rw [e] at hx; exact ⟨b, rfl, (Option.some.inj hx).symm⟩
    have hql := words_len ok q.2 (by rw [← hL4]; exact List.mem_map.mpr ⟨q, List.mem_of_getElem? hq, rfl⟩)
    have hqa := w14.at_ (q.1, .lst (q.2.map V.str)) (List.mem_cons_of_mem _ (List.mem_cons_of_mem _ (List.mem_append_left _ (List.mem_map.mpr ⟨q, List.mem_of_getElem? hq, rfl⟩))))
    have hi := (List.getElem?_eq_some_iff.mp hq).1
    refine ⟨rfl, ⟨_, rfl⟩, _, rfl, _, q.1, q.2, rfl, rfl, .inl (SqL.of hqa), ?_, ?_⟩
    · have := sum_le (fun s : Str => s.length) 8 q.2 hql.2
      have e1 : ((" " : Str)).length = 1 := by decide
      rw [e1]
      omega
    · have hj := join_len " " q.2 8 hql.2
      have e1 : ((" " : Str)).length = 1 := by decide
      have e2 : ((";" : Str)).length = 1 := by decide
      rw [e1] at hj
      refine ⟨_, _, rfl, rfl, (by rw [e2]; exact Nat.le_trans (m := 1000) (by omega) (by decide)), ?_⟩
      refine ⟨_, w14.get 0 rfl, ?_, ?_⟩
      · rw [List.length_map, List.length_take]; exact Nat.lt_of_le_of_lt (m := 100) (by omega) (by decide)
      · have := w14.put 0 (.lst ((L4.take i).map (fun q => V.str (lineS q.2)) ++ [V.str (lineS q.2)])) rfl (fun xs q => by cases q)
        show Wd [] H _ ((D, .lst ((L4.take (i + 1)).map fun q => V.str (lineS q.2))) :: _)
        rw [take_more hq, List.map_append]
        exact this
  · intro H4 w14
    have e4 : (L4.take (refs L4).length).map (fun q => V.str (lineS q.2)) = ((lineWords r).map lineS).map V.str := by
      rw [refs_length, List.take_length, ← hL4, List.map_map, List.map_map]; rfl
    rw [e4] at w14
    refine ⟨_, D, (lineWords r).map lineS, rfl, rfl, .inl (SqL.of (w14.get 0 rfl)), ?_, ?_⟩
    · have h8 := sum_le (fun s : Str => s.length) 200 ((lineWords r).map lineS) fun s hs => by
        obtain ⟨ws, hws, rfl⟩ := List.mem_map.mp hs
        have := words_len ok ws hws
        exact lineS_len this.1 this.2
      have := lines_few ok
      have e1 : (("\n" : Str)).length = 1 := by decide
      rw [e1]
      rw [List.length_map] at h8 ⊢
      omega
    · exact k _ (w14.sub (List.nil_sublist _))
end
end Br

namespace Br
open PySem PySem.Spec PyProof.Rows L2
/-! ### the parser: frames -/
theorem Wd.fput {M : List Addr} {H0 H : Hp} {p : Addr} {u : HO} (c : Wd M H0 H []) (o : HO) (hp : H0 p = none ∨ p ∈ M) (hH : H p = some u) (hn : ∀ xs, u ≠ .tup xs) : Wd M H0 (upd H p o) [] :=
  ⟨fun b v hb e => by
    have : b ≠ p := fun z => by
      subst z
      rcases hp with q | q
      · rw [q] at e; cases e
      · exact hb q
    rw [upd_ne this]; exact c.base b v hb e,
   fun b v e => by
    have : b ≠ p := fun z => by
      subst z
      have := c.tups b v e
      rw [hH] at this
      exact hn v (Option.some.inj this)
    rw [upd_ne this]; exact c.tups b v e,
   fun _ h => (nomatch h), fun _ h => (nomatch h), List.nodup_nil, fun b e => c.free b (by
    by_cases hb : b = p
    · subst hb; rw [upd_same] at e; cases e
    · rw [upd_ne hb] at e; exact e)⟩
theorem Wd.fnew {M : List Addr} {H0 H : Hp} (c : Wd M H0 H []) {p : Addr} (o : HO) (hp : H p = none) : Wd M H0 (upd H p o) [] := (c.new o hp).sub (List.nil_sublist _)
theorem Wd.fgo {M : List Addr} {H0 H H' : Hp} (c : Wd M H0 H []) (d : Wd M H H' []) : Wd M H0 H' [] :=
  ⟨fun b o hb e => d.base b o hb (c.base b o hb e), fun b xs e => d.tups b xs (c.tups b xs e), fun _ h => (nomatch h), fun _ h => (nomatch h), List.nodup_nil, fun p e => c.free p (d.free p e)⟩
theorem Wd.frefl (M : List Addr) (H : Hp) : Wd M H H [] := (Wd.refl H).mono fun _ h => nomatch h
structure Pz where
  x : Addr
  dx : Addr
  tk : Addr
  fl : Addr
  nl : Addr
  al : Addr
structure Pv where
  n : Nat
  names : List Str
  aws : List (Addr × (Int × Int × Int))
  W : Option (Addr × List Int)
  M : Option (Addr × List Int)
def oV : Option (Addr × List Int) → V
  | none => .non
  | some p => .ref p.1
def pF (z : Pz) (s : Pv) : List (Str × V) := [("tokens", .ref z.tk), ("at", .int s.n), ("faults", .ref z.fl), ("names", .ref z.nl), ("weights", oV s.W), ("makers", oV s.M), ("aways", .ref z.al)]
def Pz.mut (z : Pz) : List Addr := [z.x, z.nl, z.al]
def arefs (l : List (Addr × (Int × Int × Int))) : List V := l.map fun q => V.ref q.1
theorem pf_none {z : Pz} {s : Pv} {m : Str} (h : ∀ f ∈ (["tokens", "at", "faults", "names", "weights", "makers", "aways"] : List Str), (m == f) = false) : (pF z s).lookup m = none := by
  unfold pF
  rw [look_ne (h _ (by simp)), look_ne (h _ (by simp)), look_ne (h _ (by simp)), look_ne (h _ (by simp)), look_ne (h _ (by simp)), look_ne (h _ (by simp)), look_ne (h _ (by simp))]
  rfl
section
variable {z : Pz} {s : Pv}
theorem pf_tokens : (pF z s).lookup ("tokens" : Str) = some (.ref z.tk) := look_eq
theorem pf_at : (pF z s).lookup ("at" : Str) = some (.int s.n) := (look_ne (by decide +kernel)).trans look_eq
theorem pf_faults : (pF z s).lookup ("faults" : Str) = some (.ref z.fl) := (look_ne (by decide +kernel)).trans ((look_ne (by decide +kernel)).trans look_eq)
theorem pf_names : (pF z s).lookup ("names" : Str) = some (.ref z.nl) := (look_ne (by decide +kernel)).trans ((look_ne (by decide +kernel)).trans ((look_ne (by decide +kernel)).trans look_eq))
theorem pf_weights : (pF z s).lookup ("weights" : Str) = some (oV s.W) := (look_ne (by decide +kernel)).trans ((look_ne (by decide +kernel)).trans ((look_ne (by decide +kernel)).trans ((look_ne (by decide +kernel)).trans look_eq)))
theorem pf_makers : (pF z s).lookup ("makers" : Str) = some (oV s.M) := (look_ne (by decide +kernel)).trans ((look_ne (by decide +kernel)).trans ((look_ne (by decide +kernel)).trans ((look_ne (by decide +kernel)).trans ((look_ne (by decide +kernel)).trans look_eq))))
theorem pf_aways : (pF z s).lookup ("aways" : Str) = some (.ref z.al) := (look_ne (by decide +kernel)).trans ((look_ne (by decide +kernel)).trans ((look_ne (by decide +kernel)).trans ((look_ne (by decide +kernel)).trans ((look_ne (by decide +kernel)).trans ((look_ne (by decide +kernel)).trans look_eq)))))
theorem pf_putAt (n : Nat) : putF "at" (.int n) (pF z s) = pF z { s with n := n } := by
  unfold pF
  rw [putF_ne (by decide +kernel)]; rfl
theorem pf_putW (p : Addr × List Int) : putF "weights" (.ref p.1) (pF z s) = pF z { s with W := some p } := by
  unfold pF
  rw [putF_ne (by decide +kernel), putF_ne (by decide +kernel), putF_ne (by decide +kernel), putF_ne (by decide +kernel)]; rfl
theorem pf_putM (p : Addr × List Int) : putF "makers" (.ref p.1) (pF z s) = pF z { s with M := some p } := by
  unfold pF
  rw [putF_ne (by decide +kernel), putF_ne (by decide +kernel), putF_ne (by decide +kernel), putF_ne (by decide +kernel), putF_ne (by decide +kernel)]; rfl
end
structure PAt (CP CT : Addr) (z : Pz) (L : List (Addr × (Str × Str))) (s : Pv) (H : Hp) : Prop where
  ob : H z.x = some (.ins CP z.dx (pF z s))
  tk : H z.tk = some (.lst (trefs L))
  ts : Tks CT H L
  fl : H z.fl = some (.lst [])
  nl : H z.nl = some (.lst (s.names.map V.str))
  al : H z.al = some (.lst (arefs s.aws))
  aw : ∀ q ∈ s.aws, H q.1 = some (.tup (tri q.2))
  w : ∀ p, s.W = some p → H p.1 = some (.tup (p.2.map V.int))
  m : ∀ p, s.M = some p → H p.1 = some (.tup (p.2.map V.int))
  ne : [z.x, z.tk, z.fl, z.nl, z.al].Nodup
  cn : CT ≠ CP
section
variable {CP CT : Addr} {z : Pz} {L : List (Addr × (Str × Str))} {s : Pv} {H : Hp}
theorem PAt.new (h : PAt CP CT z L s H) {p : Addr} (o : HO) (hp : H p = none) : PAt CP CT z L s (upd H p o) := by
  have k : ∀ {b : Addr} {u : HO}, H b = some u → upd H p o b = some u := fun e => by rw [upd_ne (ne_of_none e hp)]; exact e
  exact ⟨k h.ob, k h.tk, h.ts.new hp, k h.fl, k h.nl, k h.al, fun q hq => k (h.aw q hq), fun q hq => k (h.w q hq), fun q hq => k (h.m q hq), h.ne, h.cn⟩
/-- the object itself -/
theorem PAt.setX (h : PAt CP CT z L s H) (s' : Pv) (e1 : s'.names = s.names) (e2 : s'.aws = s.aws) (hw : ∀ p, s'.W = some p → H p.1 = some (.tup (p.2.map V.int))) (hm : ∀ p, s'.M = some p → H p.1 = some (.tup (p.2.map V.int))) :
    PAt CP CT z L s' (upd H z.x (.ins CP z.dx (pF z s'))) := by
  have k : ∀ {b : Addr} {u : HO}, H b = some u → (∀ dx fs, u ≠ .ins CP dx fs) → upd H z.x (.ins CP z.dx (pF z s')) b = some u := fun e n => by rw [upd_ne (ne_of e h.ob (n _ _))]; exact e
  refine ⟨upd_same, k h.tk (fun _ _ q => by cases q), fun q hq => ?_, k h.fl (fun _ _ q => by cases q), k (by rw [e1]; exact h.nl) (fun _ _ q => by cases q), k (by rw [e2]; exact h.al) (fun _ _ q => by cases q), fun q hq => k (h.aw q (by rw [← e2]; exact hq)) (fun _ _ q => by cases q),
    fun q hq => k (hw q hq) (fun _ _ q => by cases q), fun q hq => k (hm q hq) (fun _ _ q => by cases q), h.ne, h.cn⟩
  obtain ⟨dx, l, c, e⟩ := h.ts q hq
  exact ⟨dx, l, c, k e (fun _ _ q => by injection q with q1; exact h.cn q1)⟩
theorem PAt.setN (h : PAt CP CT z L s H) (ns : List Str) : PAt CP CT z L { s with names := ns } (upd H z.nl (.lst (ns.map V.str))) := by
  have hn := h.ne
  simp only [List.nodup_cons, List.mem_cons, List.not_mem_nil, or_false, not_or] at hn
  have k : ∀ {b : Addr} {u : HO}, H b = some u → b ≠ z.nl → upd H z.nl (.lst (ns.map V.str)) b = some u := fun e n => by rw [upd_ne n]; exact e
  have k2 : ∀ {b : Addr} {u : HO}, H b = some u → (∀ xs, u ≠ .lst xs) → upd H z.nl (.lst (ns.map V.str)) b = some u := fun e n => k e (ne_of e h.nl (n _))
  refine ⟨k h.ob hn.1.2.2.1, k h.tk hn.2.1.2.1, fun q hq => ?_, k h.fl hn.2.2.1.1, upd_same, k h.al (Ne.symm hn.2.2.2.1), fun q hq => k2 (h.aw q hq) (fun _ q => by cases q), fun q hq => k2 (h.w q hq) (fun _ q => by cases q), fun q hq => k2 (h.m q hq) (fun _ q => by cases q), h.ne, h.cn⟩
  obtain ⟨dx, l, c, e⟩ := h.ts q hq
  exact ⟨dx, l, c, k2 e (fun _ q => by cases q)⟩
theorem PAt.setA (h : PAt CP CT z L s H) (as : List (Addr × (Int × Int × Int))) (ha : ∀ q ∈ as, H q.1 = some (.tup (tri q.2))) : PAt CP CT z L { s with aws := as } (upd H z.al (.lst (arefs as))) := by
  have hn := h.ne
  simp only [List.nodup_cons, List.mem_cons, List.not_mem_nil, or_false, not_or] at hn
  have k : ∀ {b : Addr} {u : HO}, H b = some u → b ≠ z.al → upd H z.al (.lst (arefs as)) b = some u := fun e n => by rw [upd_ne n]; exact e
  have k2 : ∀ {b : Addr} {u : HO}, H b = some u → (∀ xs, u ≠ .lst xs) → upd H z.al (.lst (arefs as)) b = some u := fun e n => k e (ne_of e h.al (n _))
  refine ⟨k h.ob hn.1.2.2.2, k h.tk hn.2.1.2.2, fun q hq => ?_, k h.fl hn.2.2.1.2, k h.nl hn.2.2.2.1, upd_same, fun q hq => k2 (ha q hq) (fun _ q => by cases q), fun q hq => k2 (h.w q hq) (fun _ q => by cases q), fun q hq => k2 (h.m q hq) (fun _ q => by cases q), h.ne, h.cn⟩
  obtain ⟨dx, l, c, e⟩ := h.ts q hq
  exact ⟨dx, l, c, k2 e (fun _ q => by cases q)⟩
/-- a list of ours -/
theorem PAt.putL (h : PAt CP CT z L s H) {p : Addr} {l : List V} {o : HO} (hp : H p = some (.lst l)) (hm : p ∉ z.mut) (h1 : z.tk ≠ p) (h2 : z.fl ≠ p) : PAt CP CT z L s (upd H p o) := by
  simp only [Pz.mut, List.mem_cons, List.not_mem_nil, or_false, not_or] at hm
  have k : ∀ {b : Addr} {u : HO}, H b = some u → b ≠ p → upd H p o b = some u := fun e n => by rw [upd_ne n]; exact e
  have k2 : ∀ {b : Addr} {u : HO}, H b = some u → (∀ xs, u ≠ .lst xs) → upd H p o b = some u := fun e n => k e (ne_of e hp (n _))
  refine ⟨k h.ob (Ne.symm hm.1), k h.tk h1, fun q hq => ?_, k h.fl h2, k h.nl (Ne.symm hm.2.1), k h.al (Ne.symm hm.2.2), fun q hq => k2 (h.aw q hq) (fun _ q => by cases q), fun q hq => k2 (h.w q hq) (fun _ q => by cases q), fun q hq => k2 (h.m q hq) (fun _ q => by cases q), h.ne, h.cn⟩
  obtain ⟨dx, l, c, e⟩ := h.ts q hq
  exact ⟨dx, l, c, k2 e (fun _ q => by cases q)⟩
/-- what follows at the n-th token -/
def TkAt (L : List (Addr × (Str × Str))) (n : Nat) (ts : List (Str × Str)) : Prop := (L.map Prod.snd).drop n = ts
theorem TkAt.cons {n : Nat} {t : Str × Str} {ts : List (Str × Str)} (h : TkAt L n (t :: ts)) : (∃ a, L[n]? = some (a, t)) ∧ TkAt L (n + 1) ts := by
  unfold TkAt at h ⊢
  have e : (L.map Prod.snd)[n]? = some t := by
    have := congrArg (fun l => l[0]?) h
    simpa [List.getElem?_drop] using this
  rw [List.getElem?_map] at e
  refine ⟨?_, ?_⟩
  · cases hL : L[n]? with
    | none => rw [hL] at e; cases e
    | some q =>
      rw [hL] at e
      obtain ⟨a, b⟩ := q
      exact ⟨a, by cases e; rfl⟩
  · rw [← List.drop_drop, h]; rfl
theorem TkAt.app {n : Nat} {ts us : List (Str × Str)} (h : TkAt L n (ts ++ us)) : TkAt L (n + ts.length) us := by
  unfold TkAt at h ⊢
  rw [← List.drop_drop, h, List.drop_left]
theorem trefs_at {n : Nat} {a : Addr} {t : Str × Str} (h : L[n]? = some (a, t)) : atI (trefs L) (n : Int) = some (.ref a) := by
  refine atI_nat ?_
  unfold trefs
  rw [List.getElem?_map, h]; rfl
end
structure ParCls (K : PySem.W.Frag) (CP : Addr) : Prop where
  cl : Cls K CP
  n1 : NoAttr K CP "tokens"
  n2 : NoAttr K CP "at"
  n3 : NoAttr K CP "faults"
  n4 : NoAttr K CP "names"
  n5 : NoAttr K CP "weights"
  n6 : NoAttr K CP "makers"
  n7 : NoAttr K CP "aways"
section
variable {P : Program} {w : World} {K : PySem.W.Frag} {mg : Str → Option Value} {base : Heap} {CT CP : Addr}
abbrev sParser___init__ : Stmt := inClass (topS 39) 0
theorem scParser___init__ : FnScope ["self", "tokens"] ["self", "tokens"] (defScope sParser___init__) := ⟨rfl, rfl, rfl, by decide +kernel, rfl, by decide +kernel, by decide +kernel⟩
def spParI (CP CT : Addr) : Sp := fun vs H Q _ => ∃ (x dx tk : Addr) (L : List (Addr × (Str × Str))), vs = [.ref x, .ref tk] ∧ H x = some (.ins CP dx []) ∧ H tk = some (.lst (trefs L)) ∧ Tks CT H L ∧ CT ≠ CP ∧
  ∀ (z : Pz) (H' : Hp), z.x = x → Wd [x] H H' [] → PAt CP CT z L ⟨0, [], [], none, none⟩ H' → H z.nl = none → H z.al = none → Q .non H'
theorem mk_parser (D : InitAt K mg "Parser" "Parser.__init__" CP sParser___init__ ["self", "tokens"]) (PC : ParCls K CP) : MkAt P w K mg base 1 "Parser" CP ["self", "tokens"] (spParI CP CT) := D.mk' fun f fd F => by
  have nd := scParser___init__.nd
  refine F.ok scParser___init__ (fun vs H Q E h => ?_) (fun cdv A outer s H vs Q E hr h => ?_)
  · obtain ⟨x, dx, tk, L, rfl, _⟩ := h; rfl
  obtain ⟨x, dx, tk, L, rfl, hx, htk, hT, cn, q⟩ := h
  refine ⟨_, (pss_cons (ps_fld (pv 0) (pv 1) rfl)
 (pss_cons (ps_fld (pv 0) pe_int rfl)
 (pss_cons (ps_fld (pv 0) (pe_lst pa_nil) rfl)
 (pss_cons (ps_fld (pv 0) (pe_lst pa_nil) rfl)
 (pss_cons (ps_fld (pv 0) pe_non rfl)
 (pss_cons (ps_fld (pv 0) pe_non rfl)
 (pss_one (ps_fld (pv 0) (pe_lst pa_nil) rfl)))))))), ?_⟩
  have hxt : x ≠ tk := ne_of hx htk (by simp)
  have c0 := Wd.frefl [x] H
  have e1 : putF "tokens" (.ref tk) [] = [(("tokens" : Str), V.ref tk)] := rfl
  have e2 : putF "at" (.int 0) [(("tokens" : Str), V.ref tk)] = [(("tokens" : Str), V.ref tk), ("at", .int 0)] := by rw [putF_ne (by decide +kernel)]; rfl
  refine ⟨_, rfl, _, rfl, x, CP, dx, [], rfl, hx, PC.cl, PC.n1, (by show 0 < 1000; decide), ?_⟩
  refine ⟨_, rfl, x, CP, dx, _, rfl, upd_same, PC.cl, PC.n2, (by show 1 < 1000; decide), ?_⟩
  rw [e1, e2, upd_upd]
  have c1 := c0.fput (.ins CP dx [(("tokens" : Str), V.ref tk), ("at", .int 0)]) (.inr (by simp)) hx (fun _ q => by cases q)
  refine ⟨(by show 0 ≤ sizeLine; decide), fun fl hfl => ?_⟩
  have c2 := c1.fnew (.lst []) hfl
  have ld0 : Wd [x] H (upd H x (.ins CP dx [(("tokens" : Str), V.ref tk), ("at", .int 0)])) [(x, .ins CP dx [(("tokens" : Str), V.ref tk), ("at", .int 0)])] :=
    (Wd.start1 hx).put 0 _ rfl (fun _ q => by cases q)
  have ld1 := ld0.new1 (.lst []) hfl
  refine ⟨_, rfl, x, CP, dx, _, rfl, ld1.get 0 rfl, PC.cl, PC.n3, (by show 2 < 1000; decide), ?_⟩
  have e3 : putF "faults" (.ref fl) [(("tokens" : Str), V.ref tk), ("at", .int 0)] = [(("tokens" : Str), V.ref tk), ("at", .int 0), ("faults", .ref fl)] := by rw [putF_ne (by decide +kernel), putF_ne (by decide +kernel)]; rfl
  rw [e3]
  have ld2 := ld1.put 0 (.ins CP dx [(("tokens" : Str), V.ref tk), ("at", .int 0), ("faults", .ref fl)]) rfl (fun _ q => by cases q)
  refine ⟨(by show 0 ≤ sizeLine; decide), fun nl hnl => ?_⟩
  have ld3 := ld2.new1 (.lst []) hnl
  refine ⟨_, rfl, x, CP, dx, _, rfl, ld3.get 0 rfl, PC.cl, PC.n4, (by show 3 < 1000; decide), ?_⟩
  have e4 : putF "names" (.ref nl) [(("tokens" : Str), V.ref tk), ("at", .int 0), ("faults", .ref fl)] = [(("tokens" : Str), V.ref tk), ("at", .int 0), ("faults", .ref fl), ("names", .ref nl)] := by rw [putF_ne (by decide +kernel), putF_ne (by decide +kernel), putF_ne (by decide +kernel)]; rfl
  rw [e4]
  have ld4 := ld3.put 0 (.ins CP dx [(("tokens" : Str), V.ref tk), ("at", .int 0), ("faults", .ref fl), ("names", .ref nl)]) rfl (fun _ q => by cases q)
  refine ⟨_, rfl, x, CP, dx, _, rfl, ld4.get 0 rfl, PC.cl, PC.n5, (by show 4 < 1000; decide), ?_⟩
  have e5 : putF "weights" .non [(("tokens" : Str), V.ref tk), ("at", .int 0), ("faults", .ref fl), ("names", .ref nl)] = [(("tokens" : Str), V.ref tk), ("at", .int 0), ("faults", .ref fl), ("names", .ref nl), ("weights", .non)] := by
    rw [putF_ne (by decide +kernel), putF_ne (by decide +kernel), putF_ne (by decide +kernel), putF_ne (by decide +kernel)]; rfl
  rw [e5]
  have ld5 := ld4.put 0 (.ins CP dx [(("tokens" : Str), V.ref tk), ("at", .int 0), ("faults", .ref fl), ("names", .ref nl), ("weights", .non)]) rfl (fun _ q => by cases q)
  refine ⟨_, rfl, x, CP, dx, _, rfl, ld5.get 0 rfl, PC.cl, PC.n6, (by show 5 < 1000; decide), ?_⟩
  have e6 : putF "makers" .non [(("tokens" : Str), V.ref tk), ("at", .int 0), ("faults", .ref fl), ("names", .ref nl), ("weights", .non)] = [(("tokens" : Str), V.ref tk), ("at", .int 0), ("faults", .ref fl), ("names", .ref nl), ("weights", .non), ("makers", .non)] := by
    rw [putF_ne (by decide +kernel), putF_ne (by decide +kernel), putF_ne (by decide +kernel), putF_ne (by decide +kernel), putF_ne (by decide +kernel)]; rfl
  rw [e6]
  have ld6 := ld5.put 0 (.ins CP dx [(("tokens" : Str), V.ref tk), ("at", .int 0), ("faults", .ref fl), ("names", .ref nl), ("weights", .non), ("makers", .non)]) rfl (fun _ q => by cases q)
  refine ⟨(by show 0 ≤ sizeLine; decide), fun al hal => ?_⟩
  have ld7 := ld6.new1 (.lst []) hal
  refine ⟨_, rfl, x, CP, dx, _, rfl, ld7.get 0 rfl, PC.cl, PC.n7, (by show 6 < 1000; decide), ?_⟩
  have e7 : putF "aways" (.ref al) [(("tokens" : Str), V.ref tk), ("at", .int 0), ("faults", .ref fl), ("names", .ref nl), ("weights", .non), ("makers", .non)] = pF ⟨x, dx, tk, fl, nl, al⟩ ⟨0, [], [], none, none⟩ := by
    rw [putF_ne (by decide +kernel), putF_ne (by decide +kernel), putF_ne (by decide +kernel), putF_ne (by decide +kernel), putF_ne (by decide +kernel), putF_ne (by decide +kernel)]; rfl
  rw [e7]
  have ld8 := ld7.put 0 (.ins CP dx (pF ⟨x, dx, tk, fl, nl, al⟩ ⟨0, [], [], none, none⟩)) rfl (fun _ q => by cases q)
  have hal0 := ld6.free _ hal
  have hnl0 := ld2.free _ hnl
  have hfl0 := ld0.free _ hfl
  have ndl := ld8.nd
  have hkt := ne_of_none htk hal0
  have hkn := ne_of_none htk hnl0
  have hkf := ne_of_none htk hfl0
  have htx : tk ∉ [x] := by simpa using hxt.symm
  refine q ⟨x, dx, tk, fl, nl, al⟩ _ rfl (ld8.sub (List.nil_sublist _)) ⟨ld8.get 0 rfl, ld8.old htk htx, fun t ht => ?_, ld8.get 3 rfl, ld8.get 2 rfl, ld8.get 1 rfl, fun _ h => (nomatch h), fun _ h => (nomatch h), fun _ h => (nomatch h), ?_, cn⟩ hnl0 hal0
  · obtain ⟨tdx, tl, tc, e⟩ := hT t ht
    refine ⟨tdx, tl, tc, ld8.old e ?_⟩
    have : t.1 ≠ x := ne_of e hx (fun q => by injection q with q1; exact cn q1)
    simpa using this
  · simp only [List.set, List.map_cons, List.map_nil, List.nodup_cons, List.mem_cons, List.not_mem_nil, or_false, not_or] at ndl ⊢
    obtain ⟨⟨n1, n2, n3⟩, ⟨n4, n5⟩, n6, n7⟩ := ndl
    exact ⟨⟨hxt, n3, n2, n1⟩, ⟨hkf, hkn, hkt⟩, ⟨Ne.symm n6, Ne.symm n5⟩, Ne.symm n4, n7⟩
abbrev sParser_peek : Stmt := inClass (topS 39) 1
theorem scParser_peek : FnScope ["self"] ["self"] (defScope sParser_peek) := ⟨rfl, rfl, rfl, by decide +kernel, rfl, by decide +kernel, by decide +kernel⟩
def spPeek (CP CT : Addr) : Sp := fun vs H Q _ => ∃ (z : Pz) (L : List (Addr × (Str × Str))) (s : Pv) (a : Addr) (t : Str × Str), vs = [.ref z.x] ∧ PAt CP CT z L s H ∧ L[s.n]? = some (a, t) ∧ Q (.ref a) H
theorem me_peek (D : MethAt K CP "peek" "Parser.peek" sParser_peek ["self"]) (PC : ParCls K CP) : MeAt P w K mg base 1 CP "peek" ["self"] (spPeek CP CT) := D.me fun f fd F => by
  have nd := scParser_peek.nd
  refine F.ok scParser_peek (fun vs H Q E h => ?_) (fun cdv A outer s H vs Q E hr h => ?_)
  · obtain ⟨z, L, s, a, t, rfl, _⟩ := h; rfl
  obtain ⟨z, L, sv, a, t, rfl, hp, ht, q⟩ := h
  refine ⟨_, (pss_one (ps_ret (pe_ix (r := rIxL K) ix_list (pe_fldK (K := K) rfl (pv 0) rfl) (pe_fldK (K := K) rfl (pv 0) rfl) (fun _ _ => rfl)))), ?_⟩
  exact ⟨_, rfl, z.x, CP, z.dx, _, _, rfl, hp.ob, PC.cl, PC.n1, pf_tokens, _, rfl, z.x, CP, z.dx, _, _, rfl, hp.ob, PC.cl, PC.n2, pf_at, z.tk, _, _, _, rfl, rfl, SqL.of hp.tk, trefs_at ht, q⟩
/-- a token taken -/
def spTake (CP CT : Addr) : Sp := fun vs H Q _ => ∃ (z : Pz) (L : List (Addr × (Str × Str))) (s : Pv) (a : Addr) (k t : Str), vs = [.ref z.x, .str k] ∧ PAt CP CT z L s H ∧ L[s.n]? = some (a, (k, t)) ∧
  ∀ H', Wd z.mut H H' [] → PAt CP CT z L { s with n := s.n + 1 } H' → Q (.ref a) H'
abbrev sParser_take : Stmt := inClass (topS 39) 4
theorem scParser_take : FnScope ["self", "kind", "token"] ["self", "kind"] (defScope sParser_take) := ⟨rfl, rfl, rfl, by decide +kernel, rfl, by decide +kernel, by decide +kernel⟩
theorem me_take (D : MethAt K CP "take" "Parser.take" sParser_take ["self", "kind"]) (PC : ParCls K CP) (TC : TokCls K CT) (C1 : MeAt P w K mg base 1 CP "peek" ["self"] (spPeek CP CT)) : MeAt P w K mg base 2 CP "take" ["self", "kind"] (spTake CP CT) := D.me fun f fd F => by
  have nd := scParser_take.nd
  have cl_Parser := PC.cl
  obtain ⟨f1, fd1, me_peek, b_peek, G_peek⟩ := C1.ex
  refine F.ok scParser_take (fun vs H Q E h => ?_) (fun cdv A outer s H vs Q E hr h => ?_)
  · obtain ⟨z, L, s, a, k, t, rfl, _⟩ := h; rfl
  obtain ⟨z, L, sv, a, k, t, rfl, hp, ht, q⟩ := h
  refine ⟨_, (pss_cons (ps_set (i := 2) nd rfl (Or.inl rfl) (pe_meth0 (pv 0) cl_Parser me_peek G_peek (hr.mono (by first | decide | omega)) b_peek .nil pass0))
 (pss_cons (ps_if (pt_cmpR op_ne (pe_fldK (K := K) rfl (pv 2) rfl) (pv 1) (nomark _))
 pss_never
 pss_nil)
 (pss_cons (ps_fldaug (pv 0) pe_int in_add)
 (pss_one (ps_ret (pv 2)))))), ?_⟩
  obtain ⟨tdx, tl, tc, hta⟩ := hp.ts _ (List.mem_of_getElem? ht)
  refine ⟨_, rfl, z.x, z.dx, _, rfl, hp.ob, pf_none (by decide +kernel), z, L, sv, a, _, rfl, hp, ht, ?_⟩
  refine ⟨_, rfl, a, CT, tdx, _, _, rfl, hta, TC.cl, TC.nk, tk_kind _ _ _ _, _, rfl, rfl, _, rfl, ?_⟩
  refine ite2 (fun h => ?_) (fun _ => ?_)
  · exact absurd h (by simp)
  refine ⟨_, rfl, z.x, CP, z.dx, _, _, rfl, hp.ob, PC.cl, PC.n2, pf_at, _, _, rfl, rfl, _, _, hp.ob, (by show 7 < 1000; decide), ?_⟩
  have e : putF "at" (.int ((sv.n : Int) + 1)) (pF z sv) = pF z { sv with n := sv.n + 1 } := by
    rw [show (sv.n : Int) + 1 = ((sv.n + 1 : Nat) : Int) by omega]; exact pf_putAt _
  rw [e]
  exact ⟨_, rfl, q _ ((Wd.frefl _ _).fput _ (.inr (by simp [Pz.mut])) hp.ob (fun _ q => by cases q)) (hp.setX { sv with n := sv.n + 1 } rfl rfl hp.w hp.m)⟩
abbrev sParser_take_word : Stmt := inClass (topS 39) 5
theorem scParser_take_word : FnScope ["self", "word"] ["self", "word"] (defScope sParser_take_word) := ⟨rfl, rfl, rfl, by decide +kernel, rfl, by decide +kernel, by decide +kernel⟩
/-- a word taken -/
def spTakeW (CP CT : Addr) : Sp := fun vs H Q _ => ∃ (z : Pz) (L : List (Addr × (Str × Str))) (s : Pv) (a : Addr) (k t : Str), vs = [.ref z.x, .str t] ∧ PAt CP CT z L s H ∧ L[s.n]? = some (a, (k, t)) ∧
  ∀ H', Wd z.mut H H' [] → PAt CP CT z L { s with n := s.n + 1 } H' → Q .non H'
theorem me_take_word (D : MethAt K CP "take_word" "Parser.take_word" sParser_take_word ["self", "word"]) (PC : ParCls K CP) (TC : TokCls K CT) (C1 : MeAt P w K mg base 1 CP "peek" ["self"] (spPeek CP CT)) : MeAt P w K mg base 2 CP "take_word" ["self", "word"] (spTakeW CP CT) := D.me fun f fd F => by
  have nd := scParser_take_word.nd
  have cl_Parser := PC.cl
  obtain ⟨f1, fd1, me_peek, b_peek, G_peek⟩ := C1.ex
  refine F.ok scParser_take_word (fun vs H Q E h => ?_) (fun cdv A outer s H vs Q E hr h => ?_)
  · obtain ⟨z, L, s, a, k, t, rfl, _⟩ := h; rfl
  obtain ⟨z, L, sv, a, k, t, rfl, hp, ht, q⟩ := h
  refine ⟨_, (pss_cons (ps_if (pt_cmpR op_ne (pe_fldK (K := K) rfl (pe_meth0 (pv 0) cl_Parser me_peek G_peek (hr.mono (by first | decide | omega)) b_peek .nil pass0) rfl) (pv 1) (nomark _))
 pss_never
 pss_nil)
 (pss_one (ps_fldaug (pv 0) pe_int in_add))), ?_⟩
  obtain ⟨tdx, tl, tc, hta⟩ := hp.ts _ (List.mem_of_getElem? ht)
  refine ⟨_, rfl, z.x, z.dx, _, rfl, hp.ob, pf_none (by decide +kernel), z, L, sv, a, _, rfl, hp, ht, ?_⟩
  refine ⟨a, CT, tdx, _, _, rfl, hta, TC.cl, TC.nt, tk_text _ _ _ _, _, rfl, rfl, _, rfl, ?_⟩
  refine ite2 (fun h => absurd h (by simp)) (fun _ => ?_)
  refine ⟨_, rfl, z.x, CP, z.dx, _, _, rfl, hp.ob, PC.cl, PC.n2, pf_at, _, _, rfl, rfl, _, _, hp.ob, (by show 7 < 1000; decide), ?_⟩
  have e : putF "at" (.int ((sv.n : Int) + 1)) (pF z sv) = pF z { sv with n := sv.n + 1 } := by
    rw [show (sv.n : Int) + 1 = ((sv.n + 1 : Nat) : Int) by omega]; exact pf_putAt _
  rw [e]
  exact q _ ((Wd.frefl _ _).fput _ (.inr (by simp [Pz.mut])) hp.ob (fun _ q => by cases q)) (hp.setX { sv with n := sv.n + 1 } rfl rfl hp.w hp.m)
abbrev sParser_take_all : Stmt := inClass (topS 39) 6
theorem scParser_take_all : FnScope ["self", "kind", "tokens"] ["self", "kind"] (defScope sParser_take_all) := ⟨rfl, rfl, rfl, by decide +kernel, rfl, by decide +kernel, by decide +kernel⟩
/-- all of a kind, and the sign -/
def spTakeA (CP CT : Addr) : Sp := fun vs H Q _ => ∃ (z : Pz) (L : List (Addr × (Str × Str))) (s : Pv) (k : Str) (ks : List Str) (rest : List (Str × Str)), vs = [.ref z.x, .str k] ∧ PAt CP CT z L s H ∧ k ≠ "sign" ∧ ks ≠ [] ∧ ks.length ≤ 1000 ∧
  TkAt L s.n (ks.map (fun t => (k, t)) ++ (("sign" : Str), (";" : Str)) :: rest) ∧
  ∀ H' p sub, Wd z.mut H H' [] → PAt CP CT z L { s with n := s.n + ks.length + 1 } H' → H p = none → H' p = some (.lst (trefs sub)) → sub.map Prod.snd = ks.map (fun t => (k, t)) → (∀ q ∈ sub, q ∈ L) → Q (.ref p) H'
theorem me_take_all (D : MethAt K CP "take_all" "Parser.take_all" sParser_take_all ["self", "kind"]) (PC : ParCls K CP) (TC : TokCls K CT) (LC : LexC K mg) (C1 : MeAt P w K mg base 1 CP "peek" ["self"] (spPeek CP CT))
    (C2 : MeAt P w K mg base 2 CP "take" ["self", "kind"] (spTake CP CT)) (C3 : MeAt P w K mg base 2 CP "take_word" ["self", "word"] (spTakeW CP CT)) : MeAt P w K mg base 3 CP "take_all" ["self", "kind"] (spTakeA CP CT) := D.me fun f fd F => by
  have nd := scParser_take_all.nd
  have cl_Parser := PC.cl
  obtain ⟨t1, c_END_SIGN⟩ := LC.END_SIGN
  obtain ⟨f1, fd1, me_peek, b_peek, G_peek⟩ := C1.ex
  obtain ⟨f2, fd2, me_take, b_take, G_take⟩ := C2.ex
  obtain ⟨f3, fd3, me_take_word, b_take_word, G_take_word⟩ := C3.ex
  refine F.ok scParser_take_all (fun vs H Q E h => ?_) (fun cdv A outer s H vs Q E hr h => ?_)
  · obtain ⟨z, L, s, k, ks, rest, rfl, _⟩ := h; rfl
  obtain ⟨z, L, sv, k, ks, rest, rfl, hp, hk, hne, hlen, hts, q⟩ := h
  refine ⟨_, (pss_cons (ps_set (i := 2) nd rfl (Or.inl rfl) (pe_lst (pa_cons (pe_meth (pv 0) cl_Parser me_take G_take (hr.mono (by first | decide | omega)) b_take .nil pass0 (pa_cons (pv 1) pa_nil)) pa_nil)))
 (pss_cons (ps_while PassesOwn.never (pt_cmpR op_eq (pe_fldK (K := K) rfl (pe_meth0 (pv 0) cl_Parser me_peek G_peek (hr.mono (by first | decide | omega)) b_peek .nil pass0) rfl) (pv 1) (nomark _))
 (pss_one (ps_expr (pe_bmK (K := K) rfl PySem.F.plainAttrs_list PySem.F.slot_list_append PySem.F.type_list_append mt_append (pv 2) (pa_cons (pe_meth (pv 0) cl_Parser me_take G_take (hr.mono (by first | decide | omega)) b_take .nil pass0 (pa_cons (pv 1) pa_nil)) pa_nil)))))
 (pss_cons (ps_expr (pe_meth (pv 0) cl_Parser me_take_word G_take_word (hr.mono (by first | decide | omega)) b_take_word .nil pass0 (pa_cons (pe_glob (v := .str ";") (by rfl) c_END_SIGN ⟨_, rfl⟩) pa_nil)))
 (pss_one (ps_ret (pv 2)))))), ?_⟩
  obtain ⟨t0, kr, rfl⟩ := List.exists_cons_of_ne_nil hne
  obtain ⟨⟨a0, h0⟩, hts1⟩ := hts.cons
  refine ⟨_, rfl, z.x, z.dx, _, rfl, hp.ob, pf_none (by decide +kernel), _, rfl, z, L, sv, a0, k, t0, rfl, hp, h0, fun H1 c1 hp1 => ?_⟩
  refine ⟨(by show 1 ≤ sizeLine; decide), fun p hpn => ?_⟩
  have hpn0 := c1.free _ hpn
  refine while_by (fun σ H' => σ = [some (.ref z.x), some (.str k), some (.ref p)] ∧ ∃ (sub : List (Addr × (Str × Str))) (ks1 ks2 : List Str), Wd z.mut H H' [] ∧ PAt CP CT z L { sv with n := sv.n + ks1.length } H' ∧ H' p = some (.lst (trefs sub)) ∧
      ks1 ++ ks2 = t0 :: kr ∧ sub.map Prod.snd = ks1.map (fun t => (k, t)) ∧ (∀ q ∈ sub, q ∈ L) ∧ TkAt L (sv.n + ks1.length) (ks2.map (fun t => (k, t)) ++ (("sign" : Str), (";" : Str)) :: rest)) (fun _ H' => kr.length + 1 - (match H' p with | some (.lst l) => l.length | _ => 0))
    ⟨rfl, [(a0, (k, t0))], [t0], kr, c1.fnew _ hpn, hp1.new _ hpn, upd_same, rfl, rfl, (by intro q hq; rw [List.mem_singleton.mp hq]; exact List.mem_of_getElem? h0), hts1⟩ ?_ ?_
  · rintro σ H2 ⟨rfl, sub, ks1, ks2, c2, hp2, hsub, hks, hmap, hmem, hts2⟩
    have hpm : p ∉ z.mut := by
      intro hm
      simp only [Pz.mut, List.mem_cons, List.not_mem_nil, or_false] at hm
      rcases hm with rfl | rfl | rfl
      · rw [hp.ob] at hpn0; cases hpn0
      · rw [hp.nl] at hpn0; cases hpn0
      · rw [hp.al] at hpn0; cases hpn0
    have hl := congrArg List.length hks
    rw [List.length_append, List.length_cons] at hl
    have hl2 : sub.length = ks1.length := by
      have := congrArg List.length hmap
      rw [List.length_map, List.length_map] at this
      exact this
    cases ks2 with
    | cons t2 ks2 =>
      obtain ⟨⟨a2, h2⟩, hts3⟩ := hts2.cons
      obtain ⟨tdx, tl, tc, hta⟩ := hp2.ts _ (List.mem_of_getElem? h2)
      refine ⟨_, rfl, z.x, z.dx, _, rfl, hp2.ob, pf_none (by decide +kernel), z, L, _, a2, _, rfl, hp2, h2, a2, CT, tdx, _, _, rfl, hta, TC.cl, TC.nk, tk_kind _ _ _ _, _, rfl, rfl, _, rfl, ?_⟩
      refine ite2 (fun _ => ?_) (fun h => absurd (by simp) h)
      refine ⟨_, rfl, .inl ⟨rfl, _, SqL.of hsub⟩, _, rfl, z.x, z.dx, _, rfl, hp2.ob, pf_none (by decide +kernel), _, rfl, z, L, _, a2, k, t2, rfl, hp2, h2, fun H3 c3 hp3 => ?_⟩
      have hsub3 := c3.base _ _ hpm hsub
      refine ⟨p, _, _, rfl, rfl, hsub3, ?_, ⟨rfl, sub ++ [(a2, (k, t2))], ks1 ++ [t2], ks2, ?_, ?_, ?_, ?_, ?_, ?_, ?_⟩, ?_⟩
      · rw [trefs_len, hl2]; exact Nat.lt_of_lt_of_le (m := 1001) (by simp at hlen hl; omega) (by decide)
      · exact (c2.fgo c3).fput _ (.inl hpn0) hsub3 (fun _ q => by cases q)
      · have e : ({ sv with n := sv.n + (ks1 ++ [t2]).length } : Pv) = { ({ sv with n := sv.n + ks1.length } : Pv) with n := sv.n + ks1.length + 1 } := by
          simp only [List.length_append, List.length_cons, List.length_nil]; rfl
        rw [e]
        exact hp3.putL (p := p) hsub3 hpm (fun h => by rw [← h, hp.tk] at hpn0; cases hpn0) (fun h => by rw [← h, hp.fl] at hpn0; cases hpn0)
      · have e : trefs (sub ++ [(a2, (k, t2))]) = trefs sub ++ [.ref a2] := by simp [trefs]
        rw [upd_same, e]
      · rw [← hks]; simp
      · rw [List.map_append, hmap, List.map_append]; rfl
      · intro q hq
        rcases List.mem_append.mp hq with hq | hq
        · exact hmem q hq
        · rw [List.mem_singleton.mp hq]; exact List.mem_of_getElem? h2
      · rw [List.length_append, List.length_cons, List.length_nil, ← Nat.add_assoc]; exact hts3
      · show kr.length + 1 - (match upd H3 p _ p with | some (.lst l) => l.length | _ => 0) < _
        rw [upd_same, hsub]
        show kr.length + 1 - (trefs sub ++ [V.ref a2]).length < kr.length + 1 - (trefs sub).length
        rw [List.length_append, trefs_len, hl2]
        simp only [List.length_cons] at hl ⊢
        omega
    | nil =>
      obtain ⟨⟨a2, h2⟩, hts3⟩ := hts2.cons
      obtain ⟨tdx, tl, tc, hta⟩ := hp2.ts _ (List.mem_of_getElem? h2)
      refine ⟨_, rfl, z.x, z.dx, _, rfl, hp2.ob, pf_none (by decide +kernel), z, L, _, a2, _, rfl, hp2, h2, a2, CT, tdx, _, _, rfl, hta, TC.cl, TC.nk, tk_kind _ _ _ _, _, rfl, rfl, _, rfl, ?_⟩
      refine ite2 (fun h => absurd (of_decide_eq_true h) (fun e => hk (by injection e with e; exact e.symm))) (fun _ => ?_)
      refine ⟨_, rfl, z.x, z.dx, _, rfl, hp2.ob, pf_none (by decide +kernel), z, L, _, a2, _, _, rfl, hp2, h2, fun H3 c3 hp3 => ?_⟩
      rw [List.append_nil] at hks
      subst hks
      exact ⟨_, rfl, q H3 p sub (c2.fgo c3) hp3 hpn0 (c3.base _ _ hpm hsub) hmap hmem⟩
  · intro σ H2 Q1 Q2 hm hc
    obtain ⟨v0, e0, a, dx', fs, ea, eo, en, z', L', s', a', t', e1, e2, e3, a'', C'', dx'', fs'', v'', g1, g2, g3, g4, g5, v1, e4, e5, b, hb, hc⟩ := hc
    exact ⟨v0, e0, a, dx', fs, ea, eo, en, z', L', s', a', t', e1, e2, e3, a'', C'', dx'', fs'', v'', g1, g2, g3, g4, g5, v1, e4, e5, b, hb, hm _ _ hc⟩
end
end Br

namespace Br
open PySem PySem.Spec PyProof.Rows L2
theorem PAt.call0 {CP CT : Addr} {z : Pz} {L : List (Addr × (Str × Str))} {s : Pv} {H H' : Hp} {l : List (Addr × HO)} (h : PAt CP CT z L s H) (c : Wd [] H H' l) : PAt CP CT z L s H' := by
  have k : ∀ {b : Addr} {u : HO}, H b = some u → H' b = some u := fun e => c.base _ _ (by simp) e
  exact ⟨k h.ob, k h.tk, h.ts.call c, k h.fl, k h.nl, k h.al, fun q hq => k (h.aw q hq), fun q hq => k (h.w q hq), fun q hq => k (h.m q hq), h.ne, h.cn⟩
theorem PAt.out {CP CT : Addr} {z : Pz} {L : List (Addr × (Str × Str))} {s : Pv} {H : Hp} (h : PAt CP CT z L s H) {p : Addr} (hp : H p = none) : p ∉ z.mut ∧ z.tk ≠ p ∧ z.fl ≠ p := by
  refine ⟨fun hm => ?_, ne_of_none h.tk hp, ne_of_none h.fl hp⟩
  simp only [Pz.mut, List.mem_cons, List.not_mem_nil, or_false] at hm
  rcases hm with rfl | rfl | rfl
  · rw [h.ob] at hp; cases hp
  · rw [h.nl] at hp; cases hp
  · rw [h.al] at hp; cases hp
theorem sub_at {sub : List (Addr × (Str × Str))} {k : Str} {ks : List Str} (hm : sub.map Prod.snd = ks.map (fun t => (k, t))) {i : Nat} {x : V} (hx : (trefs sub)[i]? = some x) : ∃ a t, x = .ref a ∧ ks[i]? = some t ∧ (a, (k, t)) ∈ sub := by
  unfold trefs at hx
  rw [List.getElem?_map] at hx
  cases e : sub[i]? with
  | none => rw [e] at hx; cases hx
  | some q =>
    rw [e] at hx
    have h2 := congrArg (fun l => l[i]?) hm
    simp only [List.getElem?_map, e] at h2
    cases e3 : ks[i]? with
    | none => rw [e3] at h2; cases h2
    | some t =>
      rw [e3] at h2
      have h4 : q.2 = (k, t) := Option.some.inj h2
      exact ⟨q.1, t, (Option.some.inj hx).symm, rfl, by rw [← h4]; exact List.mem_of_getElem? e⟩
theorem eqV_str (a b : Str) : eqV (.str a) (.str b) = decide (a = b) := by
  rw [Bool.eq_iff_iff, decide_eq_true_eq]
  exact ⟨fun h => eq_of_beq (show (a == b) = true from h), fun h => (show (a == b) = true from beq_iff_eq.mpr h)⟩
section
variable {P : Program} {w : World} {K : PySem.W.Frag} {mg : Str → Option Value} {base : Heap} {CT CP : Addr}
def spPerson (CP CT : Addr) : Sp := fun vs H Q _ => ∃ (z : Pz) (L : List (Addr × (Str × Str))) (s : Pv) (a : Addr) (k t : Str) (j : Nat), vs = [.ref z.x, .ref a] ∧ PAt CP CT z L s H ∧ (a, (k, t)) ∈ L ∧ s.names.Nodup ∧ s.names[j]? = some t ∧ Q (.int j) H
abbrev sParser_person : Stmt := inClass (topS 39) 7
theorem scParser_person : FnScope ["self", "token"] ["self", "token"] (defScope sParser_person) := ⟨rfl, rfl, rfl, by decide +kernel, rfl, by decide +kernel, by decide +kernel⟩
theorem me_person (D : MethAt K CP "person" "Parser.person" sParser_person ["self", "token"]) (PC : ParCls K CP) (TC : TokCls K CT) : MeAt P w K mg base 1 CP "person" ["self", "token"] (spPerson CP CT) := D.me fun f fd F => by
  have nd := scParser_person.nd
  refine F.ok scParser_person (fun vs H Q E h => ?_) (fun cdv A outer s H vs Q E hr h => ?_)
  · obtain ⟨z, L, s, a, k, t, j, rfl, _⟩ := h; rfl
  obtain ⟨z, L, sv, a, k, t, j, rfl, hp, ht, hnd, hj, q⟩ := h
  refine ⟨_, (pss_cons (ps_if (pt_cmpR (r := rIn K false) op_in_seq (pe_fldK (K := K) rfl (pv 1) rfl) (pe_fldK (K := K) rfl (pv 0) rfl) (by rfl))
 (pss_one (ps_ret (pe_bmK (K := K) rfl PySem.F.plainAttrs_list PySem.F.slot_list_index PySem.F.type_list_index mt_index (pe_fldK (K := K) rfl (pv 0) rfl) (pa_cons (pe_fldK (K := K) rfl (pv 1) rfl) pa_nil))))
 pss_nil)
 pss_never), ?_⟩
  obtain ⟨tdx, tl, tc, hta⟩ := hp.ts _ ht
  refine ⟨_, rfl, a, CT, tdx, _, _, rfl, hta, TC.cl, TC.nt, tk_text _ _ _ _, _, rfl, z.x, CP, z.dx, _, _, rfl, hp.ob, PC.cl, PC.n4, pf_names, z.nl, sv.names.map V.str, rfl, .inl (SqL.of hp.nl), rfl, flat_strs' _, _, rfl, ?_⟩
  rw [if_neg Bool.false_ne_true, inV_strs]
  refine ite2 (fun _ => ?_) (fun h => absurd (decide_eq_true (List.mem_of_getElem? hj)) h)
  refine ⟨_, rfl, z.x, CP, z.dx, _, _, rfl, hp.ob, PC.cl, PC.n4, pf_names, .inl ⟨rfl, _, SqL.of hp.nl⟩, _, rfl, a, CT, tdx, _, _, rfl, hta, TC.cl, TC.nt, tk_text _ _ _ _, ?_⟩
  refine ⟨z.nl, sv.names.map V.str, .str t, j, .str t, rfl, rfl, SqL.of hp.nl, rfl, flat_strs' _, by rw [List.getElem?_map, hj]; rfl, by rw [eqV_str]; exact decide_eq_true rfl, fun m z' hm hz' => ?_, q⟩
  rw [List.getElem?_map] at hz'
  cases e : sv.names[m]? with
  | none => rw [e] at hz'; cases hz'
  | some y =>
    rw [e] at hz'
    cases hz'
    rw [eqV_str, decide_eq_false_iff_not]
    rintro rfl
    exact absurd (nd_ix hnd e hj) (by omega)
/-- the people -/
def spPeople (CP CT : Addr) : Sp := fun vs H Q _ => ∃ (z : Pz) (L : List (Addr × (Str × Str))) (s : Pv) (ns : List Str) (rest : List (Str × Str)), vs = [.ref z.x] ∧ PAt CP CT z L s H ∧ s.names = [] ∧ ns ≠ [] ∧ ns.length ≤ 6 ∧ ns.Nodup ∧
  TkAt L s.n ((("keyword" : Str), ("people" : Str)) :: (ns.map (fun t => (("name" : Str), t)) ++ (("sign" : Str), (";" : Str)) :: rest)) ∧
  ∀ H', Wd z.mut H H' [] → PAt CP CT z L { s with n := s.n + 1 + ns.length + 1, names := ns } H' → Q .non H'
abbrev sParser_parse_people : Stmt := inClass (topS 39) 8
theorem scParser_parse_people : FnScope ["self", "token"] ["self"] (defScope sParser_parse_people) := ⟨rfl, rfl, rfl, by decide +kernel, rfl, by decide +kernel, by decide +kernel⟩
theorem me_people (D : MethAt K CP "parse_people" "Parser.parse_people" sParser_parse_people ["self"]) (T : Bi mg) (PC : ParCls K CP) (TC : TokCls K CT) (LC : LexC K mg) (hMP : ∃ t, mg "MAX_PEOPLE" = some (.int 6 t)) (C1 : MeAt P w K mg base 2 CP "take_word" ["self", "word"] (spTakeW CP CT))
    (C2 : MeAt P w K mg base 3 CP "take_all" ["self", "kind"] (spTakeA CP CT)) : MeAt P w K mg base 4 CP "parse_people" ["self"] (spPeople CP CT) := D.me fun f fd F => by
  have nd := scParser_parse_people.nd
  have cl_Parser := PC.cl
  obtain ⟨t1, c_NAME⟩ := LC.NAME
  obtain ⟨t2, c_MAX_PEOPLE⟩ := hMP
  obtain ⟨f1, fd1, me_take_word, b_take_word, G_take_word⟩ := C1.ex
  obtain ⟨f2, fd2, me_take_all, b_take_all, G_take_all⟩ := C2.ex
  refine F.ok scParser_parse_people (fun vs H Q E h => ?_) (fun cdv A outer s H vs Q E hr h => ?_)
  · obtain ⟨z, L, s, ns, rest, rfl, _⟩ := h; rfl
  obtain ⟨z, L, sv, ns, rest, rfl, hp, hn0, hne, h6, hnd, hts, q⟩ := h
  refine ⟨_, (pss_cons (ps_expr (pe_meth (pv 0) cl_Parser me_take_word G_take_word (hr.mono (by first | decide | omega)) b_take_word .nil pass0 (pa_cons pe_str pa_nil)))
 (pss_one (ps_for PassesOwn.never rfl (pi_listK (K := K) rfl (pe_meth (pv 0) cl_Parser me_take_all G_take_all (hr.mono (by first | decide | omega)) b_take_all .nil pass0 (pa_cons (pe_glob (v := .str "name") (by rfl) c_NAME ⟨_, rfl⟩) pa_nil))) (pg_name (i := 1) nd rfl (Or.inl rfl))
 (pss_one (ps_if (pt_cmpR (r := rIn K false) op_in_seq (pe_fldK (K := K) rfl (pv 1) rfl) (pe_fldK (K := K) rfl (pv 0) rfl) (by rfl))
 pss_never
 (pss_one (ps_if (pt_cmpR op_eq (pe_callB (r := rLenS K) call_len_seq (by rfl) T.len PySem.boot_len (pa_cons (pe_fldK (K := K) rfl (pv 0) rfl) pa_nil)) (pe_glob (v := .int 6) (by rfl) c_MAX_PEOPLE ⟨_, rfl⟩) (nomark _))
 pss_never
 (pss_one (ps_expr (pe_bmK (K := K) rfl PySem.F.plainAttrs_list PySem.F.slot_list_append PySem.F.type_list_append mt_append (pe_fldK (K := K) rfl (pv 0) rfl) (pa_cons (pe_fldK (K := K) rfl (pv 1) rfl) pa_nil))))))))))), ?_⟩
  obtain ⟨⟨a0, h0⟩, hts1⟩ := hts.cons
  refine ⟨_, rfl, z.x, z.dx, _, rfl, hp.ob, pf_none (by decide +kernel), z, L, sv, a0, _, _, rfl, hp, h0, fun H1 c1 hp1 => ?_⟩
  refine ⟨_, rfl, z.x, z.dx, _, rfl, hp1.ob, pf_none (by decide +kernel), z, L, _, _, ns, rest, rfl, hp1, by decide +kernel, hne, by omega, hts1, fun H2 p sub c2 hp2 hpn hsub hmap hmem => ?_⟩
  have hpo := hp1.out hpn
  have hpn0 := c1.free _ hpn
  have hsl : (trefs sub).length = ns.length := by
    have := congrArg List.length hmap
    rw [List.length_map, List.length_map] at this
    rw [trefs_len]; exact this
  refine ⟨p, rfl, ⟨_, SqL.of hsub⟩, ?_⟩
  refine for_it (walk_list (xs := trefs sub)) (fun i σ H' => (∃ b, σ = [some (.ref z.x), b]) ∧ Wd z.mut H H' [] ∧ PAt CP CT z L { sv with n := sv.n + 1 + ns.length + 1, names := ns.take i } H' ∧ H' p = some (.lst (trefs sub))) ?_ ?_ ?_ ?_
  · exact ⟨⟨_, rfl⟩, c1.fgo c2, by rw [List.take_zero, ← hn0]; exact hp2, hsub⟩
  · rintro i σ H' _ ⟨_, _, _, h⟩
    exact SqL.of h
  · rintro i x σ H3 H3' hi ⟨⟨b, rfl⟩, c3, hp3, hs3⟩ ⟨rfl, hx⟩
    obtain ⟨a, t, rfl, ht, hm⟩ := sub_at hmap hx
    obtain ⟨tdx, tl, tc, hta⟩ := hp3.ts _ (hmem _ hm)
    have hi6 : (ns.take i).length = i := by rw [List.length_take]; omega
    refine ⟨_, rfl, a, CT, tdx, _, _, rfl, hta, TC.cl, TC.nt, tk_text _ _ _ _, _, rfl, z.x, CP, z.dx, _, _, rfl, hp3.ob, PC.cl, PC.n4, pf_names, z.nl, (ns.take i).map V.str, rfl, .inl (SqL.of hp3.nl), rfl, flat_strs' _, _, rfl, ?_⟩
    rw [if_neg Bool.false_ne_true, inV_strs]
    have hnot : t ∉ ns.take i := fun h => by
      obtain ⟨j, hj, e⟩ := List.mem_take_iff_getElem.mp h
      have e2 : ns[j]? = some t := by rw [List.getElem?_eq_getElem (by omega), e]
      exact absurd (nd_ix hnd e2 ht) (by omega)
    refine ite2 (fun h => absurd (of_decide_eq_true h) hnot) (fun _ => ?_)
    refine ⟨_, rfl, z.x, CP, z.dx, _, _, rfl, hp3.ob, PC.cl, PC.n4, pf_names, z.nl, _, rfl, .inl (SqL.of hp3.nl), rfl, _, rfl, ?_⟩
    have hni : i ≠ 6 := by omega
    refine ite2 (fun h => absurd (of_decide_eq_true h) ?_) (fun _ => ?_)
    · rw [List.length_map, hi6]
      intro e; injection e with e; omega
    refine ⟨_, rfl, z.x, CP, z.dx, _, _, rfl, hp3.ob, PC.cl, PC.n4, pf_names, .inl ⟨rfl, _, SqL.of hp3.nl⟩, _, rfl, a, CT, tdx, _, _, rfl, hta, TC.cl, TC.nt, tk_text _ _ _ _, ?_⟩
    refine ⟨z.nl, _, _, rfl, rfl, hp3.nl, ?_, ⟨_, rfl⟩, ?_, ?_, ?_⟩
    · rw [List.length_map, hi6]; exact Nat.lt_of_lt_of_le (m := 100) (by omega) (by decide)
    · exact c3.fput _ (.inr (by simp [Pz.mut])) hp3.nl (fun _ q => by cases q)
    · have e : (ns.take i).map V.str ++ [V.str t] = (ns.take (i + 1)).map V.str := by rw [take_more ht, List.map_append]; rfl
      rw [e]
      exact hp3.setN _
    · have hne : p ≠ z.nl := fun e => hpo.1 (by rw [e]; simp [Pz.mut])
      rw [upd_ne hne]; exact hs3
  · rintro σ H3 ⟨⟨b, rfl⟩, c3, hp3, hs3⟩
    rw [hsl, List.take_length] at hp3
    exact q _ c3 hp3
end
end Br

namespace Br
open PySem PySem.Spec PyProof.Rows L2
theorem eqV_int (a b : Int) : eqV (.int a) (.int b) = decide (a = b) := by
  rw [Bool.eq_iff_iff, decide_eq_true_eq]
  exact ⟨fun h => eq_of_beq (show (a == b) = true from h), fun h => (show (a == b) = true from beq_iff_eq.mpr h)⟩
theorem inV_ints (x : Int) : ∀ l : List Int, inV (.int x) (l.map V.int) = decide (x ∈ l)
  | [] => by simp [inV]
  | y :: l => by
    have ih := inV_ints x l
    unfold inV at ih ⊢
    rw [List.map_cons, List.any_cons, ih, eqV_int, Bool.eq_iff_iff, Bool.or_eq_true, decide_eq_true_eq, decide_eq_true_eq, decide_eq_true_eq, List.mem_cons]
    exact or_congr ⟨fun h => h.symm, fun h => h.symm⟩ Iff.rfl
theorem flat_ints (l : List Int) : (l.map V.int).all flatV = true := by
  rw [List.all_eq_true]
  intro v hv
  obtain ⟨s, _, rfl⟩ := List.mem_map.mp hv
  rfl
/-- the name of the k-th -/
def nmL (ns : List Str) (k : Int) : Str := ns.getD k.toNat Str.empty
theorem nmL_at {ns : List Str} {k : Int} (h0 : 0 ≤ k) (h1 : k < ns.length) : ns[k.toNat]? = some (nmL ns k) := by
  unfold nmL
  rw [List.getD_eq_getElem?_getD, List.getElem?_eq_getElem (by omega)]; rfl
section
variable {P : Program} {w : World} {K : PySem.W.Frag} {mg : Str → Option Value} {base : Heap} {CT CP : Addr}
/-- the turns -/
def spTurns (CP CT : Addr) : Sp := fun vs H Q _ => ∃ (z : Pz) (L : List (Addr × (Str × Str))) (s : Pv) (ts : List Int) (rest : List (Str × Str)), vs = [.ref z.x] ∧ PAt CP CT z L s H ∧ s.names.Nodup ∧ s.names.length ≤ 6 ∧ ts ≠ [] ∧ ts.length ≤ 12 ∧
  (∀ t ∈ ts, 0 ≤ t ∧ t < s.names.length) ∧ (∀ k : Nat, k < s.names.length → (k : Int) ∈ ts) ∧
  TkAt L s.n ((("keyword" : Str), ("turns" : Str)) :: ((ts.map (nmL s.names)).map (fun t => (("name" : Str), t)) ++ (("sign" : Str), (";" : Str)) :: rest)) ∧
  ∀ H' r, Wd z.mut H H' [] → PAt CP CT z L { s with n := s.n + 1 + ts.length + 1 } H' → H' r = some (.tup (ts.map V.int)) → Q (.ref r) H'
abbrev sParser_parse_turns : Stmt := inClass (topS 39) 9
theorem scParser_parse_turns : FnScope ["self", "start", "turns", "index", "token", "person"] ["self"] (defScope sParser_parse_turns) := ⟨rfl, rfl, rfl, by decide +kernel, rfl, by decide +kernel, by decide +kernel⟩
theorem me_turns (D : MethAt K CP "parse_turns" "Parser.parse_turns" sParser_parse_turns ["self"]) (T : Bi mg) (PC : ParCls K CP) (TC : TokCls K CT) (LC : LexC K mg) (hMP : ∃ t, mg "MAX_TURNS" = some (.int 12 t))
    (C0 : MeAt P w K mg base 1 CP "peek" ["self"] (spPeek CP CT)) (C1 : MeAt P w K mg base 2 CP "take_word" ["self", "word"] (spTakeW CP CT))
    (C2 : MeAt P w K mg base 3 CP "take_all" ["self", "kind"] (spTakeA CP CT)) (C3 : MeAt P w K mg base 1 CP "person" ["self", "token"] (spPerson CP CT)) : MeAt P w K mg base 4 CP "parse_turns" ["self"] (spTurns CP CT) := D.me fun f fd F => by
  have nd := scParser_parse_turns.nd
  have cl_Parser := PC.cl
  obtain ⟨t1, c_NAME⟩ := LC.NAME
  obtain ⟨t2, c_MAX_TURNS⟩ := hMP
  obtain ⟨f0, fd0, me_peek, b_peek, G_peek⟩ := C0.ex
  obtain ⟨f1, fd1, me_take_word, b_take_word, G_take_word⟩ := C1.ex
  obtain ⟨f2, fd2, me_take_all, b_take_all, G_take_all⟩ := C2.ex
  obtain ⟨f3, fd3, me_person, b_person, G_person⟩ := C3.ex
  refine F.ok scParser_parse_turns (fun vs H Q E h => ?_) (fun cdv A outer s H vs Q E hr h => ?_)
  · obtain ⟨z, L, s, ts, rest, rfl, _⟩ := h; rfl
  obtain ⟨z, L, sv, ts, rest, rfl, hp, hnd, h6, hne, h12, hin, hall, hts, q⟩ := h
  refine ⟨_, (pss_cons (ps_set (i := 1) nd rfl (Or.inl rfl) (pe_meth0 (pv 0) cl_Parser me_peek G_peek (hr.mono (by first | decide | omega)) b_peek .nil pass0))
 (pss_cons (ps_expr (pe_meth (pv 0) cl_Parser me_take_word G_take_word (hr.mono (by first | decide | omega)) b_take_word .nil pass0 (pa_cons pe_str pa_nil)))
 (pss_cons (ps_set (i := 2) nd rfl (Or.inr rfl) (pe_lst pa_nil))
 (pss_cons (ps_for PassesOwn.never rfl (pi_enum (by rfl) T.enumerate (pa_cons (pe_meth (pv 0) cl_Parser me_take_all G_take_all (hr.mono (by first | decide | omega)) b_take_all .nil pass0 (pa_cons (pe_glob (v := .str "name") (by rfl) c_NAME ⟨_, rfl⟩) pa_nil)) pa_nil)) (pg_tupK (K := K) (n := 2) rfl rfl (pgs_cons (pg_name (i := 3) nd rfl (Or.inl rfl)) (pgs_cons (pg_name (i := 4) nd rfl (Or.inl rfl)) pgs_nil)))
 (pss_cons (ps_expr (pe_bmK (K := K) rfl PySem.F.plainAttrs_list PySem.F.slot_list_append PySem.F.type_list_append mt_append (pv 2) (pa_cons (pe_meth (pv 0) cl_Parser me_person G_person (hr.mono (by first | decide | omega)) b_person .nil pass0 (pa_cons (pv 4) pa_nil)) pa_nil)))
 (pss_one (ps_if (pt_cmpR op_eq (pv 3) (pe_glob (v := .int 12) (by rfl) c_MAX_TURNS ⟨_, rfl⟩) (nomark _))
 pss_never
 pss_nil))))
 (pss_cons (ps_if (pt_val (pe_callB (r := L2.rAny K) (cr_any rfl) (by rfl) T.any (by decide +kernel) (pa_cons (pe_lc (own := [("person", 5)]) rfl nd (pi_range1 (by rfl) T.range (pa_cons (pe_callB (r := rLenS K) call_len_seq (by rfl) T.len PySem.boot_len (pa_cons (pe_fldK (K := K) rfl (pv 0) rfl) pa_nil)) pa_nil)) (blkOk_by (N := ["self", "start", "turns", "index", "token", "person"]) (sc := defScope sParser_parse_turns) (by decide +kernel)) (fun _ _ _ _ _ => (pg_name (i := 5) nd rfl (Or.inl rfl))) (fun _ _ _ _ _ => pts_nil) (fun _ _ _ _ _ => (pe_cmpR (r := rIn K true) op_notIn_seq (pv 5) (pv 2) (by rfl)))) pa_nil)))
 pss_never
 pss_nil)
 (pss_one (ps_ret (pe_callTy (r := rTupOf K) call_tuple_of (by rfl) T.tuple (by decide +kernel) (pa_cons (pv 2) pa_nil))))))))), ?_⟩
  obtain ⟨⟨a0, h0⟩, hts1⟩ := hts.cons
  refine ⟨_, rfl, z.x, z.dx, _, rfl, hp.ob, pf_none (by decide +kernel), z, L, sv, a0, _, rfl, hp, h0, ?_⟩
  refine ⟨_, rfl, z.x, z.dx, _, rfl, hp.ob, pf_none (by decide +kernel), z, L, sv, a0, _, _, rfl, hp, h0, fun H1 c1 hp1 => ?_⟩
  refine ⟨(by show 0 ≤ sizeLine; decide), fun tq htq => ?_⟩
  have htqN := c1.free _ htq
  have c1 := c1.fnew (.lst []) htq
  have htq0 := (hp1.out htq)
  have hp1 := hp1.new (.lst []) htq
  have htq1 : upd H1 tq (.lst []) tq = some (.lst ([].map V.int)) := upd_same
  generalize upd H1 tq (.lst []) = H1 at *
  refine ⟨_, rfl, z.x, z.dx, _, rfl, hp1.ob, pf_none (by decide +kernel), z, L, _, _, ts.map (nmL sv.names), rest, rfl, hp1, by decide +kernel, by simpa using hne, by rw [List.length_map]; omega, hts1, fun H2 p sub c2 hp2 hpn hsub hmap hmem => ?_⟩
  have hpo := hp1.out hpn
  have hpt : p ≠ tq := (ne_of_none htq1 hpn).symm
  have htq2 := c2.base _ _ htq0.1 htq1
  have hsl : (trefs sub).length = ts.length := by
    have := congrArg List.length hmap
    rw [List.length_map, List.length_map, List.length_map] at this
    rw [trefs_len]; exact this
  have hlen : (ts.map (nmL sv.names)).length = ts.length := List.length_map ..
  rw [hlen] at hp2
  refine ⟨p, _, rfl, SqL.of hsub, ?_⟩
  refine for_it (walk_enum (xs := trefs sub)) (fun i σ H' => (∃ b c d e, σ = [some (.ref z.x), b, some (.ref tq), c, d, e]) ∧ Wd z.mut H H' [] ∧ PAt CP CT z L { sv with n := sv.n + 1 + ts.length + 1 } H' ∧ H' p = some (.lst (trefs sub)) ∧ H' tq = some (.lst ((ts.take i).map V.int))) ?_ ?_ ?_ ?_
  · exact ⟨⟨_, _, _, _, rfl⟩, c1.fgo c2, hp2, hsub, htq2⟩
  · rintro i σ H' _ ⟨_, _, _, h, _⟩
    exact SqL.of h
  · rintro i x σ H3 H3' hi ⟨⟨b, c, d, e, rfl⟩, c3, hp3, hs3, hq3⟩ ⟨T0, x1, x2, rfl, hT0, rfl, e1, e2⟩
    cases e1
    obtain ⟨a, t, rfl, ht, hm⟩ := sub_at hmap e2
    rw [List.getElem?_map] at ht
    obtain ⟨v, hv, rfl⟩ : ∃ v, ts[i]? = some v ∧ nmL sv.names v = t := by
      cases e5 : ts[i]? with
      | none => rw [e5] at ht; cases ht
      | some v => rw [e5] at ht; exact ⟨v, rfl, Option.some.inj ht⟩
    have hv0 := hin v (List.mem_of_getElem? hv)
    have hi2 := (List.getElem?_eq_some_iff.mp hv).1
    have hpT := ne_of_none hs3 hT0
    have hqT := ne_of_none hq3 hT0
    have c4 := c3.fnew (.tup [.int (i : Nat), .ref a]) hT0
    have hp4 := hp3.new (.tup [.int (i : Nat), .ref a]) hT0
    have hT4 : upd H3 T0 (.tup [.int (i : Nat), .ref a]) T0 = some (.tup [.int (i : Nat), .ref a]) := upd_same
    have hs4 : upd H3 T0 (.tup [.int (i : Nat), .ref a]) p = some (.lst (trefs sub)) := by rw [upd_ne hpT]; exact hs3
    have hq4 : upd H3 T0 (.tup [.int (i : Nat), .ref a]) tq = some (.lst ((ts.take i).map V.int)) := by rw [upd_ne hqT]; exact hq3
    generalize upd H3 T0 (.tup [.int (i : Nat), .ref a]) = H4 at *
    have hil : (ts.take i).length = i := by rw [List.length_take]; omega
    refine ⟨T0, _, rfl, SqT.of hT4, rfl, _, _, rfl, _, _, rfl, rfl, ?_⟩
    refine ⟨_, rfl, .inl ⟨rfl, _, SqL.of hq4⟩, _, rfl, z.x, z.dx, _, rfl, hp4.ob, pf_none (by decide +kernel), _, rfl, z, L, _, a, _, _, v.toNat, rfl, hp4, hmem _ hm, hnd, nmL_at hv0.1 hv0.2, ?_⟩
    refine ⟨tq, _, _, rfl, rfl, hq4, (by rw [List.length_map, hil]; exact Nat.lt_of_lt_of_le (m := 100) (by omega) (by decide)), _, rfl, rfl, _, rfl, ?_⟩
    refine ite2 (fun h => absurd (of_decide_eq_true h) (fun e => by injection e with e; omega)) (fun _ => ?_)
    have e6 : (ts.take i).map V.int ++ [V.int (v.toNat : Int)] = (ts.take (i + 1)).map V.int := by
      rw [take_more hv, List.map_append, Int.toNat_of_nonneg hv0.1]; rfl
    rw [e6]
    refine ⟨⟨_, _, _, _, rfl⟩, c4.fput _ (.inl htqN) hq4 (fun _ q => by cases q), hp4.putL hq4 htq0.1 htq0.2.1 htq0.2.2, by rw [upd_ne hpt]; exact hs4, upd_same⟩
  · rintro σ H3 ⟨⟨b, c, d, e, rfl⟩, c3, hp3, hs3, hq3⟩
    rw [hsl, List.take_length] at hq3
    refine ⟨_, rfl, z.x, CP, z.dx, _, _, rfl, hp3.ob, PC.cl, PC.n4, pf_names, z.nl, sv.names.map V.str, rfl, .inl (SqL.of hp3.nl), _, rfl, by rw [List.length_map]; omega, by rw [List.length_map]; omega, fun D hD => ?_⟩
    have w4 := (Wd.refl H3).new (.lst []) hD
    have en : (((sv.names.map V.str).length : Nat) : Int).toNat = sv.names.length := by rw [List.length_map]; omega
    rw [en]
    refine lc_range (lo := 0) (n := sv.names.length) (fun i H2 => Wd [] H3 H2 [(D, .lst ((List.replicate i false).map V.bl))]) w4 ?_ ?_
    · rintro i H5 hi w5
      have hi2 := hall i hi
      refine ⟨rfl, _, rfl, _, rfl, tq, ts.map V.int, rfl, .inl (SqL.of (w5.old hq3 (by simp))), rfl, flat_ints _, _, w5.get 0 rfl, ?_, ?_⟩
      · rw [List.length_map, List.length_replicate]; exact Nat.lt_of_lt_of_le (m := 100) (by omega) (by decide)
      · rw [if_pos rfl, inV_ints, decide_eq_true (by rw [Int.zero_add]; exact hi2)]
        have := w5.put 0 (.lst ((List.replicate i false).map V.bl ++ [V.bl false])) rfl (fun _ q => by cases q)
        rw [List.replicate_succ', List.map_append]
        exact this
    · intro H5 w5
      refine ⟨D, _, rfl, SqL.of (w5.get 0 rfl), _, rfl, ?_⟩
      have ea : (List.replicate sv.names.length false).any id = false := by
        rw [List.any_eq_false]
        intro x hx
        rw [(List.mem_replicate.mp hx).2]; simp
      rw [ea]
      refine ite2 (fun h => absurd h (by decide)) (fun _ => ?_)
      refine ⟨_, rfl, tq, _, rfl, .inl ⟨SqL.of (w5.old hq3 (by simp)), fun l hl => ?_⟩⟩
      have c5 : Wd z.mut H H5 [] := c3.fgo ((w5.sub (List.nil_sublist _)).mono fun _ h => nomatch h)
      exact q _ l (c5.fnew _ hl) ((hp3.call0 w5).new _ hl) upd_same
/-! ### the weights -/
def ntok (i : Int) : Str × Str := (("number" : Str), num i)
theorem int_num' {i : Int} (h0 : 0 ≤ i) (h1 : i ≤ 99) : intText? (num i) = some i ∧ (num i).length ≤ 640 := by
  obtain ⟨n, rfl⟩ := Int.eq_ofNat_of_zero_le h0
  have hl := TL.tl_num n
  have h2 : (TL.numL n).length ≤ 2 := by
    have : ∀ m : Nat, m < 100 → (TL.numL m).length ≤ 2 := by decide +kernel
    exact this n (by omega)
  refine ⟨TL.int_num (by omega), ?_⟩
  have : (num (n : Int)).length = (TL.numL n).length := by rw [TL.len_tl]; exact congrArg List.length hl
  omega
def spWeights (CP CT : Addr) : Sp := fun vs H Q _ => ∃ (z : Pz) (L : List (Addr × (Str × Str))) (s : Pv) (ws : List Int) (rest : List (Str × Str)), vs = [.ref z.x] ∧ PAt CP CT z L s H ∧ s.W = none ∧ ws.length = s.names.length ∧ s.names.length ≤ 6 ∧ ws ≠ [] ∧
  (∀ t ∈ ws, 1 ≤ t ∧ t ≤ 9) ∧
  TkAt L s.n ((("keyword" : Str), ("weights" : Str)) :: ((ws.map num).map (fun t => (("number" : Str), t)) ++ (("sign" : Str), (";" : Str)) :: rest)) ∧
  ∀ H' b, Wd z.mut H H' [] → PAt CP CT z L { s with n := s.n + 1 + ws.length + 1, W := some (b, ws) } H' → Q .non H'
abbrev sParser_parse_weights : Stmt := inClass (topS 39) 10
theorem scParser_parse_weights : FnScope ["self", "start", "tokens", "index", "token"] ["self"] (defScope sParser_parse_weights) := ⟨rfl, rfl, rfl, by decide +kernel, rfl, by decide +kernel, by decide +kernel⟩
theorem me_weights (D : MethAt K CP "parse_weights" "Parser.parse_weights" sParser_parse_weights ["self"]) (T : Bi mg) (PC : ParCls K CP) (TC : TokCls K CT) (LC : LexC K mg) (hMP : ∃ t, mg "MAX_WEIGHT" = some (.int 9 t))
    (C0 : MeAt P w K mg base 1 CP "peek" ["self"] (spPeek CP CT)) (C1 : MeAt P w K mg base 2 CP "take_word" ["self", "word"] (spTakeW CP CT))
    (C2 : MeAt P w K mg base 3 CP "take_all" ["self", "kind"] (spTakeA CP CT)) : MeAt P w K mg base 4 CP "parse_weights" ["self"] (spWeights CP CT) := D.me fun f fd F => by
  have nd := scParser_parse_weights.nd
  have cl_Parser := PC.cl
  obtain ⟨t1, c_NUMBER⟩ := LC.NUMBER
  obtain ⟨t2, c_MAX_WEIGHT⟩ := hMP
  obtain ⟨f0, fd0, me_peek, b_peek, G_peek⟩ := C0.ex
  obtain ⟨f1, fd1, me_take_word, b_take_word, G_take_word⟩ := C1.ex
  obtain ⟨f2, fd2, me_take_all, b_take_all, G_take_all⟩ := C2.ex
  refine F.ok scParser_parse_weights (fun vs H Q E h => ?_) (fun cdv A outer s H vs Q E hr h => ?_)
  · obtain ⟨z, L, s, ts, rest, rfl, _⟩ := h; rfl
  obtain ⟨z, L, sv, ws, rest, rfl, hp, hW, hwl, h6, hne, hin, hts, q⟩ := h
  refine ⟨_, (pss_cons (ps_set (i := 1) nd rfl (Or.inl rfl) (pe_meth0 (pv 0) cl_Parser me_peek G_peek (hr.mono (by first | decide | omega)) b_peek .nil pass0))
 (pss_cons (ps_expr (pe_meth (pv 0) cl_Parser me_take_word G_take_word (hr.mono (by first | decide | omega)) b_take_word .nil pass0 (pa_cons pe_str pa_nil)))
 (pss_cons (ps_set (i := 2) nd rfl (Or.inl rfl) (pe_meth (pv 0) cl_Parser me_take_all G_take_all (hr.mono (by first | decide | omega)) b_take_all .nil pass0 (pa_cons (pe_glob (v := .str "number") (by rfl) c_NUMBER ⟨_, rfl⟩) pa_nil)))
 (pss_cons (ps_if (pt_cmpR op_notN (pe_fldK (K := K) rfl (pv 0) rfl) pe_non (nomark _))
 pss_never
 pss_nil)
 (pss_cons (ps_for PassesOwn.never rfl (pi_enum (by rfl) T.enumerate (pa_cons (pv 2) pa_nil)) (pg_tupK (K := K) (n := 2) rfl rfl (pgs_cons (pg_name (i := 3) nd rfl (Or.inl rfl)) (pgs_cons (pg_name (i := 4) nd rfl (Or.inl rfl)) pgs_nil)))
 (pss_one (ps_if (PW.pt (pw_or (pt_cmpR op_eq (pv 3) (pe_callB (r := rLenS K) call_len_seq (by rfl) T.len PySem.boot_len (pa_cons (pe_fldK (K := K) rfl (pv 0) rfl) pa_nil)) (nomark _)) (pw_or1 (pt_not (pt_chain op_le op_le pe_int (pe_callTy call_int_str (by rfl) T.int (by decide +kernel) (pa_cons (pe_fldK (K := K) rfl (pv 4) rfl) pa_nil)) (pe_glob (v := .int 9) (by rfl) c_MAX_WEIGHT ⟨_, rfl⟩))))))
 pss_never
 pss_nil)))
 (pss_cons (ps_if (pt_cmpR op_lt (pe_callB (r := rLenS K) call_len_seq (by rfl) T.len PySem.boot_len (pa_cons (pv 2) pa_nil)) (pe_callB (r := rLenS K) call_len_seq (by rfl) T.len PySem.boot_len (pa_cons (pe_fldK (K := K) rfl (pv 0) rfl) pa_nil)) (nomark _))
 pss_never
 pss_nil)
 (pss_one (ps_fld (pv 0) (pe_callTy (r := rTupOf K) call_tuple_of (by rfl) T.tuple (by decide +kernel) (pa_cons (pe_lc (own := [("token", 4)]) rfl nd (pi_listK (K := K) rfl (pv 2)) (blkOk_by (N := ["self", "start", "tokens", "index", "token"]) (sc := defScope sParser_parse_weights) (by decide +kernel)) (fun _ _ _ _ _ => (pg_name (i := 4) nd rfl (Or.inl rfl))) (fun _ _ _ _ _ => pts_nil) (fun _ _ _ _ _ => (pe_callTy call_int_str (by rfl) T.int (by decide +kernel) (pa_cons (pe_fldK (K := K) rfl (pv 4) rfl) pa_nil)))) pa_nil)) rfl)))))))), ?_⟩
  obtain ⟨⟨a0, h0⟩, hts1⟩ := hts.cons
  refine ⟨_, rfl, z.x, z.dx, _, rfl, hp.ob, pf_none (by decide +kernel), z, L, sv, a0, _, rfl, hp, h0, ?_⟩
  refine ⟨_, rfl, z.x, z.dx, _, rfl, hp.ob, pf_none (by decide +kernel), z, L, sv, a0, _, _, rfl, hp, h0, fun H1 c1 hp1 => ?_⟩
  refine ⟨_, rfl, z.x, z.dx, _, rfl, hp1.ob, pf_none (by decide +kernel), z, L, _, _, ws.map num, rest, rfl, hp1, by decide +kernel, by simpa using hne, by rw [List.length_map]; omega, hts1, fun H2 p sub c2 hp2 hpn hsub hmap hmem => ?_⟩
  have hpo := hp1.out hpn
  have hsl : (trefs sub).length = ws.length := by
    have := congrArg List.length hmap
    rw [List.length_map, List.length_map, List.length_map] at this
    rw [trefs_len]; exact this
  have hlen : (ws.map num).length = ws.length := List.length_map ..
  rw [hlen] at hp2
  have hw2 : oV sv.W = .non := by rw [hW]; rfl
  refine ⟨_, rfl, z.x, CP, z.dx, _, _, rfl, hp2.ob, PC.cl, PC.n5, pf_weights, ?_⟩
  have tokv : ∀ (i : Nat) (x : V), (trefs sub)[i]? = some x → ∃ a v, x = .ref a ∧ ws[i]? = some v ∧ (a, (("number" : Str), num v)) ∈ L ∧ 1 ≤ v ∧ v ≤ 9 := fun i x hx => by
    obtain ⟨a, t, rfl, ht, hm⟩ := sub_at hmap hx
    rw [List.getElem?_map] at ht
    cases e5 : ws[i]? with
    | none => rw [e5] at ht; cases ht
    | some v =>
      rw [e5] at ht
      have e6 : num v = t := Option.some.inj ht
      exact ⟨a, v, rfl, rfl, by rw [e6]; exact hmem _ hm, (hin v (List.mem_of_getElem? e5)).1, (hin v (List.mem_of_getElem? e5)).2⟩
  refine ⟨rfl, _, rfl, ?_⟩
  rw [hw2]
  refine ite2 (fun h => absurd h (by simp)) (fun _ => ?_)
  refine ⟨_, rfl, p, _, rfl, SqL.of hsub, ?_⟩
  refine for_it (walk_enum (xs := trefs sub)) (fun i σ H' => (∃ b c d, σ = [some (.ref z.x), b, some (.ref p), c, d]) ∧ Wd z.mut H H' [] ∧ PAt CP CT z L { sv with n := sv.n + 1 + ws.length + 1 } H' ∧ H' p = some (.lst (trefs sub))) ?_ ?_ ?_ ?_
  · exact ⟨⟨_, _, _, rfl⟩, c1.fgo c2, hp2, hsub⟩
  · rintro i σ H' _ ⟨_, _, _, h⟩
    exact SqL.of h
  · rintro i x σ H3 H3' hi ⟨⟨b, c, d, rfl⟩, c3, hp3, hs3⟩ ⟨T0, x1, x2, rfl, hT0, rfl, e1, e2⟩
    cases e1
    obtain ⟨a, v, rfl, hv, hm, hv1, hv9⟩ := tokv i _ e2
    have hi2 := (List.getElem?_eq_some_iff.mp hv).1
    have hpT := ne_of_none hs3 hT0
    have c4 := c3.fnew (.tup [.int (i : Nat), .ref a]) hT0
    have hp4 := hp3.new (.tup [.int (i : Nat), .ref a]) hT0
    have hT4 : upd H3 T0 (.tup [.int (i : Nat), .ref a]) T0 = some (.tup [.int (i : Nat), .ref a]) := upd_same
    have hs4 : upd H3 T0 (.tup [.int (i : Nat), .ref a]) p = some (.lst (trefs sub)) := by rw [upd_ne hpT]; exact hs3
    generalize upd H3 T0 (.tup [.int (i : Nat), .ref a]) = H4 at *
    obtain ⟨tdx, tl, tc, hta⟩ := hp4.ts _ hm
    obtain ⟨hn1, hn2⟩ := int_num' (i := v) (by omega) (by omega)
    refine ⟨T0, _, rfl, SqT.of hT4, rfl, _, _, rfl, _, _, rfl, rfl, ?_⟩
    refine ⟨_, rfl, _, rfl, z.x, CP, z.dx, _, _, rfl, hp4.ob, PC.cl, PC.n4, pf_names, z.nl, _, rfl, .inl (SqL.of hp4.nl), rfl, _, rfl, ?_⟩
    refine ite2 (fun h => absurd (of_decide_eq_true h) (fun e => by injection e with e; rw [List.length_map] at e; dsimp only at e; omega)) (fun _ => ?_)
    refine ⟨_, rfl, a, CT, tdx, _, _, rfl, hta, TC.cl, TC.nt, tk_text _ _ _ _, _, v, rfl, hn1, hn2, _, _, rfl, rfl, _, rfl, ?_⟩
    refine ite2 (fun _ => ?_) (fun h => absurd (decide_eq_true hv1) h)
    refine ⟨_, _, rfl, rfl, _, rfl, ?_⟩
    rw [decide_eq_true (show v ≤ 9 from hv9)]
    refine ite2 (fun h => absurd h (by decide)) (fun _ => ?_)
    exact ⟨⟨_, _, _, rfl⟩, c4, hp4, hs4⟩
  · rintro σ H3 ⟨⟨b, c, d, rfl⟩, c3, hp3, hs3⟩
    refine ⟨_, rfl, p, _, rfl, .inl (SqL.of hs3), _, rfl, z.x, CP, z.dx, _, _, rfl, hp3.ob, PC.cl, PC.n4, pf_names, z.nl, _, rfl, .inl (SqL.of hp3.nl), _, _, rfl, rfl, _, rfl, ?_⟩
    refine ite2 (fun h => absurd (of_decide_eq_true h) (by rw [List.length_map, hsl, hwl]; dsimp only; omega)) (fun _ => ?_)
    refine ⟨_, rfl, p, rfl, ⟨_, SqL.of hs3⟩, fun D hD => ?_⟩
    have w0 := (Wd.refl H3).new (.lst []) hD
    refine lc_list (K := K) (a := p) (xs := trefs sub) (fun i H2 => Wd [] H3 H2 [(D, .lst ((ws.take i).map V.int))]) w0 (fun i H2 _ w => SqL.of (w.old hs3 (by simp))) ?_ ?_
    · rintro i x H4 hx w4
      obtain ⟨a, v, rfl, hv, hm, hv1, hv9⟩ := tokv i _ hx
      have hi2 := (List.getElem?_eq_some_iff.mp hv).1
      obtain ⟨tdx, tl, tc, hta⟩ := (hp3.call0 w4).ts _ hm
      obtain ⟨hn1, hn2⟩ := int_num' (i := v) (by omega) (by omega)
      refine ⟨rfl, _, rfl, a, CT, tdx, _, _, rfl, hta, TC.cl, TC.nt, tk_text _ _ _ _, _, v, rfl, hn1, hn2, _, w4.get 0 rfl, ?_, ?_⟩
      · rw [List.length_map, List.length_take]; exact Nat.lt_of_lt_of_le (m := 100) (by omega) (by decide)
      · rw [take_more hv, List.map_append]
        exact w4.put 0 (.lst ((ws.take i).map V.int ++ [V.int v])) rfl (fun _ q => by cases q)
    · intro H4 w4
      rw [hsl, List.take_length] at w4
      refine ⟨D, _, rfl, .inl ⟨SqL.of (w4.get 0 rfl), fun b hb => ?_⟩⟩
      have c5 : Wd z.mut H H4 [] := c3.fgo ((w4.sub (List.nil_sublist _)).mono fun _ h => nomatch h)
      have c6 := c5.fnew (.tup (ws.map V.int)) hb
      have hp6 := (hp3.call0 w4).new (.tup (ws.map V.int)) hb
      refine ⟨_, rfl, z.x, CP, z.dx, _, rfl, hp6.ob, PC.cl, PC.n5, (by show 7 < 1000; decide), ?_⟩
      rw [pf_putW (b, ws)]
      refine q _ b (c6.fput _ (.inr (by simp [Pz.mut])) hp6.ob (fun _ q => by cases q)) (hp6.setX _ rfl rfl (fun p hp => ?_) hp6.m)
      cases hp
      exact upd_same
end
end Br

namespace Br
open PySem PySem.Spec PyProof.Rows L2
section
variable {P : Program} {w : World} {K : PySem.W.Frag} {mg : Str → Option Value} {base : Heap} {CT CP : Addr}
def awToks (ns : List Str) (t : Int × Int × Int) : List (Str × Str) := [("keyword", "away"), ("name", nmL ns t.1), ("number", num t.2.1), ("keyword", "of"), ("number", num t.2.2), ("sign", ";")]
def spAway (CP CT : Addr) : Sp := fun vs H Q _ => ∃ (z : Pz) (L : List (Addr × (Str × Str))) (s : Pv) (t : Int × Int × Int) (rest : List (Str × Str)), vs = [.ref z.x] ∧ PAt CP CT z L s H ∧ s.names.Nodup ∧ s.names.length ≤ 6 ∧ AwOk s.names.length t ∧ s.aws.length < 20 ∧
  TkAt L s.n (awToks s.names t ++ rest) ∧
  ∀ H' b, Wd z.mut H H' [] → PAt CP CT z L { s with n := s.n + 6, aws := s.aws ++ [(b, t)] } H' → Q .non H'
abbrev sParser_parse_away : Stmt := inClass (topS 39) 11
theorem scParser_parse_away : FnScope ["self", "start", "person", "remainder", "modulus"] ["self"] (defScope sParser_parse_away) := ⟨rfl, rfl, rfl, by decide +kernel, rfl, by decide +kernel, by decide +kernel⟩
theorem me_away (D : MethAt K CP "parse_away" "Parser.parse_away" sParser_parse_away ["self"]) (T : Bi mg) (PC : ParCls K CP) (TC : TokCls K CT) (LC : LexC K mg) (hMA : ∃ t, mg "MAX_AWAYS" = some (.int 20 t))
    (hMO : ∃ a, mg "MODULI" = some (.ref a) ∧ ∀ H : Hp, SqT K H a (([2, 3, 4, 6, 8, 12] : List Int).map V.int))
    (C0 : MeAt P w K mg base 1 CP "peek" ["self"] (spPeek CP CT)) (C1 : MeAt P w K mg base 2 CP "take_word" ["self", "word"] (spTakeW CP CT))
    (C2 : MeAt P w K mg base 2 CP "take" ["self", "kind"] (spTake CP CT)) (C3 : MeAt P w K mg base 1 CP "person" ["self", "token"] (spPerson CP CT)) : MeAt P w K mg base 3 CP "parse_away" ["self"] (spAway CP CT) := D.me fun f fd F => by
  have nd := scParser_parse_away.nd
  have cl_Parser := PC.cl
  obtain ⟨t1, c_NAME⟩ := LC.NAME
  obtain ⟨t3, c_NUMBER⟩ := LC.NUMBER
  obtain ⟨t4, c_END_SIGN⟩ := LC.END_SIGN
  obtain ⟨t2, c_MAX_AWAYS⟩ := hMA
  obtain ⟨a_MODULI, c_MODULI, hmo⟩ := hMO
  obtain ⟨f0, fd0, me_peek, b_peek, G_peek⟩ := C0.ex
  obtain ⟨f1, fd1, me_take_word, b_take_word, G_take_word⟩ := C1.ex
  obtain ⟨f2, fd2, me_take, b_take, G_take⟩ := C2.ex
  obtain ⟨f3, fd3, me_person, b_person, G_person⟩ := C3.ex
  refine F.ok scParser_parse_away (fun vs H Q E h => ?_) (fun cdv A outer s H vs Q E hr h => ?_)
  · obtain ⟨z, L, s, ts, rest, rfl, _⟩ := h; rfl
  obtain ⟨z, L, sv, t, rest, rfl, hp, hnd, h6, ⟨g1, g2, g3, g4, g5⟩, h20, hts, q⟩ := h
  refine ⟨_, (pss_cons (ps_set (i := 1) nd rfl (Or.inl rfl) (pe_meth0 (pv 0) cl_Parser me_peek G_peek (hr.mono (by first | decide | omega)) b_peek .nil pass0))
 (pss_cons (ps_expr (pe_meth (pv 0) cl_Parser me_take_word G_take_word (hr.mono (by first | decide | omega)) b_take_word .nil pass0 (pa_cons pe_str pa_nil)))
 (pss_cons (ps_set (i := 2) nd rfl (Or.inl rfl) (pe_meth (pv 0) cl_Parser me_person G_person (hr.mono (by first | decide | omega)) b_person .nil pass0 (pa_cons (pe_meth (pv 0) cl_Parser me_take G_take (hr.mono (by first | decide | omega)) b_take .nil pass0 (pa_cons (pe_glob (v := .str "name") (by rfl) c_NAME ⟨_, rfl⟩) pa_nil)) pa_nil)))
 (pss_cons (ps_set (i := 3) nd rfl (Or.inl rfl) (pe_meth (pv 0) cl_Parser me_take G_take (hr.mono (by first | decide | omega)) b_take .nil pass0 (pa_cons (pe_glob (v := .str "number") (by rfl) c_NUMBER ⟨_, rfl⟩) pa_nil)))
 (pss_cons (ps_expr (pe_meth (pv 0) cl_Parser me_take_word G_take_word (hr.mono (by first | decide | omega)) b_take_word .nil pass0 (pa_cons pe_str pa_nil)))
 (pss_cons (ps_set (i := 4) nd rfl (Or.inl rfl) (pe_meth (pv 0) cl_Parser me_take G_take (hr.mono (by first | decide | omega)) b_take .nil pass0 (pa_cons (pe_glob (v := .str "number") (by rfl) c_NUMBER ⟨_, rfl⟩) pa_nil)))
 (pss_cons (ps_expr (pe_meth (pv 0) cl_Parser me_take_word G_take_word (hr.mono (by first | decide | omega)) b_take_word .nil pass0 (pa_cons (pe_glob (v := .str ";") (by rfl) c_END_SIGN ⟨_, rfl⟩) pa_nil)))
 (pss_cons (ps_if (pt_cmpR (r := rIn K true) op_notIn_seq (pe_callTy call_int_str (by rfl) T.int (by decide +kernel) (pa_cons (pe_fldK (K := K) rfl (pv 4) rfl) pa_nil)) (pe_glob (v := .ref a_MODULI) (by rfl) c_MODULI rfl) (by rfl))
 pss_never
 (pss_one (ps_if (pt_cmpR op_ge (pe_callTy call_int_str (by rfl) T.int (by decide +kernel) (pa_cons (pe_fldK (K := K) rfl (pv 3) rfl) pa_nil)) (pe_callTy call_int_str (by rfl) T.int (by decide +kernel) (pa_cons (pe_fldK (K := K) rfl (pv 4) rfl) pa_nil)) (nomark _))
 pss_never
 (pss_one (ps_if (pt_cmpR op_eq (pe_callB (r := rLenS K) call_len_seq (by rfl) T.len PySem.boot_len (pa_cons (pe_fldK (K := K) rfl (pv 0) rfl) pa_nil)) (pe_glob (v := .int 20) (by rfl) c_MAX_AWAYS ⟨_, rfl⟩) (nomark _))
 pss_never
 pss_nil)))))
 (pss_one (ps_expr (pe_bmK (K := K) rfl PySem.F.plainAttrs_list PySem.F.slot_list_append PySem.F.type_list_append mt_append (pe_fldK (K := K) rfl (pv 0) rfl) (pa_cons (pe_tup (pa_cons (pv 2) (pa_cons (pe_callTy call_int_str (by rfl) T.int (by decide +kernel) (pa_cons (pe_fldK (K := K) rfl (pv 3) rfl) pa_nil)) (pa_cons (pe_callTy call_int_str (by rfl) T.int (by decide +kernel) (pa_cons (pe_fldK (K := K) rfl (pv 4) rfl) pa_nil)) pa_nil)))) pa_nil)))))))))))), ?_⟩
  have g6 : t.2.2 ≤ 12 := by simp at g5; omega
  have g7 : 2 ≤ t.2.2 := by simp at g5; omega
  obtain ⟨⟨a0, h0⟩, hts1⟩ := hts.cons
  obtain ⟨⟨a1, h1⟩, hts2⟩ := hts1.cons
  obtain ⟨⟨a2, h2⟩, hts3⟩ := hts2.cons
  obtain ⟨⟨a3, h3⟩, hts4⟩ := hts3.cons
  obtain ⟨⟨a4, h4⟩, hts5⟩ := hts4.cons
  obtain ⟨⟨a5, h5⟩, hts6⟩ := hts5.cons
  refine ⟨_, rfl, z.x, z.dx, _, rfl, hp.ob, pf_none (by decide +kernel), z, L, sv, a0, _, rfl, hp, h0, ?_⟩
  refine ⟨_, rfl, z.x, z.dx, _, rfl, hp.ob, pf_none (by decide +kernel), z, L, sv, a0, _, _, rfl, hp, h0, fun H1 c1 hp1 => ?_⟩
  refine ⟨_, rfl, z.x, z.dx, _, rfl, hp1.ob, pf_none (by decide +kernel), _, rfl, z.x, z.dx, _, rfl, hp1.ob, pf_none (by decide +kernel), z, L, _, a1, _, _, rfl, hp1, h1, fun H2 c2 hp2 => ?_⟩
  refine ⟨z, L, _, a1, _, _, t.1.toNat, rfl, hp2, List.mem_of_getElem? h1, hnd, nmL_at g1 g2, ?_⟩
  refine ⟨_, rfl, z.x, z.dx, _, rfl, hp2.ob, pf_none (by decide +kernel), z, L, _, a2, _, _, rfl, hp2, h2, fun H3 c3 hp3 => ?_⟩
  refine ⟨_, rfl, z.x, z.dx, _, rfl, hp3.ob, pf_none (by decide +kernel), z, L, _, a3, _, _, rfl, hp3, h3, fun H4 c4 hp4 => ?_⟩
  refine ⟨_, rfl, z.x, z.dx, _, rfl, hp4.ob, pf_none (by decide +kernel), z, L, _, a4, _, _, rfl, hp4, h4, fun H5 c5 hp5 => ?_⟩
  refine ⟨_, rfl, z.x, z.dx, _, rfl, hp5.ob, pf_none (by decide +kernel), z, L, _, a5, _, _, rfl, hp5, h5, fun H6 c6 hp6 => ?_⟩
  have c7 := ((((c1.fgo c2).fgo c3).fgo c4).fgo c5).fgo c6
  obtain ⟨ndx, nl_, nc, hta2⟩ := hp6.ts _ (List.mem_of_getElem? h2)
  obtain ⟨mdx, ml, mc, hta4⟩ := hp6.ts _ (List.mem_of_getElem? h4)
  obtain ⟨hr1, hr2⟩ := int_num' (i := t.2.1) (by omega) (by omega)
  obtain ⟨hm1, hm2⟩ := int_num' (i := t.2.2) (by omega) (by omega)
  refine ⟨_, rfl, a4, CT, mdx, _, _, rfl, hta4, TC.cl, TC.nt, tk_text _ _ _ _, _, _, rfl, hm1, hm2, a_MODULI, _, rfl, .inr (hmo _), rfl, flat_ints _, _, rfl, ?_⟩
  rw [if_pos rfl, inV_ints, decide_eq_true g5]
  refine ite2 (fun h => absurd h (by decide)) (fun _ => ?_)
  refine ⟨_, rfl, a2, CT, ndx, _, _, rfl, hta2, TC.cl, TC.nt, tk_text _ _ _ _, _, _, rfl, hr1, hr2, _, rfl, a4, CT, mdx, _, _, rfl, hta4, TC.cl, TC.nt, tk_text _ _ _ _, _, _, rfl, hm1, hm2, _, _, rfl, rfl, _, rfl, ?_⟩
  refine ite2 (fun h => absurd (of_decide_eq_true h) (by omega)) (fun _ => ?_)
  refine ⟨_, rfl, z.x, CP, z.dx, _, _, rfl, hp6.ob, PC.cl, PC.n7, pf_aways, z.al, _, rfl, .inl (SqL.of hp6.al), rfl, _, rfl, ?_⟩
  refine ite2 (fun h => absurd (of_decide_eq_true h) (fun e => by injection e with e; unfold arefs at e; rw [List.length_map] at e; dsimp only at e; omega)) (fun _ => ?_)
  have halm : z.al ∈ z.mut := by simp [Pz.mut]
  refine ⟨_, rfl, z.x, CP, z.dx, _, _, rfl, hp6.ob, PC.cl, PC.n7, pf_aways, .inl ⟨rfl, _, SqL.of hp6.al⟩, _, rfl, _, rfl, a2, CT, ndx, _, _, rfl, hta2, TC.cl, TC.nt, tk_text _ _ _ _, _, _, rfl, hr1, hr2, _, rfl, a4, CT, mdx, _, _, rfl, hta4, TC.cl, TC.nt, tk_text _ _ _ _, _, _, rfl, hm1, hm2, (by show 3 ≤ sizeLine; decide), fun b hb => ?_⟩
  have e1 : ((t.1.toNat : Nat) : Int) = t.1 := Int.toNat_of_nonneg g1
  rw [e1]
  have hp7 := hp6.new (.tup (tri t)) hb
  have c8 := c7.fnew (.tup (tri t)) hb
  have hbt : upd H6 b (.tup (tri t)) b = some (.tup (tri t)) := upd_same
  show ∃ a xs, _
  refine ⟨z.al, arefs sv.aws, _, rfl, rfl, hp7.al, ?_, ?_⟩
  · unfold arefs; rw [List.length_map]; exact Nat.lt_of_lt_of_le (m := 100) (by omega) (by decide)
  have e2 : arefs sv.aws ++ [V.ref b] = arefs (sv.aws ++ [(b, t)]) := by simp [arefs]
  rw [e2]
  refine q _ b (c8.fput _ (.inr halm) hp7.al (fun _ q => by cases q)) (hp7.setA _ fun q hq => ?_)
  rcases List.mem_append.mp hq with hq | hq
  · exact hp7.aw q hq
  · rw [List.mem_singleton.mp hq]; exact hbt
/-! ### who makes up -/
def spMakeup (CP CT : Addr) : Sp := fun vs H Q _ => ∃ (z : Pz) (L : List (Addr × (Str × Str))) (s : Pv) (ks : List Int) (rest : List (Str × Str)), vs = [.ref z.x] ∧ PAt CP CT z L s H ∧ s.M = none ∧ s.names.Nodup ∧ s.names.length ≤ 6 ∧ ks ≠ [] ∧ ks.length ≤ 12 ∧
  (∀ k ∈ ks, 0 ≤ k ∧ k < s.names.length) ∧
  TkAt L s.n ((("keyword" : Str), ("makeup" : Str)) :: ((ks.map (nmL s.names)).map (fun t => (("name" : Str), t)) ++ (("sign" : Str), (";" : Str)) :: rest)) ∧
  ∀ H' b ms, Wd z.mut H H' [] → ms.Pairwise (· < ·) → (∀ k : Int, k ∈ ms ↔ k ∈ ks) → PAt CP CT z L { s with n := s.n + 1 + ks.length + 1, M := some (b, ms) } H' → Q .non H'
abbrev sParser_parse_makeup : Stmt := inClass (topS 39) 12
theorem scParser_parse_makeup : FnScope ["self", "start", "persons", "token"] ["self"] (defScope sParser_parse_makeup) := ⟨rfl, rfl, rfl, by decide +kernel, rfl, by decide +kernel, by decide +kernel⟩
theorem me_makeup (D : MethAt K CP "parse_makeup" "Parser.parse_makeup" sParser_parse_makeup ["self"]) (T : Bi mg) (PC : ParCls K CP) (TC : TokCls K CT) (LC : LexC K mg)
    (C0 : MeAt P w K mg base 1 CP "peek" ["self"] (spPeek CP CT)) (C1 : MeAt P w K mg base 2 CP "take_word" ["self", "word"] (spTakeW CP CT))
    (C2 : MeAt P w K mg base 3 CP "take_all" ["self", "kind"] (spTakeA CP CT)) (C3 : MeAt P w K mg base 1 CP "person" ["self", "token"] (spPerson CP CT)) : MeAt P w K mg base 4 CP "parse_makeup" ["self"] (spMakeup CP CT) := D.me fun f fd F => by
  have nd := scParser_parse_makeup.nd
  have cl_Parser := PC.cl
  obtain ⟨t1, c_NAME⟩ := LC.NAME
  obtain ⟨f0, fd0, me_peek, b_peek, G_peek⟩ := C0.ex
  obtain ⟨f1, fd1, me_take_word, b_take_word, G_take_word⟩ := C1.ex
  obtain ⟨f2, fd2, me_take_all, b_take_all, G_take_all⟩ := C2.ex
  obtain ⟨f3, fd3, me_person, b_person, G_person⟩ := C3.ex
  refine F.ok scParser_parse_makeup (fun vs H Q E h => ?_) (fun cdv A outer s H vs Q E hr h => ?_)
  · obtain ⟨z, L, s, ts, rest, rfl, _⟩ := h; rfl
  obtain ⟨z, L, sv, ks, rest, rfl, hp, hM, hnd, h6, hne, h12, hin, hts, q⟩ := h
  refine ⟨_, (pss_cons (ps_set (i := 1) nd rfl (Or.inl rfl) (pe_meth0 (pv 0) cl_Parser me_peek G_peek (hr.mono (by first | decide | omega)) b_peek .nil pass0))
 (pss_cons (ps_expr (pe_meth (pv 0) cl_Parser me_take_word G_take_word (hr.mono (by first | decide | omega)) b_take_word .nil pass0 (pa_cons pe_str pa_nil)))
 (pss_cons (ps_setLc (i := 2) (own := [("token", 3)]) rfl nd rfl rfl (sw_true rfl rfl rfl (by decide +kernel)) (pi_listK (K := K) rfl (pe_meth (pv 0) cl_Parser me_take_all G_take_all (hr.mono (by first | decide | omega)) b_take_all .nil pass0 (pa_cons (pe_glob (v := .str "name") (by rfl) c_NAME ⟨_, rfl⟩) pa_nil))) (blkOk_by (N := ["self", "start", "persons", "token"]) (sc := defScope sParser_parse_makeup) (by decide +kernel)) (fun _ _ _ _ _ => (pg_name (i := 3) nd rfl (Or.inl rfl))) (fun _ _ _ _ _ => pts_nil) (fun _ _ _ _ _ => (pe_meth (pv 0) cl_Parser me_person G_person (hr.mono (by first | decide | omega)) b_person .nil pass0 (pa_cons (pv 3) pa_nil))))
 (pss_cons (ps_if (pt_cmpR op_notN (pe_fldK (K := K) rfl (pv 0) rfl) pe_non (nomark _))
 pss_never
 pss_nil)
 (pss_one (ps_fld (pv 0) (pe_callTy (r := rTupOf K) call_tuple_of (by rfl) T.tuple (by decide +kernel) (pa_cons (pe_callB (r := rSortedSet w) (cr_sortedSet rfl) (by rfl) T.sorted (by decide +kernel) (pa_cons (pe_callTy (r := rSetI K w) (cr_setI rfl) (by rfl) T.set (by decide +kernel) (pa_cons (pv 2) pa_nil)) pa_nil)) pa_nil)) rfl)))))), ?_⟩
  obtain ⟨⟨a0, h0⟩, hts1⟩ := hts.cons
  refine ⟨_, rfl, z.x, z.dx, _, rfl, hp.ob, pf_none (by decide +kernel), z, L, sv, a0, _, rfl, hp, h0, ?_⟩
  refine ⟨_, rfl, z.x, z.dx, _, rfl, hp.ob, pf_none (by decide +kernel), z, L, sv, a0, _, _, rfl, hp, h0, fun H1 c1 hp1 => ?_⟩
  refine ⟨_, rfl, z.x, z.dx, _, rfl, hp1.ob, pf_none (by decide +kernel), z, L, _, _, ks.map (nmL sv.names), rest, rfl, hp1, by decide +kernel, by simpa using hne, by rw [List.length_map]; omega, hts1, fun H2 p sub c2 hp2 hpn hsub hmap hmem => ?_⟩
  have hsl : (trefs sub).length = ks.length := by
    have := congrArg List.length hmap
    rw [List.length_map, List.length_map, List.length_map] at this
    rw [trefs_len]; exact this
  have hlen : (ks.map (nmL sv.names)).length = ks.length := List.length_map ..
  rw [hlen] at hp2
  have tokv : ∀ (i : Nat) (x : V), (trefs sub)[i]? = some x → ∃ a v, x = .ref a ∧ ks[i]? = some v ∧ (a, (("name" : Str), nmL sv.names v)) ∈ L ∧ 0 ≤ v ∧ v < sv.names.length := fun i x hx => by
    obtain ⟨a, t, rfl, ht, hm⟩ := sub_at hmap hx
    rw [List.getElem?_map] at ht
    cases e5 : ks[i]? with
    | none => rw [e5] at ht; cases ht
    | some v =>
      rw [e5] at ht
      have e6 : nmL sv.names v = t := Option.some.inj ht
      exact ⟨a, v, rfl, rfl, by rw [e6]; exact hmem _ hm, (hin v (List.mem_of_getElem? e5)).1, (hin v (List.mem_of_getElem? e5)).2⟩
  have c3 := c1.fgo c2
  refine ⟨p, rfl, ⟨_, SqL.of hsub⟩, fun D hD => ?_⟩
  have w0 := (Wd.refl H2).new (.lst []) hD
  refine lc_list (K := K) (a := p) (xs := trefs sub) (fun i H3 => Wd [] H2 H3 [(D, .lst ((ks.take i).map V.int))]) w0 (fun i H3 _ w => SqL.of (w.old hsub (by simp))) ?_ ?_
  · rintro i x H4 hx w4
    obtain ⟨a, v, rfl, hv, hm, hv1, hv9⟩ := tokv i _ hx
    have hi2 := (List.getElem?_eq_some_iff.mp hv).1
    have hp4 := hp2.call0 w4
    refine ⟨rfl, _, rfl, z.x, z.dx, _, rfl, hp4.ob, pf_none (by decide +kernel), _, rfl, z, L, _, a, _, _, v.toNat, rfl, hp4, hm, hnd, nmL_at hv1 hv9, _, w4.get 0 rfl, ?_, ?_⟩
    · rw [List.length_map, List.length_take]; exact Nat.lt_of_lt_of_le (m := 100) (by omega) (by decide)
    · rw [take_more hv, List.map_append, Int.toNat_of_nonneg hv1]
      exact w4.put 0 (.lst ((ks.take i).map V.int ++ [V.int v])) rfl (fun _ q => by cases q)
  · intro H4 w4
    rw [hsl, List.take_length] at w4
    have hp4 := hp2.call0 w4
    have hw2 : oV sv.M = .non := by rw [hM]; rfl
    have c5 : Wd z.mut H H4 [] := c3.fgo ((w4.sub (List.nil_sublist _)).mono fun _ h => nomatch h)
    refine ⟨_, rfl, z.x, CP, z.dx, _, _, rfl, hp4.ob, PC.cl, PC.n6, pf_makers, rfl, _, rfl, ?_⟩
    dsimp only
    rw [hw2]
    refine ite2 (fun h => absurd h (by simp)) (fun _ => ?_)
    refine ⟨_, rfl, D, ks, rfl, SqL.of (w4.get 0 rfl), by omega, fun sa n hsa hn => ?_⟩
    have c6 := c5.fnew (SetO w sa (fun j => decide (j ∈ ks)) n) hsa
    have hp6 := hp4.new (SetO w sa (fun j => decide (j ∈ ks)) n) hsa
    refine ⟨sa, _, n, rfl, upd_same, by omega, fun ms lp hpw hms hl hlp => ?_⟩
    have c7 := c6.fnew (.lst (ms.map V.int)) hlp
    have hp7 := hp6.new (.lst (ms.map V.int)) hlp
    refine ⟨lp, _, rfl, .inl ⟨SqL.of upd_same, fun b hb => ?_⟩⟩
    have c8 := c7.fnew (.tup (ms.map V.int)) hb
    have hp8 := hp7.new (.tup (ms.map V.int)) hb
    refine ⟨_, rfl, z.x, CP, z.dx, _, rfl, hp8.ob, PC.cl, PC.n6, (by show 7 < 1000; decide), ?_⟩
    rw [pf_putM (b, ms)]
    refine q _ b ms (c8.fput _ (.inr (by simp [Pz.mut])) hp8.ob (fun _ q => by cases q)) hpw (fun k => (hms k).trans ⟨of_decide_eq_true, decide_eq_true⟩) (hp8.setX _ rfl rfl hp8.w (fun p hp => ?_))
    cases hp
    exact upd_same
end
end Br

namespace Br
open PySem PySem.Spec PyProof.Rows L2
theorem asc_unique {α : Type} {R : α → α → Prop} (irr : ∀ a b, R a b → R b a → False) : ∀ {l l' : List α}, l.Pairwise R → l'.Pairwise R → (∀ x, x ∈ l ↔ x ∈ l') → l = l'
  | [], [], _, _, _ => rfl
  | [], b :: l', _, _, h => absurd ((h b).mpr List.mem_cons_self) (by simp)
  | a :: l, [], _, _, h => absurd ((h a).mp List.mem_cons_self) (by simp)
  | a :: l, b :: l', p, p', h => by
    rw [List.pairwise_cons] at p p'
    have e : a = b := by
      by_cases e : a = b
      · exact e
      · have h1 : a ∈ l' := (List.mem_cons.mp ((h a).mp List.mem_cons_self)).resolve_left e
        have h2 : b ∈ l := (List.mem_cons.mp ((h b).mpr List.mem_cons_self)).resolve_left (Ne.symm e)
        exact (irr _ _ (p.1 b h2) (p'.1 a h1)).elim
    subst e
    refine congrArg (a :: ·) (asc_unique irr p.2 p'.2 fun x => ⟨fun hx => ?_, fun hx => ?_⟩)
    · refine (List.mem_cons.mp ((h x).mp (List.mem_cons_of_mem _ hx))).resolve_left fun e => ?_
      subst e
      exact irr _ _ (p.1 _ hx) (p.1 _ hx)
    · refine (List.mem_cons.mp ((h x).mpr (List.mem_cons_of_mem _ hx))).resolve_left fun e => ?_
      subst e
      exact irr _ _ (p'.1 _ hx) (p'.1 _ hx)
theorem lexLt_irr (s t : Int × Int × Int) (h : lexLt s t) (h' : lexLt t s) : False := by
  unfold lexLt at h h'; omega
theorem TkAt.cast {L : List (Addr × (Str × Str))} {n m : Nat} {ts : List (Str × Str)} (h : TkAt L n ts) (e : n = m) : TkAt L m ts := e ▸ h
/-! ### a text's statements -/
inductive Stm where
  | w
  | aw (t : Int × Int × Int)
  | mk (ks : List Int)
def Stm.isW : Stm → Bool
  | .w => true
  | _ => false
def Stm.aw? : Stm → Option (Int × Int × Int)
  | .aw t => some t
  | _ => none
def Stm.mk? : Stm → Option (List Int)
  | .mk ks => some ks
  | _ => none
theorem aw_cons (t : Int × Int × Int) (S : List Stm) : (Stm.aw t :: S).filterMap Stm.aw? = t :: S.filterMap Stm.aw? := rfl
theorem mk_cons (ks : List Int) (S : List Stm) : (Stm.mk ks :: S).filterMap Stm.mk? = ks :: S.filterMap Stm.mk? := rfl
def stmToks (r : Rota) : Stm → List (Str × Str)
  | .w => ("keyword", "weights") :: ((r.weights.map num).map (fun t => (("number" : Str), t)) ++ [(("sign" : Str), (";" : Str))])
  | .aw t => awToks r.names t
  | .mk ks => ("keyword", "makeup") :: ((ks.map (nmL r.names)).map (fun t => (("name" : Str), t)) ++ [(("sign" : Str), (";" : Str))])
structure Spell (r : Rota) (S : List Stm) : Prop where
  w1 : (S.filter Stm.isW).length ≤ 1
  w0 : S.filter Stm.isW = [] → r.weights = List.replicate r.names.length 1
  aw : ∀ t, t ∈ S.filterMap Stm.aw? ↔ t ∈ r.aways
  aw20 : (S.filterMap Stm.aw?).length ≤ 20
  m1 : (S.filterMap Stm.mk?).length ≤ 1
  mks : ∀ ks ∈ S.filterMap Stm.mk?, ks ≠ [] ∧ ks.length ≤ 12 ∧ ∀ k : Int, k ∈ ks ↔ k ∈ r.makers
  m0 : S.filterMap Stm.mk? = [] → r.makers = []
def rotaToks (r : Rota) (S : List Stm) : List (Str × Str) := (("keyword" : Str), ("people" : Str)) :: (r.names.map (fun t => (("name" : Str), t)) ++ (("sign" : Str), (";" : Str)) ::
  ((("keyword" : Str), ("turns" : Str)) :: ((r.turns.map (nmL r.names)).map (fun t => (("name" : Str), t)) ++ (("sign" : Str), (";" : Str)) :: (S.flatMap (stmToks r) ++ [(("end" : Str), ("" : Str))]))))
def l3 (t : Int × Int × Int) : List Int := [t.1, t.2.1, t.2.2]
def tr3 (l : List Int) : Int × Int × Int := (l.getD 0 0, l.getD 1 0, l.getD 2 0)
def atOf (o : Option HO) : Nat := match o with
  | some (.ins _ _ fs) => match fs.lookup ("at" : Str) with
    | some (.int i) => i.toNat
    | _ => 0
  | _ => 0
section
variable {P : Program} {w : World} {K : PySem.W.Frag} {mg : Str → Option Value} {base : Heap} {CT CP : Addr}
def spParse (CP CT : Addr) : Sp := fun vs H Q _ => ∃ (z : Pz) (L : List (Addr × (Str × Str))) (r : Rota) (S : List Stm), vs = [.ref z.x] ∧ PAt CP CT z L ⟨0, [], [], none, none⟩ H ∧ ROk r ∧ Spell r S ∧ TkAt L 0 (rotaToks r S) ∧
  ∀ H' a, Wd z.mut H H' [] → RotaAt H' a r → Q (.ref a) H'
abbrev sParser_parse_rota : Stmt := inClass (topS 39) 13
theorem scParser_parse_rota : FnScope ["self", "turns", "line", "column", "number", "reason", "weights", "makers"] ["self"] (defScope sParser_parse_rota) := ⟨rfl, rfl, rfl, by decide +kernel, rfl, by decide +kernel, by decide +kernel⟩
theorem me_rota (D : MethAt K CP "parse_rota" "Parser.parse_rota" sParser_parse_rota ["self"]) (T : Bi mg) (PC : ParCls K CP) (TC : TokCls K CT) (LC : LexC K mg)
    (C0 : MeAt P w K mg base 1 CP "peek" ["self"] (spPeek CP CT)) (C1 : MeAt P w K mg base 4 CP "parse_people" ["self"] (spPeople CP CT))
    (C2 : MeAt P w K mg base 4 CP "parse_turns" ["self"] (spTurns CP CT)) (C3 : MeAt P w K mg base 4 CP "parse_weights" ["self"] (spWeights CP CT))
    (C4 : MeAt P w K mg base 3 CP "parse_away" ["self"] (spAway CP CT)) (C5 : MeAt P w K mg base 4 CP "parse_makeup" ["self"] (spMakeup CP CT)) : MeAt P w K mg base 5 CP "parse_rota" ["self"] (spParse CP CT) := D.me fun f fd F => by
  have nd := scParser_parse_rota.nd
  have cl_Parser := PC.cl
  obtain ⟨t1, c_END⟩ := LC.END
  obtain ⟨f0, fd0, me_peek, b_peek, G_peek⟩ := C0.ex
  obtain ⟨f1, fd1, me_parse_people, b_parse_people, G_parse_people⟩ := C1.ex
  obtain ⟨f2, fd2, me_parse_turns, b_parse_turns, G_parse_turns⟩ := C2.ex
  obtain ⟨f3, fd3, me_parse_weights, b_parse_weights, G_parse_weights⟩ := C3.ex
  obtain ⟨f4, fd4, me_parse_away, b_parse_away, G_parse_away⟩ := C4.ex
  obtain ⟨f5, fd5, me_parse_makeup, b_parse_makeup, G_parse_makeup⟩ := C5.ex
  refine F.ok scParser_parse_rota (fun vs H Q E h => ?_) (fun cdv A outer s H vs Q E hr h => ?_)
  · obtain ⟨z, L, s, ts, rfl, _⟩ := h; rfl
  obtain ⟨z, L, r, S, rfl, hp, ok, sp, hts, q⟩ := h
  have hu := hr.units
  have hkey : (!decide (V.str "keyword" = V.str "end")) = true := by decide +kernel
  have hwa : ¬ ("away" : Str) = "weights" := by decide +kernel
  have hwm : ¬ ("makeup" : Str) = "weights" := by decide +kernel
  have ham_ : ¬ ("makeup" : Str) = "away" := by decide +kernel
  refine ⟨_, (pss_cons (ps_expr (pe_meth0 (pv 0) cl_Parser me_parse_people G_parse_people (hr.mono (by first | decide | omega)) b_parse_people .nil pass0))
 (pss_cons (ps_set (i := 1) nd rfl (Or.inl rfl) (pe_meth0 (pv 0) cl_Parser me_parse_turns G_parse_turns (hr.mono (by first | decide | omega)) b_parse_turns .nil pass0))
 (pss_cons (ps_while PassesOwn.never (pt_cmpR op_ne (pe_fldK (K := K) rfl (pe_meth0 (pv 0) cl_Parser me_peek G_peek (hr.mono (by first | decide | omega)) b_peek .nil pass0) rfl) (pe_glob (v := .str "end") (by rfl) c_END ⟨_, rfl⟩) (nomark _))
 (pss_one (ps_match (pe_fldK (K := K) rfl (pe_meth0 (pv 0) cl_Parser me_peek G_peek (hr.mono (by first | decide | omega)) b_peek .nil pass0) rfl) (pcs_str (pss_one (ps_expr (pe_meth0 (pv 0) cl_Parser me_parse_weights G_parse_weights (hr.mono (by first | decide | omega)) b_parse_weights .nil pass0))) (pcs_str (pss_one (ps_expr (pe_meth0 (pv 0) cl_Parser me_parse_away G_parse_away (hr.mono (by first | decide | omega)) b_parse_away .nil pass0))) (pcs_str (pss_one (ps_expr (pe_meth0 (pv 0) cl_Parser me_parse_makeup G_parse_makeup (hr.mono (by first | decide | omega)) b_parse_makeup .nil pass0))) (pcs_any pss_never)))))))
 (pss_cons (ps_if (pt_cmpR (r := rNeD K) (op_neD hu) (pe_fldK (K := K) rfl (pv 0) rfl) (pe_lst pa_nil) (nomark _))
 pss_never
 pss_nil)
 (C8.pss_cut (ps_set (i := 6) nd rfl (Or.inl rfl) (pe_ifExp (pt_cmpR op_notN (pe_fldK (K := K) rfl (pv 0) rfl) pe_non (nomark _)) (pe_fldK (K := K) rfl (pv 0) rfl) (pe_op (r := rRepA K) op_repA (pe_tup (pa_cons pe_int pa_nil)) (pe_callB (r := rLenS K) call_len_seq (by rfl) T.len PySem.boot_len (pa_cons (pe_fldK (K := K) rfl (pv 0) rfl) pa_nil)))))
 (C8.pss_cut (ps_set (i := 7) nd rfl (Or.inl rfl) (pe_ifExp (pt_cmpR op_notN (pe_fldK (K := K) rfl (pv 0) rfl) pe_non (nomark _)) (pe_fldK (K := K) rfl (pv 0) rfl) (pe_tup pa_nil)))
 (pss_one (ps_ret (pe_tup (pa_cons (pe_callTy (r := rTupOfF K) call_tuple_ofF (by rfl) T.tuple (by decide +kernel) (pa_cons (pe_fldK (K := K) rfl (pv 0) rfl) pa_nil)) (pa_cons (pv 1) (pa_cons (pv 6) (pa_cons (pe_callTy (r := rTupOf K) call_tuple_of (by rfl) T.tuple (by decide +kernel) (pa_cons (pe_callB (r := rSortedT K P w) (cr_sortedT rfl) (by rfl) T.sorted (by decide +kernel) (pa_cons (pe_callTy (r := rSetOfT K P w) (cr_setOfT rfl hu) (by rfl) T.set (by decide +kernel) (pa_cons (pe_fldK (K := K) rfl (pv 0) rfl) pa_nil)) pa_nil)) pa_nil)) (pa_cons (pv 7) pa_nil)))))))))))))), ?_⟩
  have n1 := ok.n1
  have n6 := ok.n6
  have hnn : r.names ≠ [] := fun e => by rw [e] at n1; simp at n1
  have htn : r.turns ≠ [] := fun e => by have := ok.tall 0 (by omega); rw [e] at this; simp at this
  have hwn : r.weights ≠ [] := fun e => by have := ok.wl; rw [e] at this; simp at this; omega
  refine ⟨_, rfl, z.x, z.dx, _, rfl, hp.ob, pf_none (by decide +kernel), z, L, _, r.names, _, rfl, hp, rfl, hnn, n6, ok.nd, hts, fun H1 c1 hp1 => ?_⟩
  have hts1 : TkAt L (0 + 1 + r.names.length + 1) _ := hts.cons.2.app.cons.2.cast (by rw [List.length_map])
  refine ⟨_, rfl, z.x, z.dx, _, rfl, hp1.ob, pf_none (by decide +kernel), z, L, _, r.turns, _, rfl, hp1, ok.nd, n6, htn, ok.t12, ok.t0, ok.tall, hts1, fun H2 tn c2 hp2 htu => ?_⟩
  have hts2 : TkAt L (0 + 1 + r.names.length + 1 + 1 + r.turns.length + 1) _ := hts1.cons.2.app.cons.2.cast (by rw [List.length_map, List.length_map])
  refine while_by (fun σ H' => σ = [some (.ref z.x), some (.ref tn), none, none, none, none, none, none] ∧ ∃ (s : Pv) (S1 S2 : List Stm), Wd z.mut H H' [] ∧ PAt CP CT z L s H' ∧ H' tn = some (.tup (r.turns.map V.int)) ∧ S1 ++ S2 = S ∧ s.names = r.names ∧
      TkAt L s.n (S2.flatMap (stmToks r) ++ [(("end" : Str), ("" : Str))]) ∧ s.aws.map Prod.snd = S1.filterMap Stm.aw? ∧
      ((s.W = none ∧ S1.filter Stm.isW = []) ∨ ((∃ b, s.W = some (b, r.weights)) ∧ S1.filter Stm.isW ≠ [])) ∧ ((s.M = none ∧ S1.filterMap Stm.mk? = []) ∨ ((∃ b, s.M = some (b, r.makers)) ∧ S1.filterMap Stm.mk? ≠ []))) (fun _ H' => L.length - atOf (H' z.x))
    ⟨rfl, _, [], S, c1.fgo c2, hp2, htu, rfl, rfl, hts2, rfl, .inl ⟨rfl, rfl⟩, .inl ⟨rfl, rfl⟩⟩ ?_ ?_
  · rintro σ H3 ⟨rfl, s3, S1, S2, c3, hp3, htu3, hS, hnm, hts3, haw3, hW3, hM3⟩
    have hat : atOf (H3 z.x) = s3.n := by
      rw [hp3.ob]
      unfold atOf
      simp only [pf_at]; rfl
    have nd1 := hp3.ne
    cases S2 with
    | nil =>
      rw [List.append_nil] at hS
      subst hS
      obtain ⟨⟨a0, h0⟩, _⟩ := hts3.cons
      obtain ⟨tdx, tl, tc, hta⟩ := hp3.ts _ (List.mem_of_getElem? h0)
      refine ⟨_, rfl, z.x, z.dx, _, rfl, hp3.ob, pf_none (by decide +kernel), z, L, s3, a0, _, rfl, hp3, h0, a0, CT, tdx, _, _, rfl, hta, TC.cl, TC.nk, tk_kind _ _ _ _, rfl, _, rfl, ?_⟩
      refine ite2 (fun h => absurd h (by simp)) (fun _ => ?_)
      refine ⟨_, rfl, z.x, CP, z.dx, _, _, rfl, hp3.ob, PC.cl, PC.n3, pf_faults, (by show 0 ≤ sizeLine; decide), fun e he => ?_⟩
      have c4 := c3.fnew (.lst []) he
      have hp4 := hp3.new (.lst []) he
      have htu4 : upd H3 e (.lst []) tn = some (.tup (r.turns.map V.int)) := by rw [upd_ne (ne_of_none htu3 he)]; exact htu3
      have hee : upd H3 e (.lst []) e = some (.lst []) := upd_same
      generalize upd H3 e (.lst []) = H4 at *
      refine ⟨.list [], .list [], .lst (SqL.of hp4.fl) .nil, .lst (SqL.of hee) .nil, rfl, rfl, _, rfl, ?_⟩
      rw [eqv_nil]
      refine ite2 (fun h => absurd h (by decide)) (fun _ => ?_)
      refine ⟨fun σ H' => ∃ aw, σ = [some (.ref z.x), some (.ref tn), none, none, none, none, some (.ref aw), none] ∧ Wd z.mut H H' [] ∧ PAt CP CT z L s3 H' ∧ H' tn = some (.tup (r.turns.map V.int)) ∧ H' aw = some (.tup (r.weights.map V.int)), ?_, ?_⟩
      · refine ⟨_, rfl, z.x, CP, z.dx, _, _, rfl, hp4.ob, PC.cl, PC.n5, pf_weights, rfl, _, rfl, ?_⟩
        rcases hW3 with ⟨hW, hf⟩ | ⟨⟨b, hW⟩, hf⟩
        · have hw2 : oV s3.W = .non := by rw [hW]; rfl
          rw [hw2]
          refine ite2 (fun h => absurd h (by simp)) (fun _ => ?_)
          have hr1 := sp.w0 hf
          refine ⟨(by show 1 ≤ sizeLine; decide), fun tp htp => ?_⟩
          have hp5 := hp4.new (.tup [V.int 1]) htp
          have c5 := c4.fnew (.tup [V.int 1]) htp
          have htu5 : upd H4 tp (.tup [V.int 1]) tn = some (.tup (r.turns.map V.int)) := by rw [upd_ne (ne_of_none htu4 htp)]; exact htu4
          refine ⟨_, rfl, z.x, CP, z.dx, _, _, rfl, hp5.ob, PC.cl, PC.n4, pf_names, z.nl, _, rfl, .inl (SqL.of hp5.nl), tp, _, [V.int 1], rfl, rfl, SqT.of upd_same, by simp, ?_, ?_, by simp, fun hk => ?_, fun hk p hpn => ?_⟩
          · rw [List.length_map, hnm]; omega
          · rw [List.length_map, hnm]; omega
          · rw [List.length_map, hnm] at hk
            refine ⟨tp, rfl, c5, hp5, htu5, ?_⟩
            rw [hr1, show r.names.length = 1 by omega]
            exact upd_same
          · refine ⟨p, rfl, c5.fnew _ hpn, hp5.new _ hpn, by rw [upd_ne (ne_of_none htu5 hpn)]; exact htu5, ?_⟩
            rw [upd_same, hr1, List.length_map, hnm, Int.toNat_natCast]
            have e5 : ∀ n : Nat, (List.replicate n [V.int 1]).flatten = (List.replicate n (1 : Int)).map V.int := fun n => by
              induction n with
              | zero => rfl
              | succ n ih => rw [List.replicate_succ, List.flatten_cons, ih, List.replicate_succ]; rfl
            rw [e5]
        · have hw2 : oV s3.W = .ref b := by rw [hW]; rfl
          rw [hw2]
          refine ite2 (fun _ => ?_) (fun h => absurd (by simp) h)
          refine ⟨_, rfl, z.x, CP, z.dx, _, _, rfl, hp4.ob, PC.cl, PC.n5, pf_weights, ?_⟩
          exact ⟨b, by rw [hw2]; rfl, c4, hp4, htu4, hp4.w _ hW⟩
      · rintro σ H5 ⟨aw, rfl, c5, hp5, htu5, haw5⟩
        refine ⟨fun σ H' => ∃ am, σ = [some (.ref z.x), some (.ref tn), none, none, none, none, some (.ref aw), some (.ref am)] ∧ Wd z.mut H H' [] ∧ PAt CP CT z L s3 H' ∧ H' tn = some (.tup (r.turns.map V.int)) ∧ H' aw = some (.tup (r.weights.map V.int)) ∧ H' am = some (.tup (r.makers.map V.int)), ?_, ?_⟩
        · refine ⟨_, rfl, z.x, CP, z.dx, _, _, rfl, hp5.ob, PC.cl, PC.n6, pf_makers, rfl, _, rfl, ?_⟩
          rcases hM3 with ⟨hM, hf⟩ | ⟨⟨b, hM⟩, hf⟩
          · have hw2 : oV s3.M = .non := by rw [hM]; rfl
            rw [hw2]
            refine ite2 (fun h => absurd h (by simp)) (fun _ => ?_)
            refine ⟨(by show 0 ≤ sizeLine; decide), fun tp htp => ⟨tp, rfl, c5.fnew _ htp, hp5.new _ htp, by rw [upd_ne (ne_of_none htu5 htp)]; exact htu5, by rw [upd_ne (ne_of_none haw5 htp)]; exact haw5, ?_⟩⟩
            rw [upd_same, sp.m0 hf]; rfl
          · have hw2 : oV s3.M = .ref b := by rw [hM]; rfl
            rw [hw2]
            refine ite2 (fun _ => ?_) (fun h => absurd (by simp) h)
            refine ⟨_, rfl, z.x, CP, z.dx, _, _, rfl, hp5.ob, PC.cl, PC.n6, pf_makers, ?_⟩
            exact ⟨b, by rw [hw2]; rfl, c5, hp5, htu5, haw5, hp5.m _ hM⟩
        · rintro σ H6 ⟨am, rfl, c6, hp6, htu6, haw6, ham6⟩
          refine ⟨_, rfl, z.x, CP, z.dx, _, _, rfl, hp6.ob, PC.cl, PC.n4, pf_names, z.nl, _, rfl, SqL.of hp6.nl, fun an ono hono han => ?_⟩
          have w1 := (Wd.refl H6).new (.frz ono (.tup (s3.names.map V.str))) han
          have hp7 := hp6.call0 w1
          have hawl : s3.aws.length ≤ 20 := by
            have h2 := congrArg List.length haw3
            rw [List.length_map] at h2
            have := sp.aw20
            omega
          refine ⟨_, rfl, _, rfl, _, rfl, z.x, CP, z.dx, _, _, rfl, hp7.ob, PC.cl, PC.n7, pf_aways, z.al, s3.aws.map (fun q => (q.1, l3 q.2)), rfl, ?_, ?_, ?_, fun sa L1 hsa hsub hcov => ?_⟩
          · have e : (s3.aws.map (fun q => (q.1, l3 q.2))).map (fun p => V.ref p.1) = arefs s3.aws := by rw [List.map_map]; rfl
            rw [e]; exact SqL.of hp7.al
          · intro p hp
            obtain ⟨g, hg, rfl⟩ := List.mem_map.mp hp
            exact SqT.of (hp7.aw g hg)
          · rw [List.length_map]; omega
          have w2 := w1.new (SetTO P w sa L1) hsa
          have hp8 := hp6.call0 w2
          have hL1 : ∀ p ∈ L1, ∃ g ∈ s3.aws, p = (g.1, l3 g.2) := fun p hp => by
            obtain ⟨g, hg, e⟩ := List.mem_map.mp (hsub p hp)
            exact ⟨g, hg, e.symm⟩
          have hin : ∀ g ∈ s3.aws, g.2 ∈ r.aways := fun g hg => (sp.aw g.2).mp (by rw [← haw3]; exact List.mem_map.mpr ⟨g, hg, rfl⟩)
          refine ⟨sa, L1, 3, 13, rfl, w2.get 0 rfl, ?_, by decide, ?_, fun L2 lp hperm hnd _ hpw hlp => ?_⟩
          · intro p hp
            obtain ⟨g, hg, rfl⟩ := hL1 p hp
            exact SqT.of (hp8.aw g hg)
          · intro p hp
            obtain ⟨g, hg, rfl⟩ := hL1 p hp
            refine ⟨rfl, fun x hx => ?_⟩
            obtain ⟨g1, g2, g3, g4, g5⟩ := ok.a0 _ (hin g hg)
            have g6 : g.2.2.2 ≤ 12 := by simp at g5; omega
            simp only [l3, List.mem_cons, List.not_mem_nil, or_false] at hx
            rcases hx with rfl | rfl | rfl <;> omega
          have w3 := w2.new (.lst (L2.map fun q => V.ref q.1)) hlp
          have hL2 : ∀ p ∈ L2, ∃ g ∈ s3.aws, p = (g.1, l3 g.2) := fun p hp => hL1 p (hperm.mem_iff.mp hp)
          refine ⟨lp, _, rfl, .inl ⟨SqL.of (w3.get 0 rfl), fun aa haa => ?_⟩⟩
          have w4 := w3.new (.tup (L2.map fun q => V.ref q.1)) haa
          refine ⟨_, rfl, (by show 5 ≤ sizeLine; decide), fun a ha => ?_⟩
          have w5 := w4.new (.tup [V.ref an, V.ref tn, V.ref aw, V.ref aa, V.ref am]) ha
          have c7 : Wd z.mut H _ [] := c6.fgo ((w5.sub (List.nil_sublist _)).mono fun _ h => nomatch h)
          have hp9 := hp6.call0 w5
          have e3 : ∀ t : Int × Int × Int, tr3 (l3 t) = t := fun t => rfl
          have hsrt : L2.map (fun q => tr3 q.2) = r.aways := by
            refine asc_unique lexLt_irr ?_ ok.asc fun t => ?_
            · rw [List.pairwise_map]
              have hnd2 : (L2.map (·.2)).Nodup := hnd
              have hnd3 : L2.Pairwise fun p q => p.2 ≠ q.2 := List.pairwise_map.mp hnd2
              refine (hpw.and hnd3).imp_of_mem fun {p q} hp hq ⟨h, ne⟩ => ?_
              obtain ⟨g, hg, rfl⟩ := hL2 p hp
              obtain ⟨k, hk, rfl⟩ := hL2 q hq
              exact lex_of_code (n := r.names.length) (by omega) (ok.a0 _ (hin g hg)) (ok.a0 _ (hin k hk)) h (fun e => ne (congrArg l3 e))
            · constructor
              · intro ht
                obtain ⟨p, hp, rfl⟩ := List.mem_map.mp ht
                obtain ⟨g, hg, rfl⟩ := hL2 p hp
                exact hin g hg
              · intro ht
                have h1 := (sp.aw t).mpr ht
                rw [← haw3] at h1
                obtain ⟨g, hg, rfl⟩ := List.mem_map.mp h1
                obtain ⟨p, hp, e⟩ := List.mem_map.mp (hcov (g.1, l3 g.2) (List.mem_map.mpr ⟨g, hg, rfl⟩))
                exact List.mem_map.mpr ⟨p, hperm.mem_iff.mpr hp, by rw [e]; rfl⟩
          refine q _ a c7 ⟨an, tn, aw, aa, am, L2.map (·.1), w5.get 0 rfl, ?_, w5.tups _ _ htu6, w5.tups _ _ haw6, ?_, ?_, w5.tups _ _ ham6⟩
          · rw [← hnm]; exact ⟨ono, hono, w5.get 4 rfl⟩
          · rw [List.map_map]; exact w5.get 1 rfl
          · rw [← hsrt]
            have e1 : L2.map (·.1) = (L2.map (fun q => (q.1, tr3 q.2))).map (·.1) := by rw [List.map_map]; rfl
            have e2 : L2.map (fun q => tr3 q.2) = (L2.map (fun q => (q.1, tr3 q.2))).map (·.2) := by rw [List.map_map]; rfl
            rw [e1, e2]
            refine AwAt.of fun p hp => ?_
            obtain ⟨p', hp', rfl⟩ := List.mem_map.mp hp
            obtain ⟨g, hg, rfl⟩ := hL2 p' hp'
            exact hp9.aw g hg
    | cons st S2 =>
      rw [List.flatMap_cons, List.append_assoc] at hts3
      have e1 : (S1 ++ [st]) ++ S2 = S := by rw [List.append_assoc]; exact hS
      cases st with
      | w =>
        have e2 : stmToks r .w ++ (S2.flatMap (stmToks r) ++ [(("end" : Str), ("" : Str))]) = (("keyword" : Str), ("weights" : Str)) :: ((r.weights.map num).map (fun t => (("number" : Str), t)) ++ (("sign" : Str), (";" : Str)) :: (S2.flatMap (stmToks r) ++ [(("end" : Str), ("" : Str))])) := by
          show _ :: ((_ ++ _) ++ _) = _
          rw [List.append_assoc]; rfl
        rw [e2] at hts3
        obtain ⟨⟨a0, h0⟩, htsr⟩ := hts3.cons
        have htsn : TkAt L (s3.n + 1 + r.weights.length + 1) _ := htsr.app.cons.2.cast (by rw [List.length_map, List.length_map])
        obtain ⟨tdx, tl, tc, hta⟩ := hp3.ts _ (List.mem_of_getElem? h0)
        have hlt := (List.getElem?_eq_some_iff.mp h0).1
        have hW0 : s3.W = none ∧ S1.filter Stm.isW = [] := hW3.resolve_right fun ⟨_, h⟩ => by
          have := sp.w1
          rw [← hS, List.filter_append, List.length_append, List.filter_cons_of_pos (by rfl), List.length_cons] at this
          have h3 := List.length_pos_iff.mpr h
          omega
        refine ⟨_, rfl, z.x, z.dx, _, rfl, hp3.ob, pf_none (by decide +kernel), z, L, s3, a0, _, rfl, hp3, h0, a0, CT, tdx, _, _, rfl, hta, TC.cl, TC.nk, tk_kind _ _ _ _, rfl, _, rfl, ?_⟩
        refine ite2 (fun _ => ?_) (fun h => absurd hkey h)
        refine ⟨_, rfl, z.x, z.dx, _, rfl, hp3.ob, pf_none (by decide +kernel), z, L, s3, a0, _, rfl, hp3, h0, a0, CT, tdx, _, _, rfl, hta, TC.cl, TC.nt, tk_text _ _ _ _, _, rfl, ?_⟩
        dsimp only
        rw [if_pos rfl]
        refine ⟨_, rfl, z.x, z.dx, _, rfl, hp3.ob, pf_none (by decide +kernel), z, L, s3, r.weights, _, rfl, hp3, hW0.1, by rw [hnm]; exact ok.wl, by rw [hnm]; exact n6, hwn, ok.w0, hts3, fun H4 b c4 hp4 => ?_⟩
        refine ⟨⟨rfl, _, S1 ++ [.w], S2, c3.fgo c4, hp4, c4.tups _ _ htu3, e1, hnm, htsn, ?_, .inr ⟨⟨b, rfl⟩, ?_⟩, ?_⟩, ?_⟩
        · rw [List.filterMap_append, haw3]; simp [Stm.aw?]
        · simp [Stm.isW]
        · rw [List.filterMap_append]; simpa [Stm.mk?] using hM3
        · have e3 : atOf (H4 z.x) = s3.n + 1 + r.weights.length + 1 := by
            rw [hp4.ob]; unfold atOf; simp only [pf_at]; rfl
          show L.length - atOf (H4 z.x) < L.length - atOf (H3 z.x)
          rw [e3, hat]; omega
      | aw t =>
        obtain ⟨⟨a0, h0⟩, _⟩ := hts3.cons
        have htsn : TkAt L (s3.n + 6) _ := hts3.app
        obtain ⟨tdx, tl, tc, hta⟩ := hp3.ts _ (List.mem_of_getElem? h0)
        have hlt := (List.getElem?_eq_some_iff.mp h0).1
        have hal : s3.aws.length < 20 := by
          have h1 := sp.aw20
          have h2 := congrArg List.length haw3
          rw [← hS, List.filterMap_append, List.length_append, aw_cons, List.length_cons] at h1
          rw [List.length_map] at h2
          omega
        have htr : t ∈ r.aways := (sp.aw t).mp (by rw [← hS, List.filterMap_append]; exact List.mem_append_right _ (by rw [aw_cons]; exact List.mem_cons_self))
        refine ⟨_, rfl, z.x, z.dx, _, rfl, hp3.ob, pf_none (by decide +kernel), z, L, s3, a0, _, rfl, hp3, h0, a0, CT, tdx, _, _, rfl, hta, TC.cl, TC.nk, tk_kind _ _ _ _, rfl, _, rfl, ?_⟩
        refine ite2 (fun _ => ?_) (fun h => absurd hkey h)
        refine ⟨_, rfl, z.x, z.dx, _, rfl, hp3.ob, pf_none (by decide +kernel), z, L, s3, a0, _, rfl, hp3, h0, a0, CT, tdx, _, _, rfl, hta, TC.cl, TC.nt, tk_text _ _ _ _, _, rfl, ?_⟩
        dsimp only
        rw [if_neg hwa, if_pos rfl]
        refine ⟨_, rfl, z.x, z.dx, _, rfl, hp3.ob, pf_none (by decide +kernel), z, L, s3, t, _, rfl, hp3, by rw [hnm]; exact ok.nd, by rw [hnm]; exact n6, by rw [hnm]; exact ok.a0 t htr, hal, by rw [hnm]; exact hts3, fun H4 b c4 hp4 => ?_⟩
        refine ⟨⟨rfl, _, S1 ++ [.aw t], S2, c3.fgo c4, hp4, c4.tups _ _ htu3, e1, hnm, htsn, ?_, ?_, ?_⟩, ?_⟩
        · rw [List.filterMap_append, List.map_append, haw3]; rfl
        · rw [List.filter_append]; simpa [Stm.isW] using hW3
        · rw [List.filterMap_append]; simpa [Stm.mk?] using hM3
        · have e3 : atOf (H4 z.x) = s3.n + 6 := by
            rw [hp4.ob]; unfold atOf; simp only [pf_at]; rfl
          show L.length - atOf (H4 z.x) < L.length - atOf (H3 z.x)
          rw [e3, hat]; omega
      | mk ks =>
        have e2 : stmToks r (.mk ks) ++ (S2.flatMap (stmToks r) ++ [(("end" : Str), ("" : Str))]) = (("keyword" : Str), ("makeup" : Str)) :: ((ks.map (nmL r.names)).map (fun t => (("name" : Str), t)) ++ (("sign" : Str), (";" : Str)) :: (S2.flatMap (stmToks r) ++ [(("end" : Str), ("" : Str))])) := by
          show _ :: ((_ ++ _) ++ _) = _
          rw [List.append_assoc]; rfl
        rw [e2] at hts3
        obtain ⟨⟨a0, h0⟩, htsr⟩ := hts3.cons
        have htsn : TkAt L (s3.n + 1 + ks.length + 1) _ := htsr.app.cons.2.cast (by rw [List.length_map, List.length_map])
        obtain ⟨tdx, tl, tc, hta⟩ := hp3.ts _ (List.mem_of_getElem? h0)
        have hlt := (List.getElem?_eq_some_iff.mp h0).1
        obtain ⟨k1, k2, k3⟩ := sp.mks ks (by rw [← hS, List.filterMap_append]; exact List.mem_append_right _ (by rw [mk_cons]; exact List.mem_cons_self))
        have hM0 : s3.M = none ∧ S1.filterMap Stm.mk? = [] := hM3.resolve_right fun ⟨_, h⟩ => by
          have := sp.m1
          rw [← hS, List.filterMap_append, List.length_append, mk_cons, List.length_cons] at this
          have h3 := List.length_pos_iff.mpr h
          omega
        refine ⟨_, rfl, z.x, z.dx, _, rfl, hp3.ob, pf_none (by decide +kernel), z, L, s3, a0, _, rfl, hp3, h0, a0, CT, tdx, _, _, rfl, hta, TC.cl, TC.nk, tk_kind _ _ _ _, rfl, _, rfl, ?_⟩
        refine ite2 (fun _ => ?_) (fun h => absurd hkey h)
        refine ⟨_, rfl, z.x, z.dx, _, rfl, hp3.ob, pf_none (by decide +kernel), z, L, s3, a0, _, rfl, hp3, h0, a0, CT, tdx, _, _, rfl, hta, TC.cl, TC.nt, tk_text _ _ _ _, _, rfl, ?_⟩
        dsimp only
        rw [if_neg hwm, if_neg ham_, if_pos rfl]
        refine ⟨_, rfl, z.x, z.dx, _, rfl, hp3.ob, pf_none (by decide +kernel), z, L, s3, ks, _, rfl, hp3, hM0.1, by rw [hnm]; exact ok.nd, by rw [hnm]; exact n6, k1, k2, fun k hk => by rw [hnm]; exact ok.m0 k ((k3 k).mp hk), by rw [hnm]; exact hts3, fun H4 b ms c4 hpw hms hp4 => ?_⟩
        have hmm : ms = r.makers := asc_unique (fun a b (h : a < b) (h' : b < a) => by omega) hpw ok.masc fun k => (hms k).trans (k3 k)
        subst hmm
        refine ⟨⟨rfl, _, S1 ++ [.mk ks], S2, c3.fgo c4, hp4, c4.tups _ _ htu3, e1, hnm, htsn, ?_, ?_, .inr ⟨⟨b, rfl⟩, ?_⟩⟩, ?_⟩
        · rw [List.filterMap_append, haw3]; simp [Stm.aw?]
        · rw [List.filter_append]; simpa [Stm.isW] using hW3
        · rw [List.filterMap_append]; simp [Stm.mk?]
        · have e3 : atOf (H4 z.x) = s3.n + 1 + ks.length + 1 := by
            rw [hp4.ob]; unfold atOf; simp only [pf_at]; rfl
          show L.length - atOf (H4 z.x) < L.length - atOf (H3 z.x)
          rw [e3, hat]; omega
  · intro σ H2 Q1 Q2 hm hc
    obtain ⟨v0, e0, a, dx', fs, ea, eo, en, z', L', s', a', t', e1, e2, e3, a'', C'', dx'', fs'', v'', g1, g2, g3, g4, g5, e5, b, hb, hc⟩ := hc
    exact ⟨v0, e0, a, dx', fs, ea, eo, en, z', L', s', a', t', e1, e2, e3, a'', C'', dx'', fs'', v'', g1, g2, g3, g4, g5, e5, b, hb, hm _ _ hc⟩
/-! ### load -/
/-- a text that spells a rota -/
structure Says (z : Str) (r : Rota) (S : List Stm) : Prop where
  ok : ROk r
  sp : Spell r S
  len : z.length + 2 ≤ sizeLine
  lex : ∃ tss : List (List (Str × Str)), (Txt.split z "\n").length = tss.length ∧ (∀ (i : Nat) row ts, (Txt.split z "\n")[i]? = some row → tss[i]? = some ts → row.length ≤ sizeLine ∧ LexR (TL.tl row) ts) ∧ tss.flatten.length < 1000 ∧ (Txt.split z "\n").length ≤ sizeLine ∧
    tss.flatten ++ [(("end" : Str), ("" : Str))] = rotaToks r S
def spLoad : Sp := fun vs H Q _ => ∃ (z : Str) (r : Rota) (S : List Stm), vs = [.str z] ∧ Says z r S ∧ ∀ H' a, Wd [] H H' [] → RotaAt H' a r → Q (.ref a) H'
abbrev sload : Stmt := topS 40
theorem scload : FnScope ["rota"] ["rota"] (defScope sload) := ⟨rfl, rfl, rfl, by decide +kernel, rfl, by decide +kernel, by decide +kernel⟩
theorem cal_load (D : DefAt K mg "load" sload ["rota"]) (PC : ParCls K CP) (cn : CT ≠ CP) (C1 : Cal P w K mg base 4 "tokenize" ["source"] (spTokenize CT)) (CM : MkAt P w K mg base 1 "Parser" CP ["self", "tokens"] (spParI CP CT))
    (C2 : MeAt P w K mg base 5 CP "parse_rota" ["self"] (spParse CP CT)) : Cal P w K mg base 6 "load" ["rota"] spLoad := D.cal fun f fd F => by
  have nd := scload.nd
  have cl_Parser := PC.cl
  obtain ⟨f1, fd1, m_tokenize, kp_tokenize, b_tokenize, G_tokenize⟩ := C1.ex
  obtain ⟨f2, fd2, mC_Parser, Mk_Parser, b_Parser, G_Parser⟩ := CM.ex
  obtain ⟨f3, fd3, me_parse_rota, b_parse_rota, G_parse_rota⟩ := C2.ex
  refine F.ok scload (fun vs H Q E h => ?_) (fun cdv A outer s H vs Q E hr h => ?_)
  · obtain ⟨z, r, S, rfl, _⟩ := h; rfl
  obtain ⟨z, r, S, rfl, ⟨ok, sp, hlen, tss, e1, e2, e3, e4, e5⟩, q⟩ := h
  refine ⟨_, (pss_one (ps_ret (pe_meth0 (pe_make Mk_Parser G_Parser (hr.mono (by first | decide | omega)) (by rfl) mC_Parser b_Parser .nil pass0 (pa_cons (pe_call G_tokenize (hr.mono (by first | decide | omega)) (by rfl) m_tokenize kp_tokenize b_tokenize .nil pass0 (pa_cons (pv 0) pa_nil)) pa_nil)) cl_Parser me_parse_rota G_parse_rota (hr.mono (by first | decide | omega)) b_parse_rota .nil pass0))), ?_⟩
  refine ⟨_, rfl, z, tss, rfl, hlen, e1, e2, e3, e4, fun p L H1 w1 hT hL => ?_⟩
  intro x dx hx hd ne
  have w2 := w1.make CP hx hd ne
  have hT2 : Tks CT (upd (upd H1 dx (.own x)) x (.ins CP dx [])) L := (hT.new hd).new (by rw [upd_ne ne.symm]; exact hx)
  refine ⟨x, dx, p, L, rfl, upd_same, w2.get 2 rfl, hT2, cn, fun z H2 hz c2 hp hnl hal => ⟨rfl, ?_⟩⟩
  have hzx : z.x = x := hz
  have hob := hp.ob
  rw [hz] at hob
  have hnl0 : z.nl ≠ x := fun e => by rw [e, upd_same] at hnl; cases hnl
  refine ⟨x, _, _, rfl, hob, pf_none (by decide +kernel), z, L, r, S, by rw [hz]; rfl, hp, ok, sp, (show TkAt L 0 _ from (by unfold TkAt; rw [List.drop_zero]; exact hL.trans e5)), fun H3 a c3 hR => q H3 a ?_ hR⟩
  refine ⟨fun b o _ e => ?_, fun b xs e => c3.tups _ _ (c2.tups _ _ (w2.tups _ _ e)), fun _ h => (nomatch h), fun _ h => (nomatch h), List.nodup_nil, fun p e => w2.free p (c2.free p (c3.free p e))⟩
  have e1 := w1.base b o (by simp) e
  have e2' := w2.base b o (by simp) e
  have bx : b ≠ x := ne_of_none e1 hx
  have bn : b ≠ z.nl := ne_of_none e2' hnl
  have ba : b ≠ z.al := ne_of_none e2' hal
  refine c3.base b o ?_ (c2.base b o (by simpa using bx) e2')
  simp only [Pz.mut, List.mem_cons, List.not_mem_nil, or_false, not_or, hz]
  exact ⟨bx, bn, ba⟩
end
end Br

namespace Br
open PySem PySem.Spec PyProof.Rows L2
/-! ### texts and their tokens -/
/-- no letter, no digit ahead -/
def Stop (y : List Nat) : Prop := ∀ c r, y = c :: r → dig c = false ∧ ltr c = false
theorem Stop.nil : Stop [] := fun _ _ h => nomatch h
theorem Stop.cons {c : Nat} {r : List Nat} (h : c = 32 ∨ c = 10 ∨ c = 59) : Stop (c :: r) := fun c' r' e => by
  cases e
  rcases h with rfl | rfl | rfl <;> decide
theorem tw_full {p : Nat → Bool} {w y : List Nat} (hw : ∀ c ∈ w, p c = true) (hy : ∀ c r, y = c :: r → p c = false) : (w ++ y).takeWhile p = w := by
  induction w with
  | nil =>
    cases y with
    | nil => rfl
    | cons c r => rw [List.nil_append, List.takeWhile_cons, hy c r rfl]; rfl
  | cons c w ih =>
    rw [List.cons_append, List.takeWhile_cons, hw c List.mem_cons_self, if_pos rfl, ih fun x hx => hw x (List.mem_cons_of_mem _ hx)]
theorem tw_all {p : Nat → Bool} {l : List Nat} : ∀ c ∈ l.takeWhile p, p c = true := by
  induction l with
  | nil => intro c h; cases h
  | cons a l ih =>
    intro c h
    rw [List.takeWhile_cons] at h
    split at h
    · rename_i ha
      rcases List.mem_cons.mp h with rfl | h
      · exact ha
      · exact ih c h
    · cases h
/-- the three kinds of tokens -/
theorem tok_cases {l : List Nat} {k t : Str} (h : tokAt l = some (k, t)) : (k = "sign" ∧ t = ";" ∧ ∃ r, l = 59 :: r) ∨ (∃ (p : Nat → Bool) (y : List Nat), (p = dig ∨ p = ltr) ∧ l = TL.tl t ++ y ∧ (∀ c ∈ TL.tl t, p c = true) ∧ (∀ c r, y = c :: r → p c = false) ∧ TL.tl t ≠ [] ∧
    ∀ y', (∀ c r, y' = c :: r → p c = false) → tokAt (TL.tl t ++ y') = some (k, t)) := by
  cases l with
  | nil => cases h
  | cons c r =>
    have sp : ∀ p : Nat → Bool, (c :: r) = (c :: r).takeWhile p ++ (c :: r).dropWhile p := fun p => List.takeWhile_append_dropWhile.symm
    have hd : ∀ p : Nat → Bool, ∀ x y, (c :: r).dropWhile p = x :: y → p x = false := fun p x y e => by
      have := List.head?_dropWhile_not p (c :: r)
      rw [e] at this
      simpa using this
    by_cases h1 : c = 59
    · subst h1
      simp only [tokAt, if_pos] at h
      cases h
      exact .inl ⟨rfl, rfl, r, rfl⟩
    simp only [tokAt, if_neg h1] at h
    refine .inr ?_
    by_cases h2 : dig c = true
    · rw [if_pos h2] at h
      by_cases h3 : ((c :: r).takeWhile dig).length > 2 ∨ (((c :: r).takeWhile dig).length > 1 ∧ c = 48)
      · rw [if_pos h3] at h; cases h
      rw [if_neg h3] at h
      cases h
      have et : TL.tl ⟨((c :: r).takeWhile dig).toArray⟩ = (c :: r).takeWhile dig := rfl
      refine ⟨dig, (c :: r).dropWhile dig, .inl rfl, by rw [et]; exact sp dig, by rw [et]; exact tw_all, hd dig, by rw [et, List.takeWhile_cons, if_pos h2]; simp, fun y' hy' => ?_⟩
      rw [et]
      have ew : (c :: r).takeWhile dig = c :: r.takeWhile dig := by rw [List.takeWhile_cons, if_pos h2]
      have hfull := tw_full (p := dig) (w := (c :: r).takeWhile dig) tw_all hy'
      rw [ew] at hfull h3 ⊢
      rw [List.cons_append] at hfull ⊢
      simp only [tokAt, if_neg h1, if_pos h2]
      rw [hfull, if_neg h3]
    · rw [if_neg h2] at h
      have hl : ltr c = true := by
        by_cases hl : ltr c = true
        · exact hl
        · have e0 : (c :: r).takeWhile ltr = [] := by rw [List.takeWhile_cons, if_neg hl]
          rw [e0] at h
          rw [if_neg (by decide +kernel), if_neg (by simp)] at h
          cases h
      have et : TL.tl ⟨((c :: r).takeWhile ltr).toArray⟩ = (c :: r).takeWhile ltr := rfl
      have ht : t = ⟨((c :: r).takeWhile ltr).toArray⟩ := by
        split at h
        · cases h; rfl
        · split at h
          · cases h; rfl
          · cases h
      have hh := h
      subst ht
      refine ⟨ltr, (c :: r).dropWhile ltr, .inr rfl, by rw [et]; exact sp ltr, by rw [et]; exact tw_all, hd ltr, by rw [et, List.takeWhile_cons, if_pos hl]; simp, fun y' hy' => ?_⟩
      rw [et]
      have ew : (c :: r).takeWhile ltr = c :: r.takeWhile ltr := by rw [List.takeWhile_cons, if_pos hl]
      have hfull := tw_full (p := ltr) (w := (c :: r).takeWhile ltr) tw_all hy'
      rw [ew] at hfull hh ⊢
      rw [List.cons_append] at hfull ⊢
      simp only [tokAt, if_neg h1, if_neg h2]
      rw [hfull]
      exact hh
/-- a word that is a token -/
def Wk (k w : Str) : Prop := tokAt (TL.tl w) = some (k, w)
theorem Wk.ahead {k w : Str} (h : Wk k w) {y : List Nat} (hy : Stop y) : tokAt (TL.tl w ++ y) = some (k, w) := by
  rcases tok_cases h with ⟨rfl, rfl, _⟩ | ⟨p, y0, hp, e, h1, h2, h3, h4⟩
  · have : TL.tl (";" : Str) = [59] := by decide +kernel
    rw [this]; rfl
  · refine h4 y fun c r e => ?_
    have := hy c r e
    rcases hp with rfl | rfl
    · exact this.1
    · exact this.2
theorem tok_head {l : List Nat} {k t : Str} (h : tokAt l = some (k, t)) : ∃ c r, l = c :: r ∧ ¬ (c = 32 ∨ c = 10) ∧ l = TL.tl t ++ l.drop t.length ∧ 10 ∉ TL.tl t := by
  rcases tok_cases h with ⟨rfl, rfl, r, rfl⟩ | ⟨p, y, hp, e, h1, h2, h3, h4⟩
  · exact ⟨59, r, rfl, by decide, rfl, by decide +kernel⟩
  · obtain ⟨c, w, hw⟩ := List.exists_cons_of_ne_nil h3
    have hc := h1 c (by rw [hw]; exact List.mem_cons_self)
    refine ⟨c, w ++ y, by rw [e, hw]; rfl, ?_, ?_, fun hm => ?_⟩
    · rintro (rfl | rfl) <;> (rcases hp with rfl | rfl <;> exact absurd hc (by decide))
    · rw [e, TL.len_tl, List.drop_left]
    · have := h1 _ hm
      rcases hp with rfl | rfl <;> exact absurd this (by decide)
theorem LexR.word {k w : Str} {y : List Nat} {ts : List (Str × Str)} (h : Wk k w) (hy : Stop y) (ht : LexR y ts) : LexR (TL.tl w ++ y) ((k, w) :: ts) := by
  have h1 := h.ahead hy
  obtain ⟨c, r, e, hc, e2, _⟩ := tok_head h1
  rw [e] at h1 e2 ⊢
  refine .tok hc h1 ?_
  have : (c :: r).drop w.length = y := by rw [← e, TL.len_tl, List.drop_left]
  rw [this]; exact ht
theorem LexR.gap {g y : List Nat} {ts : List (Str × Str)} (hg : ∀ c ∈ g, c = 32 ∨ c = 10) (h : LexR y ts) : LexR (g ++ y) ts := by
  induction g with
  | nil => exact h
  | cons c g ih => exact .space (hg c List.mem_cons_self) (ih fun x hx => hg x (List.mem_cons_of_mem _ hx))
/-! ### rows -/
def rowsOf : List Nat → List Nat × List (List Nat)
  | [] => ([], [])
  | c :: r => if c = 10 then ([], (rowsOf r).1 :: (rowsOf r).2) else (c :: (rowsOf r).1, (rowsOf r).2)
theorem spl_rows : ∀ (l acc : List Nat), TL.spl [10] 0 acc l = (acc ++ (rowsOf l).1) :: (rowsOf l).2
  | [], acc => by rw [TL.spl_nil]; simp [rowsOf]
  | c :: r, acc => by
    by_cases h : c = 10
    · subst h
      rw [TL.spl_hit (by rfl)]
      show acc :: TL.spl [10] 0 [] r = _
      rw [spl_rows r []]
      simp [rowsOf]
    · rw [TL.spl_miss (TL.pre_of_head [] r h), spl_rows r (acc ++ [c])]
      simp [rowsOf, h]
theorem rows_app {p l : List Nat} (h : 10 ∉ p) : rowsOf (p ++ l) = (p ++ (rowsOf l).1, (rowsOf l).2) := by
  induction p with
  | nil => rfl
  | cons c p ih =>
    have hc : c ≠ 10 := fun e => h (by rw [e]; exact List.mem_cons_self)
    have := ih fun hm => h (List.mem_cons_of_mem _ hm)
    simp [rowsOf, hc, this]
theorem rows_head (l : List Nat) : (rowsOf l).1 = [] ∨ ∃ c r r', l = c :: r ∧ (rowsOf l).1 = c :: r' := by
  cases l with
  | nil => exact .inl rfl
  | cons c r =>
    by_cases h : c = 10
    · subst h; exact .inl (by simp [rowsOf])
    · exact .inr ⟨c, r, (rowsOf r).1, rfl, by simp [rowsOf, h]⟩
theorem tok_cut {l : List Nat} {k t : Str} (h : tokAt l = some (k, t)) : tokAt (TL.tl t ++ (rowsOf (l.drop t.length)).1) = some (k, t) := by
  rcases tok_cases h with ⟨rfl, rfl, r, rfl⟩ | ⟨p, y, hp, e, h1, h2, h3, h4⟩
  · have : TL.tl (";" : Str) = [59] := by decide +kernel
    rw [this]; rfl
  · have ey : l.drop t.length = y := by rw [e, TL.len_tl, List.drop_left]
    rw [ey]
    refine h4 _ fun c r e2 => ?_
    rcases rows_head y with h0 | ⟨c', r', r'', e3, e4⟩
    · rw [h0] at e2; cases e2
    · rw [e4] at e2
      cases e2
      exact h2 _ _ e3
theorem lex_rows {l : List Nat} {ts : List (Str × Str)} (h : LexR l ts) : ∃ t0 tss, LexR (rowsOf l).1 t0 ∧ Paired LexR (rowsOf l).2 tss ∧ t0 ++ tss.flatten = ts := by
  induction h with
  | nil => exact ⟨[], [], .nil, .nil, rfl⟩
  | @space c r ts hc _ ih =>
    obtain ⟨t0, tss, h1, h2, h3⟩ := ih
    rcases hc with rfl | rfl
    · refine ⟨t0, tss, ?_, ?_, h3⟩
      · simp only [rowsOf]; exact .space (.inl rfl) h1
      · simp only [rowsOf]; exact h2
    · refine ⟨[], t0 :: tss, ?_, ?_, by simpa using h3⟩
      · simp only [rowsOf]; exact .nil
      · simp only [rowsOf]; exact .cons h1 h2
  | @tok c r k t ts hc ht _ ih =>
    obtain ⟨t0, tss, h1, h2, h3⟩ := ih
    obtain ⟨_, _, _, _, e2, h10⟩ := tok_head ht
    have hcut := tok_cut ht
    rw [e2, rows_app h10]
    refine ⟨(k, t) :: t0, tss, ?_, h2, by rw [← h3]; rfl⟩
    obtain ⟨c', r', e3, hc', _, _⟩ := tok_head hcut
    show LexR (TL.tl t ++ (rowsOf ((c :: r).drop t.length)).1) _
    rw [e3] at hcut ⊢
    refine .tok hc' hcut ?_
    have : (c' :: r').drop t.length = (rowsOf ((c :: r).drop t.length)).1 := by rw [← e3, TL.len_tl, List.drop_left]
    rw [this]; exact h1
theorem Paired.get {α β : Type} {R : α → β → Prop} : ∀ {as : List α} {bs : List β}, Paired R as bs → as.length = bs.length ∧ ∀ (i : Nat) a b, as[i]? = some a → bs[i]? = some b → R a b
  | _, _, .nil => ⟨rfl, fun i a b h => by simp at h⟩
  | _, _, .cons h t => by
    obtain ⟨h1, h2⟩ := Paired.get t
    refine ⟨by rw [List.length_cons, List.length_cons, h1], fun i a b ha hb => ?_⟩
    cases i with
    | zero => cases ha; cases hb; exact h
    | succ i => exact h2 i a b (by simpa using ha) (by simpa using hb)
/-- a text whose whole lexes -/
theorem says_of {z : Str} {r : Rota} {S : List Stm} {ts : List (Str × Str)} (ok : ROk r) (sp : Spell r S) (hz : z.length ≤ 10000) (hl : LexR (TL.tl z) ts) (hts : ts ++ [(("end" : Str), ("" : Str))] = rotaToks r S) (hfew : ts.length < 1000) : Says z r S := by
  obtain ⟨t0, tss, h1, h2, h3⟩ := lex_rows hl
  have hsz : 10002 ≤ sizeLine := by decide
  have hy : TL.tl ("\n" : Str) = [10] := by decide +kernel
  have hsp := TL.split_spl z "\n" (by rw [hy]; simp) (TL.kind_ok (by decide +kernel))
  rw [hy, spl_rows, List.nil_append] at hsp
  have hP : Paired LexR ((Txt.split z "\n").map TL.tl) (t0 :: tss) := by rw [hsp]; exact .cons h1 h2
  obtain ⟨g1, g2⟩ := Paired.get hP
  rw [List.length_map] at g1
  -- each row is part of the text
  have hrl : ∀ l : List Nat, (rowsOf l).1.length ≤ l.length ∧ (∀ x ∈ (rowsOf l).2, x.length ≤ l.length) ∧ (rowsOf l).2.length ≤ l.length := fun l => by
    induction l with
    | nil => simp [rowsOf]
    | cons c l ih =>
      obtain ⟨i1, i2, i3⟩ := ih
      by_cases h : c = 10
      · simp only [rowsOf, h, if_pos, List.length_cons, List.length_nil]
        refine ⟨by omega, fun x hx => ?_, by omega⟩
        rcases List.mem_cons.mp hx with rfl | hx
        · omega
        · have := i2 x hx; omega
      · simp only [rowsOf, h, if_false, List.length_cons]
        refine ⟨by omega, fun x hx => ?_, by omega⟩
        have := i2 x hx; omega
  obtain ⟨i1, i2, i3⟩ := hrl (TL.tl z)
  rw [← TL.len_tl] at i1 i2 i3
  refine ⟨ok, sp, by omega, t0 :: tss, g1, fun i row t hi ht => ⟨?_, ?_⟩, ?_, ?_, ?_⟩
  · have hm : TL.tl row ∈ (rowsOf (TL.tl z)).1 :: (rowsOf (TL.tl z)).2 := by rw [← hsp]; exact List.mem_map.mpr ⟨row, List.mem_of_getElem? hi, rfl⟩
    rw [TL.len_tl]
    rcases List.mem_cons.mp hm with e | hm
    · rw [e]; omega
    · have := i2 _ hm; omega
  · exact g2 i _ _ (by rw [List.getElem?_map, hi]; rfl) ht
  · rw [List.flatten_cons, h3]; exact hfew
  · have := congrArg List.length hsp
    rw [List.length_map, List.length_cons] at this
    omega
  · rw [List.flatten_cons, h3]; exact hts
end Br

namespace Br
open PySem PySem.Spec PyProof.Rows L2
/-! ### the lexer as a function -/
/-- a token with its place -/
structure Tk where
  k : Str
  t : Str
  l : Nat
  c : Nat
  deriving DecidableEq
def preE (ts : List Tk) : Except (Nat × Nat) (List Tk) → Except (Nat × Nat) (List Tk)
  | .error e => .error e
  | .ok us => .ok (ts ++ us)
def appE : Except (Nat × Nat) (List Tk) → Except (Nat × Nat) (List Tk) → Except (Nat × Nat) (List Tk)
  | .error e, _ => .error e
  | .ok ts, r => preE ts r
/-- a row from a column on, with fuel -/
def lexG : Nat → Nat → Nat → List Nat → Except (Nat × Nat) (List Tk)
  | _, _, _, [] => .ok []
  | 0, _, _, _ :: _ => .ok []
  | n + 1, ln, col, c :: r => if c = 32 ∨ c = 10 then lexG n ln (col + 1) r else
    match tokAt (c :: r) with
    | none => .error (ln, col)
    | some kt => preE [⟨kt.1, kt.2, ln, col⟩] (lexG n ln (col + kt.2.length) ((c :: r).drop kt.2.length))
def lexRow (ln col : Nat) (l : List Nat) : Except (Nat × Nat) (List Tk) := lexG l.length ln col l
def lexRows : Nat → List (List Nat) → Except (Nat × Nat) (List Tk)
  | _, [] => .ok []
  | ln, row :: rs => appE (lexRow ln 0 row) (lexRows (ln + 1) rs)
def endE (n : Nat) : Except (Nat × Nat) (List Tk) → Except (Nat × Nat) (List Tk)
  | .error e => .error e
  | .ok ts => .ok (ts ++ [⟨"end", "", n, 0⟩])
def rowsL (z : Str) : List (List Nat) := (Txt.split z "\n").map TL.tl
/-- the tokens of a text, or the place of the first invalid one -/
def lexF (z : Str) : Except (Nat × Nat) (List Tk) := endE (rowsL z).length (lexRows 0 (rowsL z))
theorem preE_nil (e : Except (Nat × Nat) (List Tk)) : preE [] e = e := by cases e <;> rfl
theorem preE_pre (a b : List Tk) (e : Except (Nat × Nat) (List Tk)) : preE a (preE b e) = preE (a ++ b) e := by
  cases e with
  | error x => rfl
  | ok us => show Except.ok (a ++ (b ++ us)) = Except.ok ((a ++ b) ++ us); rw [List.append_assoc]
theorem appE_pre (a : List Tk) (e f : Except (Nat × Nat) (List Tk)) : appE (preE a e) f = preE a (appE e f) := by
  cases e with
  | error x => rfl
  | ok us => show preE (a ++ us) f = preE a (preE us f); rw [preE_pre]
theorem lexG_fuel : ∀ (n m ln col : Nat) (l : List Nat), l.length ≤ n → l.length ≤ m → lexG n ln col l = lexG m ln col l
  | n, m, ln, col, [], _, _ => by cases n <;> cases m <;> rfl
  | 0, _, _, _, _ :: _, h, _ => by simp at h
  | _ + 1, 0, _, _, _ :: _, _, h => by simp at h
  | n + 1, m + 1, ln, col, c :: r, h1, h2 => by
    have g1 : r.length ≤ n := by simpa using h1
    have g2 : r.length ≤ m := by simpa using h2
    rw [lexG, lexG]
    by_cases hc : c = 32 ∨ c = 10
    · rw [if_pos hc, if_pos hc]; exact lexG_fuel n m ln (col + 1) r g1 g2
    · rw [if_neg hc, if_neg hc]
      cases ht : tokAt (c :: r) with
      | none => rfl
      | some kt =>
        have hp : 1 ≤ kt.2.length := tokAt_pos (k := kt.1) ht
        have hd : ((c :: r).drop kt.2.length).length ≤ r.length := by rw [List.length_drop, List.length_cons]; omega
        dsimp only
        rw [lexG_fuel n m ln (col + kt.2.length) ((c :: r).drop kt.2.length) (Nat.le_trans hd g1) (Nat.le_trans hd g2)]
theorem lexRow_space {ln col c : Nat} {r : List Nat} (h : c = 32 ∨ c = 10) : lexRow ln col (c :: r) = lexRow ln (col + 1) r := by
  unfold lexRow
  rw [List.length_cons, lexG, if_pos h]
theorem lexRow_tok {ln col c : Nat} {r : List Nat} {k t : Str} (h : ¬ (c = 32 ∨ c = 10)) (ht : tokAt (c :: r) = some (k, t)) : lexRow ln col (c :: r) = preE [⟨k, t, ln, col⟩] (lexRow ln (col + t.length) ((c :: r).drop t.length)) := by
  have hp : 1 ≤ t.length := tokAt_pos ht
  unfold lexRow
  rw [List.length_cons, lexG, if_neg h, ht]
  dsimp only
  rw [lexG_fuel r.length ((c :: r).drop t.length).length _ _ _ (by rw [List.length_drop, List.length_cons]; omega) (Nat.le_refl _)]
theorem lexRow_bad {ln col c : Nat} {r : List Nat} (h : ¬ (c = 32 ∨ c = 10)) (ht : tokAt (c :: r) = none) : lexRow ln col (c :: r) = .error (ln, col) := by
  unfold lexRow
  rw [List.length_cons, lexG, if_neg h, ht]
theorem rows_small (z : Str) : (Txt.split z "\n").length ≤ z.length + 1 ∧ ∀ row ∈ Txt.split z "\n", row.length ≤ z.length := by
  have hy : TL.tl ("\n" : Str) = [10] := by decide +kernel
  have hsp := TL.split_spl z "\n" (by rw [hy]; simp) (TL.kind_ok (by decide +kernel))
  rw [hy, spl_rows, List.nil_append] at hsp
  have hrl : ∀ l : List Nat, (rowsOf l).1.length ≤ l.length ∧ (∀ x ∈ (rowsOf l).2, x.length ≤ l.length) ∧ (rowsOf l).2.length ≤ l.length := fun l => by
    induction l with
    | nil => simp [rowsOf]
    | cons c l ih =>
      obtain ⟨i1, i2, i3⟩ := ih
      by_cases h : c = 10
      · simp only [rowsOf, h, if_pos, List.length_cons, List.length_nil]
        refine ⟨by omega, fun x hx => ?_, by omega⟩
        rcases List.mem_cons.mp hx with rfl | hx
        · omega
        · have := i2 x hx; omega
      · simp only [rowsOf, h, if_false, List.length_cons]
        refine ⟨by omega, fun x hx => ?_, by omega⟩
        have := i2 x hx; omega
  obtain ⟨i1, i2, i3⟩ := hrl (TL.tl z)
  rw [← TL.len_tl] at i1 i2 i3
  have hl := congrArg List.length hsp
  rw [List.length_map, List.length_cons] at hl
  refine ⟨by omega, fun row hrow => ?_⟩
  have hm : TL.tl row ∈ (Txt.split z "\n").map TL.tl := List.mem_map_of_mem hrow
  rw [hsp] at hm
  rw [TL.len_tl]
  rcases List.mem_cons.mp hm with e | hm
  · rw [e]; exact i1
  · exact i2 _ hm
theorem tokAt_le {l : List Nat} {k t : Str} (h : tokAt l = some (k, t)) : t.length ≤ l.length := tokAt_len h (Nat.le_refl _)
theorem Wd.callG {H0 H H' : Hp} {l l' : List (Addr × HO)} (w : Wd [] H0 H l) (c : Wd [] H H' l') : Wd [] H0 H' l' := (w.call0 c).sub (List.sublist_append_left _ _)
/-- tokens on the heap -/
def TksP (CT : Addr) (H : Hp) (L : List (Addr × Tk)) : Prop := ∀ q ∈ L, ∃ dx, H q.1 = some (.ins CT dx (tkF q.2.k q.2.t q.2.l q.2.c))
def prefs (L : List (Addr × Tk)) : List V := L.map fun q => V.ref q.1
theorem prefs_len (L : List (Addr × Tk)) : (prefs L).length = L.length := List.length_map ..
theorem TksP.nil {CT : Addr} {H : Hp} : TksP CT H [] := fun q h => nomatch h
theorem TksP.new {CT : Addr} {H : Hp} {L : List (Addr × Tk)} (h : TksP CT H L) {p : Addr} {o : HO} (hp : H p = none) : TksP CT (upd H p o) L := fun q hq => by
  obtain ⟨dx, e⟩ := h q hq
  exact ⟨dx, by rw [upd_ne (ne_of_none e hp)]; exact e⟩
theorem TksP.put {CT : Addr} {H : Hp} {L : List (Addr × Tk)} (h : TksP CT H L) {p : Addr} {o u : HO} (hp : H p = some u) (hu : ∀ dx fs, u ≠ .ins CT dx fs) : TksP CT (upd H p o) L := fun q hq => by
  obtain ⟨dx, e⟩ := h q hq
  exact ⟨dx, by rw [upd_ne (ne_of e hp (fun z => hu _ _ z.symm))]; exact e⟩
theorem TksP.call {CT : Addr} {H H' : Hp} {L : List (Addr × Tk)} {l : List (Addr × HO)} (h : TksP CT H L) (c : Wd [] H H' l) : TksP CT H' L := fun q hq => by
  obtain ⟨dx, e⟩ := h q hq
  exact ⟨dx, c.base _ _ (by simp) e⟩
theorem TksP.snoc {CT : Addr} {H : Hp} {L : List (Addr × Tk)} (h : TksP CT H L) {x dx : Addr} {t : Tk} (e : H x = some (.ins CT dx (tkF t.k t.t t.l t.c))) : TksP CT H (L ++ [(x, t)]) := fun q hq => by
  rcases List.mem_append.mp hq with hq | hq
  · exact h q hq
  · rw [List.mem_singleton.mp hq]; exact ⟨dx, e⟩
section
variable {P : Program} {w : World} {K : PySem.W.Frag} {mg : Str → Option Value} {base : Heap} {CT CF : Addr}
def spTokG (CT CF : Addr) : Sp := fun vs H Q E => ∃ z : Str, vs = [.str z] ∧ z.length ≤ 3000 ∧
  match lexF z with
  | .ok ts => ∀ (p : Addr) (L : List (Addr × Tk)) (H' : Hp), Wd [] H H' [(p, .lst (prefs L))] → TksP CT H' L → L.map (·.2) = ts → L.length ≤ 10000000 → Q (.ref p) H'
  | .error e => ∀ (d : Addr) (H' : Hp), Wd [] H H' [(d, synD e.1 e.2)] → E (.ref CF) (some d) H'
theorem cal_tokG (D : DefAt K mg "tokenize" stokenize ["source"]) (T : Bi mg) (C : LexC K mg) (TC : TokCls K CT) (C1 : CalX P w K mg base 3 "read_token" ["row", "line", "column"] (spReadG CT CF)) (CM : MkAt P w K mg base 1 "Token" CT ["self", "kind", "text", "line", "column"] (spTokI CT)) :
    CalX P w K mg base 4 "tokenize" ["source"] (spTokG CT CF) := D.calX fun f fd F => by
  have nd := sctokenize.nd
  obtain ⟨t1, c_SPACES⟩ := C.SPACES
  obtain ⟨t2, c_END⟩ := C.END
  obtain ⟨f1, fd1, m_read_token, kp_read_token, b_read_token, G_read_token⟩ := C1.ex
  obtain ⟨f2, fd2, mC_Token, Mk_Token, b_Token, G_Token⟩ := CM.ex
  refine F.okX sctokenize (fun vs H Q E h => ?_) (fun cdv A outer s H vs Q E hr h => ?_)
  · obtain ⟨z, rfl, _⟩ := h; rfl
  obtain ⟨z, rfl, hz, q⟩ := h
  obtain ⟨sm1, sm2⟩ := rows_small z
  refine ⟨_, (pss_cons (ps_set (i := 1) nd rfl (Or.inl rfl) (pe_lst pa_nil))
 (pss_cons (ps_set (i := 2) nd rfl (Or.inl rfl) (pe_split (pv 0) pe_str))
 (pss_cons (ps_for (passes_of rfl) rfl (pi_enum (by rfl) T.enumerate (pa_cons (pv 2) pa_nil)) (pg_tupK (K := K) (n := 2) rfl rfl (pgs_cons (pg_name (i := 3) nd rfl (Or.inl rfl)) (pgs_cons (pg_name (i := 4) nd rfl (Or.inl rfl)) pgs_nil)))
 (pss_cons (ps_set (i := 5) nd rfl (Or.inl rfl) pe_int)
 (pss_one (ps_while (passes_of rfl) (pt_cmpR op_lt (pv 5) (pe_callB call_len_str (by rfl) T.len PySem.boot_len (pa_cons (pv 4) pa_nil)) (nomark _))
 (pss_one (ps_if (pt_cmpR op_in_sign (pe_ix ix_str (pv 4) (pv 5) (fun _ _ => rfl)) (pe_glob (v := .str " \n") (by rfl) c_SPACES ⟨_, rfl⟩) (by rfl))
 (pss_one (ps_aug (i := 5) nd rfl (Or.inl rfl) pe_int ip_add))
 (pss_cons (ps_set (i := 6) nd rfl (Or.inl rfl) (pe_call G_read_token (hr.mono (by first | decide | omega)) (by rfl) m_read_token kp_read_token b_read_token .nil (passes_call (takes_of rfl rfl rfl rfl) (fun _ _ _ _ h => h)) (pa_cons (pv 4) (pa_cons (pv 3) (pa_cons (pv 5) pa_nil)))))
 (pss_cons (ps_expr (pe_bmK (K := K) rfl PySem.F.plainAttrs_list PySem.F.slot_list_append PySem.F.type_list_append mt_append (pv 1) (pa_cons (pv 6) pa_nil)))
 (pss_one (ps_aug (i := 5) nd rfl (Or.inl rfl) (pe_callB call_len_str (by rfl) T.len PySem.boot_len (pa_cons (pe_fldK (K := K) rfl (pv 6) rfl) pa_nil)) ip_add))))))))))
 (pss_one (ps_ret (pe_op op_cat (pv 1) (pe_lst (pa_cons (pe_make Mk_Token G_Token (hr.mono (by first | decide | omega)) (by rfl) mC_Token b_Token .nil pass0 (pa_cons (pe_glob (v := .str "end") (by rfl) c_END ⟨_, rfl⟩) (pa_cons pe_str (pa_cons (pe_callB (r := rLenS K) call_len_seq (by rfl) T.len PySem.boot_len (pa_cons (pv 2) pa_nil)) (pa_cons pe_int pa_nil))))) pa_nil)))))))), ?_⟩
  refine ⟨(by show 0 ≤ sizeLine; decide), fun p hp => ?_⟩
  have w1 := (Wd.refl H).new (.lst []) hp
  refine ⟨_, rfl, ⟨_, rfl⟩, z, "\n", rfl, rfl, rfl, Nat.le_trans (m := 3002) (by omega) (by decide), fun rr hrr => ?_⟩
  have q : match endE (rowsL z).length (lexRows 0 (rowsL z)) with
    | .ok ts => ∀ (p : Addr) (L : List (Addr × Tk)) (H' : Hp), Wd [] H H' [(p, .lst (prefs L))] → TksP CT H' L → L.map (·.2) = ts → L.length ≤ 10000000 → Q (.ref p) H'
    | .error e => ∀ (d : Addr) (H' : Hp), Wd [] H H' [(d, synD e.1 e.2)] → E (.ref CF) (some d) H' := q
  have hRL : rowsL z = (Txt.split z "\n").map TL.tl := rfl
  generalize rowsL z = RL at *
  generalize hR : Txt.split z "\n" = rows at *
  have lRL : RL.length = rows.length := by rw [hRL, List.length_map]
  have w2 := w1.new1 (.lst (rows.map V.str)) hrr
  have w2s := w2
  refine ⟨_, rfl, rr, rows.map V.str, rfl, SqL.of (w2.get 1 rfl), ?_⟩
  refine for_it (walk_enum (xs := rows.map V.str)) (fun i σ H1 => ∃ (L : List (Addr × Tk)) (a b c d : Option V), σ = [some (.str z), some (.ref p), some (.ref rr), a, b, c, d] ∧
    Wd [] H H1 [(p, .lst (prefs L)), (rr, .lst (rows.map V.str))] ∧ TksP CT H1 L ∧ L.length ≤ i * 3000 ∧ lexRows 0 RL = preE (L.map (·.2)) (lexRows i (RL.drop i))) ?_ ?_ ?_ ?_
  · exact ⟨[], _, _, _, _, rfl, w2, TksP.nil, Nat.zero_le _, by rw [List.drop_zero]; exact (preE_nil _).symm⟩
  · rintro i σ H1 _ ⟨L, a, b, c, d, rfl, w, _⟩
    exact SqL.of (w.get 1 rfl)
  · rintro i x σ H1 H1' hi ⟨L, a, b, c, d, rfl, w3, hT, hn, hL⟩ ⟨T0, x1, x2, rfl, hT0, rfl, e1, e2⟩
    cases e1
    obtain ⟨row, hrow, rfl⟩ : ∃ row, rows[i]? = some row ∧ x2 = V.str row := by
      have e3 : (rows.map V.str)[i]? = some x2 := e2
      rw [List.getElem?_map] at e3
      cases e : rows[i]? with
      | none => rw [e] at e3; cases e3
      | some b => rw [e] at e3; exact ⟨b, rfl, (Option.some.inj e3).symm⟩
    have hil : i < rows.length := (List.getElem?_eq_some_iff.mp hrow).1
    have hr3 : row.length ≤ 3000 := Nat.le_trans (sm2 row (List.mem_of_getElem? hrow)) hz
    have hrl : row.length ≤ sizeLine := Nat.le_trans hr3 (by decide)
    have hRi : RL[i]? = some (TL.tl row) := by rw [hRL, List.getElem?_map, hrow]; rfl
    have hdR : RL.drop i = TL.tl row :: RL.drop (i + 1) := by
      rw [List.drop_eq_getElem_cons (by omega)]
      congr 1
      exact (List.getElem?_eq_some_iff.mp hRi).2
    rw [hdR, lexRows] at hL
    have i3 : i ≤ 3000 := by omega
    have w4 := (w3.new (.tup [.int (i : Nat), .str row]) hT0)
    refine ⟨T0, _, rfl, SqT.of (w4.get 0 rfl), rfl, _, _, rfl, _, _, rfl, rfl, ?_⟩
    refine while_by (fun σ H' => ∃ (L : List (Addr × Tk)) (col : Nat) (d : Option V), σ = [some (.str z), some (.ref p), some (.ref rr), some (.int (i : Nat)), some (.str row), some (.int col), d] ∧
      Wd [] H H' [(p, .lst (prefs L)), (rr, .lst (rows.map V.str))] ∧ TksP CT H' L ∧ col ≤ row.length ∧ L.length ≤ i * 3000 + col ∧ lexRows 0 RL = preE (L.map (·.2)) (appE (lexRow i col ((TL.tl row).drop col)) (lexRows (i + 1) (RL.drop (i + 1))))) (fun σ _ => row.length - (slotI σ 5).toNat)
      ⟨L, 0, d, rfl, w4.sub (by walk_at "sub"), hT.new hT0, Nat.zero_le _, by omega, by rw [List.drop_zero]; exact hL⟩ ?_ ?_
    · rintro σ H2 ⟨L2, col, d2, rfl, w5, hT2, hcr, hn2, hL2⟩
      refine ⟨_, rfl, _, rfl, row, rfl, hrl, _, _, rfl, rfl, _, rfl, ?_⟩
      refine ite2 (fun hc => ?_) (fun hc => ?_)
      · have hlt : col < row.length := by have := of_decide_eq_true hc; omega
        have hlt' : col < (TL.tl row).length := by rw [← TL.len_tl]; exact hlt
        have hdr := List.drop_eq_getElem_cons hlt'
        have hget := List.getElem?_eq_getElem hlt'
        generalize (TL.tl row)[col] = c0 at hdr hget
        refine ⟨_, rfl, _, rfl, row, _, c0, rfl, rfl, hrl, atI_nat hget, c0, " \n", rfl, rfl, _, rfl, ?_⟩
        have fsp : decide (c0 ∈ (" \n" : Str).cps.toList) = decide (c0 = 32 ∨ c0 = 10) := by
          have e : (" \n" : Str).cps.toList = [32, 10] := by decide +kernel
          rw [e]; simp
        rw [fsp]
        rw [hdr] at hL2
        refine ite2 (fun hs => ?_) (fun hs => ?_)
        · have hs := of_decide_eq_true hs
          refine ⟨_, rfl, _, _, rfl, rfl, ⟨L2, col + 1, d2, ?_, w5, hT2, hlt, by omega, ?_⟩, ?_⟩
          · show [_, _, _, _, _, some (V.int ((col : Int) + 1)), _] = _
            rw [show (col : Int) + 1 = ((col + 1 : Nat) : Int) by omega]
          · rw [hL2, lexRow_space hs]
          · show row.length - ((col : Int) + 1).toNat < row.length - ((col : Int)).toNat
            omega
        · have hs : ¬ (c0 = 32 ∨ c0 = 10) := fun h => hs (decide_eq_true h)
          refine ⟨_, rfl, _, rfl, _, rfl, row, (i : Nat), col, rfl, hrl, hlt, ?_⟩
          rw [hdr]
          cases ht : tokAt (c0 :: (TL.tl row).drop (col + 1)) with
          | none =>
            rw [lexRow_bad hs ht] at hL2
            rw [hL2] at q
            exact fun dd H3 c => q dd H3 (w5.callG c)
          | some kt =>
          obtain ⟨k, t⟩ := kt
          intro x dx H3 c
          have hpos := tokAt_pos ht
          have htd : t.length ≤ row.length - col := by
            have h1 := tokAt_le ht
            have h2 := congrArg List.length hdr
            rw [List.length_drop, ← TL.len_tl] at h2
            omega
          rw [lexRow_tok hs ht, appE_pre, preE_pre] at hL2
          have w6 := w5.call0 c
          have hT3 := (hT2.call c).snoc (t := ⟨k, t, i, col⟩) (w6.get 0 rfl)
          refine ⟨_, rfl, .inl ⟨rfl, _, SqL.of (w6.get 2 rfl)⟩, _, rfl, ?_⟩
          refine ⟨p, _, _, rfl, rfl, w6.get 2 rfl, ?_, ?_⟩
          · rw [prefs_len]
            exact Nat.lt_of_le_of_lt (m := 3000 * 3000 + 3000) (by have : i * 3000 ≤ 3000 * 3000 := Nat.mul_le_mul_right _ i3; omega) (by decide)
          have w7 := w6.put 2 (.lst (prefs L2 ++ [.ref x])) rfl (fun xs q => by cases q)
          have hT4 := hT3.put (p := p) (o := .lst (prefs L2 ++ [.ref x])) (w6.get 2 rfl) (fun _ _ q => by cases q)
          have hTx := hT4 (x, ⟨k, t, i, col⟩) (by simp)
          obtain ⟨dx2, hTx⟩ := hTx
          have htl : t.length ≤ sizeLine := Nat.le_trans (by omega) hrl
          refine ⟨_, rfl, _, rfl, x, CT, dx2, _, _, rfl, hTx, TC.cl, TC.nt, tk_text k t _ _, t, rfl, htl, _, _, rfl, rfl, ⟨L2 ++ [(x, ⟨k, t, i, col⟩)], col + t.length, some (.ref x), ?_, ?_, hT4, by omega, ?_, ?_⟩, ?_⟩
          · show [_, _, _, _, _, some (V.int ((col : Int) + t.length)), _] = _
            rw [show (col : Int) + t.length = ((col + t.length : Nat) : Int) by omega]
          · have w8 := w7.sub (l' := [(p, HO.lst (prefs L2 ++ [.ref x])), (rr, .lst (rows.map V.str))]) (by walk_at "sub")
            have e : prefs (L2 ++ [(x, ⟨k, t, i, col⟩)]) = prefs L2 ++ [.ref x] := by simp [prefs]
            rw [e]; exact w8
          · rw [List.length_append]; simp only [List.length_cons, List.length_nil]; omega
          · rw [hL2, ← hdr, List.drop_drop, List.map_append]; rfl
          · show row.length - ((col : Int) + t.length).toNat < row.length - ((col : Int)).toNat
            omega
      · have hge : (TL.tl row).drop col = [] := List.drop_eq_nil_of_le (by
          rw [← TL.len_tl]
          have : ¬ (col : Int) < row.length := fun h => hc (decide_eq_true h)
          omega)
        rw [hge] at hL2
        refine ⟨L2, _, _, _, _, rfl, w5, hT2, by rw [Nat.succ_mul]; omega, ?_⟩
        rw [hL2]
        show preE _ (preE [] _) = _
        rw [preE_nil]
    · intro σ H Q Q' h hc
      obtain ⟨v5, e5, v4, e4, zz, ez, hzz, i1, i2, ei1, ei2, hc⟩ := hc
      refine ⟨v5, e5, v4, e4, zz, ez, hzz, i1, i2, ei1, ei2, ?_⟩
      obtain ⟨b, hb, hc⟩ := hc
      exact ⟨b, hb, h _ _ hc⟩
  · rintro σ H1 ⟨L, a, b, c, d, rfl, w3, hT, hn, hL⟩
    rw [List.length_map] at hn hL
    rw [List.drop_eq_nil_of_le (by omega), lexRows] at hL
    have hL : lexRows 0 RL = .ok (L.map (·.2) ++ []) := hL
    rw [hL, List.append_nil, lRL] at q
    refine ⟨_, rfl, _, rfl, rr, _, rfl, .inl (SqL.of (w3.get 1 rfl)), fun x dx hx hd ne => ?_⟩
    refine ⟨x, dx, _, _, _, _, rfl, upd_same, fun H2 c2 => ⟨rfl, (by show 1 ≤ sizeLine; decide), fun pl hpl => ?_⟩⟩
    have w4 := w3.call0 (tok_fin hx hd ne c2)
    have hT2 := (hT.call (tok_fin hx hd ne c2)).snoc (t := ⟨"end", "", rows.length, 0⟩) (by have := w4.get 0 rfl; rw [List.length_map] at this; exact this)
    have w5 := w4.new (.lst [V.ref x]) hpl
    have hT3 := hT2.new (o := .lst [V.ref x]) hpl
    have hb : L.length ≤ 3001 * 3000 := Nat.le_trans hn (Nat.mul_le_mul_right _ (by omega))
    refine ⟨p, pl, _, _, rfl, rfl, w5.get 3 rfl, w5.get 0 rfl, ?_, fun p2 hp2 => ?_⟩
    · rw [prefs_len]
      exact Nat.le_trans (m := 3001 * 3000 + 1) (by show _ + 1 ≤ _; omega) (by decide)
    · refine q p2 (L ++ [(x, ⟨"end", "", rows.length, 0⟩)]) _ ?_ (hT3.new hp2) (by rw [List.map_append]; rfl) (by rw [List.length_append]; simp only [List.length_cons, List.length_nil]; omega)
      have e : prefs (L ++ [(x, ⟨"end", "", rows.length, 0⟩)]) = prefs L ++ [.ref x] := by simp [prefs]
      rw [e]
      exact (w5.new (.lst (prefs L ++ [.ref x])) hp2).sub (.cons₂ _ (List.nil_sublist _))
end
end Br

namespace Br
open PySem PySem.Spec PyProof.Rows L2
/-! ### the parser on any tokens: its state -/
/-- a fault: place and reason -/
structure Flt where
  l : Nat
  c : Nat
  why : Str
  deriving DecidableEq
structure Ps where
  names : List Str
  aws : List (Int × Int × Int)
  W : Option (List Int)
  M : Option (List Int)
  fs : List Flt
  deriving DecidableEq
def Ps.zero : Ps := ⟨[], [], none, none, []⟩
def Ps.bad (s : Ps) (t : Tk) (why : Str) : Ps := { s with fs := s.fs ++ [⟨t.l, t.c, why⟩] }
/-- where its things lie -/
structure Pa where
  as : List Addr
  wa : Addr
  ma : Addr
  fa : List Addr
def oA : Option (List Int) → Addr → V
  | none, _ => .non
  | some _, a => .ref a
def gF (z : Pz) (n : Nat) (s : Ps) (A : Pa) : List (Str × V) := [("tokens", .ref z.tk), ("at", .int n), ("faults", .ref z.fl), ("names", .ref z.nl), ("weights", oA s.W A.wa), ("makers", oA s.M A.ma), ("aways", .ref z.al)]
def Pz.mu (z : Pz) : List Addr := [z.x, z.fl, z.nl, z.al]
theorem gf_none {z : Pz} {n : Nat} {s : Ps} {A : Pa} {m : Str} (h : ∀ f ∈ (["tokens", "at", "faults", "names", "weights", "makers", "aways"] : List Str), (m == f) = false) : (gF z n s A).lookup m = none := by
  unfold gF
  rw [look_ne (h _ (by simp)), look_ne (h _ (by simp)), look_ne (h _ (by simp)), look_ne (h _ (by simp)), look_ne (h _ (by simp)), look_ne (h _ (by simp)), look_ne (h _ (by simp))]
  rfl
section
variable {z : Pz} {n : Nat} {s : Ps} {A : Pa}
theorem gf_tokens : (gF z n s A).lookup ("tokens" : Str) = some (.ref z.tk) := look_eq
theorem gf_at : (gF z n s A).lookup ("at" : Str) = some (.int n) := (look_ne (by decide +kernel)).trans look_eq
theorem gf_faults : (gF z n s A).lookup ("faults" : Str) = some (.ref z.fl) := (look_ne (by decide +kernel)).trans ((look_ne (by decide +kernel)).trans look_eq)
theorem gf_names : (gF z n s A).lookup ("names" : Str) = some (.ref z.nl) := (look_ne (by decide +kernel)).trans ((look_ne (by decide +kernel)).trans ((look_ne (by decide +kernel)).trans look_eq))
theorem gf_weights : (gF z n s A).lookup ("weights" : Str) = some (oA s.W A.wa) := (look_ne (by decide +kernel)).trans ((look_ne (by decide +kernel)).trans ((look_ne (by decide +kernel)).trans ((look_ne (by decide +kernel)).trans look_eq)))
theorem gf_makers : (gF z n s A).lookup ("makers" : Str) = some (oA s.M A.ma) := (look_ne (by decide +kernel)).trans ((look_ne (by decide +kernel)).trans ((look_ne (by decide +kernel)).trans ((look_ne (by decide +kernel)).trans ((look_ne (by decide +kernel)).trans look_eq))))
theorem gf_aways : (gF z n s A).lookup ("aways" : Str) = some (.ref z.al) := (look_ne (by decide +kernel)).trans ((look_ne (by decide +kernel)).trans ((look_ne (by decide +kernel)).trans ((look_ne (by decide +kernel)).trans ((look_ne (by decide +kernel)).trans ((look_ne (by decide +kernel)).trans look_eq)))))
theorem gf_putAt (m : Nat) : putF "at" (.int m) (gF z n s A) = gF z m s A := by
  unfold gF
  rw [putF_ne (by decide +kernel)]; rfl
theorem gf_putW (p : Addr) (l : List Int) : putF "weights" (.ref p) (gF z n s A) = gF z n { s with W := some l } { A with wa := p } := by
  unfold gF
  rw [putF_ne (by decide +kernel), putF_ne (by decide +kernel), putF_ne (by decide +kernel), putF_ne (by decide +kernel)]; rfl
theorem gf_putM (p : Addr) (l : List Int) : putF "makers" (.ref p) (gF z n s A) = gF z n { s with M := some l } { A with ma := p } := by
  unfold gF
  rw [putF_ne (by decide +kernel), putF_ne (by decide +kernel), putF_ne (by decide +kernel), putF_ne (by decide +kernel), putF_ne (by decide +kernel)]; rfl
end
def fT (i : Nat) (f : Flt) : List V := [.int f.l, .int f.c, .int i, .str f.why]
/-- the parser at z, its next token the n-th of L -/
structure PGa (CP CT : Addr) (z : Pz) (L : List (Addr × Tk)) (n : Nat) (s : Ps) (A : Pa) (H : Hp) : Prop where
  ob : H z.x = some (.ins CP z.dx (gF z n s A))
  tk : H z.tk = some (.lst (prefs L))
  ts : TksP CT H L
  fl : H z.fl = some (.lst (A.fa.map V.ref))
  fn : A.fa.length = s.fs.length
  ft : ∀ (i : Nat) a f, A.fa[i]? = some a → s.fs[i]? = some f → H a = some (.tup (fT i f))
  nl : H z.nl = some (.lst (s.names.map V.str))
  al : H z.al = some (.lst (A.as.map V.ref))
  aw : AwAt H A.as s.aws
  w : ∀ l, s.W = some l → H A.wa = some (.tup (l.map V.int))
  m : ∀ l, s.M = some l → H A.ma = some (.tup (l.map V.int))
  ne : [z.x, z.tk, z.fl, z.nl, z.al].Nodup
  cn : CT ≠ CP
def PG (CP CT : Addr) (z : Pz) (L : List (Addr × Tk)) (n : Nat) (s : Ps) (H : Hp) : Prop := ∃ A, PGa CP CT z L n s A H
section
variable {CP CT : Addr} {z : Pz} {L : List (Addr × Tk)} {n : Nat} {s : Ps} {A : Pa} {H H' : Hp}
/-- what is kept: all but lists of others -/
theorem PGa.keep (h : PGa CP CT z L n s A H) (k : ∀ b o, H b = some o → (∀ xs, o = .lst xs → b ∈ [z.tk, z.fl, z.nl, z.al]) → H' b = some o) : PGa CP CT z L n s A H' := by
  have nl : ∀ {b : Addr} {o : HO}, H b = some o → (∀ xs, o ≠ .lst xs) → H' b = some o := fun e n => k _ _ e fun xs q => absurd q (n xs)
  refine ⟨nl h.ob (fun _ q => by cases q), k _ _ h.tk (fun _ _ => by simp), fun q hq => ?_, k _ _ h.fl (fun _ _ => by simp), h.fn, fun i a f e1 e2 => nl (h.ft i a f e1 e2) (fun _ q => by cases q), k _ _ h.nl (fun _ _ => by simp), k _ _ h.al (fun _ _ => by simp), h.aw.keep fun b xs e => nl e (fun _ q => by cases q),
    fun l e => nl (h.w l e) (fun _ q => by cases q), fun l e => nl (h.m l e) (fun _ q => by cases q), h.ne, h.cn⟩
  obtain ⟨dx, e⟩ := h.ts q hq
  exact ⟨dx, nl e (fun _ q => by cases q)⟩
theorem PGa.wd0 (h : PGa CP CT z L n s A H) {l : List (Addr × HO)} (w : Wd [] H H' l) : PGa CP CT z L n s A H' := h.keep fun b o e _ => w.base b o (by simp) e
theorem PG.wd0 (h : PG CP CT z L n s H) {l : List (Addr × HO)} (w : Wd [] H H' l) : PG CP CT z L n s H' := by
  obtain ⟨A, h⟩ := h; exact ⟨A, h.wd0 w⟩
/-- a list of ours is written -/
theorem PG.putL (h : PG CP CT z L n s H) {p : Addr} {l : List V} {o : HO} (hp : H p = some (.lst l)) (hm : p ∉ [z.tk, z.fl, z.nl, z.al]) : PG CP CT z L n s (upd H p o) := by
  obtain ⟨A, h⟩ := h
  refine ⟨A, h.keep fun b u e hl => ?_⟩
  by_cases hb : b = p
  · subst hb; rw [hp] at e; cases e; exact absurd (hl _ rfl) hm
  · rw [upd_ne hb]; exact e
/-- the object itself -/
theorem PGa.setX (h : PGa CP CT z L n s A H) (m : Nat) (s' : Ps) (A' : Pa) (e1 : s'.names = s.names) (e2 : s'.aws = s.aws) (e3 : s'.fs = s.fs) (e4 : A'.as = A.as) (e5 : A'.fa = A.fa) (hw : ∀ l, s'.W = some l → H A'.wa = some (.tup (l.map V.int))) (hm : ∀ l, s'.M = some l → H A'.ma = some (.tup (l.map V.int))) :
    PGa CP CT z L m s' A' (upd H z.x (.ins CP z.dx (gF z m s' A'))) := by
  have k : ∀ {b : Addr} {u : HO}, H b = some u → (∀ dx fs, u ≠ .ins CP dx fs) → upd H z.x (.ins CP z.dx (gF z m s' A')) b = some u := fun e n => by rw [upd_ne (ne_of e h.ob (n _ _))]; exact e
  refine ⟨upd_same, k h.tk (fun _ _ q => by cases q), fun q hq => ?_, k (by rw [e5]; exact h.fl) (fun _ _ q => by cases q), by rw [e5, e3]; exact h.fn, fun i a f g1 g2 => k (h.ft i a f (by rw [← e5]; exact g1) (by rw [← e3]; exact g2)) (fun _ _ q => by cases q),
    k (by rw [e1]; exact h.nl) (fun _ _ q => by cases q), k (by rw [e4]; exact h.al) (fun _ _ q => by cases q), ?_, fun l e => k (hw l e) (fun _ _ q => by cases q), fun l e => k (hm l e) (fun _ _ q => by cases q), h.ne, h.cn⟩
  · obtain ⟨dx, e⟩ := h.ts q hq
    exact ⟨dx, k e (fun _ _ q => by injection q with q1; exact h.cn q1)⟩
  · rw [e4, e2]; exact h.aw.keep fun b xs e => k e (fun _ _ q => by cases q)
theorem PG.setAt (h : PG CP CT z L n s H) : ∃ fs, H z.x = some (.ins CP z.dx fs) ∧ fs.lookup ("at" : Str) = some (.int n) ∧ fs.length = 7 ∧ ∀ m : Nat, PG CP CT z L m s (upd H z.x (.ins CP z.dx (putF "at" (.int m) fs))) := by
  obtain ⟨A, h⟩ := h
  exact ⟨_, h.ob, gf_at, rfl, fun m => ⟨A, by rw [gf_putAt]; exact h.setX m s A rfl rfl rfl rfl rfl h.w h.m⟩⟩
/-- one more fault -/
theorem PG.setF (h : PG CP CT z L n s H) (t : Tk) (why : Str) : ∃ fa : List Addr, H z.fl = some (.lst (fa.map V.ref)) ∧ fa.length = s.fs.length ∧ ∀ a, H a = some (.tup [.int t.l, .int t.c, .int (s.fs.length : Nat), .str why]) → PG CP CT z L n (s.bad t why) (upd H z.fl (.lst ((fa ++ [a]).map V.ref))) := by
  obtain ⟨A, h⟩ := h
  refine ⟨A.fa, h.fl, h.fn, fun a ha => ⟨{ A with fa := A.fa ++ [a] }, ?_⟩⟩
  have hn := h.ne
  simp only [List.nodup_cons, List.mem_cons, List.not_mem_nil, or_false, not_or] at hn
  have k : ∀ {b : Addr} {u : HO}, H b = some u → b ≠ z.fl → upd H z.fl (.lst ((A.fa ++ [a]).map V.ref)) b = some u := fun e n => by rw [upd_ne n]; exact e
  have k2 : ∀ {b : Addr} {u : HO}, H b = some u → (∀ xs, u ≠ .lst xs) → upd H z.fl (.lst ((A.fa ++ [a]).map V.ref)) b = some u := fun e n => k e (ne_of e h.fl (n _))
  refine ⟨k2 h.ob (fun _ q => by cases q), k h.tk hn.2.1.1, fun q hq => ?_, upd_same, ?_, fun i b f g1 g2 => ?_, k h.nl (Ne.symm hn.2.2.1.1), k h.al (Ne.symm hn.2.2.1.2), h.aw.keep fun b xs e => k2 e (fun _ q => by cases q), fun l e => k2 (h.w l e) (fun _ q => by cases q), fun l e => k2 (h.m l e) (fun _ q => by cases q), h.ne, h.cn⟩
  · obtain ⟨dx, e⟩ := h.ts q hq
    exact ⟨dx, k2 e (fun _ q => by cases q)⟩
  · show (A.fa ++ [a]).length = (s.fs ++ [_]).length
    rw [List.length_append, List.length_append, h.fn]; rfl
  · have g1 : (A.fa ++ [a])[i]? = some b := g1
    have g2 : (s.fs ++ [(⟨t.l, t.c, why⟩ : Flt)])[i]? = some f := g2
    by_cases c : i < A.fa.length
    · rw [List.getElem?_append_left c] at g1
      rw [List.getElem?_append_left (by rw [← h.fn]; exact c)] at g2
      exact k2 (h.ft i b f g1 g2) (fun _ q => by cases q)
    · rw [List.getElem?_append_right (by omega)] at g1
      rw [List.getElem?_append_right (by rw [← h.fn]; omega)] at g2
      have hi : i - A.fa.length = 0 := by
        have := (List.getElem?_eq_some_iff.mp g1).1
        simp only [List.length_cons, List.length_nil] at this
        omega
      rw [hi] at g1
      rw [← h.fn, hi] at g2
      cases g1; cases g2
      have e : i = s.fs.length := by rw [← h.fn]; omega
      subst e
      exact k2 ha (fun _ q => by cases q)
end
end Br

namespace Br
open PySem PySem.Spec PyProof.Rows L2
section
variable {P : Program} {w : World} {K : PySem.W.Frag} {mg : Str → Option Value} {base : Heap} {CT CP CF : Addr}
theorem prefs_at {L : List (Addr × Tk)} {n : Nat} {a : Addr} {t : Tk} (h : L[n]? = some (a, t)) : atI (prefs L) (n : Int) = some (.ref a) := by
  refine atI_nat ?_
  unfold prefs
  rw [List.getElem?_map, h]; rfl
def spPeekG (CP CT : Addr) : Sp := fun vs H Q _ => ∃ (z : Pz) (L : List (Addr × Tk)) (n : Nat) (s : Ps) (a : Addr) (t : Tk), vs = [.ref z.x] ∧ PG CP CT z L n s H ∧ L[n]? = some (a, t) ∧ Q (.ref a) H
theorem me_peekG (D : MethAt K CP "peek" "Parser.peek" sParser_peek ["self"]) (PC : ParCls K CP) : MeAt P w K mg base 1 CP "peek" ["self"] (spPeekG CP CT) := D.me fun f fd F => by
  have nd := scParser_peek.nd
  refine F.ok scParser_peek (fun vs H Q E h => ?_) (fun cdv A outer s H vs Q E hr h => ?_)
  · obtain ⟨z, L, n, s, a, t, rfl, _⟩ := h; rfl
  obtain ⟨z, L, n, sv, a, t, rfl, ⟨Aa, hp⟩, ht, q⟩ := h
  refine ⟨_, (pss_one (ps_ret (pe_ix (r := rIxL K) ix_list (pe_fldK (K := K) rfl (pv 0) rfl) (pe_fldK (K := K) rfl (pv 0) rfl) (fun _ _ => rfl)))), ?_⟩
  exact ⟨_, rfl, z.x, CP, z.dx, _, _, rfl, hp.ob, PC.cl, PC.n1, gf_tokens, _, rfl, z.x, CP, z.dx, _, _, rfl, hp.ob, PC.cl, PC.n2, gf_at, z.tk, _, _, _, rfl, rfl, SqL.of hp.tk, prefs_at ht, q⟩
abbrev sParser_fail : Stmt := inClass (topS 39) 2
theorem scParser_fail : FnScope ["self", "token"] ["self"] (defScope sParser_fail) := ⟨rfl, rfl, rfl, by decide +kernel, rfl, by decide +kernel, by decide +kernel⟩
def spFailG (CP CT CF : Addr) : Sp := fun vs H _ E => ∃ (z : Pz) (L : List (Addr × Tk)) (n : Nat) (s : Ps) (a : Addr) (t : Tk), vs = [.ref z.x] ∧ PG CP CT z L n s H ∧ L[n]? = some (a, t) ∧ ∀ (d : Addr) (H' : Hp), Wd [] H H' [(d, synD t.l t.c)] → E (.ref CF) (some d) H'
theorem me_failG (D : MethAt K CP "fail" "Parser.fail" sParser_fail ["self"]) (PC : ParCls K CP) (TC : TokCls K CT) (EX_SyntaxFault : ExAt P w K mg base "SyntaxFault" CF ["line", "column"]) (C1 : MeAt P w K mg base 1 CP "peek" ["self"] (spPeekG CP CT)) : MeX P w K mg base 3 CP "fail" ["self"] (spFailG CP CT CF) := D.meX fun f fd F => by
  have nd := scParser_fail.nd
  have cl_Parser := PC.cl
  obtain ⟨f1, fd1, me_peek, b_peek, G_peek⟩ := C1.ex
  refine F.okX scParser_fail (fun vs H Q E h => ?_) (fun cdv A outer s H vs Q E hr h => ?_)
  · obtain ⟨z, L, n, s, a, t, rfl, _⟩ := h; rfl
  obtain ⟨z, L, n, sv, a, t, rfl, ⟨Aa, hp⟩, ht, q⟩ := h
  refine ⟨_, (pss_cons (ps_set (i := 1) nd rfl (Or.inl rfl) (pe_meth0 (pv 0) cl_Parser me_peek G_peek (hr.mono (by first | decide | omega)) b_peek .nil pass0))
 (pss_one (ps_raise rfl (takes_of rfl rfl rfl rfl) (pmk_ex EX_SyntaxFault (hr.mono (by first | decide | omega)) (by rfl) (pa_cons (pe_fldK (K := K) rfl (pv 1) rfl) (pa_cons (pe_fldK (K := K) rfl (pv 1) rfl) pa_nil)) (by decide))))), ?_⟩
  obtain ⟨tdx, hta⟩ := hp.ts _ (List.mem_of_getElem? ht)
  refine ⟨_, rfl, z.x, z.dx, _, rfl, hp.ob, gf_none (by decide +kernel), z, L, n, sv, a, t, rfl, ⟨Aa, hp⟩, ht, ?_⟩
  exact ⟨_, rfl, a, CT, tdx, _, _, rfl, hta, TC.cl, TC.nl, tk_line _ _ _ _, _, rfl, a, CT, tdx, _, _, rfl, hta, TC.cl, TC.nc, tk_column _ _ _ _, rfl, fun d H' w => q d H' w⟩
abbrev sParser_found : Stmt := inClass (topS 39) 3
theorem scParser_found : FnScope ["self", "reason", "token"] ["self", "reason", "token"] (defScope sParser_found) := ⟨rfl, rfl, rfl, by decide +kernel, rfl, by decide +kernel, by decide +kernel⟩
def spFoundG (CP CT : Addr) : Sp := fun vs H Q _ => ∃ (z : Pz) (L : List (Addr × Tk)) (n : Nat) (s : Ps) (a : Addr) (t : Tk) (why : Str), vs = [.ref z.x, .str why, .ref a] ∧ PG CP CT z L n s H ∧ (a, t) ∈ L ∧ s.fs.length ≤ 10000000 ∧ ∀ H', Wd z.mu H H' [] → PG CP CT z L n (s.bad t why) H' → Q .non H'
theorem me_foundG (D : MethAt K CP "found" "Parser.found" sParser_found ["self", "reason", "token"]) (T : Bi mg) (PC : ParCls K CP) (TC : TokCls K CT) : MeAt P w K mg base 1 CP "found" ["self", "reason", "token"] (spFoundG CP CT) := D.me fun f fd F => by
  have nd := scParser_found.nd
  refine F.ok scParser_found (fun vs H Q E h => ?_) (fun cdv A outer s H vs Q E hr h => ?_)
  · obtain ⟨z, L, n, s, a, t, why, rfl, _⟩ := h; rfl
  obtain ⟨z, L, n, sv, a, t, why, rfl, hp0, ht, hf, q⟩ := h
  obtain ⟨Aa, hp⟩ := id hp0
  refine ⟨_, (pss_one (ps_expr (pe_bmK (K := K) rfl PySem.F.plainAttrs_list PySem.F.slot_list_append PySem.F.type_list_append mt_append (pe_fldK (K := K) rfl (pv 0) rfl) (pa_cons (pe_tup (pa_cons (pe_fldK (K := K) rfl (pv 2) rfl) (pa_cons (pe_fldK (K := K) rfl (pv 2) rfl) (pa_cons (pe_callB (r := rLenS K) call_len_seq (by rfl) T.len PySem.boot_len (pa_cons (pe_fldK (K := K) rfl (pv 0) rfl) pa_nil)) (pa_cons (pv 1) pa_nil))))) pa_nil)))), ?_⟩
  obtain ⟨tdx, hta⟩ := hp.ts _ ht
  obtain ⟨fa, g1, g2, g3⟩ := hp0.setF t why
  refine ⟨_, rfl, z.x, CP, z.dx, _, _, rfl, hp.ob, PC.cl, PC.n3, gf_faults, .inl ⟨rfl, _, SqL.of g1⟩, ?_⟩
  refine ⟨_, rfl, a, CT, tdx, _, _, rfl, hta, TC.cl, TC.nl, tk_line _ _ _ _, _, rfl, a, CT, tdx, _, _, rfl, hta, TC.cl, TC.nc, tk_column _ _ _ _, ?_⟩
  refine ⟨_, rfl, z.x, CP, z.dx, _, _, rfl, hp.ob, PC.cl, PC.n3, gf_faults, z.fl, _, rfl, .inl (SqL.of g1), _, rfl, by show 4 ≤ sizeLine; decide, fun p hpn => ?_⟩
  have w1 := (Wd.refl H).new (.tup [.int t.l, .int t.c, .int ((fa.map V.ref).length : Nat), .str why]) hpn
  have g1' := w1.base _ _ (by simp) g1
  have hp1 := hp0.wd0 w1
  obtain ⟨fa', h1, h2, h3⟩ := hp1.setF t why
  have ef : fa' = fa := by
    rw [g1'] at h1
    injection h1 with h1
    injection h1 with h1
    exact (List.map_inj_right (fun _ _ e => by injection e)).mp h1.symm
  subst ef
  have hl : (fa'.map V.ref).length = sv.fs.length := by rw [List.length_map]; exact h2
  rw [hl] at w1 g1' h3 ⊢
  have h4 := h3 p (w1.get 0 rfl)
  rw [List.map_append] at h4
  refine ⟨z.fl, _, _, rfl, rfl, g1', by rw [hl]; exact Nat.lt_of_le_of_lt hf (by decide), ?_⟩
  refine q _ ?_ h4
  exact ((w1.sub (l' := []) (List.nil_sublist _)).mono (fun _ h => nomatch h)).fput (M := z.mu) _ (.inr (by simp [Pz.mu])) g1' (fun _ q => by cases q)
def spTakeG (CP CT CF : Addr) : Sp := fun vs H Q E => ∃ (z : Pz) (L : List (Addr × Tk)) (n : Nat) (s : Ps) (a : Addr) (t : Tk) (k : Str), vs = [.ref z.x, .str k] ∧ PG CP CT z L n s H ∧ L[n]? = some (a, t) ∧
  (t.k = k → ∀ H', Wd z.mu H H' [] → PG CP CT z L (n + 1) s H' → Q (.ref a) H') ∧ (t.k ≠ k → ∀ (d : Addr) (H' : Hp), Wd [] H H' [(d, synD t.l t.c)] → E (.ref CF) (some d) H')
theorem me_takeG (D : MethAt K CP "take" "Parser.take" sParser_take ["self", "kind"]) (PC : ParCls K CP) (TC : TokCls K CT) (C1 : MeAt P w K mg base 1 CP "peek" ["self"] (spPeekG CP CT)) (C2 : MeX P w K mg base 3 CP "fail" ["self"] (spFailG CP CT CF)) :
    MeX P w K mg base 4 CP "take" ["self", "kind"] (spTakeG CP CT CF) := D.meX fun f fd F => by
  have nd := scParser_take.nd
  have cl_Parser := PC.cl
  obtain ⟨f1, fd1, me_peek, b_peek, G_peek⟩ := C1.ex
  obtain ⟨f2, fd2, me_fail, b_fail, G_fail⟩ := C2.ex
  refine F.okX scParser_take (fun vs H Q E h => ?_) (fun cdv A outer s H vs Q E hr h => ?_)
  · obtain ⟨z, L, n, s, a, t, k, rfl, _⟩ := h; rfl
  obtain ⟨z, L, n, sv, a, t, k, rfl, hp0, ht, q1, q2⟩ := h
  obtain ⟨Aa, hp⟩ := id hp0
  refine ⟨_, (pss_cons (ps_set (i := 2) nd rfl (Or.inl rfl) (pe_meth0 (pv 0) cl_Parser me_peek G_peek (hr.mono (by first | decide | omega)) b_peek .nil pass0))
 (pss_cons (ps_if (pt_cmpR op_ne (pe_fldK (K := K) rfl (pv 2) rfl) (pv 1) (nomark _))
 (pss_one (ps_expr (pe_meth0 (pv 0) cl_Parser me_fail G_fail (hr.mono (by first | decide | omega)) b_fail .nil (passes_call (takes_of rfl rfl rfl rfl) (fun _ _ _ _ h => h)))))
 pss_nil)
 (pss_cons (ps_fldaug (pv 0) pe_int in_add)
 (pss_one (ps_ret (pv 2)))))), ?_⟩
  obtain ⟨tdx, hta⟩ := hp.ts _ (List.mem_of_getElem? ht)
  refine ⟨_, rfl, z.x, z.dx, _, rfl, hp.ob, gf_none (by decide +kernel), z, L, n, sv, a, t, rfl, hp0, ht, ?_⟩
  refine ⟨_, rfl, a, CT, tdx, _, _, rfl, hta, TC.cl, TC.nk, tk_kind _ _ _ _, _, rfl, rfl, _, rfl, ?_⟩
  by_cases hk : t.k = k
  · subst hk
    refine ite2 (fun h => absurd h (by simp)) (fun _ => ?_)
    obtain ⟨fs, f1, f2, f3, f4⟩ := hp0.setAt
    refine ⟨_, rfl, z.x, CP, z.dx, _, _, rfl, f1, PC.cl, PC.n2, f2, _, _, rfl, rfl, _, _, f1, (by rw [f3]; decide), ?_⟩
    rw [show (n : Int) + 1 = ((n + 1 : Nat) : Int) by omega]
    exact ⟨_, rfl, q1 rfl _ ((Wd.frefl _ _).fput _ (.inr (by simp [Pz.mu])) f1 (fun _ q => by cases q)) (f4 (n + 1))⟩
  · refine ite2 (fun _ => ?_) (fun h => absurd (by rw [decide_eq_false (fun e => hk (by injection e))]; rfl) h)
    exact ⟨_, rfl, z.x, z.dx, _, rfl, hp.ob, gf_none (by decide +kernel), z, L, n, sv, a, t, rfl, hp0, ht, q2 hk⟩
def spTakeWG (CP CT CF : Addr) : Sp := fun vs H Q E => ∃ (z : Pz) (L : List (Addr × Tk)) (n : Nat) (s : Ps) (a : Addr) (t : Tk) (k : Str), vs = [.ref z.x, .str k] ∧ PG CP CT z L n s H ∧ L[n]? = some (a, t) ∧
  (t.t = k → ∀ H', Wd z.mu H H' [] → PG CP CT z L (n + 1) s H' → Q .non H') ∧ (t.t ≠ k → ∀ (d : Addr) (H' : Hp), Wd [] H H' [(d, synD t.l t.c)] → E (.ref CF) (some d) H')
theorem me_takeWG (D : MethAt K CP "take_word" "Parser.take_word" sParser_take_word ["self", "word"]) (PC : ParCls K CP) (TC : TokCls K CT) (C1 : MeAt P w K mg base 1 CP "peek" ["self"] (spPeekG CP CT)) (C2 : MeX P w K mg base 3 CP "fail" ["self"] (spFailG CP CT CF)) :
    MeX P w K mg base 4 CP "take_word" ["self", "word"] (spTakeWG CP CT CF) := D.meX fun f fd F => by
  have nd := scParser_take_word.nd
  have cl_Parser := PC.cl
  obtain ⟨f1, fd1, me_peek, b_peek, G_peek⟩ := C1.ex
  obtain ⟨f2, fd2, me_fail, b_fail, G_fail⟩ := C2.ex
  refine F.okX scParser_take_word (fun vs H Q E h => ?_) (fun cdv A outer s H vs Q E hr h => ?_)
  · obtain ⟨z, L, n, s, a, t, k, rfl, _⟩ := h; rfl
  obtain ⟨z, L, n, sv, a, t, k, rfl, hp0, ht, q1, q2⟩ := h
  obtain ⟨Aa, hp⟩ := id hp0
  refine ⟨_, (pss_cons (ps_if (pt_cmpR op_ne (pe_fldK (K := K) rfl (pe_meth0 (pv 0) cl_Parser me_peek G_peek (hr.mono (by first | decide | omega)) b_peek .nil pass0) rfl) (pv 1) (nomark _))
 (pss_one (ps_expr (pe_meth0 (pv 0) cl_Parser me_fail G_fail (hr.mono (by first | decide | omega)) b_fail .nil (passes_call (takes_of rfl rfl rfl rfl) (fun _ _ _ _ h => h)))))
 pss_nil)
 (pss_one (ps_fldaug (pv 0) pe_int in_add))), ?_⟩
  obtain ⟨tdx, hta⟩ := hp.ts _ (List.mem_of_getElem? ht)
  refine ⟨_, rfl, z.x, z.dx, _, rfl, hp.ob, gf_none (by decide +kernel), z, L, n, sv, a, t, rfl, hp0, ht, ?_⟩
  refine ⟨a, CT, tdx, _, _, rfl, hta, TC.cl, TC.nt, tk_text _ _ _ _, _, rfl, rfl, _, rfl, ?_⟩
  by_cases hk : t.t = k
  · subst hk
    refine ite2 (fun h => absurd h (by simp)) (fun _ => ?_)
    obtain ⟨fs, f1, f2, f3, f4⟩ := hp0.setAt
    refine ⟨_, rfl, z.x, CP, z.dx, _, _, rfl, f1, PC.cl, PC.n2, f2, _, _, rfl, rfl, _, _, f1, (by rw [f3]; decide), ?_⟩
    rw [show (n : Int) + 1 = ((n + 1 : Nat) : Int) by omega]
    exact q1 rfl _ ((Wd.frefl _ _).fput _ (.inr (by simp [Pz.mu])) f1 (fun _ q => by cases q)) (f4 (n + 1))
  · refine ite2 (fun _ => ?_) (fun h => absurd (by rw [decide_eq_false (fun e => hk (by injection e))]; rfl) h)
    exact ⟨_, rfl, z.x, z.dx, _, rfl, hp.ob, gf_none (by decide +kernel), z, L, n, sv, a, t, rfl, hp0, ht, q2 hk⟩
end
end Br

namespace Br
open PySem PySem.Spec PyProof.Rows L2
/-! ### the grammar's pieces, as functions of what is left of the tokens -/
/-- what is left: it ends by the one end token -/
def EndOk (ts : List Tk) : Prop := ∃ (i : List Tk) (e : Tk), ts = i ++ [e] ∧ e.k = "end" ∧ e.t = ""
theorem EndOk.ne {ts : List Tk} (h : EndOk ts) : ∃ t r, ts = t :: r := by
  obtain ⟨i, e, rfl, _⟩ := h
  cases i with
  | nil => exact ⟨_, _, rfl⟩
  | cons a i => exact ⟨_, _, rfl⟩
theorem EndOk.tail {t : Tk} {r : List Tk} (h : EndOk (t :: r)) (n : t.k ≠ "end" ∨ t.t ≠ "") : EndOk r := by
  obtain ⟨i, e, h1, h2, h3⟩ := h
  cases i with
  | nil =>
    cases h1
    rcases n with n | n
    · exact absurd h2 n
    · exact absurd h3 n
  | cons a i => cases h1; exact ⟨i, e, rfl, h2, h3⟩
def wordF (w : Str) : List Tk → Except (Nat × Nat) (List Tk)
  | [] => .error (0, 0)
  | t :: r => if t.t = w then .ok r else .error (t.l, t.c)
def takeF (k : Str) : List Tk → Except (Nat × Nat) (Tk × List Tk)
  | [] => .error (0, 0)
  | t :: r => if t.k = k then .ok (t, r) else .error (t.l, t.c)
def withE (ts : List Tk) : Except (Nat × Nat) (List Tk) → Except (Nat × Nat) (List Tk × List Tk)
  | .error e => .error e
  | .ok r => .ok (ts, r)
def isK (k : Str) (t : Tk) : Bool := decide (t.k = k)
def allF (k : Str) : List Tk → Except (Nat × Nat) (List Tk × List Tk)
  | [] => .error (0, 0)
  | t :: r => if t.k = k then withE (t :: r.takeWhile (isK k)) (wordF ";" (r.dropWhile (isK k))) else .error (t.l, t.c)
/-- the n-th token on -/
def Rm (L : List (Addr × Tk)) (n : Nat) (ts : List Tk) : Prop := (L.map Prod.snd).drop n = ts
theorem Rm.cons {L : List (Addr × Tk)} {n : Nat} {t : Tk} {ts : List Tk} (h : Rm L n (t :: ts)) : (∃ a, L[n]? = some (a, t)) ∧ Rm L (n + 1) ts := by
  unfold Rm at h ⊢
  have e : (L.map Prod.snd)[n]? = some t := by
    have := congrArg (fun l => l[0]?) h
    simpa [List.getElem?_drop] using this
  rw [List.getElem?_map] at e
  refine ⟨?_, ?_⟩
  · cases hL : L[n]? with
    | none => rw [hL] at e; cases e
    | some q =>
      rw [hL] at e
      obtain ⟨a, b⟩ := q
      exact ⟨a, by cases e; rfl⟩
  · rw [← List.drop_drop, h]; rfl
theorem span_all {k : Str} {a : List Tk} {b : Tk} {c : List Tk} (ha : ∀ t ∈ a, t.k = k) (hb : b.k ≠ k) : (a ++ b :: c).takeWhile (isK k) = a ∧ (a ++ b :: c).dropWhile (isK k) = b :: c := by
  induction a with
  | nil => exact ⟨by rw [List.nil_append, List.takeWhile_cons, if_neg (by unfold isK; simpa using hb)], by rw [List.nil_append, List.dropWhile_cons, if_neg (by unfold isK; simpa using hb)]⟩
  | cons x a ih =>
    obtain ⟨i1, i2⟩ := ih fun t ht => ha t (List.mem_cons_of_mem _ ht)
    have hx : isK k x = true := decide_eq_true (ha x List.mem_cons_self)
    exact ⟨by rw [List.cons_append, List.takeWhile_cons, if_pos hx, i1], by rw [List.cons_append, List.dropWhile_cons, if_pos hx, i2]⟩
theorem Wd.pg {M : List Addr} {H0 H H' : Hp} (c : Wd M H0 H []) {d : Addr} {o : HO} (w : Wd [] H H' [(d, o)]) : Wd M H0 H' [(d, o)] := by
  have := c.call0 w
  rwa [List.append_nil] at this
section
variable {P : Program} {w : World} {K : PySem.W.Frag} {mg : Str → Option Value} {base : Heap} {CT CP CF : Addr}
def spAllG (CP CT CF : Addr) : Sp := fun vs H Q E => ∃ (z : Pz) (L : List (Addr × Tk)) (n : Nat) (s : Ps) (k : Str) (ts : List Tk), vs = [.ref z.x, .str k] ∧ PG CP CT z L n s H ∧ k ≠ "end" ∧ L.length ≤ 10000000 ∧ Rm L n ts ∧ EndOk ts ∧
  match allF k ts with
  | .ok (tk, rest) => ∀ H' p sub n', Wd z.mu H H' [] → PG CP CT z L n' s H' → Rm L n' rest → EndOk rest → H p = none → H' p = some (.lst (prefs sub)) → sub.map Prod.snd = tk → (∀ q ∈ sub, q ∈ L) → Q (.ref p) H'
  | .error e => ∀ (d : Addr) (H' : Hp), Wd z.mu H H' [(d, synD e.1 e.2)] → E (.ref CF) (some d) H'
theorem me_allG (D : MethAt K CP "take_all" "Parser.take_all" sParser_take_all ["self", "kind"]) (PC : ParCls K CP) (TC : TokCls K CT) (LC : LexC K mg) (C1 : MeAt P w K mg base 1 CP "peek" ["self"] (spPeekG CP CT))
    (C2 : MeX P w K mg base 4 CP "take" ["self", "kind"] (spTakeG CP CT CF)) (C3 : MeX P w K mg base 4 CP "take_word" ["self", "word"] (spTakeWG CP CT CF)) : MeX P w K mg base 5 CP "take_all" ["self", "kind"] (spAllG CP CT CF) := D.meX fun f fd F => by
  have nd := scParser_take_all.nd
  have cl_Parser := PC.cl
  obtain ⟨t1, c_END_SIGN⟩ := LC.END_SIGN
  obtain ⟨f1, fd1, me_peek, b_peek, G_peek⟩ := C1.ex
  obtain ⟨f2, fd2, me_take, b_take, G_take⟩ := C2.ex
  obtain ⟨f3, fd3, me_take_word, b_take_word, G_take_word⟩ := C3.ex
  refine F.okX scParser_take_all (fun vs H Q E h => ?_) (fun cdv A outer s H vs Q E hr h => ?_)
  · obtain ⟨z, L, n, s, k, ts, rfl, _⟩ := h; rfl
  obtain ⟨z, L, n, sv, k, ts, rfl, hp, hk, hll, hts, he, q⟩ := h
  refine ⟨_, (pss_cons (ps_set (i := 2) nd rfl (Or.inl rfl) (pe_lst (pa_cons (pe_meth (pv 0) cl_Parser me_take G_take (hr.mono (by first | decide | omega)) b_take .nil (passes_call (takes_of rfl rfl rfl rfl) (fun _ _ _ _ h => h)) (pa_cons (pv 1) pa_nil)) pa_nil)))
 (pss_cons (ps_while (passes_of rfl) (pt_cmpR op_eq (pe_fldK (K := K) rfl (pe_meth0 (pv 0) cl_Parser me_peek G_peek (hr.mono (by first | decide | omega)) b_peek .nil pass0) rfl) (pv 1) (nomark _))
 (pss_one (ps_expr (pe_bmK (K := K) rfl PySem.F.plainAttrs_list PySem.F.slot_list_append PySem.F.type_list_append mt_append (pv 2) (pa_cons (pe_meth (pv 0) cl_Parser me_take G_take (hr.mono (by first | decide | omega)) b_take .nil (passes_call (takes_of rfl rfl rfl rfl) (fun _ _ _ _ h => h)) (pa_cons (pv 1) pa_nil)) pa_nil)))))
 (pss_cons (ps_expr (pe_meth (pv 0) cl_Parser me_take_word G_take_word (hr.mono (by first | decide | omega)) b_take_word .nil (passes_call (takes_of rfl rfl rfl rfl) (fun _ _ _ _ h => h)) (pa_cons (pe_glob (v := .str ";") (by rfl) c_END_SIGN ⟨_, rfl⟩) pa_nil)))
 (pss_one (ps_ret (pv 2)))))), ?_⟩
  obtain ⟨t0, r0, rfl⟩ := he.ne
  obtain ⟨⟨a0, h0⟩, hts1⟩ := hts.cons
  have ob : ∀ {H' : Hp} {n' : Nat}, PG CP CT z L n' sv H' → ∃ fs, H' z.x = some (.ins CP z.dx fs) ∧ (∀ m : Str, (∀ f ∈ (["tokens", "at", "faults", "names", "weights", "makers", "aways"] : List Str), (m == f) = false) → fs.lookup m = none) := fun ⟨A, h⟩ => ⟨_, h.ob, fun m hm => gf_none hm⟩
  obtain ⟨fs, o1, o2⟩ := ob hp
  refine ⟨_, rfl, z.x, z.dx, _, rfl, o1, o2 _ (by decide +kernel), _, rfl, z, L, n, sv, a0, t0, k, rfl, hp, h0, fun hk0 H1 c1 hp1 => ?_, fun hk0 d H' w => ?_⟩
  rotate_left
  · have e : allF k (t0 :: r0) = .error (t0.l, t0.c) := if_neg hk0
    rw [e] at q
    exact q d H' (w.mono fun _ h => nomatch h)
  have hall : allF k (t0 :: r0) = withE (t0 :: r0.takeWhile (isK k)) (wordF ";" (r0.dropWhile (isK k))) := if_pos hk0
  rw [hall] at q
  have he1 := he.tail (.inl (by rw [hk0]; exact hk))
  refine ⟨(by show 1 ≤ sizeLine; decide), fun p hpn => ?_⟩
  have hpn0 := c1.free _ hpn
  refine while_by (fun σ H' => σ = [some (.ref z.x), some (.str k), some (.ref p)] ∧ ∃ (sub : List (Addr × Tk)) (n1 : Nat) (r1 : List Tk), Wd z.mu H H' [] ∧ PG CP CT z L n1 sv H' ∧ H' p = some (.lst (prefs sub)) ∧
      Rm L n1 r1 ∧ EndOk r1 ∧ sub.map Prod.snd ++ r1 = t0 :: r0 ∧ (∀ q ∈ sub, q.2.k = k) ∧ (∀ q ∈ sub, q ∈ L) ∧ sub ≠ []) (fun _ H' => r0.length + 1 - (match H' p with | some (.lst l) => l.length | _ => 0))
    ⟨rfl, [(a0, t0)], n + 1, r0, c1.fnew _ hpn, hp1.wd0 ((Wd.refl H1).new (.lst [V.ref a0]) hpn), upd_same, hts1, he1, rfl, (by intro q hq; rw [List.mem_singleton.mp hq]; exact hk0), (by intro q hq; rw [List.mem_singleton.mp hq]; exact List.mem_of_getElem? h0), by simp⟩ ?_ ?_
  · rintro σ H2 ⟨rfl, sub, n1, r1, c2, hp2, hsub, hr1, he2, hcat, hkk, hmem, hsn⟩
    have hpm : p ∉ z.mu ∧ p ≠ z.tk := by
      obtain ⟨A, hA⟩ := hp
      have nn : ∀ {b : Addr} {o : HO}, H b = some o → p ≠ b := fun e h => by rw [← h, hpn0] at e; cases e
      refine ⟨fun hm => ?_, nn hA.tk⟩
      simp only [Pz.mu, List.mem_cons, List.not_mem_nil, or_false] at hm
      rcases hm with h | h | h | h
      · exact nn hA.ob h
      · exact nn hA.fl h
      · exact nn hA.nl h
      · exact nn hA.al h
    have hl := congrArg List.length hcat
    rw [List.length_append, List.length_map, List.length_cons] at hl
    obtain ⟨t2, r2, rfl⟩ := he2.ne
    rw [List.length_cons] at hl
    obtain ⟨⟨a2, h2⟩, hr2⟩ := hr1.cons
    obtain ⟨A2, hA2⟩ := id hp2
    obtain ⟨tdx, hta⟩ := hA2.ts _ (List.mem_of_getElem? h2)
    refine ⟨_, rfl, z.x, z.dx, _, rfl, hA2.ob, gf_none (by decide +kernel), z, L, n1, sv, a2, t2, rfl, hp2, h2, a2, CT, tdx, _, _, rfl, hta, TC.cl, TC.nk, tk_kind _ _ _ _, _, rfl, rfl, _, rfl, ?_⟩
    by_cases hk2 : t2.k = k
    · refine ite2 (fun _ => ?_) (fun h => absurd (decide_eq_true (by rw [hk2])) h)
      refine ⟨_, rfl, .inl ⟨rfl, _, SqL.of hsub⟩, _, rfl, z.x, z.dx, _, rfl, hA2.ob, gf_none (by decide +kernel), _, rfl, z, L, n1, sv, a2, t2, k, rfl, hp2, h2, fun _ H3 c3 hp3 => ?_, fun h => absurd hk2 h⟩
      have hsub3 := c3.base _ _ hpm.1 hsub
      have hmu : p ∉ [z.tk, z.fl, z.nl, z.al] := by
        have := hpm.1
        simp only [Pz.mu, List.mem_cons, List.not_mem_nil, or_false, not_or] at this ⊢
        exact ⟨hpm.2, this.2.1, this.2.2.1, this.2.2.2⟩
      have hsl : sub.length + 1 ≤ 10000000 := by
        have hLl := congrArg List.length hts
        rw [List.length_drop, List.length_map, List.length_cons] at hLl
        omega
      refine ⟨p, _, _, rfl, rfl, hsub3, ?_, ⟨rfl, sub ++ [(a2, t2)], n1 + 1, r2, ?_, hp3.putL hsub3 hmu, ?_, hr2, he2.tail (.inl (by rw [hk2]; exact hk)), ?_, ?_, ?_, by simp⟩, ?_⟩
      · rw [prefs_len]; exact Nat.lt_of_lt_of_le (m := 10000001) (by omega) (by decide)
      · exact (c2.fgo c3).fput _ (.inl hpn0) hsub3 (fun _ q => by cases q)
      · have e : prefs (sub ++ [(a2, t2)]) = prefs sub ++ [.ref a2] := by simp [prefs]
        rw [upd_same, e]
      · rw [← hcat]; simp
      · intro q hq
        rcases List.mem_append.mp hq with hq | hq
        · exact hkk q hq
        · rw [List.mem_singleton.mp hq]; exact hk2
      · intro q hq
        rcases List.mem_append.mp hq with hq | hq
        · exact hmem q hq
        · rw [List.mem_singleton.mp hq]; exact List.mem_of_getElem? h2
      · show r0.length + 1 - (match upd H3 p _ p with | some (.lst l) => l.length | _ => 0) < _
        rw [upd_same, hsub]
        show r0.length + 1 - (prefs sub ++ [V.ref a2]).length < r0.length + 1 - (prefs sub).length
        rw [List.length_append, prefs_len]
        simp only [List.length_cons, List.length_nil]
        omega
    · refine ite2 (fun h => absurd (of_decide_eq_true h) (fun e => hk2 (by injection e))) (fun _ => ?_)
      obtain ⟨sub0, subr, rfl⟩ := List.exists_cons_of_ne_nil hsn
      have hc0 : sub0.2 = t0 ∧ subr.map Prod.snd ++ t2 :: r2 = r0 := by
        rw [List.map_cons, List.cons_append] at hcat
        injection hcat with e1 e2
        exact ⟨e1, e2⟩
      obtain ⟨sp1, sp2⟩ := span_all (k := k) (a := subr.map Prod.snd) (b := t2) (c := r2) (fun t ht => by
        obtain ⟨q, hq, rfl⟩ := List.mem_map.mp ht
        exact hkk q (List.mem_cons_of_mem _ hq)) hk2
      rw [← hc0.2, sp1, sp2] at q
      refine ⟨_, rfl, z.x, z.dx, _, rfl, hA2.ob, gf_none (by decide +kernel), z, L, n1, sv, a2, t2, ";", rfl, hp2, h2, fun hw H3 c3 hp3 => ?_, fun hw d H3 w3 => ?_⟩
      · have e : wordF ";" (t2 :: r2) = .ok r2 := if_pos hw
        rw [e] at q
        exact ⟨_, rfl, q H3 p (sub0 :: subr) (n1 + 1) (c2.fgo c3) hp3 hr2 (he2.tail (.inr (by rw [hw]; decide +kernel))) hpn0 (c3.base _ _ hpm.1 hsub) (by rw [List.map_cons, hc0.1]) hmem⟩
      · have e : wordF ";" (t2 :: r2) = .error (t2.l, t2.c) := if_neg hw
        rw [e] at q
        exact q d H3 (c2.pg w3)
  · intro σ H2 Q1 Q2 hm hc
    obtain ⟨v0, e0, a, dx', fs, ea, eo, en, z', L', n', s', a', t', e1, e2, e3, a'', C'', dx'', fs'', v'', g1, g2, g3, g4, g5, v1, e4, e5, b, hb, hc⟩ := hc
    exact ⟨v0, e0, a, dx', fs, ea, eo, en, z', L', n', s', a', t', e1, e2, e3, a'', C'', dx'', fs'', v'', g1, g2, g3, g4, g5, v1, e4, e5, b, hb, hm _ _ hc⟩
end
end Br

namespace Br
open PySem PySem.Spec PyProof.Rows L2
/-! ### persons, people -/
def ixOf (ns : List Str) (t : Str) : Nat := ns.findIdx fun y => decide (y = t)
def personF (s : Ps) (t : Tk) : Nat × Ps := if t.t ∈ s.names then (ixOf s.names t.t, s) else (0, s.bad t "unknown")
def peopleS (s : Ps) (t : Tk) : Ps := if t.t ∈ s.names then s.bad t "duplicate" else if s.names.length = 6 then s.bad t "people" else { s with names := s.names ++ [t.t] }
abbrev PR := Except (Nat × Nat) (Ps × List Tk)
def bindE {α β : Type} (f : α → Except (Nat × Nat) β) : Except (Nat × Nat) α → Except (Nat × Nat) β
  | .error e => .error e
  | .ok a => f a
def peopleF (s : Ps) (ts : List Tk) : PR := bindE (fun ts1 => bindE (fun p => .ok (p.1.foldl peopleS s, p.2)) (allF "name" ts1)) (wordF "people" ts)
/-- few faults, few tokens -/
def Few (s : Ps) (ts : List Tk) : Prop := s.fs.length + 3 * ts.length ≤ 30000
theorem ixOf_at {ns : List Str} {t : Str} (h : t ∈ ns) : ns[ixOf ns t]? = some t ∧ ∀ m, m < ixOf ns t → ns[m]? ≠ some t := by
  have hl : ixOf ns t < ns.length := List.findIdx_lt_length_of_exists ⟨t, h, decide_eq_true rfl⟩
  have e := List.findIdx_getElem (w := hl)
  have e2 : ns[ixOf ns t] = t := of_decide_eq_true e
  refine ⟨by rw [List.getElem?_eq_getElem hl, e2], fun m hm e3 => ?_⟩
  have hml : m < ns.length := by omega
  rw [List.getElem?_eq_getElem hml] at e3
  have := List.not_of_lt_findIdx (p := fun y => decide (y = t)) (xs := ns) (i := m) hm
  exact of_decide_eq_false this (Option.some.inj e3)
theorem wordF_no {w : Str} {t : Tk} {r : List Tk} (h : t.t ≠ w) : wordF w (t :: r) = .error (t.l, t.c) := if_neg h
theorem wordF_yes {w : Str} {t : Tk} {r : List Tk} (h : t.t = w) : wordF w (t :: r) = .ok r := if_pos h
theorem Wd.go2 {M : List Addr} {H0 H1 H2 : Hp} {l : List (Addr × HO)} (c : Wd M H0 H1 []) (w : Wd M H1 H2 l) : Wd M H0 H2 l :=
  ⟨fun b o hb e => w.base b o hb (c.base b o hb e), fun b xs e => w.tups b xs (c.tups b xs e), fun q hq => (w.own q hq).imp (c.free _) id, w.at_, w.nd, fun p e => c.free p (w.free p e)⟩
theorem PG.setN {CP CT : Addr} {z : Pz} {L : List (Addr × Tk)} {n : Nat} {s : Ps} {H : Hp} (h : PG CP CT z L n s H) (ns : List Str) : PG CP CT z L n { s with names := ns } (upd H z.nl (.lst (ns.map V.str))) := by
  obtain ⟨A, h⟩ := h
  refine ⟨A, ?_⟩
  have hn := h.ne
  simp only [List.nodup_cons, List.mem_cons, List.not_mem_nil, or_false, not_or] at hn
  have k : ∀ {b : Addr} {u : HO}, H b = some u → b ≠ z.nl → upd H z.nl (.lst (ns.map V.str)) b = some u := fun e n => by rw [upd_ne n]; exact e
  have k2 : ∀ {b : Addr} {u : HO}, H b = some u → (∀ xs, u ≠ .lst xs) → upd H z.nl (.lst (ns.map V.str)) b = some u := fun e n => k e (ne_of e h.nl (n _))
  refine ⟨k2 h.ob (fun _ q => by cases q), k h.tk hn.2.1.2.1, fun q hq => ?_, k h.fl hn.2.2.1.1, h.fn, fun i a f e1 e2 => k2 (h.ft i a f e1 e2) (fun _ q => by cases q), upd_same, k h.al (Ne.symm hn.2.2.2.1), h.aw.keep fun b xs e => k2 e (fun _ q => by cases q), fun l e => k2 (h.w l e) (fun _ q => by cases q), fun l e => k2 (h.m l e) (fun _ q => by cases q), h.ne, h.cn⟩
  obtain ⟨dx, e⟩ := h.ts q hq
  exact ⟨dx, k2 e (fun _ q => by cases q)⟩
/-- a new list is none of the parser's -/
theorem PG.out {CP CT : Addr} {z : Pz} {L : List (Addr × Tk)} {n : Nat} {s : Ps} {H : Hp} (h : PG CP CT z L n s H) {p : Addr} (hp : H p = none) : p ∉ z.mu ∧ p ∉ [z.tk, z.fl, z.nl, z.al] := by
  obtain ⟨A, hA⟩ := h
  have nn : ∀ {b : Addr} {o : HO}, H b = some o → p ≠ b := fun e h => by rw [← h, hp] at e; cases e
  refine ⟨fun hm => ?_, fun hm => ?_⟩
  · simp only [Pz.mu, List.mem_cons, List.not_mem_nil, or_false] at hm
    rcases hm with h | h | h | h
    · exact nn hA.ob h
    · exact nn hA.fl h
    · exact nn hA.nl h
    · exact nn hA.al h
  · simp only [List.mem_cons, List.not_mem_nil, or_false] at hm
    rcases hm with h | h | h | h
    · exact nn hA.tk h
    · exact nn hA.fl h
    · exact nn hA.nl h
    · exact nn hA.al h
theorem peopleS_few (s : Ps) (t : Tk) : (peopleS s t).fs.length ≤ s.fs.length + 1 ∧ (s.names.length ≤ 6 → (peopleS s t).names.length ≤ 6) := by
  unfold peopleS
  split
  · exact ⟨by show (s.fs ++ [_]).length ≤ _; rw [List.length_append]; exact Nat.le_refl _, id⟩
  · split
    · exact ⟨by show (s.fs ++ [_]).length ≤ _; rw [List.length_append]; exact Nat.le_refl _, id⟩
    · rename_i h
      exact ⟨Nat.le_succ _, fun h6 => by show (s.names ++ [t.t]).length ≤ 6; rw [List.length_append]; simp only [List.length_cons, List.length_nil]; omega⟩
theorem people_few : ∀ (ts : List Tk) (s : Ps), (ts.foldl peopleS s).fs.length ≤ s.fs.length + ts.length ∧ (s.names.length ≤ 6 → (ts.foldl peopleS s).names.length ≤ 6)
  | [], s => ⟨Nat.le_refl _, id⟩
  | t :: ts, s => by
    obtain ⟨h1, h2⟩ := people_few ts (peopleS s t)
    obtain ⟨g1, g2⟩ := peopleS_few s t
    refine ⟨?_, fun h => h2 (g2 h)⟩
    rw [List.foldl_cons, List.length_cons]; omega
theorem allF_len {k : Str} {ts tk rest : List Tk} (h : allF k ts = .ok (tk, rest)) : tk.length + rest.length + 1 = ts.length := by
  cases ts with
  | nil => cases h
  | cons t r =>
    have h : (if t.k = k then withE (t :: r.takeWhile (isK k)) (wordF ";" (r.dropWhile (isK k))) else .error (t.l, t.c)) = .ok (tk, rest) := h
    split at h
    · have e : r.takeWhile (isK k) ++ r.dropWhile (isK k) = r := List.takeWhile_append_dropWhile
      cases hd : r.dropWhile (isK k) with
      | nil => rw [hd] at h; cases h
      | cons u v =>
        rw [hd] at h
        by_cases hu : u.t = ";"
        · rw [wordF_yes hu] at h
          cases h
          have := congrArg List.length e
          rw [List.length_append, hd] at this
          simp only [List.length_cons] at this ⊢
          omega
        · rw [wordF_no hu] at h; cases h
    · cases h
section
variable {P : Program} {w : World} {K : PySem.W.Frag} {mg : Str → Option Value} {base : Heap} {CT CP CF : Addr}
def spPersonG (CP CT : Addr) : Sp := fun vs H Q _ => ∃ (z : Pz) (L : List (Addr × Tk)) (n : Nat) (s : Ps) (a : Addr) (t : Tk), vs = [.ref z.x, .ref a] ∧ PG CP CT z L n s H ∧ (a, t) ∈ L ∧ s.fs.length ≤ 100000 ∧
  ∀ H', Wd z.mu H H' [] → PG CP CT z L n (personF s t).2 H' → Q (.int ((personF s t).1 : Nat)) H'
theorem me_personG (D : MethAt K CP "person" "Parser.person" sParser_person ["self", "token"]) (PC : ParCls K CP) (TC : TokCls K CT) (C1 : MeAt P w K mg base 1 CP "found" ["self", "reason", "token"] (spFoundG CP CT)) : MeAt P w K mg base 2 CP "person" ["self", "token"] (spPersonG CP CT) := D.me fun f fd F => by
  have nd := scParser_person.nd
  have cl_Parser := PC.cl
  obtain ⟨f1, fd1, me_found, b_found, G_found⟩ := C1.ex
  refine F.ok scParser_person (fun vs H Q E h => ?_) (fun cdv A outer s H vs Q E hr h => ?_)
  · obtain ⟨z, L, n, s, a, t, rfl, _⟩ := h; rfl
  obtain ⟨z, L, n, sv, a, t, rfl, hp0, ht, hf, q⟩ := h
  obtain ⟨Aa, hp⟩ := id hp0
  refine ⟨_, (pss_cons (ps_if (pt_cmpR (r := rIn K false) op_in_seq (pe_fldK (K := K) rfl (pv 1) rfl) (pe_fldK (K := K) rfl (pv 0) rfl) (by rfl))
 (pss_one (ps_ret (pe_bmK (K := K) rfl PySem.F.plainAttrs_list PySem.F.slot_list_index PySem.F.type_list_index mt_index (pe_fldK (K := K) rfl (pv 0) rfl) (pa_cons (pe_fldK (K := K) rfl (pv 1) rfl) pa_nil))))
 pss_nil)
 (pss_cons (ps_expr (pe_meth (pv 0) cl_Parser me_found G_found (hr.mono (by first | decide | omega)) b_found .nil pass0 (pa_cons pe_str (pa_cons (pv 1) pa_nil))))
 (pss_one (ps_ret pe_int)))), ?_⟩
  obtain ⟨tdx, hta⟩ := hp.ts _ ht
  refine ⟨_, rfl, a, CT, tdx, _, _, rfl, hta, TC.cl, TC.nt, tk_text _ _ _ _, _, rfl, z.x, CP, z.dx, _, _, rfl, hp.ob, PC.cl, PC.n4, gf_names, z.nl, sv.names.map V.str, rfl, .inl (SqL.of hp.nl), rfl, flat_strs' _, _, rfl, ?_⟩
  rw [if_neg Bool.false_ne_true, inV_strs]
  by_cases hm : t.t ∈ sv.names
  · have e : personF sv t = (ixOf sv.names t.t, sv) := if_pos hm
    rw [e] at q
    refine ite2 (fun _ => ?_) (fun h => absurd (decide_eq_true hm) h)
    obtain ⟨i1, i2⟩ := ixOf_at hm
    refine ⟨_, rfl, z.x, CP, z.dx, _, _, rfl, hp.ob, PC.cl, PC.n4, gf_names, .inl ⟨rfl, _, SqL.of hp.nl⟩, _, rfl, a, CT, tdx, _, _, rfl, hta, TC.cl, TC.nt, tk_text _ _ _ _, ?_⟩
    refine ⟨z.nl, sv.names.map V.str, .str t.t, ixOf sv.names t.t, .str t.t, rfl, rfl, SqL.of hp.nl, rfl, flat_strs' _, by rw [List.getElem?_map, i1]; rfl, by rw [eqV_str]; exact decide_eq_true rfl, fun m z' hm hz' => ?_, q _ (Wd.frefl _ _) hp0⟩
    rw [List.getElem?_map] at hz'
    cases e : sv.names[m]? with
    | none => rw [e] at hz'; cases hz'
    | some y =>
      rw [e] at hz'
      cases hz'
      rw [eqV_str, decide_eq_false_iff_not]
      rintro rfl
      exact i2 m hm e
  · have e : personF sv t = (0, sv.bad t "unknown") := if_neg hm
    rw [e] at q
    refine ite2 (fun h => absurd (of_decide_eq_true h) hm) (fun _ => ?_)
    exact ⟨_, rfl, z.x, z.dx, _, rfl, hp.ob, gf_none (by decide +kernel), _, rfl, z, L, n, sv, a, t, "unknown", rfl, hp0, ht, Nat.le_trans hf (by decide), fun H' w' hp' => q H' w' hp'⟩
def spPeopleG (CP CT CF : Addr) : Sp := fun vs H Q E => ∃ (z : Pz) (L : List (Addr × Tk)) (n : Nat) (s : Ps) (ts : List Tk), vs = [.ref z.x] ∧ PG CP CT z L n s H ∧ L.length ≤ 10000 ∧ Rm L n ts ∧ EndOk ts ∧ Few s ts ∧ s.names.length ≤ 6 ∧
  match peopleF s ts with
  | .ok (s', rest) => ∀ H' n', Wd z.mu H H' [] → PG CP CT z L n' s' H' → Rm L n' rest → EndOk rest → Q .non H'
  | .error e => ∀ (d : Addr) (H' : Hp), Wd z.mu H H' [(d, synD e.1 e.2)] → E (.ref CF) (some d) H'
theorem me_peopleG (D : MethAt K CP "parse_people" "Parser.parse_people" sParser_parse_people ["self"]) (T : Bi mg) (PC : ParCls K CP) (TC : TokCls K CT) (LC : LexC K mg) (hMP : ∃ t, mg "MAX_PEOPLE" = some (.int 6 t)) (C1 : MeX P w K mg base 4 CP "take_word" ["self", "word"] (spTakeWG CP CT CF))
    (C2 : MeX P w K mg base 5 CP "take_all" ["self", "kind"] (spAllG CP CT CF)) (C3 : MeAt P w K mg base 1 CP "found" ["self", "reason", "token"] (spFoundG CP CT)) : MeX P w K mg base 6 CP "parse_people" ["self"] (spPeopleG CP CT CF) := D.meX fun f fd F => by
  have nd := scParser_parse_people.nd
  have cl_Parser := PC.cl
  obtain ⟨t1, c_NAME⟩ := LC.NAME
  obtain ⟨t2, c_MAX_PEOPLE⟩ := hMP
  obtain ⟨f1, fd1, me_take_word, b_take_word, G_take_word⟩ := C1.ex
  obtain ⟨f2, fd2, me_take_all, b_take_all, G_take_all⟩ := C2.ex
  obtain ⟨f3, fd3, me_found, b_found, G_found⟩ := C3.ex
  refine F.okX scParser_parse_people (fun vs H Q E h => ?_) (fun cdv A outer s H vs Q E hr h => ?_)
  · obtain ⟨z, L, n, s, ts, rfl, _⟩ := h; rfl
  obtain ⟨z, L, n, sv, ts, rfl, hp, hll, hts, he, hfew, hn6, q⟩ := h
  refine ⟨_, (pss_cons (ps_expr (pe_meth (pv 0) cl_Parser me_take_word G_take_word (hr.mono (by first | decide | omega)) b_take_word .nil (passes_call (takes_of rfl rfl rfl rfl) (fun _ _ _ _ h => h)) (pa_cons pe_str pa_nil)))
 (pss_one (ps_for (passes_of rfl) rfl (pi_listK (K := K) rfl (pe_meth (pv 0) cl_Parser me_take_all G_take_all (hr.mono (by first | decide | omega)) b_take_all .nil (passes_call (takes_of rfl rfl rfl rfl) (fun _ _ _ _ h => h)) (pa_cons (pe_glob (v := .str "name") (by rfl) c_NAME ⟨_, rfl⟩) pa_nil))) (pg_name (i := 1) nd rfl (Or.inl rfl))
 (pss_one (ps_if (pt_cmpR (r := rIn K false) op_in_seq (pe_fldK (K := K) rfl (pv 1) rfl) (pe_fldK (K := K) rfl (pv 0) rfl) (by rfl))
 (pss_one (ps_expr (pe_meth (pv 0) cl_Parser me_found G_found (hr.mono (by first | decide | omega)) b_found .nil pass0 (pa_cons pe_str (pa_cons (pv 1) pa_nil)))))
 (pss_one (ps_if (pt_cmpR op_eq (pe_callB (r := rLenS K) call_len_seq (by rfl) T.len PySem.boot_len (pa_cons (pe_fldK (K := K) rfl (pv 0) rfl) pa_nil)) (pe_glob (v := .int 6) (by rfl) c_MAX_PEOPLE ⟨_, rfl⟩) (nomark _))
 (pss_one (ps_expr (pe_meth (pv 0) cl_Parser me_found G_found (hr.mono (by first | decide | omega)) b_found .nil pass0 (pa_cons pe_str (pa_cons (pv 1) pa_nil)))))
 (pss_one (ps_expr (pe_bmK (K := K) rfl PySem.F.plainAttrs_list PySem.F.slot_list_append PySem.F.type_list_append mt_append (pe_fldK (K := K) rfl (pv 0) rfl) (pa_cons (pe_fldK (K := K) rfl (pv 1) rfl) pa_nil))))))))))), ?_⟩
  obtain ⟨t0, r0, rfl⟩ := he.ne
  obtain ⟨⟨a0, h0⟩, hts1⟩ := hts.cons
  obtain ⟨A0, hA0⟩ := id hp
  refine ⟨_, rfl, z.x, z.dx, _, rfl, hA0.ob, gf_none (by decide +kernel), z, L, n, sv, a0, t0, "people", rfl, hp, h0, fun hw H1 c1 hp1 => ?_, fun hw d H1 w1 => ?_⟩
  rotate_left
  · have e : peopleF sv (t0 :: r0) = .error (t0.l, t0.c) := by
      unfold peopleF
      rw [wordF_no hw]; rfl
    rw [e] at q
    exact q d H1 (w1.mono fun _ h => nomatch h)
  have e0 : peopleF sv (t0 :: r0) = bindE (fun p => .ok (p.1.foldl peopleS sv, p.2)) (allF "name" r0) := by
    unfold peopleF
    rw [wordF_yes hw]; rfl
  rw [e0] at q
  have he1 := he.tail (.inr (by rw [hw]; decide +kernel))
  obtain ⟨A1, hA1⟩ := id hp1
  refine ⟨_, rfl, z.x, z.dx, _, rfl, hA1.ob, gf_none (by decide +kernel), z, L, n + 1, sv, "name", r0, rfl, hp1, by decide +kernel, Nat.le_trans hll (by decide), hts1, he1, ?_⟩
  cases hal : allF "name" r0 with
  | error e =>
    rw [hal] at q
    exact fun d H2 w2 => q d H2 (c1.go2 w2)
  | ok pr =>
  obtain ⟨tk, rest⟩ := pr
  rw [hal] at q
  intro H2 p sub n2 c2 hp2 hr2 he2 hpn hsub hmap hmem
  have hlen := allF_len hal
  have hfew' : sv.fs.length + 3 * (r0.length + 1) ≤ 30000 := hfew
  obtain ⟨po1, po2⟩ := hp1.out hpn
  have hsl : (prefs sub).length = tk.length := by rw [prefs_len, ← hmap, List.length_map]
  refine ⟨p, rfl, ⟨_, SqL.of hsub⟩, ?_⟩
  refine for_it (walk_list (xs := prefs sub)) (fun i σ H' => (∃ b, σ = [some (.ref z.x), b]) ∧ Wd z.mu H H' [] ∧ PG CP CT z L n2 ((tk.take i).foldl peopleS sv) H' ∧ H' p = some (.lst (prefs sub))) ?_ ?_ ?_ ?_
  · exact ⟨⟨_, rfl⟩, c1.fgo c2, hp2, hsub⟩
  · rintro i σ H' _ ⟨_, _, _, h⟩
    exact SqL.of h
  · rintro i x σ H3 H3' hi ⟨⟨b, rfl⟩, c3, hp3, hs3⟩ ⟨rfl, hx⟩
    obtain ⟨a, t, rfl, ht, hm⟩ : ∃ a t, x = V.ref a ∧ tk[i]? = some t ∧ (a, t) ∈ sub := by
      unfold prefs at hx
      rw [List.getElem?_map] at hx
      obtain ⟨⟨a, t⟩, h1, h2⟩ := Option.map_eq_some_iff.mp hx
      exact ⟨a, t, h2.symm, by rw [← hmap, List.getElem?_map, h1]; rfl, List.mem_of_getElem? h1⟩
    have hil : i < tk.length := (List.getElem?_eq_some_iff.mp ht).1
    have hstep : (tk.take (i + 1)).foldl peopleS sv = peopleS ((tk.take i).foldl peopleS sv) t := by rw [take_more ht, List.foldl_append]; rfl
    obtain ⟨k1, k2⟩ := people_few (tk.take i) sv
    have k1' : ((tk.take i).foldl peopleS sv).fs.length ≤ 30000 := by
      rw [List.length_take] at k1; omega
    have k6 := k2 hn6
    generalize (tk.take i).foldl peopleS sv = si at hp3 hstep k1' k6
    obtain ⟨A3, hA3⟩ := id hp3
    obtain ⟨tdx, hta⟩ := hA3.ts _ (hmem _ hm)
    refine ⟨_, rfl, a, CT, tdx, _, _, rfl, hta, TC.cl, TC.nt, tk_text _ _ _ _, _, rfl, z.x, CP, z.dx, _, _, rfl, hA3.ob, PC.cl, PC.n4, gf_names, z.nl, si.names.map V.str, rfl, .inl (SqL.of hA3.nl), rfl, flat_strs' _, _, rfl, ?_⟩
    rw [if_neg Bool.false_ne_true, inV_strs]
    have fin : ∀ why : Str, peopleS si t = si.bad t why → ∀ H4, Wd z.mu H3' H4 [] → PG CP CT z L n2 (si.bad t why) H4 → (∃ b, [some (V.ref z.x), some (V.ref a)] = [some (V.ref z.x), b]) ∧ Wd z.mu H H4 [] ∧ PG CP CT z L n2 ((tk.take (i + 1)).foldl peopleS sv) H4 ∧ H4 p = some (.lst (prefs sub)) := fun why e H4 w4 hp4 =>
      ⟨⟨_, rfl⟩, c3.fgo w4, by rw [hstep, e]; exact hp4, w4.base _ _ po1 hs3⟩
    by_cases hmm : t.t ∈ si.names
    · have e : peopleS si t = si.bad t "duplicate" := if_pos hmm
      refine ite2 (fun _ => ?_) (fun h => absurd (decide_eq_true hmm) h)
      exact ⟨_, rfl, z.x, z.dx, _, rfl, hA3.ob, gf_none (by decide +kernel), _, rfl, z, L, n2, si, a, t, "duplicate", rfl, hp3, hmem _ hm, Nat.le_trans k1' (by decide), fun H4 w4 hp4 => fin _ e H4 w4 hp4⟩
    refine ite2 (fun h => absurd (of_decide_eq_true h) hmm) (fun _ => ?_)
    refine ⟨_, rfl, z.x, CP, z.dx, _, _, rfl, hA3.ob, PC.cl, PC.n4, gf_names, z.nl, _, rfl, .inl (SqL.of hA3.nl), rfl, _, rfl, ?_⟩
    by_cases h6 : si.names.length = 6
    · have e : peopleS si t = si.bad t "people" := by unfold peopleS; rw [if_neg hmm, if_pos h6]
      refine ite2 (fun _ => ?_) (fun h => absurd (decide_eq_true (by rw [List.length_map, h6]; rfl)) h)
      exact ⟨_, rfl, z.x, z.dx, _, rfl, hA3.ob, gf_none (by decide +kernel), _, rfl, z, L, n2, si, a, t, "people", rfl, hp3, hmem _ hm, Nat.le_trans k1' (by decide), fun H4 w4 hp4 => fin _ e H4 w4 hp4⟩
    · have e : peopleS si t = { si with names := si.names ++ [t.t] } := by unfold peopleS; rw [if_neg hmm, if_neg h6]
      refine ite2 (fun h => absurd (of_decide_eq_true h) (fun e => h6 (by rw [List.length_map] at e; injection e with e; omega))) (fun _ => ?_)
      refine ⟨_, rfl, z.x, CP, z.dx, _, _, rfl, hA3.ob, PC.cl, PC.n4, gf_names, .inl ⟨rfl, _, SqL.of hA3.nl⟩, _, rfl, a, CT, tdx, _, _, rfl, hta, TC.cl, TC.nt, tk_text _ _ _ _, ?_⟩
      have en : si.names.map V.str ++ [V.str t.t] = (si.names ++ [t.t]).map V.str := by rw [List.map_append]; rfl
      refine ⟨z.nl, _, _, rfl, rfl, hA3.nl, ?_, ⟨_, rfl⟩, ?_, ?_, ?_⟩
      · rw [List.length_map]; exact Nat.lt_of_lt_of_le (m := 100) (by omega) (by decide)
      · exact c3.fput _ (.inr (by simp [Pz.mu])) hA3.nl (fun _ q => by cases q)
      · rw [hstep, e, en]; exact hp3.setN _
      · have hne : p ≠ z.nl := fun e => po1 (by rw [e]; simp [Pz.mu])
        rw [upd_ne hne]; exact hs3
  · rintro σ H3 ⟨⟨b, rfl⟩, c3, hp3, hs3⟩
    rw [hsl, List.take_length] at hp3
    exact q H3 n2 c3 hp3 hr2 he2
end
end Br

namespace Br
open PySem PySem.Spec PyProof.Rows L2
/-! ### the turns -/
def turnS (p : Ps × List Nat) (t : Tk) : Ps × List Nat := (if p.2.length = 12 then (personF p.1 t).2.bad t "turns" else (personF p.1 t).2, p.2 ++ [(personF p.1 t).1])
def missF (start : Tk) (p : Ps × List Nat) : Ps := if (List.range p.1.names.length).any (fun k => !decide (k ∈ p.2)) then p.1.bad start "missing" else p.1
def turnsF (s : Ps) (ts : List Tk) : Except (Nat × Nat) ((Ps × List Nat) × List Tk) :=
  match ts with
  | [] => .error (0, 0)
  | st :: _ => bindE (fun ts1 => bindE (fun p => .ok ((missF st (p.1.foldl turnS (s, [])), (p.1.foldl turnS (s, [])).2), p.2)) (allF "name" ts1)) (wordF "turns" ts)
theorem personF_few (s : Ps) (t : Tk) : (personF s t).2.fs.length ≤ s.fs.length + 1 ∧ (personF s t).2.names = s.names ∧ (s.names ≠ [] → (personF s t).1 < s.names.length) := by
  unfold personF
  split
  · rename_i h
    exact ⟨Nat.le_succ _, rfl, fun _ => (List.getElem?_eq_some_iff.mp (ixOf_at h).1).1⟩
  · refine ⟨by show (s.fs ++ [_]).length ≤ _; rw [List.length_append]; exact Nat.le_refl _, rfl, fun h => ?_⟩
    cases hn : s.names with
    | nil => exact absurd hn h
    | cons a l => exact Nat.succ_pos _
theorem bad_len (s : Ps) (t : Tk) (w : Str) : (s.bad t w).fs.length = s.fs.length + 1 := by
  show (s.fs ++ [_]).length = _
  rw [List.length_append]; rfl
theorem turnS_few (p : Ps × List Nat) (t : Tk) : (turnS p t).1.fs.length ≤ p.1.fs.length + 2 ∧ (turnS p t).1.names = p.1.names ∧ (turnS p t).2.length = p.2.length + 1 := by
  obtain ⟨h1, h2, _⟩ := personF_few p.1 t
  unfold turnS
  refine ⟨?_, ?_, by rw [List.length_append]; rfl⟩
  · dsimp only
    split
    · rw [bad_len]; omega
    · omega
  · dsimp only
    split
    · exact h2
    · exact h2
theorem turn_few : ∀ (ts : List Tk) (p : Ps × List Nat), (ts.foldl turnS p).1.fs.length ≤ p.1.fs.length + 2 * ts.length ∧ (ts.foldl turnS p).1.names = p.1.names ∧ (ts.foldl turnS p).2.length = p.2.length + ts.length
  | [], p => ⟨Nat.le_refl _, rfl, rfl⟩
  | t :: ts, p => by
    obtain ⟨h1, h2, h3⟩ := turn_few ts (turnS p t)
    obtain ⟨g1, g2, g3⟩ := turnS_few p t
    refine ⟨?_, h2.trans g2, ?_⟩
    · rw [List.foldl_cons, List.length_cons]; omega
    · rw [List.foldl_cons, List.length_cons]; omega
section
variable {P : Program} {w : World} {K : PySem.W.Frag} {mg : Str → Option Value} {base : Heap} {CT CP CF : Addr}
def spTurnsG (CP CT CF : Addr) : Sp := fun vs H Q E => ∃ (z : Pz) (L : List (Addr × Tk)) (n : Nat) (s : Ps) (ts : List Tk), vs = [.ref z.x] ∧ PG CP CT z L n s H ∧ L.length ≤ 10000 ∧ Rm L n ts ∧ EndOk ts ∧ Few s ts ∧ s.names.length ≤ 6 ∧
  match turnsF s ts with
  | .ok ((s', js), rest) => ∀ H' n' r, Wd z.mu H H' [] → PG CP CT z L n' s' H' → Rm L n' rest → EndOk rest → H' r = some (.tup (js.map fun j : Nat => V.int j)) → Q (.ref r) H'
  | .error e => ∀ (d : Addr) (H' : Hp), Wd z.mu H H' [(d, synD e.1 e.2)] → E (.ref CF) (some d) H'
theorem me_turnsG (D : MethAt K CP "parse_turns" "Parser.parse_turns" sParser_parse_turns ["self"]) (T : Bi mg) (PC : ParCls K CP) (TC : TokCls K CT) (LC : LexC K mg) (hMP : ∃ t, mg "MAX_TURNS" = some (.int 12 t))
    (C0 : MeAt P w K mg base 1 CP "peek" ["self"] (spPeekG CP CT)) (C1 : MeX P w K mg base 4 CP "take_word" ["self", "word"] (spTakeWG CP CT CF)) (C2 : MeX P w K mg base 5 CP "take_all" ["self", "kind"] (spAllG CP CT CF))
    (C3 : MeAt P w K mg base 2 CP "person" ["self", "token"] (spPersonG CP CT)) (C4 : MeAt P w K mg base 1 CP "found" ["self", "reason", "token"] (spFoundG CP CT)) : MeX P w K mg base 6 CP "parse_turns" ["self"] (spTurnsG CP CT CF) := D.meX fun f fd F => by
  have nd := scParser_parse_turns.nd
  have cl_Parser := PC.cl
  obtain ⟨t1, c_NAME⟩ := LC.NAME
  obtain ⟨t2, c_MAX_TURNS⟩ := hMP
  obtain ⟨f0, fd0, me_peek, b_peek, G_peek⟩ := C0.ex
  obtain ⟨f1, fd1, me_take_word, b_take_word, G_take_word⟩ := C1.ex
  obtain ⟨f2, fd2, me_take_all, b_take_all, G_take_all⟩ := C2.ex
  obtain ⟨f3, fd3, me_person, b_person, G_person⟩ := C3.ex
  obtain ⟨f4, fd4, me_found, b_found, G_found⟩ := C4.ex
  refine F.okX scParser_parse_turns (fun vs H Q E h => ?_) (fun cdv A outer s H vs Q E hr h => ?_)
  · obtain ⟨z, L, n, s, ts, rfl, _⟩ := h; rfl
  obtain ⟨z, L, n, sv, ts, rfl, hp, hll, hts, he, hfew, hn6, q⟩ := h
  refine ⟨_, (pss_cons (ps_set (i := 1) nd rfl (Or.inl rfl) (pe_meth0 (pv 0) cl_Parser me_peek G_peek (hr.mono (by first | decide | omega)) b_peek .nil pass0))
 (pss_cons (ps_expr (pe_meth (pv 0) cl_Parser me_take_word G_take_word (hr.mono (by first | decide | omega)) b_take_word .nil (passes_call (takes_of rfl rfl rfl rfl) (fun _ _ _ _ h => h)) (pa_cons pe_str pa_nil)))
 (pss_cons (ps_set (i := 2) nd rfl (Or.inr rfl) (pe_lst pa_nil))
 (pss_cons (ps_for (passes_of rfl) rfl (pi_enum (by rfl) T.enumerate (pa_cons (pe_meth (pv 0) cl_Parser me_take_all G_take_all (hr.mono (by first | decide | omega)) b_take_all .nil (passes_call (takes_of rfl rfl rfl rfl) (fun _ _ _ _ h => h)) (pa_cons (pe_glob (v := .str "name") (by rfl) c_NAME ⟨_, rfl⟩) pa_nil)) pa_nil)) (pg_tupK (K := K) (n := 2) rfl rfl (pgs_cons (pg_name (i := 3) nd rfl (Or.inl rfl)) (pgs_cons (pg_name (i := 4) nd rfl (Or.inl rfl)) pgs_nil)))
 (pss_cons (ps_expr (pe_bmK (K := K) rfl PySem.F.plainAttrs_list PySem.F.slot_list_append PySem.F.type_list_append mt_append (pv 2) (pa_cons (pe_meth (pv 0) cl_Parser me_person G_person (hr.mono (by first | decide | omega)) b_person .nil pass0 (pa_cons (pv 4) pa_nil)) pa_nil)))
 (pss_one (ps_if (pt_cmpR op_eq (pv 3) (pe_glob (v := .int 12) (by rfl) c_MAX_TURNS ⟨_, rfl⟩) (nomark _))
 (pss_one (ps_expr (pe_meth (pv 0) cl_Parser me_found G_found (hr.mono (by first | decide | omega)) b_found .nil pass0 (pa_cons pe_str (pa_cons (pv 4) pa_nil)))))
 pss_nil))))
 (C8.pss_cut (ps_if (pt_val (pe_callB (r := L2.rAny K) (cr_any rfl) (by rfl) T.any (by decide +kernel) (pa_cons (pe_lc (own := [("person", 5)]) rfl nd (pi_range1 (by rfl) T.range (pa_cons (pe_callB (r := rLenS K) call_len_seq (by rfl) T.len PySem.boot_len (pa_cons (pe_fldK (K := K) rfl (pv 0) rfl) pa_nil)) pa_nil)) (blkOk_by (N := ["self", "start", "turns", "index", "token", "person"]) (sc := defScope sParser_parse_turns) (by decide +kernel)) (fun _ _ _ _ _ => (pg_name (i := 5) nd rfl (Or.inl rfl))) (fun _ _ _ _ _ => pts_nil) (fun _ _ _ _ _ => (pe_cmpR (r := rIn K true) op_notIn_seq (pv 5) (pv 2) (by rfl)))) pa_nil)))
 (pss_one (ps_expr (pe_meth (pv 0) cl_Parser me_found G_found (hr.mono (by first | decide | omega)) b_found .nil pass0 (pa_cons pe_str (pa_cons (pv 1) pa_nil)))))
 pss_nil)
 (pss_one (ps_ret (pe_callTy (r := rTupOf K) call_tuple_of (by rfl) T.tuple (by decide +kernel) (pa_cons (pv 2) pa_nil))))))))), ?_⟩
  obtain ⟨t0, r0, rfl⟩ := he.ne
  obtain ⟨⟨a0, h0⟩, hts1⟩ := hts.cons
  obtain ⟨A0, hA0⟩ := id hp
  refine ⟨_, rfl, z.x, z.dx, _, rfl, hA0.ob, gf_none (by decide +kernel), z, L, n, sv, a0, t0, rfl, hp, h0, ?_⟩
  refine ⟨_, rfl, z.x, z.dx, _, rfl, hA0.ob, gf_none (by decide +kernel), z, L, n, sv, a0, t0, "turns", rfl, hp, h0, fun hw H1 c1 hp1 => ?_, fun hw d H1 w1 => ?_⟩
  rotate_left
  · have e : turnsF sv (t0 :: r0) = .error (t0.l, t0.c) := by
      unfold turnsF
      dsimp only
      rw [wordF_no hw]; rfl
    rw [e] at q
    exact q d H1 (w1.mono fun _ h => nomatch h)
  have e0 : turnsF sv (t0 :: r0) = bindE (fun p => .ok ((missF t0 (p.1.foldl turnS (sv, [])), (p.1.foldl turnS (sv, [])).2), p.2)) (allF "name" r0) := by
    unfold turnsF
    dsimp only
    rw [wordF_yes hw]; rfl
  rw [e0] at q
  have he1 := he.tail (.inr (by rw [hw]; decide +kernel))
  refine ⟨(by show 0 ≤ sizeLine; decide), fun tq htq => ?_⟩
  have htqN := c1.free _ htq
  have htq0 := hp1.out htq
  have c1 := c1.fnew (.lst []) htq
  have hp1 := hp1.wd0 ((Wd.refl H1).new (.lst []) htq)
  have htq1 : upd H1 tq (.lst []) tq = some (.lst (([] : List Nat).map fun j : Nat => V.int j)) := upd_same
  generalize upd H1 tq (.lst []) = H1 at *
  obtain ⟨A1, hA1⟩ := id hp1
  refine ⟨_, rfl, z.x, z.dx, _, rfl, hA1.ob, gf_none (by decide +kernel), z, L, n + 1, sv, "name", r0, rfl, hp1, by decide +kernel, Nat.le_trans hll (by decide), hts1, he1, ?_⟩
  cases hal : allF "name" r0 with
  | error e =>
    rw [hal] at q
    exact fun d H2 w2 => q d H2 (c1.go2 w2)
  | ok pr =>
  obtain ⟨tk, rest⟩ := pr
  rw [hal] at q
  intro H2 p sub n2 c2 hp2 hr2 he2 hpn hsub hmap hmem
  have hlen := allF_len hal
  have hfew' : sv.fs.length + 3 * (r0.length + 1) ≤ 30000 := hfew
  obtain ⟨po1, po2⟩ := hp1.out hpn
  have hpt : p ≠ tq := (ne_of_none htq1 hpn).symm
  have htq2 := c2.base _ _ htq0.1 htq1
  have hsl : (prefs sub).length = tk.length := by rw [prefs_len, ← hmap, List.length_map]
  have tkl : tk.length ≤ 10000 := by omega
  refine ⟨p, _, rfl, SqL.of hsub, ?_⟩
  refine for_it (walk_enum (xs := prefs sub)) (fun i σ H' => (∃ b c d, σ = [some (.ref z.x), some (.ref a0), some (.ref tq), b, c, d]) ∧ Wd z.mu H H' [] ∧ PG CP CT z L n2 ((tk.take i).foldl turnS (sv, [])).1 H' ∧ H' p = some (.lst (prefs sub)) ∧ H' tq = some (.lst (((tk.take i).foldl turnS (sv, [])).2.map fun j : Nat => V.int j))) ?_ ?_ ?_ ?_
  · exact ⟨⟨_, _, _, rfl⟩, c1.fgo c2, hp2, hsub, htq2⟩
  · rintro i σ H' _ ⟨_, _, _, h, _⟩
    exact SqL.of h
  · rintro i x σ H3 H3' hi ⟨⟨b, c, d, rfl⟩, c3, hp3, hs3, hq3⟩ ⟨T0, x1, x2, rfl, hT0, rfl, e1, e2⟩
    cases e1
    obtain ⟨a, t, rfl, ht, hm⟩ : ∃ a t, x2 = V.ref a ∧ tk[i]? = some t ∧ (a, t) ∈ sub := by
      have e2 : (prefs sub)[i]? = some x2 := e2
      unfold prefs at e2
      rw [List.getElem?_map] at e2
      obtain ⟨⟨a, t⟩, h1, h2⟩ := Option.map_eq_some_iff.mp e2
      exact ⟨a, t, h2.symm, by rw [← hmap, List.getElem?_map, h1]; rfl, List.mem_of_getElem? h1⟩
    have hil : i < tk.length := (List.getElem?_eq_some_iff.mp ht).1
    have hstep : (tk.take (i + 1)).foldl turnS (sv, []) = turnS ((tk.take i).foldl turnS (sv, [])) t := by rw [take_more ht, List.foldl_append]; rfl
    obtain ⟨k1, k2, k3⟩ := turn_few (tk.take i) (sv, [])
    rw [List.length_take, Nat.min_eq_left (Nat.le_of_lt hil)] at k1 k3
    have k1' : ((tk.take i).foldl turnS (sv, [])).1.fs.length ≤ 30000 := by
      have : (sv, ([] : List Nat)).1.fs.length = sv.fs.length := rfl
      omega
    have k3' : ((tk.take i).foldl turnS (sv, [])).2.length = i := by rw [k3]; exact Nat.zero_add _
    generalize (tk.take i).foldl turnS (sv, []) = pi at hp3 hq3 hstep k1' k3'
    obtain ⟨si, ji⟩ := pi
    have hpT := ne_of_none hs3 hT0
    have hqT := ne_of_none hq3 hT0
    have c4 := c3.fnew (.tup [.int (i : Nat), .ref a]) hT0
    have w4 := (Wd.refl H3).new (.tup [.int (i : Nat), .ref a]) hT0
    have hp4 := hp3.wd0 w4
    have hT4 := w4.get 0 rfl
    have hs4 := w4.old hs3 (by simp)
    have hq4 := w4.old hq3 (by simp)
    generalize upd H3 T0 (.tup [.int (i : Nat), .ref a]) = H4 at *
    obtain ⟨A4, hA4⟩ := id hp4
    refine ⟨T0, _, rfl, SqT.of hT4, rfl, _, _, rfl, _, _, rfl, rfl, ?_⟩
    refine ⟨_, rfl, .inl ⟨rfl, _, SqL.of hq4⟩, _, rfl, z.x, z.dx, _, rfl, hA4.ob, gf_none (by decide +kernel), _, rfl, z, L, n2, si, a, t, rfl, hp4, hmem _ hm, Nat.le_trans k1' (by decide), fun H5 c5 hp5 => ?_⟩
    have hq5 := c5.base _ _ htq0.1 hq4
    have hs5 := c5.base _ _ po1 hs4
    have c45 := c4.fgo c5
    obtain ⟨pf1, _⟩ := personF_few si t
    have e6 : (ji.map fun j : Nat => V.int j) ++ [V.int ((personF si t).1 : Nat)] = ((ji ++ [(personF si t).1]).map fun j : Nat => V.int j) := by rw [List.map_append]; rfl
    have hji : ji.length = i := k3'
    have k1'' : si.fs.length ≤ 30000 := k1'
    refine ⟨tq, _, _, rfl, rfl, hq5, (by rw [List.length_map, hji]; exact Nat.lt_of_lt_of_le (m := 100000) (by omega) (by decide)), ?_⟩
    rw [e6]
    have c6 := c45.fput (.lst ((ji ++ [(personF si t).1]).map fun j : Nat => V.int j)) (.inl htqN) hq5 (fun _ q => by cases q)
    have hp6 := hp5.putL (o := .lst ((ji ++ [(personF si t).1]).map fun j : Nat => V.int j)) hq5 htq0.2
    have hs6 : upd H5 tq (.lst ((ji ++ [(personF si t).1]).map fun j : Nat => V.int j)) p = some (.lst (prefs sub)) := (upd_ne hpt).trans hs5
    have hq6 : upd H5 tq (.lst ((ji ++ [(personF si t).1]).map fun j : Nat => V.int j)) tq = some (.lst ((ji ++ [(personF si t).1]).map fun j : Nat => V.int j)) := upd_same
    generalize upd H5 tq (.lst ((ji ++ [(personF si t).1]).map fun j : Nat => V.int j)) = H6 at *
    refine ⟨_, rfl, rfl, _, rfl, ?_⟩
    by_cases h12 : i = 12
    · have e : turnS (si, ji) t = ((personF si t).2.bad t "turns", ji ++ [(personF si t).1]) := by unfold turnS; dsimp only; rw [if_pos (hji.trans h12)]
      rw [e] at hstep
      refine ite2 (fun _ => ?_) (fun h => absurd (decide_eq_true (by rw [h12]; rfl)) h)
      obtain ⟨A6, hA6⟩ := id hp6
      refine ⟨_, rfl, z.x, z.dx, _, rfl, hA6.ob, gf_none (by decide +kernel), _, rfl, z, L, n2, _, a, t, "turns", rfl, hp6, hmem _ hm, Nat.le_trans (by omega : _ ≤ 30001) (by decide), fun H7 c7 hp7 => ?_⟩
      exact ⟨⟨_, _, _, rfl⟩, c6.fgo c7, by rw [hstep]; exact hp7, c7.base _ _ po1 hs6, by rw [hstep]; exact c7.base _ _ htq0.1 hq6⟩
    · have e : turnS (si, ji) t = ((personF si t).2, ji ++ [(personF si t).1]) := by unfold turnS; dsimp only; rw [if_neg (fun h => h12 (hji.symm.trans h))]
      rw [e] at hstep
      refine ite2 (fun h => absurd (of_decide_eq_true h) (fun e => h12 (by injection e with e; omega))) (fun _ => ?_)
      exact ⟨⟨_, _, _, rfl⟩, c6, by rw [hstep]; exact hp6, hs6, by rw [hstep]; exact hq6⟩
  · rintro σ H3 ⟨⟨b, c, d, rfl⟩, c3, hp3, hs3, hq3⟩
    rw [hsl, List.take_length] at hp3 hq3
    obtain ⟨k1, k2, k3⟩ := turn_few tk (sv, [])
    have k2' : (tk.foldl turnS (sv, [])).1.names.length ≤ 6 := by rw [k2]; exact hn6
    have k1' : (tk.foldl turnS (sv, [])).1.fs.length ≤ 30000 := by
      have : (sv, ([] : List Nat)).1.fs.length = sv.fs.length := rfl
      omega
    have q : ∀ H' n' r, Wd z.mu H H' [] → PG CP CT z L n' (missF t0 (tk.foldl turnS (sv, []))) H' → Rm L n' rest → EndOk rest → H' r = some (.tup ((tk.foldl turnS (sv, [])).2.map fun j : Nat => V.int j)) → Q (.ref r) H' := q
    have k3' : (tk.foldl turnS (sv, [])).2.length ≤ 10000 := by rw [k3]; show 0 + tk.length ≤ _; omega
    generalize tk.foldl turnS (sv, []) = pe at hp3 hq3 q k1' k2' k3'
    obtain ⟨se, je⟩ := pe
    have hp3 : PG CP CT z L n2 se H3 := hp3
    have hq3 : H3 tq = some (.lst (je.map fun j : Nat => V.int j)) := hq3
    have k2' : se.names.length ≤ 6 := k2'
    have k1' : se.fs.length ≤ 30000 := k1'
    obtain ⟨A3, hA3⟩ := id hp3
    refine ⟨fun σ' H' => (∃ e, σ' = [some (.ref z.x), some (.ref a0), some (.ref tq), b, c, e]) ∧ Wd z.mu H H' [] ∧ PG CP CT z L n2 (missF t0 (se, je)) H' ∧ H' tq = some (.lst (je.map fun j : Nat => V.int j)), ?_, ?_⟩
    rotate_left
    · rintro σ6 H6 ⟨⟨e6, rfl⟩, c6, hp6, hq6⟩
      refine ⟨_, rfl, tq, _, rfl, .inl ⟨SqL.of hq6, fun l hl => ?_⟩⟩
      exact q _ n2 l (c6.fnew _ hl) (hp6.wd0 ((Wd.refl H6).new _ hl)) hr2 he2 upd_same
    refine ⟨_, rfl, z.x, CP, z.dx, _, _, rfl, hA3.ob, PC.cl, PC.n4, gf_names, z.nl, se.names.map V.str, rfl, .inl (SqL.of hA3.nl), _, rfl, by rw [List.length_map]; omega, by rw [List.length_map]; omega, fun D hD => ?_⟩
    have w4 := (Wd.refl H3).new (.lst []) hD
    have en : (((se.names.map V.str).length : Nat) : Int).toNat = se.names.length := by rw [List.length_map]; omega
    rw [en]
    refine lc_range (lo := 0) (n := se.names.length) (fun i H2 => Wd [] H3 H2 [(D, .lst (((List.range i).map fun k => !decide (k ∈ je)).map V.bl))]) w4 ?_ ?_
    · rintro i H5 hi w5
      have ej : (je.map fun j : Nat => V.int j) = (je.map fun j : Nat => (j : Int)).map V.int := by rw [List.map_map]; rfl
      refine ⟨rfl, _, rfl, _, rfl, tq, _, rfl, .inl (SqL.of (w5.old hq3 (by simp))), rfl, by rw [ej]; exact flat_ints _, _, w5.get 0 rfl, ?_, ?_⟩
      · rw [List.length_map, List.length_map, List.length_range]; exact Nat.lt_of_lt_of_le (m := 100) (by omega) (by decide)
      · rw [if_pos rfl, ej, inV_ints]
        have ed : decide ((0 : Int) + (i : Nat) ∈ je.map fun j : Nat => (j : Int)) = decide (i ∈ je) := by
          rw [decide_eq_decide, Int.zero_add, List.mem_map]
          exact ⟨fun ⟨a, h1, h2⟩ => by have : a = i := by omega
                                       rw [← this]; exact h1, fun h => ⟨i, h, rfl⟩⟩
        rw [ed]
        have := w5.put 0 (.lst (((List.range i).map fun k => !decide (k ∈ je)).map V.bl ++ [V.bl (!decide (i ∈ je))])) rfl (fun _ q => by cases q)
        rw [List.range_succ, List.map_append, List.map_append]
        exact this
    · intro H5 w5
      refine ⟨D, _, rfl, SqL.of (w5.get 0 rfl), _, rfl, ?_⟩
      have ea : ((List.range se.names.length).map fun k => !decide (k ∈ je)).any id = (List.range se.names.length).any fun k => !decide (k ∈ je) := by rw [List.any_map]; rfl
      rw [ea]
      have c5 : Wd z.mu H H5 [] := c3.fgo ((w5.sub (List.nil_sublist _)).mono fun _ h => nomatch h)
      have hp5 := hp3.wd0 w5
      have hq5 := w5.old hq3 (by simp)
      cases hm : (List.range se.names.length).any fun k => !decide (k ∈ je) with
      | true =>
        have e : missF t0 (se, je) = se.bad t0 "missing" := by unfold missF; dsimp only; rw [hm]; rfl
        refine iteT ?_
        obtain ⟨A5, hA5⟩ := id hp5
        refine ⟨_, rfl, z.x, z.dx, _, rfl, hA5.ob, gf_none (by decide +kernel), _, rfl, z, L, n2, se, a0, t0, "missing", rfl, hp5, List.mem_of_getElem? h0, Nat.le_trans k1' (by decide), fun H6 c6 hp6 => ?_⟩
        exact ⟨⟨_, rfl⟩, c5.fgo c6, by rw [e]; exact hp6, c6.base _ _ htq0.1 hq5⟩
      | false =>
        have e : missF t0 (se, je) = se := by unfold missF; dsimp only; rw [hm]; rfl
        refine iteF ?_
        exact ⟨⟨_, rfl⟩, c5, by rw [e]; exact hp5, hq5⟩
end
end Br

namespace Br
open PySem PySem.Spec PyProof.Rows L2
/-! ### the weights -/
/-- the number tokens are numbers -/
def NumOk (L : List (Addr × Tk)) : Prop := ∀ q ∈ L, q.2.k = "number" → ∃ v : Nat, v ≤ 99 ∧ q.2.t = num v
def valT (t : Str) : Int := (intText? t).getD 0
theorem valT_ok {t : Str} {v : Nat} (h : v ≤ 99) (e : t = num v) : intText? t = some (valT t) ∧ t.length ≤ 640 ∧ valT t = v := by
  obtain ⟨h1, h2⟩ := int_num' (i := (v : Int)) (by omega) (by omega)
  rw [← e] at h1 h2
  have : valT t = v := by unfold valT; rw [h1]; rfl
  exact ⟨by rw [this]; exact h1, h2, this⟩
def wS (p : Ps × Nat) (t : Tk) : Ps × Nat := (if p.2 = p.1.names.length ∨ ¬ (1 ≤ valT t.t ∧ valT t.t ≤ 9) then p.1.bad t "weights" else p.1, p.2 + 1)
def twiceF (b : Bool) (st : Tk) (s : Ps) : Ps := if b = true then s.bad st "twice" else s
def shortF (st : Tk) (m : Nat) (s : Ps) : Ps := if m < s.names.length then s.bad st "weights" else s
def weightsF (s : Ps) (ts : List Tk) : PR :=
  match ts with
  | [] => .error (0, 0)
  | st :: _ => bindE (fun ts1 => bindE (fun p => .ok ({ shortF st p.1.length (p.1.foldl wS (twiceF s.W.isSome st s, 0)).1 with W := some (p.1.map fun t => valT t.t) }, p.2)) (allF "number" ts1)) (wordF "weights" ts)
theorem wS_few (p : Ps × Nat) (t : Tk) : (wS p t).1.fs.length ≤ p.1.fs.length + 1 ∧ (wS p t).1.names = p.1.names ∧ (wS p t).2 = p.2 + 1 := by
  unfold wS
  refine ⟨?_, ?_, rfl⟩
  · dsimp only
    split
    · rw [bad_len]; exact Nat.le_refl _
    · exact Nat.le_succ _
  · dsimp only
    split
    · rfl
    · rfl
theorem w_few : ∀ (ts : List Tk) (p : Ps × Nat), (ts.foldl wS p).1.fs.length ≤ p.1.fs.length + ts.length ∧ (ts.foldl wS p).1.names = p.1.names ∧ (ts.foldl wS p).2 = p.2 + ts.length
  | [], p => ⟨Nat.le_refl _, rfl, rfl⟩
  | t :: ts, p => by
    obtain ⟨h1, h2, h3⟩ := w_few ts (wS p t)
    obtain ⟨g1, g2, g3⟩ := wS_few p t
    refine ⟨?_, h2.trans g2, ?_⟩
    · rw [List.foldl_cons, List.length_cons]; omega
    · rw [List.foldl_cons, List.length_cons]; omega
theorem twice_few (b : Bool) (st : Tk) (s : Ps) : (twiceF b st s).fs.length ≤ s.fs.length + 1 ∧ (twiceF b st s).names = s.names := by
  unfold twiceF
  split
  · exact ⟨by rw [bad_len]; exact Nat.le_refl _, rfl⟩
  · exact ⟨Nat.le_succ _, rfl⟩
theorem allF_kind {k : Str} {ts tk rest : List Tk} (h : allF k ts = .ok (tk, rest)) : ∀ t ∈ tk, t.k = k := by
  cases ts with
  | nil => cases h
  | cons t r =>
    have h : (if t.k = k then withE (t :: r.takeWhile (isK k)) (wordF ";" (r.dropWhile (isK k))) else .error (t.l, t.c)) = .ok (tk, rest) := h
    split at h
    · rename_i hk
      cases hd : wordF ";" (r.dropWhile (isK k)) with
      | error e => rw [hd] at h; cases h
      | ok v =>
        rw [hd] at h
        cases h
        intro x hx
        rcases List.mem_cons.mp hx with rfl | hx
        · exact hk
        · exact of_decide_eq_true (List.all_eq_true.mp List.all_takeWhile x hx)
    · cases h
section
variable {P : Program} {w : World} {K : PySem.W.Frag} {mg : Str → Option Value} {base : Heap} {CT CP CF : Addr}
def spWeightsG (CP CT CF : Addr) : Sp := fun vs H Q E => ∃ (z : Pz) (L : List (Addr × Tk)) (n : Nat) (s : Ps) (ts : List Tk), vs = [.ref z.x] ∧ PG CP CT z L n s H ∧ L.length ≤ 10000 ∧ NumOk L ∧ Rm L n ts ∧ EndOk ts ∧ Few s ts ∧ s.names.length ≤ 6 ∧
  match weightsF s ts with
  | .ok (s', rest) => ∀ H' n', Wd z.mu H H' [] → PG CP CT z L n' s' H' → Rm L n' rest → EndOk rest → Q .non H'
  | .error e => ∀ (d : Addr) (H' : Hp), Wd z.mu H H' [(d, synD e.1 e.2)] → E (.ref CF) (some d) H'
theorem me_weightsG (D : MethAt K CP "parse_weights" "Parser.parse_weights" sParser_parse_weights ["self"]) (T : Bi mg) (PC : ParCls K CP) (TC : TokCls K CT) (LC : LexC K mg) (hMP : ∃ t, mg "MAX_WEIGHT" = some (.int 9 t))
    (C0 : MeAt P w K mg base 1 CP "peek" ["self"] (spPeekG CP CT)) (C1 : MeX P w K mg base 4 CP "take_word" ["self", "word"] (spTakeWG CP CT CF)) (C2 : MeX P w K mg base 5 CP "take_all" ["self", "kind"] (spAllG CP CT CF))
    (C4 : MeAt P w K mg base 1 CP "found" ["self", "reason", "token"] (spFoundG CP CT)) : MeX P w K mg base 6 CP "parse_weights" ["self"] (spWeightsG CP CT CF) := D.meX fun f fd F => by
  have nd := scParser_parse_weights.nd
  have cl_Parser := PC.cl
  obtain ⟨t1, c_NUMBER⟩ := LC.NUMBER
  obtain ⟨t2, c_MAX_WEIGHT⟩ := hMP
  obtain ⟨f0, fd0, me_peek, b_peek, G_peek⟩ := C0.ex
  obtain ⟨f1, fd1, me_take_word, b_take_word, G_take_word⟩ := C1.ex
  obtain ⟨f2, fd2, me_take_all, b_take_all, G_take_all⟩ := C2.ex
  obtain ⟨f4, fd4, me_found, b_found, G_found⟩ := C4.ex
  refine F.okX scParser_parse_weights (fun vs H Q E h => ?_) (fun cdv A outer s H vs Q E hr h => ?_)
  · obtain ⟨z, L, n, s, ts, rfl, _⟩ := h; rfl
  obtain ⟨z, L, n, sv, ts, rfl, hp, hll, hnum, hts, he, hfew, hn6, q⟩ := h
  refine ⟨_, (pss_cons (ps_set (i := 1) nd rfl (Or.inl rfl) (pe_meth0 (pv 0) cl_Parser me_peek G_peek (hr.mono (by first | decide | omega)) b_peek .nil pass0))
 (pss_cons (ps_expr (pe_meth (pv 0) cl_Parser me_take_word G_take_word (hr.mono (by first | decide | omega)) b_take_word .nil (passes_call (takes_of rfl rfl rfl rfl) (fun _ _ _ _ h => h)) (pa_cons pe_str pa_nil)))
 (pss_cons (ps_set (i := 2) nd rfl (Or.inl rfl) (pe_meth (pv 0) cl_Parser me_take_all G_take_all (hr.mono (by first | decide | omega)) b_take_all .nil (passes_call (takes_of rfl rfl rfl rfl) (fun _ _ _ _ h => h)) (pa_cons (pe_glob (v := .str "number") (by rfl) c_NUMBER ⟨_, rfl⟩) pa_nil)))
 (C8.pss_cut (ps_if (pt_cmpR op_notN (pe_fldK (K := K) rfl (pv 0) rfl) pe_non (nomark _))
 (pss_one (ps_expr (pe_meth (pv 0) cl_Parser me_found G_found (hr.mono (by first | decide | omega)) b_found .nil pass0 (pa_cons pe_str (pa_cons (pv 1) pa_nil)))))
 pss_nil)
 (pss_cons (ps_for (passes_of rfl) rfl (pi_enum (by rfl) T.enumerate (pa_cons (pv 2) pa_nil)) (pg_tupK (K := K) (n := 2) rfl rfl (pgs_cons (pg_name (i := 3) nd rfl (Or.inl rfl)) (pgs_cons (pg_name (i := 4) nd rfl (Or.inl rfl)) pgs_nil)))
 (pss_one (ps_if (PW.pt (pw_or (pt_cmpR op_eq (pv 3) (pe_callB (r := rLenS K) call_len_seq (by rfl) T.len PySem.boot_len (pa_cons (pe_fldK (K := K) rfl (pv 0) rfl) pa_nil)) (nomark _)) (pw_or1 (pt_not (pt_chain op_le op_le pe_int (pe_callTy call_int_str (by rfl) T.int (by decide +kernel) (pa_cons (pe_fldK (K := K) rfl (pv 4) rfl) pa_nil)) (pe_glob (v := .int 9) (by rfl) c_MAX_WEIGHT ⟨_, rfl⟩))))))
 (pss_one (ps_expr (pe_meth (pv 0) cl_Parser me_found G_found (hr.mono (by first | decide | omega)) b_found .nil pass0 (pa_cons pe_str (pa_cons (pv 4) pa_nil)))))
 pss_nil)))
 (C8.pss_cut (ps_if (pt_cmpR op_lt (pe_callB (r := rLenS K) call_len_seq (by rfl) T.len PySem.boot_len (pa_cons (pv 2) pa_nil)) (pe_callB (r := rLenS K) call_len_seq (by rfl) T.len PySem.boot_len (pa_cons (pe_fldK (K := K) rfl (pv 0) rfl) pa_nil)) (nomark _))
 (pss_one (ps_expr (pe_meth (pv 0) cl_Parser me_found G_found (hr.mono (by first | decide | omega)) b_found .nil pass0 (pa_cons pe_str (pa_cons (pv 1) pa_nil)))))
 pss_nil)
 (pss_one (ps_fld (pv 0) (pe_callTy (r := rTupOf K) call_tuple_of (by rfl) T.tuple (by decide +kernel) (pa_cons (pe_lc (own := [("token", 4)]) rfl nd (pi_listK (K := K) rfl (pv 2)) (blkOk_by (N := ["self", "start", "tokens", "index", "token"]) (sc := defScope sParser_parse_weights) (by decide +kernel)) (fun _ _ _ _ _ => (pg_name (i := 4) nd rfl (Or.inl rfl))) (fun _ _ _ _ _ => pts_nil) (fun _ _ _ _ _ => (pe_callTy call_int_str (by rfl) T.int (by decide +kernel) (pa_cons (pe_fldK (K := K) rfl (pv 4) rfl) pa_nil)))) pa_nil)) rfl)))))))), ?_⟩
  obtain ⟨t0, r0, rfl⟩ := he.ne
  obtain ⟨⟨a0, h0⟩, hts1⟩ := hts.cons
  obtain ⟨A0, hA0⟩ := id hp
  refine ⟨_, rfl, z.x, z.dx, _, rfl, hA0.ob, gf_none (by decide +kernel), z, L, n, sv, a0, t0, rfl, hp, h0, ?_⟩
  refine ⟨_, rfl, z.x, z.dx, _, rfl, hA0.ob, gf_none (by decide +kernel), z, L, n, sv, a0, t0, "weights", rfl, hp, h0, fun hw H1 c1 hp1 => ?_, fun hw d H1 w1 => ?_⟩
  rotate_left
  · have e : weightsF sv (t0 :: r0) = .error (t0.l, t0.c) := by
      unfold weightsF
      dsimp only
      rw [wordF_no hw]; rfl
    rw [e] at q
    exact q d H1 (w1.mono fun _ h => nomatch h)
  have e0 : weightsF sv (t0 :: r0) = bindE (fun p => .ok ({ shortF t0 p.1.length (p.1.foldl wS (twiceF sv.W.isSome t0 sv, 0)).1 with W := some (p.1.map fun t => valT t.t) }, p.2)) (allF "number" r0) := by
    unfold weightsF
    dsimp only
    rw [wordF_yes hw]; rfl
  rw [e0] at q
  have he1 := he.tail (.inr (by rw [hw]; decide +kernel))
  obtain ⟨A1, hA1⟩ := id hp1
  refine ⟨_, rfl, z.x, z.dx, _, rfl, hA1.ob, gf_none (by decide +kernel), z, L, n + 1, sv, "number", r0, rfl, hp1, by decide +kernel, Nat.le_trans hll (by decide), hts1, he1, ?_⟩
  cases hal : allF "number" r0 with
  | error e =>
    rw [hal] at q
    exact fun d H2 w2 => q d H2 (c1.go2 w2)
  | ok pr =>
  obtain ⟨tk, rest⟩ := pr
  rw [hal] at q
  intro H2 p sub n2 c2 hp2 hr2 he2 hpn hsub hmap hmem
  have hlen := allF_len hal
  have hfew' : sv.fs.length + 3 * (r0.length + 1) ≤ 30000 := hfew
  obtain ⟨po1, po2⟩ := hp1.out hpn
  have hsl : (prefs sub).length = tk.length := by rw [prefs_len, ← hmap, List.length_map]
  have tkl : tk.length ≤ 10000 := by omega
  have hkk := allF_kind hal
  have tokv : ∀ (i : Nat) (x : V), (prefs sub)[i]? = some x → ∃ a t, x = .ref a ∧ tk[i]? = some t ∧ (a, t) ∈ L ∧ intText? t.t = some (valT t.t) ∧ t.t.length ≤ 640 := fun i x hx => by
    unfold prefs at hx
    rw [List.getElem?_map] at hx
    obtain ⟨⟨a, t⟩, h1, h2⟩ := Option.map_eq_some_iff.mp hx
    have ht : tk[i]? = some t := by rw [← hmap, List.getElem?_map, h1]; rfl
    have hm := hmem _ (List.mem_of_getElem? h1)
    obtain ⟨v, hv, e⟩ := hnum _ hm (hkk t (List.mem_of_getElem? ht))
    obtain ⟨g1, g2, _⟩ := valT_ok hv e
    exact ⟨a, t, h2.symm, ht, hm, g1, g2⟩
  have c2' := c1.fgo c2
  obtain ⟨A2, hA2⟩ := id hp2
  -- twice
  refine ⟨fun σ' H' => σ' = [some (.ref z.x), some (.ref a0), some (.ref p), none, none] ∧ Wd z.mu H H' [] ∧ PG CP CT z L n2 (twiceF sv.W.isSome t0 sv) H' ∧ H' p = some (.lst (prefs sub)), ?_, ?_⟩
  · refine ⟨_, rfl, z.x, CP, z.dx, _, _, rfl, hA2.ob, PC.cl, PC.n5, gf_weights, ?_⟩
    refine ⟨rfl, _, rfl, ?_⟩
    cases hW : sv.W with
    | none =>
      refine iteF ?_
      exact ⟨rfl, c2', hp2, hsub⟩
    | some l =>
      refine iteT ?_
      refine ⟨_, rfl, z.x, z.dx, _, rfl, hA2.ob, gf_none (by decide +kernel), _, rfl, z, L, n2, sv, a0, t0, "twice", rfl, hp2, List.mem_of_getElem? h0, by omega, fun H3 c3 hp3 => ?_⟩
      exact ⟨rfl, c2'.fgo c3, hp3, c3.base _ _ po1 hsub⟩
  rintro σ3 H3 ⟨rfl, c3, hp3, hs3⟩
  obtain ⟨tw1, tw2⟩ := twice_few sv.W.isSome t0 sv
  generalize twiceF sv.W.isSome t0 sv = sT at hp3 q tw1 tw2
  -- the numbers
  refine ⟨_, rfl, p, _, rfl, SqL.of hs3, ?_⟩
  refine for_it (walk_enum (xs := prefs sub)) (fun i σ H' => (∃ c d, σ = [some (.ref z.x), some (.ref a0), some (.ref p), c, d]) ∧ Wd z.mu H H' [] ∧ PG CP CT z L n2 ((tk.take i).foldl wS (sT, 0)).1 H' ∧ H' p = some (.lst (prefs sub))) ?_ ?_ ?_ ?_
  · exact ⟨⟨_, _, rfl⟩, c3, hp3, hs3⟩
  · rintro i σ H' _ ⟨_, _, _, h⟩
    exact SqL.of h
  · rintro i x σ H4 H4' hi ⟨⟨c, d, rfl⟩, c4, hp4, hs4⟩ ⟨T0, x1, x2, rfl, hT0, rfl, e1, e2⟩
    cases e1
    obtain ⟨a, t, rfl, ht, hm, hn1, hn2⟩ := tokv i _ e2
    have hil : i < tk.length := (List.getElem?_eq_some_iff.mp ht).1
    have hstep : (tk.take (i + 1)).foldl wS (sT, 0) = wS ((tk.take i).foldl wS (sT, 0)) t := by rw [take_more ht, List.foldl_append]; rfl
    obtain ⟨k1, k2, k3⟩ := w_few (tk.take i) (sT, 0)
    rw [List.length_take, Nat.min_eq_left (Nat.le_of_lt hil)] at k1 k3
    have k1' : ((tk.take i).foldl wS (sT, 0)).1.fs.length ≤ 30000 := by
      have : (sT, 0).1.fs.length = sT.fs.length := rfl
      omega
    have k2' : ((tk.take i).foldl wS (sT, 0)).1.names = sv.names := k2.trans tw2
    have k3' : ((tk.take i).foldl wS (sT, 0)).2 = i := by rw [k3]; exact Nat.zero_add _
    generalize (tk.take i).foldl wS (sT, 0) = pi at hp4 hstep k1' k2' k3'
    obtain ⟨si, ji⟩ := pi
    have k1'' : si.fs.length ≤ 30000 := k1'
    have k2'' : si.names = sv.names := k2'
    have k3'' : ji = i := k3'
    subst k3''
    have c5 := c4.fnew (.tup [.int (ji : Nat), .ref a]) hT0
    have w5 := (Wd.refl H4).new (.tup [.int (ji : Nat), .ref a]) hT0
    have hp5 : PG CP CT z L n2 si _ := hp4.wd0 w5
    have hT5 := w5.get 0 rfl
    have hs5 := w5.old hs4 (by simp)
    generalize upd H4 T0 (.tup [.int (ji : Nat), .ref a]) = H5 at *
    obtain ⟨A5, hA5⟩ := id hp5
    obtain ⟨tdx, hta⟩ := hA5.ts _ hm
    refine ⟨T0, _, rfl, SqT.of hT5, rfl, _, _, rfl, _, _, rfl, rfl, ?_⟩
    have fnd : wS (si, ji) t = (si.bad t "weights", ji + 1) → _ := fun (e : wS (si, ji) t = (si.bad t "weights", ji + 1)) => (⟨_, rfl, z.x, z.dx, _, rfl, hA5.ob, gf_none (by decide +kernel), _, rfl, z, L, n2, si, a, t, "weights", rfl, hp5, hm, Nat.le_trans k1'' (by decide), fun H6 c6 hp6 =>
      ⟨⟨_, _, rfl⟩, c5.fgo c6, by rw [hstep, e]; exact hp6, c6.base _ _ po1 hs5⟩⟩ : tDrop (tMeth CP "found" (spFoundG CP CT) [] E0 (tVar 0) (tCons (tC (.str "weights")) (tCons (tVar 4) tNil))) { nx := fun σ H' => (∃ c d, σ = [some (.ref z.x), some (.ref a0), some (.ref p), c, d]) ∧ Wd z.mu H H' [] ∧ PG CP CT z L n2 ((tk.take (ji + 1)).foldl wS (sT, 0)).1 H' ∧ H' p = some (.lst (prefs sub)), rt := Q } [some (.ref z.x), some (.ref a0), some (.ref p), some (.int (ji : Nat)), some (.ref a)] H5)
    refine ⟨_, rfl, _, rfl, z.x, CP, z.dx, _, _, rfl, hA5.ob, PC.cl, PC.n4, gf_names, z.nl, _, rfl, .inl (SqL.of hA5.nl), rfl, _, rfl, ?_⟩
    by_cases hE : ji = sv.names.length
    · have e : wS (si, ji) t = (si.bad t "weights", ji + 1) := by unfold wS; dsimp only; rw [if_pos (.inl (by rw [k2'']; exact hE))]
      exact ite2 (fun _ => iteT (fnd e)) (fun h => absurd (decide_eq_true (by rw [List.length_map, k2'', hE])) h)
    refine ite2 (fun h => absurd (of_decide_eq_true h) (fun e => hE (by injection e with e; rw [List.length_map, k2''] at e; omega))) (fun _ => ?_)
    refine ⟨_, rfl, a, CT, tdx, _, _, rfl, hta, TC.cl, TC.nt, tk_text _ _ _ _, _, valT t.t, rfl, hn1, hn2, _, _, rfl, rfl, _, rfl, ?_⟩
    by_cases h1 : 1 ≤ valT t.t
    · refine ite2 (fun _ => ?_) (fun h => absurd (decide_eq_true h1) h)
      refine ⟨_, _, rfl, rfl, _, rfl, ?_⟩
      by_cases h9 : valT t.t ≤ 9
      · have e : wS (si, ji) t = (si, ji + 1) := by unfold wS; dsimp only; rw [if_neg (by rintro (h | h); exact hE (by rw [← k2'']; exact h); exact h ⟨h1, h9⟩)]
        rw [decide_eq_true h9]
        refine iteF ?_
        exact ⟨⟨_, _, rfl⟩, c5, by rw [hstep, e]; exact hp5, hs5⟩
      · have e : wS (si, ji) t = (si.bad t "weights", ji + 1) := by unfold wS; dsimp only; rw [if_pos (.inr (fun h => h9 h.2))]
        rw [decide_eq_false h9]
        exact iteT (fnd e)
    · have e : wS (si, ji) t = (si.bad t "weights", ji + 1) := by unfold wS; dsimp only; rw [if_pos (.inr (fun h => h1 h.1))]
      refine ite2 (fun h => absurd (of_decide_eq_true h) h1) (fun _ => ?_)
      exact ⟨_, rfl, iteT (fnd e)⟩
  · rintro σ H4 ⟨⟨c, d, rfl⟩, c4, hp4, hs4⟩
    rw [hsl, List.take_length] at hp4
    obtain ⟨k1, k2, _⟩ := w_few tk (sT, 0)
    have k1' : (tk.foldl wS (sT, 0)).1.fs.length ≤ 30000 := by
      have : (sT, 0).1.fs.length = sT.fs.length := rfl
      omega
    have k2' : (tk.foldl wS (sT, 0)).1.names = sv.names := k2.trans tw2
    have q : ∀ H' n', Wd z.mu H H' [] → PG CP CT z L n' { shortF t0 tk.length (tk.foldl wS (sT, 0)).1 with W := some (tk.map fun t => valT t.t) } H' → Rm L n' rest → EndOk rest → Q .non H' := q
    generalize (tk.foldl wS (sT, 0)).1 = se at hp4 q k1' k2'
    obtain ⟨A4, hA4⟩ := id hp4
    refine ⟨fun σ' H' => (∃ c d, σ' = [some (.ref z.x), some (.ref a0), some (.ref p), c, d]) ∧ Wd z.mu H H' [] ∧ PG CP CT z L n2 (shortF t0 tk.length se) H' ∧ H' p = some (.lst (prefs sub)), ?_, ?_⟩
    · refine ⟨_, rfl, p, _, rfl, .inl (SqL.of hs4), _, rfl, z.x, CP, z.dx, _, _, rfl, hA4.ob, PC.cl, PC.n4, gf_names, z.nl, _, rfl, .inl (SqL.of hA4.nl), _, _, rfl, rfl, _, rfl, ?_⟩
      by_cases hs : tk.length < se.names.length
      · have e : shortF t0 tk.length se = se.bad t0 "weights" := if_pos hs
        refine ite2 (fun _ => ?_) (fun h => absurd (decide_eq_true (by rw [List.length_map, hsl]; omega)) h)
        refine ⟨_, rfl, z.x, z.dx, _, rfl, hA4.ob, gf_none (by decide +kernel), _, rfl, z, L, n2, se, a0, t0, "weights", rfl, hp4, List.mem_of_getElem? h0, Nat.le_trans k1' (by decide), fun H5 c5 hp5 => ?_⟩
        exact ⟨⟨_, _, rfl⟩, c4.fgo c5, by rw [e]; exact hp5, c5.base _ _ po1 hs4⟩
      · have e : shortF t0 tk.length se = se := if_neg hs
        refine ite2 (fun h => absurd (of_decide_eq_true h) (by rw [List.length_map, hsl]; omega)) (fun _ => ?_)
        exact ⟨⟨_, _, rfl⟩, c4, by rw [e]; exact hp4, hs4⟩
    · rintro σ5 H5 ⟨⟨c, d, rfl⟩, c5, hp5, hs5⟩
      refine ⟨_, rfl, p, rfl, ⟨_, SqL.of hs5⟩, fun D hD => ?_⟩
      have w0 := (Wd.refl H5).new (.lst []) hD
      refine lc_list (K := K) (a := p) (xs := prefs sub) (fun i H2 => Wd [] H5 H2 [(D, .lst (((tk.take i).map fun t => valT t.t).map V.int))]) w0 (fun i H2 _ w => SqL.of (w.old hs5 (by simp))) ?_ ?_
      · rintro i x H6 hx w6
        obtain ⟨a, t, rfl, ht, hm, hn1, hn2⟩ := tokv i _ hx
        have hil : i < tk.length := (List.getElem?_eq_some_iff.mp ht).1
        obtain ⟨A6, hA6⟩ := hp5.wd0 w6
        obtain ⟨tdx, hta⟩ := hA6.ts _ hm
        refine ⟨rfl, _, rfl, a, CT, tdx, _, _, rfl, hta, TC.cl, TC.nt, tk_text _ _ _ _, _, valT t.t, rfl, hn1, hn2, _, w6.get 0 rfl, ?_, ?_⟩
        · rw [List.length_map, List.length_map, List.length_take]; exact Nat.lt_of_lt_of_le (m := 100000) (by omega) (by decide)
        · rw [take_more ht, List.map_append, List.map_append]
          exact w6.put 0 (.lst (((tk.take i).map fun t => valT t.t).map V.int ++ [V.int (valT t.t)])) rfl (fun _ q => by cases q)
      · intro H6 w6
        rw [hsl, List.take_length] at w6
        refine ⟨D, _, rfl, .inl ⟨SqL.of (w6.get 0 rfl), fun b hb => ?_⟩⟩
        have c6 : Wd z.mu H H6 [] := c5.fgo ((w6.sub (List.nil_sublist _)).mono fun _ h => nomatch h)
        have c7 := c6.fnew (.tup ((tk.map fun t => valT t.t).map V.int)) hb
        have hp7 := (hp5.wd0 w6).wd0 ((Wd.refl H6).new (.tup ((tk.map fun t => valT t.t).map V.int)) hb)
        obtain ⟨A7, hA7⟩ := id hp7
        refine ⟨_, rfl, z.x, CP, z.dx, _, rfl, hA7.ob, PC.cl, PC.n5, (by show 7 < 1000; decide), ?_⟩
        rw [gf_putW b (tk.map fun t => valT t.t)]
        refine q _ n2 (c7.fput _ (.inr (by simp [Pz.mu])) hA7.ob (fun _ q => by cases q)) ⟨_, hA7.setX n2 _ _ rfl rfl rfl rfl rfl (fun l hl => ?_) hA7.m⟩ hr2 he2
        cases hl
        exact upd_same
end
end Br

namespace Br
open PySem PySem.Spec PyProof.Rows L2
/-! ### an absence -/
def mods : List Int := [2, 3, 4, 6, 8, 12]
def awayB (st : Tk) (s : Ps) (tr tm : Tk) : Ps := if valT tm.t ∉ mods then s.bad tm "away" else if valT tm.t ≤ valT tr.t then s.bad tr "away" else if s.aws.length = 20 then s.bad st "away" else s
def awayEnd (st : Tk) (p : Nat × Ps) (tr tm : Tk) : Ps := { awayB st p.2 tr tm with aws := (awayB st p.2 tr tm).aws ++ [((p.1 : Int), valT tr.t, valT tm.t)] }
def awayF (s : Ps) (ts : List Tk) : PR :=
  match ts with
  | [] => .error (0, 0)
  | st :: _ => bindE (fun t1 => bindE (fun p1 => bindE (fun p2 => bindE (fun t4 => bindE (fun p3 => bindE (fun t6 => .ok (awayEnd st (personF s p1.1) p2.1 p3.1, t6)) (wordF ";" p3.2)) (takeF "number" t4)) (wordF "of" p2.2)) (takeF "number" p1.2)) (takeF "name" t1)) (wordF "away" ts)
theorem takeF_no {w : Str} {t : Tk} {r : List Tk} (h : t.k ≠ w) : takeF w (t :: r) = .error (t.l, t.c) := if_neg h
theorem takeF_yes {w : Str} {t : Tk} {r : List Tk} (h : t.k = w) : takeF w (t :: r) = .ok (t, r) := if_pos h
theorem bindE_ok {α β : Type} (f : α → Except (Nat × Nat) β) (a : α) : bindE f (.ok a) = f a := rfl
theorem bindE_er {α β : Type} (f : α → Except (Nat × Nat) β) (e : Nat × Nat) : bindE f (.error e) = .error e := rfl
theorem PG.setA {CP CT : Addr} {z : Pz} {L : List (Addr × Tk)} {n : Nat} {s : Ps} {H : Hp} (h : PG CP CT z L n s H) (t : Int × Int × Int) : ∃ as : List Addr, H z.al = some (.lst (as.map V.ref)) ∧ as.length = s.aws.length ∧ ∀ b, H b = some (.tup (tri t)) → PG CP CT z L n { s with aws := s.aws ++ [t] } (upd H z.al (.lst ((as ++ [b]).map V.ref))) := by
  obtain ⟨A, h⟩ := h
  refine ⟨A.as, h.al, h.aw.length, fun b hb => ⟨{ A with as := A.as ++ [b] }, ?_⟩⟩
  have hn := h.ne
  simp only [List.nodup_cons, List.mem_cons, List.not_mem_nil, or_false, not_or] at hn
  have k : ∀ {c : Addr} {u : HO}, H c = some u → c ≠ z.al → upd H z.al (.lst ((A.as ++ [b]).map V.ref)) c = some u := fun e n => by rw [upd_ne n]; exact e
  have k2 : ∀ {c : Addr} {u : HO}, H c = some u → (∀ xs, u ≠ .lst xs) → upd H z.al (.lst ((A.as ++ [b]).map V.ref)) c = some u := fun e n => k e (ne_of e h.al (n _))
  refine ⟨k2 h.ob (fun _ q => by cases q), k h.tk hn.2.1.2.2, fun q hq => ?_, k h.fl hn.2.2.1.2, h.fn, fun i a f e1 e2 => k2 (h.ft i a f e1 e2) (fun _ q => by cases q), k h.nl hn.2.2.2.1, upd_same, ?_, fun l e => k2 (h.w l e) (fun _ q => by cases q), fun l e => k2 (h.m l e) (fun _ q => by cases q), h.ne, h.cn⟩
  · obtain ⟨dx, e⟩ := h.ts q hq
    exact ⟨dx, k2 e (fun _ q => by cases q)⟩
  · exact (h.aw.keep fun b xs e => k2 e (fun _ q => by cases q)).append (.cons (k2 hb (fun _ q => by cases q)) .nil)
section
variable {P : Program} {w : World} {K : PySem.W.Frag} {mg : Str → Option Value} {base : Heap} {CT CP CF : Addr}
def spAwayG (CP CT CF : Addr) : Sp := fun vs H Q E => ∃ (z : Pz) (L : List (Addr × Tk)) (n : Nat) (s : Ps) (ts : List Tk), vs = [.ref z.x] ∧ PG CP CT z L n s H ∧ L.length ≤ 10000 ∧ NumOk L ∧ Rm L n ts ∧ EndOk ts ∧ Few s ts ∧ s.aws.length ≤ 10000 ∧
  match awayF s ts with
  | .ok (s', rest) => ∀ H' n', Wd z.mu H H' [] → PG CP CT z L n' s' H' → Rm L n' rest → EndOk rest → Q .non H'
  | .error e => ∀ (d : Addr) (H' : Hp), Wd z.mu H H' [(d, synD e.1 e.2)] → E (.ref CF) (some d) H'
theorem me_awayG (D : MethAt K CP "parse_away" "Parser.parse_away" sParser_parse_away ["self"]) (T : Bi mg) (PC : ParCls K CP) (TC : TokCls K CT) (LC : LexC K mg) (hMA : ∃ t, mg "MAX_AWAYS" = some (.int 20 t))
    (hMO : ∃ a, mg "MODULI" = some (.ref a) ∧ ∀ H : Hp, SqT K H a (([2, 3, 4, 6, 8, 12] : List Int).map V.int))
    (C0 : MeAt P w K mg base 1 CP "peek" ["self"] (spPeekG CP CT)) (C1 : MeX P w K mg base 4 CP "take_word" ["self", "word"] (spTakeWG CP CT CF)) (C2 : MeX P w K mg base 4 CP "take" ["self", "kind"] (spTakeG CP CT CF))
    (C3 : MeAt P w K mg base 2 CP "person" ["self", "token"] (spPersonG CP CT)) (C4 : MeAt P w K mg base 1 CP "found" ["self", "reason", "token"] (spFoundG CP CT)) : MeX P w K mg base 5 CP "parse_away" ["self"] (spAwayG CP CT CF) := D.meX fun f fd F => by
  have nd := scParser_parse_away.nd
  have cl_Parser := PC.cl
  obtain ⟨t1, c_NAME⟩ := LC.NAME
  obtain ⟨t3, c_NUMBER⟩ := LC.NUMBER
  obtain ⟨t4, c_END_SIGN⟩ := LC.END_SIGN
  obtain ⟨t2, c_MAX_AWAYS⟩ := hMA
  obtain ⟨a_MODULI, c_MODULI, hmo⟩ := hMO
  obtain ⟨f0, fd0, me_peek, b_peek, G_peek⟩ := C0.ex
  obtain ⟨f1, fd1, me_take_word, b_take_word, G_take_word⟩ := C1.ex
  obtain ⟨f2, fd2, me_take, b_take, G_take⟩ := C2.ex
  obtain ⟨f3, fd3, me_person, b_person, G_person⟩ := C3.ex
  obtain ⟨f4, fd4, me_found, b_found, G_found⟩ := C4.ex
  refine F.okX scParser_parse_away (fun vs H Q E h => ?_) (fun cdv A outer s H vs Q E hr h => ?_)
  · obtain ⟨z, L, n, s, ts, rfl, _⟩ := h; rfl
  obtain ⟨z, L, n, sv, ts, rfl, hp, hll, hnum, hts, he, hfew, haw, q⟩ := h
  refine ⟨_, (pss_cons (ps_set (i := 1) nd rfl (Or.inl rfl) (pe_meth0 (pv 0) cl_Parser me_peek G_peek (hr.mono (by first | decide | omega)) b_peek .nil pass0))
 (pss_cons (ps_expr (pe_meth (pv 0) cl_Parser me_take_word G_take_word (hr.mono (by first | decide | omega)) b_take_word .nil (passes_call (takes_of rfl rfl rfl rfl) (fun _ _ _ _ h => h)) (pa_cons pe_str pa_nil)))
 (pss_cons (ps_set (i := 2) nd rfl (Or.inl rfl) (pe_meth (pv 0) cl_Parser me_person G_person (hr.mono (by first | decide | omega)) b_person .nil pass0 (pa_cons (pe_meth (pv 0) cl_Parser me_take G_take (hr.mono (by first | decide | omega)) b_take .nil (passes_call (takes_of rfl rfl rfl rfl) (fun _ _ _ _ h => h)) (pa_cons (pe_glob (v := .str "name") (by rfl) c_NAME ⟨_, rfl⟩) pa_nil)) pa_nil)))
 (pss_cons (ps_set (i := 3) nd rfl (Or.inl rfl) (pe_meth (pv 0) cl_Parser me_take G_take (hr.mono (by first | decide | omega)) b_take .nil (passes_call (takes_of rfl rfl rfl rfl) (fun _ _ _ _ h => h)) (pa_cons (pe_glob (v := .str "number") (by rfl) c_NUMBER ⟨_, rfl⟩) pa_nil)))
 (pss_cons (ps_expr (pe_meth (pv 0) cl_Parser me_take_word G_take_word (hr.mono (by first | decide | omega)) b_take_word .nil (passes_call (takes_of rfl rfl rfl rfl) (fun _ _ _ _ h => h)) (pa_cons pe_str pa_nil)))
 (pss_cons (ps_set (i := 4) nd rfl (Or.inl rfl) (pe_meth (pv 0) cl_Parser me_take G_take (hr.mono (by first | decide | omega)) b_take .nil (passes_call (takes_of rfl rfl rfl rfl) (fun _ _ _ _ h => h)) (pa_cons (pe_glob (v := .str "number") (by rfl) c_NUMBER ⟨_, rfl⟩) pa_nil)))
 (pss_cons (ps_expr (pe_meth (pv 0) cl_Parser me_take_word G_take_word (hr.mono (by first | decide | omega)) b_take_word .nil (passes_call (takes_of rfl rfl rfl rfl) (fun _ _ _ _ h => h)) (pa_cons (pe_glob (v := .str ";") (by rfl) c_END_SIGN ⟨_, rfl⟩) pa_nil)))
 (C8.pss_cut (ps_if (pt_cmpR (r := rIn K true) op_notIn_seq (pe_callTy call_int_str (by rfl) T.int (by decide +kernel) (pa_cons (pe_fldK (K := K) rfl (pv 4) rfl) pa_nil)) (pe_glob (v := .ref a_MODULI) (by rfl) c_MODULI rfl) (by rfl))
 (pss_one (ps_expr (pe_meth (pv 0) cl_Parser me_found G_found (hr.mono (by first | decide | omega)) b_found .nil pass0 (pa_cons pe_str (pa_cons (pv 4) pa_nil)))))
 (pss_one (ps_if (pt_cmpR op_ge (pe_callTy call_int_str (by rfl) T.int (by decide +kernel) (pa_cons (pe_fldK (K := K) rfl (pv 3) rfl) pa_nil)) (pe_callTy call_int_str (by rfl) T.int (by decide +kernel) (pa_cons (pe_fldK (K := K) rfl (pv 4) rfl) pa_nil)) (nomark _))
 (pss_one (ps_expr (pe_meth (pv 0) cl_Parser me_found G_found (hr.mono (by first | decide | omega)) b_found .nil pass0 (pa_cons pe_str (pa_cons (pv 3) pa_nil)))))
 (pss_one (ps_if (pt_cmpR op_eq (pe_callB (r := rLenS K) call_len_seq (by rfl) T.len PySem.boot_len (pa_cons (pe_fldK (K := K) rfl (pv 0) rfl) pa_nil)) (pe_glob (v := .int 20) (by rfl) c_MAX_AWAYS ⟨_, rfl⟩) (nomark _))
 (pss_one (ps_expr (pe_meth (pv 0) cl_Parser me_found G_found (hr.mono (by first | decide | omega)) b_found .nil pass0 (pa_cons pe_str (pa_cons (pv 1) pa_nil)))))
 pss_nil)))))
 (pss_one (ps_expr (pe_bmK (K := K) rfl PySem.F.plainAttrs_list PySem.F.slot_list_append PySem.F.type_list_append mt_append (pe_fldK (K := K) rfl (pv 0) rfl) (pa_cons (pe_tup (pa_cons (pv 2) (pa_cons (pe_callTy call_int_str (by rfl) T.int (by decide +kernel) (pa_cons (pe_fldK (K := K) rfl (pv 3) rfl) pa_nil)) (pa_cons (pe_callTy call_int_str (by rfl) T.int (by decide +kernel) (pa_cons (pe_fldK (K := K) rfl (pv 4) rfl) pa_nil)) pa_nil)))) pa_nil)))))))))))), ?_⟩
  have ob : ∀ {H' : Hp} {n' : Nat} {s' : Ps}, PG CP CT z L n' s' H' → ∃ fs, H' z.x = some (.ins CP z.dx fs) ∧ (∀ m : Str, (∀ f ∈ (["tokens", "at", "faults", "names", "weights", "makers", "aways"] : List Str), (m == f) = false) → fs.lookup m = none) := fun ⟨A, h⟩ => ⟨_, h.ob, fun m hm => gf_none hm⟩
  have numv : ∀ {a : Addr} {t : Tk}, (a, t) ∈ L → t.k = "number" → intText? t.t = some (valT t.t) ∧ t.t.length ≤ 640 := fun hm hk => by
    obtain ⟨v, hv, e⟩ := hnum _ hm hk
    obtain ⟨g1, g2, _⟩ := valT_ok hv e
    exact ⟨g1, g2⟩
  obtain ⟨t0, r0, rfl⟩ := he.ne
  obtain ⟨⟨a0, h0⟩, hts1⟩ := hts.cons
  have hfew' : sv.fs.length + 3 * (r0.length + 1) ≤ 30000 := hfew
  obtain ⟨b0, o0, n0⟩ := ob hp
  refine ⟨_, rfl, z.x, z.dx, _, rfl, o0, n0 _ (by decide +kernel), z, L, n, sv, a0, t0, rfl, hp, h0, ?_⟩
  unfold awayF at q
  dsimp only at q
  refine ⟨_, rfl, z.x, z.dx, _, rfl, o0, n0 _ (by decide +kernel), z, L, n, sv, a0, t0, "away", rfl, hp, h0, fun hw H1 c1 hp1 => ?_, fun hw d H1 w1 => ?_⟩
  rotate_left
  · rw [wordF_no hw, bindE_er] at q
    exact q d H1 (w1.mono fun _ h => nomatch h)
  rw [wordF_yes hw, bindE_ok] at q
  have he1 := he.tail (.inr (by rw [hw]; decide +kernel))
  obtain ⟨u1, r1, rfl⟩ := he1.ne
  obtain ⟨⟨a1, h1⟩, hts2⟩ := hts1.cons
  obtain ⟨b1, o1, n1⟩ := ob hp1
  refine ⟨_, rfl, z.x, z.dx, _, rfl, o1, n1 _ (by decide +kernel), _, rfl, z.x, z.dx, _, rfl, o1, n1 _ (by decide +kernel), z, L, n + 1, sv, a1, u1, "name", rfl, hp1, h1, fun hk1 H2 c2 hp2 => ?_, fun hk1 d H2 w2 => ?_⟩
  rotate_left
  · rw [takeF_no hk1, bindE_er] at q
    exact q d H2 (c1.go2 (w2.mono fun _ h => nomatch h))
  rw [takeF_yes hk1, bindE_ok] at q
  have he2 := he1.tail (.inl (by rw [hk1]; decide +kernel))
  refine ⟨z, L, n + 1 + 1, sv, a1, u1, rfl, hp2, List.mem_of_getElem? h1, by omega, fun H3 c3 hp3 => ?_⟩
  obtain ⟨pf1, _, _⟩ := personF_few sv u1
  have paw : (personF sv u1).2.aws = sv.aws := by unfold personF; split <;> rfl
  generalize personF sv u1 = pk at hp3 q pf1 paw
  obtain ⟨pk, sp⟩ := pk
  have hp3 : PG CP CT z L (n + 1 + 1) sp H3 := hp3
  have pf1 : sp.fs.length ≤ sv.fs.length + 1 := pf1
  have paw : sp.aws = sv.aws := paw
  have c03 := (c1.fgo c2).fgo c3
  -- the remainder
  obtain ⟨u2, r2, rfl⟩ := he2.ne
  obtain ⟨⟨a2, h2⟩, hts3⟩ := hts2.cons
  obtain ⟨b3, o3, n3⟩ := ob hp3
  refine ⟨_, rfl, z.x, z.dx, _, rfl, o3, n3 _ (by decide +kernel), z, L, n + 1 + 1, sp, a2, u2, "number", rfl, hp3, h2, fun hk2 H4 c4 hp4 => ?_, fun hk2 d H4 w4 => ?_⟩
  rotate_left
  · rw [takeF_no hk2, bindE_er] at q
    exact q d H4 (c03.go2 (w4.mono fun _ h => nomatch h))
  rw [takeF_yes hk2, bindE_ok] at q
  have he3 := he2.tail (.inl (by rw [hk2]; decide +kernel))
  have c04 := c03.fgo c4
  -- of
  obtain ⟨u3, r3, rfl⟩ := he3.ne
  obtain ⟨⟨a3, h3⟩, hts4⟩ := hts3.cons
  obtain ⟨b4, o4, n4⟩ := ob hp4
  refine ⟨_, rfl, z.x, z.dx, _, rfl, o4, n4 _ (by decide +kernel), z, L, n + 1 + 1 + 1, sp, a3, u3, "of", rfl, hp4, h3, fun hk3 H5 c5 hp5 => ?_, fun hk3 d H5 w5 => ?_⟩
  rotate_left
  · rw [wordF_no hk3, bindE_er] at q
    exact q d H5 (c04.go2 (w5.mono fun _ h => nomatch h))
  rw [wordF_yes hk3, bindE_ok] at q
  have he4 := he3.tail (.inr (by rw [hk3]; decide +kernel))
  have c05 := c04.fgo c5
  -- the modulus
  obtain ⟨u4, r4, rfl⟩ := he4.ne
  obtain ⟨⟨a4, h4⟩, hts5⟩ := hts4.cons
  obtain ⟨b5, o5, n5⟩ := ob hp5
  refine ⟨_, rfl, z.x, z.dx, _, rfl, o5, n5 _ (by decide +kernel), z, L, n + 1 + 1 + 1 + 1, sp, a4, u4, "number", rfl, hp5, h4, fun hk4 H6 c6 hp6 => ?_, fun hk4 d H6 w6 => ?_⟩
  rotate_left
  · rw [takeF_no hk4, bindE_er] at q
    exact q d H6 (c05.go2 (w6.mono fun _ h => nomatch h))
  rw [takeF_yes hk4, bindE_ok] at q
  have he5 := he4.tail (.inl (by rw [hk4]; decide +kernel))
  have c06 := c05.fgo c6
  -- the sign
  obtain ⟨u5, r5, rfl⟩ := he5.ne
  obtain ⟨⟨a5, h5⟩, hts6⟩ := hts5.cons
  obtain ⟨b6, o6, n6⟩ := ob hp6
  refine ⟨_, rfl, z.x, z.dx, _, rfl, o6, n6 _ (by decide +kernel), z, L, n + 1 + 1 + 1 + 1 + 1, sp, a5, u5, ";", rfl, hp6, h5, fun hk5 H7 c7 hp7 => ?_, fun hk5 d H7 w7 => ?_⟩
  rotate_left
  · rw [wordF_no hk5, bindE_er] at q
    exact q d H7 (c06.go2 (w7.mono fun _ h => nomatch h))
  rw [wordF_yes hk5, bindE_ok] at q
  have he6 := he5.tail (.inr (by rw [hk5]; decide +kernel))
  have c07 := c06.fgo c7
  have q : ∀ H' n', Wd z.mu H H' [] → PG CP CT z L n' (awayEnd t0 (pk, sp) u2 u4) H' → Rm L n' r5 → EndOk r5 → Q .non H' := q
  obtain ⟨hr1, hr2⟩ := numv (List.mem_of_getElem? h2) hk2
  obtain ⟨hm1, hm2⟩ := numv (List.mem_of_getElem? h4) hk4
  obtain ⟨A7, hA7⟩ := id hp7
  obtain ⟨ndx, hta2⟩ := hA7.ts _ (List.mem_of_getElem? h2)
  obtain ⟨mdx, hta4⟩ := hA7.ts _ (List.mem_of_getElem? h4)
  refine ⟨fun σ' H' => σ' = [some (.ref z.x), some (.ref a0), some (.int (pk : Nat)), some (.ref a2), some (.ref a4)] ∧ Wd z.mu H H' [] ∧ PG CP CT z L (n + 1 + 1 + 1 + 1 + 1 + 1) (awayB t0 sp u2 u4) H', ?_, ?_⟩
  · have sp7 : sp.fs.length ≤ 10000000 := by omega
    refine ⟨_, rfl, a4, CT, mdx, _, _, rfl, hta4, TC.cl, TC.nt, tk_text _ _ _ _, _, _, rfl, hm1, hm2, a_MODULI, _, rfl, .inr (hmo _), rfl, flat_ints _, _, rfl, ?_⟩
    rw [if_pos rfl, inV_ints]
    by_cases g1 : valT u4.t ∈ mods
    · rw [decide_eq_true (show valT u4.t ∈ ([2, 3, 4, 6, 8, 12] : List Int) from g1)]
      refine ite2 (fun h => absurd h (by decide)) (fun _ => ?_)
      refine ⟨_, rfl, a2, CT, ndx, _, _, rfl, hta2, TC.cl, TC.nt, tk_text _ _ _ _, _, _, rfl, hr1, hr2, _, rfl, a4, CT, mdx, _, _, rfl, hta4, TC.cl, TC.nt, tk_text _ _ _ _, _, _, rfl, hm1, hm2, _, _, rfl, rfl, _, rfl, ?_⟩
      by_cases g2 : valT u4.t ≤ valT u2.t
      · have e : awayB t0 sp u2 u4 = sp.bad u2 "away" := by unfold awayB; rw [if_neg (by simpa using g1), if_pos g2]
        refine ite2 (fun _ => ?_) (fun h => absurd (decide_eq_true g2) h)
        refine ⟨_, rfl, z.x, z.dx, _, rfl, hA7.ob, gf_none (by decide +kernel), _, rfl, z, L, _, sp, a2, u2, "away", rfl, hp7, List.mem_of_getElem? h2, sp7, fun H8 c8 hp8 => ⟨rfl, c07.fgo c8, by rw [e]; exact hp8⟩⟩
      · refine ite2 (fun h => absurd (of_decide_eq_true h) g2) (fun _ => ?_)
        refine ⟨_, rfl, z.x, CP, z.dx, _, _, rfl, hA7.ob, PC.cl, PC.n7, gf_aways, z.al, _, rfl, .inl (SqL.of hA7.al), rfl, _, rfl, ?_⟩
        have el : (A7.as.map V.ref).length = sp.aws.length := by rw [List.length_map]; exact hA7.aw.length
        by_cases g3 : sp.aws.length = 20
        · have e : awayB t0 sp u2 u4 = sp.bad t0 "away" := by unfold awayB; rw [if_neg (by simpa using g1), if_neg g2, if_pos g3]
          refine ite2 (fun _ => ?_) (fun h => absurd (decide_eq_true (by rw [el, g3]; rfl)) h)
          refine ⟨_, rfl, z.x, z.dx, _, rfl, hA7.ob, gf_none (by decide +kernel), _, rfl, z, L, _, sp, a0, t0, "away", rfl, hp7, List.mem_of_getElem? h0, sp7, fun H8 c8 hp8 => ⟨rfl, c07.fgo c8, by rw [e]; exact hp8⟩⟩
        · have e : awayB t0 sp u2 u4 = sp := by unfold awayB; rw [if_neg (by simpa using g1), if_neg g2, if_neg g3]
          refine ite2 (fun h => absurd (of_decide_eq_true h) (fun e => g3 (by injection e with e; rw [el] at e; omega))) (fun _ => ?_)
          exact ⟨rfl, c07, by rw [e]; exact hp7⟩
    · rw [decide_eq_false (show ¬ valT u4.t ∈ ([2, 3, 4, 6, 8, 12] : List Int) from g1)]
      have e : awayB t0 sp u2 u4 = sp.bad u4 "away" := by unfold awayB; rw [if_pos g1]
      refine iteT ?_
      refine ⟨_, rfl, z.x, z.dx, _, rfl, hA7.ob, gf_none (by decide +kernel), _, rfl, z, L, _, sp, a4, u4, "away", rfl, hp7, List.mem_of_getElem? h4, sp7, fun H8 c8 hp8 => ⟨rfl, c07.fgo c8, by rw [e]; exact hp8⟩⟩
  · rintro σ8 H8 ⟨rfl, c8, hp8⟩
    have baw : (awayB t0 sp u2 u4).aws = sv.aws := by
      rw [← paw]
      unfold awayB
      split
      · rfl
      · split
        · rfl
        · split <;> rfl
    obtain ⟨A8, hA8⟩ := id hp8
    obtain ⟨ndx8, hta28⟩ := hA8.ts _ (List.mem_of_getElem? h2)
    obtain ⟨mdx8, hta48⟩ := hA8.ts _ (List.mem_of_getElem? h4)
    refine ⟨_, rfl, z.x, CP, z.dx, _, _, rfl, hA8.ob, PC.cl, PC.n7, gf_aways, .inl ⟨rfl, _, SqL.of hA8.al⟩, _, rfl, _, rfl, a2, CT, ndx8, _, _, rfl, hta28, TC.cl, TC.nt, tk_text _ _ _ _, _, _, rfl, hr1, hr2, _, rfl, a4, CT, mdx8, _, _, rfl, hta48, TC.cl, TC.nt, tk_text _ _ _ _, _, _, rfl, hm1, hm2, (by show 3 ≤ sizeLine; decide), fun b hb => ?_⟩
    have w9 := (Wd.refl H8).new (.tup (tri ((pk : Int), valT u2.t, valT u4.t))) hb
    have c9 := c8.fnew (.tup (tri ((pk : Int), valT u2.t, valT u4.t))) hb
    have hp9 := hp8.wd0 w9
    have hbt := w9.get 0 rfl
    obtain ⟨as, s1, s2, s3⟩ := hp9.setA ((pk : Int), valT u2.t, valT u4.t)
    show ∃ a xs, _
    refine ⟨z.al, as.map V.ref, _, rfl, rfl, s1, ?_, ?_⟩
    · rw [List.length_map, s2, baw]; exact Nat.lt_of_le_of_lt haw (by decide)
    have s4 := s3 b hbt
    rw [List.map_append] at s4
    exact q _ _ (c9.fput _ (.inr (by simp [Pz.mu])) s1 (fun _ q => by cases q)) s4 hts6 he6
end
end Br

namespace Br
open PySem PySem.Spec PyProof.Rows L2
/-! ### who makes up -/
def mkS (p : Ps × List Nat) (t : Tk) : Ps × List Nat := ((personF p.1 t).2, p.2 ++ [(personF p.1 t).1])
/-- the different ones below seven, ascending -/
def sortU (js : List Nat) : List Int := ((List.range 7).filter fun k => decide (k ∈ js)).map fun k : Nat => (k : Int)
def makeupF (s : Ps) (ts : List Tk) : PR :=
  match ts with
  | [] => .error (0, 0)
  | st :: _ => bindE (fun t1 => bindE (fun p => .ok ({ twiceF s.M.isSome st (p.1.foldl mkS (s, [])).1 with M := some (sortU (p.1.foldl mkS (s, [])).2) }, p.2)) (allF "name" t1)) (wordF "makeup" ts)
theorem asc_one : ∀ {l m : List Int}, l.Pairwise (· < ·) → m.Pairwise (· < ·) → (∀ k, k ∈ l ↔ k ∈ m) → l = m
  | [], [], _, _, _ => rfl
  | [], b :: m, _, _, h => absurd ((h b).mpr List.mem_cons_self) (by simp)
  | a :: l, [], _, _, h => absurd ((h a).mp List.mem_cons_self) (by simp)
  | a :: l, b :: m, h1, h2, h => by
    obtain ⟨a1, a2⟩ := List.pairwise_cons.mp h1
    obtain ⟨b1, b2⟩ := List.pairwise_cons.mp h2
    have e : a = b := by
      have ha := (h a).mp List.mem_cons_self
      have hb := (h b).mpr List.mem_cons_self
      rcases List.mem_cons.mp ha with e | ha
      · exact e
      · rcases List.mem_cons.mp hb with e | hb
        · exact e.symm
        · have := b1 a ha; have := a1 b hb; omega
    subst e
    congr 1
    refine asc_one a2 b2 fun k => ⟨fun hk => ?_, fun hk => ?_⟩
    · rcases List.mem_cons.mp ((h k).mp (List.mem_cons_of_mem _ hk)) with e | e
      · have := a1 k hk; omega
      · exact e
    · rcases List.mem_cons.mp ((h k).mpr (List.mem_cons_of_mem _ hk)) with e | e
      · have := b1 k hk; omega
      · exact e
theorem sortU_asc (js : List Nat) : (sortU js).Pairwise (· < ·) := by
  unfold sortU
  refine List.pairwise_map.mpr (List.Pairwise.imp (R := fun a b : Nat => a < b) (fun h => by omega) ?_)
  exact (List.pairwise_lt_range (n := 7)).filter _
theorem sortU_mem {js : List Nat} (h : ∀ j ∈ js, j < 7) (k : Int) : k ∈ sortU js ↔ k ∈ js.map fun j : Nat => (j : Int) := by
  unfold sortU
  simp only [List.mem_map, List.mem_filter, List.mem_range, decide_eq_true_eq]
  exact ⟨fun ⟨a, ⟨_, h1⟩, h2⟩ => ⟨a, h1, h2⟩, fun ⟨a, h1, h2⟩ => ⟨a, ⟨h a h1, h1⟩, h2⟩⟩
/-- how many names are left -/
def namesN (ts : List Tk) : Nat := (ts.filter (isK "name")).length
theorem allF_names {ts tk rest : List Tk} (h : allF "name" ts = .ok (tk, rest)) : tk.length ≤ namesN ts := by
  have hk := allF_kind h
  have hs : tk.Sublist ts := by
    cases ts with
    | nil => cases h
    | cons t r =>
      have h : (if t.k = "name" then withE (t :: r.takeWhile (isK "name")) (wordF ";" (r.dropWhile (isK "name"))) else .error (t.l, t.c)) = .ok (tk, rest) := h
      split at h
      · cases hd : wordF ";" (r.dropWhile (isK "name")) with
        | error e => rw [hd] at h; cases h
        | ok v =>
          rw [hd] at h
          cases h
          exact (List.takeWhile_sublist _).cons₂ _
      · cases h
  have hf := hs.filter (isK "name")
  have e : tk.filter (isK "name") = tk := List.filter_eq_self.mpr (fun t ht => decide_eq_true (hk t ht))
  rw [e] at hf
  exact hf.length_le
theorem personF_lt (s : Ps) (t : Tk) (h : s.names.length ≤ 6) : (personF s t).1 < 7 := by
  unfold personF
  split
  · rename_i h2
    have := (List.getElem?_eq_some_iff.mp (ixOf_at h2).1).1
    omega
  · exact Nat.succ_pos _
theorem mk_few : ∀ (ts : List Tk) (p : Ps × List Nat), p.1.names.length ≤ 6 → (∀ j ∈ p.2, j < 7) → (ts.foldl mkS p).1.fs.length ≤ p.1.fs.length + ts.length ∧ (ts.foldl mkS p).1.names = p.1.names ∧ (ts.foldl mkS p).2.length = p.2.length + ts.length ∧ (∀ j ∈ (ts.foldl mkS p).2, j < 7) ∧ (ts.foldl mkS p).1.M = p.1.M
  | [], p, _, h => ⟨Nat.le_refl _, rfl, rfl, h, rfl⟩
  | t :: ts, p, h6, h => by
    obtain ⟨g1, g2, _⟩ := personF_few p.1 t
    have gM : (personF p.1 t).2.M = p.1.M := by unfold personF; split <;> rfl
    obtain ⟨h1, h2, h3, h4, h5⟩ := mk_few ts (mkS p t) (by show (personF p.1 t).2.names.length ≤ 6; rw [g2]; exact h6) (fun j hj => by
      rcases List.mem_append.mp (show j ∈ p.2 ++ [(personF p.1 t).1] from hj) with hj | hj
      · exact h j hj
      · rw [List.mem_singleton.mp hj]; exact personF_lt _ _ h6)
    have e1 : (mkS p t).1 = (personF p.1 t).2 := rfl
    have e2 : (mkS p t).2.length = p.2.length + 1 := by show (p.2 ++ [_]).length = _; rw [List.length_append]; rfl
    refine ⟨?_, ?_, ?_, h4, ?_⟩
    · rw [List.foldl_cons, List.length_cons]; rw [e1] at h1; omega
    · rw [List.foldl_cons, h2, e1, g2]
    · rw [List.foldl_cons, List.length_cons]; omega
    · rw [List.foldl_cons, h5, e1, gM]
section
variable {P : Program} {w : World} {K : PySem.W.Frag} {mg : Str → Option Value} {base : Heap} {CT CP CF : Addr}
def spMakeG (CP CT CF : Addr) : Sp := fun vs H Q E => ∃ (z : Pz) (L : List (Addr × Tk)) (n : Nat) (s : Ps) (ts : List Tk), vs = [.ref z.x] ∧ PG CP CT z L n s H ∧ L.length ≤ 10000 ∧ Rm L n ts ∧ EndOk ts ∧ Few s ts ∧ s.names.length ≤ 6 ∧ namesN ts ≤ 60 ∧
  match makeupF s ts with
  | .ok (s', rest) => ∀ H' n', Wd z.mu H H' [] → PG CP CT z L n' s' H' → Rm L n' rest → EndOk rest → Q .non H'
  | .error e => ∀ (d : Addr) (H' : Hp), Wd z.mu H H' [(d, synD e.1 e.2)] → E (.ref CF) (some d) H'
theorem me_makeG (D : MethAt K CP "parse_makeup" "Parser.parse_makeup" sParser_parse_makeup ["self"]) (T : Bi mg) (PC : ParCls K CP) (TC : TokCls K CT) (LC : LexC K mg)
    (C0 : MeAt P w K mg base 1 CP "peek" ["self"] (spPeekG CP CT)) (C1 : MeX P w K mg base 4 CP "take_word" ["self", "word"] (spTakeWG CP CT CF)) (C2 : MeX P w K mg base 5 CP "take_all" ["self", "kind"] (spAllG CP CT CF))
    (C3 : MeAt P w K mg base 2 CP "person" ["self", "token"] (spPersonG CP CT)) (C4 : MeAt P w K mg base 1 CP "found" ["self", "reason", "token"] (spFoundG CP CT)) : MeX P w K mg base 6 CP "parse_makeup" ["self"] (spMakeG CP CT CF) := D.meX fun f fd F => by
  have nd := scParser_parse_makeup.nd
  have cl_Parser := PC.cl
  obtain ⟨t1, c_NAME⟩ := LC.NAME
  obtain ⟨f0, fd0, me_peek, b_peek, G_peek⟩ := C0.ex
  obtain ⟨f1, fd1, me_take_word, b_take_word, G_take_word⟩ := C1.ex
  obtain ⟨f2, fd2, me_take_all, b_take_all, G_take_all⟩ := C2.ex
  obtain ⟨f3, fd3, me_person, b_person, G_person⟩ := C3.ex
  obtain ⟨f4, fd4, me_found, b_found, G_found⟩ := C4.ex
  refine F.okX scParser_parse_makeup (fun vs H Q E h => ?_) (fun cdv A outer s H vs Q E hr h => ?_)
  · obtain ⟨z, L, n, s, ts, rfl, _⟩ := h; rfl
  obtain ⟨z, L, n, sv, ts, rfl, hp, hll, hts, he, hfew, hn6, hnn, q⟩ := h
  refine ⟨_, (pss_cons (ps_set (i := 1) nd rfl (Or.inl rfl) (pe_meth0 (pv 0) cl_Parser me_peek G_peek (hr.mono (by first | decide | omega)) b_peek .nil pass0))
 (pss_cons (ps_expr (pe_meth (pv 0) cl_Parser me_take_word G_take_word (hr.mono (by first | decide | omega)) b_take_word .nil (passes_call (takes_of rfl rfl rfl rfl) (fun _ _ _ _ h => h)) (pa_cons pe_str pa_nil)))
 (pss_cons (ps_setLc (i := 2) (own := [("token", 3)]) rfl nd rfl rfl (sw_true rfl rfl rfl (by decide +kernel)) (pi_listK (K := K) rfl (pe_meth (pv 0) cl_Parser me_take_all G_take_all (hr.mono (by first | decide | omega)) b_take_all .nil (passes_call (takes_of rfl rfl rfl rfl) (fun _ _ _ _ h => h)) (pa_cons (pe_glob (v := .str "name") (by rfl) c_NAME ⟨_, rfl⟩) pa_nil))) (blkOk_by (N := ["self", "start", "persons", "token"]) (sc := defScope sParser_parse_makeup) (by decide +kernel)) (fun _ _ _ _ _ => (pg_name (i := 3) nd rfl (Or.inl rfl))) (fun _ _ _ _ _ => pts_nil) (fun _ _ _ _ _ => (pe_meth (pv 0) cl_Parser me_person G_person (hr.mono (by first | decide | omega)) b_person .nil pass0 (pa_cons (pv 3) pa_nil))))
 (C8.pss_cut (ps_if (pt_cmpR op_notN (pe_fldK (K := K) rfl (pv 0) rfl) pe_non (nomark _))
 (pss_one (ps_expr (pe_meth (pv 0) cl_Parser me_found G_found (hr.mono (by first | decide | omega)) b_found .nil pass0 (pa_cons pe_str (pa_cons (pv 1) pa_nil)))))
 pss_nil)
 (pss_one (ps_fld (pv 0) (pe_callTy (r := rTupOf K) call_tuple_of (by rfl) T.tuple (by decide +kernel) (pa_cons (pe_callB (r := rSortedSet w) (cr_sortedSet rfl) (by rfl) T.sorted (by decide +kernel) (pa_cons (pe_callTy (r := rSetI K w) (cr_setI rfl) (by rfl) T.set (by decide +kernel) (pa_cons (pv 2) pa_nil)) pa_nil)) pa_nil)) rfl)))))), ?_⟩
  obtain ⟨t0, r0, rfl⟩ := he.ne
  obtain ⟨⟨a0, h0⟩, hts1⟩ := hts.cons
  obtain ⟨A0, hA0⟩ := id hp
  refine ⟨_, rfl, z.x, z.dx, _, rfl, hA0.ob, gf_none (by decide +kernel), z, L, n, sv, a0, t0, rfl, hp, h0, ?_⟩
  unfold makeupF at q
  dsimp only at q
  refine ⟨_, rfl, z.x, z.dx, _, rfl, hA0.ob, gf_none (by decide +kernel), z, L, n, sv, a0, t0, "makeup", rfl, hp, h0, fun hw H1 c1 hp1 => ?_, fun hw d H1 w1 => ?_⟩
  rotate_left
  · rw [wordF_no hw, bindE_er] at q
    exact q d H1 (w1.mono fun _ h => nomatch h)
  rw [wordF_yes hw, bindE_ok] at q
  have he1 := he.tail (.inr (by rw [hw]; decide +kernel))
  obtain ⟨A1, hA1⟩ := id hp1
  refine ⟨_, rfl, z.x, z.dx, _, rfl, hA1.ob, gf_none (by decide +kernel), z, L, n + 1, sv, "name", r0, rfl, hp1, by decide +kernel, Nat.le_trans hll (by decide), hts1, he1, ?_⟩
  cases hal : allF "name" r0 with
  | error e =>
    rw [hal, bindE_er] at q
    exact fun d H2 w2 => q d H2 (c1.go2 w2)
  | ok pr =>
  obtain ⟨tk, rest⟩ := pr
  rw [hal, bindE_ok] at q
  intro H2 p sub n2 c2 hp2 hr2 he2 hpn hsub hmap hmem
  have hlen := allF_len hal
  have hfew' : sv.fs.length + 3 * (r0.length + 1) ≤ 30000 := hfew
  obtain ⟨po1, po2⟩ := hp1.out hpn
  have hsl : (prefs sub).length = tk.length := by rw [prefs_len, ← hmap, List.length_map]
  have hn0 : namesN r0 ≤ namesN (t0 :: r0) := (((List.Sublist.refl r0).cons t0).filter (isK "name")).length_le
  have tk60 : tk.length ≤ 60 := Nat.le_trans (allF_names hal) (Nat.le_trans hn0 hnn)
  have tkl : tk.length ≤ 10000 := by omega
  have c3 := c1.fgo c2
  refine ⟨p, rfl, ⟨_, SqL.of hsub⟩, fun D hD => ?_⟩
  obtain ⟨do1, do2⟩ := hp2.out hD
  have hDN := c3.free _ hD
  have hpD : p ≠ D := ne_of_none hsub hD
  refine lc_list (K := K) (a := p) (xs := prefs sub) (fun i H3 => Wd z.mu H H3 [] ∧ PG CP CT z L n2 ((tk.take i).foldl mkS (sv, [])).1 H3 ∧ H3 p = some (.lst (prefs sub)) ∧ H3 D = some (.lst (((tk.take i).foldl mkS (sv, [])).2.map fun j : Nat => V.int j))) ⟨c3.fnew _ hD, hp2.wd0 ((Wd.refl H2).new (.lst []) hD), (upd_ne hpD).trans hsub, upd_same⟩ (fun i H3 _ w => SqL.of w.2.2.1) ?_ ?_
  · rintro i x H4 hx ⟨c4, hp4, hs4, hD4⟩
    obtain ⟨a, t, rfl, ht, hm⟩ : ∃ a t, x = V.ref a ∧ tk[i]? = some t ∧ (a, t) ∈ sub := by
      unfold prefs at hx
      rw [List.getElem?_map] at hx
      obtain ⟨⟨a, t⟩, h1, h2⟩ := Option.map_eq_some_iff.mp hx
      exact ⟨a, t, h2.symm, by rw [← hmap, List.getElem?_map, h1]; rfl, List.mem_of_getElem? h1⟩
    have hil : i < tk.length := (List.getElem?_eq_some_iff.mp ht).1
    have hstep : (tk.take (i + 1)).foldl mkS (sv, []) = mkS ((tk.take i).foldl mkS (sv, [])) t := by rw [take_more ht, List.foldl_append]; rfl
    obtain ⟨k1, k2, k3, _, _⟩ := mk_few (tk.take i) (sv, []) hn6 (fun _ h => nomatch h)
    rw [List.length_take, Nat.min_eq_left (Nat.le_of_lt hil)] at k1 k3
    have k1' : ((tk.take i).foldl mkS (sv, [])).1.fs.length ≤ 30000 := by
      have : (sv, ([] : List Nat)).1.fs.length = sv.fs.length := rfl
      omega
    have k3' : ((tk.take i).foldl mkS (sv, [])).2.length = i := by rw [k3]; exact Nat.zero_add _
    generalize (tk.take i).foldl mkS (sv, []) = pi at hp4 hD4 hstep k1' k3'
    obtain ⟨si, ji⟩ := pi
    obtain ⟨A4, hA4⟩ := id hp4
    refine ⟨rfl, _, rfl, z.x, z.dx, _, rfl, hA4.ob, gf_none (by decide +kernel), _, rfl, z, L, n2, si, a, t, rfl, hp4, hmem _ hm, Nat.le_trans k1' (by decide), fun H5 c5 hp5 => ?_⟩
    have hD5 := c5.base _ _ do1 hD4
    have hs5 := c5.base _ _ po1 hs4
    have hji : ji.length = i := k3'
    have e6 : (ji.map fun j : Nat => V.int j) ++ [V.int ((personF si t).1 : Nat)] = ((ji ++ [(personF si t).1]).map fun j : Nat => V.int j) := by rw [List.map_append]; rfl
    refine ⟨_, hD5, (by rw [List.length_map, hji]; exact Nat.lt_of_lt_of_le (m := 100000) (by omega) (by decide)), (c4.fgo c5).fput _ (.inl hDN) hD5 (fun _ q => by cases q), ?_, (upd_ne hpD).trans hs5, ?_⟩
    · rw [hstep]; exact hp5.putL hD5 do2
    · rw [hstep, e6]; exact upd_same
  · rintro H4 ⟨c4, hp4, hs4, hD4⟩
    rw [hsl, List.take_length] at hp4 hD4
    obtain ⟨k1, k2, k3, k4, k5⟩ := mk_few tk (sv, []) hn6 (fun _ h => nomatch h)
    have k1' : (tk.foldl mkS (sv, [])).1.fs.length ≤ 30000 := by
      have : (sv, ([] : List Nat)).1.fs.length = sv.fs.length := rfl
      omega
    have k3' : (tk.foldl mkS (sv, [])).2.length ≤ 60 := by rw [k3]; show 0 + tk.length ≤ _; omega
    have q : ∀ H' n', Wd z.mu H H' [] → PG CP CT z L n' { twiceF sv.M.isSome t0 (tk.foldl mkS (sv, [])).1 with M := some (sortU (tk.foldl mkS (sv, [])).2) } H' → Rm L n' rest → EndOk rest → Q .non H' := q
    have k5 : (tk.foldl mkS (sv, [])).1.M = sv.M := k5
    generalize tk.foldl mkS (sv, []) = pe at hp4 hD4 q k1' k3' k4 k5
    obtain ⟨se, je⟩ := pe
    have hp4 : PG CP CT z L n2 se H4 := hp4
    have hD4 : H4 D = some (.lst (je.map fun j : Nat => V.int j)) := hD4
    have k5 : se.M = sv.M := k5
    have k4 : ∀ j ∈ je, j < 7 := k4
    have k3' : je.length ≤ 60 := k3'
    obtain ⟨A4, hA4⟩ := id hp4
    refine ⟨fun σ' H' => (∃ e, σ' = [some (.ref z.x), some (.ref a0), some (.ref D), e]) ∧ Wd z.mu H H' [] ∧ PG CP CT z L n2 (twiceF sv.M.isSome t0 se) H' ∧ H' D = some (.lst (je.map fun j : Nat => V.int j)), ?_, ?_⟩
    · refine ⟨_, rfl, z.x, CP, z.dx, _, _, rfl, hA4.ob, PC.cl, PC.n6, gf_makers, rfl, _, rfl, ?_⟩
      rw [k5]
      cases hM : sv.M with
      | none =>
        refine iteF ?_
        exact ⟨⟨_, rfl⟩, c4, hp4, hD4⟩
      | some l =>
        refine iteT ?_
        refine ⟨_, rfl, z.x, z.dx, _, rfl, hA4.ob, gf_none (by decide +kernel), _, rfl, z, L, n2, se, a0, t0, "twice", rfl, hp4, List.mem_of_getElem? h0, Nat.le_trans k1' (by decide), fun H5 c5 hp5 => ?_⟩
        exact ⟨⟨_, rfl⟩, c4.fgo c5, hp5, c5.base _ _ do1 hD4⟩
    · rintro σ5 H5 ⟨⟨e5, rfl⟩, c5, hp5, hD5⟩
      have ej : (je.map fun j : Nat => V.int j) = (je.map fun j : Nat => (j : Int)).map V.int := by rw [List.map_map]; rfl
      rw [ej] at hD5
      have jl : (je.map fun j : Nat => (j : Int)).length ≤ 60 := by rw [List.length_map]; exact k3'
      refine ⟨_, rfl, D, je.map fun j : Nat => (j : Int), rfl, SqL.of hD5, by omega, fun sa m hsa hm => ?_⟩
      have c6 := c5.fnew (SetO w sa (fun j => decide (j ∈ je.map fun j : Nat => (j : Int))) m) hsa
      have hp6 := hp5.wd0 ((Wd.refl H5).new (SetO w sa (fun j => decide (j ∈ je.map fun j : Nat => (j : Int))) m) hsa)
      refine ⟨sa, _, m, rfl, upd_same, by omega, fun ms lp hpw hms hl hlp => ?_⟩
      have ems : ms = sortU je := asc_one hpw (sortU_asc je) fun k => ((hms k).trans ⟨of_decide_eq_true, decide_eq_true⟩).trans (sortU_mem k4 k).symm
      subst ems
      have c7 := c6.fnew (.lst ((sortU je).map V.int)) hlp
      have hp7 := hp6.wd0 ((Wd.refl _).new (.lst ((sortU je).map V.int)) hlp)
      refine ⟨lp, _, rfl, .inl ⟨SqL.of upd_same, fun b hb => ?_⟩⟩
      have c8 := c7.fnew (.tup ((sortU je).map V.int)) hb
      obtain ⟨A8, hA8⟩ := hp7.wd0 ((Wd.refl _).new (.tup ((sortU je).map V.int)) hb)
      refine ⟨_, rfl, z.x, CP, z.dx, _, rfl, hA8.ob, PC.cl, PC.n6, (by show 7 < 1000; decide), ?_⟩
      rw [gf_putM b (sortU je)]
      refine q _ n2 (c8.fput _ (.inr (by simp [Pz.mu])) hA8.ob (fun _ q => by cases q)) ⟨_, hA8.setX n2 _ _ rfl rfl rfl rfl rfl hA8.w (fun l hl => ?_)⟩ hr2 he2
      cases hl
      exact upd_same
end
end Br

namespace Br
open PySem PySem.Spec PyProof.Rows L2
section
variable {P : Program} {w : World} {K : PySem.W.Frag} {mg : Str → Option Value} {base : Heap} {CT CP CF : Addr}
def spParIG (CP CT : Addr) : Sp := fun vs H Q _ => ∃ (x dx tk : Addr) (L : List (Addr × Tk)), vs = [.ref x, .ref tk] ∧ H x = some (.ins CP dx []) ∧ H tk = some (.lst (prefs L)) ∧ TksP CT H L ∧ CT ≠ CP ∧
  ∀ (z : Pz) (H' : Hp), z.x = x → Wd [x] H H' [] → PG CP CT z L 0 Ps.zero H' → (∀ a ∈ z.mu, a = x ∨ H a = none) → Q .non H'
theorem mk_parserG (D : InitAt K mg "Parser" "Parser.__init__" CP sParser___init__ ["self", "tokens"]) (PC : ParCls K CP) : MkAt P w K mg base 1 "Parser" CP ["self", "tokens"] (spParIG CP CT) := D.mk' fun f fd F => by
  have nd := scParser___init__.nd
  refine F.ok scParser___init__ (fun vs H Q E h => ?_) (fun cdv A outer s H vs Q E hr h => ?_)
  · obtain ⟨x, dx, tk, L, rfl, _⟩ := h; rfl
  obtain ⟨x, dx, tk, L, rfl, hx, htk, hT, cn, q⟩ := h
  refine ⟨_, (pss_cons (ps_fld (pv 0) (pv 1) rfl)
 (pss_cons (ps_fld (pv 0) pe_int rfl)
 (pss_cons (ps_fld (pv 0) (pe_lst pa_nil) rfl)
 (pss_cons (ps_fld (pv 0) (pe_lst pa_nil) rfl)
 (pss_cons (ps_fld (pv 0) pe_non rfl)
 (pss_cons (ps_fld (pv 0) pe_non rfl)
 (pss_one (ps_fld (pv 0) (pe_lst pa_nil) rfl)))))))), ?_⟩
  have hxt : x ≠ tk := ne_of hx htk (by simp)
  have c0 := Wd.frefl [x] H
  have e1 : putF "tokens" (.ref tk) [] = [(("tokens" : Str), V.ref tk)] := rfl
  have e2 : putF "at" (.int 0) [(("tokens" : Str), V.ref tk)] = [(("tokens" : Str), V.ref tk), ("at", .int 0)] := by rw [putF_ne (by decide +kernel)]; rfl
  refine ⟨_, rfl, _, rfl, x, CP, dx, [], rfl, hx, PC.cl, PC.n1, (by show 0 < 1000; decide), ?_⟩
  refine ⟨_, rfl, x, CP, dx, _, rfl, upd_same, PC.cl, PC.n2, (by show 1 < 1000; decide), ?_⟩
  rw [e1, e2, upd_upd]
  have c1 := c0.fput (.ins CP dx [(("tokens" : Str), V.ref tk), ("at", .int 0)]) (.inr (by simp)) hx (fun _ q => by cases q)
  refine ⟨(by show 0 ≤ sizeLine; decide), fun fl hfl => ?_⟩
  have c2 := c1.fnew (.lst []) hfl
  have ld0 : Wd [x] H (upd H x (.ins CP dx [(("tokens" : Str), V.ref tk), ("at", .int 0)])) [(x, .ins CP dx [(("tokens" : Str), V.ref tk), ("at", .int 0)])] :=
    (Wd.start1 hx).put 0 _ rfl (fun _ q => by cases q)
  have ld1 := ld0.new1 (.lst []) hfl
  refine ⟨_, rfl, x, CP, dx, _, rfl, ld1.get 0 rfl, PC.cl, PC.n3, (by show 2 < 1000; decide), ?_⟩
  have e3 : putF "faults" (.ref fl) [(("tokens" : Str), V.ref tk), ("at", .int 0)] = [(("tokens" : Str), V.ref tk), ("at", .int 0), ("faults", .ref fl)] := by rw [putF_ne (by decide +kernel), putF_ne (by decide +kernel)]; rfl
  rw [e3]
  have ld2 := ld1.put 0 (.ins CP dx [(("tokens" : Str), V.ref tk), ("at", .int 0), ("faults", .ref fl)]) rfl (fun _ q => by cases q)
  refine ⟨(by show 0 ≤ sizeLine; decide), fun nl hnl => ?_⟩
  have ld3 := ld2.new1 (.lst []) hnl
  refine ⟨_, rfl, x, CP, dx, _, rfl, ld3.get 0 rfl, PC.cl, PC.n4, (by show 3 < 1000; decide), ?_⟩
  have e4 : putF "names" (.ref nl) [(("tokens" : Str), V.ref tk), ("at", .int 0), ("faults", .ref fl)] = [(("tokens" : Str), V.ref tk), ("at", .int 0), ("faults", .ref fl), ("names", .ref nl)] := by rw [putF_ne (by decide +kernel), putF_ne (by decide +kernel), putF_ne (by decide +kernel)]; rfl
  rw [e4]
  have ld4 := ld3.put 0 (.ins CP dx [(("tokens" : Str), V.ref tk), ("at", .int 0), ("faults", .ref fl), ("names", .ref nl)]) rfl (fun _ q => by cases q)
  refine ⟨_, rfl, x, CP, dx, _, rfl, ld4.get 0 rfl, PC.cl, PC.n5, (by show 4 < 1000; decide), ?_⟩
  have e5 : putF "weights" .non [(("tokens" : Str), V.ref tk), ("at", .int 0), ("faults", .ref fl), ("names", .ref nl)] = [(("tokens" : Str), V.ref tk), ("at", .int 0), ("faults", .ref fl), ("names", .ref nl), ("weights", .non)] := by
    rw [putF_ne (by decide +kernel), putF_ne (by decide +kernel), putF_ne (by decide +kernel), putF_ne (by decide +kernel)]; rfl
  rw [e5]
  have ld5 := ld4.put 0 (.ins CP dx [(("tokens" : Str), V.ref tk), ("at", .int 0), ("faults", .ref fl), ("names", .ref nl), ("weights", .non)]) rfl (fun _ q => by cases q)
  refine ⟨_, rfl, x, CP, dx, _, rfl, ld5.get 0 rfl, PC.cl, PC.n6, (by show 5 < 1000; decide), ?_⟩
  have e6 : putF "makers" .non [(("tokens" : Str), V.ref tk), ("at", .int 0), ("faults", .ref fl), ("names", .ref nl), ("weights", .non)] = [(("tokens" : Str), V.ref tk), ("at", .int 0), ("faults", .ref fl), ("names", .ref nl), ("weights", .non), ("makers", .non)] := by
    rw [putF_ne (by decide +kernel), putF_ne (by decide +kernel), putF_ne (by decide +kernel), putF_ne (by decide +kernel), putF_ne (by decide +kernel)]; rfl
  rw [e6]
  have ld6 := ld5.put 0 (.ins CP dx [(("tokens" : Str), V.ref tk), ("at", .int 0), ("faults", .ref fl), ("names", .ref nl), ("weights", .non), ("makers", .non)]) rfl (fun _ q => by cases q)
  refine ⟨(by show 0 ≤ sizeLine; decide), fun al hal => ?_⟩
  have ld7 := ld6.new1 (.lst []) hal
  refine ⟨_, rfl, x, CP, dx, _, rfl, ld7.get 0 rfl, PC.cl, PC.n7, (by show 6 < 1000; decide), ?_⟩
  have e7 : putF "aways" (.ref al) [(("tokens" : Str), V.ref tk), ("at", .int 0), ("faults", .ref fl), ("names", .ref nl), ("weights", .non), ("makers", .non)] = gF ⟨x, dx, tk, fl, nl, al⟩ 0 Ps.zero ⟨[], 0, 0, []⟩ := by
    rw [putF_ne (by decide +kernel), putF_ne (by decide +kernel), putF_ne (by decide +kernel), putF_ne (by decide +kernel), putF_ne (by decide +kernel), putF_ne (by decide +kernel)]; rfl
  rw [e7]
  have ld8 := ld7.put 0 (.ins CP dx (gF ⟨x, dx, tk, fl, nl, al⟩ 0 Ps.zero ⟨[], 0, 0, []⟩)) rfl (fun _ q => by cases q)
  have hal0 := ld6.free _ hal
  have hnl0 := ld2.free _ hnl
  have hfl0 := ld0.free _ hfl
  have ndl := ld8.nd
  have hkt := ne_of_none htk hal0
  have hkn := ne_of_none htk hnl0
  have hkf := ne_of_none htk hfl0
  have htx : tk ∉ [x] := by simpa using hxt.symm
  refine q ⟨x, dx, tk, fl, nl, al⟩ _ rfl (ld8.sub (List.nil_sublist _)) ⟨⟨[], 0, 0, []⟩, ld8.get 0 rfl, ld8.old htk htx, fun t ht => ?_, ld8.get 3 rfl, rfl, fun i a f e1 _ => (by cases e1), ld8.get 2 rfl, ld8.get 1 rfl, .nil, fun _ h => (by cases h), fun _ h => (by cases h), ?_, cn⟩ (fun a ha => ?_)
  · obtain ⟨tdx, e⟩ := hT t ht
    refine ⟨tdx, ld8.old e ?_⟩
    have : t.1 ≠ x := ne_of e hx (fun q => by injection q with q1; exact cn q1)
    simpa using this
  · simp only [List.set, List.map_cons, List.map_nil, List.nodup_cons, List.mem_cons, List.not_mem_nil, or_false, not_or] at ndl ⊢
    obtain ⟨⟨n1, n2, n3⟩, ⟨n4, n5⟩, n6, n7⟩ := ndl
    exact ⟨⟨hxt, n3, n2, n1⟩, ⟨hkf, hkn, hkt⟩, ⟨Ne.symm n6, Ne.symm n5⟩, Ne.symm n4, n7⟩
  · simp only [Pz.mu, List.mem_cons, List.not_mem_nil, or_false] at ha
    rcases ha with h | h | h | h
    · exact .inl h
    · rw [h]; exact .inr hfl0
    · rw [h]; exact .inr hnl0
    · rw [h]; exact .inr hal0
end
end Br

namespace Br
open PySem PySem.Spec PyProof.Rows L2
/-! ### what the lexer's tokens are -/
theorem dig_one : ∀ c ∈ TL.tl ("0123456789" : Str), c - 48 ≤ 9 ∧ (⟨#[c]⟩ : Str) = num ((c - 48 : Nat) : Int) := by decide +kernel
theorem dig_two : ∀ c ∈ TL.tl ("0123456789" : Str), c ≠ 48 → ∀ d ∈ TL.tl ("0123456789" : Str), (c - 48) * 10 + (d - 48) ≤ 99 ∧ (⟨#[c, d]⟩ : Str) = num (((c - 48) * 10 + (d - 48) : Nat) : Int) := by decide +kernel
theorem tok_num {l : List Nat} {t : Str} (h : tokAt l = some (("number" : Str), t)) : ∃ v : Nat, v ≤ 99 ∧ t = num v := by
  cases l with
  | nil => cases h
  | cons c r =>
    simp only [tokAt] at h
    split at h
    · injection h with h; injection h with h1 h2; exact absurd h1 (by decide +kernel)
    · split at h
      · rename_i hd
        have hw : (c :: r).takeWhile dig = c :: r.takeWhile dig := by rw [List.takeWhile_cons, if_pos hd]
        have hall : ∀ x ∈ r.takeWhile dig, x ∈ TL.tl ("0123456789" : Str) := fun x hx => of_decide_eq_true (List.all_eq_true.mp List.all_takeWhile x hx)
        have hc : c ∈ TL.tl ("0123456789" : Str) := of_decide_eq_true hd
        rw [hw] at h
        generalize r.takeWhile dig = u at h hall
        split at h
        · cases h
        · rename_i hn
          injection h with h; injection h with h1 h2
          subst h2
          cases u with
          | nil => obtain ⟨g1, g2⟩ := dig_one c hc; exact ⟨c - 48, by omega, g2⟩
          | cons d u =>
            cases u with
            | nil =>
              have c48 : c ≠ 48 := fun e => hn (.inr ⟨by simp, e⟩)
              obtain ⟨g1, g2⟩ := dig_two c hc c48 d (hall d (by simp))
              exact ⟨_, g1, g2⟩
            | cons e u => exact absurd (.inl (by simp only [List.length_cons]; omega)) hn
      · split at h
        · injection h with h; injection h with h1 h2; exact absurd h1 (by decide +kernel)
        · split at h
          · injection h with h; injection h with h1 h2; exact absurd h1 (by decide +kernel)
          · cases h
def TkNum (t : Tk) : Prop := t.k = "number" → ∃ v : Nat, v ≤ 99 ∧ t.t = num v
theorem lexG_num : ∀ (n ln col : Nat) (l : List Nat) (ts : List Tk), lexG n ln col l = .ok ts → ∀ t ∈ ts, TkNum t
  | n, _, _, [], ts, h => by
    have h : (Except.ok ([] : List Tk) : Except (Nat × Nat) (List Tk)) = Except.ok ts := by cases n <;> exact h
    cases h
    exact fun t ht => nomatch ht
  | 0, _, _, _ :: _, ts, h => by cases h; exact fun t ht => nomatch ht
  | n + 1, ln, col, c :: r, ts, h => by
    rw [lexG] at h
    by_cases hc : c = 32 ∨ c = 10
    · rw [if_pos hc] at h; exact lexG_num n ln (col + 1) r ts h
    · rw [if_neg hc] at h
      cases ht : tokAt (c :: r) with
      | none => rw [ht] at h; cases h
      | some kt =>
        obtain ⟨k, t⟩ := kt
        rw [ht] at h
        dsimp only at h
        cases hr : lexG n ln (col + t.length) ((c :: r).drop t.length) with
        | error e => rw [hr] at h; cases h
        | ok us =>
          rw [hr] at h
          cases h
          intro x hx
          rcases List.mem_append.mp hx with hx | hx
          · rw [List.mem_singleton.mp hx]
            intro hk
            have hk : k = "number" := hk
            exact tok_num (by rw [ht, hk])
          · exact lexG_num n ln _ _ us hr x hx
theorem lexRows_num : ∀ (rs : List (List Nat)) (ln : Nat) (ts : List Tk), lexRows ln rs = .ok ts → ∀ t ∈ ts, TkNum t
  | [], _, ts, h => by cases h; exact fun t ht => nomatch ht
  | row :: rs, ln, ts, h => by
    have h : appE (lexRow ln 0 row) (lexRows (ln + 1) rs) = .ok ts := h
    cases h1 : lexRow ln 0 row with
    | error e => rw [h1] at h; cases h
    | ok us =>
      rw [h1] at h
      cases h2 : lexRows (ln + 1) rs with
      | error e => rw [h2] at h; cases h
      | ok vs =>
        rw [h2] at h
        cases h
        intro x hx
        rcases List.mem_append.mp hx with hx | hx
        · exact lexG_num _ _ _ _ us h1 x hx
        · exact lexRows_num rs (ln + 1) vs h2 x hx
theorem lexF_ok {z : Str} {ts : List Tk} (h : lexF z = .ok ts) : EndOk ts ∧ ∀ t ∈ ts, TkNum t := by
  unfold lexF at h
  cases h1 : lexRows 0 (rowsL z) with
  | error e => rw [h1] at h; cases h
  | ok us =>
    rw [h1] at h
    cases h
    refine ⟨⟨us, _, rfl, rfl, rfl⟩, fun x hx => ?_⟩
    rcases List.mem_append.mp hx with hx | hx
    · exact lexRows_num _ _ us h1 x hx
    · rw [List.mem_singleton.mp hx]
      exact fun hk => absurd (show ("end" : Str) = "number" from hk) (by decide +kernel)
end Br

/-! min of a list of things that lie on the heap: the comparison leans on a property of the heap that the loop keeps. -/
namespace Br
open PySem PySem.Spec PyProof.Rows L2
def CmpAt (prog : Program) (w : World) (A : Around) (op : CmpOp) (P : Nat → Value → Prop) (bt : Nat → Nat → Bool) (J : Heap → Prop) : Prop :=
  ∀ i j vi vj (s : Shared) (Q : Value → Shared → Prop) (E : Value → Shared → Prop), J s.heap → P i vi → P j vj → Q (.bool (bt i j)) s → wpAny (model prog w) A (richCompare op vi vj) Q E s
section
variable {prog : Program} {w : World} {A : Around} {R : Result → Shared → Prop} {I : Addr} {fp wr : List Addr} {n : Nat} {P : Nat → Value → Prop} {St : Nat → Heap → Prop} {J : Heap → Prop}
theorem min_loopJ (W : Walks prog w A.in1 I fp wr n P St) (bt : Nat → Nat → Bool) (S : Addr) (hSf : S ∉ fp) (hcmp : CmpAt prog w A.in1 .Lt P bt J) (hJ : ∀ h h' : Heap, J h → (∀ b o, b ∉ wr → b ≠ S → h.get? b = some o → h'.get? b = some o) → J h') :
    ∀ (k j : Nat) (s : Shared) (vb : Value) (c : Nat), n - (j + 1) = k → j + 1 ≤ n → J s.heap → St (j + 1) s.heap → P (argBest bt j) vb →
    s.heap.get? S = some { cls := .type "list", dict := none, data := .seq #[vb, vb] c, slots := #[] } →
    (∀ v h' tk, P (argBest bt (n - 1)) v → (∀ b o, b ∉ wr → b ≠ S → s.heap.get? b = some o → h'.get? b = some o) → R (.ok (.ret v)) { s with heap := h', toks := tk }) →
    codeAny (model prog w) A (.builtin "min.loop" ⟨[.ref I, .none, .ref S], []⟩) R s := by
  have hSw : S ∉ wr := fun h => hSf (W.sub _ h)
  have hname : (toString "min" ++ toString ".loop" : String) = "min.loop" := by decide
  intro k
  induction k with
  | zero =>
    intro j s vb c hk hj j0 hst hPb hS hR
    have hin : j + 1 = n := by omega
    refine codeAny_builtin F.entry_min_loop ?_
    rw [Around.under_plainId F.plain_min_loop _]
    show wpAny _ A.in1 (seqItems? (.ref S) >>= _) _ _ s
    refine wpAny_bind (wpAny_seqItems hS rfl ?_)
    show wpAny _ A.in1 (tryCatch (pyNext (.ref I)) _ >>= _) _ _ s
    refine wpAny_bind (wpAny_tryCatch (W.done s _ _ (hin ▸ hst) fun h' tk hk' => ?_))
    have hS' := hk' S _ hSw hS
    show wpAny _ A.in1 (updateSeq S (fun _ => #[]) >>= _) _ _ _
    refine wpAny_bind ?_
    refine wpAny_updateSeq hS' rfl (wpAny_bind (wpAny_letGo (wpAny_pure ?_)))
    refine hR vb _ tk (by rw [← hin]; exact hPb) fun b o hbw hbS e => (Heap.get?_update_other _ _ (Ne.symm hbS)).trans (hk' b o hbw e)
  | succ k ih =>
    intro j s vb c hk hj j0 hst hPb hS hR
    have hlt : j + 1 < n := by omega
    refine codeAny_builtin F.entry_min_loop ?_
    rw [Around.under_plainId F.plain_min_loop _]
    show wpAny _ A.in1 (seqItems? (.ref S) >>= _) _ _ s
    refine wpAny_bind (wpAny_seqItems hS rfl ?_)
    show wpAny _ A.in1 (tryCatch (pyNext (.ref I)) _ >>= _) _ _ s
    refine wpAny_bind (wpAny_tryCatch (W.item (j + 1) s _ _ hlt hst fun v h' tk hP hst' hk' => ?_))
    have hS' := hk' S _ hSw hS
    have j1 : J h' := hJ _ _ j0 fun b o h1 _ e => hk' b o h1 e
    show wpAny _ A.in1 (tryCatch (holding [v, v] (richCompare .Lt v vb >>= _)) _ >>= _) _ _ _
    refine wpAny_bind (wpAny_tryCatch (wpAny_holding (wpAny_bind (hcmp (j + 1) (argBest bt j) v vb _ _ _ j1 hP hPb ?_))))
    refine wpAny_bind (wpAny_holding (wpAny_truthy_bool ?_))
    refine wpAny_bind (wpAny_letGo (wpAny_pure ?_))
    cases hb : bt (j + 1) (argBest bt j) with
    | true =>
      simp only [if_true]
      refine wpAny_bind ?_
      refine wpAny_updateSeq hS' rfl (wpAny_bind (wpAny_letGo ?_))
      rw [hname]
      refine wpAny_pure ⟨plainId_quiet F.plain_min_loop _, ih (j + 1) _ v _ (by omega) hlt (hJ _ _ j1 fun b o _ h2 e => (Heap.get?_update_other _ _ (Ne.symm h2)).trans e) (W.frame _ _ _ hst' fun b hbf o e => ?_) (by simp only [argBest, hb, if_true]; exact hP) (Heap.get?_update_self _ hS' rfl)
        fun v' h'' tk'' hP' hk'' => ?_⟩
      · exact (Heap.get?_update_other _ _ (fun h : S = b => hSf (by rw [h]; exact hbf))).trans e
      · exact hR v' h'' tk'' hP' fun b o hbw hbS e => hk'' b o hbw hbS ((Heap.get?_update_other _ _ (Ne.symm hbS)).trans (hk' b o hbw e))
    | false =>
      simp only [Bool.false_eq_true, if_false]
      refine wpAny_bind (wpAny_letGo ?_)
      rw [hname]
      refine wpAny_pure ⟨plainId_quiet F.plain_min_loop _, ih (j + 1) _ vb c (by omega) hlt j1 hst' (by simp only [argBest, hb, Bool.false_eq_true, if_false]; exact hPb) hS' fun v' h'' tk'' hP' hk'' => ?_⟩
      exact hR v' h'' tk'' hP' fun b o hbw hbS e => hk'' b o hbw hbS (hk' b o hbw e)
theorem min_firstJ (W : Walks prog w A.in1 I fp wr n P St) (bt : Nat → Nat → Bool) (S : Addr) (hSf : S ∉ fp) (hcmp : CmpAt prog w A.in1 .Lt P bt J) (hJ : ∀ h h' : Heap, J h → (∀ b o, b ∉ wr → b ≠ S → h.get? b = some o → h'.get? b = some o) → J h') (hn : 0 < n) {s : Shared} {c : Nat} (j0 : J s.heap) (hst : St 0 s.heap)
    (hS : s.heap.get? S = some { cls := .type "list", dict := none, data := .seq #[] c, slots := #[] })
    (hR : ∀ v h' tk, P (argBest bt (n - 1)) v → (∀ b o, b ∉ wr → b ≠ S → s.heap.get? b = some o → h'.get? b = some o) → R (.ok (.ret v)) { s with heap := h', toks := tk }) :
    codeAny (model prog w) A (.builtin "min.loop" ⟨[.ref I, .none, .ref S], []⟩) R s := by
  have hSw : S ∉ wr := fun h => hSf (W.sub _ h)
  have hname : (toString "min" ++ toString ".loop" : String) = "min.loop" := by decide
  refine codeAny_builtin F.entry_min_loop ?_
  rw [Around.under_plainId F.plain_min_loop _]
  show wpAny _ A.in1 (seqItems? (.ref S) >>= _) _ _ s
  refine wpAny_bind (wpAny_seqItems hS rfl ?_)
  show wpAny _ A.in1 (tryCatch (pyNext (.ref I)) _ >>= _) _ _ s
  refine wpAny_bind (wpAny_tryCatch (W.item 0 s _ _ hn hst fun v h' tk hP hst' hk' => ?_))
  have hS' := hk' S _ hSw hS
  have j1 : J h' := hJ _ _ j0 fun b o h1 _ e => hk' b o h1 e
  show wpAny _ A.in1 (updateSeq S (fun _ => #[v, v]) >>= _) _ _ _
  refine wpAny_bind ?_
  refine wpAny_updateSeq hS' rfl ?_
  rw [hname]
  refine wpAny_pure ⟨plainId_quiet F.plain_min_loop _, min_loopJ W bt S hSf hcmp hJ _ 0 _ v _ rfl hn (hJ _ _ j1 fun b o _ h2 e => (Heap.get?_update_other _ _ (Ne.symm h2)).trans e) (W.frame _ _ _ hst' fun b hbf o e => ?_) hP (Heap.get?_update_self _ hS' rfl) fun v' h'' tk'' hP' hk'' => ?_⟩
  · exact (Heap.get?_update_other _ _ (fun h : S = b => hSf (by rw [h]; exact hbf))).trans e
  · exact hR v' h'' tk'' hP' fun b o hbw hbS e => hk'' b o hbw hbS ((Heap.get?_update_other _ _ (Ne.symm hbS)).trans (hk' b o hbw e))
theorem call_minJ {x : Value} {Q : Value → Shared → Prop} {E : Value → Shared → Prop} {s : Shared}
    (h : wpAny (model prog w) A.in1 (pyIter x) (fun it s₂ => ∃ I fp wr n P St bt J, it = .ref I ∧ Walks prog w A.in1 I fp wr n P St ∧ St 0 s₂.heap ∧ (∀ b ∈ fp, b < s₂.heap.objs.size) ∧ 0 < n ∧ CmpAt prog w A.in1 .Lt P bt J ∧ J s₂.heap ∧
      (∀ (S : Addr) (h h' : Heap), s₂.heap.objs.size ≤ S → J h → (∀ b o, b ∉ wr → b ≠ S → h.get? b = some o → h'.get? b = some o) → J h') ∧
      ∀ v h' tk, P (argBest bt (n - 1)) v → (∀ b o, b ∉ wr → s₂.heap.get? b = some o → h'.get? b = some o) → Q v { s₂ with heap := h', toks := tk }) E s) :
    wpAny (model prog w) A (call (.builtin "min") [x]) Q E s := by
  have hname : (toString "min" ++ toString ".loop" : String) = "min.loop" := by decide
  refine call_function_tree F.kind_min F.plain_min F.entry_min (F.args_min1 _) ?_
  show wpAny _ A.in1 (Builtin.Builtins.bindParams "min" ["key", "default"] 0 ⟨[], []⟩ >>= _) _ _ s
  refine wpAny_bind (wpAny_of_eq (show Builtin.Builtins.bindParams "min" ["key", "default"] 0 ⟨[], []⟩ = pure [none, none] from rfl) ?_)
  refine wpAny_bind (wpAny_pure ?_)
  refine wpAny_bind (wpAny_mono h (fun it s₂ h₂ => ?_) fun _ _ e => e)
  obtain ⟨I, fp, wr, n, P, St, bt, J, rfl, W, hst, hfp, hn, hcmp, j0, hJ, hQ⟩ := h₂
  refine wpAny_bind (wpAny_newObj_type ?_)
  have hSf : s₂.heap.objs.size ∉ fp := fun hm => Nat.lt_irrefl _ (hfp _ hm)
  rw [hname]
  refine wpAny_pure ⟨plainId_quiet F.plain_min_loop _, min_firstJ W bt s₂.heap.objs.size hSf hcmp (hJ _ · · (Nat.le_refl _)) hn (hJ _ _ _ (Nat.le_refl _) j0 fun b _ _ _ e => Heap.get?_push_of_some _ e) (W.frame _ _ _ hst fun b _ o e => Heap.get?_push_of_some _ e) (Heap.get?_push_size _ rfl) fun v h' tk hP hk => ?_⟩
  exact hQ v h' tk hP fun b o hbw e => hk b o hbw (Nat.ne_of_lt (Heap.lt_size e)) (Heap.get?_push_of_some _ e)
/-- min(l) -/
theorem min_list {l : Addr} {items : Array Value} {Q : Value → Shared → Prop} {E : Value → Shared → Prop} {s : Shared} (hh : A.handled = none) (hl : s.heap.IsList l items) (hne : 0 < items.size) (bt : Nat → Nat → Bool)
    (hcmp : CmpAt prog w A.in1 .Lt (fun i v => items[i]? = some v) bt J) (j0 : J s.heap) (hJ : ∀ (X : List Addr) (h h' : Heap), (∀ b ∈ X, s.heap.objs.size ≤ b) → J h → (∀ b o, b ∉ X → h.get? b = some o → h'.get? b = some o) → J h')
    (h : ∀ v h' tk, items[argBest bt (items.size - 1)]? = some v → (∀ b o, s.heap.get? b = some o → h'.get? b = some o) → Q v { s with heap := h', toks := tk }) : wpAny (model prog w) A (call (.builtin "min") [.ref l]) Q E s := by
  have hlt : l < s.heap.objs.size := by obtain ⟨_, e, _⟩ := hl; exact Heap.lt_size e
  refine call_minJ (wpAny_pyIter_list hl ?_)
  have hsz : ∀ b ∈ [s.heap.objs.size, l], b < (s.heap.push { cls := .type "list_iterator", data := .fields #[.ref l, .int 0 0] }).objs.size := fun b hb => by
    rw [Heap.size_push]
    rcases List.mem_cons.mp hb with rfl | hb
    · exact Nat.lt_succ_self _
    · rw [List.mem_singleton.mp hb]; exact Nat.lt_succ_of_lt hlt
  refine ⟨_, _, _, _, _, _, bt, J, rfl, Walks.list (A := A.in1) hh _ l (Nat.ne_of_lt hlt) items, ⟨⟨_, Heap.get?_push_size _ rfl, rfl, rfl⟩, hl.push _⟩, hsz, hne, hcmp, ?_, fun S g g' hS jg k => ?_, fun v h' tk hP hk => ?_⟩
  · exact hJ [] _ _ (fun _ h => nomatch h) j0 fun b o _ e => Heap.get?_push_of_some _ e
  · have hS' : s.heap.objs.size + 1 ≤ S := by rw [← Heap.size_push]; exact hS
    refine hJ [s.heap.objs.size, S] g g' (fun b hb => ?_) jg fun b o hb e => k b o (fun h => hb (by simp at h; simp [h])) (fun h => hb (by simp [h])) e
    rcases List.mem_cons.mp hb with rfl | hb
    · exact Nat.le_refl _
    · rw [List.mem_singleton.mp hb]; omega
  · refine h v h' tk hP fun b o e => hk b o (fun hb => ?_) (Heap.get?_push_of_some _ e)
    rw [List.mem_singleton.mp hb] at e
    exact absurd (Heap.lt_size e) (Nat.lt_irrefl _)
end
end Br

namespace Br
open PySem PySem.Spec PyProof.Rows L2
/-! ### the least fault -/
def ltT (i : Nat) (f : Flt) (j : Nat) (g : Flt) : Bool := if f.l = g.l then (if f.c = g.c then (if i = j then (if f.why = g.why then false else decide (f.why.cps.toList < g.why.cps.toList)) else decide (i < j)) else decide (f.c < g.c)) else decide (f.l < g.l)
def FtAt (h : Heap) (a : Addr) (i : Nat) (f : Flt) : Prop := ∃ its : List Value, Vals (fT i f) its ∧ IsTup h a its.toArray
theorem four_vals {i : Nat} {f : Flt} {its : List Value} (h : Vals (fT i f) its) : ∃ t0 t1 t2 t3, its = [.int f.l t0, .int f.c t1, .int i t2, .str f.why t3] := by
  unfold fT at h
  cases h with
  | cons h0 h =>
    cases h with
    | cons h1 h =>
      cases h with
      | cons h2 h =>
        cases h with
        | cons h3 h =>
          cases h
          obtain ⟨t0, rfl⟩ := h0
          obtain ⟨t1, rfl⟩ := h1
          obtain ⟨t2, rfl⟩ := h2
          obtain ⟨t3, rfl⟩ := h3
          exact ⟨t0, t1, t2, t3, rfl⟩
theorem rc_fault {A : Around} {s : Shared} {a b : Addr} {f g : Flt} {i j : Nat} (ha : FtAt s.heap a i f) (hb : FtAt s.heap b j g) (hu : A.units < cLine) : Ob.RcOp .Lt A s (.ref a) (.ref b) (ltT i f j g) := by
  obtain ⟨its, v1, p1⟩ := ha
  obtain ⟨jts, v2, p2⟩ := hb
  obtain ⟨t0, t1, t2, t3, rfl⟩ := four_vals v1
  obtain ⟨u0, u1, u2, u3, rfl⟩ := four_vals v2
  let e : Nat → Bool := fun k => match k with
    | 0 => ((f.l : Int) == g.l)
    | 1 => ((f.c : Int) == g.c)
    | 2 => ((i : Int) == j)
    | _ => (f.why == g.why)
  let r : Nat → Bool := fun k => match k with
    | 0 => decide ((f.l : Int) < g.l)
    | 1 => decide ((f.c : Int) < g.c)
    | 2 => decide ((i : Int) < j)
    | _ => decide (f.why.cps.toList < g.why.cps.toList)
  have h := Ob.RcOp.tuples_lt (A := A) (s := s) (e := e) (r := r) p1 p2 hu (fun k h1 h2 => ?_) (fun k h1 h2 _ => ?_)
  · have hv : Ob.lexAt e r (decide ((4 : Nat) < 4)) 0 (min 4 4) = ltT i f j g := by
      show (if ((f.l : Int) == g.l) = true then (if ((f.c : Int) == g.c) = true then (if ((i : Int) == j) = true then (if (f.why == g.why) = true then false else decide (f.why.cps.toList < g.why.cps.toList)) else decide ((i : Int) < j)) else decide ((f.c : Int) < g.c)) else decide ((f.l : Int) < g.l)) = _
      unfold ltT
      simp only [beq_iff_eq, Int.ofNat_inj, Int.ofNat_lt]
    rw [← hv]
    exact h
  · match k, h1, h2 with
    | 0, _, _ => exact SeqAt.EqAt.int_int _ _ _ _
    | 1, _, _ => exact SeqAt.EqAt.int_int _ _ _ _
    | 2, _, _ => exact SeqAt.EqAt.int_int _ _ _ _
    | 3, _, _ => exact SeqAt.EqAt.str_str _ _ _ _
    | k + 4, h1, _ => exact absurd h1 (by show ¬ k + 4 < 4; omega)
  · match k, h1, h2 with
    | 0, _, _ => exact Ob.RcOp.lt_int _ _ _ _
    | 1, _, _ => exact Ob.RcOp.lt_int _ _ _ _
    | 2, _, _ => exact Ob.RcOp.lt_int _ _ _ _
    | 3, _, _ => exact fun _ _ _ _ q => PyProof.Rows.lt_str q
    | k + 4, h1, _ => exact absurd h1 (by show ¬ k + 4 < 4; omega)
end Br

namespace Br
open PySem PySem.Spec PyProof.Rows L2
section
variable {X : Cx}
/-- x != [] for a list of any things -/
def rNeN (K : PySem.W.Frag) : R2 := fun x y H Q => ∃ a b xs, x = .ref a ∧ y = .ref b ∧ SqL K H a xs ∧ SqL K H b [] ∧ Q (.bl !xs.isEmpty) H
theorem op_neNil (hu : X.A.units < cLine) : OpR X (compareOp .NotEq) (rNeN X.K) := by
  intro pins s σ H x y v u Q I rx ry h
  obtain ⟨a, b, xs, rfl, rfl, ha, hb, q⟩ := h
  cases rx
  cases ry
  obtain ⟨its, r1, ⟨o1, n1, p1, c1, d1, e1⟩, z1⟩ := I.list ha
  obtain ⟨jts, r2, ⟨o2, n2, p2, c2, d2, e2⟩, z2⟩ := I.list hb
  cases r2
  have hl : s.heap.IsList a its.toArray := ⟨o1, p1, c1, n1, e1⟩
  have hb' : s.heap.IsList b (([] : List Value).toArray) := ⟨o2, p2, c2, n2, e2⟩
  cases r1 with
  | nil =>
    refine PySem.SeqAt.RcNeAt.lists (e := fun _ => true) hl hb' rfl hu (fun j h1 => ?_) _ _ _ _ ⟨.bl false, H, I, rfl, q⟩
    simp at h1
  | cons h t => exact PySem.SeqAt.RcNeAt.lists_lengths hl hb' rfl hu _ _ _ _ ⟨.bl true, H, I, rfl, q⟩
/-- min of a list of faults -/
def bestF (fs : List Flt) (i j : Nat) : Bool := match fs[i]?, fs[j]? with
  | some f, some g => ltT i f j g
  | _, _ => false
def rMinF (K : PySem.W.Frag) : List V → Hp → VK → Prop := fun vs H Q => ∃ (a : Addr) (as : List Addr) (fs : List Flt), vs = [V.ref a] ∧ SqL K H a (as.map V.ref) ∧ 0 < fs.length ∧ as.length = fs.length ∧ (∀ i c f, as[i]? = some c → fs[i]? = some f → SqT K H c (fT i f)) ∧
  ∀ c f, as[argBest (bestF fs) (fs.length - 1)]? = some c → fs[argBest (bestF fs) (fs.length - 1)]? = some f → Q (.ref c) H
theorem vals_refs : ∀ {as : List Addr} {its : List Value}, Vals (as.map V.ref) its → its = as.map Value.ref
  | [], _, .nil => rfl
  | a :: as, _, .cons h t => by rw [vals_refs t]; cases h; rfl
theorem FtAt.keeps {h h' : Heap} {a : Addr} {i : Nat} {f : Flt} (x : FtAt h a i f) (hk : ∀ o, h.get? a = some o → h'.get? a = some o) : FtAt h' a i f := let ⟨its, v, o, ho, r⟩ := x; ⟨its, v, o, hk o ho, r⟩
theorem cr_minF (hc : X.calm = true) (hu : X.A.units + 64 < cLine) : CallR X (.builtin "min") (rMinF X.K) := by
  intro pins s σ H vs us Q I r h
  obtain ⟨a, as, fs, rfl, hs, hne, hlen, hf, q⟩ := h
  obtain ⟨its, rv, hl, _⟩ := I.list hs
  rw [Vals.ref1 r]
  have e := vals_refs rv
  subst e
  have hat : ∀ i c f, as[i]? = some c → fs[i]? = some f → FtAt s.heap c i f := fun i c f h1 h2 => by
    obtain ⟨its, v, p, _⟩ := I.tuple (hf i c f h1 h2)
    exact ⟨its, v, p⟩
  let J : Heap → Prop := fun h => ∀ i c f, as[i]? = some c → fs[i]? = some f → FtAt h c i f ∧ c < s.heap.objs.size
  have hsz : ((as.map Value.ref).toArray).size = fs.length := by simp [hlen]
  refine min_list (J := J) (I.ok.hd hc) hl.isList (by rw [hsz]; exact hne) (bestF fs) ?_ (fun i c f h1 h2 => ⟨hat i c f h1 h2, ?_⟩) ?_ ?_
  · intro i j vi vj s' Q' E' hJ hi hj hq
    simp only [List.getElem?_toArray, List.getElem?_map, Option.map_eq_some_iff] at hi hj
    obtain ⟨c, hc1, rfl⟩ := hi
    obtain ⟨d, hd1, rfl⟩ := hj
    have i1 : i < fs.length := by rw [← hlen]; exact (List.getElem?_eq_some_iff.mp hc1).1
    have j1 : j < fs.length := by rw [← hlen]; exact (List.getElem?_eq_some_iff.mp hd1).1
    have e1 := List.getElem?_eq_getElem i1
    have e2 := List.getElem?_eq_getElem j1
    have hb : bestF fs i j = ltT i fs[i] j fs[j] := by unfold bestF; rw [e1, e2]
    rw [hb] at hq
    exact rc_fault (hJ i c _ hc1 e1).1 (hJ j d _ hd1 e2).1 (by show _ + 1 < _; omega) _ _ _ _ hq
  · obtain ⟨_, _, o, ho, _⟩ := hat i c f h1 h2
    exact Heap.lt_size ho
  · intro Y h h' hY hJ hk
    intro i c f h1 h2
    obtain ⟨p, lt⟩ := hJ i c f h1 h2
    exact ⟨p.keeps fun o ho => hk c o (fun hb => absurd (hY c hb) (Nat.not_le_of_lt lt)) ho, lt⟩
  · intro v h' tk hv hk
    rw [hsz] at hv
    simp only [List.getElem?_toArray, List.getElem?_map, Option.map_eq_some_iff] at hv
    obtain ⟨c, hc1, rfl⟩ := hv
    have i1 : argBest (bestF fs) (fs.length - 1) < fs.length := Nat.lt_of_lt_of_eq (List.getElem?_eq_some_iff.mp hc1).1 hlen
    exact ⟨.ref c, H, I.kept hk, rfl, q c _ hc1 (List.getElem?_eq_getElem i1)⟩
end
end Br

namespace Br
open PySem PySem.Spec PyProof.Rows L2
/-! ### the statements of a text, one after the other; what a text loads to -/
def stmF (s : Ps) (ts : List Tk) : PR :=
  match ts with
  | [] => .error (0, 0)
  | t :: _ => if t.t = "weights" then weightsF s ts else if t.t = "away" then awayF s ts else if t.t = "makeup" then makeupF s ts else .error (t.l, t.c)
def atEnd (ts : List Tk) : Bool := match ts with
  | [] => true
  | t :: _ => decide (t.k = "end")
def loopF : Nat → Ps → List Tk → Except (Nat × Nat) Ps
  | 0, s, _ => .ok s
  | k + 1, s, ts => if atEnd ts = true then .ok s else bindE (fun p => loopF k p.1 p.2) (stmF s ts)
inductive Ld where
  | rota (r : Rota)
  | syn (l c : Nat)
  | chk (why : Str) (l c : Nat)
def leastF (fs : List Flt) : Flt := (fs[argBest (bestF fs) (fs.length - 1)]?).getD ⟨0, 0, ""⟩
def insA (t : Int × Int × Int) : List (Int × Int × Int) → List (Int × Int × Int)
  | [] => [t]
  | u :: us => if t = u then u :: us else if t.1 < u.1 ∨ (t.1 = u.1 ∧ (t.2.1 < u.2.1 ∨ (t.2.1 = u.2.1 ∧ t.2.2 < u.2.2))) then t :: u :: us else u :: insA t us
def doneF (s : Ps) (js : List Nat) : Ld :=
  if s.fs = [] then .rota ⟨s.names, js.map fun j : Nat => (j : Int), s.W.getD (List.replicate s.names.length 1), s.aws.foldr insA [], s.M.getD []⟩ else .chk (leastF s.fs).why (leastF s.fs).l (leastF s.fs).c
def rotaF (ts : List Tk) : Ld :=
  match bindE (fun p => bindE (fun q => bindE (fun s => .ok (s, q.1.2)) (loopF q.2.length q.1.1 q.2)) (turnsF p.1 p.2)) (peopleF Ps.zero ts) with
  | .error e => .syn e.1 e.2
  | .ok (s, js) => doneF s js
def loadF (z : Str) : Ld := match lexF z with
  | .error e => .syn e.1 e.2
  | .ok ts => rotaF ts
/-! ### the bounds go on -/
theorem bind_inv {α β : Type} {f : α → Except (Nat × Nat) β} {e : Except (Nat × Nat) α} {b : β} (h : bindE f e = .ok b) : ∃ a, e = .ok a ∧ f a = .ok b := by
  cases e with
  | error x => cases h
  | ok a => exact ⟨a, rfl, h⟩
theorem wordF_len {w : Str} {ts r : List Tk} (h : wordF w ts = .ok r) : r.length + 1 = ts.length := by
  cases ts with
  | nil => cases h
  | cons t r' =>
    have h : (if t.t = w then Except.ok r' else .error (t.l, t.c)) = .ok r := h
    split at h
    · cases h; rfl
    · cases h
theorem takeF_len {k : Str} {ts : List Tk} {p : Tk × List Tk} (h : takeF k ts = .ok p) : p.2.length + 1 = ts.length := by
  cases ts with
  | nil => cases h
  | cons t r' =>
    have h : (if t.k = k then Except.ok (t, r') else .error (t.l, t.c)) = .ok p := h
    split at h
    · cases h; rfl
    · cases h
/-- after a statement: few faults still, the same people, fewer tokens -/
def Goes (s : Ps) (ts : List Tk) (s' : Ps) (rest : List Tk) : Prop := (Few s ts → Few s' rest) ∧ s'.names = s.names ∧ rest.length < ts.length ∧ s'.aws.length ≤ s.aws.length + 1
theorem wS_aws (p : Ps × Nat) (t : Tk) : (wS p t).1.aws = p.1.aws := by
  unfold wS; dsimp only; split <;> rfl
theorem w_aws : ∀ (ts : List Tk) (p : Ps × Nat), (ts.foldl wS p).1.aws = p.1.aws
  | [], _ => rfl
  | t :: ts, p => (w_aws ts (wS p t)).trans (wS_aws p t)
theorem twice_aws (b : Bool) (st : Tk) (s : Ps) : (twiceF b st s).aws = s.aws := by unfold twiceF; split <;> rfl
theorem short_few (st : Tk) (m : Nat) (s : Ps) : (shortF st m s).fs.length ≤ s.fs.length + 1 ∧ (shortF st m s).names = s.names ∧ (shortF st m s).aws = s.aws := by
  unfold shortF
  split
  · exact ⟨by rw [bad_len]; exact Nat.le_refl _, rfl, rfl⟩
  · exact ⟨Nat.le_succ _, rfl, rfl⟩
theorem weights_goes {s s' : Ps} {ts rest : List Tk} (h : weightsF s ts = .ok (s', rest)) : Goes s ts s' rest := by
  cases ts with
  | nil => cases h
  | cons st r =>
    obtain ⟨t1, e1, h⟩ := bind_inv h
    obtain ⟨p, e2, h⟩ := bind_inv h
    cases h
    have l1 := wordF_len e1
    have l2 := allF_len (tk := p.1) (rest := p.2) e2
    obtain ⟨a1, a2, _⟩ := w_few p.1 (twiceF s.W.isSome st s, 0)
    obtain ⟨b1, b2⟩ := twice_few s.W.isSome st s
    obtain ⟨c1, c2, c3⟩ := short_few st p.1.length (p.1.foldl wS (twiceF s.W.isSome st s, 0)).1
    refine ⟨fun hf => ?_, c2.trans (a2.trans b2), by omega, ?_⟩
    · have a1 : (p.1.foldl wS (twiceF s.W.isSome st s, 0)).1.fs.length ≤ (twiceF s.W.isSome st s).fs.length + p.1.length := a1
      show (shortF st p.1.length (p.1.foldl wS (twiceF s.W.isSome st s, 0)).1).fs.length + 3 * p.2.length ≤ 30000
      have hf : s.fs.length + 3 * (st :: r).length ≤ 30000 := hf
      omega
    · show (shortF st p.1.length (p.1.foldl wS (twiceF s.W.isSome st s, 0)).1).aws.length ≤ _
      rw [c3, w_aws, twice_aws]; exact Nat.le_succ _
end Br

namespace Br
open PySem PySem.Spec PyProof.Rows L2
theorem person_aws (s : Ps) (t : Tk) : (personF s t).2.aws = s.aws := by unfold personF; split <;> rfl
theorem mk_aws : ∀ (ts : List Tk) (p : Ps × List Nat), (ts.foldl mkS p).1.aws = p.1.aws
  | [], _ => rfl
  | t :: ts, p => (mk_aws ts (mkS p t)).trans (person_aws p.1 t)
theorem makeup_goes {s s' : Ps} {ts rest : List Tk} (h6 : s.names.length ≤ 6) (h : makeupF s ts = .ok (s', rest)) : Goes s ts s' rest := by
  cases ts with
  | nil => cases h
  | cons st r =>
    obtain ⟨t1, e1, h⟩ := bind_inv h
    obtain ⟨p, e2, h⟩ := bind_inv h
    cases h
    have l1 := wordF_len e1
    have l2 := allF_len (tk := p.1) (rest := p.2) e2
    obtain ⟨a1, a2, _⟩ := mk_few p.1 (s, []) h6 (fun j hj => nomatch hj)
    have a3 := mk_aws p.1 (s, [])
    generalize (p.1.foldl mkS (s, [])).1 = sp at *
    obtain ⟨b1, b2⟩ := twice_few s.M.isSome st sp
    refine ⟨fun hf => ?_, b2.trans a2, by omega, ?_⟩
    · have a1 : sp.fs.length ≤ s.fs.length + p.1.length := a1
      show (twiceF s.M.isSome st sp).fs.length + 3 * p.2.length ≤ 30000
      have hf : s.fs.length + 3 * (st :: r).length ≤ 30000 := hf
      omega
    · show (twiceF s.M.isSome st sp).aws.length ≤ _
      rw [twice_aws, a3]; exact Nat.le_succ _
theorem awayB_few (st : Tk) (s : Ps) (tr tm : Tk) : (awayB st s tr tm).fs.length ≤ s.fs.length + 1 ∧ (awayB st s tr tm).names = s.names ∧ (awayB st s tr tm).aws = s.aws := by
  unfold awayB
  split
  · exact ⟨by rw [bad_len]; exact Nat.le_refl _, rfl, rfl⟩
  · split
    · exact ⟨by rw [bad_len]; exact Nat.le_refl _, rfl, rfl⟩
    · split
      · exact ⟨by rw [bad_len]; exact Nat.le_refl _, rfl, rfl⟩
      · exact ⟨Nat.le_succ _, rfl, rfl⟩
theorem away_goes {s s' : Ps} {ts rest : List Tk} (h : awayF s ts = .ok (s', rest)) : Goes s ts s' rest := by
  cases ts with
  | nil => cases h
  | cons st r =>
    obtain ⟨t1, e1, h⟩ := bind_inv h
    obtain ⟨p1, e2, h⟩ := bind_inv h
    obtain ⟨p2, e3, h⟩ := bind_inv h
    obtain ⟨t4, e4, h⟩ := bind_inv h
    obtain ⟨p3, e5, h⟩ := bind_inv h
    obtain ⟨t6, e6, h⟩ := bind_inv h
    cases h
    have l1 := wordF_len e1
    have l2 := takeF_len e2
    have l3 := takeF_len e3
    have l4 := wordF_len e4
    have l5 := takeF_len e5
    have l6 := wordF_len e6
    obtain ⟨a1, a2, _⟩ := personF_few s p1.1
    have a3 := person_aws s p1.1
    unfold awayEnd
    generalize (personF s p1.1).1 = k at *
    generalize (personF s p1.1).2 = sp at *
    obtain ⟨b1, b2, b3⟩ := awayB_few st sp p2.1 p3.1
    refine ⟨fun hf => ?_, b2.trans a2, by omega, ?_⟩
    · show (awayB st sp p2.1 p3.1).fs.length + 3 * rest.length ≤ 30000
      have hf : s.fs.length + 3 * (st :: r).length ≤ 30000 := hf
      omega
    · show ((awayB st sp p2.1 p3.1).aws ++ [_]).length ≤ _
      rw [List.length_append, b3, a3]; exact Nat.le_refl _
theorem stm_goes {s s' : Ps} {ts rest : List Tk} (h6 : s.names.length ≤ 6) (h : stmF s ts = .ok (s', rest)) : Goes s ts s' rest := by
  cases ts with
  | nil => cases h
  | cons t r =>
    have h : (if t.t = "weights" then weightsF s (t :: r) else if t.t = "away" then awayF s (t :: r) else if t.t = "makeup" then makeupF s (t :: r) else .error (t.l, t.c)) = .ok (s', rest) := h
    split at h
    · exact weights_goes h
    · split at h
      · exact away_goes h
      · split at h
        · exact makeup_goes h6 h
        · cases h
theorem miss_few (st : Tk) (p : Ps × List Nat) : (missF st p).fs.length ≤ p.1.fs.length + 1 ∧ (missF st p).names = p.1.names := by
  unfold missF
  split
  · exact ⟨by rw [bad_len]; exact Nat.le_refl _, rfl⟩
  · exact ⟨Nat.le_succ _, rfl⟩
theorem turns_goes {s s' : Ps} {ts rest : List Tk} {js : List Nat} (h : turnsF s ts = .ok ((s', js), rest)) : (Few s ts → Few s' rest) ∧ s'.names = s.names ∧ rest.length < ts.length := by
  cases ts with
  | nil => cases h
  | cons st r =>
    obtain ⟨t1, e1, h⟩ := bind_inv h
    obtain ⟨p, e2, h⟩ := bind_inv h
    cases h
    have l1 := wordF_len e1
    have l2 := allF_len (tk := p.1) (rest := p.2) e2
    obtain ⟨a1, a2, _⟩ := turn_few p.1 (s, [])
    obtain ⟨b1, b2⟩ := miss_few st (p.1.foldl turnS (s, []))
    refine ⟨fun hf => ?_, b2.trans a2, by omega⟩
    have a1 : (p.1.foldl turnS (s, [])).1.fs.length ≤ s.fs.length + 2 * p.1.length := a1
    show (missF st (p.1.foldl turnS (s, []))).fs.length + 3 * p.2.length ≤ 30000
    have hf : s.fs.length + 3 * (st :: r).length ≤ 30000 := hf
    omega
theorem people_goes {s s' : Ps} {ts rest : List Tk} (h6 : s.names.length ≤ 6) (h : peopleF s ts = .ok (s', rest)) : (Few s ts → Few s' rest) ∧ s'.names.length ≤ 6 ∧ rest.length < ts.length := by
  obtain ⟨t1, e1, h⟩ := bind_inv h
  obtain ⟨p, e2, h⟩ := bind_inv h
  cases h
  have l1 := wordF_len e1
  have l2 := allF_len (tk := p.1) (rest := p.2) e2
  obtain ⟨a1, a2⟩ := people_few p.1 s
  refine ⟨fun hf => ?_, a2 h6, by omega⟩
  show (p.1.foldl peopleS s).fs.length + 3 * p.2.length ≤ 30000
  have hf : s.fs.length + 3 * ts.length ≤ 30000 := hf
  omega
end Br

namespace Br
open PySem PySem.Spec PyProof.Rows L2
/-- without a fault the absences are few and small -/
def FsAw (s : Ps) : Prop := s.fs = [] → s.aws.length ≤ 20 ∧ ∀ t ∈ s.aws, 0 ≤ t.1 ∧ t.1 < 7 ∧ t.2.1 < t.2.2 ∧ t.2.2 ∈ mods
/-- the faults stay -/
def Grow (s s' : Ps) : Prop := s'.fs = [] → s.fs = []
theorem FsAw.same {s s' : Ps} (h : FsAw s) (g : Grow s s') (e : s'.aws = s.aws) : FsAw s' := fun hf => by rw [e]; exact h (g hf)
theorem bad_ne (s : Ps) (t : Tk) (w : Str) : (s.bad t w).fs ≠ [] := fun h => by
  have := congrArg List.length h
  rw [bad_len] at this; cases this
theorem grow_bad (s : Ps) (t : Tk) (w : Str) : Grow s (s.bad t w) := fun h => absurd h (bad_ne s t w)
theorem person_grow (s : Ps) (t : Tk) : Grow s (personF s t).2 := by
  unfold personF
  split
  · exact fun h => h
  · exact grow_bad s t _
theorem wS_grow (p : Ps × Nat) (t : Tk) : Grow p.1 (wS p t).1 := by
  unfold wS; dsimp only; split
  · exact grow_bad _ _ _
  · exact fun h => h
theorem w_grow : ∀ (ts : List Tk) (p : Ps × Nat), Grow p.1 (ts.foldl wS p).1
  | [], _ => fun h => h
  | t :: ts, p => fun h => wS_grow p t (w_grow ts (wS p t) h)
theorem mk_grow : ∀ (ts : List Tk) (p : Ps × List Nat), Grow p.1 (ts.foldl mkS p).1
  | [], _ => fun h => h
  | t :: ts, p => fun h => person_grow p.1 t (mk_grow ts (mkS p t) h)
theorem twice_grow (b : Bool) (st : Tk) (s : Ps) : Grow s (twiceF b st s) := by
  unfold twiceF; split
  · exact grow_bad _ _ _
  · exact fun h => h
theorem short_grow (st : Tk) (m : Nat) (s : Ps) : Grow s (shortF st m s) := by
  unfold shortF; split
  · exact grow_bad _ _ _
  · exact fun h => h
theorem weights_aw {s s' : Ps} {ts rest : List Tk} (o : FsAw s) (h : weightsF s ts = .ok (s', rest)) : FsAw s' := by
  cases ts with
  | nil => cases h
  | cons st r =>
    obtain ⟨t1, e1, h⟩ := bind_inv h
    obtain ⟨p, e2, h⟩ := bind_inv h
    cases h
    refine o.same (fun hf => twice_grow _ st s (w_grow p.1 (twiceF s.W.isSome st s, 0) (short_grow st _ _ hf))) ?_
    show (shortF st p.1.length (p.1.foldl wS (twiceF s.W.isSome st s, 0)).1).aws = _
    rw [(short_few _ _ _).2.2, w_aws, twice_aws]
theorem makeup_aw {s s' : Ps} {ts rest : List Tk} (o : FsAw s) (h : makeupF s ts = .ok (s', rest)) : FsAw s' := by
  cases ts with
  | nil => cases h
  | cons st r =>
    obtain ⟨t1, e1, h⟩ := bind_inv h
    obtain ⟨p, e2, h⟩ := bind_inv h
    cases h
    refine o.same (fun hf => mk_grow p.1 (s, []) (twice_grow _ st _ hf)) ?_
    show (twiceF s.M.isSome st (p.1.foldl mkS (s, [])).1).aws = _
    rw [twice_aws, mk_aws]
theorem awayB_ok {st : Tk} {s : Ps} {tr tm : Tk} (h : (awayB st s tr tm).fs = []) : s.fs = [] ∧ valT tm.t ∈ mods ∧ valT tr.t < valT tm.t ∧ s.aws.length ≠ 20 := by
  unfold awayB at h
  split at h
  · exact absurd h (bad_ne _ _ _)
  · rename_i h1
    split at h
    · exact absurd h (bad_ne _ _ _)
    · rename_i h2
      split at h
      · exact absurd h (bad_ne _ _ _)
      · rename_i h3
        exact ⟨h, Classical.not_not.mp h1, by omega, h3⟩
theorem away_aw {s s' : Ps} {ts rest : List Tk} (h6 : s.names.length ≤ 6) (o : FsAw s) (h : awayF s ts = .ok (s', rest)) : FsAw s' := by
  cases ts with
  | nil => cases h
  | cons st r =>
    obtain ⟨t1, e1, h⟩ := bind_inv h
    obtain ⟨p1, e2, h⟩ := bind_inv h
    obtain ⟨p2, e3, h⟩ := bind_inv h
    obtain ⟨t4, e4, h⟩ := bind_inv h
    obtain ⟨p3, e5, h⟩ := bind_inv h
    obtain ⟨t6, e6, h⟩ := bind_inv h
    cases h
    intro hf
    obtain ⟨g1, g2, g3, g4⟩ := awayB_ok (show (awayB st (personF s p1.1).2 p2.1 p3.1).fs = [] from hf)
    obtain ⟨o1, o2⟩ := o (person_grow s p1.1 g1)
    rw [person_aws] at g4
    show ((awayB st (personF s p1.1).2 p2.1 p3.1).aws ++ [_]).length ≤ 20 ∧ ∀ t ∈ (awayB st (personF s p1.1).2 p2.1 p3.1).aws ++ [_], _
    rw [(awayB_few _ _ _ _).2.2, person_aws]
    refine ⟨by rw [List.length_append]; show s.aws.length + 1 ≤ 20; omega, fun t ht => ?_⟩
    rcases List.mem_append.mp ht with ht | ht
    · exact o2 t ht
    · rw [List.mem_singleton.mp ht]
      have := personF_lt s p1.1 h6
      exact ⟨Int.natCast_nonneg _, by show ((personF s p1.1).1 : Int) < 7; omega, g3, g2⟩
theorem stm_aw {s s' : Ps} {ts rest : List Tk} (h6 : s.names.length ≤ 6) (o : FsAw s) (h : stmF s ts = .ok (s', rest)) : FsAw s' := by
  cases ts with
  | nil => cases h
  | cons t r =>
    have h : (if t.t = "weights" then weightsF s (t :: r) else if t.t = "away" then awayF s (t :: r) else if t.t = "makeup" then makeupF s (t :: r) else .error (t.l, t.c)) = .ok (s', rest) := h
    split at h
    · exact weights_aw o h
    · split at h
      · exact away_aw h6 o h
      · split at h
        · exact makeup_aw o h
        · cases h
end Br

namespace Br
open PySem PySem.Spec PyProof.Rows L2
theorem loop_end {s : Ps} {ts : List Tk} (h : atEnd ts = true) : ∀ k, loopF k s ts = .ok s
  | 0 => rfl
  | k + 1 => if_pos h
theorem loop_step {s : Ps} {ts : List Tk} (h : ¬ atEnd ts = true) (k : Nat) : loopF (k + 1) s ts = bindE (fun p => loopF k p.1 p.2) (stmF s ts) := if_neg h
/-- fuel enough is enough -/
theorem loop_fuel : ∀ (m k : Nat) (s : Ps) (ts : List Tk), s.names.length ≤ 6 → ts.length ≤ m → m ≤ k → loopF k s ts = loopF m s ts
  | m, k, s, ts, h6, hm, hk => by
    by_cases he : atEnd ts = true
    · rw [loop_end he, loop_end he]
    cases m with
    | zero =>
      cases ts with
      | nil => exact absurd rfl he
      | cons t r => exact absurd hm (by rw [List.length_cons]; omega)
    | succ m =>
      cases k with
      | zero => omega
      | succ k =>
        rw [loop_step he, loop_step he]
        cases hs : stmF s ts with
        | error e => rfl
        | ok p =>
          obtain ⟨s', rest⟩ := p
          rw [bindE_ok, bindE_ok]
          obtain ⟨_, g2, g3, _⟩ := stm_goes h6 hs
          exact loop_fuel m k s' rest (by rw [g2]; exact h6) (by omega) (by omega)
/-- one statement on -/
theorem loop_on {s s' : Ps} {ts rest : List Tk} (h6 : s.names.length ≤ 6) (he : ¬ atEnd ts = true) (hs : stmF s ts = .ok (s', rest)) : loopF ts.length s ts = loopF rest.length s' rest := by
  obtain ⟨_, g2, g3, _⟩ := stm_goes h6 hs
  cases hl : ts.length with
  | zero => omega
  | succ m =>
    rw [loop_step he, hs, bindE_ok]
    exact loop_fuel rest.length m s' rest (by rw [g2]; exact h6) (Nat.le_refl _) (by omega)
theorem loop_bad {s : Ps} {ts : List Tk} {e : Nat × Nat} (h6 : s.names.length ≤ 6) (he : ¬ atEnd ts = true) (hs : stmF s ts = .error e) : loopF ts.length s ts = .error e := by
  cases hl : ts.length with
  | zero =>
    cases ts with
    | nil => exact absurd rfl he
    | cons t r => cases hl
  | succ m => rw [loop_step he, hs, bindE_er]
end Br

namespace Br
open PySem PySem.Spec PyProof.Rows L2
/-! ### the absences, each once, ascending -/
theorem insA_mem (t : Int × Int × Int) : ∀ (us : List (Int × Int × Int)) (x : Int × Int × Int), x ∈ insA t us ↔ x = t ∨ x ∈ us
  | [], x => by show x ∈ [t] ↔ _; simp
  | u :: us, x => by
    show x ∈ (if t = u then u :: us else if t.1 < u.1 ∨ (t.1 = u.1 ∧ (t.2.1 < u.2.1 ∨ (t.2.1 = u.2.1 ∧ t.2.2 < u.2.2))) then t :: u :: us else u :: insA t us) ↔ _
    split
    · rename_i h; subst h; simp
    · split
      · simp
      · rw [List.mem_cons, insA_mem t us x, List.mem_cons]
        constructor
        · rintro (h | h | h)
          · exact .inr (.inl h)
          · exact .inl h
          · exact .inr (.inr h)
        · rintro (h | h | h)
          · exact .inr (.inl h)
          · exact .inl h
          · exact .inr (.inr h)
theorem lexLt_tr {a b c : Int × Int × Int} (h : lexLt a b) (h' : lexLt b c) : lexLt a c := by
  unfold lexLt at *; omega
theorem lexLt_or {a b : Int × Int × Int} (h : ¬ lexLt a b) (hn : a ≠ b) : lexLt b a := by
  obtain ⟨a1, a2, a3⟩ := a
  obtain ⟨b1, b2, b3⟩ := b
  have hn : ¬ (a1 = b1 ∧ a2 = b2 ∧ a3 = b3) := fun ⟨x, y, z⟩ => hn (by rw [x, y, z])
  unfold lexLt at *
  dsimp only at *
  omega
theorem insA_asc (t : Int × Int × Int) : ∀ {us : List (Int × Int × Int)}, us.Pairwise lexLt → (insA t us).Pairwise lexLt
  | [], _ => by show [t].Pairwise lexLt; simp
  | u :: us, h => by
    show (if t = u then u :: us else if t.1 < u.1 ∨ (t.1 = u.1 ∧ (t.2.1 < u.2.1 ∨ (t.2.1 = u.2.1 ∧ t.2.2 < u.2.2))) then t :: u :: us else u :: insA t us).Pairwise lexLt
    split
    · exact h
    · rename_i hne
      split
      · rename_i hl
        refine List.pairwise_cons.mpr ⟨fun x hx => ?_, h⟩
        rcases List.mem_cons.mp hx with rfl | hx
        · exact hl
        · exact lexLt_tr hl ((List.pairwise_cons.mp h).1 x hx)
      · rename_i hl
        refine List.pairwise_cons.mpr ⟨fun x hx => ?_, insA_asc t (List.pairwise_cons.mp h).2⟩
        rcases (insA_mem t us x).mp hx with rfl | hx
        · exact lexLt_or hl hne
        · exact (List.pairwise_cons.mp h).1 x hx
theorem sortA_asc : ∀ (us : List (Int × Int × Int)), (us.foldr insA []).Pairwise lexLt
  | [] => List.Pairwise.nil
  | u :: us => insA_asc u (sortA_asc us)
theorem sortA_mem : ∀ (us : List (Int × Int × Int)) (x : Int × Int × Int), x ∈ us.foldr insA [] ↔ x ∈ us
  | [], x => Iff.rfl
  | u :: us, x => by
    show x ∈ insA u (us.foldr insA []) ↔ _
    rw [insA_mem, sortA_mem us x, List.mem_cons]
/-- the sorted different ones are these -/
theorem sortA_is {us vs : List (Int × Int × Int)} (p : vs.Pairwise lexLt) (h : ∀ x, x ∈ vs ↔ x ∈ us) : vs = us.foldr insA [] := asc_unique lexLt_irr p (sortA_asc us) fun x => (h x).trans (sortA_mem us x).symm
end Br

namespace Br
open PySem PySem.Spec PyProof.Rows L2
/-! ### remainders are not negative -/
def NumT (ts : List Tk) : Prop := ∀ t ∈ ts, t.k = "number" → ∃ v : Nat, v ≤ 99 ∧ t.t = num v
def RemOk (s : Ps) : Prop := ∀ t ∈ s.aws, 0 ≤ t.2.1
theorem wordF_is {w : Str} {ts r : List Tk} (h : wordF w ts = .ok r) : ∃ t, ts = t :: r := by
  cases ts with
  | nil => cases h
  | cons t r' =>
    have h : (if t.t = w then Except.ok r' else .error (t.l, t.c)) = .ok r := h
    split at h
    · cases h; exact ⟨t, rfl⟩
    · cases h
theorem takeF_is {k : Str} {ts : List Tk} {p : Tk × List Tk} (h : takeF k ts = .ok p) : ts = p.1 :: p.2 ∧ p.1.k = k := by
  cases ts with
  | nil => cases h
  | cons t r' =>
    have h : (if t.k = k then Except.ok (t, r') else .error (t.l, t.c)) = .ok p := h
    split at h
    · rename_i e; cases h; exact ⟨rfl, e⟩
    · cases h
theorem away_rem {s s' : Ps} {ts rest : List Tk} (hn : NumT ts) (o : RemOk s) (h : awayF s ts = .ok (s', rest)) : RemOk s' := by
  cases ts with
  | nil => cases h
  | cons st r =>
    obtain ⟨t1, e1, h⟩ := bind_inv h
    obtain ⟨p1, e2, h⟩ := bind_inv h
    obtain ⟨p2, e3, h⟩ := bind_inv h
    obtain ⟨t4, e4, h⟩ := bind_inv h
    obtain ⟨p3, e5, h⟩ := bind_inv h
    obtain ⟨t6, e6, h⟩ := bind_inv h
    cases h
    obtain ⟨t0, d0⟩ := wordF_is e1
    obtain ⟨d1, _⟩ := takeF_is e2
    obtain ⟨d2, k2⟩ := takeF_is e3
    have hm : p2.1 ∈ st :: r := by rw [d0, d1, d2]; simp
    obtain ⟨v, hv, hs⟩ := hn _ hm k2
    obtain ⟨_, _, hval⟩ := valT_ok hv hs
    intro t ht
    have ht : t ∈ (awayB st (personF s p1.1).2 p2.1 p3.1).aws ++ [(((personF s p1.1).1 : Int), valT p2.1.t, valT p3.1.t)] := ht
    rw [(awayB_few _ _ _ _).2.2, person_aws] at ht
    rcases List.mem_append.mp ht with ht | ht
    · exact o t ht
    · rw [List.mem_singleton.mp ht]
      show 0 ≤ valT p2.1.t
      rw [hval]; exact Int.natCast_nonneg _
theorem stm_rem {s s' : Ps} {ts rest : List Tk} (hn : NumT ts) (o : RemOk s) (h : stmF s ts = .ok (s', rest)) : RemOk s' := by
  cases ts with
  | nil => cases h
  | cons t r =>
    have h : (if t.t = "weights" then weightsF s (t :: r) else if t.t = "away" then awayF s (t :: r) else if t.t = "makeup" then makeupF s (t :: r) else .error (t.l, t.c)) = .ok (s', rest) := h
    split at h
    · obtain ⟨t1, e1, h⟩ := bind_inv h
      obtain ⟨p, e2, h⟩ := bind_inv h
      cases h
      intro x hx
      have hx : x ∈ (shortF t p.1.length (p.1.foldl wS (twiceF s.W.isSome t s, 0)).1).aws := hx
      rw [(short_few _ _ _).2.2, w_aws, twice_aws] at hx
      exact o x hx
    · split at h
      · exact away_rem hn o h
      · split at h
        · obtain ⟨t1, e1, h⟩ := bind_inv h
          obtain ⟨p, e2, h⟩ := bind_inv h
          cases h
          intro x hx
          have hx : x ∈ (twiceF s.M.isSome t (p.1.foldl mkS (s, [])).1).aws := hx
          rw [twice_aws, mk_aws] at hx
          exact o x hx
        · cases h
/-- without a fault every absence fits -/
theorem aw_fits {s : Ps} (f : FsAw s) (o : RemOk s) (h : s.fs = []) : s.aws.length ≤ 20 ∧ ∀ t ∈ s.aws, AwOk 7 t := by
  obtain ⟨h1, h2⟩ := f h
  refine ⟨h1, fun t ht => ?_⟩
  obtain ⟨a, b, c, d⟩ := h2 t ht
  exact ⟨a, b, o t ht, c, d⟩
end Br

namespace Br
open PySem PySem.Spec PyProof.Rows L2
def chkD (why : Str) (l c : Int) : HO := .xd [("column", .int c), ("line", .int l), ("reason", .str why)]
theorem peopleS_aws (s : Ps) (t : Tk) : (peopleS s t).aws = s.aws ∧ s.names.length ≤ (peopleS s t).names.length := by
  unfold peopleS
  split
  · exact ⟨rfl, Nat.le_refl _⟩
  · split
    · exact ⟨rfl, Nat.le_refl _⟩
    · exact ⟨rfl, by show _ ≤ (s.names ++ [t.t]).length; rw [List.length_append]; exact Nat.le_succ _⟩
theorem people_aws : ∀ (ts : List Tk) (s : Ps), (ts.foldl peopleS s).aws = s.aws ∧ s.names.length ≤ (ts.foldl peopleS s).names.length
  | [], _ => ⟨rfl, Nat.le_refl _⟩
  | t :: ts, s => ⟨(people_aws ts (peopleS s t)).1.trans (peopleS_aws s t).1, Nat.le_trans (peopleS_aws s t).2 (people_aws ts (peopleS s t)).2⟩
theorem allF_one {k : Str} {ts tk rest : List Tk} (h : allF k ts = .ok (tk, rest)) : ∃ t r, tk = t :: r := by
  cases ts with
  | nil => cases h
  | cons t r =>
    have h : (if t.k = k then withE (t :: r.takeWhile (isK k)) (wordF ";" (r.dropWhile (isK k))) else .error (t.l, t.c)) = .ok (tk, rest) := h
    split at h
    · cases hd : wordF ";" (r.dropWhile (isK k)) with
      | error e => rw [hd] at h; cases h
      | ok v => rw [hd] at h; cases h; exact ⟨_, _, rfl⟩
    · cases h
theorem people_zero {ts rest : List Tk} {s' : Ps} (h : peopleF Ps.zero ts = .ok (s', rest)) : s'.aws = [] ∧ 1 ≤ s'.names.length := by
  obtain ⟨t1, e1, h⟩ := bind_inv h
  obtain ⟨p, e2, h⟩ := bind_inv h
  cases h
  obtain ⟨t, r, e3⟩ := allF_one (tk := p.1) (rest := p.2) e2
  refine ⟨(people_aws _ _).1, ?_⟩
  rw [e3, List.foldl_cons]
  exact Nat.le_trans (by show 1 ≤ 1; exact Nat.le_refl _) (people_aws r (peopleS Ps.zero t)).2
theorem turnS_aws (p : Ps × List Nat) (t : Tk) : (turnS p t).1.aws = p.1.aws := by
  unfold turnS
  dsimp only
  split
  · exact person_aws p.1 t
  · exact person_aws p.1 t
theorem turn_aws : ∀ (ts : List Tk) (p : Ps × List Nat), (ts.foldl turnS p).1.aws = p.1.aws
  | [], _ => rfl
  | t :: ts, p => (turn_aws ts (turnS p t)).trans (turnS_aws p t)
theorem turns_aws {s s' : Ps} {ts rest : List Tk} {js : List Nat} (h : turnsF s ts = .ok ((s', js), rest)) : s'.aws = s.aws := by
  cases ts with
  | nil => cases h
  | cons st r =>
    obtain ⟨t1, e1, h⟩ := bind_inv h
    obtain ⟨p, e2, h⟩ := bind_inv h
    cases h
    show (missF st (p.1.foldl turnS (s, []))).aws = s.aws
    rw [← turn_aws p.1 (s, [])]
    unfold missF; split <;> rfl
theorem rotaF_e1 {ts : List Tk} {e : Nat × Nat} (h : peopleF Ps.zero ts = .error e) : rotaF ts = .syn e.1 e.2 := by
  unfold rotaF; rw [h, bindE_er]
theorem rotaF_e2 {ts r1 : List Tk} {s1 : Ps} {e : Nat × Nat} (h : peopleF Ps.zero ts = .ok (s1, r1)) (h2 : turnsF s1 r1 = .error e) : rotaF ts = .syn e.1 e.2 := by
  unfold rotaF; rw [h, bindE_ok]; dsimp only; rw [h2, bindE_er]
theorem rotaF_e3 {ts r1 r2 : List Tk} {s1 s2 : Ps} {js : List Nat} {e : Nat × Nat} (h : peopleF Ps.zero ts = .ok (s1, r1)) (h2 : turnsF s1 r1 = .ok ((s2, js), r2)) (h3 : loopF r2.length s2 r2 = .error e) : rotaF ts = .syn e.1 e.2 := by
  unfold rotaF; rw [h, bindE_ok]; dsimp only; rw [h2, bindE_ok]; dsimp only; rw [h3, bindE_er]
theorem rotaF_ok {ts r1 r2 : List Tk} {s1 s2 s3 : Ps} {js : List Nat} (h : peopleF Ps.zero ts = .ok (s1, r1)) (h2 : turnsF s1 r1 = .ok ((s2, js), r2)) (h3 : loopF r2.length s2 r2 = .ok s3) : rotaF ts = doneF s3 js := by
  unfold rotaF; rw [h, bindE_ok]; dsimp only; rw [h2, bindE_ok]; dsimp only; rw [h3, bindE_ok]
theorem Rm.len {L : List (Addr × Tk)} {n : Nat} {ts : List Tk} (h : Rm L n ts) : ts.length = L.length - n := by
  unfold Rm at h; rw [← h, List.length_drop, List.length_map]
theorem Rm.names {L : List (Addr × Tk)} {n : Nat} {ts : List Tk} (h : Rm L n ts) : namesN ts ≤ namesN (L.map Prod.snd) := by
  unfold Rm at h; rw [← h]
  exact ((List.drop_sublist n (L.map Prod.snd)).filter (isK "name")).length_le
theorem Rm.num {L : List (Addr × Tk)} {n : Nat} {ts : List Tk} (h : Rm L n ts) (o : NumOk L) : NumT ts := fun t ht hk => by
  unfold Rm at h; rw [← h] at ht
  obtain ⟨q, hq, rfl⟩ := List.mem_map.mp (List.mem_of_mem_drop ht)
  exact o q hq hk
theorem PG.atOf {CP CT : Addr} {z : Pz} {L : List (Addr × Tk)} {n : Nat} {s : Ps} {H : Hp} (h : PG CP CT z L n s H) : atOf (H z.x) = n := by
  obtain ⟨A, h⟩ := h
  rw [h.ob]
  unfold Br.atOf
  simp only [gf_at]; rfl
theorem least_is {fs : List Flt} {f : Flt} (h : fs[argBest (bestF fs) (fs.length - 1)]? = some f) : leastF fs = f := by
  unfold leastF; rw [h]; rfl
section
variable {P : Program} {w : World} {K : PySem.W.Frag} {mg : Str → Option Value} {base : Heap} {CT CP CF CK : Addr}
def spRotaG (CP CT CF CK : Addr) : Sp := fun vs H Q E => ∃ (z : Pz) (L : List (Addr × Tk)), vs = [.ref z.x] ∧ PG CP CT z L 0 Ps.zero H ∧ L.length ≤ 10000 ∧ NumOk L ∧ EndOk (L.map Prod.snd) ∧ namesN (L.map Prod.snd) ≤ 60 ∧
  match rotaF (L.map Prod.snd) with
  | .rota r => ∀ H' a, Wd z.mu H H' [] → RotaAt H' a r → Q (.ref a) H'
  | .syn l c => ∀ (d : Addr) (H' : Hp), Wd z.mu H H' [(d, synD l c)] → E (.ref CF) (some d) H'
  | .chk why l c => ∀ (d : Addr) (H' : Hp), Wd z.mu H H' [(d, chkD why l c)] → E (.ref CK) (some d) H'
theorem me_rotaG (D : MethAt K CP "parse_rota" "Parser.parse_rota" sParser_parse_rota ["self"]) (T : Bi mg) (PC : ParCls K CP) (TC : TokCls K CT) (LC : LexC K mg) (EX_CheckFault : ExAt P w K mg base "CheckFault" CK ["reason", "line", "column"])
    (C0 : MeAt P w K mg base 1 CP "peek" ["self"] (spPeekG CP CT)) (C1 : MeX P w K mg base 6 CP "parse_people" ["self"] (spPeopleG CP CT CF))
    (C2 : MeX P w K mg base 6 CP "parse_turns" ["self"] (spTurnsG CP CT CF)) (C3 : MeX P w K mg base 6 CP "parse_weights" ["self"] (spWeightsG CP CT CF))
    (C4 : MeX P w K mg base 5 CP "parse_away" ["self"] (spAwayG CP CT CF)) (C5 : MeX P w K mg base 6 CP "parse_makeup" ["self"] (spMakeG CP CT CF)) (C6 : MeX P w K mg base 3 CP "fail" ["self"] (spFailG CP CT CF)) :
    MeX P w K mg base 7 CP "parse_rota" ["self"] (spRotaG CP CT CF CK) := D.meX fun f fd F => by
  have nd := scParser_parse_rota.nd
  have cl_Parser := PC.cl
  obtain ⟨t1, c_END⟩ := LC.END
  obtain ⟨f0, fd0, me_peek, b_peek, G_peek⟩ := C0.ex
  obtain ⟨f1, fd1, me_parse_people, b_parse_people, G_parse_people⟩ := C1.ex
  obtain ⟨f2, fd2, me_parse_turns, b_parse_turns, G_parse_turns⟩ := C2.ex
  obtain ⟨f3, fd3, me_parse_weights, b_parse_weights, G_parse_weights⟩ := C3.ex
  obtain ⟨f4, fd4, me_parse_away, b_parse_away, G_parse_away⟩ := C4.ex
  obtain ⟨f5, fd5, me_parse_makeup, b_parse_makeup, G_parse_makeup⟩ := C5.ex
  obtain ⟨f6, fd6, me_fail, b_fail, G_fail⟩ := C6.ex
  refine F.okX scParser_parse_rota (fun vs H Q E h => ?_) (fun cdv A outer s H vs Q E hr h => ?_)
  · obtain ⟨z, L, rfl, _⟩ := h; rfl
  obtain ⟨z, L, rfl, hp, hll, hnum, hend, hnn, q⟩ := h
  have hu := hr.units
  refine ⟨_, (pss_cons (ps_expr (pe_meth0 (pv 0) cl_Parser me_parse_people G_parse_people (hr.mono (by first | decide | omega)) b_parse_people .nil (passes_call (takes_of rfl rfl rfl rfl) (fun _ _ _ _ h => h))))
 (pss_cons (ps_set (i := 1) nd rfl (Or.inl rfl) (pe_meth0 (pv 0) cl_Parser me_parse_turns G_parse_turns (hr.mono (by first | decide | omega)) b_parse_turns .nil (passes_call (takes_of rfl rfl rfl rfl) (fun _ _ _ _ h => h))))
 (pss_cons (ps_while (passes_of rfl) (pt_cmpR op_ne (pe_fldK (K := K) rfl (pe_meth0 (pv 0) cl_Parser me_peek G_peek (hr.mono (by first | decide | omega)) b_peek .nil pass0) rfl) (pe_glob (v := .str "end") (by rfl) c_END ⟨_, rfl⟩) (nomark _))
 (pss_one (ps_match (pe_fldK (K := K) rfl (pe_meth0 (pv 0) cl_Parser me_peek G_peek (hr.mono (by first | decide | omega)) b_peek .nil pass0) rfl) (pcs_str (pss_one (ps_expr (pe_meth0 (pv 0) cl_Parser me_parse_weights G_parse_weights (hr.mono (by first | decide | omega)) b_parse_weights .nil (passes_call (takes_of rfl rfl rfl rfl) (fun _ _ _ _ h => h))))) (pcs_str (pss_one (ps_expr (pe_meth0 (pv 0) cl_Parser me_parse_away G_parse_away (hr.mono (by first | decide | omega)) b_parse_away .nil (passes_call (takes_of rfl rfl rfl rfl) (fun _ _ _ _ h => h))))) (pcs_str (pss_one (ps_expr (pe_meth0 (pv 0) cl_Parser me_parse_makeup G_parse_makeup (hr.mono (by first | decide | omega)) b_parse_makeup .nil (passes_call (takes_of rfl rfl rfl rfl) (fun _ _ _ _ h => h))))) (pcs_any (pss_one (ps_expr (pe_meth0 (pv 0) cl_Parser me_fail G_fail (hr.mono (by first | decide | omega)) b_fail .nil (passes_call (takes_of rfl rfl rfl rfl) (fun _ _ _ _ h => h))))))))))))
 (pss_cons (ps_if (pt_cmpR (r := rNeN K) (op_neNil (Nat.lt_of_le_of_lt (Nat.le_add_right _ 64) hu)) (pe_fldK (K := K) rfl (pv 0) rfl) (pe_lst pa_nil) (nomark _))
 (pss_cons (ps_asg (pe_callB (r := rMinF K) (cr_minF rfl hu) (by rfl) T.min (by decide +kernel) (pa_cons (pe_fldK (K := K) rfl (pv 0) rfl) pa_nil)) (pg_tupK (K := K) (n := 4) rfl rfl (pgs_cons (pg_name (i := 2) nd rfl (Or.inl rfl)) (pgs_cons (pg_name (i := 3) nd rfl (Or.inl rfl)) (pgs_cons (pg_name (i := 4) nd rfl (Or.inl rfl)) (pgs_cons (pg_name (i := 5) nd rfl (Or.inl rfl)) pgs_nil))))))
 (pss_one (ps_raise rfl (takes_of rfl rfl rfl rfl) (pmk_ex EX_CheckFault (hr.mono (by first | decide | omega)) (by rfl) (pa_cons (pv 5) (pa_cons (pv 2) (pa_cons (pv 3) pa_nil))) (by decide)))))
 pss_nil)
 (C8.pss_cut (ps_set (i := 6) nd rfl (Or.inl rfl) (pe_ifExp (pt_cmpR op_notN (pe_fldK (K := K) rfl (pv 0) rfl) pe_non (nomark _)) (pe_fldK (K := K) rfl (pv 0) rfl) (pe_op (r := rRepA K) op_repA (pe_tup (pa_cons pe_int pa_nil)) (pe_callB (r := rLenS K) call_len_seq (by rfl) T.len PySem.boot_len (pa_cons (pe_fldK (K := K) rfl (pv 0) rfl) pa_nil)))))
 (C8.pss_cut (ps_set (i := 7) nd rfl (Or.inl rfl) (pe_ifExp (pt_cmpR op_notN (pe_fldK (K := K) rfl (pv 0) rfl) pe_non (nomark _)) (pe_fldK (K := K) rfl (pv 0) rfl) (pe_tup pa_nil)))
 (pss_one (ps_ret (pe_tup (pa_cons (pe_callTy (r := rTupOfF K) call_tuple_ofF (by rfl) T.tuple (by decide +kernel) (pa_cons (pe_fldK (K := K) rfl (pv 0) rfl) pa_nil)) (pa_cons (pv 1) (pa_cons (pv 6) (pa_cons (pe_callTy (r := rTupOf K) call_tuple_of (by rfl) T.tuple (by decide +kernel) (pa_cons (pe_callB (r := rSortedT K P w) (cr_sortedT rfl) (by rfl) T.sorted (by decide +kernel) (pa_cons (pe_callTy (r := rSetOfT K P w) (cr_setOfT rfl hu) (by rfl) T.set (by decide +kernel) (pa_cons (pe_fldK (K := K) rfl (pv 0) rfl) pa_nil)) pa_nil)) pa_nil)) (pa_cons (pv 7) pa_nil)))))))))))))), ?_⟩
  have ob : ∀ {H' : Hp} {n' : Nat} {s' : Ps}, PG CP CT z L n' s' H' → ∃ fs, H' z.x = some (.ins CP z.dx fs) ∧ (∀ m : Str, (∀ f ∈ (["tokens", "at", "faults", "names", "weights", "makers", "aways"] : List Str), (m == f) = false) → fs.lookup m = none) := fun ⟨A, h⟩ => ⟨_, h.ob, fun m hm => gf_none hm⟩
  have hfew0 : Few Ps.zero (L.map Prod.snd) := by show 0 + 3 * (L.map Prod.snd).length ≤ 30000; rw [List.length_map]; omega
  have hrm0 : Rm L 0 (L.map Prod.snd) := List.drop_zero
  obtain ⟨b0, o0, n0⟩ := ob hp
  refine ⟨_, rfl, z.x, z.dx, _, rfl, o0, n0 _ (by decide +kernel), z, L, 0, Ps.zero, _, rfl, hp, hll, hrm0, hend, hfew0, (by show 0 ≤ 6; decide), ?_⟩
  cases hpe : peopleF Ps.zero (L.map Prod.snd) with
  | error e =>
    rw [rotaF_e1 hpe] at q
    exact q
  | ok p1 =>
  obtain ⟨s1, r1⟩ := p1
  intro H1 n1 c1 hp1 hr1 he1
  obtain ⟨g1, g2, g3⟩ := people_goes (by show 0 ≤ 6; decide) hpe
  obtain ⟨ga, gn⟩ := people_zero hpe
  obtain ⟨b1, o1, m1⟩ := ob hp1
  refine ⟨_, rfl, z.x, z.dx, _, rfl, o1, m1 _ (by decide +kernel), z, L, n1, s1, _, rfl, hp1, hll, hr1, he1, g1 hfew0, g2, ?_⟩
  cases htu : turnsF s1 r1 with
  | error e =>
    rw [rotaF_e2 hpe htu] at q
    exact fun d H2 w2 => q d H2 (c1.go2 w2)
  | ok p2 =>
  obtain ⟨⟨s2, js⟩, r2⟩ := p2
  intro H2 n2 tn c2 hp2 hr2 he2 htn
  obtain ⟨k1, k2, k3⟩ := turns_goes htu
  have ka := turns_aws htu
  have htn' : H2 tn = some (.tup ((js.map fun j : Nat => (j : Int)).map V.int)) := by rw [List.map_map]; exact htn
  have hq1 : ∀ e, loopF r2.length s2 r2 = .error e → ∀ (d : Addr) (H' : Hp), Wd z.mu H H' [(d, synD e.1 e.2)] → E (.ref CF) (some d) H' := fun e he => by rw [rotaF_e3 hpe htu he] at q; exact q
  have hq2 : ∀ s3, loopF r2.length s2 r2 = .ok s3 → (match doneF s3 js with
    | .rota r => ∀ H' a, Wd z.mu H H' [] → RotaAt H' a r → Q (.ref a) H'
    | .syn l c => ∀ (d : Addr) (H' : Hp), Wd z.mu H H' [(d, synD l c)] → E (.ref CF) (some d) H'
    | .chk why l c => ∀ (d : Addr) (H' : Hp), Wd z.mu H H' [(d, chkD why l c)] → E (.ref CK) (some d) H') := fun s3 he => by rw [rotaF_ok hpe htu he] at q; exact q
  clear q
  refine while_by (fun σ H' => σ = [some (.ref z.x), some (.ref tn), none, none, none, none, none, none] ∧ ∃ (n : Nat) (s : Ps) (ts : List Tk), Wd z.mu H H' [] ∧ PG CP CT z L n s H' ∧ H' tn = some (.tup ((js.map fun j : Nat => (j : Int)).map V.int)) ∧ Rm L n ts ∧ EndOk ts ∧ Few s ts ∧
      s.names.length ≤ 6 ∧ 1 ≤ s.names.length ∧ FsAw s ∧ RemOk s ∧ s.aws.length + ts.length ≤ 10000 ∧ loopF ts.length s ts = loopF r2.length s2 r2) (fun _ H' => L.length - atOf (H' z.x))
    ⟨rfl, n2, s2, r2, c1.fgo c2, hp2, htn', hr2, he2, k1 (g1 hfew0), by rw [k2]; exact g2, by rw [k2]; exact gn, fun _ => by rw [ka, ga]; exact ⟨Nat.zero_le _, fun t ht => nomatch ht⟩, fun t ht => (by rw [ka, ga] at ht; exact nomatch ht), (by rw [ka, ga]; have := hr2.len; show 0 + r2.length ≤ 10000; omega), rfl⟩ ?_ ?_
  · rintro σ H3 ⟨rfl, n, sv, ts, c3, hp3, htn3, hr3, he3, hfew, h6, h1n, hfa, hre, haw, hlo⟩
    obtain ⟨t0, r0, rfl⟩ := he3.ne
    obtain ⟨⟨a0, h0⟩, hr4⟩ := hr3.cons
    obtain ⟨A3, hA3⟩ := id hp3
    obtain ⟨b3, o3, m3⟩ := ob hp3
    obtain ⟨tdx, hta⟩ := hA3.ts _ (List.mem_of_getElem? h0)
    have hat := hp3.atOf
    refine ⟨_, rfl, z.x, z.dx, _, rfl, o3, m3 _ (by decide +kernel), z, L, n, sv, a0, t0, rfl, hp3, h0, a0, CT, tdx, _, _, rfl, hta, TC.cl, TC.nk, tk_kind _ _ _ _, rfl, _, rfl, ?_⟩
    by_cases hk : t0.k = "end"
    · refine ite2 (fun h => absurd h (by rw [hk]; simp)) (fun _ => ?_)
      rw [loop_end (ts := t0 :: r0) (decide_eq_true hk)] at hlo
      have hd := hq2 sv hlo.symm
      refine ⟨_, rfl, z.x, CP, z.dx, _, _, rfl, hA3.ob, PC.cl, PC.n3, gf_faults, (by show 0 ≤ sizeLine; decide), fun e he => ?_⟩
      have w4 := (Wd.refl H3).new (.lst []) he
      have c4 := c3.fnew (.lst []) he
      have hp4 := hp3.wd0 w4
      have htn4 := w4.tups _ _ htn3
      have hee : upd H3 e (.lst []) e = some (.lst []) := upd_same
      generalize upd H3 e (.lst []) = H4 at *
      obtain ⟨A4, hA4⟩ := id hp4
      refine ⟨z.fl, e, A4.fa.map V.ref, rfl, rfl, SqL.of hA4.fl, SqL.of hee, _, rfl, ?_⟩
      by_cases hf : sv.fs = []
      · have e1 : A4.fa = [] := List.length_eq_zero_iff.mp (by rw [hA4.fn, hf]; rfl)
        rw [e1]
        refine ite2 (fun h => absurd h (by decide)) (fun _ => ?_)
        rw [show doneF sv js = _ from if_pos hf] at hd
        have hd : ∀ H' a, Wd z.mu H H' [] → RotaAt H' a ⟨sv.names, js.map fun j : Nat => (j : Int), sv.W.getD (List.replicate sv.names.length 1), sv.aws.foldr insA [], sv.M.getD []⟩ → Q (.ref a) H' := hd
        obtain ⟨haw20, haok⟩ := aw_fits hfa hre hf
        refine ⟨fun σ H' => ∃ aw, σ = [some (.ref z.x), some (.ref tn), none, none, none, none, some (.ref aw), none] ∧ Wd z.mu H H' [] ∧ PG CP CT z L n sv H' ∧ H' tn = some (.tup ((js.map fun j : Nat => (j : Int)).map V.int)) ∧ H' aw = some (.tup ((sv.W.getD (List.replicate sv.names.length 1)).map V.int)), ?_, ?_⟩
        · refine ⟨_, rfl, z.x, CP, z.dx, _, _, rfl, hA4.ob, PC.cl, PC.n5, gf_weights, rfl, _, rfl, ?_⟩
          cases hW : sv.W with
          | none =>
            refine iteF ?_
            refine ⟨(by show 1 ≤ sizeLine; decide), fun tp htp => ?_⟩
            have w5 := (Wd.refl H4).new (.tup [V.int 1]) htp
            have hp5 := hp4.wd0 w5
            have c5 := c4.fnew (.tup [V.int 1]) htp
            have htn5 := w5.tups _ _ htn4
            obtain ⟨A5, hA5⟩ := id hp5
            refine ⟨_, rfl, z.x, CP, z.dx, _, _, rfl, hA5.ob, PC.cl, PC.n4, gf_names, z.nl, _, rfl, .inl (SqL.of hA5.nl), tp, _, [V.int 1], rfl, rfl, SqT.of upd_same, by simp, ?_, ?_, by simp, fun hk => ?_, fun hk p hpn => ?_⟩
            · rw [List.length_map]; omega
            · rw [List.length_map]; omega
            · rw [List.length_map] at hk
              refine ⟨tp, rfl, c5, hp5, htn5, ?_⟩
              rw [show sv.names.length = 1 by omega]
              exact upd_same
            · have w6 := (Wd.refl _).new (.tup (List.replicate (((sv.names.map V.str).length : Nat) : Int).toNat [V.int 1]).flatten) hpn
              refine ⟨p, rfl, c5.fnew _ hpn, hp5.wd0 w6, w6.tups _ _ htn5, ?_⟩
              rw [upd_same, List.length_map, Int.toNat_natCast]
              have e5 : ∀ n : Nat, (List.replicate n [V.int 1]).flatten = (List.replicate n (1 : Int)).map V.int := fun n => by
                induction n with
                | zero => rfl
                | succ n ih => rw [List.replicate_succ, List.flatten_cons, ih, List.replicate_succ]; rfl
              rw [e5]; rfl
          | some wl =>
            refine iteT ?_
            refine ⟨_, rfl, z.x, CP, z.dx, _, _, rfl, hA4.ob, PC.cl, PC.n5, gf_weights, ?_⟩
            exact ⟨A4.wa, by rw [hW]; rfl, c4, hp4, htn4, hA4.w _ hW⟩
        · rintro σ H5 ⟨aw, rfl, c5, hp5, htn5, haw5⟩
          obtain ⟨A5, hA5⟩ := id hp5
          refine ⟨fun σ H' => ∃ am, σ = [some (.ref z.x), some (.ref tn), none, none, none, none, some (.ref aw), some (.ref am)] ∧ Wd z.mu H H' [] ∧ PG CP CT z L n sv H' ∧ H' tn = some (.tup ((js.map fun j : Nat => (j : Int)).map V.int)) ∧ H' aw = some (.tup ((sv.W.getD (List.replicate sv.names.length 1)).map V.int)) ∧ H' am = some (.tup ((sv.M.getD []).map V.int)), ?_, ?_⟩
          · refine ⟨_, rfl, z.x, CP, z.dx, _, _, rfl, hA5.ob, PC.cl, PC.n6, gf_makers, rfl, _, rfl, ?_⟩
            cases hM : sv.M with
            | none =>
              refine iteF ?_
              refine ⟨(by show 0 ≤ sizeLine; decide), fun tp htp => ?_⟩
              have w6 := (Wd.refl H5).new (.tup []) htp
              exact ⟨tp, rfl, c5.fnew _ htp, hp5.wd0 w6, w6.tups _ _ htn5, w6.tups _ _ haw5, upd_same⟩
            | some ml =>
              refine iteT ?_
              refine ⟨_, rfl, z.x, CP, z.dx, _, _, rfl, hA5.ob, PC.cl, PC.n6, gf_makers, ?_⟩
              exact ⟨A5.ma, by rw [hM]; rfl, c5, hp5, htn5, haw5, hA5.m _ hM⟩
          · rintro σ H6 ⟨am, rfl, c6, hp6, htn6, haw6, ham6⟩
            obtain ⟨A6, hA6⟩ := id hp6
            obtain ⟨ps, ps1, ps2, ps3⟩ := hA6.aw.zip
            refine ⟨_, rfl, z.x, CP, z.dx, _, _, rfl, hA6.ob, PC.cl, PC.n4, gf_names, z.nl, _, rfl, SqL.of hA6.nl, fun an ono hono han => ?_⟩
            have w1 := (Wd.refl H6).new (.frz ono (.tup (sv.names.map V.str))) han
            have hA7 := hA6.wd0 w1
            have psl : ps.length ≤ 20 := by have h2 := congrArg List.length ps2; rw [List.length_map] at h2; omega
            refine ⟨_, rfl, _, rfl, _, rfl, z.x, CP, z.dx, _, _, rfl, hA7.ob, PC.cl, PC.n7, gf_aways, z.al, ps.map (fun q => (q.1, l3 q.2)), rfl, ?_, ?_, ?_, fun sa L1 hsa hsub hcov => ?_⟩
            · have e : (ps.map (fun q => (q.1, l3 q.2))).map (fun p => V.ref p.1) = A6.as.map V.ref := by rw [List.map_map, ps1, List.map_map]; rfl
              rw [e]; exact SqL.of hA7.al
            · intro p hp
              obtain ⟨g, hg, rfl⟩ := List.mem_map.mp hp
              exact SqT.of (w1.tups _ _ (ps3 g hg))
            · rw [List.length_map]; omega
            have w2 := w1.new (SetTO P w sa L1) hsa
            have hL1 : ∀ p ∈ L1, ∃ g ∈ ps, p = (g.1, l3 g.2) := fun p hp => by
              obtain ⟨g, hg, e⟩ := List.mem_map.mp (hsub p hp)
              exact ⟨g, hg, e.symm⟩
            have hin : ∀ g ∈ ps, g.2 ∈ sv.aws := fun g hg => by rw [ps2]; exact List.mem_map.mpr ⟨g, hg, rfl⟩
            refine ⟨sa, L1, 3, 13, rfl, w2.get 0 rfl, ?_, by decide, ?_, fun L2 lp hperm hnd _ hpw hlp => ?_⟩
            · intro p hp
              obtain ⟨g, hg, rfl⟩ := hL1 p hp
              exact SqT.of (w2.tups _ _ (ps3 g hg))
            · intro p hp
              obtain ⟨g, hg, rfl⟩ := hL1 p hp
              refine ⟨rfl, fun x hx => ?_⟩
              obtain ⟨g1, g2, g3, g4, g5⟩ := haok _ (hin g hg)
              have g6 : g.2.2.2 ≤ 12 := by simp at g5; omega
              simp only [l3, List.mem_cons, List.not_mem_nil, or_false] at hx
              rcases hx with rfl | rfl | rfl <;> omega
            have w3 := w2.new (.lst (L2.map fun q => V.ref q.1)) hlp
            have hL2 : ∀ p ∈ L2, ∃ g ∈ ps, p = (g.1, l3 g.2) := fun p hp => hL1 p (hperm.mem_iff.mp hp)
            refine ⟨lp, _, rfl, .inl ⟨SqL.of (w3.get 0 rfl), fun aa haa => ?_⟩⟩
            have w4 := w3.new (.tup (L2.map fun q => V.ref q.1)) haa
            refine ⟨_, rfl, (by show 5 ≤ sizeLine; decide), fun a ha => ?_⟩
            have w5 := w4.new (.tup [V.ref an, V.ref tn, V.ref aw, V.ref aa, V.ref am]) ha
            have c7 : Wd z.mu H _ [] := c6.fgo ((w5.sub (List.nil_sublist _)).mono fun _ h => nomatch h)
            have hsrt : L2.map (fun q => tr3 q.2) = sv.aws.foldr insA [] := by
              refine sortA_is ?_ fun t => ?_
              · rw [List.pairwise_map]
                have hnd2 : (L2.map (·.2)).Nodup := hnd
                have hnd3 : L2.Pairwise fun p q => p.2 ≠ q.2 := List.pairwise_map.mp hnd2
                refine (hpw.and hnd3).imp_of_mem fun {p q} hp hq ⟨h, ne⟩ => ?_
                obtain ⟨g, hg, rfl⟩ := hL2 p hp
                obtain ⟨k, hk, rfl⟩ := hL2 q hq
                exact lex_of_code (n := 7) (by decide) (haok _ (hin g hg)) (haok _ (hin k hk)) h (fun e => ne (congrArg l3 e))
              · constructor
                · intro ht
                  obtain ⟨p, hp, rfl⟩ := List.mem_map.mp ht
                  obtain ⟨g, hg, rfl⟩ := hL2 p hp
                  exact hin g hg
                · intro ht
                  rw [ps2] at ht
                  obtain ⟨g, hg, rfl⟩ := List.mem_map.mp ht
                  obtain ⟨p, hp, e⟩ := List.mem_map.mp (hcov (g.1, l3 g.2) (List.mem_map.mpr ⟨g, hg, rfl⟩))
                  exact List.mem_map.mpr ⟨p, hperm.mem_iff.mpr hp, by rw [e]; rfl⟩
            refine hd _ a c7 ⟨an, tn, aw, aa, am, L2.map (·.1), w5.get 0 rfl, ⟨ono, hono, w5.get 4 rfl⟩, w5.tups _ _ htn6, w5.tups _ _ haw6, ?_, ?_, w5.tups _ _ ham6⟩
            · rw [List.map_map]; exact w5.get 1 rfl
            · show AwAt _ _ (sv.aws.foldr insA [])
              rw [← hsrt]
              have e1 : L2.map (·.1) = (L2.map (fun q => (q.1, tr3 q.2))).map (·.1) := by rw [List.map_map]; rfl
              have e2 : L2.map (fun q => tr3 q.2) = (L2.map (fun q => (q.1, tr3 q.2))).map (·.2) := by rw [List.map_map]; rfl
              rw [e1, e2]
              refine AwAt.of fun p hp => ?_
              obtain ⟨p', hp', rfl⟩ := List.mem_map.mp hp
              obtain ⟨g, hg, rfl⟩ := hL2 p' hp'
              exact w5.tups _ _ (ps3 g hg)
      · have e1 : (A4.fa.map V.ref).isEmpty = false := by
          cases hfa4 : A4.fa with
          | nil => exact absurd (List.length_eq_zero_iff.mp (by rw [← hA4.fn, hfa4]; rfl)) hf
          | cons a l => rfl
        rw [e1]
        refine ite2 (fun _ => ?_) (fun h => absurd rfl h)
        rw [show doneF sv js = _ from if_neg hf] at hd
        refine ⟨_, rfl, z.x, CP, z.dx, _, _, rfl, hA4.ob, PC.cl, PC.n3, gf_faults, z.fl, A4.fa, sv.fs, rfl, SqL.of hA4.fl, List.length_pos_iff.mpr hf, hA4.fn, fun i c f h1 h2 => SqT.of (hA4.ft i c f h1 h2), fun c f hc1 hf1 => ?_⟩
        rw [least_is hf1] at hd
        have hft := hA4.ft _ c f hc1 hf1
        refine ⟨c, fT _ f, rfl, SqT.of hft, rfl, ?_⟩
        exact ⟨_, _, rfl, _, _, rfl, _, _, rfl, _, _, rfl, rfl, _, rfl, _, rfl, _, rfl, rfl, fun d H' w => hd d H' (c4.go2 (w.mono fun _ h => nomatch h))⟩
    · refine ite2 (fun _ => ?_) (fun h => absurd (by simpa using hk) h)
      have hne : ¬ atEnd (t0 :: r0) = true := fun h => hk (of_decide_eq_true h)
      have on : ∀ {s' : Ps} {rest : List Tk} {H4 : Hp} {n' : Nat}, stmF sv (t0 :: r0) = .ok (s', rest) → Wd z.mu H3 H4 [] → PG CP CT z L n' s' H4 → Rm L n' rest → EndOk rest →
          ((([some (.ref z.x), some (.ref tn), none, none, none, none, none, none] : List (Option V)) = [some (.ref z.x), some (.ref tn), none, none, none, none, none, none] ∧ ∃ (n : Nat) (s : Ps) (ts : List Tk), Wd z.mu H H4 [] ∧ PG CP CT z L n s H4 ∧ H4 tn = some (.tup ((js.map fun j : Nat => (j : Int)).map V.int)) ∧ Rm L n ts ∧ EndOk ts ∧ Few s ts ∧
      s.names.length ≤ 6 ∧ 1 ≤ s.names.length ∧ FsAw s ∧ RemOk s ∧ s.aws.length + ts.length ≤ 10000 ∧ loopF ts.length s ts = loopF r2.length s2 r2) ∧ L.length - atOf (H4 z.x) < L.length - atOf (H3 z.x)) := fun {s' rest H4 n'} hs c4 hp4 hr5 he5 => by
        obtain ⟨q1, q2, q3, q4⟩ := stm_goes h6 hs
        refine ⟨⟨rfl, n', s', rest, c3.fgo c4, hp4, c4.tups _ _ htn3, hr5, he5, q1 hfew, by rw [q2]; exact h6, by rw [q2]; exact h1n, stm_aw h6 hfa hs, stm_rem (hr3.num hnum) hre hs, by omega, ?_⟩, ?_⟩
        · rw [← hlo]; exact (loop_on h6 hne hs).symm
        · rw [hp4.atOf, hat]
          have l1 := hr5.len
          have l2 := hr3.len
          omega
      have bad : ∀ {e : Nat × Nat} {d : Addr} {H4 : Hp}, stmF sv (t0 :: r0) = .error e → Wd z.mu H3 H4 [(d, synD e.1 e.2)] → E (.ref CF) (some d) H4 := fun {e d H4} hs w4 => hq1 e (hlo.symm.trans (loop_bad h6 hne hs)) d H4 (c3.go2 w4)
      refine ⟨_, rfl, z.x, z.dx, _, rfl, o3, m3 _ (by decide +kernel), z, L, n, sv, a0, t0, rfl, hp3, h0, a0, CT, tdx, _, _, rfl, hta, TC.cl, TC.nt, tk_text _ _ _ _, _, rfl, ?_⟩
      dsimp only
      by_cases hw : t0.t = "weights"
      · have es : stmF sv (t0 :: r0) = weightsF sv (t0 :: r0) := if_pos hw
        rw [if_pos hw]
        refine ⟨_, rfl, z.x, z.dx, _, rfl, o3, m3 _ (by decide +kernel), z, L, n, sv, _, rfl, hp3, hll, hnum, hr3, he3, hfew, h6, ?_⟩
        cases hs : weightsF sv (t0 :: r0) with
        | error e => exact fun d H4 w4 => bad (es.trans hs) w4
        | ok p => obtain ⟨s', rest⟩ := p; exact fun H4 n' c4 hp4 hr5 he5 => on (es.trans hs) c4 hp4 hr5 he5
      rw [if_neg hw]
      by_cases ha : t0.t = "away"
      · have es : stmF sv (t0 :: r0) = awayF sv (t0 :: r0) := (if_neg hw).trans (if_pos ha)
        rw [if_pos ha]
        refine ⟨_, rfl, z.x, z.dx, _, rfl, o3, m3 _ (by decide +kernel), z, L, n, sv, _, rfl, hp3, hll, hnum, hr3, he3, hfew, by omega, ?_⟩
        cases hs : awayF sv (t0 :: r0) with
        | error e => exact fun d H4 w4 => bad (es.trans hs) w4
        | ok p => obtain ⟨s', rest⟩ := p; exact fun H4 n' c4 hp4 hr5 he5 => on (es.trans hs) c4 hp4 hr5 he5
      rw [if_neg ha]
      by_cases hm : t0.t = "makeup"
      · have es : stmF sv (t0 :: r0) = makeupF sv (t0 :: r0) := (if_neg hw).trans ((if_neg ha).trans (if_pos hm))
        rw [if_pos hm]
        refine ⟨_, rfl, z.x, z.dx, _, rfl, o3, m3 _ (by decide +kernel), z, L, n, sv, _, rfl, hp3, hll, hr3, he3, hfew, h6, Nat.le_trans hr3.names hnn, ?_⟩
        cases hs : makeupF sv (t0 :: r0) with
        | error e => exact fun d H4 w4 => bad (es.trans hs) w4
        | ok p => obtain ⟨s', rest⟩ := p; exact fun H4 n' c4 hp4 hr5 he5 => on (es.trans hs) c4 hp4 hr5 he5
      rw [if_neg hm]
      have es : stmF sv (t0 :: r0) = .error (t0.l, t0.c) := (if_neg hw).trans ((if_neg ha).trans (if_neg hm))
      exact ⟨_, rfl, z.x, z.dx, _, rfl, o3, m3 _ (by decide +kernel), z, L, n, sv, a0, t0, rfl, hp3, h0, fun d H4 w4 => bad es (w4.mono fun _ h => nomatch h)⟩
  · intro σ H2 Q1 Q2 hm hc
    obtain ⟨v0, e0, a, dx', fs, ea, eo, en, z', L', n', s', a', t', e1, e2, e3, a'', C'', dx'', fs'', v'', g1, g2, g3, g4, g5, e5, b, hb, hc⟩ := hc
    exact ⟨v0, e0, a, dx', fs, ea, eo, en, z', L', n', s', a', t', e1, e2, e3, a'', C'', dx'', fs'', v'', g1, g2, g3, g4, g5, e5, b, hb, hm _ _ hc⟩
end
end Br

namespace Br
open PySem PySem.Spec PyProof.Rows L2
/-- a text of no great size -/
def Small (z : Str) : Prop := z.length ≤ 3000 ∧ ∀ ts, lexF z = .ok ts → ts.length ≤ 10000 ∧ namesN ts ≤ 60
theorem Wd.hid {M : List Addr} {H H1 H3 : Hp} {l : List (Addr × HO)} (hm : ∀ a ∈ M, H a = none) (c1 : Wd [] H H1 []) (c : Wd M H1 H3 l) : Wd [] H H3 l :=
  ⟨fun b o _ e => c.base b o (fun hb => by rw [hm b hb] at e; cases e) (c1.base b o (by simp) e), fun b xs e => c.tups _ _ (c1.tups _ _ e), fun q hq => (c.own q hq).elim (fun h => .inl (c1.free _ h)) (fun h => .inl (hm _ h)), c.at_, c.nd, fun p e => c1.free p (c.free p e)⟩
section
variable {P : Program} {w : World} {K : PySem.W.Frag} {mg : Str → Option Value} {base : Heap} {CT CP CF CK : Addr}
def spLoadG (CF CK : Addr) : Sp := fun vs H Q E => ∃ z : Str, vs = [.str z] ∧ Small z ∧
  match loadF z with
  | .rota r => ∀ H' a, Wd [] H H' [] → RotaAt H' a r → Q (.ref a) H'
  | .syn l c => ∀ (d : Addr) (H' : Hp), Wd [] H H' [(d, synD l c)] → E (.ref CF) (some d) H'
  | .chk why l c => ∀ (d : Addr) (H' : Hp), Wd [] H H' [(d, chkD why l c)] → E (.ref CK) (some d) H'
theorem cal_loadG (D : DefAt K mg "load" sload ["rota"]) (PC : ParCls K CP) (cn : CT ≠ CP) (C1 : CalX P w K mg base 4 "tokenize" ["source"] (spTokG CT CF)) (CM : MkAt P w K mg base 1 "Parser" CP ["self", "tokens"] (spParIG CP CT))
    (C2 : MeX P w K mg base 7 CP "parse_rota" ["self"] (spRotaG CP CT CF CK)) : CalX P w K mg base 8 "load" ["rota"] (spLoadG CF CK) := D.calX fun f fd F => by
  have nd := scload.nd
  have cl_Parser := PC.cl
  obtain ⟨f1, fd1, m_tokenize, kp_tokenize, b_tokenize, G_tokenize⟩ := C1.ex
  obtain ⟨f2, fd2, mC_Parser, Mk_Parser, b_Parser, G_Parser⟩ := CM.ex
  obtain ⟨f3, fd3, me_parse_rota, b_parse_rota, G_parse_rota⟩ := C2.ex
  refine F.okX scload (fun vs H Q E h => ?_) (fun cdv A outer s H vs Q E hr h => ?_)
  · obtain ⟨z, rfl, _⟩ := h; rfl
  obtain ⟨z, rfl, ⟨hlen, hsm⟩, q⟩ := h
  refine ⟨_, (pss_one (ps_ret (pe_meth0 (pe_make Mk_Parser G_Parser (hr.mono (by first | decide | omega)) (by rfl) mC_Parser b_Parser .nil pass0 (pa_cons (pe_call G_tokenize (hr.mono (by first | decide | omega)) (by rfl) m_tokenize kp_tokenize b_tokenize .nil (passes_call (takes_of rfl rfl rfl rfl) (fun _ _ _ _ h => h)) (pa_cons (pv 0) pa_nil)) pa_nil)) cl_Parser me_parse_rota G_parse_rota (hr.mono (by first | decide | omega)) b_parse_rota .nil (passes_call (takes_of rfl rfl rfl rfl) (fun _ _ _ _ h => h))))), ?_⟩
  refine ⟨_, rfl, z, rfl, hlen, ?_⟩
  cases hlx : lexF z with
  | error e =>
    rw [show loadF z = .syn e.1 e.2 from by unfold loadF; rw [hlx]] at q
    exact q
  | ok ts =>
  rw [show loadF z = rotaF ts from by unfold loadF; rw [hlx]] at q
  obtain ⟨hs1, hs2⟩ := hsm ts hlx
  obtain ⟨hx1, hx2⟩ := lexF_ok hlx
  intro p L H1 w1 hT hL _
  intro x dx hx hd ne
  have w2 := w1.make CP hx hd ne
  have hT2 : TksP CT (upd (upd H1 dx (.own x)) x (.ins CP dx [])) L := (hT.new hd).new (by rw [upd_ne ne.symm]; exact hx)
  refine ⟨x, dx, p, L, rfl, upd_same, w2.get 2 rfl, hT2, cn, fun z' H2 hz c2 hp hmu => ⟨rfl, ?_⟩⟩
  obtain ⟨A2, hA2⟩ := id hp
  have hob := hA2.ob
  rw [hz] at hob
  subst hL
  refine ⟨x, _, _, rfl, hob, gf_none (by decide +kernel), z', L, by rw [hz]; rfl, hp, by rw [← List.length_map (f := Prod.snd)]; exact hs1, fun q hq => hx2 _ (List.mem_map.mpr ⟨q, hq, rfl⟩), hx1, hs2, ?_⟩
  have hfr : ∀ a ∈ z'.mu, H a = none := fun a ha => by
    rcases hmu a ha with h | h
    · rw [h]; exact w1.free x hx
    · exact w2.free a h
  have hcx : ∀ {l : List (Addr × HO)} {H3 : Hp}, Wd z'.mu H2 H3 l → Wd [] H H3 l := fun {l H3} c3 => Wd.hid hfr (w2.sub (List.nil_sublist _)) (Wd.go2 (c2.mono fun a ha => by rw [List.mem_singleton.mp ha, ← hz]; simp [Pz.mu]) c3)
  cases hr : rotaF (L.map Prod.snd) with
  | rota r => rw [hr] at q; exact fun H3 a c3 hR => q H3 a (hcx c3) hR
  | syn l c => rw [hr] at q; exact fun d H3 c3 => q d H3 (hcx c3)
  | chk y l c => rw [hr] at q; exact fun d H3 c3 => q d H3 (hcx c3)
end
end Br

/-! Small by counting the runs of letters. -/
namespace Br
open PySem PySem.Spec PyProof.Rows L2
/-- how many runs of letters begin -/
def runsB : Bool → List Nat → Nat
  | _, [] => 0
  | b, c :: r => (if ltr c = true ∧ b = false then 1 else 0) + runsB (ltr c) r
theorem runsB_nil (b : Bool) : runsB b [] = 0 := by cases b <;> rfl
theorem runsB_cons (b : Bool) (c : Nat) (r : List Nat) : runsB b (c :: r) = (if ltr c = true ∧ b = false then 1 else 0) + runsB (ltr c) r := rfl
theorem runsB_mono : ∀ l : List Nat, runsB true l ≤ runsB false l ∧ runsB false l ≤ runsB true l + 1
  | [] => ⟨Nat.le_refl _, Nat.zero_le _⟩
  | c :: r => by
    rw [runsB_cons, runsB_cons, if_neg (fun h => by cases h.2)]
    split <;> omega
theorem runsB_le (b : Bool) (l : List Nat) : runsB b l ≤ runsB false l := by
  cases b
  · exact Nat.le_refl _
  · exact (runsB_mono l).1
theorem runsB_app : ∀ (x y : List Nat) (b : Bool), runsB b (x ++ y) ≤ runsB b x + runsB false y
  | [], y, b => by rw [List.nil_append]; have := runsB_le b y; omega
  | c :: x, y, b => by
    have := runsB_app x y (ltr c)
    rw [List.cons_append, runsB_cons, runsB_cons]
    omega
/-- what stands behind has no more -/
theorem runsB_drop : ∀ (x y : List Nat) (b : Bool), runsB false y ≤ runsB b (x ++ y) + (if b = true then 1 else 0)
  | [], y, b => by
    rw [List.nil_append]
    cases b
    · rw [if_neg (by decide)]; exact Nat.le_refl _
    · rw [if_pos rfl]; exact (runsB_mono y).2
  | c :: x, y, b => by
    have h := runsB_drop x y (ltr c)
    rw [List.cons_append, runsB_cons]
    cases hc : ltr c with
    | false => rw [hc, if_neg (by decide)] at h; omega
    | true =>
      rw [hc, if_pos rfl] at h
      cases b
      · rw [if_pos ⟨rfl, rfl⟩, if_neg (by decide)]; omega
      · rw [if_neg (fun h => by cases h.2), if_pos rfl]; omega
/-- a whole run goes -/
theorem runsB_run : ∀ l : List Nat, runsB true l = runsB false (l.dropWhile ltr)
  | [] => rfl
  | c :: r => by
    rw [List.dropWhile_cons]
    cases hc : ltr c with
    | true => rw [if_pos rfl, ← runsB_run r, runsB_cons, hc, if_neg (fun h => by cases h.2)]; omega
    | false => rw [if_neg (by decide), runsB_cons, runsB_cons, hc, if_neg (fun h => by cases h.1), if_neg (fun h => by cases h.1)]
theorem drop_run (p : Nat → Bool) : ∀ l : List Nat, l.drop (l.takeWhile p).length = l.dropWhile p
  | [] => rfl
  | c :: r => by
    rw [List.takeWhile_cons, List.dropWhile_cons]
    cases p c with
    | true => rw [if_pos rfl, if_pos rfl, List.length_cons, List.drop_succ_cons, drop_run p r]
    | false => rw [if_neg (by decide), if_neg (by decide)]; rfl
/-- a token goes: a name takes a run away -/
theorem tok_runs {c : Nat} {r : List Nat} {k t : Str} (h : tokAt (c :: r) = some (k, t)) : (if k = "name" then 1 else 0) + runsB false ((c :: r).drop t.length) ≤ runsB false (c :: r) := by
  have any : runsB false ((c :: r).drop t.length) ≤ runsB false (c :: r) := by
    have := runsB_drop ((c :: r).take t.length) ((c :: r).drop t.length) false
    rw [List.take_append_drop] at this
    simpa using this
  have tk : tokAt (c :: r) = if c = 59 then some (("sign" : Str), (";" : Str)) else if dig c = true then (let w := (c :: r).takeWhile dig; if w.length > 2 ∨ (w.length > 1 ∧ c = 48) then none else some (("number" : Str), (⟨w.toArray⟩ : Str))) else (let w := (c :: r).takeWhile ltr; if (⟨w.toArray⟩ : Str) ∈ kws then some (("keyword" : Str), (⟨w.toArray⟩ : Str)) else if 1 ≤ w.length ∧ w.length ≤ 8 then some (("name" : Str), (⟨w.toArray⟩ : Str)) else none) := rfl
  rw [tk] at h
  dsimp only at h
  have nn : ∀ {q : Str}, q = k → q ≠ "name" → (if k = "name" then 1 else 0) + runsB false ((c :: r).drop t.length) ≤ runsB false (c :: r) := fun e n => by
    rw [← e, if_neg n, Nat.zero_add]; exact any
  split at h
  · cases h; exact nn rfl (by decide +kernel)
  · split at h
    · split at h
      · cases h
      · cases h; exact nn rfl (by decide +kernel)
    · split at h
      · cases h; exact nn rfl (by decide +kernel)
      · split at h
        · rename_i hw
          cases h
          have e : (⟨((c :: r).takeWhile ltr).toArray⟩ : Str).length = ((c :: r).takeWhile ltr).length := by show (((c :: r).takeWhile ltr).toArray).size = _; rw [List.size_toArray]
          rw [if_pos rfl, e, drop_run]
          cases hc : ltr c with
          | false => rw [List.takeWhile_cons, hc, if_neg (by decide)] at hw; exact absurd hw.1 (by show ¬ 1 ≤ 0; decide)
          | true =>
            rw [List.dropWhile_cons, hc, if_pos rfl, ← runsB_run r, runsB_cons, hc, if_pos ⟨rfl, rfl⟩]; exact Nat.le_refl _
        · cases h
theorem namesN_app (a b : List Tk) : namesN (a ++ b) = namesN a + namesN b := by unfold namesN; rw [List.filter_append, List.length_append]
theorem namesN_one (t : Tk) : namesN [t] = if t.k = "name" then 1 else 0 := by
  unfold namesN
  by_cases h : t.k = "name"
  · rw [if_pos h, List.filter_cons_of_pos (show isK "name" t = true from decide_eq_true h)]; rfl
  · rw [if_neg h, List.filter_cons_of_neg (show ¬ isK "name" t = true from fun e => h (of_decide_eq_true e))]; rfl
theorem pre_ok {ts us : List Tk} {e : Except (Nat × Nat) (List Tk)} (h : preE ts e = .ok us) : ∃ vs, e = .ok vs ∧ us = ts ++ vs := by
  cases e with
  | error x => cases h
  | ok vs => cases h; exact ⟨vs, rfl, rfl⟩
theorem lexG_few : ∀ (n ln col : Nat) (l : List Nat) (ts : List Tk), lexG n ln col l = .ok ts → ts.length ≤ l.length ∧ namesN ts ≤ runsB false l
  | n, ln, col, [], ts, h => by
    have h : (Except.ok [] : Except (Nat × Nat) (List Tk)) = Except.ok ts := by cases n <;> exact h
    cases h; exact ⟨Nat.le_refl _, Nat.le_refl _⟩
  | 0, _, _, c :: r, ts, h => by
    have h : (Except.ok [] : Except (Nat × Nat) (List Tk)) = Except.ok ts := h
    cases h; exact ⟨Nat.zero_le _, Nat.zero_le _⟩
  | n + 1, ln, col, c :: r, ts, h => by
    rw [lexG] at h
    split at h
    · obtain ⟨h1, h2⟩ := lexG_few n ln (col + 1) r ts h
      refine ⟨Nat.le_succ_of_le h1, Nat.le_trans h2 ?_⟩
      have := runsB_drop [c] r false
      simpa using this
    · cases ht : tokAt (c :: r) with
      | none => rw [ht] at h; cases h
      | some kt =>
        rw [ht] at h
        obtain ⟨vs, e, rfl⟩ := pre_ok h
        obtain ⟨h1, h2⟩ := lexG_few n ln (col + kt.2.length) ((c :: r).drop kt.2.length) vs e
        have hp : 1 ≤ kt.2.length := tokAt_pos (k := kt.1) ht
        have hr := tok_runs (k := kt.1) (t := kt.2) ht
        rw [List.length_drop] at h1
        have hl : (c :: r).length = r.length + 1 := rfl
        refine ⟨by rw [List.length_append]; show 1 + vs.length ≤ _; omega, ?_⟩
        rw [namesN_app, namesN_one]
        show (if kt.1 = "name" then 1 else 0) + namesN vs ≤ _
        omega
/-- runs of all rows, signs of all rows -/
def runsR (rs : List (List Nat)) : Nat := (rs.map (runsB false)).sum
theorem lexRows_few : ∀ (rs : List (List Nat)) (ln : Nat) (ts : List Tk), lexRows ln rs = .ok ts → ts.length ≤ (rs.map List.length).sum ∧ namesN ts ≤ runsR rs
  | [], ln, ts, h => by cases h; exact ⟨Nat.le_refl _, Nat.le_refl _⟩
  | row :: rs, ln, ts, h => by
    have h : appE (lexRow ln 0 row) (lexRows (ln + 1) rs) = .ok ts := h
    cases h1 : lexRow ln 0 row with
    | error e => rw [h1] at h; cases h
    | ok us =>
      rw [h1] at h
      obtain ⟨vs, e, rfl⟩ := pre_ok h
      obtain ⟨a1, a2⟩ := lexG_few _ _ _ _ _ h1
      obtain ⟨b1, b2⟩ := lexRows_few rs (ln + 1) vs e
      rw [List.length_append, namesN_app]
      unfold runsR at b2 ⊢
      rw [List.map_cons, List.sum_cons, List.map_cons, List.sum_cons]
      exact ⟨Nat.add_le_add a1 b1, Nat.add_le_add a2 b2⟩
theorem rowsOf_sum : ∀ l : List Nat, (rowsOf l).1.length + ((rowsOf l).2.map List.length).sum ≤ l.length
  | [] => Nat.le_refl _
  | c :: r => by
    have ih := rowsOf_sum r
    unfold rowsOf
    split
    · rw [List.map_cons, List.sum_cons, List.length_cons]; show 0 + _ ≤ _; omega
    · rw [List.length_cons, List.length_cons]
      show (rowsOf r).1.length + 1 + ((rowsOf r).2.map List.length).sum ≤ r.length + 1
      omega
theorem rowsL_of (z : Str) : rowsL z = (rowsOf (TL.tl z)).1 :: (rowsOf (TL.tl z)).2 := by
  have hsp : rowsL z = TL.spl [10] 0 [] (TL.tl z) := TL.split_spl z "\n" (by decide) (TL.kind_ok (by decide +kernel))
  rw [hsp, spl_rows]; rfl
theorem small_of {z : Str} (h1 : z.length ≤ 3000) (h2 : runsR (rowsL z) ≤ 59) : Small z := by
  refine ⟨h1, fun ts h => ?_⟩
  unfold lexF at h
  cases hl : lexRows 0 (rowsL z) with
  | error e => rw [hl] at h; cases h
  | ok us =>
    rw [hl] at h
    cases h
    obtain ⟨a1, a2⟩ := lexRows_few _ _ _ hl
    have hs : ((rowsL z).map List.length).sum ≤ z.length := by
      rw [rowsL_of, List.map_cons, List.sum_cons, TL.len_tl]; exact rowsOf_sum _
    have e1 : namesN [(⟨"end", "", (rowsL z).length, 0⟩ : Tk)] = 0 := by rw [namesN_one]; exact if_neg (show ¬ (("end" : Str) = "name") by decide +kernel)
    rw [List.length_append, namesN_app, e1]
    exact ⟨by show us.length + 1 ≤ _; omega, by omega⟩
/-- runs of words put together -/
theorem runs_join (sep : List Nat) (h : runsB false sep = 0) : ∀ ps : List (List Nat), runsB false (TL.joinL sep ps) ≤ (ps.map (runsB false)).sum
  | [] => Nat.le_refl _
  | [p] => by show runsB false p ≤ runsB false p + 0; omega
  | p :: q :: ps => by
    have ih := runs_join sep h (q :: ps)
    have a1 := runsB_app p (sep ++ TL.joinL sep (q :: ps)) false
    have a2 := runsB_app sep (TL.joinL sep (q :: ps)) false
    show runsB false (p ++ (sep ++ TL.joinL sep (q :: ps))) ≤ _
    rw [List.map_cons, List.sum_cons]
    omega
end Br

/-! k01, plain: a text of tokens with gaps, read by the lexer. -/
namespace Br
open PySem PySem.Spec PyProof.Rows L2
def ws1x : List Str := ["a", "b", "cc", "longname", "x", "zed", "people", "turns", "weights", "away", "of", "makeup", ";", "xyz", "03", "100", "abcdefghi", "A", "-", ",", "05"]
def ws1y : List Str := ["0", "1", "2", "3", "4", "5", "6", "7", "8", "9", "10", "11", "12"]
def ws1 : List Str := ws1x ++ ws1y
/-- the law's kind of a word -/
def kindL (w : Str) : Str :=
  if (TL.tl w).all ltr = true then (if w ∈ kws then w else if 8 < w.length then "" else "name")
  else if (TL.tl w).all dig = true then (if w.length < 3 ∧ (w = "0" ∨ (TL.tl w).head? ≠ some 48) then "number" else "")
  else if w = ";" then ";" else ""
/-- the lexer's kind -/
def kk (k : Str) : Str := if k = "name" then "name" else if k = "number" then "number" else if k = ";" then "sign" else "keyword"
structure W1 (w : Str) : Prop where
  ne : ∃ c r, TL.tl w = c :: r ∧ ¬ (c = 32 ∨ c = 10)
  n10 : 10 ∉ TL.tl w
  len : w.length ≤ 9
  run : runsB false (TL.tl w) ≤ 1
  bad : kindL w = "" → tokAt (TL.tl w) = none
  ok : kindL w ≠ "" → tokAt (TL.tl w) = some (kk (kindL w), w)
  kw : ∀ q ∈ kws, (kindL w = q ↔ w = q)
  sg : kindL w = ";" ↔ w = ";"
  nm : kk (kindL w) = "name" ↔ kindL w = "name"
  nu : kk (kindL w) = "number" ↔ kindL w = "number"
  en : kk (kindL w) ≠ "end"
def w1b (w : Str) : Bool := (match TL.tl w with | [] => false | c :: _ => decide (¬ (c = 32 ∨ c = 10))) && decide (10 ∉ TL.tl w) && decide (w.length ≤ 9) && decide (runsB false (TL.tl w) ≤ 1) &&
  decide (kindL w = "" → tokAt (TL.tl w) = none) && decide (kindL w ≠ "" → tokAt (TL.tl w) = some (kk (kindL w), w)) && decide (∀ q ∈ kws, (kindL w = q ↔ w = q)) && decide (kindL w = ";" ↔ w = ";") && decide (kk (kindL w) = "name" ↔ kindL w = "name") && decide (kk (kindL w) = "number" ↔ kindL w = "number") && decide (kk (kindL w) ≠ "end")
theorem ws1_b : ∀ w ∈ ws1, w1b w = true := by decide +kernel
theorem ws1_ok {w : Str} (h : w ∈ ws1) : W1 w := by
  have hb := ws1_b w h
  unfold w1b at hb
  simp only [Bool.and_eq_true, decide_eq_true_eq] at hb
  obtain ⟨⟨⟨⟨⟨⟨⟨⟨⟨⟨h0, h1⟩, h2⟩, h3⟩, h4⟩, h5⟩, h6⟩, h7⟩, h8⟩, h9⟩, h10⟩ := hb
  refine ⟨?_, h1, h2, h3, h4, h5, h6, h7, h8, h9, h10⟩
  cases hw : TL.tl w with
  | nil => rw [hw] at h0; cases h0
  | cons c r => rw [hw] at h0; exact ⟨c, r, rfl, of_decide_eq_true h0⟩
/-! ### runs stop at a gap -/
theorem tw_app (p : Nat → Bool) : ∀ (a y : List Nat), (∀ c r, y = c :: r → p c = false) → (a ++ y).takeWhile p = a.takeWhile p
  | [], [], _ => rfl
  | [], c :: r, h => by rw [List.nil_append, List.takeWhile_cons, h c r rfl]; rfl
  | x :: a, y, h => by
    rw [List.cons_append, List.takeWhile_cons, List.takeWhile_cons]
    split
    · rw [tw_app p a y h]
    · rfl
/-- nothing, or a gap -/
def Gap (y : List Nat) : Prop := ∀ c r, y = c :: r → c = 32 ∨ c = 10
theorem tok_app {c : Nat} {r y : List Nat} (h : Gap y) : tokAt (c :: r ++ y) = tokAt (c :: r) := by
  have tk : ∀ r' : List Nat, tokAt (c :: r') = if c = 59 then some (("sign" : Str), (";" : Str)) else if dig c = true then (let w := (c :: r').takeWhile dig; if w.length > 2 ∨ (w.length > 1 ∧ c = 48) then none else some (("number" : Str), (⟨w.toArray⟩ : Str))) else (let w := (c :: r').takeWhile ltr; if (⟨w.toArray⟩ : Str) ∈ kws then some (("keyword" : Str), (⟨w.toArray⟩ : Str)) else if 1 ≤ w.length ∧ w.length ≤ 8 then some (("name" : Str), (⟨w.toArray⟩ : Str)) else none) := fun _ => rfl
  have e1 : (c :: (r ++ y)).takeWhile dig = (c :: r).takeWhile dig := tw_app dig (c :: r) y fun d s e => by rcases h d s e with rfl | rfl <;> decide
  have e2 : (c :: (r ++ y)).takeWhile ltr = (c :: r).takeWhile ltr := tw_app ltr (c :: r) y fun d s e => by rcases h d s e with rfl | rfl <;> decide
  rw [List.cons_append, tk, tk, e1, e2]
/-! ### the text, lexed from a place on -/
def lexAt (ln col : Nat) (l : List Nat) : Except (Nat × Nat) (List Tk) := appE (lexRow ln col (rowsOf l).1) (lexRows (ln + 1) (rowsOf l).2)
theorem lexAt_nil (ln col : Nat) : lexAt ln col [] = .ok [] := rfl
theorem lexAt_sp (ln col : Nat) (l : List Nat) : lexAt ln col (32 :: l) = lexAt ln (col + 1) l := by
  unfold lexAt
  have e : rowsOf (32 :: l) = (32 :: (rowsOf l).1, (rowsOf l).2) := by simp [rowsOf]
  rw [e, lexRow_space (.inl rfl)]
theorem lexAt_nl (ln col : Nat) (l : List Nat) : lexAt ln col (10 :: l) = lexAt (ln + 1) 0 l := by
  unfold lexAt
  have e : rowsOf (10 :: l) = ([], (rowsOf l).1 :: (rowsOf l).2) := by simp [rowsOf]
  rw [e]
  show preE [] (lexRows (ln + 1) ((rowsOf l).1 :: (rowsOf l).2)) = _
  rw [preE_nil]; rfl
theorem gap_row {y : List Nat} (h : Gap y) : Gap (rowsOf y).1 := by
  cases y with
  | nil => intro c r e; cases e
  | cons d s =>
    rcases h d s rfl with rfl | rfl
    · have e : rowsOf (32 :: s) = (32 :: (rowsOf s).1, (rowsOf s).2) := by simp [rowsOf]
      rw [e]; intro c r e; cases e; exact .inl rfl
    · have e : rowsOf (10 :: s) = ([], (rowsOf s).1 :: (rowsOf s).2) := by simp [rowsOf]
      rw [e]; intro c r e; cases e
theorem lexAt_tok {w : Str} (h : W1 w) (hk : kindL w ≠ "") {y : List Nat} (hy : Gap y) (ln col : Nat) : lexAt ln col (TL.tl w ++ y) = preE [⟨kk (kindL w), w, ln, col⟩] (lexAt ln (col + w.length) y) := by
  unfold lexAt
  rw [rows_app h.n10]
  obtain ⟨c, r, e, hc⟩ := h.ne
  have ht := h.ok hk
  have e2 : tokAt (TL.tl w ++ (rowsOf y).1) = some (kk (kindL w), w) := by rw [e] at ht ⊢; rw [tok_app (gap_row hy)]; exact ht
  show appE (lexRow ln col (TL.tl w ++ (rowsOf y).1)) (lexRows (ln + 1) (rowsOf y).2) = _
  rw [e] at e2 ⊢
  rw [List.cons_append] at e2 ⊢
  rw [lexRow_tok hc e2, appE_pre]
  have e3 : (c :: (r ++ (rowsOf y).1)).drop w.length = (rowsOf y).1 := by rw [← List.cons_append, ← e, TL.len_tl, List.drop_left]
  rw [e3]
theorem lexAt_bad {w : Str} (h : W1 w) (hk : kindL w = "") {y : List Nat} (hy : Gap y) (ln col : Nat) : lexAt ln col (TL.tl w ++ y) = .error (ln, col) := by
  unfold lexAt
  rw [rows_app h.n10]
  obtain ⟨c, r, e, hc⟩ := h.ne
  have ht := h.bad hk
  have e2 : tokAt (TL.tl w ++ (rowsOf y).1) = none := by rw [e] at ht ⊢; rw [tok_app (gap_row hy)]; exact ht
  show appE (lexRow ln col (TL.tl w ++ (rowsOf y).1)) (lexRows (ln + 1) (rowsOf y).2) = _
  rw [e] at e2 ⊢
  rw [List.cons_append] at e2 ⊢
  rw [lexRow_bad hc e2]; rfl
/-! ### tokens with gaps -/
/-- 0: a space, 1: two, 2: a line feed -/
def gapL : Nat → List Nat
  | 0 => [32]
  | 1 => [32, 32]
  | _ => [10]
def gapP (g ln col : Nat) : Nat × Nat := if g = 0 then (ln, col + 1) else if g = 1 then (ln, col + 2) else (ln + 1, 0)
def flatT : List (Nat × Str) → List Nat
  | [] => []
  | q :: ts => gapL q.1 ++ (TL.tl q.2 ++ flatT ts)
def placesT : Nat → Nat → List (Nat × Str) → List (Nat × Nat)
  | _, _, [] => []
  | ln, col, q :: ts => gapP q.1 ln col :: placesT (gapP q.1 ln col).1 ((gapP q.1 ln col).2 + q.2.length) ts
def toksT : Nat → Nat → List (Nat × Str) → Except (Nat × Nat) (List Tk)
  | _, _, [] => .ok []
  | ln, col, q :: ts => if kindL q.2 = "" then .error (gapP q.1 ln col) else preE [⟨kk (kindL q.2), q.2, (gapP q.1 ln col).1, (gapP q.1 ln col).2⟩] (toksT (gapP q.1 ln col).1 ((gapP q.1 ln col).2 + q.2.length) ts)
theorem flat_gap : ∀ ts : List (Nat × Str), Gap (flatT ts)
  | [], c, r, e => by cases e
  | q :: ts, c, r, e => by
    have e : gapL q.1 ++ (TL.tl q.2 ++ flatT ts) = c :: r := e
    match h : q.1 with
    | 0 => rw [h] at e; cases e; exact .inl rfl
    | 1 => rw [h] at e; cases e; exact .inl rfl
    | n + 2 => rw [h] at e; cases e; exact .inr rfl
theorem lexAt_gap (g ln col : Nat) (l : List Nat) : lexAt ln col (gapL g ++ l) = lexAt (gapP g ln col).1 (gapP g ln col).2 l := by
  match g with
  | 0 => exact lexAt_sp ln col l
  | 1 => exact (lexAt_sp ln col (32 :: l)).trans (lexAt_sp ln (col + 1) l)
  | n + 2 => exact lexAt_nl ln col l
theorem lexAt_flat : ∀ (ts : List (Nat × Str)) (ln col : Nat), (∀ q ∈ ts, q.2 ∈ ws1) → lexAt ln col (flatT ts) = toksT ln col ts
  | [], ln, col, _ => rfl
  | q :: ts, ln, col, h => by
    have hw := ws1_ok (h q List.mem_cons_self)
    show lexAt ln col (gapL q.1 ++ (TL.tl q.2 ++ flatT ts)) = _
    rw [lexAt_gap]
    unfold toksT
    by_cases hk : kindL q.2 = ""
    · rw [if_pos hk, lexAt_bad hw hk (flat_gap ts)]
    · rw [if_neg hk, lexAt_tok hw hk (flat_gap ts), lexAt_flat ts _ _ fun x hx => h x (List.mem_cons_of_mem _ hx)]
/-- the text of tokens with gaps -/
def strT (ts : List (Nat × Str)) : Str := ⟨(flatT ts).toArray⟩
theorem tl_strT (ts : List (Nat × Str)) : TL.tl (strT ts) = flatT ts := by unfold strT TL.tl; simp
theorem lex_strT {ts : List (Nat × Str)} (h : ∀ q ∈ ts, q.2 ∈ ws1) : lexF (strT ts) = endE (Txt.split (strT ts) "\n").length (toksT 0 0 ts) := by
  unfold lexF
  have e1 : (rowsL (strT ts)).length = (Txt.split (strT ts) "\n").length := by unfold rowsL; rw [List.length_map]
  rw [e1, rowsL_of, tl_strT, ← lexAt_flat ts 0 0 h]; rfl
/-! ### the first invalid word -/
theorem toks_bad : ∀ (ts : List (Nat × Str)) (ln col : Nat) (i : Nat), (∀ j, j < i → ∃ q, ts[j]? = some q ∧ kindL q.2 ≠ "") → (∃ q, ts[i]? = some q ∧ kindL q.2 = "") → ∃ p, (placesT ln col ts)[i]? = some p ∧ toksT ln col ts = .error p
  | [], _, _, _, _, ⟨q, h, _⟩ => by cases h
  | q :: ts, ln, col, 0, _, ⟨q', h, hk⟩ => by
    cases h
    exact ⟨gapP q.1 ln col, rfl, if_pos hk⟩
  | q :: ts, ln, col, i + 1, h1, ⟨q', h, hk⟩ => by
    obtain ⟨q0, e0, hk0⟩ := h1 0 (Nat.succ_pos _)
    cases e0
    obtain ⟨p, hp, ht⟩ := toks_bad ts (gapP q.1 ln col).1 ((gapP q.1 ln col).2 + q.2.length) i (fun j hj => by simpa using h1 (j + 1) (Nat.succ_lt_succ hj)) ⟨q', by simpa using h, hk⟩
    refine ⟨p, by show (gapP q.1 ln col :: placesT _ _ ts)[i + 1]? = _; simpa using hp, ?_⟩
    unfold toksT
    rw [if_neg hk0, ht]; rfl
theorem toks_ok : ∀ (ts : List (Nat × Str)) (ln col : Nat), (∀ q ∈ ts, kindL q.2 ≠ "") → ∃ us, toksT ln col ts = .ok us ∧ us.map (fun t => (t.k, t.t)) = ts.map (fun q => (kk (kindL q.2), q.2)) ∧ us.map (fun t => (t.l, t.c)) = placesT ln col ts
  | [], _, _, _ => ⟨[], rfl, rfl, rfl⟩
  | q :: ts, ln, col, h => by
    obtain ⟨us, h1, h2, h3⟩ := toks_ok ts (gapP q.1 ln col).1 ((gapP q.1 ln col).2 + q.2.length) fun x hx => h x (List.mem_cons_of_mem _ hx)
    refine ⟨⟨kk (kindL q.2), q.2, (gapP q.1 ln col).1, (gapP q.1 ln col).2⟩ :: us, ?_, ?_, ?_⟩
    · unfold toksT
      rw [if_neg (h q List.mem_cons_self), h1]; rfl
    · rw [List.map_cons, List.map_cons, h2]
    · rw [List.map_cons, h3]; rfl
end Br

/-! k01, plain: the law's recognizer and the parser. -/
namespace Br
open PySem PySem.Spec PyProof.Rows L2
def takesN (ks : List Str) : List Str → Nat → Bool × Nat
  | [], a => (true, a)
  | w :: ws, a => if ks[a]? = some w then takesN ks ws (a + 1) else (false, a)
def runG (ks : List Str) (k : Str) : Nat → Nat → Nat
  | 0, a => a
  | n + 1, a => if ks[a]? = some k then runG ks k n (a + 1) else a
/-- behind the run of a kind -/
def runN (ks : List Str) (k : Str) (a : Nat) : Nat := runG ks k (ks.length - a) a
def manyN (ks : List Str) (k : Str) (a : Nat) : Bool × Nat := if ks[a]? = some k then takesN ks [";"] (runN ks k (a + 1)) else (false, a)
def stN (ks : List Str) (w : Str) (a : Nat) : Bool × Nat := if ks[a]? = some w then manyN ks "name" (a + 1) else (false, a)
def bodyN (ks : List Str) (w : Str) (a : Nat) : Bool × Nat := if w = "away" then takesN ks ["name", "number", "of", "number", ";"] (a + 1) else manyN ks (if w = "weights" then "number" else "name") (a + 1)
def loopN (ks : List Str) : Nat → Nat → Option Nat
  | 0, _ => none
  | n + 1, a => match ks[a]? with
    | none => none
    | some w => if w = "weights" ∨ w = "makeup" ∨ w = "away" then (if (bodyN ks w a).1 = true then loopN ks n (bodyN ks w a).2 else some (bodyN ks w a).2) else some a
def ffN (ks : List Str) : Option Nat :=
  if (stN ks "people" 0).1 = false then some (stN ks "people" 0).2
  else if (stN ks "turns" (stN ks "people" 0).2).1 = false then some (stN ks "turns" (stN ks "people" 0).2).2
  else loopN ks (ks.length + 1) (stN ks "turns" (stN ks "people" 0).2).2
theorem lt_of_some {ks : List Str} {a : Nat} {k : Str} (h : ks[a]? = some k) : a < ks.length := (List.getElem?_eq_some_iff.mp h).1
theorem runG_fuel (ks : List Str) (k : Str) : ∀ (n m a : Nat), ks.length ≤ n + a → ks.length ≤ m + a → runG ks k n a = runG ks k m a
  | 0, 0, _, _, _ => rfl
  | 0, m + 1, a, h, _ => by
    unfold runG
    rw [if_neg fun e => by have := lt_of_some e; omega]
  | n + 1, 0, a, _, h => by
    unfold runG
    rw [if_neg fun e => by have := lt_of_some e; omega]
  | n + 1, m + 1, a, h1, h2 => by
    unfold runG
    rw [runG_fuel ks k n m (a + 1) (by omega) (by omega)]
theorem runN_step (ks : List Str) (k : Str) (a : Nat) : runN ks k a = if ks[a]? = some k then runN ks k (a + 1) else a := by
  unfold runN
  rw [runG_fuel ks k (ks.length - a) (ks.length - (a + 1) + 1) a (by omega) (by omega)]
  rfl
theorem takesN_le {ks : List Str} : ∀ {ws : List Str} {a : Nat}, a ≤ ks.length → a ≤ (takesN ks ws a).2 ∧ (takesN ks ws a).2 ≤ ks.length
  | [], a, h => ⟨Nat.le_refl _, h⟩
  | w :: ws, a, h => by
    unfold takesN
    split
    · rename_i e
      have := lt_of_some e
      have h2 := takesN_le (ks := ks) (ws := ws) (a := a + 1) (by omega)
      omega
    · exact ⟨Nat.le_refl _, h⟩
theorem runN_le {ks : List Str} {k : Str} : ∀ (n a : Nat), ks.length - a ≤ n → a ≤ ks.length → a ≤ runN ks k a ∧ runN ks k a ≤ ks.length
  | 0, a, h1, h2 => by
    rw [runN_step, if_neg fun e => by have := lt_of_some e; omega]
    exact ⟨Nat.le_refl _, h2⟩
  | n + 1, a, h1, h2 => by
    rw [runN_step]
    split
    · rename_i e
      have := lt_of_some e
      have h3 := runN_le (ks := ks) (k := k) n (a + 1) (by omega) (by omega)
      omega
    · exact ⟨Nat.le_refl _, h2⟩
theorem manyN_le {ks : List Str} {k : Str} {a : Nat} (h : a ≤ ks.length) : a ≤ (manyN ks k a).2 ∧ (manyN ks k a).2 ≤ ks.length := by
  unfold manyN
  split
  · rename_i e
    have := lt_of_some e
    have h1 := runN_le (ks := ks) (k := k) _ (a + 1) (Nat.le_refl _) (by omega)
    have h2 := takesN_le (ks := ks) (ws := [";"]) h1.2
    omega
  · exact ⟨Nat.le_refl _, h⟩
theorem stN_le {ks : List Str} {w : Str} {a : Nat} (h : a ≤ ks.length) : (stN ks w a).2 ≤ ks.length := by
  unfold stN
  split
  · rename_i e
    have := lt_of_some e
    exact (manyN_le (by omega)).2
  · exact h
theorem bodyN_le {ks : List Str} {w : Str} {a : Nat} (h : a < ks.length) : a < (bodyN ks w a).2 ∧ (bodyN ks w a).2 ≤ ks.length := by
  unfold bodyN
  split
  · have := takesN_le (ks := ks) (ws := ["name", "number", "of", "number", ";"]) (a := a + 1) (by omega); omega
  · have := manyN_le (ks := ks) (k := if w = "weights" then "number" else "name") (a := a + 1) (by omega); omega
theorem loopN_le {ks : List Str} : ∀ (n : Nat) (a : Nat) {i : Nat}, a ≤ ks.length → loopN ks n a = some i → i ≤ ks.length
  | 0, _, _, _, h => by cases h
  | n + 1, a, i, ha, h => by
    unfold loopN at h
    cases hk : ks[a]? with
    | none => rw [hk] at h; cases h
    | some w =>
      rw [hk] at h
      dsimp only at h
      have hb := bodyN_le (w := w) (lt_of_some hk)
      split at h
      · split at h
        · exact loopN_le n _ hb.2 h
        · cases h; exact hb.2
      · cases h; exact ha
/-! ### tokens and kinds, side by side -/
structure Kd (t : Tk) (k : Str) : Prop where
  nm : t.k = "name" ↔ k = "name"
  nu : t.k = "number" ↔ k = "number"
  en : t.k ≠ "end"
  kw : ∀ q ∈ kws, (t.t = q ↔ k = q)
  sg : t.t = ";" ↔ k = ";"
structure AlK (TS : List Tk) (ks : List Str) : Prop where
  ln : TS.length = ks.length + 1
  at_ : ∀ (i : Nat) (k : Str), ks[i]? = some k → ∃ t, TS[i]? = some t ∧ Kd t k
  en : ∃ e, TS[ks.length]? = some e ∧ e.k = "end" ∧ e.t = ""
def plc (TS : List Tk) (i : Nat) : Nat × Nat := match TS[i]? with
  | some t => (t.l, t.c)
  | none => (0, 0)
section
variable {TS : List Tk} {ks : List Str}
theorem AlK.cons (A : AlK TS ks) {a : Nat} (h : a ≤ ks.length) : ∃ t, TS[a]? = some t ∧ TS.drop a = t :: TS.drop (a + 1) ∧ plc TS a = (t.l, t.c) := by
  have hl := A.ln
  have ha : a < TS.length := by omega
  refine ⟨TS[a], List.getElem?_eq_getElem ha, List.drop_eq_getElem_cons ha, ?_⟩
  unfold plc
  rw [List.getElem?_eq_getElem ha]
theorem AlK.non (A : AlK TS ks) {a : Nat} (h : a ≤ ks.length) (hn : ks[a]? = none) : a = ks.length ∧ ∃ e, TS.drop a = e :: TS.drop (a + 1) ∧ e.k = "end" ∧ e.t = "" ∧ plc TS a = (e.l, e.c) := by
  have e : a = ks.length := by have := List.getElem?_eq_none_iff.mp hn; omega
  obtain ⟨t, h1, h2, h3⟩ := A.cons h
  obtain ⟨u, g1, g2, g3⟩ := A.en
  rw [e] at h1
  rw [h1] at g1
  cases g1
  exact ⟨e, t, h2, g2, g3, h3⟩
theorem AlK.word (A : AlK TS ks) {a : Nat} {q : Str} (h : a ≤ ks.length) (hq : q ∈ kws ∨ q = ";") : wordF q (TS.drop a) = if ks[a]? = some q then .ok (TS.drop (a + 1)) else .error (plc TS a) := by
  cases hk : ks[a]? with
  | none =>
    obtain ⟨_, e, h1, _, h3, h4⟩ := A.non h hk
    rw [h1, if_neg (by intro e; cases e), h4]
    show (if e.t = q then _ else _) = _
    rw [if_neg]
    rw [h3]
    intro c
    rcases hq with hq | hq
    · rw [← c] at hq; exact absurd hq (by decide +kernel)
    · rw [hq] at c; exact absurd c (by decide +kernel)
  | some k =>
    obtain ⟨t, h1, h2⟩ := A.at_ a k hk
    obtain ⟨t', g1, g2, g3⟩ := A.cons h
    rw [h1] at g1; cases g1
    rw [g2, g3]
    show (if t.t = q then _ else _) = _
    have hh : t.t = q ↔ k = q := by
      rcases hq with hq | hq
      · exact h2.kw q hq
      · rw [hq]; exact h2.sg
    by_cases e : k = q
    · rw [if_pos (hh.mpr e), if_pos (by rw [e])]
    · rw [if_neg (fun c => e (hh.mp c)), if_neg (fun c => e (by injection c))]
theorem AlK.take (A : AlK TS ks) {a : Nat} {q : Str} (h : a ≤ ks.length) (hq : q = "name" ∨ q = "number") : (ks[a]? = some q ∧ ∃ t, takeF q (TS.drop a) = .ok (t, TS.drop (a + 1)) ∧ t.k = q) ∨ (ks[a]? ≠ some q ∧ takeF q (TS.drop a) = .error (plc TS a) ∧ ∀ t r, TS.drop a = t :: r → t.k ≠ q) := by
  cases hk : ks[a]? with
  | none =>
    obtain ⟨_, e, h1, h2, _, h4⟩ := A.non h hk
    have hne : e.k ≠ q := by
      rw [h2]
      rcases hq with rfl | rfl <;> decide +kernel
    refine .inr ⟨(by intro c; cases c), ?_, fun t r c => by rw [h1] at c; cases c; exact hne⟩
    rw [h1, h4]
    exact if_neg hne
  | some k =>
    obtain ⟨t, h1, h2⟩ := A.at_ a k hk
    obtain ⟨t', g1, g2, g3⟩ := A.cons h
    rw [h1] at g1; cases g1
    have hh : t.k = q ↔ k = q := by
      rcases hq with rfl | rfl
      · exact h2.nm
      · exact h2.nu
    by_cases e : k = q
    · exact .inl ⟨by rw [e], t, by rw [g2]; exact if_pos (hh.mpr e), hh.mpr e⟩
    · refine .inr ⟨fun c => e (by injection c), ?_, fun t' r c => by rw [g2] at c; cases c; exact fun c => e (hh.mp c)⟩
      rw [g2, g3]
      exact if_neg fun c => e (hh.mp c)
theorem AlK.run (A : AlK TS ks) {q : Str} (hq : q = "name" ∨ q = "number") : ∀ (n a : Nat), ks.length - a ≤ n → a ≤ ks.length → (TS.drop a).dropWhile (isK q) = TS.drop (runN ks q a)
  | n, a, hn, h => by
    rcases A.take h hq with ⟨h1, t, h2, h3⟩ | ⟨h1, _, h3⟩
    · have hlt := lt_of_some h1
      rw [runN_step, if_pos h1]
      obtain ⟨t', g1, g2, _⟩ := A.cons h
      rw [g2] at h2
      have h2 : (if t'.k = q then Except.ok (t', TS.drop (a + 1)) else .error (t'.l, t'.c)) = .ok (t, TS.drop (a + 1)) := h2
      split at h2
      · rename_i hk
        rw [g2, List.dropWhile_cons, if_pos (show isK q t' = true from decide_eq_true hk)]
        cases n with
        | zero => omega
        | succ n => exact A.run hq n (a + 1) (by omega) (by omega)
      · cases h2
    · rw [runN_step, if_neg h1]
      obtain ⟨t', g1, g2, _⟩ := A.cons h
      rw [g2, List.dropWhile_cons, if_neg (show ¬ isK q t' = true from fun c => h3 t' _ g2 (of_decide_eq_true c))]
theorem AlK.all (A : AlK TS ks) {a : Nat} {q : Str} (h : a ≤ ks.length) (hq : q = "name" ∨ q = "number") : ((manyN ks q a).1 = true ∧ ∃ tk, allF q (TS.drop a) = .ok (tk, TS.drop (manyN ks q a).2)) ∨ ((manyN ks q a).1 = false ∧ allF q (TS.drop a) = .error (plc TS (manyN ks q a).2)) := by
  obtain ⟨t', g1, g2, g3⟩ := A.cons h
  unfold manyN
  rcases A.take h hq with ⟨h1, t, h2, _⟩ | ⟨h1, h2, h3⟩
  · have hlt := lt_of_some h1
    rw [if_pos h1]
    rw [g2] at h2
    have h2 : (if t'.k = q then Except.ok (t', TS.drop (a + 1)) else .error (t'.l, t'.c)) = .ok (t, TS.drop (a + 1)) := h2
    split at h2
    · rename_i hk
      have hr := A.run hq _ (a + 1) (Nat.le_refl _) (by omega)
      have hle := runN_le (ks := ks) (k := q) _ (a + 1) (Nat.le_refl _) (by omega)
      have hw := A.word (q := ";") hle.2 (.inr rfl)
      have e : allF q (TS.drop a) = withE (t' :: (TS.drop (a + 1)).takeWhile (isK q)) (wordF ";" (TS.drop (runN ks q (a + 1)))) := by
        rw [g2, ← hr]
        exact if_pos hk
      rw [e, hw]
      unfold takesN
      by_cases hs : ks[runN ks q (a + 1)]? = some (";" : Str)
      · rw [if_pos hs, if_pos hs]
        exact .inl ⟨rfl, _, rfl⟩
      · rw [if_neg hs, if_neg hs]
        exact .inr ⟨rfl, rfl⟩
    · cases h2
  · rw [if_neg h1]
    refine .inr ⟨rfl, ?_⟩
    rw [g2]
    show (if t'.k = q then _ else _) = _
    rw [if_neg (h3 t' _ g2), g3]
theorem AlK.st (A : AlK TS ks) {a : Nat} {w : Str} (h : a ≤ ks.length) (hw : w ∈ kws) {α : Type} (f : List Tk × List Tk → α) : ((stN ks w a).1 = true ∧ ∃ tk, bindE (fun t1 => bindE (fun p => .ok (f p)) (allF "name" t1)) (wordF w (TS.drop a)) = .ok (f (tk, TS.drop (stN ks w a).2))) ∨ ((stN ks w a).1 = false ∧ bindE (fun t1 => bindE (fun p => .ok (f p)) (allF "name" t1)) (wordF w (TS.drop a)) = .error (plc TS (stN ks w a).2)) := by
  rw [A.word h (.inl hw)]
  unfold stN
  by_cases hk : ks[a]? = some w
  · have hlt := lt_of_some hk
    rw [if_pos hk, if_pos hk]
    rcases A.all (q := "name") (a := a + 1) (by omega) (.inl rfl) with ⟨h1, tk, h2⟩ | ⟨h1, h2⟩
    · refine .inl ⟨h1, tk, ?_⟩
      show bindE _ (allF "name" (TS.drop (a + 1))) = _
      rw [h2]; rfl
    · refine .inr ⟨h1, ?_⟩
      show bindE _ (allF "name" (TS.drop (a + 1))) = _
      rw [h2]; rfl
  · rw [if_neg hk, if_neg hk]
    exact .inr ⟨rfl, rfl⟩
/-- a statement -/
theorem AlK.stm (A : AlK TS ks) {a : Nat} {w : Str} (s : Ps) (hk : ks[a]? = some w) :
    ((w = "weights" ∨ w = "makeup" ∨ w = "away") ∧ (((bodyN ks w a).1 = true ∧ ∃ s', stmF s (TS.drop a) = .ok (s', TS.drop (bodyN ks w a).2)) ∨ ((bodyN ks w a).1 = false ∧ stmF s (TS.drop a) = .error (plc TS (bodyN ks w a).2)))) ∨
    (¬ (w = "weights" ∨ w = "makeup" ∨ w = "away") ∧ stmF s (TS.drop a) = .error (plc TS a)) := by
  have hlt := lt_of_some hk
  obtain ⟨t, h1, h2⟩ := A.at_ a w hk
  obtain ⟨t', g1, g2, g3⟩ := A.cons (a := a) (by omega)
  rw [h1] at g1; cases g1
  have q1 : t.t = "weights" ↔ w = "weights" := h2.kw "weights" (by decide +kernel)
  have q2 : t.t = "away" ↔ w = "away" := h2.kw "away" (by decide +kernel)
  have q3 : t.t = "makeup" ↔ w = "makeup" := h2.kw "makeup" (by decide +kernel)
  have e : stmF s (TS.drop a) = if t.t = "weights" then weightsF s (TS.drop a) else if t.t = "away" then awayF s (TS.drop a) else if t.t = "makeup" then makeupF s (TS.drop a) else .error (t.l, t.c) := by rw [g2]; rfl
  rw [e]
  by_cases w1 : w = "weights"
  · refine .inl ⟨.inl w1, ?_⟩
    have eb : bodyN ks w a = manyN ks "number" (a + 1) := by
      subst w1
      unfold bodyN
      rw [if_neg (by decide +kernel), if_pos rfl]
    rw [if_pos (q1.mpr w1), eb]
    have ew := A.word (a := a) (q := "weights") (by omega) (.inl (by decide +kernel))
    rw [if_pos (by rw [hk, w1])] at ew
    rcases A.all (q := "number") (a := a + 1) (by omega) (.inr rfl) with ⟨h3, tk, h4⟩ | ⟨h3, h4⟩
    · refine .inl ⟨h3, ?_⟩
      rw [g2] at ew ⊢
      unfold weightsF
      dsimp only
      rw [ew, bindE_ok, h4, bindE_ok]
      exact ⟨_, rfl⟩
    · refine .inr ⟨h3, ?_⟩
      rw [g2] at ew ⊢
      show bindE _ (wordF "weights" (t :: TS.drop (a + 1))) = _
      rw [ew]
      show bindE _ (allF "number" (TS.drop (a + 1))) = _
      rw [h4]; rfl
  rw [if_neg fun c => w1 (q1.mp c)]
  by_cases w2 : w = "away"
  · refine .inl ⟨.inr (.inr w2), ?_⟩
    have eb : bodyN ks w a = takesN ks ["name", "number", "of", "number", ";"] (a + 1) := by unfold bodyN; rw [if_pos w2]
    rw [if_pos (q2.mpr w2), eb]
    have ew := A.word (a := a) (q := "away") (by omega) (.inl (by decide +kernel))
    rw [if_pos (by rw [hk, w2])] at ew
    have er : ∀ (x : Nat × Nat), takesN ks ["name", "number", "of", "number", ";"] (a + 1) = (false, x.1) → (∀ st, awayF s (st :: TS.drop (a + 1)) = awayF s (st :: TS.drop (a + 1))) := fun _ _ _ => rfl
    rw [g2] at ew ⊢
    have e0 : awayF s (t :: TS.drop (a + 1)) = bindE (fun p1 => bindE (fun p2 => bindE (fun t4 => bindE (fun p3 => bindE (fun t6 => .ok (awayEnd t (personF s p1.1) p2.1 p3.1, t6)) (wordF ";" p3.2)) (takeF "number" t4)) (wordF "of" p2.2)) (takeF "number" p1.2)) (takeF "name" (TS.drop (a + 1))) := by
      show bindE _ (wordF "away" (t :: TS.drop (a + 1))) = _
      rw [ew]; rfl
    rw [e0]
    unfold takesN
    rcases A.take (q := "name") (a := a + 1) (by omega) (.inl rfl) with ⟨k1, t1, m1, _⟩ | ⟨k1, m1, _⟩
    case inr => rw [if_neg k1, m1]; exact .inr ⟨rfl, rfl⟩
    rw [if_pos k1, m1, bindE_ok]
    have l1 := lt_of_some k1
    unfold takesN
    rcases A.take (q := "number") (a := a + 1 + 1) (by omega) (.inr rfl) with ⟨k2, t2, m2, _⟩ | ⟨k2, m2, _⟩
    case inr => rw [if_neg k2, m2]; exact .inr ⟨rfl, rfl⟩
    rw [if_pos k2, m2, bindE_ok]
    have l2 := lt_of_some k2
    unfold takesN
    have m3 := A.word (q := "of") (a := a + 1 + 1 + 1) (by omega) (.inl (by decide +kernel))
    by_cases k3 : ks[a + 1 + 1 + 1]? = some ("of" : Str)
    case neg => rw [if_neg k3] at m3 ⊢; rw [m3]; exact .inr ⟨rfl, rfl⟩
    rw [if_pos k3] at m3 ⊢
    rw [m3, bindE_ok]
    have l3 := lt_of_some k3
    unfold takesN
    rcases A.take (q := "number") (a := a + 1 + 1 + 1 + 1) (by omega) (.inr rfl) with ⟨k4, t4, m4, _⟩ | ⟨k4, m4, _⟩
    case inr => rw [if_neg k4, m4]; exact .inr ⟨rfl, rfl⟩
    rw [if_pos k4, m4, bindE_ok]
    have l4 := lt_of_some k4
    unfold takesN
    have m5 := A.word (q := ";") (a := a + 1 + 1 + 1 + 1 + 1) (by omega) (.inr rfl)
    by_cases k5 : ks[a + 1 + 1 + 1 + 1 + 1]? = some (";" : Str)
    case neg => rw [if_neg k5] at m5 ⊢; rw [m5]; exact .inr ⟨rfl, rfl⟩
    rw [if_pos k5] at m5 ⊢
    rw [m5, bindE_ok]
    exact .inl ⟨rfl, _, rfl⟩
  rw [if_neg fun c => w2 (q2.mp c)]
  by_cases w3 : w = "makeup"
  · refine .inl ⟨.inr (.inl w3), ?_⟩
    have eb : bodyN ks w a = manyN ks "name" (a + 1) := by
      unfold bodyN
      rw [if_neg w2, if_neg w1]
    rw [if_pos (q3.mpr w3), eb]
    have ew := A.word (a := a) (q := "makeup") (by omega) (.inl (by decide +kernel))
    rw [if_pos (by rw [hk, w3])] at ew
    rcases A.all (q := "name") (a := a + 1) (by omega) (.inl rfl) with ⟨h3, tk, h4⟩ | ⟨h3, h4⟩
    · refine .inl ⟨h3, ?_⟩
      rw [g2] at ew ⊢
      unfold makeupF
      dsimp only
      rw [ew, bindE_ok, h4, bindE_ok]
      exact ⟨_, rfl⟩
    · refine .inr ⟨h3, ?_⟩
      rw [g2] at ew ⊢
      show bindE _ (wordF "makeup" (t :: TS.drop (a + 1))) = _
      rw [ew]
      show bindE _ (allF "name" (TS.drop (a + 1))) = _
      rw [h4]; rfl
  · rw [if_neg fun c => w3 (q3.mp c), g3]
    exact .inr ⟨fun c => c.elim w1 fun c => c.elim w3 w2, rfl⟩
theorem AlK.loop (A : AlK TS ks) : ∀ (n m a : Nat) (s : Ps), a ≤ ks.length → ks.length - a < n → ks.length + 1 - a ≤ m → (loopN ks n a = none ∧ ∃ s', loopF m s (TS.drop a) = .ok s') ∨ (∃ i, loopN ks n a = some i ∧ loopF m s (TS.drop a) = .error (plc TS i))
  | 0, _, _, _, _, h, _ => by omega
  | n + 1, 0, a, _, h, _, h3 => by omega
  | n + 1, m + 1, a, s, h, h2, h3 => by
    have em : loopF (m + 1) s (TS.drop a) = if atEnd (TS.drop a) = true then .ok s else bindE (fun p => loopF m p.1 p.2) (stmF s (TS.drop a)) := rfl
    rw [em]
    unfold loopN
    cases hk : ks[a]? with
    | none =>
      obtain ⟨_, e, h1, h4, _⟩ := A.non h hk
      refine .inl ⟨rfl, s, ?_⟩
      rw [h1]
      exact if_pos (decide_eq_true h4)
    | some w =>
      dsimp only
      have hlt := lt_of_some hk
      obtain ⟨t, g1, g2⟩ := A.at_ a w hk
      obtain ⟨t', g3, g4, _⟩ := A.cons h
      rw [g1] at g3; cases g3
      have ne : ¬ atEnd (TS.drop a) = true := by rw [g4]; exact fun c => g2.en (of_decide_eq_true c)
      rw [if_neg ne]
      rcases A.stm s hk with ⟨hw, ⟨b1, s', b2⟩ | ⟨b1, b2⟩⟩ | ⟨hw, b2⟩
      · rw [if_pos hw, if_pos b1, b2, bindE_ok]
        have hb := bodyN_le (w := w) hlt
        exact A.loop n m _ s' hb.2 (by omega) (by omega)
      · rw [if_pos hw, if_neg (by rw [b1]; decide), b2]
        exact .inr ⟨_, rfl, rfl⟩
      · rw [if_neg hw, b2]
        exact .inr ⟨a, rfl, rfl⟩
theorem AlK.rota (A : AlK TS ks) : (∃ i, ffN ks = some i ∧ i ≤ ks.length ∧ rotaF TS = .syn (plc TS i).1 (plc TS i).2) ∨ (ffN ks = none ∧ ∃ s js, rotaF TS = doneF s js) := by
  have e0 : TS.drop 0 = TS := rfl
  have ep : peopleF Ps.zero TS = bindE (fun t1 => bindE (fun p => .ok (p.1.foldl peopleS Ps.zero, p.2)) (allF "name" t1)) (wordF "people" (TS.drop 0)) := rfl
  have l1 := stN_le (ks := ks) (w := "people") (Nat.zero_le _)
  have er : ∀ x, rotaF TS = (match bindE (fun p => bindE (fun q => bindE (fun s => .ok (s, q.1.2)) (loopF q.2.length q.1.1 q.2)) (turnsF p.1 p.2)) x with | .error e => .syn e.1 e.2 | .ok (s, js) => doneF s js) ∨ x ≠ peopleF Ps.zero TS := fun x => by
    by_cases h : x = peopleF Ps.zero TS
    · subst h; exact .inl rfl
    · exact .inr h
  have er1 := (er _).resolve_right (fun h => h rfl)
  unfold ffN
  rcases A.st (a := 0) (w := "people") (Nat.zero_le _) (by decide +kernel) (fun p => (p.1.foldl peopleS Ps.zero, p.2)) with ⟨h1, tk, h2⟩ | ⟨h1, h2⟩
  case inr =>
    rw [if_pos h1]
    refine .inl ⟨_, rfl, l1, ?_⟩
    rw [er1, ep, h2]; rfl
  rw [if_neg (by rw [h1]; decide)]
  rw [ep, h2, bindE_ok] at er1
  dsimp only at er1
  generalize tk.foldl peopleS Ps.zero = S at er1
  generalize ha : (stN ks "people" 0).2 = a at l1 er1 ⊢
  obtain ⟨t, g1, g2, g3⟩ := A.cons l1
  have et : turnsF S (TS.drop a) = bindE (fun t1 => bindE (fun p => .ok ((missF t (p.1.foldl turnS (S, [])), (p.1.foldl turnS (S, [])).2), p.2)) (allF "name" t1)) (wordF "turns" (TS.drop a)) := by rw [g2]; rfl
  have l2 := stN_le (ks := ks) (w := "turns") l1
  rcases A.st (a := a) (w := "turns") l1 (by decide +kernel) (fun p => ((missF t (p.1.foldl turnS (S, [])), (p.1.foldl turnS (S, [])).2), p.2)) with ⟨h3, tk2, h4⟩ | ⟨h3, h4⟩
  case inr =>
    rw [if_pos h3]
    refine .inl ⟨_, rfl, l2, ?_⟩
    rw [er1, et, h4]; rfl
  rw [if_neg (by rw [h3]; decide)]
  rw [et, h4, bindE_ok] at er1
  dsimp only at er1
  generalize (stN ks "turns" a).2 = b at l2 er1 ⊢
  have hl := A.ln
  rcases A.loop (ks.length + 1) (TS.drop b).length b (missF t (tk2.foldl turnS (S, []))) l2 (by omega) (by rw [List.length_drop]; omega) with ⟨h5, s', h6⟩ | ⟨i, h5, h6⟩
  · refine .inr ⟨h5, s', (tk2.foldl turnS (S, [])).2, ?_⟩
    rw [er1, h6]; rfl
  · refine .inl ⟨i, h5, loopN_le _ _ l2 h5, ?_⟩
    rw [er1, h6]; rfl
end
end Br

/-! k01, plain: what a text of tokens with gaps loads to. -/
namespace Br
open PySem PySem.Spec PyProof.Rows L2
def faultN (ks : List Str) : Option Nat := if ("" : Str) ∈ ks then some (ks.findIdx fun k => decide (k = ("" : Str))) else ffN ks
def kindsT (ts : List (Nat × Str)) : List Str := ts.map fun q => kindL q.2
/-- where the law looks for the fault -/
def placeN (ts : List (Nat × Str)) (i : Nat) : Nat × Nat := match (placesT 0 0 ts)[i]? with
  | some p => p
  | none => ((Txt.split (strT ts) "\n").length, 0)
theorem places_len : ∀ (ts : List (Nat × Str)) (ln col : Nat), (placesT ln col ts).length = ts.length
  | [], _, _ => rfl
  | q :: ts, ln, col => by show (placesT _ _ ts).length + 1 = _; rw [places_len ts]; rfl
theorem load_fault {ts : List (Nat × Str)} (h : ∀ q ∈ ts, q.2 ∈ ws1) : match faultN (kindsT ts) with
    | some i => i ≤ ts.length ∧ loadF (strT ts) = .syn (placeN ts i).1 (placeN ts i).2
    | none => (∃ r, loadF (strT ts) = .rota r) ∨ ∃ y l c, loadF (strT ts) = .chk y l c := by
  have hlx := lex_strT h
  unfold faultN
  by_cases hb : ("" : Str) ∈ kindsT ts
  · rw [if_pos hb]
    dsimp only
    have hlt : (kindsT ts).findIdx (fun k => decide (k = ("" : Str))) < (kindsT ts).length := List.findIdx_lt_length_of_exists ⟨("" : Str), hb, decide_eq_true rfl⟩
    have hlen : (kindsT ts).length = ts.length := by unfold kindsT; rw [List.length_map]
    generalize hi : (kindsT ts).findIdx (fun k => decide (k = ("" : Str))) = i at hlt
    have hq : ∀ j, (hj : j < ts.length) → (kindsT ts)[j]? = some (kindL ts[j].2) := fun j hj => by unfold kindsT; rw [List.getElem?_map, List.getElem?_eq_getElem hj]; rfl
    have h1 : ∀ j, j < i → ∃ q, ts[j]? = some q ∧ kindL q.2 ≠ "" := fun j hj => by
      have hjl : j < ts.length := by omega
      refine ⟨ts[j], List.getElem?_eq_getElem hjl, fun e => ?_⟩
      have := List.not_of_lt_findIdx (p := fun k => decide (k = ("" : Str))) (xs := kindsT ts) (by rw [hi]; exact hj)
      have e2 : (kindsT ts)[j]'(by omega) = kindL ts[j].2 := by
        have := hq j hjl
        rw [List.getElem?_eq_getElem (by omega)] at this
        exact Option.some.inj this
      rw [e2, e] at this
      exact absurd this (by decide +kernel)
    have h2 : ∃ q, ts[i]? = some q ∧ kindL q.2 = "" := by
      have hil : i < ts.length := by omega
      refine ⟨ts[i], List.getElem?_eq_getElem hil, ?_⟩
      have := List.findIdx_getElem (p := fun k => decide (k = ("" : Str))) (xs := kindsT ts) (w := by rw [hi]; exact hlt)
      have e2 : (kindsT ts)[i]'hlt = kindL ts[i].2 := by
        have := hq i hil
        rw [List.getElem?_eq_getElem hlt] at this
        exact Option.some.inj this
      subst hi
      rw [e2] at this
      exact of_decide_eq_true this
    obtain ⟨p, hp, ht⟩ := toks_bad ts 0 0 i h1 h2
    refine ⟨by omega, ?_⟩
    unfold loadF placeN
    rw [hlx, ht, hp]; rfl
  · rw [if_neg hb]
    have hk : ∀ q ∈ ts, kindL q.2 ≠ "" := fun q hq e => hb (List.mem_map.mpr ⟨q, hq, e⟩)
    obtain ⟨us, e1, e2, e3⟩ := toks_ok ts 0 0 hk
    have hus : us.length = ts.length := by
      have := congrArg List.length e2
      rw [List.length_map, List.length_map] at this; exact this
    let TS : List Tk := us ++ [⟨"end", "", (Txt.split (strT ts) "\n").length, 0⟩]
    have hls : lexF (strT ts) = .ok TS := by rw [hlx, e1]; rfl
    have A : AlK TS (kindsT ts) := by
      have hlen : (kindsT ts).length = ts.length := by unfold kindsT; rw [List.length_map]
      refine ⟨by show (us ++ [_]).length = _; rw [List.length_append, hus, hlen]; rfl, fun i k hik => ?_, ⟨⟨"end", "", (Txt.split (strT ts) "\n").length, 0⟩, ?_, rfl, rfl⟩⟩
      · have hil : i < ts.length := by have := lt_of_some hik; omega
        have hiu : i < us.length := by omega
        refine ⟨us[i], ?_, ?_⟩
        · show (us ++ [_])[i]? = _
          rw [List.getElem?_append_left hiu, List.getElem?_eq_getElem hiu]
        · have ek : k = kindL ts[i].2 := by
            unfold kindsT at hik
            rw [List.getElem?_map, List.getElem?_eq_getElem hil] at hik
            exact (Option.some.inj hik).symm
          have ep : ((us[i]).k, (us[i]).t) = (kk (kindL ts[i].2), ts[i].2) := by
            have := congrArg (fun l => l[i]?) e2
            rw [List.getElem?_map, List.getElem?_map, List.getElem?_eq_getElem hiu, List.getElem?_eq_getElem hil] at this
            exact Option.some.inj this
          have k1 : (us[i]).k = kk (kindL ts[i].2) := congrArg Prod.fst ep
          have k2 : (us[i]).t = ts[i].2 := congrArg Prod.snd ep
          have W := ws1_ok (h ts[i] (List.getElem_mem hil))
          subst ek
          exact ⟨by rw [k1]; exact W.nm, by rw [k1]; exact W.nu, by rw [k1]; exact W.en, fun q hq => by rw [k2]; exact (W.kw q hq).symm, by rw [k2]; exact W.sg.symm⟩
      · show (us ++ [_])[(kindsT ts).length]? = _
        rw [hlen, ← hus, List.getElem?_append_right (Nat.le_refl _), Nat.sub_self]; rfl
    have hpl : ∀ i, i ≤ ts.length → plc TS i = placeN ts i := fun i hi => by
      unfold plc placeN
      show (match (us ++ [_])[i]? with | some t => (t.l, t.c) | none => (0, 0)) = _
      by_cases hlt : i < ts.length
      · have hiu : i < us.length := by omega
        rw [List.getElem?_append_left hiu, List.getElem?_eq_getElem hiu]
        have := congrArg (fun l => l[i]?) e3
        rw [List.getElem?_map, List.getElem?_eq_getElem hiu] at this
        rw [← this]; rfl
      · have ei : i = us.length := by omega
        rw [ei, List.getElem?_append_right (Nat.le_refl _), Nat.sub_self]
        have hn : (placesT 0 0 ts)[us.length]? = none := List.getElem?_eq_none (by rw [places_len]; omega)
        rw [hn]; rfl
    have hlen : (kindsT ts).length = ts.length := by unfold kindsT; rw [List.length_map]
    have hld : loadF (strT ts) = rotaF TS := by unfold loadF; rw [hls]
    rcases A.rota with ⟨i, h1, h2, h3⟩ | ⟨h1, s, js, h2⟩
    · rw [h1]
      dsimp only
      refine ⟨by omega, ?_⟩
      rw [hld, h3, hpl i (by omega)]
    · rw [h1]
      dsimp only
      rw [hld, h2]
      unfold doneF
      split
      · exact .inl ⟨_, rfl⟩
      · exact .inr ⟨_, _, _, rfl⟩
end Br

namespace Br
open PySem PySem.Spec PyProof.Rows L2
/-! ### the formatter -/
theorem lineS_head {w w' : Str} {ws : List Str} (hne : ws ≠ []) (hw : w' = w ++ " ") : w' ++ Txt.join " " ws ++ ";" = lineS (w :: ws) := by
  subst hw
  refine TL.ext_tl ?_
  unfold lineS
  rw [TL.join_eq, TL.join_eq, TL.tl_append, TL.tl_append, TL.tl_append, TL.tl_append, TL.tl_join, TL.tl_join]
  obtain ⟨x, xs, rfl⟩ := List.exists_cons_of_ne_nil hne
  rw [List.map_cons, List.map_cons, List.map_cons, TL.joinL]
  simp
theorem lineS_away (a b c : Str) : "away " ++ a ++ " " ++ b ++ " of " ++ c ++ ";" = lineS ["away", a, b, "of", c] := by
  refine TL.ext_tl ?_
  unfold lineS
  have e1 : TL.tl ("away " : Str) = TL.tl "away" ++ TL.tl " " := by decide +kernel
  have e2 : TL.tl (" of " : Str) = TL.tl " " ++ (TL.tl "of" ++ TL.tl " ") := by decide +kernel
  rw [TL.join_eq]
  simp only [TL.tl_append, TL.tl_join, List.map_cons, List.map_nil, TL.joinL, e1, e2, List.append_assoc]
theorem small2 {x y : Str} (h1 : x.length ≤ 1000) (h2 : y.length ≤ 1000) : x.length + y.length ≤ sizeLine := Nat.le_trans (m := 2000) (by omega) (by decide)
section
variable {P : Program} {w : World} {K : PySem.W.Frag} {mg : Str → Option Value} {base : Heap}
abbrev sformat_parsed : Stmt := topS 42
theorem scformat_parsed : FnScope ["parsed", "names", "turns", "weights", "aways", "makers", "lines", "person", "remainder", "modulus", "weight"] ["parsed"] (defScope sformat_parsed) := ⟨rfl, rfl, rfl, by decide +kernel, rfl, by decide +kernel, by decide +kernel⟩
theorem cal_format (D : DefAt K mg "format_parsed" sformat_parsed ["parsed"]) (T : Bi mg) : Cal P w K mg base 1 "format_parsed" ["parsed"] spText := D.cal fun f fd F => by
  have nd := scformat_parsed.nd
  refine F.ok scformat_parsed (fun vs H Q E h => ?_) (fun cdv A outer s H vs Q E hr h => ?_)
  · obtain ⟨a, r, rfl, _⟩ := h; rfl
  obtain ⟨a, r, rfl, ⟨an, at_, aw, aa, am, as, h1, h2, h3, h4, h5, h6, h7⟩, ok, k⟩ := h
  have hu := hr.units
  have keep : ∀ {H' : Hp} {l : List (Addr × HO)}, Wd [] H H' l → ∀ {b : Addr} {xs : List V}, H b = some (.tup xs) → SqT K H' b xs := fun w _ _ e => SqT.of (w.tups _ _ e)
  refine ⟨_, (pss_cons (ps_asg (pv 0) (pg_tupK (K := K) (n := 5) rfl rfl (pgs_cons (pg_name (i := 1) nd rfl (Or.inr rfl)) (pgs_cons (pg_name (i := 2) nd rfl (Or.inl rfl)) (pgs_cons (pg_name (i := 3) nd rfl (Or.inl rfl)) (pgs_cons (pg_name (i := 4) nd rfl (Or.inl rfl)) (pgs_cons (pg_name (i := 5) nd rfl (Or.inl rfl)) pgs_nil)))))))
 (pss_cons (ps_set (i := 6) nd rfl (Or.inl rfl) (pe_lst (pa_cons (pe_op op_add_str (pe_op op_add_str pe_str (pe_joinK (K := K) rfl pe_str (pv 1))) pe_str) (pa_cons (pe_op op_add_str (pe_op op_add_str pe_str (pe_joinK (K := K) rfl pe_str (pe_lc (own := [("person", 7)]) rfl nd (pi_tupK (K := K) rfl (pv 2)) (blkOk_by (N := ["parsed", "names", "turns", "weights", "aways", "makers", "lines", "person", "remainder", "modulus", "weight"]) (sc := defScope sformat_parsed) (by decide +kernel)) (fun _ _ _ _ _ => (pg_name (i := 7) nd rfl (Or.inl rfl))) (fun _ _ _ _ _ => pts_nil) (fun _ _ _ _ _ => (pe_ix (r := rIxT K) ix_tup (pv 1) (pv 7) (fun _ _ => rfl)))))) pe_str) pa_nil))))
 (C8.pss_cut (ps_if (pt_cmpR op_gt (pe_callB (r := rMaxT K) (cr_maxT rfl hu) (by rfl) T.max (by decide +kernel) (pa_cons (pv 3) pa_nil)) pe_int (nomark _))
 (pss_one (ps_expr (pe_bmK (K := K) rfl PySem.F.plainAttrs_list PySem.F.slot_list_append PySem.F.type_list_append mt_append (pv 6) (pa_cons (pe_op op_add_str (pe_op op_add_str pe_str (pe_joinK (K := K) rfl pe_str (pe_lc (own := [("weight", 10)]) rfl nd (pi_tupK (K := K) rfl (pv 3)) (blkOk_by (N := ["parsed", "names", "turns", "weights", "aways", "makers", "lines", "person", "remainder", "modulus", "weight"]) (sc := defScope sformat_parsed) (by decide +kernel)) (fun _ _ _ _ _ => (pg_name (i := 10) nd rfl (Or.inl rfl))) (fun _ _ _ _ _ => pts_nil) (fun _ _ _ _ _ => (pe_callTy call_str_int (by rfl) T.str (by decide +kernel) (pa_cons (pv 10) pa_nil)))))) pe_str) pa_nil))))
 pss_nil)
 (pss_cons (ps_for PassesOwn.never rfl (pi_tupK (K := K) rfl (pv 4)) (pg_tupK (K := K) (n := 3) rfl rfl (pgs_cons (pg_name (i := 7) nd rfl (Or.inl rfl)) (pgs_cons (pg_name (i := 8) nd rfl (Or.inl rfl)) (pgs_cons (pg_name (i := 9) nd rfl (Or.inl rfl)) pgs_nil))))
 (pss_one (ps_expr (pe_bmK (K := K) rfl PySem.F.plainAttrs_list PySem.F.slot_list_append PySem.F.type_list_append mt_append (pv 6) (pa_cons (pe_op op_add_str (pe_op op_add_str (pe_op op_add_str (pe_op op_add_str (pe_op op_add_str (pe_op op_add_str pe_str (pe_ix (r := rIxT K) ix_tup (pv 1) (pv 7) (fun _ _ => rfl))) pe_str) (pe_callTy call_str_int (by rfl) T.str (by decide +kernel) (pa_cons (pv 8) pa_nil))) pe_str) (pe_callTy call_str_int (by rfl) T.str (by decide +kernel) (pa_cons (pv 9) pa_nil))) pe_str) pa_nil)))))
 (C8.pss_cut (ps_if (pt_cmpR (r := rNeD K) (op_neD hu) (pv 5) (pe_tup pa_nil) (nomark _))
 (pss_one (ps_expr (pe_bmK (K := K) rfl PySem.F.plainAttrs_list PySem.F.slot_list_append PySem.F.type_list_append mt_append (pv 6) (pa_cons (pe_op op_add_str (pe_op op_add_str pe_str (pe_joinK (K := K) rfl pe_str (pe_lc (own := [("person", 7)]) rfl nd (pi_tupK (K := K) rfl (pv 5)) (blkOk_by (N := ["parsed", "names", "turns", "weights", "aways", "makers", "lines", "person", "remainder", "modulus", "weight"]) (sc := defScope sformat_parsed) (by decide +kernel)) (fun _ _ _ _ _ => (pg_name (i := 7) nd rfl (Or.inl rfl))) (fun _ _ _ _ _ => pts_nil) (fun _ _ _ _ _ => (pe_ix (r := rIxT K) ix_tup (pv 1) (pv 7) (fun _ _ => rfl)))))) pe_str) pa_nil))))
 pss_nil)
 (pss_one (ps_ret (pe_joinK (K := K) rfl pe_str (pv 6))))))))), ?_⟩
  have n1 := ok.n1
  have n6 := ok.n6
  have t12 := ok.t12
  have hnn : r.names ≠ [] := fun e => by rw [e] at n1; simp at n1
  have htn : r.turns ≠ [] := fun e => by have := ok.tall 0 (by omega); rw [e] at this; simp at this
  have hwn : r.weights ≠ [] := fun e => by have := ok.wl; rw [e] at this; simp at this; omega
  have l1 : ((" " : Str)).length = 1 := by decide
  -- sizes of joined words
  have jl : ∀ ws : List Str, ws.length ≤ 13 → (∀ x ∈ ws, x.length ≤ 8) → (Txt.join " " ws).length ≤ 200 ∧ (ws.map (·.length)).sum + ws.length * ((" " : Str)).length ≤ 16777216 := fun ws h1 h2 => by
    have hj := join_len " " ws 8 h2
    have hs := sum_le (fun s : Str => s.length) 8 ws h2
    rw [l1] at hj ⊢
    have : ws.length * (8 + 1) ≤ 13 * 9 := Nat.mul_le_mul h1 (by decide)
    constructor
    · omega
    · omega
  have nml : ∀ x ∈ r.names, x.length ≤ 8 := fun x hx => (ok.six x hx).2.2.1
  have nmi : ∀ (ks : List Int), (∀ k ∈ ks, 0 ≤ k ∧ k < r.names.length) → ∀ x ∈ ks.map (nm r), x.length ≤ 8 := fun ks h x hx => by
    obtain ⟨t, ht, rfl⟩ := List.mem_map.mp hx
    exact nm_len ok (h t ht).1 (h t ht).2
  refine ⟨_, rfl, a, _, rfl, SqT.of h1, rfl, _, _, rfl, _, _, rfl, _, _, rfl, _, _, rfl, _, _, rfl, rfl, ?_⟩
  -- people
  have j1 := jl r.names (by omega) nml
  refine ⟨⟨_, rfl⟩, _, rfl, _, an, r.names, rfl, rfl, .inr h2.sq, j1.2, _, _, rfl, rfl, small2 (by decide) (by omega), _, _, rfl, rfl, small2 (by rw [app_len]; have : ("people " : Str).length = 7 := (by decide); omega) (by decide), ?_⟩
  rw [lineS_head (w := "people") hnn (by decide +kernel)]
  -- turns
  refine ⟨⟨_, rfl⟩, _, rfl, at_, rfl, ⟨_, SqT.of h3⟩, fun D1 hD1 => ?_⟩
  refine lc_tupF (K := K) (a := at_) (xs := r.turns.map V.int) (fun _ => true) (fun v => match v with | .int i => V.str (nm r i) | v => v) (Wd.refl H) hD1 (fun H' c w => keep w h3) (by rw [List.length_map]; omega) (fun H' ⟨c, w⟩ i x hx R S hR _ => ?_) (fun H' w5 => ?_)
  · obtain ⟨t, ht, rfl⟩ := int_of_map hx
    have h0 := ok.t0 t (List.mem_of_getElem? ht)
    refine ⟨rfl, _, rfl, _, rfl, an, _, _, _, rfl, rfl, (h2.le w.le).sq, ?_, hR rfl⟩
    exact at_of (j := t.toNat) (by omega) (by rw [List.getElem?_map, nm_mem h0.1 h0.2]; rfl)
  have e5 : (r.turns.map V.int).map (fun v => match v with | .int i => V.str (nm r i) | v => v) = (r.turns.map (nm r)).map V.str := by rw [List.map_map, List.map_map]; rfl
  rw [filter_yes, e5] at w5
  have j2 := jl (r.turns.map (nm r)) (by rw [List.length_map]; omega) (nmi _ ok.t0)
  refine ⟨_, D1, r.turns.map (nm r), rfl, rfl, .inl (SqL.of (w5.get 0 rfl)), j2.2, _, _, rfl, rfl, small2 (by decide) (by omega), _, _, rfl, rfl, small2 (by rw [app_len]; have : ("turns " : Str).length = 6 := (by decide); omega) (by decide), ?_⟩
  rw [lineS_head (w := "turns") (by simpa using htn) (by decide +kernel)]
  refine ⟨(by show 2 ≤ sizeLine; decide), fun ll hll => ?_⟩
  have w7 := (w5.new (.lst (((lines2 r).map lineS).map V.str)) hll).sub (l' := [(ll, .lst (((lines2 r).map lineS).map V.str))]) (by walk_at "sub")
  -- weights
  refine ⟨fun σ H' => σ = [some (.ref a), some (.ref an), some (.ref at_), some (.ref aw), some (.ref aa), some (.ref am), some (.ref ll), none, none, none, none] ∧ Wd [] H H' [(ll, .lst (((lines2 r ++ linesW r).map lineS).map V.str))], ?_, ?_⟩
  · have hw0 : 0 < r.weights.length := by have := ok.wl; omega
    refine ⟨_, rfl, aw, r.weights, rfl, keep w7 h4, hw0, fun m hm hmax => ?_⟩
    refine ⟨_, _, rfl, rfl, _, rfl, ?_⟩
    refine ite2 (fun hc => ?_) (fun hc => ?_)
    · have hh : heavy r = true := List.any_eq_true.mpr ⟨m, hm, hc⟩
      refine ⟨_, rfl, .inl ⟨rfl, _, SqL.of (w7.get 0 rfl)⟩, ⟨_, rfl⟩, _, rfl, aw, rfl, ⟨_, keep w7 h4⟩, fun D hD => ?_⟩
      refine lc_tupF (K := K) (a := aw) (xs := r.weights.map V.int) (fun _ => true) (fun v => match v with | .int i => V.str (num i) | v => v) w7 hD (fun H' c w => keep w h4) (by rw [List.length_map, ok.wl]; omega) (fun H' ⟨c, w⟩ i x hx R S hR _ => ?_) (fun H' w9 => ?_)
      · obtain ⟨t, ht, rfl⟩ := int_of_map hx
        have h0 := ok.w0 t (List.mem_of_getElem? ht)
        exact ⟨rfl, _, rfl, t, rfl, Nat.lt_of_le_of_lt (Nat.log2_le_self _) (by omega), hR rfl⟩
      have e9 : (r.weights.map V.int).map (fun v => match v with | .int i => V.str (num i) | v => v) = (r.weights.map num).map V.str := by rw [List.map_map, List.map_map]; rfl
      rw [filter_yes, e9] at w9
      have j3 := jl (r.weights.map num) (by rw [List.length_map, ok.wl]; omega) (fun x hx => by
        obtain ⟨v, hv, rfl⟩ := List.mem_map.mp hx
        have := ok.w0 v hv
        exact Nat.le_trans (num_len' (by omega) (by omega)) (by decide))
      refine ⟨_, D, r.weights.map num, rfl, rfl, .inl (SqL.of (w9.get 0 rfl)), j3.2, _, _, rfl, rfl, small2 (by decide) (by omega), _, _, rfl, rfl, small2 (by rw [app_len]; have : ("weights " : Str).length = 8 := (by decide); omega) (by decide), ?_⟩
      rw [lineS_head (w := "weights") (by simpa using hwn) (by decide +kernel)]
      refine ⟨ll, _, _, rfl, rfl, w9.get 1 rfl, (by show 2 < sizeLine; decide), rfl, ?_⟩
      have w10 := (w9.put 1 (.lst (((lines2 r).map lineS).map V.str ++ [V.str (lineS ("weights" :: r.weights.map num))])) rfl (fun _ q => by cases q)).sub (l' := [(ll, .lst (((lines2 r).map lineS).map V.str ++ [V.str (lineS ("weights" :: r.weights.map num))]))]) (by walk_at "sub")
      rw [linesW, if_pos hh, List.map_append, List.map_append]
      exact w10
    · refine ⟨rfl, ?_⟩
      have hh : heavy r = false := by
        rw [Bool.eq_false_iff]
        intro hh
        obtain ⟨v, hv, hv1⟩ := List.any_eq_true.mp hh
        have := hmax v hv
        have := of_decide_eq_true hv1
        exact hc (decide_eq_true (by omega))
      rw [linesW, if_neg (by rw [hh]; decide), List.append_nil]
      exact w7
  rintro σ H1 ⟨rfl, w8⟩
  have hLl : (lines2 r ++ linesW r).length ≤ 3 := by
    have h2 : (linesW r).length ≤ 1 := by unfold linesW; split <;> simp
    rw [List.length_append]
    simp only [lines2, List.length_cons, List.length_nil]
    omega
  have a6 := ok.a6
  -- the absences
  refine ⟨_, rfl, aa, rfl, ⟨_, keep w8 h5⟩, ?_⟩
  refine for_it (walk_tup (xs := as.map V.ref)) (fun i σ H' => (∃ b c d, σ = [some (.ref a), some (.ref an), some (.ref at_), some (.ref aw), some (.ref aa), some (.ref am), some (.ref ll), b, c, d, none]) ∧ Wd [] H H' [(ll, .lst (((lines2 r ++ linesW r ++ (r.aways.take i).map (awW r)).map lineS).map V.str))]) ?_ ?_ ?_ ?_
  · exact ⟨⟨_, _, _, rfl⟩, by rw [List.take_zero, List.map_nil, List.append_nil]; exact w8⟩
  · rintro i σ H' _ ⟨_, w⟩
    exact keep w h5
  · rintro i x σ H2 H2' hi ⟨⟨b, c, d, rfl⟩, w9⟩ ⟨rfl, hx⟩
    obtain ⟨b1, hb, rfl⟩ : ∃ b, as[i]? = some b ∧ x = V.ref b := by
      rw [List.getElem?_map] at hx
      cases e : as[i]? with
      | none => rw [e] at hx; cases hx
      | some b => rw [e] at hx; exact ⟨b, rfl, (Option.some.inj hx).symm⟩
    obtain ⟨t, ht, hbt⟩ := h6.at hb
    obtain ⟨g1, g2, g3, g4, g5⟩ := ok.a0 t (List.mem_of_getElem? ht)
    have g6 : t.2.2 ≤ 12 := by simp at g5; omega
    have hi6 := (List.getElem?_eq_some_iff.mp ht).1
    have l1 := nm_len ok g1 g2
    have l2 := num_len' g3 (by omega)
    have l3 := num_len' (i := t.2.2) (by omega) (by omega)
    have c1 : ("away " : Str).length = 5 := by decide
    have c2 : (" " : Str).length = 1 := by decide
    have c3 : (" of " : Str).length = 4 := by decide
    have c4 : (";" : Str).length = 1 := by decide
    refine ⟨b1, tri t, rfl, keep w9 hbt, rfl, _, _, rfl, _, _, rfl, _, _, rfl, rfl, ?_⟩
    refine ⟨_, rfl, .inl ⟨rfl, _, SqL.of (w9.get 0 rfl)⟩, _, rfl, _, rfl, an, _, _, _, rfl, rfl, (h2.le w9.le).sq, at_of (j := t.1.toNat) (by omega) (by rw [List.getElem?_map, nm_mem g1 g2]; rfl), ?_⟩
    refine ⟨_, _, rfl, rfl, small2 (by omega) (by omega), ?_⟩
    refine ⟨_, _, rfl, rfl, small2 (by simp only [app_len]; omega) (by omega), ?_⟩
    refine ⟨_, rfl, t.2.1, rfl, Nat.lt_of_le_of_lt (Nat.log2_le_self _) (by omega), ?_⟩
    refine ⟨_, _, rfl, rfl, small2 (y := num t.2.1) (by simp only [app_len]; omega) (by omega), ?_⟩
    refine ⟨_, _, rfl, rfl, small2 (x := _ ++ num t.2.1) (by simp only [app_len]; omega) (by omega), ?_⟩
    refine ⟨_, rfl, t.2.2, rfl, Nat.lt_of_le_of_lt (Nat.log2_le_self _) (by omega), ?_⟩
    refine ⟨_, _, rfl, rfl, small2 (x := _ ++ num t.2.1 ++ _) (y := num t.2.2) (by simp only [app_len]; omega) (by omega), ?_⟩
    refine ⟨_, _, rfl, rfl, small2 (x := _ ++ num t.2.1 ++ _ ++ num t.2.2) (by simp only [app_len]; omega) (by omega), ?_⟩
    have e1 := lineS_away (nm r t.1) (num t.2.1) (num t.2.2)
    refine ⟨ll, _, _, rfl, rfl, w9.get 0 rfl, ?_, ⟨_, _, _, rfl⟩, ?_⟩
    · rw [List.length_map, List.length_map, List.length_append, List.length_map, List.length_take]; exact Nat.lt_of_le_of_lt (m := 100) (by omega) (by decide)
    · have e3 : ((lines2 r ++ linesW r ++ (r.aways.take (i + 1)).map (awW r)).map lineS).map V.str = ((lines2 r ++ linesW r ++ (r.aways.take i).map (awW r)).map lineS).map V.str ++ [V.str ("away " ++ nm r t.1 ++ " " ++ num t.2.1 ++ " of " ++ num t.2.2 ++ ";")] := by
        rw [take_more ht, List.map_append (l₂ := [t]), ← List.append_assoc, List.map_append (l₂ := List.map (awW r) [t]), List.map_append (l₂ := List.map lineS (List.map (awW r) [t])), e1]
        rfl
      rw [e3]
      exact w9.put 0 (.lst (((lines2 r ++ linesW r ++ (r.aways.take i).map (awW r)).map lineS).map V.str ++ [V.str ("away " ++ nm r t.1 ++ " " ++ num t.2.1 ++ " of " ++ num t.2.2 ++ ";")])) rfl (fun _ q => by cases q)
  · rintro σ H2 ⟨⟨b, c, d, rfl⟩, w9⟩
    rw [List.length_map, h6.length, List.take_length] at w9
    have hL2 : (lines2 r ++ linesW r ++ r.aways.map (awW r)).length ≤ 23 := by rw [List.length_append, List.length_map]; omega
    refine ⟨fun σ H' => (∃ b c d, σ = [some (.ref a), some (.ref an), some (.ref at_), some (.ref aw), some (.ref aa), some (.ref am), some (.ref ll), b, c, d, none]) ∧ Wd [] H H' [(ll, .lst (((lineWords r).map lineS).map V.str))], ?_, ?_⟩
    · refine ⟨_, rfl, (by show 0 ≤ sizeLine; decide), fun e he => ?_⟩
      have w12 := w9.new (.tup []) he
      have hms : ∀ v ∈ r.makers.map V.int, IS v := fun v hv => by
        obtain ⟨z, _, rfl⟩ := List.mem_map.mp hv
        trivial
      refine ⟨.tuple ((r.makers.map V.int).map dataOf), .tuple [], .tup (keep w12 h7) (dp_all hms), .tup (SqT.of (w12.get 0 rfl)) .nil, shaped_tup hms, rfl, _, rfl, ?_⟩
      rw [eqv_nilT]
      have hie : ((r.makers.map V.int).map dataOf).isEmpty = r.makers.isEmpty := by cases r.makers <;> rfl
      rw [hie]
      have mlen : r.makers.length ≤ 6 := by
        have := asc_len ok.masc (n := r.names.length) ok.m0
        omega
      cases hm : r.makers.isEmpty with
      | true =>
        refine ⟨⟨_, _, _, rfl⟩, ?_⟩
        rw [lineWords, linesM, if_pos hm, List.append_nil]
        exact w12.sub (List.Sublist.cons _ (List.Sublist.refl _))
      | false =>
        have hmn : r.makers ≠ [] := fun e => by rw [e] at hm; cases hm
        refine ⟨_, rfl, .inl ⟨rfl, _, SqL.of (w12.get 1 rfl)⟩, ⟨_, rfl⟩, _, rfl, am, rfl, ⟨_, keep w12 h7⟩, fun D hD => ?_⟩
        refine lc_tupF (K := K) (a := am) (xs := r.makers.map V.int) (fun _ => true) (fun v => match v with | .int i => V.str (nm r i) | v => v) w12 hD (fun H' c w => keep w h7) (by rw [List.length_map]; omega) (fun H' ⟨c, w⟩ i x hx R S hR _ => ?_) (fun H' w14 => ?_)
        · obtain ⟨t, ht, rfl⟩ := int_of_map hx
          have h0 := ok.m0 t (List.mem_of_getElem? ht)
          refine ⟨rfl, _, rfl, _, rfl, an, _, _, _, rfl, rfl, (h2.le w.le).sq, ?_, hR rfl⟩
          exact at_of (j := t.toNat) (by omega) (by rw [List.getElem?_map, nm_mem h0.1 h0.2]; rfl)
        have e14 : (r.makers.map V.int).map (fun v => match v with | .int i => V.str (nm r i) | v => v) = (r.makers.map (nm r)).map V.str := by rw [List.map_map, List.map_map]; rfl
        rw [filter_yes, e14] at w14
        have j3 := jl (r.makers.map (nm r)) (by rw [List.length_map]; omega) (nmi _ ok.m0)
        refine ⟨_, D, r.makers.map (nm r), rfl, rfl, .inl (SqL.of (w14.get 0 rfl)), j3.2, _, _, rfl, rfl, small2 (by decide) (by omega), _, _, rfl, rfl, small2 (by rw [app_len]; have : ("makeup " : Str).length = 7 := (by decide); omega) (by decide), ?_⟩
        rw [lineS_head (w := "makeup") (by simpa using hmn) (by decide +kernel)]
        refine ⟨ll, _, _, rfl, rfl, w14.get 2 rfl, (by rw [List.length_map, List.length_map]; exact Nat.lt_of_le_of_lt (m := 100) (by omega) (by decide)), ⟨_, _, _, rfl⟩, ?_⟩
        have w15 := (w14.put 2 (.lst (((lines2 r ++ linesW r ++ r.aways.map (awW r)).map lineS).map V.str ++ [V.str (lineS ("makeup" :: r.makers.map (nm r)))])) rfl (fun _ q => by cases q)).sub (l' := [(ll, .lst (((lines2 r ++ linesW r ++ r.aways.map (awW r)).map lineS).map V.str ++ [V.str (lineS ("makeup" :: r.makers.map (nm r)))]))]) (by walk_at "sub")
        rw [lineWords, linesM, if_neg (by rw [hm]; decide), List.map_append (l₂ := [_]), List.map_append (l₂ := List.map lineS [_])]
        exact w15
    rintro σ H3 ⟨⟨b, c, d, rfl⟩, w13⟩
    refine ⟨⟨_, rfl⟩, _, rfl, _, ll, (lineWords r).map lineS, rfl, rfl, .inl (SqL.of (w13.get 0 rfl)), ?_, ?_⟩
    · have h8 := sum_le (fun s : Str => s.length) 200 ((lineWords r).map lineS) fun s hs => by
        obtain ⟨ws, hws, rfl⟩ := List.mem_map.mp hs
        have := words_len ok ws hws
        exact lineS_len this.1 this.2
      have := lines_few ok
      have e1 : (("\n" : Str)).length = 1 := by decide
      rw [e1]
      rw [List.length_map] at h8 ⊢
      omega
    · exact k _ (w13.sub (List.nil_sublist _))
end
end Br

namespace Br
open PySem PySem.Spec PyProof.Rows L2
theorem lt_line {n : Nat} (h : n ≤ 100000) : n < sizeLine := Nat.lt_of_le_of_lt h (by decide)
theorem le_line {n : Nat} (h : n ≤ 100000) : n ≤ sizeLine := Nat.le_trans h (by decide)
theorem Wd.app0 {M : List Addr} {H0 H : Hp} {D : Addr} {ys : List V} {l : List (Addr × HO)} (w : Wd M H0 H ((D, .lst ys) :: l)) (y : V) : Wd M H0 (upd H D (.lst (ys ++ [y]))) ((D, .lst (ys ++ [y])) :: l) :=
  w.put 0 (.lst (ys ++ [y])) rfl (fun _ q => by cases q)
theorem Wd.goA {M : List Addr} {H0 H H' : Hp} {l : List (Addr × HO)} (c : Wd M H0 H []) (d : Wd M H H' l) : Wd M H0 H' l :=
  ⟨fun b o hb e => d.base b o hb (c.base b o hb e), fun b xs e => d.tups b xs (c.tups b xs e), fun q hq => (d.own q hq).imp (c.free _) id, d.at_, d.nd, fun p e => c.free p (d.free p e)⟩
theorem lc_str {x : Str} {g : TG} {tt : TT} {te : TE} {vs : List Nat} {σ : L2.St} {H1 : Hp} {D : Addr} {Qd : Hp → Prop} (Pv : Nat → Hp → Prop) (h0 : Pv 0 (upd H1 D (.lst [])))
    (hs : ∀ i c H, x.cps[i]? = some c → Pv i H → g (.str ⟨#[c]⟩) (wipe σ vs) H fun σ2 H2 => wipe σ2 vs = wipe σ vs ∧ tt σ2 H2 fun b H3 =>
      if b = true then te σ2 H3 fun y H4 => ∃ acc, H4 D = some (.lst acc) ∧ acc.length < sizeLine ∧ Pv (i + 1) (upd H4 D (.lst (acc ++ [y]))) else Pv (i + 1) H3) (hd : ∀ H, Pv x.cps.size H → Qd H) :
    ∃ W : Nat → Nat → Hp → Prop, (∃ m, W 0 m (upd H1 D (.lst []))) ∧ ∀ i m H, W i m H →
      ((Its x).stop i H ∧ Qd H) ∨ ((Its x).go i H ∧ ∃ Nx : Hp → Prop, (∀ H', Nx H' → ∃ m', m' < m ∧ W (i + 1) m' H') ∧ ∀ v H', (Its x).yld i H v H' → g v (wipe σ vs) H' fun σ2 H2 => wipe σ2 vs = wipe σ vs ∧ tt σ2 H2 fun b H3 =>
        if b = true then te σ2 H3 fun y H4 => ∃ acc, H4 D = some (.lst acc) ∧ acc.length < sizeLine ∧ Nx (upd H4 D (.lst (acc ++ [y]))) else Nx H3) := by
  refine ⟨fun i m H => m = x.cps.size - i ∧ i ≤ x.cps.size ∧ Pv i H, ⟨x.cps.size, by simp, Nat.zero_le _, h0⟩, ?_⟩
  rintro i m H ⟨rfl, hi, p⟩
  by_cases hlt : i < x.cps.size
  · refine .inr ⟨hlt, Pv (i + 1), fun H' p' => ⟨x.cps.size - (i + 1), by omega, rfl, hlt, p'⟩, fun v H' y => ?_⟩
    obtain ⟨e, c, hc, ev⟩ := y
    subst e
    subst ev
    exact hs i c H' hc p
  · have : i = x.cps.size := by omega
    subst this
    exact .inl ⟨Nat.le_refl _, hd H p⟩
theorem fil_emp (p : Nat → Bool) : ∀ l : List Nat, ((l.filter fun c => !p c).map fun c => V.str ⟨#[c]⟩).isEmpty = l.all p
  | [] => rfl
  | c :: l => by
    rw [List.filter_cons, List.all_cons, ← fil_emp p l]
    cases p c <;> rfl
section
variable {P : Program} {w : World} {K : PySem.W.Frag} {mg : Str → Option Value} {base : Heap}
/-! ### the kind of a word -/
abbrev s_law_kind : Stmt := topS 50
theorem sc_law_kind : FnScope ["_law_token", "_law_sign"] ["_law_token"] (defScope s_law_kind) := ⟨rfl, rfl, rfl, by decide +kernel, rfl, by decide +kernel, by decide +kernel⟩
def spKind : Sp := fun vs H Q _ => ∃ z : Str, vs = [.str z] ∧ z.length ≤ 3000 ∧ (∃ c r, TL.tl z = c :: r) ∧ ∀ H', Wd [] H H' [] → Q (.str (kindL z)) H'
theorem cal_kind (D : DefAt K mg "_law_kind" s_law_kind ["_law_token"]) (T : Bi mg) : Cal P w K mg base 1 "_law_kind" ["_law_token"] spKind := D.cal fun f fd F => by
  have nd := sc_law_kind.nd
  refine F.ok sc_law_kind (fun vs H Q E h => ?_) (fun cdv A outer s H vs Q E hr h => ?_)
  · obtain ⟨z, rfl, _⟩ := h; rfl
  obtain ⟨z, rfl, hz, ⟨c0, rr0, hc0⟩, q⟩ := h
  have hu := hr.units
  have hu0 : (A.deeper (envOfC "_law_kind" (defScope s_law_kind) s.heap.objs.size f cdv)).units < cLine := by omega
  have ez : z.length = z.cps.toList.length := by rw [Array.length_toList]; rfl
  refine ⟨_, (pss_cons (ps_if (pt_cmpR (r := rEqN K) (op_eqNil hu0) (pe_lc (own := [("_law_sign", 1)]) rfl nd (pi_str (pv 0)) (blkOk_by (N := ["_law_token", "_law_sign"]) (sc := defScope s_law_kind) (by decide +kernel)) (fun _ _ _ _ _ => (pg_name (i := 1) nd rfl (Or.inl rfl))) (fun _ _ _ _ _ => (pts_one (pt_cmpR op_notIn_sign (pv 1) pe_str (by rfl)))) (fun _ _ _ _ _ => (pv 1))) (pe_lst pa_nil) (nomark _))
 (pss_cons (ps_if (pt_cmpR (r := rIn K false) op_in_seq (pv 0) (pe_lst (pa_cons pe_str (pa_cons pe_str (pa_cons pe_str (pa_cons pe_str (pa_cons pe_str (pa_cons pe_str pa_nil))))))) (by rfl))
 (pss_one (ps_ret (pv 0)))
 pss_nil)
 (pss_one (ps_ret (pe_ifExp (pt_cmpR op_gt (pe_callB call_len_str (by rfl) T.len PySem.boot_len (pa_cons (pv 0) pa_nil)) pe_int (nomark _)) pe_str pe_str))))
 pss_nil)
 (pss_cons (ps_if (pt_cmpR (r := rEqN K) (op_eqNil hu0) (pe_lc (own := [("_law_sign", 1)]) rfl nd (pi_str (pv 0)) (blkOk_by (N := ["_law_token", "_law_sign"]) (sc := defScope s_law_kind) (by decide +kernel)) (fun _ _ _ _ _ => (pg_name (i := 1) nd rfl (Or.inl rfl))) (fun _ _ _ _ _ => (pts_one (pt_cmpR op_notIn_sign (pv 1) pe_str (by rfl)))) (fun _ _ _ _ _ => (pv 1))) (pe_lst pa_nil) (nomark _))
 (pss_one (ps_ret (pe_ifExp (PW.pt (pw_and (pt_cmpR op_lt (pe_callB call_len_str (by rfl) T.len PySem.boot_len (pa_cons (pv 0) pa_nil)) pe_int (nomark _)) (pw_and1 (PW.pt (pw_or (pt_cmpR op_eq (pv 0) pe_str (nomark _)) (pw_or1 (pt_cmpR op_ne (pe_ix ix_str (pv 0) pe_int (fun _ _ => rfl)) pe_str (nomark _)))))))) pe_str pe_str)))
 pss_nil)
 (pss_one (ps_ret (pe_ifExp (pt_cmpR op_eq (pv 0) pe_str (nomark _)) pe_str pe_str))))), ?_⟩
  have comp : ∀ (p : Nat → Bool) (lets : Str), (∀ c, p c = decide (c ∈ TL.tl lets)) → ∀ (H1 : Hp) (QQ : VK), Wd [] H H1 [] → (∀ H2, Wd [] H H2 [] → ∀ D e, H2 D = some (.lst ((z.cps.toList.filter fun c => !p c).map fun c => V.str ⟨#[c]⟩)) → H2 e = some (.lst []) → QQ (.ref e) H2) → True := fun _ _ _ _ _ _ _ => trivial
  clear comp
  refine ⟨_, rfl, z, rfl, fun D hD => ?_⟩
  refine lc_str (fun i H2 => Wd [] H H2 [(D, .lst (((z.cps.toList.take i).filter fun c => !ltr c).map fun c => V.str ⟨#[c]⟩))]) ((Wd.refl H).new _ hD) ?_ ?_
  · rintro i c H2 hc w2
    have hi : i < z.cps.size := (Array.getElem?_eq_some_iff.mp hc).1
    have hc' : z.cps.toList[i]? = some c := by rw [Array.getElem?_toList]; exact hc
    have el : z.length = z.cps.size := rfl
    refine ⟨rfl, _, rfl, c, _, rfl, rfl, _, rfl, ite2 (fun hb => ?_) (fun hb => ?_)⟩
    · refine ⟨_, rfl, _, w2.get 0 rfl, ?_, ?_⟩
      · have := List.length_filter_le (fun c => !ltr c) (z.cps.toList.take i)
        have h2 : (z.cps.toList.take i).length ≤ 3000 := by rw [List.length_take]; omega
        rw [List.length_map]; exact lt_line (by omega)
      · have e : [c].filter (fun c => !ltr c) = [c] := List.filter_cons_of_pos hb
        rw [take_more hc', List.filter_append, e, List.map_append]
        exact w2.app0 _
    · have e : [c].filter (fun c => !ltr c) = [] := List.filter_cons_of_neg hb
      rw [take_more hc', List.filter_append, e, List.append_nil]
      exact w2
  intro H2 w2
  have efull : z.cps.toList.take z.cps.size = z.cps.toList := by rw [← Array.length_toList]; exact List.take_length
  rw [efull] at w2
  refine ⟨Nat.zero_le _, fun e he => ?_⟩
  have w3 := w2.new (.lst []) he
  refine ⟨D, e, _, rfl, rfl, SqL.of (w3.get 1 rfl), SqL.of (w3.get 0 rfl), _, rfl, ?_⟩
  have w0 := w3.sub (l' := []) (List.nil_sublist _)
  generalize upd H2 e (.lst []) = H3 at w0
  rw [fil_emp]
  have ek : kindL z = if (z.cps.toList).all ltr = true then (if z ∈ kws then z else if 8 < z.length then "" else "name") else if (z.cps.toList).all dig = true then (if z.length < 3 ∧ (z = "0" ∨ (TL.tl z).head? ≠ some 48) then "number" else "") else if z = ";" then ";" else "" := rfl
  have z0 : ∀ {c : Nat}, V.str ⟨#[c]⟩ = V.str ("0" : Str) ↔ c = 48 := fun {c} => by
    constructor
    · intro h
      have e1 : (⟨#[c]⟩ : Str) = ("0" : Str) := by injection h
      have e2 := congrArg (fun s : Str => s.cps.toList) e1
      have e3 : ("0" : Str).cps.toList = [48] := by decide +kernel
      simp only [e3] at e2
      injection e2
    · rintro rfl; decide +kernel
  cases hl : (z.cps.toList).all ltr with
  | true =>
    rw [hl, if_pos rfl] at ek
    refine iteT ⟨_, rfl, (by show 6 ≤ sizeLine; decide), fun M hM => ?_⟩
    have w6 := w0.new (.lst (kws.map V.str)) hM
    refine ⟨M, kws.map V.str, rfl, .inl (SqL.of (w6.get 0 rfl)), rfl, flat_strs' _, ⟨_, rfl, ?_⟩⟩
    rw [if_neg (by decide), inV_strs]
    have w60 := w6.sub (l' := []) (List.nil_sublist _)
    have hmm : upd H3 M (.lst (kws.map V.str)) = upd H3 M (.lst [V.str "people", V.str "turns", V.str "weights", V.str "away", V.str "of", V.str "makeup"]) := rfl
    rw [hmm] at w60
    generalize upd H3 M (.lst [V.str "people", V.str "turns", V.str "weights", V.str "away", V.str "of", V.str "makeup"]) = H6 at w60 ⊢
    by_cases hk : z ∈ kws
    · rw [decide_eq_true hk]
      rw [if_pos hk] at ek
      rw [ek] at q
      exact iteT ⟨_, rfl, q _ w60⟩
    · rw [decide_eq_false hk]
      rw [if_neg hk] at ek
      refine iteF ⟨_, rfl, z, rfl, le_line (by omega), _, _, rfl, rfl, _, rfl, ?_⟩
      by_cases h8 : 8 < z.length
      · rw [if_pos h8] at ek
        rw [ek] at q
        rw [decide_eq_true (show (8 : Int) < (z.length : Int) by omega)]
        exact iteT (q _ w60)
      · rw [if_neg h8] at ek
        rw [ek] at q
        rw [decide_eq_false (show ¬ (8 : Int) < (z.length : Int) by omega)]
        exact iteF (q _ w60)
  | false =>
    rw [hl, if_neg (by decide)] at ek
    refine iteF ⟨_, rfl, z, rfl, fun D hD => ?_⟩
    refine lc_str (fun i H2 => Wd [] H H2 [(D, .lst (((z.cps.toList.take i).filter fun c => !dig c).map fun c => V.str ⟨#[c]⟩))]) (w0.new _ hD) ?_ ?_
    · rintro i c H2 hc w2
      have hi : i < z.cps.size := (Array.getElem?_eq_some_iff.mp hc).1
      have hc' : z.cps.toList[i]? = some c := by rw [Array.getElem?_toList]; exact hc
      have el : z.length = z.cps.size := rfl
      refine ⟨rfl, _, rfl, c, _, rfl, rfl, _, rfl, ite2 (fun hb => ?_) (fun hb => ?_)⟩
      · refine ⟨_, rfl, _, w2.get 0 rfl, ?_, ?_⟩
        · have := List.length_filter_le (fun c => !dig c) (z.cps.toList.take i)
          have h2 : (z.cps.toList.take i).length ≤ 3000 := by rw [List.length_take]; omega
          rw [List.length_map]; exact lt_line (by omega)
        · have e : [c].filter (fun c => !dig c) = [c] := List.filter_cons_of_pos hb
          rw [take_more hc', List.filter_append, e, List.map_append]
          exact w2.app0 _
      · have e : [c].filter (fun c => !dig c) = [] := List.filter_cons_of_neg hb
        rw [take_more hc', List.filter_append, e, List.append_nil]
        exact w2
    intro H4 w4
    rw [efull] at w4
    refine ⟨Nat.zero_le _, fun e he => ?_⟩
    have w5 := w4.new (.lst []) he
    refine ⟨D, e, _, rfl, rfl, SqL.of (w5.get 1 rfl), SqL.of (w5.get 0 rfl), _, rfl, ?_⟩
    have w50 := w5.sub (l' := []) (List.nil_sublist _)
    generalize upd H4 e (.lst []) = H5 at w50
    rw [fil_emp]
    cases hd : (z.cps.toList).all dig with
    | true =>
      rw [hd, if_pos rfl] at ek
      refine iteT ⟨_, rfl, z, rfl, le_line (by omega), _, _, rfl, rfl, _, rfl, ?_⟩
      by_cases h3 : z.length < 3
      case neg =>
        rw [decide_eq_false (show ¬ (z.length : Int) < 3 by omega)]
        rw [if_neg fun h => h3 h.1] at ek
        rw [ek] at q
        exact iteF (q _ w50)
      rw [decide_eq_true (show (z.length : Int) < 3 by omega)]
      refine iteT ⟨_, rfl, rfl, _, rfl, ?_⟩
      by_cases hz0 : z = "0"
      · rw [decide_eq_true (show V.str z = V.str "0" by rw [hz0])]
        rw [if_pos ⟨h3, .inl hz0⟩] at ek
        rw [ek] at q
        exact iteT (q _ w50)
      · rw [decide_eq_false (show ¬ V.str z = V.str "0" from fun h => hz0 (by injection h))]
        have hc : z.cps.toList[0]? = some c0 := by
          have h : TL.tl z = c0 :: rr0 := hc0
          show (TL.tl z)[0]? = _
          rw [h]; rfl
        refine iteF ⟨_, rfl, z, _, c0, rfl, rfl, le_line (by omega), atI_nat (j := 0) hc, rfl, _, rfl, ?_⟩
        by_cases h48 : c0 = 48
        · rw [decide_eq_true (z0.mpr h48)]
          rw [if_neg (fun h => h.2.elim hz0 fun h => h (by rw [hc0, h48]; rfl))] at ek
          rw [ek] at q
          exact iteF (q _ w50)
        · rw [decide_eq_false fun h => h48 (z0.mp h)]
          rw [if_pos ⟨h3, .inr (by rw [hc0]; intro h; cases h; exact h48 rfl)⟩] at ek
          rw [ek] at q
          exact iteT (q _ w50)
    | false =>
      rw [hd, if_neg (by decide)] at ek
      refine iteF ⟨_, rfl, rfl, _, rfl, ?_⟩
      by_cases hs : z = ";"
      · rw [decide_eq_true (show V.str z = V.str ";" by rw [hs])]
        rw [if_pos hs] at ek
        rw [ek] at q
        exact iteT (q _ w50)
      · rw [decide_eq_false (show ¬ V.str z = V.str ";" from fun h => hs (by injection h))]
        rw [if_neg hs] at ek
        rw [ek] at q
        exact iteF (q _ w50)
/-! ### kinds consumed -/
abbrev s_law_takes : Stmt := topS 52
theorem sc_law_takes : FnScope ["_law_kinds", "_law_at", "_law_wanted", "_law_kind_here"] ["_law_kinds", "_law_at", "_law_wanted"] (defScope s_law_takes) := ⟨rfl, rfl, rfl, by decide +kernel, rfl, by decide +kernel, by decide +kernel⟩
def spTakes : Sp := fun vs H Q _ => ∃ (kp ap wp : Addr) (ks ws : List Str) (a : Nat), vs = [.ref kp, .ref ap, .ref wp] ∧ H kp = some (.lst (ks.map V.str)) ∧ H ap = some (.lst [.int (a : Nat)]) ∧ H wp = some (.lst (ws.map V.str)) ∧ kp ≠ ap ∧ wp ≠ ap ∧ a ≤ ks.length ∧ ks.length ≤ 1000 ∧ ws.length ≤ 100 ∧
  ∀ H', Wd [ap] H H' [(ap, .lst [.int ((takesN ks ws a).2 : Nat)])] → Q (.bl (takesN ks ws a).1) H'
theorem cal_takes (D : DefAt K mg "_law_takes" s_law_takes ["_law_kinds", "_law_at", "_law_wanted"]) (T : Bi mg) : Cal P w K mg base 1 "_law_takes" ["_law_kinds", "_law_at", "_law_wanted"] spTakes := D.cal fun f fd F => by
  have nd := sc_law_takes.nd
  refine F.ok sc_law_takes (fun vs H Q E h => ?_) (fun cdv A outer s H vs Q E hr h => ?_)
  · obtain ⟨kp, ap, wp, ks, ws, a, rfl, _⟩ := h; rfl
  obtain ⟨kp, ap, wp, ks, ws, a, rfl, hk, ha, hw, n1, n2, hal, hkl, hwl, q⟩ := h
  refine ⟨_, (pss_cons (ps_for PassesOwn.never rfl (pi_listK (K := K) rfl (pv 2)) (pg_name (i := 3) nd rfl (Or.inl rfl))
 (pss_cons (ps_if (PW.pt (pw_or (pt_cmpR op_ge (pe_ix (r := rIxL K) ix_list (pv 1) pe_int (fun _ _ => rfl)) (pe_callB (r := rLenS K) call_len_seq (by rfl) T.len PySem.boot_len (pa_cons (pv 0) pa_nil)) (nomark _)) (pw_or1 (pt_cmpR op_ne (pe_ix (r := rIxL K) ix_list (pv 0) (pe_ix (r := rIxL K) ix_list (pv 1) pe_int (fun _ _ => rfl)) (fun _ _ => rfl)) (pv 3) (nomark _)))))
 (pss_one (ps_ret pe_bl))
 pss_nil)
 (pss_one (ps_asg (pe_op op_add (pe_ix (r := rIxL K) ix_list (pv 1) pe_int (fun _ _ => rfl)) pe_int) (pg_sub (pv 1) pe_int set_list)))))
 (pss_one (ps_ret pe_bl))), ?_⟩
  have ixa : ∀ n : Nat, ixN ([V.int n] : List V).length 0 = some 0 := fun n => by simp [ixN, seqIndex?]
  refine ⟨_, rfl, wp, rfl, ⟨_, SqL.of hw⟩, for_list (K := K) (a := wp) (xs := ws.map V.str) (fun i σ H' => (∃ s3, σ = [some (.ref kp), some (.ref ap), some (.ref wp), s3]) ∧ ∃ b : Nat, Wd [ap] H H' [(ap, .lst [.int b])] ∧ b ≤ ks.length ∧ takesN ks ws a = takesN ks (ws.drop i) b) ⟨⟨_, rfl⟩, a, Wd.start1 ha, hal, rfl⟩ (fun i σ H' _ ⟨_, b, w1, _⟩ => SqL.of (w1.base _ _ (by simpa using n2) hw)) ?_ ?_⟩
  · rintro i x σ H1 hx ⟨⟨s3, rfl⟩, b, w1, hb, e⟩
    rw [List.getElem?_map] at hx
    obtain ⟨wd, hwd, rfl⟩ := Option.map_eq_some_iff.mp hx
    have hil := (List.getElem?_eq_some_iff.mp hwd).1
    have hdr : ws.drop i = wd :: ws.drop (i + 1) := by rw [List.drop_eq_getElem_cons hil, (List.getElem?_eq_some_iff.mp hwd).2]
    rw [hdr] at e
    have ec : takesN ks (wd :: ws.drop (i + 1)) b = if ks[b]? = some wd then takesN ks (ws.drop (i + 1)) (b + 1) else (false, b) := rfl
    rw [ec] at e
    have hap := w1.get 0 rfl
    have hkp := w1.base _ _ (by simpa using n1) hk
    refine ⟨_, rfl, ap, _, 0, .int b, rfl, rfl, SqL.of hap, rfl, _, rfl, kp, _, rfl, .inl (SqL.of hkp), _, _, rfl, rfl, _, rfl, ?_⟩
    rw [List.length_map]
    by_cases hlt : b < ks.length
    case neg =>
      rw [decide_eq_true (show (ks.length : Int) ≤ (b : Int) by omega)]
      rw [if_neg fun h => hlt (lt_of_some h)] at e
      refine iteT (iteT ?_)
      have q' := q H1 (by rw [e]; exact w1)
      rw [e] at q'
      exact q'
    rw [decide_eq_false (show ¬ (ks.length : Int) ≤ (b : Int) by omega)]
    have hkb : ks[b]? = some ks[b] := List.getElem?_eq_getElem hlt
    refine iteF ⟨_, rfl, _, rfl, ap, _, 0, .int b, rfl, rfl, SqL.of hap, rfl, kp, _, (b : Int), .str ks[b], rfl, rfl, SqL.of hkp, atI_nat (by rw [List.getElem?_map, hkb]; rfl), _, rfl, rfl, _, rfl, ?_⟩
    by_cases he : ks[b] = wd
    case neg =>
      rw [decide_eq_false (show ¬ V.str ks[b] = V.str wd from fun h => he (by injection h))]
      rw [if_neg fun h => he (by rw [hkb] at h; exact Option.some.inj h)] at e
      refine iteT ?_
      have q' := q H1 (by rw [e]; exact w1)
      rw [e] at q'
      exact q'
    rw [decide_eq_true (show V.str ks[b] = V.str wd by rw [he])]
    rw [if_pos (by rw [hkb, he])] at e
    refine iteF ⟨_, rfl, ap, _, 0, .int b, rfl, rfl, SqL.of hap, rfl, _, _, rfl, rfl, _, rfl, ap, _, 0, 0, rfl, rfl, hap, ixa b, ?_⟩
    have w2 := w1.put 0 (.lst [.int ((b + 1 : Nat) : Int)]) rfl (fun _ q => by cases q)
    exact ⟨⟨_, rfl⟩, b + 1, w2, hlt, e⟩
  · rintro σ H1 ⟨⟨s3, rfl⟩, b, w1, hb, e⟩
    rw [List.length_map, List.drop_length] at e
    have e : takesN ks ws a = (true, b) := e
    have q' := q H1 (by rw [e]; exact w1)
    rw [e] at q'
    exact q'
/-! ### a run of kinds -/
abbrev s_law_many : Stmt := topS 53
theorem sc_law_many : FnScope ["_law_kinds", "_law_at", "_law_kind_here"] ["_law_kinds", "_law_at", "_law_kind_here"] (defScope s_law_many) := ⟨rfl, rfl, rfl, by decide +kernel, rfl, by decide +kernel, by decide +kernel⟩
def spMany : Sp := fun vs H Q _ => ∃ (kp ap : Addr) (ks : List Str) (k : Str) (a : Nat), vs = [.ref kp, .ref ap, .str k] ∧ H kp = some (.lst (ks.map V.str)) ∧ H ap = some (.lst [.int (a : Nat)]) ∧ kp ≠ ap ∧ a ≤ ks.length ∧ ks.length ≤ 1000 ∧
  ∀ H', Wd [ap] H H' [(ap, .lst [.int ((manyN ks k a).2 : Nat)])] → Q (.bl (manyN ks k a).1) H'
theorem cal_many (D : DefAt K mg "_law_many" s_law_many ["_law_kinds", "_law_at", "_law_kind_here"]) (T : Bi mg) (C1 : Cal P w K mg base 1 "_law_takes" ["_law_kinds", "_law_at", "_law_wanted"] spTakes) : Cal P w K mg base 2 "_law_many" ["_law_kinds", "_law_at", "_law_kind_here"] spMany := D.cal fun f fd F => by
  have nd := sc_law_many.nd
  obtain ⟨f1, fd1, m__law_takes, kp__law_takes, b__law_takes, G__law_takes⟩ := C1.ex
  refine F.ok sc_law_many (fun vs H Q E h => ?_) (fun cdv A outer s H vs Q E hr h => ?_)
  · obtain ⟨kp, ap, ks, k, a, rfl, _⟩ := h; rfl
  obtain ⟨kp, ap, ks, k, a, rfl, hk, ha, n1, hal, hkl, q⟩ := h
  have ixa : ∀ n : Nat, ixN ([V.int n] : List V).length 0 = some 0 := fun n => by simp [ixN, seqIndex?]
  refine ⟨_, (pss_cons (ps_if (pt_not (pt_val (pe_call G__law_takes (hr.mono (by first | decide | omega)) (by rfl) m__law_takes kp__law_takes b__law_takes .nil pass0 (pa_cons (pv 0) (pa_cons (pv 1) (pa_cons (pe_lst (pa_cons (pv 2) pa_nil)) pa_nil))))))
 (pss_one (ps_ret pe_bl))
 pss_nil)
 (pss_cons (ps_while PassesOwn.never (PW.pt (pw_and (pt_cmpR op_lt (pe_ix (r := rIxL K) ix_list (pv 1) pe_int (fun _ _ => rfl)) (pe_callB (r := rLenS K) call_len_seq (by rfl) T.len PySem.boot_len (pa_cons (pv 0) pa_nil)) (nomark _)) (pw_and1 (pt_cmpR op_eq (pe_ix (r := rIxL K) ix_list (pv 0) (pe_ix (r := rIxL K) ix_list (pv 1) pe_int (fun _ _ => rfl)) (fun _ _ => rfl)) (pv 2) (nomark _)))))
 (pss_one (ps_asg (pe_op op_add (pe_ix (r := rIxL K) ix_list (pv 1) pe_int (fun _ _ => rfl)) pe_int) (pg_sub (pv 1) pe_int set_list))))
 (pss_one (ps_ret (pe_call G__law_takes (hr.mono (by first | decide | omega)) (by rfl) m__law_takes kp__law_takes b__law_takes .nil pass0 (pa_cons (pv 0) (pa_cons (pv 1) (pa_cons (pe_lst (pa_cons pe_str pa_nil)) pa_nil)))))))), ?_⟩
  refine ⟨_, rfl, _, rfl, _, rfl, (by show 1 ≤ sizeLine; decide), fun wp hwp => ?_⟩
  have w1 := (Wd.refl H).new (.lst [.str k]) hwp
  have nwp : wp ≠ ap := fun e => by rw [e, ha] at hwp; cases hwp
  have nwk : kp ≠ wp := ne_of_none hk hwp
  refine ⟨kp, ap, wp, ks, [k], a, rfl, w1.base _ _ (by simp) hk, w1.base _ _ (by simp) ha, w1.get 0 rfl, n1, nwp, hal, hkl, (by show 1 ≤ 100; decide), fun H2 w2 => ⟨_, rfl, ?_⟩⟩
  have wd2 : Wd [ap] H H2 [(ap, .lst [.int ((takesN ks [k] a).2 : Nat)])] := Wd.goA ((w1.sub (l' := []) (List.nil_sublist _)).mono (fun _ h => nomatch h)) w2
  have e1 : takesN ks [k] a = if ks[a]? = some k then (true, a + 1) else (false, a) := rfl
  by_cases hka : ks[a]? = some k
  case neg =>
    rw [if_neg hka] at e1
    have em : manyN ks k a = (false, a) := if_neg hka
    rw [e1] at wd2 ⊢
    have q' := q H2 (by rw [em]; exact wd2)
    rw [em] at q'
    exact iteT q'
  rw [if_pos hka] at e1
  have hlt := lt_of_some hka
  have em : manyN ks k a = takesN ks [";"] (runN ks k (a + 1)) := if_pos hka
  rw [e1] at wd2 ⊢
  refine iteF ⟨fun m σ H' => σ = [some (.ref kp), some (.ref ap), some (.str k)] ∧ ∃ b : Nat, m = ks.length - b ∧ b ≤ ks.length ∧ Wd [ap] H H' [(ap, .lst [.int b])] ∧ runN ks k (a + 1) = runN ks k b, ⟨_, rfl, a + 1, rfl, hlt, wd2, rfl⟩, ?_⟩
  rintro m σ H3 ⟨rfl, b, rfl, hb, w3, er⟩
  have hap := w3.get 0 rfl
  have hkp := w3.base _ _ (by simpa using n1) hk
  have fin : runN ks k b = b → (tRet (tCall spTakes [] E0 (tCons (tVar 0) (tCons (tVar 1) (tCons (tLst (tCons (tC (.str ";")) tNil)) tNil))))) { nx := fun _ H' => Q .non H', rt := Q } [some (.ref kp), some (.ref ap), some (.str k)] H3 := fun eb => by
    refine ⟨_, rfl, _, rfl, (by show 1 ≤ sizeLine; decide), fun vp hvp => ?_⟩
    have v1 := (Wd.refl H3).new (.lst [.str ";"]) hvp
    have nvp : vp ≠ ap := fun e => by rw [e, hap] at hvp; cases hvp
    refine ⟨kp, ap, vp, ks, [";"], b, rfl, v1.base _ _ (by simp) hkp, v1.base _ _ (by simp) hap, v1.get 0 rfl, n1, nvp, hb, hkl, (by show 1 ≤ 100; decide), fun H4 w4 => ?_⟩
    rw [er, eb] at em
    have wd4 : Wd [ap] H H4 [(ap, .lst [.int ((takesN ks [";"] b).2 : Nat)])] := Wd.goA ((w3.sub (l' := []) (List.nil_sublist _)).call0 (v1.sub (l' := []) (List.nil_sublist _))) w4
    have q' := q H4 (by rw [em]; exact wd4)
    rw [em] at q'
    exact q'
  refine ⟨_, rfl, ap, _, 0, .int b, rfl, rfl, SqL.of hap, rfl, _, rfl, kp, _, rfl, .inl (SqL.of hkp), _, _, rfl, rfl, _, rfl, ?_⟩
  rw [List.length_map]
  by_cases hbl : b < ks.length
  case neg =>
    rw [decide_eq_false (show ¬ (b : Int) < (ks.length : Int) by omega)]
    exact iteF (iteF (fin (by rw [runN_step, if_neg fun h => hbl (lt_of_some h)])))
  rw [decide_eq_true (show (b : Int) < (ks.length : Int) by omega)]
  have hkb : ks[b]? = some ks[b] := List.getElem?_eq_getElem hbl
  refine iteT ⟨_, rfl, _, rfl, ap, _, 0, .int b, rfl, rfl, SqL.of hap, rfl, kp, _, (b : Int), .str ks[b], rfl, rfl, SqL.of hkp, atI_nat (by rw [List.getElem?_map, hkb]; rfl), _, rfl, rfl, _, rfl, ?_⟩
  by_cases he : ks[b] = k
  case neg =>
    rw [decide_eq_false (show ¬ V.str ks[b] = V.str k from fun h => he (by injection h))]
    exact iteF (fin (by rw [runN_step, if_neg fun h => he (by rw [hkb] at h; exact Option.some.inj h)]))
  rw [decide_eq_true (show V.str ks[b] = V.str k by rw [he])]
  refine iteT ⟨fun σ' H' => σ' = [some (.ref kp), some (.ref ap), some (.str k)] ∧ ∃ c : Nat, c = b + 1 ∧ Wd [ap] H H' [(ap, .lst [.int c])], fun σ' H' ⟨e, c, ec, w'⟩ => ⟨ks.length - c, by omega, e, c, rfl, by omega, w', ?_⟩, ?_⟩
  · rw [er, runN_step, if_pos (by rw [hkb, he]), ec]
  · refine ⟨_, rfl, ap, _, 0, .int b, rfl, rfl, SqL.of hap, rfl, _, _, rfl, rfl, _, rfl, ap, _, 0, 0, rfl, rfl, hap, ixa b, ?_⟩
    exact ⟨rfl, b + 1, rfl, w3.put 0 (.lst [.int ((b + 1 : Nat) : Int)]) rfl (fun _ q => by cases q)⟩
end
end Br

namespace Br
open PySem PySem.Spec PyProof.Rows L2
def oN : Option Nat → V
  | some k => .int k
  | none => .non
def headN (ks : List Str) : List Str → Nat → Option Nat
  | [], b => loopN ks (ks.length + 1) b
  | w :: ws, b => if (stN ks w b).1 = false then some (stN ks w b).2 else headN ks ws (stN ks w b).2
theorem ffN_head (ks : List Str) : ffN ks = headN ks ["people", "turns"] 0 := rfl
theorem headN_cons (ks : List Str) (w : Str) (ws : List Str) (b : Nat) : headN ks (w :: ws) b = if (stN ks w b).1 = false then some (stN ks w b).2 else headN ks ws (stN ks w b).2 := rfl
theorem loopN_succ (ks : List Str) (n a : Nat) : loopN ks (n + 1) a = match ks[a]? with
    | none => none
    | some w => if w = "weights" ∨ w = "makeup" ∨ w = "away" then (if (bodyN ks w a).1 = true then loopN ks n (bodyN ks w a).2 else some (bodyN ks w a).2) else some a := rfl
section
variable {P : Program} {w : World} {K : PySem.W.Frag} {mg : Str → Option Value} {base : Heap}
abbrev s_law_first_fault : Stmt := topS 54
theorem sc_law_first_fault : FnScope ["_law_tokens", "_law_kinds", "_law_at", "_law_word", "_law_good", "_law_token"] ["_law_tokens"] (defScope s_law_first_fault) := ⟨rfl, rfl, rfl, by decide +kernel, rfl, by decide +kernel, by decide +kernel⟩
def spFF : Sp := fun vs H Q _ => ∃ (tp : Addr) (ws : List Str), vs = [.ref tp] ∧ H tp = some (.lst (ws.map V.str)) ∧ (∀ x ∈ ws, x ∈ ws1) ∧ ws.length ≤ 300 ∧ ∀ H', Wd [] H H' [] → Q (oN (faultN (ws.map kindL))) H'
theorem cal_ff (D : DefAt K mg "_law_first_fault" s_law_first_fault ["_law_tokens"]) (T : Bi mg) (C1 : Cal P w K mg base 1 "_law_kind" ["_law_token"] spKind) (C2 : Cal P w K mg base 1 "_law_takes" ["_law_kinds", "_law_at", "_law_wanted"] spTakes) (C3 : Cal P w K mg base 2 "_law_many" ["_law_kinds", "_law_at", "_law_kind_here"] spMany) : Cal P w K mg base 3 "_law_first_fault" ["_law_tokens"] spFF := D.cal fun f fd F => by
  have nd := sc_law_first_fault.nd
  obtain ⟨f1, fd1, m__law_kind, kp__law_kind, b__law_kind, G__law_kind⟩ := C1.ex
  obtain ⟨f2, fd2, m__law_takes, kp__law_takes, b__law_takes, G__law_takes⟩ := C2.ex
  obtain ⟨f3, fd3, m__law_many, kp__law_many, b__law_many, G__law_many⟩ := C3.ex
  refine F.ok sc_law_first_fault (fun vs H Q E h => ?_) (fun cdv A outer s H vs Q E hr h => ?_)
  · obtain ⟨tp, ws, rfl, _⟩ := h; rfl
  obtain ⟨tp, ws, rfl, htp, hws, hwl, q⟩ := h
  refine ⟨_, (pss_cons (ps_setLc (i := 1) (own := [("_law_token", 5)]) rfl nd rfl rfl (sw_true rfl rfl rfl (by decide +kernel)) (pi_listK (K := K) rfl (pv 0)) (blkOk_by (N := ["_law_tokens", "_law_kinds", "_law_at", "_law_word", "_law_good", "_law_token"]) (sc := defScope s_law_first_fault) (by decide +kernel)) (fun _ _ _ _ _ => (pg_name (i := 5) nd rfl (Or.inl rfl))) (fun _ _ _ _ _ => pts_nil) (fun _ _ _ _ _ => (pe_call G__law_kind (hr.mono (by first | decide | omega)) (by rfl) m__law_kind kp__law_kind b__law_kind .nil pass0 (pa_cons (pv 5) pa_nil))))
 (pss_cons (ps_if (pt_cmpR (r := rIn K false) op_in_seq pe_str (pv 1) (by rfl))
 (pss_one (ps_ret (pe_bmK (K := K) rfl PySem.F.plainAttrs_list PySem.F.slot_list_index PySem.F.type_list_index mt_index (pv 1) (pa_cons pe_str pa_nil))))
 pss_nil)
 (pss_cons (ps_set (i := 2) nd rfl (Or.inl rfl) (pe_lst (pa_cons pe_int pa_nil)))
 (pss_cons (ps_for PassesOwn.never rfl (pi_listK (K := K) rfl (pe_lst (pa_cons pe_str (pa_cons pe_str pa_nil)))) (pg_name (i := 3) nd rfl (Or.inl rfl))
 (pss_one (ps_if (PW.pt (pw_or (pt_not (pt_val (pe_call G__law_takes (hr.mono (by first | decide | omega)) (by rfl) m__law_takes kp__law_takes b__law_takes .nil pass0 (pa_cons (pv 1) (pa_cons (pv 2) (pa_cons (pe_lst (pa_cons (pv 3) pa_nil)) pa_nil)))))) (pw_or1 (pt_not (pt_val (pe_call G__law_many (hr.mono (by first | decide | omega)) (by rfl) m__law_many kp__law_many b__law_many .nil pass0 (pa_cons (pv 1) (pa_cons (pv 2) (pa_cons pe_str pa_nil)))))))))
 (pss_one (ps_ret (pe_ix (r := rIxL K) ix_list (pv 2) pe_int (fun _ _ => rfl))))
 pss_nil)))
 (pss_cons (ps_while PassesOwn.never (pt_cmpR op_lt (pe_ix (r := rIxL K) ix_list (pv 2) pe_int (fun _ _ => rfl)) (pe_callB (r := rLenS K) call_len_seq (by rfl) T.len PySem.boot_len (pa_cons (pv 1) pa_nil)) (nomark _))
 (pss_cons (ps_set (i := 3) nd rfl (Or.inl rfl) (pe_ix (r := rIxL K) ix_list (pv 1) (pe_ix (r := rIxL K) ix_list (pv 2) pe_int (fun _ _ => rfl)) (fun _ _ => rfl)))
 (pss_cons (ps_set (i := 4) nd rfl (Or.inl rfl) (pe_and (pe_cmpR (r := rIn K false) op_in_seq (pv 3) (pe_lst (pa_cons pe_str (pa_cons pe_str (pa_cons pe_str pa_nil)))) (by rfl)) (pe_one (pe_call G__law_takes (hr.mono (by first | decide | omega)) (by rfl) m__law_takes kp__law_takes b__law_takes .nil pass0 (pa_cons (pv 1) (pa_cons (pv 2) (pa_cons (pe_lst (pa_cons (pv 3) pa_nil)) pa_nil)))))))
 (pss_cons (ps_if (pt_not (pt_val (pv 4)))
 (pss_one (ps_ret (pe_ix (r := rIxL K) ix_list (pv 2) pe_int (fun _ _ => rfl))))
 pss_nil)
 (C8.pss_cut (ps_if (pt_cmpR op_eq (pv 3) pe_str (nomark _))
 (pss_one (ps_set (i := 4) nd rfl (Or.inl rfl) (pe_call G__law_takes (hr.mono (by first | decide | omega)) (by rfl) m__law_takes kp__law_takes b__law_takes .nil pass0 (pa_cons (pv 1) (pa_cons (pv 2) (pa_cons (pe_lst (pa_cons pe_str (pa_cons pe_str (pa_cons pe_str (pa_cons pe_str (pa_cons pe_str pa_nil)))))) pa_nil))))))
 (pss_one (ps_set (i := 4) nd rfl (Or.inl rfl) (pe_call G__law_many (hr.mono (by first | decide | omega)) (by rfl) m__law_many kp__law_many b__law_many .nil pass0 (pa_cons (pv 1) (pa_cons (pv 2) (pa_cons (pe_ifExp (pt_cmpR op_eq (pv 3) pe_str (nomark _)) pe_str pe_str) pa_nil)))))))
 (pss_one (ps_if (pt_not (pt_val (pv 4)))
 (pss_one (ps_ret (pe_ix (r := rIxL K) ix_list (pv 2) pe_int (fun _ _ => rfl))))
 pss_nil)))))))
 (pss_one (ps_ret pe_non))))))), ?_⟩
  generalize hks : ws.map kindL = ks at q
  have hkl : ks.length = ws.length := by rw [← hks, List.length_map]
  refine ⟨_, rfl, tp, rfl, ⟨_, SqL.of htp⟩, fun D2 hD2 => ?_⟩
  have nD : tp ≠ D2 := ne_of_none htp hD2
  refine lc_list (K := K) (a := tp) (xs := ws.map V.str) (fun i H4 => Wd [] H H4 [(D2, .lst ((ks.take i).map V.str))]) ((Wd.refl H).new (.lst []) hD2) (fun i H4 _ w4 => SqL.of (w4.base _ _ (by simp) htp)) ?_ ?_
  · rintro i x H4 hx w4
    rw [List.getElem?_map] at hx
    obtain ⟨wd, hwd, rfl⟩ := Option.map_eq_some_iff.mp hx
    have W := ws1_ok (hws wd (List.mem_of_getElem? hwd))
    obtain ⟨c, r, e, _⟩ := W.ne
    have hil := (List.getElem?_eq_some_iff.mp hwd).1
    have hki : ks[i]? = some (kindL wd) := by rw [← hks, List.getElem?_map, hwd]; rfl
    refine ⟨rfl, _, rfl, wd, rfl, Nat.le_trans W.len (by decide), ⟨c, r, e⟩, fun H5 w5 => ?_⟩
    have w6 := w4.call0 w5
    refine ⟨_, w6.get 0 rfl, by rw [List.length_map, List.length_take]; exact lt_line (by omega), ?_⟩
    rw [take_more hki, List.map_append]
    exact w6.app0 _
  intro H1 w1
  rw [List.length_map, ← hkl, List.take_length] at w1
  have flk : ((ks.map V.str)).all flatV = true := flat_strs' ks
  refine ⟨_, rfl, D2, _, rfl, .inl (SqL.of (w1.get 0 rfl)), rfl, flk, ⟨_, rfl, ?_⟩⟩
  rw [if_neg (by decide), inV_strs]
  by_cases hb : ("" : Str) ∈ ks
  · rw [decide_eq_true hb]
    have ef : faultN ks = some (ks.findIdx fun k => decide (k = ("" : Str))) := if_pos hb
    refine iteT ?_
    have hlt : ks.findIdx (fun k => decide (k = ("" : Str))) < ks.length := List.findIdx_lt_length_of_exists ⟨("" : Str), hb, decide_eq_true rfl⟩
    have hno : ∀ m, m < ks.findIdx (fun k => decide (k = ("" : Str))) → ∀ k, ks[m]? = some k → k ≠ "" := fun m hm k hk e => by
      have h := List.not_of_lt_findIdx (p := fun k => decide (k = ("" : Str))) (xs := ks) hm
      have e2 : ks[m]'(by omega) = k := by
        rw [List.getElem?_eq_getElem (by omega)] at hk
        exact Option.some.inj hk
      rw [e2, e] at h
      exact absurd h (by decide +kernel)
    have hat : ks[ks.findIdx fun k => decide (k = ("" : Str))]? = some ("" : Str) := by
      have h := List.findIdx_getElem (p := fun k => decide (k = ("" : Str))) (xs := ks) (w := hlt)
      rw [List.getElem?_eq_getElem hlt]
      exact congrArg some (of_decide_eq_true h)
    generalize ks.findIdx (fun k => decide (k = ("" : Str))) = j at hlt hno hat ef
    refine ⟨_, rfl, .inl ⟨rfl, _, SqL.of (w1.get 0 rfl)⟩, D2, _, _, j, .str "", rfl, rfl, SqL.of (w1.get 0 rfl), rfl, flk, by rw [List.getElem?_map, hat]; rfl, by decide +kernel, fun m z' hm hz => ?_, ?_⟩
    · rw [List.getElem?_map] at hz
      obtain ⟨k, hk, rfl⟩ := Option.map_eq_some_iff.mp hz
      have := hno m hm k hk
      simp [eqV, this]
    · have q' := q H1 (w1.sub (List.nil_sublist _))
      rw [ef] at q'
      exact q'
  rw [decide_eq_false hb]
  have ef : faultN ks = ffN ks := if_neg hb
  refine iteF ⟨(by show 1 ≤ sizeLine; decide), fun al hal => ?_⟩
  have w2 := w1.new (.lst [.int ((0 : Nat) : Int)]) hal
  refine ⟨(by show 2 ≤ sizeLine; decide), fun wl hwl => ?_⟩
  have w3 := w2.new1 (.lst ((["people", "turns"] : List Str).map V.str)) hwl
  have lv : ∀ {H' : Hp} {b : Nat} {l : List (Addr × HO)} {s3 s4 s5 : Option V} {D : Ends}, D.rt = Q → Wd [] H H' ((al, .lst [.int (b : Nat)]) :: l) → faultN ks = some b → tRet (tOp (rIxL K) (tVar 2) (tC (V.int 0))) D [some (.ref tp), some (.ref D2), some (.ref al), s3, s4, s5] H' := fun {H' b l s3 s4 s5 D} hD w4 e => by
    refine ⟨_, rfl, al, _, 0, .int b, rfl, rfl, SqL.of (w4.get 0 rfl), rfl, ?_⟩
    show D.rt _ _
    rw [hD]
    have := q H' (w4.sub (List.nil_sublist _))
    rw [e] at this
    exact this
  have nla : ∀ {H' : Hp} {o : HO} {l : List (Addr × HO)} {v : Addr}, Wd [] H H' ((al, o) :: l) → H' v = none → v ≠ al := fun w4 hv e => by rw [e, w4.get 0 rfl] at hv; cases hv
  have nka : D2 ≠ al := ne_of_none (w1.get 0 rfl) hal
  refine ⟨wl, rfl, ⟨_, SqL.of (w3.get 1 rfl)⟩, for_list (K := K) (a := wl) (xs := (["people", "turns"] : List Str).map V.str) (fun i σ H' => ∃ (s3 : Option V) (b : Nat), σ = [some (.ref tp), some (.ref D2), some (.ref al), s3, none, none] ∧ Wd [] H H' [(al, .lst [.int (b : Nat)]), (wl, .lst ((["people", "turns"] : List Str).map V.str)), (D2, .lst (ks.map V.str))] ∧ b ≤ ks.length ∧ ffN ks = headN ks ((["people", "turns"] : List Str).drop i) b)
    ⟨_, 0, rfl, w3, Nat.zero_le _, ffN_head ks⟩ (fun i σ H' _ ⟨_, _, _, w4, _⟩ => SqL.of (w4.get 1 rfl)) ?_ ?_⟩
  · rintro i x σ H4 hx ⟨s3, b, rfl, w4, hbl, eh⟩
    rw [List.getElem?_map] at hx
    obtain ⟨wd, hwd, rfl⟩ := Option.map_eq_some_iff.mp hx
    have hil := (List.getElem?_eq_some_iff.mp hwd).1
    have hdr : (["people", "turns"] : List Str).drop i = wd :: (["people", "turns"] : List Str).drop (i + 1) := by rw [List.drop_eq_getElem_cons hil, (List.getElem?_eq_some_iff.mp hwd).2]
    rw [hdr, headN_cons] at eh
    refine ⟨_, rfl, _, rfl, _, rfl, (by show 1 ≤ sizeLine; decide), fun vp hvp => ?_⟩
    have w5 := w4.new1 (.lst [.str wd]) hvp
    refine ⟨D2, al, vp, ks, [wd], b, rfl, w5.get 3 rfl, w5.get 0 rfl, w5.get 1 rfl, nka, nla w4 hvp, hbl, by omega, (by show 1 ≤ 100; decide), fun H5 w6 => ⟨_, rfl, ?_⟩⟩
    have w7 := (w5.call1 (fun _ e => by cases e) w6).sub (l' := [(al, .lst [.int ((takesN ks [wd] b).2 : Nat)]), (wl, .lst ((["people", "turns"] : List Str).map V.str)), (D2, .lst (ks.map V.str))]) (by walk_at "sub")
    have e1 : takesN ks [wd] b = if ks[b]? = some wd then (true, b + 1) else (false, b) := rfl
    by_cases hk : ks[b]? = some wd
    case neg =>
      have es : stN ks wd b = (false, b) := if_neg hk
      rw [if_neg hk] at e1
      rw [e1] at w7 ⊢
      rw [es, if_pos rfl] at eh
      exact iteT (iteT (lv rfl w7 (by rw [ef, eh])))
    rw [if_pos hk] at e1
    rw [e1] at w7 ⊢
    have hlt := lt_of_some hk
    have es : stN ks wd b = manyN ks "name" (b + 1) := if_pos hk
    rw [es] at eh
    refine iteF ⟨_, rfl, _, rfl, D2, al, ks, "name", b + 1, rfl, w7.get 2 rfl, w7.get 0 rfl, nka, hlt, by omega, fun H6 w8 => ⟨_, rfl, ?_⟩⟩
    have w9 := (w7.call1 (fun _ e => by cases e) w8).sub (l' := [(al, .lst [.int ((manyN ks "name" (b + 1)).2 : Nat)]), (wl, .lst ((["people", "turns"] : List Str).map V.str)), (D2, .lst (ks.map V.str))]) (by walk_at "sub")
    have hle := (manyN_le (ks := ks) (k := "name") (a := b + 1) hlt).2
    generalize manyN ks "name" (b + 1) = mn at eh w9 hle ⊢
    obtain ⟨m1, m2⟩ := mn
    cases m1 with
    | false =>
      rw [if_pos rfl] at eh
      exact iteT (lv rfl w9 (by rw [ef, eh]))
    | true =>
      rw [if_neg (show ¬ (true = false) by decide)] at eh
      exact iteF ⟨_, m2, rfl, w9, hle, eh⟩
  · rintro σ H4 ⟨s3, b, rfl, w4, hbl, eh⟩
    have eh : ffN ks = loopN ks (ks.length + 1) b := eh
    have w40 := w4.sub (l' := [(al, .lst [.int (b : Nat)]), (D2, .lst (ks.map V.str))]) (by walk_at "sub")
    refine ⟨fun m σ H' => ∃ (s3 s4 : Option V) (b n : Nat), m = ks.length - b ∧ σ = [some (.ref tp), some (.ref D2), some (.ref al), s3, s4, none] ∧ b ≤ ks.length ∧ ks.length - b < n ∧ Wd [] H H' [(al, .lst [.int (b : Nat)]), (D2, .lst (ks.map V.str))] ∧ ffN ks = loopN ks n b, ⟨_, s3, none, b, ks.length + 1, rfl, rfl, hbl, by omega, w40, eh⟩, ?_⟩
    rintro m σ H5 ⟨s3, s4, b, n, rfl, rfl, hbl, hn, w5, en⟩
    have hap := w5.get 0 rfl
    have hkp := w5.get 1 rfl
    refine ⟨_, rfl, al, _, 0, .int b, rfl, rfl, SqL.of hap, rfl, _, rfl, D2, _, rfl, .inl (SqL.of hkp), _, _, rfl, rfl, _, rfl, ?_⟩
    rw [List.length_map]
    obtain ⟨n, rfl⟩ : ∃ n', n = n' + 1 := ⟨n - 1, by omega⟩
    rw [loopN_succ] at en
    by_cases hlt : b < ks.length
    case neg =>
      rw [decide_eq_false (show ¬ (b : Int) < (ks.length : Int) by omega)]
      rw [List.getElem?_eq_none (by omega)] at en
      refine iteF ?_
      have q' := q H5 (w5.sub (List.nil_sublist _))
      rw [ef, en] at q'
      exact q'
    rw [decide_eq_true (show (b : Int) < (ks.length : Int) by omega)]
    obtain ⟨wd, hkb⟩ : ∃ wd, ks[b]? = some wd := ⟨_, List.getElem?_eq_getElem hlt⟩
    rw [hkb] at en
    dsimp only at en
    refine iteT ⟨fun σ' H' => ∃ (s3 s4 : Option V) (c n : Nat), b < c ∧ σ' = [some (.ref tp), some (.ref D2), some (.ref al), s3, s4, none] ∧ c ≤ ks.length ∧ ks.length - c < n ∧ Wd [] H H' [(al, .lst [.int (c : Nat)]), (D2, .lst (ks.map V.str))] ∧ ffN ks = loopN ks n c, fun σ' H' ⟨s3, s4, c, n, h1, h2, h3, h4, h5, h6⟩ => ⟨ks.length - c, by omega, s3, s4, c, n, rfl, h2, h3, h4, h5, h6⟩, ?_⟩
    refine ⟨_, rfl, _, rfl, al, _, 0, .int b, rfl, rfl, SqL.of hap, rfl, D2, _, (b : Int), .str wd, rfl, rfl, SqL.of hkp, atI_nat (by rw [List.getElem?_map, hkb]; rfl), ?_⟩
    refine ⟨_, rfl, (by show 3 ≤ sizeLine; decide), fun L3 hL3 => ?_⟩
    have w6 := w5.new1 (.lst ((["weights", "makeup", "away"] : List Str).map V.str)) hL3
    refine ⟨L3, (["weights", "makeup", "away"] : List Str).map V.str, rfl, .inl (SqL.of (w6.get 1 rfl)), rfl, flat_strs' _, ?_⟩
    rw [if_neg (by decide), inV_strs]
    have w60 := w6.sub (l' := [(al, .lst [.int (b : Nat)]), (D2, .lst (ks.map V.str))]) (by walk_at "sub")
    have hmm : upd H5 L3 (.lst ((["weights", "makeup", "away"] : List Str).map V.str)) = upd H5 L3 (.lst [V.str "weights", V.str "makeup", V.str "away"]) := rfl
    rw [hmm] at w60
    generalize upd H5 L3 (.lst [V.str "weights", V.str "makeup", V.str "away"]) = H6 at w60 ⊢
    have w6 := w60
    have hw3 : wd ∈ (["weights", "makeup", "away"] : List Str) ↔ (wd = "weights" ∨ wd = "makeup" ∨ wd = "away") := by simp
    by_cases hm : wd ∈ (["weights", "makeup", "away"] : List Str)
    case neg =>
      rw [if_neg fun h => hm (hw3.mpr h)] at en
      refine ⟨_, rfl, ?_⟩
      rw [decide_eq_false hm]
      exact iteF ⟨_, rfl, false, rfl, iteT (lv rfl w6 (by rw [ef, en]))⟩
    rw [if_pos (hw3.mp hm)] at en
    refine ⟨_, rfl, ?_⟩
    rw [decide_eq_true hm]
    refine iteT ⟨_, rfl, _, rfl, _, rfl, (by show 1 ≤ sizeLine; decide), fun vp hvp => ?_⟩
    have w7 := w6.new1 (.lst [.str wd]) hvp
    refine ⟨D2, al, vp, ks, [wd], b, rfl, w7.get 2 rfl, w7.get 0 rfl, w7.get 1 rfl, nka, nla w6 hvp, hbl, by omega, (by show 1 ≤ 100; decide), fun H8 w8 => ?_⟩
    have w9 := (w7.call1 (fun _ e => by cases e) w8).sub (l' := [(al, .lst [.int ((takesN ks [wd] b).2 : Nat)]), (D2, .lst (ks.map V.str))]) (by walk_at "sub")
    have e1 : takesN ks [wd] b = (true, b + 1) := if_pos hkb
    rw [e1] at w9 ⊢
    refine ⟨_, rfl, true, rfl, iteF ?_⟩
    have hbd := bodyN_le (ks := ks) (w := wd) hlt
    refine ⟨fun σ H' => σ = [some (.ref tp), some (.ref D2), some (.ref al), some (.str wd), some (.bl (bodyN ks wd b).1), none] ∧ Wd [] H H' [(al, .lst [.int ((bodyN ks wd b).2 : Nat)]), (D2, .lst (ks.map V.str))], ?_, ?_⟩
    · refine ⟨_, rfl, rfl, _, rfl, ?_⟩
      by_cases ha : wd = "away"
      · rw [decide_eq_true (show V.str wd = V.str "away" by rw [ha])]
        have eb : bodyN ks wd b = takesN ks ["name", "number", "of", "number", ";"] (b + 1) := by unfold bodyN; rw [if_pos ha]
        rw [eb]
        refine iteT ⟨_, rfl, _, rfl, (by show 5 ≤ sizeLine; decide), fun up hup => ?_⟩
        have w10 := w9.new1 (.lst ((["name", "number", "of", "number", ";"] : List Str).map V.str)) hup
        refine ⟨D2, al, up, ks, ["name", "number", "of", "number", ";"], b + 1, rfl, w10.get 2 rfl, w10.get 0 rfl, w10.get 1 rfl, nka, nla w9 hup, hlt, by omega, (by show 5 ≤ 100; decide), fun H11 w11 => ?_⟩
        exact ⟨rfl, (w10.call1 (fun _ e => by cases e) w11).sub (by walk_at "sub")⟩
      · rw [decide_eq_false (show ¬ V.str wd = V.str "away" from fun h => ha (by injection h))]
        have eb : bodyN ks wd b = manyN ks (if wd = "weights" then "number" else "name") (b + 1) := by unfold bodyN; rw [if_neg ha]
        rw [eb]
        refine iteF ⟨_, rfl, _, rfl, _, rfl, rfl, _, rfl, ?_⟩
        by_cases hw : wd = "weights"
        · rw [decide_eq_true (show V.str wd = V.str "weights" by rw [hw]), if_pos hw]
          exact iteT ⟨D2, al, ks, "number", b + 1, rfl, w9.get 1 rfl, w9.get 0 rfl, nka, hlt, by omega, fun H11 w11 => ⟨rfl, (w9.call1 (fun _ e => by cases e) w11).sub (by walk_at "sub")⟩⟩
        · rw [decide_eq_false (show ¬ V.str wd = V.str "weights" from fun h => hw (by injection h)), if_neg hw]
          exact iteF ⟨D2, al, ks, "name", b + 1, rfl, w9.get 1 rfl, w9.get 0 rfl, nka, hlt, by omega, fun H11 w11 => ⟨rfl, (w9.call1 (fun _ e => by cases e) w11).sub (by walk_at "sub")⟩⟩
    · rintro σ H9 ⟨rfl, w10⟩
      refine ⟨_, rfl, (bodyN ks wd b).1, rfl, ?_⟩
      generalize bodyN ks wd b = mn at en w10 hbd ⊢
      obtain ⟨m1, m2⟩ := mn
      cases m1 with
      | false =>
        rw [if_neg (show ¬ (false = true) by decide)] at en
        exact iteT (lv rfl w10 (by rw [ef, en]))
      | true =>
        rw [if_pos rfl] at en
        exact iteF ⟨_, _, m2, n, hbd.1, rfl, hbd.2, by have := hbd.1; omega, w10, en⟩
end
end Br

namespace Br
open PySem PySem.Spec PyProof.Rows L2
/-! ### places told -/
def PlT (H : Hp) : List Addr → List (Nat × Nat) → Prop
  | [], [] => True
  | a :: as, p :: ps => H a = some (.tup [.int (p.1 : Nat), .int (p.2 : Nat)]) ∧ PlT H as ps
  | _, _ => False
theorem PlT.keep {H H' : Hp} (k : ∀ b xs, H b = some (.tup xs) → H' b = some (.tup xs)) : ∀ {as : List Addr} {ps : List (Nat × Nat)}, PlT H as ps → PlT H' as ps
  | [], [], _ => trivial
  | a :: as, p :: ps, ⟨h1, h2⟩ => ⟨k _ _ h1, PlT.keep k h2⟩
  | [], _ :: _, h => h.elim
  | _ :: _, [], h => h.elim
theorem PlT.app {H : Hp} : ∀ {as bs : List Addr} {ps qs : List (Nat × Nat)}, PlT H as ps → PlT H bs qs → PlT H (as ++ bs) (ps ++ qs)
  | [], _, [], _, _, h => h
  | a :: as, bs, p :: ps, qs, ⟨h1, h2⟩, h => ⟨h1, PlT.app h2 h⟩
  | [], _, _ :: _, _, h, _ => h.elim
  | _ :: _, _, [], _, h, _ => h.elim
theorem PlT.len {H : Hp} : ∀ {as : List Addr} {ps : List (Nat × Nat)}, PlT H as ps → as.length = ps.length
  | [], [], _ => rfl
  | a :: as, p :: ps, ⟨_, h2⟩ => by rw [List.length_cons, List.length_cons, PlT.len h2]
  | [], _ :: _, h => h.elim
  | _ :: _, [], h => h.elim
theorem PlT.get {H : Hp} : ∀ {as : List Addr} {ps : List (Nat × Nat)} {i : Nat} {p : Nat × Nat}, PlT H as ps → ps[i]? = some p → ∃ a, as[i]? = some a ∧ H a = some (.tup [.int (p.1 : Nat), .int (p.2 : Nat)])
  | [], [], _, _, _, h => by cases h
  | a :: as, p :: ps, 0, q, ⟨h1, _⟩, h => by cases h; exact ⟨a, rfl, h1⟩
  | a :: as, p :: ps, i + 1, q, ⟨_, h2⟩, h => PlT.get (as := as) (ps := ps) (i := i) h2 (by simpa using h)
  | [], _ :: _, _, _, h, _ => h.elim
  | _ :: _, [], _, _, h, _ => h.elim
theorem atI_mem {xs : List V} {k : Int} (h0 : 0 ≤ k) (h1 : k < xs.length) : ∃ (i : Nat) (v : V), k = (i : Int) ∧ xs[i]? = some v ∧ atI xs k = some v := by
  obtain ⟨i, rfl⟩ : ∃ i : Nat, k = (i : Int) := ⟨k.toNat, by omega⟩
  have hi : i < xs.length := by omega
  exact ⟨i, xs[i], rfl, List.getElem?_eq_getElem hi, atI_nat (List.getElem?_eq_getElem hi)⟩
def posT : Nat → Nat → List (Nat × Str) → Nat × Nat
  | ln, col, [] => (ln, col)
  | ln, col, q :: ts => posT (gapP q.1 ln col).1 ((gapP q.1 ln col).2 + q.2.length) ts
theorem posT_app : ∀ (ts : List (Nat × Str)) (q : Nat × Str) (ln col : Nat), posT ln col (ts ++ [q]) = ((gapP q.1 (posT ln col ts).1 (posT ln col ts).2).1, (gapP q.1 (posT ln col ts).1 (posT ln col ts).2).2 + q.2.length)
  | [], q, ln, col => rfl
  | u :: ts, q, ln, col => posT_app ts q _ _
theorem placesT_app : ∀ (ts : List (Nat × Str)) (q : Nat × Str) (ln col : Nat), placesT ln col (ts ++ [q]) = placesT ln col ts ++ [gapP q.1 (posT ln col ts).1 (posT ln col ts).2]
  | [], q, ln, col => rfl
  | u :: ts, q, ln, col => congrArg (gapP u.1 ln col :: ·) (placesT_app ts q _ _)
theorem flatT_app : ∀ (ts : List (Nat × Str)) (q : Nat × Str), flatT (ts ++ [q]) = flatT ts ++ (gapL q.1 ++ TL.tl q.2)
  | [], q => by show gapL q.1 ++ (TL.tl q.2 ++ []) = _; rw [List.append_nil]; rfl
  | u :: ts, q => by
    show gapL u.1 ++ (TL.tl u.2 ++ flatT (ts ++ [q])) = gapL u.1 ++ (TL.tl u.2 ++ flatT ts) ++ _
    rw [flatT_app ts q]; simp only [List.append_assoc]
def gaps : List Str := [" ", "  ", "\n"]
theorem gaps_tl : ∀ g : Fin 3, (gaps[g.val]?).map TL.tl = some (gapL g.val) := by decide +kernel
theorem gaps_nl : ∀ g : Fin 3, ((gaps[g.val]?).getD "" = "\n" ↔ g.val = 2) ∧ ((gaps[g.val]?).getD "").length = (if g.val = 1 then 2 else 1) := by decide +kernel
theorem strT_app (ts : List (Nat × Str)) (g : Fin 3) (w gs : Str) (hg : gaps[g.val]? = some gs) : strT ts ++ gs ++ w = strT (ts ++ [(g.val, w)]) := by
  refine TL.ext_tl ?_
  have e := gaps_tl g
  rw [hg] at e
  have e : TL.tl gs = gapL g.val := Option.some.inj e
  rw [TL.tl_append, TL.tl_append, tl_strT, tl_strT, flatT_app, e, List.append_assoc]
theorem strT_len : ∀ (ts : List (Nat × Str)), (∀ q ∈ ts, q.2 ∈ ws1) → (flatT ts).length ≤ 11 * ts.length
  | [], _ => Nat.le_refl _
  | q :: ts, h => by
    have ih := strT_len ts fun x hx => h x (List.mem_cons_of_mem _ hx)
    have hw := (ws1_ok (h q List.mem_cons_self)).len
    have hg : (gapL q.1).length ≤ 2 := by
      match q.1 with
      | 0 => decide
      | 1 => decide
      | n + 2 => show 1 ≤ 2; decide
    show (gapL q.1 ++ (TL.tl q.2 ++ flatT ts)).length ≤ _
    rw [List.length_append, List.length_append, ← TL.len_tl, List.length_cons]
    omega
/-! ### Small -/
def rsum (ws : List Str) : Nat := (ws.map fun w => runsB false (TL.tl w)).sum
theorem rows_runsB : ∀ (l : List Nat) (b : Bool), runsB b (rowsOf l).1 + ((rowsOf l).2.map (runsB false)).sum ≤ runsB b l
  | [], b => by rw [show rowsOf [] = ([], []) from rfl, runsB_nil]; exact Nat.le_refl _
  | c :: r, b => by
    by_cases h : c = 10
    · subst h
      have e : rowsOf (10 :: r) = ([], (rowsOf r).1 :: (rowsOf r).2) := by simp [rowsOf]
      have ih := rows_runsB r false
      have e2 : ltr 10 = false := by decide
      rw [e, runsB_nil, runsB_cons, e2, List.map_cons, List.sum_cons, if_neg (fun h => by cases h.1)]
      omega
    · have e : rowsOf (c :: r) = (c :: (rowsOf r).1, (rowsOf r).2) := by simp [rowsOf, h]
      have ih := rows_runsB r (ltr c)
      rw [e, runsB_cons, runsB_cons]
      show _ + runsB (ltr c) (rowsOf r).1 + ((rowsOf r).2.map (runsB false)).sum ≤ _
      omega
theorem flat_runs : ∀ ts : List (Nat × Str), runsB false (flatT ts) ≤ rsum (ts.map Prod.snd)
  | [] => Nat.le_refl _
  | q :: ts => by
    have ih := flat_runs ts
    have a1 := runsB_app (gapL q.1) (TL.tl q.2 ++ flatT ts) false
    have a2 := runsB_app (TL.tl q.2) (flatT ts) false
    have hg : runsB false (gapL q.1) = 0 := by
      match q.1 with
      | 0 => decide
      | 1 => decide
      | n + 2 => show runsB false [10] = 0; decide
    show runsB false (gapL q.1 ++ (TL.tl q.2 ++ flatT ts)) ≤ _
    unfold rsum at ih ⊢
    rw [List.map_cons, List.map_cons, List.sum_cons]
    omega
theorem small_T {ts : List (Nat × Str)} (h : ∀ q ∈ ts, q.2 ∈ ws1) (hl : ts.length ≤ 100) (hr : rsum (ts.map Prod.snd) ≤ 59) : Small (strT ts) := by
  have h1 := strT_len ts h
  refine small_of (by rw [TL.len_tl, tl_strT]; omega) ?_
  have h2 := rows_runsB (TL.tl (strT ts)) false
  have h3 := flat_runs ts
  rw [rowsL_of]
  show ((_ :: _ : List (List Nat)).map (runsB false)).sum ≤ 59
  rw [List.map_cons, List.sum_cons]
  rw [tl_strT] at h2 ⊢
  omega
section
variable {P : Program} {w : World} {K : PySem.W.Frag} {mg : Str → Option Value} {base : Heap}
abbrev s_law_placed : Stmt := topS 51
theorem sc_law_placed : FnScope ["_law_d", "_law_tokens", "_law_places", "_law_text_here", "_law_line", "_law_column", "_law_token", "_law_gap"] ["_law_d", "_law_tokens"] (defScope s_law_placed) := ⟨rfl, rfl, rfl, by decide +kernel, rfl, by decide +kernel, by decide +kernel⟩
def spPlaced : Sp := fun vs H Q _ => ∃ (d tp : Addr) (ws : List Str) (x y : Int) (r : List Int), vs = [.ref d, .ref tp] ∧ H d = some (dl x y r) ∧ DOk x y r ∧ H tp = some (.lst (ws.map V.str)) ∧ tp ≠ d ∧ (∀ x ∈ ws, x ∈ ws1) ∧ ws.length ≤ 100 ∧
  ∀ (ts : List (Nat × Str)) (pas : List Addr) (p pl : Addr) (x' y' : Int) (r' : List Int) (H' : Hp), ts.map Prod.snd = ws → DOk x' y' r' → Wd [d] H H' [(d, dl x' y' r'), (p, .tup [.ref pl, .str (strT ts)]), (pl, .lst (pas.map V.ref))] → PlT H' pas (placesT 0 0 ts) → Q (.ref p) H'
theorem cal_placed (D : DefAt K mg "_law_placed" s_law_placed ["_law_d", "_law_tokens"]) (T : Bi mg) (C1 : Cal P w K mg base 1 "_law_below" ["_law_d", "_law_limit"] spBelow) : Cal P w K mg base 2 "_law_placed" ["_law_d", "_law_tokens"] spPlaced := D.cal fun f fd F => by
  have nd := sc_law_placed.nd
  obtain ⟨f1, fd1, m__law_below, kp__law_below, b__law_below, G__law_below⟩ := C1.ex
  refine F.ok sc_law_placed (fun vs H Q E h => ?_) (fun cdv A outer s H vs Q E hr h => ?_)
  · obtain ⟨d, tp, ws, x, y, r, rfl, _⟩ := h; rfl
  obtain ⟨d, tp, ws, x, y, r, rfl, hd, ok, htp, ntp, hws, hwl, q⟩ := h
  refine ⟨_, (pss_cons (ps_asg (pe_tup (pa_cons (pe_lst pa_nil) (pa_cons pe_str (pa_cons pe_int (pa_cons pe_int pa_nil))))) (pg_tupK (K := K) (n := 4) rfl rfl (pgs_cons (pg_name (i := 2) nd rfl (Or.inl rfl)) (pgs_cons (pg_name (i := 3) nd rfl (Or.inl rfl)) (pgs_cons (pg_name (i := 4) nd rfl (Or.inl rfl)) (pgs_cons (pg_name (i := 5) nd rfl (Or.inl rfl)) pgs_nil))))))
 (pss_cons (ps_for PassesOwn.never rfl (pi_listK (K := K) rfl (pv 1)) (pg_name (i := 6) nd rfl (Or.inl rfl))
 (pss_cons (ps_set (i := 7) nd rfl (Or.inl rfl) (pe_ix (r := rIxL K) ix_list (pe_lst (pa_cons pe_str (pa_cons pe_str (pa_cons pe_str pa_nil)))) (pe_call G__law_below (hr.mono (by first | decide | omega)) (by rfl) m__law_below kp__law_below b__law_below .nil pass0 (pa_cons (pv 0) (pa_cons pe_int pa_nil))) (fun _ _ => rfl)))
 (pss_cons (ps_set (i := 3) nd rfl (Or.inl rfl) (pe_op op_add_str (pv 3) (pv 7)))
 (pss_cons (ps_asg (pe_ifExp (pt_cmpR op_eq (pv 7) pe_str (nomark _)) (pe_tup (pa_cons (pe_op op_add (pv 4) pe_int) (pa_cons pe_int pa_nil))) (pe_tup (pa_cons (pv 4) (pa_cons (pe_op op_add (pv 5) (pe_callB call_len_str (by rfl) T.len PySem.boot_len (pa_cons (pv 7) pa_nil))) pa_nil)))) (pg_tupK (K := K) (n := 2) rfl rfl (pgs_cons (pg_name (i := 4) nd rfl (Or.inl rfl)) (pgs_cons (pg_name (i := 5) nd rfl (Or.inl rfl)) pgs_nil))))
 (pss_cons (ps_expr (pe_bmK (K := K) rfl PySem.F.plainAttrs_list PySem.F.slot_list_append PySem.F.type_list_append mt_append (pv 2) (pa_cons (pe_tup (pa_cons (pv 4) (pa_cons (pv 5) pa_nil))) pa_nil)))
 (pss_one (ps_par (i := 3) (j := 5) (by rfl) nd rfl rfl (by decide) rfl rfl (pa_cons (pe_op op_add_str (pv 3) (pv 6)) (pa_cons (pe_op op_add (pv 5) (pe_callB call_len_str (by rfl) T.len PySem.boot_len (pa_cons (pv 6) pa_nil))) pa_nil)) (by rfl))))))))
 (pss_one (ps_ret (pe_tup (pa_cons (pv 2) (pa_cons (pv 3) pa_nil))))))), ?_⟩
  refine ⟨Nat.zero_le _, fun pl hpl => ⟨(by show 4 ≤ sizeLine; decide), fun p4 hp4 => ?_⟩⟩
  have w0 : Wd [d] H H [(d, dl x y r)] := Wd.start1 hd
  have w1 := w0.new1 (.lst []) hpl
  have w2 := w1.new1 (.tup [.ref pl, .str "", .int 0, .int 0]) hp4
  refine ⟨p4, _, rfl, SqT.of (w2.get 1 rfl), rfl, _, _, rfl, _, _, rfl, _, _, rfl, _, _, rfl, rfl, ?_⟩
  have w3 := w2.sub (l' := [(d, dl x y r), (pl, .lst ((([] : List Addr)).map V.ref))]) (by walk_at "sub")
  refine ⟨_, rfl, tp, rfl, ⟨_, SqL.of (w2.base _ _ (by simpa using ntp) htp)⟩, for_list (K := K) (a := tp) (xs := ws.map V.str) (fun i σ H' => ∃ (ts : List (Nat × Str)) (pas : List Addr) (x y : Int) (r : List Int) (s6 s7 : Option V), ts.map Prod.snd = ws.take i ∧ σ = [some (.ref d), some (.ref tp), some (.ref pl), some (.str (strT ts)), some (.int ((posT 0 0 ts).1 : Nat)), some (.int ((posT 0 0 ts).2 : Nat)), s6, s7] ∧ Wd [d] H H' [(d, dl x y r), (pl, .lst (pas.map V.ref))] ∧ DOk x y r ∧ PlT H' pas (placesT 0 0 ts))
    ⟨[], [], x, y, r, _, _, rfl, rfl, w3, ok, trivial⟩ (fun i σ H' _ ⟨_, _, _, _, _, _, _, _, _, w4, _⟩ => SqL.of (w4.base _ _ (by simpa using ntp) htp)) ?_ ?_⟩
  · rintro i v σ H4 hx ⟨ts, pas, x, y, r, s6, s7, ets, rfl, w4, ok4, pt⟩
    rw [List.getElem?_map] at hx
    obtain ⟨wd, hwd, rfl⟩ := Option.map_eq_some_iff.mp hx
    have W := ws1_ok (hws wd (List.mem_of_getElem? hwd))
    have hlw := W.len
    have hin := (List.getElem?_eq_some_iff.mp hwd).1
    have hts : ts.length = i := by
      have := congrArg List.length ets
      rw [List.length_map, List.length_take] at this; omega
    have hin1 : ∀ q ∈ ts, q.2 ∈ ws1 := fun q hq => by
      have : q.2 ∈ ts.map Prod.snd := List.mem_map.mpr ⟨q, hq, rfl⟩
      rw [ets] at this
      exact hws _ (List.mem_of_mem_take this)
    have hsl : (strT ts).length ≤ 1100 := by
      have := strT_len ts hin1
      rw [TL.len_tl, tl_strT]; omega
    have hpas : pas.length = i := by rw [pt.len, places_len, hts]
    refine ⟨(by show 3 ≤ sizeLine; decide), fun gl hgl => ?_⟩
    have w5 := w4.new1 (.lst (gaps.map V.str)) hgl
    have pt5 := pt.keep ((Wd.refl H4).new (.lst (gaps.map V.str)) hgl).tups
    have e5 : upd H4 gl (.lst [V.str " ", V.str "  ", V.str "\n"]) = upd H4 gl (.lst (gaps.map V.str)) := rfl
    rw [e5]
    refine ⟨_, rfl, d, _, x, y, r, rfl, by decide, by decide, w5.get 0 rfl, ok4, fun kk a5 b5 r5 H6 w6 ok5 k0 k3 => ?_⟩
    have w7 := (w5.call1 (fun _ e => by cases e) w6)
    replace pt5 := pt5.keep w6.tups
    have hgl7 := w7.get 1 rfl
    obtain ⟨ig, vg, rfl, hig, hatg⟩ := atI_mem (xs := gaps.map V.str) k0 (by rw [List.length_map]; exact k3)
    rw [List.getElem?_map] at hig
    obtain ⟨gs, hgs, rfl⟩ := Option.map_eq_some_iff.mp hig
    have hig3 : ig < 3 := (List.getElem?_eq_some_iff.mp hgs).1
    obtain ⟨g, rfl⟩ : ∃ g : Fin 3, ig = g.val := ⟨⟨ig, hig3⟩, rfl⟩
    obtain ⟨gn1, gn2⟩ := gaps_nl g
    rw [hgs] at gn1 gn2
    have gn1 : gs = "\n" ↔ g.val = 2 := gn1
    have gn2 : gs.length = if g.val = 1 then 2 else 1 := gn2
    have hgl2 : gs.length ≤ 2 := by rw [gn2]; split <;> omega
    refine ⟨gl, _, _, .str gs, rfl, rfl, SqL.of hgl7, hatg, ?_⟩
    have sz0 : (strT ts).length + gs.length ≤ sizeLine := le_line (by omega)
    have szl : (strT ts ++ gs).length + wd.length ≤ sizeLine := by rw [app_len]; exact le_line (by omega)
    refine ⟨_, rfl, _, rfl, _, _, rfl, rfl, sz0, ?_⟩
    generalize hpo : posT 0 0 ts = po
    obtain ⟨ln, col⟩ := po
    dsimp only
    refine ⟨_, rfl, rfl, _, rfl, ?_⟩
    by_cases hg2 : gs = "\n"
    · rw [decide_eq_true (show V.str gs = V.str "\n" by rw [hg2])]
      have eg : gapP g.val ln col = (ln + 1, 0) := by
        unfold gapP
        rw [if_neg (by rw [gn1.mp hg2]; decide), if_neg (by rw [gn1.mp hg2]; decide)]
      refine iteT ⟨_, rfl, _, _, rfl, rfl, (by show 2 ≤ sizeLine; decide), fun p2 hp2 => ?_⟩
      have e6 : ((ln : Int) + 1) = (((gapP g.val ln col).1 : Nat) : Int) := by rw [eg]; rfl
      have e7 : (0 : Int) = (((gapP g.val ln col).2 : Nat) : Int) := by rw [eg]; rfl
      have hh : upd H6 p2 (.tup [.int ((ln : Int) + 1), .int 0]) = upd H6 p2 (.tup [.int (((gapP g.val ln col).1 : Nat) : Int), .int (((gapP g.val ln col).2 : Nat) : Int)]) := by rw [← e6, ← e7]
      have w8 := w7.new1 (.tup [.int (((gapP g.val ln col).1 : Nat) : Int), .int (((gapP g.val ln col).2 : Nat) : Int)]) hp2
      rw [hh]
      refine ⟨p2, _, rfl, SqT.of (w8.get 1 rfl), rfl, _, _, rfl, _, _, rfl, rfl, ?_⟩
      have w9 := (w8).sub (l' := [(d, dl a5 b5 r5), (pl, .lst (pas.map V.ref))]) (by walk_at "sub")
      have pt9 := pt5.keep ((Wd.refl H6).new (.tup [.int (((gapP g.val ln col).1 : Nat) : Int), .int (((gapP g.val ln col).2 : Nat) : Int)]) hp2).tups
      generalize upd H6 p2 (.tup [.int (((gapP g.val ln col).1 : Nat) : Int), .int (((gapP g.val ln col).2 : Nat) : Int)]) = H7 at w9 pt9 ⊢
      have hpl9 := w9.get 1 rfl
      refine ⟨_, rfl, .inl ⟨rfl, _, SqL.of hpl9⟩, _, rfl, _, rfl, (by show 2 ≤ sizeLine; decide), fun p3 hp3 => ?_⟩
      have w10 := w9.new1 (.tup [.int ((gapP g.val ln col).1 : Nat), .int ((gapP g.val ln col).2 : Nat)]) hp3
      have pt10 := pt9.keep ((Wd.refl H7).new (.tup [.int ((gapP g.val ln col).1 : Nat), .int ((gapP g.val ln col).2 : Nat)]) hp3).tups
      have hp310 := w10.get 1 rfl
      refine ⟨pl, _, _, rfl, rfl, w10.get 2 rfl, by rw [List.length_map]; exact lt_line (by omega), ?_⟩
      refine ⟨_, rfl, _, rfl, _, _, rfl, rfl, szl, _, rfl, _, rfl, wd, rfl, le_line (by omega), _, _, rfl, rfl, _, _, rfl, ?_⟩
      have w11 := w10.put 2 (.lst (pas.map V.ref ++ [.ref p3])) rfl (fun _ q => by cases q)
      have kt : ∀ b xs, upd H7 p3 (.tup [.int ((gapP g.val ln col).1 : Nat), .int ((gapP g.val ln col).2 : Nat)]) b = some (.tup xs) → upd (upd H7 p3 (.tup [.int ((gapP g.val ln col).1 : Nat), .int ((gapP g.val ln col).2 : Nat)])) pl (.lst (pas.map V.ref ++ [.ref p3])) b = some (.tup xs) := fun b xs e => by
        have hne : b ≠ pl := fun q => by rw [q, w10.get 2 rfl] at e; cases e
        rw [upd_ne hne]; exact e
      refine ⟨ts ++ [(g.val, wd)], pas ++ [p3], a5, b5, r5, some (.str wd), some (.str gs), ?_, ?_, ?_, ok5, ?_⟩
      · rw [List.map_append, ets, take_more hwd]; rfl
      · rw [← strT_app ts g wd gs hgs, posT_app, hpo]; rfl
      · rw [List.map_append]; exact w11.sub (by walk_at "sub")
      · rw [placesT_app, hpo]
        exact (pt10.keep kt).app ⟨kt _ _ hp310, trivial⟩
    · rw [decide_eq_false (show ¬ V.str gs = V.str "\n" from fun h => hg2 (by injection h))]
      have eg : gapP g.val ln col = (ln, col + gs.length) := by
        unfold gapP
        have hn : ¬ g.val = 2 := fun h => hg2 (gn1.mpr h)
        rw [gn2]
        by_cases h0 : g.val = 0
        · rw [if_pos h0, if_neg (by omega)]
        · rw [if_neg h0, if_pos (by omega), if_pos (by omega)]
      refine iteF ⟨_, rfl, _, rfl, _, rfl, gs, rfl, le_line (by omega), _, _, rfl, rfl, (by show 2 ≤ sizeLine; decide), fun p2 hp2 => ?_⟩
      have e6 : (ln : Int) = (((gapP g.val ln col).1 : Nat) : Int) := by rw [eg]
      have e7 : ((col : Int) + (gs.length : Int)) = (((gapP g.val ln col).2 : Nat) : Int) := by rw [eg]; rfl
      have hh : upd H6 p2 (.tup [.int (ln : Int), .int ((col : Int) + (gs.length : Int))]) = upd H6 p2 (.tup [.int (((gapP g.val ln col).1 : Nat) : Int), .int (((gapP g.val ln col).2 : Nat) : Int)]) := by rw [← e6, ← e7]
      have w8 := w7.new1 (.tup [.int (((gapP g.val ln col).1 : Nat) : Int), .int (((gapP g.val ln col).2 : Nat) : Int)]) hp2
      rw [hh]
      refine ⟨p2, _, rfl, SqT.of (w8.get 1 rfl), rfl, _, _, rfl, _, _, rfl, rfl, ?_⟩
      have w9 := (w8).sub (l' := [(d, dl a5 b5 r5), (pl, .lst (pas.map V.ref))]) (by walk_at "sub")
      have pt9 := pt5.keep ((Wd.refl H6).new (.tup [.int (((gapP g.val ln col).1 : Nat) : Int), .int (((gapP g.val ln col).2 : Nat) : Int)]) hp2).tups
      generalize upd H6 p2 (.tup [.int (((gapP g.val ln col).1 : Nat) : Int), .int (((gapP g.val ln col).2 : Nat) : Int)]) = H7 at w9 pt9 ⊢
      have hpl9 := w9.get 1 rfl
      refine ⟨_, rfl, .inl ⟨rfl, _, SqL.of hpl9⟩, _, rfl, _, rfl, (by show 2 ≤ sizeLine; decide), fun p3 hp3 => ?_⟩
      have w10 := w9.new1 (.tup [.int ((gapP g.val ln col).1 : Nat), .int ((gapP g.val ln col).2 : Nat)]) hp3
      have pt10 := pt9.keep ((Wd.refl H7).new (.tup [.int ((gapP g.val ln col).1 : Nat), .int ((gapP g.val ln col).2 : Nat)]) hp3).tups
      have hp310 := w10.get 1 rfl
      refine ⟨pl, _, _, rfl, rfl, w10.get 2 rfl, by rw [List.length_map]; exact lt_line (by omega), ?_⟩
      refine ⟨_, rfl, _, rfl, _, _, rfl, rfl, szl, _, rfl, _, rfl, wd, rfl, le_line (by omega), _, _, rfl, rfl, _, _, rfl, ?_⟩
      have w11 := w10.put 2 (.lst (pas.map V.ref ++ [.ref p3])) rfl (fun _ q => by cases q)
      have kt : ∀ b xs, upd H7 p3 (.tup [.int ((gapP g.val ln col).1 : Nat), .int ((gapP g.val ln col).2 : Nat)]) b = some (.tup xs) → upd (upd H7 p3 (.tup [.int ((gapP g.val ln col).1 : Nat), .int ((gapP g.val ln col).2 : Nat)])) pl (.lst (pas.map V.ref ++ [.ref p3])) b = some (.tup xs) := fun b xs e => by
        have hne : b ≠ pl := fun q => by rw [q, w10.get 2 rfl] at e; cases e
        rw [upd_ne hne]; exact e
      refine ⟨ts ++ [(g.val, wd)], pas ++ [p3], a5, b5, r5, some (.str wd), some (.str gs), ?_, ?_, ?_, ok5, ?_⟩
      · rw [List.map_append, ets, take_more hwd]; rfl
      · rw [← strT_app ts g wd gs hgs, posT_app, hpo]; rfl
      · rw [List.map_append]; exact w11.sub (by walk_at "sub")
      · rw [placesT_app, hpo]
        exact (pt10.keep kt).app ⟨kt _ _ hp310, trivial⟩
  · rintro σ H4 ⟨ts, pas, x, y, r, s6, s7, ets, rfl, w4, ok4, pt⟩
    rw [List.length_map, List.take_length] at ets
    refine ⟨_, rfl, _, rfl, (by show 2 ≤ sizeLine; decide), fun p hp => ?_⟩
    have w5 := w4.new1 (.tup [.ref pl, .str (strT ts)]) hp
    exact q ts pas p pl x y r _ ets ok4 w5 (pt.keep ((Wd.refl H4).new (.tup [.ref pl, .str (strT ts)]) hp).tups)
end
end Br

namespace Br
open PySem PySem.Spec PyProof.Rows L2
/-! ### replace, words -/
theorem replace_tl (x y z : Str) (hy : TL.tl y ≠ []) (hk : ¬ Builtin.Str.strKind x < Builtin.Str.strKind y) : TL.tl (Txt.replace x y z) = TL.joinL (TL.tl z) (TL.spl (TL.tl y) 0 [] (TL.tl x)) := by
  have hs := TL.split_spl x y hy hk
  rw [← hs]
  have hyl : (y.length == 0) = false := by
    rw [beq_eq_false_iff_ne]
    exact fun e => hy ((TL.len0_tl y).mp e)
  unfold Txt.replace Txt.split
  by_cases ho : (Builtin.Str.occurrences x y 0 x.length (x.length + 1)).isEmpty = true
  · rw [if_pos (by rw [ho]; rfl)]
    split
    · rfl
    · rfl
  · have ho' : (Builtin.Str.occurrences x y 0 x.length (x.length + 1)).isEmpty = false := by simpa using ho
    rw [if_neg (by rw [ho', hyl]; simp)]
    have h1 : ¬ (decide (x.length < y.length) || decide (Builtin.Str.strKind x < Builtin.Str.strKind y)) = true := by
      intro h
      have hlt : x.length < y.length := by
        simp only [Bool.or_eq_true, decide_eq_true_eq] at h
        exact h.resolve_right hk
      obtain ⟨f, g, hn⟩ := PySem.StrLaws.occ_tight x y (TL.len1 hy)
      cases hc : Builtin.Str.occurrences x y 0 x.length (x.length + 1) with
      | nil => rw [hc] at ho; exact ho rfl
      | cons c r =>
        rw [hc] at g
        have hc : c + y.length ≤ x.length := g.2.1.1
        omega
    rw [if_neg h1, if_neg ho]
    exact (congrArg TL.tl (TL.join_eq z _)).trans (TL.tl_join z _)
theorem spl_ne (S : List Nat) : ∀ (l acc : List Nat), TL.spl [59] 0 acc l ≠ []
  | [], acc => by rw [TL.spl_nil]; simp
  | c :: r, acc => by
    by_cases h : c = 59
    · subst h; rw [TL.spl_hit (by rfl)]; simp
    · rw [TL.spl_miss (TL.pre_of_head [] r h)]; exact spl_ne S r _
def wide (c : Nat) : List Nat := if c = 59 then [32, 59] else [c]
theorem wide_join : ∀ (l acc : List Nat), TL.joinL [32, 59] (TL.spl [59] 0 acc l) = acc ++ l.flatMap wide
  | [], acc => by rw [TL.spl_nil]; simp [TL.joinL]
  | c :: r, acc => by
    by_cases h : c = 59
    · subst h
      rw [TL.spl_hit (by rfl)]
      show TL.joinL [32, 59] (acc :: TL.spl [59] 0 [] r) = _
      have ih := wide_join r []
      obtain ⟨q, rr, e⟩ := List.exists_cons_of_ne_nil (spl_ne [] r [])
      rw [e] at ih ⊢
      rw [TL.joinL, ih]
      simp [wide]
    · rw [TL.spl_miss (TL.pre_of_head [] r h), wide_join r (acc ++ [c])]
      simp [wide, h]
theorem wfold_pre : ∀ (l : List Nat) (w0 ws : List (List Nat)) (u : List Nat), l.foldl TL.wstep (w0 ++ ws, u) = (w0 ++ (l.foldl TL.wstep (ws, u)).1, (l.foldl TL.wstep (ws, u)).2)
  | [], w0, ws, u => rfl
  | c :: l, w0, ws, u => by
    rw [List.foldl_cons, List.foldl_cons]
    have e : TL.wstep (w0 ++ ws, u) c = (w0 ++ (TL.wstep (ws, u) c).1, (TL.wstep (ws, u) c).2) := by
      unfold TL.wstep
      by_cases h : Unicode.isSpace c = true
      · rw [if_pos h, if_pos h]
        by_cases hu : u = []
        · simp [hu]
        · simp [hu]
      · rw [if_neg h, if_neg h]
    rw [e]
    exact wfold_pre l w0 _ _
theorem w32 (ws : List (List Nat)) (u : List Nat) : TL.wstep (ws, u) 32 = (if u = [] then (ws, u) else (ws ++ [u], [])) := if_pos (by decide +kernel)
theorem w10 (ws : List (List Nat)) : TL.wstep (ws, []) 10 = (ws, []) := by
  have h : Unicode.isSpace 10 = true := by decide +kernel
  unfold TL.wstep; rw [if_pos h]; rfl
theorem w59 (ws : List (List Nat)) : TL.wstep (ws, []) 59 = (ws, [59]) := by
  have h : ¬ Unicode.isSpace 59 = true := by decide +kernel
  unfold TL.wstep; rw [if_neg h]; rfl
theorem joinL_fold : ∀ (ps : List (List Nat)) (ws : List (List Nat)), ps ≠ [] → (∀ p ∈ ps, p ≠ [] ∧ ∀ c ∈ p, Unicode.isSpace c = false) → (TL.joinL [32] ps ++ [32]).foldl TL.wstep (ws, []) = (ws ++ ps, [])
  | [], _, h, _ => absurd rfl h
  | [p], ws, _, h => by
    obtain ⟨h1, h2⟩ := h p (List.mem_singleton.mpr rfl)
    show (p ++ [32]).foldl TL.wstep (ws, []) = _
    rw [List.foldl_append, TL.wfold_word p ws [] h2, List.nil_append, List.foldl_cons, w32, if_neg h1]; rfl
  | p :: q :: r, ws, _, h => by
    obtain ⟨h1, h2⟩ := h p (List.mem_cons_self ..)
    have ih := joinL_fold (q :: r) (ws ++ [p]) (by simp) fun x hx => h x (List.mem_cons_of_mem _ hx)
    have e : TL.joinL [32] (p :: q :: r) ++ [32] = p ++ (32 :: (TL.joinL [32] (q :: r) ++ [32])) := by simp [TL.joinL]
    rw [e, List.foldl_append, TL.wfold_word p ws [] h2, List.nil_append, List.foldl_cons, w32, if_neg h1, ih, List.append_assoc]; rfl
end Br

/-! k01, plain: the tokens of a canonical text. -/
namespace Br
open PySem PySem.Spec PyProof.Rows L2
theorem w10s (ws : List (List Nat)) : TL.wstep (ws, [59]) 10 = (ws ++ [[59]], []) := by
  have h : Unicode.isSpace 10 = true := by decide +kernel
  unfold TL.wstep; rw [if_pos h]; rfl
theorem wide_fr {b : List Nat} (h : 59 ∉ b) : b.flatMap wide = b := by
  induction b with
  | nil => rfl
  | cons c b ih =>
    have hc : c ≠ 59 := fun e => h (by rw [e]; exact List.mem_cons_self)
    rw [List.flatMap_cons, ih fun hm => h (List.mem_cons_of_mem _ hm)]
    simp [wide, hc]
structure Ln1 (ws : List Str) : Prop where
  ne : ws ≠ []
  ok : ∀ w ∈ ws, TL.tl w ≠ [] ∧ (∀ c ∈ TL.tl w, Unicode.isSpace c = false) ∧ 59 ∉ TL.tl w
theorem joinL_no {c : Nat} (hc : c ≠ 32) : ∀ {ps : List (List Nat)}, (∀ p ∈ ps, c ∉ p) → c ∉ TL.joinL [32] ps
  | [], _, h => by cases h
  | [p], h, hm => h p List.mem_cons_self hm
  | p :: q :: r, h, hm => by
    have hm : c ∈ p ++ ([32] ++ TL.joinL [32] (q :: r)) := hm
    rcases List.mem_append.mp hm with hm | hm
    · exact h p List.mem_cons_self hm
    · rcases List.mem_append.mp hm with hm | hm
      · exact hc (List.mem_singleton.mp hm)
      · exact joinL_no hc (fun x hx => h x (List.mem_cons_of_mem _ hx)) hm
theorem tl_lineS (ws : List Str) : TL.tl (lineS ws) = TL.joinL [32] (ws.map TL.tl) ++ [59] := by
  unfold lineS
  rw [TL.tl_append, TL.join_eq, TL.tl_join]
  have e1 : TL.tl (" " : Str) = [32] := by decide +kernel
  have e2 : TL.tl (";" : Str) = [59] := by decide +kernel
  rw [e1, e2]
theorem ln_fold {ws : List Str} (h : Ln1 ws) (w0 : List (List Nat)) : ((TL.tl (lineS ws)).flatMap wide).foldl TL.wstep (w0, []) = (w0 ++ ws.map TL.tl, [59]) := by
  have h59 : 59 ∉ TL.joinL [32] (ws.map TL.tl) := joinL_no (by decide) fun p hp => by
    obtain ⟨w, hw, rfl⟩ := List.mem_map.mp hp; exact (h.ok w hw).2.2
  have e1 : (TL.tl (lineS ws)).flatMap wide = (TL.joinL [32] (ws.map TL.tl) ++ [32]) ++ [59] := by
    rw [tl_lineS, List.flatMap_append, wide_fr h59]; simp [wide]
  rw [e1, List.foldl_append, joinL_fold (ws.map TL.tl) w0 (by simpa using h.ne) fun p hp => by
    obtain ⟨w, hw, rfl⟩ := List.mem_map.mp hp; exact ⟨(h.ok w hw).1, (h.ok w hw).2.1⟩]
  rw [List.foldl_cons, w59]; rfl
theorem lns_fold : ∀ (L : List (List Str)), L ≠ [] → (∀ ws ∈ L, Ln1 ws) → ∀ w0, TL.wfin (((TL.joinL [10] (L.map fun ws => TL.tl (lineS ws))).flatMap wide).foldl TL.wstep (w0, [])) = w0 ++ (L.flatMap fun ws => ws ++ [(";" : Str)]).map TL.tl
  | [], h, _, _ => absurd rfl h
  | [ws], _, h, w0 => by
    have h1 := ln_fold (h ws List.mem_cons_self) w0
    show TL.wfin (((TL.tl (lineS ws)).flatMap wide).foldl TL.wstep (w0, [])) = _
    rw [h1]
    have e2 : TL.tl (";" : Str) = [59] := by decide +kernel
    simp [TL.wfin, e2]
  | ws :: v :: L, _, h, w0 => by
    have h1 := ln_fold (h ws List.mem_cons_self) w0
    have ih := lns_fold (v :: L) (by simp) (fun x hx => h x (List.mem_cons_of_mem _ hx)) (w0 ++ (ws ++ [(";" : Str)]).map TL.tl)
    have e : (TL.joinL [10] ((ws :: v :: L).map fun ws => TL.tl (lineS ws))).flatMap wide = (TL.tl (lineS ws)).flatMap wide ++ (10 :: (TL.joinL [10] ((v :: L).map fun ws => TL.tl (lineS ws))).flatMap wide) := by
      simp only [List.map_cons, TL.joinL, List.flatMap_append]
      rfl
    have e2 : TL.tl (";" : Str) = [59] := by decide +kernel
    have e3 : w0 ++ ws.map TL.tl ++ [[59]] = w0 ++ (ws ++ [(";" : Str)]).map TL.tl := by simp [e2]
    rw [e, List.foldl_append, h1, List.foldl_cons, w10s, e3, ih, List.flatMap_cons (x := ws), List.map_append (l₁ := ws ++ [(";" : Str)]), List.append_assoc]
theorem toks_of (L : List (List Str)) (hne : L ≠ []) (h : ∀ ws ∈ L, Ln1 ws) : Txt.words (Txt.replace (Txt.join "\n" (L.map lineS)) ";" " ;") = L.flatMap fun ws => ws ++ [(";" : Str)] := by
  refine TL.map_tl_inj ?_
  rw [TL.words_tl, replace_tl _ _ _ (by decide +kernel) (TL.kind_ok (by decide +kernel))]
  have e1 : TL.tl (";" : Str) = [59] := by decide +kernel
  have e2 : TL.tl (" ;" : Str) = [32, 59] := by decide +kernel
  have e3 : TL.tl ("\n" : Str) = [10] := by decide +kernel
  rw [e1, e2, wide_join, List.nil_append, TL.join_eq, TL.tl_join, e3, List.map_map]
  exact (lns_fold L hne h []).trans (List.nil_append _)
/-! ### the words of the law's rotas -/
theorem ws1_word : ∀ w ∈ ws1, w ≠ ";" → TL.tl w ≠ [] ∧ (∀ c ∈ TL.tl w, Unicode.isSpace c = false) ∧ 59 ∉ TL.tl w := by decide +kernel
theorem num_ws1 : ∀ k ∈ List.range 13, num ((k : Nat) : Int) ∈ ws1 ∧ num ((k : Nat) : Int) ≠ ";" := by decide +kernel
theorem six_ws1 : ∀ x ∈ six, x ∈ ws1 ∧ x ≠ ";" := by decide +kernel
theorem num_in {k : Int} (h0 : 0 ≤ k) (h1 : k ≤ 12) : num k ∈ ws1 ∧ num k ≠ ";" := by
  have := num_ws1 k.toNat (List.mem_range.mpr (by omega))
  have e : ((k.toNat : Nat) : Int) = k := by omega
  rw [e] at this; exact this
theorem lines_in {r : Rota} (ok : ROk r) (h6 : ∀ x ∈ r.names, x ∈ six) : ∀ ws ∈ lineWords r, ws ≠ [] ∧ ∀ w ∈ ws, w ∈ ws1 ∧ w ≠ ";" := by
  have kwd : ∀ w ∈ (["people", "turns", "weights", "away", "of", "makeup"] : List Str), w ∈ ws1 ∧ w ≠ ";" := by decide +kernel
  have nm1 : ∀ t : Int, 0 ≤ t → t < (r.names.length : Int) → nm r t ∈ ws1 ∧ nm r t ≠ ";" := fun t h0 h1 => six_ws1 _ (h6 _ (List.mem_of_getElem? (nm_mem h0 h1)))
  intro ws hws
  unfold lineWords at hws
  rcases List.mem_append.mp hws with hws | hws
  · rcases List.mem_append.mp hws with hws | hws
    · rcases List.mem_append.mp hws with hws | hws
      · simp only [lines2, List.mem_cons, List.not_mem_nil, or_false] at hws
        rcases hws with rfl | rfl
        · refine ⟨by simp, fun w hw => ?_⟩
          rcases List.mem_cons.mp hw with rfl | hw
          · exact kwd _ (by simp)
          · exact six_ws1 _ (h6 w hw)
        · refine ⟨by simp, fun w hw => ?_⟩
          rcases List.mem_cons.mp hw with rfl | hw
          · exact kwd _ (by simp)
          · obtain ⟨t, ht, rfl⟩ := List.mem_map.mp hw
            have := ok.t0 t ht
            exact nm1 t this.1 this.2
      · unfold linesW at hws
        split at hws
        · rw [List.mem_singleton.mp hws]
          refine ⟨by simp, fun w hw => ?_⟩
          rcases List.mem_cons.mp hw with rfl | hw
          · exact kwd _ (by simp)
          · obtain ⟨k, hk, rfl⟩ := List.mem_map.mp hw
            have := ok.w0 k hk
            exact num_in (by omega) (by omega)
        · cases hws
    · obtain ⟨t, ht, rfl⟩ := List.mem_map.mp hws
      obtain ⟨a1, a2, a3, a4, a5⟩ := ok.a0 t ht
      have a6 : t.2.2 ≤ 12 := by
        have : ∀ m ∈ ([2, 3, 4, 6, 8, 12] : List Int), m ≤ 12 := by decide
        exact this _ a5
      refine ⟨by simp [awW], fun w hw => ?_⟩
      have hw : w ∈ (["away", nm r t.1, num t.2.1, "of", num t.2.2] : List Str) := hw
      simp only [List.mem_cons, List.not_mem_nil, or_false] at hw
      rcases hw with rfl | rfl | rfl | rfl | rfl
      · exact kwd _ (by simp)
      · exact nm1 t.1 a1 a2
      · exact num_in (by omega) (by omega)
      · exact kwd _ (by simp)
      · exact num_in (by omega) (by omega)
  · unfold linesM at hws
    split at hws
    · cases hws
    · rw [List.mem_singleton.mp hws]
      refine ⟨by simp, fun w hw => ?_⟩
      rcases List.mem_cons.mp hw with rfl | hw
      · exact kwd _ (by simp)
      · obtain ⟨t, ht, rfl⟩ := List.mem_map.mp hw
        have := ok.m0 t ht
        exact nm1 t this.1 this.2
theorem canon_toks {r : Rota} (ok : ROk r) (h6 : ∀ x ∈ r.names, x ∈ six) : Txt.words (Txt.replace (textOf r) ";" " ;") = (lineWords r).flatMap fun ws => ws ++ [(";" : Str)] := by
  have hl := lines_in ok h6
  exact toks_of (lineWords r) (by unfold lineWords lines2; simp) fun ws hws => ⟨(hl ws hws).1, fun w hw => ws1_word w ((hl ws hws).2 w hw).1 ((hl ws hws).2 w hw).2⟩
theorem canon_in {r : Rota} (ok : ROk r) (h6 : ∀ x ∈ r.names, x ∈ six) : ∀ w ∈ (lineWords r).flatMap (fun ws => ws ++ [(";" : Str)]), w ∈ ws1 := fun w hw => by
  obtain ⟨ws, hws, hm⟩ := List.mem_flatMap.mp hw
  rcases List.mem_append.mp hm with hm | hm
  · exact ((lines_in ok h6 ws hws).2 w hm).1
  · rw [List.mem_singleton.mp hm]; decide +kernel
end Br

/-! Comprehensions that fill a list told ahead; isinstance of flat things. -/
namespace Br
open PySem PySem.Spec PyProof.Rows L2
section
variable {J : It} {n : Nat} {G : Hp → Prop} {Y : Nat → Hp → V → Hp → Prop}
/-- a comprehension without a test that makes ys; the ledger behind the new list may change from turn to turn -/
theorem lc_put (w : Walk J n G Y) {g : TG} {te : TE} {vs : List Nat} {σ : L2.St} {H0 H1 : Hp} {D : Addr} {Qd : Hp → Prop} {M : List Addr} {l : Nat → List (Addr × HO)} (ys : List V) (hy : ys.length = n) (hn : n ≤ 1000)
    (wd : Wd M H0 H1 (l 0)) (hD : H1 D = none) (hG : ∀ i H, i ≤ n → Wd M H0 H ((D, .lst (ys.take i)) :: l i) → G H)
    (hs : ∀ i x H H' (R : V → Hp → Prop), i < n → Wd M H0 H ((D, .lst (ys.take i)) :: l i) → Y i H x H' → (∀ y H4, ys[i]? = some y → Wd M H0 H4 ((D, .lst (ys.take i)) :: l (i + 1)) → R y H4) → g x (wipe σ vs) H' fun σ2 H2 => wipe σ2 vs = wipe σ vs ∧ te σ2 H2 R)
    (hd : ∀ H, Wd M H0 H ((D, .lst ys) :: l n) → Qd H) :
    ∃ W : Nat → Nat → Hp → Prop, (∃ m, W 0 m (upd H1 D (.lst []))) ∧ ∀ i m H, W i m H →
      (J.stop i H ∧ Qd H) ∨ (J.go i H ∧ ∃ Nx : Hp → Prop, (∀ H', Nx H' → ∃ m', m' < m ∧ W (i + 1) m' H') ∧ ∀ x H', J.yld i H x H' → g x (wipe σ vs) H' fun σ2 H2 => wipe σ2 vs = wipe σ vs ∧ tYes σ2 H2 fun b H3 =>
        if b = true then te σ2 H3 fun y H4 => ∃ acc, H4 D = some (.lst acc) ∧ acc.length < sizeLine ∧ Nx (upd H4 D (.lst (acc ++ [y]))) else Nx H3) := by
  refine ⟨fun i m H => m = n - i ∧ i ≤ n ∧ Wd M H0 H ((D, .lst (ys.take i)) :: l i), ⟨n, by simp, Nat.zero_le _, ?_⟩, ?_⟩
  · rw [List.take_zero]; exact wd.new _ hD
  rintro i m H ⟨rfl, hi, p⟩
  have q := hG i H hi p
  by_cases hlt : i < n
  · refine .inr ⟨w.goes i H hlt q, fun H' => Wd M H0 H' ((D, .lst (ys.take (i + 1))) :: l (i + 1)), fun H' p' => ⟨n - (i + 1), by omega, rfl, hlt, p'⟩, fun x H' y => ?_⟩
    refine hs i x H H' _ hlt p (w.yields i H x H' hlt q y) fun y H4 hy4 w4 => ⟨_, w4.get 0 rfl, ?_, ?_⟩
    · rw [List.length_take]
      exact Nat.lt_of_le_of_lt (m := 1000) (by omega) (by decide)
    · have := w4.put 0 (.lst (ys.take i ++ [y])) rfl (fun xs q => by cases q)
      rw [take_more hy4]
      exact this
  · have e : i = n := by omega
    subst e
    refine .inl ⟨w.stops H q, hd H ?_⟩
    rw [← hy, List.take_length] at p
    rw [← hy]; exact p
/-! ### flat things and isinstance -/
/-- a value and its class, as isinstance asks -/
inductive Ky (H : Hp) : V → String → Prop
  | non : Ky H .non "NoneType"
  | bl (b : Bool) : Ky H (.bl b) "bool"
  | int (i : Int) : Ky H (.int i) "int"
  | str (z : Str) : Ky H (.str z) "str"
  | lst {a : Addr} {xs : List V} (h : H a = some (.lst xs)) : Ky H (.ref a) "list"
  | tup {a : Addr} {xs : List V} (h : H a = some (.tup xs)) : Ky H (.ref a) "tuple"
theorem Ky.ty {K : PySem.W.Frag} {H : Hp} {x : V} {t : String} (h : Ky H x t) : TyX K H x (.type t) := by
  cases h with
  | non => exact .base .non
  | bl b => exact .base (.bl b)
  | int i => exact .base (.int i)
  | str z => exact .base (.str z)
  | lst h => exact .base (.lst h)
  | tup h => exact .base (.tup h)
/-- isinstance(x, T) of such things, T one of the six -/
def isA (t T : String) : Bool := t == T || (t == "bool" && T == "int")
theorem kit_is {K : PySem.W.Frag} {t T : String} (h : t ∈ ["NoneType", "bool", "int", "str", "list", "tuple"]) (h' : T ∈ ["bool", "int", "str", "list", "tuple"]) : PySem.W.kitOne K (.type t) (.type T) = some (isA t T) := by
  simp only [List.mem_cons, List.not_mem_nil, or_false] at h h'
  rcases h with rfl | rfl | rfl | rfl | rfl | rfl <;> rcases h' with rfl | rfl | rfl | rfl | rfl <;> rfl
theorem Ky.mem {H : Hp} {x : V} {t : String} (h : Ky H x t) : t ∈ ["NoneType", "bool", "int", "str", "list", "tuple"] := by
  cases h <;> decide
def intIn (lo hi : Int) : V → Bool
  | .int i => decide (lo ≤ i) && decide (i ≤ hi)
  | _ => false
abbrev rSIndex : V → List V → Hp → VK → Prop := fun x xs H Q => ∃ a b i rest, x = .str a ∧ xs = [.str b] ∧ Builtin.Str.occurrences a b 0 a.length 1 = i :: rest ∧ Q (.int (i : Nat)) H
end
end Br

/-! isinstance of a caught error of an own class, with or without a dict; list.count of flat things. -/
namespace Br
open PySem PySem.Spec PyProof.Rows L2
/-- what a class must say, that isinstance asks its caught instances rightly -/
structure IsX (K : PySem.W.Frag) (C : Addr) : Prop where
  cl : PySem.W.isClsIn K C = true
  ga : PySem.W.findIn K (.ref C) "__getattribute__" = some (some (.builtin "BaseException.__getattribute__"))
  gg : PySem.W.findIn K (.ref C) "__getattr__" = some none
  sb : PySem.W.subIn K (.ref C) (.type "BaseException") = some true
  ca : PySem.W.findIn K (.ref C) "__class__" = some (some (.builtin "object.__class__"))
  cg : PySem.W.specialIn K (.builtin "object.__class__") "__get__" = some (some (.builtin "getset_descriptor.__get__"))
  tk : PySem.W.takesIn K (.builtin "object.__class__") = some true
  mo : PySem.W.mroIn K C (.type "object") = some true
/-- the error at a: of the class at C; its dict, if any, is told -/
def DOk' (H : Hp) (d : Option Addr) : Prop := ∀ dd, d = some dd → ∃ fs, H dd = some (.xd fs)
def rIsX (K : PySem.W.Frag) (a : Addr) (cls : Value) (d : Option Addr) : List V → Hp → VK → Prop := fun xs H Q => ∃ (C : Addr) (c : V) (cv : Value) (b : Bool), cls = .ref C ∧ IsX K C ∧ DOk' H d ∧ xs = [.ref a, c] ∧ (∀ u, RelV c u → u = cv) ∧ PySem.W.kitOne K (.ref C) cv = some b ∧ Q (.bl b) H
theorem call_isX {X : Cx} {a : Addr} {oe : Obj} {cls : Value} {d : Option Addr} {pn : List (Addr × Obj)} (hz : Zc cls d oe) (hf : ∃ vs, oe.data = .fields vs) : CallR (X.suite a ((a, oe) :: pn)) (.builtin "isinstance") (rIsX X.K a cls d) := by
  intro pins y σ H xs us Q I r h
  obtain ⟨C, c, cv, b, rfl, T, hd, rfl, hcv, e, q⟩ := h
  cases r with
  | cons rx rr => cases rr with
    | cons rt r0 =>
      cases r0
      cases rx
      have ec := hcv _ rt
      subst ec
      obtain ⟨hget, _⟩ := I.pin (a, oe) (List.mem_append.mpr (.inl List.mem_cons_self))
      obtain ⟨vs, hv⟩ := hf
      have J : ∃ od, PySem.W.InstAt y.heap a oe C od := by
        cases hd0 : d with
        | none => exact ⟨none, hget, hz.1, by unfold PySem.W.notCls; rw [hv] <;> rfl, by rw [hz.2, hd0]; trivial⟩
        | some dd =>
          obtain ⟨fs, ea⟩ := hd dd hd0
          have hx : ObjOk X.prog X.w H y.heap dd (.xd fs) := I.hok dd _ ea
          obtain ⟨mA, hns, _⟩ := hx
          obtain ⟨od, ho, _⟩ := lookIn_ns hns
          exact ⟨some od, hget, hz.1, by unfold PySem.W.notCls; rw [hv] <;> rfl, by rw [hz.2, hd0]; exact ho⟩
      obtain ⟨od, J⟩ := J
      exact PySem.W.kia_one (PySem.W.kitx_exc (od := od) T.cl T.ga T.gg T.sb T.ca T.cg T.tk T.mo) I.kIn J e (fun z => nomatch z) fun tk => ⟨.bl b, H, I.kept (t' := tk) fun _ _ z => z, rfl, q⟩
/-! ### list.count of flat things -/
section
variable {X : Cx}
def rCntF (K : PySem.W.Frag) : V → List V → Hp → VK → Prop := fun x xs H Q => ∃ (p : Addr) (ys : List V) (y : V), x = .ref p ∧ xs = [y] ∧ SqL K H p ys ∧ flatV y = true ∧ ys.all flatV = true ∧ Q (.int ((ys.countP fun z => eqV z y : Nat))) H
theorem count_flat {y : V} : ∀ {ys : List V} {us : List Value}, Vals ys us → ys.all flatV = true → us.countP (eqU y) = ys.countP fun z => eqV z y
  | [], _, .nil, _ => rfl
  | z :: ys, _, .cons r rr, h => by
    rw [List.all_cons, Bool.and_eq_true] at h
    rw [List.countP_cons, List.countP_cons, count_flat rr h.2, eqU_of r h.1]
theorem mt_countF : MtR X "list.count" (rCntF X.K) := by
  intro pins s σ H x xs v us Q I rx rxs h
  obtain ⟨p, ys, y, rfl, rfl, hs, fy, fys, q⟩ := h
  cases rx
  cases rxs with
  | cons ry rt =>
    rename_i uy ut
    cases rt
    obtain ⟨its, rv, ⟨⟨cls, dd, data, sl⟩, n, ho, hc, hdn, hd⟩, hlen⟩ := I.list hs
    simp only at hc hd
    subst hc hd
    refine call_meets PySem.F.slot_list_count ⟨_, ho, rfl⟩ PySem.F.entry_list_count (PySem.F.args_list_count_2 _ _)
      (SeqAt.list_countAt p its.toArray n dd sl uy (eqU y)) ⟨ho, fun u' hu' => mem_eqAt ry fy rv fys u' (by simpa using hu'), ?_⟩
    refine ⟨.int ((ys.countP fun z => eqV z y : Nat)), H, I.tok _, ⟨s.toks, ?_⟩, q⟩
    show Value.int ((its.toArray.toList.countP (eqU y) : Nat) : Int) s.toks = _
    rw [show its.toArray.toList = its from rfl, count_flat rv fys]
end
end Br

namespace Br
open PySem PySem.Spec PyProof.Rows L2
/-! ### what the law tells of an error -/
def clsN : List Str := ["InvalidTick", "InvalidCount", "UnknownPerson", "TooLong", "DifferentPeople", "Contradiction", "NobodyHome", "InvalidName", "UnknownName", "SyntaxFault", "CheckFault", "InvalidCode", "InvalidOperation", "InvalidSession"]
def kindN : List Str := ["tick", "count", "person", "long", "different", "contradiction", "nobody", "name", "unknown", "syntax", "check", "code", "operation", "session"]
/-- the class at C is the j-th of the fourteen -/
structure ErK (K : PySem.W.Frag) (cs : Nat → Addr) (CR C : Addr) (j : Nat) : Prop where
  j14 : j < 14
  at_ : ∀ i, i < 14 → PySem.W.kitOne K (.ref C) (.ref (cs i)) = some (decide (i = j))
  ve : PySem.W.kitOne K (.ref C) (.type "ValueError") = some true
  ex : PySem.W.exmOne K (.ref C) (.ref CR) = some true
  is_ : IsX K C
  xf : XfC K C
/-- what the law's word of an error is: a kind's name, and what it carries -/
inductive Carry (K : PySem.W.Frag) (C : Addr) (H : Hp) (d : Option Addr) (Q : VK) : Nat → Prop
  | none {j : Nat} (hj : j < 9) (hd : d = none) (q : ∀ p H', Wd [] H H' [(p, .tup [.str (kindN.getD j ""), .int 0])] → Q (.ref p) H') : Carry K C H d Q j
  | place {j : Nat} {dd : Addr} {fs : List (Str × V)} {i : Int} (hj : 11 ≤ j) (hd : d = some dd) (ha : H dd = some (.xd fs)) (hl : fs.lookup ("place" : Str) = some (.int i)) (no : PySem.W.findIn K (.ref C) "place" = some none)
      (q : ∀ p H', Wd [] H H' [(p, .tup [.str (kindN.getD j ""), .int i])] → Q (.ref p) H') : Carry K C H d Q j
  | syn {dd : Addr} {fs : List (Str × V)} {l c : Int} (hd : d = some dd) (ha : H dd = some (.xd fs)) (h1 : fs.lookup ("line" : Str) = some (.int l)) (h2 : fs.lookup ("column" : Str) = some (.int c)) (n1 : PySem.W.findIn K (.ref C) "line" = some none) (n2 : PySem.W.findIn K (.ref C) "column" = some none)
      (q : ∀ p p2 H', Wd [] H H' [(p, .tup [.str "syntax", .ref p2]), (p2, .tup [.int l, .int c])] → Q (.ref p) H') : Carry K C H d Q 9
  | chk {dd : Addr} {fs : List (Str × V)} {r : Str} {l c : Int} (hd : d = some dd) (ha : H dd = some (.xd fs)) (h0 : fs.lookup ("reason" : Str) = some (.str r)) (h1 : fs.lookup ("line" : Str) = some (.int l)) (h2 : fs.lookup ("column" : Str) = some (.int c))
      (n0 : PySem.W.findIn K (.ref C) "reason" = some none) (n1 : PySem.W.findIn K (.ref C) "line" = some none) (n2 : PySem.W.findIn K (.ref C) "column" = some none)
      (q : ∀ p p2 H', Wd [] H H' [(p, .tup [.str "check", .ref p2]), (p2, .tup [.str r, .int l, .int c])] → Q (.ref p) H') : Carry K C H d Q 10
/-- the wish: what leaves the call is one of the fourteen, and the law's word of it is what the caller wants -/
def ErW (K : PySem.W.Frag) (cs : Nat → Addr) (CR : Addr) (Q : VK) : XK := fun cls d H => ∃ (C : Addr) (j : Nat), cls = .ref C ∧ ErK K cs CR C j ∧ DOk' H d ∧ Carry K C H d Q j
theorem kinds_count : ∀ j : Fin 14, ((List.range 14).map fun i => V.bl (decide (i = j.val))).countP (fun z => eqV z (.bl true)) = 1 := by decide
theorem kinds_at : ∀ j : Fin 14, ((List.range 14).map fun i => V.bl (decide (i = j.val)))[j.val]? = some (.bl true) := by decide
theorem kinds_no : ∀ j m : Fin 14, m.val < j.val → ((List.range 14).map fun i => V.bl (decide (i = j.val)))[m.val]? = some (.bl false) := by decide
theorem kinds_flat : ∀ j : Nat, ((List.range 14).map fun i => V.bl (decide (i = j))).all flatV = true := fun j => by
  rw [List.all_eq_true]
  intro v hv
  obtain ⟨i, _, rfl⟩ := List.mem_map.mp hv; rfl
theorem kind_get : ∀ j : Fin 14, (kindN.map V.str)[j.val]? = some (.str (kindN.getD j.val "")) := by decide +kernel
theorem kind_two : ∀ j : Fin 14, inV (.str (kindN.getD j.val "")) [.str "syntax", .str "check"] = decide (j.val = 9 ∨ j.val = 10) := by decide +kernel
theorem kind_three : ∀ j : Fin 14, inV (.str (kindN.getD j.val "")) [.str "code", .str "operation", .str "session"] = decide (11 ≤ j.val) := by decide +kernel
section
variable {X : Cx}
/-- e.f, e the exception that the suite holds -/
def tXfE (K : PySem.W.Frag) (a : Addr) (cls : Value) (d : Option Addr) (f : Str) (te : TE) : TE := fun σ H Q => te σ H fun x H1 => x = .ref a ∧ ∃ (C dd : Addr) (fs : List (Str × V)) (v : V), cls = .ref C ∧ XfC K C ∧ PySem.W.findIn K (.ref C) f = some none ∧ d = some dd ∧ H1 dd = some (.xd fs) ∧ fs.lookup f = some v ∧ Q v H1
theorem pe_xfE {a : Addr} {oe : Obj} {cls : Value} {d : Option Addr} {pn : List (Addr × Obj)} {e : Expr} {te : TE} {pos : Pos} {n : Str} (hz : Zc cls d oe) (hf : ∃ vs, oe.data = .fields vs) (he : PE (X.suite a ((a, oe) :: pn)) e te) (hb : attributeBase e n X.env (eval e X.env) = eval e X.env := by rfl) :
    PE (X.suite a ((a, oe) :: pn)) (.Attribute e n pos) (tXfE X.K a cls d n te) := by
  refine ⟨fun pins y σ H Q I h => ?_⟩
  refine attr_of hb (thn (he.run pins y σ H _ I h) fun u y1 ⟨x, H1, I1, rx, ex, C, dd, fs, v, ec, T, hno, ed, ea, l, q⟩ => ?_)
  subst ex ec ed
  obtain rfl : u = Value.ref a := rx
  obtain ⟨vs, hd⟩ := hf
  have hx : ObjOk X.prog X.w H1 y1.heap dd (.xd fs) := I1.hok dd _ ea
  obtain ⟨mA, hns, hr⟩ := hx
  obtain ⟨od, ho, hl⟩ := lookIn_ns hns
  obtain ⟨u1, hu1, ru⟩ := RelO.some_of (v := v) (o := mA n) (by rw [← l]; exact hr n)
  have J : PySem.W.InstAt y1.heap a oe C (some od) := ⟨(I1.pin (a, oe) (List.mem_append_left _ List.mem_cons_self)).1, hz.1, by unfold PySem.W.notCls; rw [hd] <;> rfl, by rw [hz.2]; exact ho⟩
  exact HandSPX.exc_get I1.kIn J T.ga T.gg T.exC (PySem.W.findObj_own T.hdC hno rfl (by rw [hl, hu1])) (handed_of ru) ⟨v, H1, I1.tok _, ru, q⟩
theorem takes_len {W : WX} (tk : Takes X W) : Takes X (fun c d σ H => σ.length = X.N.length → W c d σ H) := fun u z ⟨a, B, sI, pins, σ, H, cls, d, e, I, nb, up, sky, na, os, ag, w⟩ => tk u z ⟨a, B, sI, pins, σ, H, cls, d, e, I, nb, up, sky, na, os, ag, w I.len⟩
end
section
variable {P : Program} {w : World} {K : PySem.W.Frag} {mg : Str → Option Value} {base : Heap} {cs : Nat → Addr} {CR : Addr}
abbrev s_law_error_of : Stmt := topS 55
theorem sc_law_error_of : FnScope ["_law_call", "e", "_law_kinds", "_law_names", "_law_name"] ["_law_call"] (defScope s_law_error_of) := ⟨rfl, rfl, rfl, by decide +kernel, rfl, by decide +kernel, by decide +kernel⟩
/-- what the law's _law_error_of makes of a call's reading -/
def TTe (K : PySem.W.Frag) (cs : Nat → Addr) (CR : Addr) : (XK → Hp → VK → Prop) → Hp → VK → Prop := fun tl H Q => tl (ErW K cs CR Q) H (fun _ H' => Q .non H')
theorem five {σ : L2.St} (h : σ.length = 5) : ∃ a b c d e, σ = [a, b, c, d, e] := by
  match σ, h with
  | [a, b, c, d, e], _ => exact ⟨a, b, c, d, e, rfl⟩
abbrev erX (X : Cx) (g : Addr) (cdg : Value) (s : Shared) (H : Hp) (a : Addr) (oe : Obj) (pn : List (Addr × Obj)) : Cx := (cxOf C8.CX0 X.prog X.w X.K X.mg X.base ["_law_call", "e", "_law_kinds", "_law_names", "_law_name"] "_law_error_of" (defScope s_law_error_of) g cdg X.A X.stack s H C8.E0).nox.suite a ((a, oe) :: pn)
def suiteOf : List Stmt → List Stmt
  | .Try _ [.ExceptHandler _ _ b _] _ _ _ :: _ => b
  | _ => []
/-- the suite's reading -/
def erTs (K : PySem.W.Frag) (cs : Nat → Addr) (a : Addr) (cls : Value) (d : Option Addr) : TS :=  
  (tSeq (tAsg (tLst (tCons (tCB (rIsX K a cls d) (tCons (tVar 1) (tCons (tC (V.ref (cs 0))) tNil))) (tCons (tCB (rIsX K a cls d) (tCons (tVar 1) (tCons (tC (V.ref (cs 1))) tNil))) (tCons (tCB (rIsX K a cls d) (tCons (tVar 1) (tCons (tC (V.ref (cs 2))) tNil))) tNil)))) (gName 2)) 
  (tSeq (tAsg (tOp rCat (tVar 2) (tLst (tCons (tCB (rIsX K a cls d) (tCons (tVar 1) (tCons (tC (V.ref (cs 3))) tNil))) (tCons (tCB (rIsX K a cls d) (tCons (tVar 1) (tCons (tC (V.ref (cs 4))) tNil))) (tCons (tCB (rIsX K a cls d) (tCons (tVar 1) (tCons (tC (V.ref (cs 5))) tNil))) tNil))))) (gName 2)) 
  (tSeq (tAsg (tOp rCat (tVar 2) (tLst (tCons (tCB (rIsX K a cls d) (tCons (tVar 1) (tCons (tC (V.ref (cs 6))) tNil))) (tCons (tCB (rIsX K a cls d) (tCons (tVar 1) (tCons (tC (V.ref (cs 7))) tNil))) (tCons (tCB (rIsX K a cls d) (tCons (tVar 1) (tCons (tC (V.ref (cs 8))) tNil))) tNil))))) (gName 2)) 
  (tSeq (tAsg (tOp rCat (tVar 2) (tLst (tCons (tCB (rIsX K a cls d) (tCons (tVar 1) (tCons (tC (V.ref (cs 9))) tNil))) (tCons (tCB (rIsX K a cls d) (tCons (tVar 1) (tCons (tC (V.ref (cs 10))) tNil))) (tCons (tCB (rIsX K a cls d) (tCons (tVar 1) (tCons (tC (V.ref (cs 11))) tNil))) tNil))))) (gName 2)) 
  (tSeq (tAsg (tOp rCat (tVar 2) (tLst (tCons (tCB (rIsX K a cls d) (tCons (tVar 1) (tCons (tC (V.ref (cs 12))) tNil))) (tCons (tCB (rIsX K a cls d) (tCons (tVar 1) (tCons (tC (V.ref (cs 13))) tNil))) tNil)))) (gName 2)) 
  (tSeq (tIfS (tOr (tTest (tOp rNe (tBM K "list" (rCntF K) (tVar 2) (tCons (tC (V.bl true)) tNil)) (tC (V.int 1)))) (tNot (tB (tCB (rIsX K a cls d) (tCons (tVar 1) (tCons (tC (V.ty "ValueError")) tNil)))))) (tRet (tTup (tCons (tC (V.str "other")) (tCons (tC (V.int 0)) tNil)))) tNext) 
  (tSeq (tAsg (tLst (tCons (tC (V.str "tick")) (tCons (tC (V.str "count")) (tCons (tC (V.str "person")) (tCons (tC (V.str "long")) (tCons (tC (V.str "different")) (tCons (tC (V.str "contradiction")) (tCons (tC (V.str "nobody")) (tCons (tC (V.str "name")) (tCons (tC (V.str "unknown")) tNil)))))))))) (gName 3)) 
  (tSeq (tAsg (tOp (rIxL K) (tOp rCat (tVar 3) (tLst (tCons (tC (V.str "syntax")) (tCons (tC (V.str "check")) (tCons (tC (V.str "code")) (tCons (tC (V.str "operation")) (tCons (tC (V.str "session")) tNil))))))) (tBM K "list" (rIndex K) (tVar 2) (tCons (tC (V.bl true)) tNil))) (gName 4)) 
  (tSeq (tIfS (tTest (tOp (rIn K false) (tVar 4) (tLst (tCons (tC (V.str "syntax")) (tCons (tC (V.str "check")) tNil))))) (tRet (tTup (tCons (tVar 4) (tCons (tIf (tTest (tOp rEq (tVar 4) (tC (V.str "syntax")))) (tTup (tCons (tXfE K a cls d "line" (tVar 1)) (tCons (tXfE K a cls d "column" (tVar 1)) tNil))) (tTup (tCons (tXfE K a cls d "reason" (tVar 1)) (tCons (tXfE K a cls d "line" (tVar 1)) (tCons (tXfE K a cls d "column" (tVar 1)) tNil))))) tNil)))) tNext) (tRet (tTup (tCons (tVar 4) (tCons (tIf (tTest (tOp (rIn K false) (tVar 4) (tLst (tCons (tC (V.str "code")) (tCons (tC (V.str "operation")) (tCons (tC (V.str "session")) tNil)))))) (tXfE K a cls d "place" (tVar 1)) (tC (V.int 0))) tNil)))))))))))))
theorem er_suite {X : Cx} {g : Addr} {cdg : Value} {s : Shared} {H : Hp} {a : Addr} {oe : Obj} {cls : Value} {d : Option Addr} {pn : List (Addr × Obj)} (T : Bi X.mg) (nd : (["_law_call", "e", "_law_kinds", "_law_names", "_law_name"] : List Str).Nodup) (gc : ∀ i, i < 14 → X.mg (clsN.getD i "") = some (.ref (cs i))) (hz : Zc cls d oe) (hf : ∃ vs, oe.data = .fields vs) : PSs (erX X g cdg s H a oe pn) (suiteOf (defBody s_law_error_of)) (erTs X.K cs a cls d) := by
  have this : PSs (erX X g cdg s H a oe pn) (suiteOf (defBody s_law_error_of)) _ := (pss_cons (ps_set (i := 2) nd rfl (Or.inl rfl) (pe_lst (pa_cons (pe_callB (call_isX hz hf) (by rfl) T.isinstance (by decide +kernel) (pa_cons (pv 1) (pa_cons (pe_glob (v := .ref (cs 0)) (by rfl) (gc 0 (by decide)) rfl) pa_nil))) (pa_cons (pe_callB (call_isX hz hf) (by rfl) T.isinstance (by decide +kernel) (pa_cons (pv 1) (pa_cons (pe_glob (v := .ref (cs 1)) (by rfl) (gc 1 (by decide)) rfl) pa_nil))) (pa_cons (pe_callB (call_isX hz hf) (by rfl) T.isinstance (by decide +kernel) (pa_cons (pv 1) (pa_cons (pe_glob (v := .ref (cs 2)) (by rfl) (gc 2 (by decide)) rfl) pa_nil))) pa_nil)))))
 (pss_cons (ps_set (i := 2) nd rfl (Or.inl rfl) (pe_op op_cat (pv 2) (pe_lst (pa_cons (pe_callB (call_isX hz hf) (by rfl) T.isinstance (by decide +kernel) (pa_cons (pv 1) (pa_cons (pe_glob (v := .ref (cs 3)) (by rfl) (gc 3 (by decide)) rfl) pa_nil))) (pa_cons (pe_callB (call_isX hz hf) (by rfl) T.isinstance (by decide +kernel) (pa_cons (pv 1) (pa_cons (pe_glob (v := .ref (cs 4)) (by rfl) (gc 4 (by decide)) rfl) pa_nil))) (pa_cons (pe_callB (call_isX hz hf) (by rfl) T.isinstance (by decide +kernel) (pa_cons (pv 1) (pa_cons (pe_glob (v := .ref (cs 5)) (by rfl) (gc 5 (by decide)) rfl) pa_nil))) pa_nil))))))
 (pss_cons (ps_set (i := 2) nd rfl (Or.inl rfl) (pe_op op_cat (pv 2) (pe_lst (pa_cons (pe_callB (call_isX hz hf) (by rfl) T.isinstance (by decide +kernel) (pa_cons (pv 1) (pa_cons (pe_glob (v := .ref (cs 6)) (by rfl) (gc 6 (by decide)) rfl) pa_nil))) (pa_cons (pe_callB (call_isX hz hf) (by rfl) T.isinstance (by decide +kernel) (pa_cons (pv 1) (pa_cons (pe_glob (v := .ref (cs 7)) (by rfl) (gc 7 (by decide)) rfl) pa_nil))) (pa_cons (pe_callB (call_isX hz hf) (by rfl) T.isinstance (by decide +kernel) (pa_cons (pv 1) (pa_cons (pe_glob (v := .ref (cs 8)) (by rfl) (gc 8 (by decide)) rfl) pa_nil))) pa_nil))))))
 (pss_cons (ps_set (i := 2) nd rfl (Or.inl rfl) (pe_op op_cat (pv 2) (pe_lst (pa_cons (pe_callB (call_isX hz hf) (by rfl) T.isinstance (by decide +kernel) (pa_cons (pv 1) (pa_cons (pe_glob (v := .ref (cs 9)) (by rfl) (gc 9 (by decide)) rfl) pa_nil))) (pa_cons (pe_callB (call_isX hz hf) (by rfl) T.isinstance (by decide +kernel) (pa_cons (pv 1) (pa_cons (pe_glob (v := .ref (cs 10)) (by rfl) (gc 10 (by decide)) rfl) pa_nil))) (pa_cons (pe_callB (call_isX hz hf) (by rfl) T.isinstance (by decide +kernel) (pa_cons (pv 1) (pa_cons (pe_glob (v := .ref (cs 11)) (by rfl) (gc 11 (by decide)) rfl) pa_nil))) pa_nil))))))
 (pss_cons (ps_set (i := 2) nd rfl (Or.inl rfl) (pe_op op_cat (pv 2) (pe_lst (pa_cons (pe_callB (call_isX hz hf) (by rfl) T.isinstance (by decide +kernel) (pa_cons (pv 1) (pa_cons (pe_glob (v := .ref (cs 12)) (by rfl) (gc 12 (by decide)) rfl) pa_nil))) (pa_cons (pe_callB (call_isX hz hf) (by rfl) T.isinstance (by decide +kernel) (pa_cons (pv 1) (pa_cons (pe_glob (v := .ref (cs 13)) (by rfl) (gc 13 (by decide)) rfl) pa_nil))) pa_nil)))))
 (pss_cons (ps_if (PW.pt (pw_or (pt_cmpR op_ne (pe_bm (X := erX X g cdg s H a oe pn) PySem.F.plainAttrs_list PySem.F.slot_list_count PySem.F.type_list_count mt_countF (pv 2) (pa_cons pe_bl pa_nil)) pe_int (nomark _)) (pw_or1 (pt_not (pt_val (pe_callB (call_isX hz hf) (by rfl) T.isinstance (by decide +kernel) (pa_cons (pv 1) (pa_cons (pe_bltn (v := .ty "ValueError") (by rfl) T.ValueError (by decide +kernel) rfl) pa_nil))))))))
 (pss_one (ps_ret (pe_tup (pa_cons pe_str (pa_cons pe_int pa_nil)))))
 pss_nil)
 (pss_cons (ps_set (i := 3) nd rfl (Or.inl rfl) (pe_lst (pa_cons pe_str (pa_cons pe_str (pa_cons pe_str (pa_cons pe_str (pa_cons pe_str (pa_cons pe_str (pa_cons pe_str (pa_cons pe_str (pa_cons pe_str pa_nil)))))))))))
 (pss_cons (ps_set (i := 4) nd rfl (Or.inl rfl) (pe_ix ix_list (pe_op op_cat (pv 3) (pe_lst (pa_cons pe_str (pa_cons pe_str (pa_cons pe_str (pa_cons pe_str (pa_cons pe_str pa_nil))))))) (pe_bm (X := erX X g cdg s H a oe pn) PySem.F.plainAttrs_list PySem.F.slot_list_index PySem.F.type_list_index mt_index (pv 2) (pa_cons pe_bl pa_nil)) (fun _ _ => rfl)))
 (pss_cons (ps_if (pt_cmpR op_in_seq (pv 4) (pe_lst (pa_cons pe_str (pa_cons pe_str pa_nil))) (by rfl))
 (pss_one (ps_ret (pe_tup (pa_cons (pv 4) (pa_cons (pe_ifExp (pt_cmpR op_eq (pv 4) pe_str (nomark _)) (pe_tup (pa_cons (pe_xfE hz hf (pv 1)) (pa_cons (pe_xfE hz hf (pv 1)) pa_nil))) (pe_tup (pa_cons (pe_xfE hz hf (pv 1)) (pa_cons (pe_xfE hz hf (pv 1)) (pa_cons (pe_xfE hz hf (pv 1)) pa_nil))))) pa_nil)))))
 pss_nil)
 (pss_one (ps_ret (pe_tup (pa_cons (pv 4) (pa_cons (pe_ifExp (pt_cmpR op_in_seq (pv 4) (pe_lst (pa_cons pe_str (pa_cons pe_str (pa_cons pe_str pa_nil)))) (by rfl)) (pe_xfE hz hf (pv 1)) pe_int) pa_nil))))))))))))))
  exact this
theorem sz20 {n : Nat} (h : n ≤ 20) : n ≤ sizeLine := Nat.le_trans h (by decide)
theorem ite_no {b : Bool} {p q : Prop} (h : ¬ b = true) (hq : q) : if b = true then p else q := by rw [if_neg h]; exact hq
theorem ite_yes {b : Bool} {p q : Prop} (h : b = true) (hp : p) : if b = true then p else q := by rw [if_pos h]; exact hp
theorem er_read {a : Addr} {C : Addr} {d : Option Addr} {j : Nat} {H : Hp} {Q : VK} {D : Ends} {x0 x2 x3 x4 : Option V} (E : ErK K cs CR C j) (hd : DOk' H d) (cr : Carry K C H d Q j) (hD : D.rt = Q) :
    erTs K cs a (.ref C) d D [x0, some (.ref a), x2, x3, x4] H := by
  have le20 : ∀ {n m : Nat}, Nat.ble n m = true → n ≤ m := fun h => Nat.le_of_ble_eq_true h
  obtain ⟨j14, eat, eve, _, eis, exf⟩ := E
  have dk : ∀ {H' : Hp} {l : List (Addr × HO)}, Wd [] H H' l → DOk' H' d := fun w dd e => by
    obtain ⟨fs, h⟩ := hd dd e
    exact ⟨fs, w.old h (by simp)⟩
  have iz : ∀ (i : Nat), i < 14 → ∀ {σ : L2.St} {H' : Hp} {l : List (Addr × HO)} {R : VK}, σ[1]? = some (some (V.ref a)) → Wd [] H H' l → R (.bl (decide (i = j))) H' → tCB (rIsX K a (.ref C) d) (tCons (tVar 1) (tCons (tC (V.ref (cs i))) tNil)) σ H' R :=
    fun i hi σ H' l R e w q => ⟨_, e, C, _, _, _, rfl, eis, dk w, rfl, fun u r => r, eat i hi, q⟩
  have cat : ∀ {H' : Hp} {l : List (Addr × HO)} {p q : Addr} {xs zs : List V} {R : VK}, Wd [] H H' l → H' p = some (.lst xs) → H' q = some (.lst zs) → xs.length + zs.length ≤ 20 → (∀ r, H' r = none → R (.ref r) (upd H' r (.lst (xs ++ zs)))) → rCat (.ref p) (.ref q) H' R :=
    fun w h1 h2 h3 h4 => ⟨_, _, _, _, rfl, rfl, h1, h2, sz20 (by omega), h4⟩
  let b := fun i => V.bl (decide (i = j))
  have sz : ∀ n, n ≤ 20 → n ≤ sizeLine := fun n h => sz20 (by omega)
  have w0 := Wd.refl H
  refine iz 0 (by decide) rfl w0 <| iz 1 (by decide) rfl w0 <| iz 2 (by decide) rfl w0 ⟨sz _ (le20 rfl), fun p1 hp1 => ?_⟩
  have w1 := w0.new (.lst [b 0, b 1, b 2]) hp1
  refine ⟨_, rfl, ?_⟩
  refine iz 3 (by decide) rfl w1 <| iz 4 (by decide) rfl w1 <| iz 5 (by decide) rfl w1 ⟨sz _ (le20 rfl), fun p2 hp2 => ?_⟩
  have w2 := w1.new (.lst [b 3, b 4, b 5]) hp2
  refine cat w2 (w2.get 1 rfl) (w2.get 0 rfl) (le20 rfl) fun p3 hp3 => ?_
  have w3 := (w2.new (.lst [b 0, b 1, b 2, b 3, b 4, b 5]) hp3).sub (l' := [(p3, .lst [b 0, b 1, b 2, b 3, b 4, b 5])]) (by walk_at "sub")
  refine ⟨_, rfl, ?_⟩
  refine iz 6 (by decide) rfl w3 <| iz 7 (by decide) rfl w3 <| iz 8 (by decide) rfl w3 ⟨sz _ (le20 rfl), fun p4 hp4 => ?_⟩
  have w4 := w3.new (.lst [b 6, b 7, b 8]) hp4
  refine cat w4 (w4.get 1 rfl) (w4.get 0 rfl) (le20 rfl) fun p5 hp5 => ?_
  have w5 := (w4.new (.lst [b 0, b 1, b 2, b 3, b 4, b 5, b 6, b 7, b 8]) hp5).sub (l' := [(p5, .lst [b 0, b 1, b 2, b 3, b 4, b 5, b 6, b 7, b 8])]) (by walk_at "sub")
  refine ⟨_, rfl, ?_⟩
  refine iz 9 (by decide) rfl w5 <| iz 10 (by decide) rfl w5 <| iz 11 (by decide) rfl w5 ⟨sz _ (le20 rfl), fun p6 hp6 => ?_⟩
  have w6 := w5.new (.lst [b 9, b 10, b 11]) hp6
  refine cat w6 (w6.get 1 rfl) (w6.get 0 rfl) (le20 rfl) fun p7 hp7 => ?_
  have w7 := (w6.new (.lst [b 0, b 1, b 2, b 3, b 4, b 5, b 6, b 7, b 8, b 9, b 10, b 11]) hp7).sub (l' := [(p7, .lst [b 0, b 1, b 2, b 3, b 4, b 5, b 6, b 7, b 8, b 9, b 10, b 11])]) (by walk_at "sub")
  refine ⟨_, rfl, ?_⟩
  refine iz 12 (by decide) rfl w7 <| iz 13 (by decide) rfl w7 ⟨sz _ (le20 rfl), fun p8 hp8 => ?_⟩
  have w8 := w7.new (.lst [b 12, b 13]) hp8
  refine cat w8 (w8.get 1 rfl) (w8.get 0 rfl) (le20 rfl) fun p9 hp9 => ?_
  have w9 : Wd [] H (upd _ p9 (.lst ((List.range 14).map fun i => V.bl (decide (i = j))))) [(p9, .lst ((List.range 14).map fun i => V.bl (decide (i = j))))] := (w8.new _ hp9).sub (by walk_at "sub")
  have f9 := kinds_flat j
  -- the test
  refine ⟨_, rfl, .inl ⟨rfl, _, .inl (.inl (w9.get 0 rfl))⟩, p9, _, _, rfl, rfl, .inl (.inl (w9.get 0 rfl)), rfl, f9, ?_⟩
  refine ⟨rfl, _, rfl, ?_⟩
  have ec : (!decide (V.int (List.countP (fun z => eqV z (V.bl true)) ((List.range 14).map fun i => V.bl (decide (i = j))) : Nat) = V.int 1)) = false := by
    rw [kinds_count ⟨j, j14⟩]; rfl
  show if (!decide (V.int (List.countP (fun z => eqV z (V.bl true)) ((List.range 14).map fun i => V.bl (decide (i = j))) : Nat) = V.int 1)) = true then _ else _
  rw [ec, if_neg (by decide)]
  refine ⟨_, rfl, C, _, _, _, rfl, eis, dk w9, rfl, fun u r => r, eve, _, rfl, ?_⟩
  refine ⟨sz20 (le20 rfl), fun p10 hp10 => ?_⟩
  have w10 := w9.new (.lst (kindN.take 9 |>.map V.str)) hp10
  refine ⟨_, rfl, sz20 (le20 rfl), fun p11 hp11 => ?_⟩
  have w11 := w10.new (.lst (kindN.drop 9 |>.map V.str)) hp11
  refine cat w11 (w11.get 1 rfl) (w11.get 0 rfl) (le20 rfl) fun p12 hp12 => ?_
  have w12 : Wd [] H (upd _ p12 (.lst (kindN.map V.str))) ((p12, .lst (kindN.map V.str)) :: _) := w11.new _ hp12
  refine ⟨_, rfl, .inl ⟨rfl, _, .inl (.inl (w12.get 3 rfl))⟩, p9, _, _, j, _, rfl, rfl, .inl (.inl (w12.get 3 rfl)), rfl, f9, kinds_at ⟨j, j14⟩, rfl, fun m z' hm hz => ?_, ?_⟩
  · rw [kinds_no ⟨j, j14⟩ ⟨m, by omega⟩ hm] at hz
    cases hz; rfl
  have ek := kind_get ⟨j, j14⟩
  refine ⟨_, _, _, .str (kindN.getD j ""), rfl, rfl, .inl (.inl (w12.get 0 rfl)), at_of (j := j) rfl ek, ?_⟩
  refine ⟨_, rfl, sz20 (le20 rfl), fun p13 hp13 => ?_⟩
  have w13 := w12.new (.lst [.str "syntax", .str "check"]) hp13
  refine ⟨p13, [.str "syntax", .str "check"], rfl, .inl (.inl (.inl (w13.get 0 rfl))), rfl, rfl, decide (j = 9 ∨ j = 10), by rw [← kind_two ⟨j, j14⟩]; rfl, ?_⟩
  cases cr with
  | none hj hd q =>
    refine ite_no (b := _) (by rw [decide_eq_true_eq]; omega) ?_
    refine ⟨_, rfl, _, rfl, sz20 (le20 rfl), fun p14 hp14 => ?_⟩
    have w14 := w13.new (.lst [.str "code", .str "operation", .str "session"]) hp14
    refine ⟨p14, [.str "code", .str "operation", .str "session"], rfl, .inl (.inl (.inl (w14.get 0 rfl))), rfl, rfl, decide (11 ≤ j), by rw [← kind_three ⟨j, j14⟩]; rfl, ?_⟩
    refine ite_no (b := _) (by rw [decide_eq_true_eq]; omega) ?_
    refine ⟨sz20 (le20 rfl), fun p15 hp15 => ?_⟩
    rw [hD]
    exact q _ _ ((w14.new _ hp15).sub (by walk_at "sub"))
  | place hj hd ha hl no q =>
    refine ite_no (b := _) (by rw [decide_eq_true_eq]; omega) ?_
    refine ⟨_, rfl, _, rfl, sz20 (le20 rfl), fun p14 hp14 => ?_⟩
    have w14 := w13.new (.lst [.str "code", .str "operation", .str "session"]) hp14
    refine ⟨p14, [.str "code", .str "operation", .str "session"], rfl, .inl (.inl (.inl (w14.get 0 rfl))), rfl, rfl, decide (11 ≤ j), by rw [← kind_three ⟨j, j14⟩]; rfl, ?_⟩
    refine ite_yes (b := _) (by rw [decide_eq_true_eq]; omega) ?_
    refine ⟨_, rfl, rfl, C, _, _, _, rfl, exf, no, hd, w14.old ha (by simp), hl, sz20 (le20 rfl), fun p15 hp15 => ?_⟩
    rw [hD]
    exact q _ _ ((w14.new _ hp15).sub (by walk_at "sub"))
  | @syn dd fs l c hd ha h1 h2 n1 n2 q =>
    refine ite_yes (b := _) (by decide) ?_
    refine ⟨_, rfl, _, rfl, rfl, _, rfl, ?_⟩
    refine ite_yes (b := _) (by decide +kernel) ?_
    refine ⟨_, rfl, rfl, C, _, _, _, rfl, exf, n1, hd, w13.old ha (by simp), h1, _, rfl, rfl, C, _, _, _, rfl, exf, n2, hd, w13.old ha (by simp), h2, sz20 (le20 rfl), fun p14 hp14 => ?_⟩
    have w14 := w13.new (.tup [.int l, .int c]) hp14
    refine ⟨sz20 (le20 rfl), fun p15 hp15 => ?_⟩
    rw [hD]
    exact q _ _ _ ((w14.new _ hp15).sub (by walk_at "sub"))
  | @chk dd fs r l c hd ha h0 h1 h2 n0 n1 n2 q =>
    refine ite_yes (b := _) (by decide) ?_
    refine ⟨_, rfl, _, rfl, rfl, _, rfl, ?_⟩
    refine ite_no (b := _) (by decide +kernel) ?_
    refine ⟨_, rfl, rfl, C, _, _, _, rfl, exf, n0, hd, w13.old ha (by simp), h0, _, rfl, rfl, C, _, _, _, rfl, exf, n1, hd, w13.old ha (by simp), h1, _, rfl, rfl, C, _, _, _, rfl, exf, n2, hd, w13.old ha (by simp), h2, sz20 (le20 rfl), fun p14 hp14 => ?_⟩
    have w14 := w13.new (.tup [.str r, .int l, .int c]) hp14
    refine ⟨sz20 (le20 rfl), fun p15 hp15 => ?_⟩
    rw [hD]
    exact q _ _ _ ((w14.new _ hp15).sub (by walk_at "sub"))
theorem er_gives {X : Cx} {q : Str} {g : Addr} {cdg : Value} (T : Bi X.mg) (hR : X.mg "RotaError" = some (.ref CR)) (gc : ∀ i, i < 14 → X.mg (clsN.getD i "") = some (.ref (cs i))) :
    LamX.GivesTo X ["_law_call", "e", "_law_kinds", "_law_names", "_law_name"] "_law_error_of" (defScope s_law_error_of) g cdg (defBody s_law_error_of) "_law_call" q (TTe X.K cs CR) := by
  intro f c' s H Q tl act hc h
  have nd := sc_law_error_of.nd
  refine ⟨_, pss_cons (ps_try_as (i := 1) (c := .ref CR) (ts := erTs X.K cs) (Wout := fun _ _ _ _ => False)
      (tb := fun W D σ H => ∃ Ech : XK, (∀ cls d σ' H', Ech cls d H' → σ'.length = 5 → W cls d σ' H') ∧ σ[0]? = some (some (.ref f)) ∧ H c' = some (LamX.CodeO c' q) ∧ tl Ech H (fun _ H' => D.nx σ H'))
      rfl rfl nd rfl rfl ⟨by rfl, by decide, .inl hR⟩ takes0 (fun W pn xe tk _ => ?_) (fun a oe cls d pn hz hf => er_suite (g := g) (cdg := cdg) (s := s) (H := H) T nd gc hz hf)) (pss_one (ps_ret pe_non)), ?_⟩
  · refine ⟨fun pins s σ H D I ⟨Ech, hE, h0, hC, ht⟩ => ?_⟩
    exact (pss_one (ps_expr (act (fun c d σ H => σ.length = 5 → W c d σ H) pn xe Ech _ _ (takes_len tk) (fun cls d σ' H' e hl => hE cls d σ' H' e hl)))).run pins s σ H D I ⟨h0, hC, ht⟩
  · refine ⟨ErW X.K cs CR Q, fun cls d σ' H' ⟨C, j, ec, Ek, hd, cr⟩ hl => ?_, rfl, hc, h⟩
    subst ec
    obtain ⟨y0, y1, y2, y3, y4, rfl⟩ := five hl
    exact ⟨true, Ek.ex, fun _ a na => er_read Ek hd cr rfl, fun z => nomatch z⟩
end
end Br

/-! the law's _law_error_of(lambda: ..); a def whose code object is known. -/
namespace Br
open PySem PySem.Spec PyProof.Rows L2
/-- a def, its code object told -/
structure FunC (K : PySem.W.Frag) (x qual : Str) (st : Stmt) (f : Addr) (fd : FuncData) (c : Addr) : Prop where
  ex : ∃ (oc : Value) (od : Option Addr) (kV doc pm : Value) (an : Option Addr) (ct : Value) (osl : Array (Option Value)),
    fd = PySem.W.fnOf x qual (defArgs st) (defBody st) (defScope st) .none kV doc pm an (.ref c) ct ∧ K.lookup f = some ⟨oc, od, .func fd, osl⟩ ∧ PySem.W.codeIn K (.ref c) qual = true
section
variable {P : Program} {w : World} {K : PySem.W.Frag} {mg : Str → Option Value} {base : Heap}
theorem FunC.ok {x qual : Str} {st : Stmt} {f c : Addr} {fd : FuncData} {N ps : List Str} {k : Nat} {sp : Sp} (F : FunC K x qual st f fd c) (S : FnScope N ps (defScope st)) (len : ∀ vs H Q E, sp vs H Q E → vs.length = ps.length)
    (hbody : ∀ (A : Around) (outer : List Env) (s : Shared) (H : Hp) (vs : List V) (Q : VK) (E : XK), Room k (A.deeper (envOfC qual (defScope st) s.heap.objs.size f (.ref c))) → sp vs H Q E →
      ∃ t, PSs (cxOf CX0 P w K mg base N qual (defScope st) f (.ref c) A outer s H E).nox (defBody st) t ∧ t { nx := fun _ H' => Q .non H', rt := Q } (L2.start N vs) H) : FnOk P w K mg base CX0 (k + 1) f fd ps sp := by
  obtain ⟨oc, od, kV, doc, pm, an, ct, osl, rfl, lk, hcd⟩ := F.ex
  refine fn_of lk hcd S len fun A outer s H vs Q E hr hsp => ?_
  obtain ⟨t, h, q⟩ := hbody A outer s H vs Q E hr hsp
  exact ⟨t, h.nox, q⟩
theorem funC_mk {x qual : Str} {st : Stmt} {f c : Addr} {oc : Value} {od an : Option Addr} {osl : Array (Option Value)} {kV doc pm ct : Value} (l : K.lookup f = some ⟨oc, od, .func (PySem.W.fnOf x qual (defArgs st) (defBody st) (defScope st) .none kV doc pm an (.ref c) ct), osl⟩)
    (h : PySem.W.codeIn K (.ref c) qual = true) : FunC K x qual st f (PySem.W.fnOf x qual (defArgs st) (defBody st) (defScope st) .none kV doc pm an (.ref c) ct) c := ⟨oc, od, kV, doc, pm, an, ct, osl, rfl, l, h⟩
end
section
variable {X : Cx} {cs : Nat → Addr} {CR P' c : Addr} {k : Nat} {params : Arguments} {body : Expr} {scope : Scope} {t : XK → TE} {p lpos pos : Pos}
/-- _law_error_of(lambda: body) -/
theorem pe_erof (D : DefAt X.K X.mg "_law_error_of" s_law_error_of ["_law_call"]) (T : Bi X.mg) (hR : X.mg "RotaError" = some (.ref CR)) (gc : ∀ i, i < 14 → X.mg (clsN.getD i "") = some (.ref (cs i))) (TB : LamX.TabB X.base X.mg c P') (hg : Gl X "_law_error_of") (hcode : X.env.code = .ref c)
    (hr : Room (k + 2) X.A) (L : LamX.LamS X.env.scope scope) (hdef : defaultsOf params X.env = ([], []))
    (hbind : ∀ (q : Str) (cl : List (Str × Addr)) (pm cv ctv : Value), bindArgs (PySem.W.kla_fn "<lambda>" q params body scope cl pm cv ctv) ⟨[], []⟩ = pure [])
    (hbody : ∀ (A : Around) (outer : List Env) (s : Shared) (H : Hp) (E : XK) (f c' : Addr), Room k (A.deeper (LamX.lamEnv X scope s.heap.objs.size f c')) → PE (LamX.lamCx X A outer s H E scope f c') body (t E)) :
    PE X (.Call (.Name "_law_error_of" p) [.Lambda params body scope lpos] [] pos) (LamX.tLam [(P', X.env.qual ++ "<lambda>")] (TTe X.K cs CR) t) := by
  obtain ⟨f, fd, m, F, b⟩ := D.ex
  obtain ⟨oc, od, kV, doc, pm, an, cdv, ct, osl, rfl, lk, hcd⟩ := F.ex
  exact LamX.pe_lamcall hg m F.kp lk hcd b sc_law_error_of rfl (Or.inl rfl) (er_gives T hR gc) TB hcode (List.mem_singleton.mpr rfl) (fun p hp _ => by rw [List.mem_singleton.mp hp]) hr L hdef hbind hbody
end
/-! ### the tables are kept -/
theorem tabs_wd {T : List (Addr × Str)} {M : List Addr} {H H' : Hp} {l : List (Addr × HO)} (t : LamX.Tabs T H) (w : Wd M H H' l) (hM : ∀ a ∈ M, ∃ xs, H a = some (.lst xs)) : LamX.Tabs T H' := fun p hp => by
  obtain ⟨ps, h1, h2, h3⟩ := t p hp
  have ne : ∀ {b : Addr} {o : HO}, H b = some o → (∀ xs, o ≠ .lst xs) → b ∉ M := fun e n hb => by
    obtain ⟨xs, e2⟩ := hM _ hb
    rw [e] at e2
    exact n xs (Option.some.inj e2)
  refine ⟨ps, w.base _ _ (ne h1 fun xs z => by cases z) h1, h2, fun pos cv hc => ?_⟩
  obtain ⟨c, e, hk⟩ := h3 pos cv hc
  exact ⟨c, e, w.base _ _ (ne hk fun xs z => by unfold LamX.CodeO at z; cases z) hk⟩
theorem tabs_mut {T : List (Addr × Str)} {H : Hp} {a : Addr} {xs : List V} {o : HO} (t : LamX.Tabs T H) (h : H a = some (.lst xs)) : LamX.Tabs T (upd H a o) := fun p hp => by
  obtain ⟨ps, h1, h2, h3⟩ := t p hp
  have ne : ∀ {b : Addr} {o : HO}, H b = some o → (∀ xs, o ≠ .lst xs) → b ≠ a := fun e n z => by
    subst z
    rw [h] at e
    exact n xs (Option.some.inj e).symm
  refine ⟨ps, by rw [upd_ne (ne h1 fun xs z => by cases z)]; exact h1, h2, fun pos cv hc => ?_⟩
  obtain ⟨c, e, hk⟩ := h3 pos cv hc
  exact ⟨c, e, by rw [upd_ne (ne hk fun xs z => by unfold LamX.CodeO at z; cases z)]; exact hk⟩
end Br

/-! a def with cells whose body begins with a token out (its own parameter gives one). -/
namespace Br
open PySem PySem.Spec PyProof.Rows L2
theorem newEnv_cellsT {M : Model} {A : Around} {E : Value → Shared → Prop} {s : Shared} {scope : Scope} {globals : Addr} {n : Str} {v : Value} {r : List (Str × Value)} {qual : Str} {func : Option Addr} {code : Value} {builtins : Addr} {Q : Env → Shared → Prop}
    (hk : scope.kind = .function) (hl : scope.names.lookup n = some .local)
    (hkind : ∀ x ∈ r, scope.names.lookup x.1 = some .local ∨ (scope.names.lookup x.1 = some .cell ∧ ((cellsFrom (s.heap.objs.size + 1) scope.names []).lookup x.1).isSome = true))
    (hQ : ∀ env, env = newEnv scope s.heap.objs.size globals (cellsFrom (s.heap.objs.size + 1) scope.names []) qual func code none builtins →
      ∀ s', 1 ≤ s'.toks → InCallC s env.locals (bindL env.kindOf ((n, v) :: r) fun _ => none) env.cells (bindC env.kindOf ((n, v) :: r) fun _ => none) s' → Q env s') :
    wpAny M A (newFunctionEnv scope globals [] ((n, v) :: r) qual func code none builtins) Q E s := by
  simp only [newFunctionEnv, Option.isSome_none, Bool.false_eq_true, if_false]
  refine wpAny_bind (wpAny_alloc ?_)
  refine wpAny_bind (wpAny_layCells _ (fun name kind cells => by cases hkc : kind == NameKind.cell <;> simp [hkc]) _ _ _ _ ?_)
  have ok := cellsFrom_ok scope.names (s.heap.push { cls := .type "frame", data := .dict #[] }) (s.heap.objs.size + 1) [] ⟨fun _ _ hm => (nomatch hm), List.Pairwise.nil⟩ (by rw [Heap.size_push]; exact Nat.le_refl _)
  rw [Heap.size_push] at ok
  rw [show ({ s with heap := s.heap.push { cls := .type "frame", data := .dict #[] } } : Shared).heap.objs.size = s.heap.objs.size + 1 from Heap.size_push ..]
  have x0 : InCallC s (newEnv scope s.heap.objs.size globals (cellsFrom (s.heap.objs.size + 1) scope.names []) qual func code none builtins).locals (fun _ => none) (newEnv scope s.heap.objs.size globals (cellsFrom (s.heap.objs.size + 1) scope.names []) qual func code none builtins).cells (fun _ => none) { s with heap := pushCells (s.heap.push { cls := .type "frame", data := .dict #[] }) scope.names } :=
    ⟨⟨⟨_, _, rfl⟩, (Heap.Ns.new s.heap (.type "frame")).keeps (pushCells_keeps _ _), fun b o e => pushCells_keeps _ _ b o (Heap.get?_push_of_some _ e), Nat.le_refl _⟩,
      fun n c hc => (ok.empty n c (mem_of_lookup hc)).1, ok.apart, fun n c hm => (ok.empty n c hm).2⟩
  have hl' : (newEnv scope s.heap.objs.size globals (cellsFrom (s.heap.objs.size + 1) scope.names []) qual func code none builtins).kindOf n = some .local := by
    first
    | exact hl
    | (simp only [Env.kindOf]; exact hl)
    | (unfold Env.kindOf; rw [if_pos hk]; exact hl)
    | simpa [Env.kindOf, newEnv, hk] using hl
  rw [List.forIn_cons]
  refine wpAny_bind (wpAny_bind ?_)
  refine wpAny_bind (wpAny_storeName_local hl' x0.toInCall.ns (fun h' hn' hs' => wpAny_pure ?_) (by show ((scope.kind == .class || _) = false); rw [hk]; rfl))
  have x1 : InCallC s (newEnv scope s.heap.objs.size globals (cellsFrom (s.heap.objs.size + 1) scope.names []) qual func code none builtins).locals (fun y => if y = n then some v else none) (newEnv scope s.heap.objs.size globals (cellsFrom (s.heap.objs.size + 1) scope.names []) qual func code none builtins).cells (fun _ => none) { s with heap := h', toks := s.toks + 1 } := by
    refine ⟨⟨⟨h', _, rfl⟩, hn', fun b o e => ?_, x0.toInCall.fresh⟩, fun k c hc => ?_, x0.apart, x0.above⟩
    · exact hs'.extBut b o (Nat.ne_of_lt (Nat.lt_of_lt_of_le (Heap.lt_size e) x0.toInCall.fresh)) (x0.toInCall.keep b o e)
    · exact (x0.cell k c hc).sameBut hs' (Nat.ne_of_gt (x0.above k c (mem_of_lookup hc)))
  refine wpAny_mono (PySem.wpAny_toks (wpAny_bindParams (s₀ := s) (env := newEnv scope s.heap.objs.size globals (cellsFrom (s.heap.objs.size + 1) scope.names []) qual func code none builtins) _ (fun _ _ _ => rfl) hk r _ _ _ (fun _ s' => InCallC s s.heap.objs.size _ _ _ s') x1 hkind fun s' x => x)) (fun _ s' x => wpAny_pure (hQ _ rfl s' ?_ ?_)) fun _ _ x => x.2
  · have := x.1; show 1 ≤ s'.toks; have e : s.toks + 1 ≤ s'.toks := this; omega
  · have := x.2
    unfold bindL bindC
    rw [if_pos hl', if_pos hl']
    exact this
/-- fn_of, a token out; the first parameter is a local -/
theorem fn_ofTC {CX : CXT} {P : Program} {w : World} {K : PySem.W.Frag} {mg : Str → Option Value} {base : Heap} {k : Nat} {f : Addr} {name qual : Str} {params : Arguments} {body : List Stmt} {scope : Scope} {dV kV doc pm cdv ct oc : Value} {an od : Option Addr}
    {osl : Array (Option Value)} {N ps : List Str} {p0 : Str} {sp : Sp} (lk : K.lookup f = some ⟨oc, od, .func (PySem.W.fnOf name qual params body scope dV kV doc pm an cdv ct), osl⟩) (hcd : PySem.W.codeIn K cdv qual = true) (S : FnScope N (p0 :: ps) scope) (h0 : scope.names.lookup p0 = some .local)
    (len : ∀ vs H Q E, sp vs H Q E → vs.length = (p0 :: ps).length)
    (hbody : ∀ (A : Around) (outer : List Env) (s : Shared) (H : Hp) (vs : List V) (Q : VK) (E : XK), Room k (A.deeper (envOfC qual scope s.heap.objs.size f cdv)) → sp vs H Q E →
      ∃ t, PSsT (cxOf CX P w K mg base N qual scope f cdv A outer s H E) body t ∧ t { nx := fun _ H' => Q .non H', rt := Q } (L2.start N vs) H) :
    FnOk P w K mg base CX (k + 1) f (PySem.W.fnOf name qual params body scope dV kV doc pm an cdv ct) (p0 :: ps) sp := by
  refine ⟨len, fun A outer s H args us vs Q E hr e0 hb r hsp => ?_⟩
  have hl := len _ _ _ _ hsp
  have KX : K.In s.heap := e0.mod.kin.keeps fun b o e => (e0.bs b o e).1
  have lim : s.heap.NoLimit := e0.mod.nolimit.keeps fun b o e => (e0.bs b o e).1
  obtain ⟨u0, us, rfl⟩ : ∃ u0 us', us = u0 :: us' := by
    cases us with
    | nil => have := r.length; rw [hl] at this; cases this
    | cons u us => exact ⟨u, us, rfl⟩
  have hkind : ∀ y ∈ ps.zip us, scope.names.lookup y.1 = some .local ∨ (scope.names.lookup y.1 = some .cell ∧ ((cellsFrom (s.heap.objs.size + 1) scope.names []).lookup y.1).isSome = true) := fun ⟨n, v⟩ hy => by
    rcases S.par n (List.mem_cons_of_mem _ (List.of_mem_zip hy).1) with q | q
    · exact .inl q
    · exact .inr ⟨q, PySem.W.cellsFrom_some _ _ _ (.inl q)⟩
  refine codeAny_call_function hr.depth (KX _ _ lk) rfl S.co S.gen rfl (PySem.W.codeRec_of KX hcd) (hb _ _ _ _ ?_)
  show wpAny _ _ (newFunctionEnv _ _ _ ((p0, u0) :: ps.zip us) _ _ _ _ _) _ _ _
  refine newEnv_cellsT S.kind h0 hkind fun env he s1 ht1 x => ?_
  subst he
  refine ⟨lim.keeps x.toInCall.keep, codeAny_func ?_⟩
  obtain ⟨t, ht, hq⟩ := hbody A outer s H vs Q E (hr.deeper _) hsp
  have I : Inv (cxOf CX P w K mg base N qual scope f cdv A outer s H E) [] (L2.start N vs) H s1 := inv_start S hr.hd e0 hl r x
  refine wpAny_mono (ht [] s1 (L2.start N vs) H _ ht1 I hq) (fun fl s' hs => ?_) fun e s' hs => hs
  have fin : ∀ {σ' : L2.St} {H' : Hp} {v : V} {u : Value}, Inv (cxOf CX P w K mg base N qual scope f cdv A outer s H E) [] σ' H' s' → RelV v u → Q v H' → CE outer P w H s Q u s' :=
    fun {σ' H' v u} J rv q => ⟨v, H', J.os, J.bare, J.base, J.hok, rv, q⟩
  cases fl with
  | ret u =>
    obtain ⟨v, σ', H', J, rv, q⟩ := hs
    exact fin J rv q
  | next =>
    obtain ⟨σ', H', J, q⟩ := hs
    exact fin (v := V.non) (u := Value.none) J rfl q
  | brk =>
    obtain ⟨_, _, _, q⟩ := hs
    exact False.elim q
  | cont =>
    obtain ⟨_, _, _, q⟩ := hs
    exact False.elim q
section
variable {P : Program} {w : World} {K : PySem.W.Frag} {mg : Str → Option Value} {base : Heap}
theorem PSsT.nox {X : Cx} {st : List Stmt} {t : TS} (h : PSsT X.nox st t) : PSsT X st t := fun pins s σ H D h0 I hw => wpAny_mono (h pins s σ H D h0 (I.wish _) hw) (fun _ _ q => q.unwish) fun _ _ z => False.elim z
theorem FunC.okT {x qual : Str} {st : Stmt} {f c : Addr} {fd : FuncData} {N ps : List Str} {p0 : Str} {k : Nat} {sp : Sp} (F : FunC K x qual st f fd c) (S : FnScope N (p0 :: ps) (defScope st)) (h0 : (defScope st).names.lookup p0 = some .local) (len : ∀ vs H Q E, sp vs H Q E → vs.length = (p0 :: ps).length)
    (hbody : ∀ (A : Around) (outer : List Env) (s : Shared) (H : Hp) (vs : List V) (Q : VK) (E : XK), Room k (A.deeper (envOfC qual (defScope st) s.heap.objs.size f (.ref c))) → sp vs H Q E →
      ∃ t, PSsT (cxOf CX0 P w K mg base N qual (defScope st) f (.ref c) A outer s H E).nox (defBody st) t ∧ t { nx := fun _ H' => Q .non H', rt := Q } (L2.start N vs) H) : FnOk P w K mg base CX0 (k + 1) f fd (p0 :: ps) sp := by
  obtain ⟨oc, od, kV, doc, pm, an, ct, osl, rfl, lk, hcd⟩ := F.ex
  refine fn_ofTC lk hcd S h0 len fun A outer s H vs Q E hr hsp => ?_
  obtain ⟨t, h, q⟩ := hbody A outer s H vs Q E hr hsp
  exact ⟨t, PSsT.nox h, q⟩
end
section
variable {X : Cx}
theorem pet_call {CX : CXT} {k : Nat} {f : Addr} {fd : FuncData} {ps : List Str} {sp : Sp} {ds : List Value} {dvs : List V} {E : XK} {x : Str} {e : Expr} {es : List Expr} {t : TA} {p pos : Pos} (F : FnOk X.prog X.w X.K X.mg X.base CX k f fd ps sp) (hr : Room k X.A) (hg : Gl X x) (hm : X.mg x = some (.ref f)) (hk : PySem.W.keepIn X.K (.ref f) = true) (hb : Binds X.K fd ps ds) (hd : Vals dvs ds) (hx : Passes CX X E)
    (ha : PAT X (e :: es) t) (hdb : (x == ("__debug__" : Str)) = false := by decide) (he : starEach (e :: es) X.env = (false, eval e X.env) :: starEach es X.env := by rfl) (hpl : (backTo pos (starEach es X.env)).any (·.1) = false := by rfl) :
    PET X (.Call (.Name x p) (e :: es) [] pos) (tCall sp dvs E t) := by
  intro pins s σ H Q h0 I h
  refine wpAny_Call_Name_kw (ld_glob I hg hm ?_ hdb)
  refine PySem.W.callWith_K (h₀ := X.base) I.ok.mod.kin hk (thn (ha pos pins s σ H _ h0 I h) fun us s1 ⟨vs, H1, I1, r, q⟩ => ⟨I1.kIn, ?_⟩) he hpl
  exact run_fn F hr hb hd hx I1 r q
end
end Br

/-! rules with a token out: a value stored, a text's words, a loop; and k01's lists of words. -/
namespace Br
open PySem PySem.Spec PyProof.Rows L2
section
variable {X : Cx} {st : Stmt} {rest : List Stmt} {t u : TS}
theorem pss_consT1 (h1 : PS X st t) (h2 : PSsT X rest u) : PSsT X (st :: rest) (tSeq t u) := psst_cons (PST.of h1) h2
theorem psst_consO (h1 : PST X st t) (h2 : PSs X rest u) : PSsT X (st :: rest) (tSeq t u) := psst_cons h1 (PSsT.of h2)
theorem pst_set {i : Nat} {x : Str} {e : Expr} {te : TE} {pos' pos : Pos} (hN : X.N.Nodup) (hi : X.N[i]? = some x) (hx : Loc X.env.scope x) (he : PET X e te) (hs : swapsWith e (some (.Name x pos')) pos.line X.env = pure false := by rfl)
    (hf : X.fn x = true ∨ X.env.scope.names.lookup x = some .local := by first | exact .inl rfl | exact .inr rfl | assumption) : PST X (.Assign [.Name x pos'] e pos) (tAsg te (gName i)) := by
  intro pins s σ H D h0 I h
  refine wpAny_Assign_Name (thn (he pins s σ H _ h0 I h) fun v s1 ⟨y, H1, I1, r1, q1⟩ => ?_) hs
  exact store_ok I1 hN hi hx r1 (fun s2 I2 => ⟨_, H1, I2, q1⟩) hf
theorem pet_words {o : Expr} {to : TE} {apos pos : Pos} (ho : PET X o to) (hbase : attributeBase o "split" X.env (eval o X.env) = eval o X.env := by rfl) (hline : (apos.endLine == pos.line) = true := by rfl) :
    PET X (.Call (.Attribute o "split" apos) [] [] pos) (tM0 (fun x xs H Q => ∃ a, x = .str a ∧ xs = [] ∧ a.length + 2 ≤ sizeLine ∧ rNewStrs (Txt.words a) H Q) to) := by
  intro pins s σ H Q h0 I h
  refine PySem.Call_method0 hbase hline (thn (ho pins s σ H _ h0 I h) fun v s1 ⟨x, H1, I1, r1, q1⟩ => ?_)
  obtain ⟨⟨a, rfl⟩, q1⟩ := q1
  obtain ⟨t, rfl⟩ := _root_.id r1
  exact ⟨"str", _, PySem.F.plainAttrs_str, PySem.F.slot_str_split, PySem.F.type_str_split, typeIs_str _ _ _, (fun _ e => nomatch e), Calls.callWith_builtin rfl (PySem.evalArgs_none (mt_words pins s1 σ H1 _ [] _ [] Q I1 r1 .nil q1))⟩
theorem thnk {α : Type} {t : Sem α} {Q Q' : α → Shared → Prop} {M : Model} {A : Around} {E : Value → Shared → Prop} {s : Shared} (h : wpAny M A t Q E s) (hQ : ∀ a s', s.toks ≤ s'.toks → Q a s' → Q' a s') : wpAny M A t Q' E s :=
  wpAny_mono (PySem.wpAny_toks h) (fun a s' q => hQ a s' q.1 q.2) fun _ _ z => z.2
theorem PIT.ofI {tg iter : Expr} {wi : TI} (h : PI X tg iter wi) : PIT X tg iter wi := fun pins s σ H R _ I q => h.run pins s σ H R I q
/-- for, a token out in the body as well -/
theorem pst_forT {tg iter : Expr} {body : List Stmt} {wi : TI} {g : TG} {tb : TS} {pos : Pos} (hp : PassesOwn (model X.prog X.w) X.A X.env X.xe) (hc : X.calm = true) (hi : PIT X tg iter wi) (hg : L2.PG X tg g) (hb : PSsT X body tb)
    (hs : ∀ x, foldedSetIterable iter X.env x = pure x := by intro _; rfl) : PST X (.For tg iter body [] pos) (tFor wi g tb) := by
  intro pins s σ H D h0 I h
  refine wpAny_For (thnk (hi pins s σ H _ h0 I h) fun v s1 k1 h1 => thnk h1 fun itv s2 k2 h2 => ?_) hs
  obtain ⟨it, fp, tn, J, H2, e, I2, T, st2, f2, W, ⟨m0, w0⟩, turn⟩ := h2
  subst e
  have stat : ∀ {H' : Hp}, (∀ b ∈ fp, H' b = none) → ∀ b ∈ fp, FpOk X pins H' b := fun hn b hb => ⟨hn b hb, (f2 b hb).2⟩
  refine codeAny_forLoop_any (fun n s' => ∃ i σ' H', 1 ≤ s'.toks ∧ Inv X pins σ' H' s' ∧ tn i s'.heap ∧ (∀ b ∈ fp, H' b = none) ∧ W i n σ' H') ?_ m0 ⟨0, σ, H2, Nat.le_trans h0 (Nat.le_trans k1 k2), I2, st2, fun b hb => (f2 b hb).1, w0⟩
  rintro n s3 ⟨i, σ3, H3, k3, I3, st3, fr3, w3⟩
  rcases turn i n σ3 H3 w3 with ⟨stop, qn⟩ | ⟨go, N, hN, step⟩
  · refine wpAny_passesOwn hp (thn (T.done X rfl rfl rfl hc i pins s3 σ3 H3 X.xe I3 (stat fr3) st3 stop) fun r s4 ⟨hr, I4⟩ => ?_)
    subst hr
    exact wpAny_execs_nil ⟨σ3, H3, I4, qn⟩
  · refine wpAny_passesOwn hp (thnk (T.item X rfl rfl rfl hc i pins s3 σ3 H3 X.xe I3 (stat fr3) st3 go) fun r s4 k4 ⟨u, hr, h4⟩ => ?_)
    subst hr
    refine wpAny_passesOwn hp (thnk h4 fun _ s5 k5 ⟨x, H5, I5, r5, y5, st5, fr5⟩ => ?_)
    have I5' := I5.pinned (stat fr5) (T.obj _ _ st5)
    refine wpAny_passesOwn hp (thnk (hg.run _ s5 σ3 H5 x u _ I5' r5 (step x H5 y5)) fun _ s6 k6 ⟨σ6, H6, I6, q6⟩ => ?_)
    have k06 : 1 ≤ s6.toks := Nat.le_trans k3 (Nat.le_trans k4 (Nat.le_trans k5 k6))
    refine wpAny_passesOwn hp (thnk (hb _ s6 σ6 H6 _ k06 I6 q6) fun f s7 k7 q7 => ?_)
    have again : ∀ {σ7 : L2.St} {H7 : Hp}, Inv X (pins ++ pinsAt fp s5.heap) σ7 H7 s7 → N σ7 H7 → ∃ m, m < n ∧ ∃ i σ' H', 1 ≤ s7.toks ∧ Inv X pins σ' H' s7 ∧ tn i s7.heap ∧ (∀ b ∈ fp, H' b = none) ∧ W i m σ' H' := fun {σ7 H7} I7 n7 => by
      obtain ⟨m', hm, w7⟩ := hN σ7 H7 n7
      refine ⟨m', hm, i + 1, σ7, H7, Nat.le_trans k06 k7, I7.unpinned, T.keep _ _ _ st5 fun b hb o e => (I7.pin (b, o) (List.mem_append_right _ (List.mem_append_right _ (mem_pinsAt hb e)))).1, fun b hb => ?_, w7⟩
      obtain ⟨o, e, d⟩ := T.obj _ _ st5 b hb
      exact (I7.pin (b, o) (List.mem_append_right _ (List.mem_append_right _ (mem_pinsAt hb e)))).2.1
    cases f with
    | next => obtain ⟨σ7, H7, I7, n7⟩ := q7; exact again I7 n7
    | cont => obtain ⟨σ7, H7, I7, n7⟩ := q7; exact again I7 n7
    | brk => obtain ⟨σ7, H7, I7, q7⟩ := q7; exact ⟨σ7, H7, I7.unpinned, q7⟩
    | ret v => obtain ⟨x7, σ7, H7, I7, r7, q7⟩ := q7; exact ⟨x7, σ7, H7, I7.unpinned, r7, q7⟩
end
/-! ### cuts -/
theorem cut_lo {xs : List V} (k : Nat) : cutV xs none (some (k : Int)) = xs.take k := by
  unfold cutV
  rw [HT.sIx_none, HT.sIx_nat, List.drop_zero, Nat.sub_zero, ← List.take_eq_take_min]
theorem cut_hi {xs : List V} (k : Nat) : cutV xs (some (k : Int)) none = xs.drop k := by
  unfold cutV
  rw [HT.sIx_none, HT.sIx_nat]
  by_cases h : k ≤ xs.length
  · rw [Nat.min_eq_left h]
    exact List.take_of_length_le (by rw [List.length_drop]; omega)
  · rw [Nat.min_eq_right (by omega), List.drop_of_length_le (Nat.le_refl _), List.drop_of_length_le (by omega : xs.length ≤ k)]
    simp
/-! ### lists of the law's words -/
def rs1 (ws : List Str) : Nat := (ws.map fun w => runsB false (TL.tl w)).sum
theorem rs1_app (a b : List Str) : rs1 (a ++ b) = rs1 a + rs1 b := by unfold rs1; rw [List.map_append, List.sum_append]
theorem rs1_drop (k : Nat) (ws : List Str) : rs1 (ws.drop k) ≤ rs1 ws := by
  have h : rs1 (ws.take k ++ ws.drop k) = rs1 ws := by rw [List.take_append_drop]
  rw [rs1_app] at h
  omega
theorem rs1_cut {i k : Nat} (h : i ≤ k) (ws : List Str) : rs1 (ws.take i) + rs1 (ws.drop k) ≤ rs1 ws := by
  have h1 : rs1 (ws.take i ++ ws.drop i) = rs1 ws := by rw [List.take_append_drop]
  rw [rs1_app] at h1
  have h2 := rs1_drop (k - i) (ws.drop i)
  rw [List.drop_drop, Nat.add_sub_cancel' h] at h2
  omega
theorem rs1_le {ws : List Str} (h : ∀ w ∈ ws, w ∈ ws1) : rs1 ws ≤ ws.length := by
  induction ws with
  | nil => exact Nat.le_refl _
  | cons w r ih =>
    have h1 := (ws1_ok (h w List.mem_cons_self)).run
    have h2 := ih fun x hx => h x (List.mem_cons_of_mem _ hx)
    show runsB false (TL.tl w) + rs1 r ≤ r.length + 1
    omega
structure Gd (j : Nat) (ws : List Str) : Prop where
  in1 : ∀ w ∈ ws, w ∈ ws1
  len : ws.length ≤ 80 + j
  run : rs1 ws ≤ 55 + j
theorem Gd.mono {j k : Nat} {ws : List Str} (g : Gd j ws) (h : j ≤ k) : Gd k ws := ⟨g.in1, Nat.le_trans g.len (by omega), Nat.le_trans g.run (by omega)⟩
theorem Gd.mid {j : Nat} {ws : List Str} (g : Gd j ws) {w : Str} (hw : w ∈ ws1) {i k : Nat} (h : i ≤ k) : Gd (j + 1) (ws.take i ++ [w] ++ ws.drop k) := by
  have h1 := g.len
  have h2 := g.run
  refine ⟨fun x hx => ?_, ?_, ?_⟩
  · rcases List.mem_append.mp hx with hx | hx
    · rcases List.mem_append.mp hx with hx | hx
      · exact g.in1 x (List.mem_of_mem_take hx)
      · rw [List.mem_singleton.mp hx]; exact hw
    · exact g.in1 x (List.mem_of_mem_drop hx)
  · rw [List.length_append, List.length_append, List.length_take, List.length_drop, List.length_singleton]
    omega
  · rw [rs1_app, rs1_app]
    have h3 := rs1_cut h ws
    have h4 : rs1 [w] ≤ 1 := by have := (ws1_ok hw).run; unfold rs1; simpa using this
    omega
theorem Gd.cut {j : Nat} {ws : List Str} (g : Gd j ws) {i k : Nat} (h : i ≤ k) : Gd (j + 1) (ws.take i ++ ws.drop k) := by
  have h1 := g.len
  have h2 := g.run
  refine ⟨fun x hx => ?_, ?_, ?_⟩
  · rcases List.mem_append.mp hx with hx | hx
    · exact g.in1 x (List.mem_of_mem_take hx)
    · exact g.in1 x (List.mem_of_mem_drop hx)
  · rw [List.length_append, List.length_take, List.length_drop]
    omega
  · rw [rs1_app]
    have h3 := rs1_cut h ws
    omega
theorem Gd.pre {j : Nat} {ws : List Str} (g : Gd j ws) (i : Nat) : Gd (j + 1) (ws.take i) := by
  have h1 := g.len
  have h2 := g.run
  refine ⟨fun x hx => g.in1 x (List.mem_of_mem_take hx), ?_, ?_⟩
  · rw [List.length_take]
    omega
  · have h3 : rs1 (ws.take i ++ ws.drop i) = rs1 ws := by rw [List.take_append_drop]
    rw [rs1_app] at h3
    omega
/-! ### the canonical tokens -/
def fL (ws : List Str) : List Str := ws ++ [(";" : Str)]
theorem fl_len (b : Nat) : ∀ L : List (List Str), (∀ ws ∈ L, ws.length ≤ b) → (L.flatMap fL).length ≤ L.length * (b + 1)
  | [], _ => by simp
  | ws :: L, h => by
    have ih := fl_len b L fun x hx => h x (List.mem_cons_of_mem _ hx)
    have h1 := h ws List.mem_cons_self
    rw [List.flatMap_cons, List.length_append, List.length_cons, Nat.succ_mul]
    have : (fL ws).length = ws.length + 1 := by unfold fL; simp
    omega
theorem fl_run (b : Nat) : ∀ L : List (List Str), (∀ ws ∈ L, rs1 ws ≤ b) → rs1 (L.flatMap fL) ≤ L.length * b
  | [], _ => Nat.zero_le _
  | ws :: L, h => by
    have ih := fl_run b L fun x hx => h x (List.mem_cons_of_mem _ hx)
    have h1 := h ws List.mem_cons_self
    have h2 : rs1 [(";" : Str)] = 0 := by decide +kernel
    rw [List.flatMap_cons, rs1_app, List.length_cons, Nat.succ_mul]
    unfold fL at ih ⊢
    rw [rs1_app, h2]
    omega
theorem num_run : ∀ k ∈ List.range 13, runsB false (TL.tl (num ((k : Nat) : Int))) = 0 := by decide +kernel
theorem nums_run : ∀ l : List Int, (∀ x ∈ l, 1 ≤ x ∧ x ≤ 9) → rs1 (l.map num) = 0
  | [], _ => rfl
  | x :: l, h => by
    obtain ⟨h1, h2⟩ := h x List.mem_cons_self
    have e : runsB false (TL.tl (num x)) = 0 := by
      have := num_run x.toNat (List.mem_range.mpr (by omega))
      rw [Int.toNat_of_nonneg (by omega)] at this
      exact this
    show runsB false (TL.tl (num x)) + rs1 (l.map num) = 0
    rw [e, nums_run l fun y hy => h y (List.mem_cons_of_mem _ hy)]
theorem canon_gd {r : Rota} (ok : ROk r) (h6 : ∀ x ∈ r.names, x ∈ six) (h4 : r.names.length ≤ 4) (ha : r.aways.length ≤ 6) (hm : r.makers.length ≤ 4) : Gd 0 ((lineWords r).flatMap fun ws => ws ++ [(";" : Str)]) := by
  have hl := lines_in ok h6
  have hr : ∀ ws ∈ lineWords r, rs1 ws ≤ ws.length := fun ws hws => rs1_le fun w hw => ((hl ws hws).2 w hw).1
  have e : ((lineWords r).flatMap fun ws => ws ++ [(";" : Str)]) = (lines2 r).flatMap fL ++ (linesW r).flatMap fL ++ (r.aways.map (awW r)).flatMap fL ++ (linesM r).flatMap fL := by
    show (lineWords r).flatMap fL = _
    unfold lineWords
    rw [List.flatMap_append, List.flatMap_append, List.flatMap_append]
  have ht := ok.t12
  have hw := ok.wl
  have i2 : ∀ ws ∈ lines2 r, ws ∈ lineWords r := fun ws h => by unfold lineWords; exact List.mem_append_left _ (List.mem_append_left _ (List.mem_append_left _ h))
  have iA : ∀ ws ∈ r.aways.map (awW r), ws ∈ lineWords r := fun ws h => by unfold lineWords; exact List.mem_append_left _ (List.mem_append_right _ h)
  have iM : ∀ ws ∈ linesM r, ws ∈ lineWords r := fun ws h => by unfold lineWords; exact List.mem_append_right _ h
  have lA : ∀ ws ∈ r.aways.map (awW r), ws.length = 5 := fun ws h => by obtain ⟨t, _, rfl⟩ := List.mem_map.mp h; rfl
  have sc : rs1 [(";" : Str)] = 0 := by decide +kernel
  have a2 : ((lines2 r).flatMap fL).length ≤ 20 ∧ rs1 ((lines2 r).flatMap fL) ≤ 18 := by
    have h1 := hr _ (i2 ("people" :: r.names) (by simp [lines2]))
    have h2 := hr _ (i2 ("turns" :: r.turns.map (nm r)) (by simp [lines2]))
    rw [List.length_cons] at h1 h2
    rw [List.length_map] at h2
    unfold lines2 fL
    simp only [List.flatMap_cons, List.flatMap_nil, List.append_nil]
    refine ⟨by simp only [List.length_append, List.length_cons, List.length_nil, List.length_map]; omega, ?_⟩
    rw [rs1_app, rs1_app, rs1_app, sc]
    omega
  have aW : ((linesW r).flatMap fL).length ≤ 6 ∧ rs1 ((linesW r).flatMap fL) ≤ 1 := by
    unfold linesW
    split
    · have h1 : rs1 ("weights" :: r.weights.map num) = 1 := by
        show runsB false (TL.tl "weights") + rs1 (r.weights.map num) = 1
        rw [nums_run _ ok.w0]
        decide +kernel
      unfold fL
      simp only [List.flatMap_cons, List.flatMap_nil, List.append_nil]
      refine ⟨by simp only [List.length_append, List.length_cons, List.length_nil, List.length_map]; omega, ?_⟩
      rw [rs1_app, sc, h1]
      omega
    · exact ⟨Nat.zero_le _, Nat.zero_le _⟩
  have aA : ((r.aways.map (awW r)).flatMap fL).length ≤ 36 ∧ rs1 ((r.aways.map (awW r)).flatMap fL) ≤ 30 := by
    have h1 := fl_len 5 (r.aways.map (awW r)) fun ws h => Nat.le_of_eq (lA ws h)
    have h2 := fl_run 5 (r.aways.map (awW r)) fun ws h => Nat.le_trans (hr ws (iA ws h)) (Nat.le_of_eq (lA ws h))
    rw [List.length_map] at h1 h2
    omega
  have aM : ((linesM r).flatMap fL).length ≤ 6 ∧ rs1 ((linesM r).flatMap fL) ≤ 5 := by
    have h0 := hr
    have iM' := iM
    unfold linesM at iM' ⊢
    split
    · exact ⟨Nat.zero_le _, Nat.zero_le _⟩
    · next hn =>
      rw [if_neg hn] at iM'
      have h1 := h0 _ (iM' ("makeup" :: r.makers.map (nm r)) (by simp))
      rw [List.length_cons, List.length_map] at h1
      unfold fL
      simp only [List.flatMap_cons, List.flatMap_nil, List.append_nil]
      refine ⟨by simp only [List.length_append, List.length_cons, List.length_nil, List.length_map]; omega, ?_⟩
      rw [rs1_app, sc]
      omega
  refine ⟨canon_in ok h6, ?_, ?_⟩
  · rw [e, List.length_append, List.length_append, List.length_append]
    omega
  · rw [e, rs1_app, rs1_app, rs1_app]
    omega
end Br

/-! a text that loads gives a rota in order. -/
namespace Br
open PySem PySem.Spec PyProof.Rows L2
/-! ### the names -/
theorem tok_name {l : List Nat} {t : Str} (h : tokAt l = some (("name" : Str), t)) : NmF t := by
  cases l with
  | nil => cases h
  | cons c r =>
    have tk : tokAt (c :: r) = if c = 59 then some (("sign" : Str), (";" : Str)) else if dig c = true then (let w := (c :: r).takeWhile dig; if w.length > 2 ∨ (w.length > 1 ∧ c = 48) then none else some (("number" : Str), (⟨w.toArray⟩ : Str))) else (let w := (c :: r).takeWhile ltr; if (⟨w.toArray⟩ : Str) ∈ kws then some (("keyword" : Str), (⟨w.toArray⟩ : Str)) else if 1 ≤ w.length ∧ w.length ≤ 8 then some (("name" : Str), (⟨w.toArray⟩ : Str)) else none) := rfl
    rw [tk] at h
    split at h
    · injection h with h; injection h with h1 h2; exact absurd h1 (by decide +kernel)
    · split at h
      · dsimp only at h
        split at h
        · cases h
        · injection h with h; injection h with h1 h2; exact absurd h1 (by decide +kernel)
      · dsimp only at h
        split at h
        · injection h with h; injection h with h1 h2; exact absurd h1 (by decide +kernel)
        · rename_i hk
          split at h
          · rename_i hl
            injection h with h; injection h with h1 h2
            subst h2
            have e : (⟨((c :: r).takeWhile ltr).toArray⟩ : Str).length = ((c :: r).takeWhile ltr).length := by
              show ((c :: r).takeWhile ltr).toArray.size = _
              simp
            refine ⟨fun x hx => ?_, by rw [e]; exact hl.1, by rw [e]; exact hl.2, hk⟩
            have hx : x ∈ (c :: r).takeWhile ltr := by simpa using hx
            exact of_decide_eq_true (List.all_eq_true.mp List.all_takeWhile x hx)
          · cases h
def TkNm (t : Tk) : Prop := t.k = "name" → NmF t.t
theorem lexG_nm : ∀ (n ln col : Nat) (l : List Nat) (ts : List Tk), lexG n ln col l = .ok ts → ∀ t ∈ ts, TkNm t
  | n, _, _, [], ts, h => by
    have h : (Except.ok ([] : List Tk) : Except (Nat × Nat) (List Tk)) = Except.ok ts := by cases n <;> exact h
    cases h
    exact fun t ht => nomatch ht
  | 0, _, _, _ :: _, ts, h => by cases h; exact fun t ht => nomatch ht
  | n + 1, ln, col, c :: r, ts, h => by
    rw [lexG] at h
    by_cases hc : c = 32 ∨ c = 10
    · rw [if_pos hc] at h; exact lexG_nm n ln (col + 1) r ts h
    · rw [if_neg hc] at h
      cases ht : tokAt (c :: r) with
      | none => rw [ht] at h; cases h
      | some kt =>
        obtain ⟨k, t⟩ := kt
        rw [ht] at h
        dsimp only at h
        cases hr : lexG n ln (col + t.length) ((c :: r).drop t.length) with
        | error e => rw [hr] at h; cases h
        | ok us =>
          rw [hr] at h
          cases h
          intro x hx
          rcases List.mem_append.mp hx with hx | hx
          · rw [List.mem_singleton.mp hx]
            intro hk
            have hk : k = "name" := hk
            exact tok_name (by rw [ht, hk])
          · exact lexG_nm n ln _ _ us hr x hx
theorem lexRows_nm : ∀ (rs : List (List Nat)) (ln : Nat) (ts : List Tk), lexRows ln rs = .ok ts → ∀ t ∈ ts, TkNm t
  | [], _, ts, h => by cases h; exact fun t ht => nomatch ht
  | row :: rs, ln, ts, h => by
    have h : appE (lexRow ln 0 row) (lexRows (ln + 1) rs) = .ok ts := h
    cases h1 : lexRow ln 0 row with
    | error e => rw [h1] at h; cases h
    | ok us =>
      rw [h1] at h
      cases h2 : lexRows (ln + 1) rs with
      | error e => rw [h2] at h; cases h
      | ok vs =>
        rw [h2] at h
        cases h
        intro x hx
        rcases List.mem_append.mp hx with hx | hx
        · exact lexG_nm _ _ _ _ us h1 x hx
        · exact lexRows_nm rs (ln + 1) vs h2 x hx
theorem lexF_nm {z : Str} {ts : List Tk} (h : lexF z = .ok ts) : ∀ t ∈ ts, TkNm t := by
  unfold lexF at h
  cases h1 : lexRows 0 (rowsL z) with
  | error e => rw [h1] at h; cases h
  | ok us =>
    rw [h1] at h
    cases h
    intro x hx
    rcases List.mem_append.mp hx with hx | hx
    · exact lexRows_nm _ _ us h1 x hx
    · rw [List.mem_singleton.mp hx]
      exact fun hk => absurd (show ("end" : Str) = "name" from hk) (by decide +kernel)
/-- what is taken is of the tokens -/
theorem allF_sub {k : Str} {ts tk rest : List Tk} (h : allF k ts = .ok (tk, rest)) : (∀ t ∈ tk, t ∈ ts ∧ t.k = k) ∧ (∀ t ∈ rest, t ∈ ts) ∧ tk ≠ [] := by
  cases ts with
  | nil => cases h
  | cons t r =>
    have h : (if t.k = k then withE (t :: r.takeWhile (isK k)) (wordF ";" (r.dropWhile (isK k))) else .error (t.l, t.c)) = .ok (tk, rest) := h
    split at h
    · rename_i hk
      cases hw : wordF ";" (r.dropWhile (isK k)) with
      | error e => rw [hw] at h; cases h
      | ok us =>
        rw [hw] at h
        cases h
        obtain ⟨x, hx⟩ := wordF_is hw
        refine ⟨fun y hy => ?_, fun y hy => ?_, by simp⟩
        · rcases List.mem_cons.mp hy with rfl | hy
          · exact ⟨List.mem_cons_self, hk⟩
          · exact ⟨List.mem_cons_of_mem _ ((List.takeWhile_sublist _).subset hy), of_decide_eq_true (List.all_eq_true.mp List.all_takeWhile y hy)⟩
        · refine List.mem_cons_of_mem _ ((List.dropWhile_sublist (isK k)).subset ?_)
          rw [hx]; exact List.mem_cons_of_mem _ hy
    · cases h
/-- the people: different names of the tokens, one to six -/
theorem people_in : ∀ (ts : List Tk) (s : Ps), s.names.Nodup → s.names.length ≤ 6 → (ts.foldl peopleS s).names.Nodup ∧ (ts.foldl peopleS s).names.length ≤ 6 ∧ (∀ x ∈ (ts.foldl peopleS s).names, x ∈ s.names ∨ ∃ t ∈ ts, t.t = x) ∧ s.names.length ≤ (ts.foldl peopleS s).names.length
  | [], s, h1, h2 => ⟨h1, h2, fun x hx => .inl hx, Nat.le_refl _⟩
  | t :: ts, s, h1, h2 => by
    have st : (peopleS s t).names.Nodup ∧ (peopleS s t).names.length ≤ 6 ∧ (∀ x ∈ (peopleS s t).names, x ∈ s.names ∨ t.t = x) ∧ s.names.length ≤ (peopleS s t).names.length := by
      unfold peopleS
      split
      · exact ⟨h1, h2, fun x hx => .inl hx, Nat.le_refl _⟩
      · rename_i hn
        split
        · exact ⟨h1, h2, fun x hx => .inl hx, Nat.le_refl _⟩
        · rename_i h6
          refine ⟨List.nodup_append.mpr ⟨h1, by simp, fun a ha b hb => by rw [List.mem_singleton.mp hb]; exact fun e => hn (e ▸ ha)⟩, ?_, fun x hx => ?_, ?_⟩
          · show (s.names ++ [t.t]).length ≤ 6
            rw [List.length_append, List.length_singleton]; omega
          · rcases List.mem_append.mp (show x ∈ s.names ++ [t.t] from hx) with hx | hx
            · exact .inl hx
            · exact .inr (List.mem_singleton.mp hx).symm
          · show s.names.length ≤ (s.names ++ [t.t]).length
            rw [List.length_append]; omega
    obtain ⟨a1, a2, a3, a4⟩ := people_in ts (peopleS s t) st.1 st.2.1
    refine ⟨a1, a2, fun x hx => ?_, Nat.le_trans st.2.2.2 a4⟩
    rcases a3 x hx with h | ⟨u, hu, e⟩
    · rcases st.2.2.1 x h with h | h
      · exact .inl h
      · exact .inr ⟨t, List.mem_cons_self, h⟩
    · exact .inr ⟨u, List.mem_cons_of_mem _ hu, e⟩
theorem people_keep : ∀ (ts : List Tk) (s : Ps), (ts.foldl peopleS s).aws = s.aws ∧ (ts.foldl peopleS s).W = s.W ∧ (ts.foldl peopleS s).M = s.M
  | [], s => ⟨rfl, rfl, rfl⟩
  | t :: ts, s => by
    have st : (peopleS s t).aws = s.aws ∧ (peopleS s t).W = s.W ∧ (peopleS s t).M = s.M := by
      unfold peopleS
      split
      · exact ⟨rfl, rfl, rfl⟩
      · split <;> exact ⟨rfl, rfl, rfl⟩
    obtain ⟨a1, a2, a3⟩ := people_keep ts (peopleS s t)
    exact ⟨a1.trans st.1, a2.trans st.2.1, a3.trans st.2.2⟩
/-! ### weights, makers, absences -/
def Same (s s' : Ps) : Prop := s'.names = s.names ∧ s'.aws = s.aws ∧ s'.W = s.W ∧ s'.M = s.M
theorem Same.refl (s : Ps) : Same s s := ⟨rfl, rfl, rfl, rfl⟩
theorem Same.trans {a b c : Ps} (h : Same a b) (k : Same b c) : Same a c := ⟨k.1.trans h.1, k.2.1.trans h.2.1, k.2.2.1.trans h.2.2.1, k.2.2.2.trans h.2.2.2⟩
theorem same_bad (s : Ps) (t : Tk) (y : Str) : Same s (s.bad t y) := ⟨rfl, rfl, rfl, rfl⟩
theorem same_person (s : Ps) (t : Tk) : Same s (personF s t).2 := by unfold personF; split; exact Same.refl s; exact same_bad _ _ _
theorem same_wS (p : Ps × Nat) (t : Tk) : Same p.1 (wS p t).1 := by unfold wS; dsimp only; split; exact same_bad _ _ _; exact Same.refl _
theorem same_w : ∀ (ts : List Tk) (p : Ps × Nat), Same p.1 (ts.foldl wS p).1
  | [], p => Same.refl _
  | t :: ts, p => (same_wS p t).trans (same_w ts (wS p t))
theorem same_twice (b : Bool) (st : Tk) (s : Ps) : Same s (twiceF b st s) := by unfold twiceF; split; exact same_bad _ _ _; exact Same.refl _
theorem same_short (st : Tk) (m : Nat) (s : Ps) : Same s (shortF st m s) := by unfold shortF; split; exact same_bad _ _ _; exact Same.refl _
theorem same_mk : ∀ (ts : List Tk) (p : Ps × List Nat), Same p.1 (ts.foldl mkS p).1
  | [], p => Same.refl _
  | t :: ts, p => (same_person p.1 t).trans (same_mk ts (mkS p t))
theorem same_turn : ∀ (ts : List Tk) (p : Ps × List Nat), Same p.1 (ts.foldl turnS p).1
  | [], p => Same.refl _
  | t :: ts, p => by
    refine Same.trans ?_ (same_turn ts (turnS p t))
    unfold turnS; dsimp only
    split
    · exact (same_person p.1 t).trans (same_bad _ _ _)
    · exact same_person p.1 t
theorem same_miss (st : Tk) (p : Ps × List Nat) : Same p.1 (missF st p) := by unfold missF; split; exact same_bad _ _ _; exact Same.refl _
theorem same_awayB (st : Tk) (s : Ps) (tr tm : Tk) : Same s (awayB st s tr tm) := by
  unfold awayB
  split
  · exact same_bad _ _ _
  · split
    · exact same_bad _ _ _
    · split
      · exact same_bad _ _ _
      · exact Same.refl _
theorem w_ok : ∀ (ts : List Tk) (p : Ps × Nat), (ts.foldl wS p).1.fs = [] → p.2 ≤ p.1.names.length → p.2 + ts.length ≤ p.1.names.length ∧ ∀ t ∈ ts, 1 ≤ valT t.t ∧ valT t.t ≤ 9
  | [], p, _, h2 => ⟨h2, fun _ h => nomatch h⟩
  | t :: ts, p, h, h2 => by
    have g := w_grow ts (wS p t) h
    have ok : ¬ (p.2 = p.1.names.length ∨ ¬ (1 ≤ valT t.t ∧ valT t.t ≤ 9)) := fun c => by
      have e : (wS p t).1 = p.1.bad t "weights" := by unfold wS; dsimp only; rw [if_pos c]
      rw [e] at g; exact bad_ne _ _ _ g
    have e1 : (wS p t).1 = p.1 := by unfold wS; dsimp only; rw [if_neg ok]
    have e2 : (wS p t).2 = p.2 + 1 := rfl
    have n1 : p.2 ≠ p.1.names.length := fun e => ok (.inl e)
    have n2 : 1 ≤ valT t.t ∧ valT t.t ≤ 9 := Classical.byContradiction fun c => ok (.inr c)
    obtain ⟨a1, a2⟩ := w_ok ts (wS p t) h (by rw [e1, e2]; omega)
    rw [e1, e2] at a1
    refine ⟨by rw [List.length_cons]; omega, fun u hu => ?_⟩
    rcases List.mem_cons.mp hu with rfl | hu
    · exact n2
    · exact a2 u hu
theorem mk_in : ∀ (ts : List Tk) (p : Ps × List Nat), p.1.names ≠ [] → (∀ j ∈ p.2, j < p.1.names.length) → ∀ j ∈ (ts.foldl mkS p).2, j < p.1.names.length
  | [], p, _, h => h
  | t :: ts, p, hn, h => by
    have e : (mkS p t).1.names = p.1.names := (same_person p.1 t).1
    have := mk_in ts (mkS p t) (by rw [e]; exact hn) (fun j hj => by
      rw [e]
      rcases List.mem_append.mp (show j ∈ p.2 ++ [(personF p.1 t).1] from hj) with hj | hj
      · exact h j hj
      · rw [List.mem_singleton.mp hj]; exact (personF_few p.1 t).2.2 hn)
    rw [e] at this
    exact this
theorem turn_in : ∀ (ts : List Tk) (p : Ps × List Nat), p.1.names ≠ [] → (∀ j ∈ p.2, j < p.1.names.length) → p.2.length ≤ 12 → (∀ j ∈ (ts.foldl turnS p).2, j < p.1.names.length) ∧ ((ts.foldl turnS p).1.fs = [] → (ts.foldl turnS p).2.length ≤ 12 ∧ p.1.fs = [])
  | [], p, _, h, h12 => ⟨h, fun hf => ⟨h12, hf⟩⟩
  | t :: ts, p, hn, h, h12 => by
    have e : (turnS p t).1.names = p.1.names := (turnS_few p t).2.1
    have hj1 : ∀ j ∈ (turnS p t).2, j < (turnS p t).1.names.length := fun j hj => by
      rw [e]
      rcases List.mem_append.mp (show j ∈ p.2 ++ [(personF p.1 t).1] from hj) with hj | hj
      · exact h j hj
      · rw [List.mem_singleton.mp hj]; exact (personF_few p.1 t).2.2 hn
    by_cases c : p.2.length = 12
    · -- one too many: a fault stays
      have hb : (turnS p t).1.fs ≠ [] := by unfold turnS; dsimp only; rw [if_pos c]; exact bad_ne _ _ _
      refine ⟨?_, fun hf => ?_⟩
      · have := turn_all ts (turnS p t) (by rw [e]; exact hn) hj1
        rw [e] at this; exact this
      · exact absurd (turn_grow ts (turnS p t) hf) hb
    · have hl : (turnS p t).2.length ≤ 12 := by rw [(turnS_few p t).2.2]; omega
      obtain ⟨a1, a2⟩ := turn_in ts (turnS p t) (by rw [e]; exact hn) hj1 hl
      rw [e] at a1
      refine ⟨a1, fun hf => ⟨(a2 hf).1, ?_⟩⟩
      have := (a2 hf).2
      have e2 : (turnS p t).1 = (personF p.1 t).2 := by unfold turnS; dsimp only; rw [if_neg c]
      rw [e2] at this
      exact person_grow p.1 t this
where
  turn_all : ∀ (ts : List Tk) (p : Ps × List Nat), p.1.names ≠ [] → (∀ j ∈ p.2, j < p.1.names.length) → ∀ j ∈ (ts.foldl turnS p).2, j < p.1.names.length
  | [], p, _, h => h
  | t :: ts, p, hn, h => by
    have e : (turnS p t).1.names = p.1.names := (turnS_few p t).2.1
    have := turn_all ts (turnS p t) (by rw [e]; exact hn) (fun j hj => by
      rw [e]
      rcases List.mem_append.mp (show j ∈ p.2 ++ [(personF p.1 t).1] from hj) with hj | hj
      · exact h j hj
      · rw [List.mem_singleton.mp hj]; exact (personF_few p.1 t).2.2 hn)
    rw [e] at this
    exact this
  turn_grow : ∀ (ts : List Tk) (p : Ps × List Nat), Grow p.1 (ts.foldl turnS p).1
  | [], p => fun h => h
  | t :: ts, p => fun h => by
    have := turn_grow ts (turnS p t) h
    unfold turnS at this; dsimp only at this
    split at this
    · exact absurd this (bad_ne _ _ _)
    · exact person_grow p.1 t this
/-- what is in order where no fault was found -/
def FsX (s : Ps) : Prop := s.fs = [] → (∀ t ∈ s.aws, t.1 < s.names.length) ∧ (∀ w, s.W = some w → w.length = s.names.length ∧ ∀ x ∈ w, 1 ≤ x ∧ x ≤ 9) ∧ (∀ m, s.M = some m → m.Pairwise (· < ·) ∧ ∀ k ∈ m, 0 ≤ k ∧ k < s.names.length)
theorem FsX.same {s s' : Ps} (h : FsX s) (g : Grow s s') (e : Same s s') : FsX s' := fun hf => by
  rw [e.1, e.2.1, e.2.2.1, e.2.2.2]; exact h (g hf)
theorem weights_x {s s' : Ps} {ts rest : List Tk} (o : FsX s) (h : weightsF s ts = .ok (s', rest)) : FsX s' ∧ ∀ t ∈ rest, t ∈ ts := by
  cases ts with
  | nil => cases h
  | cons st r =>
    obtain ⟨t1, e1, h⟩ := bind_inv h
    obtain ⟨p, e2, h⟩ := bind_inv h
    cases h
    obtain ⟨u, hu⟩ := wordF_is e1
    obtain ⟨s1, s2, s3⟩ := allF_sub (tk := p.1) (rest := p.2) e2
    have sm := ((same_twice s.W.isSome st s).trans (same_w p.1 (twiceF s.W.isSome st s, 0))).trans (same_short st p.1.length (p.1.foldl wS (twiceF s.W.isSome st s, 0)).1)
    refine ⟨fun hf => ?_, fun t ht => by rw [hu]; exact List.mem_cons_of_mem _ (s2 t ht)⟩
    have hf : (shortF st p.1.length (p.1.foldl wS (twiceF s.W.isSome st s, 0)).1).fs = [] := hf
    have f1 := short_grow _ _ _ hf
    have f2 := w_grow p.1 (twiceF s.W.isSome st s, 0) f1
    have f3 := twice_grow _ _ _ f2
    obtain ⟨o1, o2, o3⟩ := o f3
    have nm : (shortF st p.1.length (p.1.foldl wS (twiceF s.W.isSome st s, 0)).1).names = s.names := sm.1
    have nf : (p.1.foldl wS (twiceF s.W.isSome st s, 0)).1.names = s.names := ((same_twice s.W.isSome st s).trans (same_w p.1 (twiceF s.W.isSome st s, 0))).1
    obtain ⟨w1, w2⟩ := w_ok p.1 (twiceF s.W.isSome st s, 0) f1 (Nat.zero_le _)
    have nt : (twiceF s.W.isSome st s).names = s.names := (same_twice _ _ _).1
    have w1 : 0 + p.1.length ≤ (twiceF s.W.isSome st s).names.length := w1
    rw [nt] at w1
    have w3 : ¬ p.1.length < s.names.length := fun c => by
      unfold shortF at hf
      rw [nf, if_pos c] at hf
      exact bad_ne _ _ _ hf
    refine ⟨fun t ht => ?_, fun w hw => ?_, fun m hm => ?_⟩
    · show t.1 < (shortF _ _ _).names.length
      rw [nm]
      have ht : t ∈ (shortF st p.1.length (p.1.foldl wS (twiceF s.W.isSome st s, 0)).1).aws := ht
      rw [sm.2.1] at ht
      exact o1 t ht
    · have hw : some (p.1.map fun t => valT t.t) = some w := hw
      cases hw
      refine ⟨?_, fun x hx => ?_⟩
      · show _ = (shortF _ _ _).names.length
        rw [nm, List.length_map]; omega
      · obtain ⟨t, ht, rfl⟩ := List.mem_map.mp hx
        exact w2 t ht
    · have hm : (shortF st p.1.length (p.1.foldl wS (twiceF s.W.isSome st s, 0)).1).M = some m := hm
      rw [sm.2.2.2] at hm
      obtain ⟨m1, m2⟩ := o3 m hm
      refine ⟨m1, fun k hk => ?_⟩
      show 0 ≤ k ∧ k < ((shortF _ _ _).names.length : Int)
      rw [nm]; exact m2 k hk
theorem makeup_x {s s' : Ps} {ts rest : List Tk} (hn : s.names ≠ []) (h6 : s.names.length ≤ 6) (o : FsX s) (h : makeupF s ts = .ok (s', rest)) : FsX s' ∧ ∀ t ∈ rest, t ∈ ts := by
  cases ts with
  | nil => cases h
  | cons st r =>
    obtain ⟨t1, e1, h⟩ := bind_inv h
    obtain ⟨p, e2, h⟩ := bind_inv h
    cases h
    obtain ⟨u, hu⟩ := wordF_is e1
    obtain ⟨s1, s2, s3⟩ := allF_sub (tk := p.1) (rest := p.2) e2
    have sm := (same_mk p.1 (s, [])).trans (same_twice s.M.isSome st (p.1.foldl mkS (s, [])).1)
    refine ⟨fun hf => ?_, fun t ht => by rw [hu]; exact List.mem_cons_of_mem _ (s2 t ht)⟩
    have hf : (twiceF s.M.isSome st (p.1.foldl mkS (s, [])).1).fs = [] := hf
    have f2 := mk_grow p.1 (s, []) (twice_grow _ _ _ hf)
    obtain ⟨o1, o2, o3⟩ := o f2
    have nm : (twiceF s.M.isSome st (p.1.foldl mkS (s, [])).1).names = s.names := sm.1
    have hi := mk_in p.1 (s, []) hn (fun _ h => nomatch h)
    refine ⟨fun t ht => ?_, fun w hw => ?_, fun m hm => ?_⟩
    · show t.1 < (twiceF _ _ _).names.length
      rw [nm]
      have ht : t ∈ (twiceF s.M.isSome st (p.1.foldl mkS (s, [])).1).aws := ht
      rw [sm.2.1] at ht
      exact o1 t ht
    · have hw : (twiceF s.M.isSome st (p.1.foldl mkS (s, [])).1).W = some w := hw
      rw [sm.2.2.1] at hw
      obtain ⟨w1, w2⟩ := o2 w hw
      exact ⟨by show _ = (twiceF _ _ _).names.length; rw [nm]; exact w1, w2⟩
    · have hm : some (sortU (p.1.foldl mkS (s, [])).2) = some m := hm
      cases hm
      refine ⟨sortU_asc _, fun k hk => ?_⟩
      obtain ⟨j, hj, rfl⟩ := List.mem_map.mp ((sortU_mem (fun j hj => by have := hi j hj; have : j < s.names.length := this; omega) k).mp hk)
      have := hi j hj
      have : j < s.names.length := this
      show (0 : Int) ≤ (j : Int) ∧ (j : Int) < ((twiceF _ _ _).names.length : Int)
      rw [nm]; omega
theorem away_x {s s' : Ps} {ts rest : List Tk} (hn : s.names ≠ []) (o : FsX s) (h : awayF s ts = .ok (s', rest)) : FsX s' ∧ ∀ t ∈ rest, t ∈ ts := by
  cases ts with
  | nil => cases h
  | cons st r =>
    obtain ⟨t1, e1, h⟩ := bind_inv h
    obtain ⟨p1, e2, h⟩ := bind_inv h
    obtain ⟨p2, e3, h⟩ := bind_inv h
    obtain ⟨t4, e4, h⟩ := bind_inv h
    obtain ⟨p3, e5, h⟩ := bind_inv h
    obtain ⟨t6, e6, h⟩ := bind_inv h
    cases h
    obtain ⟨u1, h1⟩ := wordF_is e1
    obtain ⟨h2, _⟩ := takeF_is e2
    obtain ⟨h3, _⟩ := takeF_is e3
    obtain ⟨u4, h4⟩ := wordF_is e4
    obtain ⟨h5, _⟩ := takeF_is e5
    obtain ⟨u6, h6⟩ := wordF_is e6
    have sm := (same_person s p1.1).trans (same_awayB st (personF s p1.1).2 p2.1 p3.1)
    refine ⟨fun hf => ?_, fun t ht => ?_⟩
    · have hf : (awayB st (personF s p1.1).2 p2.1 p3.1).fs = [] := hf
      obtain ⟨f1, _⟩ := awayB_ok hf
      obtain ⟨o1, o2, o3⟩ := o (person_grow s p1.1 f1)
      have nm : (awayB st (personF s p1.1).2 p2.1 p3.1).names = s.names := sm.1
      refine ⟨fun t ht => ?_, fun w hw => ?_, fun m hm => ?_⟩
      · show t.1 < ((awayB _ _ _ _).names.length : Int)
        rw [nm]
        have ht : t ∈ (awayB st (personF s p1.1).2 p2.1 p3.1).aws ++ [(((personF s p1.1).1 : Int), valT p2.1.t, valT p3.1.t)] := ht
        rcases List.mem_append.mp ht with ht | ht
        · rw [sm.2.1] at ht; exact o1 t ht
        · rw [List.mem_singleton.mp ht]
          have := (personF_few s p1.1).2.2 hn
          show ((personF s p1.1).1 : Int) < _
          omega
      · have hw : (awayB st (personF s p1.1).2 p2.1 p3.1).W = some w := hw
        rw [sm.2.2.1] at hw
        obtain ⟨w1, w2⟩ := o2 w hw
        exact ⟨by show _ = (awayB _ _ _ _).names.length; rw [nm]; exact w1, w2⟩
      · have hm : (awayB st (personF s p1.1).2 p2.1 p3.1).M = some m := hm
        rw [sm.2.2.2] at hm
        obtain ⟨m1, m2⟩ := o3 m hm
        refine ⟨m1, fun k hk => ?_⟩
        show 0 ≤ k ∧ k < ((awayB _ _ _ _).names.length : Int)
        rw [nm]; exact m2 k hk
    · rw [h1, h2, h3, h4, h5, h6]
      simp only [List.mem_cons]
      exact .inr (.inr (.inr (.inr (.inr (.inr ht)))))
theorem stm_x {s s' : Ps} {ts rest : List Tk} (hn : s.names ≠ []) (h6 : s.names.length ≤ 6) (o : FsX s) (h : stmF s ts = .ok (s', rest)) : FsX s' ∧ ∀ t ∈ rest, t ∈ ts := by
  cases ts with
  | nil => cases h
  | cons t r =>
    have h : (if t.t = "weights" then weightsF s (t :: r) else if t.t = "away" then awayF s (t :: r) else if t.t = "makeup" then makeupF s (t :: r) else .error (t.l, t.c)) = .ok (s', rest) := h
    split at h
    · exact weights_x o h
    · split at h
      · exact away_x hn o h
      · split at h
        · exact makeup_x hn h6 o h
        · cases h
theorem stm_grow {s s' : Ps} {ts rest : List Tk} (h6 : s.names.length ≤ 6) (h : stmF s ts = .ok (s', rest)) : Grow s s' := by
  cases ts with
  | nil => cases h
  | cons st r =>
    have h : (if st.t = "weights" then weightsF s (st :: r) else if st.t = "away" then awayF s (st :: r) else if st.t = "makeup" then makeupF s (st :: r) else .error (st.l, st.c)) = .ok (s', rest) := h
    split at h
    · obtain ⟨t1, e1, h⟩ := bind_inv h
      obtain ⟨p, e2, h⟩ := bind_inv h
      cases h
      exact fun hf => twice_grow _ _ _ (w_grow p.1 (twiceF s.W.isSome st s, 0) (short_grow _ _ _ hf))
    · split at h
      · obtain ⟨t1, e1, h⟩ := bind_inv h
        obtain ⟨p1, e2, h⟩ := bind_inv h
        obtain ⟨p2, e3, h⟩ := bind_inv h
        obtain ⟨t4, e4, h⟩ := bind_inv h
        obtain ⟨p3, e5, h⟩ := bind_inv h
        obtain ⟨t6, e6, h⟩ := bind_inv h
        cases h
        exact fun hf => person_grow s p1.1 (awayB_ok (st := st) (tr := p2.1) (tm := p3.1) hf).1
      · split at h
        · obtain ⟨t1, e1, h⟩ := bind_inv h
          obtain ⟨p, e2, h⟩ := bind_inv h
          cases h
          exact fun hf => mk_grow p.1 (s, []) (twice_grow _ _ _ hf)
        · cases h
theorem loop_grow : ∀ (k : Nat) (s : Ps) (ts : List Tk) (s' : Ps), s.names.length ≤ 6 → loopF k s ts = .ok s' → Grow s s'
  | 0, s, ts, s', _, h => by cases h; exact fun h => h
  | k + 1, s, ts, s', h6, h => by
    have h : (if atEnd ts = true then Except.ok s else bindE (fun p => loopF k p.1 p.2) (stmF s ts)) = .ok s' := h
    split at h
    · cases h; exact fun h => h
    · obtain ⟨p, e, h⟩ := bind_inv h
      obtain ⟨s1, rest⟩ := p
      have nm : s1.names = s.names := (stm_goes h6 e).2.1
      exact fun hf => stm_grow h6 e (loop_grow k s1 rest s' (by rw [nm]; exact h6) h hf)
/-- the loop keeps what is in order -/
theorem loop_x : ∀ (k : Nat) (s : Ps) (ts : List Tk) (s' : Ps), NumT ts → s.names ≠ [] → s.names.length ≤ 6 → FsAw s → RemOk s → FsX s → loopF k s ts = .ok s' → s'.names = s.names ∧ FsAw s' ∧ RemOk s' ∧ FsX s'
  | 0, s, ts, s', _, _, _, a, b, c, h => by cases h; exact ⟨rfl, a, b, c⟩
  | k + 1, s, ts, s', hn, h1, h6, a, b, c, h => by
    have h : (if atEnd ts = true then Except.ok s else bindE (fun p => loopF k p.1 p.2) (stmF s ts)) = .ok s' := h
    split at h
    · cases h; exact ⟨rfl, a, b, c⟩
    · obtain ⟨p, e, h⟩ := bind_inv h
      obtain ⟨s1, rest⟩ := p
      have nm : s1.names = s.names := (stm_goes h6 e).2.1
      obtain ⟨x1, x2⟩ := stm_x h1 h6 c e
      obtain ⟨g1, g2⟩ := loop_x k s1 rest s' (fun t ht hk => hn t (x2 t ht) hk) (by rw [nm]; exact h1) (by rw [nm]; exact h6) (stm_aw h6 a e) (stm_rem hn b e) x1 h
      exact ⟨g1.trans nm, g2⟩
theorem insA_len (t : Int × Int × Int) : ∀ us : List (Int × Int × Int), (insA t us).length ≤ us.length + 1
  | [] => Nat.le_refl _
  | u :: us => by
    unfold insA
    split
    · exact Nat.le_succ _
    · split
      · exact Nat.le_refl _
      · have := insA_len t us
        simp only [List.length_cons]; omega
theorem sortA_len : ∀ us : List (Int × Int × Int), (us.foldr insA []).length ≤ us.length
  | [] => Nat.le_refl _
  | u :: us => by
    have h1 := insA_len u (us.foldr insA [])
    have h2 := sortA_len us
    show (insA u (us.foldr insA [])).length ≤ us.length + 1
    omega
/-- what loads is in order -/
theorem load_ok {z : Str} {r : Rota} (h : loadF z = .rota r) : ROk r := by
  unfold loadF at h
  cases hl : lexF z with
  | error e => rw [hl] at h; cases h
  | ok ts =>
  rw [hl] at h
  have hnm := lexF_nm hl
  have hnum : NumT ts := fun t ht hk => (lexF_ok hl).2 t ht hk
  have h : rotaF ts = .rota r := h
  unfold rotaF at h
  cases hb : bindE (fun p => bindE (fun q => bindE (fun s => .ok (s, q.1.2)) (loopF q.2.length q.1.1 q.2)) (turnsF p.1 p.2)) (peopleF Ps.zero ts) with
  | error e => rw [hb] at h; cases h
  | ok sj =>
  rw [hb] at h
  obtain ⟨s, js⟩ := sj
  have h : doneF s js = .rota r := h
  obtain ⟨p, e1, h2⟩ := bind_inv hb
  obtain ⟨q, e2, h3⟩ := bind_inv h2
  obtain ⟨s', e3, h4⟩ := bind_inv h3
  cases h4
  -- the people
  obtain ⟨t1, p1, e1⟩ := bind_inv e1
  obtain ⟨pp, p2, e1⟩ := bind_inv e1
  cases e1
  obtain ⟨u1, hu1⟩ := wordF_is p1
  obtain ⟨a1, a2, a3⟩ := allF_sub (tk := pp.1) (rest := pp.2) p2
  obtain ⟨n1, n2, n3, _⟩ := people_in pp.1 Ps.zero List.nodup_nil (Nat.zero_le _)
  obtain ⟨k1, k2, k3⟩ := people_keep pp.1 Ps.zero
  have nne : (pp.1.foldl peopleS Ps.zero).names ≠ [] := by
    cases ht : pp.1 with
    | nil => exact absurd ht a3
    | cons t tl =>
      have e : peopleS Ps.zero t = { Ps.zero with names := [t.t] } := by unfold peopleS; rw [if_neg (by intro c; cases c), if_neg (by show ¬ (0 = 6); decide)]; rfl
      have := (people_in tl (peopleS Ps.zero t) (by rw [e]; simp) (by rw [e]; show 1 ≤ 6; decide)).2.2.2
      rw [e] at this
      intro c
      have c : (tl.foldl peopleS (peopleS Ps.zero t)).names = [] := c
      rw [e] at c
      rw [c] at this
      exact absurd (show 1 ≤ 0 from this) (by decide)
  have nall : ∀ x ∈ (pp.1.foldl peopleS Ps.zero).names, NmF x := fun x hx => by
    rcases n3 x hx with h | ⟨t, ht, rfl⟩
    · cases h
    · exact hnm t (by rw [hu1]; exact List.mem_cons_of_mem _ (a1 t ht).1) (a1 t ht).2
  generalize hS : pp.1.foldl peopleS Ps.zero = S at n1 n2 nne nall k1 k2 k3 e2
  have hR2 : ∀ t ∈ pp.2, t ∈ ts := fun t ht => by rw [hu1]; exact List.mem_cons_of_mem _ (a2 t ht)
  -- the turns
  have e2 : turnsF S pp.2 = .ok q := e2
  obtain ⟨st, r2, hpp⟩ : ∃ st r2, pp.2 = st :: r2 := by
    cases hq : pp.2 with
    | nil => rw [hq] at e2; cases e2
    | cons a b => exact ⟨a, b, rfl⟩
  rw [hpp] at e2 hR2
  obtain ⟨t2, q1, e2⟩ := bind_inv e2
  obtain ⟨qq, q2, e2⟩ := bind_inv e2
  cases e2
  obtain ⟨u2, hu2⟩ := wordF_is q1
  obtain ⟨b1, b2, b3⟩ := allF_sub (tk := qq.1) (rest := qq.2) q2
  have hR3 : ∀ t ∈ qq.2, t ∈ ts := fun t ht => hR2 t (by rw [hu2]; exact List.mem_cons_of_mem _ (b2 t ht))
  obtain ⟨c1, c2⟩ := turn_in qq.1 (S, []) nne (fun _ h => nomatch h) (Nat.zero_le _)
  have smS := (same_turn qq.1 (S, [])).trans (same_miss st (qq.1.foldl turnS (S, [])))
  generalize hT : qq.1.foldl turnS (S, []) = T at c1 c2 smS e3 h
  have nT : (missF st T).names = S.names := smS.1
  have awT : (missF st T).aws = [] := smS.2.1.trans k1
  -- the loop
  obtain ⟨l1, l2, l3, l4⟩ := loop_x _ (missF st T) qq.2 s (fun t ht hk => hnum t (hR3 t ht) hk) (by rw [nT]; exact nne) (by rw [nT]; exact n2) (fun _ => by rw [awT]; exact ⟨Nat.zero_le _, fun _ h => nomatch h⟩) (fun t ht => by rw [awT] at ht; cases ht)
    (fun _ => ⟨fun t ht => (by rw [awT] at ht; cases ht), fun w hw => (by rw [smS.2.2.1, k2] at hw; cases hw), fun m hm => (by rw [smS.2.2.2, k3] at hm; cases hm)⟩) e3
  have gl : s.fs = [] → (missF st T).fs = [] := loop_grow _ _ _ _ (by rw [nT]; exact n2) e3
  rw [nT] at l1
  unfold doneF at h
  split at h
  · rename_i hf
    cases h
    obtain ⟨x1, x2, x3⟩ := l4 hf
    obtain ⟨y1, y2⟩ := aw_fits l2 l3 hf
    have fm := gl hf
    have hany : ¬ ((List.range T.1.names.length).any (fun k => !decide (k ∈ T.2))) = true := fun c => by
      unfold missF at fm
      rw [if_pos c] at fm
      exact bad_ne _ _ _ fm
    have em : missF st T = T.1 := by unfold missF; rw [if_neg hany]
    rw [em] at fm nT
    obtain ⟨z1, _⟩ := c2 fm
    have len1 : 1 ≤ S.names.length := by cases hS' : S.names with
      | nil => exact absurd hS' nne
      | cons a b => exact Nat.succ_pos _
    refine ⟨by rw [l1]; exact len1, by rw [l1]; exact n2, by rw [l1]; exact n1, by rw [l1]; exact nall, fun t ht => ?_, fun k hk => ?_, ?_, ?_, fun x hx => ?_, sortA_asc _, Nat.le_trans (sortA_len _) y1, fun t ht => ?_, ?_, fun k hk => ?_⟩
    · obtain ⟨j, hj, rfl⟩ := List.mem_map.mp ht
      have : j < S.names.length := c1 j hj
      show (0 : Int) ≤ (j : Int) ∧ (j : Int) < (s.names.length : Int)
      rw [l1]; omega
    · have hk : k < s.names.length := hk
      refine List.mem_map.mpr ⟨k, Classical.byContradiction fun c => hany (List.any_eq_true.mpr ⟨k, List.mem_range.mpr (by rw [nT, ← l1]; exact hk), ?_⟩), rfl⟩
      rw [decide_eq_false c]; rfl
    · show (T.2.map fun j : Nat => (j : Int)).length ≤ 12
      rw [List.length_map]; exact z1
    · show (s.W.getD (List.replicate s.names.length 1)).length = s.names.length
      cases hW : s.W with
      | none => exact List.length_replicate ..
      | some w => exact (x2 w hW).1
    · have hx : x ∈ s.W.getD (List.replicate s.names.length 1) := hx
      cases hW : s.W with
      | none => rw [hW] at hx; rw [(List.mem_replicate.mp hx).2]; exact ⟨by decide, by decide⟩
      | some w => rw [hW] at hx; exact (x2 w hW).2 x hx
    · have ht' := (sortA_mem s.aws t).mp ht
      obtain ⟨o1, o2, o3, o4, o5⟩ := y2 t ht'
      exact ⟨o1, x1 t ht', o3, o4, o5⟩
    · show (s.M.getD []).Pairwise (· < ·)
      cases hM : s.M with
      | none => exact .nil
      | some m => exact (x3 m hM).1
    · have hk : k ∈ s.M.getD [] := hk
      cases hM : s.M with
      | none => rw [hM] at hk; cases hk
      | some m => rw [hM] at hk; exact (x3 m hM).2 k hk
  · cases h
end Br

/-! what a law with lambdas keeps from step to step. -/
namespace Br
open PySem PySem.Spec PyProof.Rows L2
/-- from H0 to H: nothing but the numbers at d is changed, the tables are well, the numbers too -/
structure Run (T : List (Addr × Str)) (d : Addr) (H0 H : Hp) : Prop where
  keep : ∀ b o, b ≠ d → H0 b = some o → (∀ ps, o ≠ .tbl ps) → H b = some o
  tabs : LamX.Tabs T H
  dr : ∃ x y l, H d = some (dl x y l) ∧ DOk x y l
section
variable {T : List (Addr × Str)} {d : Addr} {H0 H H' : Hp}
theorem Run.re (r : Run T d H0 H) : Run T d H H := ⟨fun _ _ _ h _ => h, r.tabs, r.dr⟩
theorem Run.go (r : Run T d H0 H) (r2 : Run T d H H') : Run T d H0 H' := ⟨fun b o n h t => r2.keep b o n (r.keep b o n h t) t, r2.tabs, r2.dr⟩
theorem Run.wd {l : List (Addr × HO)} (r : Run T d H0 H) (w : Wd [] H H' l) : Run T d H0 H' := by
  obtain ⟨x, y, m, h, ok⟩ := r.dr
  exact ⟨fun b o n h t => w.base _ _ (by simp) (r.keep b o n h t), tabs_wd r.tabs w (fun _ h => nomatch h), x, y, m, w.base _ _ (by simp) h, ok⟩
theorem Run.new {p : Addr} (r : Run T d H0 H) (o : HO) (hp : H p = none) : Run T d H0 (upd H p o) := r.wd ((Wd.refl H).new o hp)
theorem Run.bel {x y : Int} {m : List Int} {l : List (Addr × HO)} (r : Run T d H0 H) (w : Wd [d] H H' l) (h : H' d = some (dl x y m)) (ok : DOk x y m) : Run T d H0 H' := by
  obtain ⟨x0, y0, m0, h0, _⟩ := r.dr
  exact ⟨fun b o n h t => w.base _ _ (by simpa using n) (r.keep b o n h t), tabs_wd r.tabs w (fun a ha => by rw [List.mem_singleton.mp ha]; exact ⟨_, h0⟩), x, y, m, h, ok⟩
theorem Run.ext {H1 : Hp} (r : Run T d H0 H) (e : LamX.ExtN H H1) (t : LamX.Tabs T H1) : Run T d H0 H1 := by
  obtain ⟨x, y, m, h, ok⟩ := r.dr
  exact ⟨fun b o n h q => e b o (r.keep b o n h q) q, t, x, y, m, (e _ _ h fun ps z => by unfold dl at z; cases z), ok⟩
theorem Run.lst {b : Addr} {xs : List V} (r : Run T d H0 H) (n : b ≠ d) (h : H0 b = some (.lst xs)) : H b = some (.lst xs) := r.keep b _ n h fun _ z => by cases z
theorem Run.tup {b : Addr} {xs : List V} (r : Run T d H0 H) (n : b ≠ d) (h : H0 b = some (.tup xs)) : H b = some (.tup xs) := r.keep b _ n h fun _ z => by cases z
theorem Run.ne {p : Addr} (r : Run T d H0 H) (hp : H p = none) : p ≠ d := by
  obtain ⟨x, y, m, h, _⟩ := r.dr
  exact fun z => by rw [z, h] at hp; cases hp
/-- a number is drawn -/
theorem Run.below (r : Run T d H0 H) {n : Int} {Q : VK} {E : XK} (h0 : 0 < n) (h1 : n < 1073741824) (q : ∀ k H', Run T d H H' → 0 ≤ k → k < n → Q (.int k) H') : spBelow [.ref d, .int n] H Q E := by
  obtain ⟨x, y, m, h, ok⟩ := r.dr
  exact ⟨d, n, x, y, m, rfl, h0, h1, h, ok, fun k a' b' r' H' w ok' k0 k1 => q k H' (r.re.bel w (w.get 0 rfl) ok') k0 k1⟩
/-- numbers are drawn -/
theorem Run.draws (r : Run T d H0 H) {n j : Nat} {vs : List Nat} {σ : L2.St} {Q : VK} (hn : n ≤ 1000) (hw : ∀ v, wipe ((wipe σ vs).set j (some v)) vs = wipe σ vs) (hd : ∀ v, ((wipe σ vs).set j (some v))[1]? = some (some (.ref d)))
    (q : ∀ D (ex : List Int) H', Run T d H H' → D ≠ d → H D = none → H' D = some (.lst (ex.map V.int)) → ex.length = n → (∀ b ∈ ex, 0 ≤ b ∧ b < 256) → Q (.ref D) H') :
    tLc (fun _ H R => R (Itr 0 n) H) (gName j) tYes (tCall spBelow [] E0 (tCons (tVar 1) (tCons (tC (.int 256)) tNil))) vs σ H Q := by
  intro D hD
  have nd := r.ne hD
  refine lc_range (lo := 0) (n := n) (fun i H2 => ∃ (l : List Int), Run T d H H2 ∧ H2 D = some (.lst (l.map V.int)) ∧ (∀ b ∈ l, 0 ≤ b ∧ b < 256) ∧ l.length = i) ⟨[], r.re.new _ hD, upd_same, by simp, rfl⟩ ?_ ?_
  · rintro i H2 hi ⟨l, r2, h2, hl, hll⟩
    obtain ⟨x, y, m, h, ok⟩ := r2.dr
    refine ⟨hw _, _, hd _, d, 256, x, y, m, rfl, by decide, by decide, h, ok, fun k a' b' r' H3 w ok' k0 k1 => ?_⟩
    have r3 := r2.re.bel w (w.get 0 rfl) ok'
    have h3 := r3.lst nd h2
    refine ⟨_, h3, Nat.lt_of_le_of_lt (by rw [List.length_map]; omega) (by decide : 1000 < sizeLine), l ++ [k], ?_, by rw [List.map_append]; exact upd_same, ?_, by simp; omega⟩
    · obtain ⟨x, y, m, hdd, ok⟩ := r3.dr
      have r4 := r2.go r3
      refine ⟨fun b o n h t => ?_, tabs_mut r3.tabs h3, x, y, m, by rw [upd_ne nd.symm]; exact hdd, ok⟩
      have nb : b ≠ D := fun z => by rw [z, hD] at h; cases h
      rw [upd_ne nb]; exact r4.keep b o n h t
    · intro b hb
      rcases List.mem_append.mp hb with hb | hb
      · exact hl b hb
      · rw [List.mem_singleton.mp hb]; exact ⟨k0, k1⟩
  · rintro H2 ⟨l, r2, h2, hl, hll⟩
    exact q D l H2 r2 nd hD h2 hll hl
end
end Br

namespace Br
open PySem PySem.Spec PyProof.Rows L2
theorem rep_len (x : Str) : (Txt.replace x ";" " ;").length ≤ 2 * x.length := by
  rw [TL.len_tl, replace_tl _ _ _ (by decide +kernel) (TL.kind_ok (by decide +kernel))]
  have e1 : TL.tl (";" : Str) = [59] := by decide +kernel
  have e2 : TL.tl (" ;" : Str) = [32, 59] := by decide +kernel
  rw [e1, e2, wide_join, List.nil_append, TL.len_tl x]
  induction TL.tl x with
  | nil => exact Nat.zero_le _
  | cons c r ih =>
    have h : (wide c).length ≤ 2 := by unfold wide; split <;> simp
    rw [List.flatMap_cons, List.length_append, List.length_cons]
    omega
theorem text_len1 {r : Rota} (ok : ROk r) : (textOf r).length ≤ 10000 := by
  have h1 := join_len "\n" ((lineWords r).map lineS) 200 fun s hs => by
    obtain ⟨ws, hws, rfl⟩ := List.mem_map.mp hs
    have := words_len ok ws hws
    exact lineS_len this.1 this.2
  have h2 := lines_few ok
  have e1 : (("\n" : Str)).length = 1 := by decide
  rw [e1, List.length_map] at h1
  unfold textOf
  have : (lineWords r).length * (200 + 1) ≤ 24 * 201 := Nat.mul_le_mul (by omega) (by decide)
  omega
/-! ### the word of a fault -/
def synP (p : Nat × Nat) : PyData := .tuple [.str "syntax", .tuple [.int (p.1 : Nat), .int (p.2 : Nat)]]
theorem lay_synP (p : Nat × Nat) : PyData.canLay0 (synP p) = true := by
  have e : PyData.strOk "syntax" = true := by decide +kernel
  simp [synP, PyData.canLay0, PyData.canLayAll0, e]
theorem shaped_synP (p : Nat × Nat) : SeqAt.shaped (synP p) = true := by
  unfold SeqAt.shaped
  rw [lay_synP p]
  simp [synP, PyData.depth, PyData.depthAll]
theorem synP_dp {K : PySem.W.Frag} {H : Hp} {y x : Addr} {p : Nat × Nat} (h1 : H y = some (.tup [.str "syntax", .ref x])) (h2 : H x = some (.tup [.int (p.1 : Nat), .int (p.2 : Nat)])) : Dp K H (.ref y) (synP p) :=
  .tup (SqT.of h1) (.cons (.str _) (.cons (.tup (SqT.of h2) (.cons (.int _) (.cons (.int _) .nil))) .nil))
section
variable {P : Program} {w : World} {K : PySem.W.Frag} {mg : Str → Option Value} {base : Heap} {CF CK CR cT PT : Addr} {cs : Nat → Addr}
theorem dp_ints1 {H : Hp} : ∀ l : List Int, DpAll K H (l.map V.int) (l.map PyData.int)
  | [] => .nil
  | x :: l => .cons (.int x) (dp_ints1 l)
theorem shaped_ints1 (l : List Int) : SeqAt.shaped (.list (l.map PyData.int)) = true := by
  have := shaped_list (xs := l.map V.int) (fun v hv => by obtain ⟨i, _, rfl⟩ := List.mem_map.mp hv; trivial)
  rw [List.map_map] at this; exact this
def spFmtG (CF CK : Addr) : Sp := fun vs H Q E => ∃ z : Str, vs = [.str z] ∧ Small z ∧
  match loadF z with
  | .rota r => ∀ H', Wd [] H H' [] → Q (.str (textOf r)) H'
  | .syn l c => ∀ (d : Addr) (H' : Hp), Wd [] H H' [(d, synD l c)] → E (.ref CF) (some d) H'
  | .chk why l c => ∀ (d : Addr) (H' : Hp), Wd [] H H' [(d, chkD why l c)] → E (.ref CK) (some d) H'
abbrev sformat_rota : Stmt := topS 43
theorem scformat_rota : FnScope ["rota"] ["rota"] (defScope sformat_rota) := ⟨rfl, rfl, rfl, by decide +kernel, rfl, by decide +kernel, by decide +kernel⟩
theorem cal_fmtG (D : DefAt K mg "format_rota" sformat_rota ["rota"]) (C1 : CalX P w K mg base 8 "load" ["rota"] (spLoadG CF CK)) (C2 : Cal P w K mg base 1 "format_parsed" ["parsed"] spText) : CalX P w K mg base 9 "format_rota" ["rota"] (spFmtG CF CK) := D.calX fun f fd F => by
  have nd := scformat_rota.nd
  obtain ⟨f1, fd1, m_load, kp_load, b_load, G_load⟩ := C1.ex
  obtain ⟨f2, fd2, m_format_parsed, kp_format_parsed, b_format_parsed, G_format_parsed⟩ := C2.ex
  refine F.okX scformat_rota (fun vs H Q E h => ?_) (fun cdv A outer s H vs Q E hr h => ?_)
  · obtain ⟨z, rfl, _⟩ := h; rfl
  obtain ⟨z, rfl, hs, q⟩ := h
  refine ⟨_, (pss_one (ps_ret (pe_call G_format_parsed (hr.mono (by first | decide | omega)) (by rfl) m_format_parsed kp_format_parsed b_format_parsed .nil pass0 (pa_cons (pe_call G_load (hr.mono (by first | decide | omega)) (by rfl) m_load kp_load b_load .nil (passes_call (takes_of rfl rfl rfl rfl) (fun _ _ _ _ h => h)) (pa_cons (pv 0) pa_nil)) pa_nil)))), ?_⟩
  refine ⟨_, rfl, z, rfl, hs, ?_⟩
  cases hl : loadF z with
  | rota r =>
    rw [hl] at q
    exact fun H1 a c1 hR => ⟨a, r, rfl, hR, load_ok hl, fun H2 c2 => q H2 (c1.fgo c2)⟩
  | syn l c => rw [hl] at q; exact q
  | chk y l c => rw [hl] at q; exact q
end
end Br

namespace Br
open PySem PySem.Spec PyProof.Rows L2
def odds1 : List Str := ["a", "people", "turns", "weights", "away", "of", "makeup", "3", "0", ";", "xyz", "12"]
def odds2 : List Str := ["03", "100", "abcdefghi", "A", "-", ","]
theorem odds_in : ∀ x ∈ odds1 ++ odds2, x ∈ ws1 := by decide +kernel
def nums2 : List Str := ["100", "05"]
theorem nums2_in : ∀ x ∈ nums2, x ∈ ws1 := by decide +kernel
section
variable {P : Program} {w : World} {K : PySem.W.Frag} {mg : Str → Option Value} {base : Heap} {CF CK CR cT PT : Addr} {cs : Nat → Addr}
abbrev slaw : Stmt := topS 56
theorem sclaw : FnScope ["_law_script", "_law_d", "_law_step", "_law_tokens", "_law_change", "_law_at", "_law_kind_here", "_law_odd", "_law_word", "_law_rest", "_law_numbers", "_law_places", "_law_text_here", "_law_expected", "_law_error", "_law_place", "_law_k"] ["_law_script"] (defScope slaw) := ⟨rfl, rfl, rfl, by decide +kernel, rfl, by decide +kernel, by decide +kernel⟩
theorem Run.mut1 {T : List (Addr × Str)} {d p : Addr} {H0 H : Hp} {xs : List V} {o : HO} (r : Run T d H0 H) (hn : H0 p = none) (nd : p ≠ d) (h : H p = some (.lst xs)) : Run T d H0 (upd H p o) := by
  obtain ⟨x, y, m, hdd, ok⟩ := r.dr
  refine ⟨fun b o n h t => ?_, tabs_mut r.tabs h, x, y, m, by rw [upd_ne nd.symm]; exact hdd, ok⟩
  have nb : b ≠ p := fun z => by rw [z, hn] at h; cases h
  rw [upd_ne nb]; exact r.keep b o n h t
def spLaw (PT : Addr) (K : PySem.W.Frag) : Sp := fun vs H Q _ => ∃ (a : Addr) (ns : List Int), vs = [.ref a] ∧ SqL K H a (ns.map V.int) ∧ ns.length ≤ 63 ∧ H PT = some (.tbl #[]) ∧ ∀ H', Q (.bl true) H'
/-- the law's state in a round: the tokens are told -/
def TS1 (T : List (Addr × Str)) (a d : Addr) (j : Nat) (H0 : Hp) (σ : L2.St) (H : Hp) : Prop :=
  ∃ (tp : Addr) (ws : List Str) (e2 e4 e5 e6 e7 e8 e9 e10 e11 e12 e13 e14 e15 e16 : Option V), σ = [some (.ref a), some (.ref d), e2, some (.ref tp), e4, e5, e6, e7, e8, e9, e10, e11, e12, e13, e14, e15, e16] ∧ Run T d H0 H ∧ tp ≠ d ∧ H tp = some (.lst (ws.map V.str)) ∧ Gd j ws
theorem law_ok {f : Addr} {fd : FuncData} (F : FunC K "law" "law" slaw f fd cT) (T : Bi mg) (hR : mg "RotaError" = some (.ref CR)) (gc : ∀ i, i < 14 → mg (clsN.getD i "") = some (.ref (cs i))) (TB : LamX.TabB base mg cT PT) (EO : DefAt K mg "_law_error_of" s_law_error_of ["_law_call"])
    (kf : ErK K cs CR CF 9) (kc : ErK K cs CR CK 10) (f1 : PySem.W.findIn K (.ref CF) "line" = some none) (f2 : PySem.W.findIn K (.ref CF) "column" = some none) (n0 : PySem.W.findIn K (.ref CK) "reason" = some none) (n1 : PySem.W.findIn K (.ref CK) "line" = some none) (n2 : PySem.W.findIn K (.ref CK) "column" = some none)
    (C1 : Cal P w K mg base 1 "_law_random" ["_law_script", "_law_salt"] (spRandom K)) (C2 : Cal P w K mg base 1 "_law_below" ["_law_d", "_law_limit"] spBelow) (C3 : Cal P w K mg base 3 "_law_rota" ["_law_d", "_law_most"] (spRota K)) (C4 : Cal P w K mg base 1 "_law_text" ["_law_rota_here"] spText) (C5 : Cal P w K mg base 1 "_law_kind" ["_law_token"] spKind)
    (C6 : Cal P w K mg base 2 "_law_placed" ["_law_d", "_law_tokens"] spPlaced) (C7 : Cal P w K mg base 3 "_law_first_fault" ["_law_tokens"] spFF) (C9 : CalX P w K mg base 9 "format_rota" ["rota"] (spFmtG CF CK)) : FnOk P w K mg base CX0 13 f fd ["_law_script"] (spLaw PT K) := by
  have nd := sclaw.nd
  obtain ⟨g1, fd1, m__law_random, kp__law_random, b__law_random, G__law_random⟩ := C1.ex
  obtain ⟨g2, fd2, m__law_below, kp__law_below, b__law_below, G__law_below⟩ := C2.ex
  obtain ⟨g3, fd3, m__law_rota, kp__law_rota, b__law_rota, G__law_rota⟩ := C3.ex
  obtain ⟨g4, fd4, m__law_text, kp__law_text, b__law_text, G__law_text⟩ := C4.ex
  obtain ⟨g5, fd5, m__law_kind, kp__law_kind, b__law_kind, G__law_kind⟩ := C5.ex
  obtain ⟨g6, fd6, m__law_placed, kp__law_placed, b__law_placed, G__law_placed⟩ := C6.ex
  obtain ⟨g7, fd7, m__law_first_fault, kp__law_first_fault, b__law_first_fault, G__law_first_fault⟩ := C7.ex
  obtain ⟨g8, fd8, m_format_rota, kp_format_rota, b_format_rota, G_format_rota⟩ := C9.ex
  refine F.okT sclaw rfl (fun vs H Q E h => ?_) (fun A outer s H vs Q E hr h => ?_)
  · obtain ⟨a, ns, rfl, _⟩ := h; rfl
  obtain ⟨a, ns, rfl, ha, hn, hP, q⟩ := h
  have hu := hr.units
  refine ⟨_, (pss_consT1 (ps_set (i := 1) nd rfl (Or.inl rfl) (pe_call G__law_random (hr.mono (by first | decide | omega)) (by rfl) m__law_random kp__law_random b__law_random .nil pass0 (pa_cons (pv 0) (pa_cons pe_int pa_nil))))
 (psst_consO (pst_forT PassesOwn.never rfl (PIT.ofI (pi_range1 (by rfl) T.range (pa_cons pe_int pa_nil))) (pg_name (i := 2) nd rfl (Or.inl rfl))
 (psst_consO (pst_set (i := 3) nd rfl (Or.inr rfl) (pet_words (CwR.pet_replC (pe_call G__law_text (hr.mono (by first | decide | omega)) (by rfl) m__law_text kp__law_text b__law_text .nil pass0 (pa_cons (pe_call G__law_rota (hr.mono (by first | decide | omega)) (by rfl) m__law_rota kp__law_rota b__law_rota .nil pass0 (pa_cons (pv 1) (pa_cons pe_int pa_nil))) pa_nil)))))
 (pss_cons (ps_for PassesOwn.never rfl (pi_range1 (by rfl) T.range (pa_cons (pe_call G__law_below (hr.mono (by first | decide | omega)) (by rfl) m__law_below kp__law_below b__law_below .nil pass0 (pa_cons (pv 1) (pa_cons pe_int pa_nil))) pa_nil)) (pg_name (i := 4) nd rfl (Or.inl rfl))
 (pss_cons (ps_par (i := 5) (j := 6) (by rfl) nd rfl rfl (by decide) rfl rfl (pa_cons (pe_call G__law_below (hr.mono (by first | decide | omega)) (by rfl) m__law_below kp__law_below b__law_below .nil pass0 (pa_cons (pv 1) (pa_cons (pe_callB (call_max2 rfl) (by rfl) T.max (by decide +kernel) (pa_cons pe_int (pa_cons (pe_callB (r := rLenS K) call_len_seq (by rfl) T.len PySem.boot_len (pa_cons (pv 3) pa_nil)) pa_nil))) pa_nil))) (pa_cons (pe_call G__law_below (hr.mono (by first | decide | omega)) (by rfl) m__law_below kp__law_below b__law_below .nil pass0 (pa_cons (pv 1) (pa_cons pe_int pa_nil))) pa_nil)) (by rfl))
 (pss_cons (ps_set (i := 7) nd rfl (Or.inl rfl) (pe_lst (pa_cons pe_str (pa_cons pe_str (pa_cons pe_str (pa_cons pe_str (pa_cons pe_str (pa_cons pe_str (pa_cons pe_str (pa_cons pe_str (pa_cons pe_str (pa_cons pe_str (pa_cons pe_str (pa_cons pe_str pa_nil))))))))))))))
 (pss_cons (ps_set (i := 8) nd rfl (Or.inl rfl) (pe_ix (r := rIxL K) ix_list (pe_op op_cat (pv 7) (pe_lst (pa_cons pe_str (pa_cons pe_str (pa_cons pe_str (pa_cons pe_str (pa_cons pe_str (pa_cons pe_str pa_nil)))))))) (pe_call G__law_below (hr.mono (by first | decide | omega)) (by rfl) m__law_below kp__law_below b__law_below .nil pass0 (pa_cons (pv 1) (pa_cons pe_int pa_nil))) (fun _ _ => rfl)))
 (pss_one (ps_if (pt_cmpR op_eq (pv 6) pe_int (nomark _))
 (pss_one (ps_set (i := 3) nd rfl (Or.inr rfl) (pe_op op_cat (pe_slice (r := rSlL K) sl_list (pv 3) po_none (po_some (pv 5))) (pe_slice (r := rSlL K) sl_list (pv 3) (po_some (pe_op op_add (pv 5) pe_int)) po_none))))
 (pss_one (ps_if (pt_cmpR op_eq (pv 6) pe_int (nomark _))
 (pss_one (ps_set (i := 3) nd rfl (Or.inr rfl) (pe_slice (r := rSlL K) sl_list (pv 3) po_none (po_some (pv 5)))))
 (pss_cons (ps_set (i := 9) nd rfl (Or.inl rfl) (pe_slice (r := rSlL K) sl_list (pv 3) (po_some (pe_op op_add (pv 5) (pe_op op_mod (pv 6) pe_int))) po_none))
 (pss_one (ps_set (i := 3) nd rfl (Or.inr rfl) (pe_op op_cat (pe_op op_cat (pe_slice (r := rSlL K) sl_list (pv 3) po_none (po_some (pv 5))) (pe_lst (pa_cons (pv 8) pa_nil))) (pv 9)))))))))))))
 (pss_cons (ps_setLc (i := 10) (own := [("_law_k", 16)]) rfl nd rfl rfl (sw_true rfl rfl rfl (by decide +kernel)) (pi_range1 (by rfl) T.range (pa_cons (pe_callB (r := rLenS K) call_len_seq (by rfl) T.len PySem.boot_len (pa_cons (pv 3) pa_nil)) pa_nil)) (blkOk_by (N := ["_law_script", "_law_d", "_law_step", "_law_tokens", "_law_change", "_law_at", "_law_kind_here", "_law_odd", "_law_word", "_law_rest", "_law_numbers", "_law_places", "_law_text_here", "_law_expected", "_law_error", "_law_place", "_law_k"]) (sc := defScope slaw) (by decide +kernel)) (fun _ _ _ _ _ => (pg_name (i := 16) nd rfl (Or.inl rfl))) (fun _ _ _ _ _ => (pts_one (pt_cmpR op_eq (pe_call G__law_kind (hr.mono (by first | decide | omega)) (by rfl) m__law_kind kp__law_kind b__law_kind .nil pass0 (pa_cons (pe_ix (r := rIxL K) ix_list (pv 3) (pv 16) (fun _ _ => rfl)) pa_nil)) pe_str (nomark _)))) (fun _ _ _ _ _ => (pv 16)))
 (C8.pss_cut (ps_if (PW.pt (pw_and (pt_cmpR (r := rNeD K) (op_neD hu) (pv 10) (pe_lst pa_nil) (nomark _)) (pw_and1 (pt_cmpR op_eq (pe_call G__law_below (hr.mono (by first | decide | omega)) (by rfl) m__law_below kp__law_below b__law_below .nil pass0 (pa_cons (pv 1) (pa_cons pe_int pa_nil))) pe_int (nomark _)))))
 (pss_cons (ps_set (i := 5) nd rfl (Or.inl rfl) (pe_ix (r := rIxL K) ix_list (pv 10) (pe_call G__law_below (hr.mono (by first | decide | omega)) (by rfl) m__law_below kp__law_below b__law_below .nil pass0 (pa_cons (pv 1) (pa_cons (pe_callB (r := rLenS K) call_len_seq (by rfl) T.len PySem.boot_len (pa_cons (pv 10) pa_nil)) pa_nil))) (fun _ _ => rfl)))
 (pss_one (ps_set (i := 3) nd rfl (Or.inr rfl) (pe_op op_cat (pe_op op_cat (pe_slice (r := rSlL K) sl_list (pv 3) po_none (po_some (pv 5))) (pe_lst (pa_cons (pe_ix (r := rIxL K) ix_list (pe_lst (pa_cons pe_str (pa_cons pe_str pa_nil))) (pe_call G__law_below (hr.mono (by first | decide | omega)) (by rfl) m__law_below kp__law_below b__law_below .nil pass0 (pa_cons (pv 1) (pa_cons pe_int pa_nil))) (fun _ _ => rfl)) pa_nil))) (pe_slice (r := rSlL K) sl_list (pv 3) (po_some (pe_op op_add (pv 5) pe_int)) po_none)))))
 pss_nil)
 (pss_cons (ps_asg (pe_call G__law_placed (hr.mono (by first | decide | omega)) (by rfl) m__law_placed kp__law_placed b__law_placed .nil pass0 (pa_cons (pv 1) (pa_cons (pv 3) pa_nil))) (pg_tupK (K := K) (n := 2) rfl rfl (pgs_cons (pg_name (i := 11) nd rfl (Or.inl rfl)) (pgs_cons (pg_name (i := 12) nd rfl (Or.inr rfl)) pgs_nil))))
 (pss_cons (ps_set (i := 13) nd rfl (Or.inl rfl) (pe_call G__law_first_fault (hr.mono (by first | decide | omega)) (by rfl) m__law_first_fault kp__law_first_fault b__law_first_fault .nil pass0 (pa_cons (pv 3) pa_nil)))
 (pss_cons (ps_set (i := 14) nd rfl (Or.inl rfl) (pe_erof (k := 9) EO T hR gc TB (by rfl) rfl (hr.mono (by decide)) (LamX.lamS_by (sc := defScope slaw) (by decide +kernel)) rfl (fun _ _ _ _ _ => rfl) (fun _ _ _ _ _ _ _ hr => (pe_call G_format_rota (hr.mono (by first | decide | omega)) (by rfl) m_format_rota kp_format_rota b_format_rota .nil (passes_call (takes_of rfl rfl rfl rfl) (fun _ _ _ _ h => h)) (pa_cons (pv 12) pa_nil)))))
 (pss_one (ps_if (pt_cmpR op_isN (pv 13) pe_non (nomark _))
 (pss_one (ps_if (PW.pt (pw_and (pt_cmpR op_notN (pv 14) pe_non (nomark _)) (pw_and1 (pt_cmpR op_ne (pe_ix (r := rIxT K) ix_tup (pv 14) pe_int (fun _ _ => rfl)) pe_str (nomark _)))))
 (pss_one (ps_ret pe_bl))
 pss_nil))
 (pss_cons (ps_set (i := 15) nd rfl (Or.inl rfl) (pe_ifExp (pt_cmpR op_lt (pv 13) (pe_callB (r := rLenS K) call_len_seq (by rfl) T.len PySem.boot_len (pa_cons (pv 11) pa_nil)) (nomark _)) (pe_ix (r := rIxL K) ix_list (pv 11) (pv 13) (fun _ _ => rfl)) (pe_tup (pa_cons (pe_callB (r := rLenS K) call_len_seq (by rfl) T.len PySem.boot_len (pa_cons (pe_split (pv 12) pe_str) pa_nil)) (pa_cons pe_int pa_nil)))))
 (pss_one (ps_if (pt_cmpR (r := rNeD K) (op_neD hu) (pv 14) (pe_tup (pa_cons pe_str (pa_cons (pv 15) pa_nil))) (nomark _))
 (pss_one (ps_ret pe_bl))
 pss_nil)))))))))))))
 (pss_one (ps_ret pe_bl)))), ?_⟩
  let qq : Str := (envOfC "law" (defScope slaw) s.heap.objs.size f (.ref cT)).qual ++ "<lambda>"
  refine ⟨_, rfl, a, ns, 1, rfl, by decide, ha, hn, fun d x0 y0 l0 H1 c1 ok0 => ?_⟩
  have t0 : LamX.Tabs [(PT, qq)] H := fun p hp => by rw [List.mem_singleton.mp hp]; exact .nil hP
  have r1 : Run [(PT, qq)] d H1 H1 := ⟨fun _ _ _ h _ => h, tabs_wd t0 c1 (fun _ h => nomatch h), x0, y0, l0, c1.get 0 rfl, ok0⟩
  refine ⟨4, rfl, by omega, by omega, ?_⟩
  refine for_range (lo := 0) (n := 4) (fun i σ H' => ∃ e2 e3 e4 e5 e6 e7 e8 e9 e10 e11 e12 e13 e14 e15 e16, σ = [some (.ref a), some (.ref d), e2, e3, e4, e5, e6, e7, e8, e9, e10, e11, e12, e13, e14, e15, e16] ∧ Run [(PT, qq)] d H1 H') ⟨_, _, _, _, _, _, _, _, _, _, _, _, _, _, _, rfl, r1⟩ ?_ ?_
  · rintro i σ H2 hi ⟨e2, e3, e4, e5, e6, e7, e8, e9, e10, e11, e12, e13, e14, e15, e16, rfl, r2⟩
    obtain ⟨x, y, l, hd2, ok2⟩ := r2.dr
    refine ⟨_, rfl, d, 4, x, y, l, rfl, by decide, by decide, hd2, ok2, fun ro ra x' y' l' H3 w3 ok3 hra rok hsm => ?_⟩
    obtain ⟨hn4, hn6, ha6⟩ := hsm
    have r3 := r2.bel w3 (w3.get 0 rfl) ok3
    refine ⟨ra, ro, rfl, hra, rok, fun H4 w4 => ?_⟩
    have r4 := r3.wd w4
    have tl1 := text_len1 rok
    have tl2 := rep_len (textOf ro)
    refine ⟨textOf ro, rfl, (by show (textOf ro).length + ((textOf ro).length + 1) * 2 ≤ 16777216; omega), ⟨_, rfl⟩, _, rfl, rfl, le_line (by omega), ?_⟩
    rw [canon_toks rok hn6]
    have hn4' : ro.names.length ≤ 4 := hn4
    have gd0 := canon_gd rok hn6 hn4' ha6 (Nat.le_trans (asc_len rok.masc rok.m0) hn4')
    generalize ((lineWords ro).flatMap fun ws => ws ++ [(";" : Str)]) = ws at gd0
    intro tp htp
    have r5 := r4.new (.lst (ws.map V.str)) htp
    have ntp := r4.ne htp
    have htp5 : upd H4 tp (.lst (ws.map V.str)) tp = some (.lst (ws.map V.str)) := upd_same
    generalize upd H4 tp (.lst (ws.map V.str)) = H5 at r5 htp5 ⊢
    obtain ⟨x6, y6, l6, h6, ok6⟩ := r5.dr
    refine ⟨_, rfl, d, 3, x6, y6, l6, rfl, by decide, by decide, h6, ok6, fun kc3 xa ya la H6 w6 oka k0 k3 => ?_⟩
    have s6 := r5.re.bel w6 (w6.get 0 rfl) oka
    have htp6 := s6.lst ntp htp5
    have r6 := r5.go s6
    obtain ⟨kn, rfl⟩ := Int.eq_ofNat_of_zero_le k0
    have kn3 : kn < 3 := by omega
    refine ⟨kn, rfl, by omega, by omega, ?_⟩
    refine for_range (lo := 0) (n := kn) (fun j σ H' => TS1 [(PT, qq)] a d j H1 σ H') ⟨tp, ws, _, _, _, _, _, _, _, _, _, _, _, _, _, _, rfl, r6, ntp, htp6, gd0⟩ ?_ ?_
    · clear h6 ok6 w6 s6 htp6 r6 r5 htp5 r4 w4 r3 hra w3 hd2 ok2 r2 r1 t0 c1 ok0
      rintro j σ H7 hj ⟨tp, ws, e2, e4, e5, e6, e7, e8, e9, e10, e11, e12, e13, e14, e15, e16, rfl, r7, ntp, htp, gd⟩
      obtain ⟨x, y, l, hd, okd⟩ := r7.dr
      have hl7 := gd.len
      refine ⟨_, rfl, _, rfl, tp, _, rfl, .inl (SqL.of htp), _, _, rfl, ?_⟩
      rw [List.length_map]
      generalize hmx : (if ((ws.length : Nat) : Int) > 1 then ((ws.length : Nat) : Int) else 1) = mx
      have hmx0 : 0 < mx ∧ mx ≤ 200 := by rw [← hmx]; split <;> omega
      refine ⟨d, mx, x, y, l, rfl, hmx0.1, by omega, hd, okd, fun ka xa ya la H8 w8 oka a0 a1 => ?_⟩
      have s8 := r7.re.bel w8 (w8.get 0 rfl) oka
      have htp8 := s8.lst ntp htp
      have r8 := r7.go s8
      clear r7 s8 htp hd okd w8 oka hmx
      obtain ⟨an, rfl⟩ := Int.eq_ofNat_of_zero_le a0
      obtain ⟨x, y, l, hd, okd⟩ := r8.dr
      refine ⟨_, rfl, d, 5, x, y, l, rfl, by decide, by decide, hd, okd, fun kb xb yb lb H9 w9 okb b0 b5 => ?_⟩
      have s9 := r8.re.bel w9 (w9.get 0 rfl) okb
      have htp9 := s9.lst ntp htp8
      have r9 := r8.go s9
      clear r8 s9 htp8 hd okd w9 okb
      obtain ⟨bn, rfl⟩ := Int.eq_ofNat_of_zero_le b0
      refine ⟨_, _, rfl, (by show 12 ≤ sizeLine; decide), fun ol hol => ?_⟩
      have nol := r9.ne hol
      have v10 := (Wd.refl H9).new (.lst (odds1.map V.str)) hol
      have r10 := r9.new (.lst (odds1.map V.str)) hol
      have e10 : upd H9 ol (.lst [V.str "a", .str "people", .str "turns", .str "weights", .str "away", .str "of", .str "makeup", .str "3", .str "0", .str ";", .str "xyz", .str "12"]) = upd H9 ol (.lst (odds1.map V.str)) := rfl
      rw [e10]
      refine ⟨_, rfl, (by show 6 ≤ sizeLine; decide), fun o2 ho2 => ?_⟩
      have v11 := v10.new (.lst (odds2.map V.str)) ho2
      have r11 := r10.new (.lst (odds2.map V.str)) ho2
      have e11 : upd (upd H9 ol (.lst (odds1.map V.str))) o2 (.lst [V.str "03", .str "100", .str "abcdefghi", .str "A", .str "-", .str ","]) = upd (upd H9 ol (.lst (odds1.map V.str))) o2 (.lst (odds2.map V.str)) := rfl
      rw [e11]
      refine ⟨ol, o2, _, _, rfl, rfl, v11.get 1 rfl, v11.get 0 rfl, (by show 12 + 6 ≤ sizeLine; decide), fun o3 ho3 => ?_⟩
      rw [← List.map_append]
      have v12 := v11.new (.lst ((odds1 ++ odds2).map V.str)) ho3
      have r12 := r11.new (.lst ((odds1 ++ odds2).map V.str)) ho3
      have htp12 := v12.base _ _ (by simp) htp9
      have ho312 := v12.get 0 rfl
      have no3 := r11.ne ho3
      clear e10 e11 r9 r10 r11 v10 v11 v12 htp9
      generalize upd (upd (upd H9 ol (.lst (odds1.map V.str))) o2 (.lst (odds2.map V.str))) o3 (.lst ((odds1 ++ odds2).map V.str)) = H12 at r12 htp12 ho312 ⊢
      obtain ⟨x, y, l, hd, okd⟩ := r12.dr
      refine ⟨_, rfl, d, 18, x, y, l, rfl, by decide, by decide, hd, okd, fun kw xw yw lw H13 w13 okw c0 c18 => ?_⟩
      have s13 := r12.re.bel w13 (w13.get 0 rfl) okw
      have htp13 := s13.lst ntp htp12
      have ho313 := s13.lst no3 ho312
      have r13 := r12.go s13
      obtain ⟨iw, vw, rfl, hiw, hatw⟩ := atI_mem (xs := (odds1 ++ odds2).map V.str) c0 c18
      rw [List.getElem?_map] at hiw
      obtain ⟨wd, hwd, rfl⟩ := Option.map_eq_some_iff.mp hiw
      have hin := odds_in wd (List.mem_of_getElem? hwd)
      refine ⟨o3, _, _, .str wd, rfl, rfl, SqL.of ho313, hatw, ?_⟩
      clear r12 s13 htp12 ho312 ho313 hd okd w13 okw hatw hiw
      have lo13 : cutV (ws.map V.str) none (some (an : Int)) = (ws.take an).map V.str := by rw [cut_lo, List.map_take]
      have ht13 : (ws.take an).length ≤ ws.length := by rw [List.length_take]; omega
      have hd13 : ∀ k, (ws.drop k).length ≤ ws.length := fun k => by rw [List.length_drop]; omega
      have hi13 : ∀ k : Nat, cutV (ws.map V.str) (some (k : Int)) none = (ws.drop k).map V.str := fun k => by rw [cut_hi, List.map_drop]
      refine ⟨_, rfl, rfl, _, rfl, ite2 (fun c1 => ?_) (fun c1 => ?_)⟩
      · refine ⟨_, rfl, _, rfl, _, rfl, tp, _, rfl, SqL.of htp13, fun q1 hq1 => ?_⟩
        rw [lo13]
        have v1 := (Wd.refl H13).new (.lst ((ws.take an).map V.str)) hq1
        refine ⟨_, rfl, _, rfl, _, _, rfl, rfl, _, rfl, tp, _, rfl, SqL.of (v1.base _ _ (by simp) htp13), fun q2 hq2 => ?_⟩
        rw [show ((an : Int) + 1) = ((an + 1 : Nat) : Int) from rfl, hi13 (an + 1)]
        have v2 := v1.new (.lst ((ws.drop (an + 1)).map V.str)) hq2
        refine ⟨q1, q2, _, _, rfl, rfl, v2.get 1 rfl, v2.get 0 rfl, le_line (by rw [List.length_map, List.length_map]; have := hd13 (an + 1); omega), fun q3 hq3 => ?_⟩
        rw [← List.map_append]
        have v3 := v2.new (.lst ((ws.take an ++ ws.drop (an + 1)).map V.str)) hq3
        exact ⟨q3, _, _, _, _, _, _, _, _, _, _, _, _, _, _, _, rfl, r13.wd v3, (r13.wd v2).ne hq3, v3.get 0 rfl, gd.cut (by omega)⟩
      refine ⟨_, rfl, rfl, _, rfl, ite2 (fun c2 => ?_) (fun c2 => ?_)⟩
      · refine ⟨_, rfl, _, rfl, _, rfl, tp, _, rfl, SqL.of htp13, fun q1 hq1 => ?_⟩
        rw [lo13]
        have v1 := (Wd.refl H13).new (.lst ((ws.take an).map V.str)) hq1
        exact ⟨q1, _, _, _, _, _, _, _, _, _, _, _, _, _, _, _, rfl, r13.wd v1, r13.ne hq1, v1.get 0 rfl, gd.pre an⟩
      · refine ⟨_, rfl, _, rfl, _, rfl, _, _, rfl, rfl, (by show (0 : Int) < 2; decide), _, _, rfl, rfl, _, rfl, tp, _, rfl, SqL.of htp13, fun q0 hq0 => ?_⟩
        rw [show ((an : Int) + (bn : Int) % 2) = ((an + bn % 2 : Nat) : Int) from rfl, hi13 (an + bn % 2)]
        have v0 := (Wd.refl H13).new (.lst ((ws.drop (an + bn % 2)).map V.str)) hq0
        have r0 := r13.wd v0
        refine ⟨_, rfl, _, rfl, _, rfl, tp, _, rfl, SqL.of (v0.base _ _ (by simp) htp13), fun q1 hq1 => ?_⟩
        rw [lo13]
        have v1 := v0.new (.lst ((ws.take an).map V.str)) hq1
        refine ⟨_, rfl, (by show 1 ≤ sizeLine; decide), fun u1 hu1 => ?_⟩
        have v2 := v1.new (.lst [V.str wd]) hu1
        refine ⟨q1, u1, _, _, rfl, rfl, v2.get 1 rfl, v2.get 0 rfl, le_line (by rw [List.length_map, List.length_singleton]; omega), fun c3 hc3 => ?_⟩
        have e3 : (ws.take an).map V.str ++ [V.str wd] = (ws.take an ++ [wd]).map V.str := by rw [List.map_append]; rfl
        rw [e3]
        have v3 := v2.new (.lst ((ws.take an ++ [wd]).map V.str)) hc3
        refine ⟨_, rfl, c3, q0, _, _, rfl, rfl, v3.get 0 rfl, v3.get 3 rfl, le_line (by rw [List.length_map, List.length_map, List.length_append, List.length_singleton]; have := hd13 (an + bn % 2); omega), fun c4 hc4 => ?_⟩
        rw [← List.map_append]
        have v4 := v3.new (.lst ((ws.take an ++ [wd] ++ ws.drop (an + bn % 2)).map V.str)) hc4
        exact ⟨c4, _, _, _, _, _, _, _, _, _, _, _, _, _, _, _, rfl, r13.wd v4, (r13.wd v3).ne hc4, v4.get 0 rfl, gd.mid hin (by omega)⟩
    · rintro σ H7 ⟨tp, ws, e2, e4, e5, e6, e7, e8, e9, e10, e11, e12, e13, e14, e15, e16, rfl, r7, ntp, htp, gd⟩
      clear h6 ok6 w6 s6 htp6 r6 r5 htp5 r4 w4 r3 hra w3 hd2 ok2 r2 r1 t0 c1 ok0
      have gd2 : Gd 2 ws := gd.mono (by omega)
      have hl7 := gd2.len
      refine ⟨_, rfl, tp, _, rfl, .inl (SqL.of htp), _, rfl, ?_⟩
      rw [List.length_map]
      refine ⟨by omega, by omega, ?_⟩
      intro D hD
      have nD := r7.ne hD
      refine lc_range (lo := 0) (n := ws.length) (fun i H' => ∃ l : List Int, Run [(PT, qq)] d H7 H' ∧ H' D = some (.lst (l.map V.int)) ∧ (∀ k ∈ l, 0 ≤ k ∧ k < ws.length) ∧ l.length ≤ i) ⟨[], r7.re.new _ hD, upd_same, by simp, Nat.le_refl _⟩ ?_ ?_
      · rintro i H8 hi ⟨l, r8, h8, hl, hll⟩
        have hw : ws[i]? = some ws[i] := List.getElem?_eq_getElem hi
        have W := ws1_ok (gd2.in1 ws[i] (List.mem_of_getElem? hw))
        have hwl := W.len
        obtain ⟨cc, rr, hcr, _⟩ := W.ne
        refine ⟨rfl, _, rfl, _, rfl, tp, _, _, .str ws[i], rfl, rfl, SqL.of (r8.lst ntp htp), ?_, ws[i], rfl, by omega, ⟨cc, rr, hcr⟩, fun H9 w9 => ?_⟩
        · rw [Int.zero_add]
          exact L2.at_of (j := i) rfl (by rw [List.getElem?_map, hw]; rfl)
        have s9 := r8.re.wd w9
        have h9 := s9.lst nD h8
        have r9 := r8.go s9
        refine ⟨rfl, _, rfl, ite2 (fun c1 => ?_) (fun c1 => ?_)⟩
        · refine ⟨_, rfl, l.map V.int, h9, lt_line (by rw [List.length_map]; omega), l ++ [((i : Nat) : Int)], r9.mut1 hD nD h9, ?_, ?_, by simp; omega⟩
          · rw [List.map_append, Int.zero_add]; exact upd_same
          · intro k hk
            rcases List.mem_append.mp hk with hk | hk
            · exact hl k hk
            · rw [List.mem_singleton.mp hk]; omega
        · exact ⟨l, r9, h9, hl, by omega⟩
      · rintro H8 ⟨l, r8, h8, hl, hll⟩
        have htp8 := r8.lst ntp htp
        have rA := r7.go r8
        clear r7 r8 htp hD
        refine ⟨fun σ H' => TS1 [(PT, qq)] a d 3 H1 σ H', ?_, ?_⟩
        · refine ⟨_, rfl, (by show 0 ≤ sizeLine; decide), fun ep hep => ?_⟩
          have v9 := (Wd.refl H8).new (.lst []) hep
          have rB := rA.new (.lst []) hep
          have htp9 := v9.base _ _ (by simp) htp8
          have h9 := v9.base _ _ (by simp) h8
          refine ⟨.list (l.map PyData.int), .list [], .lst (SqL.of h9) (dp_ints1 _), .lst (SqL.of (v9.get 0 rfl)) .nil, shaped_ints1 _, rfl, _, rfl, ?_⟩
          clear rA htp8 h8 v9
          generalize upd H8 ep (.lst []) = H9 at rB htp9 h9 ⊢
          rcases l with _ | ⟨k0, l⟩
          · exact iteF ⟨tp, ws, _, _, _, _, _, _, _, _, _, _, _, _, _, _, rfl, rB, ntp, htp9, gd2.mono (by omega)⟩
          · obtain ⟨x, y, m, hd, okd⟩ := rB.dr
            refine iteT ⟨_, rfl, d, 4, x, y, m, rfl, by decide, by decide, hd, okd, fun ka xa ya la HA wA oka a0 a4 => ?_⟩
            have sA := rB.re.bel wA (wA.get 0 rfl) oka
            have htpA := sA.lst ntp htp9
            have hA := sA.lst nD h9
            have rC := rB.go sA
            clear rB htp9 h9 sA hd okd wA oka
            refine ⟨rfl, _, rfl, ite2 (fun c1 => ?_) (fun c1 => ?_)⟩
            rotate_left
            · exact ⟨tp, ws, _, _, _, _, _, _, _, _, _, _, _, _, _, _, rfl, rC, ntp, htpA, gd2.mono (by omega)⟩
            obtain ⟨x, y, m, hd, okd⟩ := rC.dr
            refine ⟨_, rfl, _, rfl, _, rfl, D, _, rfl, .inl (SqL.of hA), d, _, x, y, m, rfl, ?_, ?_, hd, okd, fun kb xb yb lb HB wB okb b0 b1 => ?_⟩
            · rw [List.length_map, List.length_cons]; omega
            · rw [List.length_map]; omega
            rw [List.length_map] at b1
            have sB := rC.re.bel wB (wB.get 0 rfl) okb
            have htpB := sB.lst ntp htpA
            have hB := sB.lst nD hA
            have rD := rC.go sB
            clear rC htpA hA sB hd okd wB okb
            obtain ⟨ib, vb, rfl, hib, hatb⟩ := atI_mem (xs := (k0 :: l).map V.int) b0 (by rw [List.length_map]; exact b1)
            rw [List.getElem?_map] at hib
            obtain ⟨kv, hkv, rfl⟩ := Option.map_eq_some_iff.mp hib
            obtain ⟨kv0, kv1⟩ := hl kv (List.mem_of_getElem? hkv)
            obtain ⟨an, rfl⟩ := Int.eq_ofNat_of_zero_le kv0
            refine ⟨D, _, _, .int (an : Int), rfl, rfl, SqL.of hB, hatb, ?_⟩
            refine ⟨_, rfl, _, rfl, _, rfl, tp, _, rfl, SqL.of htpB, fun q1 hq1 => ?_⟩
            rw [show cutV (ws.map V.str) none (some (an : Int)) = (ws.take an).map V.str by rw [cut_lo, List.map_take]]
            have v1 := (Wd.refl HB).new (.lst ((ws.take an).map V.str)) hq1
            have ht13 : (ws.take an).length ≤ ws.length := by rw [List.length_take]; omega
            refine ⟨(by show 2 ≤ sizeLine; decide), fun nl hnl => ?_⟩
            have v2 := v1.new (.lst (nums2.map V.str)) hnl
            have e2 : upd (upd HB q1 (.lst ((ws.take an).map V.str))) nl (.lst [V.str "100", V.str "05"]) = upd (upd HB q1 (.lst ((ws.take an).map V.str))) nl (.lst (nums2.map V.str)) := rfl
            rw [e2]
            have htpC := v2.base _ _ (by simp) htpB
            have hnlC := v2.get 0 rfl
            have hq1C := v2.get 1 rfl
            have nq1 := rD.ne hq1
            have nnl := (rD.wd v1).ne hnl
            have rE := rD.wd v2
            clear e2 rD v1 v2 htpB hB hatb hib
            generalize upd (upd HB q1 (.lst ((ws.take an).map V.str))) nl (.lst (nums2.map V.str)) = HC at rE htpC hnlC hq1C ⊢
            obtain ⟨x, y, m, hd, okd⟩ := rE.dr
            refine ⟨_, rfl, d, 2, x, y, m, rfl, by decide, by decide, hd, okd, fun kd xd yd ld HD wD okD d0 d2 => ?_⟩
            have sD := rE.re.bel wD (wD.get 0 rfl) okD
            have htpD := sD.lst ntp htpC
            have hnlD := sD.lst nnl hnlC
            have hq1D := sD.lst nq1 hq1C
            have rF := rE.go sD
            clear rE htpC hnlC hq1C sD hd okd wD okD
            obtain ⟨iw, vw, rfl, hiw, hatw⟩ := atI_mem (xs := nums2.map V.str) d0 d2
            rw [List.getElem?_map] at hiw
            obtain ⟨wd, hwd, rfl⟩ := Option.map_eq_some_iff.mp hiw
            have hin := nums2_in wd (List.mem_of_getElem? hwd)
            refine ⟨nl, _, _, .str wd, rfl, rfl, SqL.of hnlD, hatw, (by show 1 ≤ sizeLine; decide), fun u1 hu1 => ?_⟩
            have v1 := (Wd.refl HD).new (.lst [V.str wd]) hu1
            refine ⟨q1, u1, _, _, rfl, rfl, v1.base _ _ (by simp) hq1D, v1.get 0 rfl, le_line (by rw [List.length_map, List.length_singleton]; omega), fun c3 hc3 => ?_⟩
            have e3 : (ws.take an).map V.str ++ [V.str wd] = (ws.take an ++ [wd]).map V.str := by rw [List.map_append]; rfl
            rw [e3]
            have v3 := v1.new (.lst ((ws.take an ++ [wd]).map V.str)) hc3
            refine ⟨_, rfl, _, rfl, _, _, rfl, rfl, _, rfl, tp, _, rfl, SqL.of (v3.base _ _ (by simp) htpD), fun q2 hq2 => ?_⟩
            rw [show ((an : Int) + 1) = ((an + 1 : Nat) : Int) from rfl, show cutV (ws.map V.str) (some ((an + 1 : Nat) : Int)) none = (ws.drop (an + 1)).map V.str by rw [cut_hi, List.map_drop]]
            have v4 := v3.new (.lst ((ws.drop (an + 1)).map V.str)) hq2
            refine ⟨c3, q2, _, _, rfl, rfl, v4.get 1 rfl, v4.get 0 rfl, le_line (by rw [List.length_map, List.length_map, List.length_append, List.length_singleton, List.length_drop]; omega), fun c4 hc4 => ?_⟩
            rw [← List.map_append]
            have v5 := v4.new (.lst ((ws.take an ++ [wd] ++ ws.drop (an + 1)).map V.str)) hc4
            exact ⟨c4, _, _, _, _, _, _, _, _, _, _, _, _, _, _, _, rfl, rF.wd v5, (rF.wd v4).ne hc4, v5.get 0 rfl, gd2.mid hin (by omega)⟩
        · clear gd gd2 htp8 h8 hl hll rA nD hl7 ntp
          rintro σ H9 ⟨tp, ws, e2, e4, e5, e6, e7, e8, e9, e10, e11, e12, e13, e14, e15, e16, rfl, r9, ntp, htp, gd⟩
          have hl9 := gd.len
          have hr9 := gd.run
          obtain ⟨x, y, m, hd, okd⟩ := r9.dr
          refine ⟨_, rfl, _, rfl, d, tp, ws, x, y, m, rfl, hd, okd, htp, ntp, gd.in1, by omega, fun ts pas p pl xa ya la HA ets oka wA pt => ?_⟩
          have sA := r9.re.bel wA (wA.get 0 rfl) oka
          have htpA := sA.lst ntp htp
          have hpA := wA.get 1 rfl
          have hplA := wA.get 2 rfl
          have rA := r9.go sA
          clear r9 sA htp hd okd wA oka
          refine ⟨p, _, rfl, SqT.of hpA, rfl, _, _, rfl, _, _, rfl, rfl, ?_⟩
          refine ⟨_, rfl, tp, ws, rfl, htpA, gd.in1, by omega, fun HB wB => ?_⟩
          have rB := rA.wd wB
          have hplB := wB.base _ _ (by simp) hplA
          have ptB := pt.keep wB.tups
          clear rA hplA pt hpA htpA wB
          have hin : ∀ q ∈ ts, q.2 ∈ ws1 := fun q hq => gd.in1 _ (by rw [← ets]; exact List.mem_map.mpr ⟨q, hq, rfl⟩)
          have hlt : ts.length = ws.length := by rw [← ets, List.length_map]
          have hsm : Small (strT ts) := small_T hin (by omega) (by rw [ets]; show rs1 ws ≤ 59; omega)
          have hsl : (strT ts).length ≤ 1100 := by
            have := strT_len ts hin
            rw [TL.len_tl, tl_strT]; omega
          have hlen : pas.length = ts.length := by rw [ptB.len, places_len]
          have hks : ws.map kindL = kindsT ts := by rw [← ets]; unfold kindsT; rw [List.map_map]; rfl
          rw [hks]
          have LF := load_fault hin
          refine ⟨rB.tabs, fun H5 e5 t5 => ?_⟩
          have r5 := rB.ext e5 t5
          have hpl5 : H5 pl = some (.lst (pas.map V.ref)) := e5 _ _ hplB (fun _ q => by cases q)
          have pt5 := ptB.keep fun b xs e => e5 _ _ e (fun _ q => by cases q)
          clear rB hplB ptB e5
          refine ⟨_, rfl, strT ts, rfl, hsm, ?_⟩
          generalize hfa : faultN (kindsT ts) = fa at LF ⊢
          cases fa with
          | none =>
            dsimp only at LF
            rcases LF with ⟨r, hld⟩ | ⟨y, l, c, hld⟩
            · rw [hld]
              intro H6 w6
              refine ⟨_, rfl, rfl, _, rfl, iteT ?_⟩
              refine ⟨_, rfl, rfl, _, rfl, ?_⟩
              exact iteF (iteF ⟨_, _, _, _, _, _, _, _, _, _, _, _, _, _, _, rfl, r5.wd w6⟩)
            · rw [hld]
              intro dd H6 w6
              refine ⟨CK, 10, rfl, kc, fun dd' e => (by cases e; exact ⟨_, w6.get 0 rfl⟩), .chk rfl (w6.get 0 rfl) ((look_ne (by decide +kernel)).trans ((look_ne (by decide +kernel)).trans look_eq)) ((look_ne (by decide +kernel)).trans look_eq) look_eq n0 n1 n2 fun p7 p8 H7 w7 => ?_⟩
              refine ⟨_, rfl, rfl, _, rfl, iteT ?_⟩
              refine ⟨_, rfl, rfl, _, rfl, ?_⟩
              refine iteT ⟨_, rfl, p7, _, _, _, rfl, rfl, SqT.of (w7.get 0 rfl), L2.at_of (j := 0) rfl rfl, rfl, _, rfl, ?_⟩
              exact iteF ⟨_, _, _, _, _, _, _, _, _, _, _, _, _, _, _, rfl, (r5.wd w6).wd w7⟩
          | some k =>
            dsimp only at LF
            obtain ⟨hk, hld⟩ := LF
            rw [hld]
            intro dd H6 w6
            refine ⟨CF, 9, rfl, kf, fun dd' e => (by cases e; exact ⟨_, w6.get 0 rfl⟩), .syn rfl (w6.get 0 rfl) ((look_ne (by decide +kernel)).trans look_eq) look_eq f1 f2 fun p7 p8 H7 w7 => ?_⟩
            have r7 := (r5.wd w6).wd w7
            have hpl7 := w7.base _ _ (by simp) (w6.base _ _ (by simp) hpl5)
            have pt7 := (pt5.keep w6.tups).keep w7.tups
            have g0 := w7.get 0 rfl
            have g1 := w7.get 1 rfl
            clear w6 w7 r5 hpl5 pt5
            refine ⟨_, rfl, rfl, _, rfl, iteF ?_⟩
            refine ⟨_, rfl, _, rfl, pl, _, rfl, .inl (SqL.of hpl7), _, _, rfl, rfl, _, rfl, ?_⟩
            rw [List.length_map]
            by_cases hlt2 : k < pas.length
            · rw [decide_eq_true (show ((k : Nat) : Int) < ((pas.length : Nat) : Int) by omega)]
              obtain ⟨pk, hpk⟩ : ∃ pk, (placesT 0 0 ts)[k]? = some pk := ⟨_, List.getElem?_eq_getElem (by rw [places_len]; omega)⟩
              obtain ⟨pa, hpa, hta⟩ := pt7.get hpk
              have epn : placeN ts k = pk := by unfold placeN; rw [hpk]
              rw [epn] at g1
              refine iteT ⟨_, rfl, _, rfl, pl, _, _, .ref pa, rfl, rfl, SqL.of hpl7, L2.at_of (j := k) rfl (by rw [List.getElem?_map, hpa]; rfl), ?_⟩
              refine ⟨_, rfl, _, rfl, (by show 2 ≤ sizeLine; decide), fun y hy => ?_⟩
              have v := (Wd.refl H7).new (.tup [.str "syntax", .ref pa]) hy
              refine ⟨synP pk, synP pk, synP_dp (v.tups _ _ g0) (v.tups _ _ g1), synP_dp (v.get 0 rfl) (v.tups _ _ hta), shaped_synP _, shaped_synP _, ?_⟩
              rw [SeqAt.eqv_refl _ (lay_synP pk)]
              exact ⟨false, rfl, iteF ⟨_, _, _, _, _, _, _, _, _, _, _, _, _, _, _, rfl, r7.wd v⟩⟩
            · rw [decide_eq_false (show ¬ ((k : Nat) : Int) < ((pas.length : Nat) : Int) by omega)]
              have epn : placeN ts k = ((Txt.split (strT ts) "\n").length, 0) := by unfold placeN; rw [List.getElem?_eq_none (by rw [places_len]; omega)]
              rw [epn] at g1
              refine iteF ⟨_, rfl, ⟨_, rfl⟩, strT ts, "\n", rfl, rfl, rfl, le_line (by omega), ?_⟩
              intro sp hsp
              have v1 := (Wd.refl H7).new (.lst ((Txt.split (strT ts) "\n").map V.str)) hsp
              refine ⟨sp, _, rfl, .inl (SqL.of (v1.get 0 rfl)), (by show 2 ≤ sizeLine; decide), fun pp hpp => ?_⟩
              rw [List.length_map]
              have v2 := v1.new (.tup [.int (((Txt.split (strT ts) "\n").length : Nat) : Int), .int 0]) hpp
              refine ⟨_, rfl, _, rfl, (by show 2 ≤ sizeLine; decide), fun y hy => ?_⟩
              have v := v2.new (.tup [.str "syntax", .ref pp]) hy
              refine ⟨synP ((Txt.split (strT ts) "\n").length, 0), synP ((Txt.split (strT ts) "\n").length, 0), synP_dp (v.tups _ _ g0) (v.tups _ _ g1), synP_dp (p := ((Txt.split (strT ts) "\n").length, 0)) (v.get 0 rfl) (v.get 1 rfl), shaped_synP _, shaped_synP _, ?_⟩
              rw [SeqAt.eqv_refl _ (lay_synP _)]
              exact ⟨false, rfl, iteF ⟨_, _, _, _, _, _, _, _, _, _, _, _, _, _, _, rfl, r7.wd v⟩⟩
  · rintro σ H2 ⟨e2, e3, e4, e5, e6, e7, e8, e9, e10, e11, e12, e13, e14, e15, e16, rfl, r2⟩
    exact q H2
end
end Br

namespace Br
open PySem PySem.Spec PyProof.Rows L2
/-! ### what the top has written, the head -/
theorem all_mk {l : PySem.W.OpenLaw} {w : World} {K : PySem.W.Frag} {h : Heap} {mg : Str → Option Value} {fa : Addr} (X : K.In h) (G : h.Ns mainGlobals mg) (hfa : mg "law" = some (.ref fa))
    {C_RotaError : Addr}
    {C_InvalidTick : Addr}
    {C_InvalidCount : Addr}
    {C_UnknownPerson : Addr}
    {C_TooLong : Addr}
    {C_DifferentPeople : Addr}
    {C_Contradiction : Addr}
    {C_NobodyHome : Addr}
    {C_InvalidName : Addr}
    {C_UnknownName : Addr}
    {C_SyntaxFault : Addr}
    {C_CheckFault : Addr}
    {C_InvalidCode : Addr}
    {C_InvalidOperation : Addr}
    {C_InvalidSession : Addr}
    {t_END_SIGN : Tok}
    {t_SIGN : Tok}
    {t_DIGITS : Tok}
    {t_MAX_DIGITS : Tok}
    {t_NUMBER : Tok}
    {t_LETTERS : Tok}
    {aTKEYWORDS : Addr} {dTKEYWORDS : Option Addr} {nTKEYWORDS : Nat} {slTKEYWORDS : Array (Option Value)} {tkKEYWORDS0 tkKEYWORDS1 tkKEYWORDS2 tkKEYWORDS3 tkKEYWORDS4 tkKEYWORDS5 : Tok}
    {t_KEYWORD : Tok}
    {t_MAX_LETTERS : Tok}
    {t_NAME : Tok}
    {t_END : Tok}
    {t_SPACES : Tok}
    {C_Token : Addr}
    {C_Parser : Addr}
    {f_law_below : Addr} {od_law_below an_law_below : Option Addr} {sl_law_below : Array (Option Value)} {oc_law_below kV_law_below dc_law_below pm_law_below cd_law_below ct_law_below : Value}
    {f_law_random : Addr} {od_law_random an_law_random : Option Addr} {sl_law_random : Array (Option Value)} {oc_law_random kV_law_random dc_law_random pm_law_random cd_law_random ct_law_random : Value}
    {f_law_shuffled : Addr} {od_law_shuffled an_law_shuffled : Option Addr} {sl_law_shuffled : Array (Option Value)} {oc_law_shuffled kV_law_shuffled dc_law_shuffled pm_law_shuffled cd_law_shuffled ct_law_shuffled : Value}
    {f_law_rota : Addr} {od_law_rota an_law_rota : Option Addr} {sl_law_rota : Array (Option Value)} {oc_law_rota kV_law_rota dc_law_rota pm_law_rota cd_law_rota ct_law_rota : Value}
    {f_law_text : Addr} {od_law_text an_law_text : Option Addr} {sl_law_text : Array (Option Value)} {oc_law_text kV_law_text dc_law_text pm_law_text cd_law_text ct_law_text : Value}
    {f_law_kind : Addr} {od_law_kind an_law_kind : Option Addr} {sl_law_kind : Array (Option Value)} {oc_law_kind kV_law_kind dc_law_kind pm_law_kind cd_law_kind ct_law_kind : Value}
    {f_law_takes : Addr} {od_law_takes an_law_takes : Option Addr} {sl_law_takes : Array (Option Value)} {oc_law_takes kV_law_takes dc_law_takes pm_law_takes cd_law_takes ct_law_takes : Value}
    {f_law_many : Addr} {od_law_many an_law_many : Option Addr} {sl_law_many : Array (Option Value)} {oc_law_many kV_law_many dc_law_many pm_law_many cd_law_many ct_law_many : Value}
    {f_law_first_fault : Addr} {od_law_first_fault an_law_first_fault : Option Addr} {sl_law_first_fault : Array (Option Value)} {oc_law_first_fault kV_law_first_fault dc_law_first_fault pm_law_first_fault cd_law_first_fault ct_law_first_fault : Value}
    {f_law_placed : Addr} {od_law_placed an_law_placed : Option Addr} {sl_law_placed : Array (Option Value)} {oc_law_placed kV_law_placed dc_law_placed pm_law_placed cd_law_placed ct_law_placed : Value}
    {fTokenI : Addr} {odTokenI anTokenI : Option Addr} {slTokenI : Array (Option Value)} {ocTokenI kVTokenI dcTokenI pmTokenI cdTokenI ctTokenI : Value}
    {frun_end : Addr} {odrun_end anrun_end : Option Addr} {slrun_end : Array (Option Value)} {ocrun_end kVrun_end dcrun_end pmrun_end cdrun_end ctrun_end : Value}
    {nmSyntaxFault qSyntaxFault : Str} {NSyntaxFault : Addr} {bsSyntaxFault : List Value} {snSyntaxFault : List Str} {subSyntaxFault : List Value} {abSyntaxFault : Bool} {colSyntaxFault : Option Bool} {ddSyntaxFault : Option Addr} {m0SyntaxFault m1SyntaxFault m2SyntaxFault m3SyntaxFault m5SyntaxFault : Option Value}
    {fSyntaxFaultI : Addr} {odSyntaxFaultI anSyntaxFaultI : Option Addr} {slSyntaxFaultI : Array (Option Value)} {ocSyntaxFaultI kVSyntaxFaultI dcSyntaxFaultI pmSyntaxFaultI cdSyntaxFaultI ctSyntaxFaultI : Value}
    {nmCheckFault qCheckFault : Str} {NCheckFault : Addr} {bsCheckFault : List Value} {snCheckFault : List Str} {subCheckFault : List Value} {abCheckFault : Bool} {colCheckFault : Option Bool} {ddCheckFault : Option Addr} {m0CheckFault m1CheckFault m2CheckFault m3CheckFault m5CheckFault : Option Value}
    {fCheckFaultI : Addr} {odCheckFaultI anCheckFaultI : Option Addr} {slCheckFaultI : Array (Option Value)} {ocCheckFaultI kVCheckFaultI dcCheckFaultI pmCheckFaultI cdCheckFaultI ctCheckFaultI : Value}
    {fread_token : Addr} {odread_token anread_token : Option Addr} {slread_token : Array (Option Value)} {ocread_token kVread_token dcread_token pmread_token cdread_token ctread_token : Value}
    {ftokenize : Addr} {odtokenize antokenize : Option Addr} {sltokenize : Array (Option Value)} {octokenize kVtokenize dctokenize pmtokenize cdtokenize cttokenize : Value}
    {fParserI : Addr} {odParserI anParserI : Option Addr} {slParserI : Array (Option Value)} {ocParserI kVParserI dcParserI pmParserI cdParserI ctParserI : Value}
    {fParser_peek : Addr} {odParser_peek anParser_peek : Option Addr} {slParser_peek : Array (Option Value)} {ocParser_peek kVParser_peek dcParser_peek pmParser_peek cdParser_peek ctParser_peek : Value}
    {fParser_fail : Addr} {odParser_fail anParser_fail : Option Addr} {slParser_fail : Array (Option Value)} {ocParser_fail kVParser_fail dcParser_fail pmParser_fail cdParser_fail ctParser_fail : Value}
    {fParser_found : Addr} {odParser_found anParser_found : Option Addr} {slParser_found : Array (Option Value)} {ocParser_found kVParser_found dcParser_found pmParser_found cdParser_found ctParser_found : Value}
    {fParser_take : Addr} {odParser_take anParser_take : Option Addr} {slParser_take : Array (Option Value)} {ocParser_take kVParser_take dcParser_take pmParser_take cdParser_take ctParser_take : Value}
    {fParser_take_word : Addr} {odParser_take_word anParser_take_word : Option Addr} {slParser_take_word : Array (Option Value)} {ocParser_take_word kVParser_take_word dcParser_take_word pmParser_take_word cdParser_take_word ctParser_take_word : Value}
    {fParser_take_all : Addr} {odParser_take_all anParser_take_all : Option Addr} {slParser_take_all : Array (Option Value)} {ocParser_take_all kVParser_take_all dcParser_take_all pmParser_take_all cdParser_take_all ctParser_take_all : Value}
    {fParser_person : Addr} {odParser_person anParser_person : Option Addr} {slParser_person : Array (Option Value)} {ocParser_person kVParser_person dcParser_person pmParser_person cdParser_person ctParser_person : Value}
    {fParser_parse_people : Addr} {odParser_parse_people anParser_parse_people : Option Addr} {slParser_parse_people : Array (Option Value)} {ocParser_parse_people kVParser_parse_people dcParser_parse_people pmParser_parse_people cdParser_parse_people ctParser_parse_people : Value}
    {t_MAX_PEOPLE : Tok}
    {fParser_parse_turns : Addr} {odParser_parse_turns anParser_parse_turns : Option Addr} {slParser_parse_turns : Array (Option Value)} {ocParser_parse_turns kVParser_parse_turns dcParser_parse_turns pmParser_parse_turns cdParser_parse_turns ctParser_parse_turns : Value}
    {t_MAX_TURNS : Tok}
    {fParser_parse_weights : Addr} {odParser_parse_weights anParser_parse_weights : Option Addr} {slParser_parse_weights : Array (Option Value)} {ocParser_parse_weights kVParser_parse_weights dcParser_parse_weights pmParser_parse_weights cdParser_parse_weights ctParser_parse_weights : Value}
    {t_MAX_WEIGHT : Tok}
    {fParser_parse_away : Addr} {odParser_parse_away anParser_parse_away : Option Addr} {slParser_parse_away : Array (Option Value)} {ocParser_parse_away kVParser_parse_away dcParser_parse_away pmParser_parse_away cdParser_parse_away ctParser_parse_away : Value}
    {t_MAX_AWAYS : Tok}
    {aTMODULI : Addr} {dTMODULI : Option Addr} {nTMODULI : Nat} {slTMODULI : Array (Option Value)} {tkMODULI0 tkMODULI1 tkMODULI2 tkMODULI3 tkMODULI4 tkMODULI5 : Tok}
    {fParser_parse_makeup : Addr} {odParser_parse_makeup anParser_parse_makeup : Option Addr} {slParser_parse_makeup : Array (Option Value)} {ocParser_parse_makeup kVParser_parse_makeup dcParser_parse_makeup pmParser_parse_makeup cdParser_parse_makeup ctParser_parse_makeup : Value}
    {fParser_parse_rota : Addr} {odParser_parse_rota anParser_parse_rota : Option Addr} {slParser_parse_rota : Array (Option Value)} {ocParser_parse_rota kVParser_parse_rota dcParser_parse_rota pmParser_parse_rota cdParser_parse_rota ctParser_parse_rota : Value}
    {fload : Addr} {odload anload : Option Addr} {slload : Array (Option Value)} {ocload kVload dcload pmload cdload ctload : Value}
    {fformat_parsed : Addr} {odformat_parsed anformat_parsed : Option Addr} {slformat_parsed : Array (Option Value)} {ocformat_parsed kVformat_parsed dcformat_parsed pmformat_parsed cdformat_parsed ctformat_parsed : Value}
    {fformat_rota : Addr} {odformat_rota anformat_rota : Option Addr} {slformat_rota : Array (Option Value)} {ocformat_rota kVformat_rota dcformat_rota pmformat_rota cdformat_rota ctformat_rota : Value}
    {f_law_error_of : Addr} {od_law_error_of an_law_error_of : Option Addr} {sl_law_error_of : Array (Option Value)} {oc_law_error_of kV_law_error_of dc_law_error_of pm_law_error_of cd_law_error_of ct_law_error_of : Value}
    {flaw : Addr} {odlaw anlaw : Option Addr} {sllaw : Array (Option Value)} {oclaw kVlaw dclaw pmlaw  ctlaw : Value}
    {cT PT : Addr} {odT : Option Addr} {vsT : Array Value} {slT : Array (Option Value)}
    (aCRotaError : PySem.W.nsIn K mainGlobals "RotaError" = some (some (.ref C_RotaError)))
    (rdR : PySem.W.readsIn K C_RotaError (.type "type") = true)
    (gaR : PySem.W.specialIn K (.ref C_RotaError) "__getattribute__" = some (some (.builtin "type.__getattribute__")))
    (atR : PySem.W.findCls K (.ref C_RotaError) (.type "type") "__init__" = some (.val (.builtin "ValueError.__init__")))
    (aCInvalidTick : PySem.W.nsIn K mainGlobals "InvalidTick" = some (some (.ref C_InvalidTick)))
    (aCInvalidCount : PySem.W.nsIn K mainGlobals "InvalidCount" = some (some (.ref C_InvalidCount)))
    (aCUnknownPerson : PySem.W.nsIn K mainGlobals "UnknownPerson" = some (some (.ref C_UnknownPerson)))
    (aCTooLong : PySem.W.nsIn K mainGlobals "TooLong" = some (some (.ref C_TooLong)))
    (aCDifferentPeople : PySem.W.nsIn K mainGlobals "DifferentPeople" = some (some (.ref C_DifferentPeople)))
    (aCContradiction : PySem.W.nsIn K mainGlobals "Contradiction" = some (some (.ref C_Contradiction)))
    (aCNobodyHome : PySem.W.nsIn K mainGlobals "NobodyHome" = some (some (.ref C_NobodyHome)))
    (aCInvalidName : PySem.W.nsIn K mainGlobals "InvalidName" = some (some (.ref C_InvalidName)))
    (aCUnknownName : PySem.W.nsIn K mainGlobals "UnknownName" = some (some (.ref C_UnknownName)))
    (aCSyntaxFault : PySem.W.nsIn K mainGlobals "SyntaxFault" = some (some (.ref C_SyntaxFault)))
    (aCCheckFault : PySem.W.nsIn K mainGlobals "CheckFault" = some (some (.ref C_CheckFault)))
    (aCInvalidCode : PySem.W.nsIn K mainGlobals "InvalidCode" = some (some (.ref C_InvalidCode)))
    (aCInvalidOperation : PySem.W.nsIn K mainGlobals "InvalidOperation" = some (some (.ref C_InvalidOperation)))
    (aCInvalidSession : PySem.W.nsIn K mainGlobals "InvalidSession" = some (some (.ref C_InvalidSession)))
    (s_END_SIGN : PySem.W.nsIn K mainGlobals "END_SIGN" = some (some (.str ";" t_END_SIGN)))
    (s_SIGN : PySem.W.nsIn K mainGlobals "SIGN" = some (some (.str "sign" t_SIGN)))
    (s_DIGITS : PySem.W.nsIn K mainGlobals "DIGITS" = some (some (.str "0123456789" t_DIGITS)))
    (s_MAX_DIGITS : PySem.W.nsIn K mainGlobals "MAX_DIGITS" = some (some (.int 2 t_MAX_DIGITS)))
    (s_NUMBER : PySem.W.nsIn K mainGlobals "NUMBER" = some (some (.str "number" t_NUMBER)))
    (s_LETTERS : PySem.W.nsIn K mainGlobals "LETTERS" = some (some (.str "abcdefghijklmnopqrstuvwxyz" t_LETTERS)))
    (s_KEYWORDS : PySem.W.nsIn K mainGlobals "KEYWORDS" = some (some (.ref aTKEYWORDS)))
    (u_KEYWORDS : K.lookup aTKEYWORDS = some ⟨.type "tuple", dTKEYWORDS, .seq #[.str "people" tkKEYWORDS0, .str "turns" tkKEYWORDS1, .str "weights" tkKEYWORDS2, .str "away" tkKEYWORDS3, .str "of" tkKEYWORDS4, .str "makeup" tkKEYWORDS5] nTKEYWORDS, slTKEYWORDS⟩)
    (s_KEYWORD : PySem.W.nsIn K mainGlobals "KEYWORD" = some (some (.str "keyword" t_KEYWORD)))
    (s_MAX_LETTERS : PySem.W.nsIn K mainGlobals "MAX_LETTERS" = some (some (.int 8 t_MAX_LETTERS)))
    (s_NAME : PySem.W.nsIn K mainGlobals "NAME" = some (some (.str "name" t_NAME)))
    (s_END : PySem.W.nsIn K mainGlobals "END" = some (some (.str "end" t_END)))
    (s_SPACES : PySem.W.nsIn K mainGlobals "SPACES" = some (some (.str " \n" t_SPACES)))
    (aCToken : PySem.W.nsIn K mainGlobals "Token" = some (some (.ref C_Token)))
    (pgToken : PySem.W.plainGet K C_Token Str.empty = true)
    (hdToken : PySem.W.hasDictIn K C_Token = true)
    (poToken : PySem.W.plainOver K C_Token = true)
    (saToken : PySem.W.findIn K (.ref C_Token) "__setattr__" = some (some (.builtin "object.__setattr__")))
    (nToken_kind : PySem.W.findIn K (.ref C_Token) "kind" = some none)
    (nToken_text : PySem.W.findIn K (.ref C_Token) "text" = some none)
    (nToken_line : PySem.W.findIn K (.ref C_Token) "line" = some none)
    (nToken_column : PySem.W.findIn K (.ref C_Token) "column" = some none)
    (aCParser : PySem.W.nsIn K mainGlobals "Parser" = some (some (.ref C_Parser)))
    (pgParser : PySem.W.plainGet K C_Parser Str.empty = true)
    (hdParser : PySem.W.hasDictIn K C_Parser = true)
    (poParser : PySem.W.plainOver K C_Parser = true)
    (saParser : PySem.W.findIn K (.ref C_Parser) "__setattr__" = some (some (.builtin "object.__setattr__")))
    (nParser_tokens : PySem.W.findIn K (.ref C_Parser) "tokens" = some none)
    (nParser_at : PySem.W.findIn K (.ref C_Parser) "at" = some none)
    (nParser_faults : PySem.W.findIn K (.ref C_Parser) "faults" = some none)
    (nParser_names : PySem.W.findIn K (.ref C_Parser) "names" = some none)
    (nParser_weights : PySem.W.findIn K (.ref C_Parser) "weights" = some none)
    (nParser_makers : PySem.W.findIn K (.ref C_Parser) "makers" = some none)
    (nParser_aways : PySem.W.findIn K (.ref C_Parser) "aways" = some none)
    (a_law_below : PySem.W.nsIn K mainGlobals "_law_below" = some (some (.ref f_law_below)))
    (l_law_below : K.lookup f_law_below = some ⟨oc_law_below, od_law_below, .func (PySem.W.fnOf "_law_below" "_law_below" (defArgs s_law_below) (defBody s_law_below) (defScope s_law_below) .none kV_law_below dc_law_below pm_law_below an_law_below cd_law_below ct_law_below), sl_law_below⟩)
    (c_law_below : PySem.W.codeIn K cd_law_below "_law_below" = true)
    (k_law_below : PySem.W.keepIn K (.ref f_law_below) = true)
    (a_law_random : PySem.W.nsIn K mainGlobals "_law_random" = some (some (.ref f_law_random)))
    (l_law_random : K.lookup f_law_random = some ⟨oc_law_random, od_law_random, .func (PySem.W.fnOf "_law_random" "_law_random" (defArgs s_law_random) (defBody s_law_random) (defScope s_law_random) .none kV_law_random dc_law_random pm_law_random an_law_random cd_law_random ct_law_random), sl_law_random⟩)
    (c_law_random : PySem.W.codeIn K cd_law_random "_law_random" = true)
    (k_law_random : PySem.W.keepIn K (.ref f_law_random) = true)
    (a_law_shuffled : PySem.W.nsIn K mainGlobals "_law_shuffled" = some (some (.ref f_law_shuffled)))
    (l_law_shuffled : K.lookup f_law_shuffled = some ⟨oc_law_shuffled, od_law_shuffled, .func (PySem.W.fnOf "_law_shuffled" "_law_shuffled" (defArgs s_law_shuffled) (defBody s_law_shuffled) (defScope s_law_shuffled) .none kV_law_shuffled dc_law_shuffled pm_law_shuffled an_law_shuffled cd_law_shuffled ct_law_shuffled), sl_law_shuffled⟩)
    (c_law_shuffled : PySem.W.codeIn K cd_law_shuffled "_law_shuffled" = true)
    (k_law_shuffled : PySem.W.keepIn K (.ref f_law_shuffled) = true)
    (a_law_rota : PySem.W.nsIn K mainGlobals "_law_rota" = some (some (.ref f_law_rota)))
    (l_law_rota : K.lookup f_law_rota = some ⟨oc_law_rota, od_law_rota, .func (PySem.W.fnOf "_law_rota" "_law_rota" (defArgs s_law_rota) (defBody s_law_rota) (defScope s_law_rota) .none kV_law_rota dc_law_rota pm_law_rota an_law_rota cd_law_rota ct_law_rota), sl_law_rota⟩)
    (c_law_rota : PySem.W.codeIn K cd_law_rota "_law_rota" = true)
    (k_law_rota : PySem.W.keepIn K (.ref f_law_rota) = true)
    (a_law_text : PySem.W.nsIn K mainGlobals "_law_text" = some (some (.ref f_law_text)))
    (l_law_text : K.lookup f_law_text = some ⟨oc_law_text, od_law_text, .func (PySem.W.fnOf "_law_text" "_law_text" (defArgs s_law_text) (defBody s_law_text) (defScope s_law_text) .none kV_law_text dc_law_text pm_law_text an_law_text cd_law_text ct_law_text), sl_law_text⟩)
    (c_law_text : PySem.W.codeIn K cd_law_text "_law_text" = true)
    (k_law_text : PySem.W.keepIn K (.ref f_law_text) = true)
    (a_law_kind : PySem.W.nsIn K mainGlobals "_law_kind" = some (some (.ref f_law_kind)))
    (l_law_kind : K.lookup f_law_kind = some ⟨oc_law_kind, od_law_kind, .func (PySem.W.fnOf "_law_kind" "_law_kind" (defArgs s_law_kind) (defBody s_law_kind) (defScope s_law_kind) .none kV_law_kind dc_law_kind pm_law_kind an_law_kind cd_law_kind ct_law_kind), sl_law_kind⟩)
    (c_law_kind : PySem.W.codeIn K cd_law_kind "_law_kind" = true)
    (k_law_kind : PySem.W.keepIn K (.ref f_law_kind) = true)
    (a_law_takes : PySem.W.nsIn K mainGlobals "_law_takes" = some (some (.ref f_law_takes)))
    (l_law_takes : K.lookup f_law_takes = some ⟨oc_law_takes, od_law_takes, .func (PySem.W.fnOf "_law_takes" "_law_takes" (defArgs s_law_takes) (defBody s_law_takes) (defScope s_law_takes) .none kV_law_takes dc_law_takes pm_law_takes an_law_takes cd_law_takes ct_law_takes), sl_law_takes⟩)
    (c_law_takes : PySem.W.codeIn K cd_law_takes "_law_takes" = true)
    (k_law_takes : PySem.W.keepIn K (.ref f_law_takes) = true)
    (a_law_many : PySem.W.nsIn K mainGlobals "_law_many" = some (some (.ref f_law_many)))
    (l_law_many : K.lookup f_law_many = some ⟨oc_law_many, od_law_many, .func (PySem.W.fnOf "_law_many" "_law_many" (defArgs s_law_many) (defBody s_law_many) (defScope s_law_many) .none kV_law_many dc_law_many pm_law_many an_law_many cd_law_many ct_law_many), sl_law_many⟩)
    (c_law_many : PySem.W.codeIn K cd_law_many "_law_many" = true)
    (k_law_many : PySem.W.keepIn K (.ref f_law_many) = true)
    (a_law_first_fault : PySem.W.nsIn K mainGlobals "_law_first_fault" = some (some (.ref f_law_first_fault)))
    (l_law_first_fault : K.lookup f_law_first_fault = some ⟨oc_law_first_fault, od_law_first_fault, .func (PySem.W.fnOf "_law_first_fault" "_law_first_fault" (defArgs s_law_first_fault) (defBody s_law_first_fault) (defScope s_law_first_fault) .none kV_law_first_fault dc_law_first_fault pm_law_first_fault an_law_first_fault cd_law_first_fault ct_law_first_fault), sl_law_first_fault⟩)
    (c_law_first_fault : PySem.W.codeIn K cd_law_first_fault "_law_first_fault" = true)
    (k_law_first_fault : PySem.W.keepIn K (.ref f_law_first_fault) = true)
    (a_law_placed : PySem.W.nsIn K mainGlobals "_law_placed" = some (some (.ref f_law_placed)))
    (l_law_placed : K.lookup f_law_placed = some ⟨oc_law_placed, od_law_placed, .func (PySem.W.fnOf "_law_placed" "_law_placed" (defArgs s_law_placed) (defBody s_law_placed) (defScope s_law_placed) .none kV_law_placed dc_law_placed pm_law_placed an_law_placed cd_law_placed ct_law_placed), sl_law_placed⟩)
    (c_law_placed : PySem.W.codeIn K cd_law_placed "_law_placed" = true)
    (k_law_placed : PySem.W.keepIn K (.ref f_law_placed) = true)
    (mkToken : PySem.W.makesIn K C_Token = true)
    (kcToken : PySem.W.keepIn K (.ref C_Token) = true)
    (aTokenI : PySem.W.findIn K (.ref C_Token) "__init__" = some (some (.ref fTokenI)))
    (iTokenI : PySem.W.isFn K (.ref fTokenI) = true)
    (lTokenI : K.lookup fTokenI = some ⟨ocTokenI, odTokenI, .func (PySem.W.fnOf "__init__" "Token.__init__" (defArgs sToken___init__) (defBody sToken___init__) (defScope sToken___init__) .none kVTokenI dcTokenI pmTokenI anTokenI cdTokenI ctTokenI), slTokenI⟩)
    (cTokenI : PySem.W.codeIn K cdTokenI "Token.__init__" = true)
    (kTokenI : PySem.W.keepIn K (.ref fTokenI) = true)
    (arun_end : PySem.W.nsIn K mainGlobals "run_end" = some (some (.ref frun_end)))
    (lrun_end : K.lookup frun_end = some ⟨ocrun_end, odrun_end, .func (PySem.W.fnOf "run_end" "run_end" (defArgs srun_end) (defBody srun_end) (defScope srun_end) .none kVrun_end dcrun_end pmrun_end anrun_end cdrun_end ctrun_end), slrun_end⟩)
    (crun_end : PySem.W.codeIn K cdrun_end "run_end" = true)
    (krun_end : PySem.W.keepIn K (.ref frun_end) = true)
    (xSyntaxFault : K.lookup C_SyntaxFault = some (excClassObj nmSyntaxFault qSyntaxFault C_SyntaxFault NSyntaxFault bsSyntaxFault [.ref C_RotaError, .type "ValueError", .type "Exception", .type "BaseException", .type "object"] true snSyntaxFault subSyntaxFault abSyntaxFault colSyntaxFault ddSyntaxFault m0SyntaxFault m1SyntaxFault m2SyntaxFault m3SyntaxFault m5SyntaxFault "ValueError.__new__"))
    (sESyntaxFault : PySem.W.findIn K (.ref C_SyntaxFault) "__setattr__" = some (some (.builtin "object.__setattr__")))
    (eCSyntaxFault : PySem.W.subIn K (.ref C_SyntaxFault) (.type "BaseException") = some true)
    (tCSyntaxFault : PySem.W.typeIn K (.ref C_SyntaxFault) = some (.type "type"))
    (kCSyntaxFault : PySem.W.keepIn K (.ref C_SyntaxFault) = true)
    (aSyntaxFaultI : PySem.W.findIn K (.ref C_SyntaxFault) "__init__" = some (some (.ref fSyntaxFaultI)))
    (tSyntaxFaultI : PySem.W.typeIn K (.ref fSyntaxFaultI) = some (.type "function"))
    (lSyntaxFaultI : K.lookup fSyntaxFaultI = some ⟨ocSyntaxFaultI, odSyntaxFaultI, .func (PySem.W.fnOf "__init__" "SyntaxFault.__init__" (defArgs sSyntaxFault___init__) (defBody sSyntaxFault___init__) (defScope sSyntaxFault___init__) .none kVSyntaxFaultI dcSyntaxFaultI pmSyntaxFaultI anSyntaxFaultI cdSyntaxFaultI ctSyntaxFaultI), slSyntaxFaultI⟩)
    (cSyntaxFaultI : PySem.W.codeIn K cdSyntaxFaultI "SyntaxFault.__init__" = true)
    (kSyntaxFaultI : PySem.W.keepIn K (.ref fSyntaxFaultI) = true)
    (noSyntaxFaultline : PySem.W.findIn K (.ref C_SyntaxFault) "line" = some none)
    (noSyntaxFaultcolumn : PySem.W.findIn K (.ref C_SyntaxFault) "column" = some none)
    (xCheckFault : K.lookup C_CheckFault = some (excClassObj nmCheckFault qCheckFault C_CheckFault NCheckFault bsCheckFault [.ref C_RotaError, .type "ValueError", .type "Exception", .type "BaseException", .type "object"] true snCheckFault subCheckFault abCheckFault colCheckFault ddCheckFault m0CheckFault m1CheckFault m2CheckFault m3CheckFault m5CheckFault "ValueError.__new__"))
    (sECheckFault : PySem.W.findIn K (.ref C_CheckFault) "__setattr__" = some (some (.builtin "object.__setattr__")))
    (eCCheckFault : PySem.W.subIn K (.ref C_CheckFault) (.type "BaseException") = some true)
    (tCCheckFault : PySem.W.typeIn K (.ref C_CheckFault) = some (.type "type"))
    (kCCheckFault : PySem.W.keepIn K (.ref C_CheckFault) = true)
    (aCheckFaultI : PySem.W.findIn K (.ref C_CheckFault) "__init__" = some (some (.ref fCheckFaultI)))
    (tCheckFaultI : PySem.W.typeIn K (.ref fCheckFaultI) = some (.type "function"))
    (lCheckFaultI : K.lookup fCheckFaultI = some ⟨ocCheckFaultI, odCheckFaultI, .func (PySem.W.fnOf "__init__" "CheckFault.__init__" (defArgs sCheckFault___init__) (defBody sCheckFault___init__) (defScope sCheckFault___init__) .none kVCheckFaultI dcCheckFaultI pmCheckFaultI anCheckFaultI cdCheckFaultI ctCheckFaultI), slCheckFaultI⟩)
    (cCheckFaultI : PySem.W.codeIn K cdCheckFaultI "CheckFault.__init__" = true)
    (kCheckFaultI : PySem.W.keepIn K (.ref fCheckFaultI) = true)
    (noCheckFaultreason : PySem.W.findIn K (.ref C_CheckFault) "reason" = some none)
    (noCheckFaultline : PySem.W.findIn K (.ref C_CheckFault) "line" = some none)
    (noCheckFaultcolumn : PySem.W.findIn K (.ref C_CheckFault) "column" = some none)
    (aread_token : PySem.W.nsIn K mainGlobals "read_token" = some (some (.ref fread_token)))
    (lread_token : K.lookup fread_token = some ⟨ocread_token, odread_token, .func (PySem.W.fnOf "read_token" "read_token" (defArgs sread_token) (defBody sread_token) (defScope sread_token) .none kVread_token dcread_token pmread_token anread_token cdread_token ctread_token), slread_token⟩)
    (cread_token : PySem.W.codeIn K cdread_token "read_token" = true)
    (kread_token : PySem.W.keepIn K (.ref fread_token) = true)
    (atokenize : PySem.W.nsIn K mainGlobals "tokenize" = some (some (.ref ftokenize)))
    (ltokenize : K.lookup ftokenize = some ⟨octokenize, odtokenize, .func (PySem.W.fnOf "tokenize" "tokenize" (defArgs stokenize) (defBody stokenize) (defScope stokenize) .none kVtokenize dctokenize pmtokenize antokenize cdtokenize cttokenize), sltokenize⟩)
    (ctokenize : PySem.W.codeIn K cdtokenize "tokenize" = true)
    (ktokenize : PySem.W.keepIn K (.ref ftokenize) = true)
    (mkParser : PySem.W.makesIn K C_Parser = true)
    (kcParser : PySem.W.keepIn K (.ref C_Parser) = true)
    (aParserI : PySem.W.findIn K (.ref C_Parser) "__init__" = some (some (.ref fParserI)))
    (iParserI : PySem.W.isFn K (.ref fParserI) = true)
    (lParserI : K.lookup fParserI = some ⟨ocParserI, odParserI, .func (PySem.W.fnOf "__init__" "Parser.__init__" (defArgs sParser___init__) (defBody sParser___init__) (defScope sParser___init__) .none kVParserI dcParserI pmParserI anParserI cdParserI ctParserI), slParserI⟩)
    (cParserI : PySem.W.codeIn K cdParserI "Parser.__init__" = true)
    (kParserI : PySem.W.keepIn K (.ref fParserI) = true)
    (aParser_peek : PySem.W.findIn K (.ref C_Parser) "peek" = some (some (.ref fParser_peek)))
    (iParser_peek : PySem.W.isFn K (.ref fParser_peek) = true)
    (lParser_peek : K.lookup fParser_peek = some ⟨ocParser_peek, odParser_peek, .func (PySem.W.fnOf "peek" "Parser.peek" (defArgs sParser_peek) (defBody sParser_peek) (defScope sParser_peek) .none kVParser_peek dcParser_peek pmParser_peek anParser_peek cdParser_peek ctParser_peek), slParser_peek⟩)
    (cParser_peek : PySem.W.codeIn K cdParser_peek "Parser.peek" = true)
    (kParser_peek : PySem.W.keepIn K (.ref fParser_peek) = true)
    (aParser_fail : PySem.W.findIn K (.ref C_Parser) "fail" = some (some (.ref fParser_fail)))
    (iParser_fail : PySem.W.isFn K (.ref fParser_fail) = true)
    (lParser_fail : K.lookup fParser_fail = some ⟨ocParser_fail, odParser_fail, .func (PySem.W.fnOf "fail" "Parser.fail" (defArgs sParser_fail) (defBody sParser_fail) (defScope sParser_fail) .none kVParser_fail dcParser_fail pmParser_fail anParser_fail cdParser_fail ctParser_fail), slParser_fail⟩)
    (cParser_fail : PySem.W.codeIn K cdParser_fail "Parser.fail" = true)
    (kParser_fail : PySem.W.keepIn K (.ref fParser_fail) = true)
    (aParser_found : PySem.W.findIn K (.ref C_Parser) "found" = some (some (.ref fParser_found)))
    (iParser_found : PySem.W.isFn K (.ref fParser_found) = true)
    (lParser_found : K.lookup fParser_found = some ⟨ocParser_found, odParser_found, .func (PySem.W.fnOf "found" "Parser.found" (defArgs sParser_found) (defBody sParser_found) (defScope sParser_found) .none kVParser_found dcParser_found pmParser_found anParser_found cdParser_found ctParser_found), slParser_found⟩)
    (cParser_found : PySem.W.codeIn K cdParser_found "Parser.found" = true)
    (kParser_found : PySem.W.keepIn K (.ref fParser_found) = true)
    (aParser_take : PySem.W.findIn K (.ref C_Parser) "take" = some (some (.ref fParser_take)))
    (iParser_take : PySem.W.isFn K (.ref fParser_take) = true)
    (lParser_take : K.lookup fParser_take = some ⟨ocParser_take, odParser_take, .func (PySem.W.fnOf "take" "Parser.take" (defArgs sParser_take) (defBody sParser_take) (defScope sParser_take) .none kVParser_take dcParser_take pmParser_take anParser_take cdParser_take ctParser_take), slParser_take⟩)
    (cParser_take : PySem.W.codeIn K cdParser_take "Parser.take" = true)
    (kParser_take : PySem.W.keepIn K (.ref fParser_take) = true)
    (aParser_take_word : PySem.W.findIn K (.ref C_Parser) "take_word" = some (some (.ref fParser_take_word)))
    (iParser_take_word : PySem.W.isFn K (.ref fParser_take_word) = true)
    (lParser_take_word : K.lookup fParser_take_word = some ⟨ocParser_take_word, odParser_take_word, .func (PySem.W.fnOf "take_word" "Parser.take_word" (defArgs sParser_take_word) (defBody sParser_take_word) (defScope sParser_take_word) .none kVParser_take_word dcParser_take_word pmParser_take_word anParser_take_word cdParser_take_word ctParser_take_word), slParser_take_word⟩)
    (cParser_take_word : PySem.W.codeIn K cdParser_take_word "Parser.take_word" = true)
    (kParser_take_word : PySem.W.keepIn K (.ref fParser_take_word) = true)
    (aParser_take_all : PySem.W.findIn K (.ref C_Parser) "take_all" = some (some (.ref fParser_take_all)))
    (iParser_take_all : PySem.W.isFn K (.ref fParser_take_all) = true)
    (lParser_take_all : K.lookup fParser_take_all = some ⟨ocParser_take_all, odParser_take_all, .func (PySem.W.fnOf "take_all" "Parser.take_all" (defArgs sParser_take_all) (defBody sParser_take_all) (defScope sParser_take_all) .none kVParser_take_all dcParser_take_all pmParser_take_all anParser_take_all cdParser_take_all ctParser_take_all), slParser_take_all⟩)
    (cParser_take_all : PySem.W.codeIn K cdParser_take_all "Parser.take_all" = true)
    (kParser_take_all : PySem.W.keepIn K (.ref fParser_take_all) = true)
    (aParser_person : PySem.W.findIn K (.ref C_Parser) "person" = some (some (.ref fParser_person)))
    (iParser_person : PySem.W.isFn K (.ref fParser_person) = true)
    (lParser_person : K.lookup fParser_person = some ⟨ocParser_person, odParser_person, .func (PySem.W.fnOf "person" "Parser.person" (defArgs sParser_person) (defBody sParser_person) (defScope sParser_person) .none kVParser_person dcParser_person pmParser_person anParser_person cdParser_person ctParser_person), slParser_person⟩)
    (cParser_person : PySem.W.codeIn K cdParser_person "Parser.person" = true)
    (kParser_person : PySem.W.keepIn K (.ref fParser_person) = true)
    (aParser_parse_people : PySem.W.findIn K (.ref C_Parser) "parse_people" = some (some (.ref fParser_parse_people)))
    (iParser_parse_people : PySem.W.isFn K (.ref fParser_parse_people) = true)
    (lParser_parse_people : K.lookup fParser_parse_people = some ⟨ocParser_parse_people, odParser_parse_people, .func (PySem.W.fnOf "parse_people" "Parser.parse_people" (defArgs sParser_parse_people) (defBody sParser_parse_people) (defScope sParser_parse_people) .none kVParser_parse_people dcParser_parse_people pmParser_parse_people anParser_parse_people cdParser_parse_people ctParser_parse_people), slParser_parse_people⟩)
    (cParser_parse_people : PySem.W.codeIn K cdParser_parse_people "Parser.parse_people" = true)
    (kParser_parse_people : PySem.W.keepIn K (.ref fParser_parse_people) = true)
    (s_MAX_PEOPLE : PySem.W.nsIn K mainGlobals "MAX_PEOPLE" = some (some (.int 6 t_MAX_PEOPLE)))
    (aParser_parse_turns : PySem.W.findIn K (.ref C_Parser) "parse_turns" = some (some (.ref fParser_parse_turns)))
    (iParser_parse_turns : PySem.W.isFn K (.ref fParser_parse_turns) = true)
    (lParser_parse_turns : K.lookup fParser_parse_turns = some ⟨ocParser_parse_turns, odParser_parse_turns, .func (PySem.W.fnOf "parse_turns" "Parser.parse_turns" (defArgs sParser_parse_turns) (defBody sParser_parse_turns) (defScope sParser_parse_turns) .none kVParser_parse_turns dcParser_parse_turns pmParser_parse_turns anParser_parse_turns cdParser_parse_turns ctParser_parse_turns), slParser_parse_turns⟩)
    (cParser_parse_turns : PySem.W.codeIn K cdParser_parse_turns "Parser.parse_turns" = true)
    (kParser_parse_turns : PySem.W.keepIn K (.ref fParser_parse_turns) = true)
    (s_MAX_TURNS : PySem.W.nsIn K mainGlobals "MAX_TURNS" = some (some (.int 12 t_MAX_TURNS)))
    (aParser_parse_weights : PySem.W.findIn K (.ref C_Parser) "parse_weights" = some (some (.ref fParser_parse_weights)))
    (iParser_parse_weights : PySem.W.isFn K (.ref fParser_parse_weights) = true)
    (lParser_parse_weights : K.lookup fParser_parse_weights = some ⟨ocParser_parse_weights, odParser_parse_weights, .func (PySem.W.fnOf "parse_weights" "Parser.parse_weights" (defArgs sParser_parse_weights) (defBody sParser_parse_weights) (defScope sParser_parse_weights) .none kVParser_parse_weights dcParser_parse_weights pmParser_parse_weights anParser_parse_weights cdParser_parse_weights ctParser_parse_weights), slParser_parse_weights⟩)
    (cParser_parse_weights : PySem.W.codeIn K cdParser_parse_weights "Parser.parse_weights" = true)
    (kParser_parse_weights : PySem.W.keepIn K (.ref fParser_parse_weights) = true)
    (s_MAX_WEIGHT : PySem.W.nsIn K mainGlobals "MAX_WEIGHT" = some (some (.int 9 t_MAX_WEIGHT)))
    (aParser_parse_away : PySem.W.findIn K (.ref C_Parser) "parse_away" = some (some (.ref fParser_parse_away)))
    (iParser_parse_away : PySem.W.isFn K (.ref fParser_parse_away) = true)
    (lParser_parse_away : K.lookup fParser_parse_away = some ⟨ocParser_parse_away, odParser_parse_away, .func (PySem.W.fnOf "parse_away" "Parser.parse_away" (defArgs sParser_parse_away) (defBody sParser_parse_away) (defScope sParser_parse_away) .none kVParser_parse_away dcParser_parse_away pmParser_parse_away anParser_parse_away cdParser_parse_away ctParser_parse_away), slParser_parse_away⟩)
    (cParser_parse_away : PySem.W.codeIn K cdParser_parse_away "Parser.parse_away" = true)
    (kParser_parse_away : PySem.W.keepIn K (.ref fParser_parse_away) = true)
    (s_MAX_AWAYS : PySem.W.nsIn K mainGlobals "MAX_AWAYS" = some (some (.int 20 t_MAX_AWAYS)))
    (s_MODULI : PySem.W.nsIn K mainGlobals "MODULI" = some (some (.ref aTMODULI)))
    (u_MODULI : K.lookup aTMODULI = some ⟨.type "tuple", dTMODULI, .seq #[.int 2 tkMODULI0, .int 3 tkMODULI1, .int 4 tkMODULI2, .int 6 tkMODULI3, .int 8 tkMODULI4, .int 12 tkMODULI5] nTMODULI, slTMODULI⟩)
    (aParser_parse_makeup : PySem.W.findIn K (.ref C_Parser) "parse_makeup" = some (some (.ref fParser_parse_makeup)))
    (iParser_parse_makeup : PySem.W.isFn K (.ref fParser_parse_makeup) = true)
    (lParser_parse_makeup : K.lookup fParser_parse_makeup = some ⟨ocParser_parse_makeup, odParser_parse_makeup, .func (PySem.W.fnOf "parse_makeup" "Parser.parse_makeup" (defArgs sParser_parse_makeup) (defBody sParser_parse_makeup) (defScope sParser_parse_makeup) .none kVParser_parse_makeup dcParser_parse_makeup pmParser_parse_makeup anParser_parse_makeup cdParser_parse_makeup ctParser_parse_makeup), slParser_parse_makeup⟩)
    (cParser_parse_makeup : PySem.W.codeIn K cdParser_parse_makeup "Parser.parse_makeup" = true)
    (kParser_parse_makeup : PySem.W.keepIn K (.ref fParser_parse_makeup) = true)
    (aParser_parse_rota : PySem.W.findIn K (.ref C_Parser) "parse_rota" = some (some (.ref fParser_parse_rota)))
    (iParser_parse_rota : PySem.W.isFn K (.ref fParser_parse_rota) = true)
    (lParser_parse_rota : K.lookup fParser_parse_rota = some ⟨ocParser_parse_rota, odParser_parse_rota, .func (PySem.W.fnOf "parse_rota" "Parser.parse_rota" (defArgs sParser_parse_rota) (defBody sParser_parse_rota) (defScope sParser_parse_rota) .none kVParser_parse_rota dcParser_parse_rota pmParser_parse_rota anParser_parse_rota cdParser_parse_rota ctParser_parse_rota), slParser_parse_rota⟩)
    (cParser_parse_rota : PySem.W.codeIn K cdParser_parse_rota "Parser.parse_rota" = true)
    (kParser_parse_rota : PySem.W.keepIn K (.ref fParser_parse_rota) = true)
    (aload : PySem.W.nsIn K mainGlobals "load" = some (some (.ref fload)))
    (lload : K.lookup fload = some ⟨ocload, odload, .func (PySem.W.fnOf "load" "load" (defArgs sload) (defBody sload) (defScope sload) .none kVload dcload pmload anload cdload ctload), slload⟩)
    (cload : PySem.W.codeIn K cdload "load" = true)
    (kload : PySem.W.keepIn K (.ref fload) = true)
    (aformat_parsed : PySem.W.nsIn K mainGlobals "format_parsed" = some (some (.ref fformat_parsed)))
    (lformat_parsed : K.lookup fformat_parsed = some ⟨ocformat_parsed, odformat_parsed, .func (PySem.W.fnOf "format_parsed" "format_parsed" (defArgs sformat_parsed) (defBody sformat_parsed) (defScope sformat_parsed) .none kVformat_parsed dcformat_parsed pmformat_parsed anformat_parsed cdformat_parsed ctformat_parsed), slformat_parsed⟩)
    (cformat_parsed : PySem.W.codeIn K cdformat_parsed "format_parsed" = true)
    (kformat_parsed : PySem.W.keepIn K (.ref fformat_parsed) = true)
    (aformat_rota : PySem.W.nsIn K mainGlobals "format_rota" = some (some (.ref fformat_rota)))
    (lformat_rota : K.lookup fformat_rota = some ⟨ocformat_rota, odformat_rota, .func (PySem.W.fnOf "format_rota" "format_rota" (defArgs sformat_rota) (defBody sformat_rota) (defScope sformat_rota) .none kVformat_rota dcformat_rota pmformat_rota anformat_rota cdformat_rota ctformat_rota), slformat_rota⟩)
    (cformat_rota : PySem.W.codeIn K cdformat_rota "format_rota" = true)
    (kformat_rota : PySem.W.keepIn K (.ref fformat_rota) = true)
    (a_law_error_of : PySem.W.nsIn K mainGlobals "_law_error_of" = some (some (.ref f_law_error_of)))
    (l_law_error_of : K.lookup f_law_error_of = some ⟨oc_law_error_of, od_law_error_of, .func (PySem.W.fnOf "_law_error_of" "_law_error_of" (defArgs s_law_error_of) (defBody s_law_error_of) (defScope s_law_error_of) .none kV_law_error_of dc_law_error_of pm_law_error_of an_law_error_of cd_law_error_of ct_law_error_of), sl_law_error_of⟩)
    (c_law_error_of : PySem.W.codeIn K cd_law_error_of "_law_error_of" = true)
    (k_law_error_of : PySem.W.keepIn K (.ref f_law_error_of) = true)
    (ktSyntaxFault0 : PySem.W.kitOne K (.ref C_SyntaxFault) (.ref C_InvalidTick) = some false)
    (ktSyntaxFault1 : PySem.W.kitOne K (.ref C_SyntaxFault) (.ref C_InvalidCount) = some false)
    (ktSyntaxFault2 : PySem.W.kitOne K (.ref C_SyntaxFault) (.ref C_UnknownPerson) = some false)
    (ktSyntaxFault3 : PySem.W.kitOne K (.ref C_SyntaxFault) (.ref C_TooLong) = some false)
    (ktSyntaxFault4 : PySem.W.kitOne K (.ref C_SyntaxFault) (.ref C_DifferentPeople) = some false)
    (ktSyntaxFault5 : PySem.W.kitOne K (.ref C_SyntaxFault) (.ref C_Contradiction) = some false)
    (ktSyntaxFault6 : PySem.W.kitOne K (.ref C_SyntaxFault) (.ref C_NobodyHome) = some false)
    (ktSyntaxFault7 : PySem.W.kitOne K (.ref C_SyntaxFault) (.ref C_InvalidName) = some false)
    (ktSyntaxFault8 : PySem.W.kitOne K (.ref C_SyntaxFault) (.ref C_UnknownName) = some false)
    (ktSyntaxFault9 : PySem.W.kitOne K (.ref C_SyntaxFault) (.ref C_SyntaxFault) = some true)
    (ktSyntaxFault10 : PySem.W.kitOne K (.ref C_SyntaxFault) (.ref C_CheckFault) = some false)
    (ktSyntaxFault11 : PySem.W.kitOne K (.ref C_SyntaxFault) (.ref C_InvalidCode) = some false)
    (ktSyntaxFault12 : PySem.W.kitOne K (.ref C_SyntaxFault) (.ref C_InvalidOperation) = some false)
    (ktSyntaxFault13 : PySem.W.kitOne K (.ref C_SyntaxFault) (.ref C_InvalidSession) = some false)
    (kvSyntaxFault : PySem.W.kitOne K (.ref C_SyntaxFault) (.type "ValueError") = some true)
    (kxSyntaxFault : PySem.W.exmOne K (.ref C_SyntaxFault) (.ref C_RotaError) = some true)
    (kiSyntaxFault : PySem.W.isClsIn K C_SyntaxFault = true)
    (gESyntaxFault : PySem.W.findIn K (.ref C_SyntaxFault) "__getattribute__" = some (some (.builtin "BaseException.__getattribute__")))
    (ggSyntaxFault : PySem.W.findIn K (.ref C_SyntaxFault) "__getattr__" = some none)
    (cESyntaxFault : PySem.W.findIn K (.ref C_SyntaxFault) "__class__" = some (some (.builtin "object.__class__")))
    (mESyntaxFault : PySem.W.mroIn K C_SyntaxFault (.type "object") = some true)
    (hESyntaxFault : PySem.W.hasDictIn K C_SyntaxFault = true)
    (cgO : PySem.W.specialIn K (.builtin "object.__class__") "__get__" = some (some (.builtin "getset_descriptor.__get__")))
    (tkO : PySem.W.takesIn K (.builtin "object.__class__") = some true)
    (ktCheckFault0 : PySem.W.kitOne K (.ref C_CheckFault) (.ref C_InvalidTick) = some false)
    (ktCheckFault1 : PySem.W.kitOne K (.ref C_CheckFault) (.ref C_InvalidCount) = some false)
    (ktCheckFault2 : PySem.W.kitOne K (.ref C_CheckFault) (.ref C_UnknownPerson) = some false)
    (ktCheckFault3 : PySem.W.kitOne K (.ref C_CheckFault) (.ref C_TooLong) = some false)
    (ktCheckFault4 : PySem.W.kitOne K (.ref C_CheckFault) (.ref C_DifferentPeople) = some false)
    (ktCheckFault5 : PySem.W.kitOne K (.ref C_CheckFault) (.ref C_Contradiction) = some false)
    (ktCheckFault6 : PySem.W.kitOne K (.ref C_CheckFault) (.ref C_NobodyHome) = some false)
    (ktCheckFault7 : PySem.W.kitOne K (.ref C_CheckFault) (.ref C_InvalidName) = some false)
    (ktCheckFault8 : PySem.W.kitOne K (.ref C_CheckFault) (.ref C_UnknownName) = some false)
    (ktCheckFault9 : PySem.W.kitOne K (.ref C_CheckFault) (.ref C_SyntaxFault) = some false)
    (ktCheckFault10 : PySem.W.kitOne K (.ref C_CheckFault) (.ref C_CheckFault) = some true)
    (ktCheckFault11 : PySem.W.kitOne K (.ref C_CheckFault) (.ref C_InvalidCode) = some false)
    (ktCheckFault12 : PySem.W.kitOne K (.ref C_CheckFault) (.ref C_InvalidOperation) = some false)
    (ktCheckFault13 : PySem.W.kitOne K (.ref C_CheckFault) (.ref C_InvalidSession) = some false)
    (kvCheckFault : PySem.W.kitOne K (.ref C_CheckFault) (.type "ValueError") = some true)
    (kxCheckFault : PySem.W.exmOne K (.ref C_CheckFault) (.ref C_RotaError) = some true)
    (kiCheckFault : PySem.W.isClsIn K C_CheckFault = true)
    (gECheckFault : PySem.W.findIn K (.ref C_CheckFault) "__getattribute__" = some (some (.builtin "BaseException.__getattribute__")))
    (ggCheckFault : PySem.W.findIn K (.ref C_CheckFault) "__getattr__" = some none)
    (cECheckFault : PySem.W.findIn K (.ref C_CheckFault) "__class__" = some (some (.builtin "object.__class__")))
    (mECheckFault : PySem.W.mroIn K C_CheckFault (.type "object") = some true)
    (hECheckFault : PySem.W.hasDictIn K C_CheckFault = true)
    (z_len : PySem.W.nsIn K mainGlobals "len" = some none)
    (z_range : PySem.W.nsIn K mainGlobals "range" = some none)
    (z_list : PySem.W.nsIn K mainGlobals "list" = some none)
    (z_tuple : PySem.W.nsIn K mainGlobals "tuple" = some none)
    (z_int : PySem.W.nsIn K mainGlobals "int" = some none)
    (z_str : PySem.W.nsIn K mainGlobals "str" = some none)
    (z_abs : PySem.W.nsIn K mainGlobals "abs" = some none)
    (z_max : PySem.W.nsIn K mainGlobals "max" = some none)
    (z_sorted : PySem.W.nsIn K mainGlobals "sorted" = some none)
    (z_set : PySem.W.nsIn K mainGlobals "set" = some none)
    (z_any : PySem.W.nsIn K mainGlobals "any" = some none)
    (z_all : PySem.W.nsIn K mainGlobals "all" = some none)
    (z_enumerate : PySem.W.nsIn K mainGlobals "enumerate" = some none)
    (z_isinstance : PySem.W.nsIn K mainGlobals "isinstance" = some none)
    (z_bool : PySem.W.nsIn K mainGlobals "bool" = some none)
    (z_sum : PySem.W.nsIn K mainGlobals "sum" = some none)
    (z_zip : PySem.W.nsIn K mainGlobals "zip" = some none)
    (z_min : PySem.W.nsIn K mainGlobals "min" = some none)
    (z_dict : PySem.W.nsIn K mainGlobals "dict" = some none)
    (z_divmod : PySem.W.nsIn K mainGlobals "divmod" = some none)
    (z_ValueError : PySem.W.nsIn K mainGlobals "ValueError" = some none)
    (ne_Token__Parser : C_Token ≠ C_Parser)
    (alaw : PySem.W.nsIn K mainGlobals "law" = some (some (.ref flaw)))
    (llaw : K.lookup flaw = some ⟨oclaw, odlaw, .func (PySem.W.fnOf "law" "law" (defArgs slaw) (defBody slaw) (defScope slaw) .none kVlaw dclaw pmlaw anlaw (.ref cT) ctlaw), sllaw⟩)
    (claw : PySem.W.codeIn K (.ref cT) "law" = true)
    (klaw : PySem.W.keepIn K (.ref flaw) = true)
    (vT : K.lookup cT = some ⟨.type "code", odT, .fields vsT, slT⟩)
    (pT : (vsT[11]? : Option Value) = some (.ref PT))
    (chT : PySem.W.codeHdIn K cT PT = true)
    (nT : K.lookup PT = none)
    (tT : h.get? PT = some (PySem.W.tabObj #[]))
    : LamX.LawAtS l w K CX0 13 63 "_law_script" mg fa h := by
  have e := hfa.symm.trans (PySem.W.mg_of X G alaw)
  cases e
  have BX : BaseX K mg C_RotaError := ⟨PySem.W.mg_of X G aCRotaError, rdR, gaR, atR⟩
  let cs : Nat → Addr := fun i => ([C_InvalidTick, C_InvalidCount, C_UnknownPerson, C_TooLong, C_DifferentPeople, C_Contradiction, C_NobodyHome, C_InvalidName, C_UnknownName, C_SyntaxFault, C_CheckFault, C_InvalidCode, C_InvalidOperation, C_InvalidSession] : List Addr).getD i 0
  have gc : ∀ i, i < 14 → mg (clsN.getD i "") = some (.ref (cs i)) := fun i hi => by match i, hi with | 0, _ => exact PySem.W.mg_of X G aCInvalidTick | 1, _ => exact PySem.W.mg_of X G aCInvalidCount | 2, _ => exact PySem.W.mg_of X G aCUnknownPerson | 3, _ => exact PySem.W.mg_of X G aCTooLong | 4, _ => exact PySem.W.mg_of X G aCDifferentPeople | 5, _ => exact PySem.W.mg_of X G aCContradiction | 6, _ => exact PySem.W.mg_of X G aCNobodyHome | 7, _ => exact PySem.W.mg_of X G aCInvalidName | 8, _ => exact PySem.W.mg_of X G aCUnknownName | 9, _ => exact PySem.W.mg_of X G aCSyntaxFault | 10, _ => exact PySem.W.mg_of X G aCCheckFault | 11, _ => exact PySem.W.mg_of X G aCInvalidCode | 12, _ => exact PySem.W.mg_of X G aCInvalidOperation | 13, _ => exact PySem.W.mg_of X G aCInvalidSession
  have gR : mg "RotaError" = some (.ref C_RotaError) := PySem.W.mg_of X G aCRotaError
  have c_END_SIGN : ∃ t, mg "END_SIGN" = some (.str ";" t) := ⟨_, PySem.W.mg_of X G s_END_SIGN⟩
  have c_SIGN : ∃ t, mg "SIGN" = some (.str "sign" t) := ⟨_, PySem.W.mg_of X G s_SIGN⟩
  have c_DIGITS : ∃ t, mg "DIGITS" = some (.str "0123456789" t) := ⟨_, PySem.W.mg_of X G s_DIGITS⟩
  have c_MAX_DIGITS : ∃ t, mg "MAX_DIGITS" = some (.int 2 t) := ⟨_, PySem.W.mg_of X G s_MAX_DIGITS⟩
  have c_NUMBER : ∃ t, mg "NUMBER" = some (.str "number" t) := ⟨_, PySem.W.mg_of X G s_NUMBER⟩
  have c_LETTERS : ∃ t, mg "LETTERS" = some (.str "abcdefghijklmnopqrstuvwxyz" t) := ⟨_, PySem.W.mg_of X G s_LETTERS⟩
  have c_KEYWORDS : ∃ a, mg "KEYWORDS" = some (.ref a) ∧ ∀ H : Hp, SqT K H a ((["people", "turns", "weights", "away", "of", "makeup"] : List Str).map V.str) := ⟨_, PySem.W.mg_of X G s_KEYWORDS, fun H => .inr ⟨_, _, _, u_KEYWORDS, rfl, rfl, by show 6 ≤ sizeLine; decide, .cons ⟨_, rfl⟩ (.cons ⟨_, rfl⟩ (.cons ⟨_, rfl⟩ (.cons ⟨_, rfl⟩ (.cons ⟨_, rfl⟩ (.cons ⟨_, rfl⟩ (.nil))))))⟩⟩
  have c_KEYWORD : ∃ t, mg "KEYWORD" = some (.str "keyword" t) := ⟨_, PySem.W.mg_of X G s_KEYWORD⟩
  have c_MAX_LETTERS : ∃ t, mg "MAX_LETTERS" = some (.int 8 t) := ⟨_, PySem.W.mg_of X G s_MAX_LETTERS⟩
  have c_NAME : ∃ t, mg "NAME" = some (.str "name" t) := ⟨_, PySem.W.mg_of X G s_NAME⟩
  have c_END : ∃ t, mg "END" = some (.str "end" t) := ⟨_, PySem.W.mg_of X G s_END⟩
  have c_SPACES : ∃ t, mg "SPACES" = some (.str " \n" t) := ⟨_, PySem.W.mg_of X G s_SPACES⟩
  have K_Token : Cls K C_Token := ⟨pgToken, hdToken, poToken, saToken⟩
  have N_Token_kind : NoAttr K C_Token "kind" := nToken_kind
  have N_Token_text : NoAttr K C_Token "text" := nToken_text
  have N_Token_line : NoAttr K C_Token "line" := nToken_line
  have N_Token_column : NoAttr K C_Token "column" := nToken_column
  have K_Parser : Cls K C_Parser := ⟨pgParser, hdParser, poParser, saParser⟩
  have N_Parser_tokens : NoAttr K C_Parser "tokens" := nParser_tokens
  have N_Parser_at : NoAttr K C_Parser "at" := nParser_at
  have N_Parser_faults : NoAttr K C_Parser "faults" := nParser_faults
  have N_Parser_names : NoAttr K C_Parser "names" := nParser_names
  have N_Parser_weights : NoAttr K C_Parser "weights" := nParser_weights
  have N_Parser_makers : NoAttr K C_Parser "makers" := nParser_makers
  have N_Parser_aways : NoAttr K C_Parser "aways" := nParser_aways
  have F_law_below := fun_mk (st := s_law_below) l_law_below c_law_below k_law_below
  have D__law_below : DefAt K mg "_law_below" s_law_below ["_law_d", "_law_limit"] := ⟨⟨f_law_below, _, PySem.W.mg_of X G a_law_below, F_law_below, (F_law_below.binds fun _ _ _ _ _ _ us hl => match us, hl with | [_, _], _ => rfl)⟩⟩
  have F_law_random := fun_mk (st := s_law_random) l_law_random c_law_random k_law_random
  have D__law_random : DefAt K mg "_law_random" s_law_random ["_law_script", "_law_salt"] := ⟨⟨f_law_random, _, PySem.W.mg_of X G a_law_random, F_law_random, (F_law_random.binds fun _ _ _ _ _ _ us hl => match us, hl with | [_, _], _ => rfl)⟩⟩
  have F_law_shuffled := fun_mk (st := s_law_shuffled) l_law_shuffled c_law_shuffled k_law_shuffled
  have D__law_shuffled : DefAt K mg "_law_shuffled" s_law_shuffled ["_law_d", "_law_items"] := ⟨⟨f_law_shuffled, _, PySem.W.mg_of X G a_law_shuffled, F_law_shuffled, (F_law_shuffled.binds fun _ _ _ _ _ _ us hl => match us, hl with | [_, _], _ => rfl)⟩⟩
  have F_law_rota := fun_mk (st := s_law_rota) l_law_rota c_law_rota k_law_rota
  have D__law_rota : DefAt K mg "_law_rota" s_law_rota ["_law_d", "_law_most"] := ⟨⟨f_law_rota, _, PySem.W.mg_of X G a_law_rota, F_law_rota, (F_law_rota.binds fun _ _ _ _ _ _ us hl => match us, hl with | [_, _], _ => rfl)⟩⟩
  have F_law_text := fun_mk (st := s_law_text) l_law_text c_law_text k_law_text
  have D__law_text : DefAt K mg "_law_text" s_law_text ["_law_rota_here"] := ⟨⟨f_law_text, _, PySem.W.mg_of X G a_law_text, F_law_text, (F_law_text.binds fun _ _ _ _ _ _ us hl => match us, hl with | [_], _ => rfl)⟩⟩
  have F_law_kind := fun_mk (st := s_law_kind) l_law_kind c_law_kind k_law_kind
  have D__law_kind : DefAt K mg "_law_kind" s_law_kind ["_law_token"] := ⟨⟨f_law_kind, _, PySem.W.mg_of X G a_law_kind, F_law_kind, (F_law_kind.binds fun _ _ _ _ _ _ us hl => match us, hl with | [_], _ => rfl)⟩⟩
  have F_law_takes := fun_mk (st := s_law_takes) l_law_takes c_law_takes k_law_takes
  have D__law_takes : DefAt K mg "_law_takes" s_law_takes ["_law_kinds", "_law_at", "_law_wanted"] := ⟨⟨f_law_takes, _, PySem.W.mg_of X G a_law_takes, F_law_takes, (F_law_takes.binds fun _ _ _ _ _ _ us hl => match us, hl with | [_, _, _], _ => rfl)⟩⟩
  have F_law_many := fun_mk (st := s_law_many) l_law_many c_law_many k_law_many
  have D__law_many : DefAt K mg "_law_many" s_law_many ["_law_kinds", "_law_at", "_law_kind_here"] := ⟨⟨f_law_many, _, PySem.W.mg_of X G a_law_many, F_law_many, (F_law_many.binds fun _ _ _ _ _ _ us hl => match us, hl with | [_, _, _], _ => rfl)⟩⟩
  have F_law_first_fault := fun_mk (st := s_law_first_fault) l_law_first_fault c_law_first_fault k_law_first_fault
  have D__law_first_fault : DefAt K mg "_law_first_fault" s_law_first_fault ["_law_tokens"] := ⟨⟨f_law_first_fault, _, PySem.W.mg_of X G a_law_first_fault, F_law_first_fault, (F_law_first_fault.binds fun _ _ _ _ _ _ us hl => match us, hl with | [_], _ => rfl)⟩⟩
  have F_law_placed := fun_mk (st := s_law_placed) l_law_placed c_law_placed k_law_placed
  have D__law_placed : DefAt K mg "_law_placed" s_law_placed ["_law_d", "_law_tokens"] := ⟨⟨f_law_placed, _, PySem.W.mg_of X G a_law_placed, F_law_placed, (F_law_placed.binds fun _ _ _ _ _ _ us hl => match us, hl with | [_, _], _ => rfl)⟩⟩
  have FTokenI := fun_mk (st := sToken___init__) lTokenI cTokenI kTokenI
  have D_Token : InitAt K mg "Token" "Token.__init__" C_Token sToken___init__ ["self", "kind", "text", "line", "column"] := ⟨⟨fTokenI, _, PySem.W.mg_of X G aCToken, ⟨mkToken, aTokenI, iTokenI, kcToken⟩, FTokenI, (FTokenI.binds fun _ _ _ _ _ _ us hl => match us, hl with | [_, _, _, _, _], _ => rfl)⟩⟩
  have Frun_end := fun_mk (st := srun_end) lrun_end crun_end krun_end
  have D_run_end : DefAt K mg "run_end" srun_end ["row", "start", "letters"] := ⟨⟨frun_end, _, PySem.W.mg_of X G arun_end, Frun_end, (Frun_end.binds fun _ _ _ _ _ _ us hl => match us, hl with | [_, _, _], _ => rfl)⟩⟩
  have FSyntaxFaultI := fun_mk (st := sSyntaxFault___init__) lSyntaxFaultI cSyntaxFaultI kSyntaxFaultI
  have OSyntaxFault : OexC K C_SyntaxFault := ⟨⟨nmSyntaxFault, qSyntaxFault, NSyntaxFault, bsSyntaxFault, _, snSyntaxFault, subSyntaxFault, abSyntaxFault, colSyntaxFault, ddSyntaxFault, m0SyntaxFault, m1SyntaxFault, m2SyntaxFault, m3SyntaxFault, m5SyntaxFault, xSyntaxFault, by rfl⟩, sESyntaxFault, eCSyntaxFault, tCSyntaxFault, kCSyntaxFault⟩
  have noSyntaxFault : ∀ f ∈ (["line", "column"] : List Str), PySem.W.findIn K (.ref C_SyntaxFault) f = some none := by
      intro f hf; simp only [List.mem_cons, List.not_mem_nil, or_false] at hf; rcases hf with rfl | rfl
      · exact noSyntaxFaultline
      · exact noSyntaxFaultcolumn
  have D_SyntaxFault : ExTxt K mg "SyntaxFault" "SyntaxFault.__init__" C_SyntaxFault sSyntaxFault___init__ ["self", "line", "column"] ["line", "column"] := ⟨OSyntaxFault, PySem.W.mg_of X G aCSyntaxFault, noSyntaxFault, fSyntaxFaultI, _, aSyntaxFaultI, tSyntaxFaultI, FSyntaxFaultI, (FSyntaxFaultI.binds fun _ _ _ _ _ _ us hl => match us, hl with | [_, _, _], _ => rfl)⟩
  have FCheckFaultI := fun_mk (st := sCheckFault___init__) lCheckFaultI cCheckFaultI kCheckFaultI
  have OCheckFault : OexC K C_CheckFault := ⟨⟨nmCheckFault, qCheckFault, NCheckFault, bsCheckFault, _, snCheckFault, subCheckFault, abCheckFault, colCheckFault, ddCheckFault, m0CheckFault, m1CheckFault, m2CheckFault, m3CheckFault, m5CheckFault, xCheckFault, by rfl⟩, sECheckFault, eCCheckFault, tCCheckFault, kCCheckFault⟩
  have noCheckFault : ∀ f ∈ (["reason", "line", "column"] : List Str), PySem.W.findIn K (.ref C_CheckFault) f = some none := by
      intro f hf; simp only [List.mem_cons, List.not_mem_nil, or_false] at hf; rcases hf with rfl | rfl | rfl
      · exact noCheckFaultreason
      · exact noCheckFaultline
      · exact noCheckFaultcolumn
  have D_CheckFault : ExTxt K mg "CheckFault" "CheckFault.__init__" C_CheckFault sCheckFault___init__ ["self", "reason", "line", "column"] ["reason", "line", "column"] := ⟨OCheckFault, PySem.W.mg_of X G aCCheckFault, noCheckFault, fCheckFaultI, _, aCheckFaultI, tCheckFaultI, FCheckFaultI, (FCheckFaultI.binds fun _ _ _ _ _ _ us hl => match us, hl with | [_, _, _, _], _ => rfl)⟩
  have Fread_token := fun_mk (st := sread_token) lread_token cread_token kread_token
  have D_read_token : DefAt K mg "read_token" sread_token ["row", "line", "column"] := ⟨⟨fread_token, _, PySem.W.mg_of X G aread_token, Fread_token, (Fread_token.binds fun _ _ _ _ _ _ us hl => match us, hl with | [_, _, _], _ => rfl)⟩⟩
  have Ftokenize := fun_mk (st := stokenize) ltokenize ctokenize ktokenize
  have D_tokenize : DefAt K mg "tokenize" stokenize ["source"] := ⟨⟨ftokenize, _, PySem.W.mg_of X G atokenize, Ftokenize, (Ftokenize.binds fun _ _ _ _ _ _ us hl => match us, hl with | [_], _ => rfl)⟩⟩
  have FParserI := fun_mk (st := sParser___init__) lParserI cParserI kParserI
  have D_Parser : InitAt K mg "Parser" "Parser.__init__" C_Parser sParser___init__ ["self", "tokens"] := ⟨⟨fParserI, _, PySem.W.mg_of X G aCParser, ⟨mkParser, aParserI, iParserI, kcParser⟩, FParserI, (FParserI.binds fun _ _ _ _ _ _ us hl => match us, hl with | [_, _], _ => rfl)⟩⟩
  have FParser_peek := fun_mk (st := sParser_peek) lParser_peek cParser_peek kParser_peek
  have D_Parser_peek : MethAt K C_Parser "peek" "Parser.peek" sParser_peek ["self"] := ⟨⟨fParser_peek, _, ⟨aParser_peek, iParser_peek, kParser_peek⟩, FParser_peek, (FParser_peek.binds fun _ _ _ _ _ _ us hl => match us, hl with | [_], _ => rfl)⟩⟩
  have FParser_fail := fun_mk (st := sParser_fail) lParser_fail cParser_fail kParser_fail
  have D_Parser_fail : MethAt K C_Parser "fail" "Parser.fail" sParser_fail ["self"] := ⟨⟨fParser_fail, _, ⟨aParser_fail, iParser_fail, kParser_fail⟩, FParser_fail, (FParser_fail.binds fun _ _ _ _ _ _ us hl => match us, hl with | [_], _ => rfl)⟩⟩
  have FParser_found := fun_mk (st := sParser_found) lParser_found cParser_found kParser_found
  have D_Parser_found : MethAt K C_Parser "found" "Parser.found" sParser_found ["self", "reason", "token"] := ⟨⟨fParser_found, _, ⟨aParser_found, iParser_found, kParser_found⟩, FParser_found, (FParser_found.binds fun _ _ _ _ _ _ us hl => match us, hl with | [_, _, _], _ => rfl)⟩⟩
  have FParser_take := fun_mk (st := sParser_take) lParser_take cParser_take kParser_take
  have D_Parser_take : MethAt K C_Parser "take" "Parser.take" sParser_take ["self", "kind"] := ⟨⟨fParser_take, _, ⟨aParser_take, iParser_take, kParser_take⟩, FParser_take, (FParser_take.binds fun _ _ _ _ _ _ us hl => match us, hl with | [_, _], _ => rfl)⟩⟩
  have FParser_take_word := fun_mk (st := sParser_take_word) lParser_take_word cParser_take_word kParser_take_word
  have D_Parser_take_word : MethAt K C_Parser "take_word" "Parser.take_word" sParser_take_word ["self", "word"] := ⟨⟨fParser_take_word, _, ⟨aParser_take_word, iParser_take_word, kParser_take_word⟩, FParser_take_word, (FParser_take_word.binds fun _ _ _ _ _ _ us hl => match us, hl with | [_, _], _ => rfl)⟩⟩
  have FParser_take_all := fun_mk (st := sParser_take_all) lParser_take_all cParser_take_all kParser_take_all
  have D_Parser_take_all : MethAt K C_Parser "take_all" "Parser.take_all" sParser_take_all ["self", "kind"] := ⟨⟨fParser_take_all, _, ⟨aParser_take_all, iParser_take_all, kParser_take_all⟩, FParser_take_all, (FParser_take_all.binds fun _ _ _ _ _ _ us hl => match us, hl with | [_, _], _ => rfl)⟩⟩
  have FParser_person := fun_mk (st := sParser_person) lParser_person cParser_person kParser_person
  have D_Parser_person : MethAt K C_Parser "person" "Parser.person" sParser_person ["self", "token"] := ⟨⟨fParser_person, _, ⟨aParser_person, iParser_person, kParser_person⟩, FParser_person, (FParser_person.binds fun _ _ _ _ _ _ us hl => match us, hl with | [_, _], _ => rfl)⟩⟩
  have FParser_parse_people := fun_mk (st := sParser_parse_people) lParser_parse_people cParser_parse_people kParser_parse_people
  have D_Parser_parse_people : MethAt K C_Parser "parse_people" "Parser.parse_people" sParser_parse_people ["self"] := ⟨⟨fParser_parse_people, _, ⟨aParser_parse_people, iParser_parse_people, kParser_parse_people⟩, FParser_parse_people, (FParser_parse_people.binds fun _ _ _ _ _ _ us hl => match us, hl with | [_], _ => rfl)⟩⟩
  have c_MAX_PEOPLE : ∃ t, mg "MAX_PEOPLE" = some (.int 6 t) := ⟨_, PySem.W.mg_of X G s_MAX_PEOPLE⟩
  have FParser_parse_turns := fun_mk (st := sParser_parse_turns) lParser_parse_turns cParser_parse_turns kParser_parse_turns
  have D_Parser_parse_turns : MethAt K C_Parser "parse_turns" "Parser.parse_turns" sParser_parse_turns ["self"] := ⟨⟨fParser_parse_turns, _, ⟨aParser_parse_turns, iParser_parse_turns, kParser_parse_turns⟩, FParser_parse_turns, (FParser_parse_turns.binds fun _ _ _ _ _ _ us hl => match us, hl with | [_], _ => rfl)⟩⟩
  have c_MAX_TURNS : ∃ t, mg "MAX_TURNS" = some (.int 12 t) := ⟨_, PySem.W.mg_of X G s_MAX_TURNS⟩
  have FParser_parse_weights := fun_mk (st := sParser_parse_weights) lParser_parse_weights cParser_parse_weights kParser_parse_weights
  have D_Parser_parse_weights : MethAt K C_Parser "parse_weights" "Parser.parse_weights" sParser_parse_weights ["self"] := ⟨⟨fParser_parse_weights, _, ⟨aParser_parse_weights, iParser_parse_weights, kParser_parse_weights⟩, FParser_parse_weights, (FParser_parse_weights.binds fun _ _ _ _ _ _ us hl => match us, hl with | [_], _ => rfl)⟩⟩
  have c_MAX_WEIGHT : ∃ t, mg "MAX_WEIGHT" = some (.int 9 t) := ⟨_, PySem.W.mg_of X G s_MAX_WEIGHT⟩
  have FParser_parse_away := fun_mk (st := sParser_parse_away) lParser_parse_away cParser_parse_away kParser_parse_away
  have D_Parser_parse_away : MethAt K C_Parser "parse_away" "Parser.parse_away" sParser_parse_away ["self"] := ⟨⟨fParser_parse_away, _, ⟨aParser_parse_away, iParser_parse_away, kParser_parse_away⟩, FParser_parse_away, (FParser_parse_away.binds fun _ _ _ _ _ _ us hl => match us, hl with | [_], _ => rfl)⟩⟩
  have c_MAX_AWAYS : ∃ t, mg "MAX_AWAYS" = some (.int 20 t) := ⟨_, PySem.W.mg_of X G s_MAX_AWAYS⟩
  have c_MODULI : ∃ a, mg "MODULI" = some (.ref a) ∧ ∀ H : Hp, SqT K H a (([2, 3, 4, 6, 8, 12] : List Int).map V.int) := ⟨_, PySem.W.mg_of X G s_MODULI, fun H => .inr ⟨_, _, _, u_MODULI, rfl, rfl, by show 6 ≤ sizeLine; decide, .cons ⟨_, rfl⟩ (.cons ⟨_, rfl⟩ (.cons ⟨_, rfl⟩ (.cons ⟨_, rfl⟩ (.cons ⟨_, rfl⟩ (.cons ⟨_, rfl⟩ (.nil))))))⟩⟩
  have FParser_parse_makeup := fun_mk (st := sParser_parse_makeup) lParser_parse_makeup cParser_parse_makeup kParser_parse_makeup
  have D_Parser_parse_makeup : MethAt K C_Parser "parse_makeup" "Parser.parse_makeup" sParser_parse_makeup ["self"] := ⟨⟨fParser_parse_makeup, _, ⟨aParser_parse_makeup, iParser_parse_makeup, kParser_parse_makeup⟩, FParser_parse_makeup, (FParser_parse_makeup.binds fun _ _ _ _ _ _ us hl => match us, hl with | [_], _ => rfl)⟩⟩
  have FParser_parse_rota := fun_mk (st := sParser_parse_rota) lParser_parse_rota cParser_parse_rota kParser_parse_rota
  have D_Parser_parse_rota : MethAt K C_Parser "parse_rota" "Parser.parse_rota" sParser_parse_rota ["self"] := ⟨⟨fParser_parse_rota, _, ⟨aParser_parse_rota, iParser_parse_rota, kParser_parse_rota⟩, FParser_parse_rota, (FParser_parse_rota.binds fun _ _ _ _ _ _ us hl => match us, hl with | [_], _ => rfl)⟩⟩
  have Fload := fun_mk (st := sload) lload cload kload
  have D_load : DefAt K mg "load" sload ["rota"] := ⟨⟨fload, _, PySem.W.mg_of X G aload, Fload, (Fload.binds fun _ _ _ _ _ _ us hl => match us, hl with | [_], _ => rfl)⟩⟩
  have Fformat_parsed := fun_mk (st := sformat_parsed) lformat_parsed cformat_parsed kformat_parsed
  have D_format_parsed : DefAt K mg "format_parsed" sformat_parsed ["parsed"] := ⟨⟨fformat_parsed, _, PySem.W.mg_of X G aformat_parsed, Fformat_parsed, (Fformat_parsed.binds fun _ _ _ _ _ _ us hl => match us, hl with | [_], _ => rfl)⟩⟩
  have Fformat_rota := fun_mk (st := sformat_rota) lformat_rota cformat_rota kformat_rota
  have D_format_rota : DefAt K mg "format_rota" sformat_rota ["rota"] := ⟨⟨fformat_rota, _, PySem.W.mg_of X G aformat_rota, Fformat_rota, (Fformat_rota.binds fun _ _ _ _ _ _ us hl => match us, hl with | [_], _ => rfl)⟩⟩
  have F_law_error_of := fun_mk (st := s_law_error_of) l_law_error_of c_law_error_of k_law_error_of
  have D__law_error_of : DefAt K mg "_law_error_of" s_law_error_of ["_law_call"] := ⟨⟨f_law_error_of, _, PySem.W.mg_of X G a_law_error_of, F_law_error_of, (F_law_error_of.binds fun _ _ _ _ _ _ us hl => match us, hl with | [_], _ => rfl)⟩⟩
  have IS_SyntaxFault : IsX K C_SyntaxFault := ⟨kiSyntaxFault, gESyntaxFault, ggSyntaxFault, eCSyntaxFault, cESyntaxFault, cgO, tkO, mESyntaxFault⟩
  have ER_SyntaxFault : ErK K cs C_RotaError C_SyntaxFault 9 := ⟨by decide, fun i hi => (by match i, hi with | 0, _ => exact ktSyntaxFault0 | 1, _ => exact ktSyntaxFault1 | 2, _ => exact ktSyntaxFault2 | 3, _ => exact ktSyntaxFault3 | 4, _ => exact ktSyntaxFault4 | 5, _ => exact ktSyntaxFault5 | 6, _ => exact ktSyntaxFault6 | 7, _ => exact ktSyntaxFault7 | 8, _ => exact ktSyntaxFault8 | 9, _ => exact ktSyntaxFault9 | 10, _ => exact ktSyntaxFault10 | 11, _ => exact ktSyntaxFault11 | 12, _ => exact ktSyntaxFault12 | 13, _ => exact ktSyntaxFault13), kvSyntaxFault, kxSyntaxFault, IS_SyntaxFault, ⟨gESyntaxFault, ggSyntaxFault, eCSyntaxFault, hESyntaxFault⟩⟩
  have IS_CheckFault : IsX K C_CheckFault := ⟨kiCheckFault, gECheckFault, ggCheckFault, eCCheckFault, cECheckFault, cgO, tkO, mECheckFault⟩
  have ER_CheckFault : ErK K cs C_RotaError C_CheckFault 10 := ⟨by decide, fun i hi => (by match i, hi with | 0, _ => exact ktCheckFault0 | 1, _ => exact ktCheckFault1 | 2, _ => exact ktCheckFault2 | 3, _ => exact ktCheckFault3 | 4, _ => exact ktCheckFault4 | 5, _ => exact ktCheckFault5 | 6, _ => exact ktCheckFault6 | 7, _ => exact ktCheckFault7 | 8, _ => exact ktCheckFault8 | 9, _ => exact ktCheckFault9 | 10, _ => exact ktCheckFault10 | 11, _ => exact ktCheckFault11 | 12, _ => exact ktCheckFault12 | 13, _ => exact ktCheckFault13), kvCheckFault, kxCheckFault, IS_CheckFault, ⟨gECheckFault, ggCheckFault, eCCheckFault, hECheckFault⟩⟩
  have F_law := funC_mk (st := slaw) llaw claw
  have T : Bi mg := ⟨PySem.W.mg_none_of X G z_len, PySem.W.mg_none_of X G z_range, PySem.W.mg_none_of X G z_list, PySem.W.mg_none_of X G z_tuple, PySem.W.mg_none_of X G z_int, PySem.W.mg_none_of X G z_str, PySem.W.mg_none_of X G z_abs, PySem.W.mg_none_of X G z_max, PySem.W.mg_none_of X G z_sorted, PySem.W.mg_none_of X G z_set, PySem.W.mg_none_of X G z_any, PySem.W.mg_none_of X G z_all, PySem.W.mg_none_of X G z_enumerate, PySem.W.mg_none_of X G z_isinstance, PySem.W.mg_none_of X G z_bool, PySem.W.mg_none_of X G z_sum, PySem.W.mg_none_of X G z_zip, PySem.W.mg_none_of X G z_min, PySem.W.mg_none_of X G z_dict, PySem.W.mg_none_of X G z_divmod, PySem.W.mg_none_of X G z_ValueError⟩
  refine ⟨PySem.W.fnOf "law" "law" (defArgs slaw) (defBody slaw) (defScope slaw) .none kVlaw dclaw pmlaw anlaw (.ref cT) ctlaw, [(cT, PT)], spLaw PT K, fun p hp => (by rw [List.mem_singleton.mp hp]; exact tT), fun p hp => (by rw [List.mem_singleton.mp hp]; exact nT), fun p hp => (by rw [List.mem_singleton.mp hp]; exact PySem.W.codeHd_of_K X chT), fun s v => .of_eq rfl, fun H a ns hl _ hT hS => ⟨a, ns, rfl, hS, hl, hT _ List.mem_cons_self, fun _ => rfl⟩, fun base _ _ TBs => ?_⟩
  have TB := TBs _ List.mem_cons_self

  have LC : LexC K mg := ⟨c_END_SIGN, c_SIGN, c_DIGITS, c_MAX_DIGITS, c_NUMBER, c_LETTERS, c_KEYWORDS, c_KEYWORD, c_MAX_LETTERS, c_NAME, c_END, c_SPACES⟩
  have TC : TokCls K C_Token := ⟨K_Token, N_Token_kind, N_Token_text, N_Token_line, N_Token_column⟩
  have PC : ParCls K C_Parser := ⟨K_Parser, N_Parser_tokens, N_Parser_at, N_Parser_faults, N_Parser_names, N_Parser_weights, N_Parser_makers, N_Parser_aways⟩
  have c_below := cal_below (P := l.prog) (w := w) (base := base) D__law_below T
  have c_random := cal_random (P := l.prog) (w := w) (base := base) D__law_random T
  have c_shuf := cal_shuffled D__law_shuffled T c_below
  have c_rota := cal_rota D__law_rota T c_below c_shuf
  have c_text := cal_text (P := l.prog) (w := w) (base := base) D__law_text T
  have c_kind := cal_kind (P := l.prog) (w := w) (base := base) D__law_kind T
  have c_tak := cal_takes (P := l.prog) (w := w) (base := base) D__law_takes T
  have c_man := cal_many D__law_many T c_tak
  have c_ff := cal_ff D__law_first_fault T c_kind c_tak c_man
  have c_pla := cal_placed D__law_placed T c_below
  have c_mkt := mk_token (P := l.prog) (w := w) (base := base) D_Token TC
  have c_run := cal_run_end (P := l.prog) (w := w) (base := base) D_run_end T
  have x_syn := ex_SyntaxFault (P := l.prog) (w := w) (base := base) D_SyntaxFault BX
  have x_chk := ex_CheckFault (P := l.prog) (w := w) (base := base) D_CheckFault BX
  have g_read := cal_readG D_read_token T LC c_run c_mkt x_syn
  have g_tok := cal_tokG D_tokenize T LC TC g_read c_mkt
  have g_mkp := mk_parserG (P := l.prog) (w := w) (mg := mg) (base := base) (CT := C_Token) D_Parser PC
  have g_peek := me_peekG (P := l.prog) (w := w) (mg := mg) (base := base) (CT := C_Token) D_Parser_peek PC
  have g_fail := me_failG D_Parser_fail PC TC x_syn g_peek
  have g_found := me_foundG (P := l.prog) (w := w) (mg := mg) (base := base) D_Parser_found T PC TC
  have g_take := me_takeG D_Parser_take PC TC g_peek g_fail
  have g_word := me_takeWG D_Parser_take_word PC TC g_peek g_fail
  have g_all := me_allG D_Parser_take_all PC TC LC g_peek g_take g_word
  have g_per := me_personG D_Parser_person PC TC g_found
  have g_peo := me_peopleG D_Parser_parse_people T PC TC LC c_MAX_PEOPLE g_word g_all g_found
  have g_tur := me_turnsG D_Parser_parse_turns T PC TC LC c_MAX_TURNS g_peek g_word g_all g_per g_found
  have g_wei := me_weightsG D_Parser_parse_weights T PC TC LC c_MAX_WEIGHT g_peek g_word g_all g_found
  have g_awa := me_awayG D_Parser_parse_away T PC TC LC c_MAX_AWAYS c_MODULI g_peek g_word g_take g_per g_found
  have g_mak := me_makeG D_Parser_parse_makeup T PC TC LC g_peek g_word g_all g_per g_found
  have g_rota := me_rotaG D_Parser_parse_rota T PC TC LC x_chk g_peek g_peo g_tur g_wei g_awa g_mak g_fail
  have g_load := cal_loadG D_load PC ne_Token__Parser g_tok g_mkp g_rota
  have c_fmt := cal_format (P := l.prog) (w := w) (base := base) D_format_parsed T
  have g_fmt := cal_fmtG D_format_rota g_load c_fmt
  exact law_ok (cs := cs) F_law T gR gc TB D__law_error_of ER_SyntaxFault ER_CheckFault noSyntaxFaultline noSyntaxFaultcolumn noCheckFaultreason noCheckFaultline noCheckFaultcolumn c_random c_below c_rota c_text c_kind c_pla c_ff g_fmt
end Br

open PySem PySem.W PyProof.Rows in
set_option maxHeartbeats 0 in
theorem PySem.Challenge.cw_breadrota_k01_syntax_faults_holds : PySem.Challenge.rw_breadrota_k01_syntax_faults.Holds := by
  w_on; o_law; k_head; (case hw => w_witness2)
  k_fill
  refine LamX.walk_ofTs (l := PySem.Challenge.rw_breadrota_k01_syntax_faults) (n := 63) (k := 13) (x := "_law_script") (CX := fun _ => L2.CX0) rfl (by decide) rfl ⟨rfl, by decide, by decide⟩ (fun w h Y => PySem.W.km_in_of Y) ?F fun _ _ _ _ _ z => z
  case F =>
    intro w mg fa h Y KX G hmg
    refine' Br.all_mk KX G hmg ?aCRotaError ?rdR ?gaR ?atR ?aCInvalidTick ?aCInvalidCount ?aCUnknownPerson ?aCTooLong ?aCDifferentPeople ?aCContradiction ?aCNobodyHome ?aCInvalidName ?aCUnknownName ?aCSyntaxFault ?aCCheckFault ?aCInvalidCode ?aCInvalidOperation ?aCInvalidSession ?s_END_SIGN ?s_SIGN ?s_DIGITS ?s_MAX_DIGITS ?s_NUMBER ?s_LETTERS ?s_KEYWORDS ?u_KEYWORDS ?s_KEYWORD ?s_MAX_LETTERS ?s_NAME ?s_END ?s_SPACES ?aCToken ?pgToken ?hdToken ?poToken ?saToken ?nToken_kind ?nToken_text ?nToken_line ?nToken_column ?aCParser ?pgParser ?hdParser ?poParser ?saParser ?nParser_tokens ?nParser_at ?nParser_faults ?nParser_names ?nParser_weights ?nParser_makers ?nParser_aways ?a_law_below ?l_law_below ?c_law_below ?k_law_below ?a_law_random ?l_law_random ?c_law_random ?k_law_random ?a_law_shuffled ?l_law_shuffled ?c_law_shuffled ?k_law_shuffled ?a_law_rota ?l_law_rota ?c_law_rota ?k_law_rota ?a_law_text ?l_law_text ?c_law_text ?k_law_text ?a_law_kind ?l_law_kind ?c_law_kind ?k_law_kind ?a_law_takes ?l_law_takes ?c_law_takes ?k_law_takes ?a_law_many ?l_law_many ?c_law_many ?k_law_many ?a_law_first_fault ?l_law_first_fault ?c_law_first_fault ?k_law_first_fault ?a_law_placed ?l_law_placed ?c_law_placed ?k_law_placed ?mkToken ?kcToken ?aTokenI ?iTokenI ?lTokenI ?cTokenI ?kTokenI ?arun_end ?lrun_end ?crun_end ?krun_end ?xSyntaxFault ?sESyntaxFault ?eCSyntaxFault ?tCSyntaxFault ?kCSyntaxFault ?aSyntaxFaultI ?tSyntaxFaultI ?lSyntaxFaultI ?cSyntaxFaultI ?kSyntaxFaultI ?noSyntaxFaultline ?noSyntaxFaultcolumn ?xCheckFault ?sECheckFault ?eCCheckFault ?tCCheckFault ?kCCheckFault ?aCheckFaultI ?tCheckFaultI ?lCheckFaultI ?cCheckFaultI ?kCheckFaultI ?noCheckFaultreason ?noCheckFaultline ?noCheckFaultcolumn ?aread_token ?lread_token ?cread_token ?kread_token ?atokenize ?ltokenize ?ctokenize ?ktokenize ?mkParser ?kcParser ?aParserI ?iParserI ?lParserI ?cParserI ?kParserI ?aParser_peek ?iParser_peek ?lParser_peek ?cParser_peek ?kParser_peek ?aParser_fail ?iParser_fail ?lParser_fail ?cParser_fail ?kParser_fail ?aParser_found ?iParser_found ?lParser_found ?cParser_found ?kParser_found ?aParser_take ?iParser_take ?lParser_take ?cParser_take ?kParser_take ?aParser_take_word ?iParser_take_word ?lParser_take_word ?cParser_take_word ?kParser_take_word ?aParser_take_all ?iParser_take_all ?lParser_take_all ?cParser_take_all ?kParser_take_all ?aParser_person ?iParser_person ?lParser_person ?cParser_person ?kParser_person ?aParser_parse_people ?iParser_parse_people ?lParser_parse_people ?cParser_parse_people ?kParser_parse_people ?s_MAX_PEOPLE ?aParser_parse_turns ?iParser_parse_turns ?lParser_parse_turns ?cParser_parse_turns ?kParser_parse_turns ?s_MAX_TURNS ?aParser_parse_weights ?iParser_parse_weights ?lParser_parse_weights ?cParser_parse_weights ?kParser_parse_weights ?s_MAX_WEIGHT ?aParser_parse_away ?iParser_parse_away ?lParser_parse_away ?cParser_parse_away ?kParser_parse_away ?s_MAX_AWAYS ?s_MODULI ?u_MODULI ?aParser_parse_makeup ?iParser_parse_makeup ?lParser_parse_makeup ?cParser_parse_makeup ?kParser_parse_makeup ?aParser_parse_rota ?iParser_parse_rota ?lParser_parse_rota ?cParser_parse_rota ?kParser_parse_rota ?aload ?lload ?cload ?kload ?aformat_parsed ?lformat_parsed ?cformat_parsed ?kformat_parsed ?aformat_rota ?lformat_rota ?cformat_rota ?kformat_rota ?a_law_error_of ?l_law_error_of ?c_law_error_of ?k_law_error_of ?ktSyntaxFault0 ?ktSyntaxFault1 ?ktSyntaxFault2 ?ktSyntaxFault3 ?ktSyntaxFault4 ?ktSyntaxFault5 ?ktSyntaxFault6 ?ktSyntaxFault7 ?ktSyntaxFault8 ?ktSyntaxFault9 ?ktSyntaxFault10 ?ktSyntaxFault11 ?ktSyntaxFault12 ?ktSyntaxFault13 ?kvSyntaxFault ?kxSyntaxFault ?kiSyntaxFault ?gESyntaxFault ?ggSyntaxFault ?cESyntaxFault ?mESyntaxFault ?hESyntaxFault ?cgO ?tkO ?ktCheckFault0 ?ktCheckFault1 ?ktCheckFault2 ?ktCheckFault3 ?ktCheckFault4 ?ktCheckFault5 ?ktCheckFault6 ?ktCheckFault7 ?ktCheckFault8 ?ktCheckFault9 ?ktCheckFault10 ?ktCheckFault11 ?ktCheckFault12 ?ktCheckFault13 ?kvCheckFault ?kxCheckFault ?kiCheckFault ?gECheckFault ?ggCheckFault ?cECheckFault ?mECheckFault ?hECheckFault ?z_len ?z_range ?z_list ?z_tuple ?z_int ?z_str ?z_abs ?z_max ?z_sorted ?z_set ?z_any ?z_all ?z_enumerate ?z_isinstance ?z_bool ?z_sum ?z_zip ?z_min ?z_dict ?z_divmod ?z_ValueError ?ne_Token__Parser ?alaw ?llaw ?claw ?klaw ?vT ?pT ?chT ?nT ?tT
    (case aCRotaError => k_is)
    (case rdR => k_is)
    (case gaR => k_is)
    (case atR => k_is)
    (case aCInvalidTick => k_is)
    (case aCInvalidCount => k_is)
    (case aCUnknownPerson => k_is)
    (case aCTooLong => k_is)
    (case aCDifferentPeople => k_is)
    (case aCContradiction => k_is)
    (case aCNobodyHome => k_is)
    (case aCInvalidName => k_is)
    (case aCUnknownName => k_is)
    (case aCSyntaxFault => k_is)
    (case aCCheckFault => k_is)
    (case aCInvalidCode => k_is)
    (case aCInvalidOperation => k_is)
    (case aCInvalidSession => k_is)
    (case s_END_SIGN => k_is)
    (case s_SIGN => k_is)
    (case s_DIGITS => k_is)
    (case s_MAX_DIGITS => k_is)
    (case s_NUMBER => k_is)
    (case s_LETTERS => k_is)
    (case s_KEYWORDS => k_is)
    (case u_KEYWORDS => k_is)
    (case s_KEYWORD => k_is)
    (case s_MAX_LETTERS => k_is)
    (case s_NAME => k_is)
    (case s_END => k_is)
    (case s_SPACES => k_is)
    (case aCToken => k_is)
    (case pgToken => k_is)
    (case hdToken => k_is)
    (case poToken => k_is)
    (case saToken => k_is)
    (case nToken_kind => k_is)
    (case nToken_text => k_is)
    (case nToken_line => k_is)
    (case nToken_column => k_is)
    (case aCParser => k_is)
    (case pgParser => k_is)
    (case hdParser => k_is)
    (case poParser => k_is)
    (case saParser => k_is)
    (case nParser_tokens => k_is)
    (case nParser_at => k_is)
    (case nParser_faults => k_is)
    (case nParser_names => k_is)
    (case nParser_weights => k_is)
    (case nParser_makers => k_is)
    (case nParser_aways => k_is)
    (case a_law_below => k_is)
    (case l_law_below => k_is)
    (case c_law_below => k_is)
    (case k_law_below => k_is)
    (case a_law_random => k_is)
    (case l_law_random => k_is)
    (case c_law_random => k_is)
    (case k_law_random => k_is)
    (case a_law_shuffled => k_is)
    (case l_law_shuffled => k_is)
    (case c_law_shuffled => k_is)
    (case k_law_shuffled => k_is)
    (case a_law_rota => k_is)
    (case l_law_rota => k_is)
    (case c_law_rota => k_is)
    (case k_law_rota => k_is)
    (case a_law_text => k_is)
    (case l_law_text => k_is)
    (case c_law_text => k_is)
    (case k_law_text => k_is)
    (case a_law_kind => k_is)
    (case l_law_kind => k_is)
    (case c_law_kind => k_is)
    (case k_law_kind => k_is)
    (case a_law_takes => k_is)
    (case l_law_takes => k_is)
    (case c_law_takes => k_is)
    (case k_law_takes => k_is)
    (case a_law_many => k_is)
    (case l_law_many => k_is)
    (case c_law_many => k_is)
    (case k_law_many => k_is)
    (case a_law_first_fault => k_is)
    (case l_law_first_fault => k_is)
    (case c_law_first_fault => k_is)
    (case k_law_first_fault => k_is)
    (case a_law_placed => k_is)
    (case l_law_placed => k_is)
    (case c_law_placed => k_is)
    (case k_law_placed => k_is)
    (case mkToken => k_is)
    (case kcToken => k_is)
    (case aTokenI => k_is)
    (case iTokenI => k_is)
    (case lTokenI => k_is)
    (case cTokenI => k_is)
    (case kTokenI => k_is)
    (case arun_end => k_is)
    (case lrun_end => k_is)
    (case crun_end => k_is)
    (case krun_end => k_is)
    (case xSyntaxFault => k_is)
    (case sESyntaxFault => k_is)
    (case eCSyntaxFault => k_is)
    (case tCSyntaxFault => k_is)
    (case kCSyntaxFault => k_is)
    (case aSyntaxFaultI => k_is)
    (case tSyntaxFaultI => k_is)
    (case lSyntaxFaultI => k_is)
    (case cSyntaxFaultI => k_is)
    (case kSyntaxFaultI => k_is)
    (case noSyntaxFaultline => k_is)
    (case noSyntaxFaultcolumn => k_is)
    (case xCheckFault => k_is)
    (case sECheckFault => k_is)
    (case eCCheckFault => k_is)
    (case tCCheckFault => k_is)
    (case kCCheckFault => k_is)
    (case aCheckFaultI => k_is)
    (case tCheckFaultI => k_is)
    (case lCheckFaultI => k_is)
    (case cCheckFaultI => k_is)
    (case kCheckFaultI => k_is)
    (case noCheckFaultreason => k_is)
    (case noCheckFaultline => k_is)
    (case noCheckFaultcolumn => k_is)
    (case aread_token => k_is)
    (case lread_token => k_is)
    (case cread_token => k_is)
    (case kread_token => k_is)
    (case atokenize => k_is)
    (case ltokenize => k_is)
    (case ctokenize => k_is)
    (case ktokenize => k_is)
    (case mkParser => k_is)
    (case kcParser => k_is)
    (case aParserI => k_is)
    (case iParserI => k_is)
    (case lParserI => k_is)
    (case cParserI => k_is)
    (case kParserI => k_is)
    (case aParser_peek => k_is)
    (case iParser_peek => k_is)
    (case lParser_peek => k_is)
    (case cParser_peek => k_is)
    (case kParser_peek => k_is)
    (case aParser_fail => k_is)
    (case iParser_fail => k_is)
    (case lParser_fail => k_is)
    (case cParser_fail => k_is)
    (case kParser_fail => k_is)
    (case aParser_found => k_is)
    (case iParser_found => k_is)
    (case lParser_found => k_is)
    (case cParser_found => k_is)
    (case kParser_found => k_is)
    (case aParser_take => k_is)
    (case iParser_take => k_is)
    (case lParser_take => k_is)
    (case cParser_take => k_is)
    (case kParser_take => k_is)
    (case aParser_take_word => k_is)
    (case iParser_take_word => k_is)
    (case lParser_take_word => k_is)
    (case cParser_take_word => k_is)
    (case kParser_take_word => k_is)
    (case aParser_take_all => k_is)
    (case iParser_take_all => k_is)
    (case lParser_take_all => k_is)
    (case cParser_take_all => k_is)
    (case kParser_take_all => k_is)
    (case aParser_person => k_is)
    (case iParser_person => k_is)
    (case lParser_person => k_is)
    (case cParser_person => k_is)
    (case kParser_person => k_is)
    (case aParser_parse_people => k_is)
    (case iParser_parse_people => k_is)
    (case lParser_parse_people => k_is)
    (case cParser_parse_people => k_is)
    (case kParser_parse_people => k_is)
    (case s_MAX_PEOPLE => k_is)
    (case aParser_parse_turns => k_is)
    (case iParser_parse_turns => k_is)
    (case lParser_parse_turns => k_is)
    (case cParser_parse_turns => k_is)
    (case kParser_parse_turns => k_is)
    (case s_MAX_TURNS => k_is)
    (case aParser_parse_weights => k_is)
    (case iParser_parse_weights => k_is)
    (case lParser_parse_weights => k_is)
    (case cParser_parse_weights => k_is)
    (case kParser_parse_weights => k_is)
    (case s_MAX_WEIGHT => k_is)
    (case aParser_parse_away => k_is)
    (case iParser_parse_away => k_is)
    (case lParser_parse_away => k_is)
    (case cParser_parse_away => k_is)
    (case kParser_parse_away => k_is)
    (case s_MAX_AWAYS => k_is)
    (case s_MODULI => k_is)
    (case u_MODULI => k_is)
    (case aParser_parse_makeup => k_is)
    (case iParser_parse_makeup => k_is)
    (case lParser_parse_makeup => k_is)
    (case cParser_parse_makeup => k_is)
    (case kParser_parse_makeup => k_is)
    (case aParser_parse_rota => k_is)
    (case iParser_parse_rota => k_is)
    (case lParser_parse_rota => k_is)
    (case cParser_parse_rota => k_is)
    (case kParser_parse_rota => k_is)
    (case aload => k_is)
    (case lload => k_is)
    (case cload => k_is)
    (case kload => k_is)
    (case aformat_parsed => k_is)
    (case lformat_parsed => k_is)
    (case cformat_parsed => k_is)
    (case kformat_parsed => k_is)
    (case aformat_rota => k_is)
    (case lformat_rota => k_is)
    (case cformat_rota => k_is)
    (case kformat_rota => k_is)
    (case a_law_error_of => k_is)
    (case l_law_error_of => k_is)
    (case c_law_error_of => k_is)
    (case k_law_error_of => k_is)
    (case ktSyntaxFault0 => kernel_rfl)
    (case ktSyntaxFault1 => kernel_rfl)
    (case ktSyntaxFault2 => kernel_rfl)
    (case ktSyntaxFault3 => kernel_rfl)
    (case ktSyntaxFault4 => kernel_rfl)
    (case ktSyntaxFault5 => kernel_rfl)
    (case ktSyntaxFault6 => kernel_rfl)
    (case ktSyntaxFault7 => kernel_rfl)
    (case ktSyntaxFault8 => kernel_rfl)
    (case ktSyntaxFault9 => kernel_rfl)
    (case ktSyntaxFault10 => kernel_rfl)
    (case ktSyntaxFault11 => kernel_rfl)
    (case ktSyntaxFault12 => kernel_rfl)
    (case ktSyntaxFault13 => kernel_rfl)
    (case kvSyntaxFault => kernel_rfl)
    (case kxSyntaxFault => kernel_rfl)
    (case kiSyntaxFault => k_is)
    (case gESyntaxFault => k_is)
    (case ggSyntaxFault => k_is)
    (case cESyntaxFault => k_is)
    (case mESyntaxFault => k_is)
    (case hESyntaxFault => k_is)
    (case cgO => k_is)
    (case tkO => k_is)
    (case ktCheckFault0 => kernel_rfl)
    (case ktCheckFault1 => kernel_rfl)
    (case ktCheckFault2 => kernel_rfl)
    (case ktCheckFault3 => kernel_rfl)
    (case ktCheckFault4 => kernel_rfl)
    (case ktCheckFault5 => kernel_rfl)
    (case ktCheckFault6 => kernel_rfl)
    (case ktCheckFault7 => kernel_rfl)
    (case ktCheckFault8 => kernel_rfl)
    (case ktCheckFault9 => kernel_rfl)
    (case ktCheckFault10 => kernel_rfl)
    (case ktCheckFault11 => kernel_rfl)
    (case ktCheckFault12 => kernel_rfl)
    (case ktCheckFault13 => kernel_rfl)
    (case kvCheckFault => kernel_rfl)
    (case kxCheckFault => kernel_rfl)
    (case kiCheckFault => k_is)
    (case gECheckFault => k_is)
    (case ggCheckFault => k_is)
    (case cECheckFault => k_is)
    (case mECheckFault => k_is)
    (case hECheckFault => k_is)
    (case z_len => k_is)
    (case z_range => k_is)
    (case z_list => k_is)
    (case z_tuple => k_is)
    (case z_int => k_is)
    (case z_str => k_is)
    (case z_abs => k_is)
    (case z_max => k_is)
    (case z_sorted => k_is)
    (case z_set => k_is)
    (case z_any => k_is)
    (case z_all => k_is)
    (case z_enumerate => k_is)
    (case z_isinstance => k_is)
    (case z_bool => k_is)
    (case z_sum => k_is)
    (case z_zip => k_is)
    (case z_min => k_is)
    (case z_dict => k_is)
    (case z_divmod => k_is)
    (case z_ValueError => k_is)
    (case ne_Token__Parser => decide)
    (case alaw => k_is)
    (case llaw => k_is)
    (case claw => k_is)
    (case klaw => k_is)
    (case vT => k_is)
    (case pT => exact rfl)
    (case chT => kernel_rfl)
    (case nT => kernel_rfl)
    (case tT => exact PySem.W.km_tabs_of Y _ (by k_mem))
