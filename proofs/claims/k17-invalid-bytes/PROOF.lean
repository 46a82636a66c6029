import PyProof.Rows.All
import Wide.All
import OpenK.AllK
import Wide.FinOn
import HandS.Base
import HandS.Call
import HandS.List
import HandS.Comp
import HandS.Ends
import HandS.Dict
import HandS.Iter
import HandS.Text
import HandS.Words
import HandS.WordsList
import HandS.Codes
import HandS.TupMul
import HandS.TupAny
import HandS.TupSets
import HandS.SetFor
import HandS.Strs
import HandS.Deep
import HandS.Conv
import KE.DatumOrd
import PyProof.StrOps2
import HandS.Walk
import HandS.Zip
import HandS.Star
import HandS.Replace
import HandS.IsInst
import HandS.Exc
import HandS.Hot
import HandS.ExcInit
import HandS.ExcOwn
import HandS.ExcField
import HandS.WordsExc
import HandS.TupLe
import HandS.Lambda
import HandS.EndTab
import KE.KExcIs
import KE.KNestM
import KE.KLam
import PySem.Challenge.RW_breadrota_k17_invalid_bytes
set_option Elab.async false
set_option linter.all false
set_option maxRecDepth 100000
set_option maxHeartbeats 3900000
local macro_rules | `(tactic| walk_at "sub") => `(tactic| repeat (first | exact List.Sublist.refl _ | exact List.nil_sublist _ | refine List.Sublist.cons₂ _ ?_ | refine List.Sublist.cons _ ?_))
/-! The common kit: what a call leaves of the heap (Wd), a callee's contract (Cal). -/
namespace Br
open PySem PySem.Spec PyProof.Rows L2

/-- from H0 to H: all outside M is kept, tuples are kept, the domain grows; l is known now: new objects and those of M -/
structure Wd (M : List Addr) (H0 H : Hp) (l : List (Addr × HO)) : Prop where
  base : ∀ b o, b ∉ M → H0 b = some o → H b = some o
  tups : ∀ b xs, H0 b = some (.tup xs) → H b = some (.tup xs)
  own : ∀ q ∈ l, H0 q.1 = none ∨ q.1 ∈ M
  at_ : ∀ q ∈ l, H q.1 = some q.2
  nd : (l.map Prod.fst).Nodup
  free : ∀ p, H p = none → H0 p = none

theorem Wd.refl (H : Hp) : Wd [] H H [] := ⟨fun _ _ _ h => h, fun _ _ h => h, fun _ h => (nomatch h), fun _ h => (nomatch h), List.nodup_nil, fun _ h => h⟩
theorem Wd.start1 {H : Hp} {d : Addr} {o : HO} (h : H d = some o) : Wd [d] H H [(d, o)] :=
  ⟨fun _ _ _ h => h, fun _ _ h => h, fun q hq => by rw [List.mem_singleton.mp hq]; exact .inr List.mem_cons_self, fun q hq => by rw [List.mem_singleton.mp hq]; exact h, by simp, fun _ h => h⟩
theorem Wd.mono {M M' : List Addr} {H0 H : Hp} {l : List (Addr × HO)} (w : Wd M H0 H l) (h : ∀ a ∈ M, a ∈ M') : Wd M' H0 H l :=
  ⟨fun b o hb e => w.base b o (fun z => hb (h b z)) e, w.tups, fun q hq => (w.own q hq).imp id (h _), w.at_, w.nd, w.free⟩
theorem Wd.get {M : List Addr} {H0 H : Hp} {l : List (Addr × HO)} (w : Wd M H0 H l) (i : Nat) {a : Addr} {o : HO} (h : l[i]? = some (a, o)) : H a = some o :=
  w.at_ (a, o) (List.mem_of_getElem? h)
theorem Wd.old {M : List Addr} {H0 H : Hp} {l : List (Addr × HO)} (w : Wd M H0 H l) {a : Addr} {o : HO} (h : H0 a = some o) (hm : a ∉ M) : H a = some o := w.base a o hm h
/-- a new object -/
theorem Wd.new {M : List Addr} {H0 H : Hp} {l : List (Addr × HO)} (w : Wd M H0 H l) {p : Addr} (o : HO) (hp : H p = none) : Wd M H0 (upd H p o) ((p, o) :: l) where
  base := fun b u hb e => by rw [upd_ne (ne_of_none (w.base b u hb e) hp)]; exact w.base b u hb e
  tups := fun b u e => by rw [upd_ne (ne_of_none (w.tups b u e) hp)]; exact w.tups b u e
  own := fun q hq => by
    rcases List.mem_cons.mp hq with rfl | hq
    · exact .inl (w.free _ hp)
    · exact w.own q hq
  at_ := fun q hq => by
    rcases List.mem_cons.mp hq with rfl | hq
    · exact upd_same
    · rw [upd_ne (ne_of_none (w.at_ q hq) hp)]; exact w.at_ q hq
  nd := by
    rw [List.map_cons, List.nodup_cons]
    refine ⟨fun hm => ?_, w.nd⟩
    obtain ⟨q, hq, e⟩ := List.mem_map.mp hm
    have := w.at_ q hq
    rw [e, hp] at this; cases this
  free := fun b e => w.free b (by
    by_cases hb : b = p
    · rw [hb]; exact hp
    · rw [upd_ne hb] at e; exact e)
theorem mem_set {α : Type} {l : List α} {i : Nat} {x y : α} (h : y ∈ l.set i x) : y = x ∨ y ∈ l := (List.mem_or_eq_of_mem_set h).symm
/-- an object of the ledger is changed -/
theorem Wd.put {M : List Addr} {H0 H : Hp} {l : List (Addr × HO)} (w : Wd M H0 H l) (i : Nat) {a : Addr} {o : HO} (o' : HO) (h : l[i]? = some (a, o)) (hn : ∀ xs, o ≠ .tup xs) : Wd M H0 (upd H a o') (l.set i (a, o')) where
  base := fun b u hb e => by
    have ha := List.mem_of_getElem? h
    have : b ≠ a := fun z => by
      subst z
      rcases w.own _ ha with q | q
      · rw [show H0 b = none from q] at e; cases e
      · exact hb q
    rw [upd_ne this]; exact w.base b u hb e
  tups := fun b u e => by
    have ha := w.at_ _ (List.mem_of_getElem? h)
    have : b ≠ a := fun z => by
      subst z
      have e2 := w.tups b u e
      rw [show H b = some o from ha] at e2
      exact hn u (Option.some.inj e2)
    rw [upd_ne this]; exact w.tups b u e
  own := fun q hq => by
    rcases mem_set hq with rfl | hq
    · exact w.own (a, o) (List.mem_of_getElem? h)
    · exact w.own q hq
  at_ := fun q hq => by
    obtain ⟨j, hj⟩ := List.mem_iff_getElem?.mp hq
    by_cases e : i = j
    · subst e
      have hi : i < l.length := (List.getElem?_eq_some_iff.mp h).1
      rw [List.getElem?_set_self hi] at hj
      cases hj
      exact upd_same
    · rw [List.getElem?_set_ne e] at hj
      have hq' := w.at_ q (List.mem_of_getElem? hj)
      have : q.1 ≠ a := fun z => by
        have h1 : (l.map Prod.fst)[i]? = some a := by rw [List.getElem?_map, h]; rfl
        have h2 : (l.map Prod.fst)[j]? = some a := by rw [List.getElem?_map, hj, ← z]; rfl
        exact e (nd_ix w.nd h1 h2)
      rw [upd_ne this]; exact hq'
  nd := by
    have e : (l.set i (a, o')).map Prod.fst = l.map Prod.fst := by
      rw [List.map_set]
      refine List.ext_getElem? fun j => ?_
      by_cases e : i = j
      · subst e
        have hi : i < l.length := (List.getElem?_eq_some_iff.mp h).1
        rw [List.getElem?_set_self (by rw [List.length_map]; exact hi), List.getElem?_map, h]; rfl
      · rw [List.getElem?_set_ne e]
    rw [e]; exact w.nd
  free := fun b e => w.free b (by
    by_cases hb : b = a
    · subst hb; rw [upd_same] at e; cases e
    · rw [upd_ne hb] at e; exact e)
/-- a callee that changed nothing old -/
theorem Wd.call0 {M : List Addr} {H0 H H' : Hp} {l l' : List (Addr × HO)} (w : Wd M H0 H l) (c : Wd [] H H' l') : Wd M H0 H' (l' ++ l) where
  base := fun b u hb e => c.base b u (by simp) (w.base b u hb e)
  tups := fun b u e => c.tups b u (w.tups b u e)
  own := fun q hq => by
    rcases List.mem_append.mp hq with hq | hq
    · rcases c.own q hq with z | z
      · exact .inl (w.free _ z)
      · cases z
    · exact w.own q hq
  at_ := fun q hq => by
    rcases List.mem_append.mp hq with hq | hq
    · exact c.at_ q hq
    · exact c.base _ _ (by simp) (w.at_ q hq)
  nd := by
    rw [List.map_append, List.nodup_append]
    refine ⟨c.nd, w.nd, fun a ha b hb e => ?_⟩
    obtain ⟨q, hq, e1⟩ := List.mem_map.mp ha
    obtain ⟨r, hr, e2⟩ := List.mem_map.mp hb
    have h1 := w.at_ r hr
    rcases c.own q hq with z | z
    · rw [e1, e, ← e2, h1] at z; cases z
    · cases z
  free := fun b e => w.free b (c.free b e)
/-- a callee that changed the ledger's first object alone -/
theorem Wd.call1 {M : List Addr} {H0 H H' : Hp} {l l' : List (Addr × HO)} {d : Addr} {o o' : HO} (w : Wd M H0 H ((d, o) :: l)) (ho : ∀ xs, o ≠ .tup xs) (c : Wd [d] H H' ((d, o') :: l')) : Wd M H0 H' ((d, o') :: (l' ++ l)) where
  base := fun b u hb e => by
    have hd : b ≠ d := fun z => by
      subst z
      rcases w.own _ List.mem_cons_self with q | q
      · rw [show H0 b = none from q] at e; cases e
      · exact hb q
    exact c.base b u (by simpa using hd) (w.base b u hb e)
  tups := fun b u e => c.tups b u (w.tups b u e)
  own := fun q hq => by
    rcases List.mem_cons.mp hq with rfl | hq
    · exact w.own (d, o) List.mem_cons_self
    · rcases List.mem_append.mp hq with hq | hq
      · rcases c.own q (List.mem_cons_of_mem _ hq) with z | z
        · exact .inl (w.free _ z)
        · have hn := c.nd
          rw [List.map_cons, List.nodup_cons] at hn
          have : q.1 = d := by simpa using z
          exact absurd (List.mem_map.mpr ⟨q, hq, this⟩) hn.1
      · exact w.own q (List.mem_cons_of_mem _ hq)
  at_ := fun q hq => by
    rcases List.mem_cons.mp hq with rfl | hq
    · exact c.at_ _ List.mem_cons_self
    · rcases List.mem_append.mp hq with hq | hq
      · exact c.at_ q (List.mem_cons_of_mem _ hq)
      · have hn := w.nd
        rw [List.map_cons, List.nodup_cons] at hn
        have hd : q.1 ≠ d := fun z => hn.1 (List.mem_map.mpr ⟨q, hq, z⟩)
        exact c.base _ _ (by simpa using hd) (w.at_ q (List.mem_cons_of_mem _ hq))
  nd := by
    have hn := w.nd
    have hn' := c.nd
    rw [List.map_cons, List.nodup_cons] at hn hn'
    rw [List.map_cons, List.map_append, List.nodup_cons, List.nodup_append]
    refine ⟨fun hm => ?_, hn'.2, hn.2, fun a ha b hb e => ?_⟩
    · rcases List.mem_append.mp hm with h | h
      · exact hn'.1 h
      · exact hn.1 h
    · obtain ⟨q, hq, e1⟩ := List.mem_map.mp ha
      obtain ⟨r, hr, e2⟩ := List.mem_map.mp hb
      have h1 := w.at_ r (List.mem_cons_of_mem _ hr)
      rcases c.own q (List.mem_cons_of_mem _ hq) with z | z
      · rw [e1, e, ← e2, h1] at z; cases z
      · have : q.1 = d := by simpa using z
        exact hn'.1 (List.mem_map.mpr ⟨q, hq, this⟩)
  free := fun b e => w.free b (c.free b e)
/-- forget -/
theorem Wd.sub {M : List Addr} {H0 H : Hp} {l l' : List (Addr × HO)} (w : Wd M H0 H l) (h : List.Sublist l' l) : Wd M H0 H l' :=
  ⟨w.base, w.tups, fun q hq => w.own q (h.subset hq), fun q hq => w.at_ q (h.subset hq), (h.map Prod.fst).nodup w.nd, w.free⟩
theorem Wd.perm {M : List Addr} {H0 H : Hp} {l l' : List (Addr × HO)} (w : Wd M H0 H l) (h : List.Perm l l') : Wd M H0 H l' :=
  ⟨w.base, w.tups, fun q hq => w.own q (h.mem_iff.mpr hq), fun q hq => w.at_ q (h.mem_iff.mpr hq), (h.map Prod.fst).nodup_iff.mp w.nd, w.free⟩
/-- a new object behind the first -/
theorem Wd.new1 {M : List Addr} {H0 H : Hp} {l : List (Addr × HO)} {e : Addr × HO} (w : Wd M H0 H (e :: l)) {p : Addr} (o : HO) (hp : H p = none) : Wd M H0 (upd H p o) (e :: (p, o) :: l) :=
  (w.new o hp).perm (.swap _ _ _)

/-- tuples are kept -/
def KT (H H' : Hp) : Prop := ∀ b xs, H b = some (.tup xs) → H' b = some (.tup xs)
theorem KT.refl (H : Hp) : KT H H := fun _ _ h => h
theorem KT.new {H H' : Hp} (k : KT H H') {p : Addr} {o : HO} (hp : H' p = none) : KT H (upd H' p o) := fun b xs e => by
  rw [upd_ne (ne_of_none (k b xs e) hp)]; exact k b xs e
theorem KT.call {M : List Addr} {H H' H'' : Hp} {l : List (Addr × HO)} (k : KT H H') (c : Wd M H' H'' l) : KT H H'' := fun b xs e => c.tups b xs (k b xs e)
theorem KT.put {H H' : Hp} (k : KT H H') {p : Addr} {o u : HO} (hp : H' p = some u) (hn : ∀ xs, u ≠ .tup xs) : KT H (upd H' p o) := fun b xs e => by
  rw [upd_ne (ne_of (k b xs e) hp (hn xs).symm)]; exact k b xs e
/-- a def of the module and its contract -/
structure Cal (P : Program) (w : World) (K : PySem.W.Frag) (mg : Str → Option Value) (base : Heap) (k : Nat) (x : Str) (ps : List Str) (sp : Sp) : Prop where
  ex : ∃ (f : Addr) (fd : FuncData), mg x = some (.ref f) ∧ PySem.W.keepIn K (.ref f) = true ∧ Binds K fd ps [] ∧ FnOk P w K mg base CX0 k f fd ps sp
/-- a def of the module as the top left it -/
structure DefAt (K : PySem.W.Frag) (mg : Str → Option Value) (x : Str) (st : Stmt) (ps : List Str) : Prop where
  ex : ∃ (f : Addr) (fd : FuncData), mg x = some (.ref f) ∧ Fun K x x st f fd ∧ Binds K fd ps []
theorem DefAt.cal {P : Program} {w : World} {K : PySem.W.Frag} {mg : Str → Option Value} {base : Heap} {k : Nat} {x : Str} {st : Stmt} {ps : List Str} {sp : Sp} (D : DefAt K mg x st ps)
    (h : ∀ f fd, Fun K x x st f fd → FnOk P w K mg base CX0 k f fd ps sp) : Cal P w K mg base k x ps sp := by
  obtain ⟨f, fd, m, F, b⟩ := D.ex
  exact ⟨f, fd, m, F.kp, b, h f fd F⟩
/-- the names of built-ins that the module leaves as they are -/
structure Bi (mg : Str → Option Value) : Prop where
  len : mg "len" = none
  range : mg "range" = none
  list : mg "list" = none
  tuple : mg "tuple" = none
  int : mg "int" = none
  str : mg "str" = none
  abs : mg "abs" = none
  max : mg "max" = none
  sorted : mg "sorted" = none
  set : mg "set" = none
  any : mg "any" = none
  all : mg "all" = none
  enumerate : mg "enumerate" = none
  isinstance : mg "isinstance" = none
  bool : mg "bool" = none
  sum : mg "sum" = none
  zip : mg "zip" = none
  min : mg "min" = none
  dict : mg "dict" = none
  divmod : mg "divmod" = none
  ValueError : mg "ValueError" = none
end Br

/-! Rules that the layer lacks. -/
namespace Br
open PySem PySem.Spec PyProof.Rows L2
section
variable {X : Cx}
/-! ### max of a tuple of ints -/
theorem maxOf_ge : ∀ (xs : List Int) (x : Int), (PySem.W.maxOf x xs ∈ x :: xs) ∧ ∀ y ∈ x :: xs, y ≤ PySem.W.maxOf x xs
  | [], x => by simp [PySem.W.maxOf]
  | z :: xs, x => by
    have e : PySem.W.maxOf x (z :: xs) = PySem.W.maxOf (if x < z then z else x) xs := by
      show List.foldl _ _ (z :: xs) = _
      rw [List.foldl_cons]
      show List.foldl _ (if decide (x < z) = true then z else x) xs = List.foldl _ (if x < z then z else x) xs
      simp only [decide_eq_true_eq]
    rw [e]
    obtain ⟨h1, h2⟩ := maxOf_ge xs (if x < z then z else x)
    have hw : x ≤ (if x < z then z else x) ∧ z ≤ (if x < z then z else x) ∧ ((if x < z then z else x) = z ∨ (if x < z then z else x) = x) := by
      by_cases c : x < z
      · rw [if_pos c]; omega
      · rw [if_neg c]; omega
    generalize (if x < z then z else x) = v at *
    have h3 := h2 _ List.mem_cons_self
    refine ⟨?_, fun y hy => ?_⟩
    · rcases List.mem_cons.mp h1 with h | h
      · rw [h]; rcases hw.2.2 with r | r <;> simp [r]
      · exact List.mem_cons_of_mem _ (List.mem_cons_of_mem _ h)
    · rcases List.mem_cons.mp hy with h | h
      · subst h; omega
      · rcases List.mem_cons.mp h with h | h
        · subst h; omega
        · exact h2 y (List.mem_cons_of_mem _ h)
theorem holds_of_ints {h : Heap} : ∀ {vs : List Value} {ns : List Int}, IntsAre vs ns → PySem.W.HoldAll h vs ns
  | _, _, .nil => PySem.W.HoldAll.nil
  | _, _, .cons n t hr => PySem.W.HoldAll.cons ⟨_, Reads.int n t⟩ (holds_of_ints hr)
def rMaxT (K : PySem.W.Frag) : List V → Hp → VK → Prop := fun vs H Q => ∃ (a : Addr) (ns : List Int), vs = [V.ref a] ∧ SqT K H a (ns.map V.int) ∧ 0 < ns.length ∧ ∀ m, m ∈ ns → (∀ y, y ∈ ns → y ≤ m) → Q (.int m) H
theorem cr_maxT (hc : X.calm = true) (hu : X.A.units + 64 < cLine) : CallR X (.builtin "max") (rMaxT X.K) := by
  intro pins s σ H vs us Q I r h
  obtain ⟨a, ns, rfl, hs, hne, q⟩ := h
  obtain ⟨its, rv, hl, _⟩ := I.tuple hs
  rw [Vals.ref1 r]
  have hi := rv.ints
  cases ns with
  | nil => simp at hne
  | cons x xs =>
    refine PySem.W.max_tuple_datum (α := Int) (x := x) (xs := xs) (I.ok.hd hc) hl (by simpa using holds_of_ints hi) (by show _ + 1 + 0 < _; omega) fun i v h' tk hv hh hk => ?_
    obtain ⟨as, rd⟩ := hh
    obtain ⟨m1, m2⟩ := maxOf_ge xs x
    generalize PySem.W.maxOf x xs = m at *
    have : ∃ t, v = Value.int m t := by cases rd; exact ⟨_, rfl⟩
    obtain ⟨t, rfl⟩ := this
    exact ⟨.int m, H, I.kept hk, ⟨t, rfl⟩, q m m1 m2⟩
/-! ### a match over texts -/
structure PCs (X : Cx) (cs : List MatchCase) (t : Str → TS) : Prop where
  run : ∀ (pins : List (Addr × Obj)) (s : Shared) (σ : L2.St) (H : Hp) (D : Ends) (z : Str) (tk : Tok) (first : Bool), Inv X pins σ H s → t z D σ H → wpAny (model X.prog X.w) X.A (matchCases cs X.env (.str z tk) first) (SP X pins D) X.xe s
def tMatch (te : TE) (tc : Str → TS) : TS := fun D σ H => te σ H fun x H1 => ∃ z, x = .str z ∧ tc z D σ H1
theorem ps_match {e : Expr} {te : TE} {cs : List MatchCase} {tc : Str → TS} {pos : Pos} (he : PE X e te) (hc : PCs X cs tc) : PS X (.Match e cs pos) (tMatch te tc) := by
  refine ⟨fun pins s σ H D I h => ?_⟩
  show wpAny _ _ (do standAt pos; let v ← eval e X.env; matchCases cs X.env v true) _ _ _
  refine wpAny_bind (wpAny_standAt (wpAny_bind (thn (he.run pins s σ H _ I h) fun v s1 ⟨x, H1, I1, r1, z, hz, q⟩ => ?_)))
  subst hz
  obtain ⟨tk, rfl⟩ := r1
  exact hc.run pins s1 σ H1 D z tk true I1 q
theorem pcs_nil : PCs X [] (fun _ D σ H => D.nx σ H) := ⟨fun pins s σ H D z tk first I h => wpAny_pure ⟨σ, H, I, h⟩⟩
theorem pcs_str {c : Str} {j cpos pos} {body : List Stmt} {rest : List MatchCase} {tb : TS} {tr : Str → TS} (hb : PSs X body tb) (hr : PCs X rest tr) :
    PCs X (⟨.MatchValue (.Constant (.str c) j cpos) pos, none, body⟩ :: rest) (fun z D σ H => if z = c then tb D σ H else tr z D σ H) := by
  refine ⟨fun pins s σ H D z tk first I h => ?_⟩
  unfold matchCases
  refine wpAny_bind (wpAny_holding ?_)
  unfold matchPattern
  refine wpAny_bind (Calls.Constant_str (wpAny_bind (wpAny_standAt (wpAny_bind (eq_str (wpAny_bind (wpAny_truthy_bool ?_)))))))
  have I1 := I.tok (s.toks + 1)
  by_cases e : z = c
  · rw [if_pos e] at h
    subst e
    rw [beq_self_eq_true]
    refine wpAny_pure ?_
    dsimp only
    refine wpAny_bind (wpAny_holding ?_)
    refine wpAny_pure (wpAny_bind (wpAny_pure ?_))
    exact hb.run pins _ σ H D I1 h
  · rw [if_neg e] at h
    rw [show (z == c) = false from beq_eq_false_iff_ne.mpr e]
    refine wpAny_pure ?_
    exact hr.run pins _ σ H D z tk false I1 h
theorem pcs_any {pos} {body : List Stmt} {tb : TS} (hb : PSs X body tb) : PCs X [⟨.MatchAs none none pos, none, body⟩] (fun _ D σ H => tb D σ H) := by
  refine ⟨fun pins s σ H D z tk first I h => ?_⟩
  unfold matchCases
  refine wpAny_bind (wpAny_holding ?_)
  unfold matchPattern
  refine wpAny_pure ?_
  dsimp only
  refine wpAny_bind (wpAny_holding ?_)
  refine wpAny_pure (wpAny_bind (wpAny_pure ?_))
  exact hb.run pins _ σ H D I h
/-! ### tuple * int, str * int -/
theorem tup_mul1 (l : Addr) (items : Array Value) (n : Nat) (dd : Option Addr) (sl : Array (Option Value)) (u : Tok) :
    Meets (Builtin.«tuple.__mul__» ⟨[.ref l, .int 1 u], []⟩) (fun _ R s => s.heap.get? l = some { cls := .type "tuple", dict := dd, data := .seq items n, slots := sl } ∧ R (.ok (.ret (Value.ref l))) s) :=
  .of_wp fun prog w A R s h => by
    obtain ⟨hp, g, d, tk, os⟩ := s
    obtain ⟨hl, h⟩ := h
    have f1 := AutoSeq1.idx_int
    have c1 : (items.isEmpty || (1 : Int) == 1) = true := by simp
    wp_walk using wpAny_loadPart' hl
    exact ⟨_, rfl, h⟩
def rRepA (K : PySem.W.Frag) : R2 := fun x y H Q => ∃ l k xs, x = .ref l ∧ y = .int k ∧ SqT K H l xs ∧ xs ≠ [] ∧ 1 ≤ k ∧ k ≤ 1000 ∧ xs.length ≤ 1000 ∧ (k = 1 → Q (.ref l) H) ∧ (2 ≤ k → ∀ p, H p = none → Q (.ref p) (upd H p (.tup (List.replicate k.toNat xs).flatten)))
theorem op_repA : OpR X (binaryOp .Mult) (rRepA X.K) := by
  intro pins s σ H x y v u Q I rx ry h
  obtain ⟨l, k, xs, rfl, rfl, hT, hne, h1, h2, hz, q1, q2⟩ := h
  by_cases hk : k = 1
  · subst hk
    cases rx
    obtain ⟨t, rfl⟩ := ry
    obtain ⟨its, r, ⟨⟨cls, dd, data, sl⟩, ho, hc, n, hd⟩, hs⟩ := I.tuple hT
    simp only at hc hd
    subst hc hd
    exact wpAny_binaryOp_repeat_ref (T := "tuple") (U := "int") (by decide) ⟨_, ho, rfl⟩ (fun s' => typeIs_int s' 1 t) noFill_tuple_mul F.fills_int_mul F.slot_int_rmul repeat_tuple F.slot_int_index.lookup
      (call_meets F.slot_int_rmul (typeIs_int s 1 t) F.entry_int_rmul (F.args_int_rmul_2 _ _) (int_rmul_tuple 1 t l its.toArray n dd sl)
        ⟨ho, rfl, ⟨_, ho, rfl⟩, call_meets F.slot_tuple_mul ⟨_, ho, rfl⟩ F.entry_tuple_mul (F.args_tuple_mul_2 _ _) (tup_mul1 l its.toArray n dd sl t) ⟨ho, ⟨.ref l, H, I, rfl, q1 rfl⟩⟩⟩)
  · exact op_repT pins s σ H (.ref l) (.int k) v u Q I rx ry ⟨l, k, xs, rfl, rfl, hT, hne, by omega, h2, hz, q2 (by omega)⟩
def repS (z : Str) (k : Nat) : Str := ⟨(List.replicate k z.cps).foldl (· ++ ·) #[]⟩
theorem foldl_rep (b : Array Nat) : ∀ (k : Nat) (a : Array Nat), (List.foldl (· ++ ·) a (List.replicate k b)).toList = a.toList ++ (List.replicate k b.toList).flatten
  | 0, a => by simp
  | k + 1, a => by
    rw [List.replicate_succ, List.foldl_cons, foldl_rep b k, List.replicate_succ, List.flatten_cons, Array.toList_append, List.append_assoc]
theorem repS_list (z : Str) (k : Nat) : (repS z k).cps.toList = (List.replicate k z.cps.toList).flatten := by
  have := foldl_rep z.cps k #[]
  simpa [repS] using this
theorem repS_length (z : Str) (k : Nat) : (repS z k).length = k * z.length := by
  have h := congrArg List.length (repS_list z k)
  rw [List.length_flatten, List.map_replicate, List.sum_replicate_nat] at h
  simpa [Str.length] using h
def rRepS : R2 := fun x y H Q => ∃ z k, x = .str z ∧ y = .int k ∧ 1 ≤ k ∧ k ≤ 1000 ∧ 0 < z.length ∧ z.length ≤ 1000 ∧ Q (.str (repS z k.toNat)) H
theorem op_repS : OpR X (binaryOp .Mult) rRepS := by
  intro pins s σ H x y v u Q I rx ry h
  obtain ⟨z, k, rfl, rfl, h1, h2, hz0, hz, q⟩ := h
  obtain ⟨t, rfl⟩ := rx
  obtain ⟨t', rfl⟩ := ry
  refine PySem.P.mul_str (by rw [decide_eq_false (by omega), decide_eq_false (by omega)]; rfl) (fun _ _ => ?_) (fun _ _ => ?_) ?_
  · have : (1000 : Int) ≤ (2 ^ 63 - 1) / k := by
      exact (Int.le_ediv_iff_mul_le (by omega)).mpr (by omega)
    omega
  · have h3 : z.length * k.toNat ≤ 1000 * 1000 := Nat.mul_le_mul hz (by omega)
    unfold PySem.Builtin.Str.tooLong
    exact decide_eq_false (by have := sizeLine_eq; omega)
  · rw [if_neg (by omega)]
    by_cases c : (k == 1 || z.length == 0) = true
    · rw [if_pos c]
      have hk : k = 1 := by
        rcases Bool.or_eq_true _ _ ▸ c with c | c
        · exact eq_of_beq c
        · have := eq_of_beq c; omega
      subst hk
      refine ⟨.str z, H, I, ⟨t, rfl⟩, ?_⟩
      have e : repS z (1 : Int).toNat = z := by
        show (⟨#[] ++ z.cps⟩ : Str) = z
        rw [Array.empty_append]
      rw [e] at q
      exact q
    · rw [if_neg c]
      refine ⟨?_, .str (repS z k.toNat), H, I.tok _, ⟨_, rfl⟩, q⟩
      have h3 : k.toNat * z.length ≤ 1000 * 1000 := Nat.mul_le_mul (by omega) hz
      have h4 := repS_length z k.toNat
      have := sizeLine_eq
      show (repS z k.toNat).length ≤ sizeLine
      omega
/-! ### the layer's rules with the written part named -/
abbrev rLenS (K : PySem.W.Frag) : List V → Hp → VK → Prop := fun xs H Q => ∃ p ys, xs = [.ref p] ∧ (SqL K H p ys ∨ SqT K H p ys) ∧ Q (.int ys.length) H
abbrev rListOf (K : PySem.W.Frag) : List V → Hp → VK → Prop := fun xs H Q => ∃ p ys, xs = [.ref p] ∧ (SqL K H p ys ∨ SqT K H p ys) ∧ ∀ l, H l = none → Q (.ref l) (upd H l (.lst ys))
abbrev rTupOf (K : PySem.W.Frag) : List V → Hp → VK → Prop := fun xs H Q => ∃ p ys, xs = [.ref p] ∧ ((SqL K H p ys ∧ ∀ l, H l = none → Q (.ref l) (upd H l (.tup ys))) ∨ (SqT K H p ys ∧ Q (.ref p) H))
abbrev rJoin (K : PySem.W.Frag) : V → List V → Hp → VK → Prop := fun x xs H Q => ∃ a p, ∃ ys : List Str, x = .str a ∧ xs = [.ref p] ∧ (SqL K H p (ys.map V.str) ∨ SqT K H p (ys.map V.str)) ∧ (ys.map (·.length)).sum + ys.length * a.length ≤ 16777216 ∧ Q (.str (Txt.join a ys)) H
variable {K : PySem.W.Frag}
theorem pe_fldK (hK : X.K = K) {e : Expr} {ta : TE} {f : Str} {pos : Pos} (he : PE X e ta) (hb : attributeBase e f X.env (eval e X.env) = eval e X.env) : PE X (.Attribute e f pos) (tFld K ta f) := by
  subst hK; exact pe_fld he hb
theorem pe_bmK (hK : X.K = K) {T id : String} {name : Str} {r : V → List V → Hp → VK → Prop} {o e : Expr} {es : List Expr} {to : TE} {t : TA} {apos cpos : Pos} (pa : PlainAttrs T) (slot : Slot T name id) (hty : typeOf (.builtin id) = pure (.type "method_descriptor")) (hm : MtR X id r) (ho : PE X o to) (ha : PA X (e :: es) t)
    (hbase : attributeBase o name X.env (eval o X.env) = eval o X.env := by rfl)
    (hfew : ((backTo cpos (starEach (e :: es) X.env)).all (fun x => !x.1) && (backToKw cpos (keywordEach [] X.env)).all (fun x => x.1.isSome) && decide ((e :: es).length + ([] : List Keyword).length + (if ([] : List Keyword).isEmpty then 0 else 1) < 30)) = true := by rfl)
    (hline : (apos.endLine == cpos.line) = true := by rfl) (hs : starEach (e :: es) X.env = (false, eval e X.env) :: starEach es X.env := by rfl) (hplain : (backTo cpos (starEach es X.env)).any (·.1) = false := by rfl) :
    PE X (.Call (.Attribute o name apos) (e :: es) [] cpos) (tBM K T r to t) := by
  subst hK; exact pe_bm pa slot hty hm ho ha hbase hfew hline hs hplain
theorem pe_joinK (hK : X.K = K) {o e : Expr} {to te : TE} {apos pos : Pos} (ho : PE X o to) (he : PE X e te) (hs : starEach [e] X.env = [(false, eval e X.env)] := by rfl) (hbase : attributeBase o "join" X.env (eval o X.env) = eval o X.env := by rfl) (hline : (apos.endLine == pos.line) = true := by rfl) :
    PE X (.Call (.Attribute o "join" apos) [e] [] pos) (tM1 (rJoin K) to te) := by
  subst hK; exact pe_join ho he hs hbase hline
theorem pi_listK (hK : X.K = K) {tg l : Expr} {tl : TE} (hl : PE X l tl) : PI X tg l (iList K tl) := by subst hK; exact pi_list hl
theorem pi_tupK (hK : X.K = K) {tg l : Expr} {tl : TE} (hl : PE X l tl) : PI X tg l (iTup K tl) := by subst hK; exact pi_tup hl
theorem pg_tupK (hK : X.K = K) {es : List Expr} {k : Nat} {t : TGs} {n : Nat} {pos : Pos} (hc : X.calm = true) (h : PGs X es t)
    (hn : (assignEach es X.env).length = n := by rfl) (hst : (assignEach es X.env).findIdx? (·.1) = none := by rfl) : PG X (.Tuple es k pos) (gTup K n t) := by
  subst hK; exact pg_tup hc h hn hst
end
end Br

namespace Br
open PySem PySem.Spec PyProof.Rows L2
def topS (i : Nat) : Stmt := PySem.Challenge.pw_breadrota_k17_invalid_bytes.main.body.getD i (.Pass ⟨0, 0, 0, 0⟩)
/-- the source of numbers: the seed, the digits left of the present cell, the cells to come -/
def dl (a b : Int) (r : List Int) : HO := .lst (V.int a :: V.int b :: r.map V.int)
structure DOk (a b : Int) (r : List Int) : Prop where
  a0 : 0 ≤ a
  b0 : 0 ≤ b
  r0 : ∀ x ∈ r, 0 ≤ x
section
variable {P : Program} {w : World} {K : PySem.W.Frag} {mg : Str → Option Value} {base : Heap}
def spBelow : Sp := fun vs H Q _ => ∃ (d : Addr) (n a b : Int) (r : List Int), vs = [.ref d, .int n] ∧ 0 < n ∧ n < 1073741824 ∧ H d = some (dl a b r) ∧ DOk a b r ∧
  ∀ (k a' b' : Int) (r' : List Int) (H' : Hp), Wd [d] H H' [(d, dl a' b' r')] → DOk a' b' r' → 0 ≤ k → k < n → Q (.int k) H'
abbrev s_law_below : Stmt := topS 54
theorem sc_law_below : FnScope ["_law_d", "_law_limit", "_law_result"] ["_law_d", "_law_limit"] (defScope s_law_below) := ⟨rfl, rfl, rfl, by decide +kernel, rfl, by decide +kernel, by decide +kernel⟩
theorem put0 {H0 H : Hp} {d : Addr} {a b : Int} {r : List Int} (w : Wd [d] H0 H [(d, dl a b r)]) (a' b' : Int) (r' : List Int) : Wd [d] H0 (upd H d (dl a' b' r')) [(d, dl a' b' r')] :=
  w.put 0 (dl a' b' r') rfl (fun xs q => by cases q)
theorem cal_below (D : DefAt K mg "_law_below" s_law_below ["_law_d", "_law_limit"]) (T : Bi mg) : Cal P w K mg base 1 "_law_below" ["_law_d", "_law_limit"] spBelow := D.cal fun f fd F => by
  have nd := sc_law_below.nd
  refine F.ok sc_law_below (fun vs H Q E h => ?_) (fun cdv A outer s H vs Q E hr h => ?_)
  · obtain ⟨d, n, a, b, r, rfl, _⟩ := h; rfl
  obtain ⟨d, n, a, b, r, rfl, n0, n1, hd, ok, k⟩ := h
  refine ⟨_, (C8.pss_cut (ps_if (PW.pt (pw_and (pt_cmpR op_eq (pe_ix (r := rIxL K) ix_list (pv 0) pe_int (fun _ _ => rfl)) pe_int (nomark _)) (pw_and1 (pt_cmpR op_gt (pe_callB (r := rLenS K) call_len_seq (by rfl) T.len PySem.boot_len (pa_cons (pv 0) pa_nil)) pe_int (nomark _)))))
 (pss_one (ps_asg (pe_bmK (K := K) rfl PySem.F.plainAttrs_list PySem.F.slot_list_pop PySem.F.type_list_pop mt_popAt (pv 0) (pa_cons pe_int pa_nil)) (pg_sub (pv 0) pe_int set_list)))
 pss_nil)
 (pss_cons (ps_if (pt_cmpR op_gt (pe_ix (r := rIxL K) ix_list (pv 0) pe_int (fun _ _ => rfl)) pe_int (nomark _))
 (pss_cons (ps_set (i := 2) nd rfl (Or.inl rfl) (pe_op op_modN (pe_ix (r := rIxL K) ix_list (pv 0) pe_int (fun _ _ => rfl)) (pv 1)))
 (pss_cons (ps_asg (pe_op op_fdivN (pe_ix (r := rIxL K) ix_list (pv 0) pe_int (fun _ _ => rfl)) (pv 1)) (pg_sub (pv 0) pe_int set_list))
 (pss_one (ps_ret (pv 2)))))
 pss_nil)
 (pss_cons (ps_asg (pe_op op_mod (pe_op op_add (pe_op op_mul (pe_ix (r := rIxL K) ix_list (pv 0) pe_int (fun _ _ => rfl)) pe_int) pe_int) pe_int) (pg_sub (pv 0) pe_int set_list))
 (pss_one (ps_ret (pe_op op_modN (pe_op op_fdiv (pe_ix (r := rIxL K) ix_list (pv 0) pe_int (fun _ _ => rfl)) pe_int) (pv 1))))))), ?_⟩
  refine ⟨fun σ H1 => σ = [some (.ref d), some (.int n), none] ∧ ∃ a b r, Wd [d] H H1 [(d, dl a b r)] ∧ DOk a b r, ?_, ?_⟩
  · -- if _law_d[1] == 0 and len(_law_d) > 2: _law_d[1] = _law_d.pop(2)
    refine ⟨_, rfl, _, _, _, _, rfl, rfl, SqL.of hd, atI_nat (j := 1) rfl, rfl, _, rfl, ?_⟩
    refine ite2 (fun _ => ?_) (fun _ => ⟨rfl, a, b, r, Wd.start1 hd, ok⟩)
    refine ⟨_, rfl, d, _, rfl, .inl (SqL.of hd), _, _, rfl, rfl, _, rfl, ?_⟩
    refine ite2 (fun h2 => ?_) (fun _ => ⟨rfl, a, b, r, Wd.start1 hd, ok⟩)
    cases r with
    | nil => simp at h2
    | cons x r =>
      refine ⟨_, rfl, .inl ⟨rfl, _, SqL.of hd⟩, d, _, 2, 2, V.int x, rfl, rfl, hd, by decide, by decide, ?_, rfl, ?_⟩
      · simp [seqIndex?]; omega
      refine ⟨_, rfl, d, _, 1, 1, rfl, rfl, upd_same, ?_, ?_⟩
      · simp [ixN, seqIndex?]; omega
      rw [upd_upd]
      exact ⟨rfl, a, x, r, put0 (Wd.start1 hd) a x r, ⟨ok.a0, ok.r0 x List.mem_cons_self, fun y hy => ok.r0 y (List.mem_cons_of_mem _ hy)⟩⟩
  · rintro σ H1 ⟨rfl, a, b, r, w1, ok⟩
    have hd := w1.get 0 rfl
    -- if _law_d[1] > 0: ..
    refine ⟨_, rfl, _, _, _, _, rfl, rfl, SqL.of hd, atI_nat (j := 1) rfl, _, _, rfl, rfl, _, rfl, ?_⟩
    refine ite2 (fun hb => ?_) (fun hb => ?_)
    · have hb' : 0 < b := of_decide_eq_true hb
      refine ⟨_, rfl, _, _, _, _, rfl, rfl, SqL.of hd, atI_nat (j := 1) rfl, _, rfl, _, _, rfl, rfl, (by omega), ?_⟩
      refine ⟨_, rfl, _, _, _, _, rfl, rfl, SqL.of hd, atI_nat (j := 1) rfl, _, rfl, _, _, rfl, rfl, ⟨by omega, by omega⟩, ?_⟩
      refine ⟨_, rfl, d, _, 1, 1, rfl, rfl, hd, ?_, ?_⟩
      · simp [ixN, seqIndex?]; omega
      refine ⟨_, rfl, ?_⟩
      refine k _ _ _ _ _ (put0 w1 a (b.fdiv n) r) ⟨ok.a0, Int.fdiv_nonneg ok.b0 (by omega), ok.r0⟩ (Int.fmod_nonneg_of_pos _ n0) (Int.fmod_lt_of_pos _ n0)
    · refine ⟨_, rfl, _, _, _, _, rfl, rfl, SqL.of hd, atI_nat (j := 0) rfl, _, _, rfl, rfl, .inr ⟨by decide, by decide⟩, _, _, rfl, rfl, _, _, rfl, rfl, (by show (0 : Int) < 2147483647; decide), ?_⟩
      refine ⟨_, rfl, d, _, 0, 0, rfl, rfl, hd, ?_, ?_⟩
      · simp [ixN, seqIndex?]; omega
      have w2 := put0 w1 ((a * 48271 + 11) % 2147483647) b r
      have h0 : (0 : Int) ≤ (a * 48271 + 11) % 2147483647 := Int.emod_nonneg _ (by decide)
      refine ⟨_, rfl, _, _, _, _, rfl, rfl, SqL.of (w2.get 0 rfl), atI_nat (j := 0) rfl, _, _, rfl, rfl, ⟨by decide, by decide⟩, _, rfl, _, _, rfl, rfl, (by omega), ?_⟩
      exact k _ _ _ _ _ w2 ⟨h0, ok.b0, ok.r0⟩ (Int.fmod_nonneg_of_pos _ n0) (Int.fmod_lt_of_pos _ n0)
end
end Br

/-! Comprehensions whose element changes nothing: the list is (xs.filter p).map f. -/
namespace Br
open PySem PySem.Spec PyProof.Rows L2
section
variable {K : PySem.W.Frag} {a : Addr} {xs : List V} {g : TG} {tt : TT} {te : TE} {vs : List Nat} {σ : L2.St} {H1 H0 : Hp} {D : Addr} {Qd : Hp → Prop} {M : List Addr} {l : List (Addr × HO)}
theorem take_more {α : Type} {l : List α} {i : Nat} {x : α} (h : l[i]? = some x) : l.take (i + 1) = l.take i ++ [x] := by
  rw [List.take_add_one, h]; rfl
/-- what one turn gives -/
def LcEl (g : TG) (tt : TT) (te : TE) (vs : List Nat) (σ : L2.St) (p : V → Bool) (f : V → V) (x : V) (H : Hp) : Prop :=
  ∀ (R : V → Hp → Prop) (S : Hp → Prop), (p x = true → R (f x) H) → (p x = false → S H) → g x (wipe σ vs) H fun σ2 H2 => wipe σ2 vs = wipe σ vs ∧ tt σ2 H2 fun b H3 => if b = true then te σ2 H3 R else S H3
theorem lc_turn {p : V → Bool} {f : V → V} (w : ∀ H', (∃ c, Wd M H0 H' ((D, .lst c) :: l)) → ∀ (i : Nat) (x : V), xs[i]? = some x → LcEl g tt te vs σ p f x H') (hz : xs.length ≤ 1000) :
    ∀ (i : Nat) (x : V) (H : Hp), xs[i]? = some x → Wd M H0 H ((D, .lst (((xs.take i).filter p).map f)) :: l) → g x (wipe σ vs) H fun σ2 H2 => wipe σ2 vs = wipe σ vs ∧ tt σ2 H2 fun b H3 =>
      if b = true then te σ2 H3 fun y H4 => ∃ acc, H4 D = some (.lst acc) ∧ acc.length < sizeLine ∧ Wd M H0 (upd H4 D (.lst (acc ++ [y]))) ((D, .lst (((xs.take (i + 1)).filter p).map f)) :: l)
      else Wd M H0 H3 ((D, .lst (((xs.take (i + 1)).filter p).map f)) :: l) := fun i x H hx wd => by
  refine w H ⟨_, wd⟩ i x hx _ _ (fun hp => ?_) (fun hp => ?_)
  · refine ⟨_, wd.get 0 rfl, ?_, ?_⟩
    · rw [List.length_map]
      have h1 := List.length_filter_le p (xs.take i)
      rw [List.length_take] at h1
      exact Nat.lt_of_le_of_lt (m := 1000) (by omega) (by decide)
    · have := wd.put 0 (.lst (((xs.take i).filter p).map f ++ [f x])) rfl (fun xs q => by cases q)
      rw [take_more hx, List.filter_append, List.map_append]
      simp only [List.filter_cons, hp, if_true, List.filter_nil, List.map_cons, List.map_nil]
      exact this
  · rw [take_more hx, List.filter_append]
    simp only [List.filter_cons, hp, Bool.false_eq_true, if_false, List.filter_nil, List.append_nil]
    exact wd
theorem lc_tupF (p : V → Bool) (f : V → V) (w : Wd M H0 H1 l) (hD : H1 D = none) (hs : ∀ H' c, Wd M H0 H' ((D, c) :: l) → SqT K H' a xs) (hz : xs.length ≤ 1000)
    (he : ∀ H', (∃ c, Wd M H0 H' ((D, .lst c) :: l)) → ∀ (i : Nat) (x : V), xs[i]? = some x → LcEl g tt te vs σ p f x H')
    (hd : ∀ H', Wd M H0 H' ((D, .lst ((xs.filter p).map f)) :: l) → Qd H') :
    ∃ W : Nat → Nat → Hp → Prop, (∃ m, W 0 m (upd H1 D (.lst []))) ∧ ∀ i m H, W i m H → ((Itt K a).stop i H ∧ Qd H) ∨ ((Itt K a).go i H ∧ ∃ Nx : Hp → Prop, (∀ H', Nx H' → ∃ m', m' < m ∧ W (i + 1) m' H') ∧ ∀ x H', (Itt K a).yld i H x H' → g x (wipe σ vs) H' fun σ2 H2 => wipe σ2 vs = wipe σ vs ∧ tt σ2 H2 fun b H3 =>
        if b = true then te σ2 H3 fun y H4 => ∃ acc, H4 D = some (.lst acc) ∧ acc.length < sizeLine ∧ Nx (upd H4 D (.lst (acc ++ [y]))) else Nx H3) :=
  lc_tup (K := K) (a := a) (xs := xs) (fun i H => Wd M H0 H ((D, .lst (((xs.take i).filter p).map f)) :: l)) (w.new (.lst []) hD) (fun i H _ wd => hs H _ wd) (lc_turn he hz) (fun H wd => hd H (by rw [List.take_length] at wd; exact wd))
theorem lc_lstF (p : V → Bool) (f : V → V) (w : Wd M H0 H1 l) (hD : H1 D = none) (hs : ∀ H' c, Wd M H0 H' ((D, c) :: l) → SqL K H' a xs) (hz : xs.length ≤ 1000)
    (he : ∀ H', (∃ c, Wd M H0 H' ((D, .lst c) :: l)) → ∀ (i : Nat) (x : V), xs[i]? = some x → LcEl g tt te vs σ p f x H')
    (hd : ∀ H', Wd M H0 H' ((D, .lst ((xs.filter p).map f)) :: l) → Qd H') :
    ∃ W : Nat → Nat → Hp → Prop, (∃ m, W 0 m (upd H1 D (.lst []))) ∧ ∀ i m H, W i m H → ((Itl K a).stop i H ∧ Qd H) ∨ ((Itl K a).go i H ∧ ∃ Nx : Hp → Prop, (∀ H', Nx H' → ∃ m', m' < m ∧ W (i + 1) m' H') ∧ ∀ x H', (Itl K a).yld i H x H' → g x (wipe σ vs) H' fun σ2 H2 => wipe σ2 vs = wipe σ vs ∧ tt σ2 H2 fun b H3 =>
        if b = true then te σ2 H3 fun y H4 => ∃ acc, H4 D = some (.lst acc) ∧ acc.length < sizeLine ∧ Nx (upd H4 D (.lst (acc ++ [y]))) else Nx H3) :=
  lc_list (K := K) (a := a) (xs := xs) (fun i H => Wd M H0 H ((D, .lst (((xs.take i).filter p).map f)) :: l)) (w.new (.lst []) hD) (fun i H _ wd => hs H _ wd) (lc_turn he hz) (fun H wd => hd H (by rw [List.take_length] at wd; exact wd))
theorem filter_yes {α : Type} (l : List α) : l.filter (fun _ => true) = l := List.filter_eq_self.mpr fun _ _ => rfl
end
end Br

namespace Br
open PySem PySem.Spec PyProof.Rows L2
/-! ### the lexer -/
/-- a class's __init__ and its contract; a method's -/
structure MkAt (P : Program) (w : World) (K : PySem.W.Frag) (mg : Str → Option Value) (base : Heap) (k : Nat) (x : Str) (C : Addr) (ps : List Str) (sp : Sp) : Prop where
  ex : ∃ (f : Addr) (fd : FuncData), mg x = some (.ref C) ∧ Mk K C f ∧ Binds K fd ps [] ∧ FnOk P w K mg base CX0 k f fd ps sp
structure MeAt (P : Program) (w : World) (K : PySem.W.Frag) (mg : Str → Option Value) (base : Heap) (k : Nat) (C : Addr) (m : Str) (ps : List Str) (sp : Sp) : Prop where
  ex : ∃ (f : Addr) (fd : FuncData), Meth K C m f ∧ Binds K fd ps [] ∧ FnOk P w K mg base CX0 k f fd ps sp
structure InitAt (K : PySem.W.Frag) (mg : Str → Option Value) (x q : Str) (C : Addr) (st : Stmt) (ps : List Str) : Prop where
  ex : ∃ (f : Addr) (fd : FuncData), mg x = some (.ref C) ∧ Mk K C f ∧ Fun K "__init__" q st f fd ∧ Binds K fd ps []
structure MethAt (K : PySem.W.Frag) (C : Addr) (m q : Str) (st : Stmt) (ps : List Str) : Prop where
  ex : ∃ (f : Addr) (fd : FuncData), Meth K C m f ∧ Fun K m q st f fd ∧ Binds K fd ps []
theorem InitAt.mk' {P : Program} {w : World} {K : PySem.W.Frag} {mg : Str → Option Value} {base : Heap} {k : Nat} {x q : Str} {C : Addr} {st : Stmt} {ps : List Str} {sp : Sp} (D : InitAt K mg x q C st ps)
    (h : ∀ f fd, Fun K "__init__" q st f fd → FnOk P w K mg base CX0 k f fd ps sp) : MkAt P w K mg base k x C ps sp := by
  obtain ⟨f, fd, m, M, F, b⟩ := D.ex
  exact ⟨f, fd, m, M, b, h f fd F⟩
theorem MethAt.me {P : Program} {w : World} {K : PySem.W.Frag} {mg : Str → Option Value} {base : Heap} {k : Nat} {m q : Str} {C : Addr} {st : Stmt} {ps : List Str} {sp : Sp} (D : MethAt K C m q st ps)
    (h : ∀ f fd, Fun K m q st f fd → FnOk P w K mg base CX0 k f fd ps sp) : MeAt P w K mg base k C m ps sp := by
  obtain ⟨f, fd, M, F, b⟩ := D.ex
  exact ⟨f, fd, M, b, h f fd F⟩
/-- a new instance -/
theorem Wd.make {M : List Addr} {H0 H : Hp} {l : List (Addr × HO)} (w : Wd M H0 H l) {x dx : Addr} (C : Addr) (hx : H x = none) (hd : H dx = none) (ne : dx ≠ x) :
    Wd M H0 (upd (upd H dx (.own x)) x (.ins C dx [])) ((x, .ins C dx []) :: (dx, .own x) :: l) :=
  (w.new (.own x) hd).new (.ins C dx []) (by rw [upd_ne ne.symm]; exact hx)
def slotI (σ : L2.St) (i : Nat) : Int := match σ[i]? with
  | some (some (V.int e)) => e
  | _ => 0
structure TokCls (K : PySem.W.Frag) (CT : Addr) : Prop where
  cl : Cls K CT
  nk : NoAttr K CT "kind"
  nt : NoAttr K CT "text"
  nl : NoAttr K CT "line"
  nc : NoAttr K CT "column"
def tkF (k t : Str) (l c : Int) : List (Str × V) := [("kind", .str k), ("text", .str t), ("line", .int l), ("column", .int c)]
theorem putF_ne {f g : Str} {v x : V} {r : List (Str × V)} (h : ¬ g = f) : putF f v ((g, x) :: r) = (g, x) :: putF f v r := if_neg h
theorem tkF_new (k t : Str) (l c : Int) : putF "column" (.int c) (putF "line" (.int l) (putF "text" (.str t) (putF "kind" (.str k) []))) = tkF k t l c := by
  have e1 : putF "text" (.str t) (putF "kind" (.str k) []) = [(("kind" : Str), V.str k), ("text", V.str t)] := putF_ne (by decide +kernel)
  have e2 : putF "line" (.int l) [(("kind" : Str), V.str k), ("text", V.str t)] = [(("kind" : Str), V.str k), ("text", V.str t), ("line", V.int l)] := by
    rw [putF_ne (by decide +kernel), putF_ne (by decide +kernel)]; rfl
  rw [e1, e2, putF_ne (by decide +kernel), putF_ne (by decide +kernel), putF_ne (by decide +kernel)]
  rfl
theorem look_ne {f g : Str} {x : V} {r : List (Str × V)} (h : (f == g) = false) : List.lookup f ((g, x) :: r) = List.lookup f r := by
  simp only [List.lookup, h]
theorem look_eq {f : Str} {x : V} {r : List (Str × V)} : List.lookup f ((f, x) :: r) = some x := by
  simp only [List.lookup, beq_self_eq_true]
theorem tk_kind (k t : Str) (l c : Int) : (tkF k t l c).lookup ("kind" : Str) = some (.str k) := look_eq
theorem tk_text (k t : Str) (l c : Int) : (tkF k t l c).lookup ("text" : Str) = some (.str t) := (look_ne (by decide +kernel)).trans look_eq
theorem tk_line (k t : Str) (l c : Int) : (tkF k t l c).lookup ("line" : Str) = some (.int l) := (look_ne (by decide +kernel)).trans ((look_ne (by decide +kernel)).trans look_eq)
theorem tk_column (k t : Str) (l c : Int) : (tkF k t l c).lookup ("column" : Str) = some (.int c) := (look_ne (by decide +kernel)).trans ((look_ne (by decide +kernel)).trans ((look_ne (by decide +kernel)).trans look_eq))
/-- what stands at the head of a row's rest, as the lexer reads it: the kind, the text -/
def dig (c : Nat) : Bool := decide (c ∈ TL.tl "0123456789")
def ltr (c : Nat) : Bool := decide (c ∈ TL.tl "abcdefghijklmnopqrstuvwxyz")
def kws : List Str := ["people", "turns", "weights", "away", "of", "makeup"]
def tokAt : List Nat → Option (Str × Str)
  | [] => none
  | c :: r => if c = 59 then some ("sign", ";")
    else if dig c = true then (let w := (c :: r).takeWhile dig; if w.length > 2 ∨ (w.length > 1 ∧ c = 48) then none else some ("number", ⟨w.toArray⟩))
    else (let w := (c :: r).takeWhile ltr; if (⟨w.toArray⟩ : Str) ∈ kws then some ("keyword", ⟨w.toArray⟩) else if 1 ≤ w.length ∧ w.length ≤ 8 then some ("name", ⟨w.toArray⟩) else none)
theorem at_iN {α : Type} {xs : List α} {z : Int} {j : Nat} {v : α} (e : z = (j : Int)) (h : xs[j]? = some v) : atI xs z = some v := by
  rw [e]; exact atI_nat h
theorem run_le (p : Nat → Bool) (l : List Nat) : (l.takeWhile p).length ≤ l.length := (List.takeWhile_sublist p).length_le
theorem take_run (p : Nat → Bool) : ∀ l : List Nat, l.take (l.takeWhile p).length = l.takeWhile p
  | [] => rfl
  | c :: r => by
    rw [List.takeWhile_cons]
    split
    · rw [List.length_cons, List.take_succ_cons, take_run p r]
    · rfl
theorem cut_run (z : Str) (i : Nat) (p : Nat → Bool) (h : i ≤ z.length) : cutS z (some (i : Int)) (some ((i : Int) + (((TL.tl z).drop i).takeWhile p).length)) = ⟨(((TL.tl z).drop i).takeWhile p).toArray⟩ := by
  have hl : ((TL.tl z).drop i).length = z.length - i := by rw [List.length_drop, ← TL.len_tl]
  have hw := run_le p ((TL.tl z).drop i)
  unfold cutS
  have e : (i : Int) + (((TL.tl z).drop i).takeWhile p).length = ((i + (((TL.tl z).drop i).takeWhile p).length : Nat) : Int) := by omega
  rw [e, HT.sIx_nat, HT.sIx_nat, Nat.min_eq_left h, Nat.min_eq_left (by omega), Nat.add_sub_cancel_left]
  show (⟨(List.take _ ((TL.tl z).drop i)).toArray⟩ : Str) = _
  rw [take_run]
section
variable {P : Program} {w : World} {K : PySem.W.Frag} {mg : Str → Option Value} {base : Heap} {CT : Addr}
def spTokI (CT : Addr) : Sp := fun vs H Q _ => ∃ (x dx : Addr) (k t : Str) (l c : Int), vs = [.ref x, .str k, .str t, .int l, .int c] ∧ H x = some (.ins CT dx []) ∧
  ∀ H' : Hp, Wd [x] H H' [(x, .ins CT dx (tkF k t l c))] → Q .non H'
abbrev sToken___init__ : Stmt := inClass (topS 29) 0
theorem scToken___init__ : FnScope ["self", "kind", "text", "line", "column"] ["self", "kind", "text", "line", "column"] (defScope sToken___init__) := ⟨rfl, rfl, rfl, by decide +kernel, rfl, by decide +kernel, by decide +kernel⟩
theorem mk_token (D : InitAt K mg "Token" "Token.__init__" CT sToken___init__ ["self", "kind", "text", "line", "column"]) (TC : TokCls K CT) : MkAt P w K mg base 1 "Token" CT ["self", "kind", "text", "line", "column"] (spTokI CT) := D.mk' fun f fd F => by
  have nd := scToken___init__.nd
  refine F.ok scToken___init__ (fun vs H Q E h => ?_) (fun cdv A outer s H vs Q E hr h => ?_)
  · obtain ⟨x, dx, k, t, l, c, rfl, _⟩ := h; rfl
  obtain ⟨x, dx, k, t, l, c, rfl, hx, q⟩ := h
  refine ⟨_, (pss_cons (ps_fld (pv 0) (pv 1) rfl)
 (pss_cons (ps_fld (pv 0) (pv 2) rfl)
 (pss_cons (ps_fld (pv 0) (pv 3) rfl)
 (pss_one (ps_fld (pv 0) (pv 4) rfl))))), ?_⟩
  have w0 := Wd.start1 hx
  refine ⟨_, rfl, _, rfl, x, CT, dx, [], rfl, hx, TC.cl, TC.nk, (by show 0 < 1000; decide), ?_⟩
  refine ⟨_, rfl, _, rfl, x, CT, dx, _, rfl, upd_same, TC.cl, TC.nt, (by show 1 < 1000; decide), ?_⟩
  have e1 : putF "text" (.str t) (putF "kind" (.str k) []) = [(("kind" : Str), V.str k), ("text", V.str t)] := putF_ne (by decide +kernel)
  refine ⟨_, rfl, _, rfl, x, CT, dx, _, rfl, upd_same, TC.cl, TC.nl, (by rw [e1]; show 2 < 1000; decide), ?_⟩
  have e2 : putF "line" (.int l) (putF "text" (.str t) (putF "kind" (.str k) [])) = [(("kind" : Str), V.str k), ("text", V.str t), ("line", V.int l)] := by
    rw [e1, putF_ne (by decide +kernel), putF_ne (by decide +kernel)]; rfl
  refine ⟨_, rfl, _, rfl, x, CT, dx, _, rfl, upd_same, TC.cl, TC.nc, (by rw [e2]; show 3 < 1000; decide), ?_⟩
  rw [tkF_new, upd_upd, upd_upd, upd_upd]
  exact q _ (w0.put 0 (.ins CT dx (tkF k t l c)) rfl (fun xs q => by cases q))
/-! run_end -/
def spRunEnd : Sp := fun vs H Q _ => ∃ (z ls : Str) (i : Nat), vs = [.str z, .int i, .str ls] ∧ i ≤ z.length ∧ z.length ≤ sizeLine ∧ Q (.int ((i : Int) + (((TL.tl z).drop i).takeWhile fun c => decide (c ∈ TL.tl ls)).length)) H
abbrev srun_end : Stmt := topS 30
theorem scrun_end : FnScope ["row", "start", "letters", "end"] ["row", "start", "letters"] (defScope srun_end) := ⟨rfl, rfl, rfl, by decide +kernel, rfl, by decide +kernel, by decide +kernel⟩
theorem cal_run_end (D : DefAt K mg "run_end" srun_end ["row", "start", "letters"]) (T : Bi mg) : Cal P w K mg base 1 "run_end" ["row", "start", "letters"] spRunEnd := D.cal fun f fd F => by
  have nd := scrun_end.nd
  refine F.ok scrun_end (fun vs H Q E h => ?_) (fun cdv A outer s H vs Q E hr h => ?_)
  · obtain ⟨z, ls, i, rfl, _⟩ := h; rfl
  obtain ⟨z, ls, i, rfl, hi, hz, q⟩ := h
  refine ⟨_, (pss_cons (ps_set (i := 3) nd rfl (Or.inl rfl) (pv 1))
 (pss_cons (ps_while PassesOwn.never (PW.pt (pw_and (pt_cmpR op_lt (pv 3) (pe_callB call_len_str (by rfl) T.len PySem.boot_len (pa_cons (pv 0) pa_nil)) (nomark _)) (pw_and1 (pt_cmpR op_in_sign (pe_ix ix_str (pv 0) (pv 3) (fun _ _ => rfl)) (pv 2) (by rfl)))))
 (pss_one (ps_aug (i := 3) nd rfl (Or.inl rfl) pe_int ip_add)))
 (pss_one (ps_ret (pv 3))))), ?_⟩
  have hl : ((TL.tl z).drop i).length = z.length - i := by rw [List.length_drop, ← TL.len_tl]
  generalize hp : (fun c => decide (c ∈ TL.tl ls)) = p at q
  have hw := run_le p ((TL.tl z).drop i)
  have hget : ∀ j : Nat, ((TL.tl z).drop i)[j]? = (TL.tl z)[i + j]? := fun j => List.getElem?_drop
  have hrun : ∀ (l : List Nat) (j : Nat), j ≤ (l.takeWhile p).length → ∀ c, l[j]? = some c → (p c = true ↔ j < (l.takeWhile p).length) := by
    intro l
    induction l with
    | nil => intro j _ c h; simp at h
    | cons a l ih =>
      intro j hj c hc
      rw [List.takeWhile_cons] at hj ⊢
      by_cases ha : p a = true
      · rw [if_pos ha, List.length_cons] at hj ⊢
        cases j with
        | zero => simp at hc; subst hc; simp [ha]
        | succ j =>
          have := ih j (by omega) c (by simpa using hc)
          exact this.trans ⟨fun h => by omega, fun h => by omega⟩
      · rw [if_neg ha] at hj ⊢
        have : j = 0 := by simpa using hj
        subst this
        simp at hc; subst hc
        simp [ha]
  generalize hn : (((TL.tl z).drop i).takeWhile p).length = n at q hw
  refine ⟨_, rfl, while_by (fun σ H' => H' = H ∧ ∃ j : Nat, j ≤ n ∧ σ = [some (.str z), some (.int i), some (.str ls), some (.int ((i : Int) + j))]) (fun σ _ => z.length - (slotI σ 3).toNat)
    ⟨rfl, 0, Nat.zero_le _, by simp; rfl⟩ ?_ ?_⟩
  · rintro σ H1 ⟨rfl, j, hj, rfl⟩
    refine ⟨_, rfl, _, rfl, z, rfl, hz, _, _, rfl, rfl, _, rfl, ?_⟩
    refine ite2 (fun hc => ?_) (fun hc => ?_)
    · have hlt : i + j < z.length := by have := of_decide_eq_true hc; omega
      have hlt' : i + j < (TL.tl z).length := by rw [← TL.len_tl]; exact hlt
      refine ⟨_, rfl, _, rfl, z, _, (TL.tl z)[i + j], rfl, rfl, hz, at_iN (j := i + j) (by omega) (List.getElem?_eq_getElem hlt'), _, rfl, _, ls, rfl, rfl, _, rfl, ?_⟩
      have hr := hrun ((TL.tl z).drop i) j (by rw [hn]; exact hj) (TL.tl z)[i + j] (by rw [hget]; exact List.getElem?_eq_getElem hlt')
      rw [hn] at hr
      refine ite2 (fun hc2 => ?_) (fun hc2 => ?_)
      · have hjn : j < n := hr.mp (by rw [← hp]; exact hc2)
        refine ⟨_, rfl, _, _, rfl, rfl, ⟨rfl, j + 1, hjn, ?_⟩, ?_⟩
        · show [_, _, _, some (V.int ((i : Int) + j + 1))] = _
          rw [show (i : Int) + j + 1 = (i : Int) + (j + 1 : Nat) by omega]
        · show z.length - ((i : Int) + j + 1).toNat < z.length - ((i : Int) + j).toNat
          omega
      · have hjn : j = n := by
          have : ¬ j < n := fun h => hc2 (by rw [← hp] at hr; exact hr.mpr h)
          omega
        subst hjn
        exact ⟨_, rfl, q⟩
    · have hjn : j = n := by
        have : ¬ (i : Int) + j < z.length := fun h => hc (decide_eq_true h)
        omega
      subst hjn
      exact ⟨_, rfl, q⟩
  · intro σ H Q Q' h hc
    obtain ⟨v3, e3, v0, e0, z, ez, hz, i, j, ei, ej, c, ec, hc⟩ := hc
    refine ⟨v3, e3, v0, e0, z, ez, hz, i, j, ei, ej, c, ec, ?_⟩
    cases c with
    | false => exact h _ _ hc
    | true =>
      obtain ⟨a1, a2, a3, a4, a5, a6, a7, a8, a9, b1, b2, b3, b4, b5, b6, b7, b8, b9, c1, c2⟩ := hc
      exact ⟨a1, a2, a3, a4, a5, a6, a7, a8, a9, b1, b2, b3, b4, b5, b6, b7, b8, b9, c1, h _ _ c2⟩
end
end Br

namespace Br
open PySem PySem.Spec PyProof.Rows L2
/-- the lexer's constants -/
structure LexC (K : PySem.W.Frag) (mg : Str → Option Value) : Prop where
  END_SIGN : ∃ t, mg "END_SIGN" = some (.str ";" t)
  SIGN : ∃ t, mg "SIGN" = some (.str "sign" t)
  DIGITS : ∃ t, mg "DIGITS" = some (.str "0123456789" t)
  MAX_DIGITS : ∃ t, mg "MAX_DIGITS" = some (.int 2 t)
  NUMBER : ∃ t, mg "NUMBER" = some (.str "number" t)
  LETTERS : ∃ t, mg "LETTERS" = some (.str "abcdefghijklmnopqrstuvwxyz" t)
  KEYWORDS : ∃ kw, mg "KEYWORDS" = some (.ref kw) ∧ ∀ H : Hp, SqT K H kw (kws.map V.str)
  KEYWORD : ∃ t, mg "KEYWORD" = some (.str "keyword" t)
  MAX_LETTERS : ∃ t, mg "MAX_LETTERS" = some (.int 8 t)
  NAME : ∃ t, mg "NAME" = some (.str "name" t)
  END : ∃ t, mg "END" = some (.str "end" t)
  SPACES : ∃ t, mg "SPACES" = some (.str " \n" t)
theorem inV_strs (x : Str) : ∀ l : List Str, inV (.str x) (l.map V.str) = decide (x ∈ l)
  | [] => by simp [inV]
  | y :: l => by
    have ih := inV_strs x l
    unfold inV at ih ⊢
    rw [List.map_cons, List.any_cons, ih, Bool.eq_iff_iff, Bool.or_eq_true, decide_eq_true_eq, decide_eq_true_eq, List.mem_cons]
    exact or_congr ⟨fun h => (eq_of_beq (show (y == x) = true from h)).symm, fun h => (show (y == x) = true from beq_iff_eq.mpr h.symm)⟩ Iff.rfl
theorem flat_strs' (l : List Str) : (l.map V.str).all flatV = true := by
  rw [List.all_eq_true]
  intro v hv
  obtain ⟨s, _, rfl⟩ := List.mem_map.mp hv
  rfl
section
variable {P : Program} {w : World} {K : PySem.W.Frag} {mg : Str → Option Value} {base : Heap} {CT : Addr}
def spReadTok (CT : Addr) : Sp := fun vs H Q _ => ∃ (z k t : Str) (line : Int) (col : Nat), vs = [.str z, .int line, .int col] ∧ z.length ≤ sizeLine ∧ tokAt ((TL.tl z).drop col) = some (k, t) ∧
  ∀ (x dx : Addr) (H' : Hp), Wd [] H H' [(x, .ins CT dx (tkF k t line col)), (dx, .own x)] → Q (.ref x) H'
theorem tok_fin {H H' : Hp} {x dx : Addr} {fs : List (Str × V)} (hx : H x = none) (hd : H dx = none) (ne : dx ≠ x) (c : Wd [x] (upd (upd H dx (.own x)) x (.ins CT dx [])) H' [(x, .ins CT dx fs)]) : Wd [] H H' [(x, .ins CT dx fs), (dx, .own x)] :=
  ((Wd.refl H).make CT hx hd ne).call1 (fun xs q => by cases q) c
abbrev sread_token : Stmt := topS 31
theorem scread_token : FnScope ["row", "line", "column", "first", "word"] ["row", "line", "column"] (defScope sread_token) := ⟨rfl, rfl, rfl, by decide +kernel, rfl, by decide +kernel, by decide +kernel⟩
theorem cal_read_token (D : DefAt K mg "read_token" sread_token ["row", "line", "column"]) (T : Bi mg) (C : LexC K mg) (C1 : Cal P w K mg base 1 "run_end" ["row", "start", "letters"] spRunEnd) (CM : MkAt P w K mg base 1 "Token" CT ["self", "kind", "text", "line", "column"] (spTokI CT)) :
    Cal P w K mg base 3 "read_token" ["row", "line", "column"] (spReadTok CT) := D.cal fun f fd F => by
  have nd := scread_token.nd
  obtain ⟨t1, c_END_SIGN⟩ := C.END_SIGN
  obtain ⟨t2, c_SIGN⟩ := C.SIGN
  obtain ⟨t3, c_DIGITS⟩ := C.DIGITS
  obtain ⟨t4, c_MAX_DIGITS⟩ := C.MAX_DIGITS
  obtain ⟨t5, c_NUMBER⟩ := C.NUMBER
  obtain ⟨t6, c_LETTERS⟩ := C.LETTERS
  obtain ⟨a_KEYWORDS, c_KEYWORDS, hkw⟩ := C.KEYWORDS
  obtain ⟨t7, c_KEYWORD⟩ := C.KEYWORD
  obtain ⟨t8, c_MAX_LETTERS⟩ := C.MAX_LETTERS
  obtain ⟨t9, c_NAME⟩ := C.NAME
  obtain ⟨f1, fd1, m_run_end, kp_run_end, b_run_end, G_run_end⟩ := C1.ex
  obtain ⟨f2, fd2, mC_Token, Mk_Token, b_Token, G_Token⟩ := CM.ex
  refine F.ok scread_token (fun vs H Q E h => ?_) (fun cdv A outer s H vs Q E hr h => ?_)
  · obtain ⟨z, k, t, line, col, rfl, _⟩ := h; rfl
  obtain ⟨z, k, t, line, col, rfl, hz, htok, q⟩ := h
  refine ⟨_, (pss_cons (ps_set (i := 3) nd rfl (Or.inl rfl) (pe_ix ix_str (pv 0) (pv 2) (fun _ _ => rfl)))
 (pss_cons (ps_if (pt_cmpR op_eq (pv 3) (pe_glob (v := .str ";") (by rfl) c_END_SIGN ⟨_, rfl⟩) (nomark _))
 (pss_one (ps_ret (pe_make Mk_Token G_Token (hr.mono (by first | decide | omega)) (by rfl) mC_Token b_Token .nil pass0 (pa_cons (pe_glob (v := .str "sign") (by rfl) c_SIGN ⟨_, rfl⟩) (pa_cons (pv 3) (pa_cons (pv 1) (pa_cons (pv 2) pa_nil)))))))
 pss_nil)
 (pss_cons (ps_if (pt_cmpR op_in_sign (pv 3) (pe_glob (v := .str "0123456789") (by rfl) c_DIGITS ⟨_, rfl⟩) (by rfl))
 (pss_cons (ps_set (i := 4) nd rfl (Or.inl rfl) (pe_slice sl_str (pv 0) (po_some (pv 2)) (po_some (pe_call G_run_end (hr.mono (by first | decide | omega)) (by rfl) m_run_end kp_run_end b_run_end .nil pass0 (pa_cons (pv 0) (pa_cons (pv 2) (pa_cons (pe_glob (v := .str "0123456789") (by rfl) c_DIGITS ⟨_, rfl⟩) pa_nil)))))))
 (pss_cons (ps_if (PW.pt (pw_or (pt_cmpR op_gt (pe_callB call_len_str (by rfl) T.len PySem.boot_len (pa_cons (pv 4) pa_nil)) (pe_glob (v := .int 2) (by rfl) c_MAX_DIGITS ⟨_, rfl⟩) (nomark _)) (pw_or1 (PW.pt (pw_and (pt_cmpR op_gt (pe_callB call_len_str (by rfl) T.len PySem.boot_len (pa_cons (pv 4) pa_nil)) pe_int (nomark _)) (pw_and1 (pt_cmpR op_eq (pv 3) pe_str (nomark _))))))))
 pss_never
 pss_nil)
 (pss_one (ps_ret (pe_make Mk_Token G_Token (hr.mono (by first | decide | omega)) (by rfl) mC_Token b_Token .nil pass0 (pa_cons (pe_glob (v := .str "number") (by rfl) c_NUMBER ⟨_, rfl⟩) (pa_cons (pv 4) (pa_cons (pv 1) (pa_cons (pv 2) pa_nil)))))))))
 pss_nil)
 (pss_cons (ps_set (i := 4) nd rfl (Or.inl rfl) (pe_slice sl_str (pv 0) (po_some (pv 2)) (po_some (pe_call G_run_end (hr.mono (by first | decide | omega)) (by rfl) m_run_end kp_run_end b_run_end .nil pass0 (pa_cons (pv 0) (pa_cons (pv 2) (pa_cons (pe_glob (v := .str "abcdefghijklmnopqrstuvwxyz") (by rfl) c_LETTERS ⟨_, rfl⟩) pa_nil)))))))
 (pss_cons (ps_if (pt_cmpR (r := rIn K false) op_in_seq (pv 4) (pe_glob (v := .ref a_KEYWORDS) (by rfl) c_KEYWORDS rfl) (by rfl))
 (pss_one (ps_ret (pe_make Mk_Token G_Token (hr.mono (by first | decide | omega)) (by rfl) mC_Token b_Token .nil pass0 (pa_cons (pe_glob (v := .str "keyword") (by rfl) c_KEYWORD ⟨_, rfl⟩) (pa_cons (pv 4) (pa_cons (pv 1) (pa_cons (pv 2) pa_nil)))))))
 pss_nil)
 (pss_cons (ps_if (pt_not (pt_chain op_le op_le pe_int (pe_callB call_len_str (by rfl) T.len PySem.boot_len (pa_cons (pv 4) pa_nil)) (pe_glob (v := .int 8) (by rfl) c_MAX_LETTERS ⟨_, rfl⟩)))
 pss_never
 pss_nil)
 (pss_one (ps_ret (pe_make Mk_Token G_Token (hr.mono (by first | decide | omega)) (by rfl) mC_Token b_Token .nil pass0 (pa_cons (pe_glob (v := .str "name") (by rfl) c_NAME ⟨_, rfl⟩) (pa_cons (pv 4) (pa_cons (pv 1) (pa_cons (pv 2) pa_nil))))))))))))), ?_⟩
  have hcol : col < (TL.tl z).length := by
    refine Nat.lt_of_not_le fun hle => ?_
    rw [List.drop_eq_nil_of_le hle] at htok
    cases htok
  have hcol' : col ≤ z.length := by rw [TL.len_tl]; omega
  obtain ⟨c, r, hcr⟩ : ∃ c r, (TL.tl z).drop col = c :: r := ⟨_, _, List.drop_eq_getElem_cons hcol⟩
  have hc : (TL.tl z)[col]? = some c := by
    have := congrArg (fun l => l[0]?) hcr
    simpa [List.getElem?_drop] using this
  have cutd : ∀ p : Nat → Bool, cutS z (some (col : Int)) (some ((col : Int) + (((TL.tl z).drop col).takeWhile p).length)) = ⟨((c :: r).takeWhile p).toArray⟩ := fun p => by
    rw [cut_run z col p hcol', hcr]
  have wl : ∀ p : Nat → Bool, (⟨((c :: r).takeWhile p).toArray⟩ : Str).length = ((c :: r).takeWhile p).length := fun p => by simp [Str.length]
  have hlen : (c :: r).length ≤ sizeLine := by
    have h2 := congrArg List.length hcr
    rw [List.length_drop, ← TL.len_tl] at h2
    exact Nat.le_trans (by omega) hz
  have wz : ∀ p : Nat → Bool, ((c :: r).takeWhile p).length ≤ sizeLine := fun p => Nat.le_trans (run_le p (c :: r)) hlen
  rw [hcr] at htok
  refine ⟨_, rfl, _, rfl, z, _, c, rfl, rfl, hz, atI_nat hc, ?_⟩
  have fs : decide (V.str ⟨#[c]⟩ = V.str ";") = decide (c = 59) := by
    rw [decide_eq_decide]
    constructor
    · intro h
      have := congrArg (fun v => match v with | V.str s => TL.tl s | _ => []) h
      have e : TL.tl (";" : Str) = [59] := by decide +kernel
      simp only [e] at this
      simpa [TL.tl] using this
    · rintro rfl; rfl
  refine ⟨_, rfl, rfl, _, rfl, ?_⟩
  rw [fs]
  simp only [tokAt] at htok
  by_cases h1 : c = 59
  · rw [if_pos h1] at htok
    cases htok
    subst h1
    refine ite2 (fun _ => ?_) (fun h => absurd (decide_eq_true rfl) h)
    refine ⟨_, rfl, _, rfl, _, rfl, fun x dx hx hd ne => ?_⟩
    exact ⟨x, dx, _, _, _, _, rfl, upd_same, fun H' c => ⟨rfl, q x dx H' (tok_fin hx hd ne c)⟩⟩
  rw [if_neg h1] at htok
  refine ite2 (fun h => absurd (of_decide_eq_true h) h1) (fun _ => ?_)
  refine ⟨_, rfl, c, "0123456789", rfl, rfl, _, rfl, ?_⟩
  have fd : decide (c ∈ ("0123456789" : Str).cps.toList) = dig c := rfl
  rw [fd]
  by_cases h2 : dig c = true
  · rw [if_pos h2] at htok
    refine ite2 (fun _ => ?_) (fun h => absurd h2 h)
    refine ⟨_, rfl, _, rfl, _, rfl, _, rfl, _, rfl, z, "0123456789", col, rfl, hcol', hz, _, rfl, z, rfl, hz, ?_⟩
    have e1 : cutS z (some (col : Int)) (some ((col : Int) + ((List.drop col (TL.tl z)).takeWhile fun c => decide (c ∈ TL.tl "0123456789")).length)) = ⟨((c :: r).takeWhile dig).toArray⟩ := cutd dig
    rw [e1]
    have h3 := wl dig
    have h4 := wz dig
    generalize hw : (c :: r).takeWhile dig = wd at *
    by_cases h5 : wd.length > 2 ∨ (wd.length > 1 ∧ c = 48)
    · rw [if_pos h5] at htok; cases htok
    rw [if_neg h5] at htok
    cases htok
    have f0 : decide (V.str ⟨#[c]⟩ = V.str "0") = decide (c = 48) := by
      rw [decide_eq_decide]
      constructor
      · intro h
        have := congrArg (fun v => match v with | V.str s => TL.tl s | _ => []) h
        have e : TL.tl ("0" : Str) = [48] := by decide +kernel
        simp only [e] at this
        simpa [TL.tl] using this
      · rintro rfl; rfl
    refine ⟨_, rfl, _, rfl, by rw [h3]; exact h4, _, _, rfl, rfl, _, rfl, ?_⟩
    refine ite2 (fun h => absurd (of_decide_eq_true h) (by rw [h3]; omega)) (fun _ => ?_)
    have fin : ∀ x dx, H x = none → H dx = none → dx ≠ x → spTokI CT (.ref x :: ([V.str "number", V.str ⟨wd.toArray⟩, V.int line, V.int col] ++ [])) (upd (upd H dx (.own x)) x (.ins CT dx [])) (fun v H2 => v = .non ∧ Q (.ref x) H2) E0 := fun x dx hx hd ne =>
      ⟨x, dx, _, _, _, _, rfl, upd_same, fun H' c => ⟨rfl, q x dx H' (tok_fin hx hd ne c)⟩⟩
    refine ⟨_, rfl, _, rfl, by rw [h3]; exact h4, _, _, rfl, rfl, _, rfl, ?_⟩
    refine ite2 (fun h6 => ?_) (fun _ => ⟨_, rfl, _, rfl, _, rfl, fin⟩)
    refine ⟨_, rfl, rfl, _, rfl, ?_⟩
    rw [f0]
    have h7 := of_decide_eq_true h6
    refine ite2 (fun h8 => absurd (of_decide_eq_true h8) (by rw [h3] at h7; omega)) (fun _ => ⟨_, rfl, _, rfl, _, rfl, fin⟩)
  rw [if_neg h2] at htok
  refine ite2 (fun h => absurd h h2) (fun _ => ?_)
  refine ⟨_, rfl, _, rfl, _, rfl, _, rfl, _, rfl, z, "abcdefghijklmnopqrstuvwxyz", col, rfl, hcol', hz, _, rfl, z, rfl, hz, ?_⟩
  have e1 : cutS z (some (col : Int)) (some ((col : Int) + ((List.drop col (TL.tl z)).takeWhile fun c => decide (c ∈ TL.tl "abcdefghijklmnopqrstuvwxyz")).length)) = ⟨((c :: r).takeWhile ltr).toArray⟩ := cutd ltr
  rw [e1]
  have h3 := wl ltr
  have h4 := wz ltr
  generalize hw : (c :: r).takeWhile ltr = wd at *
  have fin : ∀ x dx, H x = none → H dx = none → dx ≠ x → spTokI CT (.ref x :: ([V.str k, V.str ⟨wd.toArray⟩, V.int line, V.int col] ++ [])) (upd (upd H dx (.own x)) x (.ins CT dx [])) (fun v H2 => v = .non ∧ Q (.ref x) H2) E0 := fun x dx hx hd ne =>
    ⟨x, dx, _, _, _, _, rfl, upd_same, fun H' c => ⟨rfl, q x dx H' (by
      have ht : t = ⟨wd.toArray⟩ := by
        split at htok
        · cases htok; rfl
        · split at htok
          · cases htok; rfl
          · cases htok
      rw [ht]
      exact tok_fin hx hd ne c)⟩⟩
  refine ⟨_, rfl, a_KEYWORDS, kws.map V.str, rfl, .inr (hkw _), rfl, flat_strs' _, _, rfl, ?_⟩
  rw [if_neg Bool.false_ne_true, inV_strs]
  by_cases h5 : (⟨wd.toArray⟩ : Str) ∈ kws
  · rw [if_pos h5] at htok
    cases htok
    refine ite2 (fun _ => ?_) (fun h => absurd (decide_eq_true h5) h)
    exact ⟨_, rfl, _, rfl, _, rfl, fin⟩
  rw [if_neg h5] at htok
  refine ite2 (fun h => absurd (of_decide_eq_true h) h5) (fun _ => ?_)
  by_cases h6 : 1 ≤ wd.length ∧ wd.length ≤ 8
  · rw [if_pos h6] at htok
    cases htok
    refine ⟨_, rfl, _, rfl, by rw [h3]; exact h4, _, _, rfl, rfl, _, rfl, ?_⟩
    refine ite2 (fun _ => ?_) (fun h => absurd (decide_eq_true (by rw [h3]; omega)) h)
    refine ⟨_, _, rfl, rfl, _, rfl, ?_⟩
    refine ite2 (fun h => ?_) (fun _ => ?_)
    · rw [show decide ((((⟨wd.toArray⟩ : Str).length : Nat) : Int) ≤ 8) = true from decide_eq_true (by rw [h3]; omega)] at h
      cases h
    · exact ⟨_, rfl, _, rfl, _, rfl, fin⟩
  · rw [if_neg h6] at htok
    cases htok
end
end Br

namespace Br
open PySem PySem.Spec PyProof.Rows L2
/-! ### the whole lexer -/
/-- the tokens of a row -/
inductive LexR : List Nat → List (Str × Str) → Prop
  | nil : LexR [] []
  | space {c r ts} : c = 32 ∨ c = 10 → LexR r ts → LexR (c :: r) ts
  | tok {c r k t ts} : ¬ (c = 32 ∨ c = 10) → tokAt (c :: r) = some (k, t) → LexR ((c :: r).drop t.length) ts → LexR (c :: r) ((k, t) :: ts)
theorem tokAt_pos {l : List Nat} {k t : Str} (h : tokAt l = some (k, t)) : 1 ≤ t.length := by
  cases l with
  | nil => cases h
  | cons c r =>
    simp only [tokAt] at h
    split at h
    · cases h; decide
    · split at h
      · rename_i hd
        split at h
        · cases h
        · cases h
          show 1 ≤ ((c :: r).takeWhile dig).toArray.size
          rw [List.takeWhile_cons, if_pos hd]; simp
      · split at h
        · rename_i hk
          cases h
          have : ∀ s ∈ kws, 1 ≤ s.length := by decide
          exact this _ hk
        · split at h
          · rename_i hk
            cases h
            exact hk.1
          · cases h
theorem tokAt_len {l : List Nat} {k t : Str} {n : Nat} (h : tokAt l = some (k, t)) (hn : l.length ≤ n) : t.length ≤ n := by
  cases l with
  | nil => cases h
  | cons c r =>
    have hp : ∀ p : Nat → Bool, ((c :: r).takeWhile p).length ≤ n := fun p => Nat.le_trans (run_le p _) hn
    simp only [tokAt] at h
    split at h
    · cases h
      exact Nat.le_trans (show 1 ≤ (c :: r).length by simp) hn
    · split at h
      · split at h
        · cases h
        · cases h; exact hp dig
      · split at h
        · cases h; exact hp ltr
        · split at h
          · cases h; exact hp ltr
          · cases h
def Tks (CT : Addr) (H : Hp) (L : List (Addr × (Str × Str))) : Prop := ∀ q ∈ L, ∃ dx l c, H q.1 = some (.ins CT dx (tkF q.2.1 q.2.2 l c))
def trefs (L : List (Addr × (Str × Str))) : List V := L.map fun q => V.ref q.1
theorem trefs_len (L : List (Addr × (Str × Str))) : (trefs L).length = L.length := List.length_map ..
theorem Tks.nil {CT : Addr} {H : Hp} : Tks CT H [] := fun q h => nomatch h
theorem Tks.new {CT : Addr} {H : Hp} {L : List (Addr × (Str × Str))} (h : Tks CT H L) {p : Addr} {o : HO} (hp : H p = none) : Tks CT (upd H p o) L := fun q hq => by
  obtain ⟨dx, l, c, e⟩ := h q hq
  exact ⟨dx, l, c, by rw [upd_ne (ne_of_none e hp)]; exact e⟩
theorem Tks.put {CT : Addr} {H : Hp} {L : List (Addr × (Str × Str))} (h : Tks CT H L) {p : Addr} {o u : HO} (hp : H p = some u) (hu : ∀ dx fs, u ≠ .ins CT dx fs) : Tks CT (upd H p o) L := fun q hq => by
  obtain ⟨dx, l, c, e⟩ := h q hq
  exact ⟨dx, l, c, by rw [upd_ne (ne_of e hp (fun z => hu _ _ z.symm))]; exact e⟩
theorem Tks.call {CT : Addr} {H H' : Hp} {L : List (Addr × (Str × Str))} {l : List (Addr × HO)} (h : Tks CT H L) (c : Wd [] H H' l) : Tks CT H' L := fun q hq => by
  obtain ⟨dx, l, c', e⟩ := h q hq
  exact ⟨dx, l, c', c.base _ _ (by simp) e⟩
theorem Tks.snoc {CT : Addr} {H : Hp} {L : List (Addr × (Str × Str))} (h : Tks CT H L) {x dx : Addr} {k t : Str} {l c : Int} (e : H x = some (.ins CT dx (tkF k t l c))) : Tks CT H (L ++ [(x, (k, t))]) := fun q hq => by
  rcases List.mem_append.mp hq with hq | hq
  · exact h q hq
  · rw [List.mem_singleton.mp hq]; exact ⟨dx, l, c, e⟩
section
variable {P : Program} {w : World} {K : PySem.W.Frag} {mg : Str → Option Value} {base : Heap} {CT : Addr}
def spTokenize (CT : Addr) : Sp := fun vs H Q _ => ∃ (z : Str) (tss : List (List (Str × Str))), vs = [.str z] ∧ z.length + 2 ≤ sizeLine ∧ (Txt.split z "\n").length = tss.length ∧
  (∀ (i : Nat) row ts, (Txt.split z "\n")[i]? = some row → tss[i]? = some ts → row.length ≤ sizeLine ∧ LexR (TL.tl row) ts) ∧ tss.flatten.length < 1000 ∧ (Txt.split z "\n").length ≤ sizeLine ∧
  ∀ (p : Addr) (L : List (Addr × (Str × Str))) (H' : Hp), Wd [] H H' [(p, .lst (trefs L))] → Tks CT H' L → L.map (·.2) = tss.flatten ++ [(("end" : Str), ("" : Str))] → Q (.ref p) H'
abbrev stokenize : Stmt := topS 32
theorem sctokenize : FnScope ["source", "tokens", "rows", "line", "row", "column", "token"] ["source"] (defScope stokenize) := ⟨rfl, rfl, rfl, by decide +kernel, rfl, by decide +kernel, by decide +kernel⟩
theorem cal_tokenize (D : DefAt K mg "tokenize" stokenize ["source"]) (T : Bi mg) (C : LexC K mg) (TC : TokCls K CT) (C1 : Cal P w K mg base 3 "read_token" ["row", "line", "column"] (spReadTok CT)) (CM : MkAt P w K mg base 1 "Token" CT ["self", "kind", "text", "line", "column"] (spTokI CT)) :
    Cal P w K mg base 4 "tokenize" ["source"] (spTokenize CT) := D.cal fun f fd F => by
  have nd := sctokenize.nd
  obtain ⟨t1, c_SPACES⟩ := C.SPACES
  obtain ⟨t2, c_END⟩ := C.END
  obtain ⟨f1, fd1, m_read_token, kp_read_token, b_read_token, G_read_token⟩ := C1.ex
  obtain ⟨f2, fd2, mC_Token, Mk_Token, b_Token, G_Token⟩ := CM.ex
  refine F.ok sctokenize (fun vs H Q E h => ?_) (fun cdv A outer s H vs Q E hr h => ?_)
  · obtain ⟨z, k, rfl, _⟩ := h; rfl
  obtain ⟨z, tss, rfl, hz, hlen, hlex, hfew, hrows, q⟩ := h
  refine ⟨_, (pss_cons (ps_set (i := 1) nd rfl (Or.inl rfl) (pe_lst pa_nil))
 (pss_cons (ps_set (i := 2) nd rfl (Or.inl rfl) (pe_split (pv 0) pe_str))
 (pss_cons (ps_for PassesOwn.never rfl (pi_enum (by rfl) T.enumerate (pa_cons (pv 2) pa_nil)) (pg_tupK (K := K) (n := 2) rfl rfl (pgs_cons (pg_name (i := 3) nd rfl (Or.inl rfl)) (pgs_cons (pg_name (i := 4) nd rfl (Or.inl rfl)) pgs_nil)))
 (pss_cons (ps_set (i := 5) nd rfl (Or.inl rfl) pe_int)
 (pss_one (ps_while PassesOwn.never (pt_cmpR op_lt (pv 5) (pe_callB call_len_str (by rfl) T.len PySem.boot_len (pa_cons (pv 4) pa_nil)) (nomark _))
 (pss_one (ps_if (pt_cmpR op_in_sign (pe_ix ix_str (pv 4) (pv 5) (fun _ _ => rfl)) (pe_glob (v := .str " \n") (by rfl) c_SPACES ⟨_, rfl⟩) (by rfl))
 (pss_one (ps_aug (i := 5) nd rfl (Or.inl rfl) pe_int ip_add))
 (pss_cons (ps_set (i := 6) nd rfl (Or.inl rfl) (pe_call G_read_token (hr.mono (by first | decide | omega)) (by rfl) m_read_token kp_read_token b_read_token .nil pass0 (pa_cons (pv 4) (pa_cons (pv 3) (pa_cons (pv 5) pa_nil)))))
 (pss_cons (ps_expr (pe_bmK (K := K) rfl PySem.F.plainAttrs_list PySem.F.slot_list_append PySem.F.type_list_append mt_append (pv 1) (pa_cons (pv 6) pa_nil)))
 (pss_one (ps_aug (i := 5) nd rfl (Or.inl rfl) (pe_callB call_len_str (by rfl) T.len PySem.boot_len (pa_cons (pe_fldK (K := K) rfl (pv 6) rfl) pa_nil)) ip_add))))))))))
 (pss_one (ps_ret (pe_op op_cat (pv 1) (pe_lst (pa_cons (pe_make Mk_Token G_Token (hr.mono (by first | decide | omega)) (by rfl) mC_Token b_Token .nil pass0 (pa_cons (pe_glob (v := .str "end") (by rfl) c_END ⟨_, rfl⟩) (pa_cons pe_str (pa_cons (pe_callB (r := rLenS K) call_len_seq (by rfl) T.len PySem.boot_len (pa_cons (pv 2) pa_nil)) (pa_cons pe_int pa_nil))))) pa_nil)))))))), ?_⟩
  refine ⟨(by show 0 ≤ sizeLine; decide), fun p hp => ?_⟩
  have w1 := (Wd.refl H).new (.lst []) hp
  refine ⟨_, rfl, ⟨_, rfl⟩, z, "\n", rfl, rfl, rfl, hz, fun rr hrr => ?_⟩
  generalize hR : Txt.split z "\n" = rows at *
  have w2 := w1.new1 (.lst (rows.map V.str)) hrr
  have w2s := w2
  refine ⟨_, rfl, rr, rows.map V.str, rfl, SqL.of (w2.get 1 rfl), ?_⟩
  refine for_it (walk_enum (xs := rows.map V.str)) (fun i σ H1 => ∃ (L : List (Addr × (Str × Str))) (a b c d : Option V), σ = [some (.str z), some (.ref p), some (.ref rr), a, b, c, d] ∧
    Wd [] H H1 [(p, .lst (trefs L)), (rr, .lst (rows.map V.str))] ∧ Tks CT H1 L ∧ L.map (·.2) = (tss.take i).flatten) ?_ ?_ ?_ ?_
  · exact ⟨[], _, _, _, _, rfl, w2, Tks.nil, rfl⟩
  · rintro i σ H1 _ ⟨L, a, b, c, d, rfl, w, _⟩
    exact SqL.of (w.get 1 rfl)
  · rintro i x σ H1 H1' hi ⟨L, a, b, c, d, rfl, w3, hT, hL⟩ ⟨T0, x1, x2, rfl, hT0, rfl, e1, e2⟩
    cases e1
    obtain ⟨row, hrow, rfl⟩ : ∃ row, rows[i]? = some row ∧ x2 = V.str row := by
      have e3 : (rows.map V.str)[i]? = some x2 := e2
      rw [List.getElem?_map] at e3
      cases e : rows[i]? with
      | none => rw [e] at e3; cases e3
      | some b => rw [e] at e3; exact ⟨b, rfl, (Option.some.inj e3).symm⟩
    have hil : i < tss.length := by rw [← hlen]; exact (List.getElem?_eq_some_iff.mp hrow).1
    obtain ⟨ts, hts⟩ : ∃ ts, tss[i]? = some ts := ⟨_, List.getElem?_eq_getElem hil⟩
    obtain ⟨hrl, hx⟩ := hlex i row ts hrow hts
    have w4 := (w3.new (.tup [.int (i : Nat), .str row]) hT0)
    have hfl : (tss.take (i + 1)).flatten = (tss.take i).flatten ++ ts := by
      rw [List.take_succ, hts]; simp
    have hle : (tss.take (i + 1)).flatten.length ≤ tss.flatten.length := by
      conv => rhs; rw [← List.take_append_drop (i + 1) tss]
      rw [List.flatten_append, List.length_append]; omega
    refine ⟨T0, _, rfl, SqT.of (w4.get 0 rfl), rfl, _, _, rfl, _, _, rfl, rfl, ?_⟩
    refine while_by (fun σ H' => ∃ (L : List (Addr × (Str × Str))) (col : Nat) (d : Option V), σ = [some (.str z), some (.ref p), some (.ref rr), some (.int (i : Nat)), some (.str row), some (.int col), d] ∧
      Wd [] H H' [(p, .lst (trefs L)), (rr, .lst (rows.map V.str))] ∧ Tks CT H' L ∧ ∃ rest, LexR ((TL.tl row).drop col) rest ∧ L.map (·.2) ++ rest = (tss.take (i + 1)).flatten) (fun σ _ => row.length - (slotI σ 5).toNat)
      ⟨L, 0, d, rfl, w4.sub (by walk_at "sub"), hT.new hT0, ts, hx, by rw [hL, hfl]⟩ ?_ ?_
    · rintro σ H2 ⟨L2, col, d2, rfl, w5, hT2, rest, hx2, hL2⟩
      refine ⟨_, rfl, _, rfl, row, rfl, hrl, _, _, rfl, rfl, _, rfl, ?_⟩
      refine ite2 (fun hc => ?_) (fun hc => ?_)
      · have hlt : col < row.length := by have := of_decide_eq_true hc; omega
        have hlt' : col < (TL.tl row).length := by rw [← TL.len_tl]; exact hlt
        have hdr := List.drop_eq_getElem_cons hlt'
        have hget := List.getElem?_eq_getElem hlt'
        generalize (TL.tl row)[col] = c0 at hdr hget
        refine ⟨_, rfl, _, rfl, row, _, c0, rfl, rfl, hrl, atI_nat hget, c0, " \n", rfl, rfl, _, rfl, ?_⟩
        have fsp : decide (c0 ∈ (" \n" : Str).cps.toList) = decide (c0 = 32 ∨ c0 = 10) := by
          have e : (" \n" : Str).cps.toList = [32, 10] := by decide +kernel
          rw [e]; simp
        rw [fsp]
        rw [hdr] at hx2
        have hcols : (TL.tl row).drop (col + 1) = ((TL.tl row).drop col).drop 1 := by rw [List.drop_drop]
        refine ite2 (fun hs => ?_) (fun hs => ?_)
        · have hs := of_decide_eq_true hs
          refine ⟨_, rfl, _, _, rfl, rfl, ⟨L2, col + 1, d2, ?_, w5, hT2, rest, ?_, hL2⟩, ?_⟩
          · show [_, _, _, _, _, some (V.int ((col : Int) + 1)), _] = _
            rw [show (col : Int) + 1 = ((col + 1 : Nat) : Int) by omega]
          · cases hx2 with
            | space _ h => exact h
            | tok h => exact absurd hs h
          · show row.length - ((col : Int) + 1).toNat < row.length - ((col : Int)).toNat
            omega
        · have hs : ¬ (c0 = 32 ∨ c0 = 10) := fun h => hs (decide_eq_true h)
          cases hx2 with
          | space h => exact absurd h hs
          | @tok _ _ k t ts2 _ ht hx3 =>
          have hpos := tokAt_pos ht
          refine ⟨_, rfl, _, rfl, _, rfl, row, k, t, (i : Nat), col, rfl, hrl, by rw [hdr]; exact ht, fun x dx H3 c => ?_⟩
          have w6 := w5.call0 c
          have hT3 := (hT2.call c).snoc (w6.get 0 rfl)
          refine ⟨_, rfl, .inl ⟨rfl, _, SqL.of (w6.get 2 rfl)⟩, _, rfl, ?_⟩
          have hLl : (L2 ++ [(x, (k, t))]).length ≤ tss.flatten.length := by
            have := congrArg List.length hL2
            rw [List.length_append, List.length_map, List.length_cons] at this
            rw [List.length_append]
            show L2.length + 1 ≤ _
            omega
          refine ⟨p, _, _, rfl, rfl, w6.get 2 rfl, ?_, ?_⟩
          · rw [trefs_len]
            have hL9 : L2.length + 1 ≤ tss.flatten.length := by simpa using hLl
            exact Nat.lt_of_lt_of_le (m := 1000) (by omega) (by decide)
          have w7 := w6.put 2 (.lst (trefs L2 ++ [.ref x])) rfl (fun xs q => by cases q)
          have hT4 := hT3.put (p := p) (o := .lst (trefs L2 ++ [.ref x])) (w6.get 2 rfl) (fun _ _ q => by cases q)
          have hTx := hT4 (x, (k, t)) (by simp)
          obtain ⟨dx2, l2, c2, hTx⟩ := hTx
          have htl : t.length ≤ sizeLine := tokAt_len ht (by
            have h2 := congrArg List.length hdr
            rw [List.length_drop, ← TL.len_tl] at h2
            rw [← h2]
            exact Nat.le_trans (Nat.sub_le _ _) hrl)
          refine ⟨_, rfl, _, rfl, x, CT, dx2, _, _, rfl, hTx, TC.cl, TC.nt, tk_text k t _ _, t, rfl, htl, _, _, rfl, rfl, ⟨L2 ++ [(x, (k, t))], col + t.length, some (.ref x), ?_, ?_, hT4, ts2, ?_, ?_⟩, ?_⟩
          · show [_, _, _, _, _, some (V.int ((col : Int) + t.length)), _] = _
            rw [show (col : Int) + t.length = ((col + t.length : Nat) : Int) by omega]
          · have w8 := w7.sub (l' := [(p, HO.lst (trefs L2 ++ [.ref x])), (rr, .lst (rows.map V.str))]) (by walk_at "sub")
            have e : trefs (L2 ++ [(x, (k, t))]) = trefs L2 ++ [.ref x] := by simp [trefs]
            rw [e]; exact w8
          · rw [← hdr, List.drop_drop] at hx3
            exact hx3
          · rw [← hL2, List.map_append, List.append_assoc]; rfl
          · show row.length - ((col : Int) + t.length).toNat < row.length - ((col : Int)).toNat
            omega
      · have hge : (TL.tl row).drop col = [] := List.drop_eq_nil_of_le (by
          rw [← TL.len_tl]
          have : ¬ (col : Int) < row.length := fun h => hc (decide_eq_true h)
          omega)
        rw [hge] at hx2
        cases hx2
        rw [List.append_nil] at hL2
        exact ⟨L2, _, _, _, _, rfl, w5, hT2, hL2⟩
    · intro σ H Q Q' h hc
      obtain ⟨v5, e5, v4, e4, zz, ez, hzz, i1, i2, ei1, ei2, hc⟩ := hc
      refine ⟨v5, e5, v4, e4, zz, ez, hzz, i1, i2, ei1, ei2, ?_⟩
      obtain ⟨b, hb, hc⟩ := hc
      exact ⟨b, hb, h _ _ hc⟩
  · rintro σ H1 ⟨L, a, b, c, d, rfl, w3, hT, hL⟩
    rw [List.length_map, hlen, List.take_length] at hL
    refine ⟨_, rfl, _, rfl, rr, _, rfl, .inl (SqL.of (w3.get 1 rfl)), fun x dx hx hd ne => ?_⟩
    refine ⟨x, dx, _, _, _, _, rfl, upd_same, fun H2 c2 => ⟨rfl, (by show 1 ≤ sizeLine; decide), fun pl hpl => ?_⟩⟩
    have w4 := w3.call0 (tok_fin hx hd ne c2)
    have hT2 := (hT.call (tok_fin hx hd ne c2)).snoc (w4.get 0 rfl)
    have w5 := w4.new (.lst [V.ref x]) hpl
    have hT3 := hT2.new (o := .lst [V.ref x]) hpl
    have hLl : L.length = tss.flatten.length := by rw [← hL, List.length_map]
    refine ⟨p, pl, _, _, rfl, rfl, w5.get 3 rfl, w5.get 0 rfl, ?_, fun p2 hp2 => ?_⟩
    · rw [trefs_len, hLl]
      exact Nat.le_trans (m := 1000) (by show _ + 1 ≤ _; omega) (by decide)
    · refine q p2 (L ++ [(x, (("end" : Str), ("" : Str)))]) _ ?_ (hT3.new hp2) (by rw [List.map_append, hL]; rfl)
      have e : trefs (L ++ [(x, (("end" : Str), ("" : Str)))]) = trefs L ++ [.ref x] := by simp [trefs]
      rw [e]
      exact (w5.new (.lst (trefs L ++ [.ref x])) hp2).sub (.cons₂ _ (List.nil_sublist _))
end
end Br

namespace Br
open PySem PySem.Spec PyProof.Rows L2
section
variable {P : Program} {w : World} {K : PySem.W.Frag} {mg : Str → Option Value} {base : Heap}
theorem int_of_map {ns : List Int} {i : Nat} {y : V} (h : (ns.map V.int)[i]? = some y) : ∃ z, ns[i]? = some z ∧ y = V.int z := by
  rw [List.getElem?_map] at h
  cases e : ns[i]? with
  | none => rw [e] at h; cases h
  | some z => rw [e] at h; exact ⟨z, rfl, (Option.some.inj h).symm⟩
/-- a list that is read stands still -/
theorem Wd.seq {M : List Addr} {H0 H : Hp} {l : List (Addr × HO)} (w : Wd M H0 H l) {a : Addr} {xs : List V} (h : SqL K H0 a xs) (hm : a ∉ M) : SqL K H a xs := by
  rcases h with (h | ⟨o, h⟩) | h
  · exact .inl (.inl (w.base _ _ hm h))
  · exact .inl (.inr ⟨o, w.base _ _ hm h⟩)
  · exact .inr h
def spRandom (K : PySem.W.Frag) : Sp := fun vs H Q _ => ∃ (a : Addr) (ns : List Int) (salt : Int), vs = [.ref a, .int salt] ∧ 0 ≤ salt ∧ SqL K H a (ns.map V.int) ∧ ns.length ≤ 63 ∧
  ∀ (d : Addr) (x y : Int) (r : List Int) (H' : Hp), Wd [] H H' [(d, dl x y r)] → DOk x y r → Q (.ref d) H'
abbrev s_law_random : Stmt := topS 52
theorem sc_law_random : FnScope ["_law_script", "_law_salt", "_law_seed", "_law_cell"] ["_law_script", "_law_salt"] (defScope s_law_random) := ⟨rfl, rfl, rfl, by decide +kernel, rfl, by decide +kernel, by decide +kernel⟩
theorem cal_random (D : DefAt K mg "_law_random" s_law_random ["_law_script", "_law_salt"]) (T : Bi mg) : Cal P w K mg base 1 "_law_random" ["_law_script", "_law_salt"] (spRandom K) := D.cal fun f fd F => by
  have nd := sc_law_random.nd
  refine F.ok sc_law_random (fun vs H Q E h => ?_) (fun cdv A outer s H vs Q E hr h => ?_)
  · obtain ⟨a, ns, salt, rfl, _⟩ := h; rfl
  obtain ⟨a, ns, salt, rfl, hsalt, hS, hl, k⟩ := h
  refine ⟨_, (pss_cons (ps_set (i := 2) nd rfl (Or.inl rfl) (pv 1))
 (pss_cons (ps_for PassesOwn.never rfl (pi_listK (K := K) rfl (pv 0)) (pg_name (i := 3) nd rfl (Or.inl rfl))
 (pss_one (ps_set (i := 2) nd rfl (Or.inl rfl) (pe_op op_mod (pe_op op_add (pe_op op_mul (pv 2) pe_int) (pe_callB call_abs (by rfl) T.abs (by decide +kernel) (pa_cons (pv 3) pa_nil))) pe_int))))
 (pss_one (ps_ret (pe_op op_cat (pe_lst (pa_cons (pv 2) (pa_cons pe_int pa_nil))) (pe_lc (own := [("_law_cell", 3)]) rfl nd (pi_listK (K := K) rfl (pv 0)) (blkOk_by (N := ["_law_script", "_law_salt", "_law_seed", "_law_cell"]) (sc := defScope s_law_random) (by decide +kernel)) (fun _ _ _ _ _ => (pg_name (i := 3) nd rfl (Or.inl rfl))) (fun _ _ _ _ _ => (pts_one (pt_cmpR op_ge (pv 3) (pe_op op_pow pe_int pe_int) (nomark _)))) (fun _ _ _ _ _ => (pv 3)))))))), ?_⟩
  refine ⟨_, rfl, _, rfl, a, rfl, ⟨_, hS⟩, for_list (K := K) (a := a) (xs := ns.map V.int) (fun i σ H' => H' = H ∧ ∃ s v, 0 ≤ s ∧ σ = [some (.ref a), some (.int salt), some (.int s), v])
    ⟨rfl, salt, none, hsalt, rfl⟩ (fun i σ H' _ ⟨e, _⟩ => e ▸ hS) ?_ ?_⟩
  · rintro i y σ H' hi ⟨rfl, s, v, hs, rfl⟩
    obtain ⟨z, _, rfl⟩ := int_of_map hi
    refine ⟨_, rfl, _, _, rfl, rfl, .inr ⟨by decide, by decide⟩, _, rfl, _, rfl, _, _, rfl, rfl, _, _, rfl, rfl, (by show (0 : Int) < 2147483647; decide), ?_⟩
    exact ⟨rfl, _, _, Int.emod_nonneg _ (by decide), rfl⟩
  · rintro σ H' ⟨rfl, s, v, hs, rfl⟩
    refine ⟨_, rfl, (by show 2 ≤ sizeLine; decide), fun p hp => ?_⟩
    have w1 := (Wd.refl H').new (.lst [V.int s, V.int 0]) hp
    refine ⟨_, rfl, a, rfl, ⟨_, w1.seq hS (by simp)⟩, fun D hD => ?_⟩
    have w2 := w1.new (.lst []) hD
    refine lc_list (K := K) (a := a) (xs := ns.map V.int) (fun i H2 => ∃ r : List Int, Wd [] H' H2 [(D, .lst (r.map V.int)), (p, .lst [V.int s, V.int 0])] ∧ (∀ x ∈ r, 0 ≤ x) ∧ r.length ≤ i)
      ⟨[], w2, by simp, by simp⟩ (fun i H2 _ ⟨r, w3, _⟩ => w3.seq hS (by simp)) ?_ ?_
    · rintro i y H2 hi ⟨r, w3, hr0, hrl⟩
      obtain ⟨z, hz, rfl⟩ := int_of_map hi
      have hi63 := (List.getElem?_eq_some_iff.mp hz).1
      refine ⟨rfl, _, rfl, _, _, rfl, rfl, ⟨by decide, by decide, by decide⟩, _, _, rfl, rfl, _, rfl, ?_⟩
      refine ite2 (fun hc => ?_) (fun _ => ⟨r, w3, hr0, by omega⟩)
      have hc' : (10 : Int) ^ (18 : Int).toNat ≤ z := of_decide_eq_true hc
      have z0 : 0 ≤ z := Int.le_trans (by decide) hc'
      refine ⟨_, rfl, _, w3.get 0 rfl, (by rw [List.length_map]; show r.length < sizeLine; exact Nat.lt_of_le_of_lt hrl (Nat.lt_of_lt_of_le hi63 (Nat.le_trans hl (by decide)))), r ++ [z], ?_, ?_, ?_⟩
      · have := w3.put 0 (.lst ((r ++ [z]).map V.int)) rfl (fun xs q => by cases q)
        rw [List.map_append] at this ⊢
        exact this
      · intro x hx
        rcases List.mem_append.mp hx with hx | hx
        · exact hr0 x hx
        · rw [List.mem_singleton.mp hx]; exact z0
      · simp; omega
    · rintro H2 ⟨r, w3, hr0, hrl⟩
      have hrl' : r.length ≤ 63 := by rw [List.length_map] at hrl; omega
      refine ⟨p, D, _, _, rfl, rfl, w3.get 1 rfl, w3.get 0 rfl, (by rw [List.length_map]; exact Nat.le_trans (Nat.add_le_add_left hrl' 2) (by decide)), fun q hq => ?_⟩
      refine k q s 0 r _ ?_ ⟨hs, by omega, hr0⟩
      exact (w3.new (dl s 0 r) hq).sub (by simp)
end
end Br

namespace Br
open PySem PySem.Spec PyProof.Rows L2
section
variable {P : Program} {w : World} {K : PySem.W.Frag} {mg : Str → Option Value} {base : Heap}
def listLen (H : Hp) : Option (Option V) → Nat
  | some (some (.ref p)) => match H p with
    | some (.lst l) => l.length
    | _ => 0
  | _ => 0
/-- an int or a text -/
def IS : V → Prop
  | .int _ => True
  | .str s => PySem.PyData.strOk s = true
  | _ => False
def spShuffled (K : PySem.W.Frag) : Sp := fun vs H Q _ => ∃ (d a : Addr) (x y : Int) (r : List Int) (xs : List V), vs = [.ref d, .ref a] ∧ (SqL K H a xs ∨ SqT K H a xs) ∧ H d = some (dl x y r) ∧ DOk x y r ∧ (∀ v ∈ xs, IS v) ∧ xs.length ≤ 1000 ∧
  ∀ (ys : List V) (p : Addr) (x' y' : Int) (r' : List Int) (H' : Hp), Wd [d] H H' [(d, dl x' y' r'), (p, .lst ys)] → DOk x' y' r' → ys.Perm xs → Q (.ref p) H'
def dataOf : V → PyData
  | .int i => .int i
  | .str s => .str s
  | _ => .none
theorem dp_all {H : Hp} : ∀ {xs : List V}, (∀ v ∈ xs, IS v) → DpAll K H xs (xs.map dataOf)
  | [], _ => .nil
  | v :: vs, h => by
    refine .cons ?_ (dp_all fun u hu => h u (List.mem_cons_of_mem _ hu))
    have := h v List.mem_cons_self
    cases v <;> first | exact .int _ | exact .str _ | exact False.elim this
theorem lay_all : ∀ {xs : List V}, (∀ v ∈ xs, IS v) → PyData.canLayAll0 (xs.map dataOf) = true
  | [], _ => rfl
  | v :: vs, h => by
    have h1 := h v List.mem_cons_self
    have h2 := lay_all (xs := vs) fun u hu => h u (List.mem_cons_of_mem _ hu)
    rw [List.map_cons, PyData.canLayAll0, h2, Bool.and_true]
    cases v <;> first | rfl | exact h1 | exact False.elim h1
theorem depth_all : ∀ {xs : List V}, PyData.depthAll (xs.map dataOf) = 0
  | [] => rfl
  | v :: vs => by
    rw [List.map_cons, PyData.depthAll, depth_all (xs := vs)]
    cases v <;> rfl
theorem shaped_list {xs : List V} (h : ∀ v ∈ xs, IS v) : SeqAt.shaped (.list (xs.map dataOf)) = true := by
  unfold SeqAt.shaped
  rw [PyData.canLay0, lay_all h, PyData.depth, depth_all]; rfl
theorem eqv_nil (ds : List PyData) : PyData.eqv (.list ds) (.list []) = ds.isEmpty := by
  rw [PyData.eqv]; cases ds <;> rfl
theorem erase_perm {α : Type} {l : List α} {i : Nat} {y : α} (h : l[i]? = some y) : (y :: l.eraseIdx i).Perm l := by
  induction l generalizing i with
  | nil => simp at h
  | cons a r ih =>
    cases i with
    | zero => simp at h; subst h; exact .refl _
    | succ i => exact (List.Perm.swap a y _).trans ((ih (by simpa using h)).cons a)
abbrev s_law_shuffled : Stmt := topS 55
theorem sc_law_shuffled : FnScope ["_law_d", "_law_items", "_law_pool", "_law_result"] ["_law_d", "_law_items"] (defScope s_law_shuffled) := ⟨rfl, rfl, rfl, by decide +kernel, rfl, by decide +kernel, by decide +kernel⟩
theorem cal_shuffled (D : DefAt K mg "_law_shuffled" s_law_shuffled ["_law_d", "_law_items"]) (T : Bi mg) (C1 : Cal P w K mg base 1 "_law_below" ["_law_d", "_law_limit"] spBelow) : Cal P w K mg base 2 "_law_shuffled" ["_law_d", "_law_items"] (spShuffled K) := D.cal fun f fd F => by
  have nd := sc_law_shuffled.nd
  obtain ⟨f_below, fd_below, m__law_below, kp__law_below, b__law_below, G__law_below⟩ := C1.ex
  refine F.ok sc_law_shuffled (fun vs H Q E h => ?_) (fun cdv A outer s H vs Q E hr h => ?_)
  · obtain ⟨d, a, x, y, r, xs, rfl, _⟩ := h; rfl
  obtain ⟨d, a, x, y, r, xs, rfl, hS, hd, ok, his, hl, k⟩ := h
  have hu := hr.units
  refine ⟨_, (pss_cons (ps_set (i := 2) nd rfl (Or.inl rfl) (pe_callTy (r := rListOf K) call_list_of (by rfl) T.list (by decide +kernel) (pa_cons (pv 1) pa_nil)))
 (pss_cons (ps_set (i := 3) nd rfl (Or.inl rfl) (pe_lst pa_nil))
 (pss_cons (ps_while PassesOwn.never (pt_cmpR (r := rNeD K) (op_neD hu) (pv 2) (pe_lst pa_nil) (nomark _))
 (pss_one (ps_expr (pe_bmK (K := K) rfl PySem.F.plainAttrs_list PySem.F.slot_list_append PySem.F.type_list_append mt_append (pv 3) (pa_cons (pe_bmK (K := K) rfl PySem.F.plainAttrs_list PySem.F.slot_list_pop PySem.F.type_list_pop mt_popAt (pv 2) (pa_cons (pe_call G__law_below (hr.mono (by first | decide | omega)) (by rfl) m__law_below kp__law_below b__law_below .nil pass0 (pa_cons (pv 0) (pa_cons (pe_callB (r := rLenS K) call_len_seq (by rfl) T.len PySem.boot_len (pa_cons (pv 2) pa_nil)) pa_nil))) pa_nil)) pa_nil)))))
 (pss_one (ps_ret (pv 3)))))), ?_⟩
  refine ⟨_, rfl, _, _, rfl, hS, fun pl hpl => ?_⟩
  have w1 := (Wd.start1 hd).new1 (.lst xs) hpl
  refine ⟨Nat.zero_le _, fun rs hrs => ?_⟩
  have w2 := w1.new1 (.lst []) hrs
  refine while_by (fun σ H' => ∃ (pool res : List V) (x y : Int) (r : List Int), σ = [some (.ref d), some (.ref a), some (.ref pl), some (.ref rs)] ∧ Wd [d] H H' [(d, dl x y r), (rs, .lst res), (pl, .lst pool)] ∧ DOk x y r ∧ (res ++ pool).Perm xs) (fun σ H => listLen H σ[2]?)
    ⟨xs, [], x, y, r, rfl, w2, ok, .refl _⟩ ?_ ?_
  · rintro σ H1 ⟨pool, res, x, y, r, rfl, w3, ok, hp⟩
    have hm : ∀ v ∈ pool, IS v := fun v hv => his v (hp.mem_iff.mp (List.mem_append_right _ hv))
    refine ⟨_, rfl, Nat.zero_le _, fun e he => ?_⟩
    have w4 := (w3.new1 (.lst []) he)
    refine ⟨.list (pool.map dataOf), .list [], .lst (SqL.of (w4.get 3 rfl)) (dp_all hm), .lst (SqL.of (w4.get 1 rfl)) .nil, shaped_list hm, rfl, _, rfl, ?_⟩
    rw [eqv_nil]
    cases pool with
    | nil =>
      refine iteF ?_
      refine ⟨_, rfl, ?_⟩
      rw [List.append_nil] at hp
      exact k res rs x y r _ (w4.sub (by simp)) ok hp
    | cons v0 vs0 =>
      refine iteT ?_
      have hlen : (v0 :: vs0).length ≤ 1000 := by
        have := hp.length_eq
        rw [List.length_append] at this
        omega
      have hlen0 : 0 < (v0 :: vs0).length := Nat.succ_pos _
      have hres : res.length < 1000 := by
        have := hp.length_eq
        rw [List.length_append] at this
        omega
      generalize v0 :: vs0 = pool at *
      refine ⟨_, rfl, .inl ⟨rfl, _, SqL.of (w4.get 2 rfl)⟩, _, rfl, .inl ⟨rfl, _, SqL.of (w4.get 3 rfl)⟩, _, rfl, _, rfl, pl, pool, rfl, .inl (SqL.of (w4.get 3 rfl)), ?_⟩
      refine ⟨d, _, x, y, r, rfl, by omega, by omega, w4.get 0 rfl, ok, fun i x' y' r' H2 c ok' hi0 hi1 => ?_⟩
      have w5 := w4.call1 (fun xs q => by cases q) c
      obtain ⟨j, rfl⟩ : ∃ j : Nat, i = j := ⟨i.toNat, by omega⟩
      have hj : j < pool.length := by omega
      refine ⟨pl, pool, j, j, pool[j], rfl, rfl, w5.get 3 rfl, by omega, by omega, ?_, List.getElem?_eq_getElem hj, ?_⟩
      · simp [seqIndex?]; omega
      have w6 := w5.put 3 (.lst (pool.eraseIdx j)) rfl (fun xs q => by cases q)
      refine ⟨rs, res, pool[j], rfl, rfl, w6.get 2 rfl, Nat.lt_trans hres (by decide), ?_⟩
      have w7 := w6.put 2 (.lst (res ++ [pool[j]])) rfl (fun xs q => by cases q)
      refine ⟨⟨pool.eraseIdx j, res ++ [pool[j]], x', y', r', rfl, w7.sub (by simp), ok', ?_⟩, ?_⟩
      · refine List.Perm.trans ?_ hp
        rw [List.append_assoc]
        exact (erase_perm (List.getElem?_eq_getElem hj)).append_left res
      · have h1 := w7.get 3 rfl
        have h2 := w3.get 2 rfl
        show listLen _ (some (some (.ref pl))) < listLen _ (some (some (.ref pl)))
        unfold listLen
        simp only [h1, h2]
        rw [List.length_eraseIdx]
        split <;> omega
  · intro σ H Q Q' h hc
    obtain ⟨v, e, z, q⟩ := hc
    exact ⟨v, e, z, fun p hp => by
      obtain ⟨d, e, h1, h2, h3, h4, c, h5, h6⟩ := q p hp
      exact ⟨d, e, h1, h2, h3, h4, c, h5, h _ _ h6⟩⟩
end
end Br

/-! set(xs) of a list of ints; sorted of such a set is the layer's own. -/
namespace Br
open PySem PySem.Spec PyProof.Rows L2
section
variable {P : Program} {w : World} {A : Around} {E : Value → Shared → Prop} {s : Shared}
abbrev emp (w : World) : Obj := { cls := .type "set", dict := none, data := .set #[] 0 (.fresh 0 0 (!w.params.followText "set-order")) }
abbrev itO (l : Addr) : Obj := { cls := .type "list_iterator", data := .fields #[.ref l, .int 0 0] }
theorem call_set_ints {l : Addr} {vs : Array Value} (ns : List Int) {Q : Value → Shared → Prop} (calm : A.handled = none) (hl : s.heap.IsList l vs) (hv : IntsAre vs.toList ns) (room : ns.length + 1 < scanBound)
    (out : ∀ (h' : Heap) (tk c : Nat), SetR w h' s.heap.objs.size (fun j => decide (j ∈ ns)) c → c ≤ ns.length → (∀ b o, s.heap.get? b = some o → h'.get? b = some o) → Q (.ref s.heap.objs.size) { s with heap := h', toks := tk }) :
    wpAny (model P w) A (call (.type "set") [.ref l]) Q E s := by
  have size : vs.size = ns.length := by simpa using IntsAre.length hv
  have ⟨c, tl, mro1⟩ := F.called_set.mro
  have k1 := F.called_set.made; have k2 := F.called_set.sub
  apply wpAny_call; apply codeAny_of_tree
  change wpAny _ _ (callAny (.type "set") _) _ _ _
  apply wpAny_pure
  refine ⟨Code.quiet_builtin _ (by decide +kernel), codeAny_builtin F.entry_type_call ?_⟩
  rw [Around.under_plain (weight_type_call_type "set" [.ref l] []) rfl]
  have k3 := F.called_set.notType; have k4 := F.called_set.canCreate
  have k5 := F.typeCall_set_1 (.ref l)
  repeat (any_goals (first | assumption | wp_step))
  apply codeAny_mono (code_set_led1 (.ref l) (E := E) (Q₁ := fun v t => v = .ref s.heap.objs.size ∧ t = { s with heap := s.heap.push (emp w) }) ⟨rfl, rfl⟩)
  intro r t hr
  cases r with
  | error e => exact hr
  | ok fl =>
  cases fl with
  | ret v =>
    obtain ⟨rfl, rfl⟩ := hr
    have at1 : (s.heap.push (emp w)).get? s.heap.objs.size = some (emp w) := Heap.get?_push_size _ rfl
    have ty1 : Shared.TypeIs { s with heap := s.heap.push (emp w) } (.ref s.heap.objs.size) "set" := ⟨_, at1, rfl⟩
    have i1 := F.called_set.init.lookup; have i2 := F.called_set.init.bind (.ref s.heap.objs.size)
    repeat (any_goals (first | assumption | wp_step))
    refine codeAny_mono (codeAny_call_builtin (R := wants (fun r t => r = .none ∧ ∃ h' tk c, t = { s with heap := h', toks := tk } ∧ SetR w h' s.heap.objs.size (fun j => decide (j ∈ ns)) c ∧ c ≤ ns.length ∧ (∀ b o, s.heap.get? b = some o → h'.get? b = some o)) E)
      F.called_set.init.plain F.entry_set_init (check_set_init_1 ty1 ?_)) fun r2 t2 hr2 => ?_
    · obtain ⟨⟨q1, q2, q3, q4⟩, hob, hcl, m, hda⟩ := hl
      simp only at hcl hda
      subst hcl hda
      have hob2 : (s.heap.push (emp w)).get? l = some { cls := .type "list", dict := q2, data := .seq vs m, slots := q4 } := Heap.get?_push_of_some _ hob
      have u1 := F.sub_list_set; have u2 := F.sub_list_frozenset
      have u3 : (Value.type "list" == Value.type "dict") = false := by decide
      have li : (s.heap.push (emp w)).IsList l vs := ⟨_, hob2, rfl, m, rfl⟩
      unfold Builtin.«set.__init__» noKeywords Builtin.Frozenset.updateFrom
      generalize hPI : pyIter = PI
      wp_walk
      subst hPI
      apply wpAny_pyIter_list li
      apply wpAny_bind; apply wpAny_runValue
      have lt1 : l < s.heap.objs.size := Heap.lt_size hob
      have calm3 : A.in1.in1.in1.handled = none := by simp [calm]
      have ne1 : l ≠ (s.heap.push (emp w)).objs.size := by
        rw [Heap.size_push]; exact Nat.ne_of_lt (Nat.lt_succ_of_lt lt1)
      have no1 : s.heap.objs.size ∉ [(s.heap.push (emp w)).objs.size, l] := by
        rw [Heap.size_push]
        intro z
        rcases List.mem_cons.mp z with z | z
        · exact absurd z (Nat.ne_of_lt (Nat.lt_succ_self _))
        · exact absurd (List.mem_singleton.mp z) (Nat.ne_of_gt lt1)
      have items : ∀ (i : Nat) (v : Value), vs[i]? = some v → ∃ k t, ns[i]? = some k ∧ v = .int k t := fun i v h => by
        have hi : i < ns.length := by rw [← size]; exact (Array.getElem?_eq_some_iff.mp h).1
        obtain ⟨t, e⟩ := PyProof.Rows.IntsAre.int_at hv i v (by rw [Array.getElem?_toList]; exact h)
        refine ⟨ns[i], t, List.getElem?_eq_getElem hi, ?_⟩
        rw [e, List.getD_eq_getElem?_getD, List.getElem?_eq_getElem hi]; rfl
      refine set_update_ints ((Walks.list calm3 _ l ne1 vs).toS) s.heap.objs.size no1 ns size room items (vs.size - 0) 0 _ (by omega) (Nat.zero_le _)
        ⟨⟨_, Heap.get?_push_size _ rfl, rfl, rfl⟩, (li.push _)⟩ ?first ?last
      case first =>
        have : ((s.heap.push (emp w)).push (itO l)).get? s.heap.objs.size = some (emp w) := Heap.get?_push_of_some _ at1
        exact ⟨0, Nat.le_refl 0, setR_new_at this⟩
      case last =>
        rintro ⟨h', g2, d2, tk2, o2⟩ c2 mv hc2 R2
        have e1 : g2 = s.gens := mv.gens
        have e2 : d2 = s.drawn := mv.drawn
        have e3 : o2 = s.os := mv.os
        subst e1 e2 e3
        change wpAny _ _ _ _ _ _
        apply wpAny_pure
        change wpAny _ _ (ret Value.none) _ _ _
        rw [size] at hc2
        refine wpAny_pure ⟨rfl, h', tk2, c2, rfl, R2, hc2, fun b o e => ?_⟩
        have b0 : b < s.heap.objs.size := Heap.lt_size e
        refine mv.heap b o (fun z => ?_) (Heap.get?_push_of_some _ (Heap.get?_push_of_some _ e))
        rcases List.mem_cons.mp z with z | z
        · exact absurd z (Nat.ne_of_lt b0)
        · rw [List.mem_singleton.mp z, Heap.size_push] at b0
          exact absurd (Nat.lt_of_succ_lt b0) (Nat.lt_irrefl _)
    · cases r2 with
      | error e => exact hr2
      | ok f2 =>
        cases f2 with
        | ret v2 =>
          obtain ⟨rfl, h', tk, c2, rfl, R2, hc2, kp⟩ := hr2
          repeat (any_goals (first | assumption | wp_step))
          exact out _ _ _ R2 hc2 kp
        | _ => exact hr2.elim
  | _ => exact hr.elim
end
section
variable {X : Cx}
def rSetI (K : PySem.W.Frag) (w : World) : List V → Hp → VK → Prop := fun xs H Q => ∃ (l : Addr) (ns : List Int), xs = [V.ref l] ∧ SqL K H l (ns.map V.int) ∧ ns.length ≤ 1000 ∧
  ∀ (a : Addr) (c : Nat), H a = none → c ≤ ns.length → Q (.ref a) (upd H a (SetO w a (fun j => decide (j ∈ ns)) c))
theorem cr_setI (hc : X.calm = true) : CallR X (.type "set") (rSetI X.K X.w) := by
  intro pins s σ H xs us Q I r h
  obtain ⟨l, ns, rfl, hl, hn, q⟩ := h
  rw [Vals.ref1 r]
  obtain ⟨its, rv, pl, hz⟩ := I.list hl
  refine call_set_ints ns (I.ok.hd hc) pl.isList (by simpa using rv.ints) (by unfold scanBound; omega) fun h' tk c R hcn k => ?_
  have hf : H s.heap.objs.size = none := I.hok.fresh (Nat.le_refl _)
  exact ⟨.ref _, upd H s.heap.objs.size (SetO X.w s.heap.objs.size (fun j => decide (j ∈ ns)) c), I.laid (t' := tk) k (Nat.le_refl _) (setO_new R), rfl, q _ c hf hcn⟩
end
end Br

namespace Br
open PySem PySem.Spec PyProof.Rows L2
/-- a rota, as plain data -/
structure Rota where
  names : List Str
  turns : List Int
  weights : List Int
  aways : List (Int × Int × Int)
  makers : List Int
def tri (t : Int × Int × Int) : List V := [.int t.1, .int t.2.1, .int t.2.2]
/-- tuples of three ints -/
def AwAt (H : Hp) : List Addr → List (Int × Int × Int) → Prop := Paired fun a t => H a = some (.tup (tri t))
/-- the tuple of five at a -/
def RotaAt (H : Hp) (a : Addr) (r : Rota) : Prop := ∃ (an at_ aw aa am : Addr) (as : List Addr), H a = some (.tup [.ref an, .ref at_, .ref aw, .ref aa, .ref am]) ∧ H an = some (.tup (r.names.map V.str)) ∧
  H at_ = some (.tup (r.turns.map V.int)) ∧ H aw = some (.tup (r.weights.map V.int)) ∧ H aa = some (.tup (as.map V.ref)) ∧ AwAt H as r.aways ∧ H am = some (.tup (r.makers.map V.int))
def six : List Str := ["a", "b", "cc", "longname", "x", "zed"]
def lexLt (s t : Int × Int × Int) : Prop := s.1 < t.1 ∨ s.1 = t.1 ∧ (s.2.1 < t.2.1 ∨ s.2.1 = t.2.1 ∧ s.2.2 < t.2.2)
def AwOk (n : Int) (t : Int × Int × Int) : Prop := 0 ≤ t.1 ∧ t.1 < n ∧ 0 ≤ t.2.1 ∧ t.2.1 < t.2.2 ∧ t.2.2 ∈ ([2, 3, 4, 6, 8, 12] : List Int)
/-- a rota of the laws' make -/
structure ROk (r : Rota) : Prop where
  n1 : 1 ≤ r.names.length
  n6 : r.names.length ≤ 6
  nd : r.names.Nodup
  six : ∀ x ∈ r.names, x ∈ six
  t0 : ∀ t ∈ r.turns, 0 ≤ t ∧ t < r.names.length
  tall : ∀ k : Nat, k < r.names.length → (k : Int) ∈ r.turns
  t12 : r.turns.length ≤ 12
  wl : r.weights.length = r.names.length
  w0 : ∀ x ∈ r.weights, 1 ≤ x ∧ x ≤ 9
  asc : r.aways.Pairwise lexLt
  a6 : r.aways.length ≤ 6
  a0 : ∀ t ∈ r.aways, AwOk r.names.length t
  masc : r.makers.Pairwise (· < ·)
  m0 : ∀ k ∈ r.makers, 0 ≤ k ∧ k < r.names.length
theorem AwAt.keep {H H' : Hp} (k : ∀ b xs, H b = some (.tup xs) → H' b = some (.tup xs)) : ∀ {as : List Addr} {ts : List (Int × Int × Int)}, AwAt H as ts → AwAt H' as ts
  | _, _, .nil => .nil
  | _, _, .cons h t => .cons (k _ _ h) (AwAt.keep k t)
theorem RotaAt.keep {H H' : Hp} (k : ∀ b xs, H b = some (.tup xs) → H' b = some (.tup xs)) {a : Addr} {r : Rota} (h : RotaAt H a r) : RotaAt H' a r := by
  obtain ⟨an, at_, aw, aa, am, as, h1, h2, h3, h4, h5, h6, h7⟩ := h
  exact ⟨an, at_, aw, aa, am, as, k _ _ h1, k _ _ h2, k _ _ h3, k _ _ h4, k _ _ h5, h6.keep k, k _ _ h7⟩
theorem AwAt.length {H : Hp} : ∀ {as : List Addr} {ts : List (Int × Int × Int)}, AwAt H as ts → as.length = ts.length
  | _, _, .nil => rfl
  | _, _, .cons _ t => by rw [List.length_cons, List.length_cons, AwAt.length t]
theorem AwAt.append {H : Hp} : ∀ {as bs : List Addr} {ts us : List (Int × Int × Int)}, AwAt H as ts → AwAt H bs us → AwAt H (as ++ bs) (ts ++ us)
  | _, _, _, _, .nil, h => h
  | _, _, _, _, .cons h t, h' => .cons h (AwAt.append t h')
theorem pick {ns : List Int} {i : Int} (h0 : 0 ≤ i) (h1 : i < ns.length) : ∃ m ∈ ns, atI (ns.map V.int) i = some (V.int m) := by
  obtain ⟨j, rfl⟩ : ∃ j : Nat, i = j := ⟨i.toNat, by omega⟩
  have hj : j < ns.length := by omega
  exact ⟨ns[j], List.getElem_mem hj, atI_nat (by rw [List.getElem?_map, List.getElem?_eq_getElem hj]; rfl)⟩
theorem cut_take (xs : List V) {k : Int} (h : 0 ≤ k) : cutV xs none (some k) = xs.take k.toNat := by
  obtain ⟨j, rfl⟩ : ∃ j : Nat, k = j := ⟨k.toNat, by omega⟩
  unfold cutV
  rw [HT.sIx_none, HT.sIx_nat, List.drop_zero, Nat.sub_zero, Int.toNat_natCast]
  by_cases c : j ≤ xs.length
  · rw [Nat.min_eq_left c]
  · rw [Nat.min_eq_right (by omega), List.take_of_length_le (Nat.le_refl _), List.take_of_length_le (by omega)]
theorem cut_drop (xs : List V) {k : Int} (h : 0 ≤ k) : cutV xs (some k) none = xs.drop k.toNat := by
  obtain ⟨j, rfl⟩ : ∃ j : Nat, k = j := ⟨k.toNat, by omega⟩
  unfold cutV
  rw [HT.sIx_none, HT.sIx_nat, Int.toNat_natCast]
  by_cases c : j ≤ xs.length
  · rw [Nat.min_eq_left c]
    exact List.take_of_length_le (by rw [List.length_drop]; omega)
  · rw [Nat.min_eq_right (by omega), List.drop_eq_nil_of_le (Nat.le_refl _), List.drop_eq_nil_of_le (by omega), List.take_nil]
theorem six_is : ∀ v ∈ six.map V.str, IS v := fun v hv => by
  obtain ⟨s, hs, rfl⟩ := List.mem_map.mp hv
  have : ∀ s ∈ six, PySem.PyData.strOk s = true := by decide +kernel
  exact this s hs
def dataT (t : Int × Int × Int) : PyData := .tuple [.int t.1, .int t.2.1, .int t.2.2]
theorem dp_aw {K : PySem.W.Frag} {H : Hp} : ∀ {as : List Addr} {ts : List (Int × Int × Int)}, AwAt H as ts → DpAll K H (as.map V.ref) (ts.map dataT)
  | _, _, .nil => .nil
  | _, _, .cons h t => .cons (.tup (SqT.of h) (.cons (.int _) (.cons (.int _) (.cons (.int _) .nil)))) (dp_aw t)
theorem shaped_t (t : Int × Int × Int) : SeqAt.shaped (dataT t) = true := rfl
theorem lay_ts : ∀ ts : List (Int × Int × Int), PyData.canLayAll0 (ts.map dataT) = true
  | [] => rfl
  | t :: ts => by rw [List.map_cons, PyData.canLayAll0, lay_ts ts, Bool.and_true]; rfl
theorem depth_ts : ∀ ts : List (Int × Int × Int), PyData.depthAll (ts.map dataT) ≤ 1
  | [] => Nat.zero_le _
  | t :: ts => by
    rw [List.map_cons, PyData.depthAll]
    have h1 : (dataT t).depth = 1 := rfl
    have := depth_ts ts
    omega
theorem shaped_ts (ts : List (Int × Int × Int)) : SeqAt.shaped (.list (ts.map dataT)) = true := by
  unfold SeqAt.shaped
  rw [PyData.canLay0, lay_ts, PyData.depth, Bool.true_and]
  exact decide_eq_true (by have := depth_ts ts; omega)
theorem eqv_t (s t : Int × Int × Int) : PyData.eqv (dataT s) (dataT t) = decide (s = t) := by
  obtain ⟨a, b, c⟩ := s
  obtain ⟨a', b', c'⟩ := t
  show PyData.eqv (.tuple [.int a, .int b, .int c]) (.tuple [.int a', .int b', .int c']) = _
  rw [PyData.eqv, PyData.eqvAll, PyData.eqvAll, PyData.eqvAll, PyData.eqvAll, PyData.eqv, PyData.eqv, PyData.eqv, Bool.and_true]
  rw [Bool.eq_iff_iff]
  simp
theorem any_t (ts : List (Int × Int × Int)) (t : Int × Int × Int) : ((ts.map dataT).any fun z => PyData.eqv z (dataT t)) = decide (t ∈ ts) := by
  induction ts with
  | nil => rfl
  | cons s ts ih =>
    rw [List.map_cons, List.any_cons, ih, eqv_t, Bool.eq_iff_iff, Bool.or_eq_true, decide_eq_true_eq, decide_eq_true_eq, decide_eq_true_eq, List.mem_cons]
    exact ⟨fun h => h.imp Eq.symm id, fun h => h.imp Eq.symm id⟩
theorem AwAt.zip {H : Hp} : ∀ {as : List Addr} {ts : List (Int × Int × Int)}, AwAt H as ts → ∃ L : List (Addr × Int × Int × Int), as = L.map (·.1) ∧ ts = L.map (·.2) ∧ ∀ q ∈ L, H q.1 = some (.tup (tri q.2))
  | _, _, .nil => ⟨[], rfl, rfl, by simp⟩
  | _, _, .cons (a := a) (b := b) h t => by
    obtain ⟨L, e1, e2, h2⟩ := AwAt.zip t
    refine ⟨(a, b) :: L, by rw [List.map_cons, ← e1], by rw [List.map_cons, ← e2], fun q hq => ?_⟩
    rcases List.mem_cons.mp hq with rfl | hq
    · exact h
    · exact h2 q hq
theorem AwAt.of {H : Hp} : ∀ {L : List (Addr × Int × Int × Int)}, (∀ q ∈ L, H q.1 = some (.tup (tri q.2))) → AwAt H (L.map (·.1)) (L.map (·.2))
  | [], _ => .nil
  | q :: L, h => .cons (h q List.mem_cons_self) (AwAt.of fun r hr => h r (List.mem_cons_of_mem _ hr))
theorem code3 (a b c : Int) : TS.code 13 [a, b, c] = a * 169 + b * 13 + c := by
  have e2 : (13 : Int) ^ 2 = 169 := by decide
  have e1 : (13 : Int) ^ 1 = 13 := by decide
  have e0 : (13 : Int) ^ 0 = 1 := by decide
  show a * 13 ^ 2 + (b * 13 ^ 1 + (c * 13 ^ 0 + 0)) = _
  rw [e2, e1, e0]; omega
theorem lex_of_code {n : Int} (hn : n ≤ 13) {s t : Int × Int × Int} (hs : AwOk n s) (ht : AwOk n t) (h : TS.code 13 [s.1, s.2.1, s.2.2] ≤ TS.code 13 [t.1, t.2.1, t.2.2]) (ne : s ≠ t) : lexLt s t := by
  rw [code3, code3] at h
  obtain ⟨a, b, c⟩ := s
  obtain ⟨a', b', c'⟩ := t
  obtain ⟨h1, h2, h3, h4, h5⟩ := hs
  obtain ⟨g1, g2, g3, g4, g5⟩ := ht
  simp only at *
  have h6 : c ≤ 12 := by simp at h5; omega
  have g6 : c' ≤ 12 := by simp at g5; omega
  have : ¬ (a = a' ∧ b = b' ∧ c = c') := fun ⟨x, y, z⟩ => ne (by rw [x, y, z])
  unfold lexLt
  simp only
  omega
theorem pairwise_both {α : Type} {R S : α → α → Prop} {l : List α} (h : l.Pairwise R) (n : l.Nodup) (f : ∀ a ∈ l, ∀ b ∈ l, R a b → a ≠ b → S a b) : l.Pairwise S := by
  have := List.pairwise_and_iff.mpr ⟨h, n⟩
  exact this.imp_of_mem fun ha hb ⟨r, ne⟩ => f _ ha _ hb r ne
theorem perm_of_map {α β : Type} (f : α → β) : ∀ {l : List α} {ys : List β}, ys.Perm (l.map f) → ∃ l' : List α, ys = l'.map f ∧ l'.Perm l
  | [], ys, h => ⟨[], by simpa using h, .refl _⟩
  | x :: r, ys, h => by
    have hm : f x ∈ ys := h.mem_iff.mpr (by simp)
    obtain ⟨a, b, rfl⟩ := List.append_of_mem hm
    have h2 : (a ++ b).Perm (r.map f) := List.Perm.cons_inv (List.perm_middle.symm.trans h)
    obtain ⟨l', e, hp⟩ := perm_of_map f h2
    refine ⟨l'.take a.length ++ x :: l'.drop a.length, ?_, ?_⟩
    · have e1 : (l'.take a.length).map f = a := by rw [List.map_take, ← e, List.take_left]
      have e2 : (l'.drop a.length).map f = b := by rw [List.map_drop, ← e, List.drop_left]
      rw [List.map_append, List.map_cons, e1, e2]
    · refine List.perm_middle.trans (List.Perm.cons x ?_)
      rw [List.take_append_drop]; exact hp
section
variable {P : Program} {w : World} {K : PySem.W.Frag} {mg : Str → Option Value} {base : Heap}
def spRota (K : PySem.W.Frag) : Sp := fun vs H Q _ => ∃ (d : Addr) (n x y : Int) (r : List Int), vs = [.ref d, .int n] ∧ 1 ≤ n ∧ n ≤ 6 ∧ H d = some (dl x y r) ∧ DOk x y r ∧
  ∀ (ro : Rota) (a : Addr) (x' y' : Int) (r' : List Int) (H' : Hp), Wd [d] H H' [(d, dl x' y' r')] → DOk x' y' r' → RotaAt H' a ro → ROk ro → ro.names.length ≤ n.toNat → Q (.ref a) H'
abbrev s_law_rota : Stmt := topS 56
theorem sc_law_rota : FnScope ["_law_d", "_law_most", "_law_many", "_law_names", "_law_turns", "_law_weights", "_law_aways", "_law_k", "_law_modulus", "_law_away", "_law_makers"] ["_law_d", "_law_most"] (defScope s_law_rota) := ⟨rfl, rfl, rfl, by decide +kernel, rfl, by decide +kernel, by decide +kernel⟩
theorem cal_rota (D : DefAt K mg "_law_rota" s_law_rota ["_law_d", "_law_most"]) (T : Bi mg) (C1 : Cal P w K mg base 1 "_law_below" ["_law_d", "_law_limit"] spBelow) (C2 : Cal P w K mg base 2 "_law_shuffled" ["_law_d", "_law_items"] (spShuffled K)) : Cal P w K mg base 3 "_law_rota" ["_law_d", "_law_most"] (spRota K) := D.cal fun f fd F => by
  have nd := sc_law_rota.nd
  obtain ⟨f_below, fd_below, m__law_below, kp__law_below, b__law_below, G__law_below⟩ := C1.ex
  obtain ⟨f_sh, fd_sh, m__law_shuffled, kp__law_shuffled, b__law_shuffled, G__law_shuffled⟩ := C2.ex
  refine F.ok sc_law_rota (fun vs H Q E h => ?_) (fun cdv A outer s H vs Q E hr h => ?_)
  · obtain ⟨d, n, x, y, r, rfl, _⟩ := h; rfl
  obtain ⟨d, n, x, y, r, rfl, hn1, hn6, hd, ok, k⟩ := h
  have hu := hr.units
  have hu65 : (A.deeper (envOfC "_law_rota" (defScope s_law_rota) s.heap.objs.size f cdv)).units + 65 < cLine := by have := hr.un; omega
  refine ⟨_, (pss_cons (ps_set (i := 2) nd rfl (Or.inr rfl) (pe_op op_add pe_int (pe_call G__law_below (hr.mono (by first | decide | omega)) (by rfl) m__law_below kp__law_below b__law_below .nil pass0 (pa_cons (pv 0) (pa_cons (pv 1) pa_nil)))))
 (pss_cons (ps_set (i := 3) nd rfl (Or.inl rfl) (pe_callTy (r := rTupOf K) call_tuple_of (by rfl) T.tuple (by decide +kernel) (pa_cons (pe_slice (r := rSlL K) sl_list (pe_call G__law_shuffled (hr.mono (by first | decide | omega)) (by rfl) m__law_shuffled kp__law_shuffled b__law_shuffled .nil pass0 (pa_cons (pv 0) (pa_cons (pe_lst (pa_cons pe_str (pa_cons pe_str (pa_cons pe_str (pa_cons pe_str (pa_cons pe_str (pa_cons pe_str pa_nil))))))) pa_nil))) po_none (po_some (pv 2))) pa_nil)))
 (pss_cons (ps_set (i := 4) nd rfl (Or.inl rfl) (pe_op op_cat (pe_listRg rfl (by rfl) T.list (prg_1 (by rfl) T.range (pv 2))) (pe_lc (own := [("_law_k", 7)]) rfl nd (pi_range1 (by rfl) T.range (pa_cons (pe_call G__law_below (hr.mono (by first | decide | omega)) (by rfl) m__law_below kp__law_below b__law_below .nil pass0 (pa_cons (pv 0) (pa_cons (pe_ix (r := rIxL K) ix_list (pe_lst (pa_cons pe_int (pa_cons pe_int pa_nil))) (pe_call G__law_below (hr.mono (by first | decide | omega)) (by rfl) m__law_below kp__law_below b__law_below .nil pass0 (pa_cons (pv 0) (pa_cons pe_int pa_nil))) (fun _ _ => rfl)) pa_nil))) pa_nil)) (blkOk_by (N := ["_law_d", "_law_most", "_law_many", "_law_names", "_law_turns", "_law_weights", "_law_aways", "_law_k", "_law_modulus", "_law_away", "_law_makers"]) (sc := defScope s_law_rota) (by decide +kernel)) (fun _ _ _ _ _ => (pg_name (i := 7) nd rfl (Or.inl rfl))) (fun _ _ _ _ _ => pts_nil) (fun _ _ _ _ _ => (pe_call G__law_below (hr.mono (by first | decide | omega)) (by rfl) m__law_below kp__law_below b__law_below .nil pass0 (pa_cons (pv 0) (pa_cons (pv 2) pa_nil)))))))
 (C8.pss_cut (ps_set (i := 5) nd rfl (Or.inl rfl) (pe_op (r := rRepA K) op_repA (pe_tup (pa_cons pe_int pa_nil)) (pv 2)))
 (C8.pss_cut (ps_if (pt_cmpR op_eq (pe_call G__law_below (hr.mono (by first | decide | omega)) (by rfl) m__law_below kp__law_below b__law_below .nil pass0 (pa_cons (pv 0) (pa_cons pe_int pa_nil))) pe_int (nomark _))
 (pss_one (ps_set (i := 5) nd rfl (Or.inl rfl) (pe_callTy (r := rTupOf K) call_tuple_of (by rfl) T.tuple (by decide +kernel) (pa_cons (pe_lc (own := [("_law_k", 7)]) rfl nd (pi_range1 (by rfl) T.range (pa_cons (pv 2) pa_nil)) (blkOk_by (N := ["_law_d", "_law_most", "_law_many", "_law_names", "_law_turns", "_law_weights", "_law_aways", "_law_k", "_law_modulus", "_law_away", "_law_makers"]) (sc := defScope s_law_rota) (by decide +kernel)) (fun _ _ _ _ _ => (pg_name (i := 7) nd rfl (Or.inl rfl))) (fun _ _ _ _ _ => pts_nil) (fun _ _ _ _ _ => (pe_op op_add pe_int (pe_call G__law_below (hr.mono (by first | decide | omega)) (by rfl) m__law_below kp__law_below b__law_below .nil pass0 (pa_cons (pv 0) (pa_cons (pe_ix (r := rIxL K) ix_list (pe_lst (pa_cons pe_int (pa_cons pe_int pa_nil))) (pe_call G__law_below (hr.mono (by first | decide | omega)) (by rfl) m__law_below kp__law_below b__law_below .nil pass0 (pa_cons (pv 0) (pa_cons pe_int pa_nil))) (fun _ _ => rfl)) pa_nil)))))) pa_nil))))
 pss_nil)
 (pss_cons (ps_set (i := 6) nd rfl (Or.inl rfl) (pe_lst pa_nil))
 (pss_cons (ps_for PassesOwn.never rfl (pi_range1 (by rfl) T.range (pa_cons (pe_call G__law_below (hr.mono (by first | decide | omega)) (by rfl) m__law_below kp__law_below b__law_below .nil pass0 (pa_cons (pv 0) (pa_cons (pe_ix (r := rIxL K) ix_list (pe_lst (pa_cons pe_int (pa_cons pe_int pa_nil))) (pe_call G__law_below (hr.mono (by first | decide | omega)) (by rfl) m__law_below kp__law_below b__law_below .nil pass0 (pa_cons (pv 0) (pa_cons pe_int pa_nil))) (fun _ _ => rfl)) pa_nil))) pa_nil)) (pg_name (i := 7) nd rfl (Or.inl rfl))
 (pss_cons (ps_set (i := 8) nd rfl (Or.inl rfl) (pe_ix (r := rIxL K) ix_list (pe_lst (pa_cons pe_int (pa_cons pe_int (pa_cons pe_int (pa_cons pe_int (pa_cons pe_int (pa_cons pe_int pa_nil))))))) (pe_call G__law_below (hr.mono (by first | decide | omega)) (by rfl) m__law_below kp__law_below b__law_below .nil pass0 (pa_cons (pv 0) (pa_cons (pe_ix (r := rIxL K) ix_list (pe_lst (pa_cons pe_int (pa_cons pe_int (pa_cons pe_int pa_nil)))) (pe_call G__law_below (hr.mono (by first | decide | omega)) (by rfl) m__law_below kp__law_below b__law_below .nil pass0 (pa_cons (pv 0) (pa_cons pe_int pa_nil))) (fun _ _ => rfl)) pa_nil))) (fun _ _ => rfl)))
 (pss_cons (ps_set (i := 9) nd rfl (Or.inl rfl) (pe_tup (pa_cons (pe_call G__law_below (hr.mono (by first | decide | omega)) (by rfl) m__law_below kp__law_below b__law_below .nil pass0 (pa_cons (pv 0) (pa_cons (pv 2) pa_nil))) (pa_cons (pe_call G__law_below (hr.mono (by first | decide | omega)) (by rfl) m__law_below kp__law_below b__law_below .nil pass0 (pa_cons (pv 0) (pa_cons (pv 8) pa_nil))) (pa_cons (pv 8) pa_nil)))))
 (pss_one (ps_set (i := 6) nd rfl (Or.inl rfl) (pe_op op_cat (pv 6) (pe_op op_rep (pe_lst (pa_cons (pv 9) pa_nil)) (pe_callTy call_int1 (by rfl) T.int (by decide +kernel) (pa_cons (pe_cmpR (r := rNotInD K) (op_notInD hu65) (pv 9) (pv 6) (by rfl)) pa_nil)))))))))
 (pss_cons (ps_set (i := 10) nd rfl (Or.inl rfl) (pe_callTy (r := rTupOf K) call_tuple_of (by rfl) T.tuple (by decide +kernel) (pa_cons (pe_lc (own := [("_law_k", 7)]) rfl nd (pi_range1 (by rfl) T.range (pa_cons (pv 2) pa_nil)) (blkOk_by (N := ["_law_d", "_law_most", "_law_many", "_law_names", "_law_turns", "_law_weights", "_law_aways", "_law_k", "_law_modulus", "_law_away", "_law_makers"]) (sc := defScope s_law_rota) (by decide +kernel)) (fun _ _ _ _ _ => (pg_name (i := 7) nd rfl (Or.inl rfl))) (fun _ _ _ _ _ => (pts_one (pt_cmpR op_eq (pe_call G__law_below (hr.mono (by first | decide | omega)) (by rfl) m__law_below kp__law_below b__law_below .nil pass0 (pa_cons (pv 0) (pa_cons pe_int pa_nil))) pe_int (nomark _)))) (fun _ _ _ _ _ => (pv 7))) pa_nil)))
 (pss_one (ps_ret (pe_tup (pa_cons (pv 3) (pa_cons (pe_callTy (r := rTupOf K) call_tuple_of (by rfl) T.tuple (by decide +kernel) (pa_cons (pe_call G__law_shuffled (hr.mono (by first | decide | omega)) (by rfl) m__law_shuffled kp__law_shuffled b__law_shuffled .nil pass0 (pa_cons (pv 0) (pa_cons (pv 4) pa_nil))) pa_nil)) (pa_cons (pv 5) (pa_cons (pe_callTy (r := rTupOf K) call_tuple_of (by rfl) T.tuple (by decide +kernel) (pa_cons (pe_callB (r := rSortU K 3 13) (cr_sortT (by decide)) (by rfl) T.sorted (by decide +kernel) (pa_cons (pv 6) pa_nil)) pa_nil)) (pa_cons (pv 10) pa_nil)))))))))))))))), ?_⟩
  -- many
  refine ⟨_, rfl, _, rfl, d, n, x, y, r, rfl, by omega, by omega, hd, ok, fun i x y r H1 c ok hi0 hi1 => ?_⟩
  have w1 := (Wd.start1 hd).call1 (fun xs q => by cases q) c
  refine ⟨_, _, rfl, rfl, ?_⟩
  obtain ⟨m, rfl⟩ : ∃ m : Nat, i = (m : Int) := ⟨i.toNat, by omega⟩
  -- names
  refine ⟨_, rfl, (by show 6 ≤ sizeLine; decide), fun p hp => ?_⟩
  have w2 := w1.new1 (.lst (six.map V.str)) hp
  refine ⟨d, p, x, y, r, six.map V.str, rfl, .inl (SqL.of (w2.get 1 rfl)), w2.get 0 rfl, ok, ?_, by decide, fun ys q x y r H2 c ok hperm => ?_⟩
  · exact six_is
  have w3 := w2.call1 (fun xs q => by cases q) c
  obtain ⟨ns, rfl, hns⟩ := perm_of_map V.str hperm
  refine ⟨_, rfl, _, rfl, q, _, rfl, SqL.of (w3.get 1 rfl), fun p2 hp2 => ?_⟩
  rw [cut_take _ (by omega)]
  have w4 := w3.new1 (.lst ((ns.map V.str).take (1 + (m : Int)).toNat)) hp2
  refine ⟨p2, _, rfl, .inl ⟨SqL.of (w4.get 1 rfl), fun an han => ?_⟩⟩
  have w5 := (w4.new1 (.tup ((ns.map V.str).take (1 + (m : Int)).toNat)) han).sub (l' := [(d, dl x y r), (an, .tup ((ns.map V.str).take (1 + (m : Int)).toNat))]) (by simp)
  have em : (1 + (m : Int)).toNat = m + 1 := by omega
  rw [em, ← List.map_take] at w5 ⊢
  -- turns
  refine ⟨_, rfl, _, rfl, RgOk.of_le (by omega) (by omega) (by omega) (by omega), fun q hq => ?_⟩
  have w6 := w5.new1 (.lst (rgV 0 (1 + (m : Int)))) hq
  refine ⟨_, rfl, (by show 2 ≤ sizeLine; decide), fun p hp => ?_⟩
  have w7 := w6.new1 (.lst (([2, 7] : List Int).map V.int)) hp
  refine ⟨_, rfl, d, 2, x, y, r, rfl, by omega, by omega, w7.get 0 rfl, ok, fun i x y r H1 c ok hi0 hi1 => ?_⟩
  have w8 := w7.call1 (fun xs q => by cases q) c
  obtain ⟨z, hz, hz2⟩ := pick (ns := [2, 7]) hi0 hi1
  refine ⟨p, _, i, _, rfl, rfl, SqL.of (w8.get 1 rfl), hz2, ?_⟩
  have hz3 : z = 2 ∨ z = 7 := by simpa using hz
  refine ⟨d, z, x, y, r, rfl, by omega, by omega, w8.get 0 rfl, ok, fun j x y r H1 c ok hj0 hj1 => ?_⟩
  have w9 := (w8.call1 (fun xs q => by cases q) c).sub (l' := [(d, dl x y r), (q, .lst (rgV 0 (1 + (m : Int)))), (an, .tup ((ns.take (m + 1)).map V.str))]) (by simp)
  refine ⟨j, rfl, by omega, by omega, fun D hD => ?_⟩
  have w10 := w9.new1 (.lst []) hD
  refine lc_range (lo := 0) (n := j.toNat) (fun i H2 => ∃ (l : List Int) (x y : Int) (r : List Int), Wd [d] H H2 [(d, dl x y r), (D, .lst (l.map V.int)), (q, .lst (rgV 0 (1 + (m : Int)))), (an, .tup ((ns.take (m + 1)).map V.str))] ∧ DOk x y r ∧ (∀ t ∈ l, 0 ≤ t ∧ t < 1 + (m : Int)) ∧ l.length = i)
    ⟨[], x, y, r, w10, ok, by simp, rfl⟩ ?_ ?_
  · rintro i H2 hi ⟨l, x, y, r, w11, ok, hl, hll⟩
    refine ⟨rfl, _, rfl, _, rfl, d, _, x, y, r, rfl, by omega, by omega, w11.get 0 rfl, ok, fun t x y r H1 c ok ht0 ht1 => ?_⟩
    have w12 := w11.call1 (fun xs q => by cases q) c
    have hll' : l.length ≤ 10 := by omega
    refine ⟨_, w12.get 1 rfl, Nat.lt_of_le_of_lt (by rw [List.length_map]; exact hll') (by decide), l ++ [t], x, y, r, ?_, ok, ?_, by simp; omega⟩
    · have := w12.put 1 (.lst ((l ++ [t]).map V.int)) rfl (fun xs q => by cases q)
      rw [List.map_append] at this ⊢
      exact this
    · intro u hu
      rcases List.mem_append.mp hu with hu | hu
      · exact hl u hu
      · rw [List.mem_singleton.mp hu]; exact ⟨ht0, ht1⟩
  rintro H2 ⟨l, x, y, r, w11, ok, hl, hll⟩
  refine ⟨q, D, _, _, rfl, rfl, w11.get 2 rfl, w11.get 1 rfl, ?_, fun tn htn => ?_⟩
  · rw [rgV_length, List.length_map]; exact Nat.le_trans (m := 100) (by omega) (by decide)
  have w12 := (w11.new1 (.lst (rgV 0 (1 + (m : Int)) ++ l.map V.int)) htn).sub (l' := [(d, dl x y r), (tn, .lst (rgV 0 (1 + (m : Int)) ++ l.map V.int)), (an, .tup ((ns.take (m + 1)).map V.str))]) (by simp)
  have el : rgV 0 (1 + (m : Int)) ++ l.map V.int = ((List.range (m + 1)).map (fun i : Nat => (i : Int)) ++ l).map V.int := by
    unfold rgV
    rw [List.map_append, List.map_map, show (1 + (m : Int) - 0).toNat = m + 1 by omega]
    congr 1
    refine List.map_congr_left fun i _ => ?_
    show V.int (0 + (i : Int)) = V.int i
    rw [Int.zero_add]
  rw [el] at w12 ⊢
  clear el
  generalize hT : (List.range (m + 1)).map (fun i : Nat => (i : Int)) ++ l = tu at w12 ⊢
  have htu : (∀ t ∈ tu, 0 ≤ t ∧ t < 1 + (m : Int)) ∧ (∀ k : Nat, k < m + 1 → (k : Int) ∈ tu) ∧ tu.length ≤ 12 := by
    subst hT
    refine ⟨fun t ht => ?_, fun k hk => ?_, ?_⟩
    · rcases List.mem_append.mp ht with ht | ht
      · obtain ⟨u, hu, rfl⟩ := List.mem_map.mp ht
        have := List.mem_range.mp hu
        omega
      · exact hl t ht
    · exact List.mem_append_left _ (List.mem_map.mpr ⟨k, List.mem_range.mpr hk, rfl⟩)
    · rw [List.length_append, List.length_map, List.length_range]; omega
  generalize hN : ns.take (m + 1) = nm at w12 ⊢
  have hnm : nm.length = m + 1 ∧ nm.Nodup ∧ ∀ x ∈ nm, x ∈ six := by
    subst hN
    have h6 : ns.length = 6 := hns.length_eq
    refine ⟨by rw [List.length_take]; omega, List.Nodup.sublist (List.take_sublist _ _) (hns.nodup_iff.mpr (by decide +kernel)), fun x hx => hns.mem_iff.mp (List.mem_of_mem_take hx)⟩
  -- weights
  have Mid : ∃ Mid : L2.St → Hp → Prop, Mid = fun σ H' => ∃ (aw : Addr) (ws : List Int) (x y : Int) (r : List Int), σ = [some (.ref d), some (.int n), some (.int (1 + (m : Int))), some (.ref an), some (.ref tn), some (.ref aw), none, none, none, none, none] ∧
    Wd [d] H H' [(d, dl x y r), (tn, .lst (tu.map V.int)), (an, .tup (nm.map V.str)), (aw, .tup (ws.map V.int))] ∧ DOk x y r ∧ ws.length = m + 1 ∧ ∀ v ∈ ws, 1 ≤ v ∧ v ≤ 9 := ⟨_, rfl⟩
  obtain ⟨Mid, hMid⟩ := Mid
  have hrep : ∀ k : Nat, (List.replicate k [V.int 1]).flatten = (List.replicate k (1 : Int)).map V.int := fun k => by
    induction k with
    | zero => rfl
    | succ k ih => rw [List.replicate_succ, List.flatten_cons, ih, List.replicate_succ]; rfl
  refine ⟨Mid, ?_, ?_⟩
  · refine ⟨(by show 1 ≤ sizeLine; decide), fun p hp => ?_⟩
    have w13 := w12.new (.tup [V.int 1]) hp
    refine ⟨_, rfl, p, _, _, rfl, rfl, SqT.of (w13.get 0 rfl), by simp, by omega, by omega, by show 1 ≤ 1000; decide, fun e => ?_, fun e q hq => ?_⟩
    · rw [hMid]
      have em0 : m = 0 := by omega
      subst em0
      exact ⟨p, [1], x, y, r, rfl, w13.perm (by
        show List.Perm [(p, HO.tup [V.int 1]), _, _, _] [_, _, _, _]
        exact (List.perm_append_comm (l₁ := [(p, HO.tup [V.int 1])]) (l₂ := [_, _, _]))), ok, rfl, by simp⟩
    · rw [hMid]
      refine ⟨q, List.replicate (m + 1) 1, x, y, r, rfl, ?_, ok, by simp, ?_⟩
      · have w14 := w13.new (.tup (List.replicate (1 + (m : Int)).toNat [V.int 1]).flatten) hq
        rw [em, hrep] at w14 ⊢
        refine (w14.perm (List.perm_append_comm (l₁ := [_, _]) (l₂ := [_, _, _]))).sub ?_
        simp
      · intro v hv
        rw [(List.mem_replicate.mp hv).2]; omega
  rintro σ H3 hmid
  -- if _law_below(_law_d, 2) == 0: weights
  refine ⟨Mid, ?_, ?_⟩
  · rw [hMid] at hmid
    obtain ⟨aw, ws, x, y, r, rfl, w1, ok, hwl, hw0⟩ := hmid
    refine ⟨_, rfl, d, 2, x, y, r, rfl, by omega, by omega, w1.get 0 rfl, ok, fun i x y r H1 c ok hi0 hi1 => ?_⟩
    have w2 := w1.call1 (fun xs q => by cases q) c
    refine ⟨rfl, _, rfl, ?_⟩
    refine ite2 (fun _ => ?_) (fun _ => ?_)
    · refine ⟨_, rfl, _, rfl, by omega, by omega, fun D hD => ?_⟩
      have w3 := w2.new1 (.lst []) hD
      refine lc_range (lo := 0) (n := (1 + (m : Int)).toNat) (fun i H2 => ∃ (l : List Int) (x y : Int) (r : List Int), Wd [d] H H2 [(d, dl x y r), (D, .lst (l.map V.int)), (tn, .lst (tu.map V.int)), (an, .tup (nm.map V.str))] ∧ DOk x y r ∧ (∀ t ∈ l, 1 ≤ t ∧ t ≤ 9) ∧ l.length = i)
        ⟨[], x, y, r, w3.sub (by simp), ok, by simp, rfl⟩ ?_ ?_
      · rintro i H2 hi ⟨l, x, y, r, w4, ok, hl, hll⟩
        refine ⟨rfl, _, rfl, (by show 2 ≤ sizeLine; decide), fun p hp => ?_⟩
        have w5 := w4.new1 (.lst (([3, 9] : List Int).map V.int)) hp
        refine ⟨_, rfl, d, 2, x, y, r, rfl, by omega, by omega, w5.get 0 rfl, ok, fun i' x y r H1 c ok hi0 hi1 => ?_⟩
        have w6 := w5.call1 (fun xs q => by cases q) c
        obtain ⟨z, hz, hz2⟩ := pick (ns := [3, 9]) hi0 hi1
        refine ⟨p, _, i', _, rfl, rfl, SqL.of (w6.get 1 rfl), hz2, ?_⟩
        have hz3 : z = 3 ∨ z = 9 := by simpa using hz
        refine ⟨d, z, x, y, r, rfl, by omega, by omega, w6.get 0 rfl, ok, fun j x y r H1 c ok hj0 hj1 => ?_⟩
        have w7 := w6.call1 (fun xs q => by cases q) c
        refine ⟨_, _, rfl, rfl, ?_⟩
        refine ⟨_, w7.get 2 rfl, Nat.lt_of_le_of_lt (m := 100) (by rw [List.length_map]; omega) (by decide), l ++ [1 + j], x, y, r, ?_, ok, ?_, by simp; omega⟩
        · have := w7.put 2 (.lst ((l ++ [1 + j]).map V.int)) rfl (fun xs q => by cases q)
          rw [List.map_append] at this ⊢
          exact this.sub (by simp)
        · intro u hu
          rcases List.mem_append.mp hu with hu | hu
          · exact hl u hu
          · rw [List.mem_singleton.mp hu]; omega
      rintro H2 ⟨l, x, y, r, w4, ok, hl, hll⟩
      refine ⟨D, _, rfl, .inl ⟨SqL.of (w4.get 1 rfl), fun t ht => ?_⟩⟩
      show Mid _ _
      rw [hMid]
      refine ⟨t, l, x, y, r, rfl, ?_, ok, by omega, hl⟩
      exact ((w4.new (.tup (l.map V.int)) ht).perm (List.perm_append_comm (l₁ := [_]) (l₂ := [_, _, _, _]))).sub (by simp)
    · show Mid _ _
      rw [hMid]
      exact ⟨aw, ws, x, y, r, rfl, w2.sub (by simp), ok, hwl, hw0⟩
  intro σ H4 hmid
  rw [hMid] at hmid
  obtain ⟨aw, ws, x, y, r, rfl, w1, ok, hwl, hw0⟩ := hmid
  -- aways
  refine ⟨Nat.zero_le _, fun al hal => ?_⟩
  have w2 := w1.new1 (.lst []) hal
  refine ⟨_, rfl, (by show 2 ≤ sizeLine; decide), fun p hp => ?_⟩
  have w3 := w2.new1 (.lst (([3, 7] : List Int).map V.int)) hp
  refine ⟨_, rfl, d, 2, x, y, r, rfl, by omega, by omega, w3.get 0 rfl, ok, fun i x y r H1 c ok hi0 hi1 => ?_⟩
  have w4 := w3.call1 (fun xs q => by cases q) c
  obtain ⟨z, hz, hz2⟩ := pick (ns := [3, 7]) hi0 hi1
  refine ⟨p, _, i, _, rfl, rfl, SqL.of (w4.get 1 rfl), hz2, ?_⟩
  have hz3 : z = 3 ∨ z = 7 := by simpa using hz
  refine ⟨d, z, x, y, r, rfl, by omega, by omega, w4.get 0 rfl, ok, fun j x y r H1 c ok hj0 hj1 => ?_⟩
  have w5 := (w4.call1 (fun xs q => by cases q) c).sub (l' := [(d, dl x y r), (al, .lst []), (tn, .lst (tu.map V.int)), (an, .tup (nm.map V.str)), (aw, .tup (ws.map V.int))]) (by simp)
  refine ⟨j, rfl, by omega, by omega, for_range (lo := 0) (n := j.toNat) (fun i σ H' => ∃ (al : Addr) (as : List Addr) (ts : List (Int × Int × Int)) (v7 v8 v9 : Option V) (x y : Int) (r : List Int),
    σ = [some (.ref d), some (.int n), some (.int (1 + (m : Int))), some (.ref an), some (.ref tn), some (.ref aw), some (.ref al), v7, v8, v9, none] ∧
    Wd [d] H H' [(d, dl x y r), (al, .lst (as.map V.ref)), (tn, .lst (tu.map V.int)), (an, .tup (nm.map V.str)), (aw, .tup (ws.map V.int))] ∧ DOk x y r ∧ AwAt H' as ts ∧ ts.Nodup ∧ (∀ t ∈ ts, AwOk (1 + (m : Int)) t) ∧ ts.length ≤ i)
    ⟨al, [], [], none, none, none, x, y, r, rfl, w5, ok, .nil, List.nodup_nil, by simp, by simp⟩ ?_ ?_⟩
  · rintro i σ H5 hi ⟨al, as, ts, v7, v8, v9, x, y, r, rfl, w6, ok, haw, htn, hto, htl⟩
    have hc2 : (1 + (m : Int)) < 1073741824 := by omega
    refine ⟨(by show 6 ≤ sizeLine; decide), fun p hp => ?_⟩
    have w7 := w6.new1 (.lst (([2, 3, 4, 6, 8, 12] : List Int).map V.int)) hp
    refine ⟨_, rfl, (by show 3 ≤ sizeLine; decide), fun p2 hp2 => ?_⟩
    have k1 := ((KT.refl H5).new (o := .lst (([2, 3, 4, 6, 8, 12] : List Int).map V.int)) hp)
    have w8 := w7.new1 (.lst (([2, 4, 6] : List Int).map V.int)) hp2
    refine ⟨_, rfl, d, 3, x, y, r, rfl, by omega, by omega, w8.get 0 rfl, ok, fun i' x y r H1 c ok hi0 hi1 => ?_⟩
    have k2 := (k1.new (o := .lst (([2, 4, 6] : List Int).map V.int)) hp2).call c
    have w9 := w8.call1 (fun xs q => by cases q) c
    obtain ⟨z, hz, hz2⟩ := pick (ns := [2, 4, 6]) hi0 hi1
    refine ⟨p2, _, i', _, rfl, rfl, SqL.of (w9.get 1 rfl), hz2, ?_⟩
    have hz3 : z = 2 ∨ z = 4 ∨ z = 6 := by simpa using hz
    refine ⟨d, z, x, y, r, rfl, by omega, by omega, w9.get 0 rfl, ok, fun i2 x y r H1 c ok hi0 hi1 => ?_⟩
    have k3 := k2.call c
    have w10 := w9.call1 (fun xs q => by cases q) c
    obtain ⟨mo, hmo, hmo2⟩ := pick (ns := [2, 3, 4, 6, 8, 12]) hi0 (show i2 < (6 : Int) by omega)
    refine ⟨p, _, i2, _, rfl, rfl, SqL.of (w10.get 2 rfl), hmo2, ?_⟩
    have hmo3 : 2 ≤ mo ∧ mo ≤ 12 := by simp at hmo; omega
    -- the absence
    refine ⟨_, rfl, _, rfl, d, _, x, y, r, rfl, by omega, hc2, w10.get 0 rfl, ok, fun pe x y r H1 c ok hp0 hp1 => ?_⟩
    have k4 := k3.call c
    have w11 := w10.call1 (fun xs q => by cases q) c
    refine ⟨_, rfl, _, rfl, d, _, x, y, r, rfl, by omega, by omega, w11.get 0 rfl, ok, fun re x y r H1 c ok hr0 hr1 => ?_⟩
    have w12 := (w11.call1 (fun xs q => by cases q) c).sub (l' := [(d, dl x y r), (al, .lst (as.map V.ref)), (tn, .lst (tu.map V.int)), (an, .tup (nm.map V.str)), (aw, .tup (ws.map V.int))]) (by simp)
    refine ⟨_, rfl, (by show 3 ≤ sizeLine; decide), fun t ht => ?_⟩
    have haw2 : AwAt H1 as ts := haw.keep (k4.call c)
    have w13 := w12.new1 (.tup (tri (pe, re, mo))) ht
    have haw3 : AwAt (upd H1 t (.tup (tri (pe, re, mo)))) as ts := haw2.keep fun b xs e => by rw [upd_ne (ne_of_none e ht)]; exact e
    refine ⟨_, rfl, _, rfl, (by show 1 ≤ sizeLine; decide), fun q hq => ?_⟩
    have w14 := w13.new1 (.lst [V.ref t]) hq
    have haw4 : AwAt _ as ts := haw3.keep fun b xs e => (upd_ne (o := .lst [V.ref t]) (ne_of_none e hq)).trans e
    refine ⟨_, rfl, _, rfl, dataT (pe, re, mo), ts.map dataT, .tup (SqT.of (w14.get 2 rfl)) (.cons (.int _) (.cons (.int _) (.cons (.int _) .nil))), .lst (SqL.of (w14.get 3 rfl)) (dp_aw haw4), shaped_t _, shaped_ts _, ?_⟩
    rw [any_t]
    have hts : ts.length ≤ 5 := by omega
    have hb : ∀ e : Bool, (if (!e) = true then (1 : Int) else 0) = if e = true then 0 else 1 := fun e => by cases e <;> rfl
    refine .inr ⟨_, rfl, q, _, [V.ref t], rfl, rfl, w14.get 1 rfl, ?_, ?_, ?_, fun u hu' => ?_⟩
    · rw [hb]; split <;> decide
    · rw [hb]; split <;> decide
    · rw [hb]
      split
      · exact (by decide : 1 * (0 : Int).toNat ≤ sizeLine)
      · exact (by decide : 1 * (1 : Int).toNat ≤ sizeLine)
    rw [hb] at *
    have w15 := w14.new1 (.lst (List.replicate (if decide ((pe, re, mo) ∈ ts) = true then (0 : Int) else 1).toNat [V.ref t]).flatten) hu'
    have e1 : as.length = ts.length := haw.length
    refine ⟨al, u, _, _, rfl, rfl, w15.get 4 rfl, w15.get 1 rfl, ?_, fun v hv => ?_⟩
    · rw [List.length_map, e1]
      by_cases c : (pe, re, mo) ∈ ts
      · rw [decide_eq_true c]; exact Nat.le_trans (m := 100) (by simp; omega) (by decide)
      · rw [decide_eq_false c]; exact Nat.le_trans (m := 100) (by simp; omega) (by decide)
    have w16 := w15.new1 (.lst (as.map V.ref ++ (List.replicate (if decide ((pe, re, mo) ∈ ts) = true then (0 : Int) else 1).toNat [V.ref t]).flatten)) hv
    have haw5 : AwAt _ as ts := haw4.keep (((KT.refl _).new (o := .lst (List.replicate (if decide ((pe, re, mo) ∈ ts) = true then (0 : Int) else 1).toNat [V.ref t]).flatten) hu').new (o := .lst (as.map V.ref ++ (List.replicate (if decide ((pe, re, mo) ∈ ts) = true then (0 : Int) else 1).toNat [V.ref t]).flatten)) hv)
    have htt := w16.get 4 rfl
    have w17 := w16.sub (l' := [(d, dl x y r), (v, .lst (as.map V.ref ++ (List.replicate (if decide ((pe, re, mo) ∈ ts) = true then (0 : Int) else 1).toNat [V.ref t]).flatten)), (tn, .lst (tu.map V.int)), (an, .tup (nm.map V.str)), (aw, .tup (ws.map V.int))]) (by walk_at "sub")
    clear w15 w16 w14 w13
    by_cases c : (pe, re, mo) ∈ ts
    · rw [decide_eq_true c] at *
      refine ⟨v, as, ts, _, _, _, x, y, r, rfl, ?_, ok, haw5, htn, hto, by omega⟩
      rw [if_pos rfl] at *
      simpa [tri] using w17
    · rw [decide_eq_false c] at *
      refine ⟨v, as ++ [t], ts ++ [(pe, re, mo)], _, _, _, x, y, r, rfl, ?_, ok, haw5.append (.cons htt .nil), ?_, ?_, by simp; omega⟩
      · rw [if_neg (by decide)] at *
        simpa [tri] using w17
      · rw [List.nodup_append]
        exact ⟨htn, by simp, fun a ha b hb => by rw [List.mem_singleton.mp hb]; exact fun e => c (e ▸ ha)⟩
      · intro a ha
        rcases List.mem_append.mp ha with ha | ha
        · exact hto a ha
        · rw [List.mem_singleton.mp ha]; exact ⟨hp0, hp1, hr0, hr1, hmo⟩
  rintro σ H5 ⟨al, as, ts, v7, v8, v9, x, y, r, rfl, w6, ok, haw, htn, hto, htl⟩
  have htl6 : ts.length ≤ 6 := by omega
  -- makers
  refine ⟨_, rfl, _, rfl, by omega, by omega, fun D hD => ?_⟩
  have w7 := w6.new1 (.lst []) hD
  have haw2 : AwAt _ as ts := haw.keep ((KT.refl H5).new (o := .lst []) hD)
  refine lc_range (lo := 0) (n := (1 + (m : Int)).toNat) (fun i H2 => ∃ (l : List Int) (x y : Int) (r : List Int), Wd [d] H H2 [(d, dl x y r), (D, .lst (l.map V.int)), (al, .lst (as.map V.ref)), (tn, .lst (tu.map V.int)), (an, .tup (nm.map V.str)), (aw, .tup (ws.map V.int))] ∧ DOk x y r ∧ AwAt H2 as ts ∧ l.Pairwise (· < ·) ∧ (∀ t ∈ l, 0 ≤ t ∧ t < i) ∧ l.length ≤ i)
    ⟨[], x, y, r, w7, ok, haw2, .nil, by simp, by simp⟩ ?_ ?_
  · rintro i H2 hi ⟨l, x, y, r, w8, ok, haw, hlp, hl, hll⟩
    refine ⟨rfl, _, rfl, d, 2, x, y, r, rfl, by omega, by omega, w8.get 0 rfl, ok, fun i' x y r H1 c ok hi0 hi1 => ?_⟩
    have haw2 : AwAt H1 as ts := haw.keep ((KT.refl _).call c)
    have w9 := w8.call1 (fun xs q => by cases q) c
    refine ⟨rfl, _, rfl, ?_⟩
    refine ite2 (fun _ => ?_) (fun _ => ⟨l, x, y, r, w9, ok, haw2, hlp, fun t ht => by have := hl t ht; omega, by omega⟩)
    refine ⟨_, rfl, _, w9.get 1 rfl, Nat.lt_of_le_of_lt (m := 100) (by rw [List.length_map]; omega) (by decide), l ++ [0 + (i : Int)], x, y, r, ?_, ok, ?_, ?_, ?_, by simp; omega⟩
    · have := w9.put 1 (.lst ((l ++ [0 + (i : Int)]).map V.int)) rfl (fun xs q => by cases q)
      rw [List.map_append] at this ⊢
      exact this
    · exact haw2.keep ((KT.refl _).put (w9.get 1 rfl) (fun xs q => by cases q))
    · rw [List.pairwise_append]
      exact ⟨hlp, by simp, fun a ha b hb => by rw [List.mem_singleton.mp hb]; have := hl a ha; omega⟩
    · intro t ht
      rcases List.mem_append.mp ht with ht | ht
      · have := hl t ht; omega
      · rw [List.mem_singleton.mp ht]; omega
  rintro H6 ⟨mk, x, y, r, w8, ok, haw, hmp, hmo, hml⟩
  have hlim : (1 + (m : Int)).toNat ≤ 6 := by omega
  refine ⟨D, _, rfl, .inl ⟨SqL.of (w8.get 1 rfl), fun am ham => ?_⟩⟩
  have w9 := (w8.new1 (.tup (mk.map V.int)) ham).sub (l' := [(d, dl x y r), (am, .tup (mk.map V.int)), (al, .lst (as.map V.ref)), (tn, .lst (tu.map V.int)), (an, .tup (nm.map V.str)), (aw, .tup (ws.map V.int))]) (by walk_at "sub")
  have haw3 := haw.keep ((KT.refl _).new (o := .tup (mk.map V.int)) ham)
  -- the tuple
  refine ⟨_, rfl, _, rfl, _, rfl, d, tn, x, y, r, tu.map V.int, rfl, .inl (SqL.of (w9.get 3 rfl)), w9.get 0 rfl, ok, ?_, ?_, fun ys q x y r H2 c ok hperm => ?_⟩
  · intro v hv
    obtain ⟨z, _, rfl⟩ := List.mem_map.mp hv
    trivial
  · rw [List.length_map]; exact Nat.le_trans htu.2.2 (by decide)
  obtain ⟨tz, rfl, htz⟩ := perm_of_map V.int hperm
  have haw4 := haw3.keep ((KT.refl _).call c)
  have w10 := w9.call1 (fun xs q => by cases q) c
  refine ⟨q, _, rfl, .inl ⟨SqL.of (w10.get 1 rfl), fun at_ hat => ?_⟩⟩
  have w11 := w10.new1 (.tup (tz.map V.int)) hat
  have haw5 := haw4.keep ((KT.refl _).new (o := .tup (tz.map V.int)) hat)
  obtain ⟨L, e1, e2, hL⟩ := haw5.zip
  have htd : ts.length = L.length := by rw [e2, List.length_map]
  refine ⟨_, rfl, _, rfl, al, as.map V.ref, rfl, SqL.of (w11.get 4 rfl), ?_, ?_, fun ys p hperm hpw hp => ?_⟩
  · rw [List.length_map, haw.length]; omega
  · intro u hu
    obtain ⟨a, ha, rfl⟩ := List.mem_map.mp hu
    rw [e1] at ha
    obtain ⟨g, hg, rfl⟩ := List.mem_map.mp ha
    have ho := hto g.2 (by rw [e2]; exact List.mem_map.mpr ⟨g, hg, rfl⟩)
    refine ⟨[g.2.1, g.2.2.1, g.2.2.2], ⟨g.1, rfl, SqT.of (hL g hg)⟩, rfl, fun z hz => ?_⟩
    obtain ⟨h1, h2, h3, h4, h5⟩ := ho
    have h6 : g.2.2.2 ≤ 12 := by simp at h5; omega
    simp only [List.mem_cons, List.not_mem_nil, or_false] at hz
    rcases hz with rfl | rfl | rfl <;> omega
  rw [e1, List.map_map] at hperm
  obtain ⟨L2, rfl, hL2⟩ := perm_of_map _ hperm
  have w12 := w11.new1 (.lst (L2.map (V.ref ∘ fun x => x.1))) hp
  have hL3 : ∀ g ∈ L2, upd _ p (.lst (L2.map (V.ref ∘ fun x => x.1))) g.1 = some (.tup (tri g.2)) := fun g hg => (upd_ne (ne_of_none (hL g (hL2.mem_iff.mp hg)) hp)).trans (hL g (hL2.mem_iff.mp hg))
  have hsorted : (L2.map (·.2)).Pairwise lexLt := by
    have hpt : (L2.map (·.2)).Perm ts := by rw [e2]; exact hL2.map _
    rw [List.pairwise_map] at hpw
    have hpw2 : L2.Pairwise fun s t => TS.code 13 [s.2.1, s.2.2.1, s.2.2.2] ≤ TS.code 13 [t.2.1, t.2.2.1, t.2.2.2] :=
      hpw.imp_of_mem fun {s t} hs ht h => h _ _ ⟨s.1, rfl, SqT.of (hL s (hL2.mem_iff.mp hs))⟩ ⟨t.1, rfl, SqT.of (hL t (hL2.mem_iff.mp ht))⟩
    have hpw3 : (L2.map (·.2)).Pairwise fun s t => TS.code 13 [s.1, s.2.1, s.2.2] ≤ TS.code 13 [t.1, t.2.1, t.2.2] := List.pairwise_map.mpr hpw2
    exact pairwise_both hpw3 (hpt.nodup_iff.mpr htn) fun a ha b hb h ne => lex_of_code (n := 1 + (m : Int)) (by omega) (hto a (hpt.mem_iff.mp ha)) (hto b (hpt.mem_iff.mp hb)) h ne
  refine ⟨p, _, rfl, .inl ⟨SqL.of (w12.get 1 rfl), fun aa haa => ?_⟩⟩
  have w13 := w12.new1 (.tup (L2.map (V.ref ∘ fun x => x.1))) haa
  refine ⟨_, rfl, (by show 5 ≤ sizeLine; decide), fun a ha => ?_⟩
  have w14 := w13.new1 (.tup [V.ref an, V.ref at_, V.ref aw, V.ref aa, V.ref am]) ha
  have hpt : (L2.map (·.2)).Perm ts := by rw [e2]; exact hL2.map _
  refine k ⟨nm, tz, ws, L2.map (·.2), mk⟩ a x y r _ (w14.sub (by walk_at "sub")) ok ?_ ?_ (by show nm.length ≤ _; omega)
  · refine ⟨an, at_, aw, aa, am, L2.map (·.1), w14.get 1 rfl, w14.get 9 rfl, w14.get 4 rfl, w14.get 10 rfl, ?_, AwAt.of fun g hg => ?_, w14.get 6 rfl⟩
    · rw [List.map_map]; exact w14.get 2 rfl
    · rw [upd_ne (ne_of_none ((upd_ne (ne_of_none (hL3 g hg) haa)).trans (hL3 g hg)) ha), upd_ne (ne_of_none (hL3 g hg) haa)]
      exact hL3 g hg
  · have hmm : nm.length = m + 1 := hnm.1
    refine ⟨by show 1 ≤ nm.length; omega, by show nm.length ≤ 6; omega, hnm.2.1, hnm.2.2, ?_, ?_, ?_, ?_, hw0, hsorted, ?_, ?_, hmp, ?_⟩
    · intro t ht
      have := htu.1 t (htz.mem_iff.mp ht)
      show 0 ≤ t ∧ t < (nm.length : Int)
      omega
    · intro k hk
      have hk2 : k < nm.length := hk
      exact htz.mem_iff.mpr (htu.2.1 k (by omega))
    · show tz.length ≤ 12
      rw [htz.length_eq]; exact htu.2.2
    · show ws.length = nm.length
      omega
    · show (L2.map (·.2)).length ≤ 6
      rw [hpt.length_eq]; exact htl6
    · intro t ht
      have := hto t (hpt.mem_iff.mp ht)
      show AwOk (nm.length : Int) t
      rw [hmm, show ((m + 1 : Nat) : Int) = 1 + (m : Int) by omega]
      exact this
    · intro k hk
      have := hmo k hk
      show 0 ≤ k ∧ k < (nm.length : Int)
      omega
end
end Br

namespace Br
open PySem PySem.Spec PyProof.Rows L2
/-! ### the canonical text of a rota, as a function -/
def num (i : Int) : Str := (toString i : String)
def nm (r : Rota) (k : Int) : Str := r.names.getD k.toNat Str.empty
def awW (r : Rota) (t : Int × Int × Int) : List Str := ["away", nm r t.1, num t.2.1, "of", num t.2.2]
def heavy (r : Rota) : Bool := r.weights.any fun v => decide (1 < v)
def lines2 (r : Rota) : List (List Str) := ["people" :: r.names, "turns" :: r.turns.map (nm r)]
def linesW (r : Rota) : List (List Str) := if heavy r = true then ["weights" :: r.weights.map num] else []
def linesM (r : Rota) : List (List Str) := if r.makers.isEmpty = true then [] else ["makeup" :: r.makers.map (nm r)]
def lineWords (r : Rota) : List (List Str) := lines2 r ++ linesW r ++ r.aways.map (awW r) ++ linesM r
def lineS (ws : List Str) : Str := Txt.join " " ws ++ ";"
def textOf (r : Rota) : Str := Txt.join "\n" ((lineWords r).map lineS)
/-! ### sizes -/
theorem joinL_len (S : List Nat) : ∀ ps : List (List Nat), (TL.joinL S ps).length ≤ (ps.map fun p => p.length + S.length).sum
  | [] => Nat.zero_le _
  | [p] => by simp [TL.joinL]
  | p :: q :: r => by
    have := joinL_len S (q :: r)
    rw [TL.joinL, List.length_append, List.length_append, List.map_cons, List.sum_cons]
    omega
theorem sum_le {α : Type} (f : α → Nat) (b : Nat) : ∀ l : List α, (∀ x ∈ l, f x ≤ b) → (l.map f).sum ≤ l.length * b
  | [], _ => by simp
  | x :: l, h => by
    have h1 := h x List.mem_cons_self
    have h2 := sum_le f b l fun y hy => h y (List.mem_cons_of_mem _ hy)
    rw [List.map_cons, List.sum_cons, List.length_cons, Nat.succ_mul]
    omega
theorem join_len (y : Str) (ps : List Str) (b : Nat) (h : ∀ p ∈ ps, p.length ≤ b) : (Txt.join y ps).length ≤ ps.length * (b + y.length) := by
  rw [TL.join_eq, TL.len_tl, TL.tl_join]
  refine Nat.le_trans (joinL_len _ _) ?_
  rw [List.map_map]
  refine sum_le _ _ _ fun p hp => ?_
  have h1 := h p hp
  rw [TL.len_tl] at h1
  show (TL.tl p).length + (TL.tl y).length ≤ b + y.length
  rw [← TL.len_tl y]; omega
theorem app_len (x y : Str) : (x ++ y).length = x.length + y.length := by
  rw [TL.len_tl, TL.tl_append, List.length_append, ← TL.len_tl, ← TL.len_tl]
theorem num_len {n : Nat} (h : n < 10000) : (num n).length ≤ 4 := by
  unfold num
  rw [TL.len_tl]
  show (TL.tl (Str.ofString (toString ((n : Nat) : Int)))).length ≤ 4
  rw [TL.tl_num]
  exact TL.numL_len (by decide) (by simpa using h)
theorem num_len' {i : Int} (h0 : 0 ≤ i) (h : i < 10000) : (num i).length ≤ 4 := by
  obtain ⟨n, rfl⟩ : ∃ n : Nat, i = n := ⟨i.toNat, by omega⟩
  exact num_len (by omega)
theorem nm_mem {r : Rota} {k : Int} (h0 : 0 ≤ k) (h : k < r.names.length) : r.names[k.toNat]? = some (nm r k) := by
  unfold nm
  rw [List.getD_eq_getElem?_getD, List.getElem?_eq_getElem (by omega)]; rfl
theorem six_len : ∀ s ∈ six, s.length ≤ 8 := by decide +kernel
theorem nm_len {r : Rota} (ok : ROk r) {k : Int} (h0 : 0 ≤ k) (h : k < r.names.length) : (nm r k).length ≤ 8 :=
  six_len _ (ok.six _ (List.mem_of_getElem? (nm_mem h0 h)))
/-- ascending numbers below n are at most n -/
theorem asc_len : ∀ {n : Nat} {l : List Int}, l.Pairwise (· < ·) → (∀ k ∈ l, 0 ≤ k ∧ k < n) → l.length ≤ n := by
  intro n l hp h
  have key : ∀ (l : List Int) (lo : Int), l.Pairwise (· < ·) → (∀ k ∈ l, lo ≤ k ∧ k < n) → (l.length : Int) ≤ max 0 (n - lo) := by
    intro l
    induction l with
    | nil => intro lo _ _; simp; omega
    | cons a l ih =>
      intro lo hp h
      rw [List.pairwise_cons] at hp
      have h1 := h a List.mem_cons_self
      have := ih (a + 1) hp.2 fun k hk => ⟨by have := hp.1 k hk; omega, (h k (List.mem_cons_of_mem _ hk)).2⟩
      rw [List.length_cons]
      omega
  have := key l 0 hp h
  omega
theorem words_len {r : Rota} (ok : ROk r) : ∀ ws ∈ lineWords r, ws.length ≤ 13 ∧ ∀ x ∈ ws, x.length ≤ 8 := by
  intro ws hws
  simp only [lineWords, List.mem_append] at hws
  rcases hws with ((h | h) | h) | h
  · simp only [lines2, List.mem_cons, List.not_mem_nil, or_false] at h
    rcases h with rfl | rfl
    · refine ⟨by rw [List.length_cons]; have := ok.n6; omega, fun x hx => ?_⟩
      rcases List.mem_cons.mp hx with rfl | hx
      · decide
      · exact six_len _ (ok.six x hx)
    · refine ⟨by rw [List.length_cons, List.length_map]; have := ok.t12; omega, fun x hx => ?_⟩
      rcases List.mem_cons.mp hx with rfl | hx
      · decide
      · obtain ⟨t, ht, rfl⟩ := List.mem_map.mp hx
        exact nm_len ok (ok.t0 t ht).1 (ok.t0 t ht).2
  · unfold linesW at h
    split at h
    · rw [List.mem_singleton.mp h]
      refine ⟨by rw [List.length_cons, List.length_map, ok.wl]; have := ok.n6; omega, fun x hx => ?_⟩
      rcases List.mem_cons.mp hx with rfl | hx
      · decide
      · obtain ⟨v, hv, rfl⟩ := List.mem_map.mp hx
        have := ok.w0 v hv
        exact Nat.le_trans (num_len' (by omega) (by omega)) (by decide)
    · cases h
  · obtain ⟨t, ht, rfl⟩ := List.mem_map.mp h
    obtain ⟨h1, h2, h3, h4, h5⟩ := ok.a0 t ht
    have h6 : t.2.2 ≤ 12 := by simp at h5; omega
    refine ⟨by show 5 ≤ 13; decide, fun x hx => ?_⟩
    simp only [awW, List.mem_cons, List.not_mem_nil, or_false] at hx
    rcases hx with rfl | rfl | rfl | rfl | rfl
    · decide
    · exact nm_len ok h1 h2
    · exact Nat.le_trans (num_len' (by omega) (by omega)) (by decide)
    · decide
    · exact Nat.le_trans (num_len' (by omega) (by omega)) (by decide)
  · unfold linesM at h
    split at h
    · cases h
    · rw [List.mem_singleton.mp h]
      have hm : r.makers.length ≤ 6 := by
        have := asc_len ok.masc (n := r.names.length) ok.m0
        have := ok.n6
        omega
      refine ⟨by rw [List.length_cons, List.length_map]; omega, fun x hx => ?_⟩
      rcases List.mem_cons.mp hx with rfl | hx
      · decide
      · obtain ⟨k, hk, rfl⟩ := List.mem_map.mp hx
        exact nm_len ok (ok.m0 k hk).1 (ok.m0 k hk).2
theorem lineS_len {ws : List Str} (h1 : ws.length ≤ 13) (h2 : ∀ x ∈ ws, x.length ≤ 8) : (lineS ws).length ≤ 200 := by
  unfold lineS
  rw [app_len]
  have := join_len " " ws 8 h2
  have e1 : ((" " : Str)).length = 1 := by decide
  have e2 : ((";" : Str)).length = 1 := by decide
  rw [e1] at this
  rw [e2]
  omega
theorem lines_few {r : Rota} (ok : ROk r) : (lineWords r).length ≤ 10 := by
  unfold lineWords lines2 linesW linesM
  rw [List.length_append, List.length_append, List.length_append, List.length_map]
  have := ok.a6
  have h1 : (if heavy r = true then [("weights" : Str) :: r.weights.map num] else []).length ≤ 1 := by split <;> simp
  have h2 : (if r.makers.isEmpty = true then [] else [("makeup" : Str) :: r.makers.map (nm r)]).length ≤ 1 := by split <;> simp
  simp only [List.length_cons, List.length_nil]
  omega
/-- the lines' lists on the heap -/
def TL1 (L : List (Addr × List Str)) : List (Addr × HO) := L.map fun q => (q.1, HO.lst (q.2.map V.str))
def refs (L : List (Addr × List Str)) : List V := L.map fun q => V.ref q.1
theorem TL1_append (L M : List (Addr × List Str)) : TL1 (L ++ M) = TL1 L ++ TL1 M := List.map_append
theorem refs_append (L M : List (Addr × List Str)) : refs (L ++ M) = refs L ++ refs M := List.map_append
theorem refs_length (L : List (Addr × List Str)) : (refs L).length = L.length := List.length_map _
section
variable {P : Program} {w : World} {K : PySem.W.Frag} {mg : Str → Option Value} {base : Heap}
theorem AwAt.at {H : Hp} : ∀ {as : List Addr} {ts : List (Int × Int × Int)} {i : Nat} {a : Addr}, AwAt H as ts → as[i]? = some a → ∃ t, ts[i]? = some t ∧ H a = some (.tup (tri t))
  | _, _, i, a, .nil, h => by simp at h
  | _, _, 0, a, .cons h _, e => by simp at e; subst e; exact ⟨_, rfl, h⟩
  | _, _, i + 1, a, .cons _ t, e => by simpa using AwAt.at t (i := i) (by simpa using e)
theorem shaped_tup {xs : List V} (h : ∀ v ∈ xs, IS v) : SeqAt.shaped (.tuple (xs.map dataOf)) = true := by
  unfold SeqAt.shaped
  rw [PyData.canLay0, lay_all h, PyData.depth, depth_all]; rfl
theorem eqv_nilT (ds : List PyData) : PyData.eqv (.tuple ds) (.tuple []) = ds.isEmpty := by
  rw [PyData.eqv]; cases ds <;> rfl
/-- a new line is appended -/
theorem lines_push {M : List Addr} {H0 H : Hp} {ll p : Addr} {L : List (Addr × List Str)} {ws : List Str} {X : List (Addr × HO)} (w : Wd M H0 H ((p, .lst (ws.map V.str)) :: (ll, .lst (refs L)) :: (TL1 L ++ X))) :
    Wd M H0 (upd H ll (.lst (refs L ++ [V.ref p]))) ((ll, .lst (refs (L ++ [(p, ws)]))) :: (TL1 (L ++ [(p, ws)]) ++ X)) := by
  have w1 := w.put 1 (.lst (refs L ++ [V.ref p])) rfl (fun xs q => by cases q)
  rw [refs_append, TL1_append]
  refine w1.perm ?_
  show List.Perm ((p, HO.lst (ws.map V.str)) :: (ll, HO.lst (refs L ++ [V.ref p])) :: (TL1 L ++ X)) ((ll, HO.lst (refs L ++ [V.ref p])) :: ((TL1 L ++ [(p, HO.lst (ws.map V.str))]) ++ X))
  refine (List.Perm.swap _ _ _).trans (List.Perm.cons _ ?_)
  rw [List.append_assoc]
  exact List.perm_middle.symm
def spText : Sp := fun vs H Q _ => ∃ (a : Addr) (r : Rota), vs = [.ref a] ∧ RotaAt H a r ∧ ROk r ∧ ∀ H' : Hp, Wd [] H H' [] → Q (.str (textOf r)) H'
abbrev s_law_text : Stmt := topS 53
theorem sc_law_text : FnScope ["_law_rota_here", "_law_names", "_law_turns", "_law_weights", "_law_aways", "_law_makers", "_law_lines", "_law_k", "_law_weight", "_law_first", "_law_second", "_law_line"] ["_law_rota_here"] (defScope s_law_text) := ⟨rfl, rfl, rfl, by decide +kernel, rfl, by decide +kernel, by decide +kernel⟩
theorem cal_text (D : DefAt K mg "_law_text" s_law_text ["_law_rota_here"]) (T : Bi mg) : Cal P w K mg base 1 "_law_text" ["_law_rota_here"] spText := D.cal fun f fd F => by
  have nd := sc_law_text.nd
  refine F.ok sc_law_text (fun vs H Q E h => ?_) (fun cdv A outer s H vs Q E hr h => ?_)
  · obtain ⟨a, r, rfl, _⟩ := h; rfl
  obtain ⟨a, r, rfl, ⟨an, at_, aw, aa, am, as, h1, h2, h3, h4, h5, h6, h7⟩, ok, k⟩ := h
  have hu := hr.units
  have keep : ∀ {H' : Hp} {l : List (Addr × HO)}, Wd [] H H' l → ∀ {b : Addr} {xs : List V}, H b = some (.tup xs) → SqT K H' b xs := fun w _ _ e => SqT.of (w.tups _ _ e)
  refine ⟨_, (pss_cons (ps_asg (pv 0) (pg_tupK (K := K) (n := 5) rfl rfl (pgs_cons (pg_name (i := 1) nd rfl (Or.inr rfl)) (pgs_cons (pg_name (i := 2) nd rfl (Or.inl rfl)) (pgs_cons (pg_name (i := 3) nd rfl (Or.inl rfl)) (pgs_cons (pg_name (i := 4) nd rfl (Or.inl rfl)) (pgs_cons (pg_name (i := 5) nd rfl (Or.inl rfl)) pgs_nil)))))))
 (pss_cons (ps_set (i := 6) nd rfl (Or.inl rfl) (pe_lst (pa_cons (pe_op op_cat (pe_lst (pa_cons pe_str pa_nil)) (pe_callTy (r := rListOf K) call_list_of (by rfl) T.list (by decide +kernel) (pa_cons (pv 1) pa_nil))) (pa_cons (pe_op op_cat (pe_lst (pa_cons pe_str pa_nil)) (pe_lc (own := [("_law_k", 7)]) rfl nd (pi_tupK (K := K) rfl (pv 2)) (blkOk_by (N := ["_law_rota_here", "_law_names", "_law_turns", "_law_weights", "_law_aways", "_law_makers", "_law_lines", "_law_k", "_law_weight", "_law_first", "_law_second", "_law_line"]) (sc := defScope s_law_text) (by decide +kernel)) (fun _ _ _ _ _ => (pg_name (i := 7) nd rfl (Or.inl rfl))) (fun _ _ _ _ _ => pts_nil) (fun _ _ _ _ _ => (pe_ix (r := rIxT K) ix_tup (pv 1) (pv 7) (fun _ _ => rfl))))) pa_nil))))
 (C8.pss_cut (ps_if (pt_cmpR op_gt (pe_callB (r := rMaxT K) (cr_maxT rfl hu) (by rfl) T.max (by decide +kernel) (pa_cons (pv 3) pa_nil)) pe_int (nomark _))
 (pss_one (ps_expr (pe_bmK (K := K) rfl PySem.F.plainAttrs_list PySem.F.slot_list_append PySem.F.type_list_append mt_append (pv 6) (pa_cons (pe_op op_cat (pe_lst (pa_cons pe_str pa_nil)) (pe_lc (own := [("_law_weight", 8)]) rfl nd (pi_tupK (K := K) rfl (pv 3)) (blkOk_by (N := ["_law_rota_here", "_law_names", "_law_turns", "_law_weights", "_law_aways", "_law_makers", "_law_lines", "_law_k", "_law_weight", "_law_first", "_law_second", "_law_line"]) (sc := defScope s_law_text) (by decide +kernel)) (fun _ _ _ _ _ => (pg_name (i := 8) nd rfl (Or.inl rfl))) (fun _ _ _ _ _ => pts_nil) (fun _ _ _ _ _ => (pe_callTy call_str_int (by rfl) T.str (by decide +kernel) (pa_cons (pv 8) pa_nil))))) pa_nil))))
 pss_nil)
 (pss_cons (ps_set (i := 6) nd rfl (Or.inl rfl) (pe_op op_cat (pv 6) (pe_lc (own := [("_law_k", 7), ("_law_first", 9), ("_law_second", 10)]) rfl nd (pi_tupK (K := K) rfl (pv 4)) (blkOk_by (N := ["_law_rota_here", "_law_names", "_law_turns", "_law_weights", "_law_aways", "_law_makers", "_law_lines", "_law_k", "_law_weight", "_law_first", "_law_second", "_law_line"]) (sc := defScope s_law_text) (by decide +kernel)) (fun _ _ _ _ _ => (pg_tupK (K := K) (n := 3) rfl rfl (pgs_cons (pg_name (i := 7) nd rfl (Or.inl rfl)) (pgs_cons (pg_name (i := 9) nd rfl (Or.inl rfl)) (pgs_cons (pg_name (i := 10) nd rfl (Or.inl rfl)) pgs_nil))))) (fun _ _ _ _ _ => pts_nil) (fun _ _ _ _ _ => (pe_lst (pa_cons pe_str (pa_cons (pe_ix (r := rIxT K) ix_tup (pv 1) (pv 7) (fun _ _ => rfl)) (pa_cons (pe_callTy call_str_int (by rfl) T.str (by decide +kernel) (pa_cons (pv 9) pa_nil)) (pa_cons pe_str (pa_cons (pe_callTy call_str_int (by rfl) T.str (by decide +kernel) (pa_cons (pv 10) pa_nil)) pa_nil))))))))))
 (C8.pss_cut (ps_if (pt_cmpR (r := rNeD K) (op_neD hu) (pv 5) (pe_tup pa_nil) (nomark _))
 (pss_one (ps_expr (pe_bmK (K := K) rfl PySem.F.plainAttrs_list PySem.F.slot_list_append PySem.F.type_list_append mt_append (pv 6) (pa_cons (pe_op op_cat (pe_lst (pa_cons pe_str pa_nil)) (pe_lc (own := [("_law_k", 7)]) rfl nd (pi_tupK (K := K) rfl (pv 5)) (blkOk_by (N := ["_law_rota_here", "_law_names", "_law_turns", "_law_weights", "_law_aways", "_law_makers", "_law_lines", "_law_k", "_law_weight", "_law_first", "_law_second", "_law_line"]) (sc := defScope s_law_text) (by decide +kernel)) (fun _ _ _ _ _ => (pg_name (i := 7) nd rfl (Or.inl rfl))) (fun _ _ _ _ _ => pts_nil) (fun _ _ _ _ _ => (pe_ix (r := rIxT K) ix_tup (pv 1) (pv 7) (fun _ _ => rfl))))) pa_nil))))
 pss_nil)
 (pss_one (ps_ret (pe_joinK (K := K) rfl pe_str (pe_lc (own := [("_law_line", 11)]) rfl nd (pi_listK (K := K) rfl (pv 6)) (blkOk_by (N := ["_law_rota_here", "_law_names", "_law_turns", "_law_weights", "_law_aways", "_law_makers", "_law_lines", "_law_k", "_law_weight", "_law_first", "_law_second", "_law_line"]) (sc := defScope s_law_text) (by decide +kernel)) (fun _ _ _ _ _ => (pg_name (i := 11) nd rfl (Or.inl rfl))) (fun _ _ _ _ _ => pts_nil) (fun _ _ _ _ _ => (pe_op op_add_str (pe_joinK (K := K) rfl pe_str (pv 11)) pe_str))))))))))), ?_⟩
  refine ⟨_, rfl, a, _, rfl, SqT.of h1, rfl, _, _, rfl, _, _, rfl, _, _, rfl, _, _, rfl, _, _, rfl, rfl, ?_⟩
  -- the first two lines
  refine ⟨(by show 1 ≤ sizeLine; decide), fun p1 hp1 => ?_⟩
  have w1 := (Wd.refl H).new (.lst ((["people"] : List Str).map V.str)) hp1
  refine ⟨_, rfl, an, _, rfl, .inr (keep w1 h2), fun p2 hp2 => ?_⟩
  have w2 := w1.new (.lst (r.names.map V.str)) hp2
  have n6 := ok.n6
  have t12 := ok.t12
  refine ⟨p1, p2, _, _, rfl, rfl, w2.get 1 rfl, w2.get 0 rfl, (Nat.le_trans (m := 100) (by simp only [List.length_map, List.length_cons, List.length_nil]; omega) (by decide)), fun l1 hl1 => ?_⟩
  have w3 := (w2.new (.lst ((("people" : Str) :: r.names).map V.str)) hl1).sub (l' := [(l1, .lst ((("people" : Str) :: r.names).map V.str))]) (by walk_at "sub")
  refine ⟨(by show 1 ≤ sizeLine; decide), fun p3 hp3 => ?_⟩
  have w4 := w3.new (.lst ((["turns"] : List Str).map V.str)) hp3
  refine ⟨_, rfl, at_, rfl, ⟨_, keep w4 h3⟩, fun D1 hD1 => ?_⟩
  refine lc_tupF (K := K) (a := at_) (xs := r.turns.map V.int) (fun _ => true) (fun v => match v with | .int i => V.str (nm r i) | v => v) w4 hD1 (fun H' c w => keep w h3) (by rw [List.length_map]; omega) (fun H' ⟨c, w⟩ i x hx R S hR _ => ?_) (fun H' w5 => ?_)
  · obtain ⟨t, ht, rfl⟩ := int_of_map hx
    have h0 := ok.t0 t (List.mem_of_getElem? ht)
    refine ⟨rfl, _, rfl, _, rfl, an, _, _, _, rfl, rfl, keep w h2, ?_, hR rfl⟩
    exact at_of (j := t.toNat) (by omega) (by rw [List.getElem?_map, nm_mem h0.1 h0.2]; rfl)
  have e5 : (r.turns.map V.int).map (fun v => match v with | .int i => V.str (nm r i) | v => v) = (r.turns.map (nm r)).map V.str := by rw [List.map_map, List.map_map]; rfl
  rw [filter_yes, e5] at w5
  refine ⟨p3, D1, _, _, rfl, rfl, w5.get 1 rfl, w5.get 0 rfl, (Nat.le_trans (m := 100) (by simp only [List.length_map, List.length_cons, List.length_nil]; omega) (by decide)), fun l2 hl2 => ?_⟩
  have w6 := (w5.new (.lst ((("turns" : Str) :: r.turns.map (nm r)).map V.str)) hl2).sub (l' := [(l2, .lst ((("turns" : Str) :: r.turns.map (nm r)).map V.str)), (l1, .lst ((("people" : Str) :: r.names).map V.str))]) (by walk_at "sub")
  refine ⟨(by show 2 ≤ sizeLine; decide), fun ll hll => ?_⟩
  have w7 : Wd [] H _ ((ll, .lst (refs [(l1, ("people" : Str) :: r.names), (l2, ("turns" : Str) :: r.turns.map (nm r))])) :: (TL1 [(l1, ("people" : Str) :: r.names), (l2, ("turns" : Str) :: r.turns.map (nm r))] ++ [])) :=
    (w6.new (.lst [V.ref l1, V.ref l2]) hll).perm (List.Perm.cons _ (List.Perm.swap _ _ _))
  -- weights
  refine ⟨fun σ H' => ∃ (ll : Addr) (L : List (Addr × List Str)), σ = [some (.ref a), some (.ref an), some (.ref at_), some (.ref aw), some (.ref aa), some (.ref am), some (.ref ll), none, none, none, none, none] ∧
    Wd [] H H' ((ll, .lst (refs L)) :: (TL1 L ++ [])) ∧ L.map (·.2) = lines2 r ++ linesW r, ?_, ?_⟩
  · have hw0 : 0 < r.weights.length := by have := ok.wl; have := ok.n1; omega
    refine ⟨_, rfl, aw, r.weights, rfl, keep w7 h4, hw0, fun m hm hmax => ?_⟩
    refine ⟨_, _, rfl, rfl, _, rfl, ?_⟩
    refine ite2 (fun hc => ?_) (fun hc => ?_)
    · have hh : heavy r = true := List.any_eq_true.mpr ⟨m, hm, hc⟩
      refine ⟨_, rfl, .inl ⟨rfl, _, SqL.of (w7.get 0 rfl)⟩, (by show 1 ≤ sizeLine; decide), fun p hp => ?_⟩
      have w8 := w7.new (.lst ((["weights"] : List Str).map V.str)) hp
      refine ⟨_, rfl, aw, rfl, ⟨_, keep w8 h4⟩, fun D hD => ?_⟩
      refine lc_tupF (K := K) (a := aw) (xs := r.weights.map V.int) (fun _ => true) (fun v => match v with | .int i => V.str (num i) | v => v) w8 hD (fun H' c w => keep w h4) (by rw [List.length_map, ok.wl]; omega) (fun H' ⟨c, w⟩ i x hx R S hR _ => ?_) (fun H' w9 => ?_)
      · obtain ⟨t, ht, rfl⟩ := int_of_map hx
        have h0 := ok.w0 t (List.mem_of_getElem? ht)
        exact ⟨rfl, _, rfl, t, rfl, Nat.lt_of_le_of_lt (Nat.log2_le_self _) (by omega), hR rfl⟩
      have e9 : (r.weights.map V.int).map (fun v => match v with | .int i => V.str (num i) | v => v) = (r.weights.map num).map V.str := by rw [List.map_map, List.map_map]; rfl
      rw [filter_yes, e9] at w9
      refine ⟨p, D, _, _, rfl, rfl, w9.get 1 rfl, w9.get 0 rfl, (Nat.le_trans (m := 100) (by simp only [List.length_map, List.length_cons, List.length_nil, ok.wl]; omega) (by decide)), fun l hl => ?_⟩
      have w10 := (w9.new (.lst ((("weights" : Str) :: r.weights.map num).map V.str)) hl).sub (l' := (l, .lst ((("weights" : Str) :: r.weights.map num).map V.str)) :: (ll, .lst (refs [(l1, ("people" : Str) :: r.names), (l2, ("turns" : Str) :: r.turns.map (nm r))])) :: (TL1 [(l1, ("people" : Str) :: r.names), (l2, ("turns" : Str) :: r.turns.map (nm r))] ++ [])) (by walk_at "sub")
      refine ⟨ll, _, _, rfl, rfl, w10.get 1 rfl, (by show 2 < sizeLine; decide), ?_⟩
      have w11 := lines_push w10
      exact ⟨ll, _, rfl, w11, by simp [lines2, linesW, hh]⟩
    · refine ⟨ll, _, rfl, w7, ?_⟩
      have hh : heavy r = false := by
        rw [Bool.eq_false_iff]
        intro hh
        obtain ⟨v, hv, hv1⟩ := List.any_eq_true.mp hh
        have := hmax v hv
        have := of_decide_eq_true hv1
        exact hc (decide_eq_true (by omega))
      simp [lines2, linesW, hh]
  rintro σ H1 ⟨ll, L, rfl, w8, hL⟩
  have hLl : L.length ≤ 3 := by
    have := congrArg List.length hL
    rw [List.length_map, List.length_append] at this
    have h2 : (linesW r).length ≤ 1 := by unfold linesW; split <;> simp
    simp only [lines2, List.length_cons, List.length_nil] at this
    omega
  have a6 := ok.a6
  -- the absences
  refine ⟨_, rfl, _, rfl, aa, rfl, ⟨_, keep w8 h5⟩, fun D hD => ?_⟩
  have w9 := w8.new (.lst []) hD
  refine lc_tup (K := K) (a := aa) (xs := as.map V.ref) (fun i H2 => ∃ L2 : List (Addr × List Str), Wd [] H H2 ((D, .lst (refs L2)) :: (TL1 L2 ++ ((ll, HO.lst (refs L)) :: (TL1 L ++ [])))) ∧ L2.map (·.2) = (r.aways.take i).map (awW r))
    ⟨[], w9, rfl⟩ (fun i H2 _ ⟨L2, w, _⟩ => keep w h5) ?_ ?_
  · rintro i x H2 hx ⟨L2, w10, hL2⟩
    obtain ⟨b, hb, rfl⟩ : ∃ b, as[i]? = some b ∧ x = V.ref b := by
      rw [List.getElem?_map] at hx
      cases e : as[i]? with
      | none => rw [e] at hx; cases hx
      | some b => rw [e] at hx; exact ⟨b, rfl, (Option.some.inj hx).symm⟩
    obtain ⟨t, ht, hbt⟩ := h6.at hb
    obtain ⟨g1, g2, g3, g4, g5⟩ := ok.a0 t (List.mem_of_getElem? ht)
    have g6 : t.2.2 ≤ 12 := by simp at g5; omega
    have hl2 : L2.length = i := by
      have h8 := congrArg List.length hL2
      rw [List.length_map, List.length_map, List.length_take] at h8
      have := (List.getElem?_eq_some_iff.mp ht).1
      omega
    have hi6 := (List.getElem?_eq_some_iff.mp ht).1
    refine ⟨b, tri t, rfl, keep w10 hbt, rfl, _, _, rfl, _, _, rfl, _, _, rfl, rfl, rfl, ?_⟩
    refine ⟨_, rfl, _, rfl, an, _, _, _, rfl, rfl, keep w10 h2, at_of (j := t.1.toNat) (by omega) (by rw [List.getElem?_map, nm_mem g1 g2]; rfl), ?_⟩
    refine ⟨_, rfl, t.2.1, rfl, Nat.lt_of_le_of_lt (Nat.log2_le_self _) (by omega), ?_⟩
    refine ⟨_, rfl, t.2.2, rfl, Nat.lt_of_le_of_lt (Nat.log2_le_self _) (by omega), ?_⟩
    refine ⟨(by show 5 ≤ sizeLine; decide), fun p hp => ?_⟩
    have w11 := w10.new (.lst ((awW r t).map V.str)) hp
    refine ⟨refs L2, w11.get 1 rfl, ?_, L2 ++ [(p, awW r t)], ?_, ?_⟩
    · rw [refs_length]; exact Nat.lt_of_le_of_lt (m := 100) (by omega) (by decide)
    · exact lines_push w11
    · rw [List.map_append, hL2, take_more ht, List.map_append]; rfl
  rintro H2 ⟨L2, w10, hL2⟩
  rw [List.length_map, h6.length, List.take_length] at hL2
  have hL2l : L2.length ≤ 6 := by
    have h8 := congrArg List.length hL2
    rw [List.length_map, List.length_map] at h8
    omega
  have hll := w10.at_ (ll, .lst (refs L)) (by simp)
  refine ⟨ll, D, _, _, rfl, rfl, hll, w10.get 0 rfl, ?_, fun ll2 hll2 => ?_⟩
  · rw [refs_length, refs_length]; exact Nat.le_trans (m := 100) (by omega) (by decide)
  have w11 : Wd [] H (upd H2 ll2 (.lst (refs L ++ refs L2))) ((ll2, .lst (refs (L ++ L2))) :: (TL1 (L ++ L2) ++ [])) := by
    have w12 := w10.new (.lst (refs L ++ refs L2)) hll2
    rw [refs_append, TL1_append]
    refine (w12.perm (l' := (ll2, HO.lst (refs L ++ refs L2)) :: (D, HO.lst (refs L2)) :: (ll, HO.lst (refs L)) :: (TL1 L ++ TL1 L2 ++ [])) ?_).sub (by walk_at "sub")
    refine List.Perm.cons _ (List.Perm.cons _ ?_)
    rw [List.append_nil, List.append_nil]
    exact List.perm_middle.trans (List.Perm.cons _ List.perm_append_comm)
  have hL3 : (L ++ L2).map (·.2) = lines2 r ++ linesW r ++ r.aways.map (awW r) := by rw [List.map_append, hL, hL2]
  have hL3l : (L ++ L2).length ≤ 9 := by rw [List.length_append]; omega
  generalize L ++ L2 = L3 at w11 hL3 hL3l
  clear w10 w9 w8
  -- who makes up
  refine ⟨fun σ H' => ∃ (ll : Addr) (L : List (Addr × List Str)), σ = [some (.ref a), some (.ref an), some (.ref at_), some (.ref aw), some (.ref aa), some (.ref am), some (.ref ll), none, none, none, none, none] ∧
    Wd [] H H' ((ll, .lst (refs L)) :: (TL1 L ++ [])) ∧ L.map (·.2) = lineWords r, ?_, ?_⟩
  · refine ⟨_, rfl, Nat.zero_le _, fun e he => ?_⟩
    have w12 := w11.new (.tup []) he
    have hms : ∀ v ∈ r.makers.map V.int, IS v := fun v hv => by
      obtain ⟨z, _, rfl⟩ := List.mem_map.mp hv
      trivial
    refine ⟨.tuple ((r.makers.map V.int).map dataOf), .tuple [], .tup (keep w12 h7) (dp_all hms), .tup (SqT.of (w12.get 0 rfl)) .nil, shaped_tup hms, rfl, _, rfl, ?_⟩
    rw [eqv_nilT]
    have hie : ((r.makers.map V.int).map dataOf).isEmpty = r.makers.isEmpty := by cases r.makers <;> rfl
    rw [hie]
    have mlen : r.makers.length ≤ 6 := by
      have := asc_len ok.masc (n := r.names.length) ok.m0
      omega
    cases hm : r.makers.isEmpty with
    | true =>
      refine ⟨ll2, L3, rfl, w12.sub (List.Sublist.cons _ (List.Sublist.refl _)), ?_⟩
      rw [hL3, lineWords, linesM, if_pos hm, List.append_nil]
    | false =>
      refine ⟨_, rfl, .inl ⟨rfl, _, SqL.of (w12.get 1 rfl)⟩, (by show 1 ≤ sizeLine; decide), fun p hp => ?_⟩
      have w13 := w12.new (.lst ((["makeup"] : List Str).map V.str)) hp
      refine ⟨_, rfl, am, rfl, ⟨_, keep w13 h7⟩, fun D hD => ?_⟩
      refine lc_tupF (K := K) (a := am) (xs := r.makers.map V.int) (fun _ => true) (fun v => match v with | .int i => V.str (nm r i) | v => v) w13 hD (fun H' c w => keep w h7) (by rw [List.length_map]; omega) (fun H' ⟨c, w⟩ i x hx R S hR _ => ?_) (fun H' w14 => ?_)
      · obtain ⟨t, ht, rfl⟩ := int_of_map hx
        have h0 := ok.m0 t (List.mem_of_getElem? ht)
        refine ⟨rfl, _, rfl, _, rfl, an, _, _, _, rfl, rfl, keep w h2, ?_, hR rfl⟩
        exact at_of (j := t.toNat) (by omega) (by rw [List.getElem?_map, nm_mem h0.1 h0.2]; rfl)
      have e14 : (r.makers.map V.int).map (fun v => match v with | .int i => V.str (nm r i) | v => v) = (r.makers.map (nm r)).map V.str := by rw [List.map_map, List.map_map]; rfl
      rw [filter_yes, e14] at w14
      refine ⟨p, D, _, _, rfl, rfl, w14.get 1 rfl, w14.get 0 rfl, (Nat.le_trans (m := 100) (by simp only [List.length_map, List.length_cons, List.length_nil]; omega) (by decide)), fun l hl => ?_⟩
      have w15 := (w14.new (.lst ((("makeup" : Str) :: r.makers.map (nm r)).map V.str)) hl).sub (l' := (l, .lst ((("makeup" : Str) :: r.makers.map (nm r)).map V.str)) :: (ll2, .lst (refs L3)) :: (TL1 L3 ++ [])) (by walk_at "sub")
      refine ⟨ll2, _, _, rfl, rfl, w15.get 1 rfl, (by rw [refs_length]; exact Nat.lt_of_le_of_lt (m := 100) (by omega) (by decide)), ?_⟩
      refine ⟨ll2, _, rfl, lines_push w15, ?_⟩
      rw [List.map_append, hL3, lineWords, linesM, hm]; rfl
  rintro σ H3 ⟨ll3, L4, rfl, w12, hL4⟩
  have hL4l : L4.length ≤ 10 := by
    have h8 := congrArg List.length hL4
    rw [List.length_map] at h8
    have := lines_few ok
    omega
  -- the text
  refine ⟨⟨_, rfl⟩, _, rfl, ll3, rfl, ⟨_, SqL.of (w12.get 0 rfl)⟩, fun D hD => ?_⟩
  have w13 := w12.new (.lst []) hD
  refine lc_list (K := K) (a := ll3) (xs := refs L4) (fun i H2 => Wd [] H H2 ((D, .lst ((L4.take i).map fun q => V.str (lineS q.2))) :: (ll3, .lst (refs L4)) :: (TL1 L4 ++ [])))
    w13 (fun i H2 _ w => SqL.of (w.get 1 rfl)) ?_ ?_
  · rintro i x H2 hx w14
    obtain ⟨q, hq, rfl⟩ : ∃ q, L4[i]? = some q ∧ x = V.ref q.1 := by
      unfold refs at hx
      rw [List.getElem?_map] at hx
      cases e : L4[i]? with
      | none => rw [e] at hx; cases hx
      | some b => rw [e] at hx; exact ⟨b, rfl, (Option.some.inj hx).symm⟩
    have hql := words_len ok q.2 (by rw [← hL4]; exact List.mem_map.mpr ⟨q, List.mem_of_getElem? hq, rfl⟩)
    have hqa := w14.at_ (q.1, .lst (q.2.map V.str)) (List.mem_cons_of_mem _ (List.mem_cons_of_mem _ (List.mem_append_left _ (List.mem_map.mpr ⟨q, List.mem_of_getElem? hq, rfl⟩))))
    have hi := (List.getElem?_eq_some_iff.mp hq).1
    refine ⟨rfl, ⟨_, rfl⟩, _, rfl, _, q.1, q.2, rfl, rfl, .inl (SqL.of hqa), ?_, ?_⟩
    · have := sum_le (fun s : Str => s.length) 8 q.2 hql.2
      have e1 : ((" " : Str)).length = 1 := by decide
      rw [e1]
      omega
    · have hj := join_len " " q.2 8 hql.2
      have e1 : ((" " : Str)).length = 1 := by decide
      have e2 : ((";" : Str)).length = 1 := by decide
      rw [e1] at hj
      refine ⟨_, _, rfl, rfl, (by rw [e2]; exact Nat.le_trans (m := 1000) (by omega) (by decide)), ?_⟩
      refine ⟨_, w14.get 0 rfl, ?_, ?_⟩
      · rw [List.length_map, List.length_take]; exact Nat.lt_of_le_of_lt (m := 100) (by omega) (by decide)
      · have := w14.put 0 (.lst ((L4.take i).map (fun q => V.str (lineS q.2)) ++ [V.str (lineS q.2)])) rfl (fun xs q => by cases q)
        show Wd [] H _ ((D, .lst ((L4.take (i + 1)).map fun q => V.str (lineS q.2))) :: _)
        rw [take_more hq, List.map_append]
        exact this
  · intro H4 w14
    have e4 : (L4.take (refs L4).length).map (fun q => V.str (lineS q.2)) = ((lineWords r).map lineS).map V.str := by
      rw [refs_length, List.take_length, ← hL4, List.map_map, List.map_map]; rfl
    rw [e4] at w14
    refine ⟨_, D, (lineWords r).map lineS, rfl, rfl, .inl (SqL.of (w14.get 0 rfl)), ?_, ?_⟩
    · have h8 := sum_le (fun s : Str => s.length) 200 ((lineWords r).map lineS) fun s hs => by
        obtain ⟨ws, hws, rfl⟩ := List.mem_map.mp hs
        have := words_len ok ws hws
        exact lineS_len this.1 this.2
      have := lines_few ok
      have e1 : (("\n" : Str)).length = 1 := by decide
      rw [e1]
      rw [List.length_map] at h8 ⊢
      omega
    · exact k _ (w14.sub (List.nil_sublist _))
end
end Br

namespace Br
open PySem PySem.Spec PyProof.Rows L2
/-! ### the parser: frames -/
theorem Wd.fput {M : List Addr} {H0 H : Hp} {p : Addr} {u : HO} (c : Wd M H0 H []) (o : HO) (hp : H0 p = none ∨ p ∈ M) (hH : H p = some u) (hn : ∀ xs, u ≠ .tup xs) : Wd M H0 (upd H p o) [] :=
  ⟨fun b v hb e => by
    have : b ≠ p := fun z => by
      subst z
      rcases hp with q | q
      · rw [q] at e; cases e
      · exact hb q
    rw [upd_ne this]; exact c.base b v hb e,
   fun b v e => by
    have : b ≠ p := fun z => by
      subst z
      have := c.tups b v e
      rw [hH] at this
      exact hn v (Option.some.inj this)
    rw [upd_ne this]; exact c.tups b v e,
   fun _ h => (nomatch h), fun _ h => (nomatch h), List.nodup_nil, fun b e => c.free b (by
    by_cases hb : b = p
    · subst hb; rw [upd_same] at e; cases e
    · rw [upd_ne hb] at e; exact e)⟩
theorem Wd.fnew {M : List Addr} {H0 H : Hp} (c : Wd M H0 H []) {p : Addr} (o : HO) (hp : H p = none) : Wd M H0 (upd H p o) [] := (c.new o hp).sub (List.nil_sublist _)
theorem Wd.fgo {M : List Addr} {H0 H H' : Hp} (c : Wd M H0 H []) (d : Wd M H H' []) : Wd M H0 H' [] :=
  ⟨fun b o hb e => d.base b o hb (c.base b o hb e), fun b xs e => d.tups b xs (c.tups b xs e), fun _ h => (nomatch h), fun _ h => (nomatch h), List.nodup_nil, fun p e => c.free p (d.free p e)⟩
theorem Wd.frefl (M : List Addr) (H : Hp) : Wd M H H [] := (Wd.refl H).mono fun _ h => nomatch h
structure Pz where
  x : Addr
  dx : Addr
  tk : Addr
  fl : Addr
  nl : Addr
  al : Addr
structure Pv where
  n : Nat
  names : List Str
  aws : List (Addr × (Int × Int × Int))
  W : Option (Addr × List Int)
  M : Option (Addr × List Int)
def oV : Option (Addr × List Int) → V
  | none => .non
  | some p => .ref p.1
def pF (z : Pz) (s : Pv) : List (Str × V) := [("tokens", .ref z.tk), ("at", .int s.n), ("faults", .ref z.fl), ("names", .ref z.nl), ("weights", oV s.W), ("makers", oV s.M), ("aways", .ref z.al)]
def Pz.mut (z : Pz) : List Addr := [z.x, z.nl, z.al]
def arefs (l : List (Addr × (Int × Int × Int))) : List V := l.map fun q => V.ref q.1
theorem pf_none {z : Pz} {s : Pv} {m : Str} (h : ∀ f ∈ (["tokens", "at", "faults", "names", "weights", "makers", "aways"] : List Str), (m == f) = false) : (pF z s).lookup m = none := by
  unfold pF
  rw [look_ne (h _ (by simp)), look_ne (h _ (by simp)), look_ne (h _ (by simp)), look_ne (h _ (by simp)), look_ne (h _ (by simp)), look_ne (h _ (by simp)), look_ne (h _ (by simp))]
  rfl
section
variable {z : Pz} {s : Pv}
theorem pf_tokens : (pF z s).lookup ("tokens" : Str) = some (.ref z.tk) := look_eq
theorem pf_at : (pF z s).lookup ("at" : Str) = some (.int s.n) := (look_ne (by decide +kernel)).trans look_eq
theorem pf_faults : (pF z s).lookup ("faults" : Str) = some (.ref z.fl) := (look_ne (by decide +kernel)).trans ((look_ne (by decide +kernel)).trans look_eq)
theorem pf_names : (pF z s).lookup ("names" : Str) = some (.ref z.nl) := (look_ne (by decide +kernel)).trans ((look_ne (by decide +kernel)).trans ((look_ne (by decide +kernel)).trans look_eq))
theorem pf_weights : (pF z s).lookup ("weights" : Str) = some (oV s.W) := (look_ne (by decide +kernel)).trans ((look_ne (by decide +kernel)).trans ((look_ne (by decide +kernel)).trans ((look_ne (by decide +kernel)).trans look_eq)))
theorem pf_makers : (pF z s).lookup ("makers" : Str) = some (oV s.M) := (look_ne (by decide +kernel)).trans ((look_ne (by decide +kernel)).trans ((look_ne (by decide +kernel)).trans ((look_ne (by decide +kernel)).trans ((look_ne (by decide +kernel)).trans look_eq))))
theorem pf_aways : (pF z s).lookup ("aways" : Str) = some (.ref z.al) := (look_ne (by decide +kernel)).trans ((look_ne (by decide +kernel)).trans ((look_ne (by decide +kernel)).trans ((look_ne (by decide +kernel)).trans ((look_ne (by decide +kernel)).trans ((look_ne (by decide +kernel)).trans look_eq)))))
theorem pf_putAt (n : Nat) : putF "at" (.int n) (pF z s) = pF z { s with n := n } := by
  unfold pF
  rw [putF_ne (by decide +kernel)]; rfl
theorem pf_putW (p : Addr × List Int) : putF "weights" (.ref p.1) (pF z s) = pF z { s with W := some p } := by
  unfold pF
  rw [putF_ne (by decide +kernel), putF_ne (by decide +kernel), putF_ne (by decide +kernel), putF_ne (by decide +kernel)]; rfl
theorem pf_putM (p : Addr × List Int) : putF "makers" (.ref p.1) (pF z s) = pF z { s with M := some p } := by
  unfold pF
  rw [putF_ne (by decide +kernel), putF_ne (by decide +kernel), putF_ne (by decide +kernel), putF_ne (by decide +kernel), putF_ne (by decide +kernel)]; rfl
end
structure PAt (CP CT : Addr) (z : Pz) (L : List (Addr × (Str × Str))) (s : Pv) (H : Hp) : Prop where
  ob : H z.x = some (.ins CP z.dx (pF z s))
  tk : H z.tk = some (.lst (trefs L))
  ts : Tks CT H L
  fl : H z.fl = some (.lst [])
  nl : H z.nl = some (.lst (s.names.map V.str))
  al : H z.al = some (.lst (arefs s.aws))
  aw : ∀ q ∈ s.aws, H q.1 = some (.tup (tri q.2))
  w : ∀ p, s.W = some p → H p.1 = some (.tup (p.2.map V.int))
  m : ∀ p, s.M = some p → H p.1 = some (.tup (p.2.map V.int))
  ne : [z.x, z.tk, z.fl, z.nl, z.al].Nodup
  cn : CT ≠ CP
section
variable {CP CT : Addr} {z : Pz} {L : List (Addr × (Str × Str))} {s : Pv} {H : Hp}
theorem PAt.new (h : PAt CP CT z L s H) {p : Addr} (o : HO) (hp : H p = none) : PAt CP CT z L s (upd H p o) := by
  have k : ∀ {b : Addr} {u : HO}, H b = some u → upd H p o b = some u := fun e => by rw [upd_ne (ne_of_none e hp)]; exact e
  exact ⟨k h.ob, k h.tk, h.ts.new hp, k h.fl, k h.nl, k h.al, fun q hq => k (h.aw q hq), fun q hq => k (h.w q hq), fun q hq => k (h.m q hq), h.ne, h.cn⟩
/-- the object itself -/
theorem PAt.setX (h : PAt CP CT z L s H) (s' : Pv) (e1 : s'.names = s.names) (e2 : s'.aws = s.aws) (hw : ∀ p, s'.W = some p → H p.1 = some (.tup (p.2.map V.int))) (hm : ∀ p, s'.M = some p → H p.1 = some (.tup (p.2.map V.int))) :
    PAt CP CT z L s' (upd H z.x (.ins CP z.dx (pF z s'))) := by
  have k : ∀ {b : Addr} {u : HO}, H b = some u → (∀ dx fs, u ≠ .ins CP dx fs) → upd H z.x (.ins CP z.dx (pF z s')) b = some u := fun e n => by rw [upd_ne (ne_of e h.ob (n _ _))]; exact e
  refine ⟨upd_same, k h.tk (fun _ _ q => by cases q), fun q hq => ?_, k h.fl (fun _ _ q => by cases q), k (by rw [e1]; exact h.nl) (fun _ _ q => by cases q), k (by rw [e2]; exact h.al) (fun _ _ q => by cases q), fun q hq => k (h.aw q (by rw [← e2]; exact hq)) (fun _ _ q => by cases q),
    fun q hq => k (hw q hq) (fun _ _ q => by cases q), fun q hq => k (hm q hq) (fun _ _ q => by cases q), h.ne, h.cn⟩
  obtain ⟨dx, l, c, e⟩ := h.ts q hq
  exact ⟨dx, l, c, k e (fun _ _ q => by injection q with q1; exact h.cn q1)⟩
theorem PAt.setN (h : PAt CP CT z L s H) (ns : List Str) : PAt CP CT z L { s with names := ns } (upd H z.nl (.lst (ns.map V.str))) := by
  have hn := h.ne
  simp only [List.nodup_cons, List.mem_cons, List.not_mem_nil, or_false, not_or] at hn
  have k : ∀ {b : Addr} {u : HO}, H b = some u → b ≠ z.nl → upd H z.nl (.lst (ns.map V.str)) b = some u := fun e n => by rw [upd_ne n]; exact e
  have k2 : ∀ {b : Addr} {u : HO}, H b = some u → (∀ xs, u ≠ .lst xs) → upd H z.nl (.lst (ns.map V.str)) b = some u := fun e n => k e (ne_of e h.nl (n _))
  refine ⟨k h.ob hn.1.2.2.1, k h.tk hn.2.1.2.1, fun q hq => ?_, k h.fl hn.2.2.1.1, upd_same, k h.al (Ne.symm hn.2.2.2.1), fun q hq => k2 (h.aw q hq) (fun _ q => by cases q), fun q hq => k2 (h.w q hq) (fun _ q => by cases q), fun q hq => k2 (h.m q hq) (fun _ q => by cases q), h.ne, h.cn⟩
  obtain ⟨dx, l, c, e⟩ := h.ts q hq
  exact ⟨dx, l, c, k2 e (fun _ q => by cases q)⟩
theorem PAt.setA (h : PAt CP CT z L s H) (as : List (Addr × (Int × Int × Int))) (ha : ∀ q ∈ as, H q.1 = some (.tup (tri q.2))) : PAt CP CT z L { s with aws := as } (upd H z.al (.lst (arefs as))) := by
  have hn := h.ne
  simp only [List.nodup_cons, List.mem_cons, List.not_mem_nil, or_false, not_or] at hn
  have k : ∀ {b : Addr} {u : HO}, H b = some u → b ≠ z.al → upd H z.al (.lst (arefs as)) b = some u := fun e n => by rw [upd_ne n]; exact e
  have k2 : ∀ {b : Addr} {u : HO}, H b = some u → (∀ xs, u ≠ .lst xs) → upd H z.al (.lst (arefs as)) b = some u := fun e n => k e (ne_of e h.al (n _))
  refine ⟨k h.ob hn.1.2.2.2, k h.tk hn.2.1.2.2, fun q hq => ?_, k h.fl hn.2.2.1.2, k h.nl hn.2.2.2.1, upd_same, fun q hq => k2 (ha q hq) (fun _ q => by cases q), fun q hq => k2 (h.w q hq) (fun _ q => by cases q), fun q hq => k2 (h.m q hq) (fun _ q => by cases q), h.ne, h.cn⟩
  obtain ⟨dx, l, c, e⟩ := h.ts q hq
  exact ⟨dx, l, c, k2 e (fun _ q => by cases q)⟩
/-- a list of ours -/
theorem PAt.putL (h : PAt CP CT z L s H) {p : Addr} {l : List V} {o : HO} (hp : H p = some (.lst l)) (hm : p ∉ z.mut) (h1 : z.tk ≠ p) (h2 : z.fl ≠ p) : PAt CP CT z L s (upd H p o) := by
  simp only [Pz.mut, List.mem_cons, List.not_mem_nil, or_false, not_or] at hm
  have k : ∀ {b : Addr} {u : HO}, H b = some u → b ≠ p → upd H p o b = some u := fun e n => by rw [upd_ne n]; exact e
  have k2 : ∀ {b : Addr} {u : HO}, H b = some u → (∀ xs, u ≠ .lst xs) → upd H p o b = some u := fun e n => k e (ne_of e hp (n _))
  refine ⟨k h.ob (Ne.symm hm.1), k h.tk h1, fun q hq => ?_, k h.fl h2, k h.nl (Ne.symm hm.2.1), k h.al (Ne.symm hm.2.2), fun q hq => k2 (h.aw q hq) (fun _ q => by cases q), fun q hq => k2 (h.w q hq) (fun _ q => by cases q), fun q hq => k2 (h.m q hq) (fun _ q => by cases q), h.ne, h.cn⟩
  obtain ⟨dx, l, c, e⟩ := h.ts q hq
  exact ⟨dx, l, c, k2 e (fun _ q => by cases q)⟩
/-- what follows at the n-th token -/
def TkAt (L : List (Addr × (Str × Str))) (n : Nat) (ts : List (Str × Str)) : Prop := (L.map Prod.snd).drop n = ts
theorem TkAt.cons {n : Nat} {t : Str × Str} {ts : List (Str × Str)} (h : TkAt L n (t :: ts)) : (∃ a, L[n]? = some (a, t)) ∧ TkAt L (n + 1) ts := by
  unfold TkAt at h ⊢
  have e : (L.map Prod.snd)[n]? = some t := by
    have := congrArg (fun l => l[0]?) h
    simpa [List.getElem?_drop] using this
  rw [List.getElem?_map] at e
  refine ⟨?_, ?_⟩
  · cases hL : L[n]? with
    | none => rw [hL] at e; cases e
    | some q =>
      rw [hL] at e
      obtain ⟨a, b⟩ := q
      exact ⟨a, by cases e; rfl⟩
  · rw [← List.drop_drop, h]; rfl
theorem TkAt.app {n : Nat} {ts us : List (Str × Str)} (h : TkAt L n (ts ++ us)) : TkAt L (n + ts.length) us := by
  unfold TkAt at h ⊢
  rw [← List.drop_drop, h, List.drop_left]
theorem trefs_at {n : Nat} {a : Addr} {t : Str × Str} (h : L[n]? = some (a, t)) : atI (trefs L) (n : Int) = some (.ref a) := by
  refine atI_nat ?_
  unfold trefs
  rw [List.getElem?_map, h]; rfl
end
structure ParCls (K : PySem.W.Frag) (CP : Addr) : Prop where
  cl : Cls K CP
  n1 : NoAttr K CP "tokens"
  n2 : NoAttr K CP "at"
  n3 : NoAttr K CP "faults"
  n4 : NoAttr K CP "names"
  n5 : NoAttr K CP "weights"
  n6 : NoAttr K CP "makers"
  n7 : NoAttr K CP "aways"
section
variable {P : Program} {w : World} {K : PySem.W.Frag} {mg : Str → Option Value} {base : Heap} {CT CP : Addr}
abbrev sParser___init__ : Stmt := inClass (topS 39) 0
theorem scParser___init__ : FnScope ["self", "tokens"] ["self", "tokens"] (defScope sParser___init__) := ⟨rfl, rfl, rfl, by decide +kernel, rfl, by decide +kernel, by decide +kernel⟩
def spParI (CP CT : Addr) : Sp := fun vs H Q _ => ∃ (x dx tk : Addr) (L : List (Addr × (Str × Str))), vs = [.ref x, .ref tk] ∧ H x = some (.ins CP dx []) ∧ H tk = some (.lst (trefs L)) ∧ Tks CT H L ∧ CT ≠ CP ∧
  ∀ (z : Pz) (H' : Hp), z.x = x → Wd [x] H H' [] → PAt CP CT z L ⟨0, [], [], none, none⟩ H' → H z.nl = none → H z.al = none → Q .non H'
theorem mk_parser (D : InitAt K mg "Parser" "Parser.__init__" CP sParser___init__ ["self", "tokens"]) (PC : ParCls K CP) : MkAt P w K mg base 1 "Parser" CP ["self", "tokens"] (spParI CP CT) := D.mk' fun f fd F => by
  have nd := scParser___init__.nd
  refine F.ok scParser___init__ (fun vs H Q E h => ?_) (fun cdv A outer s H vs Q E hr h => ?_)
  · obtain ⟨x, dx, tk, L, rfl, _⟩ := h; rfl
  obtain ⟨x, dx, tk, L, rfl, hx, htk, hT, cn, q⟩ := h
  refine ⟨_, (pss_cons (ps_fld (pv 0) (pv 1) rfl)
 (pss_cons (ps_fld (pv 0) pe_int rfl)
 (pss_cons (ps_fld (pv 0) (pe_lst pa_nil) rfl)
 (pss_cons (ps_fld (pv 0) (pe_lst pa_nil) rfl)
 (pss_cons (ps_fld (pv 0) pe_non rfl)
 (pss_cons (ps_fld (pv 0) pe_non rfl)
 (pss_one (ps_fld (pv 0) (pe_lst pa_nil) rfl)))))))), ?_⟩
  have hxt : x ≠ tk := ne_of hx htk (by simp)
  have c0 := Wd.frefl [x] H
  have e1 : putF "tokens" (.ref tk) [] = [(("tokens" : Str), V.ref tk)] := rfl
  have e2 : putF "at" (.int 0) [(("tokens" : Str), V.ref tk)] = [(("tokens" : Str), V.ref tk), ("at", .int 0)] := by rw [putF_ne (by decide +kernel)]; rfl
  refine ⟨_, rfl, _, rfl, x, CP, dx, [], rfl, hx, PC.cl, PC.n1, (by show 0 < 1000; decide), ?_⟩
  refine ⟨_, rfl, x, CP, dx, _, rfl, upd_same, PC.cl, PC.n2, (by show 1 < 1000; decide), ?_⟩
  rw [e1, e2, upd_upd]
  have c1 := c0.fput (.ins CP dx [(("tokens" : Str), V.ref tk), ("at", .int 0)]) (.inr (by simp)) hx (fun _ q => by cases q)
  refine ⟨(by show 0 ≤ sizeLine; decide), fun fl hfl => ?_⟩
  have c2 := c1.fnew (.lst []) hfl
  have ld0 : Wd [x] H (upd H x (.ins CP dx [(("tokens" : Str), V.ref tk), ("at", .int 0)])) [(x, .ins CP dx [(("tokens" : Str), V.ref tk), ("at", .int 0)])] :=
    (Wd.start1 hx).put 0 _ rfl (fun _ q => by cases q)
  have ld1 := ld0.new1 (.lst []) hfl
  refine ⟨_, rfl, x, CP, dx, _, rfl, ld1.get 0 rfl, PC.cl, PC.n3, (by show 2 < 1000; decide), ?_⟩
  have e3 : putF "faults" (.ref fl) [(("tokens" : Str), V.ref tk), ("at", .int 0)] = [(("tokens" : Str), V.ref tk), ("at", .int 0), ("faults", .ref fl)] := by rw [putF_ne (by decide +kernel), putF_ne (by decide +kernel)]; rfl
  rw [e3]
  have ld2 := ld1.put 0 (.ins CP dx [(("tokens" : Str), V.ref tk), ("at", .int 0), ("faults", .ref fl)]) rfl (fun _ q => by cases q)
  refine ⟨(by show 0 ≤ sizeLine; decide), fun nl hnl => ?_⟩
  have ld3 := ld2.new1 (.lst []) hnl
  refine ⟨_, rfl, x, CP, dx, _, rfl, ld3.get 0 rfl, PC.cl, PC.n4, (by show 3 < 1000; decide), ?_⟩
  have e4 : putF "names" (.ref nl) [(("tokens" : Str), V.ref tk), ("at", .int 0), ("faults", .ref fl)] = [(("tokens" : Str), V.ref tk), ("at", .int 0), ("faults", .ref fl), ("names", .ref nl)] := by rw [putF_ne (by decide +kernel), putF_ne (by decide +kernel), putF_ne (by decide +kernel)]; rfl
  rw [e4]
  have ld4 := ld3.put 0 (.ins CP dx [(("tokens" : Str), V.ref tk), ("at", .int 0), ("faults", .ref fl), ("names", .ref nl)]) rfl (fun _ q => by cases q)
  refine ⟨_, rfl, x, CP, dx, _, rfl, ld4.get 0 rfl, PC.cl, PC.n5, (by show 4 < 1000; decide), ?_⟩
  have e5 : putF "weights" .non [(("tokens" : Str), V.ref tk), ("at", .int 0), ("faults", .ref fl), ("names", .ref nl)] = [(("tokens" : Str), V.ref tk), ("at", .int 0), ("faults", .ref fl), ("names", .ref nl), ("weights", .non)] := by
    rw [putF_ne (by decide +kernel), putF_ne (by decide +kernel), putF_ne (by decide +kernel), putF_ne (by decide +kernel)]; rfl
  rw [e5]
  have ld5 := ld4.put 0 (.ins CP dx [(("tokens" : Str), V.ref tk), ("at", .int 0), ("faults", .ref fl), ("names", .ref nl), ("weights", .non)]) rfl (fun _ q => by cases q)
  refine ⟨_, rfl, x, CP, dx, _, rfl, ld5.get 0 rfl, PC.cl, PC.n6, (by show 5 < 1000; decide), ?_⟩
  have e6 : putF "makers" .non [(("tokens" : Str), V.ref tk), ("at", .int 0), ("faults", .ref fl), ("names", .ref nl), ("weights", .non)] = [(("tokens" : Str), V.ref tk), ("at", .int 0), ("faults", .ref fl), ("names", .ref nl), ("weights", .non), ("makers", .non)] := by
    rw [putF_ne (by decide +kernel), putF_ne (by decide +kernel), putF_ne (by decide +kernel), putF_ne (by decide +kernel), putF_ne (by decide +kernel)]; rfl
  rw [e6]
  have ld6 := ld5.put 0 (.ins CP dx [(("tokens" : Str), V.ref tk), ("at", .int 0), ("faults", .ref fl), ("names", .ref nl), ("weights", .non), ("makers", .non)]) rfl (fun _ q => by cases q)
  refine ⟨(by show 0 ≤ sizeLine; decide), fun al hal => ?_⟩
  have ld7 := ld6.new1 (.lst []) hal
  refine ⟨_, rfl, x, CP, dx, _, rfl, ld7.get 0 rfl, PC.cl, PC.n7, (by show 6 < 1000; decide), ?_⟩
  have e7 : putF "aways" (.ref al) [(("tokens" : Str), V.ref tk), ("at", .int 0), ("faults", .ref fl), ("names", .ref nl), ("weights", .non), ("makers", .non)] = pF ⟨x, dx, tk, fl, nl, al⟩ ⟨0, [], [], none, none⟩ := by
    rw [putF_ne (by decide +kernel), putF_ne (by decide +kernel), putF_ne (by decide +kernel), putF_ne (by decide +kernel), putF_ne (by decide +kernel), putF_ne (by decide +kernel)]; rfl
  rw [e7]
  have ld8 := ld7.put 0 (.ins CP dx (pF ⟨x, dx, tk, fl, nl, al⟩ ⟨0, [], [], none, none⟩)) rfl (fun _ q => by cases q)
  have hal0 := ld6.free _ hal
  have hnl0 := ld2.free _ hnl
  have hfl0 := ld0.free _ hfl
  have ndl := ld8.nd
  have hkt := ne_of_none htk hal0
  have hkn := ne_of_none htk hnl0
  have hkf := ne_of_none htk hfl0
  have htx : tk ∉ [x] := by simpa using hxt.symm
  refine q ⟨x, dx, tk, fl, nl, al⟩ _ rfl (ld8.sub (List.nil_sublist _)) ⟨ld8.get 0 rfl, ld8.old htk htx, fun t ht => ?_, ld8.get 3 rfl, ld8.get 2 rfl, ld8.get 1 rfl, fun _ h => (nomatch h), fun _ h => (nomatch h), fun _ h => (nomatch h), ?_, cn⟩ hnl0 hal0
  · obtain ⟨tdx, tl, tc, e⟩ := hT t ht
    refine ⟨tdx, tl, tc, ld8.old e ?_⟩
    have : t.1 ≠ x := ne_of e hx (fun q => by injection q with q1; exact cn q1)
    simpa using this
  · simp only [List.set, List.map_cons, List.map_nil, List.nodup_cons, List.mem_cons, List.not_mem_nil, or_false, not_or] at ndl ⊢
    obtain ⟨⟨n1, n2, n3⟩, ⟨n4, n5⟩, n6, n7⟩ := ndl
    exact ⟨⟨hxt, n3, n2, n1⟩, ⟨hkf, hkn, hkt⟩, ⟨Ne.symm n6, Ne.symm n5⟩, Ne.symm n4, n7⟩
abbrev sParser_peek : Stmt := inClass (topS 39) 1
theorem scParser_peek : FnScope ["self"] ["self"] (defScope sParser_peek) := ⟨rfl, rfl, rfl, by decide +kernel, rfl, by decide +kernel, by decide +kernel⟩
def spPeek (CP CT : Addr) : Sp := fun vs H Q _ => ∃ (z : Pz) (L : List (Addr × (Str × Str))) (s : Pv) (a : Addr) (t : Str × Str), vs = [.ref z.x] ∧ PAt CP CT z L s H ∧ L[s.n]? = some (a, t) ∧ Q (.ref a) H
theorem me_peek (D : MethAt K CP "peek" "Parser.peek" sParser_peek ["self"]) (PC : ParCls K CP) : MeAt P w K mg base 1 CP "peek" ["self"] (spPeek CP CT) := D.me fun f fd F => by
  have nd := scParser_peek.nd
  refine F.ok scParser_peek (fun vs H Q E h => ?_) (fun cdv A outer s H vs Q E hr h => ?_)
  · obtain ⟨z, L, s, a, t, rfl, _⟩ := h; rfl
  obtain ⟨z, L, sv, a, t, rfl, hp, ht, q⟩ := h
  refine ⟨_, (pss_one (ps_ret (pe_ix (r := rIxL K) ix_list (pe_fldK (K := K) rfl (pv 0) rfl) (pe_fldK (K := K) rfl (pv 0) rfl) (fun _ _ => rfl)))), ?_⟩
  exact ⟨_, rfl, z.x, CP, z.dx, _, _, rfl, hp.ob, PC.cl, PC.n1, pf_tokens, _, rfl, z.x, CP, z.dx, _, _, rfl, hp.ob, PC.cl, PC.n2, pf_at, z.tk, _, _, _, rfl, rfl, SqL.of hp.tk, trefs_at ht, q⟩
/-- a token taken -/
def spTake (CP CT : Addr) : Sp := fun vs H Q _ => ∃ (z : Pz) (L : List (Addr × (Str × Str))) (s : Pv) (a : Addr) (k t : Str), vs = [.ref z.x, .str k] ∧ PAt CP CT z L s H ∧ L[s.n]? = some (a, (k, t)) ∧
  ∀ H', Wd z.mut H H' [] → PAt CP CT z L { s with n := s.n + 1 } H' → Q (.ref a) H'
abbrev sParser_take : Stmt := inClass (topS 39) 4
theorem scParser_take : FnScope ["self", "kind", "token"] ["self", "kind"] (defScope sParser_take) := ⟨rfl, rfl, rfl, by decide +kernel, rfl, by decide +kernel, by decide +kernel⟩
theorem me_take (D : MethAt K CP "take" "Parser.take" sParser_take ["self", "kind"]) (PC : ParCls K CP) (TC : TokCls K CT) (C1 : MeAt P w K mg base 1 CP "peek" ["self"] (spPeek CP CT)) : MeAt P w K mg base 2 CP "take" ["self", "kind"] (spTake CP CT) := D.me fun f fd F => by
  have nd := scParser_take.nd
  have cl_Parser := PC.cl
  obtain ⟨f1, fd1, me_peek, b_peek, G_peek⟩ := C1.ex
  refine F.ok scParser_take (fun vs H Q E h => ?_) (fun cdv A outer s H vs Q E hr h => ?_)
  · obtain ⟨z, L, s, a, k, t, rfl, _⟩ := h; rfl
  obtain ⟨z, L, sv, a, k, t, rfl, hp, ht, q⟩ := h
  refine ⟨_, (pss_cons (ps_set (i := 2) nd rfl (Or.inl rfl) (pe_meth0 (pv 0) cl_Parser me_peek G_peek (hr.mono (by first | decide | omega)) b_peek .nil pass0))
 (pss_cons (ps_if (pt_cmpR op_ne (pe_fldK (K := K) rfl (pv 2) rfl) (pv 1) (nomark _))
 pss_never
 pss_nil)
 (pss_cons (ps_fldaug (pv 0) pe_int in_add)
 (pss_one (ps_ret (pv 2)))))), ?_⟩
  obtain ⟨tdx, tl, tc, hta⟩ := hp.ts _ (List.mem_of_getElem? ht)
  refine ⟨_, rfl, z.x, z.dx, _, rfl, hp.ob, pf_none (by decide +kernel), z, L, sv, a, _, rfl, hp, ht, ?_⟩
  refine ⟨_, rfl, a, CT, tdx, _, _, rfl, hta, TC.cl, TC.nk, tk_kind _ _ _ _, _, rfl, rfl, _, rfl, ?_⟩
  refine ite2 (fun h => ?_) (fun _ => ?_)
  · exact absurd h (by simp)
  refine ⟨_, rfl, z.x, CP, z.dx, _, _, rfl, hp.ob, PC.cl, PC.n2, pf_at, _, _, rfl, rfl, _, _, hp.ob, (by show 7 < 1000; decide), ?_⟩
  have e : putF "at" (.int ((sv.n : Int) + 1)) (pF z sv) = pF z { sv with n := sv.n + 1 } := by
    rw [show (sv.n : Int) + 1 = ((sv.n + 1 : Nat) : Int) by omega]; exact pf_putAt _
  rw [e]
  exact ⟨_, rfl, q _ ((Wd.frefl _ _).fput _ (.inr (by simp [Pz.mut])) hp.ob (fun _ q => by cases q)) (hp.setX { sv with n := sv.n + 1 } rfl rfl hp.w hp.m)⟩
abbrev sParser_take_word : Stmt := inClass (topS 39) 5
theorem scParser_take_word : FnScope ["self", "word"] ["self", "word"] (defScope sParser_take_word) := ⟨rfl, rfl, rfl, by decide +kernel, rfl, by decide +kernel, by decide +kernel⟩
/-- a word taken -/
def spTakeW (CP CT : Addr) : Sp := fun vs H Q _ => ∃ (z : Pz) (L : List (Addr × (Str × Str))) (s : Pv) (a : Addr) (k t : Str), vs = [.ref z.x, .str t] ∧ PAt CP CT z L s H ∧ L[s.n]? = some (a, (k, t)) ∧
  ∀ H', Wd z.mut H H' [] → PAt CP CT z L { s with n := s.n + 1 } H' → Q .non H'
theorem me_take_word (D : MethAt K CP "take_word" "Parser.take_word" sParser_take_word ["self", "word"]) (PC : ParCls K CP) (TC : TokCls K CT) (C1 : MeAt P w K mg base 1 CP "peek" ["self"] (spPeek CP CT)) : MeAt P w K mg base 2 CP "take_word" ["self", "word"] (spTakeW CP CT) := D.me fun f fd F => by
  have nd := scParser_take_word.nd
  have cl_Parser := PC.cl
  obtain ⟨f1, fd1, me_peek, b_peek, G_peek⟩ := C1.ex
  refine F.ok scParser_take_word (fun vs H Q E h => ?_) (fun cdv A outer s H vs Q E hr h => ?_)
  · obtain ⟨z, L, s, a, k, t, rfl, _⟩ := h; rfl
  obtain ⟨z, L, sv, a, k, t, rfl, hp, ht, q⟩ := h
  refine ⟨_, (pss_cons (ps_if (pt_cmpR op_ne (pe_fldK (K := K) rfl (pe_meth0 (pv 0) cl_Parser me_peek G_peek (hr.mono (by first | decide | omega)) b_peek .nil pass0) rfl) (pv 1) (nomark _))
 pss_never
 pss_nil)
 (pss_one (ps_fldaug (pv 0) pe_int in_add))), ?_⟩
  obtain ⟨tdx, tl, tc, hta⟩ := hp.ts _ (List.mem_of_getElem? ht)
  refine ⟨_, rfl, z.x, z.dx, _, rfl, hp.ob, pf_none (by decide +kernel), z, L, sv, a, _, rfl, hp, ht, ?_⟩
  refine ⟨a, CT, tdx, _, _, rfl, hta, TC.cl, TC.nt, tk_text _ _ _ _, _, rfl, rfl, _, rfl, ?_⟩
  refine ite2 (fun h => absurd h (by simp)) (fun _ => ?_)
  refine ⟨_, rfl, z.x, CP, z.dx, _, _, rfl, hp.ob, PC.cl, PC.n2, pf_at, _, _, rfl, rfl, _, _, hp.ob, (by show 7 < 1000; decide), ?_⟩
  have e : putF "at" (.int ((sv.n : Int) + 1)) (pF z sv) = pF z { sv with n := sv.n + 1 } := by
    rw [show (sv.n : Int) + 1 = ((sv.n + 1 : Nat) : Int) by omega]; exact pf_putAt _
  rw [e]
  exact q _ ((Wd.frefl _ _).fput _ (.inr (by simp [Pz.mut])) hp.ob (fun _ q => by cases q)) (hp.setX { sv with n := sv.n + 1 } rfl rfl hp.w hp.m)
abbrev sParser_take_all : Stmt := inClass (topS 39) 6
theorem scParser_take_all : FnScope ["self", "kind", "tokens"] ["self", "kind"] (defScope sParser_take_all) := ⟨rfl, rfl, rfl, by decide +kernel, rfl, by decide +kernel, by decide +kernel⟩
/-- all of a kind, and the sign -/
def spTakeA (CP CT : Addr) : Sp := fun vs H Q _ => ∃ (z : Pz) (L : List (Addr × (Str × Str))) (s : Pv) (k : Str) (ks : List Str) (rest : List (Str × Str)), vs = [.ref z.x, .str k] ∧ PAt CP CT z L s H ∧ k ≠ "sign" ∧ ks ≠ [] ∧ ks.length ≤ 1000 ∧
  TkAt L s.n (ks.map (fun t => (k, t)) ++ (("sign" : Str), (";" : Str)) :: rest) ∧
  ∀ H' p sub, Wd z.mut H H' [] → PAt CP CT z L { s with n := s.n + ks.length + 1 } H' → H p = none → H' p = some (.lst (trefs sub)) → sub.map Prod.snd = ks.map (fun t => (k, t)) → (∀ q ∈ sub, q ∈ L) → Q (.ref p) H'
theorem me_take_all (D : MethAt K CP "take_all" "Parser.take_all" sParser_take_all ["self", "kind"]) (PC : ParCls K CP) (TC : TokCls K CT) (LC : LexC K mg) (C1 : MeAt P w K mg base 1 CP "peek" ["self"] (spPeek CP CT))
    (C2 : MeAt P w K mg base 2 CP "take" ["self", "kind"] (spTake CP CT)) (C3 : MeAt P w K mg base 2 CP "take_word" ["self", "word"] (spTakeW CP CT)) : MeAt P w K mg base 3 CP "take_all" ["self", "kind"] (spTakeA CP CT) := D.me fun f fd F => by
  have nd := scParser_take_all.nd
  have cl_Parser := PC.cl
  obtain ⟨t1, c_END_SIGN⟩ := LC.END_SIGN
  obtain ⟨f1, fd1, me_peek, b_peek, G_peek⟩ := C1.ex
  obtain ⟨f2, fd2, me_take, b_take, G_take⟩ := C2.ex
  obtain ⟨f3, fd3, me_take_word, b_take_word, G_take_word⟩ := C3.ex
  refine F.ok scParser_take_all (fun vs H Q E h => ?_) (fun cdv A outer s H vs Q E hr h => ?_)
  · obtain ⟨z, L, s, k, ks, rest, rfl, _⟩ := h; rfl
  obtain ⟨z, L, sv, k, ks, rest, rfl, hp, hk, hne, hlen, hts, q⟩ := h
  refine ⟨_, (pss_cons (ps_set (i := 2) nd rfl (Or.inl rfl) (pe_lst (pa_cons (pe_meth (pv 0) cl_Parser me_take G_take (hr.mono (by first | decide | omega)) b_take .nil pass0 (pa_cons (pv 1) pa_nil)) pa_nil)))
 (pss_cons (ps_while PassesOwn.never (pt_cmpR op_eq (pe_fldK (K := K) rfl (pe_meth0 (pv 0) cl_Parser me_peek G_peek (hr.mono (by first | decide | omega)) b_peek .nil pass0) rfl) (pv 1) (nomark _))
 (pss_one (ps_expr (pe_bmK (K := K) rfl PySem.F.plainAttrs_list PySem.F.slot_list_append PySem.F.type_list_append mt_append (pv 2) (pa_cons (pe_meth (pv 0) cl_Parser me_take G_take (hr.mono (by first | decide | omega)) b_take .nil pass0 (pa_cons (pv 1) pa_nil)) pa_nil)))))
 (pss_cons (ps_expr (pe_meth (pv 0) cl_Parser me_take_word G_take_word (hr.mono (by first | decide | omega)) b_take_word .nil pass0 (pa_cons (pe_glob (v := .str ";") (by rfl) c_END_SIGN ⟨_, rfl⟩) pa_nil)))
 (pss_one (ps_ret (pv 2)))))), ?_⟩
  obtain ⟨t0, kr, rfl⟩ := List.exists_cons_of_ne_nil hne
  obtain ⟨⟨a0, h0⟩, hts1⟩ := hts.cons
  refine ⟨_, rfl, z.x, z.dx, _, rfl, hp.ob, pf_none (by decide +kernel), _, rfl, z, L, sv, a0, k, t0, rfl, hp, h0, fun H1 c1 hp1 => ?_⟩
  refine ⟨(by show 1 ≤ sizeLine; decide), fun p hpn => ?_⟩
  have hpn0 := c1.free _ hpn
  refine while_by (fun σ H' => σ = [some (.ref z.x), some (.str k), some (.ref p)] ∧ ∃ (sub : List (Addr × (Str × Str))) (ks1 ks2 : List Str), Wd z.mut H H' [] ∧ PAt CP CT z L { sv with n := sv.n + ks1.length } H' ∧ H' p = some (.lst (trefs sub)) ∧
      ks1 ++ ks2 = t0 :: kr ∧ sub.map Prod.snd = ks1.map (fun t => (k, t)) ∧ (∀ q ∈ sub, q ∈ L) ∧ TkAt L (sv.n + ks1.length) (ks2.map (fun t => (k, t)) ++ (("sign" : Str), (";" : Str)) :: rest)) (fun _ H' => kr.length + 1 - (match H' p with | some (.lst l) => l.length | _ => 0))
    ⟨rfl, [(a0, (k, t0))], [t0], kr, c1.fnew _ hpn, hp1.new _ hpn, upd_same, rfl, rfl, (by intro q hq; rw [List.mem_singleton.mp hq]; exact List.mem_of_getElem? h0), hts1⟩ ?_ ?_
  · rintro σ H2 ⟨rfl, sub, ks1, ks2, c2, hp2, hsub, hks, hmap, hmem, hts2⟩
    have hpm : p ∉ z.mut := by
      intro hm
      simp only [Pz.mut, List.mem_cons, List.not_mem_nil, or_false] at hm
      rcases hm with rfl | rfl | rfl
      · rw [hp.ob] at hpn0; cases hpn0
      · rw [hp.nl] at hpn0; cases hpn0
      · rw [hp.al] at hpn0; cases hpn0
    have hl := congrArg List.length hks
    rw [List.length_append, List.length_cons] at hl
    have hl2 : sub.length = ks1.length := by
      have := congrArg List.length hmap
      rw [List.length_map, List.length_map] at this
      exact this
    cases ks2 with
    | cons t2 ks2 =>
      obtain ⟨⟨a2, h2⟩, hts3⟩ := hts2.cons
      obtain ⟨tdx, tl, tc, hta⟩ := hp2.ts _ (List.mem_of_getElem? h2)
      refine ⟨_, rfl, z.x, z.dx, _, rfl, hp2.ob, pf_none (by decide +kernel), z, L, _, a2, _, rfl, hp2, h2, a2, CT, tdx, _, _, rfl, hta, TC.cl, TC.nk, tk_kind _ _ _ _, _, rfl, rfl, _, rfl, ?_⟩
      refine ite2 (fun _ => ?_) (fun h => absurd (by simp) h)
      refine ⟨_, rfl, .inl ⟨rfl, _, SqL.of hsub⟩, _, rfl, z.x, z.dx, _, rfl, hp2.ob, pf_none (by decide +kernel), _, rfl, z, L, _, a2, k, t2, rfl, hp2, h2, fun H3 c3 hp3 => ?_⟩
      have hsub3 := c3.base _ _ hpm hsub
      refine ⟨p, _, _, rfl, rfl, hsub3, ?_, ⟨rfl, sub ++ [(a2, (k, t2))], ks1 ++ [t2], ks2, ?_, ?_, ?_, ?_, ?_, ?_, ?_⟩, ?_⟩
      · rw [trefs_len, hl2]; exact Nat.lt_of_lt_of_le (m := 1001) (by simp at hlen hl; omega) (by decide)
      · exact (c2.fgo c3).fput _ (.inl hpn0) hsub3 (fun _ q => by cases q)
      · have e : ({ sv with n := sv.n + (ks1 ++ [t2]).length } : Pv) = { ({ sv with n := sv.n + ks1.length } : Pv) with n := sv.n + ks1.length + 1 } := by
          simp only [List.length_append, List.length_cons, List.length_nil]; rfl
        rw [e]
        exact hp3.putL (p := p) hsub3 hpm (fun h => by rw [← h, hp.tk] at hpn0; cases hpn0) (fun h => by rw [← h, hp.fl] at hpn0; cases hpn0)
      · have e : trefs (sub ++ [(a2, (k, t2))]) = trefs sub ++ [.ref a2] := by simp [trefs]
        rw [upd_same, e]
      · rw [← hks]; simp
      · rw [List.map_append, hmap, List.map_append]; rfl
      · intro q hq
        rcases List.mem_append.mp hq with hq | hq
        · exact hmem q hq
        · rw [List.mem_singleton.mp hq]; exact List.mem_of_getElem? h2
      · rw [List.length_append, List.length_cons, List.length_nil, ← Nat.add_assoc]; exact hts3
      · show kr.length + 1 - (match upd H3 p _ p with | some (.lst l) => l.length | _ => 0) < _
        rw [upd_same, hsub]
        show kr.length + 1 - (trefs sub ++ [V.ref a2]).length < kr.length + 1 - (trefs sub).length
        rw [List.length_append, trefs_len, hl2]
        simp only [List.length_cons] at hl ⊢
        omega
    | nil =>
      obtain ⟨⟨a2, h2⟩, hts3⟩ := hts2.cons
      obtain ⟨tdx, tl, tc, hta⟩ := hp2.ts _ (List.mem_of_getElem? h2)
      refine ⟨_, rfl, z.x, z.dx, _, rfl, hp2.ob, pf_none (by decide +kernel), z, L, _, a2, _, rfl, hp2, h2, a2, CT, tdx, _, _, rfl, hta, TC.cl, TC.nk, tk_kind _ _ _ _, _, rfl, rfl, _, rfl, ?_⟩
      refine ite2 (fun h => absurd (of_decide_eq_true h) (fun e => hk (by injection e with e; exact e.symm))) (fun _ => ?_)
      refine ⟨_, rfl, z.x, z.dx, _, rfl, hp2.ob, pf_none (by decide +kernel), z, L, _, a2, _, _, rfl, hp2, h2, fun H3 c3 hp3 => ?_⟩
      rw [List.append_nil] at hks
      subst hks
      exact ⟨_, rfl, q H3 p sub (c2.fgo c3) hp3 hpn0 (c3.base _ _ hpm hsub) hmap hmem⟩
  · intro σ H2 Q1 Q2 hm hc
    obtain ⟨v0, e0, a, dx', fs, ea, eo, en, z', L', s', a', t', e1, e2, e3, a'', C'', dx'', fs'', v'', g1, g2, g3, g4, g5, v1, e4, e5, b, hb, hc⟩ := hc
    exact ⟨v0, e0, a, dx', fs, ea, eo, en, z', L', s', a', t', e1, e2, e3, a'', C'', dx'', fs'', v'', g1, g2, g3, g4, g5, v1, e4, e5, b, hb, hm _ _ hc⟩
end
end Br

namespace Br
open PySem PySem.Spec PyProof.Rows L2
theorem PAt.call0 {CP CT : Addr} {z : Pz} {L : List (Addr × (Str × Str))} {s : Pv} {H H' : Hp} {l : List (Addr × HO)} (h : PAt CP CT z L s H) (c : Wd [] H H' l) : PAt CP CT z L s H' := by
  have k : ∀ {b : Addr} {u : HO}, H b = some u → H' b = some u := fun e => c.base _ _ (by simp) e
  exact ⟨k h.ob, k h.tk, h.ts.call c, k h.fl, k h.nl, k h.al, fun q hq => k (h.aw q hq), fun q hq => k (h.w q hq), fun q hq => k (h.m q hq), h.ne, h.cn⟩
theorem PAt.out {CP CT : Addr} {z : Pz} {L : List (Addr × (Str × Str))} {s : Pv} {H : Hp} (h : PAt CP CT z L s H) {p : Addr} (hp : H p = none) : p ∉ z.mut ∧ z.tk ≠ p ∧ z.fl ≠ p := by
  refine ⟨fun hm => ?_, ne_of_none h.tk hp, ne_of_none h.fl hp⟩
  simp only [Pz.mut, List.mem_cons, List.not_mem_nil, or_false] at hm
  rcases hm with rfl | rfl | rfl
  · rw [h.ob] at hp; cases hp
  · rw [h.nl] at hp; cases hp
  · rw [h.al] at hp; cases hp
theorem sub_at {sub : List (Addr × (Str × Str))} {k : Str} {ks : List Str} (hm : sub.map Prod.snd = ks.map (fun t => (k, t))) {i : Nat} {x : V} (hx : (trefs sub)[i]? = some x) : ∃ a t, x = .ref a ∧ ks[i]? = some t ∧ (a, (k, t)) ∈ sub := by
  unfold trefs at hx
  rw [List.getElem?_map] at hx
  cases e : sub[i]? with
  | none => rw [e] at hx; cases hx
  | some q =>
    rw [e] at hx
    have h2 := congrArg (fun l => l[i]?) hm
    simp only [List.getElem?_map, e] at h2
    cases e3 : ks[i]? with
    | none => rw [e3] at h2; cases h2
    | some t =>
      rw [e3] at h2
      have h4 : q.2 = (k, t) := Option.some.inj h2
      exact ⟨q.1, t, (Option.some.inj hx).symm, rfl, by rw [← h4]; exact List.mem_of_getElem? e⟩
theorem eqV_str (a b : Str) : eqV (.str a) (.str b) = decide (a = b) := by
  rw [Bool.eq_iff_iff, decide_eq_true_eq]
  exact ⟨fun h => eq_of_beq (show (a == b) = true from h), fun h => (show (a == b) = true from beq_iff_eq.mpr h)⟩
section
variable {P : Program} {w : World} {K : PySem.W.Frag} {mg : Str → Option Value} {base : Heap} {CT CP : Addr}
def spPerson (CP CT : Addr) : Sp := fun vs H Q _ => ∃ (z : Pz) (L : List (Addr × (Str × Str))) (s : Pv) (a : Addr) (k t : Str) (j : Nat), vs = [.ref z.x, .ref a] ∧ PAt CP CT z L s H ∧ (a, (k, t)) ∈ L ∧ s.names.Nodup ∧ s.names[j]? = some t ∧ Q (.int j) H
abbrev sParser_person : Stmt := inClass (topS 39) 7
theorem scParser_person : FnScope ["self", "token"] ["self", "token"] (defScope sParser_person) := ⟨rfl, rfl, rfl, by decide +kernel, rfl, by decide +kernel, by decide +kernel⟩
theorem me_person (D : MethAt K CP "person" "Parser.person" sParser_person ["self", "token"]) (PC : ParCls K CP) (TC : TokCls K CT) : MeAt P w K mg base 1 CP "person" ["self", "token"] (spPerson CP CT) := D.me fun f fd F => by
  have nd := scParser_person.nd
  refine F.ok scParser_person (fun vs H Q E h => ?_) (fun cdv A outer s H vs Q E hr h => ?_)
  · obtain ⟨z, L, s, a, k, t, j, rfl, _⟩ := h; rfl
  obtain ⟨z, L, sv, a, k, t, j, rfl, hp, ht, hnd, hj, q⟩ := h
  refine ⟨_, (pss_cons (ps_if (pt_cmpR (r := rIn K false) op_in_seq (pe_fldK (K := K) rfl (pv 1) rfl) (pe_fldK (K := K) rfl (pv 0) rfl) (by rfl))
 (pss_one (ps_ret (pe_bmK (K := K) rfl PySem.F.plainAttrs_list PySem.F.slot_list_index PySem.F.type_list_index mt_index (pe_fldK (K := K) rfl (pv 0) rfl) (pa_cons (pe_fldK (K := K) rfl (pv 1) rfl) pa_nil))))
 pss_nil)
 pss_never), ?_⟩
  obtain ⟨tdx, tl, tc, hta⟩ := hp.ts _ ht
  refine ⟨_, rfl, a, CT, tdx, _, _, rfl, hta, TC.cl, TC.nt, tk_text _ _ _ _, _, rfl, z.x, CP, z.dx, _, _, rfl, hp.ob, PC.cl, PC.n4, pf_names, z.nl, sv.names.map V.str, rfl, .inl (SqL.of hp.nl), rfl, flat_strs' _, _, rfl, ?_⟩
  rw [if_neg Bool.false_ne_true, inV_strs]
  refine ite2 (fun _ => ?_) (fun h => absurd (decide_eq_true (List.mem_of_getElem? hj)) h)
  refine ⟨_, rfl, z.x, CP, z.dx, _, _, rfl, hp.ob, PC.cl, PC.n4, pf_names, .inl ⟨rfl, _, SqL.of hp.nl⟩, _, rfl, a, CT, tdx, _, _, rfl, hta, TC.cl, TC.nt, tk_text _ _ _ _, ?_⟩
  refine ⟨z.nl, sv.names.map V.str, .str t, j, .str t, rfl, rfl, SqL.of hp.nl, rfl, flat_strs' _, by rw [List.getElem?_map, hj]; rfl, by rw [eqV_str]; exact decide_eq_true rfl, fun m z' hm hz' => ?_, q⟩
  rw [List.getElem?_map] at hz'
  cases e : sv.names[m]? with
  | none => rw [e] at hz'; cases hz'
  | some y =>
    rw [e] at hz'
    cases hz'
    rw [eqV_str, decide_eq_false_iff_not]
    rintro rfl
    exact absurd (nd_ix hnd e hj) (by omega)
/-- the people -/
def spPeople (CP CT : Addr) : Sp := fun vs H Q _ => ∃ (z : Pz) (L : List (Addr × (Str × Str))) (s : Pv) (ns : List Str) (rest : List (Str × Str)), vs = [.ref z.x] ∧ PAt CP CT z L s H ∧ s.names = [] ∧ ns ≠ [] ∧ ns.length ≤ 6 ∧ ns.Nodup ∧
  TkAt L s.n ((("keyword" : Str), ("people" : Str)) :: (ns.map (fun t => (("name" : Str), t)) ++ (("sign" : Str), (";" : Str)) :: rest)) ∧
  ∀ H', Wd z.mut H H' [] → PAt CP CT z L { s with n := s.n + 1 + ns.length + 1, names := ns } H' → Q .non H'
abbrev sParser_parse_people : Stmt := inClass (topS 39) 8
theorem scParser_parse_people : FnScope ["self", "token"] ["self"] (defScope sParser_parse_people) := ⟨rfl, rfl, rfl, by decide +kernel, rfl, by decide +kernel, by decide +kernel⟩
theorem me_people (D : MethAt K CP "parse_people" "Parser.parse_people" sParser_parse_people ["self"]) (T : Bi mg) (PC : ParCls K CP) (TC : TokCls K CT) (LC : LexC K mg) (hMP : ∃ t, mg "MAX_PEOPLE" = some (.int 6 t)) (C1 : MeAt P w K mg base 2 CP "take_word" ["self", "word"] (spTakeW CP CT))
    (C2 : MeAt P w K mg base 3 CP "take_all" ["self", "kind"] (spTakeA CP CT)) : MeAt P w K mg base 4 CP "parse_people" ["self"] (spPeople CP CT) := D.me fun f fd F => by
  have nd := scParser_parse_people.nd
  have cl_Parser := PC.cl
  obtain ⟨t1, c_NAME⟩ := LC.NAME
  obtain ⟨t2, c_MAX_PEOPLE⟩ := hMP
  obtain ⟨f1, fd1, me_take_word, b_take_word, G_take_word⟩ := C1.ex
  obtain ⟨f2, fd2, me_take_all, b_take_all, G_take_all⟩ := C2.ex
  refine F.ok scParser_parse_people (fun vs H Q E h => ?_) (fun cdv A outer s H vs Q E hr h => ?_)
  · obtain ⟨z, L, s, ns, rest, rfl, _⟩ := h; rfl
  obtain ⟨z, L, sv, ns, rest, rfl, hp, hn0, hne, h6, hnd, hts, q⟩ := h
  refine ⟨_, (pss_cons (ps_expr (pe_meth (pv 0) cl_Parser me_take_word G_take_word (hr.mono (by first | decide | omega)) b_take_word .nil pass0 (pa_cons pe_str pa_nil)))
 (pss_one (ps_for PassesOwn.never rfl (pi_listK (K := K) rfl (pe_meth (pv 0) cl_Parser me_take_all G_take_all (hr.mono (by first | decide | omega)) b_take_all .nil pass0 (pa_cons (pe_glob (v := .str "name") (by rfl) c_NAME ⟨_, rfl⟩) pa_nil))) (pg_name (i := 1) nd rfl (Or.inl rfl))
 (pss_one (ps_if (pt_cmpR (r := rIn K false) op_in_seq (pe_fldK (K := K) rfl (pv 1) rfl) (pe_fldK (K := K) rfl (pv 0) rfl) (by rfl))
 pss_never
 (pss_one (ps_if (pt_cmpR op_eq (pe_callB (r := rLenS K) call_len_seq (by rfl) T.len PySem.boot_len (pa_cons (pe_fldK (K := K) rfl (pv 0) rfl) pa_nil)) (pe_glob (v := .int 6) (by rfl) c_MAX_PEOPLE ⟨_, rfl⟩) (nomark _))
 pss_never
 (pss_one (ps_expr (pe_bmK (K := K) rfl PySem.F.plainAttrs_list PySem.F.slot_list_append PySem.F.type_list_append mt_append (pe_fldK (K := K) rfl (pv 0) rfl) (pa_cons (pe_fldK (K := K) rfl (pv 1) rfl) pa_nil))))))))))), ?_⟩
  obtain ⟨⟨a0, h0⟩, hts1⟩ := hts.cons
  refine ⟨_, rfl, z.x, z.dx, _, rfl, hp.ob, pf_none (by decide +kernel), z, L, sv, a0, _, _, rfl, hp, h0, fun H1 c1 hp1 => ?_⟩
  refine ⟨_, rfl, z.x, z.dx, _, rfl, hp1.ob, pf_none (by decide +kernel), z, L, _, _, ns, rest, rfl, hp1, by decide +kernel, hne, by omega, hts1, fun H2 p sub c2 hp2 hpn hsub hmap hmem => ?_⟩
  have hpo := hp1.out hpn
  have hpn0 := c1.free _ hpn
  have hsl : (trefs sub).length = ns.length := by
    have := congrArg List.length hmap
    rw [List.length_map, List.length_map] at this
    rw [trefs_len]; exact this
  refine ⟨p, rfl, ⟨_, SqL.of hsub⟩, ?_⟩
  refine for_it (walk_list (xs := trefs sub)) (fun i σ H' => (∃ b, σ = [some (.ref z.x), b]) ∧ Wd z.mut H H' [] ∧ PAt CP CT z L { sv with n := sv.n + 1 + ns.length + 1, names := ns.take i } H' ∧ H' p = some (.lst (trefs sub))) ?_ ?_ ?_ ?_
  · exact ⟨⟨_, rfl⟩, c1.fgo c2, by rw [List.take_zero, ← hn0]; exact hp2, hsub⟩
  · rintro i σ H' _ ⟨_, _, _, h⟩
    exact SqL.of h
  · rintro i x σ H3 H3' hi ⟨⟨b, rfl⟩, c3, hp3, hs3⟩ ⟨rfl, hx⟩
    obtain ⟨a, t, rfl, ht, hm⟩ := sub_at hmap hx
    obtain ⟨tdx, tl, tc, hta⟩ := hp3.ts _ (hmem _ hm)
    have hi6 : (ns.take i).length = i := by rw [List.length_take]; omega
    refine ⟨_, rfl, a, CT, tdx, _, _, rfl, hta, TC.cl, TC.nt, tk_text _ _ _ _, _, rfl, z.x, CP, z.dx, _, _, rfl, hp3.ob, PC.cl, PC.n4, pf_names, z.nl, (ns.take i).map V.str, rfl, .inl (SqL.of hp3.nl), rfl, flat_strs' _, _, rfl, ?_⟩
    rw [if_neg Bool.false_ne_true, inV_strs]
    have hnot : t ∉ ns.take i := fun h => by
      obtain ⟨j, hj, e⟩ := List.mem_take_iff_getElem.mp h
      have e2 : ns[j]? = some t := by rw [List.getElem?_eq_getElem (by omega), e]
      exact absurd (nd_ix hnd e2 ht) (by omega)
    refine ite2 (fun h => absurd (of_decide_eq_true h) hnot) (fun _ => ?_)
    refine ⟨_, rfl, z.x, CP, z.dx, _, _, rfl, hp3.ob, PC.cl, PC.n4, pf_names, z.nl, _, rfl, .inl (SqL.of hp3.nl), rfl, _, rfl, ?_⟩
    have hni : i ≠ 6 := by omega
    refine ite2 (fun h => absurd (of_decide_eq_true h) ?_) (fun _ => ?_)
    · rw [List.length_map, hi6]
      intro e; injection e with e; omega
    refine ⟨_, rfl, z.x, CP, z.dx, _, _, rfl, hp3.ob, PC.cl, PC.n4, pf_names, .inl ⟨rfl, _, SqL.of hp3.nl⟩, _, rfl, a, CT, tdx, _, _, rfl, hta, TC.cl, TC.nt, tk_text _ _ _ _, ?_⟩
    refine ⟨z.nl, _, _, rfl, rfl, hp3.nl, ?_, ⟨_, rfl⟩, ?_, ?_, ?_⟩
    · rw [List.length_map, hi6]; exact Nat.lt_of_lt_of_le (m := 100) (by omega) (by decide)
    · exact c3.fput _ (.inr (by simp [Pz.mut])) hp3.nl (fun _ q => by cases q)
    · have e : (ns.take i).map V.str ++ [V.str t] = (ns.take (i + 1)).map V.str := by rw [take_more ht, List.map_append]; rfl
      rw [e]
      exact hp3.setN _
    · have hne : p ≠ z.nl := fun e => hpo.1 (by rw [e]; simp [Pz.mut])
      rw [upd_ne hne]; exact hs3
  · rintro σ H3 ⟨⟨b, rfl⟩, c3, hp3, hs3⟩
    rw [hsl, List.take_length] at hp3
    exact q _ c3 hp3
end
end Br

namespace Br
open PySem PySem.Spec PyProof.Rows L2
theorem eqV_int (a b : Int) : eqV (.int a) (.int b) = decide (a = b) := by
  rw [Bool.eq_iff_iff, decide_eq_true_eq]
  exact ⟨fun h => eq_of_beq (show (a == b) = true from h), fun h => (show (a == b) = true from beq_iff_eq.mpr h)⟩
theorem inV_ints (x : Int) : ∀ l : List Int, inV (.int x) (l.map V.int) = decide (x ∈ l)
  | [] => by simp [inV]
  | y :: l => by
    have ih := inV_ints x l
    unfold inV at ih ⊢
    rw [List.map_cons, List.any_cons, ih, eqV_int, Bool.eq_iff_iff, Bool.or_eq_true, decide_eq_true_eq, decide_eq_true_eq, decide_eq_true_eq, List.mem_cons]
    exact or_congr ⟨fun h => h.symm, fun h => h.symm⟩ Iff.rfl
theorem flat_ints (l : List Int) : (l.map V.int).all flatV = true := by
  rw [List.all_eq_true]
  intro v hv
  obtain ⟨s, _, rfl⟩ := List.mem_map.mp hv
  rfl
/-- the name of the k-th -/
def nmL (ns : List Str) (k : Int) : Str := ns.getD k.toNat Str.empty
theorem nmL_at {ns : List Str} {k : Int} (h0 : 0 ≤ k) (h1 : k < ns.length) : ns[k.toNat]? = some (nmL ns k) := by
  unfold nmL
  rw [List.getD_eq_getElem?_getD, List.getElem?_eq_getElem (by omega)]; rfl
section
variable {P : Program} {w : World} {K : PySem.W.Frag} {mg : Str → Option Value} {base : Heap} {CT CP : Addr}
/-- the turns -/
def spTurns (CP CT : Addr) : Sp := fun vs H Q _ => ∃ (z : Pz) (L : List (Addr × (Str × Str))) (s : Pv) (ts : List Int) (rest : List (Str × Str)), vs = [.ref z.x] ∧ PAt CP CT z L s H ∧ s.names.Nodup ∧ s.names.length ≤ 6 ∧ ts ≠ [] ∧ ts.length ≤ 12 ∧
  (∀ t ∈ ts, 0 ≤ t ∧ t < s.names.length) ∧ (∀ k : Nat, k < s.names.length → (k : Int) ∈ ts) ∧
  TkAt L s.n ((("keyword" : Str), ("turns" : Str)) :: ((ts.map (nmL s.names)).map (fun t => (("name" : Str), t)) ++ (("sign" : Str), (";" : Str)) :: rest)) ∧
  ∀ H' r, Wd z.mut H H' [] → PAt CP CT z L { s with n := s.n + 1 + ts.length + 1 } H' → H' r = some (.tup (ts.map V.int)) → Q (.ref r) H'
abbrev sParser_parse_turns : Stmt := inClass (topS 39) 9
theorem scParser_parse_turns : FnScope ["self", "start", "turns", "index", "token", "person"] ["self"] (defScope sParser_parse_turns) := ⟨rfl, rfl, rfl, by decide +kernel, rfl, by decide +kernel, by decide +kernel⟩
theorem me_turns (D : MethAt K CP "parse_turns" "Parser.parse_turns" sParser_parse_turns ["self"]) (T : Bi mg) (PC : ParCls K CP) (TC : TokCls K CT) (LC : LexC K mg) (hMP : ∃ t, mg "MAX_TURNS" = some (.int 12 t))
    (C0 : MeAt P w K mg base 1 CP "peek" ["self"] (spPeek CP CT)) (C1 : MeAt P w K mg base 2 CP "take_word" ["self", "word"] (spTakeW CP CT))
    (C2 : MeAt P w K mg base 3 CP "take_all" ["self", "kind"] (spTakeA CP CT)) (C3 : MeAt P w K mg base 1 CP "person" ["self", "token"] (spPerson CP CT)) : MeAt P w K mg base 4 CP "parse_turns" ["self"] (spTurns CP CT) := D.me fun f fd F => by
  have nd := scParser_parse_turns.nd
  have cl_Parser := PC.cl
  obtain ⟨t1, c_NAME⟩ := LC.NAME
  obtain ⟨t2, c_MAX_TURNS⟩ := hMP
  obtain ⟨f0, fd0, me_peek, b_peek, G_peek⟩ := C0.ex
  obtain ⟨f1, fd1, me_take_word, b_take_word, G_take_word⟩ := C1.ex
  obtain ⟨f2, fd2, me_take_all, b_take_all, G_take_all⟩ := C2.ex
  obtain ⟨f3, fd3, me_person, b_person, G_person⟩ := C3.ex
  refine F.ok scParser_parse_turns (fun vs H Q E h => ?_) (fun cdv A outer s H vs Q E hr h => ?_)
  · obtain ⟨z, L, s, ts, rest, rfl, _⟩ := h; rfl
  obtain ⟨z, L, sv, ts, rest, rfl, hp, hnd, h6, hne, h12, hin, hall, hts, q⟩ := h
  refine ⟨_, (pss_cons (ps_set (i := 1) nd rfl (Or.inl rfl) (pe_meth0 (pv 0) cl_Parser me_peek G_peek (hr.mono (by first | decide | omega)) b_peek .nil pass0))
 (pss_cons (ps_expr (pe_meth (pv 0) cl_Parser me_take_word G_take_word (hr.mono (by first | decide | omega)) b_take_word .nil pass0 (pa_cons pe_str pa_nil)))
 (pss_cons (ps_set (i := 2) nd rfl (Or.inr rfl) (pe_lst pa_nil))
 (pss_cons (ps_for PassesOwn.never rfl (pi_enum (by rfl) T.enumerate (pa_cons (pe_meth (pv 0) cl_Parser me_take_all G_take_all (hr.mono (by first | decide | omega)) b_take_all .nil pass0 (pa_cons (pe_glob (v := .str "name") (by rfl) c_NAME ⟨_, rfl⟩) pa_nil)) pa_nil)) (pg_tupK (K := K) (n := 2) rfl rfl (pgs_cons (pg_name (i := 3) nd rfl (Or.inl rfl)) (pgs_cons (pg_name (i := 4) nd rfl (Or.inl rfl)) pgs_nil)))
 (pss_cons (ps_expr (pe_bmK (K := K) rfl PySem.F.plainAttrs_list PySem.F.slot_list_append PySem.F.type_list_append mt_append (pv 2) (pa_cons (pe_meth (pv 0) cl_Parser me_person G_person (hr.mono (by first | decide | omega)) b_person .nil pass0 (pa_cons (pv 4) pa_nil)) pa_nil)))
 (pss_one (ps_if (pt_cmpR op_eq (pv 3) (pe_glob (v := .int 12) (by rfl) c_MAX_TURNS ⟨_, rfl⟩) (nomark _))
 pss_never
 pss_nil))))
 (pss_cons (ps_if (pt_val (pe_callB (r := L2.rAny K) (cr_any rfl) (by rfl) T.any (by decide +kernel) (pa_cons (pe_lc (own := [("person", 5)]) rfl nd (pi_range1 (by rfl) T.range (pa_cons (pe_callB (r := rLenS K) call_len_seq (by rfl) T.len PySem.boot_len (pa_cons (pe_fldK (K := K) rfl (pv 0) rfl) pa_nil)) pa_nil)) (blkOk_by (N := ["self", "start", "turns", "index", "token", "person"]) (sc := defScope sParser_parse_turns) (by decide +kernel)) (fun _ _ _ _ _ => (pg_name (i := 5) nd rfl (Or.inl rfl))) (fun _ _ _ _ _ => pts_nil) (fun _ _ _ _ _ => (pe_cmpR (r := rIn K true) op_notIn_seq (pv 5) (pv 2) (by rfl)))) pa_nil)))
 pss_never
 pss_nil)
 (pss_one (ps_ret (pe_callTy (r := rTupOf K) call_tuple_of (by rfl) T.tuple (by decide +kernel) (pa_cons (pv 2) pa_nil))))))))), ?_⟩
  obtain ⟨⟨a0, h0⟩, hts1⟩ := hts.cons
  refine ⟨_, rfl, z.x, z.dx, _, rfl, hp.ob, pf_none (by decide +kernel), z, L, sv, a0, _, rfl, hp, h0, ?_⟩
  refine ⟨_, rfl, z.x, z.dx, _, rfl, hp.ob, pf_none (by decide +kernel), z, L, sv, a0, _, _, rfl, hp, h0, fun H1 c1 hp1 => ?_⟩
  refine ⟨(by show 0 ≤ sizeLine; decide), fun tq htq => ?_⟩
  have htqN := c1.free _ htq
  have c1 := c1.fnew (.lst []) htq
  have htq0 := (hp1.out htq)
  have hp1 := hp1.new (.lst []) htq
  have htq1 : upd H1 tq (.lst []) tq = some (.lst ([].map V.int)) := upd_same
  generalize upd H1 tq (.lst []) = H1 at *
  refine ⟨_, rfl, z.x, z.dx, _, rfl, hp1.ob, pf_none (by decide +kernel), z, L, _, _, ts.map (nmL sv.names), rest, rfl, hp1, by decide +kernel, by simpa using hne, by rw [List.length_map]; omega, hts1, fun H2 p sub c2 hp2 hpn hsub hmap hmem => ?_⟩
  have hpo := hp1.out hpn
  have hpt : p ≠ tq := (ne_of_none htq1 hpn).symm
  have htq2 := c2.base _ _ htq0.1 htq1
  have hsl : (trefs sub).length = ts.length := by
    have := congrArg List.length hmap
    rw [List.length_map, List.length_map, List.length_map] at this
    rw [trefs_len]; exact this
  have hlen : (ts.map (nmL sv.names)).length = ts.length := List.length_map ..
  rw [hlen] at hp2
  refine ⟨p, _, rfl, SqL.of hsub, ?_⟩
  refine for_it (walk_enum (xs := trefs sub)) (fun i σ H' => (∃ b c d e, σ = [some (.ref z.x), b, some (.ref tq), c, d, e]) ∧ Wd z.mut H H' [] ∧ PAt CP CT z L { sv with n := sv.n + 1 + ts.length + 1 } H' ∧ H' p = some (.lst (trefs sub)) ∧ H' tq = some (.lst ((ts.take i).map V.int))) ?_ ?_ ?_ ?_
  · exact ⟨⟨_, _, _, _, rfl⟩, c1.fgo c2, hp2, hsub, htq2⟩
  · rintro i σ H' _ ⟨_, _, _, h, _⟩
    exact SqL.of h
  · rintro i x σ H3 H3' hi ⟨⟨b, c, d, e, rfl⟩, c3, hp3, hs3, hq3⟩ ⟨T0, x1, x2, rfl, hT0, rfl, e1, e2⟩
    cases e1
    obtain ⟨a, t, rfl, ht, hm⟩ := sub_at hmap e2
    rw [List.getElem?_map] at ht
    obtain ⟨v, hv, rfl⟩ : ∃ v, ts[i]? = some v ∧ nmL sv.names v = t := by
      cases e5 : ts[i]? with
      | none => rw [e5] at ht; cases ht
      | some v => rw [e5] at ht; exact ⟨v, rfl, Option.some.inj ht⟩
    have hv0 := hin v (List.mem_of_getElem? hv)
    have hi2 := (List.getElem?_eq_some_iff.mp hv).1
    have hpT := ne_of_none hs3 hT0
    have hqT := ne_of_none hq3 hT0
    have c4 := c3.fnew (.tup [.int (i : Nat), .ref a]) hT0
    have hp4 := hp3.new (.tup [.int (i : Nat), .ref a]) hT0
    have hT4 : upd H3 T0 (.tup [.int (i : Nat), .ref a]) T0 = some (.tup [.int (i : Nat), .ref a]) := upd_same
    have hs4 : upd H3 T0 (.tup [.int (i : Nat), .ref a]) p = some (.lst (trefs sub)) := by rw [upd_ne hpT]; exact hs3
    have hq4 : upd H3 T0 (.tup [.int (i : Nat), .ref a]) tq = some (.lst ((ts.take i).map V.int)) := by rw [upd_ne hqT]; exact hq3
    generalize upd H3 T0 (.tup [.int (i : Nat), .ref a]) = H4 at *
    have hil : (ts.take i).length = i := by rw [List.length_take]; omega
    refine ⟨T0, _, rfl, SqT.of hT4, rfl, _, _, rfl, _, _, rfl, rfl, ?_⟩
    refine ⟨_, rfl, .inl ⟨rfl, _, SqL.of hq4⟩, _, rfl, z.x, z.dx, _, rfl, hp4.ob, pf_none (by decide +kernel), _, rfl, z, L, _, a, _, _, v.toNat, rfl, hp4, hmem _ hm, hnd, nmL_at hv0.1 hv0.2, ?_⟩
    refine ⟨tq, _, _, rfl, rfl, hq4, (by rw [List.length_map, hil]; exact Nat.lt_of_lt_of_le (m := 100) (by omega) (by decide)), _, rfl, rfl, _, rfl, ?_⟩
    refine ite2 (fun h => absurd (of_decide_eq_true h) (fun e => by injection e with e; omega)) (fun _ => ?_)
    have e6 : (ts.take i).map V.int ++ [V.int (v.toNat : Int)] = (ts.take (i + 1)).map V.int := by
      rw [take_more hv, List.map_append, Int.toNat_of_nonneg hv0.1]; rfl
    rw [e6]
    refine ⟨⟨_, _, _, _, rfl⟩, c4.fput _ (.inl htqN) hq4 (fun _ q => by cases q), hp4.putL hq4 htq0.1 htq0.2.1 htq0.2.2, by rw [upd_ne hpt]; exact hs4, upd_same⟩
  · rintro σ H3 ⟨⟨b, c, d, e, rfl⟩, c3, hp3, hs3, hq3⟩
    rw [hsl, List.take_length] at hq3
    refine ⟨_, rfl, z.x, CP, z.dx, _, _, rfl, hp3.ob, PC.cl, PC.n4, pf_names, z.nl, sv.names.map V.str, rfl, .inl (SqL.of hp3.nl), _, rfl, by rw [List.length_map]; omega, by rw [List.length_map]; omega, fun D hD => ?_⟩
    have w4 := (Wd.refl H3).new (.lst []) hD
    have en : (((sv.names.map V.str).length : Nat) : Int).toNat = sv.names.length := by rw [List.length_map]; omega
    rw [en]
    refine lc_range (lo := 0) (n := sv.names.length) (fun i H2 => Wd [] H3 H2 [(D, .lst ((List.replicate i false).map V.bl))]) w4 ?_ ?_
    · rintro i H5 hi w5
      have hi2 := hall i hi
      refine ⟨rfl, _, rfl, _, rfl, tq, ts.map V.int, rfl, .inl (SqL.of (w5.old hq3 (by simp))), rfl, flat_ints _, _, w5.get 0 rfl, ?_, ?_⟩
      · rw [List.length_map, List.length_replicate]; exact Nat.lt_of_lt_of_le (m := 100) (by omega) (by decide)
      · rw [if_pos rfl, inV_ints, decide_eq_true (by rw [Int.zero_add]; exact hi2)]
        have := w5.put 0 (.lst ((List.replicate i false).map V.bl ++ [V.bl false])) rfl (fun _ q => by cases q)
        rw [List.replicate_succ', List.map_append]
        exact this
    · intro H5 w5
      refine ⟨D, _, rfl, SqL.of (w5.get 0 rfl), _, rfl, ?_⟩
      have ea : (List.replicate sv.names.length false).any id = false := by
        rw [List.any_eq_false]
        intro x hx
        rw [(List.mem_replicate.mp hx).2]; simp
      rw [ea]
      refine ite2 (fun h => absurd h (by decide)) (fun _ => ?_)
      refine ⟨_, rfl, tq, _, rfl, .inl ⟨SqL.of (w5.old hq3 (by simp)), fun l hl => ?_⟩⟩
      have c5 : Wd z.mut H H5 [] := c3.fgo ((w5.sub (List.nil_sublist _)).mono fun _ h => nomatch h)
      exact q _ l (c5.fnew _ hl) ((hp3.call0 w5).new _ hl) upd_same
/-! ### the weights -/
def ntok (i : Int) : Str × Str := (("number" : Str), num i)
theorem int_num' {i : Int} (h0 : 0 ≤ i) (h1 : i ≤ 99) : intText? (num i) = some i ∧ (num i).length ≤ 640 := by
  obtain ⟨n, rfl⟩ := Int.eq_ofNat_of_zero_le h0
  have hl := TL.tl_num n
  have h2 : (TL.numL n).length ≤ 2 := by
    have : ∀ m : Nat, m < 100 → (TL.numL m).length ≤ 2 := by decide +kernel
    exact this n (by omega)
  refine ⟨TL.int_num (by omega), ?_⟩
  have : (num (n : Int)).length = (TL.numL n).length := by rw [TL.len_tl]; exact congrArg List.length hl
  omega
def spWeights (CP CT : Addr) : Sp := fun vs H Q _ => ∃ (z : Pz) (L : List (Addr × (Str × Str))) (s : Pv) (ws : List Int) (rest : List (Str × Str)), vs = [.ref z.x] ∧ PAt CP CT z L s H ∧ s.W = none ∧ ws.length = s.names.length ∧ s.names.length ≤ 6 ∧ ws ≠ [] ∧
  (∀ t ∈ ws, 1 ≤ t ∧ t ≤ 9) ∧
  TkAt L s.n ((("keyword" : Str), ("weights" : Str)) :: ((ws.map num).map (fun t => (("number" : Str), t)) ++ (("sign" : Str), (";" : Str)) :: rest)) ∧
  ∀ H' b, Wd z.mut H H' [] → PAt CP CT z L { s with n := s.n + 1 + ws.length + 1, W := some (b, ws) } H' → Q .non H'
abbrev sParser_parse_weights : Stmt := inClass (topS 39) 10
theorem scParser_parse_weights : FnScope ["self", "start", "tokens", "index", "token"] ["self"] (defScope sParser_parse_weights) := ⟨rfl, rfl, rfl, by decide +kernel, rfl, by decide +kernel, by decide +kernel⟩
theorem me_weights (D : MethAt K CP "parse_weights" "Parser.parse_weights" sParser_parse_weights ["self"]) (T : Bi mg) (PC : ParCls K CP) (TC : TokCls K CT) (LC : LexC K mg) (hMP : ∃ t, mg "MAX_WEIGHT" = some (.int 9 t))
    (C0 : MeAt P w K mg base 1 CP "peek" ["self"] (spPeek CP CT)) (C1 : MeAt P w K mg base 2 CP "take_word" ["self", "word"] (spTakeW CP CT))
    (C2 : MeAt P w K mg base 3 CP "take_all" ["self", "kind"] (spTakeA CP CT)) : MeAt P w K mg base 4 CP "parse_weights" ["self"] (spWeights CP CT) := D.me fun f fd F => by
  have nd := scParser_parse_weights.nd
  have cl_Parser := PC.cl
  obtain ⟨t1, c_NUMBER⟩ := LC.NUMBER
  obtain ⟨t2, c_MAX_WEIGHT⟩ := hMP
  obtain ⟨f0, fd0, me_peek, b_peek, G_peek⟩ := C0.ex
  obtain ⟨f1, fd1, me_take_word, b_take_word, G_take_word⟩ := C1.ex
  obtain ⟨f2, fd2, me_take_all, b_take_all, G_take_all⟩ := C2.ex
  refine F.ok scParser_parse_weights (fun vs H Q E h => ?_) (fun cdv A outer s H vs Q E hr h => ?_)
  · obtain ⟨z, L, s, ts, rest, rfl, _⟩ := h; rfl
  obtain ⟨z, L, sv, ws, rest, rfl, hp, hW, hwl, h6, hne, hin, hts, q⟩ := h
  refine ⟨_, (pss_cons (ps_set (i := 1) nd rfl (Or.inl rfl) (pe_meth0 (pv 0) cl_Parser me_peek G_peek (hr.mono (by first | decide | omega)) b_peek .nil pass0))
 (pss_cons (ps_expr (pe_meth (pv 0) cl_Parser me_take_word G_take_word (hr.mono (by first | decide | omega)) b_take_word .nil pass0 (pa_cons pe_str pa_nil)))
 (pss_cons (ps_set (i := 2) nd rfl (Or.inl rfl) (pe_meth (pv 0) cl_Parser me_take_all G_take_all (hr.mono (by first | decide | omega)) b_take_all .nil pass0 (pa_cons (pe_glob (v := .str "number") (by rfl) c_NUMBER ⟨_, rfl⟩) pa_nil)))
 (pss_cons (ps_if (pt_cmpR op_notN (pe_fldK (K := K) rfl (pv 0) rfl) pe_non (nomark _))
 pss_never
 pss_nil)
 (pss_cons (ps_for PassesOwn.never rfl (pi_enum (by rfl) T.enumerate (pa_cons (pv 2) pa_nil)) (pg_tupK (K := K) (n := 2) rfl rfl (pgs_cons (pg_name (i := 3) nd rfl (Or.inl rfl)) (pgs_cons (pg_name (i := 4) nd rfl (Or.inl rfl)) pgs_nil)))
 (pss_one (ps_if (PW.pt (pw_or (pt_cmpR op_eq (pv 3) (pe_callB (r := rLenS K) call_len_seq (by rfl) T.len PySem.boot_len (pa_cons (pe_fldK (K := K) rfl (pv 0) rfl) pa_nil)) (nomark _)) (pw_or1 (pt_not (pt_chain op_le op_le pe_int (pe_callTy call_int_str (by rfl) T.int (by decide +kernel) (pa_cons (pe_fldK (K := K) rfl (pv 4) rfl) pa_nil)) (pe_glob (v := .int 9) (by rfl) c_MAX_WEIGHT ⟨_, rfl⟩))))))
 pss_never
 pss_nil)))
 (pss_cons (ps_if (pt_cmpR op_lt (pe_callB (r := rLenS K) call_len_seq (by rfl) T.len PySem.boot_len (pa_cons (pv 2) pa_nil)) (pe_callB (r := rLenS K) call_len_seq (by rfl) T.len PySem.boot_len (pa_cons (pe_fldK (K := K) rfl (pv 0) rfl) pa_nil)) (nomark _))
 pss_never
 pss_nil)
 (pss_one (ps_fld (pv 0) (pe_callTy (r := rTupOf K) call_tuple_of (by rfl) T.tuple (by decide +kernel) (pa_cons (pe_lc (own := [("token", 4)]) rfl nd (pi_listK (K := K) rfl (pv 2)) (blkOk_by (N := ["self", "start", "tokens", "index", "token"]) (sc := defScope sParser_parse_weights) (by decide +kernel)) (fun _ _ _ _ _ => (pg_name (i := 4) nd rfl (Or.inl rfl))) (fun _ _ _ _ _ => pts_nil) (fun _ _ _ _ _ => (pe_callTy call_int_str (by rfl) T.int (by decide +kernel) (pa_cons (pe_fldK (K := K) rfl (pv 4) rfl) pa_nil)))) pa_nil)) rfl)))))))), ?_⟩
  obtain ⟨⟨a0, h0⟩, hts1⟩ := hts.cons
  refine ⟨_, rfl, z.x, z.dx, _, rfl, hp.ob, pf_none (by decide +kernel), z, L, sv, a0, _, rfl, hp, h0, ?_⟩
  refine ⟨_, rfl, z.x, z.dx, _, rfl, hp.ob, pf_none (by decide +kernel), z, L, sv, a0, _, _, rfl, hp, h0, fun H1 c1 hp1 => ?_⟩
  refine ⟨_, rfl, z.x, z.dx, _, rfl, hp1.ob, pf_none (by decide +kernel), z, L, _, _, ws.map num, rest, rfl, hp1, by decide +kernel, by simpa using hne, by rw [List.length_map]; omega, hts1, fun H2 p sub c2 hp2 hpn hsub hmap hmem => ?_⟩
  have hpo := hp1.out hpn
  have hsl : (trefs sub).length = ws.length := by
    have := congrArg List.length hmap
    rw [List.length_map, List.length_map, List.length_map] at this
    rw [trefs_len]; exact this
  have hlen : (ws.map num).length = ws.length := List.length_map ..
  rw [hlen] at hp2
  have hw2 : oV sv.W = .non := by rw [hW]; rfl
  refine ⟨_, rfl, z.x, CP, z.dx, _, _, rfl, hp2.ob, PC.cl, PC.n5, pf_weights, ?_⟩
  have tokv : ∀ (i : Nat) (x : V), (trefs sub)[i]? = some x → ∃ a v, x = .ref a ∧ ws[i]? = some v ∧ (a, (("number" : Str), num v)) ∈ L ∧ 1 ≤ v ∧ v ≤ 9 := fun i x hx => by
    obtain ⟨a, t, rfl, ht, hm⟩ := sub_at hmap hx
    rw [List.getElem?_map] at ht
    cases e5 : ws[i]? with
    | none => rw [e5] at ht; cases ht
    | some v =>
      rw [e5] at ht
      have e6 : num v = t := Option.some.inj ht
      exact ⟨a, v, rfl, rfl, by rw [e6]; exact hmem _ hm, (hin v (List.mem_of_getElem? e5)).1, (hin v (List.mem_of_getElem? e5)).2⟩
  refine ⟨rfl, _, rfl, ?_⟩
  rw [hw2]
  refine ite2 (fun h => absurd h (by simp)) (fun _ => ?_)
  refine ⟨_, rfl, p, _, rfl, SqL.of hsub, ?_⟩
  refine for_it (walk_enum (xs := trefs sub)) (fun i σ H' => (∃ b c d, σ = [some (.ref z.x), b, some (.ref p), c, d]) ∧ Wd z.mut H H' [] ∧ PAt CP CT z L { sv with n := sv.n + 1 + ws.length + 1 } H' ∧ H' p = some (.lst (trefs sub))) ?_ ?_ ?_ ?_
  · exact ⟨⟨_, _, _, rfl⟩, c1.fgo c2, hp2, hsub⟩
  · rintro i σ H' _ ⟨_, _, _, h⟩
    exact SqL.of h
  · rintro i x σ H3 H3' hi ⟨⟨b, c, d, rfl⟩, c3, hp3, hs3⟩ ⟨T0, x1, x2, rfl, hT0, rfl, e1, e2⟩
    cases e1
    obtain ⟨a, v, rfl, hv, hm, hv1, hv9⟩ := tokv i _ e2
    have hi2 := (List.getElem?_eq_some_iff.mp hv).1
    have hpT := ne_of_none hs3 hT0
    have c4 := c3.fnew (.tup [.int (i : Nat), .ref a]) hT0
    have hp4 := hp3.new (.tup [.int (i : Nat), .ref a]) hT0
    have hT4 : upd H3 T0 (.tup [.int (i : Nat), .ref a]) T0 = some (.tup [.int (i : Nat), .ref a]) := upd_same
    have hs4 : upd H3 T0 (.tup [.int (i : Nat), .ref a]) p = some (.lst (trefs sub)) := by rw [upd_ne hpT]; exact hs3
    generalize upd H3 T0 (.tup [.int (i : Nat), .ref a]) = H4 at *
    obtain ⟨tdx, tl, tc, hta⟩ := hp4.ts _ hm
    obtain ⟨hn1, hn2⟩ := int_num' (i := v) (by omega) (by omega)
    refine ⟨T0, _, rfl, SqT.of hT4, rfl, _, _, rfl, _, _, rfl, rfl, ?_⟩
    refine ⟨_, rfl, _, rfl, z.x, CP, z.dx, _, _, rfl, hp4.ob, PC.cl, PC.n4, pf_names, z.nl, _, rfl, .inl (SqL.of hp4.nl), rfl, _, rfl, ?_⟩
    refine ite2 (fun h => absurd (of_decide_eq_true h) (fun e => by injection e with e; rw [List.length_map] at e; dsimp only at e; omega)) (fun _ => ?_)
    refine ⟨_, rfl, a, CT, tdx, _, _, rfl, hta, TC.cl, TC.nt, tk_text _ _ _ _, _, v, rfl, hn1, hn2, _, _, rfl, rfl, _, rfl, ?_⟩
    refine ite2 (fun _ => ?_) (fun h => absurd (decide_eq_true hv1) h)
    refine ⟨_, _, rfl, rfl, _, rfl, ?_⟩
    rw [decide_eq_true (show v ≤ 9 from hv9)]
    refine ite2 (fun h => absurd h (by decide)) (fun _ => ?_)
    exact ⟨⟨_, _, _, rfl⟩, c4, hp4, hs4⟩
  · rintro σ H3 ⟨⟨b, c, d, rfl⟩, c3, hp3, hs3⟩
    refine ⟨_, rfl, p, _, rfl, .inl (SqL.of hs3), _, rfl, z.x, CP, z.dx, _, _, rfl, hp3.ob, PC.cl, PC.n4, pf_names, z.nl, _, rfl, .inl (SqL.of hp3.nl), _, _, rfl, rfl, _, rfl, ?_⟩
    refine ite2 (fun h => absurd (of_decide_eq_true h) (by rw [List.length_map, hsl, hwl]; dsimp only; omega)) (fun _ => ?_)
    refine ⟨_, rfl, p, rfl, ⟨_, SqL.of hs3⟩, fun D hD => ?_⟩
    have w0 := (Wd.refl H3).new (.lst []) hD
    refine lc_list (K := K) (a := p) (xs := trefs sub) (fun i H2 => Wd [] H3 H2 [(D, .lst ((ws.take i).map V.int))]) w0 (fun i H2 _ w => SqL.of (w.old hs3 (by simp))) ?_ ?_
    · rintro i x H4 hx w4
      obtain ⟨a, v, rfl, hv, hm, hv1, hv9⟩ := tokv i _ hx
      have hi2 := (List.getElem?_eq_some_iff.mp hv).1
      obtain ⟨tdx, tl, tc, hta⟩ := (hp3.call0 w4).ts _ hm
      obtain ⟨hn1, hn2⟩ := int_num' (i := v) (by omega) (by omega)
      refine ⟨rfl, _, rfl, a, CT, tdx, _, _, rfl, hta, TC.cl, TC.nt, tk_text _ _ _ _, _, v, rfl, hn1, hn2, _, w4.get 0 rfl, ?_, ?_⟩
      · rw [List.length_map, List.length_take]; exact Nat.lt_of_lt_of_le (m := 100) (by omega) (by decide)
      · rw [take_more hv, List.map_append]
        exact w4.put 0 (.lst ((ws.take i).map V.int ++ [V.int v])) rfl (fun _ q => by cases q)
    · intro H4 w4
      rw [hsl, List.take_length] at w4
      refine ⟨D, _, rfl, .inl ⟨SqL.of (w4.get 0 rfl), fun b hb => ?_⟩⟩
      have c5 : Wd z.mut H H4 [] := c3.fgo ((w4.sub (List.nil_sublist _)).mono fun _ h => nomatch h)
      have c6 := c5.fnew (.tup (ws.map V.int)) hb
      have hp6 := (hp3.call0 w4).new (.tup (ws.map V.int)) hb
      refine ⟨_, rfl, z.x, CP, z.dx, _, rfl, hp6.ob, PC.cl, PC.n5, (by show 7 < 1000; decide), ?_⟩
      rw [pf_putW (b, ws)]
      refine q _ b (c6.fput _ (.inr (by simp [Pz.mut])) hp6.ob (fun _ q => by cases q)) (hp6.setX _ rfl rfl (fun p hp => ?_) hp6.m)
      cases hp
      exact upd_same
end
end Br

namespace Br
open PySem PySem.Spec PyProof.Rows L2
section
variable {P : Program} {w : World} {K : PySem.W.Frag} {mg : Str → Option Value} {base : Heap} {CT CP : Addr}
def awToks (ns : List Str) (t : Int × Int × Int) : List (Str × Str) := [("keyword", "away"), ("name", nmL ns t.1), ("number", num t.2.1), ("keyword", "of"), ("number", num t.2.2), ("sign", ";")]
def spAway (CP CT : Addr) : Sp := fun vs H Q _ => ∃ (z : Pz) (L : List (Addr × (Str × Str))) (s : Pv) (t : Int × Int × Int) (rest : List (Str × Str)), vs = [.ref z.x] ∧ PAt CP CT z L s H ∧ s.names.Nodup ∧ s.names.length ≤ 6 ∧ AwOk s.names.length t ∧ s.aws.length < 20 ∧
  TkAt L s.n (awToks s.names t ++ rest) ∧
  ∀ H' b, Wd z.mut H H' [] → PAt CP CT z L { s with n := s.n + 6, aws := s.aws ++ [(b, t)] } H' → Q .non H'
abbrev sParser_parse_away : Stmt := inClass (topS 39) 11
theorem scParser_parse_away : FnScope ["self", "start", "person", "remainder", "modulus"] ["self"] (defScope sParser_parse_away) := ⟨rfl, rfl, rfl, by decide +kernel, rfl, by decide +kernel, by decide +kernel⟩
theorem me_away (D : MethAt K CP "parse_away" "Parser.parse_away" sParser_parse_away ["self"]) (T : Bi mg) (PC : ParCls K CP) (TC : TokCls K CT) (LC : LexC K mg) (hMA : ∃ t, mg "MAX_AWAYS" = some (.int 20 t))
    (hMO : ∃ a, mg "MODULI" = some (.ref a) ∧ ∀ H : Hp, SqT K H a (([2, 3, 4, 6, 8, 12] : List Int).map V.int))
    (C0 : MeAt P w K mg base 1 CP "peek" ["self"] (spPeek CP CT)) (C1 : MeAt P w K mg base 2 CP "take_word" ["self", "word"] (spTakeW CP CT))
    (C2 : MeAt P w K mg base 2 CP "take" ["self", "kind"] (spTake CP CT)) (C3 : MeAt P w K mg base 1 CP "person" ["self", "token"] (spPerson CP CT)) : MeAt P w K mg base 3 CP "parse_away" ["self"] (spAway CP CT) := D.me fun f fd F => by
  have nd := scParser_parse_away.nd
  have cl_Parser := PC.cl
  obtain ⟨t1, c_NAME⟩ := LC.NAME
  obtain ⟨t3, c_NUMBER⟩ := LC.NUMBER
  obtain ⟨t4, c_END_SIGN⟩ := LC.END_SIGN
  obtain ⟨t2, c_MAX_AWAYS⟩ := hMA
  obtain ⟨a_MODULI, c_MODULI, hmo⟩ := hMO
  obtain ⟨f0, fd0, me_peek, b_peek, G_peek⟩ := C0.ex
  obtain ⟨f1, fd1, me_take_word, b_take_word, G_take_word⟩ := C1.ex
  obtain ⟨f2, fd2, me_take, b_take, G_take⟩ := C2.ex
  obtain ⟨f3, fd3, me_person, b_person, G_person⟩ := C3.ex
  refine F.ok scParser_parse_away (fun vs H Q E h => ?_) (fun cdv A outer s H vs Q E hr h => ?_)
  · obtain ⟨z, L, s, ts, rest, rfl, _⟩ := h; rfl
  obtain ⟨z, L, sv, t, rest, rfl, hp, hnd, h6, ⟨g1, g2, g3, g4, g5⟩, h20, hts, q⟩ := h
  refine ⟨_, (pss_cons (ps_set (i := 1) nd rfl (Or.inl rfl) (pe_meth0 (pv 0) cl_Parser me_peek G_peek (hr.mono (by first | decide | omega)) b_peek .nil pass0))
 (pss_cons (ps_expr (pe_meth (pv 0) cl_Parser me_take_word G_take_word (hr.mono (by first | decide | omega)) b_take_word .nil pass0 (pa_cons pe_str pa_nil)))
 (pss_cons (ps_set (i := 2) nd rfl (Or.inl rfl) (pe_meth (pv 0) cl_Parser me_person G_person (hr.mono (by first | decide | omega)) b_person .nil pass0 (pa_cons (pe_meth (pv 0) cl_Parser me_take G_take (hr.mono (by first | decide | omega)) b_take .nil pass0 (pa_cons (pe_glob (v := .str "name") (by rfl) c_NAME ⟨_, rfl⟩) pa_nil)) pa_nil)))
 (pss_cons (ps_set (i := 3) nd rfl (Or.inl rfl) (pe_meth (pv 0) cl_Parser me_take G_take (hr.mono (by first | decide | omega)) b_take .nil pass0 (pa_cons (pe_glob (v := .str "number") (by rfl) c_NUMBER ⟨_, rfl⟩) pa_nil)))
 (pss_cons (ps_expr (pe_meth (pv 0) cl_Parser me_take_word G_take_word (hr.mono (by first | decide | omega)) b_take_word .nil pass0 (pa_cons pe_str pa_nil)))
 (pss_cons (ps_set (i := 4) nd rfl (Or.inl rfl) (pe_meth (pv 0) cl_Parser me_take G_take (hr.mono (by first | decide | omega)) b_take .nil pass0 (pa_cons (pe_glob (v := .str "number") (by rfl) c_NUMBER ⟨_, rfl⟩) pa_nil)))
 (pss_cons (ps_expr (pe_meth (pv 0) cl_Parser me_take_word G_take_word (hr.mono (by first | decide | omega)) b_take_word .nil pass0 (pa_cons (pe_glob (v := .str ";") (by rfl) c_END_SIGN ⟨_, rfl⟩) pa_nil)))
 (pss_cons (ps_if (pt_cmpR (r := rIn K true) op_notIn_seq (pe_callTy call_int_str (by rfl) T.int (by decide +kernel) (pa_cons (pe_fldK (K := K) rfl (pv 4) rfl) pa_nil)) (pe_glob (v := .ref a_MODULI) (by rfl) c_MODULI rfl) (by rfl))
 pss_never
 (pss_one (ps_if (pt_cmpR op_ge (pe_callTy call_int_str (by rfl) T.int (by decide +kernel) (pa_cons (pe_fldK (K := K) rfl (pv 3) rfl) pa_nil)) (pe_callTy call_int_str (by rfl) T.int (by decide +kernel) (pa_cons (pe_fldK (K := K) rfl (pv 4) rfl) pa_nil)) (nomark _))
 pss_never
 (pss_one (ps_if (pt_cmpR op_eq (pe_callB (r := rLenS K) call_len_seq (by rfl) T.len PySem.boot_len (pa_cons (pe_fldK (K := K) rfl (pv 0) rfl) pa_nil)) (pe_glob (v := .int 20) (by rfl) c_MAX_AWAYS ⟨_, rfl⟩) (nomark _))
 pss_never
 pss_nil)))))
 (pss_one (ps_expr (pe_bmK (K := K) rfl PySem.F.plainAttrs_list PySem.F.slot_list_append PySem.F.type_list_append mt_append (pe_fldK (K := K) rfl (pv 0) rfl) (pa_cons (pe_tup (pa_cons (pv 2) (pa_cons (pe_callTy call_int_str (by rfl) T.int (by decide +kernel) (pa_cons (pe_fldK (K := K) rfl (pv 3) rfl) pa_nil)) (pa_cons (pe_callTy call_int_str (by rfl) T.int (by decide +kernel) (pa_cons (pe_fldK (K := K) rfl (pv 4) rfl) pa_nil)) pa_nil)))) pa_nil)))))))))))), ?_⟩
  have g6 : t.2.2 ≤ 12 := by simp at g5; omega
  have g7 : 2 ≤ t.2.2 := by simp at g5; omega
  obtain ⟨⟨a0, h0⟩, hts1⟩ := hts.cons
  obtain ⟨⟨a1, h1⟩, hts2⟩ := hts1.cons
  obtain ⟨⟨a2, h2⟩, hts3⟩ := hts2.cons
  obtain ⟨⟨a3, h3⟩, hts4⟩ := hts3.cons
  obtain ⟨⟨a4, h4⟩, hts5⟩ := hts4.cons
  obtain ⟨⟨a5, h5⟩, hts6⟩ := hts5.cons
  refine ⟨_, rfl, z.x, z.dx, _, rfl, hp.ob, pf_none (by decide +kernel), z, L, sv, a0, _, rfl, hp, h0, ?_⟩
  refine ⟨_, rfl, z.x, z.dx, _, rfl, hp.ob, pf_none (by decide +kernel), z, L, sv, a0, _, _, rfl, hp, h0, fun H1 c1 hp1 => ?_⟩
  refine ⟨_, rfl, z.x, z.dx, _, rfl, hp1.ob, pf_none (by decide +kernel), _, rfl, z.x, z.dx, _, rfl, hp1.ob, pf_none (by decide +kernel), z, L, _, a1, _, _, rfl, hp1, h1, fun H2 c2 hp2 => ?_⟩
  refine ⟨z, L, _, a1, _, _, t.1.toNat, rfl, hp2, List.mem_of_getElem? h1, hnd, nmL_at g1 g2, ?_⟩
  refine ⟨_, rfl, z.x, z.dx, _, rfl, hp2.ob, pf_none (by decide +kernel), z, L, _, a2, _, _, rfl, hp2, h2, fun H3 c3 hp3 => ?_⟩
  refine ⟨_, rfl, z.x, z.dx, _, rfl, hp3.ob, pf_none (by decide +kernel), z, L, _, a3, _, _, rfl, hp3, h3, fun H4 c4 hp4 => ?_⟩
  refine ⟨_, rfl, z.x, z.dx, _, rfl, hp4.ob, pf_none (by decide +kernel), z, L, _, a4, _, _, rfl, hp4, h4, fun H5 c5 hp5 => ?_⟩
  refine ⟨_, rfl, z.x, z.dx, _, rfl, hp5.ob, pf_none (by decide +kernel), z, L, _, a5, _, _, rfl, hp5, h5, fun H6 c6 hp6 => ?_⟩
  have c7 := ((((c1.fgo c2).fgo c3).fgo c4).fgo c5).fgo c6
  obtain ⟨ndx, nl_, nc, hta2⟩ := hp6.ts _ (List.mem_of_getElem? h2)
  obtain ⟨mdx, ml, mc, hta4⟩ := hp6.ts _ (List.mem_of_getElem? h4)
  obtain ⟨hr1, hr2⟩ := int_num' (i := t.2.1) (by omega) (by omega)
  obtain ⟨hm1, hm2⟩ := int_num' (i := t.2.2) (by omega) (by omega)
  refine ⟨_, rfl, a4, CT, mdx, _, _, rfl, hta4, TC.cl, TC.nt, tk_text _ _ _ _, _, _, rfl, hm1, hm2, a_MODULI, _, rfl, .inr (hmo _), rfl, flat_ints _, _, rfl, ?_⟩
  rw [if_pos rfl, inV_ints, decide_eq_true g5]
  refine ite2 (fun h => absurd h (by decide)) (fun _ => ?_)
  refine ⟨_, rfl, a2, CT, ndx, _, _, rfl, hta2, TC.cl, TC.nt, tk_text _ _ _ _, _, _, rfl, hr1, hr2, _, rfl, a4, CT, mdx, _, _, rfl, hta4, TC.cl, TC.nt, tk_text _ _ _ _, _, _, rfl, hm1, hm2, _, _, rfl, rfl, _, rfl, ?_⟩
  refine ite2 (fun h => absurd (of_decide_eq_true h) (by omega)) (fun _ => ?_)
  refine ⟨_, rfl, z.x, CP, z.dx, _, _, rfl, hp6.ob, PC.cl, PC.n7, pf_aways, z.al, _, rfl, .inl (SqL.of hp6.al), rfl, _, rfl, ?_⟩
  refine ite2 (fun h => absurd (of_decide_eq_true h) (fun e => by injection e with e; unfold arefs at e; rw [List.length_map] at e; dsimp only at e; omega)) (fun _ => ?_)
  have halm : z.al ∈ z.mut := by simp [Pz.mut]
  refine ⟨_, rfl, z.x, CP, z.dx, _, _, rfl, hp6.ob, PC.cl, PC.n7, pf_aways, .inl ⟨rfl, _, SqL.of hp6.al⟩, _, rfl, _, rfl, a2, CT, ndx, _, _, rfl, hta2, TC.cl, TC.nt, tk_text _ _ _ _, _, _, rfl, hr1, hr2, _, rfl, a4, CT, mdx, _, _, rfl, hta4, TC.cl, TC.nt, tk_text _ _ _ _, _, _, rfl, hm1, hm2, (by show 3 ≤ sizeLine; decide), fun b hb => ?_⟩
  have e1 : ((t.1.toNat : Nat) : Int) = t.1 := Int.toNat_of_nonneg g1
  rw [e1]
  have hp7 := hp6.new (.tup (tri t)) hb
  have c8 := c7.fnew (.tup (tri t)) hb
  have hbt : upd H6 b (.tup (tri t)) b = some (.tup (tri t)) := upd_same
  show ∃ a xs, _
  refine ⟨z.al, arefs sv.aws, _, rfl, rfl, hp7.al, ?_, ?_⟩
  · unfold arefs; rw [List.length_map]; exact Nat.lt_of_lt_of_le (m := 100) (by omega) (by decide)
  have e2 : arefs sv.aws ++ [V.ref b] = arefs (sv.aws ++ [(b, t)]) := by simp [arefs]
  rw [e2]
  refine q _ b (c8.fput _ (.inr halm) hp7.al (fun _ q => by cases q)) (hp7.setA _ fun q hq => ?_)
  rcases List.mem_append.mp hq with hq | hq
  · exact hp7.aw q hq
  · rw [List.mem_singleton.mp hq]; exact hbt
/-! ### who makes up -/
def spMakeup (CP CT : Addr) : Sp := fun vs H Q _ => ∃ (z : Pz) (L : List (Addr × (Str × Str))) (s : Pv) (ks : List Int) (rest : List (Str × Str)), vs = [.ref z.x] ∧ PAt CP CT z L s H ∧ s.M = none ∧ s.names.Nodup ∧ s.names.length ≤ 6 ∧ ks ≠ [] ∧ ks.length ≤ 12 ∧
  (∀ k ∈ ks, 0 ≤ k ∧ k < s.names.length) ∧
  TkAt L s.n ((("keyword" : Str), ("makeup" : Str)) :: ((ks.map (nmL s.names)).map (fun t => (("name" : Str), t)) ++ (("sign" : Str), (";" : Str)) :: rest)) ∧
  ∀ H' b ms, Wd z.mut H H' [] → ms.Pairwise (· < ·) → (∀ k : Int, k ∈ ms ↔ k ∈ ks) → PAt CP CT z L { s with n := s.n + 1 + ks.length + 1, M := some (b, ms) } H' → Q .non H'
abbrev sParser_parse_makeup : Stmt := inClass (topS 39) 12
theorem scParser_parse_makeup : FnScope ["self", "start", "persons", "token"] ["self"] (defScope sParser_parse_makeup) := ⟨rfl, rfl, rfl, by decide +kernel, rfl, by decide +kernel, by decide +kernel⟩
theorem me_makeup (D : MethAt K CP "parse_makeup" "Parser.parse_makeup" sParser_parse_makeup ["self"]) (T : Bi mg) (PC : ParCls K CP) (TC : TokCls K CT) (LC : LexC K mg)
    (C0 : MeAt P w K mg base 1 CP "peek" ["self"] (spPeek CP CT)) (C1 : MeAt P w K mg base 2 CP "take_word" ["self", "word"] (spTakeW CP CT))
    (C2 : MeAt P w K mg base 3 CP "take_all" ["self", "kind"] (spTakeA CP CT)) (C3 : MeAt P w K mg base 1 CP "person" ["self", "token"] (spPerson CP CT)) : MeAt P w K mg base 4 CP "parse_makeup" ["self"] (spMakeup CP CT) := D.me fun f fd F => by
  have nd := scParser_parse_makeup.nd
  have cl_Parser := PC.cl
  obtain ⟨t1, c_NAME⟩ := LC.NAME
  obtain ⟨f0, fd0, me_peek, b_peek, G_peek⟩ := C0.ex
  obtain ⟨f1, fd1, me_take_word, b_take_word, G_take_word⟩ := C1.ex
  obtain ⟨f2, fd2, me_take_all, b_take_all, G_take_all⟩ := C2.ex
  obtain ⟨f3, fd3, me_person, b_person, G_person⟩ := C3.ex
  refine F.ok scParser_parse_makeup (fun vs H Q E h => ?_) (fun cdv A outer s H vs Q E hr h => ?_)
  · obtain ⟨z, L, s, ts, rest, rfl, _⟩ := h; rfl
  obtain ⟨z, L, sv, ks, rest, rfl, hp, hM, hnd, h6, hne, h12, hin, hts, q⟩ := h
  refine ⟨_, (pss_cons (ps_set (i := 1) nd rfl (Or.inl rfl) (pe_meth0 (pv 0) cl_Parser me_peek G_peek (hr.mono (by first | decide | omega)) b_peek .nil pass0))
 (pss_cons (ps_expr (pe_meth (pv 0) cl_Parser me_take_word G_take_word (hr.mono (by first | decide | omega)) b_take_word .nil pass0 (pa_cons pe_str pa_nil)))
 (pss_cons (ps_setLc (i := 2) (own := [("token", 3)]) rfl nd rfl rfl (sw_true rfl rfl rfl (by decide +kernel)) (pi_listK (K := K) rfl (pe_meth (pv 0) cl_Parser me_take_all G_take_all (hr.mono (by first | decide | omega)) b_take_all .nil pass0 (pa_cons (pe_glob (v := .str "name") (by rfl) c_NAME ⟨_, rfl⟩) pa_nil))) (blkOk_by (N := ["self", "start", "persons", "token"]) (sc := defScope sParser_parse_makeup) (by decide +kernel)) (fun _ _ _ _ _ => (pg_name (i := 3) nd rfl (Or.inl rfl))) (fun _ _ _ _ _ => pts_nil) (fun _ _ _ _ _ => (pe_meth (pv 0) cl_Parser me_person G_person (hr.mono (by first | decide | omega)) b_person .nil pass0 (pa_cons (pv 3) pa_nil))))
 (pss_cons (ps_if (pt_cmpR op_notN (pe_fldK (K := K) rfl (pv 0) rfl) pe_non (nomark _))
 pss_never
 pss_nil)
 (pss_one (ps_fld (pv 0) (pe_callTy (r := rTupOf K) call_tuple_of (by rfl) T.tuple (by decide +kernel) (pa_cons (pe_callB (r := rSortedSet w) (cr_sortedSet rfl) (by rfl) T.sorted (by decide +kernel) (pa_cons (pe_callTy (r := rSetI K w) (cr_setI rfl) (by rfl) T.set (by decide +kernel) (pa_cons (pv 2) pa_nil)) pa_nil)) pa_nil)) rfl)))))), ?_⟩
  obtain ⟨⟨a0, h0⟩, hts1⟩ := hts.cons
  refine ⟨_, rfl, z.x, z.dx, _, rfl, hp.ob, pf_none (by decide +kernel), z, L, sv, a0, _, rfl, hp, h0, ?_⟩
  refine ⟨_, rfl, z.x, z.dx, _, rfl, hp.ob, pf_none (by decide +kernel), z, L, sv, a0, _, _, rfl, hp, h0, fun H1 c1 hp1 => ?_⟩
  refine ⟨_, rfl, z.x, z.dx, _, rfl, hp1.ob, pf_none (by decide +kernel), z, L, _, _, ks.map (nmL sv.names), rest, rfl, hp1, by decide +kernel, by simpa using hne, by rw [List.length_map]; omega, hts1, fun H2 p sub c2 hp2 hpn hsub hmap hmem => ?_⟩
  have hsl : (trefs sub).length = ks.length := by
    have := congrArg List.length hmap
    rw [List.length_map, List.length_map, List.length_map] at this
    rw [trefs_len]; exact this
  have hlen : (ks.map (nmL sv.names)).length = ks.length := List.length_map ..
  rw [hlen] at hp2
  have tokv : ∀ (i : Nat) (x : V), (trefs sub)[i]? = some x → ∃ a v, x = .ref a ∧ ks[i]? = some v ∧ (a, (("name" : Str), nmL sv.names v)) ∈ L ∧ 0 ≤ v ∧ v < sv.names.length := fun i x hx => by
    obtain ⟨a, t, rfl, ht, hm⟩ := sub_at hmap hx
    rw [List.getElem?_map] at ht
    cases e5 : ks[i]? with
    | none => rw [e5] at ht; cases ht
    | some v =>
      rw [e5] at ht
      have e6 : nmL sv.names v = t := Option.some.inj ht
      exact ⟨a, v, rfl, rfl, by rw [e6]; exact hmem _ hm, (hin v (List.mem_of_getElem? e5)).1, (hin v (List.mem_of_getElem? e5)).2⟩
  have c3 := c1.fgo c2
  refine ⟨p, rfl, ⟨_, SqL.of hsub⟩, fun D hD => ?_⟩
  have w0 := (Wd.refl H2).new (.lst []) hD
  refine lc_list (K := K) (a := p) (xs := trefs sub) (fun i H3 => Wd [] H2 H3 [(D, .lst ((ks.take i).map V.int))]) w0 (fun i H3 _ w => SqL.of (w.old hsub (by simp))) ?_ ?_
  · rintro i x H4 hx w4
    obtain ⟨a, v, rfl, hv, hm, hv1, hv9⟩ := tokv i _ hx
    have hi2 := (List.getElem?_eq_some_iff.mp hv).1
    have hp4 := hp2.call0 w4
    refine ⟨rfl, _, rfl, z.x, z.dx, _, rfl, hp4.ob, pf_none (by decide +kernel), _, rfl, z, L, _, a, _, _, v.toNat, rfl, hp4, hm, hnd, nmL_at hv1 hv9, _, w4.get 0 rfl, ?_, ?_⟩
    · rw [List.length_map, List.length_take]; exact Nat.lt_of_lt_of_le (m := 100) (by omega) (by decide)
    · rw [take_more hv, List.map_append, Int.toNat_of_nonneg hv1]
      exact w4.put 0 (.lst ((ks.take i).map V.int ++ [V.int v])) rfl (fun _ q => by cases q)
  · intro H4 w4
    rw [hsl, List.take_length] at w4
    have hp4 := hp2.call0 w4
    have hw2 : oV sv.M = .non := by rw [hM]; rfl
    have c5 : Wd z.mut H H4 [] := c3.fgo ((w4.sub (List.nil_sublist _)).mono fun _ h => nomatch h)
    refine ⟨_, rfl, z.x, CP, z.dx, _, _, rfl, hp4.ob, PC.cl, PC.n6, pf_makers, rfl, _, rfl, ?_⟩
    dsimp only
    rw [hw2]
    refine ite2 (fun h => absurd h (by simp)) (fun _ => ?_)
    refine ⟨_, rfl, D, ks, rfl, SqL.of (w4.get 0 rfl), by omega, fun sa n hsa hn => ?_⟩
    have c6 := c5.fnew (SetO w sa (fun j => decide (j ∈ ks)) n) hsa
    have hp6 := hp4.new (SetO w sa (fun j => decide (j ∈ ks)) n) hsa
    refine ⟨sa, _, n, rfl, upd_same, by omega, fun ms lp hpw hms hl hlp => ?_⟩
    have c7 := c6.fnew (.lst (ms.map V.int)) hlp
    have hp7 := hp6.new (.lst (ms.map V.int)) hlp
    refine ⟨lp, _, rfl, .inl ⟨SqL.of upd_same, fun b hb => ?_⟩⟩
    have c8 := c7.fnew (.tup (ms.map V.int)) hb
    have hp8 := hp7.new (.tup (ms.map V.int)) hb
    refine ⟨_, rfl, z.x, CP, z.dx, _, rfl, hp8.ob, PC.cl, PC.n6, (by show 7 < 1000; decide), ?_⟩
    rw [pf_putM (b, ms)]
    refine q _ b ms (c8.fput _ (.inr (by simp [Pz.mut])) hp8.ob (fun _ q => by cases q)) hpw (fun k => (hms k).trans ⟨of_decide_eq_true, decide_eq_true⟩) (hp8.setX _ rfl rfl hp8.w (fun p hp => ?_))
    cases hp
    exact upd_same
end
end Br

namespace Br
open PySem PySem.Spec PyProof.Rows L2
theorem asc_unique {α : Type} {R : α → α → Prop} (irr : ∀ a b, R a b → R b a → False) : ∀ {l l' : List α}, l.Pairwise R → l'.Pairwise R → (∀ x, x ∈ l ↔ x ∈ l') → l = l'
  | [], [], _, _, _ => rfl
  | [], b :: l', _, _, h => absurd ((h b).mpr List.mem_cons_self) (by simp)
  | a :: l, [], _, _, h => absurd ((h a).mp List.mem_cons_self) (by simp)
  | a :: l, b :: l', p, p', h => by
    rw [List.pairwise_cons] at p p'
    have e : a = b := by
      by_cases e : a = b
      · exact e
      · have h1 : a ∈ l' := (List.mem_cons.mp ((h a).mp List.mem_cons_self)).resolve_left e
        have h2 : b ∈ l := (List.mem_cons.mp ((h b).mpr List.mem_cons_self)).resolve_left (Ne.symm e)
        exact (irr _ _ (p.1 b h2) (p'.1 a h1)).elim
    subst e
    refine congrArg (a :: ·) (asc_unique irr p.2 p'.2 fun x => ⟨fun hx => ?_, fun hx => ?_⟩)
    · refine (List.mem_cons.mp ((h x).mp (List.mem_cons_of_mem _ hx))).resolve_left fun e => ?_
      subst e
      exact irr _ _ (p.1 _ hx) (p.1 _ hx)
    · refine (List.mem_cons.mp ((h x).mpr (List.mem_cons_of_mem _ hx))).resolve_left fun e => ?_
      subst e
      exact irr _ _ (p'.1 _ hx) (p'.1 _ hx)
theorem lexLt_irr (s t : Int × Int × Int) (h : lexLt s t) (h' : lexLt t s) : False := by
  unfold lexLt at h h'; omega
theorem TkAt.cast {L : List (Addr × (Str × Str))} {n m : Nat} {ts : List (Str × Str)} (h : TkAt L n ts) (e : n = m) : TkAt L m ts := e ▸ h
/-! ### a text's statements -/
inductive Stm where
  | w
  | aw (t : Int × Int × Int)
  | mk (ks : List Int)
def Stm.isW : Stm → Bool
  | .w => true
  | _ => false
def Stm.aw? : Stm → Option (Int × Int × Int)
  | .aw t => some t
  | _ => none
def Stm.mk? : Stm → Option (List Int)
  | .mk ks => some ks
  | _ => none
theorem aw_cons (t : Int × Int × Int) (S : List Stm) : (Stm.aw t :: S).filterMap Stm.aw? = t :: S.filterMap Stm.aw? := rfl
theorem mk_cons (ks : List Int) (S : List Stm) : (Stm.mk ks :: S).filterMap Stm.mk? = ks :: S.filterMap Stm.mk? := rfl
def stmToks (r : Rota) : Stm → List (Str × Str)
  | .w => ("keyword", "weights") :: ((r.weights.map num).map (fun t => (("number" : Str), t)) ++ [(("sign" : Str), (";" : Str))])
  | .aw t => awToks r.names t
  | .mk ks => ("keyword", "makeup") :: ((ks.map (nmL r.names)).map (fun t => (("name" : Str), t)) ++ [(("sign" : Str), (";" : Str))])
structure Spell (r : Rota) (S : List Stm) : Prop where
  w1 : (S.filter Stm.isW).length ≤ 1
  w0 : S.filter Stm.isW = [] → r.weights = List.replicate r.names.length 1
  aw : ∀ t, t ∈ S.filterMap Stm.aw? ↔ t ∈ r.aways
  aw20 : (S.filterMap Stm.aw?).length ≤ 20
  m1 : (S.filterMap Stm.mk?).length ≤ 1
  mks : ∀ ks ∈ S.filterMap Stm.mk?, ks ≠ [] ∧ ks.length ≤ 12 ∧ ∀ k : Int, k ∈ ks ↔ k ∈ r.makers
  m0 : S.filterMap Stm.mk? = [] → r.makers = []
def rotaToks (r : Rota) (S : List Stm) : List (Str × Str) := (("keyword" : Str), ("people" : Str)) :: (r.names.map (fun t => (("name" : Str), t)) ++ (("sign" : Str), (";" : Str)) ::
  ((("keyword" : Str), ("turns" : Str)) :: ((r.turns.map (nmL r.names)).map (fun t => (("name" : Str), t)) ++ (("sign" : Str), (";" : Str)) :: (S.flatMap (stmToks r) ++ [(("end" : Str), ("" : Str))]))))
def l3 (t : Int × Int × Int) : List Int := [t.1, t.2.1, t.2.2]
def tr3 (l : List Int) : Int × Int × Int := (l.getD 0 0, l.getD 1 0, l.getD 2 0)
def atOf (o : Option HO) : Nat := match o with
  | some (.ins _ _ fs) => match fs.lookup ("at" : Str) with
    | some (.int i) => i.toNat
    | _ => 0
  | _ => 0
section
variable {P : Program} {w : World} {K : PySem.W.Frag} {mg : Str → Option Value} {base : Heap} {CT CP : Addr}
def spParse (CP CT : Addr) : Sp := fun vs H Q _ => ∃ (z : Pz) (L : List (Addr × (Str × Str))) (r : Rota) (S : List Stm), vs = [.ref z.x] ∧ PAt CP CT z L ⟨0, [], [], none, none⟩ H ∧ ROk r ∧ Spell r S ∧ TkAt L 0 (rotaToks r S) ∧
  ∀ H' a, Wd z.mut H H' [] → RotaAt H' a r → Q (.ref a) H'
abbrev sParser_parse_rota : Stmt := inClass (topS 39) 13
theorem scParser_parse_rota : FnScope ["self", "turns", "line", "column", "number", "reason", "weights", "makers"] ["self"] (defScope sParser_parse_rota) := ⟨rfl, rfl, rfl, by decide +kernel, rfl, by decide +kernel, by decide +kernel⟩
theorem me_rota (D : MethAt K CP "parse_rota" "Parser.parse_rota" sParser_parse_rota ["self"]) (T : Bi mg) (PC : ParCls K CP) (TC : TokCls K CT) (LC : LexC K mg)
    (C0 : MeAt P w K mg base 1 CP "peek" ["self"] (spPeek CP CT)) (C1 : MeAt P w K mg base 4 CP "parse_people" ["self"] (spPeople CP CT))
    (C2 : MeAt P w K mg base 4 CP "parse_turns" ["self"] (spTurns CP CT)) (C3 : MeAt P w K mg base 4 CP "parse_weights" ["self"] (spWeights CP CT))
    (C4 : MeAt P w K mg base 3 CP "parse_away" ["self"] (spAway CP CT)) (C5 : MeAt P w K mg base 4 CP "parse_makeup" ["self"] (spMakeup CP CT)) : MeAt P w K mg base 5 CP "parse_rota" ["self"] (spParse CP CT) := D.me fun f fd F => by
  have nd := scParser_parse_rota.nd
  have cl_Parser := PC.cl
  obtain ⟨t1, c_END⟩ := LC.END
  obtain ⟨f0, fd0, me_peek, b_peek, G_peek⟩ := C0.ex
  obtain ⟨f1, fd1, me_parse_people, b_parse_people, G_parse_people⟩ := C1.ex
  obtain ⟨f2, fd2, me_parse_turns, b_parse_turns, G_parse_turns⟩ := C2.ex
  obtain ⟨f3, fd3, me_parse_weights, b_parse_weights, G_parse_weights⟩ := C3.ex
  obtain ⟨f4, fd4, me_parse_away, b_parse_away, G_parse_away⟩ := C4.ex
  obtain ⟨f5, fd5, me_parse_makeup, b_parse_makeup, G_parse_makeup⟩ := C5.ex
  refine F.ok scParser_parse_rota (fun vs H Q E h => ?_) (fun cdv A outer s H vs Q E hr h => ?_)
  · obtain ⟨z, L, s, ts, rfl, _⟩ := h; rfl
  obtain ⟨z, L, r, S, rfl, hp, ok, sp, hts, q⟩ := h
  have hu := hr.units
  have hkey : (!decide (V.str "keyword" = V.str "end")) = true := by decide +kernel
  have hwa : ¬ ("away" : Str) = "weights" := by decide +kernel
  have hwm : ¬ ("makeup" : Str) = "weights" := by decide +kernel
  have ham_ : ¬ ("makeup" : Str) = "away" := by decide +kernel
  refine ⟨_, (pss_cons (ps_expr (pe_meth0 (pv 0) cl_Parser me_parse_people G_parse_people (hr.mono (by first | decide | omega)) b_parse_people .nil pass0))
 (pss_cons (ps_set (i := 1) nd rfl (Or.inl rfl) (pe_meth0 (pv 0) cl_Parser me_parse_turns G_parse_turns (hr.mono (by first | decide | omega)) b_parse_turns .nil pass0))
 (pss_cons (ps_while PassesOwn.never (pt_cmpR op_ne (pe_fldK (K := K) rfl (pe_meth0 (pv 0) cl_Parser me_peek G_peek (hr.mono (by first | decide | omega)) b_peek .nil pass0) rfl) (pe_glob (v := .str "end") (by rfl) c_END ⟨_, rfl⟩) (nomark _))
 (pss_one (ps_match (pe_fldK (K := K) rfl (pe_meth0 (pv 0) cl_Parser me_peek G_peek (hr.mono (by first | decide | omega)) b_peek .nil pass0) rfl) (pcs_str (pss_one (ps_expr (pe_meth0 (pv 0) cl_Parser me_parse_weights G_parse_weights (hr.mono (by first | decide | omega)) b_parse_weights .nil pass0))) (pcs_str (pss_one (ps_expr (pe_meth0 (pv 0) cl_Parser me_parse_away G_parse_away (hr.mono (by first | decide | omega)) b_parse_away .nil pass0))) (pcs_str (pss_one (ps_expr (pe_meth0 (pv 0) cl_Parser me_parse_makeup G_parse_makeup (hr.mono (by first | decide | omega)) b_parse_makeup .nil pass0))) (pcs_any pss_never)))))))
 (pss_cons (ps_if (pt_cmpR (r := rNeD K) (op_neD hu) (pe_fldK (K := K) rfl (pv 0) rfl) (pe_lst pa_nil) (nomark _))
 pss_never
 pss_nil)
 (C8.pss_cut (ps_set (i := 6) nd rfl (Or.inl rfl) (pe_ifExp (pt_cmpR op_notN (pe_fldK (K := K) rfl (pv 0) rfl) pe_non (nomark _)) (pe_fldK (K := K) rfl (pv 0) rfl) (pe_op (r := rRepA K) op_repA (pe_tup (pa_cons pe_int pa_nil)) (pe_callB (r := rLenS K) call_len_seq (by rfl) T.len PySem.boot_len (pa_cons (pe_fldK (K := K) rfl (pv 0) rfl) pa_nil)))))
 (C8.pss_cut (ps_set (i := 7) nd rfl (Or.inl rfl) (pe_ifExp (pt_cmpR op_notN (pe_fldK (K := K) rfl (pv 0) rfl) pe_non (nomark _)) (pe_fldK (K := K) rfl (pv 0) rfl) (pe_tup pa_nil)))
 (pss_one (ps_ret (pe_tup (pa_cons (pe_callTy (r := rTupOf K) call_tuple_of (by rfl) T.tuple (by decide +kernel) (pa_cons (pe_fldK (K := K) rfl (pv 0) rfl) pa_nil)) (pa_cons (pv 1) (pa_cons (pv 6) (pa_cons (pe_callTy (r := rTupOf K) call_tuple_of (by rfl) T.tuple (by decide +kernel) (pa_cons (pe_callB (r := rSortedT K P w) (cr_sortedT rfl) (by rfl) T.sorted (by decide +kernel) (pa_cons (pe_callTy (r := rSetOfT K P w) (cr_setOfT rfl hu) (by rfl) T.set (by decide +kernel) (pa_cons (pe_fldK (K := K) rfl (pv 0) rfl) pa_nil)) pa_nil)) pa_nil)) (pa_cons (pv 7) pa_nil)))))))))))))), ?_⟩
  have n1 := ok.n1
  have n6 := ok.n6
  have hnn : r.names ≠ [] := fun e => by rw [e] at n1; simp at n1
  have htn : r.turns ≠ [] := fun e => by have := ok.tall 0 (by omega); rw [e] at this; simp at this
  have hwn : r.weights ≠ [] := fun e => by have := ok.wl; rw [e] at this; simp at this; omega
  refine ⟨_, rfl, z.x, z.dx, _, rfl, hp.ob, pf_none (by decide +kernel), z, L, _, r.names, _, rfl, hp, rfl, hnn, n6, ok.nd, hts, fun H1 c1 hp1 => ?_⟩
  have hts1 : TkAt L (0 + 1 + r.names.length + 1) _ := hts.cons.2.app.cons.2.cast (by rw [List.length_map])
  refine ⟨_, rfl, z.x, z.dx, _, rfl, hp1.ob, pf_none (by decide +kernel), z, L, _, r.turns, _, rfl, hp1, ok.nd, n6, htn, ok.t12, ok.t0, ok.tall, hts1, fun H2 tn c2 hp2 htu => ?_⟩
  have hts2 : TkAt L (0 + 1 + r.names.length + 1 + 1 + r.turns.length + 1) _ := hts1.cons.2.app.cons.2.cast (by rw [List.length_map, List.length_map])
  refine while_by (fun σ H' => σ = [some (.ref z.x), some (.ref tn), none, none, none, none, none, none] ∧ ∃ (s : Pv) (S1 S2 : List Stm), Wd z.mut H H' [] ∧ PAt CP CT z L s H' ∧ H' tn = some (.tup (r.turns.map V.int)) ∧ S1 ++ S2 = S ∧ s.names = r.names ∧
      TkAt L s.n (S2.flatMap (stmToks r) ++ [(("end" : Str), ("" : Str))]) ∧ s.aws.map Prod.snd = S1.filterMap Stm.aw? ∧
      ((s.W = none ∧ S1.filter Stm.isW = []) ∨ ((∃ b, s.W = some (b, r.weights)) ∧ S1.filter Stm.isW ≠ [])) ∧ ((s.M = none ∧ S1.filterMap Stm.mk? = []) ∨ ((∃ b, s.M = some (b, r.makers)) ∧ S1.filterMap Stm.mk? ≠ []))) (fun _ H' => L.length - atOf (H' z.x))
    ⟨rfl, _, [], S, c1.fgo c2, hp2, htu, rfl, rfl, hts2, rfl, .inl ⟨rfl, rfl⟩, .inl ⟨rfl, rfl⟩⟩ ?_ ?_
  · rintro σ H3 ⟨rfl, s3, S1, S2, c3, hp3, htu3, hS, hnm, hts3, haw3, hW3, hM3⟩
    have hat : atOf (H3 z.x) = s3.n := by
      rw [hp3.ob]
      unfold atOf
      simp only [pf_at]; rfl
    have nd1 := hp3.ne
    cases S2 with
    | nil =>
      rw [List.append_nil] at hS
      subst hS
      obtain ⟨⟨a0, h0⟩, _⟩ := hts3.cons
      obtain ⟨tdx, tl, tc, hta⟩ := hp3.ts _ (List.mem_of_getElem? h0)
      refine ⟨_, rfl, z.x, z.dx, _, rfl, hp3.ob, pf_none (by decide +kernel), z, L, s3, a0, _, rfl, hp3, h0, a0, CT, tdx, _, _, rfl, hta, TC.cl, TC.nk, tk_kind _ _ _ _, rfl, _, rfl, ?_⟩
      refine ite2 (fun h => absurd h (by simp)) (fun _ => ?_)
      refine ⟨_, rfl, z.x, CP, z.dx, _, _, rfl, hp3.ob, PC.cl, PC.n3, pf_faults, (by show 0 ≤ sizeLine; decide), fun e he => ?_⟩
      have c4 := c3.fnew (.lst []) he
      have hp4 := hp3.new (.lst []) he
      have htu4 : upd H3 e (.lst []) tn = some (.tup (r.turns.map V.int)) := by rw [upd_ne (ne_of_none htu3 he)]; exact htu3
      have hee : upd H3 e (.lst []) e = some (.lst []) := upd_same
      generalize upd H3 e (.lst []) = H4 at *
      refine ⟨.list [], .list [], .lst (SqL.of hp4.fl) .nil, .lst (SqL.of hee) .nil, rfl, rfl, _, rfl, ?_⟩
      rw [eqv_nil]
      refine ite2 (fun h => absurd h (by decide)) (fun _ => ?_)
      refine ⟨fun σ H' => ∃ aw, σ = [some (.ref z.x), some (.ref tn), none, none, none, none, some (.ref aw), none] ∧ Wd z.mut H H' [] ∧ PAt CP CT z L s3 H' ∧ H' tn = some (.tup (r.turns.map V.int)) ∧ H' aw = some (.tup (r.weights.map V.int)), ?_, ?_⟩
      · refine ⟨_, rfl, z.x, CP, z.dx, _, _, rfl, hp4.ob, PC.cl, PC.n5, pf_weights, rfl, _, rfl, ?_⟩
        rcases hW3 with ⟨hW, hf⟩ | ⟨⟨b, hW⟩, hf⟩
        · have hw2 : oV s3.W = .non := by rw [hW]; rfl
          rw [hw2]
          refine ite2 (fun h => absurd h (by simp)) (fun _ => ?_)
          have hr1 := sp.w0 hf
          refine ⟨(by show 1 ≤ sizeLine; decide), fun tp htp => ?_⟩
          have hp5 := hp4.new (.tup [V.int 1]) htp
          have c5 := c4.fnew (.tup [V.int 1]) htp
          have htu5 : upd H4 tp (.tup [V.int 1]) tn = some (.tup (r.turns.map V.int)) := by rw [upd_ne (ne_of_none htu4 htp)]; exact htu4
          refine ⟨_, rfl, z.x, CP, z.dx, _, _, rfl, hp5.ob, PC.cl, PC.n4, pf_names, z.nl, _, rfl, .inl (SqL.of hp5.nl), tp, _, [V.int 1], rfl, rfl, SqT.of upd_same, by simp, ?_, ?_, by simp, fun hk => ?_, fun hk p hpn => ?_⟩
          · rw [List.length_map, hnm]; omega
          · rw [List.length_map, hnm]; omega
          · rw [List.length_map, hnm] at hk
            refine ⟨tp, rfl, c5, hp5, htu5, ?_⟩
            rw [hr1, show r.names.length = 1 by omega]
            exact upd_same
          · refine ⟨p, rfl, c5.fnew _ hpn, hp5.new _ hpn, by rw [upd_ne (ne_of_none htu5 hpn)]; exact htu5, ?_⟩
            rw [upd_same, hr1, List.length_map, hnm, Int.toNat_natCast]
            have e5 : ∀ n : Nat, (List.replicate n [V.int 1]).flatten = (List.replicate n (1 : Int)).map V.int := fun n => by
              induction n with
              | zero => rfl
              | succ n ih => rw [List.replicate_succ, List.flatten_cons, ih, List.replicate_succ]; rfl
            rw [e5]
        · have hw2 : oV s3.W = .ref b := by rw [hW]; rfl
          rw [hw2]
          refine ite2 (fun _ => ?_) (fun h => absurd (by simp) h)
          refine ⟨_, rfl, z.x, CP, z.dx, _, _, rfl, hp4.ob, PC.cl, PC.n5, pf_weights, ?_⟩
          exact ⟨b, by rw [hw2]; rfl, c4, hp4, htu4, hp4.w _ hW⟩
      · rintro σ H5 ⟨aw, rfl, c5, hp5, htu5, haw5⟩
        refine ⟨fun σ H' => ∃ am, σ = [some (.ref z.x), some (.ref tn), none, none, none, none, some (.ref aw), some (.ref am)] ∧ Wd z.mut H H' [] ∧ PAt CP CT z L s3 H' ∧ H' tn = some (.tup (r.turns.map V.int)) ∧ H' aw = some (.tup (r.weights.map V.int)) ∧ H' am = some (.tup (r.makers.map V.int)), ?_, ?_⟩
        · refine ⟨_, rfl, z.x, CP, z.dx, _, _, rfl, hp5.ob, PC.cl, PC.n6, pf_makers, rfl, _, rfl, ?_⟩
          rcases hM3 with ⟨hM, hf⟩ | ⟨⟨b, hM⟩, hf⟩
          · have hw2 : oV s3.M = .non := by rw [hM]; rfl
            rw [hw2]
            refine ite2 (fun h => absurd h (by simp)) (fun _ => ?_)
            refine ⟨(by show 0 ≤ sizeLine; decide), fun tp htp => ⟨tp, rfl, c5.fnew _ htp, hp5.new _ htp, by rw [upd_ne (ne_of_none htu5 htp)]; exact htu5, by rw [upd_ne (ne_of_none haw5 htp)]; exact haw5, ?_⟩⟩
            rw [upd_same, sp.m0 hf]; rfl
          · have hw2 : oV s3.M = .ref b := by rw [hM]; rfl
            rw [hw2]
            refine ite2 (fun _ => ?_) (fun h => absurd (by simp) h)
            refine ⟨_, rfl, z.x, CP, z.dx, _, _, rfl, hp5.ob, PC.cl, PC.n6, pf_makers, ?_⟩
            exact ⟨b, by rw [hw2]; rfl, c5, hp5, htu5, haw5, hp5.m _ hM⟩
        · rintro σ H6 ⟨am, rfl, c6, hp6, htu6, haw6, ham6⟩
          refine ⟨_, rfl, z.x, CP, z.dx, _, _, rfl, hp6.ob, PC.cl, PC.n4, pf_names, z.nl, _, rfl, .inl ⟨SqL.of hp6.nl, fun an han => ?_⟩⟩
          have w1 := (Wd.refl H6).new (.tup (s3.names.map V.str)) han
          have hp7 := hp6.call0 w1
          have hawl : s3.aws.length ≤ 20 := by
            have h2 := congrArg List.length haw3
            rw [List.length_map] at h2
            have := sp.aw20
            omega
          refine ⟨_, rfl, _, rfl, _, rfl, z.x, CP, z.dx, _, _, rfl, hp7.ob, PC.cl, PC.n7, pf_aways, z.al, s3.aws.map (fun q => (q.1, l3 q.2)), rfl, ?_, ?_, ?_, fun sa L1 hsa hsub hcov => ?_⟩
          · have e : (s3.aws.map (fun q => (q.1, l3 q.2))).map (fun p => V.ref p.1) = arefs s3.aws := by rw [List.map_map]; rfl
            rw [e]; exact SqL.of hp7.al
          · intro p hp
            obtain ⟨g, hg, rfl⟩ := List.mem_map.mp hp
            exact SqT.of (hp7.aw g hg)
          · rw [List.length_map]; omega
          have w2 := w1.new (SetTO P w sa L1) hsa
          have hp8 := hp6.call0 w2
          have hL1 : ∀ p ∈ L1, ∃ g ∈ s3.aws, p = (g.1, l3 g.2) := fun p hp => by
            obtain ⟨g, hg, e⟩ := List.mem_map.mp (hsub p hp)
            exact ⟨g, hg, e.symm⟩
          have hin : ∀ g ∈ s3.aws, g.2 ∈ r.aways := fun g hg => (sp.aw g.2).mp (by rw [← haw3]; exact List.mem_map.mpr ⟨g, hg, rfl⟩)
          refine ⟨sa, L1, 3, 13, rfl, w2.get 0 rfl, ?_, by decide, ?_, fun L2 lp hperm hnd _ hpw hlp => ?_⟩
          · intro p hp
            obtain ⟨g, hg, rfl⟩ := hL1 p hp
            exact SqT.of (hp8.aw g hg)
          · intro p hp
            obtain ⟨g, hg, rfl⟩ := hL1 p hp
            refine ⟨rfl, fun x hx => ?_⟩
            obtain ⟨g1, g2, g3, g4, g5⟩ := ok.a0 _ (hin g hg)
            have g6 : g.2.2.2 ≤ 12 := by simp at g5; omega
            simp only [l3, List.mem_cons, List.not_mem_nil, or_false] at hx
            rcases hx with rfl | rfl | rfl <;> omega
          have w3 := w2.new (.lst (L2.map fun q => V.ref q.1)) hlp
          have hL2 : ∀ p ∈ L2, ∃ g ∈ s3.aws, p = (g.1, l3 g.2) := fun p hp => hL1 p (hperm.mem_iff.mp hp)
          refine ⟨lp, _, rfl, .inl ⟨SqL.of (w3.get 0 rfl), fun aa haa => ?_⟩⟩
          have w4 := w3.new (.tup (L2.map fun q => V.ref q.1)) haa
          refine ⟨_, rfl, (by show 5 ≤ sizeLine; decide), fun a ha => ?_⟩
          have w5 := w4.new (.tup [V.ref an, V.ref tn, V.ref aw, V.ref aa, V.ref am]) ha
          have c7 : Wd z.mut H _ [] := c6.fgo ((w5.sub (List.nil_sublist _)).mono fun _ h => nomatch h)
          have hp9 := hp6.call0 w5
          have e3 : ∀ t : Int × Int × Int, tr3 (l3 t) = t := fun t => rfl
          have hsrt : L2.map (fun q => tr3 q.2) = r.aways := by
            refine asc_unique lexLt_irr ?_ ok.asc fun t => ?_
            · rw [List.pairwise_map]
              have hnd2 : (L2.map (·.2)).Nodup := hnd
              have hnd3 : L2.Pairwise fun p q => p.2 ≠ q.2 := List.pairwise_map.mp hnd2
              refine (hpw.and hnd3).imp_of_mem fun {p q} hp hq ⟨h, ne⟩ => ?_
              obtain ⟨g, hg, rfl⟩ := hL2 p hp
              obtain ⟨k, hk, rfl⟩ := hL2 q hq
              exact lex_of_code (n := r.names.length) (by omega) (ok.a0 _ (hin g hg)) (ok.a0 _ (hin k hk)) h (fun e => ne (congrArg l3 e))
            · constructor
              · intro ht
                obtain ⟨p, hp, rfl⟩ := List.mem_map.mp ht
                obtain ⟨g, hg, rfl⟩ := hL2 p hp
                exact hin g hg
              · intro ht
                have h1 := (sp.aw t).mpr ht
                rw [← haw3] at h1
                obtain ⟨g, hg, rfl⟩ := List.mem_map.mp h1
                obtain ⟨p, hp, e⟩ := List.mem_map.mp (hcov (g.1, l3 g.2) (List.mem_map.mpr ⟨g, hg, rfl⟩))
                exact List.mem_map.mpr ⟨p, hperm.mem_iff.mpr hp, by rw [e]; rfl⟩
          refine q _ a c7 ⟨an, tn, aw, aa, am, L2.map (·.1), w5.get 0 rfl, ?_, w5.tups _ _ htu6, w5.tups _ _ haw6, ?_, ?_, w5.tups _ _ ham6⟩
          · rw [← hnm]; exact w5.get 4 rfl
          · rw [List.map_map]; exact w5.get 1 rfl
          · rw [← hsrt]
            have e1 : L2.map (·.1) = (L2.map (fun q => (q.1, tr3 q.2))).map (·.1) := by rw [List.map_map]; rfl
            have e2 : L2.map (fun q => tr3 q.2) = (L2.map (fun q => (q.1, tr3 q.2))).map (·.2) := by rw [List.map_map]; rfl
            rw [e1, e2]
            refine AwAt.of fun p hp => ?_
            obtain ⟨p', hp', rfl⟩ := List.mem_map.mp hp
            obtain ⟨g, hg, rfl⟩ := hL2 p' hp'
            exact hp9.aw g hg
    | cons st S2 =>
      rw [List.flatMap_cons, List.append_assoc] at hts3
      have e1 : (S1 ++ [st]) ++ S2 = S := by rw [List.append_assoc]; exact hS
      cases st with
      | w =>
        have e2 : stmToks r .w ++ (S2.flatMap (stmToks r) ++ [(("end" : Str), ("" : Str))]) = (("keyword" : Str), ("weights" : Str)) :: ((r.weights.map num).map (fun t => (("number" : Str), t)) ++ (("sign" : Str), (";" : Str)) :: (S2.flatMap (stmToks r) ++ [(("end" : Str), ("" : Str))])) := by
          show _ :: ((_ ++ _) ++ _) = _
          rw [List.append_assoc]; rfl
        rw [e2] at hts3
        obtain ⟨⟨a0, h0⟩, htsr⟩ := hts3.cons
        have htsn : TkAt L (s3.n + 1 + r.weights.length + 1) _ := htsr.app.cons.2.cast (by rw [List.length_map, List.length_map])
        obtain ⟨tdx, tl, tc, hta⟩ := hp3.ts _ (List.mem_of_getElem? h0)
        have hlt := (List.getElem?_eq_some_iff.mp h0).1
        have hW0 : s3.W = none ∧ S1.filter Stm.isW = [] := hW3.resolve_right fun ⟨_, h⟩ => by
          have := sp.w1
          rw [← hS, List.filter_append, List.length_append, List.filter_cons_of_pos (by rfl), List.length_cons] at this
          have h3 := List.length_pos_iff.mpr h
          omega
        refine ⟨_, rfl, z.x, z.dx, _, rfl, hp3.ob, pf_none (by decide +kernel), z, L, s3, a0, _, rfl, hp3, h0, a0, CT, tdx, _, _, rfl, hta, TC.cl, TC.nk, tk_kind _ _ _ _, rfl, _, rfl, ?_⟩
        refine ite2 (fun _ => ?_) (fun h => absurd hkey h)
        refine ⟨_, rfl, z.x, z.dx, _, rfl, hp3.ob, pf_none (by decide +kernel), z, L, s3, a0, _, rfl, hp3, h0, a0, CT, tdx, _, _, rfl, hta, TC.cl, TC.nt, tk_text _ _ _ _, _, rfl, ?_⟩
        dsimp only
        rw [if_pos rfl]
        refine ⟨_, rfl, z.x, z.dx, _, rfl, hp3.ob, pf_none (by decide +kernel), z, L, s3, r.weights, _, rfl, hp3, hW0.1, by rw [hnm]; exact ok.wl, by rw [hnm]; exact n6, hwn, ok.w0, hts3, fun H4 b c4 hp4 => ?_⟩
        refine ⟨⟨rfl, _, S1 ++ [.w], S2, c3.fgo c4, hp4, c4.tups _ _ htu3, e1, hnm, htsn, ?_, .inr ⟨⟨b, rfl⟩, ?_⟩, ?_⟩, ?_⟩
        · rw [List.filterMap_append, haw3]; simp [Stm.aw?]
        · simp [Stm.isW]
        · rw [List.filterMap_append]; simpa [Stm.mk?] using hM3
        · have e3 : atOf (H4 z.x) = s3.n + 1 + r.weights.length + 1 := by
            rw [hp4.ob]; unfold atOf; simp only [pf_at]; rfl
          show L.length - atOf (H4 z.x) < L.length - atOf (H3 z.x)
          rw [e3, hat]; omega
      | aw t =>
        obtain ⟨⟨a0, h0⟩, _⟩ := hts3.cons
        have htsn : TkAt L (s3.n + 6) _ := hts3.app
        obtain ⟨tdx, tl, tc, hta⟩ := hp3.ts _ (List.mem_of_getElem? h0)
        have hlt := (List.getElem?_eq_some_iff.mp h0).1
        have hal : s3.aws.length < 20 := by
          have h1 := sp.aw20
          have h2 := congrArg List.length haw3
          rw [← hS, List.filterMap_append, List.length_append, aw_cons, List.length_cons] at h1
          rw [List.length_map] at h2
          omega
        have htr : t ∈ r.aways := (sp.aw t).mp (by rw [← hS, List.filterMap_append]; exact List.mem_append_right _ (by rw [aw_cons]; exact List.mem_cons_self))
        refine ⟨_, rfl, z.x, z.dx, _, rfl, hp3.ob, pf_none (by decide +kernel), z, L, s3, a0, _, rfl, hp3, h0, a0, CT, tdx, _, _, rfl, hta, TC.cl, TC.nk, tk_kind _ _ _ _, rfl, _, rfl, ?_⟩
        refine ite2 (fun _ => ?_) (fun h => absurd hkey h)
        refine ⟨_, rfl, z.x, z.dx, _, rfl, hp3.ob, pf_none (by decide +kernel), z, L, s3, a0, _, rfl, hp3, h0, a0, CT, tdx, _, _, rfl, hta, TC.cl, TC.nt, tk_text _ _ _ _, _, rfl, ?_⟩
        dsimp only
        rw [if_neg hwa, if_pos rfl]
        refine ⟨_, rfl, z.x, z.dx, _, rfl, hp3.ob, pf_none (by decide +kernel), z, L, s3, t, _, rfl, hp3, by rw [hnm]; exact ok.nd, by rw [hnm]; exact n6, by rw [hnm]; exact ok.a0 t htr, hal, by rw [hnm]; exact hts3, fun H4 b c4 hp4 => ?_⟩
        refine ⟨⟨rfl, _, S1 ++ [.aw t], S2, c3.fgo c4, hp4, c4.tups _ _ htu3, e1, hnm, htsn, ?_, ?_, ?_⟩, ?_⟩
        · rw [List.filterMap_append, List.map_append, haw3]; rfl
        · rw [List.filter_append]; simpa [Stm.isW] using hW3
        · rw [List.filterMap_append]; simpa [Stm.mk?] using hM3
        · have e3 : atOf (H4 z.x) = s3.n + 6 := by
            rw [hp4.ob]; unfold atOf; simp only [pf_at]; rfl
          show L.length - atOf (H4 z.x) < L.length - atOf (H3 z.x)
          rw [e3, hat]; omega
      | mk ks =>
        have e2 : stmToks r (.mk ks) ++ (S2.flatMap (stmToks r) ++ [(("end" : Str), ("" : Str))]) = (("keyword" : Str), ("makeup" : Str)) :: ((ks.map (nmL r.names)).map (fun t => (("name" : Str), t)) ++ (("sign" : Str), (";" : Str)) :: (S2.flatMap (stmToks r) ++ [(("end" : Str), ("" : Str))])) := by
          show _ :: ((_ ++ _) ++ _) = _
          rw [List.append_assoc]; rfl
        rw [e2] at hts3
        obtain ⟨⟨a0, h0⟩, htsr⟩ := hts3.cons
        have htsn : TkAt L (s3.n + 1 + ks.length + 1) _ := htsr.app.cons.2.cast (by rw [List.length_map, List.length_map])
        obtain ⟨tdx, tl, tc, hta⟩ := hp3.ts _ (List.mem_of_getElem? h0)
        have hlt := (List.getElem?_eq_some_iff.mp h0).1
        obtain ⟨k1, k2, k3⟩ := sp.mks ks (by rw [← hS, List.filterMap_append]; exact List.mem_append_right _ (by rw [mk_cons]; exact List.mem_cons_self))
        have hM0 : s3.M = none ∧ S1.filterMap Stm.mk? = [] := hM3.resolve_right fun ⟨_, h⟩ => by
          have := sp.m1
          rw [← hS, List.filterMap_append, List.length_append, mk_cons, List.length_cons] at this
          have h3 := List.length_pos_iff.mpr h
          omega
        refine ⟨_, rfl, z.x, z.dx, _, rfl, hp3.ob, pf_none (by decide +kernel), z, L, s3, a0, _, rfl, hp3, h0, a0, CT, tdx, _, _, rfl, hta, TC.cl, TC.nk, tk_kind _ _ _ _, rfl, _, rfl, ?_⟩
        refine ite2 (fun _ => ?_) (fun h => absurd hkey h)
        refine ⟨_, rfl, z.x, z.dx, _, rfl, hp3.ob, pf_none (by decide +kernel), z, L, s3, a0, _, rfl, hp3, h0, a0, CT, tdx, _, _, rfl, hta, TC.cl, TC.nt, tk_text _ _ _ _, _, rfl, ?_⟩
        dsimp only
        rw [if_neg hwm, if_neg ham_, if_pos rfl]
        refine ⟨_, rfl, z.x, z.dx, _, rfl, hp3.ob, pf_none (by decide +kernel), z, L, s3, ks, _, rfl, hp3, hM0.1, by rw [hnm]; exact ok.nd, by rw [hnm]; exact n6, k1, k2, fun k hk => by rw [hnm]; exact ok.m0 k ((k3 k).mp hk), by rw [hnm]; exact hts3, fun H4 b ms c4 hpw hms hp4 => ?_⟩
        have hmm : ms = r.makers := asc_unique (fun a b (h : a < b) (h' : b < a) => by omega) hpw ok.masc fun k => (hms k).trans (k3 k)
        subst hmm
        refine ⟨⟨rfl, _, S1 ++ [.mk ks], S2, c3.fgo c4, hp4, c4.tups _ _ htu3, e1, hnm, htsn, ?_, ?_, .inr ⟨⟨b, rfl⟩, ?_⟩⟩, ?_⟩
        · rw [List.filterMap_append, haw3]; simp [Stm.aw?]
        · rw [List.filter_append]; simpa [Stm.isW] using hW3
        · rw [List.filterMap_append]; simp [Stm.mk?]
        · have e3 : atOf (H4 z.x) = s3.n + 1 + ks.length + 1 := by
            rw [hp4.ob]; unfold atOf; simp only [pf_at]; rfl
          show L.length - atOf (H4 z.x) < L.length - atOf (H3 z.x)
          rw [e3, hat]; omega
  · intro σ H2 Q1 Q2 hm hc
    obtain ⟨v0, e0, a, dx', fs, ea, eo, en, z', L', s', a', t', e1, e2, e3, a'', C'', dx'', fs'', v'', g1, g2, g3, g4, g5, e5, b, hb, hc⟩ := hc
    exact ⟨v0, e0, a, dx', fs, ea, eo, en, z', L', s', a', t', e1, e2, e3, a'', C'', dx'', fs'', v'', g1, g2, g3, g4, g5, e5, b, hb, hm _ _ hc⟩
/-! ### load -/
/-- a text that spells a rota -/
structure Says (z : Str) (r : Rota) (S : List Stm) : Prop where
  ok : ROk r
  sp : Spell r S
  len : z.length + 2 ≤ sizeLine
  lex : ∃ tss : List (List (Str × Str)), (Txt.split z "\n").length = tss.length ∧ (∀ (i : Nat) row ts, (Txt.split z "\n")[i]? = some row → tss[i]? = some ts → row.length ≤ sizeLine ∧ LexR (TL.tl row) ts) ∧ tss.flatten.length < 1000 ∧ (Txt.split z "\n").length ≤ sizeLine ∧
    tss.flatten ++ [(("end" : Str), ("" : Str))] = rotaToks r S
def spLoad : Sp := fun vs H Q _ => ∃ (z : Str) (r : Rota) (S : List Stm), vs = [.str z] ∧ Says z r S ∧ ∀ H' a, Wd [] H H' [] → RotaAt H' a r → Q (.ref a) H'
abbrev sload : Stmt := topS 40
theorem scload : FnScope ["rota"] ["rota"] (defScope sload) := ⟨rfl, rfl, rfl, by decide +kernel, rfl, by decide +kernel, by decide +kernel⟩
theorem cal_load (D : DefAt K mg "load" sload ["rota"]) (PC : ParCls K CP) (cn : CT ≠ CP) (C1 : Cal P w K mg base 4 "tokenize" ["source"] (spTokenize CT)) (CM : MkAt P w K mg base 1 "Parser" CP ["self", "tokens"] (spParI CP CT))
    (C2 : MeAt P w K mg base 5 CP "parse_rota" ["self"] (spParse CP CT)) : Cal P w K mg base 6 "load" ["rota"] spLoad := D.cal fun f fd F => by
  have nd := scload.nd
  have cl_Parser := PC.cl
  obtain ⟨f1, fd1, m_tokenize, kp_tokenize, b_tokenize, G_tokenize⟩ := C1.ex
  obtain ⟨f2, fd2, mC_Parser, Mk_Parser, b_Parser, G_Parser⟩ := CM.ex
  obtain ⟨f3, fd3, me_parse_rota, b_parse_rota, G_parse_rota⟩ := C2.ex
  refine F.ok scload (fun vs H Q E h => ?_) (fun cdv A outer s H vs Q E hr h => ?_)
  · obtain ⟨z, r, S, rfl, _⟩ := h; rfl
  obtain ⟨z, r, S, rfl, ⟨ok, sp, hlen, tss, e1, e2, e3, e4, e5⟩, q⟩ := h
  refine ⟨_, (pss_one (ps_ret (pe_meth0 (pe_make Mk_Parser G_Parser (hr.mono (by first | decide | omega)) (by rfl) mC_Parser b_Parser .nil pass0 (pa_cons (pe_call G_tokenize (hr.mono (by first | decide | omega)) (by rfl) m_tokenize kp_tokenize b_tokenize .nil pass0 (pa_cons (pv 0) pa_nil)) pa_nil)) cl_Parser me_parse_rota G_parse_rota (hr.mono (by first | decide | omega)) b_parse_rota .nil pass0))), ?_⟩
  refine ⟨_, rfl, z, tss, rfl, hlen, e1, e2, e3, e4, fun p L H1 w1 hT hL => ?_⟩
  intro x dx hx hd ne
  have w2 := w1.make CP hx hd ne
  have hT2 : Tks CT (upd (upd H1 dx (.own x)) x (.ins CP dx [])) L := (hT.new hd).new (by rw [upd_ne ne.symm]; exact hx)
  refine ⟨x, dx, p, L, rfl, upd_same, w2.get 2 rfl, hT2, cn, fun z H2 hz c2 hp hnl hal => ⟨rfl, ?_⟩⟩
  have hzx : z.x = x := hz
  have hob := hp.ob
  rw [hz] at hob
  have hnl0 : z.nl ≠ x := fun e => by rw [e, upd_same] at hnl; cases hnl
  refine ⟨x, _, _, rfl, hob, pf_none (by decide +kernel), z, L, r, S, by rw [hz]; rfl, hp, ok, sp, (show TkAt L 0 _ from (by unfold TkAt; rw [List.drop_zero]; exact hL.trans e5)), fun H3 a c3 hR => q H3 a ?_ hR⟩
  refine ⟨fun b o _ e => ?_, fun b xs e => c3.tups _ _ (c2.tups _ _ (w2.tups _ _ e)), fun _ h => (nomatch h), fun _ h => (nomatch h), List.nodup_nil, fun p e => w2.free p (c2.free p (c3.free p e))⟩
  have e1 := w1.base b o (by simp) e
  have e2' := w2.base b o (by simp) e
  have bx : b ≠ x := ne_of_none e1 hx
  have bn : b ≠ z.nl := ne_of_none e2' hnl
  have ba : b ≠ z.al := ne_of_none e2' hal
  refine c3.base b o ?_ (c2.base b o (by simpa using bx) e2')
  simp only [Pz.mut, List.mem_cons, List.not_mem_nil, or_false, not_or, hz]
  exact ⟨bx, bn, ba⟩
end
end Br

namespace Br
open PySem PySem.Spec PyProof.Rows L2
/-! ### the formatter -/
theorem lineS_head {w w' : Str} {ws : List Str} (hne : ws ≠ []) (hw : w' = w ++ " ") : w' ++ Txt.join " " ws ++ ";" = lineS (w :: ws) := by
  subst hw
  refine TL.ext_tl ?_
  unfold lineS
  rw [TL.join_eq, TL.join_eq, TL.tl_append, TL.tl_append, TL.tl_append, TL.tl_append, TL.tl_join, TL.tl_join]
  obtain ⟨x, xs, rfl⟩ := List.exists_cons_of_ne_nil hne
  rw [List.map_cons, List.map_cons, List.map_cons, TL.joinL]
  simp
theorem lineS_away (a b c : Str) : "away " ++ a ++ " " ++ b ++ " of " ++ c ++ ";" = lineS ["away", a, b, "of", c] := by
  refine TL.ext_tl ?_
  unfold lineS
  have e1 : TL.tl ("away " : Str) = TL.tl "away" ++ TL.tl " " := by decide +kernel
  have e2 : TL.tl (" of " : Str) = TL.tl " " ++ (TL.tl "of" ++ TL.tl " ") := by decide +kernel
  rw [TL.join_eq]
  simp only [TL.tl_append, TL.tl_join, List.map_cons, List.map_nil, TL.joinL, e1, e2, List.append_assoc]
theorem small2 {x y : Str} (h1 : x.length ≤ 1000) (h2 : y.length ≤ 1000) : x.length + y.length ≤ sizeLine := Nat.le_trans (m := 2000) (by omega) (by decide)
section
variable {P : Program} {w : World} {K : PySem.W.Frag} {mg : Str → Option Value} {base : Heap}
abbrev sformat_parsed : Stmt := topS 44
theorem scformat_parsed : FnScope ["parsed", "names", "turns", "weights", "aways", "makers", "lines", "person", "remainder", "modulus", "weight"] ["parsed"] (defScope sformat_parsed) := ⟨rfl, rfl, rfl, by decide +kernel, rfl, by decide +kernel, by decide +kernel⟩
theorem cal_format (D : DefAt K mg "format_parsed" sformat_parsed ["parsed"]) (T : Bi mg) : Cal P w K mg base 1 "format_parsed" ["parsed"] spText := D.cal fun f fd F => by
  have nd := scformat_parsed.nd
  refine F.ok scformat_parsed (fun vs H Q E h => ?_) (fun cdv A outer s H vs Q E hr h => ?_)
  · obtain ⟨a, r, rfl, _⟩ := h; rfl
  obtain ⟨a, r, rfl, ⟨an, at_, aw, aa, am, as, h1, h2, h3, h4, h5, h6, h7⟩, ok, k⟩ := h
  have hu := hr.units
  have keep : ∀ {H' : Hp} {l : List (Addr × HO)}, Wd [] H H' l → ∀ {b : Addr} {xs : List V}, H b = some (.tup xs) → SqT K H' b xs := fun w _ _ e => SqT.of (w.tups _ _ e)
  refine ⟨_, (pss_cons (ps_asg (pv 0) (pg_tupK (K := K) (n := 5) rfl rfl (pgs_cons (pg_name (i := 1) nd rfl (Or.inr rfl)) (pgs_cons (pg_name (i := 2) nd rfl (Or.inl rfl)) (pgs_cons (pg_name (i := 3) nd rfl (Or.inl rfl)) (pgs_cons (pg_name (i := 4) nd rfl (Or.inl rfl)) (pgs_cons (pg_name (i := 5) nd rfl (Or.inl rfl)) pgs_nil)))))))
 (pss_cons (ps_set (i := 6) nd rfl (Or.inl rfl) (pe_lst (pa_cons (pe_op op_add_str (pe_op op_add_str pe_str (pe_joinK (K := K) rfl pe_str (pv 1))) pe_str) (pa_cons (pe_op op_add_str (pe_op op_add_str pe_str (pe_joinK (K := K) rfl pe_str (pe_lc (own := [("person", 7)]) rfl nd (pi_tupK (K := K) rfl (pv 2)) (blkOk_by (N := ["parsed", "names", "turns", "weights", "aways", "makers", "lines", "person", "remainder", "modulus", "weight"]) (sc := defScope sformat_parsed) (by decide +kernel)) (fun _ _ _ _ _ => (pg_name (i := 7) nd rfl (Or.inl rfl))) (fun _ _ _ _ _ => pts_nil) (fun _ _ _ _ _ => (pe_ix (r := rIxT K) ix_tup (pv 1) (pv 7) (fun _ _ => rfl)))))) pe_str) pa_nil))))
 (C8.pss_cut (ps_if (pt_cmpR op_gt (pe_callB (r := rMaxT K) (cr_maxT rfl hu) (by rfl) T.max (by decide +kernel) (pa_cons (pv 3) pa_nil)) pe_int (nomark _))
 (pss_one (ps_expr (pe_bmK (K := K) rfl PySem.F.plainAttrs_list PySem.F.slot_list_append PySem.F.type_list_append mt_append (pv 6) (pa_cons (pe_op op_add_str (pe_op op_add_str pe_str (pe_joinK (K := K) rfl pe_str (pe_lc (own := [("weight", 10)]) rfl nd (pi_tupK (K := K) rfl (pv 3)) (blkOk_by (N := ["parsed", "names", "turns", "weights", "aways", "makers", "lines", "person", "remainder", "modulus", "weight"]) (sc := defScope sformat_parsed) (by decide +kernel)) (fun _ _ _ _ _ => (pg_name (i := 10) nd rfl (Or.inl rfl))) (fun _ _ _ _ _ => pts_nil) (fun _ _ _ _ _ => (pe_callTy call_str_int (by rfl) T.str (by decide +kernel) (pa_cons (pv 10) pa_nil)))))) pe_str) pa_nil))))
 pss_nil)
 (pss_cons (ps_for PassesOwn.never rfl (pi_tupK (K := K) rfl (pv 4)) (pg_tupK (K := K) (n := 3) rfl rfl (pgs_cons (pg_name (i := 7) nd rfl (Or.inl rfl)) (pgs_cons (pg_name (i := 8) nd rfl (Or.inl rfl)) (pgs_cons (pg_name (i := 9) nd rfl (Or.inl rfl)) pgs_nil))))
 (pss_one (ps_expr (pe_bmK (K := K) rfl PySem.F.plainAttrs_list PySem.F.slot_list_append PySem.F.type_list_append mt_append (pv 6) (pa_cons (pe_op op_add_str (pe_op op_add_str (pe_op op_add_str (pe_op op_add_str (pe_op op_add_str (pe_op op_add_str pe_str (pe_ix (r := rIxT K) ix_tup (pv 1) (pv 7) (fun _ _ => rfl))) pe_str) (pe_callTy call_str_int (by rfl) T.str (by decide +kernel) (pa_cons (pv 8) pa_nil))) pe_str) (pe_callTy call_str_int (by rfl) T.str (by decide +kernel) (pa_cons (pv 9) pa_nil))) pe_str) pa_nil)))))
 (C8.pss_cut (ps_if (pt_cmpR (r := rNeD K) (op_neD hu) (pv 5) (pe_tup pa_nil) (nomark _))
 (pss_one (ps_expr (pe_bmK (K := K) rfl PySem.F.plainAttrs_list PySem.F.slot_list_append PySem.F.type_list_append mt_append (pv 6) (pa_cons (pe_op op_add_str (pe_op op_add_str pe_str (pe_joinK (K := K) rfl pe_str (pe_lc (own := [("person", 7)]) rfl nd (pi_tupK (K := K) rfl (pv 5)) (blkOk_by (N := ["parsed", "names", "turns", "weights", "aways", "makers", "lines", "person", "remainder", "modulus", "weight"]) (sc := defScope sformat_parsed) (by decide +kernel)) (fun _ _ _ _ _ => (pg_name (i := 7) nd rfl (Or.inl rfl))) (fun _ _ _ _ _ => pts_nil) (fun _ _ _ _ _ => (pe_ix (r := rIxT K) ix_tup (pv 1) (pv 7) (fun _ _ => rfl)))))) pe_str) pa_nil))))
 pss_nil)
 (pss_one (ps_ret (pe_joinK (K := K) rfl pe_str (pv 6))))))))), ?_⟩
  have n1 := ok.n1
  have n6 := ok.n6
  have t12 := ok.t12
  have hnn : r.names ≠ [] := fun e => by rw [e] at n1; simp at n1
  have htn : r.turns ≠ [] := fun e => by have := ok.tall 0 (by omega); rw [e] at this; simp at this
  have hwn : r.weights ≠ [] := fun e => by have := ok.wl; rw [e] at this; simp at this; omega
  have l1 : ((" " : Str)).length = 1 := by decide
  -- sizes of joined words
  have jl : ∀ ws : List Str, ws.length ≤ 13 → (∀ x ∈ ws, x.length ≤ 8) → (Txt.join " " ws).length ≤ 200 ∧ (ws.map (·.length)).sum + ws.length * ((" " : Str)).length ≤ 16777216 := fun ws h1 h2 => by
    have hj := join_len " " ws 8 h2
    have hs := sum_le (fun s : Str => s.length) 8 ws h2
    rw [l1] at hj ⊢
    have : ws.length * (8 + 1) ≤ 13 * 9 := Nat.mul_le_mul h1 (by decide)
    constructor
    · omega
    · omega
  have nml : ∀ x ∈ r.names, x.length ≤ 8 := fun x hx => six_len _ (ok.six x hx)
  have nmi : ∀ (ks : List Int), (∀ k ∈ ks, 0 ≤ k ∧ k < r.names.length) → ∀ x ∈ ks.map (nm r), x.length ≤ 8 := fun ks h x hx => by
    obtain ⟨t, ht, rfl⟩ := List.mem_map.mp hx
    exact nm_len ok (h t ht).1 (h t ht).2
  refine ⟨_, rfl, a, _, rfl, SqT.of h1, rfl, _, _, rfl, _, _, rfl, _, _, rfl, _, _, rfl, _, _, rfl, rfl, ?_⟩
  -- people
  have j1 := jl r.names (by omega) nml
  refine ⟨⟨_, rfl⟩, _, rfl, _, an, r.names, rfl, rfl, .inr (SqT.of h2), j1.2, _, _, rfl, rfl, small2 (by decide) (by omega), _, _, rfl, rfl, small2 (by rw [app_len]; have : ("people " : Str).length = 7 := (by decide); omega) (by decide), ?_⟩
  rw [lineS_head (w := "people") hnn (by decide +kernel)]
  -- turns
  refine ⟨⟨_, rfl⟩, _, rfl, at_, rfl, ⟨_, SqT.of h3⟩, fun D1 hD1 => ?_⟩
  refine lc_tupF (K := K) (a := at_) (xs := r.turns.map V.int) (fun _ => true) (fun v => match v with | .int i => V.str (nm r i) | v => v) (Wd.refl H) hD1 (fun H' c w => keep w h3) (by rw [List.length_map]; omega) (fun H' ⟨c, w⟩ i x hx R S hR _ => ?_) (fun H' w5 => ?_)
  · obtain ⟨t, ht, rfl⟩ := int_of_map hx
    have h0 := ok.t0 t (List.mem_of_getElem? ht)
    refine ⟨rfl, _, rfl, _, rfl, an, _, _, _, rfl, rfl, keep w h2, ?_, hR rfl⟩
    exact at_of (j := t.toNat) (by omega) (by rw [List.getElem?_map, nm_mem h0.1 h0.2]; rfl)
  have e5 : (r.turns.map V.int).map (fun v => match v with | .int i => V.str (nm r i) | v => v) = (r.turns.map (nm r)).map V.str := by rw [List.map_map, List.map_map]; rfl
  rw [filter_yes, e5] at w5
  have j2 := jl (r.turns.map (nm r)) (by rw [List.length_map]; omega) (nmi _ ok.t0)
  refine ⟨_, D1, r.turns.map (nm r), rfl, rfl, .inl (SqL.of (w5.get 0 rfl)), j2.2, _, _, rfl, rfl, small2 (by decide) (by omega), _, _, rfl, rfl, small2 (by rw [app_len]; have : ("turns " : Str).length = 6 := (by decide); omega) (by decide), ?_⟩
  rw [lineS_head (w := "turns") (by simpa using htn) (by decide +kernel)]
  refine ⟨(by show 2 ≤ sizeLine; decide), fun ll hll => ?_⟩
  have w7 := (w5.new (.lst (((lines2 r).map lineS).map V.str)) hll).sub (l' := [(ll, .lst (((lines2 r).map lineS).map V.str))]) (by walk_at "sub")
  -- weights
  refine ⟨fun σ H' => σ = [some (.ref a), some (.ref an), some (.ref at_), some (.ref aw), some (.ref aa), some (.ref am), some (.ref ll), none, none, none, none] ∧ Wd [] H H' [(ll, .lst (((lines2 r ++ linesW r).map lineS).map V.str))], ?_, ?_⟩
  · have hw0 : 0 < r.weights.length := by have := ok.wl; omega
    refine ⟨_, rfl, aw, r.weights, rfl, keep w7 h4, hw0, fun m hm hmax => ?_⟩
    refine ⟨_, _, rfl, rfl, _, rfl, ?_⟩
    refine ite2 (fun hc => ?_) (fun hc => ?_)
    · have hh : heavy r = true := List.any_eq_true.mpr ⟨m, hm, hc⟩
      refine ⟨_, rfl, .inl ⟨rfl, _, SqL.of (w7.get 0 rfl)⟩, ⟨_, rfl⟩, _, rfl, aw, rfl, ⟨_, keep w7 h4⟩, fun D hD => ?_⟩
      refine lc_tupF (K := K) (a := aw) (xs := r.weights.map V.int) (fun _ => true) (fun v => match v with | .int i => V.str (num i) | v => v) w7 hD (fun H' c w => keep w h4) (by rw [List.length_map, ok.wl]; omega) (fun H' ⟨c, w⟩ i x hx R S hR _ => ?_) (fun H' w9 => ?_)
      · obtain ⟨t, ht, rfl⟩ := int_of_map hx
        have h0 := ok.w0 t (List.mem_of_getElem? ht)
        exact ⟨rfl, _, rfl, t, rfl, Nat.lt_of_le_of_lt (Nat.log2_le_self _) (by omega), hR rfl⟩
      have e9 : (r.weights.map V.int).map (fun v => match v with | .int i => V.str (num i) | v => v) = (r.weights.map num).map V.str := by rw [List.map_map, List.map_map]; rfl
      rw [filter_yes, e9] at w9
      have j3 := jl (r.weights.map num) (by rw [List.length_map, ok.wl]; omega) (fun x hx => by
        obtain ⟨v, hv, rfl⟩ := List.mem_map.mp hx
        have := ok.w0 v hv
        exact Nat.le_trans (num_len' (by omega) (by omega)) (by decide))
      refine ⟨_, D, r.weights.map num, rfl, rfl, .inl (SqL.of (w9.get 0 rfl)), j3.2, _, _, rfl, rfl, small2 (by decide) (by omega), _, _, rfl, rfl, small2 (by rw [app_len]; have : ("weights " : Str).length = 8 := (by decide); omega) (by decide), ?_⟩
      rw [lineS_head (w := "weights") (by simpa using hwn) (by decide +kernel)]
      refine ⟨ll, _, _, rfl, rfl, w9.get 1 rfl, (by show 2 < sizeLine; decide), rfl, ?_⟩
      have w10 := (w9.put 1 (.lst (((lines2 r).map lineS).map V.str ++ [V.str (lineS ("weights" :: r.weights.map num))])) rfl (fun _ q => by cases q)).sub (l' := [(ll, .lst (((lines2 r).map lineS).map V.str ++ [V.str (lineS ("weights" :: r.weights.map num))]))]) (by walk_at "sub")
      rw [linesW, if_pos hh, List.map_append, List.map_append]
      exact w10
    · refine ⟨rfl, ?_⟩
      have hh : heavy r = false := by
        rw [Bool.eq_false_iff]
        intro hh
        obtain ⟨v, hv, hv1⟩ := List.any_eq_true.mp hh
        have := hmax v hv
        have := of_decide_eq_true hv1
        exact hc (decide_eq_true (by omega))
      rw [linesW, if_neg (by rw [hh]; decide), List.append_nil]
      exact w7
  rintro σ H1 ⟨rfl, w8⟩
  have hLl : (lines2 r ++ linesW r).length ≤ 3 := by
    have h2 : (linesW r).length ≤ 1 := by unfold linesW; split <;> simp
    rw [List.length_append]
    simp only [lines2, List.length_cons, List.length_nil]
    omega
  have a6 := ok.a6
  -- the absences
  refine ⟨_, rfl, aa, rfl, ⟨_, keep w8 h5⟩, ?_⟩
  refine for_it (walk_tup (xs := as.map V.ref)) (fun i σ H' => (∃ b c d, σ = [some (.ref a), some (.ref an), some (.ref at_), some (.ref aw), some (.ref aa), some (.ref am), some (.ref ll), b, c, d, none]) ∧ Wd [] H H' [(ll, .lst (((lines2 r ++ linesW r ++ (r.aways.take i).map (awW r)).map lineS).map V.str))]) ?_ ?_ ?_ ?_
  · exact ⟨⟨_, _, _, rfl⟩, by rw [List.take_zero, List.map_nil, List.append_nil]; exact w8⟩
  · rintro i σ H' _ ⟨_, w⟩
    exact keep w h5
  · rintro i x σ H2 H2' hi ⟨⟨b, c, d, rfl⟩, w9⟩ ⟨rfl, hx⟩
    obtain ⟨b1, hb, rfl⟩ : ∃ b, as[i]? = some b ∧ x = V.ref b := by
      rw [List.getElem?_map] at hx
      cases e : as[i]? with
      | none => rw [e] at hx; cases hx
      | some b => rw [e] at hx; exact ⟨b, rfl, (Option.some.inj hx).symm⟩
    obtain ⟨t, ht, hbt⟩ := h6.at hb
    obtain ⟨g1, g2, g3, g4, g5⟩ := ok.a0 t (List.mem_of_getElem? ht)
    have g6 : t.2.2 ≤ 12 := by simp at g5; omega
    have hi6 := (List.getElem?_eq_some_iff.mp ht).1
    have l1 := nm_len ok g1 g2
    have l2 := num_len' g3 (by omega)
    have l3 := num_len' (i := t.2.2) (by omega) (by omega)
    have c1 : ("away " : Str).length = 5 := by decide
    have c2 : (" " : Str).length = 1 := by decide
    have c3 : (" of " : Str).length = 4 := by decide
    have c4 : (";" : Str).length = 1 := by decide
    refine ⟨b1, tri t, rfl, keep w9 hbt, rfl, _, _, rfl, _, _, rfl, _, _, rfl, rfl, ?_⟩
    refine ⟨_, rfl, .inl ⟨rfl, _, SqL.of (w9.get 0 rfl)⟩, _, rfl, _, rfl, an, _, _, _, rfl, rfl, keep w9 h2, at_of (j := t.1.toNat) (by omega) (by rw [List.getElem?_map, nm_mem g1 g2]; rfl), ?_⟩
    refine ⟨_, _, rfl, rfl, small2 (by omega) (by omega), ?_⟩
    refine ⟨_, _, rfl, rfl, small2 (by simp only [app_len]; omega) (by omega), ?_⟩
    refine ⟨_, rfl, t.2.1, rfl, Nat.lt_of_le_of_lt (Nat.log2_le_self _) (by omega), ?_⟩
    refine ⟨_, _, rfl, rfl, small2 (y := num t.2.1) (by simp only [app_len]; omega) (by omega), ?_⟩
    refine ⟨_, _, rfl, rfl, small2 (x := _ ++ num t.2.1) (by simp only [app_len]; omega) (by omega), ?_⟩
    refine ⟨_, rfl, t.2.2, rfl, Nat.lt_of_le_of_lt (Nat.log2_le_self _) (by omega), ?_⟩
    refine ⟨_, _, rfl, rfl, small2 (x := _ ++ num t.2.1 ++ _) (y := num t.2.2) (by simp only [app_len]; omega) (by omega), ?_⟩
    refine ⟨_, _, rfl, rfl, small2 (x := _ ++ num t.2.1 ++ _ ++ num t.2.2) (by simp only [app_len]; omega) (by omega), ?_⟩
    have e1 := lineS_away (nm r t.1) (num t.2.1) (num t.2.2)
    refine ⟨ll, _, _, rfl, rfl, w9.get 0 rfl, ?_, ⟨_, _, _, rfl⟩, ?_⟩
    · rw [List.length_map, List.length_map, List.length_append, List.length_map, List.length_take]; exact Nat.lt_of_le_of_lt (m := 100) (by omega) (by decide)
    · have e3 : ((lines2 r ++ linesW r ++ (r.aways.take (i + 1)).map (awW r)).map lineS).map V.str = ((lines2 r ++ linesW r ++ (r.aways.take i).map (awW r)).map lineS).map V.str ++ [V.str ("away " ++ nm r t.1 ++ " " ++ num t.2.1 ++ " of " ++ num t.2.2 ++ ";")] := by
        rw [take_more ht, List.map_append (l₂ := [t]), ← List.append_assoc, List.map_append (l₂ := List.map (awW r) [t]), List.map_append (l₂ := List.map lineS (List.map (awW r) [t])), e1]
        rfl
      rw [e3]
      exact w9.put 0 (.lst (((lines2 r ++ linesW r ++ (r.aways.take i).map (awW r)).map lineS).map V.str ++ [V.str ("away " ++ nm r t.1 ++ " " ++ num t.2.1 ++ " of " ++ num t.2.2 ++ ";")])) rfl (fun _ q => by cases q)
  · rintro σ H2 ⟨⟨b, c, d, rfl⟩, w9⟩
    rw [List.length_map, h6.length, List.take_length] at w9
    have hL2 : (lines2 r ++ linesW r ++ r.aways.map (awW r)).length ≤ 9 := by rw [List.length_append, List.length_map]; omega
    refine ⟨fun σ H' => (∃ b c d, σ = [some (.ref a), some (.ref an), some (.ref at_), some (.ref aw), some (.ref aa), some (.ref am), some (.ref ll), b, c, d, none]) ∧ Wd [] H H' [(ll, .lst (((lineWords r).map lineS).map V.str))], ?_, ?_⟩
    · refine ⟨_, rfl, (by show 0 ≤ sizeLine; decide), fun e he => ?_⟩
      have w12 := w9.new (.tup []) he
      have hms : ∀ v ∈ r.makers.map V.int, IS v := fun v hv => by
        obtain ⟨z, _, rfl⟩ := List.mem_map.mp hv
        trivial
      refine ⟨.tuple ((r.makers.map V.int).map dataOf), .tuple [], .tup (keep w12 h7) (dp_all hms), .tup (SqT.of (w12.get 0 rfl)) .nil, shaped_tup hms, rfl, _, rfl, ?_⟩
      rw [eqv_nilT]
      have hie : ((r.makers.map V.int).map dataOf).isEmpty = r.makers.isEmpty := by cases r.makers <;> rfl
      rw [hie]
      have mlen : r.makers.length ≤ 6 := by
        have := asc_len ok.masc (n := r.names.length) ok.m0
        omega
      cases hm : r.makers.isEmpty with
      | true =>
        refine ⟨⟨_, _, _, rfl⟩, ?_⟩
        rw [lineWords, linesM, if_pos hm, List.append_nil]
        exact w12.sub (List.Sublist.cons _ (List.Sublist.refl _))
      | false =>
        have hmn : r.makers ≠ [] := fun e => by rw [e] at hm; cases hm
        refine ⟨_, rfl, .inl ⟨rfl, _, SqL.of (w12.get 1 rfl)⟩, ⟨_, rfl⟩, _, rfl, am, rfl, ⟨_, keep w12 h7⟩, fun D hD => ?_⟩
        refine lc_tupF (K := K) (a := am) (xs := r.makers.map V.int) (fun _ => true) (fun v => match v with | .int i => V.str (nm r i) | v => v) w12 hD (fun H' c w => keep w h7) (by rw [List.length_map]; omega) (fun H' ⟨c, w⟩ i x hx R S hR _ => ?_) (fun H' w14 => ?_)
        · obtain ⟨t, ht, rfl⟩ := int_of_map hx
          have h0 := ok.m0 t (List.mem_of_getElem? ht)
          refine ⟨rfl, _, rfl, _, rfl, an, _, _, _, rfl, rfl, keep w h2, ?_, hR rfl⟩
          exact at_of (j := t.toNat) (by omega) (by rw [List.getElem?_map, nm_mem h0.1 h0.2]; rfl)
        have e14 : (r.makers.map V.int).map (fun v => match v with | .int i => V.str (nm r i) | v => v) = (r.makers.map (nm r)).map V.str := by rw [List.map_map, List.map_map]; rfl
        rw [filter_yes, e14] at w14
        have j3 := jl (r.makers.map (nm r)) (by rw [List.length_map]; omega) (nmi _ ok.m0)
        refine ⟨_, D, r.makers.map (nm r), rfl, rfl, .inl (SqL.of (w14.get 0 rfl)), j3.2, _, _, rfl, rfl, small2 (by decide) (by omega), _, _, rfl, rfl, small2 (by rw [app_len]; have : ("makeup " : Str).length = 7 := (by decide); omega) (by decide), ?_⟩
        rw [lineS_head (w := "makeup") (by simpa using hmn) (by decide +kernel)]
        refine ⟨ll, _, _, rfl, rfl, w14.get 2 rfl, (by rw [List.length_map, List.length_map]; exact Nat.lt_of_le_of_lt (m := 100) (by omega) (by decide)), ⟨_, _, _, rfl⟩, ?_⟩
        have w15 := (w14.put 2 (.lst (((lines2 r ++ linesW r ++ r.aways.map (awW r)).map lineS).map V.str ++ [V.str (lineS ("makeup" :: r.makers.map (nm r)))])) rfl (fun _ q => by cases q)).sub (l' := [(ll, .lst (((lines2 r ++ linesW r ++ r.aways.map (awW r)).map lineS).map V.str ++ [V.str (lineS ("makeup" :: r.makers.map (nm r)))]))]) (by walk_at "sub")
        rw [lineWords, linesM, if_neg (by rw [hm]; decide), List.map_append (l₂ := [_]), List.map_append (l₂ := List.map lineS [_])]
        exact w15
    rintro σ H3 ⟨⟨b, c, d, rfl⟩, w13⟩
    refine ⟨⟨_, rfl⟩, _, rfl, _, ll, (lineWords r).map lineS, rfl, rfl, .inl (SqL.of (w13.get 0 rfl)), ?_, ?_⟩
    · have h8 := sum_le (fun s : Str => s.length) 200 ((lineWords r).map lineS) fun s hs => by
        obtain ⟨ws, hws, rfl⟩ := List.mem_map.mp hs
        have := words_len ok ws hws
        exact lineS_len this.1 this.2
      have := lines_few ok
      have e1 : (("\n" : Str)).length = 1 := by decide
      rw [e1]
      rw [List.length_map] at h8 ⊢
      omega
    · exact k _ (w13.sub (List.nil_sublist _))
end
end Br

/-! Comprehensions that fill a list told ahead; isinstance of flat things. -/
namespace Br
open PySem PySem.Spec PyProof.Rows L2
section
variable {J : It} {n : Nat} {G : Hp → Prop} {Y : Nat → Hp → V → Hp → Prop}
/-- a comprehension without a test that makes ys; the ledger behind the new list may change from turn to turn -/
theorem lc_put (w : Walk J n G Y) {g : TG} {te : TE} {vs : List Nat} {σ : L2.St} {H0 H1 : Hp} {D : Addr} {Qd : Hp → Prop} {M : List Addr} {l : Nat → List (Addr × HO)} (ys : List V) (hy : ys.length = n) (hn : n ≤ 1000)
    (wd : Wd M H0 H1 (l 0)) (hD : H1 D = none) (hG : ∀ i H, i ≤ n → Wd M H0 H ((D, .lst (ys.take i)) :: l i) → G H)
    (hs : ∀ i x H H' (R : V → Hp → Prop), i < n → Wd M H0 H ((D, .lst (ys.take i)) :: l i) → Y i H x H' → (∀ y H4, ys[i]? = some y → Wd M H0 H4 ((D, .lst (ys.take i)) :: l (i + 1)) → R y H4) → g x (wipe σ vs) H' fun σ2 H2 => wipe σ2 vs = wipe σ vs ∧ te σ2 H2 R)
    (hd : ∀ H, Wd M H0 H ((D, .lst ys) :: l n) → Qd H) :
    ∃ W : Nat → Nat → Hp → Prop, (∃ m, W 0 m (upd H1 D (.lst []))) ∧ ∀ i m H, W i m H →
      (J.stop i H ∧ Qd H) ∨ (J.go i H ∧ ∃ Nx : Hp → Prop, (∀ H', Nx H' → ∃ m', m' < m ∧ W (i + 1) m' H') ∧ ∀ x H', J.yld i H x H' → g x (wipe σ vs) H' fun σ2 H2 => wipe σ2 vs = wipe σ vs ∧ tYes σ2 H2 fun b H3 =>
        if b = true then te σ2 H3 fun y H4 => ∃ acc, H4 D = some (.lst acc) ∧ acc.length < sizeLine ∧ Nx (upd H4 D (.lst (acc ++ [y]))) else Nx H3) := by
  refine ⟨fun i m H => m = n - i ∧ i ≤ n ∧ Wd M H0 H ((D, .lst (ys.take i)) :: l i), ⟨n, by simp, Nat.zero_le _, ?_⟩, ?_⟩
  · rw [List.take_zero]; exact wd.new _ hD
  rintro i m H ⟨rfl, hi, p⟩
  have q := hG i H hi p
  by_cases hlt : i < n
  · refine .inr ⟨w.goes i H hlt q, fun H' => Wd M H0 H' ((D, .lst (ys.take (i + 1))) :: l (i + 1)), fun H' p' => ⟨n - (i + 1), by omega, rfl, hlt, p'⟩, fun x H' y => ?_⟩
    refine hs i x H H' _ hlt p (w.yields i H x H' hlt q y) fun y H4 hy4 w4 => ⟨_, w4.get 0 rfl, ?_, ?_⟩
    · rw [List.length_take]
      exact Nat.lt_of_le_of_lt (m := 1000) (by omega) (by decide)
    · have := w4.put 0 (.lst (ys.take i ++ [y])) rfl (fun xs q => by cases q)
      rw [take_more hy4]
      exact this
  · have e : i = n := by omega
    subst e
    refine .inl ⟨w.stops H q, hd H ?_⟩
    rw [← hy, List.take_length] at p
    rw [← hy]; exact p
/-! ### flat things and isinstance -/
/-- a value and its class, as isinstance asks -/
inductive Ky (H : Hp) : V → String → Prop
  | non : Ky H .non "NoneType"
  | bl (b : Bool) : Ky H (.bl b) "bool"
  | int (i : Int) : Ky H (.int i) "int"
  | str (z : Str) : Ky H (.str z) "str"
  | lst {a : Addr} {xs : List V} (h : H a = some (.lst xs)) : Ky H (.ref a) "list"
  | tup {a : Addr} {xs : List V} (h : H a = some (.tup xs)) : Ky H (.ref a) "tuple"
theorem Ky.ty {K : PySem.W.Frag} {H : Hp} {x : V} {t : String} (h : Ky H x t) : TyX K H x (.type t) := by
  cases h with
  | non => exact .base .non
  | bl b => exact .base (.bl b)
  | int i => exact .base (.int i)
  | str z => exact .base (.str z)
  | lst h => exact .base (.lst h)
  | tup h => exact .base (.tup h)
/-- isinstance(x, T) of such things, T one of the six -/
def isA (t T : String) : Bool := t == T || (t == "bool" && T == "int")
theorem kit_is {K : PySem.W.Frag} {t T : String} (h : t ∈ ["NoneType", "bool", "int", "str", "list", "tuple"]) (h' : T ∈ ["bool", "int", "str", "list", "tuple"]) : PySem.W.kitOne K (.type t) (.type T) = some (isA t T) := by
  simp only [List.mem_cons, List.not_mem_nil, or_false] at h h'
  rcases h with rfl | rfl | rfl | rfl | rfl | rfl <;> rcases h' with rfl | rfl | rfl | rfl | rfl <;> rfl
theorem Ky.mem {H : Hp} {x : V} {t : String} (h : Ky H x t) : t ∈ ["NoneType", "bool", "int", "str", "list", "tuple"] := by
  cases h <;> decide
def intIn (lo hi : Int) : V → Bool
  | .int i => decide (lo ≤ i) && decide (i ≤ hi)
  | _ => false
abbrev rSIndex : V → List V → Hp → VK → Prop := fun x xs H Q => ∃ a b i rest, x = .str a ∧ xs = [.str b] ∧ Builtin.Str.occurrences a b 0 a.length 1 = i :: rest ∧ Q (.int (i : Nat)) H
end
end Br

namespace Br
open PySem PySem.Spec PyProof.Rows L2
/-! ### is_int_in, encode -/
def nameB (z : Str) : List Int := (z.length : Int) :: (TL.tl z).map fun c => ((c - 97 : Nat) : Int)
def peopleB (r : Rota) (k : Nat) : List Int := ((r.names.zip r.weights).take k).flatMap fun q => nameB q.1 ++ [q.2]
def headB (r : Rota) (k : Nat) : List Int := [66, (r.names.length : Int)] ++ peopleB r k
def turnsB (r : Rota) : List Int := headB r r.names.length ++ ((r.turns.length : Int) :: (r.turns ++ [(r.aways.length : Int)]))
def awaysB (r : Rota) (k : Nat) : List Int := turnsB r ++ ((r.aways.take k).flatMap fun t => [t.1, t.2.1, t.2.2])
def bodyB (r : Rota) : List Int := awaysB r r.aways.length ++ ((r.makers.length : Int) :: r.makers)
def bytesOf (r : Rota) : List Int := bodyB r ++ [(bodyB r).sum.fmod 256]
theorem six_lets : ∀ x ∈ six, ∀ c ∈ TL.tl x, Builtin.Str.occurrences "abcdefghijklmnopqrstuvwxyz" (⟨#[c]⟩ : Str) 0 ("abcdefghijklmnopqrstuvwxyz" : Str).length 1 = [c - 97] := by decide +kernel
theorem nameB_len {r : Rota} (ok : ROk r) : ∀ x ∈ r.names, (nameB x).length ≤ 9 := fun x hx => by
  have := six_len x (ok.six x hx)
  unfold nameB
  rw [List.length_cons, List.length_map, ← TL.len_tl]; omega
theorem flat_len {α : Type} (f : α → List Int) (b : Nat) : ∀ l : List α, (∀ x ∈ l, (f x).length ≤ b) → (l.flatMap f).length ≤ l.length * b
  | [], _ => by simp
  | x :: l, h => by
    have h1 := h x List.mem_cons_self
    have h2 := flat_len f b l fun y hy => h y (List.mem_cons_of_mem _ hy)
    rw [List.flatMap_cons, List.length_append, List.length_cons, Nat.add_mul, Nat.one_mul]; omega
theorem zip_mem {r : Rota} {q : Str × Int} (h : q ∈ r.names.zip r.weights) : q.1 ∈ r.names ∧ q.2 ∈ r.weights := ⟨(List.of_mem_zip (by rw [show (q.1, q.2) = q from rfl]; exact h)).1, (List.of_mem_zip (by rw [show (q.1, q.2) = q from rfl]; exact h)).2⟩
theorem peopleB_len {r : Rota} (ok : ROk r) (k : Nat) : (peopleB r k).length ≤ 60 := by
  have h := flat_len (fun q : Str × Int => nameB q.1 ++ [q.2]) 10 ((r.names.zip r.weights).take k) (fun q hq => by
    have := nameB_len ok q.1 (zip_mem (List.mem_of_mem_take hq)).1
    rw [List.length_append, List.length_singleton]; omega)
  have h2 : ((r.names.zip r.weights).take k).length ≤ 6 := by
    rw [List.length_take, List.length_zip]; have := ok.n6; omega
  have : ((r.names.zip r.weights).take k).length * 10 ≤ 6 * 10 := Nat.mul_le_mul_right _ h2
  unfold peopleB; omega
theorem headB_len {r : Rota} (ok : ROk r) (k : Nat) : (headB r k).length ≤ 62 := by
  have := peopleB_len ok k
  unfold headB; rw [List.length_append]; simp only [List.length_cons, List.length_nil]; omega
theorem turnsB_len {r : Rota} (ok : ROk r) : (turnsB r).length ≤ 80 := by
  have := headB_len ok r.names.length
  have := ok.t12
  unfold turnsB; simp only [List.length_append, List.length_cons, List.length_nil]; omega
theorem awaysB_len {r : Rota} (ok : ROk r) (k : Nat) : (awaysB r k).length ≤ 100 := by
  have := turnsB_len ok
  have h := flat_len (fun t : Int × Int × Int => [t.1, t.2.1, t.2.2]) 3 (r.aways.take k) (fun q _ => Nat.le_refl _)
  have h2 : (r.aways.take k).length ≤ 6 := by rw [List.length_take]; have := ok.a6; omega
  have : (r.aways.take k).length * 3 ≤ 6 * 3 := Nat.mul_le_mul_right _ h2
  unfold awaysB; rw [List.length_append]; omega
theorem makers_len {r : Rota} (ok : ROk r) : r.makers.length ≤ 6 := Nat.le_trans (asc_len ok.masc ok.m0) ok.n6
theorem bodyB_len {r : Rota} (ok : ROk r) : (bodyB r).length ≤ 110 := by
  have := awaysB_len ok r.aways.length
  have := makers_len ok
  unfold bodyB; simp only [List.length_append, List.length_cons]; omega
theorem headB_more {r : Rota} {k : Nat} {x : Str} {v : Int} (h1 : r.names[k]? = some x) (h2 : r.weights[k]? = some v) : headB r (k + 1) = headB r k ++ (nameB x ++ [v]) := by
  have : (r.names.zip r.weights)[k]? = some (x, v) := by
    rw [List.getElem?_zip_eq_some]; exact ⟨h1, h2⟩
  unfold headB peopleB
  rw [take_more this, List.flatMap_append, List.append_assoc, List.flatMap_cons, List.flatMap_nil, List.append_nil]
theorem awaysB_more {r : Rota} {k : Nat} {t : Int × Int × Int} (h : r.aways[k]? = some t) : awaysB r (k + 1) = awaysB r k ++ [t.1, t.2.1, t.2.2] := by
  unfold awaysB
  rw [take_more h, List.flatMap_append, List.append_assoc]; rfl
theorem small {n : Nat} (h : n ≤ 1000) : n < sizeLine := Nat.lt_of_le_of_lt h (by decide)
theorem small' {n : Nat} (h : n ≤ 1000) : n ≤ sizeLine := Nat.le_of_lt (small h)
section
variable {P : Program} {w : World} {K : PySem.W.Frag} {mg : Str → Option Value} {base : Heap}
abbrev sis_int_in : Stmt := topS 42
theorem scis_int_in : FnScope ["value", "low", "high"] ["value", "low", "high"] (defScope sis_int_in) := ⟨rfl, rfl, rfl, by decide +kernel, rfl, by decide +kernel, by decide +kernel⟩
theorem intIn_int (lo hi i : Int) : intIn lo hi (.int i) = (decide (lo ≤ i) && decide (i ≤ hi)) := rfl
def spIntIn : Sp := fun vs H Q _ => ∃ (x : V) (t : String) (lo hi : Int), vs = [x, .int lo, .int hi] ∧ Ky H x t ∧ Q (.bl (intIn lo hi x)) H
theorem cal_intIn (D : DefAt K mg "is_int_in" sis_int_in ["value", "low", "high"]) (T : Bi mg) : Cal P w K mg base 1 "is_int_in" ["value", "low", "high"] spIntIn := D.cal fun f fd F => by
  have nd := scis_int_in.nd
  refine F.ok scis_int_in (fun vs H Q E h => ?_) (fun cdv A outer s H vs Q E hr h => ?_)
  · obtain ⟨x, t, lo, hi, rfl, _⟩ := h; rfl
  obtain ⟨x, t, lo, hi, rfl, hk, q⟩ := h
  refine ⟨_, (pss_one (ps_ret (pe_and (pe_callB call_isi (by rfl) T.isinstance (by decide +kernel) (pa_cons (pv 0) (pa_cons (pe_bltn (v := .ty "int") (by rfl) T.int (by decide +kernel) rfl) pa_nil))) (pe_and (pe_not (pe_callB call_isi (by rfl) T.isinstance (by decide +kernel) (pa_cons (pv 0) (pa_cons (pe_bltn (v := .ty "bool") (by rfl) T.bool (by decide +kernel) rfl) pa_nil)))) (pe_one (pe_chain op_le op_le (pv 1) (pv 0) (pv 2))))))), ?_⟩
  have k1 := kit_is (K := K) hk.mem (T := "int") (by decide)
  have k2 := kit_is (K := K) hk.mem (T := "bool") (by decide)
  refine ⟨_, rfl, _, _, _, .type "int", _, rfl, .ty "int", hk.ty, k1, _, rfl, ite2 (fun h1 => ?_) (fun h1 => ?_)⟩
  · refine ⟨_, rfl, _, _, _, .type "bool", _, rfl, .ty "bool", hk.ty, k2, _, rfl, _, rfl, ite2 (fun h2 => ?_) (fun h2 => ?_)⟩
    · cases hk with
      | int i =>
        refine ⟨_, rfl, _, rfl, _, _, rfl, rfl, _, rfl, ite2 (fun h3 => ?_) (fun h3 => ?_)⟩
        · refine ⟨_, rfl, _, _, rfl, rfl, ?_⟩
          have e : intIn lo hi (.int i) = decide (i ≤ hi) := by rw [intIn_int, h3, Bool.true_and]
          rw [e] at q; exact q
        · have e : intIn lo hi (.int i) = false := by rw [intIn_int, Bool.eq_false_iff.mpr h3]; rfl
          rw [e] at q; exact q
      | bl b => exact absurd h2 (by decide)
      | non => exact absurd h1 (by decide)
      | str z => exact absurd h1 (by decide)
      | lst h => exact absurd h1 (by decide)
      | tup h => exact absurd h1 (by decide)
    · cases hk with
      | bl b => exact q
      | int i => exact absurd rfl h2
      | non => exact q
      | str z => exact q
      | lst h => exact q
      | tup h => exact q
  · cases hk with
    | bl b => exact absurd rfl h1
    | int i => exact absurd rfl h1
    | non => exact q
    | str z => exact q
    | lst h => exact q
    | tup h => exact q
abbrev sencode : Stmt := topS 48
theorem scencode : FnScope ["rota", "names", "turns", "weights", "aways", "makers", "result", "name", "weight", "person", "remainder", "modulus", "letter"] ["rota"] (defScope sencode) := ⟨rfl, rfl, rfl, by decide +kernel, rfl, by decide +kernel, by decide +kernel⟩
def spEncode : Sp := fun vs H Q _ => ∃ (z : Str) (r : Rota) (S : List Stm), vs = [.str z] ∧ Says z r S ∧ ∀ H' p, Wd [] H H' [(p, .lst ((bytesOf r).map V.int))] → Q (.ref p) H'
structure EncC (mg : Str → Option Value) : Prop where
  TAG : ∃ t, mg "TAG" = some (.int 66 t)
  BYTE : ∃ t, mg "BYTE" = some (.int 256 t)
theorem cal_encode (D : DefAt K mg "encode" sencode ["rota"]) (T : Bi mg) (C : LexC K mg) (EC : EncC mg) (C1 : Cal P w K mg base 6 "load" ["rota"] spLoad) : Cal P w K mg base 7 "encode" ["rota"] spEncode := D.cal fun f fd F => by
  have nd := scencode.nd
  obtain ⟨t1, c_TAG⟩ := EC.TAG
  obtain ⟨t2, c_BYTE⟩ := EC.BYTE
  obtain ⟨t3, c_LETTERS⟩ := C.LETTERS
  obtain ⟨f1, fd1, m_load, kp_load, b_load, G_load⟩ := C1.ex
  refine F.ok scencode (fun vs H Q E h => ?_) (fun cdv A outer s H vs Q E hr h => ?_)
  · obtain ⟨z, r, S, rfl, _⟩ := h; rfl
  obtain ⟨z, r, S, rfl, hz, q⟩ := h
  refine ⟨_, (pss_cons (ps_asg (pe_call G_load (hr.mono (by first | decide | omega)) (by rfl) m_load kp_load b_load .nil pass0 (pa_cons (pv 0) pa_nil)) (pg_tupK (K := K) (n := 5) rfl rfl (pgs_cons (pg_name (i := 1) nd rfl (Or.inl rfl)) (pgs_cons (pg_name (i := 2) nd rfl (Or.inl rfl)) (pgs_cons (pg_name (i := 3) nd rfl (Or.inl rfl)) (pgs_cons (pg_name (i := 4) nd rfl (Or.inl rfl)) (pgs_cons (pg_name (i := 5) nd rfl (Or.inl rfl)) pgs_nil)))))))
 (pss_cons (ps_set (i := 6) nd rfl (Or.inl rfl) (pe_lst (pa_cons (pe_glob (v := .int 66) (by rfl) c_TAG ⟨_, rfl⟩) (pa_cons (pe_callB (r := rLenS K) call_len_seq (by rfl) T.len PySem.boot_len (pa_cons (pv 1) pa_nil)) pa_nil))))
 (pss_cons (ps_for PassesOwn.never rfl (RZ.pi_zipA (by rfl) T.zip (pa_cons (pv 1) (pa_cons (pv 3) pa_nil))) (pg_tupK (K := K) (n := 2) rfl rfl (pgs_cons (pg_name (i := 7) nd rfl (Or.inl rfl)) (pgs_cons (pg_name (i := 8) nd rfl (Or.inl rfl)) pgs_nil)))
 (pss_one (ps_expr (pe_bmK (K := K) rfl PySem.F.plainAttrs_list PySem.F.slot_list_extend PySem.F.type_list_extend mt_extend (pv 6) (pa_cons (pe_op op_cat (pe_op op_cat (pe_lst (pa_cons (pe_callB call_len_str (by rfl) T.len PySem.boot_len (pa_cons (pv 7) pa_nil)) pa_nil)) (pe_lc (own := [("letter", 12)]) rfl nd (pi_str (pv 7)) (blkOk_by (N := ["rota", "names", "turns", "weights", "aways", "makers", "result", "name", "weight", "person", "remainder", "modulus", "letter"]) (sc := defScope sencode) (by decide +kernel)) (fun _ _ _ _ _ => (pg_name (i := 12) nd rfl (Or.inl rfl))) (fun _ _ _ _ _ => pts_nil) (fun _ _ _ _ _ => (pe_bmK (r := rSIndex) (K := K) rfl PySem.F.plainAttrs_str PySem.F.slot_str_index PySem.F.type_str_index mt_sindex (pe_glob (v := .str "abcdefghijklmnopqrstuvwxyz") (by rfl) c_LETTERS ⟨_, rfl⟩) (pa_cons (pv 12) pa_nil))))) (pe_lst (pa_cons (pv 8) pa_nil))) pa_nil)))))
 (pss_cons (ps_expr (pe_bmK (K := K) rfl PySem.F.plainAttrs_list PySem.F.slot_list_extend PySem.F.type_list_extend mt_extend (pv 6) (pa_cons (pe_lst (pa_cons (pe_callB (r := rLenS K) call_len_seq (by rfl) T.len PySem.boot_len (pa_cons (pv 2) pa_nil)) (StX.pa_star (pv 2) (pa_cons (pe_callB (r := rLenS K) call_len_seq (by rfl) T.len PySem.boot_len (pa_cons (pv 4) pa_nil)) pa_nil)))) pa_nil)))
 (pss_cons (ps_for PassesOwn.never rfl (pi_tupK (K := K) rfl (pv 4)) (pg_tupK (K := K) (n := 3) rfl rfl (pgs_cons (pg_name (i := 9) nd rfl (Or.inl rfl)) (pgs_cons (pg_name (i := 10) nd rfl (Or.inl rfl)) (pgs_cons (pg_name (i := 11) nd rfl (Or.inl rfl)) pgs_nil))))
 (pss_one (ps_expr (pe_bmK (K := K) rfl PySem.F.plainAttrs_list PySem.F.slot_list_extend PySem.F.type_list_extend mt_extend (pv 6) (pa_cons (pe_lst (pa_cons (pv 9) (pa_cons (pv 10) (pa_cons (pv 11) pa_nil)))) pa_nil)))))
 (pss_cons (ps_expr (pe_bmK (K := K) rfl PySem.F.plainAttrs_list PySem.F.slot_list_extend PySem.F.type_list_extend mt_extend (pv 6) (pa_cons (pe_lst (pa_cons (pe_callB (r := rLenS K) call_len_seq (by rfl) T.len PySem.boot_len (pa_cons (pv 5) pa_nil)) (StX.pa_star (pv 5) pa_nil))) pa_nil)))
 (pss_one (ps_ret (pe_lst (StX.pa_star (pv 6) (pa_cons (pe_op op_modN (pe_callB (r := L2.rSum K) (cr_sum rfl) (by rfl) T.sum (by decide +kernel) (pa_cons (pv 6) pa_nil)) (pe_glob (v := .int 256) (by rfl) c_BYTE ⟨_, rfl⟩)) pa_nil))))))))))), ?_⟩
  have ok := hz.ok
  refine ⟨_, rfl, z, r, S, rfl, hz, fun H1 a c1 hR => ?_⟩
  obtain ⟨an, at_, aw, aa, am, as, h1, h2, h3, h4, h5, h6, h7⟩ := hR
  have keep : ∀ {H' : Hp} {l : List (Addr × HO)}, Wd [] H1 H' l → ∀ {b : Addr} {xs : List V}, H1 b = some (.tup xs) → SqT K H' b xs := fun w _ _ e => SqT.of (w.tups _ _ e)
  refine ⟨a, _, rfl, SqT.of h1, rfl, _, _, rfl, _, _, rfl, _, _, rfl, _, _, rfl, _, _, rfl, rfl, ?_⟩
  refine ⟨_, rfl, an, _, rfl, .inr (SqT.of h2), (by show 2 ≤ sizeLine; decide), fun p hp => ?_⟩
  have w0 := (Wd.refl H1).new (.lst [V.int 66, V.int ((r.names.map V.str).length : Int)]) hp
  -- the people
  refine ⟨_, rfl, _, rfl, an, aw, _, _, rfl, .inr ⟨SqT.of (w0.tups _ _ h2), SqT.of (w0.tups _ _ h4), ?_⟩⟩
  refine RZ.for_zipT (K := K) (a := an) (b := aw) (xs := r.names.map V.str) (ys := r.weights.map V.int) (by rw [List.length_map, List.length_map, ok.wl])
    (fun i σ H' => (∃ b c d e, σ = [some (.str z), some (.ref an), some (.ref at_), some (.ref aw), some (.ref aa), some (.ref am), some (.ref p), b, c, d, e, none, none]) ∧ Wd [] H1 H' [(p, .lst ((headB r i).map V.int))]) ?_ ?_ ?_ ?_
  · refine ⟨⟨_, _, _, _, rfl⟩, ?_⟩
    have e : (headB r 0).map V.int = [V.int 66, V.int ((r.names.map V.str).length : Int)] := by rw [List.length_map]; rfl
    rw [e]; exact w0
  · rintro i σ H' ⟨_, wd⟩; exact ⟨keep wd h2, keep wd h4⟩
  · rintro i x y T2 σ H' hx hy ⟨⟨b, c, d, e, rfl⟩, wd⟩ hT
    rw [List.getElem?_map] at hx hy
    obtain ⟨xn, hxn, rfl⟩ := Option.map_eq_some_iff.mp hx
    obtain ⟨yn, hyn, rfl⟩ := Option.map_eq_some_iff.mp hy
    have wd1 := wd.new1 (.tup [V.str xn, V.int yn]) hT
    refine ⟨T2, _, rfl, SqT.of (wd1.get 1 rfl), rfl, _, _, rfl, _, _, rfl, rfl, ?_⟩
    have hl8 := six_len xn (ok.six xn (List.mem_of_getElem? hxn))
    have hsx := ok.six xn (List.mem_of_getElem? hxn)
    refine ⟨_, rfl, .inl ⟨rfl, _, SqL.of (wd1.get 0 rfl)⟩, _, rfl, _, rfl, small' (by omega), (by show 1 ≤ sizeLine; decide), fun p1 hp1 => ?_⟩
    have wd2 := wd1.new1 (.lst [V.int (xn.length : Int)]) hp1
    refine ⟨_, rfl, _, rfl, fun D hD => ?_⟩
    refine lc_put (walk_str (z := xn)) (l := fun _ => _) ((TL.tl xn).map fun c => V.int ((c - 97 : Nat) : Int)) (by rw [List.length_map, ← TL.len_tl]; rfl) (by show xn.length ≤ 1000; omega) wd2 hD (fun _ _ _ _ => trivial) (fun j x H' H'' R hj w3 hy hR => ?_) (fun H' w3 => ?_)
    · obtain ⟨rfl, cc, hcc, rfl⟩ := hy
      have hm : cc ∈ TL.tl xn := List.mem_of_getElem? (by rw [← hcc]; exact (Array.getElem?_toList ..).trans rfl)
      refine ⟨rfl, rfl, _, rfl, _, _, cc - 97, [], rfl, rfl, six_lets xn hsx cc hm, hR _ _ ?_ w3⟩
      rw [List.getElem?_map, show (TL.tl xn)[j]? = some cc from by rw [← hcc]; exact Array.getElem?_toList ..]
      rfl
    · have hnb := nameB_len ok xn (List.mem_of_getElem? hxn)
      have e1 : [V.int (xn.length : Int)] ++ (TL.tl xn).map (fun c => V.int ((c - 97 : Nat) : Int)) = (nameB xn).map V.int := by
        unfold nameB; rw [List.map_cons, List.map_map]; rfl
      refine ⟨_, _, _, _, rfl, rfl, w3.get 2 rfl, w3.get 0 rfl, ?_, fun p2 hp2 => ?_⟩
      · have := congrArg List.length e1
        rw [List.length_append, List.length_map (as := nameB xn)] at this
        exact small' (by omega)
      rw [e1]
      have w4 := w3.new (.lst ((nameB xn).map V.int)) hp2
      refine ⟨_, rfl, (by show 1 ≤ sizeLine; decide), fun p3 hp3 => ?_⟩
      have w5 := w4.new (.lst [V.int yn]) hp3
      refine ⟨_, _, _, _, rfl, rfl, w5.get 1 rfl, w5.get 0 rfl, ?_, fun p4 hp4 => ?_⟩
      · rw [List.length_map]; exact small' (by simp only [List.length_cons, List.length_nil]; omega)
      have w6 := w5.new (.lst ((nameB xn).map V.int ++ [V.int yn])) hp4
      refine ⟨_, _, _, _, rfl, rfl, w6.get 4 rfl, w6.get 0 rfl, ?_, ?_⟩
      · have := headB_len ok i
        simp only [List.length_append, List.length_map, List.length_cons, List.length_nil]
        exact small' (by omega)
      refine ⟨⟨_, _, _, _, rfl⟩, ?_⟩
      have w7 := w6.put 4 (.lst ((headB r i).map V.int ++ ((nameB xn).map V.int ++ [V.int yn]))) rfl (fun _ q => by cases q)
      rw [headB_more hxn hyn, List.map_append, List.map_append]
      exact w7.sub (by walk_at "sub")
  · rintro σ H' ⟨⟨b, c, d, e, rfl⟩, wd⟩
    rw [List.length_map] at wd
    have t12 := ok.t12
    have a6 := ok.a6
    have hm6 := makers_len ok
    refine ⟨_, rfl, .inl ⟨rfl, _, SqL.of (wd.get 0 rfl)⟩, _, rfl, at_, _, rfl, .inr (keep wd h3), _, rfl, at_, _, rfl, .inl (keep wd h3), _, rfl, aa, _, rfl, .inr (keep wd h5), ?_, fun p1 hp1 => ?_⟩
    · simp only [List.length_append, List.length_map, List.length_cons, List.length_nil]
      exact small' (by omega)
    have has : as.length = r.aways.length := h6.length
    have e1 : V.int ((r.turns.map V.int).length : Int) :: (r.turns.map V.int ++ [V.int ((as.map V.ref).length : Int)]) = ((r.turns.length : Int) :: (r.turns ++ [(r.aways.length : Int)])).map V.int := by
      rw [List.length_map, List.length_map, has, List.map_cons, List.map_append]; rfl
    have w1 := wd.new (.lst (((r.turns.length : Int) :: (r.turns ++ [(r.aways.length : Int)])).map V.int)) hp1
    rw [e1]
    refine ⟨_, _, _, _, rfl, rfl, w1.get 1 rfl, w1.get 0 rfl, ?_, ?_⟩
    · have := headB_len ok r.names.length
      simp only [List.length_append, List.length_map, List.length_cons, List.length_nil]
      exact small' (by omega)
    rw [← List.map_append]
    have w2 := (w1.put 1 (.lst ((headB r r.names.length ++ ((r.turns.length : Int) :: (r.turns ++ [(r.aways.length : Int)]))).map V.int)) rfl (fun _ q => by cases q)).sub (l' := [(p, .lst ((turnsB r).map V.int))]) (by unfold turnsB; walk_at "sub")
    -- the absences
    refine ⟨_, rfl, aa, rfl, ⟨_, keep w2 h5⟩, ?_⟩
    refine for_it (walk_tup (xs := as.map V.ref)) (fun i σ H' => (∃ b c d e f g, σ = [some (.str z), some (.ref an), some (.ref at_), some (.ref aw), some (.ref aa), some (.ref am), some (.ref p), b, c, d, e, f, g]) ∧ Wd [] H1 H' [(p, .lst ((awaysB r i).map V.int))]) ?_ ?_ ?_ ?_
    · refine ⟨⟨_, _, _, _, _, _, rfl⟩, ?_⟩
      unfold awaysB; rw [List.take_zero, List.flatMap_nil, List.append_nil]; exact w2
    · rintro i σ H' _ ⟨_, w⟩; exact keep w h5
    · rintro i x σ H2 H2' hi ⟨⟨b, c, d, e, f, g, rfl⟩, w3⟩ ⟨rfl, hx⟩
      rw [List.getElem?_map] at hx
      obtain ⟨b1, hb, rfl⟩ := Option.map_eq_some_iff.mp hx
      obtain ⟨t, ht, hbt⟩ := h6.at hb
      refine ⟨b1, tri t, rfl, keep w3 hbt, rfl, _, _, rfl, _, _, rfl, _, _, rfl, rfl, ?_⟩
      refine ⟨_, rfl, .inl ⟨rfl, _, SqL.of (w3.get 0 rfl)⟩, _, rfl, _, rfl, _, rfl, (by show 3 ≤ sizeLine; decide), fun p2 hp2 => ?_⟩
      have w4 := w3.new (.lst [V.int t.1, V.int t.2.1, V.int t.2.2]) hp2
      refine ⟨_, _, _, _, rfl, rfl, w4.get 1 rfl, w4.get 0 rfl, ?_, ?_⟩
      · have := awaysB_len ok i
        simp only [List.length_append, List.length_map, List.length_cons, List.length_nil]
        exact small' (by omega)
      refine ⟨⟨_, _, _, _, _, _, rfl⟩, ?_⟩
      rw [awaysB_more ht, List.map_append]
      exact (w4.put 1 (.lst ((awaysB r i).map V.int ++ [V.int t.1, V.int t.2.1, V.int t.2.2])) rfl (fun _ q => by cases q)).sub (by walk_at "sub")
    · rintro σ H2 ⟨⟨b, c, d, e, f, g, rfl⟩, w3⟩
      rw [List.length_map, has] at w3
      refine ⟨_, rfl, .inl ⟨rfl, _, SqL.of (w3.get 0 rfl)⟩, _, rfl, am, _, rfl, .inr (keep w3 h7), _, rfl, am, _, rfl, .inl (keep w3 h7), ?_, fun p2 hp2 => ?_⟩
      · simp only [List.length_append, List.length_map, List.length_cons, List.length_nil]
        exact small' (by omega)
      have e2 : V.int ((r.makers.map V.int).length : Int) :: (r.makers.map V.int ++ []) = ((r.makers.length : Int) :: r.makers).map V.int := by
        rw [List.length_map, List.append_nil, List.map_cons]
      have w4 := w3.new (.lst (((r.makers.length : Int) :: r.makers).map V.int)) hp2
      rw [e2]
      refine ⟨_, _, _, _, rfl, rfl, w4.get 1 rfl, w4.get 0 rfl, ?_, ?_⟩
      · have := awaysB_len ok r.aways.length
        simp only [List.length_append, List.length_map, List.length_cons, List.length_nil]
        exact small' (by omega)
      rw [← List.map_append]
      have w5 := (w4.put 1 (.lst ((bodyB r).map V.int)) rfl (fun _ q => by cases q)).sub (l' := [(p, .lst ((bodyB r).map V.int))]) (by walk_at "sub")
      have hbl := bodyB_len ok
      refine ⟨_, rfl, p, _, rfl, .inr (SqL.of (w5.get 0 rfl)), _, rfl, p, bodyB r, rfl, SqL.of (w5.get 0 rfl), _, _, rfl, rfl, (by show (256 : Int) ≠ 0; decide), ?_, fun p3 hp3 => ?_⟩
      · simp only [List.length_append, List.length_map, List.length_cons, List.length_nil]
        exact small' (by omega)
      have e3 : (bodyB r).map V.int ++ [V.int ((bodyB r).sum.fmod 256)] = (bytesOf r).map V.int := by
        unfold bytesOf; rw [List.map_append]; rfl
      rw [e3]
      refine q _ p3 ?_
      have w6 := (w5.new (.lst ((bytesOf r).map V.int)) hp3).sub (l' := [(p3, .lst ((bytesOf r).map V.int))]) (by walk_at "sub")
      exact c1.call0 w6
end
end Br

/-! A comprehension whose element may raise: the exception leaves the block and flies on in the def. -/
namespace Br
open PySem PySem.Spec PySem.Calls PyProof.Rows L2
section
variable {M : Model} {A : Around} {E : Value → Shared → Prop} {s : Shared} {env : Env}
/-- the block's end, its own environment named -/
def cPost (M : Model) (A : Around) (E : Value → Shared → Prop) (Qz : Value → Shared → Prop) (acc : Value) (ce : Env) (r : Result) (z : Shared) : Prop :=
  match r with
  | .ok _ => ∃ m, z.heap.Ns ce.locals m ∧ ∀ hz, Heap.SameBut ce.locals z.heap hz → Qz acc { z with heap := hz }
  | .error x => ∃ m, z.heap.Ns ce.locals m ∧ ∀ hz, Heap.SameBut ce.locals z.heap hz → wpAny M A (PySem.passOn "comprehension.variables-let-go" x ce : Sem Value) (fun _ _ => False) E { z with heap := hz }
theorem comp_any {e : Expr} {scope : Scope} {pos : Pos} {newAcc first : Sem Value} {g : Comprehension} {gs : List Comprehension} {cl : List (Str × Addr)} {Q : Value → Shared → Prop}
    (hcl : clausesOf e = g :: gs) (hs : ∀ x, foldedSetIterable g.iter env x = pure x) (hclos : closureFor scope env = pure cl) (hkind : scope.kind = .function) (hnames : ∀ x ∈ scope.names, x.2 = .local → scope.names.lookup x.1 = some .local)
    (h : wpAny M A first (fun x z1 => wpAny M A (pyIter x) (fun it z2 => wpAny M A newAcc (fun acc z3 => wpAny M A (newFunctionEnv scope env.globals cl [] env.qual none .none (some env)) (fun ce z4 =>
        codeAny M A (.compStart e 0 it acc { ce with scope := relabel scope env }) (cPost M A E Q acc { ce with scope := relabel scope env }) z4) E z3) E z2) E z1) E s) :
    wpAny M A (comprehension e scope env pos newAcc false first none) Q E s := by
  unfold comprehension
  rw [hclos, hcl]
  refine wpAny_bind (wpAny_mono h (fun x z1 k1 => wpAny_bind (wpAny_standAt (wpAny_bind (wpAny_of_eq (hs x) (wpAny_bind (wpAny_holding (wpAny_mono k1 (fun it z2 k2 =>
    wpAny_standIf (wpAny_bind (wpAny_mono k2 (fun acc z3 k3 => wpAny_bind (wpAny_pure (wpAny_bind (wpAny_mono k3 (fun ce z4 k4 => ?_) fun _ _ y => y)))) fun _ _ y => y))) fun _ _ y => y))))))) fun _ _ y => y)
  dsimp only
  have hv : ∀ x ∈ (scope.names.filter fun x => (x.2 == .local || x.2 == .cell) && x.1 != (".0" : Str)).reverse, x.2 = .local → Env.kindOf { ce with scope := relabel scope env } x.1 = some .local := fun x hx hl =>
    lookup_relabel_local (hnames x (List.mem_filter.mp (List.mem_reverse.mp hx)).1 hl)
  refine wpAny_holding (wpAny_bind (wpAny_attempt (wpAny_holding (wpAny_run (codeAny_mono k4 fun r z5 hr => ?_)))))
  cases r with
  | ok f =>
    obtain ⟨m, hn, q⟩ := hr
    exact wpAny_bind (wpAny_holding (wpAny_comp_letGo (cenv := { ce with scope := relabel scope env }) hkind _ z5 m hv hn fun hz mz _ sz => wpAny_pure (q hz sz)))
  | error x =>
    obtain ⟨m, hn, q⟩ := hr
    exact wpAny_bind (wpAny_holding (wpAny_comp_letGo (cenv := { ce with scope := relabel scope env }) hkind _ z5 m hv hn fun hz mz _ sz => wpAny_mono (q hz sz) (fun _ _ f => f.elim) fun _ _ y => y))
end
theorem ff_but {base h h' : Heap} {C : Addr} (k : ∀ b, b ≠ C → h'.get? b = h.get? b) (hb : ∀ b o, base.get? b = some o → True) : ∀ {l : List Env}, h.FunFrames base l → C ∉ frs l → h'.FunFrames (PySem.W.hideAll base [C]) l
  | [], _, _ => trivial
  | env :: l, h1, hc => by
    obtain ⟨hk, ⟨L, o, hf, hn, ho, hd⟩, hr⟩ := h1
    have hL : L ∈ frs (env :: l) := List.mem_filterMap.mpr ⟨env, List.mem_cons_self, hf⟩
    refine ⟨hk, ⟨L, o, hf, ?_, (k L fun z => hc (z ▸ hL)).trans ho, hd⟩, ff_but k hb hr fun hm => hc ?_⟩
    · cases q : (PySem.W.hideAll base [C]).get? L with
      | none => rfl
      | some o' => rw [PySem.W.of_hideAll _ q] at hn; cases hn
    · obtain ⟨e, he, q⟩ := List.mem_filterMap.mp hm
      exact List.mem_filterMap.mpr ⟨e, List.mem_cons_of_mem _ he, q⟩
section
variable {X : Cx} {W : WX} {pins : List (Addr × Obj)} {σ : L2.St} {H3 : Hp} {s3 : Shared} {scope : Scope} {cl : List (Str × Addr)} {fp : List Addr} {Qz : Value → Shared → Prop} {D : Addr}
/-- what an element's exception meets -/
def blkE (X : Cx) (Qz : Value → Shared → Prop) (D : Addr) (ce : Env) : Value → Shared → Prop :=
  notedBy (model X.prog X.w) X.A ce fun e z => cPost (model X.prog X.w) X.A X.xe Qz (.ref D) ce (.error e) z
theorem note_same {M : Model} {A : Around} {Q : Unit → Shared → Prop} {E : Value → Shared → Prop} {s : Shared} {e : Value} {ce env : Env} (h : ce.frame = env.frame) (k : wpAny M A (noteFrame e env) Q E s) : wpAny M A (noteFrame e ce) Q E s := by
  unfold noteFrame PySem.frameOf at k ⊢
  rw [h]
  exact k
theorem blk_pass (hs : X.stack = X.env :: X.outer) (hf : X.env.frame = some X.env.locals) (tk : Takes X W) (I3 : Inv X pins σ H3 s3) {ce : Env} (hce : ce.locals = s3.heap.objs.size) (hcf : ce.frame = X.env.frame)
    (f3 : ∀ b ∈ fp, FpOk X pins H3 b ∧ b < s3.heap.objs.size) :
    Passes (L2.CX X.prog X.w) ((X.blk s3 H3 scope ce fp).wish (blkE X Qz D ce)) (fun cls d H' => W cls d σ H') := by
  intro pins2 σ2 H s e z I0 c
  have I : Inv (X.blk s3 H3 scope ce fp) pins2 σ2 H s := I0.unwish
  have ok := I3.ok
  have hfr : X.A.frames = some (X.env :: X.outer) := by rw [ok.frames, hs]
  obtain ⟨a, B, sI, p2, σ4, H2, cls, d, rfl, J, nb, up, sky, na, os, ag, w⟩ := XE.of_call (X := X.blk s3 H3 scope ce fp) (W := fun cls d _ H' => W cls d σ H') I (fun _ _ _ h => h) c
  obtain ⟨a1, B1, _, _, _, ea, fl1, _⟩ := c
  cases ea
  obtain ⟨_, _, _, oe1, vs1, T1, oT1, ts1, he1, _, hd1, hv1, _, _, hT1, hdT1, h31⟩ := fl1
  have fl : HandSPX.FlyingZ B (X.env :: X.outer) a (Zc cls d) z.heap := by
    rw [← hs]
    rcases sky with ⟨_, _, _, oe, vs, he, _, hd, h1⟩ | fl | hh
    · rw [he1] at he; cases he
      rw [hd1] at hd; cases hd
      rw [hv1] at h1; cases h1
    · exact fl
    · obtain ⟨_, _, _, oe, vs, T, oT, ts, he, _, hd, h1, _, _, hT, hdT, h3⟩ := hh
      rw [he1] at he; cases he
      rw [hd1] at hd; cases hd
      rw [hv1] at h1; cases h1
      rw [hT1] at hT; cases hT
      rw [hdT1] at hdT; cases hdT
      rw [h31] at h3; cases h3
  have hC3 : FpOk X pins H2 s3.heap.objs.size := I3.fpOk (Nat.le_refl _) (by have q := J.free; rw [show (X.blk s3 H3 scope ce fp).env.locals = s3.heap.objs.size from hce] at q; exact q)
  have nfr : s3.heap.objs.size ∉ frs (X.env :: X.outer) := fun hm => by
    obtain ⟨e, he, q⟩ := List.mem_filterMap.mp hm
    rcases List.mem_cons.mp he with rfl | he
    · rw [hf] at q; exact hC3.2.1 (Option.some.inj q).symm
    · exact hC3.2.2.1 (List.mem_filterMap.mpr ⟨e, he, q⟩)
  unfold blkE notedBy
  refine note_same hcf ?_
  refine HandSPX.looks_onZ Zc.steady hfr hf fl fun h1 hh1 up1 => ?_
  obtain ⟨m, hns, _⟩ := J.loc
  have hns : sI.heap.Ns ce.locals m := hns
  rw [hce] at hns
  obtain ⟨oC, es, ep, hoC, hdC⟩ := id hns
  have hC1 : h1.get? s3.heap.objs.size = some oC := hh1.1 _ _ (nb _ _ hoC (by rw [show (X.blk s3 H3 scope ce fp).stack = X.env :: X.outer from hs]; exact nfr))
  refine ⟨m, by rw [hce]; exact ⟨oC, es, ep, hC1, hdC⟩, fun h2 sb => ?_⟩
  rw [hce] at sb
  have k2 : ∀ b, b ≠ s3.heap.objs.size → h2.get? b = h1.get? b := sb.2
  have hh2 : HandSPX.HeldZ (PySem.W.hideAll B [s3.heap.objs.size]) (X.env :: X.outer) a (Zc cls d) X.env.locals h2 := by
    obtain ⟨x1, x2, x3, oe, vs, T, oT, ts, he, hz, hd, hv, hT0, hTe, hT, hdT, h3⟩ := hh1
    have nf : ∀ {b o ws}, h1.get? b = some o → o.data = .fields ws → b ≠ s3.heap.objs.size := fun e1 e2 q => by
      rw [q, hC1] at e1; cases e1
      rw [hdC.1] at e2; cases e2
    have hid : ∀ b, B.get? b = none → (PySem.W.hideAll B [s3.heap.objs.size]).get? b = none := fun b q => by
      cases q2 : (PySem.W.hideAll B [s3.heap.objs.size]).get? b with
      | none => rfl
      | some o' => rw [PySem.W.of_hideAll _ q2] at q; cases q
    refine ⟨fun b o e => ?_, hid _ x2, ff_but k2 (fun _ _ _ => trivial) x3 nfr, oe, vs, T, oT, ts, (k2 _ (nf he hd)).trans he, hz, hd, hv, hid _ hT0, hTe, (k2 _ (nf hT hdT)).trans hT, hdT, h3⟩
    have hb : b ≠ s3.heap.objs.size := fun q => by rw [q, PySem.W.hideAll_none _ (by simp)] at e; cases e
    exact (k2 b hb).trans (x1 b o (PySem.W.of_hideAll _ e))
  obtain ⟨_, _, _, oe5, vs5, T5, oT5, ts5, he5, _, hd5, hv5, _⟩ := id hh2
  unfold PySem.passOn
  refine wpAny_bind (wpAny_field he5 hd5 hv5 ?_)
  rw [if_neg (show ¬ ((Value.ref T5 == Value.none) = true) from by simp)]
  have fin : wpAny (model X.prog X.w) X.A (setFlight (.ref a) ce.frame) (fun _ z4 => wpAny (model X.prog X.w) X.A (throw (.ref a) : Sem Value) (fun _ _ => False) X.xe z4) X.xe { z with heap := h2 } := by
    rw [hcf, hf]
    refine HandSPX.setFlight_onZ hh2 fun h3 hh3 up3 => wpAny_throw (tk _ _ ?_)
    have nC : ∀ b o, (PySem.W.hideAll sI.heap [s3.heap.objs.size]).get? b = some o → b ≠ s3.heap.objs.size := fun b o e q => by rw [q, PySem.W.hideAll_none _ (by simp)] at e; cases e
    have hid : ∀ b o, b ≠ s3.heap.objs.size → sI.heap.get? b = some o → (PySem.W.hideAll sI.heap [s3.heap.objs.size]).get? b = some o := fun b o hb e => PySem.W.hideAll_get _ e (by simpa using hb)
    have old : ∀ b o, s3.heap.get? b = some o → b ≠ s3.heap.objs.size := fun b o e => Nat.ne_of_lt (Heap.lt_size e)
    have jb := J.base
    have U : Un (frs X.stack) fp H3 H2 s3.heap (PySem.W.hideAll sI.heap [s3.heap.objs.size]) := {
      keep := fun b o e n q1 q2 => hid b o (old b o e) (jb.keep b o e n q1 q2)
      slot := fun b o e n q1 q2 => by
        obtain ⟨sl, q⟩ := jb.slot b o e n q1 q2
        exact ⟨sl, hid b _ (old b o e) q⟩
      free := jb.free
      there := fun b o e q1 => by
        obtain ⟨o', q⟩ := jb.there b o e q1
        exact ⟨o', hid b _ (old b o e) q⟩
      tups := jb.tups
      frzs := jb.frzs
      tbls := jb.tbls }
    have hokB : HOk X.prog X.w H2 (PySem.W.hideAll sI.heap [s3.heap.objs.size]) := fun b o q => (J.hok b o q).stay (fun c u hc r => hid c u (fun q2 => by
      subst q2
      rcases hc with hc | hc
      · rw [← hc, hC3.1] at q; cases q
      · rw [hC3.1] at hc; cases hc) r) (fun _ r => r) fun _ _ r => r
    have I7 : Inv X pins σ H2 { sI with heap := PySem.W.hideAll sI.heap [s3.heap.objs.size] } := I3.call' (s' := { sI with heap := PySem.W.hideAll sI.heap [s3.heap.objs.size] }) (ch := fp) J.os U hokB J.bare fun b hb => ⟨(f3 b hb).1.2.2.2.1, (f3 b hb).1.2.1, (f3 b hb).1.2.2.2.2.1, (f3 b hb).1.2.2.2.2.2⟩
    refine ⟨a, PySem.W.hideAll B [s3.heap.objs.size], _, pins, σ, H2, cls, d, rfl, I7, fun b o e hb => PySem.W.hideAll_get _ (nb b o (PySem.W.of_hideAll _ e) hb) (by simpa using nC b o e), fun b o e hn => ?_, .inr (.inr (by rw [hs]; exact hh3)), na, os, ag, w⟩
    obtain ⟨l1, e1⟩ := up b o (PySem.W.of_hideAll _ e) hn
    obtain ⟨l2, e2⟩ := up1 b _ e1 hn
    obtain ⟨l3, e3⟩ := up3 b _ ((k2 b (nC b o e)).trans e2) hn
    exact ⟨l3, e3⟩
  first
    | exact wpAny_bind (wpAny_pure (wpAny_bind fin))
    | exact wpAny_bind fin
end
section
variable {X : Cx} {W : WX}
theorem thF {α : Type} {t : Sem α} {Q Q' : α → Shared → Prop} {M : Model} {A : Around} {E : Value → Shared → Prop} {z : Shared} (h : wpAny M A t Q (fun _ _ => False) z) (k : ∀ a y, Q a y → Q' a y) : wpAny M A t Q' E z := wpAny_mono h k fun _ _ q => False.elim q
/-- [elt for target in iter if ..], elt may raise: te, what elt asks, told by the def's wish -/
theorem pe_lcX {elt tg iter : Expr} {ifs : List Expr} {scope : Scope} {own : List (Str × Nat)} {pos : Pos} {wi : TI} {g : TG} {tt : TT} {te : XK → TE} (hc : X.calm = true) (hst : X.stack = X.env :: X.outer) (hfm : X.env.frame = some X.env.locals) (tk : Takes X W) (hN : X.N.Nodup)
    (hi : PI X tg iter wi) (ok : BlkOk X.N X.env.scope scope own)
    (hg : ∀ (y : Shared) (H : Hp) (C : Addr) (cl : List (Str × Addr)) (fp : List Addr), PG (X.blk y H scope (compEnvC scope cl C X.env) fp) tg g)
    (ht : ∀ (y : Shared) (H : Hp) (C : Addr) (cl : List (Str × Addr)) (fp : List Addr), PTs (X.blk y H scope (compEnvC scope cl C X.env) fp) ifs tt)
    (he : ∀ (y : Shared) (H : Hp) (C : Addr) (cl : List (Str × Addr)) (fp : List Addr) (xe : Value → Shared → Prop) (E : XK), Passes (L2.CX X.prog X.w) ((X.blk y H scope (compEnvC scope cl C X.env) fp).wish xe) E → PE ((X.blk y H scope (compEnvC scope cl C X.env) fp).wish xe) elt (te E))
    (hfs : ∀ x, foldedSetIterable iter X.env x = pure x := by intro _; rfl) :
    PE X (.ListComp elt [⟨tg, iter, ifs, 0⟩] scope pos) (fun σ H Q => tLc wi g tt (te fun cls d H' => W cls d σ H') (own.map (·.2)) σ H Q) := by
  refine ⟨fun pins y σ H Q I h => ?_⟩
  rw [eval_ListComp]
  have hfree : ∀ n ∈ scope.names, n.2 = .free → ∃ c, X.env.cells.lookup n.1 = some c := fun n hn e => (ok.free n hn e).elim (fun k => I.ok.has _ (.inl k)) fun k => I.ok.has _ (.inr k)
  refine comp_any rfl hfs (closure_ok hfree) ok.kind (fun n hn e => by rw [ok.uniq n hn, e]) (thn (hi.run pins y σ H _ I h) fun xv y1 hx => thn hx fun itv y2 h2 => ?_)
  obtain ⟨it, fp, tn, J, H2, e, I2, T, st2, f2, q⟩ := h2
  subst e
  refine wpAny_newObj_type (newEnv_comp ?_) (by show 0 ≤ sizeLine; decide)
  generalize hD : y2.heap.objs.size = D
  have hDn : H2 D = none := I2.hok.fresh (Nat.le_of_eq hD)
  obtain ⟨Wt, ⟨m0, w0⟩, turn⟩ := q D hDn
  generalize hy3 : ({ y2 with heap := y2.heap.push { cls := .type "list", data := .seq ([] : List Value).toArray } } : Shared) = y3
  have I3 : Inv X pins σ (upd H2 D (.lst [])) y3 := by
    rw [← hy3]
    exact I2.laid (t' := y2.toks) (fun b o e => Heap.get?_push_of_some _ e) (Nat.le_of_eq hD) ⟨Nat.zero_le _, [], 0, .nil, by rw [← hD]; exact Heap.get?_push_size _ rfl⟩
  have h3 : y3.heap = y2.heap.push { cls := .type "list", data := .seq ([] : List Value).toArray } := by rw [← hy3]
  have sz : ∀ b ∈ fp, b < y2.heap.objs.size := fun b hb => (T.obj _ _ st2 b hb).elim fun o e => Heap.lt_size e.1
  have f3 : ∀ b ∈ fp, FpOk X pins (upd H2 D (.lst [])) b ∧ b < y3.heap.objs.size := fun b hb =>
    ⟨⟨by rw [upd_ne (by rw [← hD]; exact Nat.ne_of_lt (sz b hb))]; exact (f2 b hb).1, (f2 b hb).2⟩, by rw [h3, Heap.size_push]; exact Nat.lt_succ_of_lt (sz b hb)⟩
  have st3 : tn 0 y3.heap := T.keep _ _ _ st2 fun b _ o e => by rw [h3]; exact Heap.get?_push_of_some _ e
  have I4 := block_start I3 ok hN f3
  have pg := hg y3 (upd H2 D (.lst [])) y3.heap.objs.size (cellsFrom (y3.heap.objs.size + 1) scope.names (cloFrom X.env.cells scope.names [])) fp
  have pt := ht y3 (upd H2 D (.lst [])) y3.heap.objs.size (cellsFrom (y3.heap.objs.size + 1) scope.names (cloFrom X.env.cells scope.names [])) fp
  have pe := fun xe E => he y3 (upd H2 D (.lst [])) y3.heap.objs.size (cellsFrom (y3.heap.objs.size + 1) scope.names (cloFrom X.env.cells scope.names [])) fp xe E
  show codeAny _ _ (.compStart (.ListComp elt [⟨tg, iter, ifs, 0⟩] scope pos) 0 (.ref it) (.ref D) (compEnvC scope (cellsFrom (y3.heap.objs.size + 1) scope.names (cloFrom X.env.cells scope.names [])) y3.heap.objs.size X.env)) (cPost (model X.prog X.w) X.A X.xe (EP X pins σ Q) (.ref D) (compEnvC scope (cellsFrom (y3.heap.objs.size + 1) scope.names (cloFrom X.env.cells scope.names [])) y3.heap.objs.size X.env)) { y3 with heap := pushCells (y3.heap.push { cls := .type "dict", data := .dict #[] }) scope.names }
  have nfp : ∀ b ∈ fp, (upd H2 D (.lst [])) b = none := fun b hb => (f3 b hb).1.1
  generalize hce : compEnvC scope (cellsFrom (y3.heap.objs.size + 1) scope.names (cloFrom X.env.cells scope.names [])) y3.heap.objs.size X.env = ce at I4 pg pt pe ⊢
  have cL : ce.locals = y3.heap.objs.size := by subst hce; rfl
  have cF : ce.frame = X.env.frame := by subst hce; rfl
  generalize hH3 : upd H2 D (.lst []) = H3 at I3 I4 pg pt pe w0 nfp f3
  generalize hy4 : ({ y3 with heap := pushCells (y3.heap.push { cls := .type "dict", data := .dict #[] }) scope.names } : Shared) = y4 at I4 ⊢
  have ps := pe _ _ (blk_pass (scope := scope) (Qz := EP X pins σ Q) (D := D) hst hfm tk I3 cL cF f3)
  have st4 : tn 0 y4.heap := T.keep _ _ _ st3 fun b _ o e => by rw [← hy4]; exact pushCells_keeps _ _ _ _ (Heap.get?_push_of_some _ e)
  have stat : ∀ {σ' : L2.St} {H' : Hp} {z : Shared}, Inv (X.blk y3 H3 scope ce fp) [] σ' H' z → (∀ b ∈ fp, H' b = none) → ∀ b ∈ fp, FpOk (X.blk y3 H3 scope ce fp) [] H' b := fun {σ' H' z} I' hn b hb =>
    ⟨hn b hb, (I'.ok.exf b hb).1, I'.ok.exfs b hb, .inl hb, fun x c e => (I'.ok.exf b hb).2 x c e, fun p hp => absurd (show p ∈ ([] : List (Addr × Obj)) ++ [] from hp) (by simp)⟩
  have loop : codeAny (model X.prog X.w) X.A (.compLoop (.ListComp elt [⟨tg, iter, ifs, 0⟩] scope pos) 0 (.ref it) (.ref D) ce) (cPost (model X.prog X.w) X.A X.xe (EP X pins σ Q) (.ref D) ce) y4 := by
    refine compLoop_any (fun n z => ∃ i H', Inv (X.blk y3 H3 scope ce fp) [] (wipe σ (own.map (·.2))) H' z ∧ tn i z.heap ∧ (∀ b ∈ fp, H' b = none) ∧ Wt i n H') ?_ m0 ⟨0, H3, I4, st4, nfp, w0⟩
    rintro n y5 ⟨i, H5, I5, st5, n5, w5⟩
    rcases turn i n H5 w5 with ⟨stop, qq⟩ | ⟨go, Nx, hNx, step⟩
    · refine thF (T.done (X.blk y3 H3 scope ce fp) rfl rfl rfl hc i [] y5 _ H5 (fun _ _ => False) I5 (stat I5 n5) st5 stop) fun r y6 ⟨hr, I6⟩ => ?_
      subst hr
      have I7 : Inv X pins σ H5 y6 := I3.call' (ch := fp) I6.os I6.base I6.hok I6.bare fun b hb => ⟨(f3 b hb).1.2.2.2.1, (f3 b hb).1.2.1, (f3 b hb).1.2.2.2.2.1, (f3 b hb).1.2.2.2.2.2⟩
      have nC : H5 y3.heap.objs.size = none := by rw [← cL]; exact I6.free
      obtain ⟨m, hn, _⟩ := I6.loc
      have hn : y6.heap.Ns ce.locals m := hn
      obtain ⟨g0, g1, g2, g3, g4, g5⟩ := I3.fpOk (Nat.le_refl _) nC
      refine ⟨m, hn, fun hz sb => ?_⟩
      rw [cL] at sb
      exact ⟨.ref D, H5, I7.turned (t' := y6.toks) (fun b o hb e => (sb.2 b hb).trans e) g0 g1 g3 g4 g5, rfl, qq⟩
    · refine thF (T.item (X.blk y3 H3 scope ce fp) rfl rfl rfl hc i [] y5 _ H5 (fun _ _ => False) I5 (stat I5 n5) st5 go) fun r y6 ⟨u, hr, k6⟩ => ?_
      subst hr
      refine thF k6 fun _ y7 ⟨x, H7, I7, r7, yx7, st7, n7⟩ => ?_
      have I7' := I7.pinned (stat I7 n7) (T.obj _ _ st7)
      refine thF (pg.run _ y7 _ H7 x u _ I7' r7 (step x H7 yx7)) fun _ y8 ⟨σ8, H8, I8, hw8, q8⟩ => ?_
      refine thF (pt.run _ y8 σ8 H8 _ I8 q8) fun b y9 ⟨H9, I9, q9⟩ => ?_
      have fin : ∀ {z : Shared} {H' : Hp}, Inv (X.blk y3 H3 scope ce fp) ([] ++ pinsAt fp y7.heap) σ8 H' z → Nx H' → ∃ m, m < n ∧ ∃ i H', Inv (X.blk y3 H3 scope ce fp) [] (wipe σ (own.map (·.2))) H' z ∧ tn i z.heap ∧ (∀ b ∈ fp, H' b = none) ∧ Wt i m H' := fun {z H'} I' nx => by
        obtain ⟨m', hm, w'⟩ := hNx H' nx
        have pin' : ∀ b ∈ fp, ∀ o, y7.heap.get? b = some o → z.heap.get? b = some o ∧ H' b = none := fun b hb o e =>
          have q := I'.pin (b, o) (List.mem_append_right _ (List.mem_append_right _ (mem_pinsAt hb e)))
          ⟨q.1, q.2.1⟩
        have hl : (wipe σ (own.map (·.2))).length = σ8.length := by rw [← hw8, wipe_length]
        refine ⟨m', hm, i + 1, H', (I'.unpinned (pins := [])).weak hl (fun j v e => (wipe_some (by rw [← hw8] at e; exact e)).1), T.keep _ _ _ st7 fun b hb o e => (pin' b hb o e).1, fun b hb => ?_, w'⟩
        obtain ⟨o, e, _⟩ := T.obj _ _ st7 b hb
        exact (pin' b hb o e).2
      cases b with
      | false =>
        simp only [Bool.false_eq_true, if_false] at q9 ⊢
        exact fin I9 q9
      | true =>
        simp only [if_true] at q9 ⊢
        refine wpAny_mono (ps.run _ y9 σ8 H9 _ (I9.wish _) q9) (fun v y10 ⟨yv, H10, I10, r10, acc, hD10, hz10, nx⟩ => ?_) fun _ _ q => q
        exact app_ok (X := X.blk y3 H3 scope ce fp) I10.unwish hD10 hz10 r10 fun y11 I11 => fin I11 nx
  exact codeAny_compStart_list loop (T.self X.A 0 _ _ _ st4 loop)
end
end Br

/-! The program's exception classes: made by their own __init__ that calls the base's, raised, told by the ledger. -/
namespace Br
open PySem PySem.Spec PyProof.Rows L2
/-- the base class at CR: RotaError.__init__ is ValueError's -/
structure BaseX (K : PySem.W.Frag) (mg : Str → Option Value) (CR : Addr) : Prop where
  g : mg "RotaError" = some (.ref CR)
  rd : PySem.W.readsIn K CR (.type "type") = true
  ga : PySem.W.specialIn K (.ref CR) "__getattribute__" = some (some (.builtin "type.__getattribute__"))
  at_ : PySem.W.findCls K (.ref CR) (.type "type") "__init__" = some (.val (.builtin "ValueError.__init__"))
section
variable {X : Cx} {e : Expr} {es : List Expr} {ta : TA} {p1 p2 pos : Pos} {CR : Addr}
theorem pe_rinit {pl : Sem Bool} (B : BaseX X.K X.mg CR) (hg : Gl X "RotaError") (ha : PA X (e :: es) ta)
    (he : starEach (e :: es) X.env = (false, eval e X.env) :: starEach es X.env := by rfl) (hpl : (backTo pos (starEach es X.env)).any (·.1) = false := by rfl)
    (hc : eval (.Call (.Attribute (.Name "RotaError" p1) "__init__" p2) (e :: es) [] pos) X.env = (do
      let ov ← eval (.Name "RotaError" p1) X.env
      standAt p2.atName
      let (f, first) ← holding [ov] (getMethod ov "__init__" pl)
      callWith pos f first (backTo pos (starEach (e :: es) X.env)) (backToKw pos (keywordEach [] X.env))) := by rfl) :
    PE X (.Call (.Attribute (.Name "RotaError" p1) "__init__" p2) (e :: es) [] pos) (tVeI X.K ta) := by
  refine ⟨fun pins y σ H Q I h => ?_⟩
  refine PySem.W.methodCall_KW (ld_glob I hg B.g ?_ (by decide)) hc
  refine PySem.W.method_cls I.kIn B.ga (PySem.W.cls_value I.kIn B.rd B.at_ (by decide +kernel) ?_)
  refine PyProof.Rows.callWith_method1 (thn (ha.run pos pins _ σ H _ (I.tok _) h) fun us y1 ⟨vs, H1, I1, r1, a, C, ws, ev, hl, T, ea, q⟩ => ?_) he hpl
  subst ev
  cases r1 with
  | @cons _ u0 _ ur ra rw2 =>
    obtain rfl : u0 = Value.ref a := ra
    exact oinit_ok T I1 ea (by rw [← Paired.length rw2, sizeLine_eq]; omega) fun z J => ⟨.non, H1, J, rfl, q⟩
end
/-- an error as it lies behind a call: of the class at C, its dict d holds fs; nothing old is changed -/
def spEx (C : Addr) (fs : List Str) : Sp := fun vs H Q _ => ∃ (a : Addr) (ws : List V), vs = .ref a :: ws ∧ ws.length = fs.length ∧ H a = some (exo a C none) ∧
  ∀ (dx : Addr) (H' : Hp), H dx = none → dx ≠ a → (∀ b, b ≠ dx → b ≠ a → H' b = H b) → H' a = some (exo a C (some dx)) → H' dx = some (exd dx (fs.zip ws).reverse) → Q .non H'
/-- an own exception class with an __init__, ready to be raised -/
structure ExAt (P : Program) (w : World) (K : PySem.W.Frag) (mg : Str → Option Value) (base : Heap) (x : Str) (C : Addr) (fs : List Str) : Prop where
  T : OexC K C
  gC : mg x = some (.ref C)
  ex : ∃ (fI : Addr) (fd : FuncData) (ps : List Str), PySem.W.findIn K (.ref C) "__init__" = some (some (.ref fI)) ∧ PySem.W.typeIn K (.ref fI) = some (.type "function") ∧ FnOk P w K mg base CX0 1 fI fd ps (spEx C fs) ∧ Binds K fd ps []
theorem del_wd {H H2 : Hp} {a d : Addr} {C : Addr} {fs : List (Str × V)} (ha : H a = none) (hd : H d = none) (ne : d ≠ a) (k : ∀ b, b ≠ d → b ≠ a → H2 b = upd H a (exo a C none) b) : Wd [] H (upd (del H2 a) d (.xd fs)) [(d, .xd fs)] where
  base := fun b o _ e => by
    have h1 := ne_of_none e hd
    have h2 := ne_of_none e ha
    rw [upd_ne h1, del_ne h2, k b h1 h2, upd_ne h2]; exact e
  tups := fun b xs e => by
    have h1 := ne_of_none e hd
    have h2 := ne_of_none e ha
    rw [upd_ne h1, del_ne h2, k b h1 h2, upd_ne h2]; exact e
  own := fun q hq => by rw [List.mem_singleton.mp hq]; exact .inl hd
  at_ := fun q hq => by rw [List.mem_singleton.mp hq]; exact upd_same
  nd := by simp
  free := fun b e => by
    by_cases h1 : b = d
    · rw [h1]; exact hd
    by_cases h2 : b = a
    · rw [h2]; exact ha
    rw [upd_ne h1, del_ne h2, k b h1 h2, upd_ne h2] at e; exact e
section
variable {X : Cx} {e : Expr} {es : List Expr} {ta : TA} {p pos : Pos} {C : Addr} {x : Str} {fs : List Str}
def tUp (t : TA) : TA := fun σ H Q => ∃ R : List V → Hp → Prop, t σ H R ∧ ∀ vs H1, R vs H1 → Q vs H1
theorem pa_up (h : PA X es ta) : PA X es (tUp ta) := ⟨fun pos pins y σ H Q I ⟨R, h1, h2⟩ => thn (h.run pos pins y σ H R I h1) fun us z ⟨vs, H1, I1, r1, q⟩ => ⟨vs, H1, I1, r1, h2 _ _ q⟩⟩
def tMkE (C : Addr) (fs : List Str) (ta : TA) : L2.St → Hp → XK → Prop := fun σ H Q => ta σ H fun ws H1 => ws.length = fs.length ∧ ∀ d H', Wd [] H1 H' [(d, .xd (fs.zip ws).reverse)] → Q (.ref C) (some d) H'
theorem pmk_ex (D : ExAt X.prog X.w X.K X.mg X.base x C fs) (hr : Room 2 X.A) (hg : Gl X x) (ha : PA X (e :: es) ta) (hz : fs.length ≤ 1000) (hdb : (x == ("__debug__" : Str)) = false := by decide)
    (he : starEach (e :: es) X.env = (false, eval e X.env) :: starEach es X.env := by rfl) (hpl : (backTo pos (starEach es X.env)).any (·.1) = false := by rfl) :
    PMk X (.Call (.Name x p) (e :: es) [] pos) (tMkE C fs ta) := by
  obtain ⟨fI, fd, ps, iC, tI, F1, b⟩ := D.ex
  have h := pmk_oex (X := X) (dvs := []) (p := p) (pos := pos) D.T iC tI F1 hr b .nil (fun _ _ _ _ _ _ _ z => False.elim z) hg D.gC (pa_up ha) hdb he hpl
  intro pins y σ H Q I q
  refine h pins y σ H Q I ⟨_, q, fun ws H1 ⟨hl, k⟩ => ⟨by omega, fun a ha0 => ⟨a, ws, by rw [List.append_nil], hl, upd_same, fun dx H' hd ne hk h1 h2 => ⟨rfl, dx, _, h1, h2, ?_, ?_⟩⟩⟩⟩
  · rw [upd_ne ne] at hd; exact hd
  · exact k dx _ (del_wd ha0 (by rw [upd_ne ne] at hd; exact hd) ne hk)
end
/-- the class as the top left it: its __init__ is st, in order self and the fields -/
structure ExTxt (K : PySem.W.Frag) (mg : Str → Option Value) (x q : Str) (C : Addr) (st : Stmt) (ps fs : List Str) : Prop where
  T : OexC K C
  gC : mg x = some (.ref C)
  no : ∀ f ∈ fs, PySem.W.findIn K (.ref C) f = some none
  ex : ∃ (fI : Addr) (fd : FuncData), PySem.W.findIn K (.ref C) "__init__" = some (some (.ref fI)) ∧ PySem.W.typeIn K (.ref fI) = some (.type "function") ∧ Fun K "__init__" q st fI fd ∧ Binds K fd ps []
theorem ExTxt.at_ {P : Program} {w : World} {K : PySem.W.Frag} {mg : Str → Option Value} {base : Heap} {x q : Str} {C : Addr} {st : Stmt} {ps fs : List Str} (D : ExTxt K mg x q C st ps fs)
    (h : ∀ fI fd, Fun K "__init__" q st fI fd → FnOk P w K mg base CX0 1 fI fd ps (spEx C fs)) : ExAt P w K mg base x C fs := by
  obtain ⟨fI, fd, h1, h2, F, b⟩ := D.ex
  exact ⟨D.T, D.gC, fI, fd, ps, h1, h2, h fI fd F, b⟩
end Br


namespace Br
open PySem PySem.Spec PyProof.Rows L2
section
variable {P : Program} {w : World} {K : PySem.W.Frag} {mg : Str → Option Value} {base : Heap} {C CR : Addr}
abbrev sInvalidCode___init__ : Stmt := inClass (topS 10) 0
theorem scInvalidCode___init__ : FnScope ["self", "place"] ["self", "place"] (defScope sInvalidCode___init__) := ⟨rfl, rfl, rfl, by decide +kernel, rfl, by decide +kernel, by decide +kernel⟩
theorem ex_InvalidCode (D : ExTxt K mg "InvalidCode" "InvalidCode.__init__" C sInvalidCode___init__ ["self", "place"] ["place"]) (BX : BaseX K mg CR) : ExAt P w K mg base "InvalidCode" C ["place"] := D.at_ fun fI fd F => by
  have nd := scInvalidCode___init__.nd
  have T := D.T
  have no := D.no
  refine F.ok scInvalidCode___init__ (fun vs H Q E h => ?_) (fun cdv A outer s H vs Q E hr h => ?_)
  · obtain ⟨a, ws, rfl, hl, _⟩ := h
    obtain ⟨v, rfl⟩ := List.length_eq_one_iff.mp hl; rfl
  obtain ⟨a, ws, rfl, hl, ha, k⟩ := h
  obtain ⟨v, rfl⟩ := List.length_eq_one_iff.mp hl
  refine ⟨_, (pss_cons (ps_expr (pe_rinit BX (by rfl) (pa_cons (pv 0) (pa_cons (pv 1) pa_nil))))
 (pss_one (ps_ost (pv 0) (pv 1)))), ?_⟩
  refine ⟨_, rfl, _, rfl, a, C, _, rfl, (by show 1 ≤ 1000; decide), T, ha, ?_⟩
  refine ⟨_, rfl, _, rfl, a, C, rfl, T, no _ (by simp), .inl ⟨ha, fun dx hd ne => ?_⟩⟩
  exact k dx _ hd ne (fun b h1 h2 => by rw [upd_ne h2, upd_ne h1]) upd_same (by rw [upd_ne ne, upd_same]; rfl)
end
end Br

namespace Br
open PySem PySem.Spec PyProof.Rows L2
/-! ### the reader: what it computes -/
/-- from the list and the bytes read so far: a value and the bytes read then, or the place of an error -/
def Rd (α : Type) := List V → List Int → Except Nat (α × List Int)
def Rd.bind {α β : Type} (f : Rd α) (g : α → Rd β) : Rd β := fun code ns => match f code ns with
  | .ok (a, ns') => g a code ns'
  | .error n => .error n
def Rd.ret {α : Type} (a : α) : Rd α := fun _ ns => .ok (a, ns)
def rByte (lo hi : Int) : Rd Int := fun code ns => match code[ns.length]? with
  | some v => if intIn lo hi v = true then (match v with
    | .int i => .ok (i, ns ++ [i])
    | _ => .error ns.length) else .error ns.length
  | none => .error ns.length
def rMany (lo hi : Int) : Nat → List Int → Rd (List Int)
  | 0, acc => Rd.ret acc
  | k + 1, acc => (rByte lo hi).bind fun b => rMany lo hi k (acc ++ [b])
def wordOf (l : List Int) : Str := ⟨(l.map fun i => i.toNat + 97).toArray⟩
def rNameE (s : Nat) (names : List Str) (z : Str) : Rd Str := fun _ ns => if z ∈ kws ∨ z ∈ names then .error s else .ok (z, ns)
def rName (names : List Str) : Rd Str := fun code ns => ((rByte 1 8).bind fun k => (rMany 0 25 k.toNat []).bind fun l => rNameE ns.length names (wordOf l)) code ns
def rTurnsE (s n : Nat) (l : List Int) : Rd (List Int) := fun _ ns => if ∀ k : Nat, k < n → (k : Int) ∈ l then .ok (l, ns) else .error s
def rTurns (n : Nat) : Rd (List Int) := fun code ns => ((rByte n 12).bind fun k => (rMany 0 (n - 1) k.toNat []).bind fun l => rTurnsE ns.length n l) code ns
def mods : List Int := [2, 3, 4, 6, 8, 12]
instance (s t : Int × Int × Int) : Decidable (lexLt s t) := by unfold lexLt; infer_instance
def rAwayE (s : Nat) (found : List (Int × Int × Int)) (t : Int × Int × Int) : Rd (Int × Int × Int) := fun _ ns =>
  if t.2.2 ∉ mods then .error (ns.length - 1) else match found.getLast? with
    | some u => if lexLt u t then .ok (t, ns) else .error s
    | none => .ok (t, ns)
def rAway (n : Nat) (found : List (Int × Int × Int)) : Rd (Int × Int × Int) := fun code ns =>
  ((rByte 0 (n - 1)).bind fun p => (rByte 0 11).bind fun r => (rByte (r + 1) 12).bind fun m => rAwayE ns.length found (p, r, m)) code ns
def rAwayS (n : Nat) : Nat → List (Int × Int × Int) → Rd (List (Int × Int × Int))
  | 0, found => Rd.ret found
  | k + 1, found => (rAway n found).bind fun t => rAwayS n k (found ++ [t])
def rAways (n : Nat) : Rd (List (Int × Int × Int)) := (rByte 0 20).bind fun k => rAwayS n k.toNat []
def nextLo (acc : List Int) : Int := match acc.getLast? with
  | some u => u + 1
  | none => 0
theorem nextLo_nil : nextLo [] = 0 := rfl
theorem nextLo_snoc (l : List Int) (u : Int) : nextLo (l ++ [u]) = u + 1 := by unfold nextLo; rw [List.getLast?_concat]
def rMakerS (n : Nat) (total : Int) : Nat → List Int → Rd (List Int)
  | 0, found => Rd.ret found
  | k + 1, found => (rByte (nextLo found) (n - total + found.length)).bind fun b => rMakerS n total k (found ++ [b])
def rMakers (n : Nat) : Rd (List Int) := (rByte 0 n).bind fun total => rMakerS n total total.toNat []
def rPeople : Nat → List Str → List Int → Rd (List Str × List Int)
  | 0, nm, ws => Rd.ret (nm, ws)
  | k + 1, nm, ws => (rName nm).bind fun z => (rByte 1 9).bind fun b => rPeople k (nm ++ [z]) (ws ++ [b])
def rEnd (r : Rota) : Rd Rota := fun code ns => ((rByte (ns.sum.fmod 256) (ns.sum.fmod 256)).bind fun _ code ns => if ns.length < code.length then .error ns.length else .ok (r, ns)) code ns
def rAll : Rd Rota := (rByte 66 66).bind fun _ => (rByte 1 6).bind fun k => (rPeople k.toNat [] []).bind fun p => (rTurns p.1.length).bind fun ts => (rAways p.1.length).bind fun as => (rMakers p.1.length).bind fun ms => rEnd ⟨p.1, ts, p.2, as, ms⟩
theorem Rd.bind_ok {α β : Type} {f : Rd α} {g : α → Rd β} {code : List V} {ns ns' : List Int} {a : α} (h : f code ns = .ok (a, ns')) : f.bind g code ns = g a code ns' := by unfold Rd.bind; rw [h]
theorem Rd.bind_er {α β : Type} {f : Rd α} {g : α → Rd β} {code : List V} {ns : List Int} {n : Nat} (h : f code ns = .error n) : f.bind g code ns = .error n := by unfold Rd.bind; rw [h]
theorem rByte_ok {lo hi i : Int} {code : List V} {ns : List Int} (h : code[ns.length]? = some (.int i)) (h1 : lo ≤ i) (h2 : i ≤ hi) : rByte lo hi code ns = .ok (i, ns ++ [i]) := by
  unfold rByte; rw [h]
  simp only [intIn_int, decide_eq_true h1, decide_eq_true h2, Bool.and_self, if_true]
theorem rByte_none {lo hi : Int} {code : List V} {ns : List Int} (h : code[ns.length]? = none) : rByte lo hi code ns = .error ns.length := by
  unfold rByte; rw [h]
theorem rByte_bad {lo hi : Int} {code : List V} {ns : List Int} {v : V} (h : code[ns.length]? = some v) (h1 : intIn lo hi v = false) : rByte lo hi code ns = .error ns.length := by
  unfold rByte; rw [h]
  simp only [h1, Bool.false_eq_true, if_false]
theorem intIn_is {lo hi : Int} {v : V} (h : intIn lo hi v = true) : ∃ i, v = .int i ∧ lo ≤ i ∧ i ≤ hi := by
  cases v with
  | int i =>
    rw [intIn_int, Bool.and_eq_true] at h
    exact ⟨i, rfl, of_decide_eq_true h.1, of_decide_eq_true h.2⟩
  | _ => simp [intIn] at h
/-! ### the reader at x -/
def rdF (pc : Addr) (n : Int) : List (Str × V) := [("code", .ref pc), ("place", .int n)]
theorem rd_code {pc : Addr} {n : Int} : (rdF pc n).lookup ("code" : Str) = some (.ref pc) := look_eq
theorem rd_place {pc : Addr} {n : Int} : (rdF pc n).lookup ("place" : Str) = some (.int n) := (look_ne (by decide +kernel)).trans look_eq
theorem rd_none {pc : Addr} {n : Int} {m : Str} (h : ∀ f ∈ (["code", "place"] : List Str), (m == f) = false) : (rdF pc n).lookup m = none := by
  unfold rdF; rw [look_ne (h _ (by simp)), look_ne (h _ (by simp))]; rfl
theorem rd_put {pc : Addr} {n : Int} (n' : Int) : putF "place" (.int n') (rdF pc n) = rdF pc n' := by
  unfold rdF; rw [putF_ne (by decide +kernel)]; rfl
structure RAt (CR x dx pc : Addr) (code : List V) (ns : List Int) (H : Hp) : Prop where
  ob : H x = some (.ins CR dx (rdF pc ns.length))
  cd : H pc = some (.lst code)
  kn : ∀ v ∈ code, ∃ t, Ky H v t
  pre : code.take ns.length = ns.map V.int
theorem Ky.keep {H H' : Hp} {M : List Addr} {l : List (Addr × HO)} {v : V} {t : String} (w : Wd M H H' l) (hM : ∀ a ∈ M, ∃ C dx fs, H a = some (.ins C dx fs)) (h : Ky H v t) : Ky H' v t := by
  cases h with
  | non => exact .non
  | bl b => exact .bl b
  | int i => exact .int i
  | str z => exact .str z
  | lst h => exact .lst (w.base _ _ (fun hm => by obtain ⟨C, dx, fs, e⟩ := hM _ hm; rw [h] at e; cases e) h)
  | tup h => exact .tup (w.tups _ _ h)
theorem RAt.keep {CR x dx pc : Addr} {code : List V} {ns : List Int} {H H' : Hp} {l : List (Addr × HO)} (r : RAt CR x dx pc code ns H) (w : Wd [] H H' l) : RAt CR x dx pc code ns H' :=
  ⟨w.base _ _ (by simp) r.ob, w.base _ _ (by simp) r.cd, fun v hv => (r.kn v hv).imp fun t h => h.keep w (by simp), r.pre⟩
theorem RAt.put {CR x dx pc : Addr} {code : List V} {ns : List Int} {H : Hp} (r : RAt CR x dx pc code ns H) {i : Int} (h : code[ns.length]? = some (.int i)) :
    Wd [x] H (upd H x (.ins CR dx (rdF pc ((ns ++ [i]).length : Nat)))) [] ∧ RAt CR x dx pc code (ns ++ [i]) (upd H x (.ins CR dx (rdF pc ((ns ++ [i]).length : Nat)))) := by
  have w := ((Wd.start1 r.ob).put 0 (.ins CR dx (rdF pc ((ns ++ [i]).length : Nat))) rfl (fun _ q => by cases q)).sub (List.nil_sublist _)
  have hM : ∀ a ∈ [x], ∃ C dx fs, H a = some (.ins C dx fs) := fun a ha => by rw [List.mem_singleton.mp ha]; exact ⟨_, _, _, r.ob⟩
  refine ⟨w, upd_same, ?_, fun v hv => (r.kn v hv).imp fun t h => h.keep w hM, ?_⟩
  · rw [upd_ne (ne_of r.cd r.ob (by intro z; cases z))]; exact r.cd
  · rw [List.length_append, List.length_singleton, take_more h, r.pre, List.map_append]; rfl
/-- an error's way out: of the class at C, its dict holds fs -/
def Er (M : List Addr) (C : Addr) (fs : List (Str × V)) (H : Hp) (E : XK) : Prop := ∀ d H', Wd M H H' [] → H' d = some (.xd fs) → E (.ref C) (some d) H'
theorem Er.go {M : List Addr} {C : Addr} {fs : List (Str × V)} {H H1 : Hp} {E : XK} {l : List (Addr × HO)} (h : Er M C fs H E) (w : Wd M H H1 l) : Er M C fs H1 E := fun d H' c e => h d H' ((w.sub (List.nil_sublist _)).fgo c) e
theorem Er.of {M : List Addr} {C : Addr} {fs : List (Str × V)} {H : Hp} {E : XK} (h : Er M C fs H E) (d : Addr) (H' : Hp) (w : Wd [] H H' [(d, .xd fs)]) : E (.ref C) (some d) H' :=
  h d H' ((w.sub (List.nil_sublist _)).mono fun _ q => nomatch q) (w.get 0 rfl)
theorem Er.less {M M' : List Addr} {C : Addr} {fs : List (Str × V)} {H : Hp} {E : XK} (h : Er M C fs H E) (q : ∀ a ∈ M', a ∈ M) : Er M' C fs H E := fun d H' c e => h d H' (c.mono q) e
def plX (n : Nat) : List (Str × V) := [("place", .int n)]
end Br

/-! Contracts of defs and methods that may raise. -/
namespace Br
open PySem PySem.Spec PyProof.Rows L2
structure CalX (P : Program) (w : World) (K : PySem.W.Frag) (mg : Str → Option Value) (base : Heap) (k : Nat) (x : Str) (ps : List Str) (sp : Sp) : Prop where
  ex : ∃ (f : Addr) (fd : FuncData), mg x = some (.ref f) ∧ PySem.W.keepIn K (.ref f) = true ∧ Binds K fd ps [] ∧ FnOk P w K mg base (L2.CX P w) k f fd ps sp
structure MeX (P : Program) (w : World) (K : PySem.W.Frag) (mg : Str → Option Value) (base : Heap) (k : Nat) (C : Addr) (m : Str) (ps : List Str) (sp : Sp) : Prop where
  ex : ∃ (f : Addr) (fd : FuncData), Meth K C m f ∧ Binds K fd ps [] ∧ FnOk P w K mg base (L2.CX P w) k f fd ps sp
section
variable {P : Program} {w : World} {K : PySem.W.Frag} {mg : Str → Option Value} {base : Heap} {k : Nat} {x m q : Str} {C : Addr} {st : Stmt} {ps : List Str} {sp : Sp}
theorem DefAt.calX (D : DefAt K mg x st ps) (h : ∀ f fd, Fun K x x st f fd → FnOk P w K mg base (L2.CX P w) k f fd ps sp) : CalX P w K mg base k x ps sp := by
  obtain ⟨f, fd, m, F, b⟩ := D.ex
  exact ⟨f, fd, m, F.kp, b, h f fd F⟩
theorem MethAt.meX (D : MethAt K C m q st ps) (h : ∀ f fd, Fun K m q st f fd → FnOk P w K mg base (L2.CX P w) k f fd ps sp) : MeX P w K mg base k C m ps sp := by
  obtain ⟨f, fd, M, F, b⟩ := D.ex
  exact ⟨f, fd, M, b, h f fd F⟩
end
end Br

namespace Br
open PySem PySem.Spec PyProof.Rows L2
/-! ### the reader's methods -/
structure RdrCls (K : PySem.W.Frag) (CR : Addr) : Prop where
  cl : Cls K CR
  nc : NoAttr K CR "code"
  np : NoAttr K CR "place"
section
variable {P : Program} {w : World} {K : PySem.W.Frag} {mg : Str → Option Value} {base : Heap} {CR CE : Addr}
abbrev sReader___init__ : Stmt := inClass (topS 49) 0
theorem scReader___init__ : FnScope ["self", "code"] ["self", "code"] (defScope sReader___init__) := ⟨rfl, rfl, rfl, by decide +kernel, rfl, by decide +kernel, by decide +kernel⟩
def spRdI (CR : Addr) : Sp := fun vs H Q _ => ∃ (x dx pc : Addr), vs = [.ref x, .ref pc] ∧ H x = some (.ins CR dx []) ∧
  ∀ H' : Hp, Wd [x] H H' [(x, .ins CR dx (rdF pc 0))] → Q .non H'
theorem mk_reader (D : InitAt K mg "Reader" "Reader.__init__" CR sReader___init__ ["self", "code"]) (RC : RdrCls K CR) : MkAt P w K mg base 1 "Reader" CR ["self", "code"] (spRdI CR) := D.mk' fun f fd F => by
  have nd := scReader___init__.nd
  refine F.ok scReader___init__ (fun vs H Q E h => ?_) (fun cdv A outer s H vs Q E hr h => ?_)
  · obtain ⟨x, dx, pc, rfl, _⟩ := h; rfl
  obtain ⟨x, dx, pc, rfl, hx, q⟩ := h
  refine ⟨_, (pss_cons (ps_fld (pv 0) (pv 1) rfl)
 (pss_one (ps_fld (pv 0) pe_int rfl))), ?_⟩
  refine ⟨_, rfl, _, rfl, x, CR, dx, [], rfl, hx, RC.cl, RC.nc, (by show 0 < 1000; decide), ?_⟩
  refine ⟨_, rfl, x, CR, dx, _, rfl, upd_same, RC.cl, RC.np, (by show 1 < 1000; decide), ?_⟩
  have e1 : putF "place" (.int 0) (putF "code" (.ref pc) []) = rdF pc 0 := by
    show putF "place" (.int 0) [(("code" : Str), V.ref pc)] = _
    rw [putF_ne (by decide +kernel)]; rfl
  rw [e1, upd_upd]
  exact q _ ((Wd.start1 hx).put 0 _ rfl (fun _ q => by cases q))
abbrev sReader_fail : Stmt := inClass (topS 49) 1
theorem scReader_fail : FnScope ["self", "place"] ["self", "place"] (defScope sReader_fail) := ⟨rfl, rfl, rfl, by decide +kernel, rfl, by decide +kernel, by decide +kernel⟩
def spRdF (CE : Addr) : Sp := fun vs H _ E => ∃ (x : Addr) (n : Nat), vs = [.ref x, .int n] ∧ Er [] CE (plX n) H E
theorem me_rfail (D : MethAt K CR "fail" "Reader.fail" sReader_fail ["self", "place"]) (EX_InvalidCode : ExAt P w K mg base "InvalidCode" CE ["place"]) : MeX P w K mg base 3 CR "fail" ["self", "place"] (spRdF CE) := D.meX fun f fd F => by
  have nd := scReader_fail.nd
  refine F.okX scReader_fail (fun vs H Q E h => ?_) (fun cdv A outer s H vs Q E hr h => ?_)
  · obtain ⟨x, n, rfl, _⟩ := h; rfl
  obtain ⟨x, n, rfl, e⟩ := h
  refine ⟨_, (pss_one (ps_raise rfl (takes_of rfl rfl rfl rfl) (pmk_ex EX_InvalidCode (hr.mono (by first | decide | omega)) (by rfl) (pa_cons (pv 1) pa_nil) (by decide)))), ?_⟩
  exact ⟨_, rfl, rfl, fun d H' c => e.of d H' c⟩
end
end Br

namespace Br
open PySem PySem.Spec PyProof.Rows L2
section
variable {P : Program} {w : World} {K : PySem.W.Frag} {mg : Str → Option Value} {base : Heap} {CR CE : Addr}
/-- what a reading method answers -/
def RdA {α : Type} (CR CE x dx pc : Addr) (code : List V) (H : Hp) (E : XK) (r : Except Nat (α × List Int)) (k : α → Hp → Prop) : Prop := match r with
  | .ok (a, ns) => ∀ H', Wd [x] H H' [] → RAt CR x dx pc code ns H' → k a H'
  | .error n => Er [x] CE (plX n) H E
theorem RdA.mk {α : Type} {CR CE x dx pc : Addr} {code : List V} {H : Hp} {E : XK} {r : Except Nat (α × List Int)} {k : α → Hp → Prop} (h1 : ∀ a ns, r = .ok (a, ns) → ∀ H', Wd [x] H H' [] → RAt CR x dx pc code ns H' → k a H') (h2 : ∀ n, r = .error n → Er [x] CE (plX n) H E) : RdA CR CE x dx pc code H E r k := by
  cases r with
  | ok p => exact h1 p.1 p.2 rfl
  | error n => exact h2 n rfl
theorem RdA.ok {α : Type} {CR CE x dx pc : Addr} {code : List V} {H : Hp} {E : XK} {r : Except Nat (α × List Int)} {k : α → Hp → Prop} {a : α} {ns : List Int} (h : RdA CR CE x dx pc code H E r k) (e : r = .ok (a, ns)) : ∀ H', Wd [x] H H' [] → RAt CR x dx pc code ns H' → k a H' := by
  subst e; exact h
theorem RdA.er {α : Type} {CR CE x dx pc : Addr} {code : List V} {H : Hp} {E : XK} {r : Except Nat (α × List Int)} {k : α → Hp → Prop} {n : Nat} (h : RdA CR CE x dx pc code H E r k) (e : r = .error n) : Er [x] CE (plX n) H E := by
  subst e; exact h
abbrev sReader_read_byte : Stmt := inClass (topS 49) 2
theorem scReader_read_byte : FnScope ["self", "low", "high"] ["self", "low", "high"] (defScope sReader_read_byte) := ⟨rfl, rfl, rfl, by decide +kernel, rfl, by decide +kernel, by decide +kernel⟩
def spRdB (CR CE : Addr) : Sp := fun vs H Q E => ∃ (x dx pc : Addr) (code : List V) (ns : List Int) (lo hi : Int), vs = [.ref x, .int lo, .int hi] ∧ RAt CR x dx pc code ns H ∧
  RdA CR CE x dx pc code H E (rByte lo hi code ns) fun i H' => Q (.int i) H'
theorem me_rbyte (D : MethAt K CR "read_byte" "Reader.read_byte" sReader_read_byte ["self", "low", "high"]) (T : Bi mg) (RC : RdrCls K CR) (EX_InvalidCode : ExAt P w K mg base "InvalidCode" CE ["place"]) (C1 : Cal P w K mg base 1 "is_int_in" ["value", "low", "high"] spIntIn) :
    MeX P w K mg base 3 CR "read_byte" ["self", "low", "high"] (spRdB CR CE) := D.meX fun f fd F => by
  have nd := scReader_read_byte.nd
  obtain ⟨f1, fd1, m_is_int_in, kp_is_int_in, b_is_int_in, G_is_int_in⟩ := C1.ex
  refine F.okX scReader_read_byte (fun vs H Q E h => ?_) (fun cdv A outer s H vs Q E hr h => ?_)
  · obtain ⟨x, dx, pc, code, ns, lo, hi, rfl, _⟩ := h; rfl
  obtain ⟨x, dx, pc, code, ns, lo, hi, rfl, ra, q⟩ := h
  refine ⟨_, (pss_cons (ps_if (PW.pt (pw_or (pt_cmpR op_eq (pe_fldK (K := K) rfl (pv 0) rfl) (pe_callB (r := rLenS K) call_len_seq (by rfl) T.len PySem.boot_len (pa_cons (pe_fldK (K := K) rfl (pv 0) rfl) pa_nil)) (nomark _)) (pw_or1 (pt_not (pt_val (pe_call G_is_int_in (hr.mono (by first | decide | omega)) (by rfl) m_is_int_in kp_is_int_in b_is_int_in .nil pass0 (pa_cons (pe_ix (r := rIxL K) ix_list (pe_fldK (K := K) rfl (pv 0) rfl) (pe_fldK (K := K) rfl (pv 0) rfl) (fun _ _ => rfl)) (pa_cons (pv 1) (pa_cons (pv 2) pa_nil)))))))))
 (pss_one (ps_raise rfl (takes_of rfl rfl rfl rfl) (pmk_ex EX_InvalidCode (hr.mono (by first | decide | omega)) (by rfl) (pa_cons (pe_fldK (K := K) rfl (pv 0) rfl) pa_nil) (by decide))))
 pss_nil)
 (pss_cons (ps_fldaug (pv 0) pe_int in_add)
 (pss_one (ps_ret (pe_ix (r := rIxL K) ix_list (pe_fldK (K := K) rfl (pv 0) rfl) (pe_op op_sub (pe_fldK (K := K) rfl (pv 0) rfl) pe_int) (fun _ _ => rfl)))))), ?_⟩
  have bad : rByte lo hi code ns = .error ns.length → Er [] CE (plX ns.length) H E := fun e => (q.er e).less fun _ h => nomatch h
  refine ⟨_, rfl, x, CR, dx, _, _, rfl, ra.ob, RC.cl, RC.np, rd_place, _, rfl, x, CR, dx, _, _, rfl, ra.ob, RC.cl, RC.nc, rd_code, pc, _, rfl, .inl (SqL.of ra.cd), rfl, _, rfl, ite2 (fun h1 => ?_) (fun h1 => ?_)⟩
  · have e : ns.length = code.length := by
      have := of_decide_eq_true h1
      injection this with this; omega
    refine iteT ?_
    exact ⟨_, rfl, x, CR, dx, _, _, rfl, ra.ob, RC.cl, RC.np, rd_place, rfl, fun d H' c => (bad (rByte_none (List.getElem?_eq_none (by omega)))).of d H' c⟩
  · have e : ns.length < code.length := by
      have h2 := congrArg List.length ra.pre
      rw [List.length_take, List.length_map] at h2
      have h3 : ns.length ≠ code.length := fun z => h1 (by rw [z]; simp)
      omega
    have hv := List.getElem?_eq_getElem e
    generalize code[ns.length] = v at hv
    obtain ⟨t, kt⟩ := ra.kn v (List.mem_of_getElem? hv)
    refine ⟨_, rfl, x, CR, dx, _, _, rfl, ra.ob, RC.cl, RC.nc, rd_code, _, rfl, x, CR, dx, _, _, rfl, ra.ob, RC.cl, RC.np, rd_place, pc, code, _, v, rfl, rfl, SqL.of ra.cd, atI_nat hv, _, rfl, _, rfl, v, t, lo, hi, rfl, kt, _, rfl, ?_⟩
    cases hin : intIn lo hi v with
    | false =>
      refine iteT ?_
      exact ⟨_, rfl, x, CR, dx, _, _, rfl, ra.ob, RC.cl, RC.np, rd_place, rfl, fun d H' c => (bad (rByte_bad hv hin)).of d H' c⟩
    | true =>
      refine iteF ?_
      obtain ⟨i, rfl, i1, i2⟩ := intIn_is hin
      refine ⟨_, rfl, x, CR, dx, _, _, rfl, ra.ob, RC.cl, RC.np, rd_place, _, _, rfl, rfl, _, _, ra.ob, (by show 2 < 1000; decide), ?_⟩
      rw [rd_put]
      obtain ⟨c1, ra2⟩ := ra.put hv
      have e2 : ((ns.length : Int) + 1) = ((ns ++ [i]).length : Nat) := by simp
      rw [e2]
      refine ⟨_, rfl, x, CR, dx, _, _, rfl, ra2.ob, RC.cl, RC.nc, rd_code, _, rfl, x, CR, dx, _, _, rfl, ra2.ob, RC.cl, RC.np, rd_place, _, _, rfl, rfl, pc, code, _, _, rfl, rfl, SqL.of ra2.cd, at_iN (j := ns.length) (by simp) hv, ?_⟩
      exact q.ok (rByte_ok hv i1 i2) _ c1 ra2
end
end Br

namespace Br
open PySem PySem.Spec PyProof.Rows L2
/-- a callee that changed some of what we may change, nothing of the ledger -/
theorem Wd.callx {M N : List Addr} {H0 H H' : Hp} {l : List (Addr × HO)} (w : Wd M H0 H l) (c : Wd N H H' []) (hN : ∀ a ∈ N, a ∈ M) (hl : ∀ q ∈ l, q.1 ∉ N) : Wd M H0 H' l :=
  ⟨fun b o hb e => c.base b o (fun z => hb (hN b z)) (w.base b o hb e), fun b xs e => c.tups b xs (w.tups b xs e), w.own, fun q hq => c.base _ _ (hl q hq) (w.at_ q hq), w.nd, fun b e => w.free b (c.free b e)⟩
theorem join_word : ∀ l : List Int, Txt.join "" (l.map fun b => (⟨#[b.toNat + 97]⟩ : Str)) = wordOf l := fun l => by
  refine TL.ext_tl ?_
  rw [TL.join_eq, TL.tl_join, List.map_map]
  have : ∀ l : List Int, TL.joinL (TL.tl ("" : Str)) (l.map (TL.tl ∘ fun b => (⟨#[b.toNat + 97]⟩ : Str))) = l.map fun b => b.toNat + 97 := fun l => by
    induction l with
    | nil => rfl
    | cons b l ih =>
      cases l with
      | nil => rfl
      | cons c l =>
        rw [List.map_cons] at ih
        rw [List.map_cons, List.map_cons, TL.joinL, ih]
        rfl
  rw [this]; rfl
theorem let_at : ∀ b : Fin 26, atI ("abcdefghijklmnopqrstuvwxyz" : Str).cps.toList (b.val : Int) = some (b.val + 97) := by decide +kernel
theorem rMany_len {lo hi : Int} {code : List V} : ∀ {k : Nat} {acc l : List Int} {ns ns' : List Int}, rMany lo hi k acc code ns = .ok (l, ns') → l.length = acc.length + k
  | 0, acc, l, ns, ns', h => by cases h; rfl
  | k + 1, acc, l, ns, ns', h => by
    unfold rMany at h
    cases e : rByte lo hi code ns with
    | error n => rw [Rd.bind_er e] at h; cases h
    | ok p =>
      rw [Rd.bind_ok (a := p.1) (ns' := p.2) e] at h
      have := rMany_len h
      rw [List.length_append, List.length_singleton] at this; omega
theorem rByte_is {lo hi i : Int} {code : List V} {ns ns' : List Int} (h : rByte lo hi code ns = .ok (i, ns')) : lo ≤ i ∧ i ≤ hi ∧ ns' = ns ++ [i] ∧ code[ns.length]? = some (.int i) := by
  cases e : code[ns.length]? with
  | none => rw [rByte_none e] at h; cases h
  | some v =>
    cases hin : intIn lo hi v with
    | false => rw [rByte_bad e hin] at h; cases h
    | true =>
      obtain ⟨j, rfl, h1, h2⟩ := intIn_is hin
      rw [rByte_ok e h1 h2] at h
      cases h
      exact ⟨h1, h2, rfl, rfl⟩
theorem RAt.putL {CR x dx pc : Addr} {code : List V} {ns : List Int} {H : Hp} (r : RAt CR x dx pc code ns H) {D : Addr} {xs : List V} (ys : List V) (hD : H D = some (.lst xs)) (hp : D ≠ pc) : RAt CR x dx pc code ns (upd H D (.lst ys)) := by
  refine ⟨?_, ?_, fun v hv => ?_, r.pre⟩
  · rw [upd_ne (ne_of r.ob hD (by intro z; cases z))]; exact r.ob
  · rw [upd_ne hp.symm]; exact r.cd
  · obtain ⟨t, h⟩ := r.kn v hv
    refine ⟨t, ?_⟩
    cases h with
    | non => exact .non
    | bl b => exact .bl b
    | int i => exact .int i
    | str z => exact .str z
    | @lst a zs h =>
      by_cases e : a = D
      · subst e; exact .lst upd_same
      · exact .lst (by rw [upd_ne e]; exact h)
    | tup h => exact .tup (by rw [upd_ne (ne_of h hD (by intro z; cases z))]; exact h)
section
variable {P : Program} {w : World} {K : PySem.W.Frag} {mg : Str → Option Value} {base : Heap} {CR CE : Addr}
abbrev sReader_read_name : Stmt := inClass (topS 49) 3
theorem scReader_read_name : FnScope ["self", "names", "start", "length", "name", "count"] ["self", "names"] (defScope sReader_read_name) := ⟨rfl, rfl, rfl, by decide +kernel, rfl, by decide +kernel, by decide +kernel⟩
def spRdN (CR CE : Addr) : Sp := fun vs H Q E => ∃ (x dx pc nl : Addr) (code : List V) (ns : List Int) (names : List Str), vs = [.ref x, .ref nl] ∧ RAt CR x dx pc code ns H ∧ H nl = some (.lst (names.map V.str)) ∧
  RdA CR CE x dx pc code H E (rName names code ns) fun z H' => Q (.str z) H'
theorem me_rname (D : MethAt K CR "read_name" "Reader.read_name" sReader_read_name ["self", "names"]) (T : Bi mg) (RC : RdrCls K CR) (C : LexC K mg) (C1 : MeX P w K mg base 3 CR "read_byte" ["self", "low", "high"] (spRdB CR CE)) (C2 : MeX P w K mg base 3 CR "fail" ["self", "place"] (spRdF CE)) :
    MeX P w K mg base 4 CR "read_name" ["self", "names"] (spRdN CR CE) := D.meX fun f fd F => by
  have nd := scReader_read_name.nd
  have cl_Reader := RC.cl
  obtain ⟨t1, c_LETTERS⟩ := C.LETTERS
  obtain ⟨t2, c_MAX_LETTERS⟩ := C.MAX_LETTERS
  obtain ⟨a_KEYWORDS, c_KEYWORDS, hkw⟩ := C.KEYWORDS
  obtain ⟨f1, fd1, me_read_byte, b_read_byte, G_read_byte⟩ := C1.ex
  obtain ⟨f2, fd2, me_fail, b_fail, G_fail⟩ := C2.ex
  refine F.okX scReader_read_name (fun vs H Q E h => ?_) (fun cdv A outer s H vs Q E hr h => ?_)
  · obtain ⟨x, dx, pc, nl, code, ns, names, rfl, _⟩ := h; rfl
  obtain ⟨x, dx, pc, nl, code, ns, names, rfl, ra, hnl, q⟩ := h
  refine ⟨_, (pss_cons (ps_set (i := 2) nd rfl (Or.inl rfl) (pe_fldK (K := K) rfl (pv 0) rfl))
 (pss_cons (ps_set (i := 3) nd rfl (Or.inl rfl) (pe_meth (pv 0) cl_Reader me_read_byte G_read_byte (hr.mono (by first | decide | omega)) b_read_byte .nil (passes_call (takes_of rfl rfl rfl rfl) (fun _ _ _ _ h => h)) (pa_cons pe_int (pa_cons (pe_glob (v := .int 8) (by rfl) c_MAX_LETTERS ⟨_, rfl⟩) pa_nil))))
 (pss_cons (ps_set (i := 4) nd rfl (Or.inl rfl) (pe_joinK (K := K) rfl pe_str (pe_lcX (own := [("count", 5)]) rfl rfl rfl (takes_of rfl rfl rfl rfl) nd (pi_range1 (by rfl) T.range (pa_cons (pv 3) pa_nil)) (blkOk_by (N := ["self", "names", "start", "length", "name", "count"]) (sc := defScope sReader_read_name) (by decide +kernel)) (fun _ _ _ _ _ => (pg_name (i := 5) nd rfl (Or.inl rfl))) (fun _ _ _ _ _ => pts_nil) (fun _ _ _ _ _ _ _ hp => (pe_ix ix_str (pe_glob (v := .str "abcdefghijklmnopqrstuvwxyz") (by rfl) c_LETTERS ⟨_, rfl⟩) (pe_meth (pv 0) cl_Reader me_read_byte G_read_byte (hr.mono (by first | decide | omega)) b_read_byte .nil hp (pa_cons pe_int (pa_cons (pe_op op_sub (pe_callB call_len_str (by rfl) T.len PySem.boot_len (pa_cons (pe_glob (v := .str "abcdefghijklmnopqrstuvwxyz") (by rfl) c_LETTERS ⟨_, rfl⟩) pa_nil)) pe_int) pa_nil))) (fun _ _ => rfl))))))
 (pss_cons (ps_if (PW.pt (pw_or (pt_cmpR (r := rIn K false) op_in_seq (pv 4) (pe_glob (v := .ref a_KEYWORDS) (by rfl) c_KEYWORDS rfl) (by rfl)) (pw_or1 (pt_cmpR (r := rIn K false) op_in_seq (pv 4) (pv 1) (by rfl)))))
 (pss_one (ps_expr (pe_meth (pv 0) cl_Reader me_fail G_fail (hr.mono (by first | decide | omega)) b_fail .nil (passes_call (takes_of rfl rfl rfl rfl) (fun _ _ _ _ h => h)) (pa_cons (pv 2) pa_nil))))
 pss_nil)
 (pss_one (ps_ret (pv 4))))))), ?_⟩
  have nlx : nl ≠ x := ne_of hnl ra.ob (by intro z; cases z)
  refine ⟨_, rfl, x, CR, dx, _, _, rfl, ra.ob, RC.cl, RC.np, rd_place, ?_⟩
  refine ⟨_, rfl, x, dx, _, rfl, ra.ob, rd_none (by decide +kernel), x, dx, pc, code, ns, 1, 8, rfl, ra, RdA.mk (fun k ns1 e1 H1 c1 ra1 => ?_) (fun n e1 => q.er (Rd.bind_er e1))⟩
  obtain ⟨k1, k8, _, _⟩ := rByte_is e1
  have eq1 : rName names code ns = ((rMany 0 25 k.toNat []).bind fun l => rNameE ns.length names (wordOf l)) code ns1 := Rd.bind_ok e1
  refine ⟨⟨_, rfl⟩, _, rfl, k, rfl, by omega, by omega, fun D hD => ?_⟩
  have w1 := (c1.new (.lst []) hD)
  have hDp : D ≠ pc := (ne_of_none ra1.cd hD).symm
  have hDx : D ≠ x := (ne_of_none ra1.ob hD).symm
  have e25 : ((("abcdefghijklmnopqrstuvwxyz" : Str).length : Int) - 1) = 25 := by decide +kernel
  refine lc_it (walk_range (lo := 0) (n := k.toNat)) (fun i H' => ∃ (acc ns' : List Int), acc.length = i ∧ Wd [x] H H' [(D, .lst (acc.map fun b => V.str ⟨#[b.toNat + 97]⟩))] ∧ RAt CR x dx pc code ns' H' ∧ rMany 0 25 (k.toNat - i) acc code ns' = rMany 0 25 k.toNat [] code ns1) ?_ (fun _ _ _ _ => trivial) ?_ ?_
  · exact ⟨[], ns1, rfl, w1, ra1.keep ((Wd.refl H1).new _ hD), rfl⟩
  · rintro i xx H2 H2' hi ⟨acc, ns2, hl, w2, ra2, eq2⟩ ⟨rfl, rfl⟩
    refine ⟨rfl, _, rfl, x, dx, _, rfl, ra2.ob, rd_none (by decide +kernel), _, rfl, (by decide +kernel), _, _, rfl, rfl, ?_⟩
    have hk : k.toNat - i = (k.toNat - (i + 1)) + 1 := by omega
    rw [hk, rMany] at eq2
    refine ⟨x, dx, pc, code, ns2, 0, (("abcdefghijklmnopqrstuvwxyz" : Str).length : Int) - 1, rfl, ra2, ?_⟩
    rw [e25]
    refine RdA.mk (fun b ns3 e3 H3 c3 ra3 => ?_) (fun n e3 => ?_)
    · obtain ⟨b0, b25, _, _⟩ := rByte_is e3
      rw [Rd.bind_ok e3] at eq2
      have hb := let_at ⟨b.toNat, by omega⟩
      have eb : ((⟨b.toNat, by omega⟩ : Fin 26).val : Int) = b := by show (b.toNat : Int) = b; omega
      rw [eb] at hb
      have w3 := w2.callx c3 (fun _ h => h) (by intro q hq; simp only [List.mem_singleton] at hq; subst hq; simpa using hDx)
      refine ⟨_, _, _, rfl, rfl, (by decide +kernel), hb, _, w3.get 0 rfl, ?_, acc ++ [b], ns3, ?_, ?_, ?_, eq2⟩
      · rw [List.length_map]; exact small (by omega)
      · rw [List.length_append, hl]; rfl
      · have := w3.put 0 (.lst (acc.map (fun b => V.str ⟨#[b.toNat + 97]⟩) ++ [V.str ⟨#[b.toNat + 97]⟩])) rfl (fun _ q => by cases q)
        rw [List.map_append]; exact this
      · exact ra3.putL _ (w3.get 0 rfl) hDp
    · have : rName names code ns = .error n := by
        rw [eq1]; refine Rd.bind_er ?_
        rw [← eq2]; exact Rd.bind_er e3
      exact (q.er this).go w2
  · rintro H2 ⟨acc, ns2, hl, w2, ra2, eq2⟩
    rw [Nat.sub_self] at eq2
    have eq3 : rName names code ns = rNameE ns.length names (wordOf acc) code ns2 := by
      rw [eq1]; exact Rd.bind_ok (eq2.symm.trans rfl)
    have hle : acc.length ≤ 8 := by omega
    have ej := join_word acc
    refine ⟨_, D, acc.map fun b => (⟨#[b.toNat + 97]⟩ : Str), rfl, rfl, .inl (SqL.of (by rw [List.map_map]; exact w2.get 0 rfl)), ?_, ?_⟩
    · have h1 := sum_le (fun s : Str => s.length) 1 (acc.map fun b => (⟨#[b.toNat + 97]⟩ : Str)) (fun s hs => by
        obtain ⟨b, _, rfl⟩ := List.mem_map.mp hs
        exact Nat.le_refl _)
      have h2 : ("" : Str).length = 0 := by decide
      rw [List.length_map] at h1 ⊢
      rw [h2]; omega
    rw [ej]
    have hnl2 : H2 nl = some (.lst (names.map V.str)) := w2.base _ _ (by simpa using nlx) hnl
    by_cases hbad : wordOf acc ∈ kws ∨ wordOf acc ∈ names
    · have e4 : rName names code ns = .error ns.length := by rw [eq3]; exact if_pos hbad
      have fin : ∀ Q' : VK, tMeth CR "fail" (spRdF CE) [] E (tVar 0) (tCons (tVar 2) tNil) [some (.ref x), some (.ref nl), some (.int ns.length), some (.int k), some (.str (wordOf acc)), none] H2 Q' := fun Q' =>
        ⟨_, rfl, x, dx, _, rfl, ra2.ob, rd_none (by decide +kernel), _, rfl, x, ns.length, rfl, ((q.er e4).go w2).less fun _ h => nomatch h⟩
      refine ⟨_, rfl, a_KEYWORDS, kws.map V.str, rfl, .inr (hkw _), rfl, flat_strs' _, _, rfl, ?_⟩
      rw [if_neg Bool.false_ne_true, inV_strs]
      refine ite2 (fun _ => iteT (fin _)) (fun h1 => ?_)
      refine ⟨_, rfl, _, rfl, nl, names.map V.str, rfl, .inl (SqL.of hnl2), rfl, flat_strs' _, _, rfl, ?_⟩
      rw [if_neg Bool.false_ne_true, inV_strs]
      refine ite2 (fun _ => fin _) (fun h2 => ?_)
      rcases hbad with h | h
      · exact absurd (decide_eq_true h) h1
      · exact absurd (decide_eq_true h) h2
    · have e4 : rName names code ns = .ok (wordOf acc, ns2) := by rw [eq3]; exact if_neg hbad
      refine ⟨_, rfl, a_KEYWORDS, kws.map V.str, rfl, .inr (hkw _), rfl, flat_strs' _, _, rfl, ?_⟩
      rw [if_neg Bool.false_ne_true, inV_strs]
      refine ite2 (fun h1 => absurd (.inl (of_decide_eq_true h1)) hbad) (fun _ => ?_)
      refine ⟨_, rfl, _, rfl, nl, names.map V.str, rfl, .inl (SqL.of hnl2), rfl, flat_strs' _, _, rfl, ?_⟩
      rw [if_neg Bool.false_ne_true, inV_strs]
      refine ite2 (fun h2 => absurd (.inr (of_decide_eq_true h2)) hbad) (fun _ => ?_)
      exact ⟨_, rfl, q.ok e4 _ (w2.sub (List.nil_sublist _)) ra2⟩
end
end Br

namespace Br
open PySem PySem.Spec PyProof.Rows L2
section
variable {P : Program} {w : World} {K : PySem.W.Frag} {mg : Str → Option Value} {base : Heap} {CR CE : Addr}
abbrev sReader_read_turns : Stmt := inClass (topS 49) 4
theorem scReader_read_turns : FnScope ["self", "count", "start", "turns", "index", "person"] ["self", "count"] (defScope sReader_read_turns) := ⟨rfl, rfl, rfl, by decide +kernel, rfl, by decide +kernel, by decide +kernel⟩
def spRdT (CR CE : Addr) : Sp := fun vs H Q E => ∃ (x dx pc : Addr) (code : List V) (ns : List Int) (n : Nat), vs = [.ref x, .int n] ∧ n ≤ 6 ∧ RAt CR x dx pc code ns H ∧
  RdA CR CE x dx pc code H E (rTurns n code ns) fun l H' => ∀ p, H' p = some (.tup (l.map V.int)) → Q (.ref p) H'
theorem me_rturns (D : MethAt K CR "read_turns" "Reader.read_turns" sReader_read_turns ["self", "count"]) (T : Bi mg) (RC : RdrCls K CR) (hT12 : ∃ t, mg "MAX_TURNS" = some (.int 12 t)) (C1 : MeX P w K mg base 3 CR "read_byte" ["self", "low", "high"] (spRdB CR CE)) (C2 : MeX P w K mg base 3 CR "fail" ["self", "place"] (spRdF CE)) :
    MeX P w K mg base 4 CR "read_turns" ["self", "count"] (spRdT CR CE) := D.meX fun f fd F => by
  have nd := scReader_read_turns.nd
  have cl_Reader := RC.cl
  obtain ⟨t1, c_MAX_TURNS⟩ := hT12
  obtain ⟨f1, fd1, me_read_byte, b_read_byte, G_read_byte⟩ := C1.ex
  obtain ⟨f2, fd2, me_fail, b_fail, G_fail⟩ := C2.ex
  refine F.okX scReader_read_turns (fun vs H Q E h => ?_) (fun cdv A outer s H vs Q E hr h => ?_)
  · obtain ⟨x, dx, pc, code, ns, n, rfl, _⟩ := h; rfl
  obtain ⟨x, dx, pc, code, ns, n, rfl, n6, ra, q⟩ := h
  refine ⟨_, (pss_cons (ps_set (i := 2) nd rfl (Or.inl rfl) (pe_fldK (K := K) rfl (pv 0) rfl))
 (pss_cons (ps_set (i := 3) nd rfl (Or.inr rfl) (pe_callTy (r := rTupOf K) call_tuple_of (by rfl) T.tuple (by decide +kernel) (pa_cons (pe_lcX (own := [("index", 4)]) rfl rfl rfl (takes_of rfl rfl rfl rfl) nd (pi_range1 (by rfl) T.range (pa_cons (pe_meth (pv 0) cl_Reader me_read_byte G_read_byte (hr.mono (by first | decide | omega)) b_read_byte .nil (passes_call (takes_of rfl rfl rfl rfl) (fun _ _ _ _ h => h)) (pa_cons (pv 1) (pa_cons (pe_glob (v := .int 12) (by rfl) c_MAX_TURNS ⟨_, rfl⟩) pa_nil))) pa_nil)) (blkOk_by (N := ["self", "count", "start", "turns", "index", "person"]) (sc := defScope sReader_read_turns) (by decide +kernel)) (fun _ _ _ _ _ => (pg_name (i := 4) nd rfl (Or.inl rfl))) (fun _ _ _ _ _ => pts_nil) (fun _ _ _ _ _ _ _ hp => (pe_meth (pv 0) cl_Reader me_read_byte G_read_byte (hr.mono (by first | decide | omega)) b_read_byte .nil hp (pa_cons pe_int (pa_cons (pe_op op_sub (pv 1) pe_int) pa_nil))))) pa_nil)))
 (pss_cons (ps_if (pt_val (pe_callB (r := L2.rAny K) (cr_any rfl) (by rfl) T.any (by decide +kernel) (pa_cons (pe_lc (own := [("person", 5)]) rfl nd (pi_range1 (by rfl) T.range (pa_cons (pv 1) pa_nil)) (blkOk_by (N := ["self", "count", "start", "turns", "index", "person"]) (sc := defScope sReader_read_turns) (by decide +kernel)) (fun _ _ _ _ _ => (pg_name (i := 5) nd rfl (Or.inl rfl))) (fun _ _ _ _ _ => pts_nil) (fun _ _ _ _ _ => (pe_cmpR (r := rIn K true) op_notIn_seq (pv 5) (pv 3) (by rfl)))) pa_nil)))
 (pss_one (ps_expr (pe_meth (pv 0) cl_Reader me_fail G_fail (hr.mono (by first | decide | omega)) b_fail .nil (passes_call (takes_of rfl rfl rfl rfl) (fun _ _ _ _ h => h)) (pa_cons (pv 2) pa_nil))))
 pss_nil)
 (pss_one (ps_ret (pv 3)))))), ?_⟩
  refine ⟨_, rfl, x, CR, dx, _, _, rfl, ra.ob, RC.cl, RC.np, rd_place, ?_⟩
  refine ⟨_, rfl, x, dx, _, rfl, ra.ob, rd_none (by decide +kernel), _, rfl, x, dx, pc, code, ns, n, 12, rfl, ra, RdA.mk (fun k ns1 e1 H1 c1 ra1 => ?_) (fun m e1 => q.er (Rd.bind_er e1))⟩
  obtain ⟨k1, k8, _, _⟩ := rByte_is e1
  have eq1 : rTurns n code ns = ((rMany 0 (n - 1) k.toNat []).bind fun l => rTurnsE ns.length n l) code ns1 := Rd.bind_ok e1
  refine ⟨k, rfl, by omega, by omega, fun D hD => ?_⟩
  have w1 := (c1.new (.lst []) hD)
  have hDp : D ≠ pc := (ne_of_none ra1.cd hD).symm
  have hDx : D ≠ x := (ne_of_none ra1.ob hD).symm
  refine lc_it (walk_range (lo := 0) (n := k.toNat)) (fun i H' => ∃ (acc ns' : List Int), acc.length = i ∧ Wd [x] H H' [(D, .lst (acc.map V.int))] ∧ RAt CR x dx pc code ns' H' ∧ rMany 0 (n - 1) (k.toNat - i) acc code ns' = rMany 0 (n - 1) k.toNat [] code ns1) ?_ (fun _ _ _ _ => trivial) ?_ ?_
  · exact ⟨[], ns1, rfl, w1, ra1.keep ((Wd.refl H1).new _ hD), rfl⟩
  · rintro i xx H2 H2' hi ⟨acc, ns2, hl, w2, ra2, eq2⟩ ⟨rfl, rfl⟩
    have hk : k.toNat - i = (k.toNat - (i + 1)) + 1 := by omega
    rw [hk, rMany] at eq2
    refine ⟨rfl, _, rfl, x, dx, _, rfl, ra2.ob, rd_none (by decide +kernel), _, rfl, _, _, rfl, rfl, x, dx, pc, code, ns2, 0, (n : Int) - 1, rfl, ra2, RdA.mk (fun b ns3 e3 H3 c3 ra3 => ?_) (fun m e3 => ?_)⟩
    · rw [Rd.bind_ok e3] at eq2
      have w3 := w2.callx c3 (fun _ h => h) (by intro q hq; simp only [List.mem_singleton] at hq; subst hq; simpa using hDx)
      refine ⟨_, w3.get 0 rfl, ?_, acc ++ [b], ns3, ?_, ?_, ra3.putL _ (w3.get 0 rfl) hDp, eq2⟩
      · rw [List.length_map]; exact small (by omega)
      · rw [List.length_append, hl]; rfl
      · have := w3.put 0 (.lst (acc.map V.int ++ [V.int b])) rfl (fun _ q => by cases q)
        rw [List.map_append]; exact this
    · have : rTurns n code ns = .error m := by
        rw [eq1]; refine Rd.bind_er ?_
        rw [← eq2]; exact Rd.bind_er e3
      exact (q.er this).go w2
  · rintro H2 ⟨acc, ns2, hl, w2, ra2, eq2⟩
    rw [Nat.sub_self] at eq2
    have eq3 : rTurns n code ns = rTurnsE ns.length n acc code ns2 := by
      rw [eq1]; exact Rd.bind_ok (eq2.symm.trans rfl)
    refine ⟨D, _, rfl, .inl ⟨SqL.of (w2.get 0 rfl), fun tq htq => ?_⟩⟩
    have w3 := w2.new (.tup (acc.map V.int)) htq
    have ra3 := ra2.keep ((Wd.refl H2).new (.tup (acc.map V.int)) htq)
    generalize upd H2 tq (.tup (acc.map V.int)) = H3 at w3 ra3 ⊢
    -- any
    refine ⟨_, rfl, (n : Int), rfl, by omega, by omega, fun D2 hD2 => ?_⟩
    refine lc_put (walk_range (lo := 0) (n := n)) (l := fun _ => []) (((List.range n).map fun k : Nat => !decide ((k : Int) ∈ acc)).map V.bl) (by simp) (by omega) (Wd.refl H3) hD2 (fun _ _ _ _ => trivial) (fun j v H4 H4' R hj w4 hy hR => ?_) (fun H4 w4 => ?_)
    · obtain ⟨rfl, rfl⟩ := hy
      refine ⟨rfl, _, rfl, _, rfl, tq, acc.map V.int, rfl, .inr (SqT.of (w4.tups _ _ (w3.get 0 rfl))), rfl, flat_ints _, hR _ _ ?_ w4⟩
      rw [if_pos rfl, inV_ints, List.getElem?_map, List.getElem?_map, List.getElem?_range hj, Int.zero_add]; rfl
    · refine ⟨D2, _, rfl, SqL.of (w4.get 0 rfl), _, rfl, ?_⟩
      have ht4 : H4 tq = some (.tup (acc.map V.int)) := w4.tups _ _ (w3.get 0 rfl)
      have ra4 := ra3.keep w4
      have c4 : Wd [x] H H4 [] := (w3.sub (List.nil_sublist _)).fgo ((w4.sub (List.nil_sublist _)).mono fun _ h => nomatch h)
      by_cases hall : ∀ k : Nat, k < n → (k : Int) ∈ acc
      · have e4 : rTurns n code ns = .ok (acc, ns2) := by rw [eq3]; exact if_pos hall
        have ea : (((List.range n).map fun k : Nat => !decide ((k : Int) ∈ acc)).any id) = false := by
          rw [List.any_eq_false]
          intro b hb
          obtain ⟨k, hk, rfl⟩ := List.mem_map.mp hb
          simp [hall k (List.mem_range.mp hk)]
        rw [ea]
        refine iteF ⟨_, rfl, q.ok e4 _ c4 ra4 tq ht4⟩
      · have e4 : rTurns n code ns = .error ns.length := by rw [eq3]; exact if_neg hall
        have ea : (((List.range n).map fun k : Nat => !decide ((k : Int) ∈ acc)).any id) = true := by
          rw [List.any_eq_true]
          obtain ⟨k, hk⟩ := Classical.not_forall.mp hall
          obtain ⟨hk, hk2⟩ := Classical.not_imp.mp hk
          exact ⟨_, List.mem_map.mpr ⟨k, List.mem_range.mpr hk, rfl⟩, by simp [hk2]⟩
        rw [ea]
        refine iteT ⟨_, rfl, x, dx, _, rfl, ra4.ob, rd_none (by decide +kernel), _, rfl, x, ns.length, rfl, ((q.er e4).go c4).less fun _ h => nomatch h⟩
end
end Br

namespace Br
open PySem PySem.Spec PyProof.Rows L2
theorem snoc_cases {α : Type} (l : List α) : l = [] ∨ ∃ a b, l = a ++ [b] := (List.eq_nil_or_concat l).imp id fun ⟨a, b, h⟩ => ⟨a, b, by rw [h, List.concat_eq_append]⟩
def l3i (t : Int × Int × Int) : List Int := [t.1, t.2.1, t.2.2]
theorem le_lex (s t : Int × Int × Int) : Ob.lexAt (fun j => decide ((l3i s).getD j 0 = (l3i t).getD j 0)) (fun j => decide ((l3i s).getD j 0 ≤ (l3i t).getD j 0)) (decide ((l3i s).length ≤ (l3i t).length)) 0 (min (l3i s).length (l3i t).length) = !decide (lexLt t s) := by
  obtain ⟨a, b, c⟩ := s
  obtain ⟨d, e, f⟩ := t
  show (if decide (a = d) = true then (if decide (b = e) = true then (if decide (c = f) = true then decide (3 ≤ 3) else decide (c ≤ f)) else decide (b ≤ e)) else decide (a ≤ d)) = !decide (d < a ∨ d = a ∧ (e < b ∨ e = b ∧ f < c))
  by_cases h1 : a = d
  · rw [if_pos (decide_eq_true h1)]
    by_cases h2 : b = e
    · rw [if_pos (decide_eq_true h2)]
      by_cases h3 : c = f
      · rw [if_pos (decide_eq_true h3), decide_eq_false (by omega)]; rfl
      · rw [if_neg (by simpa using h3), ← decide_not, decide_eq_decide]; omega
    · rw [if_neg (by simpa using h2), ← decide_not, decide_eq_decide]; omega
  · rw [if_neg (by simpa using h1), ← decide_not, decide_eq_decide]; omega
section
variable {P : Program} {w : World} {K : PySem.W.Frag} {mg : Str → Option Value} {base : Heap} {CR CE : Addr}
abbrev sReader_read_aways : Stmt := inClass (topS 49) 5
theorem scReader_read_aways : FnScope ["self", "count", "found", "index", "start", "person", "remainder", "modulus"] ["self", "count"] (defScope sReader_read_aways) := ⟨rfl, rfl, rfl, by decide +kernel, rfl, by decide +kernel, by decide +kernel⟩
def spRdW (CR CE : Addr) : Sp := fun vs H Q E => ∃ (x dx pc : Addr) (code : List V) (ns : List Int) (n : Nat), vs = [.ref x, .int n] ∧ RAt CR x dx pc code ns H ∧
  RdA CR CE x dx pc code H E (rAways n code ns) fun l H' => ∀ p as, H' p = some (.tup (as.map V.ref)) → AwAt H' as l → Q (.ref p) H'
theorem me_raways (D : MethAt K CR "read_aways" "Reader.read_aways" sReader_read_aways ["self", "count"]) (T : Bi mg) (RC : RdrCls K CR) (hM20 : ∃ t, mg "MAX_AWAYS" = some (.int 20 t))
    (hMO : ∃ a, mg "MODULI" = some (.ref a) ∧ ∀ H : Hp, SqT K H a (([2, 3, 4, 6, 8, 12] : List Int).map V.int))
    (C1 : MeX P w K mg base 3 CR "read_byte" ["self", "low", "high"] (spRdB CR CE)) (C2 : MeX P w K mg base 3 CR "fail" ["self", "place"] (spRdF CE)) :
    MeX P w K mg base 4 CR "read_aways" ["self", "count"] (spRdW CR CE) := D.meX fun f fd F => by
  have nd := scReader_read_aways.nd
  have cl_Reader := RC.cl
  obtain ⟨t1, c_MAX_AWAYS⟩ := hM20
  obtain ⟨a_MODULI, c_MODULI, hmo⟩ := hMO
  obtain ⟨f1, fd1, me_read_byte, b_read_byte, G_read_byte⟩ := C1.ex
  obtain ⟨f2, fd2, me_fail, b_fail, G_fail⟩ := C2.ex
  refine F.okX scReader_read_aways (fun vs H Q E h => ?_) (fun cdv A outer s H vs Q E hr h => ?_)
  · obtain ⟨x, dx, pc, code, ns, n, rfl, _⟩ := h; rfl
  obtain ⟨x, dx, pc, code, ns, n, rfl, ra, q⟩ := h
  have hu := hr.units
  have hu0 := hr.units0
  refine ⟨_, (pss_cons (ps_set (i := 2) nd rfl (Or.inl rfl) (pe_lst pa_nil))
 (pss_cons (ps_for (passes_of rfl) rfl (pi_range1 (by rfl) T.range (pa_cons (pe_meth (pv 0) cl_Reader me_read_byte G_read_byte (hr.mono (by first | decide | omega)) b_read_byte .nil (passes_call (takes_of rfl rfl rfl rfl) (fun _ _ _ _ h => h)) (pa_cons pe_int (pa_cons (pe_glob (v := .int 20) (by rfl) c_MAX_AWAYS ⟨_, rfl⟩) pa_nil))) pa_nil)) (pg_name (i := 3) nd rfl (Or.inl rfl))
 (pss_cons (ps_set (i := 4) nd rfl (Or.inl rfl) (pe_fldK (K := K) rfl (pv 0) rfl))
 (pss_cons (ps_set (i := 5) nd rfl (Or.inl rfl) (pe_meth (pv 0) cl_Reader me_read_byte G_read_byte (hr.mono (by first | decide | omega)) b_read_byte .nil (passes_call (takes_of rfl rfl rfl rfl) (fun _ _ _ _ h => h)) (pa_cons pe_int (pa_cons (pe_op op_sub (pv 1) pe_int) pa_nil))))
 (pss_cons (ps_set (i := 6) nd rfl (Or.inl rfl) (pe_meth (pv 0) cl_Reader me_read_byte G_read_byte (hr.mono (by first | decide | omega)) b_read_byte .nil (passes_call (takes_of rfl rfl rfl rfl) (fun _ _ _ _ h => h)) (pa_cons pe_int (pa_cons (pe_op op_sub (pe_ix (r := rIxT K) ix_tup (pe_glob (v := .ref a_MODULI) (by rfl) c_MODULI rfl) (pe_un un_neg pe_int) (fun _ _ => rfl)) pe_int) pa_nil))))
 (pss_cons (ps_set (i := 7) nd rfl (Or.inl rfl) (pe_meth (pv 0) cl_Reader me_read_byte G_read_byte (hr.mono (by first | decide | omega)) b_read_byte .nil (passes_call (takes_of rfl rfl rfl rfl) (fun _ _ _ _ h => h)) (pa_cons (pe_op op_add (pv 6) pe_int) (pa_cons (pe_ix (r := rIxT K) ix_tup (pe_glob (v := .ref a_MODULI) (by rfl) c_MODULI rfl) (pe_un un_neg pe_int) (fun _ _ => rfl)) pa_nil))))
 (pss_cons (ps_if (pt_cmpR (r := rIn K true) op_notIn_seq (pv 7) (pe_glob (v := .ref a_MODULI) (by rfl) c_MODULI rfl) (by rfl))
 (pss_one (ps_expr (pe_meth (pv 0) cl_Reader me_fail G_fail (hr.mono (by first | decide | omega)) b_fail .nil (passes_call (takes_of rfl rfl rfl rfl) (fun _ _ _ _ h => h)) (pa_cons (pe_op op_sub (pe_fldK (K := K) rfl (pv 0) rfl) pe_int) pa_nil))))
 pss_nil)
 (pss_cons (ps_if (PW.pt (pw_and (pt_cmpR (r := rNeD K) (op_neD hu) (pv 2) (pe_lst pa_nil) (nomark _)) (pw_and1 (pt_cmpR (r := rLeT K) (op_leT hu0) (pe_tup (pa_cons (pv 5) (pa_cons (pv 6) (pa_cons (pv 7) pa_nil)))) (pe_ix (r := rIxL K) ix_list (pv 2) (pe_un un_neg pe_int) (fun _ _ => rfl)) (nomark _)))))
 (pss_one (ps_expr (pe_meth (pv 0) cl_Reader me_fail G_fail (hr.mono (by first | decide | omega)) b_fail .nil (passes_call (takes_of rfl rfl rfl rfl) (fun _ _ _ _ h => h)) (pa_cons (pv 4) pa_nil))))
 pss_nil)
 (pss_one (ps_expr (pe_bmK (K := K) rfl PySem.F.plainAttrs_list PySem.F.slot_list_append PySem.F.type_list_append mt_append (pv 2) (pa_cons (pe_tup (pa_cons (pv 5) (pa_cons (pv 6) (pa_cons (pv 7) pa_nil)))) pa_nil)))))))))))
 (pss_one (ps_ret (pe_callTy (r := rTupOf K) call_tuple_of (by rfl) T.tuple (by decide +kernel) (pa_cons (pv 2) pa_nil)))))), ?_⟩
  refine ⟨(by show 0 ≤ sizeLine; decide), fun fl hfl => ?_⟩
  have w0 := ((Wd.refl H).new (.lst []) hfl)
  have ra0 := ra.keep w0
  have hfp : fl ≠ pc := (ne_of_none ra.cd hfl).symm
  have hfx : fl ≠ x := (ne_of_none ra.ob hfl).symm
  have w0' : Wd [x] H _ [(fl, .lst [])] := w0.mono fun _ h => nomatch h
  generalize upd H fl (.lst []) = H0 at w0' ra0 ⊢
  clear w0
  refine ⟨_, rfl, x, dx, _, rfl, ra0.ob, rd_none (by decide +kernel), x, dx, pc, code, ns, 0, 20, rfl, ra0, RdA.mk (fun k ns1 e1 H1 c1 ra1 => ?_) (fun m e1 => (q.er (Rd.bind_er e1)).go w0')⟩
  obtain ⟨k1, k8, _, _⟩ := rByte_is e1
  have eq1 : rAways n code ns = rAwayS n k.toNat [] code ns1 := Rd.bind_ok e1
  have cl1 : ∀ {H' H''}, Wd [x] H' H'' [] → ∀ {u}, Wd [x] H H' [(fl, u)] → Wd [x] H H'' [(fl, u)] := fun c u w => w.callx c (fun _ h => h) (by intro q hq; simp only [List.mem_singleton] at hq; subst hq; simpa using hfx)
  have w1 := cl1 c1 w0'
  refine ⟨k, rfl, by omega, by omega, ?_⟩
  refine for_it (walk_range (lo := 0) (n := k.toNat)) (fun i σ H' => ∃ (as : List Addr) (acc : List (Int × Int × Int)) (ns' : List Int) (s3 s4 s5 s6 s7 : Option V), σ = [some (.ref x), some (.int n), some (.ref fl), s3, s4, s5, s6, s7] ∧ acc.length = i ∧ Wd [x] H H' [(fl, .lst (as.map V.ref))] ∧ AwAt H' as acc ∧ RAt CR x dx pc code ns' H' ∧ rAwayS n (k.toNat - i) acc code ns' = rAwayS n k.toNat [] code ns1) ?_ (fun _ _ _ _ _ => trivial) ?_ ?_
  · exact ⟨[], [], ns1, _, _, _, _, _, rfl, rfl, w1, .nil, ra1, rfl⟩
  · rintro i xx σ H2 H2' hi ⟨as, acc, ns2, s3, s4, s5, s6, s7, rfl, hl, w2, ha2, ra2, eq2⟩ ⟨rfl, rfl⟩
    have hk : k.toNat - i = (k.toNat - (i + 1)) + 1 := by omega
    rw [hk, rAwayS] at eq2
    have er : ∀ {m}, rAway n acc code ns2 = .error m → Er [x] CE (plX m) H E := fun e => q.er (by rw [eq1, ← eq2]; exact Rd.bind_er e)
    refine ⟨_, rfl, x, CR, dx, _, _, rfl, ra2.ob, RC.cl, RC.np, rd_place, ?_⟩
    -- person
    refine ⟨_, rfl, x, dx, _, rfl, ra2.ob, rd_none (by decide +kernel), _, rfl, _, _, rfl, rfl, x, dx, pc, code, ns2, 0, (n : Int) - 1, rfl, ra2, RdA.mk (fun p ns3 e3 H3 c3 ra3 => ?_) (fun m e3 => (er (Rd.bind_er e3)).go w2)⟩
    have w3 := cl1 c3 w2
    have f3 : rAway n acc code ns2 = ((rByte 0 11).bind fun r => (rByte (r + 1) 12).bind fun m => rAwayE ns2.length acc (p, r, m)) code ns3 := Rd.bind_ok e3
    -- remainder
    refine ⟨_, rfl, x, dx, _, rfl, ra3.ob, rd_none (by decide +kernel), 1, rfl, a_MODULI, _, -1, .int 12, rfl, rfl, hmo _, rfl, _, _, rfl, rfl, x, dx, pc, code, ns3, 0, 11, rfl, ra3, RdA.mk (fun r ns4 e4 H4 c4 ra4 => ?_) (fun m e4 => (er (by rw [f3]; exact Rd.bind_er e4)).go w3)⟩
    have w4 := cl1 c4 w3
    have f4 : rAway n acc code ns2 = ((rByte (r + 1) 12).bind fun m => rAwayE ns2.length acc (p, r, m)) code ns4 := f3.trans (Rd.bind_ok e4)
    -- modulus
    refine ⟨_, rfl, x, dx, _, rfl, ra4.ob, rd_none (by decide +kernel), _, rfl, _, _, rfl, rfl, 1, rfl, a_MODULI, _, -1, .int 12, rfl, rfl, hmo _, rfl, x, dx, pc, code, ns4, r + 1, 12, rfl, ra4, RdA.mk (fun m ns5 e5 H5 c5 ra5 => ?_) (fun m e5 => (er (by rw [f4]; exact Rd.bind_er e5)).go w4)⟩
    have w5 := cl1 c5 w4
    have f5 : rAway n acc code ns2 = rAwayE ns2.length acc (p, r, m) code ns5 := f4.trans (Rd.bind_ok e5)
    obtain ⟨_, _, hns5, _⟩ := rByte_is e5
    have hn5 : 1 ≤ ns5.length := by rw [hns5, List.length_append, List.length_singleton]; omega
    refine ⟨_, rfl, a_MODULI, _, rfl, .inr (hmo _), rfl, flat_ints _, _, rfl, ?_⟩
    rw [if_pos rfl, inV_ints]
    refine ite2 (fun hm => ?_) (fun hm => ?_)
    · have hm' : m ∉ mods := by simpa [mods] using hm
      have e6 : rAway n acc code ns2 = .error (ns5.length - 1) := by rw [f5]; exact if_pos hm'
      refine ⟨_, rfl, x, dx, _, rfl, ra5.ob, rd_none (by decide +kernel), _, rfl, x, CR, dx, _, _, rfl, ra5.ob, RC.cl, RC.np, rd_place, _, _, rfl, rfl, x, ns5.length - 1, ?_, ((er e6).go w5).less fun _ h => nomatch h⟩
      rw [show ((ns5.length - 1 : Nat) : Int) = (ns5.length : Int) - 1 by omega]; rfl
    have hm' : m ∈ mods := by
      cases hd : decide (m ∈ mods) with
      | true => exact of_decide_eq_true hd
      | false => exact absurd (show (!decide (m ∈ mods)) = true by rw [hd]; rfl) hm
    have f6 : rAway n acc code ns2 = (match acc.getLast? with | some u => if lexLt u (p, r, m) then .ok ((p, r, m), ns5) else .error ns2.length | none => .ok ((p, r, m), ns5)) := by
      rw [f5]; exact if_neg (fun h => h hm')
    -- the order
    have fin : ∀ {H7 : Hp}, Wd [x] H H7 [(fl, .lst (as.map V.ref))] → RAt CR x dx pc code ns5 H7 → AwAt H7 as acc → rAway n acc code ns2 = .ok ((p, r, m), ns5) → ∀ T2, H7 T2 = none →
        ∃ (as' : List Addr) (acc' : List (Int × Int × Int)) (ns' : List Int) (s3 s4 s5 s6 s7 : Option V), ([some (.ref x), some (.int n), some (.ref fl), some (.int (0 + (i : Nat))), some (.int ns2.length), some (.int p), some (.int r), some (.int m)] : L2.St) = [some (.ref x), some (.int n), some (.ref fl), s3, s4, s5, s6, s7] ∧
          acc'.length = i + 1 ∧ Wd [x] H (upd (upd H7 T2 (.tup [V.int p, V.int r, V.int m])) fl (.lst (as.map V.ref ++ [V.ref T2]))) [(fl, .lst (as'.map V.ref))] ∧
          AwAt (upd (upd H7 T2 (.tup [V.int p, V.int r, V.int m])) fl (.lst (as.map V.ref ++ [V.ref T2]))) as' acc' ∧ RAt CR x dx pc code ns' (upd (upd H7 T2 (.tup [V.int p, V.int r, V.int m])) fl (.lst (as.map V.ref ++ [V.ref T2]))) ∧ rAwayS n (k.toNat - (i + 1)) acc' code ns' = rAwayS n k.toNat [] code ns1 := fun {H7} w7 ra7 ha7 e7 T2 hT2 => by
      rw [Rd.bind_ok e7] at eq2
      have wn := (Wd.refl H7).new (.tup [V.int p, V.int r, V.int m]) hT2
      have w8 := w7.new1 (.tup [V.int p, V.int r, V.int m]) hT2
      have w9 := w8.put 0 (.lst (as.map V.ref ++ [V.ref T2])) rfl (fun _ q => by cases q)
      have kt : ∀ b xs, upd H7 T2 (.tup [V.int p, V.int r, V.int m]) b = some (.tup xs) → upd (upd H7 T2 (.tup [V.int p, V.int r, V.int m])) fl (.lst (as.map V.ref ++ [V.ref T2])) b = some (.tup xs) := fun b xs e => by
        rw [upd_ne (ne_of e (w8.get 0 rfl) (by intro z; cases z))]; exact e
      refine ⟨as ++ [T2], acc ++ [(p, r, m)], ns5, _, _, _, _, _, rfl, by rw [List.length_append, hl]; rfl, ?_, AwAt.append ((ha7.keep wn.tups).keep kt) (.cons (kt _ _ upd_same) .nil), (ra7.keep wn).putL _ (w8.get 0 rfl) hfp, eq2⟩
      rw [List.map_append]; exact w9.sub (by walk_at "sub")
    have ha5 : AwAt H5 as acc := ((ha2.keep c3.tups).keep c4.tups).keep c5.tups
    have hlen : as.length = acc.length := ha2.length
    have hz : acc.length < 100 := by omega
    refine ⟨_, rfl, (by show 0 ≤ sizeLine; decide), fun e he => ?_⟩
    have we := (Wd.refl H5).new (.lst []) he
    have w6 := w5.new1 (.lst []) he
    have ra6 := ra5.keep we
    have ha6 : AwAt (upd H5 e (.lst [])) as acc := ha5.keep we.tups
    refine ⟨.list (acc.map dataT), .list [], .lst (SqL.of (w6.get 0 rfl)) (dp_aw ha6), .lst (SqL.of (w6.get 1 rfl)) .nil, shaped_ts _, rfl, _, rfl, ?_⟩
    rw [eqv_nil]
    generalize upd H5 e (.lst []) = H6 at w6 ra6 ha6 ⊢
    have w6' := w6.sub (l' := [(fl, .lst (as.map V.ref))]) (by walk_at "sub")
    have app : ∀ {H7 : Hp}, Wd [x] H H7 [(fl, .lst (as.map V.ref))] → (as.map V.ref).length < sizeLine := fun _ => by rw [List.length_map]; exact small (by omega)
    rcases snoc_cases acc with rfl | ⟨acc0, u, rfl⟩
    · refine iteF ?_
      refine ⟨_, rfl, .inl ⟨rfl, _, SqL.of (w6'.get 0 rfl)⟩, _, rfl, _, rfl, _, rfl, (by show 3 ≤ sizeLine; decide), fun T2 hT2 => ?_⟩
      have w7 := w6'.new1 (.tup [V.int p, V.int r, V.int m]) hT2
      exact ⟨_, _, _, rfl, rfl, w7.get 0 rfl, app w6', fin w6' ra6 ha6 (f6.trans rfl) T2 hT2⟩
    · rw [List.getLast?_concat] at f6
      rcases snoc_cases as with rfl | ⟨as0, b, rfl⟩
      · rw [List.length_append] at hlen; simp at hlen
      have hl0 : as0.length = acc0.length := by rw [List.length_append, List.length_append] at hlen; simpa using hlen
      obtain ⟨t, ht, hb⟩ := ha6.at (i := as0.length) (a := b) (by simp)
      rw [hl0, List.getElem?_append_right (Nat.le_refl _), Nat.sub_self] at ht
      cases ht
      have enb : (!(List.map dataT (acc0 ++ [u])).isEmpty) = true := by rw [List.map_append]; simp
      rw [enb]
      refine iteT ?_
      refine ⟨_, rfl, _, rfl, _, rfl, (by show 3 ≤ sizeLine; decide), fun T1 hT1 => ?_⟩
      have wt := (Wd.refl H6).new (.tup [V.int p, V.int r, V.int m]) hT1
      have w7 := w6'.new1 (.tup [V.int p, V.int r, V.int m]) hT1
      have ra7 := ra6.keep wt
      have ha7 := ha6.keep wt.tups
      refine ⟨_, rfl, 1, rfl, fl, _, -1, V.ref b, rfl, rfl, SqL.of (w7.get 0 rfl), by rw [List.map_append]; exact atI_last _ _, T1, b, l3i (p, r, m), l3i u, rfl, rfl, SqT.of (w7.get 1 rfl), SqT.of (wt.tups _ _ hb), _, rfl, ?_⟩
      rw [le_lex]
      have w7' := w7.sub (l' := [(fl, .lst ((as0 ++ [b]).map V.ref))]) (by walk_at "sub")
      generalize upd H6 T1 (.tup [V.int p, V.int r, V.int m]) = H8 at w7' ra7 ha7 ⊢
      refine ite2 (fun hle => ?_) (fun hle => ?_)
      · have e7 : rAway n (acc0 ++ [u]) code ns2 = .error ns2.length := by
          rw [f6]; exact if_neg (by simpa using hle)
        exact ⟨_, rfl, x, dx, _, rfl, ra7.ob, rd_none (by decide +kernel), _, rfl, x, ns2.length, rfl, ((er e7).go w7').less fun _ h => nomatch h⟩
      · have e7 : rAway n (acc0 ++ [u]) code ns2 = .ok ((p, r, m), ns5) := by
          rw [f6]; exact if_pos (by simpa using hle)
        refine ⟨_, rfl, .inl ⟨rfl, _, SqL.of (w7'.get 0 rfl)⟩, _, rfl, _, rfl, _, rfl, (by show 3 ≤ sizeLine; decide), fun T2 hT2 => ?_⟩
        have w8 := w7'.new1 (.tup [V.int p, V.int r, V.int m]) hT2
        exact ⟨_, _, _, rfl, rfl, w8.get 0 rfl, app w7', fin w7' ra7 ha7 e7 T2 hT2⟩
  · rintro σ H2 ⟨as, acc, ns2, s3, s4, s5, s6, s7, rfl, hl, w2, ha2, ra2, eq2⟩
    rw [Nat.sub_self] at eq2
    have eq3 : rAways n code ns = .ok (acc, ns2) := by rw [eq1, ← eq2]; rfl
    refine ⟨_, rfl, fl, _, rfl, .inl ⟨SqL.of (w2.get 0 rfl), fun p hp => ?_⟩⟩
    have c3 := ((Wd.refl H2).new (.tup (as.map V.ref)) hp)
    exact q.ok eq3 _ ((w2.sub (List.nil_sublist _)).fgo ((c3.sub (List.nil_sublist _)).mono fun _ h => nomatch h)) (ra2.keep c3) p as upd_same (ha2.keep c3.tups)
end
end Br

namespace Br
open PySem PySem.Spec PyProof.Rows L2
section
variable {P : Program} {w : World} {K : PySem.W.Frag} {mg : Str → Option Value} {base : Heap} {CR CE : Addr}
theorem dp_ints {H : Hp} : ∀ l : List Int, DpAll K H (l.map V.int) (l.map PyData.int)
  | [] => .nil
  | i :: l => .cons (.int i) (dp_ints l)
theorem shaped_ints (l : List Int) : SeqAt.shaped (.list (l.map PyData.int)) = true := by
  have := shaped_list (xs := l.map V.int) (fun v hv => by obtain ⟨i, _, rfl⟩ := List.mem_map.mp hv; trivial)
  rw [List.map_map] at this; exact this
abbrev sReader_read_makers : Stmt := inClass (topS 49) 6
theorem scReader_read_makers : FnScope ["self", "count", "found", "total", "index"] ["self", "count"] (defScope sReader_read_makers) := ⟨rfl, rfl, rfl, by decide +kernel, rfl, by decide +kernel, by decide +kernel⟩
def spRdM (CR CE : Addr) : Sp := fun vs H Q E => ∃ (x dx pc : Addr) (code : List V) (ns : List Int) (n : Nat), vs = [.ref x, .int n] ∧ n ≤ 6 ∧ RAt CR x dx pc code ns H ∧
  RdA CR CE x dx pc code H E (rMakers n code ns) fun l H' => ∀ p, H' p = some (.tup (l.map V.int)) → Q (.ref p) H'
theorem me_rmakers (D : MethAt K CR "read_makers" "Reader.read_makers" sReader_read_makers ["self", "count"]) (T : Bi mg) (RC : RdrCls K CR) (C1 : MeX P w K mg base 3 CR "read_byte" ["self", "low", "high"] (spRdB CR CE)) :
    MeX P w K mg base 4 CR "read_makers" ["self", "count"] (spRdM CR CE) := D.meX fun f fd F => by
  have nd := scReader_read_makers.nd
  have cl_Reader := RC.cl
  obtain ⟨f1, fd1, me_read_byte, b_read_byte, G_read_byte⟩ := C1.ex
  refine F.okX scReader_read_makers (fun vs H Q E h => ?_) (fun cdv A outer s H vs Q E hr h => ?_)
  · obtain ⟨x, dx, pc, code, ns, n, rfl, _⟩ := h; rfl
  obtain ⟨x, dx, pc, code, ns, n, rfl, n6, ra, q⟩ := h
  have hu := hr.units
  refine ⟨_, (pss_cons (ps_par (i := 2) (j := 3) (by rfl) nd rfl rfl (by decide) rfl rfl (pa_cons (pe_lst pa_nil) (pa_cons (pe_meth (pv 0) cl_Reader me_read_byte G_read_byte (hr.mono (by first | decide | omega)) b_read_byte .nil (passes_call (takes_of rfl rfl rfl rfl) (fun _ _ _ _ h => h)) (pa_cons pe_int (pa_cons (pv 1) pa_nil))) pa_nil)) (by rfl))
 (pss_cons (ps_for (passes_of rfl) rfl (pi_range1 (by rfl) T.range (pa_cons (pv 3) pa_nil)) (pg_name (i := 4) nd rfl (Or.inl rfl))
 (pss_one (ps_expr (pe_bmK (K := K) rfl PySem.F.plainAttrs_list PySem.F.slot_list_append PySem.F.type_list_append mt_append (pv 2) (pa_cons (pe_meth (pv 0) cl_Reader me_read_byte G_read_byte (hr.mono (by first | decide | omega)) b_read_byte .nil (passes_call (takes_of rfl rfl rfl rfl) (fun _ _ _ _ h => h)) (pa_cons (pe_ifExp (pt_cmpR (r := rNeD K) (op_neD hu) (pv 2) (pe_lst pa_nil) (nomark _)) (pe_op op_add (pe_ix (r := rIxL K) ix_list (pv 2) (pe_un un_neg pe_int) (fun _ _ => rfl)) pe_int) pe_int) (pa_cons (pe_op op_add (pe_op op_sub (pv 1) (pv 3)) (pv 4)) pa_nil))) pa_nil)))))
 (pss_one (ps_ret (pe_callTy (r := rTupOf K) call_tuple_of (by rfl) T.tuple (by decide +kernel) (pa_cons (pv 2) pa_nil)))))), ?_⟩
  refine ⟨(by show 0 ≤ sizeLine; decide), fun fl hfl => ?_⟩
  have w0 := ((Wd.refl H).new (.lst []) hfl)
  have ra0 := ra.keep w0
  have hfp : fl ≠ pc := (ne_of_none ra.cd hfl).symm
  have hfx : fl ≠ x := (ne_of_none ra.ob hfl).symm
  have w0' : Wd [x] H _ [(fl, .lst [])] := w0.mono fun _ h => nomatch h
  generalize upd H fl (.lst []) = H0 at w0' ra0 ⊢
  clear w0
  refine ⟨_, rfl, x, dx, _, rfl, ra0.ob, rd_none (by decide +kernel), _, rfl, x, dx, pc, code, ns, 0, n, rfl, ra0, RdA.mk (fun k ns1 e1 H1 c1 ra1 => ?_) (fun m e1 => (q.er (Rd.bind_er e1)).go w0')⟩
  obtain ⟨k1, k8, _, _⟩ := rByte_is e1
  have eq1 : rMakers n code ns = rMakerS n k k.toNat [] code ns1 := Rd.bind_ok e1
  have cl1 : ∀ {H' H''}, Wd [x] H' H'' [] → ∀ {u}, Wd [x] H H' [(fl, u)] → Wd [x] H H'' [(fl, u)] := fun c u w => w.callx c (fun _ h => h) (by intro q hq; simp only [List.mem_singleton] at hq; subst hq; simpa using hfx)
  have w1 := cl1 c1 w0'
  refine ⟨_, _, rfl, ?_⟩
  refine ⟨_, rfl, k, rfl, by omega, by omega, ?_⟩
  refine for_it (walk_range (lo := 0) (n := k.toNat)) (fun i σ H' => ∃ (acc ns' : List Int) (s4 : Option V), σ = [some (.ref x), some (.int n), some (.ref fl), some (.int k), s4] ∧ acc.length = i ∧ Wd [x] H H' [(fl, .lst (acc.map V.int))] ∧ RAt CR x dx pc code ns' H' ∧ rMakerS n k (k.toNat - i) acc code ns' = rMakerS n k k.toNat [] code ns1) ?_ (fun _ _ _ _ _ => trivial) ?_ ?_
  · exact ⟨[], ns1, _, rfl, rfl, w1, ra1, rfl⟩
  · rintro i xx σ H2 H2' hi ⟨acc, ns2, s4, rfl, hl, w2, ra2, eq2⟩ ⟨rfl, rfl⟩
    have hk : k.toNat - i = (k.toNat - (i + 1)) + 1 := by omega
    rw [hk, rMakerS, hl] at eq2
    have er : ∀ {m}, rByte (nextLo acc) (n - k + i) code ns2 = .error m → Er [x] CE (plX m) H E := fun e => q.er (by rw [eq1, ← eq2]; exact Rd.bind_er e)
    refine ⟨_, rfl, .inl ⟨rfl, _, SqL.of (w2.get 0 rfl)⟩, _, rfl, x, dx, _, rfl, ra2.ob, rd_none (by decide +kernel), ?_⟩
    refine ⟨_, rfl, (by show 0 ≤ sizeLine; decide), fun e he => ?_⟩
    have we := (Wd.refl H2').new (.lst []) he
    have w3 := w2.new1 (.lst []) he
    have ra3 := ra2.keep we
    refine ⟨.list (acc.map PyData.int), .list [], .lst (SqL.of (w3.get 0 rfl)) (dp_ints _), .lst (SqL.of (w3.get 1 rfl)) .nil, shaped_ints _, rfl, _, rfl, ?_⟩
    rw [eqv_nil]
    generalize upd H2' e (.lst []) = H3 at w3 ra3 ⊢
    have w3' := w3.sub (l' := [(fl, .lst (acc.map V.int))]) (by walk_at "sub")
    have fin : ∀ {b : Int} {ns3 : List Int} {H4 : Hp}, rByte (nextLo acc) (n - k + i) code ns2 = .ok (b, ns3) → Wd [x] H3 H4 [] → RAt CR x dx pc code ns3 H4 →
        ∃ (l : Addr) (xs : List V) (y : V), V.ref fl = .ref l ∧ [V.int b] = [y] ∧ H4 l = some (.lst xs) ∧ xs.length < sizeLine ∧
          ∃ (acc' ns' : List Int) (s4 : Option V), ([some (.ref x), some (.int n), some (.ref fl), some (.int k), some (.int (0 + (i : Nat)))] : L2.St) = [some (.ref x), some (.int n), some (.ref fl), some (.int k), s4] ∧ acc'.length = i + 1 ∧ Wd [x] H (upd H4 l (.lst (xs ++ [y]))) [(fl, .lst (acc'.map V.int))] ∧ RAt CR x dx pc code ns' (upd H4 l (.lst (xs ++ [y]))) ∧ rMakerS n k (k.toNat - (i + 1)) acc' code ns' = rMakerS n k k.toNat [] code ns1 := fun {b ns3 H4} e c ra4 => by
      rw [Rd.bind_ok e] at eq2
      have w4 := cl1 c w3'
      refine ⟨fl, _, _, rfl, rfl, w4.get 0 rfl, by rw [List.length_map]; exact small (by omega), acc ++ [b], ns3, _, rfl, by rw [List.length_append, hl]; rfl, ?_, ra4.putL _ (w4.get 0 rfl) hfp, eq2⟩
      rw [List.map_append]
      exact w4.put 0 (.lst (acc.map V.int ++ [V.int b])) rfl (fun _ q => by cases q)
    rcases snoc_cases acc with rfl | ⟨acc0, u, rfl⟩
    · refine iteF ?_
      refine ⟨_, rfl, _, rfl, _, _, rfl, rfl, _, rfl, _, _, rfl, rfl, x, dx, pc, code, ns2, 0, (n : Int) - k + (0 + (i : Nat)), rfl, ra3, ?_⟩
      rw [nextLo_nil] at er fin
      rw [Int.zero_add]
      exact RdA.mk (fun b ns3 e3 H4 c4 ra4 => fin e3 c4 ra4) (fun m e3 => (er e3).go w3')
    · have enb : (!(List.map PyData.int (acc0 ++ [u])).isEmpty) = true := by rw [List.map_append]; simp
      rw [enb]
      refine iteT ?_
      refine ⟨_, rfl, 1, rfl, fl, _, -1, V.int u, rfl, rfl, SqL.of (w3'.get 0 rfl), by rw [List.map_append]; exact atI_last _ _, _, _, rfl, rfl, _, rfl, _, rfl, _, _, rfl, rfl, _, rfl, _, _, rfl, rfl, x, dx, pc, code, ns2, u + 1, (n : Int) - k + (0 + (i : Nat)), rfl, ra3, ?_⟩
      rw [nextLo_snoc] at er fin
      rw [Int.zero_add]
      exact RdA.mk (fun b ns3 e3 H4 c4 ra4 => fin e3 c4 ra4) (fun m e3 => (er e3).go w3')
  · rintro σ H2 ⟨acc, ns2, s4, rfl, hl, w2, ra2, eq2⟩
    rw [Nat.sub_self] at eq2
    have eq3 : rMakers n code ns = .ok (acc, ns2) := by rw [eq1, ← eq2]; rfl
    refine ⟨_, rfl, fl, _, rfl, .inl ⟨SqL.of (w2.get 0 rfl), fun p hp => ?_⟩⟩
    have c3 := ((Wd.refl H2).new (.tup (acc.map V.int)) hp)
    exact q.ok eq3 _ ((w2.sub (List.nil_sublist _)).fgo ((c3.sub (List.nil_sublist _)).mono fun _ h => nomatch h)) (ra2.keep c3) p upd_same
end
end Br

namespace Br
open PySem PySem.Spec PyProof.Rows L2
theorem Wd.drop {x : Addr} {H H' : Hp} {l : List (Addr × HO)} (w : Wd [x] H H' l) (hx : H x = none) : Wd [] H H' l :=
  ⟨fun b o _ e => w.base b o (fun z => by rw [List.mem_singleton.mp z, hx] at e; cases e) e, w.tups, fun q hq => (w.own q hq).elim .inl fun h => .inl (by rw [List.mem_singleton.mp h]; exact hx), w.at_, w.nd, w.free⟩
theorem Er.new {x : Addr} {C : Addr} {fs : List (Str × V)} {H H1 : Hp} {E : XK} {l : List (Addr × HO)} (h : Er [] C fs H E) (hx : H x = none) (w : Wd [x] H H1 l) : Er [x] C fs H1 E := fun d H' c e => h d H' (((w.sub (List.nil_sublist _)).fgo c).drop hx) e
section
variable {P : Program} {w : World} {K : PySem.W.Frag} {mg : Str → Option Value} {base : Heap} {CR CE : Addr}
abbrev sdecode : Stmt := topS 50
theorem scdecode : FnScope ["code", "reader", "names", "weights", "person", "turns", "aways", "makers", "checksum"] ["code"] (defScope sdecode) := ⟨rfl, rfl, rfl, by decide +kernel, rfl, by decide +kernel, by decide +kernel⟩
def spDecode (CE : Addr) : Sp := fun vs H Q E => (∃ (v : V) (t : String), vs = [v] ∧ Ky H v t ∧ t ≠ "list" ∧ Er [] CE (plX 0) H E) ∨
  ∃ (pc : Addr) (code : List V), vs = [.ref pc] ∧ H pc = some (.lst code) ∧ code.length ≤ 1000 ∧ (∀ v ∈ code, ∃ t, Ky H v t) ∧ match rAll code [] with
    | .ok (r, _) => ROk r ∧ ∀ H', Wd [] H H' [] → Q (.str (textOf r)) H'
    | .error n => Er [] CE (plX n) H E
theorem cal_decode (D : DefAt K mg "decode" sdecode ["code"]) (T : Bi mg) (RC : RdrCls K CR) (EC : EncC mg) (hM6 : ∃ t, mg "MAX_PEOPLE" = some (.int 6 t)) (hM9 : ∃ t, mg "MAX_WEIGHT" = some (.int 9 t)) (EX_InvalidCode : ExAt P w K mg base "InvalidCode" CE ["place"])
    (CM : MkAt P w K mg base 1 "Reader" CR ["self", "code"] (spRdI CR)) (C1 : MeX P w K mg base 3 CR "read_byte" ["self", "low", "high"] (spRdB CR CE)) (C2 : MeX P w K mg base 4 CR "read_name" ["self", "names"] (spRdN CR CE))
    (C3 : MeX P w K mg base 4 CR "read_turns" ["self", "count"] (spRdT CR CE)) (C4 : MeX P w K mg base 4 CR "read_aways" ["self", "count"] (spRdW CR CE)) (C5 : MeX P w K mg base 4 CR "read_makers" ["self", "count"] (spRdM CR CE))
    (C6 : Cal P w K mg base 1 "format_parsed" ["parsed"] spText) : CalX P w K mg base 5 "decode" ["code"] (spDecode CE) := D.calX fun f fd F => by
  have nd := scdecode.nd
  have cl_Reader := RC.cl
  obtain ⟨t1, c_TAG⟩ := EC.TAG
  obtain ⟨t2, c_BYTE⟩ := EC.BYTE
  obtain ⟨t3, c_MAX_PEOPLE⟩ := hM6
  obtain ⟨t4, c_MAX_WEIGHT⟩ := hM9
  obtain ⟨f0, fd0, mC_Reader, Mk_Reader, b_Reader, G_Reader⟩ := CM.ex
  obtain ⟨f1, fd1, me_read_byte, b_read_byte, G_read_byte⟩ := C1.ex
  obtain ⟨f2, fd2, me_read_name, b_read_name, G_read_name⟩ := C2.ex
  obtain ⟨f3, fd3, me_read_turns, b_read_turns, G_read_turns⟩ := C3.ex
  obtain ⟨f4, fd4, me_read_aways, b_read_aways, G_read_aways⟩ := C4.ex
  obtain ⟨f5, fd5, me_read_makers, b_read_makers, G_read_makers⟩ := C5.ex
  obtain ⟨f6, fd6, m_format_parsed, kp_format_parsed, b_format_parsed, G_format_parsed⟩ := C6.ex
  refine F.okX scdecode (fun vs H Q E h => ?_) (fun cdv A outer s H vs Q E hr h => ?_)
  · rcases h with ⟨v, t, rfl, _⟩ | ⟨pc, code, rfl, _⟩ <;> rfl
  refine ⟨_, (pss_cons (ps_if (pt_not (pt_val (pe_callB call_isi (by rfl) T.isinstance (by decide +kernel) (pa_cons (pv 0) (pa_cons (pe_bltn (v := .ty "list") (by rfl) T.list (by decide +kernel) rfl) pa_nil)))))
 (pss_one (ps_raise rfl (takes_of rfl rfl rfl rfl) (pmk_ex EX_InvalidCode (hr.mono (by first | decide | omega)) (by rfl) (pa_cons pe_int pa_nil) (by decide))))
 pss_nil)
 (pss_cons (ps_set (i := 1) nd rfl (Or.inl rfl) (pe_make Mk_Reader G_Reader (hr.mono (by first | decide | omega)) (by rfl) mC_Reader b_Reader .nil pass0 (pa_cons (pv 0) pa_nil)))
 (pss_cons (ps_expr (pe_meth (pv 1) cl_Reader me_read_byte G_read_byte (hr.mono (by first | decide | omega)) b_read_byte .nil (passes_call (takes_of rfl rfl rfl rfl) (fun _ _ _ _ h => h)) (pa_cons (pe_glob (v := .int 66) (by rfl) c_TAG ⟨_, rfl⟩) (pa_cons (pe_glob (v := .int 66) (by rfl) c_TAG ⟨_, rfl⟩) pa_nil))))
 (pss_cons (ps_par (i := 2) (j := 3) (by rfl) nd rfl rfl (by decide) rfl rfl (pa_cons (pe_lst pa_nil) (pa_cons (pe_lst pa_nil) pa_nil)) (by rfl))
 (pss_cons (ps_for (passes_of rfl) rfl (pi_range1 (by rfl) T.range (pa_cons (pe_meth (pv 1) cl_Reader me_read_byte G_read_byte (hr.mono (by first | decide | omega)) b_read_byte .nil (passes_call (takes_of rfl rfl rfl rfl) (fun _ _ _ _ h => h)) (pa_cons pe_int (pa_cons (pe_glob (v := .int 6) (by rfl) c_MAX_PEOPLE ⟨_, rfl⟩) pa_nil))) pa_nil)) (pg_name (i := 4) nd rfl (Or.inl rfl))
 (pss_cons (ps_expr (pe_bmK (K := K) rfl PySem.F.plainAttrs_list PySem.F.slot_list_append PySem.F.type_list_append mt_append (pv 2) (pa_cons (pe_meth (pv 1) cl_Reader me_read_name G_read_name (hr.mono (by first | decide | omega)) b_read_name .nil (passes_call (takes_of rfl rfl rfl rfl) (fun _ _ _ _ h => h)) (pa_cons (pv 2) pa_nil)) pa_nil)))
 (pss_one (ps_expr (pe_bmK (K := K) rfl PySem.F.plainAttrs_list PySem.F.slot_list_append PySem.F.type_list_append mt_append (pv 3) (pa_cons (pe_meth (pv 1) cl_Reader me_read_byte G_read_byte (hr.mono (by first | decide | omega)) b_read_byte .nil (passes_call (takes_of rfl rfl rfl rfl) (fun _ _ _ _ h => h)) (pa_cons pe_int (pa_cons (pe_glob (v := .int 9) (by rfl) c_MAX_WEIGHT ⟨_, rfl⟩) pa_nil))) pa_nil))))))
 (pss_cons (ps_set (i := 5) nd rfl (Or.inl rfl) (pe_meth (pv 1) cl_Reader me_read_turns G_read_turns (hr.mono (by first | decide | omega)) b_read_turns .nil (passes_call (takes_of rfl rfl rfl rfl) (fun _ _ _ _ h => h)) (pa_cons (pe_callB (r := rLenS K) call_len_seq (by rfl) T.len PySem.boot_len (pa_cons (pv 2) pa_nil)) pa_nil)))
 (pss_cons (ps_set (i := 6) nd rfl (Or.inl rfl) (pe_meth (pv 1) cl_Reader me_read_aways G_read_aways (hr.mono (by first | decide | omega)) b_read_aways .nil (passes_call (takes_of rfl rfl rfl rfl) (fun _ _ _ _ h => h)) (pa_cons (pe_callB (r := rLenS K) call_len_seq (by rfl) T.len PySem.boot_len (pa_cons (pv 2) pa_nil)) pa_nil)))
 (pss_cons (ps_set (i := 7) nd rfl (Or.inl rfl) (pe_meth (pv 1) cl_Reader me_read_makers G_read_makers (hr.mono (by first | decide | omega)) b_read_makers .nil (passes_call (takes_of rfl rfl rfl rfl) (fun _ _ _ _ h => h)) (pa_cons (pe_callB (r := rLenS K) call_len_seq (by rfl) T.len PySem.boot_len (pa_cons (pv 2) pa_nil)) pa_nil)))
 (pss_cons (ps_set (i := 8) nd rfl (Or.inl rfl) (pe_op op_modN (pe_callB (r := L2.rSum K) (cr_sum rfl) (by rfl) T.sum (by decide +kernel) (pa_cons (pe_slice (r := rSlL K) sl_list (pv 0) po_none (po_some (pe_fldK (K := K) rfl (pv 1) rfl))) pa_nil)) (pe_glob (v := .int 256) (by rfl) c_BYTE ⟨_, rfl⟩)))
 (pss_cons (ps_expr (pe_meth (pv 1) cl_Reader me_read_byte G_read_byte (hr.mono (by first | decide | omega)) b_read_byte .nil (passes_call (takes_of rfl rfl rfl rfl) (fun _ _ _ _ h => h)) (pa_cons (pv 8) (pa_cons (pv 8) pa_nil))))
 (pss_cons (ps_if (pt_cmpR op_lt (pe_fldK (K := K) rfl (pv 1) rfl) (pe_callB (r := rLenS K) call_len_seq (by rfl) T.len PySem.boot_len (pa_cons (pv 0) pa_nil)) (nomark _))
 (pss_one (ps_raise rfl (takes_of rfl rfl rfl rfl) (pmk_ex EX_InvalidCode (hr.mono (by first | decide | omega)) (by rfl) (pa_cons (pe_fldK (K := K) rfl (pv 1) rfl) pa_nil) (by decide))))
 pss_nil)
 (pss_one (ps_ret (pe_call G_format_parsed (hr.mono (by first | decide | omega)) (by rfl) m_format_parsed kp_format_parsed b_format_parsed .nil pass0 (pa_cons (pe_tup (pa_cons (pe_callTy (r := rTupOf K) call_tuple_of (by rfl) T.tuple (by decide +kernel) (pa_cons (pv 2) pa_nil)) (pa_cons (pv 5) (pa_cons (pe_callTy (r := rTupOf K) call_tuple_of (by rfl) T.tuple (by decide +kernel) (pa_cons (pv 3) pa_nil)) (pa_cons (pv 6) (pa_cons (pv 7) pa_nil)))))) pa_nil))))))))))))))), ?_⟩
  rcases h with ⟨v, t, rfl, kv, ht, e⟩ | ⟨pc, code, rfl, hpc, hlen, hkn, q⟩
  · have k1 := kit_is (K := K) kv.mem (T := "list") (by decide)
    have k2 : isA t "list" = false := by
      unfold isA
      rw [beq_eq_false_iff_ne.mpr ht, Bool.and_eq_false_iff.mpr (.inr (by decide))]; rfl
    rw [k2] at k1
    exact ⟨_, rfl, _, _, _, .type "list", _, rfl, .ty "list", kv.ty, k1, _, rfl, iteT ⟨rfl, fun d H' c => e.of d H' c⟩⟩
  have er : ∀ {n}, rAll code [] = .error n → Er [] CE (plX n) H E := fun e => by rw [e] at q; exact q
  refine ⟨_, rfl, _, _, _, .type "list", _, rfl, .ty "list", (Ky.lst hpc).ty, kit_is (K := K) (Ky.lst hpc).mem (T := "list") (by decide), _, rfl, iteF ?_⟩
  refine ⟨_, rfl, ?_⟩
  intro x dx hx hd ne
  have w1 := (Wd.refl H).make CR hx hd ne
  refine ⟨x, dx, pc, rfl, upd_same, fun H1 c1 => ⟨rfl, ?_⟩⟩
  have w2 := w1.call1 (fun _ q => by cases q) c1
  have ra0 : RAt CR x dx pc code [] H1 := ⟨w2.get 0 rfl, w2.base _ _ (by simp) hpc, fun v hv => (hkn v hv).imp fun t h => h.keep w2 (by simp), rfl⟩
  have w3 : Wd [x] H H1 [] := (w2.sub (List.nil_sublist _)).mono fun _ h => nomatch h
  -- the tag
  refine ⟨_, rfl, x, dx, _, rfl, ra0.ob, rd_none (by decide +kernel), x, dx, pc, code, [], 66, 66, rfl, ra0, RdA.mk (fun tg ns1 e1 H2 c2 ra1 => ?_) (fun m e1 => (er (Rd.bind_er e1)).new hx w3)⟩
  have w4 := w3.fgo c2
  have g1 := (Rd.bind_ok e1 : rAll code [] = _)
  refine ⟨(by show 0 ≤ sizeLine; decide), fun nl hnl => ?_⟩
  have w5 := w4.new (.lst []) hnl
  refine ⟨(by show 0 ≤ sizeLine; decide), fun wl hwl => ?_⟩
  have w6 := w5.new (.lst []) hwl
  have ra2 := (ra1.keep ((Wd.refl H2).new (.lst []) hnl)).keep ((Wd.refl _).new (.lst []) hwl)
  have nlx : nl ≠ x := (ne_of_none ra1.ob hnl).symm
  have nlp : nl ≠ pc := (ne_of_none ra1.cd hnl).symm
  have wlx : wl ≠ x := (ne_of_none (ra1.keep ((Wd.refl H2).new (.lst []) hnl)).ob hwl).symm
  have wlp : wl ≠ pc := (ne_of_none (ra1.keep ((Wd.refl H2).new (.lst []) hnl)).cd hwl).symm
  generalize upd (upd H2 nl (.lst [])) wl (.lst []) = H3 at w6 ra2 ⊢
  have cl2 : ∀ {H' H'' : Hp} {u v : HO}, Wd [x] H' H'' [] → Wd [x] H H' [(wl, u), (nl, v)] → Wd [x] H H'' [(wl, u), (nl, v)] := fun c w => w.callx c (fun _ h => h) (by
    intro q hq; simp only [List.mem_cons, List.not_mem_nil, or_false] at hq
    rcases hq with rfl | rfl
    · simpa using wlx
    · simpa using nlx)
  refine ⟨_, _, rfl, ?_⟩
  refine ⟨_, rfl, x, dx, _, rfl, ra2.ob, rd_none (by decide +kernel), x, dx, pc, code, ns1, 1, 6, rfl, ra2, RdA.mk (fun k ns2 e2 H4 c4 ra4 => ?_) (fun m e2 => (er (g1.trans (Rd.bind_er e2))).new hx w6)⟩
  obtain ⟨k1, k6, _, _⟩ := rByte_is e2
  have g2 := g1.trans (Rd.bind_ok e2)
  have w7 := cl2 c4 w6
  refine ⟨k, rfl, by omega, by omega, ?_⟩
  refine for_it (walk_range (lo := 0) (n := k.toNat)) (fun i σ H' => ∃ (nm : List Str) (ws ns' : List Int) (s4 : Option V), σ = [some (.ref pc), some (.ref x), some (.ref nl), some (.ref wl), s4, none, none, none, none] ∧ nm.length = i ∧ ws.length = i ∧
    Wd [x] H H' [(wl, .lst (ws.map V.int)), (nl, .lst (nm.map V.str))] ∧ RAt CR x dx pc code ns' H' ∧ rPeople (k.toNat - i) nm ws code ns' = rPeople k.toNat [] [] code ns2) ?_ (fun _ _ _ _ _ => trivial) ?_ ?_
  · exact ⟨[], [], ns2, _, rfl, rfl, rfl, w7, ra4, rfl⟩
  · rintro i xx σ H5 H5' hi ⟨nm, ws, ns3, s4, rfl, hl1, hl2, w8, ra5, eq2⟩ ⟨rfl, rfl⟩
    have hk : k.toNat - i = (k.toNat - (i + 1)) + 1 := by omega
    rw [hk, rPeople] at eq2
    have erP : ∀ {m}, ((rName nm).bind fun z => (rByte 1 9).bind fun b => rPeople (k.toNat - (i + 1)) (nm ++ [z]) (ws ++ [b])) code ns3 = .error m → Er [] CE (plX m) H E := fun e => er (g2.trans (Rd.bind_er (eq2.symm.trans e)))
    refine ⟨_, rfl, .inl ⟨rfl, _, SqL.of (w8.get 1 rfl)⟩, _, rfl, x, dx, _, rfl, ra5.ob, rd_none (by decide +kernel), _, rfl, x, dx, pc, nl, code, ns3, nm, rfl, ra5, w8.get 1 rfl, RdA.mk (fun z ns4 e4 H6 c6 ra6 => ?_) (fun m e4 => (erP (Rd.bind_er e4)).new hx w8)⟩
    have g4 := (Rd.bind_ok e4 : ((rName nm).bind fun z => (rByte 1 9).bind fun b => rPeople (k.toNat - (i + 1)) (nm ++ [z]) (ws ++ [b])) code ns3 = _)
    have w9 := cl2 c6 w8
    refine ⟨nl, _, _, rfl, rfl, w9.get 1 rfl, by rw [List.length_map]; exact small (by omega), ?_⟩
    have w10 := w9.put 1 (.lst (nm.map V.str ++ [V.str z])) rfl (fun _ q => by cases q)
    have ra7 := ra6.putL (nm.map V.str ++ [V.str z]) (w9.get 1 rfl) nlp
    refine ⟨_, rfl, .inl ⟨rfl, _, SqL.of (w10.get 0 rfl)⟩, _, rfl, x, dx, _, rfl, ra7.ob, rd_none (by decide +kernel), x, dx, pc, code, ns4, 1, 9, rfl, ra7, RdA.mk (fun b ns5 e5 H7 c7 ra8 => ?_) (fun m e5 => (erP (g4.trans (Rd.bind_er e5))).new hx w10)⟩
    have g5 := g4.trans (Rd.bind_ok e5)
    have w11 := cl2 c7 w10
    refine ⟨wl, _, _, rfl, rfl, w11.get 0 rfl, by rw [List.length_map]; exact small (by omega), nm ++ [z], ws ++ [b], ns5, _, rfl, by rw [List.length_append, hl1]; rfl, by rw [List.length_append, hl2]; rfl, ?_, ra8.putL _ (w11.get 0 rfl) wlp, g5.symm.trans eq2⟩
    rw [List.map_append, List.map_append]
    exact w11.put 0 (.lst (ws.map V.int ++ [V.int b])) rfl (fun _ q => by cases q)
  · rintro σ H5 ⟨nm, ws, ns3, s4, rfl, hl1, hl2, w8, ra5, eq2⟩
    rw [Nat.sub_self] at eq2
    have g3 := g2.trans (Rd.bind_ok (eq2.symm.trans rfl))
    dsimp only at g3
    have hnl6 : nm.length ≤ 6 := by omega
    -- the turns
    refine ⟨_, rfl, x, dx, _, rfl, ra5.ob, rd_none (by decide +kernel), _, rfl, nl, _, rfl, .inl (SqL.of (w8.get 1 rfl)), x, dx, pc, code, ns3, nm.length, by rw [List.length_map]; rfl, hnl6, ra5, RdA.mk (fun ts ns4 e4 H6 c6 ra6 => ?_) (fun m e4 => (er (g3.trans (Rd.bind_er e4))).new hx w8)⟩
    have g4 := g3.trans (Rd.bind_ok e4)
    have w9 := cl2 c6 w8
    refine fun tq htq => ?_
    refine ⟨_, rfl, x, dx, _, rfl, ra6.ob, rd_none (by decide +kernel), _, rfl, nl, _, rfl, .inl (SqL.of (w9.get 1 rfl)), x, dx, pc, code, ns4, nm.length, by rw [List.length_map]; rfl, ra6, RdA.mk (fun as ns5 e5 H7 c7 ra7 => ?_) (fun m e5 => (er (g4.trans (Rd.bind_er e5))).new hx w9)⟩
    have g5 := g4.trans (Rd.bind_ok e5)
    have w10 := cl2 c7 w9
    have htq7 := c7.tups _ _ htq
    refine fun aq aas haq haw => ?_
    refine ⟨_, rfl, x, dx, _, rfl, ra7.ob, rd_none (by decide +kernel), _, rfl, nl, _, rfl, .inl (SqL.of (w10.get 1 rfl)), x, dx, pc, code, ns5, nm.length, by rw [List.length_map]; rfl, hnl6, ra7, RdA.mk (fun ms ns6 e6 H8 c8 ra8 => ?_) (fun m e6 => (er (g5.trans (Rd.bind_er e6))).new hx w10)⟩
    have g6 := g5.trans (Rd.bind_ok e6)
    have w11 := cl2 c8 w10
    have htq8 := c8.tups _ _ htq7
    have haq8 := c8.tups _ _ haq
    have haw8 := haw.keep c8.tups
    refine fun mq hmq => ?_
    -- the checksum
    refine ⟨_, rfl, _, rfl, x, CR, dx, _, _, rfl, ra8.ob, RC.cl, RC.np, rd_place, _, rfl, pc, code, rfl, SqL.of ra8.cd, fun sp hsp => ?_⟩
    rw [cut_take _ (by omega), Int.toNat_natCast, ra8.pre]
    have w12 := w11.new (.lst (ns6.map V.int)) hsp
    have ra9 := ra8.keep ((Wd.refl H8).new (.lst (ns6.map V.int)) hsp)
    have htq9 := ((Wd.refl H8).new (.lst (ns6.map V.int)) hsp).tups _ _ htq8
    have haq9 := ((Wd.refl H8).new (.lst (ns6.map V.int)) hsp).tups _ _ haq8
    have hmq9 := ((Wd.refl H8).new (.lst (ns6.map V.int)) hsp).tups _ _ hmq
    have haw9 := haw8.keep ((Wd.refl H8).new (.lst (ns6.map V.int)) hsp).tups
    refine ⟨sp, ns6, rfl, SqL.of (w12.get 0 rfl), _, _, rfl, rfl, (by show (256 : Int) ≠ 0; decide), ?_⟩
    have w13 := w12.sub (l' := [(wl, .lst (ws.map V.int)), (nl, .lst (nm.map V.str))]) (by walk_at "sub")
    generalize upd H8 sp (.lst (ns6.map V.int)) = H9 at w13 ra9 htq9 haq9 hmq9 haw9 ⊢
    refine ⟨_, rfl, x, dx, _, rfl, ra9.ob, rd_none (by decide +kernel), _, rfl, _, rfl, x, dx, pc, code, ns6, ns6.sum.fmod 256, ns6.sum.fmod 256, rfl, ra9, RdA.mk (fun cs ns7 e7 H10 c10 ra10 => ?_) (fun m e7 => (er (g6.trans (Rd.bind_er e7))).new hx w13)⟩
    have g7 := g6.trans (Rd.bind_ok e7)
    have w14 := cl2 c10 w13
    refine ⟨_, rfl, x, CR, dx, _, _, rfl, ra10.ob, RC.cl, RC.np, rd_place, _, rfl, pc, _, rfl, .inl (SqL.of ra10.cd), _, _, rfl, rfl, _, rfl, ite2 (fun hlt => ?_) (fun hlt => ?_)⟩
    · have hlt' : ns7.length < code.length := by have := of_decide_eq_true hlt; omega
      have e8 : rAll code [] = .error ns7.length := g7.trans (if_pos hlt')
      exact ⟨_, rfl, x, CR, dx, _, _, rfl, ra10.ob, RC.cl, RC.np, rd_place, rfl, fun d H' c => ((er e8).new hx w14).of d H' c⟩
    · have hlt' : ¬ ns7.length < code.length := by
        intro h; exact hlt (decide_eq_true (by omega))
      have e8 : rAll code [] = .ok (⟨nm, ts, ws, as, ms⟩, ns7) := g7.trans (if_neg hlt')
      rw [e8] at q
      obtain ⟨ok, q⟩ := q
      have htq10 := c10.tups _ _ htq9
      have haq10 := c10.tups _ _ haq9
      have hmq10 := c10.tups _ _ hmq9
      have haw10 := haw9.keep c10.tups
      refine ⟨_, rfl, nl, _, rfl, .inl ⟨SqL.of (w14.get 1 rfl), fun np hnp => ?_⟩⟩
      have v1 := (Wd.refl H10).new (.tup (nm.map V.str)) hnp
      have u1 := w14.new (.tup (nm.map V.str)) hnp
      refine ⟨_, rfl, _, rfl, wl, _, rfl, .inl ⟨SqL.of (u1.get 1 rfl), fun wp hwp => ?_⟩⟩
      have v2 := v1.new (.tup (ws.map V.int)) hwp
      have u2 := u1.new (.tup (ws.map V.int)) hwp
      refine ⟨_, rfl, _, rfl, (by show 5 ≤ sizeLine; decide), fun a ha => ?_⟩
      have v3 := v2.new (.tup [V.ref np, V.ref tq, V.ref wp, V.ref aq, V.ref mq]) ha
      refine ⟨a, ⟨nm, ts, ws, as, ms⟩, rfl, ⟨np, tq, wp, aq, mq, aas, v3.get 0 rfl, v3.get 2 rfl, v3.tups _ _ htq10, v3.get 1 rfl, v3.tups _ _ haq10, haw10.keep v3.tups, v3.tups _ _ hmq10⟩, ok, fun H11 c11 => q H11 ?_⟩
      exact (((w14.sub (List.nil_sublist _)).fgo ((v3.sub (List.nil_sublist _)).mono fun _ h => nomatch h)).fgo (c11.mono fun _ h => nomatch h)).drop hx
end
end Br

namespace Br
open PySem PySem.Spec PyProof.Rows L2
/-! ### the bytes read back -/
theorem rb {lo hi b : Int} {code : List V} {ns rest : List Int} (hc : code = (ns ++ b :: rest).map V.int) (h1 : lo ≤ b) (h2 : b ≤ hi) : rByte lo hi code ns = .ok (b, ns ++ [b]) :=
  rByte_ok (by rw [hc, List.getElem?_map, List.getElem?_append_right (Nat.le_refl _), Nat.sub_self]; rfl) h1 h2
theorem rmany {lo hi : Int} {code : List V} : ∀ {l acc ns rest : List Int}, code = (ns ++ (l ++ rest)).map V.int → (∀ b ∈ l, lo ≤ b ∧ b ≤ hi) → rMany lo hi l.length acc code ns = .ok (acc ++ l, ns ++ l)
  | [], acc, ns, rest, hc, _ => by rw [List.append_nil, List.append_nil]; rfl
  | b :: l, acc, ns, rest, hc, h => by
    rw [List.length_cons, rMany, Rd.bind_ok (rb hc (h b List.mem_cons_self).1 (h b List.mem_cons_self).2), rmany (l := l) (rest := rest) (by rw [hc]; simp) (fun c hc => h c (List.mem_cons_of_mem _ hc))]
    simp
theorem six_facts : ∀ z ∈ six, z ∉ kws ∧ 1 ≤ z.length ∧ z.length ≤ 8 ∧ ∀ c ∈ TL.tl z, 97 ≤ c ∧ c ≤ 122 := by decide +kernel
theorem word_back {z : Str} (h : ∀ c ∈ TL.tl z, 97 ≤ c ∧ c ≤ 122) : wordOf ((TL.tl z).map fun c => ((c - 97 : Nat) : Int)) = z := by
  refine TL.ext_tl ?_
  show (((TL.tl z).map fun c => ((c - 97 : Nat) : Int)).map fun i => i.toNat + 97) = TL.tl z
  rw [List.map_map]
  conv => rhs; rw [← List.map_id (TL.tl z)]
  refine List.map_congr_left fun c hc => ?_
  have := (h c hc).1
  show ((c - 97 : Nat) : Int).toNat + 97 = c
  omega
theorem rname {z : Str} {names : List Str} {code : List V} {ns rest : List Int} (hz : z ∈ six) (hn : z ∉ names) (hc : code = (ns ++ (nameB z ++ rest)).map V.int) : rName names code ns = .ok (z, ns ++ nameB z) := by
  obtain ⟨h1, h2, h3, h4⟩ := six_facts z hz
  unfold rName
  have hl : ((TL.tl z).map fun c => ((c - 97 : Nat) : Int)).length = z.length := by rw [List.length_map, ← TL.len_tl]
  rw [Rd.bind_ok (rb (rest := ((TL.tl z).map fun c => ((c - 97 : Nat) : Int)) ++ rest) (b := (z.length : Int)) (by rw [hc]; rfl) (by omega) (by omega)), Int.toNat_natCast, ← hl]
  rw [Rd.bind_ok (rmany (acc := []) (l := (TL.tl z).map fun c => ((c - 97 : Nat) : Int)) (rest := rest) (by rw [hc, hl]; unfold nameB; simp) (fun b hb => by
    obtain ⟨c, hc, rfl⟩ := List.mem_map.mp hb
    have := h4 c hc
    omega)), List.nil_append, word_back h4, hl]
  unfold rNameE
  rw [if_neg (by rintro (h | h); exact h1 h; exact hn h)]
  unfold nameB
  rw [List.append_assoc]; rfl
theorem rpeople {code : List V} : ∀ {l : List (Str × Int)} {nm : List Str} {ws ns rest : List Int}, code = (ns ++ ((l.flatMap fun q => nameB q.1 ++ [q.2]) ++ rest)).map V.int → (∀ q ∈ l, q.1 ∈ six ∧ 1 ≤ q.2 ∧ q.2 ≤ 9) → (nm ++ l.map (·.1)).Nodup →
    rPeople l.length nm ws code ns = .ok ((nm ++ l.map (·.1), ws ++ l.map (·.2)), ns ++ (l.flatMap fun q => nameB q.1 ++ [q.2]))
  | [], nm, ws, ns, rest, hc, _, _ => by simp [rPeople, Rd.ret]
  | q :: l, nm, ws, ns, rest, hc, h, hn => by
    obtain ⟨h1, h2, h3⟩ := h q List.mem_cons_self
    have hq : q.1 ∉ nm := fun hm => by
      rw [List.map_cons, List.nodup_append] at hn
      exact hn.2.2 _ hm _ List.mem_cons_self rfl
    rw [List.flatMap_cons] at hc
    rw [List.length_cons, rPeople, Rd.bind_ok (rname (rest := [q.2] ++ ((l.flatMap fun q => nameB q.1 ++ [q.2]) ++ rest)) h1 hq (by rw [hc]; simp)),
      Rd.bind_ok (rb (b := q.2) (rest := (l.flatMap fun q => nameB q.1 ++ [q.2]) ++ rest) (by rw [hc]; simp) h2 h3),
      rpeople (l := l) (rest := rest) (by rw [hc]; simp) (fun x hx => h x (List.mem_cons_of_mem _ hx)) (by rw [List.map_cons] at hn; simpa using hn)]
    simp
theorem rturns {code : List V} {l ns rest : List Int} {n : Nat} (hc : code = (ns ++ ((l.length : Int) :: (l ++ rest))).map V.int) (h : ∀ t ∈ l, 0 ≤ t ∧ t < n) (hall : ∀ k : Nat, k < n → (k : Int) ∈ l) (h1 : n ≤ l.length) (h2 : l.length ≤ 12) :
    rTurns n code ns = .ok (l, ns ++ ((l.length : Int) :: l)) := by
  unfold rTurns
  rw [Rd.bind_ok (rb (rest := l ++ rest) hc (by omega) (by omega)), Int.toNat_natCast, Rd.bind_ok (rmany (acc := []) (l := l) (rest := rest) (by rw [hc]; simp) (fun b hb => by have := h b hb; omega)), List.nil_append]
  unfold rTurnsE
  rw [if_pos hall, List.append_assoc]; rfl
theorem raway {code : List V} {found : List (Int × Int × Int)} {t : Int × Int × Int} {ns rest : List Int} {n : Nat} (hc : code = (ns ++ (t.1 :: t.2.1 :: t.2.2 :: rest)).map V.int) (ok : AwOk n t) (hl : ∀ u, found.getLast? = some u → lexLt u t) :
    rAway n found code ns = .ok (t, ns ++ [t.1, t.2.1, t.2.2]) := by
  obtain ⟨g1, g2, g3, g4, g5⟩ := ok
  have g6 : t.2.2 ≤ 12 := by simp at g5; omega
  unfold rAway
  rw [Rd.bind_ok (rb (rest := t.2.1 :: t.2.2 :: rest) hc g1 (by omega)), Rd.bind_ok (rb (b := t.2.1) (rest := t.2.2 :: rest) (by rw [hc]; simp) g3 (by omega)), Rd.bind_ok (rb (b := t.2.2) (rest := rest) (by rw [hc]; simp) (by omega) g6)]
  unfold rAwayE
  rw [if_neg (fun h => h g5)]
  have en : ns ++ [t.1] ++ [t.2.1] ++ [t.2.2] = ns ++ [t.1, t.2.1, t.2.2] := by simp
  cases hg : found.getLast? with
  | none => rw [en]
  | some u =>
    dsimp only
    rw [if_pos (hl u hg), en]
theorem raways {code : List V} {n : Nat} : ∀ {l found : List (Int × Int × Int)} {ns rest : List Int}, code = (ns ++ ((l.flatMap fun t => [t.1, t.2.1, t.2.2]) ++ rest)).map V.int → (∀ t ∈ l, AwOk n t) → (found ++ l).Pairwise lexLt →
    rAwayS n l.length found code ns = .ok (found ++ l, ns ++ (l.flatMap fun t => [t.1, t.2.1, t.2.2]))
  | [], found, ns, rest, hc, _, _ => by simp [rAwayS, Rd.ret]
  | t :: l, found, ns, rest, hc, h, hp => by
    rw [List.flatMap_cons] at hc
    rw [List.length_cons, rAwayS, Rd.bind_ok (raway (rest := (l.flatMap fun t => [t.1, t.2.1, t.2.2]) ++ rest) (by rw [hc]; simp) (h t List.mem_cons_self) (fun u hu => by
        have hm : u ∈ found := List.mem_of_getLast? hu
        exact (List.pairwise_append.mp hp).2.2 u hm t List.mem_cons_self)),
      raways (l := l) (rest := rest) (by rw [hc]; simp) (fun x hx => h x (List.mem_cons_of_mem _ hx)) (by simpa using hp)]
    simp
theorem rmakers {code : List V} {n : Nat} {total : Int} : ∀ {l found : List Int} {ns rest : List Int}, code = (ns ++ (l ++ rest)).map V.int → total = (found ++ l).length → (∀ k ∈ l, 0 ≤ k ∧ k < n) → (found ++ l).Pairwise (· < ·) →
    rMakerS n total l.length found code ns = .ok (found ++ l, ns ++ l)
  | [], found, ns, rest, hc, _, _, _ => by simp [rMakerS, Rd.ret]
  | k :: l, found, ns, rest, hc, ht, h, hp => by
    have hk := h k List.mem_cons_self
    have hp2 := List.pairwise_append.mp hp
    have hlo : nextLo found ≤ k := by
      rcases snoc_cases found with rfl | ⟨f0, u, rfl⟩
      · rw [nextLo_nil]; exact hk.1
      · rw [nextLo_snoc]
        have := hp2.2.2 u (by simp) k List.mem_cons_self
        omega
    have hhi : k ≤ n - total + found.length := by
      have h1 : (l.map fun i => i - k - 1).Pairwise (· < ·) := by
        rw [List.pairwise_map]
        exact (List.pairwise_cons.mp hp2.2.1).2.imp fun h => by omega
      have h2 : ∀ i ∈ (l.map fun i => i - k - 1), 0 ≤ i ∧ i < ((n - k - 1 : Int).toNat : Nat) := fun i hi => by
        obtain ⟨j, hj, rfl⟩ := List.mem_map.mp hi
        have a := (List.pairwise_cons.mp hp2.2.1).1 j hj
        have b := h j (List.mem_cons_of_mem _ hj)
        omega
      have h3 := asc_len h1 h2
      rw [List.length_map] at h3
      rw [ht, List.length_append, List.length_cons]
      omega
    rw [List.length_cons, rMakerS, Rd.bind_ok (rb (rest := l ++ rest) (by rw [hc]; rfl) hlo hhi),
      rmakers (l := l) (rest := rest) (by rw [hc]; simp) (by rw [ht]; simp) (fun x hx => h x (List.mem_cons_of_mem _ hx)) (by simpa using hp)]
    simp
theorem rall_body {r : Rota} (ok : ROk r) {code : List V} {tail : List Int} (hc : code = (bodyB r ++ tail).map V.int) : rAll code [] = rEnd r code (bodyB r) := by
  have n1 := ok.n1
  have n6 := ok.n6
  have wl := ok.wl
  have e0 : bodyB r ++ tail = ([] : List Int) ++ 66 :: ((r.names.length : Int) :: (peopleB r r.names.length ++ ((r.turns.length : Int) :: (r.turns ++ ((r.aways.length : Int) :: ((r.aways.flatMap fun t => [t.1, t.2.1, t.2.2]) ++ ((r.makers.length : Int) :: (r.makers ++ tail)))))))) := by
    unfold bodyB awaysB turnsB headB
    rw [List.take_length]; simp
  have hzl : (r.names.zip r.weights).length = r.names.length := by rw [List.length_zip, wl, Nat.min_self]
  have ep : peopleB r r.names.length = (r.names.zip r.weights).flatMap fun q => nameB q.1 ++ [q.2] := by
    unfold peopleB
    rw [← hzl, List.take_length]
  have em1 : (r.names.zip r.weights).map (·.1) = r.names := List.map_fst_zip (by omega)
  have em2 : (r.names.zip r.weights).map (·.2) = r.weights := List.map_snd_zip (by omega)
  have tl : r.names.length ≤ r.turns.length := by
    have h : ((List.range r.names.length).map fun k : Nat => (k : Int)).Nodup := by
      rw [List.nodup_iff_pairwise_ne, List.pairwise_map]
      exact List.nodup_range.imp fun h e => h (Int.ofNat.inj e)
    have := h.length_le_of_subset (l₂ := r.turns) (fun x hx => by
      obtain ⟨k, hk, rfl⟩ := List.mem_map.mp hx
      exact ok.tall k (List.mem_range.mp hk))
    rw [List.length_map, List.length_range] at this; exact this
  have t12 := ok.t12
  have a6 := ok.a6
  have m6 := asc_len ok.masc ok.m0
  rw [e0] at hc
  unfold rAll
  rw [Rd.bind_ok (rb hc (by decide) (by decide))]
  rw [Rd.bind_ok (rb (b := (r.names.length : Int)) (rest := peopleB r r.names.length ++ ((r.turns.length : Int) :: (r.turns ++ ((r.aways.length : Int) :: ((r.aways.flatMap fun t => [t.1, t.2.1, t.2.2]) ++ ((r.makers.length : Int) :: (r.makers ++ tail))))))) (by rw [hc]; simp) (by omega) (by omega)), Int.toNat_natCast]
  have hp := rpeople (code := code) (l := r.names.zip r.weights) (nm := []) (ws := []) (ns := [] ++ [66] ++ [(r.names.length : Int)]) (rest := (r.turns.length : Int) :: (r.turns ++ ((r.aways.length : Int) :: ((r.aways.flatMap fun t => [t.1, t.2.1, t.2.2]) ++ ((r.makers.length : Int) :: (r.makers ++ tail)))))) (by rw [hc, ep]; simp)
    (fun q hq => ⟨ok.six _ (zip_mem hq).1, ok.w0 _ (zip_mem hq).2⟩) (by rw [List.nil_append, em1]; exact ok.nd)
  rw [hzl, em1, em2, ← ep] at hp
  simp only [List.nil_append] at hp ⊢
  rw [Rd.bind_ok hp]
  dsimp only
  rw [Rd.bind_ok (rturns (rest := (r.aways.length : Int) :: ((r.aways.flatMap fun t => [t.1, t.2.1, t.2.2]) ++ ((r.makers.length : Int) :: (r.makers ++ tail)))) (by rw [hc]; simp) ok.t0 ok.tall tl t12)]
  have ha : ∀ {ns : List Int}, code = (ns ++ ((r.aways.length : Int) :: ((r.aways.flatMap fun t => [t.1, t.2.1, t.2.2]) ++ ((r.makers.length : Int) :: (r.makers ++ tail))))).map V.int → rAways r.names.length code ns = .ok (r.aways, ns ++ [(r.aways.length : Int)] ++ (r.aways.flatMap fun t => [t.1, t.2.1, t.2.2])) := fun {ns} h => by
    unfold rAways
    rw [Rd.bind_ok (rb h (by omega) (by omega)), Int.toNat_natCast, raways (found := []) (rest := (r.makers.length : Int) :: (r.makers ++ tail)) (by rw [h]; simp) ok.a0 (by rw [List.nil_append]; exact ok.asc)]; rfl
  rw [Rd.bind_ok (ha (by rw [hc]; simp))]
  have hm : ∀ {ns : List Int}, code = (ns ++ ((r.makers.length : Int) :: (r.makers ++ tail))).map V.int → rMakers r.names.length code ns = .ok (r.makers, ns ++ [(r.makers.length : Int)] ++ r.makers) := fun {ns} h => by
    unfold rMakers
    rw [Rd.bind_ok (rb h (by omega) (by omega)), Int.toNat_natCast, rmakers (found := []) (rest := tail) (by rw [h]; simp) (by rw [List.nil_append]) ok.m0 (by rw [List.nil_append]; exact ok.masc)]; rfl
  rw [Rd.bind_ok (hm (by rw [hc]; simp))]
  congr 1
  unfold bodyB awaysB turnsB headB
  rw [List.take_length]; simp
theorem rend_ok {r r' : Rota} {code : List V} (hc : code = (bytesOf r).map V.int) : rEnd r' code (bodyB r) = .ok (r', bytesOf r) := by
  have h := Rd.bind_ok (g := fun _ code ns => if ns.length < code.length then .error ns.length else .ok (r', ns)) (rb (b := (bodyB r).sum.fmod 256) (rest := []) hc (Int.le_refl _) (Int.le_refl _))
  refine h.trans (if_neg ?_)
  rw [hc, List.length_map]; unfold bytesOf; omega
theorem rall_ok {r : Rota} (ok : ROk r) : rAll ((bytesOf r).map V.int) [] = .ok (r, bytesOf r) :=
  (rall_body ok (tail := [(bodyB r).sum.fmod 256]) rfl).trans (rend_ok rfl)
end Br

/-! Bytes that are cut, changed or extended: where the reader finds the fault. -/
namespace Br
open PySem PySem.Spec PyProof.Rows L2
/-- no byte stands there -/
def Odd' (o : Option V) : Prop := ∀ v, o = some v → ∀ lo hi : Int, 0 ≤ lo → hi ≤ 255 → intIn lo hi v = false
structure Gw {α : Type} (m : Rd α) (ns : List Int) : Prop where
  bd : ∀ {c c' : List V} {x : α} {ns' : List Int} {k : Nat}, m c ns = .ok (x, ns') → ns.length ≤ k → k < ns'.length → (∀ i, i < k → c'[i]? = c[i]?) → Odd' c'[k]? → m c' ns = .error k
  er : ∀ {c c' : List V} {n : Nat}, m c ns = .error n → ns.length ≤ c.length → n < c.length → (∀ i, i < c.length → c'[i]? = c[i]?) → m c' ns = .error n
structure Gd {α : Type} (m : Rd α) (ns : List Int) : Prop extends Gw m ns where
  le : ∀ {c : List V} {x : α} {ns' : List Int}, m c ns = .ok (x, ns') → ns.length ≤ c.length → ns'.length ≤ c.length
  st : ∀ {c c' : List V} {x : α} {ns' : List Int}, m c ns = .ok (x, ns') → (∀ i, i < ns'.length → c'[i]? = c[i]?) → m c' ns = .ok (x, ns')
section
variable {α β : Type}
theorem bind_cases {f : Rd α} {g : α → Rd β} {c : List V} {ns : List Int} {r : Except Nat (β × List Int)} (h : f.bind g c ns = r) : (∃ n, f c ns = .error n ∧ r = .error n) ∨ ∃ a n1, f c ns = .ok (a, n1) ∧ g a c n1 = r := by
  unfold Rd.bind at h
  cases e : f c ns with
  | error n => rw [e] at h; exact .inl ⟨n, rfl, h.symm⟩
  | ok z => rw [e] at h; exact .inr ⟨z.1, z.2, rfl, h⟩
theorem Gw.bind {f : Rd α} {g : α → Rd β} {ns : List Int} (F : Gd f ns) (G : ∀ a ns' c, f c ns = .ok (a, ns') → Gw (g a) ns') : Gw (f.bind g) ns where
  bd := fun {c c' x ns' k} h h1 h2 h3 h4 => by
    rcases bind_cases h with ⟨n, _, e⟩ | ⟨a, n1, e1, e2⟩
    · cases e
    · by_cases hk : k < n1.length
      · exact Rd.bind_er (F.bd e1 h1 hk h3 h4)
      · have hk' : n1.length ≤ k := Nat.le_of_not_lt hk
        exact (Rd.bind_ok (F.st e1 fun i hi => h3 i (by omega))).trans ((G _ _ _ e1).bd e2 hk' h2 h3 h4)
  er := fun {c c' n} h hl h1 h2 => by
    rcases bind_cases h with ⟨m, e1, e⟩ | ⟨a, n1, e1, e2⟩
    · cases e; exact Rd.bind_er (F.er e1 hl h1 h2)
    · have := F.le e1 hl
      exact (Rd.bind_ok (F.st e1 fun i hi => h2 i (by omega))).trans ((G _ _ _ e1).er e2 this h1 h2)
theorem Gd.bind {f : Rd α} {g : α → Rd β} {ns : List Int} (F : Gd f ns) (G : ∀ a ns' c, f c ns = .ok (a, ns') → Gd (g a) ns') (mono : ∀ a n1 c x n2, f c ns = .ok (a, n1) → g a c n1 = .ok (x, n2) → n1.length ≤ n2.length) : Gd (f.bind g) ns where
  toGw := Gw.bind F fun a n1 c e => (G a n1 c e).toGw
  le := fun {c x ns'} h hl => by
    rcases bind_cases h with ⟨n, _, e⟩ | ⟨a, n1, e1, e2⟩
    · cases e
    · exact (G _ _ _ e1).le e2 (F.le e1 hl)
  st := fun {c c' x ns'} h h2 => by
    rcases bind_cases h with ⟨n, _, e⟩ | ⟨a, n1, e1, e2⟩
    · cases e
    · have := mono _ _ _ _ _ e1 e2
      exact (Rd.bind_ok (F.st e1 fun i hi => h2 i (by omega))).trans ((G _ _ _ e1).st e2 h2)
/-- it reads on -/
def Mo (m : Rd α) : Prop := ∀ {c : List V} {x : α} {ns ns' : List Int}, m c ns = .ok (x, ns') → ns.length ≤ ns'.length
theorem Mo.bind {f : Rd α} {g : α → Rd β} (F : Mo f) (G : ∀ a, Mo (g a)) : Mo (f.bind g) := fun {c x ns ns'} h => by
  rcases bind_cases h with ⟨n, _, e⟩ | ⟨a, n1, e1, e2⟩
  · cases e
  · exact Nat.le_trans (F e1) (G _ e2)
/-- what reads nothing -/
theorem gd_pure {m : Rd α} {ns : List Int} (h : ∀ c c', m c ns = m c' ns) (hn : ∀ c x ns', m c ns = .ok (x, ns') → ns' = ns) : Gd m ns where
  bd := fun {c c' x ns' k} e h1 h2 _ _ => by rw [hn _ _ _ e] at h2; omega
  er := fun {c c' n} e _ _ _ => (h c' c).trans e
  le := fun {c x ns'} e hl => by rw [hn _ _ _ e]; exact hl
  st := fun {c c' x ns'} e _ => (h c' c).trans e
theorem mo_pure {m : Rd α} (hn : ∀ c ns x ns', m c ns = .ok (x, ns') → ns' = ns) : Mo m := fun {c x ns ns'} e => by rw [hn _ _ _ _ e]; exact Nat.le_refl _
theorem gd_ret (a : α) {ns : List Int} : Gd (Rd.ret a) ns := gd_pure (fun _ _ => rfl) (fun c x ns' e => by unfold Rd.ret at e; cases e; rfl)
theorem mo_ret (a : α) : Mo (Rd.ret a) := mo_pure fun c ns x ns' e => by unfold Rd.ret at e; cases e; rfl
end
theorem byte_ok {lo hi i : Int} {c : List V} {ns ns' : List Int} (h : rByte lo hi c ns = .ok (i, ns')) : c[ns.length]? = some (.int i) ∧ lo ≤ i ∧ i ≤ hi ∧ ns' = ns ++ [i] := by
  unfold rByte at h
  split at h
  · rename_i v hv
    split at h
    · rename_i hi'
      obtain ⟨j, rfl, h1, h2⟩ := intIn_is hi'
      cases h
      exact ⟨hv, h1, h2, rfl⟩
    · cases h
  · cases h
theorem byte_er {lo hi : Int} {c : List V} {ns : List Int} {n : Nat} (h : rByte lo hi c ns = .error n) : n = ns.length ∧ ∀ c' : List V, c'[ns.length]? = c[ns.length]? → rByte lo hi c' ns = .error n := by
  have h' := h
  unfold rByte at h
  split at h
  · rename_i v hv
    split at h
    · rename_i hi'
      obtain ⟨j, rfl, h1, h2⟩ := intIn_is hi'
      cases h
    · cases h
      exact ⟨rfl, fun c' e => by unfold rByte at h' ⊢; rw [e]; exact h'⟩
  · cases h
    exact ⟨rfl, fun c' e => by unfold rByte at h' ⊢; rw [e]; exact h'⟩
theorem gd_byte {lo hi : Int} (h0 : 0 ≤ lo) (h1 : hi ≤ 255) {ns : List Int} : Gd (rByte lo hi) ns where
  bd := fun {c c' x ns' k} e hk h2 h3 h4 => by
    obtain ⟨e1, _, _, rfl⟩ := byte_ok e
    have : k = ns.length := by rw [List.length_append, List.length_singleton] at h2; omega
    subst this
    cases e2 : c'[ns.length]? with
    | none => exact rByte_none e2
    | some v => exact rByte_bad e2 (h4 v e2 lo hi h0 h1)
  er := fun {c c' n} e hl hn h2 => by
    obtain ⟨e1, e2⟩ := byte_er e
    exact e2 c' (h2 _ (by omega))
  le := fun {c x ns'} e hl => by
    obtain ⟨e1, _, _, rfl⟩ := byte_ok e
    have := (List.getElem?_eq_some_iff.mp e1).1
    rw [List.length_append, List.length_singleton]; omega
  st := fun {c c' x ns'} e h2 => by
    obtain ⟨e1, g1, g2, rfl⟩ := byte_ok e
    exact rByte_ok (by rw [h2 _ (by rw [List.length_append, List.length_singleton]; omega)]; exact e1) g1 g2
theorem mo_byte {lo hi : Int} : Mo (rByte lo hi) := fun {c x ns ns'} e => by
  obtain ⟨_, _, _, rfl⟩ := byte_ok e
  rw [List.length_append]; omega
theorem mo_many {lo hi : Int} : ∀ (k : Nat) (acc : List Int), Mo (rMany lo hi k acc)
  | 0, acc => mo_ret acc
  | k + 1, acc => mo_byte.bind fun b => mo_many k (acc ++ [b])
theorem gd_many {lo hi : Int} (h0 : 0 ≤ lo) (h1 : hi ≤ 255) : ∀ (k : Nat) (acc ns : List Int), Gd (rMany lo hi k acc) ns
  | 0, acc, ns => gd_ret acc
  | k + 1, acc, ns => (gd_byte h0 h1).bind (fun b ns' c _ => gd_many h0 h1 k (acc ++ [b]) ns') fun a n1 c x n2 _ e => mo_many k _ e
theorem gd_nameE {s : Nat} {names : List Str} {z : Str} {ns : List Int} : Gd (rNameE s names z) ns := gd_pure (fun _ _ => rfl) fun c x ns' e => by
  unfold rNameE at e; split at e <;> cases e; rfl
theorem mo_nameE {s : Nat} {names : List Str} {z : Str} : Mo (rNameE s names z) := mo_pure fun c ns x ns' e => by
  unfold rNameE at e; split at e <;> cases e; rfl
theorem mo_name {names : List Str} : Mo (rName names) := fun {c x ns ns'} e =>
  (mo_byte.bind fun k => Mo.bind (mo_many k.toNat []) fun l => mo_nameE) (show ((rByte 1 8).bind fun k => (rMany 0 25 k.toNat []).bind fun l => rNameE ns.length names (wordOf l)) c ns = _ from e)
theorem gd_name {names : List Str} {ns : List Int} : Gd (rName names) ns := by
  have h : Gd ((rByte 1 8).bind fun k => (rMany 0 25 k.toNat []).bind fun l => rNameE ns.length names (wordOf l)) ns :=
    (gd_byte (by decide) (by decide)).bind (fun k n1 c _ => (gd_many (by decide) (by decide) _ _ _).bind (fun l n2 c _ => gd_nameE) fun a n1 c x n2 _ e => mo_nameE e) fun a n1 c x n2 _ e => (Mo.bind (mo_many _ _) fun l => mo_nameE) e
  exact ⟨⟨h.bd, h.er⟩, h.le, h.st⟩
theorem mo_people : ∀ (k : Nat) (nm : List Str) (ws : List Int), Mo (rPeople k nm ws)
  | 0, nm, ws => mo_ret _
  | k + 1, nm, ws => mo_name.bind fun z => mo_byte.bind fun b => mo_people k _ _
theorem gd_people : ∀ (k : Nat) (nm : List Str) (ws ns : List Int), Gd (rPeople k nm ws) ns
  | 0, nm, ws, ns => gd_ret _
  | k + 1, nm, ws, ns => gd_name.bind (fun z n1 c _ => (gd_byte (by decide) (by decide)).bind (fun b n2 c _ => gd_people k _ _ n2) fun a n1 c x n2 _ e => mo_people k _ _ e) fun a n1 c x n2 _ e => (mo_byte.bind fun b => mo_people k _ _) e
theorem people_len : ∀ {k : Nat} {nm : List Str} {ws ns ns' : List Int} {c : List V} {p : List Str × List Int}, rPeople k nm ws c ns = .ok (p, ns') → p.1.length = nm.length + k
  | 0, nm, ws, ns, ns', c, p, e => by unfold rPeople Rd.ret at e; cases e; rfl
  | k + 1, nm, ws, ns, ns', c, p, e => by
    rw [rPeople] at e
    rcases bind_cases e with ⟨n, _, z⟩ | ⟨a, n1, _, e2⟩
    · cases z
    rcases bind_cases e2 with ⟨n, _, z⟩ | ⟨b, n2, _, e3⟩
    · cases z
    have := people_len e3
    rw [List.length_append, List.length_singleton] at this; omega
theorem gd_turnsE {s n : Nat} {l ns : List Int} : Gd (rTurnsE s n l) ns := gd_pure (fun _ _ => rfl) fun c x ns' e => by
  unfold rTurnsE at e; split at e <;> cases e; rfl
theorem mo_turnsE {s n : Nat} {l : List Int} : Mo (rTurnsE s n l) := mo_pure fun c ns x ns' e => by
  unfold rTurnsE at e; split at e <;> cases e; rfl
theorem mo_turns {n : Nat} : Mo (rTurns n) := fun {c x ns ns'} e =>
  (mo_byte.bind fun k => Mo.bind (mo_many k.toNat []) fun l => mo_turnsE) (show ((rByte n 12).bind fun k => (rMany 0 (n - 1) k.toNat []).bind fun l => rTurnsE ns.length n l) c ns = _ from e)
theorem gd_turns {n : Nat} (hn : n ≤ 6) {ns : List Int} : Gd (rTurns n) ns := by
  have h : Gd ((rByte n 12).bind fun k => (rMany 0 (n - 1) k.toNat []).bind fun l => rTurnsE ns.length n l) ns :=
    (gd_byte (by omega) (by decide)).bind (fun k n1 c _ => (gd_many (by decide) (by omega) _ _ _).bind (fun l n2 c _ => gd_turnsE) fun a n1 c x n2 _ e => mo_turnsE e) fun a n1 c x n2 _ e => (Mo.bind (mo_many _ _) fun l => mo_turnsE) e
  exact ⟨⟨h.bd, h.er⟩, h.le, h.st⟩
theorem away_ns {s : Nat} {found : List (Int × Int × Int)} {t : Int × Int × Int} (c : List V) (ns : List Int) (x : Int × Int × Int) (ns' : List Int) (e : rAwayE s found t c ns = .ok (x, ns')) : ns' = ns := by
  unfold rAwayE at e
  split at e
  · cases e
  · split at e
    · split at e
      · cases e; rfl
      · cases e
    · cases e; rfl
theorem gd_awayE {s : Nat} {found : List (Int × Int × Int)} {t : Int × Int × Int} {ns : List Int} : Gd (rAwayE s found t) ns := gd_pure (fun _ _ => rfl) fun c x ns' e => away_ns c ns x ns' e
theorem mo_awayE {s : Nat} {found : List (Int × Int × Int)} {t : Int × Int × Int} : Mo (rAwayE s found t) := mo_pure away_ns
theorem mo_away {n : Nat} {found : List (Int × Int × Int)} : Mo (rAway n found) := fun {c x ns ns'} e =>
  (mo_byte.bind fun p => mo_byte.bind fun r => mo_byte.bind fun m => mo_awayE) (show ((rByte 0 (n - 1)).bind fun p => (rByte 0 11).bind fun r => (rByte (r + 1) 12).bind fun m => rAwayE ns.length found (p, r, m)) c ns = _ from e)
theorem gd_away {n : Nat} (hn : n ≤ 6) {found : List (Int × Int × Int)} {ns : List Int} : Gd (rAway n found) ns := by
  have h : Gd ((rByte 0 (n - 1)).bind fun p => (rByte 0 11).bind fun r => (rByte (r + 1) 12).bind fun m => rAwayE ns.length found (p, r, m)) ns :=
    (gd_byte (by decide) (by omega)).bind (fun p n1 c _ => (gd_byte (by decide) (by decide)).bind (fun r n2 c e => (gd_byte (by have := (byte_ok e).2.1; omega) (by decide)).bind (fun m n3 c _ => gd_awayE) fun a n1 c x n2 _ e => mo_awayE e)
      fun a n1 c x n2 _ e => (mo_byte.bind fun m => mo_awayE) e) fun a n1 c x n2 _ e => (mo_byte.bind fun r => mo_byte.bind fun m => mo_awayE) e
  exact ⟨⟨h.bd, h.er⟩, h.le, h.st⟩
theorem mo_awayS {n : Nat} : ∀ (k : Nat) (found : List (Int × Int × Int)), Mo (rAwayS n k found)
  | 0, found => mo_ret _
  | k + 1, found => mo_away.bind fun t => mo_awayS k _
theorem gd_awayS {n : Nat} (hn : n ≤ 6) : ∀ (k : Nat) (found : List (Int × Int × Int)) (ns : List Int), Gd (rAwayS n k found) ns
  | 0, found, ns => gd_ret _
  | k + 1, found, ns => (gd_away hn).bind (fun t n1 c _ => gd_awayS hn k _ n1) fun a n1 c x n2 _ e => mo_awayS k _ e
theorem mo_aways {n : Nat} : Mo (rAways n) := mo_byte.bind fun k => mo_awayS _ _
theorem gd_aways {n : Nat} (hn : n ≤ 6) {ns : List Int} : Gd (rAways n) ns := (gd_byte (by decide) (by decide)).bind (fun k n1 c _ => gd_awayS hn _ _ _) fun a n1 c x n2 _ e => mo_awayS _ _ e
theorem mo_makerS {n : Nat} {total : Int} : ∀ (k : Nat) (found : List Int), Mo (rMakerS n total k found)
  | 0, found => mo_ret _
  | k + 1, found => mo_byte.bind fun t => mo_makerS k _
theorem next_nn {l : List Int} (h : ∀ u ∈ l, 0 ≤ u) : 0 ≤ nextLo l := by
  unfold nextLo
  split
  · rename_i u hu
    have := h u (List.mem_of_getLast? hu); omega
  · decide
theorem gd_makerS {n : Nat} (hn : n ≤ 6) {total : Int} : ∀ (k : Nat) (found ns : List Int), (∀ u ∈ found, 0 ≤ u) → found.length + k ≤ total → Gd (rMakerS n total k found) ns
  | 0, found, ns, _, _ => gd_ret _
  | k + 1, found, ns, h, ht => (gd_byte (next_nn h) (by omega)).bind (fun t n1 c e => gd_makerS hn k _ n1 (fun u hu => by
      rcases List.mem_append.mp hu with hu | hu
      · exact h u hu
      · rw [List.mem_singleton.mp hu]; exact Int.le_trans (next_nn h) (byte_ok e).2.1) (by rw [List.length_append, List.length_singleton]; omega)) fun a n1 c x n2 _ e => mo_makerS k _ e
theorem mo_makers {n : Nat} : Mo (rMakers n) := mo_byte.bind fun k => mo_makerS _ _
theorem gd_makers {n : Nat} (hn : n ≤ 6) {ns : List Int} : Gd (rMakers n) ns := (gd_byte (by decide) (by omega)).bind (fun k n1 c e => gd_makerS hn _ _ _ (fun u hu => nomatch hu) (by
    have := (byte_ok e).2.1
    show (([] : List Int).length : Int) + (k.toNat : Nat) ≤ k
    simp only [List.length_nil]; omega)) fun a n1 c x n2 _ e => mo_makerS _ _ e
theorem gw_end {r : Rota} {ns : List Int} : Gw (rEnd r) ns := by
  have h : Gw ((rByte (ns.sum.fmod 256) (ns.sum.fmod 256)).bind fun _ code ns => if ns.length < code.length then .error ns.length else .ok (r, ns)) ns :=
    Gw.bind (gd_byte (Int.fmod_nonneg_of_pos _ (by decide)) (by have := Int.fmod_lt_of_pos ns.sum (b := 256) (by decide); omega)) fun a n1 c _ => ⟨fun {c c' x ns' k} e h1 h2 _ _ => by
      have e : (if n1.length < c.length then Except.error n1.length else Except.ok (r, n1)) = Except.ok (x, ns') := e
      split at e
      · cases e
      · cases e; omega, fun {c c' n} e hl hn h2 => by
      have e : (if n1.length < c.length then Except.error n1.length else Except.ok (r, n1)) = Except.error n := e
      show (if n1.length < c'.length then Except.error n1.length else Except.ok (r, n1)) = Except.error n
      split at e
      · cases e
        have hc' : n1.length < c'.length := by
          have := h2 _ hn
          rw [List.getElem?_eq_getElem hn] at this
          exact (List.getElem?_eq_some_iff.mp this).1
        rw [if_pos hc']
      · cases e⟩
  exact ⟨h.bd, h.er⟩
theorem gw_all : Gw rAll [] :=
  Gw.bind (gd_byte (by decide) (by decide)) fun _ n1 c _ => Gw.bind (gd_byte (by decide) (by decide)) fun k n2 c e2 => Gw.bind (gd_people _ _ _ _) fun p n3 c e3 => by
    have hl : p.1.length ≤ 6 := by
      have := people_len e3
      have h6 := (byte_ok e2).2.2.1
      simp only [List.length_nil] at this; omega
    exact Gw.bind (gd_turns hl) fun ts n4 c _ => Gw.bind (gd_aways hl) fun as n5 c _ => Gw.bind (gd_makers hl) fun ms n6 c _ => gw_end
/-- cut, or one entry is no byte -/
theorem all_odd {r : Rota} (ok : ROk r) {c' : List V} {k : Nat} (hk : k < (bytesOf r).length) (h : ∀ i, i < k → c'[i]? = ((bytesOf r).map V.int)[i]?) (h2 : Odd' c'[k]?) : rAll c' [] = .error k :=
  gw_all.bd (rall_ok ok) (Nat.zero_le _) hk h h2
theorem all_more {c c' : List V} {n : Nat} (h : rAll c [] = .error n) (hn : n < c.length) (h2 : ∀ i, i < c.length → c'[i]? = c[i]?) : rAll c' [] = .error n := gw_all.er h (Nat.zero_le _) hn h2
end Br

namespace Br
open PySem PySem.Spec PyProof.Rows L2
/-! ### texts and their tokens -/
/-- no letter, no digit ahead -/
def Stop (y : List Nat) : Prop := ∀ c r, y = c :: r → dig c = false ∧ ltr c = false
theorem Stop.nil : Stop [] := fun _ _ h => nomatch h
theorem Stop.cons {c : Nat} {r : List Nat} (h : c = 32 ∨ c = 10 ∨ c = 59) : Stop (c :: r) := fun c' r' e => by
  cases e
  rcases h with rfl | rfl | rfl <;> decide
theorem tw_full {p : Nat → Bool} {w y : List Nat} (hw : ∀ c ∈ w, p c = true) (hy : ∀ c r, y = c :: r → p c = false) : (w ++ y).takeWhile p = w := by
  induction w with
  | nil =>
    cases y with
    | nil => rfl
    | cons c r => rw [List.nil_append, List.takeWhile_cons, hy c r rfl]; rfl
  | cons c w ih =>
    rw [List.cons_append, List.takeWhile_cons, hw c List.mem_cons_self, if_pos rfl, ih fun x hx => hw x (List.mem_cons_of_mem _ hx)]
theorem tw_all {p : Nat → Bool} {l : List Nat} : ∀ c ∈ l.takeWhile p, p c = true := by
  induction l with
  | nil => intro c h; cases h
  | cons a l ih =>
    intro c h
    rw [List.takeWhile_cons] at h
    split at h
    · rename_i ha
      rcases List.mem_cons.mp h with rfl | h
      · exact ha
      · exact ih c h
    · cases h
/-- the three kinds of tokens -/
theorem tok_cases {l : List Nat} {k t : Str} (h : tokAt l = some (k, t)) : (k = "sign" ∧ t = ";" ∧ ∃ r, l = 59 :: r) ∨ (∃ (p : Nat → Bool) (y : List Nat), (p = dig ∨ p = ltr) ∧ l = TL.tl t ++ y ∧ (∀ c ∈ TL.tl t, p c = true) ∧ (∀ c r, y = c :: r → p c = false) ∧ TL.tl t ≠ [] ∧
    ∀ y', (∀ c r, y' = c :: r → p c = false) → tokAt (TL.tl t ++ y') = some (k, t)) := by
  cases l with
  | nil => cases h
  | cons c r =>
    have sp : ∀ p : Nat → Bool, (c :: r) = (c :: r).takeWhile p ++ (c :: r).dropWhile p := fun p => List.takeWhile_append_dropWhile.symm
    have hd : ∀ p : Nat → Bool, ∀ x y, (c :: r).dropWhile p = x :: y → p x = false := fun p x y e => by
      have := List.head?_dropWhile_not p (c :: r)
      rw [e] at this
      simpa using this
    by_cases h1 : c = 59
    · subst h1
      simp only [tokAt, if_pos] at h
      cases h
      exact .inl ⟨rfl, rfl, r, rfl⟩
    simp only [tokAt, if_neg h1] at h
    refine .inr ?_
    by_cases h2 : dig c = true
    · rw [if_pos h2] at h
      by_cases h3 : ((c :: r).takeWhile dig).length > 2 ∨ (((c :: r).takeWhile dig).length > 1 ∧ c = 48)
      · rw [if_pos h3] at h; cases h
      rw [if_neg h3] at h
      cases h
      have et : TL.tl ⟨((c :: r).takeWhile dig).toArray⟩ = (c :: r).takeWhile dig := rfl
      refine ⟨dig, (c :: r).dropWhile dig, .inl rfl, by rw [et]; exact sp dig, by rw [et]; exact tw_all, hd dig, by rw [et, List.takeWhile_cons, if_pos h2]; simp, fun y' hy' => ?_⟩
      rw [et]
      have ew : (c :: r).takeWhile dig = c :: r.takeWhile dig := by rw [List.takeWhile_cons, if_pos h2]
      have hfull := tw_full (p := dig) (w := (c :: r).takeWhile dig) tw_all hy'
      rw [ew] at hfull h3 ⊢
      rw [List.cons_append] at hfull ⊢
      simp only [tokAt, if_neg h1, if_pos h2]
      rw [hfull, if_neg h3]
    · rw [if_neg h2] at h
      have hl : ltr c = true := by
        by_cases hl : ltr c = true
        · exact hl
        · have e0 : (c :: r).takeWhile ltr = [] := by rw [List.takeWhile_cons, if_neg hl]
          rw [e0] at h
          rw [if_neg (by decide +kernel), if_neg (by simp)] at h
          cases h
      have et : TL.tl ⟨((c :: r).takeWhile ltr).toArray⟩ = (c :: r).takeWhile ltr := rfl
      have ht : t = ⟨((c :: r).takeWhile ltr).toArray⟩ := by
        split at h
        · cases h; rfl
        · split at h
          · cases h; rfl
          · cases h
      have hh := h
      subst ht
      refine ⟨ltr, (c :: r).dropWhile ltr, .inr rfl, by rw [et]; exact sp ltr, by rw [et]; exact tw_all, hd ltr, by rw [et, List.takeWhile_cons, if_pos hl]; simp, fun y' hy' => ?_⟩
      rw [et]
      have ew : (c :: r).takeWhile ltr = c :: r.takeWhile ltr := by rw [List.takeWhile_cons, if_pos hl]
      have hfull := tw_full (p := ltr) (w := (c :: r).takeWhile ltr) tw_all hy'
      rw [ew] at hfull hh ⊢
      rw [List.cons_append] at hfull ⊢
      simp only [tokAt, if_neg h1, if_neg h2]
      rw [hfull]
      exact hh
/-- a word that is a token -/
def Wk (k w : Str) : Prop := tokAt (TL.tl w) = some (k, w)
theorem Wk.ahead {k w : Str} (h : Wk k w) {y : List Nat} (hy : Stop y) : tokAt (TL.tl w ++ y) = some (k, w) := by
  rcases tok_cases h with ⟨rfl, rfl, _⟩ | ⟨p, y0, hp, e, h1, h2, h3, h4⟩
  · have : TL.tl (";" : Str) = [59] := by decide +kernel
    rw [this]; rfl
  · refine h4 y fun c r e => ?_
    have := hy c r e
    rcases hp with rfl | rfl
    · exact this.1
    · exact this.2
theorem tok_head {l : List Nat} {k t : Str} (h : tokAt l = some (k, t)) : ∃ c r, l = c :: r ∧ ¬ (c = 32 ∨ c = 10) ∧ l = TL.tl t ++ l.drop t.length ∧ 10 ∉ TL.tl t := by
  rcases tok_cases h with ⟨rfl, rfl, r, rfl⟩ | ⟨p, y, hp, e, h1, h2, h3, h4⟩
  · exact ⟨59, r, rfl, by decide, rfl, by decide +kernel⟩
  · obtain ⟨c, w, hw⟩ := List.exists_cons_of_ne_nil h3
    have hc := h1 c (by rw [hw]; exact List.mem_cons_self)
    refine ⟨c, w ++ y, by rw [e, hw]; rfl, ?_, ?_, fun hm => ?_⟩
    · rintro (rfl | rfl) <;> (rcases hp with rfl | rfl <;> exact absurd hc (by decide))
    · rw [e, TL.len_tl, List.drop_left]
    · have := h1 _ hm
      rcases hp with rfl | rfl <;> exact absurd this (by decide)
theorem LexR.word {k w : Str} {y : List Nat} {ts : List (Str × Str)} (h : Wk k w) (hy : Stop y) (ht : LexR y ts) : LexR (TL.tl w ++ y) ((k, w) :: ts) := by
  have h1 := h.ahead hy
  obtain ⟨c, r, e, hc, e2, _⟩ := tok_head h1
  rw [e] at h1 e2 ⊢
  refine .tok hc h1 ?_
  have : (c :: r).drop w.length = y := by rw [← e, TL.len_tl, List.drop_left]
  rw [this]; exact ht
theorem LexR.gap {g y : List Nat} {ts : List (Str × Str)} (hg : ∀ c ∈ g, c = 32 ∨ c = 10) (h : LexR y ts) : LexR (g ++ y) ts := by
  induction g with
  | nil => exact h
  | cons c g ih => exact .space (hg c List.mem_cons_self) (ih fun x hx => hg x (List.mem_cons_of_mem _ hx))
/-! ### rows -/
def rowsOf : List Nat → List Nat × List (List Nat)
  | [] => ([], [])
  | c :: r => if c = 10 then ([], (rowsOf r).1 :: (rowsOf r).2) else (c :: (rowsOf r).1, (rowsOf r).2)
theorem spl_rows : ∀ (l acc : List Nat), TL.spl [10] 0 acc l = (acc ++ (rowsOf l).1) :: (rowsOf l).2
  | [], acc => by rw [TL.spl_nil]; simp [rowsOf]
  | c :: r, acc => by
    by_cases h : c = 10
    · subst h
      rw [TL.spl_hit (by rfl)]
      show acc :: TL.spl [10] 0 [] r = _
      rw [spl_rows r []]
      simp [rowsOf]
    · rw [TL.spl_miss (TL.pre_of_head [] r h), spl_rows r (acc ++ [c])]
      simp [rowsOf, h]
theorem rows_app {p l : List Nat} (h : 10 ∉ p) : rowsOf (p ++ l) = (p ++ (rowsOf l).1, (rowsOf l).2) := by
  induction p with
  | nil => rfl
  | cons c p ih =>
    have hc : c ≠ 10 := fun e => h (by rw [e]; exact List.mem_cons_self)
    have := ih fun hm => h (List.mem_cons_of_mem _ hm)
    simp [rowsOf, hc, this]
theorem rows_head (l : List Nat) : (rowsOf l).1 = [] ∨ ∃ c r r', l = c :: r ∧ (rowsOf l).1 = c :: r' := by
  cases l with
  | nil => exact .inl rfl
  | cons c r =>
    by_cases h : c = 10
    · subst h; exact .inl (by simp [rowsOf])
    · exact .inr ⟨c, r, (rowsOf r).1, rfl, by simp [rowsOf, h]⟩
theorem tok_cut {l : List Nat} {k t : Str} (h : tokAt l = some (k, t)) : tokAt (TL.tl t ++ (rowsOf (l.drop t.length)).1) = some (k, t) := by
  rcases tok_cases h with ⟨rfl, rfl, r, rfl⟩ | ⟨p, y, hp, e, h1, h2, h3, h4⟩
  · have : TL.tl (";" : Str) = [59] := by decide +kernel
    rw [this]; rfl
  · have ey : l.drop t.length = y := by rw [e, TL.len_tl, List.drop_left]
    rw [ey]
    refine h4 _ fun c r e2 => ?_
    rcases rows_head y with h0 | ⟨c', r', r'', e3, e4⟩
    · rw [h0] at e2; cases e2
    · rw [e4] at e2
      cases e2
      exact h2 _ _ e3
theorem lex_rows {l : List Nat} {ts : List (Str × Str)} (h : LexR l ts) : ∃ t0 tss, LexR (rowsOf l).1 t0 ∧ Paired LexR (rowsOf l).2 tss ∧ t0 ++ tss.flatten = ts := by
  induction h with
  | nil => exact ⟨[], [], .nil, .nil, rfl⟩
  | @space c r ts hc _ ih =>
    obtain ⟨t0, tss, h1, h2, h3⟩ := ih
    rcases hc with rfl | rfl
    · refine ⟨t0, tss, ?_, ?_, h3⟩
      · simp only [rowsOf]; exact .space (.inl rfl) h1
      · simp only [rowsOf]; exact h2
    · refine ⟨[], t0 :: tss, ?_, ?_, by simpa using h3⟩
      · simp only [rowsOf]; exact .nil
      · simp only [rowsOf]; exact .cons h1 h2
  | @tok c r k t ts hc ht _ ih =>
    obtain ⟨t0, tss, h1, h2, h3⟩ := ih
    obtain ⟨_, _, _, _, e2, h10⟩ := tok_head ht
    have hcut := tok_cut ht
    rw [e2, rows_app h10]
    refine ⟨(k, t) :: t0, tss, ?_, h2, by rw [← h3]; rfl⟩
    obtain ⟨c', r', e3, hc', _, _⟩ := tok_head hcut
    show LexR (TL.tl t ++ (rowsOf ((c :: r).drop t.length)).1) _
    rw [e3] at hcut ⊢
    refine .tok hc' hcut ?_
    have : (c' :: r').drop t.length = (rowsOf ((c :: r).drop t.length)).1 := by rw [← e3, TL.len_tl, List.drop_left]
    rw [this]; exact h1
theorem Paired.get {α β : Type} {R : α → β → Prop} : ∀ {as : List α} {bs : List β}, Paired R as bs → as.length = bs.length ∧ ∀ (i : Nat) a b, as[i]? = some a → bs[i]? = some b → R a b
  | _, _, .nil => ⟨rfl, fun i a b h => by simp at h⟩
  | _, _, .cons h t => by
    obtain ⟨h1, h2⟩ := Paired.get t
    refine ⟨by rw [List.length_cons, List.length_cons, h1], fun i a b ha hb => ?_⟩
    cases i with
    | zero => cases ha; cases hb; exact h
    | succ i => exact h2 i a b (by simpa using ha) (by simpa using hb)
/-- a text whose whole lexes -/
theorem says_of {z : Str} {r : Rota} {S : List Stm} {ts : List (Str × Str)} (ok : ROk r) (sp : Spell r S) (hz : z.length ≤ 10000) (hl : LexR (TL.tl z) ts) (hts : ts ++ [(("end" : Str), ("" : Str))] = rotaToks r S) (hfew : ts.length < 1000) : Says z r S := by
  obtain ⟨t0, tss, h1, h2, h3⟩ := lex_rows hl
  have hsz : 10002 ≤ sizeLine := by decide
  have hy : TL.tl ("\n" : Str) = [10] := by decide +kernel
  have hsp := TL.split_spl z "\n" (by rw [hy]; simp) (TL.kind_ok (by decide +kernel))
  rw [hy, spl_rows, List.nil_append] at hsp
  have hP : Paired LexR ((Txt.split z "\n").map TL.tl) (t0 :: tss) := by rw [hsp]; exact .cons h1 h2
  obtain ⟨g1, g2⟩ := Paired.get hP
  rw [List.length_map] at g1
  -- each row is part of the text
  have hrl : ∀ l : List Nat, (rowsOf l).1.length ≤ l.length ∧ (∀ x ∈ (rowsOf l).2, x.length ≤ l.length) ∧ (rowsOf l).2.length ≤ l.length := fun l => by
    induction l with
    | nil => simp [rowsOf]
    | cons c l ih =>
      obtain ⟨i1, i2, i3⟩ := ih
      by_cases h : c = 10
      · simp only [rowsOf, h, if_pos, List.length_cons, List.length_nil]
        refine ⟨by omega, fun x hx => ?_, by omega⟩
        rcases List.mem_cons.mp hx with rfl | hx
        · omega
        · have := i2 x hx; omega
      · simp only [rowsOf, h, if_false, List.length_cons]
        refine ⟨by omega, fun x hx => ?_, by omega⟩
        have := i2 x hx; omega
  obtain ⟨i1, i2, i3⟩ := hrl (TL.tl z)
  rw [← TL.len_tl] at i1 i2 i3
  refine ⟨ok, sp, by omega, t0 :: tss, g1, fun i row t hi ht => ⟨?_, ?_⟩, ?_, ?_, ?_⟩
  · have hm : TL.tl row ∈ (rowsOf (TL.tl z)).1 :: (rowsOf (TL.tl z)).2 := by rw [← hsp]; exact List.mem_map.mpr ⟨row, List.mem_of_getElem? hi, rfl⟩
    rw [TL.len_tl]
    rcases List.mem_cons.mp hm with e | hm
    · rw [e]; omega
    · have := i2 _ hm; omega
  · exact g2 i _ _ (by rw [List.getElem?_map, hi]; rfl) ht
  · rw [List.flatten_cons, h3]; exact hfew
  · have := congrArg List.length hsp
    rw [List.length_map, List.length_cons] at this
    omega
  · rw [List.flatten_cons, h3]; exact hts
end Br

namespace Br
open PySem PySem.Spec PyProof.Rows L2
/-! ### words of a rota's text -/
def kindOf (w : Str) : Str := match tokAt (TL.tl w) with
  | some (k, _) => k
  | none => ""
def tokOf (w : Str) : Str × Str := (kindOf w, w)
theorem Wk.kind {k w : Str} (h : Wk k w) : tokOf w = (k, w) := by
  unfold tokOf kindOf
  rw [show tokAt (TL.tl w) = some (k, w) from h]
/-- a word of letters or of digits -/
def Wd0 (w : Str) : Prop := ∃ k, Wk k w ∧ k ≠ "sign"
theorem Wd0.wk {w : Str} (h : Wd0 w) : Wk (kindOf w) w := by
  obtain ⟨k, h, _⟩ := h
  have := congrArg Prod.fst h.kind
  show tokAt (TL.tl w) = some (kindOf w, w)
  rw [show kindOf w = k from this]; exact h
theorem dig_plain {c : Nat} (h : dig c = true) : Unicode.isSpace c = false ∧ c ≠ 59 ∧ c ≠ 10 := by
  have : ∀ c ∈ TL.tl "0123456789", Unicode.isSpace c = false ∧ c ≠ 59 ∧ c ≠ 10 := by decide +kernel
  exact this c (of_decide_eq_true h)
theorem ltr_plain {c : Nat} (h : ltr c = true) : Unicode.isSpace c = false ∧ c ≠ 59 ∧ c ≠ 10 := by
  have : ∀ c ∈ TL.tl "abcdefghijklmnopqrstuvwxyz", Unicode.isSpace c = false ∧ c ≠ 59 ∧ c ≠ 10 := by decide +kernel
  exact this c (of_decide_eq_true h)
theorem Wd0.plain {w : Str} (h : Wd0 w) : TL.tl w ≠ [] ∧ ∀ c ∈ TL.tl w, Unicode.isSpace c = false ∧ c ≠ 59 ∧ c ≠ 10 := by
  obtain ⟨k, h, hk⟩ := h
  rcases tok_cases h with ⟨rfl, _⟩ | ⟨p, y, hp, e, h1, h2, h3, h4⟩
  · exact absurd rfl hk
  · refine ⟨h3, fun c hc => ?_⟩
    rcases hp with rfl | rfl
    · exact dig_plain (h1 c hc)
    · exact ltr_plain (h1 c hc)
theorem wk_key : ∀ w ∈ kws, Wk "keyword" w := by unfold Wk; decide +kernel
theorem wk_name : ∀ w ∈ six, Wk "name" w := by unfold Wk; decide +kernel
theorem wk_num {i : Int} (h0 : 0 ≤ i) (h : i < 100) : Wk "number" (num i) := by
  obtain ⟨n, rfl⟩ := Int.eq_ofNat_of_zero_le h0
  have : ∀ n : Nat, n < 100 → tokAt (TL.numL n) = some (("number" : Str), (⟨(TL.numL n).toArray⟩ : Str)) := by decide +kernel
  have h1 := this n (by omega)
  have e : TL.tl (num n) = TL.numL n := TL.tl_num n
  unfold Wk
  rw [e, h1, ← e, TL.mk_tl]
theorem w0_key {w : Str} (h : w ∈ kws) : Wd0 w := ⟨_, wk_key w h, by decide +kernel⟩
theorem w0_name {w : Str} (h : w ∈ six) : Wd0 w := ⟨_, wk_name w h, by decide +kernel⟩
theorem w0_num {i : Int} (h0 : 0 ≤ i) (h : i < 100) : Wd0 (num i) := ⟨_, wk_num h0 h, by decide +kernel⟩
def stmWords (r : Rota) : Stm → List Str
  | .w => "weights" :: r.weights.map num
  | .aw t => awW r t
  | .mk ks => "makeup" :: ks.map (nm r)
/-- a statement fit for the rota -/
def StmOk (r : Rota) : Stm → Prop
  | .w => True
  | .aw t => t ∈ r.aways
  | .mk ks => ks.length ≤ 12 ∧ ∀ k ∈ ks, 0 ≤ k ∧ k < r.names.length
def allWords (r : Rota) (S : List Stm) : List (List Str) := lines2 r ++ S.map (stmWords r)
def lineToks (ws : List Str) : List (Str × Str) := ws.map tokOf ++ [(("sign" : Str), (";" : Str))]
section
variable {r : Rota}
theorem nm_six (ok : ROk r) {k : Int} (h : 0 ≤ k ∧ k < r.names.length) : nm r k ∈ six := ok.six _ (List.mem_of_getElem? (nm_mem h.1 h.2))
theorem words0 (ok : ROk r) {S : List Stm} (hS : ∀ s ∈ S, StmOk r s) : ∀ ws ∈ allWords r S, ws ≠ [] ∧ ws.length ≤ 13 ∧ ∀ x ∈ ws, Wd0 x ∧ x.length ≤ 8 := by
  have l6 : ∀ w ∈ kws, w.length ≤ 8 := by decide +kernel
  have key : ∀ {w : Str}, w ∈ kws → Wd0 w ∧ w.length ≤ 8 := fun h => ⟨w0_key h, l6 _ h⟩
  have nam : ∀ {k : Int}, 0 ≤ k ∧ k < r.names.length → Wd0 (nm r k) ∧ (nm r k).length ≤ 8 := fun h => ⟨w0_name (nm_six ok h), six_len _ (nm_six ok h)⟩
  have nu : ∀ {i : Int}, 0 ≤ i → i < 100 → Wd0 (num i) ∧ (num i).length ≤ 8 := fun h0 h => ⟨w0_num h0 h, Nat.le_trans (num_len' h0 (by omega)) (by decide)⟩
  intro ws hws
  rcases List.mem_append.mp hws with h | h
  · simp only [lines2, List.mem_cons, List.not_mem_nil, or_false] at h
    rcases h with rfl | rfl
    · refine ⟨by simp, by rw [List.length_cons]; have := ok.n6; omega, fun x hx => ?_⟩
      rcases List.mem_cons.mp hx with rfl | hx
      · exact key (by decide +kernel)
      · exact ⟨w0_name (ok.six x hx), six_len _ (ok.six x hx)⟩
    · refine ⟨by simp, by rw [List.length_cons, List.length_map]; have := ok.t12; omega, fun x hx => ?_⟩
      rcases List.mem_cons.mp hx with rfl | hx
      · exact key (by decide +kernel)
      · obtain ⟨t, ht, rfl⟩ := List.mem_map.mp hx
        exact nam (ok.t0 t ht)
  · obtain ⟨s, hs, rfl⟩ := List.mem_map.mp h
    have hso := hS s hs
    cases s with
    | w =>
      refine ⟨by simp [stmWords], by simp only [stmWords, List.length_cons, List.length_map, ok.wl]; have := ok.n6; omega, fun x hx => ?_⟩
      rcases List.mem_cons.mp hx with rfl | hx
      · exact key (by decide +kernel)
      · obtain ⟨v, hv, rfl⟩ := List.mem_map.mp hx
        have := ok.w0 v hv
        exact nu (by omega) (by omega)
    | aw t =>
      obtain ⟨h1, h2, h3, h4, h5⟩ := ok.a0 t hso
      have h6 : t.2.2 ≤ 12 := by simp at h5; omega
      refine ⟨by simp [stmWords, awW], by show 5 ≤ 13; decide, fun x hx => ?_⟩
      simp only [stmWords, awW, List.mem_cons, List.not_mem_nil, or_false] at hx
      rcases hx with rfl | rfl | rfl | rfl | rfl
      · exact key (by decide +kernel)
      · exact nam ⟨h1, h2⟩
      · exact nu h3 (by omega)
      · exact key (by decide +kernel)
      · exact nu (by omega) (by omega)
    | mk ks =>
      obtain ⟨g1, g2⟩ := hso
      refine ⟨by simp [stmWords], by simp only [stmWords, List.length_cons, List.length_map]; omega, fun x hx => ?_⟩
      rcases List.mem_cons.mp hx with rfl | hx
      · exact key (by decide +kernel)
      · obtain ⟨t, ht, rfl⟩ := List.mem_map.mp hx
        exact nam (g2 t ht)
theorem tokOf_key {w : Str} (h : w ∈ kws) : tokOf w = (("keyword" : Str), w) := (wk_key w h).kind
theorem toks_stm (ok : ROk r) {s : Stm} (hs : StmOk r s) : lineToks (stmWords r s) = stmToks r s := by
  have nam : ∀ {k : Int}, 0 ≤ k ∧ k < r.names.length → tokOf (nm r k) = (("name" : Str), nm r k) := fun h => (wk_name _ (nm_six ok h)).kind
  cases s with
  | w =>
    simp only [lineToks, stmWords, stmToks, List.map_cons, List.map_map, List.cons_append]
    rw [tokOf_key (by decide +kernel)]
    refine congrArg (_ :: ·) (congrArg (· ++ _) (List.map_congr_left fun v hv => ?_))
    have := ok.w0 v hv
    exact (wk_num (by omega) (by omega)).kind
  | aw t =>
    obtain ⟨h1, h2, h3, h4, h5⟩ := ok.a0 t hs
    have h6 : t.2.2 ≤ 12 := by simp at h5; omega
    simp only [lineToks, stmWords, stmToks, awToks, awW, List.map_cons, List.map_nil, List.cons_append, List.nil_append]
    rw [tokOf_key (by decide +kernel), nam ⟨h1, h2⟩, (wk_num h3 (by omega)).kind, tokOf_key (by decide +kernel), (wk_num (by omega) (by omega)).kind]
    rfl
  | mk ks =>
    simp only [lineToks, stmWords, stmToks, List.map_cons, List.map_map, List.cons_append]
    rw [tokOf_key (by decide +kernel)]
    refine congrArg (_ :: ·) (congrArg (· ++ _) (List.map_congr_left fun v hv => ?_))
    exact nam (hs.2 v hv)
theorem toks_rota (ok : ROk r) {S : List Stm} (hS : ∀ s ∈ S, StmOk r s) : (allWords r S).flatMap lineToks ++ [(("end" : Str), ("" : Str))] = rotaToks r S := by
  have e1 : (S.map (stmWords r)).flatMap lineToks = S.flatMap (stmToks r) := by
    induction S with
    | nil => rfl
    | cons s S ih =>
      rw [List.map_cons, List.flatMap_cons, List.flatMap_cons, ih fun x hx => hS x (List.mem_cons_of_mem _ hx), toks_stm ok (hS s List.mem_cons_self)]
  have e2 : lineToks ("people" :: r.names) = (("keyword" : Str), ("people" : Str)) :: (r.names.map (fun t => (("name" : Str), t)) ++ [(("sign" : Str), (";" : Str))]) := by
    simp only [lineToks, List.map_cons, List.cons_append]
    rw [tokOf_key (by decide +kernel)]
    exact congrArg (_ :: ·) (congrArg (· ++ _) (List.map_congr_left fun v hv => (wk_name _ (ok.six v hv)).kind))
  have e3 : lineToks ("turns" :: r.turns.map (nm r)) = (("keyword" : Str), ("turns" : Str)) :: ((r.turns.map (nmL r.names)).map (fun t => (("name" : Str), t)) ++ [(("sign" : Str), (";" : Str))]) := by
    simp only [lineToks, List.map_cons, List.cons_append, List.map_map]
    rw [tokOf_key (by decide +kernel)]
    exact congrArg (_ :: ·) (congrArg (· ++ _) (List.map_congr_left fun v hv => (wk_name _ (nm_six ok (ok.t0 v hv))).kind))
  unfold allWords lines2 rotaToks
  rw [List.flatMap_append, e1, List.flatMap_cons, List.flatMap_cons, List.flatMap_nil, e2, e3]
  simp [List.append_assoc]
end
/-! ### the canonical text -/
theorem lex_words : ∀ (ws : List Str) (rest : List Nat) (ts : List (Str × Str)), ws ≠ [] → (∀ x ∈ ws, Wd0 x) → LexR rest ts → LexR (TL.joinL [32] (ws.map TL.tl) ++ (59 :: rest)) (lineToks ws ++ ts)
  | [], _, _, h, _, _ => absurd rfl h
  | [w], rest, ts, _, h, hr => by
    have h1 := (h w List.mem_cons_self).wk
    refine LexR.word h1 (Stop.cons (.inr (.inr rfl))) ?_
    exact LexR.tok (by decide) (by rfl) hr
  | w :: v :: ws, rest, ts, _, h, hr => by
    have h1 := (h w List.mem_cons_self).wk
    have ih := lex_words (v :: ws) rest ts (by simp) (fun x hx => h x (List.mem_cons_of_mem _ hx)) hr
    have e : TL.joinL [32] ((w :: v :: ws).map TL.tl) ++ (59 :: rest) = TL.tl w ++ (32 :: (TL.joinL [32] ((v :: ws).map TL.tl) ++ (59 :: rest))) := by
      simp [TL.joinL]
    rw [e]
    exact LexR.word h1 (Stop.cons (.inl rfl)) (.space (.inl rfl) ih)
theorem tl_line (ws : List Str) : TL.tl (lineS ws) = TL.joinL [32] (ws.map TL.tl) ++ [59] := by
  unfold lineS
  rw [TL.tl_append, TL.join_eq, TL.tl_join]
  rfl
theorem lex_lines : ∀ (W : List (List Str)), (∀ ws ∈ W, ws ≠ [] ∧ ∀ x ∈ ws, Wd0 x) → LexR (TL.joinL [10] ((W.map lineS).map TL.tl)) (W.flatMap lineToks)
  | [], _ => .nil
  | [ws], h => by
    obtain ⟨h1, h2⟩ := h ws List.mem_cons_self
    have := lex_words ws [] [] h1 h2 .nil
    rw [← tl_line, List.append_nil] at this
    rw [List.flatMap_cons, List.flatMap_nil, List.append_nil]
    exact this
  | ws :: vs :: W, h => by
    obtain ⟨h1, h2⟩ := h ws List.mem_cons_self
    have ih := lex_lines (vs :: W) fun x hx => h x (List.mem_cons_of_mem _ hx)
    have := lex_words ws (10 :: TL.joinL [10] (((vs :: W).map lineS).map TL.tl)) _ h1 h2 (.space (.inr rfl) ih)
    have e : TL.joinL [10] (((ws :: vs :: W).map lineS).map TL.tl) = TL.joinL [32] (ws.map TL.tl) ++ 59 :: (10 :: TL.joinL [10] (((vs :: W).map lineS).map TL.tl)) := by
      simp only [List.map_cons, TL.joinL, tl_line, List.append_assoc]; rfl
    rw [e, List.flatMap_cons]
    exact this
def canonS (r : Rota) : List Stm := (if heavy r = true then [Stm.w] else []) ++ r.aways.map Stm.aw ++ (if r.makers.isEmpty = true then [] else [Stm.mk r.makers])
theorem canon_words (r : Rota) : allWords r (canonS r) = lineWords r := by
  unfold allWords canonS lineWords linesW linesM
  rw [List.map_append, List.map_append, List.map_map, ← List.append_assoc, ← List.append_assoc]
  have e1 : (if heavy r = true then [Stm.w] else []).map (stmWords r) = if heavy r = true then [("weights" : Str) :: r.weights.map num] else [] := by split <;> rfl
  have e2 : (if r.makers.isEmpty = true then [] else [Stm.mk r.makers]).map (stmWords r) = if r.makers.isEmpty = true then [] else [("makeup" : Str) :: r.makers.map (nm r)] := by split <;> rfl
  rw [e1, e2]; rfl
theorem canon_ok {r : Rota} (ok : ROk r) : ∀ s ∈ canonS r, StmOk r s := by
  intro s hs
  rcases List.mem_append.mp hs with hs | hs
  · rcases List.mem_append.mp hs with hs | hs
    · split at hs
      · rw [List.mem_singleton.mp hs]; exact True.intro
      · cases hs
    · obtain ⟨t, ht, rfl⟩ := List.mem_map.mp hs; exact ht
  · split at hs
    · cases hs
    · rw [List.mem_singleton.mp hs]
      have := asc_len ok.masc (n := r.names.length) ok.m0
      have := ok.n6
      exact ⟨by omega, ok.m0⟩
theorem w_ones {r : Rota} (ok : ROk r) (h : heavy r = false) : r.weights = List.replicate r.names.length 1 := by
  rw [← ok.wl, List.eq_replicate_iff]
  refine ⟨rfl, fun x hx => ?_⟩
  have h1 := ok.w0 x hx
  have h2 : ¬ (1 < x) := fun h3 => by
    unfold heavy at h
    have : r.weights.any (fun v => decide (1 < v)) = true := List.any_eq_true.mpr ⟨x, hx, decide_eq_true h3⟩
    rw [this] at h; cases h
  omega
theorem canon_aw (r : Rota) : (canonS r).filterMap Stm.aw? = r.aways := by
  unfold canonS
  rw [List.filterMap_append, List.filterMap_append]
  have e1 : (if heavy r = true then [Stm.w] else []).filterMap Stm.aw? = [] := by split <;> rfl
  have e2 : (if r.makers.isEmpty = true then [] else [Stm.mk r.makers]).filterMap Stm.aw? = [] := by split <;> rfl
  have e3 : (r.aways.map Stm.aw).filterMap Stm.aw? = r.aways := by
    rw [List.filterMap_map]; exact List.filterMap_some ..
  rw [e1, e2, e3, List.nil_append, List.append_nil]
theorem canon_w (r : Rota) : (canonS r).filter Stm.isW = if heavy r = true then [Stm.w] else [] := by
  unfold canonS
  rw [List.filter_append, List.filter_append]
  have e1 : (if heavy r = true then [Stm.w] else []).filter Stm.isW = if heavy r = true then [Stm.w] else [] := by split <;> rfl
  have e2 : (if r.makers.isEmpty = true then [] else [Stm.mk r.makers]).filter Stm.isW = [] := by split <;> rfl
  have e3 : (r.aways.map Stm.aw).filter Stm.isW = [] := by
    rw [List.filter_eq_nil_iff]; intro s hs
    obtain ⟨t, _, rfl⟩ := List.mem_map.mp hs; simp [Stm.isW]
  rw [e1, e2, e3, List.append_nil, List.append_nil]
theorem canon_m (r : Rota) : (canonS r).filterMap Stm.mk? = if r.makers.isEmpty = true then [] else [r.makers] := by
  unfold canonS
  rw [List.filterMap_append, List.filterMap_append]
  have e1 : (if heavy r = true then [Stm.w] else []).filterMap Stm.mk? = [] := by split <;> rfl
  have e2 : (if r.makers.isEmpty = true then [] else [Stm.mk r.makers]).filterMap Stm.mk? = if r.makers.isEmpty = true then [] else [r.makers] := by split <;> rfl
  have e3 : (r.aways.map Stm.aw).filterMap Stm.mk? = [] := by
    rw [List.filterMap_eq_nil_iff]; intro s hs
    obtain ⟨t, _, rfl⟩ := List.mem_map.mp hs; rfl
  rw [e1, e2, e3]; rfl
theorem canon_spell {r : Rota} (ok : ROk r) : Spell r (canonS r) := by
  have ml := asc_len ok.masc (n := r.names.length) ok.m0
  have n6 := ok.n6
  refine ⟨?_, fun h => ?_, fun t => by rw [canon_aw], by rw [canon_aw]; have := ok.a6; omega, ?_, fun ks h => ?_, fun h => ?_⟩
  · rw [canon_w]; split <;> simp
  · rw [canon_w] at h
    refine w_ones ok ?_
    cases hh : heavy r
    · rfl
    · rw [hh, if_pos rfl] at h; cases h
  · rw [canon_m]; split <;> simp
  · rw [canon_m] at h
    split at h
    · cases h
    · rename_i hm
      rw [List.mem_singleton.mp h]
      refine ⟨fun e => hm (by rw [e]; rfl), by omega, fun k => Iff.rfl⟩
  · rw [canon_m] at h
    split at h
    · rename_i hm; exact List.isEmpty_iff.mp hm
    · cases h
theorem text_len {r : Rota} (ok : ROk r) : (textOf r).length ≤ 10000 := by
  have h1 := join_len "\n" ((lineWords r).map lineS) 200 fun s hs => by
    obtain ⟨ws, hws, rfl⟩ := List.mem_map.mp hs
    have := words_len ok ws hws
    exact lineS_len this.1 this.2
  have h2 := lines_few ok
  have e1 : (("\n" : Str)).length = 1 := by decide
  rw [e1, List.length_map] at h1
  unfold textOf
  have : (lineWords r).length * (200 + 1) ≤ 10 * 201 := Nat.mul_le_mul (by omega) (by decide)
  omega
theorem says_text {r : Rota} (ok : ROk r) : Says (textOf r) r (canonS r) := by
  have hw := words0 ok (canon_ok ok)
  have hl := lex_lines (lineWords r) fun ws hws => by
    rw [← canon_words] at hws
    exact ⟨(hw ws hws).1, fun x hx => ((hw ws hws).2.2 x hx).1⟩
  have e : TL.tl (textOf r) = TL.joinL [10] (((lineWords r).map lineS).map TL.tl) := by
    unfold textOf
    rw [TL.join_eq, TL.tl_join]
    have : TL.tl ("\n" : Str) = [10] := by decide +kernel
    rw [this]
  rw [← e] at hl
  refine says_of ok (canon_spell ok) (text_len ok) hl ?_ ?_
  · rw [← canon_words]; exact toks_rota ok (canon_ok ok)
  · have h2 := lines_few ok
    rw [List.length_flatMap]
    have := sum_le (fun ws => (lineToks ws).length) 14 (lineWords r) fun ws hws => by
      have := (words_len ok ws hws).1
      unfold lineToks
      rw [List.length_append, List.length_map, List.length_singleton]; omega
    have h3 : (lineWords r).length * 14 ≤ 10 * 14 := Nat.mul_le_mul (by omega) (by decide)
    omega
end Br

/-! k17: the law's bad lists of bytes. -/
namespace Br
open PySem PySem.Spec PyProof.Rows L2
theorem extra_err {r : Rota} (ok : ROk r) {ex : List Int} (h : ex ≠ []) : rAll ((bytesOf r ++ ex).map V.int) [] = .error (bytesOf r).length := by
  have hc : (bytesOf r ++ ex).map V.int = (bodyB r ++ (bodyB r).sum.fmod 256 :: ex).map V.int := by unfold bytesOf; simp
  refine (rall_body ok hc).trans ?_
  have h1 := Rd.bind_ok (g := fun _ code ns => if ns.length < code.length then .error ns.length else .ok (r, ns)) (rb hc (Int.le_refl _) (Int.le_refl _))
  refine h1.trans (if_pos ?_)
  have : 0 < ex.length := List.length_pos_iff.mpr h
  rw [List.length_map]; simp only [List.length_append, List.length_singleton, bytesOf]; omega
theorem wrong_err {r : Rota} (ok : ROk r) {b : Int} (h : b ≠ (bodyB r).sum.fmod 256) : rAll ((bodyB r ++ [b]).map V.int) [] = .error (bodyB r).length := by
  refine (rall_body ok rfl).trans ?_
  refine (Rd.bind_er (g := fun _ code ns => if ns.length < code.length then .error ns.length else .ok (r, ns)) (rByte_bad (v := .int b) (by rw [List.getElem?_map, List.getElem?_append_right (Nat.le_refl _), Nat.sub_self]; rfl) ?_))
  rw [intIn_int, Bool.and_eq_false_iff, decide_eq_false_iff_not, decide_eq_false_iff_not]
  omega
def hd17 : List Int := [66, 2, 1, 0, 1, 1, 1, 2]
def mo17 : List Int := hd17 ++ [2, 0, 1]
def cases17 : List (List Int × Nat) := [([65], 0), ([66, 0], 1), ([66, 7], 1), ([66, 1, 0], 2), ([66, 1, 9], 2), ([66, 1, 1, 26], 3)] ++ [([66, 1, 1, 0, 0], 4), ([66, 1, 1, 0, 10], 4), ([66, 2, 1, 0, 1, 1, 0, 1], 5)] ++ [([66, 1, 2, 14, 5], 2)] ++
  [(hd17 ++ [0], 8), (hd17 ++ [13], 8), (hd17 ++ [2, 2], 9), (hd17 ++ [2, 0, 0], 8), (mo17 ++ [21], 11)] ++
  [(mo17 ++ [1, 2], 12), (mo17 ++ [1, 0, 12], 13), (mo17 ++ [1, 0, 2, 2], 14), (mo17 ++ [1, 0, 0, 5], 14)] ++
  [(mo17 ++ [1, 0, 3, 13], 14), (mo17 ++ [2, 1, 0, 2, 0, 0, 2], 15), (mo17 ++ [2, 1, 0, 2, 1, 0, 2], 15)] ++
  [(mo17 ++ [0, 3], 12), (mo17 ++ [0, 1, 2], 13), (mo17 ++ [0, 2, 1], 13), (mo17 ++ [0, 2, 0, 0], 14)] ++
  [(hd17 ++ [1], 8), (mo17 ++ [0, 2, 0, 2], 14)]
def errAt (r : Except Nat (Rota × List Int)) (n : Nat) : Bool := match r with
  | .error m => m == n
  | .ok _ => false
theorem errAt_is {r : Except Nat (Rota × List Int)} {n : Nat} (h : errAt r n = true) : r = .error n := by
  unfold errAt at h
  split at h
  · rw [eq_of_beq h]
  · cases h
theorem cases_err : cases17.all (fun q => errAt (rAll (q.1.map V.int) []) q.2 && decide (q.2 < q.1.length)) = true := by decide +kernel
theorem case_err {xs : List Int} {n : Nat} (h : (xs, n) ∈ cases17) (ys : List Int) : rAll ((xs ++ ys).map V.int) [] = .error n := by
  have := List.all_eq_true.mp cases_err _ h
  rw [Bool.and_eq_true] at this
  refine all_more (errAt_is this.1) (by rw [List.length_map]; exact of_decide_eq_true this.2) fun i hi => ?_
  rw [List.map_append, List.getElem?_append_left hi]
def good17 : Rota := ⟨["a", "b"], [0, 1], [1, 2], [(0, 0, 2), (0, 0, 3)], [0, 1]⟩
theorem good_ok : ROk good17 where
  n1 := by decide
  n6 := by decide
  nd := by decide +kernel
  six := by decide +kernel
  t0 := by decide +kernel
  tall := by
    intro k hk
    have : k < 2 := hk
    match k, this with
    | 0, _ => decide
    | 1, _ => decide
  t12 := by decide
  wl := rfl
  w0 := by decide +kernel
  asc := by
    refine List.pairwise_cons.mpr ⟨fun t ht => ?_, List.pairwise_singleton _ _⟩
    rw [List.mem_singleton.mp ht]; decide
  a6 := by decide
  a0 := by
    intro t ht
    simp only [good17, List.mem_cons, List.not_mem_nil, or_false] at ht
    rcases ht with rfl | rfl
    · unfold AwOk; decide
    · unfold AwOk; decide
  masc := by decide +kernel
  m0 := by decide +kernel
theorem good_bytes : bytesOf good17 = (mo17 ++ [2, 0, 0, 2, 0, 0, 3, 2, 0, 1]) ++ [(mo17 ++ [2, 0, 0, 2, 0, 0, 3, 2, 0, 1]).sum.fmod 256] := by decide +kernel
theorem good_text : textOf good17 = "people a b;\nturns a b;\nweights 1 2;\naway a 0 of 2;\naway a 0 of 3;\nmakeup a b;" := by decide +kernel
/-- a cut list -/
theorem cut_err {r : Rota} (ok : ROk r) {k : Nat} (hk : k < (bytesOf r).length) : rAll (((bytesOf r).map V.int).take k) [] = .error k :=
  all_odd ok hk (fun i hi => List.getElem?_take_of_lt hi) fun v hv => by
    rw [List.getElem?_take_eq_none (Nat.le_refl _)] at hv; cases hv
theorem odd_err {r : Rota} (ok : ROk r) {k : Nat} (hk : k < (bytesOf r).length) {v : V} (h : ∀ lo hi : Int, 0 ≤ lo → hi ≤ 255 → intIn lo hi v = false) (rest : List V) : rAll ((((bytesOf r).map V.int).take k ++ [v]) ++ rest) [] = .error k := by
  have hl : (((bytesOf r).map V.int).take k).length = k := by rw [List.length_take, List.length_map]; omega
  refine all_odd ok hk (fun i hi => ?_) fun u hu => ?_
  · rw [List.append_assoc, List.getElem?_append_left (by rw [hl]; exact hi)]
    exact List.getElem?_take_of_lt hi
  · rw [List.append_assoc, List.getElem?_append_right (by rw [hl]; exact Nat.le_refl _), hl, Nat.sub_self] at hu
    cases hu; exact h
end Br

/-! isinstance of a caught error of an own class, with or without a dict; list.count of flat things. -/
namespace Br
open PySem PySem.Spec PyProof.Rows L2
/-- what a class must say, that isinstance asks its caught instances rightly -/
structure IsX (K : PySem.W.Frag) (C : Addr) : Prop where
  cl : PySem.W.isClsIn K C = true
  ga : PySem.W.findIn K (.ref C) "__getattribute__" = some (some (.builtin "BaseException.__getattribute__"))
  gg : PySem.W.findIn K (.ref C) "__getattr__" = some none
  sb : PySem.W.subIn K (.ref C) (.type "BaseException") = some true
  ca : PySem.W.findIn K (.ref C) "__class__" = some (some (.builtin "object.__class__"))
  cg : PySem.W.specialIn K (.builtin "object.__class__") "__get__" = some (some (.builtin "getset_descriptor.__get__"))
  tk : PySem.W.takesIn K (.builtin "object.__class__") = some true
  mo : PySem.W.mroIn K C (.type "object") = some true
/-- the error at a: of the class at C; its dict, if any, is told -/
def DOk' (H : Hp) (d : Option Addr) : Prop := ∀ dd, d = some dd → ∃ fs, H dd = some (.xd fs)
def rIsX (K : PySem.W.Frag) (a : Addr) (cls : Value) (d : Option Addr) : List V → Hp → VK → Prop := fun xs H Q => ∃ (C : Addr) (c : V) (cv : Value) (b : Bool), cls = .ref C ∧ IsX K C ∧ DOk' H d ∧ xs = [.ref a, c] ∧ (∀ u, RelV c u → u = cv) ∧ PySem.W.kitOne K (.ref C) cv = some b ∧ Q (.bl b) H
theorem call_isX {X : Cx} {a : Addr} {oe : Obj} {cls : Value} {d : Option Addr} {pn : List (Addr × Obj)} (hz : Zc cls d oe) (hf : ∃ vs, oe.data = .fields vs) : CallR (X.suite a ((a, oe) :: pn)) (.builtin "isinstance") (rIsX X.K a cls d) := by
  intro pins y σ H xs us Q I r h
  obtain ⟨C, c, cv, b, rfl, T, hd, rfl, hcv, e, q⟩ := h
  cases r with
  | cons rx rr => cases rr with
    | cons rt r0 =>
      cases r0
      cases rx
      have ec := hcv _ rt
      subst ec
      obtain ⟨hget, _⟩ := I.pin (a, oe) (List.mem_append.mpr (.inl List.mem_cons_self))
      obtain ⟨vs, hv⟩ := hf
      have J : ∃ od, PySem.W.InstAt y.heap a oe C od := by
        cases hd0 : d with
        | none => exact ⟨none, hget, hz.1, by unfold PySem.W.notCls; rw [hv] <;> rfl, by rw [hz.2, hd0]; trivial⟩
        | some dd =>
          obtain ⟨fs, ea⟩ := hd dd hd0
          have hx : ObjOk X.prog X.w H y.heap dd (.xd fs) := I.hok dd _ ea
          obtain ⟨mA, hns, _⟩ := hx
          obtain ⟨od, ho, _⟩ := lookIn_ns hns
          exact ⟨some od, hget, hz.1, by unfold PySem.W.notCls; rw [hv] <;> rfl, by rw [hz.2, hd0]; exact ho⟩
      obtain ⟨od, J⟩ := J
      exact PySem.W.kia_one (PySem.W.kitx_exc (od := od) T.cl T.ga T.gg T.sb T.ca T.cg T.tk T.mo) I.kIn J e (fun z => nomatch z) fun tk => ⟨.bl b, H, I.kept (t' := tk) fun _ _ z => z, rfl, q⟩
/-! ### list.count of flat things -/
section
variable {X : Cx}
def rCntF (K : PySem.W.Frag) : V → List V → Hp → VK → Prop := fun x xs H Q => ∃ (p : Addr) (ys : List V) (y : V), x = .ref p ∧ xs = [y] ∧ SqL K H p ys ∧ flatV y = true ∧ ys.all flatV = true ∧ Q (.int ((ys.countP fun z => eqV z y : Nat))) H
theorem count_flat {y : V} : ∀ {ys : List V} {us : List Value}, Vals ys us → ys.all flatV = true → us.countP (eqU y) = ys.countP fun z => eqV z y
  | [], _, .nil, _ => rfl
  | z :: ys, _, .cons r rr, h => by
    rw [List.all_cons, Bool.and_eq_true] at h
    rw [List.countP_cons, List.countP_cons, count_flat rr h.2, eqU_of r h.1]
theorem mt_countF : MtR X "list.count" (rCntF X.K) := by
  intro pins s σ H x xs v us Q I rx rxs h
  obtain ⟨p, ys, y, rfl, rfl, hs, fy, fys, q⟩ := h
  cases rx
  cases rxs with
  | cons ry rt =>
    rename_i uy ut
    cases rt
    obtain ⟨its, rv, ⟨⟨cls, dd, data, sl⟩, n, ho, hc, hdn, hd⟩, hlen⟩ := I.list hs
    simp only at hc hd
    subst hc hd
    refine call_meets PySem.F.slot_list_count ⟨_, ho, rfl⟩ PySem.F.entry_list_count (PySem.F.args_list_count_2 _ _)
      (SeqAt.list_countAt p its.toArray n dd sl uy (eqU y)) ⟨ho, fun u' hu' => mem_eqAt ry fy rv fys u' (by simpa using hu'), ?_⟩
    refine ⟨.int ((ys.countP fun z => eqV z y : Nat)), H, I.tok _, ⟨s.toks, ?_⟩, q⟩
    show Value.int ((its.toArray.toList.countP (eqU y) : Nat) : Int) s.toks = _
    rw [show its.toArray.toList = its from rfl, count_flat rv fys]
end
end Br

namespace Br
open PySem PySem.Spec PyProof.Rows L2
/-! ### what the law tells of an error -/
def clsN : List Str := ["InvalidTick", "InvalidCount", "UnknownPerson", "TooLong", "DifferentPeople", "Contradiction", "NobodyHome", "InvalidName", "UnknownName", "SyntaxFault", "CheckFault", "InvalidCode", "InvalidOperation", "InvalidSession"]
def kindN : List Str := ["tick", "count", "person", "long", "different", "contradiction", "nobody", "name", "unknown", "syntax", "check", "code", "operation", "session"]
/-- the class at C is the j-th of the fourteen -/
structure ErK (K : PySem.W.Frag) (cs : Nat → Addr) (CR C : Addr) (j : Nat) : Prop where
  j14 : j < 14
  at_ : ∀ i, i < 14 → PySem.W.kitOne K (.ref C) (.ref (cs i)) = some (decide (i = j))
  ve : PySem.W.kitOne K (.ref C) (.type "ValueError") = some true
  ex : PySem.W.exmOne K (.ref C) (.ref CR) = some true
  is_ : IsX K C
  xf : XfC K C
/-- what the law's word of an error is: a kind's name, and what it carries -/
inductive Carry (K : PySem.W.Frag) (C : Addr) (H : Hp) (d : Option Addr) (Q : VK) : Nat → Prop
  | none {j : Nat} (hj : j < 9) (hd : d = none) (q : ∀ p H', Wd [] H H' [(p, .tup [.str (kindN.getD j ""), .int 0])] → Q (.ref p) H') : Carry K C H d Q j
  | place {j : Nat} {dd : Addr} {fs : List (Str × V)} {i : Int} (hj : 11 ≤ j) (hd : d = some dd) (ha : H dd = some (.xd fs)) (hl : fs.lookup ("place" : Str) = some (.int i)) (no : PySem.W.findIn K (.ref C) "place" = some none)
      (q : ∀ p H', Wd [] H H' [(p, .tup [.str (kindN.getD j ""), .int i])] → Q (.ref p) H') : Carry K C H d Q j
  | syn {dd : Addr} {fs : List (Str × V)} {l c : Int} (hd : d = some dd) (ha : H dd = some (.xd fs)) (h1 : fs.lookup ("line" : Str) = some (.int l)) (h2 : fs.lookup ("column" : Str) = some (.int c)) (n1 : PySem.W.findIn K (.ref C) "line" = some none) (n2 : PySem.W.findIn K (.ref C) "column" = some none)
      (q : ∀ p p2 H', Wd [] H H' [(p, .tup [.str "syntax", .ref p2]), (p2, .tup [.int l, .int c])] → Q (.ref p) H') : Carry K C H d Q 9
  | chk {dd : Addr} {fs : List (Str × V)} {r : Str} {l c : Int} (hd : d = some dd) (ha : H dd = some (.xd fs)) (h0 : fs.lookup ("reason" : Str) = some (.str r)) (h1 : fs.lookup ("line" : Str) = some (.int l)) (h2 : fs.lookup ("column" : Str) = some (.int c))
      (n0 : PySem.W.findIn K (.ref C) "reason" = some none) (n1 : PySem.W.findIn K (.ref C) "line" = some none) (n2 : PySem.W.findIn K (.ref C) "column" = some none)
      (q : ∀ p p2 H', Wd [] H H' [(p, .tup [.str "check", .ref p2]), (p2, .tup [.str r, .int l, .int c])] → Q (.ref p) H') : Carry K C H d Q 10
/-- the wish: what leaves the call is one of the fourteen, and the law's word of it is what the caller wants -/
def ErW (K : PySem.W.Frag) (cs : Nat → Addr) (CR : Addr) (Q : VK) : XK := fun cls d H => ∃ (C : Addr) (j : Nat), cls = .ref C ∧ ErK K cs CR C j ∧ DOk' H d ∧ Carry K C H d Q j
theorem kinds_count : ∀ j : Fin 14, ((List.range 14).map fun i => V.bl (decide (i = j.val))).countP (fun z => eqV z (.bl true)) = 1 := by decide
theorem kinds_at : ∀ j : Fin 14, ((List.range 14).map fun i => V.bl (decide (i = j.val)))[j.val]? = some (.bl true) := by decide
theorem kinds_no : ∀ j m : Fin 14, m.val < j.val → ((List.range 14).map fun i => V.bl (decide (i = j.val)))[m.val]? = some (.bl false) := by decide
theorem kinds_flat : ∀ j : Nat, ((List.range 14).map fun i => V.bl (decide (i = j))).all flatV = true := fun j => by
  rw [List.all_eq_true]
  intro v hv
  obtain ⟨i, _, rfl⟩ := List.mem_map.mp hv; rfl
theorem kind_get : ∀ j : Fin 14, (kindN.map V.str)[j.val]? = some (.str (kindN.getD j.val "")) := by decide +kernel
theorem kind_two : ∀ j : Fin 14, inV (.str (kindN.getD j.val "")) [.str "syntax", .str "check"] = decide (j.val = 9 ∨ j.val = 10) := by decide +kernel
theorem kind_three : ∀ j : Fin 14, inV (.str (kindN.getD j.val "")) [.str "code", .str "operation", .str "session"] = decide (11 ≤ j.val) := by decide +kernel
section
variable {X : Cx}
/-- e.f, e the exception that the suite holds -/
def tXfE (K : PySem.W.Frag) (a : Addr) (cls : Value) (d : Option Addr) (f : Str) (te : TE) : TE := fun σ H Q => te σ H fun x H1 => x = .ref a ∧ ∃ (C dd : Addr) (fs : List (Str × V)) (v : V), cls = .ref C ∧ XfC K C ∧ PySem.W.findIn K (.ref C) f = some none ∧ d = some dd ∧ H1 dd = some (.xd fs) ∧ fs.lookup f = some v ∧ Q v H1
theorem pe_xfE {a : Addr} {oe : Obj} {cls : Value} {d : Option Addr} {pn : List (Addr × Obj)} {e : Expr} {te : TE} {pos : Pos} {n : Str} (hz : Zc cls d oe) (hf : ∃ vs, oe.data = .fields vs) (he : PE (X.suite a ((a, oe) :: pn)) e te) (hb : attributeBase e n X.env (eval e X.env) = eval e X.env := by rfl) :
    PE (X.suite a ((a, oe) :: pn)) (.Attribute e n pos) (tXfE X.K a cls d n te) := by
  refine ⟨fun pins y σ H Q I h => ?_⟩
  refine attr_of hb (thn (he.run pins y σ H _ I h) fun u y1 ⟨x, H1, I1, rx, ex, C, dd, fs, v, ec, T, hno, ed, ea, l, q⟩ => ?_)
  subst ex ec ed
  obtain rfl : u = Value.ref a := rx
  obtain ⟨vs, hd⟩ := hf
  have hx : ObjOk X.prog X.w H1 y1.heap dd (.xd fs) := I1.hok dd _ ea
  obtain ⟨mA, hns, hr⟩ := hx
  obtain ⟨od, ho, hl⟩ := lookIn_ns hns
  obtain ⟨u1, hu1, ru⟩ := RelO.some_of (v := v) (o := mA n) (by rw [← l]; exact hr n)
  have J : PySem.W.InstAt y1.heap a oe C (some od) := ⟨(I1.pin (a, oe) (List.mem_append_left _ List.mem_cons_self)).1, hz.1, by unfold PySem.W.notCls; rw [hd] <;> rfl, by rw [hz.2]; exact ho⟩
  exact HandSPX.exc_get I1.kIn J T.ga T.gg T.exC (PySem.W.findObj_own T.hdC hno rfl (by rw [hl, hu1])) (handed_of ru) ⟨v, H1, I1.tok _, ru, q⟩
theorem takes_len {W : WX} (tk : Takes X W) : Takes X (fun c d σ H => σ.length = X.N.length → W c d σ H) := fun u z ⟨a, B, sI, pins, σ, H, cls, d, e, I, nb, up, sky, na, os, ag, w⟩ => tk u z ⟨a, B, sI, pins, σ, H, cls, d, e, I, nb, up, sky, na, os, ag, w I.len⟩
end
section
variable {P : Program} {w : World} {K : PySem.W.Frag} {mg : Str → Option Value} {base : Heap} {cs : Nat → Addr} {CR : Addr}
abbrev s_law_error_of : Stmt := topS 57
theorem sc_law_error_of : FnScope ["_law_call", "e", "_law_kinds", "_law_names", "_law_name"] ["_law_call"] (defScope s_law_error_of) := ⟨rfl, rfl, rfl, by decide +kernel, rfl, by decide +kernel, by decide +kernel⟩
/-- what the law's _law_error_of makes of a call's reading -/
def TTe (K : PySem.W.Frag) (cs : Nat → Addr) (CR : Addr) : (XK → Hp → VK → Prop) → Hp → VK → Prop := fun tl H Q => tl (ErW K cs CR Q) H (fun _ H' => Q .non H')
theorem five {σ : L2.St} (h : σ.length = 5) : ∃ a b c d e, σ = [a, b, c, d, e] := by
  match σ, h with
  | [a, b, c, d, e], _ => exact ⟨a, b, c, d, e, rfl⟩
abbrev erX (X : Cx) (g : Addr) (cdg : Value) (s : Shared) (H : Hp) (a : Addr) (oe : Obj) (pn : List (Addr × Obj)) : Cx := (cxOf C8.CX0 X.prog X.w X.K X.mg X.base ["_law_call", "e", "_law_kinds", "_law_names", "_law_name"] "_law_error_of" (defScope s_law_error_of) g cdg X.A X.stack s H C8.E0).nox.suite a ((a, oe) :: pn)
def suiteOf : List Stmt → List Stmt
  | .Try _ [.ExceptHandler _ _ b _] _ _ _ :: _ => b
  | _ => []
/-- the suite's reading -/
def erTs (K : PySem.W.Frag) (cs : Nat → Addr) (a : Addr) (cls : Value) (d : Option Addr) : TS :=  
  (tSeq (tAsg (tLst (tCons (tCB (rIsX K a cls d) (tCons (tVar 1) (tCons (tC (V.ref (cs 0))) tNil))) (tCons (tCB (rIsX K a cls d) (tCons (tVar 1) (tCons (tC (V.ref (cs 1))) tNil))) (tCons (tCB (rIsX K a cls d) (tCons (tVar 1) (tCons (tC (V.ref (cs 2))) tNil))) tNil)))) (gName 2)) 
  (tSeq (tAsg (tOp rCat (tVar 2) (tLst (tCons (tCB (rIsX K a cls d) (tCons (tVar 1) (tCons (tC (V.ref (cs 3))) tNil))) (tCons (tCB (rIsX K a cls d) (tCons (tVar 1) (tCons (tC (V.ref (cs 4))) tNil))) (tCons (tCB (rIsX K a cls d) (tCons (tVar 1) (tCons (tC (V.ref (cs 5))) tNil))) tNil))))) (gName 2)) 
  (tSeq (tAsg (tOp rCat (tVar 2) (tLst (tCons (tCB (rIsX K a cls d) (tCons (tVar 1) (tCons (tC (V.ref (cs 6))) tNil))) (tCons (tCB (rIsX K a cls d) (tCons (tVar 1) (tCons (tC (V.ref (cs 7))) tNil))) (tCons (tCB (rIsX K a cls d) (tCons (tVar 1) (tCons (tC (V.ref (cs 8))) tNil))) tNil))))) (gName 2)) 
  (tSeq (tAsg (tOp rCat (tVar 2) (tLst (tCons (tCB (rIsX K a cls d) (tCons (tVar 1) (tCons (tC (V.ref (cs 9))) tNil))) (tCons (tCB (rIsX K a cls d) (tCons (tVar 1) (tCons (tC (V.ref (cs 10))) tNil))) (tCons (tCB (rIsX K a cls d) (tCons (tVar 1) (tCons (tC (V.ref (cs 11))) tNil))) tNil))))) (gName 2)) 
  (tSeq (tAsg (tOp rCat (tVar 2) (tLst (tCons (tCB (rIsX K a cls d) (tCons (tVar 1) (tCons (tC (V.ref (cs 12))) tNil))) (tCons (tCB (rIsX K a cls d) (tCons (tVar 1) (tCons (tC (V.ref (cs 13))) tNil))) tNil)))) (gName 2)) 
  (tSeq (tIfS (tOr (tTest (tOp rNe (tBM K "list" (rCntF K) (tVar 2) (tCons (tC (V.bl true)) tNil)) (tC (V.int 1)))) (tNot (tB (tCB (rIsX K a cls d) (tCons (tVar 1) (tCons (tC (V.ty "ValueError")) tNil)))))) (tRet (tTup (tCons (tC (V.str "other")) (tCons (tC (V.int 0)) tNil)))) tNext) 
  (tSeq (tAsg (tLst (tCons (tC (V.str "tick")) (tCons (tC (V.str "count")) (tCons (tC (V.str "person")) (tCons (tC (V.str "long")) (tCons (tC (V.str "different")) (tCons (tC (V.str "contradiction")) (tCons (tC (V.str "nobody")) (tCons (tC (V.str "name")) (tCons (tC (V.str "unknown")) tNil)))))))))) (gName 3)) 
  (tSeq (tAsg (tOp (rIxL K) (tOp rCat (tVar 3) (tLst (tCons (tC (V.str "syntax")) (tCons (tC (V.str "check")) (tCons (tC (V.str "code")) (tCons (tC (V.str "operation")) (tCons (tC (V.str "session")) tNil))))))) (tBM K "list" (rIndex K) (tVar 2) (tCons (tC (V.bl true)) tNil))) (gName 4)) 
  (tSeq (tIfS (tTest (tOp (rIn K false) (tVar 4) (tLst (tCons (tC (V.str "syntax")) (tCons (tC (V.str "check")) tNil))))) (tRet (tTup (tCons (tVar 4) (tCons (tIf (tTest (tOp rEq (tVar 4) (tC (V.str "syntax")))) (tTup (tCons (tXfE K a cls d "line" (tVar 1)) (tCons (tXfE K a cls d "column" (tVar 1)) tNil))) (tTup (tCons (tXfE K a cls d "reason" (tVar 1)) (tCons (tXfE K a cls d "line" (tVar 1)) (tCons (tXfE K a cls d "column" (tVar 1)) tNil))))) tNil)))) tNext) (tRet (tTup (tCons (tVar 4) (tCons (tIf (tTest (tOp (rIn K false) (tVar 4) (tLst (tCons (tC (V.str "code")) (tCons (tC (V.str "operation")) (tCons (tC (V.str "session")) tNil)))))) (tXfE K a cls d "place" (tVar 1)) (tC (V.int 0))) tNil)))))))))))))
theorem er_suite {X : Cx} {g : Addr} {cdg : Value} {s : Shared} {H : Hp} {a : Addr} {oe : Obj} {cls : Value} {d : Option Addr} {pn : List (Addr × Obj)} (T : Bi X.mg) (nd : (["_law_call", "e", "_law_kinds", "_law_names", "_law_name"] : List Str).Nodup) (gc : ∀ i, i < 14 → X.mg (clsN.getD i "") = some (.ref (cs i))) (hz : Zc cls d oe) (hf : ∃ vs, oe.data = .fields vs) : PSs (erX X g cdg s H a oe pn) (suiteOf (defBody s_law_error_of)) (erTs X.K cs a cls d) := by
  have this : PSs (erX X g cdg s H a oe pn) (suiteOf (defBody s_law_error_of)) _ := (pss_cons (ps_set (i := 2) nd rfl (Or.inl rfl) (pe_lst (pa_cons (pe_callB (call_isX hz hf) (by rfl) T.isinstance (by decide +kernel) (pa_cons (pv 1) (pa_cons (pe_glob (v := .ref (cs 0)) (by rfl) (gc 0 (by decide)) rfl) pa_nil))) (pa_cons (pe_callB (call_isX hz hf) (by rfl) T.isinstance (by decide +kernel) (pa_cons (pv 1) (pa_cons (pe_glob (v := .ref (cs 1)) (by rfl) (gc 1 (by decide)) rfl) pa_nil))) (pa_cons (pe_callB (call_isX hz hf) (by rfl) T.isinstance (by decide +kernel) (pa_cons (pv 1) (pa_cons (pe_glob (v := .ref (cs 2)) (by rfl) (gc 2 (by decide)) rfl) pa_nil))) pa_nil)))))
 (pss_cons (ps_set (i := 2) nd rfl (Or.inl rfl) (pe_op op_cat (pv 2) (pe_lst (pa_cons (pe_callB (call_isX hz hf) (by rfl) T.isinstance (by decide +kernel) (pa_cons (pv 1) (pa_cons (pe_glob (v := .ref (cs 3)) (by rfl) (gc 3 (by decide)) rfl) pa_nil))) (pa_cons (pe_callB (call_isX hz hf) (by rfl) T.isinstance (by decide +kernel) (pa_cons (pv 1) (pa_cons (pe_glob (v := .ref (cs 4)) (by rfl) (gc 4 (by decide)) rfl) pa_nil))) (pa_cons (pe_callB (call_isX hz hf) (by rfl) T.isinstance (by decide +kernel) (pa_cons (pv 1) (pa_cons (pe_glob (v := .ref (cs 5)) (by rfl) (gc 5 (by decide)) rfl) pa_nil))) pa_nil))))))
 (pss_cons (ps_set (i := 2) nd rfl (Or.inl rfl) (pe_op op_cat (pv 2) (pe_lst (pa_cons (pe_callB (call_isX hz hf) (by rfl) T.isinstance (by decide +kernel) (pa_cons (pv 1) (pa_cons (pe_glob (v := .ref (cs 6)) (by rfl) (gc 6 (by decide)) rfl) pa_nil))) (pa_cons (pe_callB (call_isX hz hf) (by rfl) T.isinstance (by decide +kernel) (pa_cons (pv 1) (pa_cons (pe_glob (v := .ref (cs 7)) (by rfl) (gc 7 (by decide)) rfl) pa_nil))) (pa_cons (pe_callB (call_isX hz hf) (by rfl) T.isinstance (by decide +kernel) (pa_cons (pv 1) (pa_cons (pe_glob (v := .ref (cs 8)) (by rfl) (gc 8 (by decide)) rfl) pa_nil))) pa_nil))))))
 (pss_cons (ps_set (i := 2) nd rfl (Or.inl rfl) (pe_op op_cat (pv 2) (pe_lst (pa_cons (pe_callB (call_isX hz hf) (by rfl) T.isinstance (by decide +kernel) (pa_cons (pv 1) (pa_cons (pe_glob (v := .ref (cs 9)) (by rfl) (gc 9 (by decide)) rfl) pa_nil))) (pa_cons (pe_callB (call_isX hz hf) (by rfl) T.isinstance (by decide +kernel) (pa_cons (pv 1) (pa_cons (pe_glob (v := .ref (cs 10)) (by rfl) (gc 10 (by decide)) rfl) pa_nil))) (pa_cons (pe_callB (call_isX hz hf) (by rfl) T.isinstance (by decide +kernel) (pa_cons (pv 1) (pa_cons (pe_glob (v := .ref (cs 11)) (by rfl) (gc 11 (by decide)) rfl) pa_nil))) pa_nil))))))
 (pss_cons (ps_set (i := 2) nd rfl (Or.inl rfl) (pe_op op_cat (pv 2) (pe_lst (pa_cons (pe_callB (call_isX hz hf) (by rfl) T.isinstance (by decide +kernel) (pa_cons (pv 1) (pa_cons (pe_glob (v := .ref (cs 12)) (by rfl) (gc 12 (by decide)) rfl) pa_nil))) (pa_cons (pe_callB (call_isX hz hf) (by rfl) T.isinstance (by decide +kernel) (pa_cons (pv 1) (pa_cons (pe_glob (v := .ref (cs 13)) (by rfl) (gc 13 (by decide)) rfl) pa_nil))) pa_nil)))))
 (pss_cons (ps_if (PW.pt (pw_or (pt_cmpR op_ne (pe_bm (X := erX X g cdg s H a oe pn) PySem.F.plainAttrs_list PySem.F.slot_list_count PySem.F.type_list_count mt_countF (pv 2) (pa_cons pe_bl pa_nil)) pe_int (nomark _)) (pw_or1 (pt_not (pt_val (pe_callB (call_isX hz hf) (by rfl) T.isinstance (by decide +kernel) (pa_cons (pv 1) (pa_cons (pe_bltn (v := .ty "ValueError") (by rfl) T.ValueError (by decide +kernel) rfl) pa_nil))))))))
 (pss_one (ps_ret (pe_tup (pa_cons pe_str (pa_cons pe_int pa_nil)))))
 pss_nil)
 (pss_cons (ps_set (i := 3) nd rfl (Or.inl rfl) (pe_lst (pa_cons pe_str (pa_cons pe_str (pa_cons pe_str (pa_cons pe_str (pa_cons pe_str (pa_cons pe_str (pa_cons pe_str (pa_cons pe_str (pa_cons pe_str pa_nil)))))))))))
 (pss_cons (ps_set (i := 4) nd rfl (Or.inl rfl) (pe_ix ix_list (pe_op op_cat (pv 3) (pe_lst (pa_cons pe_str (pa_cons pe_str (pa_cons pe_str (pa_cons pe_str (pa_cons pe_str pa_nil))))))) (pe_bm (X := erX X g cdg s H a oe pn) PySem.F.plainAttrs_list PySem.F.slot_list_index PySem.F.type_list_index mt_index (pv 2) (pa_cons pe_bl pa_nil)) (fun _ _ => rfl)))
 (pss_cons (ps_if (pt_cmpR op_in_seq (pv 4) (pe_lst (pa_cons pe_str (pa_cons pe_str pa_nil))) (by rfl))
 (pss_one (ps_ret (pe_tup (pa_cons (pv 4) (pa_cons (pe_ifExp (pt_cmpR op_eq (pv 4) pe_str (nomark _)) (pe_tup (pa_cons (pe_xfE hz hf (pv 1)) (pa_cons (pe_xfE hz hf (pv 1)) pa_nil))) (pe_tup (pa_cons (pe_xfE hz hf (pv 1)) (pa_cons (pe_xfE hz hf (pv 1)) (pa_cons (pe_xfE hz hf (pv 1)) pa_nil))))) pa_nil)))))
 pss_nil)
 (pss_one (ps_ret (pe_tup (pa_cons (pv 4) (pa_cons (pe_ifExp (pt_cmpR op_in_seq (pv 4) (pe_lst (pa_cons pe_str (pa_cons pe_str (pa_cons pe_str pa_nil)))) (by rfl)) (pe_xfE hz hf (pv 1)) pe_int) pa_nil))))))))))))))
  exact this
theorem sz20 {n : Nat} (h : n ≤ 20) : n ≤ sizeLine := Nat.le_trans h (by decide)
theorem ite_no {b : Bool} {p q : Prop} (h : ¬ b = true) (hq : q) : if b = true then p else q := by rw [if_neg h]; exact hq
theorem ite_yes {b : Bool} {p q : Prop} (h : b = true) (hp : p) : if b = true then p else q := by rw [if_pos h]; exact hp
theorem er_read {a : Addr} {C : Addr} {d : Option Addr} {j : Nat} {H : Hp} {Q : VK} {D : Ends} {x0 x2 x3 x4 : Option V} (E : ErK K cs CR C j) (hd : DOk' H d) (cr : Carry K C H d Q j) (hD : D.rt = Q) :
    erTs K cs a (.ref C) d D [x0, some (.ref a), x2, x3, x4] H := by
  have le20 : ∀ {n m : Nat}, Nat.ble n m = true → n ≤ m := fun h => Nat.le_of_ble_eq_true h
  obtain ⟨j14, eat, eve, _, eis, exf⟩ := E
  have dk : ∀ {H' : Hp} {l : List (Addr × HO)}, Wd [] H H' l → DOk' H' d := fun w dd e => by
    obtain ⟨fs, h⟩ := hd dd e
    exact ⟨fs, w.old h (by simp)⟩
  have iz : ∀ (i : Nat), i < 14 → ∀ {σ : L2.St} {H' : Hp} {l : List (Addr × HO)} {R : VK}, σ[1]? = some (some (V.ref a)) → Wd [] H H' l → R (.bl (decide (i = j))) H' → tCB (rIsX K a (.ref C) d) (tCons (tVar 1) (tCons (tC (V.ref (cs i))) tNil)) σ H' R :=
    fun i hi σ H' l R e w q => ⟨_, e, C, _, _, _, rfl, eis, dk w, rfl, fun u r => r, eat i hi, q⟩
  have cat : ∀ {H' : Hp} {l : List (Addr × HO)} {p q : Addr} {xs zs : List V} {R : VK}, Wd [] H H' l → H' p = some (.lst xs) → H' q = some (.lst zs) → xs.length + zs.length ≤ 20 → (∀ r, H' r = none → R (.ref r) (upd H' r (.lst (xs ++ zs)))) → rCat (.ref p) (.ref q) H' R :=
    fun w h1 h2 h3 h4 => ⟨_, _, _, _, rfl, rfl, h1, h2, sz20 (by omega), h4⟩
  let b := fun i => V.bl (decide (i = j))
  have sz : ∀ n, n ≤ 20 → n ≤ sizeLine := fun n h => sz20 (by omega)
  have w0 := Wd.refl H
  refine iz 0 (by decide) rfl w0 <| iz 1 (by decide) rfl w0 <| iz 2 (by decide) rfl w0 ⟨sz _ (le20 rfl), fun p1 hp1 => ?_⟩
  have w1 := w0.new (.lst [b 0, b 1, b 2]) hp1
  refine ⟨_, rfl, ?_⟩
  refine iz 3 (by decide) rfl w1 <| iz 4 (by decide) rfl w1 <| iz 5 (by decide) rfl w1 ⟨sz _ (le20 rfl), fun p2 hp2 => ?_⟩
  have w2 := w1.new (.lst [b 3, b 4, b 5]) hp2
  refine cat w2 (w2.get 1 rfl) (w2.get 0 rfl) (le20 rfl) fun p3 hp3 => ?_
  have w3 := (w2.new (.lst [b 0, b 1, b 2, b 3, b 4, b 5]) hp3).sub (l' := [(p3, .lst [b 0, b 1, b 2, b 3, b 4, b 5])]) (by walk_at "sub")
  refine ⟨_, rfl, ?_⟩
  refine iz 6 (by decide) rfl w3 <| iz 7 (by decide) rfl w3 <| iz 8 (by decide) rfl w3 ⟨sz _ (le20 rfl), fun p4 hp4 => ?_⟩
  have w4 := w3.new (.lst [b 6, b 7, b 8]) hp4
  refine cat w4 (w4.get 1 rfl) (w4.get 0 rfl) (le20 rfl) fun p5 hp5 => ?_
  have w5 := (w4.new (.lst [b 0, b 1, b 2, b 3, b 4, b 5, b 6, b 7, b 8]) hp5).sub (l' := [(p5, .lst [b 0, b 1, b 2, b 3, b 4, b 5, b 6, b 7, b 8])]) (by walk_at "sub")
  refine ⟨_, rfl, ?_⟩
  refine iz 9 (by decide) rfl w5 <| iz 10 (by decide) rfl w5 <| iz 11 (by decide) rfl w5 ⟨sz _ (le20 rfl), fun p6 hp6 => ?_⟩
  have w6 := w5.new (.lst [b 9, b 10, b 11]) hp6
  refine cat w6 (w6.get 1 rfl) (w6.get 0 rfl) (le20 rfl) fun p7 hp7 => ?_
  have w7 := (w6.new (.lst [b 0, b 1, b 2, b 3, b 4, b 5, b 6, b 7, b 8, b 9, b 10, b 11]) hp7).sub (l' := [(p7, .lst [b 0, b 1, b 2, b 3, b 4, b 5, b 6, b 7, b 8, b 9, b 10, b 11])]) (by walk_at "sub")
  refine ⟨_, rfl, ?_⟩
  refine iz 12 (by decide) rfl w7 <| iz 13 (by decide) rfl w7 ⟨sz _ (le20 rfl), fun p8 hp8 => ?_⟩
  have w8 := w7.new (.lst [b 12, b 13]) hp8
  refine cat w8 (w8.get 1 rfl) (w8.get 0 rfl) (le20 rfl) fun p9 hp9 => ?_
  have w9 : Wd [] H (upd _ p9 (.lst ((List.range 14).map fun i => V.bl (decide (i = j))))) [(p9, .lst ((List.range 14).map fun i => V.bl (decide (i = j))))] := (w8.new _ hp9).sub (by walk_at "sub")
  have f9 := kinds_flat j
  -- the test
  refine ⟨_, rfl, .inl ⟨rfl, _, .inl (.inl (w9.get 0 rfl))⟩, p9, _, _, rfl, rfl, .inl (.inl (w9.get 0 rfl)), rfl, f9, ?_⟩
  refine ⟨rfl, _, rfl, ?_⟩
  have ec : (!decide (V.int (List.countP (fun z => eqV z (V.bl true)) ((List.range 14).map fun i => V.bl (decide (i = j))) : Nat) = V.int 1)) = false := by
    rw [kinds_count ⟨j, j14⟩]; rfl
  show if (!decide (V.int (List.countP (fun z => eqV z (V.bl true)) ((List.range 14).map fun i => V.bl (decide (i = j))) : Nat) = V.int 1)) = true then _ else _
  rw [ec, if_neg (by decide)]
  refine ⟨_, rfl, C, _, _, _, rfl, eis, dk w9, rfl, fun u r => r, eve, _, rfl, ?_⟩
  refine ⟨sz20 (le20 rfl), fun p10 hp10 => ?_⟩
  have w10 := w9.new (.lst (kindN.take 9 |>.map V.str)) hp10
  refine ⟨_, rfl, sz20 (le20 rfl), fun p11 hp11 => ?_⟩
  have w11 := w10.new (.lst (kindN.drop 9 |>.map V.str)) hp11
  refine cat w11 (w11.get 1 rfl) (w11.get 0 rfl) (le20 rfl) fun p12 hp12 => ?_
  have w12 : Wd [] H (upd _ p12 (.lst (kindN.map V.str))) ((p12, .lst (kindN.map V.str)) :: _) := w11.new _ hp12
  refine ⟨_, rfl, .inl ⟨rfl, _, .inl (.inl (w12.get 3 rfl))⟩, p9, _, _, j, _, rfl, rfl, .inl (.inl (w12.get 3 rfl)), rfl, f9, kinds_at ⟨j, j14⟩, rfl, fun m z' hm hz => ?_, ?_⟩
  · rw [kinds_no ⟨j, j14⟩ ⟨m, by omega⟩ hm] at hz
    cases hz; rfl
  have ek := kind_get ⟨j, j14⟩
  refine ⟨_, _, _, .str (kindN.getD j ""), rfl, rfl, .inl (.inl (w12.get 0 rfl)), at_of (j := j) rfl ek, ?_⟩
  refine ⟨_, rfl, sz20 (le20 rfl), fun p13 hp13 => ?_⟩
  have w13 := w12.new (.lst [.str "syntax", .str "check"]) hp13
  refine ⟨p13, [.str "syntax", .str "check"], rfl, .inl (.inl (.inl (w13.get 0 rfl))), rfl, rfl, decide (j = 9 ∨ j = 10), by rw [← kind_two ⟨j, j14⟩]; rfl, ?_⟩
  cases cr with
  | none hj hd q =>
    refine ite_no (b := _) (by rw [decide_eq_true_eq]; omega) ?_
    refine ⟨_, rfl, _, rfl, sz20 (le20 rfl), fun p14 hp14 => ?_⟩
    have w14 := w13.new (.lst [.str "code", .str "operation", .str "session"]) hp14
    refine ⟨p14, [.str "code", .str "operation", .str "session"], rfl, .inl (.inl (.inl (w14.get 0 rfl))), rfl, rfl, decide (11 ≤ j), by rw [← kind_three ⟨j, j14⟩]; rfl, ?_⟩
    refine ite_no (b := _) (by rw [decide_eq_true_eq]; omega) ?_
    refine ⟨sz20 (le20 rfl), fun p15 hp15 => ?_⟩
    rw [hD]
    exact q _ _ ((w14.new _ hp15).sub (by walk_at "sub"))
  | place hj hd ha hl no q =>
    refine ite_no (b := _) (by rw [decide_eq_true_eq]; omega) ?_
    refine ⟨_, rfl, _, rfl, sz20 (le20 rfl), fun p14 hp14 => ?_⟩
    have w14 := w13.new (.lst [.str "code", .str "operation", .str "session"]) hp14
    refine ⟨p14, [.str "code", .str "operation", .str "session"], rfl, .inl (.inl (.inl (w14.get 0 rfl))), rfl, rfl, decide (11 ≤ j), by rw [← kind_three ⟨j, j14⟩]; rfl, ?_⟩
    refine ite_yes (b := _) (by rw [decide_eq_true_eq]; omega) ?_
    refine ⟨_, rfl, rfl, C, _, _, _, rfl, exf, no, hd, w14.old ha (by simp), hl, sz20 (le20 rfl), fun p15 hp15 => ?_⟩
    rw [hD]
    exact q _ _ ((w14.new _ hp15).sub (by walk_at "sub"))
  | @syn dd fs l c hd ha h1 h2 n1 n2 q =>
    refine ite_yes (b := _) (by decide) ?_
    refine ⟨_, rfl, _, rfl, rfl, _, rfl, ?_⟩
    refine ite_yes (b := _) (by decide +kernel) ?_
    refine ⟨_, rfl, rfl, C, _, _, _, rfl, exf, n1, hd, w13.old ha (by simp), h1, _, rfl, rfl, C, _, _, _, rfl, exf, n2, hd, w13.old ha (by simp), h2, sz20 (le20 rfl), fun p14 hp14 => ?_⟩
    have w14 := w13.new (.tup [.int l, .int c]) hp14
    refine ⟨sz20 (le20 rfl), fun p15 hp15 => ?_⟩
    rw [hD]
    exact q _ _ _ ((w14.new _ hp15).sub (by walk_at "sub"))
  | @chk dd fs r l c hd ha h0 h1 h2 n0 n1 n2 q =>
    refine ite_yes (b := _) (by decide) ?_
    refine ⟨_, rfl, _, rfl, rfl, _, rfl, ?_⟩
    refine ite_no (b := _) (by decide +kernel) ?_
    refine ⟨_, rfl, rfl, C, _, _, _, rfl, exf, n0, hd, w13.old ha (by simp), h0, _, rfl, rfl, C, _, _, _, rfl, exf, n1, hd, w13.old ha (by simp), h1, _, rfl, rfl, C, _, _, _, rfl, exf, n2, hd, w13.old ha (by simp), h2, sz20 (le20 rfl), fun p14 hp14 => ?_⟩
    have w14 := w13.new (.tup [.str r, .int l, .int c]) hp14
    refine ⟨sz20 (le20 rfl), fun p15 hp15 => ?_⟩
    rw [hD]
    exact q _ _ _ ((w14.new _ hp15).sub (by walk_at "sub"))
theorem er_gives {X : Cx} {q : Str} {g : Addr} {cdg : Value} (T : Bi X.mg) (hR : X.mg "RotaError" = some (.ref CR)) (gc : ∀ i, i < 14 → X.mg (clsN.getD i "") = some (.ref (cs i))) :
    LamX.GivesTo X ["_law_call", "e", "_law_kinds", "_law_names", "_law_name"] "_law_error_of" (defScope s_law_error_of) g cdg (defBody s_law_error_of) "_law_call" q (TTe X.K cs CR) := by
  intro f c' s H Q tl act hc h
  have nd := sc_law_error_of.nd
  refine ⟨_, pss_cons (ps_try_as (i := 1) (c := .ref CR) (ts := erTs X.K cs) (Wout := fun _ _ _ _ => False)
      (tb := fun W D σ H => ∃ Ech : XK, (∀ cls d σ' H', Ech cls d H' → σ'.length = 5 → W cls d σ' H') ∧ σ[0]? = some (some (.ref f)) ∧ H c' = some (LamX.CodeO c' q) ∧ tl Ech H (fun _ H' => D.nx σ H'))
      rfl rfl nd rfl rfl ⟨by rfl, by decide, .inl hR⟩ takes0 (fun W pn xe tk _ => ?_) (fun a oe cls d pn hz hf => er_suite (g := g) (cdg := cdg) (s := s) (H := H) T nd gc hz hf)) (pss_one (ps_ret pe_non)), ?_⟩
  · refine ⟨fun pins s σ H D I ⟨Ech, hE, h0, hC, ht⟩ => ?_⟩
    exact (pss_one (ps_expr (act (fun c d σ H => σ.length = 5 → W c d σ H) pn xe Ech _ _ (takes_len tk) (fun cls d σ' H' e hl => hE cls d σ' H' e hl)))).run pins s σ H D I ⟨h0, hC, ht⟩
  · refine ⟨ErW X.K cs CR Q, fun cls d σ' H' ⟨C, j, ec, Ek, hd, cr⟩ hl => ?_, rfl, hc, h⟩
    subst ec
    obtain ⟨y0, y1, y2, y3, y4, rfl⟩ := five hl
    exact ⟨true, Ek.ex, fun _ a na => er_read Ek hd cr rfl, fun z => nomatch z⟩
end
end Br

/-! the law's _law_error_of(lambda: ..); a def whose code object is known. -/
namespace Br
open PySem PySem.Spec PyProof.Rows L2
/-- a def, its code object told -/
structure FunC (K : PySem.W.Frag) (x qual : Str) (st : Stmt) (f : Addr) (fd : FuncData) (c : Addr) : Prop where
  ex : ∃ (oc : Value) (od : Option Addr) (kV doc pm : Value) (an : Option Addr) (ct : Value) (osl : Array (Option Value)),
    fd = PySem.W.fnOf x qual (defArgs st) (defBody st) (defScope st) .none kV doc pm an (.ref c) ct ∧ K.lookup f = some ⟨oc, od, .func fd, osl⟩ ∧ PySem.W.codeIn K (.ref c) qual = true
section
variable {P : Program} {w : World} {K : PySem.W.Frag} {mg : Str → Option Value} {base : Heap}
theorem FunC.ok {x qual : Str} {st : Stmt} {f c : Addr} {fd : FuncData} {N ps : List Str} {k : Nat} {sp : Sp} (F : FunC K x qual st f fd c) (S : FnScope N ps (defScope st)) (len : ∀ vs H Q E, sp vs H Q E → vs.length = ps.length)
    (hbody : ∀ (A : Around) (outer : List Env) (s : Shared) (H : Hp) (vs : List V) (Q : VK) (E : XK), Room k (A.deeper (envOfC qual (defScope st) s.heap.objs.size f (.ref c))) → sp vs H Q E →
      ∃ t, PSs (cxOf CX0 P w K mg base N qual (defScope st) f (.ref c) A outer s H E).nox (defBody st) t ∧ t { nx := fun _ H' => Q .non H', rt := Q } (L2.start N vs) H) : FnOk P w K mg base CX0 (k + 1) f fd ps sp := by
  obtain ⟨oc, od, kV, doc, pm, an, ct, osl, rfl, lk, hcd⟩ := F.ex
  refine fn_of lk hcd S len fun A outer s H vs Q E hr hsp => ?_
  obtain ⟨t, h, q⟩ := hbody A outer s H vs Q E hr hsp
  exact ⟨t, h.nox, q⟩
theorem funC_mk {x qual : Str} {st : Stmt} {f c : Addr} {oc : Value} {od an : Option Addr} {osl : Array (Option Value)} {kV doc pm ct : Value} (l : K.lookup f = some ⟨oc, od, .func (PySem.W.fnOf x qual (defArgs st) (defBody st) (defScope st) .none kV doc pm an (.ref c) ct), osl⟩)
    (h : PySem.W.codeIn K (.ref c) qual = true) : FunC K x qual st f (PySem.W.fnOf x qual (defArgs st) (defBody st) (defScope st) .none kV doc pm an (.ref c) ct) c := ⟨oc, od, kV, doc, pm, an, ct, osl, rfl, l, h⟩
end
section
variable {X : Cx} {cs : Nat → Addr} {CR P' c : Addr} {k : Nat} {params : Arguments} {body : Expr} {scope : Scope} {t : XK → TE} {p lpos pos : Pos}
/-- _law_error_of(lambda: body) -/
theorem pe_erof (D : DefAt X.K X.mg "_law_error_of" s_law_error_of ["_law_call"]) (T : Bi X.mg) (hR : X.mg "RotaError" = some (.ref CR)) (gc : ∀ i, i < 14 → X.mg (clsN.getD i "") = some (.ref (cs i))) (TB : LamX.TabB X.base X.mg c P') (hg : Gl X "_law_error_of") (hcode : X.env.code = .ref c)
    (hr : Room (k + 2) X.A) (L : LamX.LamS X.env.scope scope) (hdef : defaultsOf params X.env = ([], []))
    (hbind : ∀ (q : Str) (cl : List (Str × Addr)) (pm cv ctv : Value), bindArgs (PySem.W.kla_fn "<lambda>" q params body scope cl pm cv ctv) ⟨[], []⟩ = pure [])
    (hbody : ∀ (A : Around) (outer : List Env) (s : Shared) (H : Hp) (E : XK) (f c' : Addr), Room k (A.deeper (LamX.lamEnv X scope s.heap.objs.size f c')) → PE (LamX.lamCx X A outer s H E scope f c') body (t E)) :
    PE X (.Call (.Name "_law_error_of" p) [.Lambda params body scope lpos] [] pos) (LamX.tLam [(P', X.env.qual ++ "<lambda>")] (TTe X.K cs CR) t) := by
  obtain ⟨f, fd, m, F, b⟩ := D.ex
  obtain ⟨oc, od, kV, doc, pm, an, cdv, ct, osl, rfl, lk, hcd⟩ := F.ex
  exact LamX.pe_lamcall hg m F.kp lk hcd b sc_law_error_of rfl (Or.inl rfl) (er_gives T hR gc) TB hcode (List.mem_singleton.mpr rfl) (fun p hp _ => by rw [List.mem_singleton.mp hp]) hr L hdef hbind hbody
end
/-! ### the tables are kept -/
theorem tabs_wd {T : List (Addr × Str)} {M : List Addr} {H H' : Hp} {l : List (Addr × HO)} (t : LamX.Tabs T H) (w : Wd M H H' l) (hM : ∀ a ∈ M, ∃ xs, H a = some (.lst xs)) : LamX.Tabs T H' := fun p hp => by
  obtain ⟨ps, h1, h2, h3⟩ := t p hp
  have ne : ∀ {b : Addr} {o : HO}, H b = some o → (∀ xs, o ≠ .lst xs) → b ∉ M := fun e n hb => by
    obtain ⟨xs, e2⟩ := hM _ hb
    rw [e] at e2
    exact n xs (Option.some.inj e2)
  refine ⟨ps, w.base _ _ (ne h1 fun xs z => by cases z) h1, h2, fun pos cv hc => ?_⟩
  obtain ⟨c, e, hk⟩ := h3 pos cv hc
  exact ⟨c, e, w.base _ _ (ne hk fun xs z => by unfold LamX.CodeO at z; cases z) hk⟩
theorem tabs_mut {T : List (Addr × Str)} {H : Hp} {a : Addr} {xs : List V} {o : HO} (t : LamX.Tabs T H) (h : H a = some (.lst xs)) : LamX.Tabs T (upd H a o) := fun p hp => by
  obtain ⟨ps, h1, h2, h3⟩ := t p hp
  have ne : ∀ {b : Addr} {o : HO}, H b = some o → (∀ xs, o ≠ .lst xs) → b ≠ a := fun e n z => by
    subst z
    rw [h] at e
    exact n xs (Option.some.inj e).symm
  refine ⟨ps, by rw [upd_ne (ne h1 fun xs z => by cases z)]; exact h1, h2, fun pos cv hc => ?_⟩
  obtain ⟨c, e, hk⟩ := h3 pos cv hc
  exact ⟨c, e, by rw [upd_ne (ne hk fun xs z => by unfold LamX.CodeO at z; cases z)]; exact hk⟩
end Br

/-! what a law with lambdas keeps from step to step. -/
namespace Br
open PySem PySem.Spec PyProof.Rows L2
/-- from H0 to H: nothing but the numbers at d is changed, the tables are well, the numbers too -/
structure Run (T : List (Addr × Str)) (d : Addr) (H0 H : Hp) : Prop where
  keep : ∀ b o, b ≠ d → H0 b = some o → (∀ ps, o ≠ .tbl ps) → H b = some o
  tabs : LamX.Tabs T H
  dr : ∃ x y l, H d = some (dl x y l) ∧ DOk x y l
section
variable {T : List (Addr × Str)} {d : Addr} {H0 H H' : Hp}
theorem Run.re (r : Run T d H0 H) : Run T d H H := ⟨fun _ _ _ h _ => h, r.tabs, r.dr⟩
theorem Run.go (r : Run T d H0 H) (r2 : Run T d H H') : Run T d H0 H' := ⟨fun b o n h t => r2.keep b o n (r.keep b o n h t) t, r2.tabs, r2.dr⟩
theorem Run.wd {l : List (Addr × HO)} (r : Run T d H0 H) (w : Wd [] H H' l) : Run T d H0 H' := by
  obtain ⟨x, y, m, h, ok⟩ := r.dr
  exact ⟨fun b o n h t => w.base _ _ (by simp) (r.keep b o n h t), tabs_wd r.tabs w (fun _ h => nomatch h), x, y, m, w.base _ _ (by simp) h, ok⟩
theorem Run.new {p : Addr} (r : Run T d H0 H) (o : HO) (hp : H p = none) : Run T d H0 (upd H p o) := r.wd ((Wd.refl H).new o hp)
theorem Run.bel {x y : Int} {m : List Int} {l : List (Addr × HO)} (r : Run T d H0 H) (w : Wd [d] H H' l) (h : H' d = some (dl x y m)) (ok : DOk x y m) : Run T d H0 H' := by
  obtain ⟨x0, y0, m0, h0, _⟩ := r.dr
  exact ⟨fun b o n h t => w.base _ _ (by simpa using n) (r.keep b o n h t), tabs_wd r.tabs w (fun a ha => by rw [List.mem_singleton.mp ha]; exact ⟨_, h0⟩), x, y, m, h, ok⟩
theorem Run.ext {H1 : Hp} (r : Run T d H0 H) (e : LamX.ExtN H H1) (t : LamX.Tabs T H1) : Run T d H0 H1 := by
  obtain ⟨x, y, m, h, ok⟩ := r.dr
  exact ⟨fun b o n h q => e b o (r.keep b o n h q) q, t, x, y, m, (e _ _ h fun ps z => by unfold dl at z; cases z), ok⟩
theorem Run.lst {b : Addr} {xs : List V} (r : Run T d H0 H) (n : b ≠ d) (h : H0 b = some (.lst xs)) : H b = some (.lst xs) := r.keep b _ n h fun _ z => by cases z
theorem Run.tup {b : Addr} {xs : List V} (r : Run T d H0 H) (n : b ≠ d) (h : H0 b = some (.tup xs)) : H b = some (.tup xs) := r.keep b _ n h fun _ z => by cases z
theorem Run.ne {p : Addr} (r : Run T d H0 H) (hp : H p = none) : p ≠ d := by
  obtain ⟨x, y, m, h, _⟩ := r.dr
  exact fun z => by rw [z, h] at hp; cases hp
/-- a number is drawn -/
theorem Run.below (r : Run T d H0 H) {n : Int} {Q : VK} {E : XK} (h0 : 0 < n) (h1 : n < 1073741824) (q : ∀ k H', Run T d H H' → 0 ≤ k → k < n → Q (.int k) H') : spBelow [.ref d, .int n] H Q E := by
  obtain ⟨x, y, m, h, ok⟩ := r.dr
  exact ⟨d, n, x, y, m, rfl, h0, h1, h, ok, fun k a' b' r' H' w ok' k0 k1 => q k H' (r.re.bel w (w.get 0 rfl) ok') k0 k1⟩
/-- numbers are drawn -/
theorem Run.draws (r : Run T d H0 H) {n j : Nat} {vs : List Nat} {σ : L2.St} {Q : VK} (hn : n ≤ 1000) (hw : ∀ v, wipe ((wipe σ vs).set j (some v)) vs = wipe σ vs) (hd : ∀ v, ((wipe σ vs).set j (some v))[1]? = some (some (.ref d)))
    (q : ∀ D (ex : List Int) H', Run T d H H' → D ≠ d → H D = none → H' D = some (.lst (ex.map V.int)) → ex.length = n → (∀ b ∈ ex, 0 ≤ b ∧ b < 256) → Q (.ref D) H') :
    tLc (fun _ H R => R (Itr 0 n) H) (gName j) tYes (tCall spBelow [] E0 (tCons (tVar 1) (tCons (tC (.int 256)) tNil))) vs σ H Q := by
  intro D hD
  have nd := r.ne hD
  refine lc_range (lo := 0) (n := n) (fun i H2 => ∃ (l : List Int), Run T d H H2 ∧ H2 D = some (.lst (l.map V.int)) ∧ (∀ b ∈ l, 0 ≤ b ∧ b < 256) ∧ l.length = i) ⟨[], r.re.new _ hD, upd_same, by simp, rfl⟩ ?_ ?_
  · rintro i H2 hi ⟨l, r2, h2, hl, hll⟩
    obtain ⟨x, y, m, h, ok⟩ := r2.dr
    refine ⟨hw _, _, hd _, d, 256, x, y, m, rfl, by decide, by decide, h, ok, fun k a' b' r' H3 w ok' k0 k1 => ?_⟩
    have r3 := r2.re.bel w (w.get 0 rfl) ok'
    have h3 := r3.lst nd h2
    refine ⟨_, h3, Nat.lt_of_le_of_lt (by rw [List.length_map]; omega) (by decide : 1000 < sizeLine), l ++ [k], ?_, by rw [List.map_append]; exact upd_same, ?_, by simp; omega⟩
    · obtain ⟨x, y, m, hdd, ok⟩ := r3.dr
      have r4 := r2.go r3
      refine ⟨fun b o n h t => ?_, tabs_mut r3.tabs h3, x, y, m, by rw [upd_ne nd.symm]; exact hdd, ok⟩
      have nb : b ≠ D := fun z => by rw [z, hD] at h; cases h
      rw [upd_ne nb]; exact r4.keep b o n h t
    · intro b hb
      rcases List.mem_append.mp hb with hb | hb
      · exact hl b hb
      · rw [List.mem_singleton.mp hb]; exact ⟨k0, k1⟩
  · rintro H2 ⟨l, r2, h2, hl, hll⟩
    exact q D l H2 r2 nd hD h2 hll hl
end
/-! ### a call that must fail at a place -/
/-- decode fails on v at place n -/
def BadAt (H : Hp) (v : V) (n : Nat) : Prop := (∃ t, Ky H v t ∧ t ≠ "list" ∧ n = 0) ∨ ∃ (pc : Addr) (code : List V), v = .ref pc ∧ H pc = some (.lst code) ∧ code.length ≤ 1000 ∧ (∀ v ∈ code, ∃ t, Ky H v t) ∧ rAll code [] = .error n
def codeD (n : Nat) : PyData := .tuple [.str "code", .int n]
theorem lay_code (n : Nat) : PyData.canLay0 (codeD n) = true := by
  unfold codeD
  rw [PyData.canLay0]
  have := lay_all (xs := [V.str "code", V.int (n : Int)]) (fun v hv => by
    simp only [List.mem_cons, List.not_mem_nil, or_false] at hv
    rcases hv with rfl | rfl
    · show PyData.strOk "code" = true; decide +kernel
    · trivial)
  exact this
theorem shaped_code (n : Nat) : SeqAt.shaped (codeD n) = true := by
  unfold SeqAt.shaped
  rw [lay_code]
  unfold codeD
  rw [PyData.depth, show ([PyData.str "code", PyData.int (n : Int)] : List PyData) = [V.str "code", V.int (n : Int)].map dataOf from rfl, depth_all]; rfl
section
variable {K : PySem.W.Frag} {CE CR PT d : Addr} {cs : Nat → Addr} {q : Str} {H0 H : Hp} {σ : L2.St} {D : Ends}
theorem er_code {arg : TE} {tn : TE} {n : Nat} (ek : ErK K cs CR CE 11) (np : PySem.W.findIn K (.ref CE) "place" = some none) (r : Run [(PT, q)] d H0 H)
    (harg : ∀ H1, Run [(PT, q)] d H H1 → ∀ R : VK, (∀ v H2, Run [(PT, q)] d H1 H2 → BadAt H2 v n → R v H2) → arg σ H1 R) (htn : ∀ H1, Run [(PT, q)] d H H1 → ∀ R : VK, R (.int n) H1 → tn σ H1 R) (hnx : ∀ H', Run [(PT, q)] d H H' → D.nx σ H') :
    tIfS (tTest (tOp (rNeD K) (LamX.tLam [(PT, q)] (TTe K cs CR) fun x => tCall (spDecode CE) [] x (tCons arg tNil)) (tTup (tCons (tC (.str "code")) (tCons tn tNil))))) (tRet (tC (.bl false))) tNext D σ H := by
  refine ⟨r.tabs, fun H1 e1 t1 => ?_⟩
  have r1 := r.re.ext e1 t1
  refine harg H1 r1 _ fun v H2 r2 hb => ?_
  have r12 := r1.go r2
  have er : ∀ {m : Nat} {R : VK}, m = n → (∀ p H4, Run [(PT, q)] d H H4 → H4 p = some (.tup [.str "code", .int n]) → R (.ref p) H4) → Er [] CE (plX m) H2 (ErW K cs CR R) := fun {m R} em hR d' H3 c3 hd3 => by
    subst em
    refine ⟨CE, 11, rfl, ek, fun dd e => ?_, .place (by decide) rfl hd3 look_eq np fun p H4 w4 => hR p H4 ((r12.wd c3).wd w4) (w4.get 0 rfl)⟩
    cases e; exact ⟨_, hd3⟩
  have fin : ∀ p H4, Run [(PT, q)] d H H4 → H4 p = some (.tup [.str "code", .int n]) → (tTup (tCons (tC (.str "code")) (tCons tn tNil))) σ H4 (fun y H5 => rNeD K (.ref p) y H5 fun x H' => ∃ k, x = .bl k ∧ if k = true then tRet (tC (.bl false)) D σ H' else tNext D σ H') := fun p H4 r4 hp => by
    refine htn H4 r4 _ ⟨(show 2 ≤ sizeLine by decide), fun p2 hp2 => ?_⟩
    have w5 := (Wd.refl H4).new (.tup [.str "code", .int (n : Int)]) hp2
    refine ⟨codeD n, codeD n, .tup (SqT.of (w5.tups _ _ hp)) (.cons (.str _) (.cons (.int _) .nil)), .tup (SqT.of (w5.get 0 rfl)) (.cons (.str _) (.cons (.int _) .nil)), shaped_code n, shaped_code n, ?_⟩
    rw [SeqAt.eqv_refl _ (lay_code n)]
    exact ⟨false, rfl, iteF (hnx _ (r4.wd w5))⟩
  rcases hb with ⟨t, ky, nl, rfl⟩ | ⟨pc, code, rfl, hc, hl, hk, e⟩
  · exact .inl ⟨v, t, rfl, ky, nl, er rfl fin⟩
  · refine .inr ⟨pc, code, rfl, hc, hl, hk, ?_⟩
    rw [e]
    exact er rfl fin
end
end Br

/-! the law's table of bad lists. -/
namespace Br
open PySem PySem.Spec PyProof.Rows L2
def CaseAt (d : Addr) (H : Hp) (p : Addr) (q : List Int × Nat) : Prop := ∃ a, a ≠ d ∧ H p = some (.tup [.ref a, .int (q.2 : Nat)]) ∧ H a = some (.lst (q.1.map V.int))
theorem CaseAt.keep {d : Addr} {H H' : Hp} {l : List (Addr × HO)} {p : Addr} {q : List Int × Nat} (w : Wd [] H H' l) (h : CaseAt d H p q) : CaseAt d H' p q := by
  obtain ⟨a, n, h1, h2⟩ := h
  exact ⟨a, n, w.tups _ _ h1, w.old h2 (by simp)⟩
theorem CaseAt.run {T : List (Addr × Str)} {d : Addr} {H H' : Hp} {p : Addr} {q : List Int × Nat} {x y : Int} {m : List Int} (r : Run T d H H') (hd : H d = some (dl x y m)) (h : CaseAt d H p q) : CaseAt d H' p q := by
  obtain ⟨a, n, h1, h2⟩ := h
  exact ⟨a, n, r.tup (fun z => by rw [z, hd] at h1; cases h1) h1, r.lst n h2⟩
theorem CaseAt.put {d l : Addr} {H : Hp} {p0 : Addr} {ps : List Addr} {o : HO} {p : Addr} {q : List Int × Nat} (hl : H l = some (.lst ((p0 :: ps).map V.ref))) (h : CaseAt d H p q) : CaseAt d (upd H l o) p q := by
  obtain ⟨a, n, h1, h2⟩ := h
  have np : p ≠ l := fun z => by rw [z, hl] at h1; cases h1
  have na : a ≠ l := fun z => by
    rw [z, hl] at h2
    cases hq : q.1 with
    | nil => rw [hq] at h2; cases h2
    | cons x xs => rw [hq] at h2; cases h2
  exact ⟨a, n, by rw [upd_ne np]; exact h1, by rw [upd_ne na]; exact h2⟩
theorem Paired.mono {α β : Type} {R S : α → β → Prop} (h : ∀ a b, R a b → S a b) : ∀ {as : List α} {bs : List β}, Paired R as bs → Paired S as bs
  | _, _, .nil => .nil
  | _, _, .cons x t => .cons (h _ _ x) (Paired.mono h t)
theorem Paired.app {α β : Type} {R : α → β → Prop} : ∀ {as as' : List α} {bs bs' : List β}, Paired R as bs → Paired R as' bs' → Paired R (as ++ as') (bs ++ bs')
  | _, _, _, _, .nil, h => h
  | _, _, _, _, .cons x t, h => .cons x (Paired.app t h)
def tCs : List TE → TA
  | [] => tNil
  | t :: r => tCons t (tCs r)
def tIs (xs : List Int) : TA := tCs (xs.map fun i => tC (.int i))
/-- what a reading makes a case -/
def MkCase (d : Addr) (σ : L2.St) (H : Hp) (te : TE) (q : List Int × Nat) : Prop := ∀ H', Wd [] H H' [] → ∀ R : VK, (∀ p H2, Wd [] H' H2 [] → CaseAt d H2 p q → R (.ref p) H2) → te σ H' R
theorem mk_cases {d : Addr} {σ : L2.St} : ∀ {H : Hp} {tes : List TE} {qs : List (List Int × Nat)} {Q : List V → Hp → Prop}, Paired (MkCase d σ H) tes qs → (∀ ps H', Wd [] H H' [] → Paired (CaseAt d H') ps qs → Q (ps.map V.ref) H') → tCs tes σ H Q
  | H, _, _, Q, .nil, k => k [] H (Wd.refl H) .nil
  | H, _, _, Q, .cons x t, k => x H (Wd.refl H) _ fun p H2 w c => mk_cases (H := H2) (t.mono fun te q m H' w' => m H' (w.fgo w')) fun ps H' w' cs => k (p :: ps) H' (w.fgo w') (.cons (c.keep w') cs)
theorem ints_read {σ : L2.St} {H : Hp} : ∀ {xs : List Int} {Q : List V → Hp → Prop}, Q (xs.map V.int) H → tIs xs σ H Q
  | [], _, h => h
  | x :: xs, Q, h => ints_read (xs := xs) (Q := fun vs H' => Q (V.int x :: vs) H') h
/-- (xs, n) -/
theorem case_l {d : Addr} {od : HO} {σ : L2.St} {H : Hp} (hd : H d = some od) (xs : List Int) (n : Nat) (hx : xs.length ≤ 20) : MkCase d σ H (tTup (tCons (tLst (tIs xs)) (tCons (tC (.int n)) tNil))) (xs, n) := fun H' w R k =>
  ints_read (Q := fun vs H1 => vs.length ≤ sizeLine ∧ ∀ p, H1 p = none → _) ⟨by rw [List.length_map]; exact sz20 hx, fun a ha => by
    have w1 := (Wd.refl H').new (.lst (xs.map V.int)) ha
    refine ⟨(show 2 ≤ sizeLine by decide), fun p hp => ?_⟩
    have w2 := w1.new (.tup [.ref a, .int (n : Int)]) hp
    exact k p _ (w2.sub (List.nil_sublist _)) ⟨a, (ne_of_none (w.old hd (by simp)) ha).symm, w2.get 0 rfl, w2.get 1 rfl⟩⟩
/-- (hs + xs, n) -/
theorem case_c {d : Addr} {od : HO} {σ : L2.St} {H : Hp} {hs : List Int} {i : Nat} {h : Addr} (hd : H d = some od) (hh : hs.length ≤ 20) (hσ : σ[i]? = some (some (.ref h))) (hH : H h = some (.lst (hs.map V.int))) (xs : List Int) (n : Nat) (hx : xs.length ≤ 20) :
    MkCase d σ H (tTup (tCons (tOp rCat (tVar i) (tLst (tIs xs))) (tCons (tC (.int n)) tNil))) (hs ++ xs, n) := fun H' w R k =>
  ⟨_, hσ, ints_read (Q := fun vs H1 => vs.length ≤ sizeLine ∧ ∀ p, H1 p = none → _) ⟨by rw [List.length_map]; exact sz20 hx, fun a ha => by
    have w1 := (Wd.refl H').new (.lst (xs.map V.int)) ha
    refine ⟨h, a, _, _, rfl, rfl, w1.old (w.old hH (by simp)) (by simp), w1.get 0 rfl, by rw [List.length_map, List.length_map]; exact Nat.le_trans (m := 40) (by omega) (by decide), fun b hb => ?_⟩
    have w2 := w1.new (.lst (hs.map V.int ++ xs.map V.int)) hb
    refine ⟨(show 2 ≤ sizeLine by decide), fun p hp => ?_⟩
    have w3 := w2.new (.tup [.ref b, .int (n : Int)]) hp
    exact k p _ (w3.sub (List.nil_sublist _)) ⟨b, (ne_of_none (w1.old (w.old hd (by simp)) (by simp)) hb).symm, w3.get 0 rfl, by rw [List.map_append]; exact w3.get 1 rfl⟩⟩⟩
/-- the table at l -/
def Tab (d : Addr) (H : Hp) (l : Addr) (qs : List (List Int × Nat)) : Prop := ∃ ps : List Addr, l ≠ d ∧ H l = some (.lst (ps.map V.ref)) ∧ Paired (CaseAt d H) ps qs
theorem tab_new {d : Addr} {od : HO} {σ : L2.St} {H : Hp} {tes : List TE} {qs : List (List Int × Nat)} {Q : VK} (hd : H d = some od) (h : Paired (MkCase d σ H) tes qs) {ta : TA} (he : ta = tCs tes) (hq : qs.length ≤ 100) (k : ∀ p H', Wd [] H H' [] → H p = none → Tab d H' p qs → Q (.ref p) H') : tLst ta σ H Q := by
  subst he
  exact mk_cases h fun ps H' w cs => ⟨by rw [List.length_map, Paired.length cs]; exact Nat.le_trans hq (by decide), fun p hp => by
    have w1 := w.new (.lst (ps.map V.ref)) hp
    exact k p _ (w1.sub (List.nil_sublist _)) (w.free _ hp) ⟨ps, (ne_of_none (w.old hd (by simp)) hp).symm, w1.get 0 rfl, cs.mono fun _ _ c => c.keep ((Wd.refl H').new (.lst (ps.map V.ref)) hp)⟩⟩
theorem tab_more {d l : Addr} {od : HO} {i : Nat} {σ : L2.St} {H : Hp} {tes : List TE} {qs qs' : List (List Int × Nat)} {Q : VK} (hd : H d = some od) (hσ : σ[i]? = some (some (.ref l))) (t : Tab d H l qs) (h : Paired (MkCase d σ H) tes qs') {ta : TA} (he : ta = tCs tes) (hq : qs.length + qs'.length ≤ 100)
    (k : ∀ p H', Wd [] H H' [] → H p = none → Tab d H' p (qs ++ qs') → Q (.ref p) H') : tOp rCat (tVar i) (tLst ta) σ H Q := by
  subst he
  obtain ⟨ps0, nl, hl, hp0⟩ := t
  refine ⟨_, hσ, tab_new hd h rfl (by omega) fun u H' w hu ⟨ps, nu, hu', hps⟩ => ?_⟩
  refine ⟨l, u, _, _, rfl, rfl, w.old hl (by simp), hu', by rw [List.length_map, List.length_map, Paired.length hp0, Paired.length hps]; exact Nat.le_trans hq (by decide), fun p hp => ?_⟩
  have w1 := w.new (.lst (ps0.map V.ref ++ ps.map V.ref)) hp
  have w2 := (Wd.refl H').new (.lst (ps0.map V.ref ++ ps.map V.ref)) hp
  exact k p _ (w1.sub (List.nil_sublist _)) (w.free _ hp) ⟨ps0 ++ ps, (ne_of_none (w.old hd (by simp)) hp).symm, by rw [List.map_append]; exact w1.get 0 rfl, Paired.app (hp0.mono fun _ _ c => c.keep w1) (hps.mono fun _ _ c => c.keep w2)⟩
theorem tab_app {K : PySem.W.Frag} {d l : Addr} {i : Nat} {σ : L2.St} {H : Hp} {te : TE} {q0 q : List Int × Nat} {qs : List (List Int × Nat)} {Q : VK} (hσ : σ[i]? = some (some (.ref l))) (t : Tab d H l (q0 :: qs)) (h : MkCase d σ H te q) (hq : qs.length ≤ 90)
    (k : ∀ xs o H2, Wd [] H H2 [] → H2 l = some (.lst xs) → Tab d (upd H2 l o) l (q0 :: qs ++ [q]) → Q .non (upd H2 l o)) : tBM K "list" rAppend (tVar i) (tCons te tNil) σ H Q := by
  obtain ⟨ps0, nl, hl, hp0⟩ := t
  cases hp0 with
  | @cons p0 _ ps _ c0 cs0 =>
    refine ⟨_, hσ, .inl ⟨rfl, _, SqL.of hl⟩, h H (Wd.refl H) _ fun p H2 w c => ?_⟩
    have hl2 := w.old hl (by simp)
    refine ⟨l, _, _, rfl, rfl, hl2, by rw [List.length_map, List.length_cons, Paired.length cs0]; exact Nat.lt_of_le_of_lt (m := 91) (by omega) (by decide), k _ _ H2 w hl2 ⟨p0 :: ps ++ [p], nl, by rw [List.map_append]; exact upd_same, ?_⟩⟩
    exact Paired.app ((Paired.cons c0 cs0).mono fun _ _ c => (c.keep w).put hl2) (.cons (c.put hl2) .nil)
theorem Tab.run {T : List (Addr × Str)} {d l : Addr} {H H' : Hp} {qs : List (List Int × Nat)} (r : Run T d H H') {x y : Int} {m : List Int} (hd : H d = some (dl x y m)) (t : Tab d H l qs) : Tab d H' l qs := by
  obtain ⟨ps, nl, hl, hp⟩ := t
  exact ⟨ps, nl, r.lst nl hl, hp.mono fun _ _ c => c.run r hd⟩
theorem Run.mut {T : List (Addr × Str)} {d p : Addr} {H0 H : Hp} {xs : List V} {o : HO} (r : Run T d H0 H) (hn : H0 p = none) (nd : p ≠ d) (h : H p = some (.lst xs)) : Run T d H0 (upd H p o) := by
  obtain ⟨x, y, m, hdd, ok⟩ := r.dr
  refine ⟨fun b o n h t => ?_, tabs_mut r.tabs h, x, y, m, by rw [upd_ne nd.symm]; exact hdd, ok⟩
  have nb : b ≠ p := fun z => by rw [z, hn] at h; cases h
  rw [upd_ne nb]; exact r.keep b o n h t
theorem Tab.get {d l : Addr} {H : Hp} {qs : List (List Int × Nat)} (t : Tab d H l qs) {i : Int} (h0 : 0 ≤ i) (h1 : i < qs.length) : ∃ (xs : List V) (p : Addr) (q : List Int × Nat), H l = some (.lst xs) ∧ atI xs i = some (.ref p) ∧ q ∈ qs ∧ CaseAt d H p q := by
  obtain ⟨ps, _, hl, hp⟩ := t
  obtain ⟨j, rfl⟩ : ∃ j : Nat, i = j := ⟨i.toNat, by omega⟩
  have hj : j < qs.length := by omega
  have hjp : j < ps.length := by rw [Paired.length hp]; exact hj
  exact ⟨_, ps[j], qs[j], hl, atI_nat (by rw [List.getElem?_map, List.getElem?_eq_getElem hjp]; rfl), List.getElem_mem hj, (Paired.get hp).2 j _ _ (List.getElem?_eq_getElem hjp) (List.getElem?_eq_getElem hj)⟩
end Br

/-! the law's last part: the table, the good list. -/
namespace Br
open PySem PySem.Spec PyProof.Rows L2
theorem seq_asg {te : TE} {g : TG} {u : TS} {D : Ends} {σ : L2.St} {H : Hp} (h : te σ H fun x H1 => g x σ H1 (u D)) : tSeq (tAsg te g) u D σ H := h
theorem seq_drop {te : TE} {u : TS} {D : Ends} {σ : L2.St} {H : Hp} (h : te σ H fun _ H1 => u D σ H1) : tSeq (tDrop te) u D σ H := h
theorem tLc_rng {ta : TA} {g : TG} {tt : TT} {te : TE} {vs : List Nat} {σ : L2.St} {H : Hp} {Q : VK} (h : ta σ H fun us H1 => ∃ j : Int, us = [.int j] ∧ -(2 ^ 62) ≤ j ∧ j < 2 ^ 62 ∧ tLc (fun _ H R => R (Itr 0 j.toNat) H) g tt te vs σ H1 Q) : tLc (iRng1 ta) g tt te vs σ H Q := h
theorem bad_ints {H : Hp} {p : Addr} {xs : List Int} {n : Nat} (h : H p = some (.lst (xs.map V.int))) (hl : xs.length ≤ 1000) (e : rAll (xs.map V.int) [] = .error n) : BadAt H (.ref p) n :=
  .inr ⟨p, _, rfl, h, by rw [List.length_map]; exact hl, fun v hv => by obtain ⟨i, _, rfl⟩ := List.mem_map.mp hv; exact ⟨_, .int i⟩, e⟩
theorem cut_last (xs : List V) (v : V) : cutV (xs ++ [v]) none (some (-1)) = xs := by
  unfold cutV
  show ((xs ++ [v]).drop 0).take ((if (-1 : Int) < 0 then ((-1 : Int) + ((xs ++ [v]).length : Nat)).toNat else min (-1 : Int).toNat (xs ++ [v]).length) - 0) = xs
  rw [if_pos (by decide), List.drop_zero, Nat.sub_zero, List.length_append, List.length_singleton, show ((-1 : Int) + ((xs.length + 1 : Nat) : Int)).toNat = xs.length from by omega]
  exact List.take_left
theorem pickV {xs : List V} {i : Int} (h0 : 0 ≤ i) (h1 : i < xs.length) : ∃ v ∈ xs, atI xs i = some v := by
  obtain ⟨j, rfl⟩ : ∃ j : Nat, i = j := ⟨i.toNat, by omega⟩
  have hj : j < xs.length := by omega
  exact ⟨xs[j], List.getElem_mem hj, atI_nat (List.getElem?_eq_getElem hj)⟩
section
variable {K : PySem.W.Frag} {CE CR PT d : Addr} {cs : Nat → Addr} {qq : Str}
def finR (K : PySem.W.Frag) (CE CR PT : Addr) (cs : Nat → Addr) (qq : Str) : TS := (tSeq (tAsg (tOp (rIxL K) (tVar 10) (tCall spBelow [] E0 (tCons (tVar 1) (tCons (tC (V.int 28)) tNil)))) (gTup K 2 (gCons (gName 11) (gCons (gName 12) gNil)))) (tSeq (tIfS (tTest (tOp (rNeD K) (LamX.tLam [(PT, qq)] (TTe K cs CR) fun x => tCall (spDecode CE) [] x (tCons (tOp rCat (tVar 11) (tLc (iRng1 (tCons (tC (V.int 9)) tNil)) (gName 15) tYes (tCall spBelow [] E0 (tCons (tVar 1) (tCons (tC (V.int 256)) tNil))) (List.map (fun x => x.snd) [(Str.ofString "_law_k", 15)]))) tNil)) (tTup (tCons (tC (V.str "code")) (tCons (tVar 12) tNil))))) (tRet (tC (V.bl false))) tNext) (tSeq (tAsg (tOp rCat (tVar 9) (tLst (tCons (tC (V.int 2)) (tCons (tC (V.int 0)) (tCons (tC (V.int 0)) (tCons (tC (V.int 2)) (tCons (tC (V.int 0)) (tCons (tC (V.int 0)) (tCons (tC (V.int 3)) (tCons (tC (V.int 2)) (tCons (tC (V.int 0)) (tCons (tC (V.int 1)) tNil)))))))))))) (gName 13)) (tSeq (tAsg (tC (V.str "people a b;\nturns a b;\nweights 1 2;\naway a 0 of 2;\naway a 0 of 3;\nmakeup a b;")) (gName 14)) (tRet (tOp rEq (tCall (spDecode CE) [] E0 (tCons (tOp rCat (tVar 13) (tLst (tCons (tOp (rI (fun x j => 0 < j) fun i j => V.int (i % j)) (tCB (rSum K) (tCons (tVar 13) tNil)) (tC (V.int 256))) tNil))) tNil)) (tVar 14)))))))
def tabR (K : PySem.W.Frag) (CE CR PT : Addr) (cs : Nat → Addr) (qq : Str) : TS := (tSeq (tAsg (tLst (tCons (tTup (tCons (tLst (tCons (tC (V.int 65)) tNil)) (tCons (tC (V.int 0)) tNil))) (tCons (tTup (tCons (tLst (tCons (tC (V.int 66)) (tCons (tC (V.int 0)) tNil))) (tCons (tC (V.int 1)) tNil))) (tCons (tTup (tCons (tLst (tCons (tC (V.int 66)) (tCons (tC (V.int 7)) tNil))) (tCons (tC (V.int 1)) tNil))) (tCons (tTup (tCons (tLst (tCons (tC (V.int 66)) (tCons (tC (V.int 1)) (tCons (tC (V.int 0)) tNil)))) (tCons (tC (V.int 2)) tNil))) (tCons (tTup (tCons (tLst (tCons (tC (V.int 66)) (tCons (tC (V.int 1)) (tCons (tC (V.int 9)) tNil)))) (tCons (tC (V.int 2)) tNil))) (tCons (tTup (tCons (tLst (tCons (tC (V.int 66)) (tCons (tC (V.int 1)) (tCons (tC (V.int 1)) (tCons (tC (V.int 26)) tNil))))) (tCons (tC (V.int 3)) tNil))) tNil))))))) (gName 10)) (tSeq (tAsg (tOp rCat (tVar 10) (tLst (tCons (tTup (tCons (tLst (tCons (tC (V.int 66)) (tCons (tC (V.int 1)) (tCons (tC (V.int 1)) (tCons (tC (V.int 0)) (tCons (tC (V.int 0)) tNil)))))) (tCons (tC (V.int 4)) tNil))) (tCons (tTup (tCons (tLst (tCons (tC (V.int 66)) (tCons (tC (V.int 1)) (tCons (tC (V.int 1)) (tCons (tC (V.int 0)) (tCons (tC (V.int 10)) tNil)))))) (tCons (tC (V.int 4)) tNil))) (tCons (tTup (tCons (tLst (tCons (tC (V.int 66)) (tCons (tC (V.int 2)) (tCons (tC (V.int 1)) (tCons (tC (V.int 0)) (tCons (tC (V.int 1)) (tCons (tC (V.int 1)) (tCons (tC (V.int 0)) (tCons (tC (V.int 1)) tNil))))))))) (tCons (tC (V.int 5)) tNil))) tNil))))) (gName 10)) (tSeq (tDrop (tBM K "list" rAppend (tVar 10) (tCons (tTup (tCons (tLst (tCons (tC (V.int 66)) (tCons (tC (V.int 1)) (tCons (tC (V.int 2)) (tCons (tC (V.int 14)) (tCons (tC (V.int 5)) tNil)))))) (tCons (tC (V.int 2)) tNil))) tNil))) (tSeq (tAsg (tOp rCat (tVar 10) (tLst (tCons (tTup (tCons (tOp rCat (tVar 8) (tLst (tCons (tC (V.int 0)) tNil))) (tCons (tC (V.int 8)) tNil))) (tCons (tTup (tCons (tOp rCat (tVar 8) (tLst (tCons (tC (V.int 13)) tNil))) (tCons (tC (V.int 8)) tNil))) (tCons (tTup (tCons (tOp rCat (tVar 8) (tLst (tCons (tC (V.int 2)) (tCons (tC (V.int 2)) tNil)))) (tCons (tC (V.int 9)) tNil))) (tCons (tTup (tCons (tOp rCat (tVar 8) (tLst (tCons (tC (V.int 2)) (tCons (tC (V.int 0)) (tCons (tC (V.int 0)) tNil))))) (tCons (tC (V.int 8)) tNil))) (tCons (tTup (tCons (tOp rCat (tVar 9) (tLst (tCons (tC (V.int 21)) tNil))) (tCons (tC (V.int 11)) tNil))) tNil))))))) (gName 10)) (tSeq (tAsg (tOp rCat (tVar 10) (tLst (tCons (tTup (tCons (tOp rCat (tVar 9) (tLst (tCons (tC (V.int 1)) (tCons (tC (V.int 2)) tNil)))) (tCons (tC (V.int 12)) tNil))) (tCons (tTup (tCons (tOp rCat (tVar 9) (tLst (tCons (tC (V.int 1)) (tCons (tC (V.int 0)) (tCons (tC (V.int 12)) tNil))))) (tCons (tC (V.int 13)) tNil))) (tCons (tTup (tCons (tOp rCat (tVar 9) (tLst (tCons (tC (V.int 1)) (tCons (tC (V.int 0)) (tCons (tC (V.int 2)) (tCons (tC (V.int 2)) tNil)))))) (tCons (tC (V.int 14)) tNil))) (tCons (tTup (tCons (tOp rCat (tVar 9) (tLst (tCons (tC (V.int 1)) (tCons (tC (V.int 0)) (tCons (tC (V.int 0)) (tCons (tC (V.int 5)) tNil)))))) (tCons (tC (V.int 14)) tNil))) tNil)))))) (gName 10)) (tSeq (tAsg (tOp rCat (tVar 10) (tLst (tCons (tTup (tCons (tOp rCat (tVar 9) (tLst (tCons (tC (V.int 1)) (tCons (tC (V.int 0)) (tCons (tC (V.int 3)) (tCons (tC (V.int 13)) tNil)))))) (tCons (tC (V.int 14)) tNil))) (tCons (tTup (tCons (tOp rCat (tVar 9) (tLst (tCons (tC (V.int 2)) (tCons (tC (V.int 1)) (tCons (tC (V.int 0)) (tCons (tC (V.int 2)) (tCons (tC (V.int 0)) (tCons (tC (V.int 0)) (tCons (tC (V.int 2)) tNil))))))))) (tCons (tC (V.int 15)) tNil))) (tCons (tTup (tCons (tOp rCat (tVar 9) (tLst (tCons (tC (V.int 2)) (tCons (tC (V.int 1)) (tCons (tC (V.int 0)) (tCons (tC (V.int 2)) (tCons (tC (V.int 1)) (tCons (tC (V.int 0)) (tCons (tC (V.int 2)) tNil))))))))) (tCons (tC (V.int 15)) tNil))) tNil))))) (gName 10)) (tSeq (tAsg (tOp rCat (tVar 10) (tLst (tCons (tTup (tCons (tOp rCat (tVar 9) (tLst (tCons (tC (V.int 0)) (tCons (tC (V.int 3)) tNil)))) (tCons (tC (V.int 12)) tNil))) (tCons (tTup (tCons (tOp rCat (tVar 9) (tLst (tCons (tC (V.int 0)) (tCons (tC (V.int 1)) (tCons (tC (V.int 2)) tNil))))) (tCons (tC (V.int 13)) tNil))) (tCons (tTup (tCons (tOp rCat (tVar 9) (tLst (tCons (tC (V.int 0)) (tCons (tC (V.int 2)) (tCons (tC (V.int 1)) tNil))))) (tCons (tC (V.int 13)) tNil))) (tCons (tTup (tCons (tOp rCat (tVar 9) (tLst (tCons (tC (V.int 0)) (tCons (tC (V.int 2)) (tCons (tC (V.int 0)) (tCons (tC (V.int 0)) tNil)))))) (tCons (tC (V.int 14)) tNil))) tNil)))))) (gName 10)) (tSeq (tAsg (tOp rCat (tVar 10) (tLst (tCons (tTup (tCons (tOp rCat (tVar 8) (tLst (tCons (tC (V.int 1)) tNil))) (tCons (tC (V.int 8)) tNil))) (tCons (tTup (tCons (tOp rCat (tVar 9) (tLst (tCons (tC (V.int 0)) (tCons (tC (V.int 2)) (tCons (tC (V.int 0)) (tCons (tC (V.int 2)) tNil)))))) (tCons (tC (V.int 14)) tNil))) tNil)))) (gName 10)) (finR K CE CR PT cs qq)))))))))
theorem fin_ok (ek : ErK K cs CR CE 11) (np : PySem.W.findIn K (.ref CE) "place" = some none) {D : Ends} {a0 a2 a3 a4 a5 a6 a7 a8 a11 a12 a13 a14 a15 : Option V} {pm t0 : Addr} {H0 : Hp} (r0 : Run [(PT, qq)] d H0 H0) (hm : H0 pm = some (.lst (mo17.map V.int))) (npm : pm ≠ d) (tb0 : Tab d H0 t0 cases17) (q : ∀ H', D.rt (.bl true) H') :
    finR K CE CR PT cs qq D [a0, some (.ref d), a2, a3, a4, a5, a6, a7, a8, some (.ref pm), some (.ref t0), a11, a12, a13, a14, a15] H0 := by
  unfold finR
  -- one of them
  obtain ⟨x40, y40, l40, hd40, ok40⟩ := r0.dr
  refine seq_asg ?_
  refine ⟨_, rfl, _, rfl, d, 28, x40, y40, l40, rfl, by decide, by decide, hd40, ok40, fun i3 a' b' r' H41 w41 ok41 i30 i31 => ?_⟩
  have r41 := r0.bel w41 (w41.get 0 rfl) ok41
  have tb41 := tb0.run r41 hd40
  have hm41 := r41.lst npm hm
  replace r41 := r41.re
  obtain ⟨xs41, p41, ⟨ys, n41⟩, hl41, hat41, hq41, b41, nb41, hp41, hb41⟩ := tb41.get i30 (by show i3 < 28; exact i31)
  have hy := (show ys.length ≤ 20 from of_decide_eq_true (List.all_eq_true.mp (show cases17.all (fun q => decide (q.1.length ≤ 20)) = true from by decide +kernel) _ hq41))
  refine ⟨t0, xs41, i3, _, rfl, rfl, SqL.of hl41, hat41, p41, _, rfl, SqT.of hp41, rfl, _, _, rfl, _, _, rfl, rfl, ?_⟩
  refine er_code (n := n41) ek np r41 (fun H42 r42 R hR' => ?_) (fun H42 r42 R hR' => ⟨_, rfl, hR'⟩) fun H42 r42 => ?_
  · have hb42 := r42.lst nb41 hb41
    refine ⟨_, rfl, tLc_rng ⟨9, rfl, by decide, by decide, ?_⟩⟩
    refine Run.draws (n := 9) r42.re (by decide) (fun _ => rfl) (fun _ => rfl) fun De ex H43 r43 nDe hDe0 hDe hex hb => ?_
    refine ⟨b41, De, _, _, rfl, rfl, r43.lst nb41 hb42, hDe, small' (by rw [List.length_map, List.length_map]; show ys.length + ex.length ≤ 1000; omega), fun pb hpb => ?_⟩
    refine hR' _ _ (r43.new _ hpb) (bad_ints (xs := ys ++ ex) (by rw [List.map_append]; exact upd_same) (by rw [List.length_append]; omega) (case_err hq41 ex))
  have hm42 := r42.lst npm hm41
  replace r42 := r42.re
  refine ⟨_, rfl, sz20 (Nat.le_of_ble_eq_true rfl), fun u3 hu3 => ?_⟩
  have w43 := (Wd.refl H42).new (.lst [V.int 2, V.int 0, V.int 0, V.int 2, V.int 0, V.int 0, V.int 3, V.int 2, V.int 0, V.int 1]) hu3
  refine ⟨pm, u3, mo17.map V.int, [V.int 2, V.int 0, V.int 0, V.int 2, V.int 0, V.int 0, V.int 3, V.int 2, V.int 0, V.int 1], rfl, rfl, w43.old hm42 (by simp), w43.get 0 rfl, (by show 21 ≤ sizeLine; decide), fun pg hpg => ?_⟩
  have w44 := w43.new (.lst (mo17.map V.int ++ [V.int 2, V.int 0, V.int 0, V.int 2, V.int 0, V.int 0, V.int 3, V.int 2, V.int 0, V.int 1])) hpg
  have hg44 := w44.get 0 rfl
  generalize upd (upd H42 u3 (.lst [V.int 2, V.int 0, V.int 0, V.int 2, V.int 0, V.int 0, V.int 3, V.int 2, V.int 0, V.int 1])) pg (.lst (mo17.map V.int ++ [V.int 2, V.int 0, V.int 0, V.int 2, V.int 0, V.int 0, V.int 3, V.int 2, V.int 0, V.int 1])) = H44 at w44 hg44 ⊢
  have hg : H44 pg = some (.lst ((mo17 ++ ([2, 0, 0, 2, 0, 0, 3, 2, 0, 1] : List Int)).map V.int)) := by rw [List.map_append]; exact hg44
  clear hg44
  refine ⟨_, rfl, _, rfl, pg, mo17 ++ ([2, 0, 0, 2, 0, 0, 3, 2, 0, 1] : List Int), rfl, .inl (.inl hg), _, _, rfl, rfl, (by show (0 : Int) < 256; decide), (show 1 ≤ sizeLine by decide), fun u4 hu4 => ?_⟩
  have w45 := (Wd.refl H44).new (.lst [V.int ((mo17 ++ ([2, 0, 0, 2, 0, 0, 3, 2, 0, 1] : List Int)).sum % 256)]) hu4
  refine ⟨pg, u4, (mo17 ++ ([2, 0, 0, 2, 0, 0, 3, 2, 0, 1] : List Int)).map V.int, _, rfl, rfl, w45.old hg (by simp), w45.get 0 rfl, (by show 22 ≤ sizeLine; decide), fun pf hpf => ?_⟩
  have ec : (mo17 ++ ([2, 0, 0, 2, 0, 0, 3, 2, 0, 1] : List Int)).map V.int ++ [V.int ((mo17 ++ ([2, 0, 0, 2, 0, 0, 3, 2, 0, 1] : List Int)).sum % 256)] = (bytesOf good17).map V.int := by rw [good_bytes, List.map_append (l₂ := [_])]; rfl
  refine .inr ⟨pf, (bytesOf good17).map V.int, rfl, by rw [← ec]; exact upd_same, by rw [good_bytes]; decide, fun v hv => by obtain ⟨z, _, rfl⟩ := List.mem_map.mp hv; exact ⟨_, .int z⟩, ?_⟩
  rw [rall_ok good_ok]
  refine ⟨good_ok, fun H46 _ => ⟨_, rfl, rfl, ?_⟩⟩
  rw [good_text]
  exact q _

theorem tab_ok (ek : ErK K cs CR CE 11) (np : PySem.W.findIn K (.ref CE) "place" = some none) {D : Ends} {a0 a2 a3 a4 a5 a6 a7 a10 a11 a12 a13 a14 a15 : Option V} {ph pm : Addr} {H24 : Hp} (r24 : Run [(PT, qq)] d H24 H24) (hh24 : H24 ph = some (.lst (hd17.map V.int))) (hm24 : H24 pm = some (.lst (mo17.map V.int))) (nph : ph ≠ d) (npm : pm ≠ d) (q : ∀ H', D.rt (.bl true) H') :
    tabR K CE CR PT cs qq D [a0, some (.ref d), a2, a3, a4, a5, a6, a7, some (.ref ph), some (.ref pm), a10, a11, a12, a13, a14, a15] H24 := by
  have l20 : ∀ {n m : Nat}, Nat.ble n m = true → n ≤ m := fun h => Nat.le_of_ble_eq_true h
  obtain ⟨x24, y24, l24, hd24, _⟩ := r24.dr
  unfold tabR
  refine seq_asg ?_
  refine tab_new (d := d) (qs := [([65], 0), ([66, 0], 1), ([66, 7], 1), ([66, 1, 0], 2), ([66, 1, 9], 2), ([66, 1, 1, 26], 3)]) hd24 (.cons (case_l hd24 [65] 0 (l20 rfl)) (.cons (case_l hd24 [66, 0] 1 (l20 rfl)) (.cons (case_l hd24 [66, 7] 1 (l20 rfl)) (.cons (case_l hd24 [66, 1, 0] 2 (l20 rfl)) (.cons (case_l hd24 [66, 1, 9] 2 (l20 rfl)) (.cons (case_l hd24 [66, 1, 1, 26] 3 (l20 rfl)) .nil)))))) rfl (l20 rfl) fun t1 H25 w25 _ tb1 => ?_
  have r25 := r24.wd w25
  have hd25 := w25.old hd24 (by simp)
  try dsimp only [gName, List.set_cons_succ, List.set_cons_zero]
  refine seq_asg ?_
  refine tab_more (d := d) (qs' := [([66, 1, 1, 0, 0], 4), ([66, 1, 1, 0, 10], 4), ([66, 2, 1, 0, 1, 1, 0, 1], 5)]) hd25 rfl tb1 (.cons (case_l hd25 [66, 1, 1, 0, 0] 4 (l20 rfl)) (.cons (case_l hd25 [66, 1, 1, 0, 10] 4 (l20 rfl)) (.cons (case_l hd25 [66, 2, 1, 0, 1, 1, 0, 1] 5 (l20 rfl)) .nil))) rfl (l20 rfl) fun t2 H26 w26 hf26 tb2 => ?_
  have r26 := r25.wd w26
  have hd26 := w26.old hd25 (by simp)
  have nt2 := r25.ne hf26
  try dsimp only [gName, List.set_cons_succ, List.set_cons_zero]
  refine seq_drop ?_
  refine tab_app (d := d) (q0 := ([65], 0)) (q := ([66, 1, 2, 14, 5], 2)) rfl tb2 (case_l hd26 [66, 1, 2, 14, 5] 2 (l20 rfl)) (l20 rfl) fun xs27 o27 H27 w27 hx27 tb3 => ?_
  have r28 := (r26.wd w27).mut (o := o27) (w25.free _ hf26) nt2 hx27
  generalize upd H27 t2 o27 = H28 at r28 tb3 ⊢
  have hh := r28.lst nph hh24
  have hm := r28.lst npm hm24
  obtain ⟨x28, y28, l28, hd28, _⟩ := r28.dr
  try dsimp only [gName, List.set_cons_succ, List.set_cons_zero]
  refine seq_asg ?_
  refine tab_more (d := d) (qs' := [(hd17 ++ [0], 8), (hd17 ++ [13], 8), (hd17 ++ [2, 2], 9), (hd17 ++ [2, 0, 0], 8), (mo17 ++ [21], 11)]) hd28 rfl tb3 (.cons (case_c (hs := hd17) hd28 (l20 rfl) rfl hh [0] 8 (l20 rfl)) (.cons (case_c (hs := hd17) hd28 (l20 rfl) rfl hh [13] 8 (l20 rfl)) (.cons (case_c (hs := hd17) hd28 (l20 rfl) rfl hh [2, 2] 9 (l20 rfl)) (.cons (case_c (hs := hd17) hd28 (l20 rfl) rfl hh [2, 0, 0] 8 (l20 rfl)) (.cons (case_c (hs := mo17) hd28 (l20 rfl) rfl hm [21] 11 (l20 rfl)) .nil))))) rfl (l20 rfl) fun t29 H29 w29 hf29 tb29 => ?_
  have r29 := r28.wd w29
  have hd29 := w29.old hd28 (by simp)
  replace hh := w29.old hh (by simp)
  replace hm := w29.old hm (by simp)
  try dsimp only [gName, List.set_cons_succ, List.set_cons_zero]
  refine seq_asg ?_
  refine tab_more (d := d) (qs' := [(mo17 ++ [1, 2], 12), (mo17 ++ [1, 0, 12], 13), (mo17 ++ [1, 0, 2, 2], 14), (mo17 ++ [1, 0, 0, 5], 14)]) hd29 rfl tb29 (.cons (case_c (hs := mo17) hd29 (l20 rfl) rfl hm [1, 2] 12 (l20 rfl)) (.cons (case_c (hs := mo17) hd29 (l20 rfl) rfl hm [1, 0, 12] 13 (l20 rfl)) (.cons (case_c (hs := mo17) hd29 (l20 rfl) rfl hm [1, 0, 2, 2] 14 (l20 rfl)) (.cons (case_c (hs := mo17) hd29 (l20 rfl) rfl hm [1, 0, 0, 5] 14 (l20 rfl)) .nil)))) rfl (l20 rfl) fun t30 H30 w30 hf30 tb30 => ?_
  have r30 := r29.wd w30
  have hd30 := w30.old hd29 (by simp)
  replace hh := w30.old hh (by simp)
  replace hm := w30.old hm (by simp)
  try dsimp only [gName, List.set_cons_succ, List.set_cons_zero]
  refine seq_asg ?_
  refine tab_more (d := d) (qs' := [(mo17 ++ [1, 0, 3, 13], 14), (mo17 ++ [2, 1, 0, 2, 0, 0, 2], 15), (mo17 ++ [2, 1, 0, 2, 1, 0, 2], 15)]) hd30 rfl tb30 (.cons (case_c (hs := mo17) hd30 (l20 rfl) rfl hm [1, 0, 3, 13] 14 (l20 rfl)) (.cons (case_c (hs := mo17) hd30 (l20 rfl) rfl hm [2, 1, 0, 2, 0, 0, 2] 15 (l20 rfl)) (.cons (case_c (hs := mo17) hd30 (l20 rfl) rfl hm [2, 1, 0, 2, 1, 0, 2] 15 (l20 rfl)) .nil))) rfl (l20 rfl) fun t31 H31 w31 hf31 tb31 => ?_
  have r31 := r30.wd w31
  have hd31 := w31.old hd30 (by simp)
  replace hh := w31.old hh (by simp)
  replace hm := w31.old hm (by simp)
  try dsimp only [gName, List.set_cons_succ, List.set_cons_zero]
  refine seq_asg ?_
  refine tab_more (d := d) (qs' := [(mo17 ++ [0, 3], 12), (mo17 ++ [0, 1, 2], 13), (mo17 ++ [0, 2, 1], 13), (mo17 ++ [0, 2, 0, 0], 14)]) hd31 rfl tb31 (.cons (case_c (hs := mo17) hd31 (l20 rfl) rfl hm [0, 3] 12 (l20 rfl)) (.cons (case_c (hs := mo17) hd31 (l20 rfl) rfl hm [0, 1, 2] 13 (l20 rfl)) (.cons (case_c (hs := mo17) hd31 (l20 rfl) rfl hm [0, 2, 1] 13 (l20 rfl)) (.cons (case_c (hs := mo17) hd31 (l20 rfl) rfl hm [0, 2, 0, 0] 14 (l20 rfl)) .nil)))) rfl (l20 rfl) fun t32 H32 w32 hf32 tb32 => ?_
  have r32 := r31.wd w32
  have hd32 := w32.old hd31 (by simp)
  replace hh := w32.old hh (by simp)
  replace hm := w32.old hm (by simp)
  try dsimp only [gName, List.set_cons_succ, List.set_cons_zero]
  refine seq_asg ?_
  refine tab_more (d := d) (qs' := [(hd17 ++ [1], 8), (mo17 ++ [0, 2, 0, 2], 14)]) hd32 rfl tb32 (.cons (case_c (hs := hd17) hd32 (l20 rfl) rfl hh [1] 8 (l20 rfl)) (.cons (case_c (hs := mo17) hd32 (l20 rfl) rfl hm [0, 2, 0, 2] 14 (l20 rfl)) .nil)) rfl (l20 rfl) fun t33 H33 w33 hf33 tb33 => ?_
  have r33 := r32.wd w33
  have hd33 := w33.old hd32 (by simp)
  replace hh := w33.old hh (by simp)
  replace hm := w33.old hm (by simp)
  exact fin_ok ek np r33.re hm npm tb33 q
end
end Br

namespace Br
open PySem PySem.Spec PyProof.Rows L2
section
variable {P : Program} {w : World} {K : PySem.W.Frag} {mg : Str → Option Value} {base : Heap} {CE CR cT PT : Addr} {cs : Nat → Addr}
abbrev slaw : Stmt := topS 58
theorem sclaw : FnScope ["_law_script", "_law_d", "_law_code", "_law_at", "_law_extra", "_law_odd", "_law_wrong", "_law_none", "_law_head", "_law_more", "_law_cases", "_law_bad", "_law_place", "_law_good", "_law_text_here", "_law_k"] ["_law_script"] (defScope slaw) := ⟨rfl, rfl, rfl, by decide +kernel, rfl, by decide +kernel, by decide +kernel⟩
def spLaw (PT : Addr) (K : PySem.W.Frag) : Sp := fun vs H Q _ => ∃ (a : Addr) (ns : List Int), vs = [.ref a] ∧ SqL K H a (ns.map V.int) ∧ ns.length ≤ 63 ∧ H PT = some (.tbl #[]) ∧ ∀ H', Q (.bl true) H'
theorem law_ok {f : Addr} {fd : FuncData} (F : FunC K "law" "law" slaw f fd cT) (T : Bi mg) (hR : mg "RotaError" = some (.ref CR)) (gc : ∀ i, i < 14 → mg (clsN.getD i "") = some (.ref (cs i))) (TB : LamX.TabB base mg cT PT) (EO : DefAt K mg "_law_error_of" s_law_error_of ["_law_call"])
    (ek : ErK K cs CR CE 11) (np : PySem.W.findIn K (.ref CE) "place" = some none)
    (C1 : Cal P w K mg base 1 "_law_random" ["_law_script", "_law_salt"] (spRandom K)) (C2 : Cal P w K mg base 3 "_law_rota" ["_law_d", "_law_most"] (spRota K)) (C3 : Cal P w K mg base 1 "_law_text" ["_law_rota_here"] spText) (C4 : Cal P w K mg base 1 "_law_below" ["_law_d", "_law_limit"] spBelow)
    (C5 : Cal P w K mg base 7 "encode" ["rota"] spEncode) (C6 : CalX P w K mg base 5 "decode" ["code"] (spDecode CE)) : FnOk P w K mg base CX0 8 f fd ["_law_script"] (spLaw PT K) := by
  have nd := sclaw.nd
  obtain ⟨f1, fd1, m__law_random, kp__law_random, b__law_random, G__law_random⟩ := C1.ex
  obtain ⟨f2, fd2, m__law_rota, kp__law_rota, b__law_rota, G__law_rota⟩ := C2.ex
  obtain ⟨f3, fd3, m__law_text, kp__law_text, b__law_text, G__law_text⟩ := C3.ex
  obtain ⟨f4, fd4, m__law_below, kp__law_below, b__law_below, G__law_below⟩ := C4.ex
  obtain ⟨f5, fd5, m_encode, kp_encode, b_encode, G_encode⟩ := C5.ex
  obtain ⟨f6, fd6, m_decode, kp_decode, b_decode, G_decode⟩ := C6.ex
  refine F.ok sclaw (fun vs H Q E h => ?_) (fun A outer s H vs Q E hr h => ?_)
  · obtain ⟨a, ns, rfl, _⟩ := h; rfl
  obtain ⟨a, ns, rfl, ha, hn, hP, q⟩ := h
  have hu := hr.units
  refine ⟨_, (pss_cons (ps_set (i := 1) nd rfl (Or.inr rfl) (pe_call G__law_random (hr.mono (by first | decide | omega)) (by rfl) m__law_random kp__law_random b__law_random .nil pass0 (pa_cons (pv 0) (pa_cons pe_int pa_nil))))
 (pss_cons (ps_set (i := 2) nd rfl (Or.inr rfl) (pe_call G_encode (hr.mono (by first | decide | omega)) (by rfl) m_encode kp_encode b_encode .nil pass0 (pa_cons (pe_call G__law_text (hr.mono (by first | decide | omega)) (by rfl) m__law_text kp__law_text b__law_text .nil pass0 (pa_cons (pe_call G__law_rota (hr.mono (by first | decide | omega)) (by rfl) m__law_rota kp__law_rota b__law_rota .nil pass0 (pa_cons (pv 1) (pa_cons pe_int pa_nil))) pa_nil)) pa_nil)))
 (pss_cons (ps_set (i := 3) nd rfl (Or.inr rfl) (pe_call G__law_below (hr.mono (by first | decide | omega)) (by rfl) m__law_below kp__law_below b__law_below .nil pass0 (pa_cons (pv 1) (pa_cons (pe_callB (r := rLenS K) call_len_seq (by rfl) T.len PySem.boot_len (pa_cons (pv 2) pa_nil)) pa_nil))))
 (pss_cons (ps_if (pt_cmpR (r := rNeD K) (op_neD hu) (pe_erof (k := 5) EO T hR gc TB (by rfl) rfl (hr.mono (by decide)) (LamX.lamS_by (sc := defScope slaw) (by decide +kernel)) rfl (fun _ _ _ _ _ => rfl) (fun _ _ _ _ _ _ _ hr => (pe_call G_decode (hr.mono (by first | decide | omega)) (by rfl) m_decode kp_decode b_decode .nil (passes_call (takes_of rfl rfl rfl rfl) (fun _ _ _ _ h => h)) (pa_cons (pe_slice (r := rSlL K) sl_list (pv 2) po_none (po_some (pv 3))) pa_nil)))) (pe_tup (pa_cons pe_str (pa_cons (pv 3) pa_nil))) (nomark _))
 (pss_one (ps_ret pe_bl))
 pss_nil)
 (pss_cons (ps_set (i := 4) nd rfl (Or.inr rfl) (pe_op op_cat (pv 2) (pe_lc (own := [("_law_k", 15)]) rfl nd (pi_range1 (by rfl) T.range (pa_cons (pe_op op_add pe_int (pe_call G__law_below (hr.mono (by first | decide | omega)) (by rfl) m__law_below kp__law_below b__law_below .nil pass0 (pa_cons (pv 1) (pa_cons pe_int pa_nil)))) pa_nil)) (blkOk_by (N := ["_law_script", "_law_d", "_law_code", "_law_at", "_law_extra", "_law_odd", "_law_wrong", "_law_none", "_law_head", "_law_more", "_law_cases", "_law_bad", "_law_place", "_law_good", "_law_text_here", "_law_k"]) (sc := defScope slaw) (by decide +kernel)) (fun _ _ _ _ _ => (pg_name (i := 15) nd rfl (Or.inl rfl))) (fun _ _ _ _ _ => pts_nil) (fun _ _ _ _ _ => (pe_call G__law_below (hr.mono (by first | decide | omega)) (by rfl) m__law_below kp__law_below b__law_below .nil pass0 (pa_cons (pv 1) (pa_cons pe_int pa_nil)))))))
 (pss_cons (ps_if (pt_cmpR (r := rNeD K) (op_neD hu) (pe_erof (k := 5) EO T hR gc TB (by rfl) rfl (hr.mono (by decide)) (LamX.lamS_by (sc := defScope slaw) (by decide +kernel)) rfl (fun _ _ _ _ _ => rfl) (fun _ _ _ _ _ _ _ hr => (pe_call G_decode (hr.mono (by first | decide | omega)) (by rfl) m_decode kp_decode b_decode .nil (passes_call (takes_of rfl rfl rfl rfl) (fun _ _ _ _ h => h)) (pa_cons (pv 4) pa_nil)))) (pe_tup (pa_cons pe_str (pa_cons (pe_callB (r := rLenS K) call_len_seq (by rfl) T.len PySem.boot_len (pa_cons (pv 2) pa_nil)) pa_nil))) (nomark _))
 (pss_one (ps_ret pe_bl))
 pss_nil)
 (pss_cons (ps_set (i := 5) nd rfl (Or.inr rfl) (pe_ix (r := rIxL K) ix_list (pe_lst (pa_cons pe_non (pa_cons pe_bl (pa_cons pe_str (pa_cons pe_int (pa_cons (pe_op op_sub pe_int pe_int) (pa_cons (pe_tup (pa_cons pe_int pa_nil)) pa_nil))))))) (pe_call G__law_below (hr.mono (by first | decide | omega)) (by rfl) m__law_below kp__law_below b__law_below .nil pass0 (pa_cons (pv 1) (pa_cons pe_int pa_nil))) (fun _ _ => rfl)))
 (pss_cons (ps_if (pt_cmpR (r := rNeD K) (op_neD hu) (pe_erof (k := 5) EO T hR gc TB (by rfl) rfl (hr.mono (by decide)) (LamX.lamS_by (sc := defScope slaw) (by decide +kernel)) rfl (fun _ _ _ _ _ => rfl) (fun _ _ _ _ _ _ _ hr => (pe_call G_decode (hr.mono (by first | decide | omega)) (by rfl) m_decode kp_decode b_decode .nil (passes_call (takes_of rfl rfl rfl rfl) (fun _ _ _ _ h => h)) (pa_cons (pe_op op_cat (pe_op op_cat (pe_slice (r := rSlL K) sl_list (pv 2) po_none (po_some (pv 3))) (pe_lst (pa_cons (pv 5) pa_nil))) (pe_slice (r := rSlL K) sl_list (pv 2) (po_some (pe_op op_add (pv 3) pe_int)) po_none)) pa_nil)))) (pe_tup (pa_cons pe_str (pa_cons (pv 3) pa_nil))) (nomark _))
 (pss_one (ps_ret pe_bl))
 pss_nil)
 (pss_cons (ps_set (i := 6) nd rfl (Or.inr rfl) (pe_op op_cat (pe_slice (r := rSlL K) sl_list (pv 2) po_none (po_some (pe_un un_neg pe_int))) (pe_lst (pa_cons (pe_op op_mod (pe_op op_add (pe_op op_add (pe_ix (r := rIxL K) ix_list (pv 2) (pe_un un_neg pe_int) (fun _ _ => rfl)) pe_int) (pe_call G__law_below (hr.mono (by first | decide | omega)) (by rfl) m__law_below kp__law_below b__law_below .nil pass0 (pa_cons (pv 1) (pa_cons pe_int pa_nil)))) pe_int) pa_nil))))
 (pss_cons (ps_if (pt_cmpR (r := rNeD K) (op_neD hu) (pe_erof (k := 5) EO T hR gc TB (by rfl) rfl (hr.mono (by decide)) (LamX.lamS_by (sc := defScope slaw) (by decide +kernel)) rfl (fun _ _ _ _ _ => rfl) (fun _ _ _ _ _ _ _ hr => (pe_call G_decode (hr.mono (by first | decide | omega)) (by rfl) m_decode kp_decode b_decode .nil (passes_call (takes_of rfl rfl rfl rfl) (fun _ _ _ _ h => h)) (pa_cons (pv 6) pa_nil)))) (pe_tup (pa_cons pe_str (pa_cons (pe_op op_sub (pe_callB (r := rLenS K) call_len_seq (by rfl) T.len PySem.boot_len (pa_cons (pv 2) pa_nil)) pe_int) pa_nil))) (nomark _))
 (pss_one (ps_ret pe_bl))
 pss_nil)
 (pss_cons (ps_set (i := 7) nd rfl (Or.inr rfl) (pe_ix (r := rIxL K) ix_list (pe_lst (pa_cons pe_non (pa_cons pe_int (pa_cons (pe_tup (pa_cons pe_int (pa_cons pe_int pa_nil))) (pa_cons pe_str (pa_cons pe_bl pa_nil)))))) (pe_call G__law_below (hr.mono (by first | decide | omega)) (by rfl) m__law_below kp__law_below b__law_below .nil pass0 (pa_cons (pv 1) (pa_cons pe_int pa_nil))) (fun _ _ => rfl)))
 (pss_cons (ps_if (pt_cmpR (r := rNeD K) (op_neD hu) (pe_erof (k := 5) EO T hR gc TB (by rfl) rfl (hr.mono (by decide)) (LamX.lamS_by (sc := defScope slaw) (by decide +kernel)) rfl (fun _ _ _ _ _ => rfl) (fun _ _ _ _ _ _ _ hr => (pe_call G_decode (hr.mono (by first | decide | omega)) (by rfl) m_decode kp_decode b_decode .nil (passes_call (takes_of rfl rfl rfl rfl) (fun _ _ _ _ h => h)) (pa_cons (pv 7) pa_nil)))) (pe_tup (pa_cons pe_str (pa_cons pe_int pa_nil))) (nomark _))
 (pss_one (ps_ret pe_bl))
 pss_nil)
 (pss_cons (ps_set (i := 8) nd rfl (Or.inl rfl) (pe_lst (pa_cons pe_int (pa_cons pe_int (pa_cons pe_int (pa_cons pe_int (pa_cons pe_int (pa_cons pe_int (pa_cons pe_int (pa_cons pe_int pa_nil))))))))))
 (pss_cons (ps_set (i := 9) nd rfl (Or.inl rfl) (pe_op op_cat (pv 8) (pe_lst (pa_cons pe_int (pa_cons pe_int (pa_cons pe_int pa_nil))))))
 (pss_cons (ps_set (i := 10) nd rfl (Or.inl rfl) (pe_lst (pa_cons (pe_tup (pa_cons (pe_lst (pa_cons pe_int pa_nil)) (pa_cons pe_int pa_nil))) (pa_cons (pe_tup (pa_cons (pe_lst (pa_cons pe_int (pa_cons pe_int pa_nil))) (pa_cons pe_int pa_nil))) (pa_cons (pe_tup (pa_cons (pe_lst (pa_cons pe_int (pa_cons pe_int pa_nil))) (pa_cons pe_int pa_nil))) (pa_cons (pe_tup (pa_cons (pe_lst (pa_cons pe_int (pa_cons pe_int (pa_cons pe_int pa_nil)))) (pa_cons pe_int pa_nil))) (pa_cons (pe_tup (pa_cons (pe_lst (pa_cons pe_int (pa_cons pe_int (pa_cons pe_int pa_nil)))) (pa_cons pe_int pa_nil))) (pa_cons (pe_tup (pa_cons (pe_lst (pa_cons pe_int (pa_cons pe_int (pa_cons pe_int (pa_cons pe_int pa_nil))))) (pa_cons pe_int pa_nil))) pa_nil))))))))
 (pss_cons (ps_set (i := 10) nd rfl (Or.inl rfl) (pe_op op_cat (pv 10) (pe_lst (pa_cons (pe_tup (pa_cons (pe_lst (pa_cons pe_int (pa_cons pe_int (pa_cons pe_int (pa_cons pe_int (pa_cons pe_int pa_nil)))))) (pa_cons pe_int pa_nil))) (pa_cons (pe_tup (pa_cons (pe_lst (pa_cons pe_int (pa_cons pe_int (pa_cons pe_int (pa_cons pe_int (pa_cons pe_int pa_nil)))))) (pa_cons pe_int pa_nil))) (pa_cons (pe_tup (pa_cons (pe_lst (pa_cons pe_int (pa_cons pe_int (pa_cons pe_int (pa_cons pe_int (pa_cons pe_int (pa_cons pe_int (pa_cons pe_int (pa_cons pe_int pa_nil))))))))) (pa_cons pe_int pa_nil))) pa_nil))))))
 (pss_cons (ps_expr (pe_bmK (K := K) rfl PySem.F.plainAttrs_list PySem.F.slot_list_append PySem.F.type_list_append mt_append (pv 10) (pa_cons (pe_tup (pa_cons (pe_lst (pa_cons pe_int (pa_cons pe_int (pa_cons pe_int (pa_cons pe_int (pa_cons pe_int pa_nil)))))) (pa_cons pe_int pa_nil))) pa_nil)))
 (pss_cons (ps_set (i := 10) nd rfl (Or.inl rfl) (pe_op op_cat (pv 10) (pe_lst (pa_cons (pe_tup (pa_cons (pe_op op_cat (pv 8) (pe_lst (pa_cons pe_int pa_nil))) (pa_cons pe_int pa_nil))) (pa_cons (pe_tup (pa_cons (pe_op op_cat (pv 8) (pe_lst (pa_cons pe_int pa_nil))) (pa_cons pe_int pa_nil))) (pa_cons (pe_tup (pa_cons (pe_op op_cat (pv 8) (pe_lst (pa_cons pe_int (pa_cons pe_int pa_nil)))) (pa_cons pe_int pa_nil))) (pa_cons (pe_tup (pa_cons (pe_op op_cat (pv 8) (pe_lst (pa_cons pe_int (pa_cons pe_int (pa_cons pe_int pa_nil))))) (pa_cons pe_int pa_nil))) (pa_cons (pe_tup (pa_cons (pe_op op_cat (pv 9) (pe_lst (pa_cons pe_int pa_nil))) (pa_cons pe_int pa_nil))) pa_nil))))))))
 (pss_cons (ps_set (i := 10) nd rfl (Or.inl rfl) (pe_op op_cat (pv 10) (pe_lst (pa_cons (pe_tup (pa_cons (pe_op op_cat (pv 9) (pe_lst (pa_cons pe_int (pa_cons pe_int pa_nil)))) (pa_cons pe_int pa_nil))) (pa_cons (pe_tup (pa_cons (pe_op op_cat (pv 9) (pe_lst (pa_cons pe_int (pa_cons pe_int (pa_cons pe_int pa_nil))))) (pa_cons pe_int pa_nil))) (pa_cons (pe_tup (pa_cons (pe_op op_cat (pv 9) (pe_lst (pa_cons pe_int (pa_cons pe_int (pa_cons pe_int (pa_cons pe_int pa_nil)))))) (pa_cons pe_int pa_nil))) (pa_cons (pe_tup (pa_cons (pe_op op_cat (pv 9) (pe_lst (pa_cons pe_int (pa_cons pe_int (pa_cons pe_int (pa_cons pe_int pa_nil)))))) (pa_cons pe_int pa_nil))) pa_nil)))))))
 (pss_cons (ps_set (i := 10) nd rfl (Or.inl rfl) (pe_op op_cat (pv 10) (pe_lst (pa_cons (pe_tup (pa_cons (pe_op op_cat (pv 9) (pe_lst (pa_cons pe_int (pa_cons pe_int (pa_cons pe_int (pa_cons pe_int pa_nil)))))) (pa_cons pe_int pa_nil))) (pa_cons (pe_tup (pa_cons (pe_op op_cat (pv 9) (pe_lst (pa_cons pe_int (pa_cons pe_int (pa_cons pe_int (pa_cons pe_int (pa_cons pe_int (pa_cons pe_int (pa_cons pe_int pa_nil))))))))) (pa_cons pe_int pa_nil))) (pa_cons (pe_tup (pa_cons (pe_op op_cat (pv 9) (pe_lst (pa_cons pe_int (pa_cons pe_int (pa_cons pe_int (pa_cons pe_int (pa_cons pe_int (pa_cons pe_int (pa_cons pe_int pa_nil))))))))) (pa_cons pe_int pa_nil))) pa_nil))))))
 (pss_cons (ps_set (i := 10) nd rfl (Or.inl rfl) (pe_op op_cat (pv 10) (pe_lst (pa_cons (pe_tup (pa_cons (pe_op op_cat (pv 9) (pe_lst (pa_cons pe_int (pa_cons pe_int pa_nil)))) (pa_cons pe_int pa_nil))) (pa_cons (pe_tup (pa_cons (pe_op op_cat (pv 9) (pe_lst (pa_cons pe_int (pa_cons pe_int (pa_cons pe_int pa_nil))))) (pa_cons pe_int pa_nil))) (pa_cons (pe_tup (pa_cons (pe_op op_cat (pv 9) (pe_lst (pa_cons pe_int (pa_cons pe_int (pa_cons pe_int pa_nil))))) (pa_cons pe_int pa_nil))) (pa_cons (pe_tup (pa_cons (pe_op op_cat (pv 9) (pe_lst (pa_cons pe_int (pa_cons pe_int (pa_cons pe_int (pa_cons pe_int pa_nil)))))) (pa_cons pe_int pa_nil))) pa_nil)))))))
 (pss_cons (ps_set (i := 10) nd rfl (Or.inl rfl) (pe_op op_cat (pv 10) (pe_lst (pa_cons (pe_tup (pa_cons (pe_op op_cat (pv 8) (pe_lst (pa_cons pe_int pa_nil))) (pa_cons pe_int pa_nil))) (pa_cons (pe_tup (pa_cons (pe_op op_cat (pv 9) (pe_lst (pa_cons pe_int (pa_cons pe_int (pa_cons pe_int (pa_cons pe_int pa_nil)))))) (pa_cons pe_int pa_nil))) pa_nil)))))
 (pss_cons (ps_asg (pe_ix (r := rIxL K) ix_list (pv 10) (pe_call G__law_below (hr.mono (by first | decide | omega)) (by rfl) m__law_below kp__law_below b__law_below .nil pass0 (pa_cons (pv 1) (pa_cons pe_int pa_nil))) (fun _ _ => rfl)) (pg_tupK (K := K) (n := 2) rfl rfl (pgs_cons (pg_name (i := 11) nd rfl (Or.inr rfl)) (pgs_cons (pg_name (i := 12) nd rfl (Or.inl rfl)) pgs_nil))))
 (pss_cons (ps_if (pt_cmpR (r := rNeD K) (op_neD hu) (pe_erof (k := 5) EO T hR gc TB (by rfl) rfl (hr.mono (by decide)) (LamX.lamS_by (sc := defScope slaw) (by decide +kernel)) rfl (fun _ _ _ _ _ => rfl) (fun _ _ _ _ _ _ _ hr => (pe_call G_decode (hr.mono (by first | decide | omega)) (by rfl) m_decode kp_decode b_decode .nil (passes_call (takes_of rfl rfl rfl rfl) (fun _ _ _ _ h => h)) (pa_cons (pe_op op_cat (pv 11) (pe_lc (own := [("_law_k", 15)]) rfl nd (pi_range1 (by rfl) T.range (pa_cons pe_int pa_nil)) (blkOk_by (N := ["_law_script", "_law_d", "_law_code", "_law_at", "_law_extra", "_law_odd", "_law_wrong", "_law_none", "_law_head", "_law_more", "_law_cases", "_law_bad", "_law_place", "_law_good", "_law_text_here", "_law_k"]) (by kernel_rfl)) (fun _ _ _ _ _ => (pg_name (i := 15) nd rfl (Or.inl rfl))) (fun _ _ _ _ _ => pts_nil) (fun _ _ _ _ _ => (pe_call G__law_below (hr.mono (by first | decide | omega)) (by rfl) m__law_below kp__law_below b__law_below .nil pass0 (pa_cons (pv 1) (pa_cons pe_int pa_nil)))))) pa_nil)))) (pe_tup (pa_cons pe_str (pa_cons (pv 12) pa_nil))) (nomark _))
 (pss_one (ps_ret pe_bl))
 pss_nil)
 (pss_cons (ps_set (i := 13) nd rfl (Or.inl rfl) (pe_op op_cat (pv 9) (pe_lst (pa_cons pe_int (pa_cons pe_int (pa_cons pe_int (pa_cons pe_int (pa_cons pe_int (pa_cons pe_int (pa_cons pe_int (pa_cons pe_int (pa_cons pe_int (pa_cons pe_int pa_nil)))))))))))))
 (pss_cons (ps_set (i := 14) nd rfl (Or.inl rfl) pe_str)
 (pss_one (ps_ret (pe_cmpR op_eq (pe_call G_decode (hr.mono (by first | decide | omega)) (by rfl) m_decode kp_decode b_decode .nil passL (pa_cons (pe_op op_cat (pv 13) (pe_lst (pa_cons (pe_op op_mod (pe_callB (r := L2.rSum K) (cr_sum rfl) (by rfl) T.sum (by decide +kernel) (pa_cons (pv 13) pa_nil)) pe_int) pa_nil))) pa_nil)) (pv 14) (nomark _)))))))))))))))))))))))))))))), ?_⟩
  let qq : Str := (envOfC "law" (defScope slaw) s.heap.objs.size f (.ref cT)).qual ++ "<lambda>"
  -- the numbers, the code
  refine ⟨_, rfl, a, ns, 17, rfl, by decide, ha, hn, fun d x0 y0 l0 H1 c1 ok0 => ?_⟩
  have t0 : LamX.Tabs [(PT, qq)] H := fun p hp => by rw [List.mem_singleton.mp hp]; exact .nil hP
  have r1 : Run [(PT, qq)] d H1 H1 := ⟨fun _ _ _ h _ => h, tabs_wd t0 c1 (fun _ h => nomatch h), x0, y0, l0, c1.get 0 rfl, ok0⟩
  refine ⟨_, rfl, d, 3, x0, y0, l0, rfl, by decide, by decide, c1.get 0 rfl, ok0, fun ro ra x y l H3 c3 ok1 hR ok hnl => ?_⟩
  refine ⟨ra, ro, rfl, hR, ok, fun H4 c4 => ?_⟩
  refine ⟨textOf ro, ro, canonS ro, rfl, says_text ok, fun H5 pc c5 => ?_⟩
  have r5 : Run [(PT, qq)] d H5 H5 := (((r1.bel c3 (c3.get 0 rfl) ok1).wd c4).wd c5).re
  have hpc := c5.get 0 rfl
  have npc : pc ≠ d := ((r1.bel c3 (c3.get 0 rfl) ok1).wd c4).ne ((c5.own _ List.mem_cons_self).elim id fun z => nomatch z)
  have hbl : (bytesOf ro).length ≤ 111 := by
    have := bodyB_len ok
    unfold bytesOf; rw [List.length_append, List.length_singleton]; omega
  have hb0 : 0 < (bytesOf ro).length := by unfold bytesOf; rw [List.length_append, List.length_singleton]; omega
  -- the place
  obtain ⟨x1, y1, l1, hd1, ok1⟩ := r5.dr
  refine ⟨_, rfl, _, rfl, pc, _, rfl, .inl (SqL.of hpc), d, _, x1, y1, l1, rfl, by rw [List.length_map]; omega, by rw [List.length_map]; omega, hd1, ok1, fun at_ a' b' r' H6 w6 ok6 k0 k1 => ?_⟩
  obtain ⟨k, rfl⟩ : ∃ k : Nat, at_ = k := ⟨at_.toNat, by omega⟩
  have hk : k < (bytesOf ro).length := by rw [List.length_map] at k1; omega
  have r6 := (r5.bel w6 (w6.get 0 rfl) ok6)
  have hpc6 := r6.lst npc hpc
  replace r6 := r6.re
  -- cut
  refine er_code (n := k) ek np r6 (fun H7 r7 R hR' => ?_) (fun H7 r7 R hR' => ⟨_, rfl, hR'⟩) fun H7 r7 => ?_
  · refine ⟨_, rfl, _, rfl, _, rfl, pc, _, rfl, SqL.of (r7.lst npc hpc6), fun p hp => hR' _ _ (r7.re.new _ hp) ?_⟩
    rw [cut_take _ (by omega), Int.toNat_natCast, ← List.map_take]
    refine bad_ints upd_same (by rw [List.length_take]; omega) ?_
    rw [List.map_take]; exact cut_err ok hk
  have hpc7 := r7.lst npc hpc6
  replace r7 := r7.re
  clear r6 hpc6 r5 hpc hd1 r1
  -- more
  obtain ⟨x7, y7, l7, hd7, ok7⟩ := r7.dr
  refine ⟨_, rfl, tLc_rng ⟨_, rfl, d, 3, x7, y7, l7, rfl, by decide, by decide, hd7, ok7, fun j a' b' r' H8 w8 ok8 j0 j1 => ⟨_, _, rfl, rfl, _, rfl, by omega, by omega, ?_⟩⟩⟩
  have r8 := r7.bel w8 (w8.get 0 rfl) ok8
  have hpc8 := r8.lst npc hpc7
  replace r8 := r8.re
  refine Run.draws (n := (1 + j).toNat) r8 (by omega) (fun _ => rfl) (fun _ => rfl) fun De ex H9 r9 nDe hDe0 hDe hex hb => ?_
  have hpc9 := r9.lst npc hpc8
  refine ⟨pc, De, _, _, rfl, rfl, hpc9, hDe, by rw [List.length_map, List.length_map]; exact small' (by omega), fun p9 hp9 => ?_⟩
  have r10 := r9.new (.lst ((bytesOf ro).map V.int ++ ex.map V.int)) hp9
  have hp10 : upd H9 p9 (.lst ((bytesOf ro).map V.int ++ ex.map V.int)) p9 = some (.lst ((bytesOf ro ++ ex).map V.int)) := by rw [List.map_append]; exact upd_same
  have n10 := r9.ne hp9
  have hpc10 := (r10.lst npc hpc8)
  replace r10 := r10.re
  generalize upd H9 p9 (.lst ((bytesOf ro).map V.int ++ ex.map V.int)) = H10 at r10 hp10 hpc10 ⊢
  refine er_code (n := (bytesOf ro).length) ek np r10 (fun H11 r11 R hR' => ⟨_, rfl, hR' _ _ r11.re (bad_ints (r11.lst n10 hp10) (by rw [List.length_append]; omega) (extra_err ok fun z => by rw [z] at hex; simp at hex; omega))⟩)
    (fun H11 r11 R hR' => ⟨_, rfl, pc, _, rfl, .inl (SqL.of (r11.lst npc hpc10)), by rw [List.length_map]; exact hR'⟩) fun H11 r11 => ?_
  have hpc11 := r11.lst npc hpc10
  replace r11 := r11.re
  clear r10 hpc10 r9 hpc9 r8 hpc8 r7 hpc7
  -- an odd entry
  obtain ⟨x11, y11, l11, hd11, ok11⟩ := r11.dr
  refine ⟨_, _, rfl, rfl, (show 1 ≤ sizeLine by decide), fun p1 hp1 => ⟨(show 6 ≤ sizeLine by decide), fun p2 hp2 => ?_⟩⟩
  have w12 := ((Wd.refl H11).new (.tup [.int 1]) hp1).new (.lst [.non, .bl true, .str "a", .int 256, .int (0 - 1), .ref p1]) hp2
  have r12 := r11.wd w12
  have hpc12 := r12.lst npc hpc11
  have ht12 := w12.get 1 rfl
  have hl12 := w12.get 0 rfl
  have n1 := r11.ne hp1
  have n2 := (r11.new (.tup [.int 1]) hp1).ne hp2
  replace r12 := r12.re
  generalize upd (upd H11 p1 (.tup [.int 1])) p2 (.lst [.non, .bl true, .str "a", .int 256, .int (0 - 1), .ref p1]) = H12 at r12 hpc12 ht12 hl12 ⊢
  obtain ⟨x12, y12, l12, hd12, ok12⟩ := r12.dr
  refine ⟨_, rfl, d, 6, x12, y12, l12, rfl, by decide, by decide, hd12, ok12, fun i a' b' r' H13 w13 ok13 i0 i1 => ?_⟩
  have r13 := r12.bel w13 (w13.get 0 rfl) ok13
  have hpc13 := r13.lst npc hpc12
  have ht13 := r13.tup n1 ht12
  have hl13 := r13.lst n2 hl12
  replace r13 := r13.re
  obtain ⟨v, hv, hat⟩ := pickV (xs := [.non, .bl true, .str "a", .int 256, .int (0 - 1), .ref p1]) i0 i1
  refine ⟨p2, _, i, v, rfl, rfl, SqL.of hl13, hat, ?_⟩
  have vodd : (∀ lo hi : Int, 0 ≤ lo → hi ≤ 255 → intIn lo hi v = false) ∧ ∀ H', H' p1 = some (.tup [V.int 1]) → ∃ t, Ky H' v t := by
    simp only [List.mem_cons, List.not_mem_nil, or_false] at hv
    rcases hv with rfl | rfl | rfl | rfl | rfl | rfl
    · exact ⟨fun _ _ _ _ => rfl, fun _ _ => ⟨_, .non⟩⟩
    · exact ⟨fun _ _ _ _ => rfl, fun _ _ => ⟨_, .bl _⟩⟩
    · exact ⟨fun _ _ _ _ => rfl, fun _ _ => ⟨_, .str _⟩⟩
    · refine ⟨fun lo hi h1 h2 => ?_, fun _ _ => ⟨_, .int _⟩⟩
      rw [intIn_int, Bool.and_eq_false_iff, decide_eq_false_iff_not, decide_eq_false_iff_not]; omega
    · refine ⟨fun lo hi h1 h2 => ?_, fun _ _ => ⟨_, .int _⟩⟩
      rw [intIn_int, Bool.and_eq_false_iff, decide_eq_false_iff_not, decide_eq_false_iff_not]; omega
    · exact ⟨fun _ _ _ _ => rfl, fun _ h => ⟨_, .tup h⟩⟩
  refine er_code (n := k) ek np r13 (fun H14 r14 R hR' => ?_) (fun H14 r14 R hR' => ⟨_, rfl, hR'⟩) fun H14 r14 => ?_
  · have hpc14 := r14.lst npc hpc13
    have ht14 := r14.tup n1 ht13
    refine ⟨_, rfl, _, rfl, _, rfl, pc, _, rfl, SqL.of hpc14, fun s1 hs1 => ⟨_, rfl, (show 1 ≤ sizeLine by decide), fun u1 hu1 => ?_⟩⟩
    rw [cut_take _ (by omega), Int.toNat_natCast] at hu1 ⊢
    have w1 := ((Wd.refl H14).new (.lst (((bytesOf ro).map V.int).take k)) hs1).new (.lst [v]) hu1
    refine ⟨s1, u1, _, _, rfl, rfl, w1.get 1 rfl, w1.get 0 rfl, small' (by rw [List.length_take, List.length_map, List.length_singleton]; omega), fun c1 hc1 => ?_⟩
    have w2 := w1.new (.lst (((bytesOf ro).map V.int).take k ++ [v])) hc1
    refine ⟨_, rfl, _, rfl, _, _, rfl, rfl, _, rfl, pc, _, rfl, SqL.of (w2.old hpc14 (by simp)), fun s2 hs2 => ?_⟩
    have w3 := w2.new (.lst (cutV ((bytesOf ro).map V.int) (some ((k : Int) + 1)) none)) hs2
    have hcl := cutV_length ((bytesOf ro).map V.int) (some ((k : Int) + 1)) none
    rw [List.length_map] at hcl
    refine ⟨c1, s2, _, _, rfl, rfl, w3.get 1 rfl, w3.get 0 rfl, small' (by rw [List.length_append, List.length_take, List.length_map, List.length_singleton]; omega), fun c2 hc2 => ?_⟩
    have w4 := w3.new (.lst ((((bytesOf ro).map V.int).take k ++ [v]) ++ cutV ((bytesOf ro).map V.int) (some ((k : Int) + 1)) none)) hc2
    refine hR' _ _ (r14.re.wd w4) (.inr ⟨c2, _, rfl, w4.get 0 rfl, by rw [List.length_append, List.length_append, List.length_take, List.length_map, List.length_singleton]; omega, fun u hu => ?_, odd_err ok hk vodd.1 _⟩)
    rcases List.mem_append.mp hu with hu | hu
    · rcases List.mem_append.mp hu with hu | hu
      · obtain ⟨z, _, rfl⟩ := List.mem_map.mp (List.mem_of_mem_take hu)
        exact ⟨_, .int z⟩
      · rw [List.mem_singleton.mp hu]
        exact vodd.2 _ (w4.tups _ _ ht14)
    · rw [cut_drop _ (by omega)] at hu
      obtain ⟨z, _, rfl⟩ := List.mem_map.mp (List.mem_of_mem_drop hu)
      exact ⟨_, .int z⟩
  have hpc14 := r14.lst npc hpc13
  replace r14 := r14.re
  clear r13 hpc13 ht13 hl13 r12 hpc12 ht12 hl12 r11 hpc11 w12
  -- a wrong checksum
  have eb : (bytesOf ro).map V.int = (bodyB ro).map V.int ++ [V.int ((bodyB ro).sum.fmod 256)] := by unfold bytesOf; rw [List.map_append]; rfl
  have hbb : ((bodyB ro).length : Int) = (((bytesOf ro).map V.int).length : Nat) - 1 := by rw [eb, List.length_append, List.length_map, List.length_singleton]; omega
  have cs0 := Int.fmod_nonneg_of_pos (bodyB ro).sum (b := 256) (by decide)
  have cs1 := Int.fmod_lt_of_pos (bodyB ro).sum (b := 256) (by decide)
  have hl0 := bodyB_len ok
  refine ⟨_, rfl, _, rfl, _, rfl, pc, _, rfl, SqL.of hpc14, fun s1 hs1 => ?_⟩
  have r15 := r14.new (.lst (cutV ((bytesOf ro).map V.int) none (some (-1)))) hs1
  have hpc15 := r15.lst npc hpc14
  have hs15 : upd H14 s1 (.lst (cutV ((bytesOf ro).map V.int) none (some (-1)))) s1 = some (.lst ((bodyB ro).map V.int)) := by rw [eb, cut_last]; exact upd_same
  have ns1 := r14.ne hs1
  replace r15 := r15.re
  show tLst _ _ (upd H14 s1 (.lst (cutV ((bytesOf ro).map V.int) none (some (-1))))) _
  generalize upd H14 s1 (.lst (cutV ((bytesOf ro).map V.int) none (some (-1)))) = H15 at r15 hpc15 hs15 ⊢
  obtain ⟨x15, y15, l15, hd15, ok15⟩ := r15.dr
  refine ⟨_, rfl, _, rfl, pc, _, _, .int ((bodyB ro).sum.fmod 256), rfl, rfl, SqL.of hpc15, by rw [eb]; exact atI_last _ _, _, _, rfl, rfl, _, rfl, d, 255, x15, y15, l15, rfl, by decide, by decide, hd15, ok15, fun jj a' b' r' H16 w16 ok16 j0 j1 => ?_⟩
  have r16 := r15.bel w16 (w16.get 0 rfl) ok16
  have hpc16 := r16.lst npc hpc15
  have hs16 := r16.lst ns1 hs15
  replace r16 := r16.re
  refine ⟨_, _, rfl, rfl, _, _, rfl, rfl, (by show (0 : Int) < 256; decide), (show 1 ≤ sizeLine by decide), fun u1 hu1 => ?_⟩
  have w17 := (Wd.refl H16).new (.lst [.int (((bodyB ro).sum.fmod 256 + 1 + jj) % 256)]) hu1
  refine ⟨s1, u1, _, _, rfl, rfl, w17.old hs16 (by simp), w17.get 0 rfl, small' (by rw [List.length_map, List.length_singleton]; omega), fun p17 hp17 => ?_⟩
  have w18 := w17.new (.lst ((bodyB ro).map V.int ++ [.int (((bodyB ro).sum.fmod 256 + 1 + jj) % 256)])) hp17
  have r18 := r16.wd w18
  have hpc18 := r18.lst npc hpc16
  have hp18 : upd (upd H16 u1 (.lst [.int (((bodyB ro).sum.fmod 256 + 1 + jj) % 256)])) p17 (.lst ((bodyB ro).map V.int ++ [.int (((bodyB ro).sum.fmod 256 + 1 + jj) % 256)])) p17 = some (.lst ((bodyB ro ++ [(((bodyB ro).sum.fmod 256 + 1 + jj) % 256)]).map V.int)) := by rw [List.map_append]; exact upd_same
  have n18 := (r16.new (.lst [.int (((bodyB ro).sum.fmod 256 + 1 + jj) % 256)]) hu1).ne hp17
  replace r18 := r18.re
  generalize upd (upd H16 u1 (.lst [.int (((bodyB ro).sum.fmod 256 + 1 + jj) % 256)])) p17 (.lst ((bodyB ro).map V.int ++ [.int (((bodyB ro).sum.fmod 256 + 1 + jj) % 256)])) = H18 at r18 hpc18 hp18 ⊢
  refine er_code (n := (bodyB ro).length) ek np r18 (fun H19 r19 R hR' => ⟨_, rfl, hR' _ _ r19.re (bad_ints (r19.lst n18 hp18) (by rw [List.length_append, List.length_singleton]; omega) (wrong_err ok (by omega)))⟩)
    (fun H19 r19 R hR' => ⟨_, rfl, pc, _, rfl, .inl (SqL.of (r19.lst npc hpc18)), _, _, rfl, rfl, by rw [hbb] at hR'; exact hR'⟩) fun H19 r19 => ?_
  replace r19 := r19.re
  clear r18 hpc18 r16 hpc16 hs16 r15 hpc15 hs15 r14 hpc14 w17 w18
  -- no list
  refine ⟨(show 2 ≤ sizeLine by decide), fun p3 hp3 => ⟨(show 5 ≤ sizeLine by decide), fun p4 hp4 => ?_⟩⟩
  have w20 := ((Wd.refl H19).new (.tup [.int 66, .int 1]) hp3).new (.lst [.non, .int 5, .ref p3, .str "a", .bl true]) hp4
  have r20 := r19.wd w20
  have ht20 := w20.get 1 rfl
  have hl20 := w20.get 0 rfl
  have n3 := r19.ne hp3
  have n4 := (r19.new (.tup [.int 66, .int 1]) hp3).ne hp4
  replace r20 := r20.re
  generalize upd (upd H19 p3 (.tup [.int 66, .int 1])) p4 (.lst [.non, .int 5, .ref p3, .str "a", .bl true]) = H20 at r20 ht20 hl20 ⊢
  obtain ⟨x20, y20, l20, hd20, ok20⟩ := r20.dr
  refine ⟨_, rfl, d, 5, x20, y20, l20, rfl, by decide, by decide, hd20, ok20, fun i2 a' b' r' H21 w21 ok21 i20 i21 => ?_⟩
  have r21 := r20.bel w21 (w21.get 0 rfl) ok21
  have ht21 := r21.tup n3 ht20
  have hl21 := r21.lst n4 hl20
  replace r21 := r21.re
  obtain ⟨v2, hv2, hat2⟩ := pickV (xs := [.non, .int 5, .ref p3, .str "a", .bl true]) i20 i21
  refine ⟨p4, _, i2, v2, rfl, rfl, SqL.of hl21, hat2, ?_⟩
  refine er_code (n := 0) ek np r21 (fun H22 r22 R hR' => ⟨_, rfl, hR' _ _ r22.re (.inl ?_)⟩) (fun H22 r22 R hR' => hR') fun H22 r22 => ?_
  · have ht22 := r22.tup n3 ht21
    simp only [List.mem_cons, List.not_mem_nil, or_false] at hv2
    rcases hv2 with rfl | rfl | rfl | rfl | rfl
    · exact ⟨_, .non, by decide, rfl⟩
    · exact ⟨_, .int _, by decide, rfl⟩
    · exact ⟨_, .tup ht22, by decide, rfl⟩
    · exact ⟨_, .str _, by decide, rfl⟩
    · exact ⟨_, .bl _, by decide, rfl⟩
  replace r22 := r22.re
  clear r21 ht21 hl21 r20 ht20 hl20 r19 w20
  -- the table
  refine ⟨(show 8 ≤ sizeLine by decide), fun ph hph => ⟨_, rfl, (show 3 ≤ sizeLine by decide), fun u2 hu2 => ?_⟩⟩
  have w23 := ((Wd.refl H22).new (.lst [.int 66, .int 2, .int 1, .int 0, .int 1, .int 1, .int 1, .int 2]) hph).new (.lst [.int 2, .int 0, .int 1]) hu2
  refine ⟨ph, u2, _, _, rfl, rfl, w23.get 1 rfl, w23.get 0 rfl, sz20 (Nat.le_of_ble_eq_true rfl), fun pm hpm => ?_⟩
  have w24 := w23.new (.lst ([.int 66, .int 2, .int 1, .int 0, .int 1, .int 1, .int 1, .int 2] ++ [.int 2, .int 0, .int 1])) hpm
  have r24 := r22.wd w24
  have hh24 := w24.get 2 rfl
  have hm24 := w24.get 0 rfl
  have nph := r22.ne hph
  have npm := ((r22.new (.lst [.int 66, .int 2, .int 1, .int 0, .int 1, .int 1, .int 1, .int 2]) hph).new (.lst [.int 2, .int 0, .int 1]) hu2).ne hpm
  replace r24 := r24.re
  generalize upd (upd (upd H22 ph (.lst [.int 66, .int 2, .int 1, .int 0, .int 1, .int 1, .int 1, .int 2])) u2 (.lst [.int 2, .int 0, .int 1])) pm (.lst ([.int 66, .int 2, .int 1, .int 0, .int 1, .int 1, .int 1, .int 2] ++ [.int 2, .int 0, .int 1])) = H24 at r24 hh24 hm24 ⊢
  replace hh24 : H24 ph = some (.lst (hd17.map V.int)) := hh24
  replace hm24 : H24 pm = some (.lst (mo17.map V.int)) := hm24
  exact tab_ok (a0 := _) (a10 := none) ek np r24 hh24 hm24 nph npm q
end
end Br

namespace Br
open PySem PySem.Spec PyProof.Rows L2
/-! ### what the top has written, the head -/
theorem all_mk {l : PySem.W.OpenLaw} {w : World} {K : PySem.W.Frag} {h : Heap} {mg : Str → Option Value} {fa : Addr} (X : K.In h) (G : h.Ns mainGlobals mg) (hfa : mg "law" = some (.ref fa))
    {C_RotaError : Addr}
    {C_InvalidTick : Addr}
    {C_InvalidCount : Addr}
    {C_UnknownPerson : Addr}
    {C_TooLong : Addr}
    {C_DifferentPeople : Addr}
    {C_Contradiction : Addr}
    {C_NobodyHome : Addr}
    {C_InvalidName : Addr}
    {C_UnknownName : Addr}
    {C_SyntaxFault : Addr}
    {C_CheckFault : Addr}
    {C_InvalidCode : Addr}
    {C_InvalidOperation : Addr}
    {C_InvalidSession : Addr}
    {t_END_SIGN : Tok}
    {t_SIGN : Tok}
    {t_DIGITS : Tok}
    {t_MAX_DIGITS : Tok}
    {t_NUMBER : Tok}
    {t_LETTERS : Tok}
    {aTKEYWORDS : Addr} {dTKEYWORDS : Option Addr} {nTKEYWORDS : Nat} {slTKEYWORDS : Array (Option Value)} {tkKEYWORDS0 tkKEYWORDS1 tkKEYWORDS2 tkKEYWORDS3 tkKEYWORDS4 tkKEYWORDS5 : Tok}
    {t_KEYWORD : Tok}
    {t_MAX_LETTERS : Tok}
    {t_NAME : Tok}
    {t_END : Tok}
    {t_SPACES : Tok}
    {C_Token : Addr}
    {C_Parser : Addr}
    {C_Reader : Addr}
    {t_TAG : Tok}
    {t_BYTE : Tok}
    {f_law_below : Addr} {od_law_below an_law_below : Option Addr} {sl_law_below : Array (Option Value)} {oc_law_below kV_law_below dc_law_below pm_law_below cd_law_below ct_law_below : Value}
    {f_law_random : Addr} {od_law_random an_law_random : Option Addr} {sl_law_random : Array (Option Value)} {oc_law_random kV_law_random dc_law_random pm_law_random cd_law_random ct_law_random : Value}
    {f_law_shuffled : Addr} {od_law_shuffled an_law_shuffled : Option Addr} {sl_law_shuffled : Array (Option Value)} {oc_law_shuffled kV_law_shuffled dc_law_shuffled pm_law_shuffled cd_law_shuffled ct_law_shuffled : Value}
    {f_law_rota : Addr} {od_law_rota an_law_rota : Option Addr} {sl_law_rota : Array (Option Value)} {oc_law_rota kV_law_rota dc_law_rota pm_law_rota cd_law_rota ct_law_rota : Value}
    {f_law_text : Addr} {od_law_text an_law_text : Option Addr} {sl_law_text : Array (Option Value)} {oc_law_text kV_law_text dc_law_text pm_law_text cd_law_text ct_law_text : Value}
    {fTokenI : Addr} {odTokenI anTokenI : Option Addr} {slTokenI : Array (Option Value)} {ocTokenI kVTokenI dcTokenI pmTokenI cdTokenI ctTokenI : Value}
    {frun_end : Addr} {odrun_end anrun_end : Option Addr} {slrun_end : Array (Option Value)} {ocrun_end kVrun_end dcrun_end pmrun_end cdrun_end ctrun_end : Value}
    {fread_token : Addr} {odread_token anread_token : Option Addr} {slread_token : Array (Option Value)} {ocread_token kVread_token dcread_token pmread_token cdread_token ctread_token : Value}
    {ftokenize : Addr} {odtokenize antokenize : Option Addr} {sltokenize : Array (Option Value)} {octokenize kVtokenize dctokenize pmtokenize cdtokenize cttokenize : Value}
    {fParserI : Addr} {odParserI anParserI : Option Addr} {slParserI : Array (Option Value)} {ocParserI kVParserI dcParserI pmParserI cdParserI ctParserI : Value}
    {fParser_peek : Addr} {odParser_peek anParser_peek : Option Addr} {slParser_peek : Array (Option Value)} {ocParser_peek kVParser_peek dcParser_peek pmParser_peek cdParser_peek ctParser_peek : Value}
    {fParser_take : Addr} {odParser_take anParser_take : Option Addr} {slParser_take : Array (Option Value)} {ocParser_take kVParser_take dcParser_take pmParser_take cdParser_take ctParser_take : Value}
    {fParser_take_word : Addr} {odParser_take_word anParser_take_word : Option Addr} {slParser_take_word : Array (Option Value)} {ocParser_take_word kVParser_take_word dcParser_take_word pmParser_take_word cdParser_take_word ctParser_take_word : Value}
    {fParser_take_all : Addr} {odParser_take_all anParser_take_all : Option Addr} {slParser_take_all : Array (Option Value)} {ocParser_take_all kVParser_take_all dcParser_take_all pmParser_take_all cdParser_take_all ctParser_take_all : Value}
    {fParser_person : Addr} {odParser_person anParser_person : Option Addr} {slParser_person : Array (Option Value)} {ocParser_person kVParser_person dcParser_person pmParser_person cdParser_person ctParser_person : Value}
    {fParser_parse_people : Addr} {odParser_parse_people anParser_parse_people : Option Addr} {slParser_parse_people : Array (Option Value)} {ocParser_parse_people kVParser_parse_people dcParser_parse_people pmParser_parse_people cdParser_parse_people ctParser_parse_people : Value}
    {t_MAX_PEOPLE : Tok}
    {fParser_parse_turns : Addr} {odParser_parse_turns anParser_parse_turns : Option Addr} {slParser_parse_turns : Array (Option Value)} {ocParser_parse_turns kVParser_parse_turns dcParser_parse_turns pmParser_parse_turns cdParser_parse_turns ctParser_parse_turns : Value}
    {t_MAX_TURNS : Tok}
    {fParser_parse_weights : Addr} {odParser_parse_weights anParser_parse_weights : Option Addr} {slParser_parse_weights : Array (Option Value)} {ocParser_parse_weights kVParser_parse_weights dcParser_parse_weights pmParser_parse_weights cdParser_parse_weights ctParser_parse_weights : Value}
    {t_MAX_WEIGHT : Tok}
    {fParser_parse_away : Addr} {odParser_parse_away anParser_parse_away : Option Addr} {slParser_parse_away : Array (Option Value)} {ocParser_parse_away kVParser_parse_away dcParser_parse_away pmParser_parse_away cdParser_parse_away ctParser_parse_away : Value}
    {t_MAX_AWAYS : Tok}
    {aTMODULI : Addr} {dTMODULI : Option Addr} {nTMODULI : Nat} {slTMODULI : Array (Option Value)} {tkMODULI0 tkMODULI1 tkMODULI2 tkMODULI3 tkMODULI4 tkMODULI5 : Tok}
    {fParser_parse_makeup : Addr} {odParser_parse_makeup anParser_parse_makeup : Option Addr} {slParser_parse_makeup : Array (Option Value)} {ocParser_parse_makeup kVParser_parse_makeup dcParser_parse_makeup pmParser_parse_makeup cdParser_parse_makeup ctParser_parse_makeup : Value}
    {fParser_parse_rota : Addr} {odParser_parse_rota anParser_parse_rota : Option Addr} {slParser_parse_rota : Array (Option Value)} {ocParser_parse_rota kVParser_parse_rota dcParser_parse_rota pmParser_parse_rota cdParser_parse_rota ctParser_parse_rota : Value}
    {fload : Addr} {odload anload : Option Addr} {slload : Array (Option Value)} {ocload kVload dcload pmload cdload ctload : Value}
    {fformat_parsed : Addr} {odformat_parsed anformat_parsed : Option Addr} {slformat_parsed : Array (Option Value)} {ocformat_parsed kVformat_parsed dcformat_parsed pmformat_parsed cdformat_parsed ctformat_parsed : Value}
    {fis_int_in : Addr} {odis_int_in anis_int_in : Option Addr} {slis_int_in : Array (Option Value)} {ocis_int_in kVis_int_in dcis_int_in pmis_int_in cdis_int_in ctis_int_in : Value}
    {fencode : Addr} {odencode anencode : Option Addr} {slencode : Array (Option Value)} {ocencode kVencode dcencode pmencode cdencode ctencode : Value}
    {nmInvalidCode qInvalidCode : Str} {NInvalidCode : Addr} {bsInvalidCode : List Value} {snInvalidCode : List Str} {subInvalidCode : List Value} {abInvalidCode : Bool} {colInvalidCode : Option Bool} {ddInvalidCode : Option Addr} {m0InvalidCode m1InvalidCode m2InvalidCode m3InvalidCode m5InvalidCode : Option Value}
    {fInvalidCodeI : Addr} {odInvalidCodeI anInvalidCodeI : Option Addr} {slInvalidCodeI : Array (Option Value)} {ocInvalidCodeI kVInvalidCodeI dcInvalidCodeI pmInvalidCodeI cdInvalidCodeI ctInvalidCodeI : Value}
    {fReaderI : Addr} {odReaderI anReaderI : Option Addr} {slReaderI : Array (Option Value)} {ocReaderI kVReaderI dcReaderI pmReaderI cdReaderI ctReaderI : Value}
    {fReader_fail : Addr} {odReader_fail anReader_fail : Option Addr} {slReader_fail : Array (Option Value)} {ocReader_fail kVReader_fail dcReader_fail pmReader_fail cdReader_fail ctReader_fail : Value}
    {fReader_read_byte : Addr} {odReader_read_byte anReader_read_byte : Option Addr} {slReader_read_byte : Array (Option Value)} {ocReader_read_byte kVReader_read_byte dcReader_read_byte pmReader_read_byte cdReader_read_byte ctReader_read_byte : Value}
    {fReader_read_name : Addr} {odReader_read_name anReader_read_name : Option Addr} {slReader_read_name : Array (Option Value)} {ocReader_read_name kVReader_read_name dcReader_read_name pmReader_read_name cdReader_read_name ctReader_read_name : Value}
    {fReader_read_turns : Addr} {odReader_read_turns anReader_read_turns : Option Addr} {slReader_read_turns : Array (Option Value)} {ocReader_read_turns kVReader_read_turns dcReader_read_turns pmReader_read_turns cdReader_read_turns ctReader_read_turns : Value}
    {fReader_read_aways : Addr} {odReader_read_aways anReader_read_aways : Option Addr} {slReader_read_aways : Array (Option Value)} {ocReader_read_aways kVReader_read_aways dcReader_read_aways pmReader_read_aways cdReader_read_aways ctReader_read_aways : Value}
    {fReader_read_makers : Addr} {odReader_read_makers anReader_read_makers : Option Addr} {slReader_read_makers : Array (Option Value)} {ocReader_read_makers kVReader_read_makers dcReader_read_makers pmReader_read_makers cdReader_read_makers ctReader_read_makers : Value}
    {fdecode : Addr} {oddecode andecode : Option Addr} {sldecode : Array (Option Value)} {ocdecode kVdecode dcdecode pmdecode cddecode ctdecode : Value}
    {f_law_error_of : Addr} {od_law_error_of an_law_error_of : Option Addr} {sl_law_error_of : Array (Option Value)} {oc_law_error_of kV_law_error_of dc_law_error_of pm_law_error_of cd_law_error_of ct_law_error_of : Value}
    {flaw : Addr} {odlaw anlaw : Option Addr} {sllaw : Array (Option Value)} {oclaw kVlaw dclaw pmlaw  ctlaw : Value}
    {cT PT : Addr} {odT : Option Addr} {vsT : Array Value} {slT : Array (Option Value)}
    (aCRotaError : PySem.W.nsIn K mainGlobals "RotaError" = some (some (.ref C_RotaError)))
    (rdR : PySem.W.readsIn K C_RotaError (.type "type") = true)
    (gaR : PySem.W.specialIn K (.ref C_RotaError) "__getattribute__" = some (some (.builtin "type.__getattribute__")))
    (atR : PySem.W.findCls K (.ref C_RotaError) (.type "type") "__init__" = some (.val (.builtin "ValueError.__init__")))
    (aCInvalidTick : PySem.W.nsIn K mainGlobals "InvalidTick" = some (some (.ref C_InvalidTick)))
    (aCInvalidCount : PySem.W.nsIn K mainGlobals "InvalidCount" = some (some (.ref C_InvalidCount)))
    (aCUnknownPerson : PySem.W.nsIn K mainGlobals "UnknownPerson" = some (some (.ref C_UnknownPerson)))
    (aCTooLong : PySem.W.nsIn K mainGlobals "TooLong" = some (some (.ref C_TooLong)))
    (aCDifferentPeople : PySem.W.nsIn K mainGlobals "DifferentPeople" = some (some (.ref C_DifferentPeople)))
    (aCContradiction : PySem.W.nsIn K mainGlobals "Contradiction" = some (some (.ref C_Contradiction)))
    (aCNobodyHome : PySem.W.nsIn K mainGlobals "NobodyHome" = some (some (.ref C_NobodyHome)))
    (aCInvalidName : PySem.W.nsIn K mainGlobals "InvalidName" = some (some (.ref C_InvalidName)))
    (aCUnknownName : PySem.W.nsIn K mainGlobals "UnknownName" = some (some (.ref C_UnknownName)))
    (aCSyntaxFault : PySem.W.nsIn K mainGlobals "SyntaxFault" = some (some (.ref C_SyntaxFault)))
    (aCCheckFault : PySem.W.nsIn K mainGlobals "CheckFault" = some (some (.ref C_CheckFault)))
    (aCInvalidCode : PySem.W.nsIn K mainGlobals "InvalidCode" = some (some (.ref C_InvalidCode)))
    (aCInvalidOperation : PySem.W.nsIn K mainGlobals "InvalidOperation" = some (some (.ref C_InvalidOperation)))
    (aCInvalidSession : PySem.W.nsIn K mainGlobals "InvalidSession" = some (some (.ref C_InvalidSession)))
    (s_END_SIGN : PySem.W.nsIn K mainGlobals "END_SIGN" = some (some (.str ";" t_END_SIGN)))
    (s_SIGN : PySem.W.nsIn K mainGlobals "SIGN" = some (some (.str "sign" t_SIGN)))
    (s_DIGITS : PySem.W.nsIn K mainGlobals "DIGITS" = some (some (.str "0123456789" t_DIGITS)))
    (s_MAX_DIGITS : PySem.W.nsIn K mainGlobals "MAX_DIGITS" = some (some (.int 2 t_MAX_DIGITS)))
    (s_NUMBER : PySem.W.nsIn K mainGlobals "NUMBER" = some (some (.str "number" t_NUMBER)))
    (s_LETTERS : PySem.W.nsIn K mainGlobals "LETTERS" = some (some (.str "abcdefghijklmnopqrstuvwxyz" t_LETTERS)))
    (s_KEYWORDS : PySem.W.nsIn K mainGlobals "KEYWORDS" = some (some (.ref aTKEYWORDS)))
    (u_KEYWORDS : K.lookup aTKEYWORDS = some ⟨.type "tuple", dTKEYWORDS, .seq #[.str "people" tkKEYWORDS0, .str "turns" tkKEYWORDS1, .str "weights" tkKEYWORDS2, .str "away" tkKEYWORDS3, .str "of" tkKEYWORDS4, .str "makeup" tkKEYWORDS5] nTKEYWORDS, slTKEYWORDS⟩)
    (s_KEYWORD : PySem.W.nsIn K mainGlobals "KEYWORD" = some (some (.str "keyword" t_KEYWORD)))
    (s_MAX_LETTERS : PySem.W.nsIn K mainGlobals "MAX_LETTERS" = some (some (.int 8 t_MAX_LETTERS)))
    (s_NAME : PySem.W.nsIn K mainGlobals "NAME" = some (some (.str "name" t_NAME)))
    (s_END : PySem.W.nsIn K mainGlobals "END" = some (some (.str "end" t_END)))
    (s_SPACES : PySem.W.nsIn K mainGlobals "SPACES" = some (some (.str " \n" t_SPACES)))
    (aCToken : PySem.W.nsIn K mainGlobals "Token" = some (some (.ref C_Token)))
    (pgToken : PySem.W.plainGet K C_Token Str.empty = true)
    (hdToken : PySem.W.hasDictIn K C_Token = true)
    (poToken : PySem.W.plainOver K C_Token = true)
    (saToken : PySem.W.findIn K (.ref C_Token) "__setattr__" = some (some (.builtin "object.__setattr__")))
    (nToken_kind : PySem.W.findIn K (.ref C_Token) "kind" = some none)
    (nToken_text : PySem.W.findIn K (.ref C_Token) "text" = some none)
    (nToken_line : PySem.W.findIn K (.ref C_Token) "line" = some none)
    (nToken_column : PySem.W.findIn K (.ref C_Token) "column" = some none)
    (aCParser : PySem.W.nsIn K mainGlobals "Parser" = some (some (.ref C_Parser)))
    (pgParser : PySem.W.plainGet K C_Parser Str.empty = true)
    (hdParser : PySem.W.hasDictIn K C_Parser = true)
    (poParser : PySem.W.plainOver K C_Parser = true)
    (saParser : PySem.W.findIn K (.ref C_Parser) "__setattr__" = some (some (.builtin "object.__setattr__")))
    (nParser_tokens : PySem.W.findIn K (.ref C_Parser) "tokens" = some none)
    (nParser_at : PySem.W.findIn K (.ref C_Parser) "at" = some none)
    (nParser_faults : PySem.W.findIn K (.ref C_Parser) "faults" = some none)
    (nParser_names : PySem.W.findIn K (.ref C_Parser) "names" = some none)
    (nParser_weights : PySem.W.findIn K (.ref C_Parser) "weights" = some none)
    (nParser_makers : PySem.W.findIn K (.ref C_Parser) "makers" = some none)
    (nParser_aways : PySem.W.findIn K (.ref C_Parser) "aways" = some none)
    (aCReader : PySem.W.nsIn K mainGlobals "Reader" = some (some (.ref C_Reader)))
    (pgReader : PySem.W.plainGet K C_Reader Str.empty = true)
    (hdReader : PySem.W.hasDictIn K C_Reader = true)
    (poReader : PySem.W.plainOver K C_Reader = true)
    (saReader : PySem.W.findIn K (.ref C_Reader) "__setattr__" = some (some (.builtin "object.__setattr__")))
    (nReader_code : PySem.W.findIn K (.ref C_Reader) "code" = some none)
    (nReader_place : PySem.W.findIn K (.ref C_Reader) "place" = some none)
    (s_TAG : PySem.W.nsIn K mainGlobals "TAG" = some (some (.int 66 t_TAG)))
    (s_BYTE : PySem.W.nsIn K mainGlobals "BYTE" = some (some (.int 256 t_BYTE)))
    (a_law_below : PySem.W.nsIn K mainGlobals "_law_below" = some (some (.ref f_law_below)))
    (l_law_below : K.lookup f_law_below = some ⟨oc_law_below, od_law_below, .func (PySem.W.fnOf "_law_below" "_law_below" (defArgs s_law_below) (defBody s_law_below) (defScope s_law_below) .none kV_law_below dc_law_below pm_law_below an_law_below cd_law_below ct_law_below), sl_law_below⟩)
    (c_law_below : PySem.W.codeIn K cd_law_below "_law_below" = true)
    (k_law_below : PySem.W.keepIn K (.ref f_law_below) = true)
    (a_law_random : PySem.W.nsIn K mainGlobals "_law_random" = some (some (.ref f_law_random)))
    (l_law_random : K.lookup f_law_random = some ⟨oc_law_random, od_law_random, .func (PySem.W.fnOf "_law_random" "_law_random" (defArgs s_law_random) (defBody s_law_random) (defScope s_law_random) .none kV_law_random dc_law_random pm_law_random an_law_random cd_law_random ct_law_random), sl_law_random⟩)
    (c_law_random : PySem.W.codeIn K cd_law_random "_law_random" = true)
    (k_law_random : PySem.W.keepIn K (.ref f_law_random) = true)
    (a_law_shuffled : PySem.W.nsIn K mainGlobals "_law_shuffled" = some (some (.ref f_law_shuffled)))
    (l_law_shuffled : K.lookup f_law_shuffled = some ⟨oc_law_shuffled, od_law_shuffled, .func (PySem.W.fnOf "_law_shuffled" "_law_shuffled" (defArgs s_law_shuffled) (defBody s_law_shuffled) (defScope s_law_shuffled) .none kV_law_shuffled dc_law_shuffled pm_law_shuffled an_law_shuffled cd_law_shuffled ct_law_shuffled), sl_law_shuffled⟩)
    (c_law_shuffled : PySem.W.codeIn K cd_law_shuffled "_law_shuffled" = true)
    (k_law_shuffled : PySem.W.keepIn K (.ref f_law_shuffled) = true)
    (a_law_rota : PySem.W.nsIn K mainGlobals "_law_rota" = some (some (.ref f_law_rota)))
    (l_law_rota : K.lookup f_law_rota = some ⟨oc_law_rota, od_law_rota, .func (PySem.W.fnOf "_law_rota" "_law_rota" (defArgs s_law_rota) (defBody s_law_rota) (defScope s_law_rota) .none kV_law_rota dc_law_rota pm_law_rota an_law_rota cd_law_rota ct_law_rota), sl_law_rota⟩)
    (c_law_rota : PySem.W.codeIn K cd_law_rota "_law_rota" = true)
    (k_law_rota : PySem.W.keepIn K (.ref f_law_rota) = true)
    (a_law_text : PySem.W.nsIn K mainGlobals "_law_text" = some (some (.ref f_law_text)))
    (l_law_text : K.lookup f_law_text = some ⟨oc_law_text, od_law_text, .func (PySem.W.fnOf "_law_text" "_law_text" (defArgs s_law_text) (defBody s_law_text) (defScope s_law_text) .none kV_law_text dc_law_text pm_law_text an_law_text cd_law_text ct_law_text), sl_law_text⟩)
    (c_law_text : PySem.W.codeIn K cd_law_text "_law_text" = true)
    (k_law_text : PySem.W.keepIn K (.ref f_law_text) = true)
    (mkToken : PySem.W.makesIn K C_Token = true)
    (kcToken : PySem.W.keepIn K (.ref C_Token) = true)
    (aTokenI : PySem.W.findIn K (.ref C_Token) "__init__" = some (some (.ref fTokenI)))
    (iTokenI : PySem.W.isFn K (.ref fTokenI) = true)
    (lTokenI : K.lookup fTokenI = some ⟨ocTokenI, odTokenI, .func (PySem.W.fnOf "__init__" "Token.__init__" (defArgs sToken___init__) (defBody sToken___init__) (defScope sToken___init__) .none kVTokenI dcTokenI pmTokenI anTokenI cdTokenI ctTokenI), slTokenI⟩)
    (cTokenI : PySem.W.codeIn K cdTokenI "Token.__init__" = true)
    (kTokenI : PySem.W.keepIn K (.ref fTokenI) = true)
    (arun_end : PySem.W.nsIn K mainGlobals "run_end" = some (some (.ref frun_end)))
    (lrun_end : K.lookup frun_end = some ⟨ocrun_end, odrun_end, .func (PySem.W.fnOf "run_end" "run_end" (defArgs srun_end) (defBody srun_end) (defScope srun_end) .none kVrun_end dcrun_end pmrun_end anrun_end cdrun_end ctrun_end), slrun_end⟩)
    (crun_end : PySem.W.codeIn K cdrun_end "run_end" = true)
    (krun_end : PySem.W.keepIn K (.ref frun_end) = true)
    (aread_token : PySem.W.nsIn K mainGlobals "read_token" = some (some (.ref fread_token)))
    (lread_token : K.lookup fread_token = some ⟨ocread_token, odread_token, .func (PySem.W.fnOf "read_token" "read_token" (defArgs sread_token) (defBody sread_token) (defScope sread_token) .none kVread_token dcread_token pmread_token anread_token cdread_token ctread_token), slread_token⟩)
    (cread_token : PySem.W.codeIn K cdread_token "read_token" = true)
    (kread_token : PySem.W.keepIn K (.ref fread_token) = true)
    (atokenize : PySem.W.nsIn K mainGlobals "tokenize" = some (some (.ref ftokenize)))
    (ltokenize : K.lookup ftokenize = some ⟨octokenize, odtokenize, .func (PySem.W.fnOf "tokenize" "tokenize" (defArgs stokenize) (defBody stokenize) (defScope stokenize) .none kVtokenize dctokenize pmtokenize antokenize cdtokenize cttokenize), sltokenize⟩)
    (ctokenize : PySem.W.codeIn K cdtokenize "tokenize" = true)
    (ktokenize : PySem.W.keepIn K (.ref ftokenize) = true)
    (mkParser : PySem.W.makesIn K C_Parser = true)
    (kcParser : PySem.W.keepIn K (.ref C_Parser) = true)
    (aParserI : PySem.W.findIn K (.ref C_Parser) "__init__" = some (some (.ref fParserI)))
    (iParserI : PySem.W.isFn K (.ref fParserI) = true)
    (lParserI : K.lookup fParserI = some ⟨ocParserI, odParserI, .func (PySem.W.fnOf "__init__" "Parser.__init__" (defArgs sParser___init__) (defBody sParser___init__) (defScope sParser___init__) .none kVParserI dcParserI pmParserI anParserI cdParserI ctParserI), slParserI⟩)
    (cParserI : PySem.W.codeIn K cdParserI "Parser.__init__" = true)
    (kParserI : PySem.W.keepIn K (.ref fParserI) = true)
    (aParser_peek : PySem.W.findIn K (.ref C_Parser) "peek" = some (some (.ref fParser_peek)))
    (iParser_peek : PySem.W.isFn K (.ref fParser_peek) = true)
    (lParser_peek : K.lookup fParser_peek = some ⟨ocParser_peek, odParser_peek, .func (PySem.W.fnOf "peek" "Parser.peek" (defArgs sParser_peek) (defBody sParser_peek) (defScope sParser_peek) .none kVParser_peek dcParser_peek pmParser_peek anParser_peek cdParser_peek ctParser_peek), slParser_peek⟩)
    (cParser_peek : PySem.W.codeIn K cdParser_peek "Parser.peek" = true)
    (kParser_peek : PySem.W.keepIn K (.ref fParser_peek) = true)
    (aParser_take : PySem.W.findIn K (.ref C_Parser) "take" = some (some (.ref fParser_take)))
    (iParser_take : PySem.W.isFn K (.ref fParser_take) = true)
    (lParser_take : K.lookup fParser_take = some ⟨ocParser_take, odParser_take, .func (PySem.W.fnOf "take" "Parser.take" (defArgs sParser_take) (defBody sParser_take) (defScope sParser_take) .none kVParser_take dcParser_take pmParser_take anParser_take cdParser_take ctParser_take), slParser_take⟩)
    (cParser_take : PySem.W.codeIn K cdParser_take "Parser.take" = true)
    (kParser_take : PySem.W.keepIn K (.ref fParser_take) = true)
    (aParser_take_word : PySem.W.findIn K (.ref C_Parser) "take_word" = some (some (.ref fParser_take_word)))
    (iParser_take_word : PySem.W.isFn K (.ref fParser_take_word) = true)
    (lParser_take_word : K.lookup fParser_take_word = some ⟨ocParser_take_word, odParser_take_word, .func (PySem.W.fnOf "take_word" "Parser.take_word" (defArgs sParser_take_word) (defBody sParser_take_word) (defScope sParser_take_word) .none kVParser_take_word dcParser_take_word pmParser_take_word anParser_take_word cdParser_take_word ctParser_take_word), slParser_take_word⟩)
    (cParser_take_word : PySem.W.codeIn K cdParser_take_word "Parser.take_word" = true)
    (kParser_take_word : PySem.W.keepIn K (.ref fParser_take_word) = true)
    (aParser_take_all : PySem.W.findIn K (.ref C_Parser) "take_all" = some (some (.ref fParser_take_all)))
    (iParser_take_all : PySem.W.isFn K (.ref fParser_take_all) = true)
    (lParser_take_all : K.lookup fParser_take_all = some ⟨ocParser_take_all, odParser_take_all, .func (PySem.W.fnOf "take_all" "Parser.take_all" (defArgs sParser_take_all) (defBody sParser_take_all) (defScope sParser_take_all) .none kVParser_take_all dcParser_take_all pmParser_take_all anParser_take_all cdParser_take_all ctParser_take_all), slParser_take_all⟩)
    (cParser_take_all : PySem.W.codeIn K cdParser_take_all "Parser.take_all" = true)
    (kParser_take_all : PySem.W.keepIn K (.ref fParser_take_all) = true)
    (aParser_person : PySem.W.findIn K (.ref C_Parser) "person" = some (some (.ref fParser_person)))
    (iParser_person : PySem.W.isFn K (.ref fParser_person) = true)
    (lParser_person : K.lookup fParser_person = some ⟨ocParser_person, odParser_person, .func (PySem.W.fnOf "person" "Parser.person" (defArgs sParser_person) (defBody sParser_person) (defScope sParser_person) .none kVParser_person dcParser_person pmParser_person anParser_person cdParser_person ctParser_person), slParser_person⟩)
    (cParser_person : PySem.W.codeIn K cdParser_person "Parser.person" = true)
    (kParser_person : PySem.W.keepIn K (.ref fParser_person) = true)
    (aParser_parse_people : PySem.W.findIn K (.ref C_Parser) "parse_people" = some (some (.ref fParser_parse_people)))
    (iParser_parse_people : PySem.W.isFn K (.ref fParser_parse_people) = true)
    (lParser_parse_people : K.lookup fParser_parse_people = some ⟨ocParser_parse_people, odParser_parse_people, .func (PySem.W.fnOf "parse_people" "Parser.parse_people" (defArgs sParser_parse_people) (defBody sParser_parse_people) (defScope sParser_parse_people) .none kVParser_parse_people dcParser_parse_people pmParser_parse_people anParser_parse_people cdParser_parse_people ctParser_parse_people), slParser_parse_people⟩)
    (cParser_parse_people : PySem.W.codeIn K cdParser_parse_people "Parser.parse_people" = true)
    (kParser_parse_people : PySem.W.keepIn K (.ref fParser_parse_people) = true)
    (s_MAX_PEOPLE : PySem.W.nsIn K mainGlobals "MAX_PEOPLE" = some (some (.int 6 t_MAX_PEOPLE)))
    (aParser_parse_turns : PySem.W.findIn K (.ref C_Parser) "parse_turns" = some (some (.ref fParser_parse_turns)))
    (iParser_parse_turns : PySem.W.isFn K (.ref fParser_parse_turns) = true)
    (lParser_parse_turns : K.lookup fParser_parse_turns = some ⟨ocParser_parse_turns, odParser_parse_turns, .func (PySem.W.fnOf "parse_turns" "Parser.parse_turns" (defArgs sParser_parse_turns) (defBody sParser_parse_turns) (defScope sParser_parse_turns) .none kVParser_parse_turns dcParser_parse_turns pmParser_parse_turns anParser_parse_turns cdParser_parse_turns ctParser_parse_turns), slParser_parse_turns⟩)
    (cParser_parse_turns : PySem.W.codeIn K cdParser_parse_turns "Parser.parse_turns" = true)
    (kParser_parse_turns : PySem.W.keepIn K (.ref fParser_parse_turns) = true)
    (s_MAX_TURNS : PySem.W.nsIn K mainGlobals "MAX_TURNS" = some (some (.int 12 t_MAX_TURNS)))
    (aParser_parse_weights : PySem.W.findIn K (.ref C_Parser) "parse_weights" = some (some (.ref fParser_parse_weights)))
    (iParser_parse_weights : PySem.W.isFn K (.ref fParser_parse_weights) = true)
    (lParser_parse_weights : K.lookup fParser_parse_weights = some ⟨ocParser_parse_weights, odParser_parse_weights, .func (PySem.W.fnOf "parse_weights" "Parser.parse_weights" (defArgs sParser_parse_weights) (defBody sParser_parse_weights) (defScope sParser_parse_weights) .none kVParser_parse_weights dcParser_parse_weights pmParser_parse_weights anParser_parse_weights cdParser_parse_weights ctParser_parse_weights), slParser_parse_weights⟩)
    (cParser_parse_weights : PySem.W.codeIn K cdParser_parse_weights "Parser.parse_weights" = true)
    (kParser_parse_weights : PySem.W.keepIn K (.ref fParser_parse_weights) = true)
    (s_MAX_WEIGHT : PySem.W.nsIn K mainGlobals "MAX_WEIGHT" = some (some (.int 9 t_MAX_WEIGHT)))
    (aParser_parse_away : PySem.W.findIn K (.ref C_Parser) "parse_away" = some (some (.ref fParser_parse_away)))
    (iParser_parse_away : PySem.W.isFn K (.ref fParser_parse_away) = true)
    (lParser_parse_away : K.lookup fParser_parse_away = some ⟨ocParser_parse_away, odParser_parse_away, .func (PySem.W.fnOf "parse_away" "Parser.parse_away" (defArgs sParser_parse_away) (defBody sParser_parse_away) (defScope sParser_parse_away) .none kVParser_parse_away dcParser_parse_away pmParser_parse_away anParser_parse_away cdParser_parse_away ctParser_parse_away), slParser_parse_away⟩)
    (cParser_parse_away : PySem.W.codeIn K cdParser_parse_away "Parser.parse_away" = true)
    (kParser_parse_away : PySem.W.keepIn K (.ref fParser_parse_away) = true)
    (s_MAX_AWAYS : PySem.W.nsIn K mainGlobals "MAX_AWAYS" = some (some (.int 20 t_MAX_AWAYS)))
    (s_MODULI : PySem.W.nsIn K mainGlobals "MODULI" = some (some (.ref aTMODULI)))
    (u_MODULI : K.lookup aTMODULI = some ⟨.type "tuple", dTMODULI, .seq #[.int 2 tkMODULI0, .int 3 tkMODULI1, .int 4 tkMODULI2, .int 6 tkMODULI3, .int 8 tkMODULI4, .int 12 tkMODULI5] nTMODULI, slTMODULI⟩)
    (aParser_parse_makeup : PySem.W.findIn K (.ref C_Parser) "parse_makeup" = some (some (.ref fParser_parse_makeup)))
    (iParser_parse_makeup : PySem.W.isFn K (.ref fParser_parse_makeup) = true)
    (lParser_parse_makeup : K.lookup fParser_parse_makeup = some ⟨ocParser_parse_makeup, odParser_parse_makeup, .func (PySem.W.fnOf "parse_makeup" "Parser.parse_makeup" (defArgs sParser_parse_makeup) (defBody sParser_parse_makeup) (defScope sParser_parse_makeup) .none kVParser_parse_makeup dcParser_parse_makeup pmParser_parse_makeup anParser_parse_makeup cdParser_parse_makeup ctParser_parse_makeup), slParser_parse_makeup⟩)
    (cParser_parse_makeup : PySem.W.codeIn K cdParser_parse_makeup "Parser.parse_makeup" = true)
    (kParser_parse_makeup : PySem.W.keepIn K (.ref fParser_parse_makeup) = true)
    (aParser_parse_rota : PySem.W.findIn K (.ref C_Parser) "parse_rota" = some (some (.ref fParser_parse_rota)))
    (iParser_parse_rota : PySem.W.isFn K (.ref fParser_parse_rota) = true)
    (lParser_parse_rota : K.lookup fParser_parse_rota = some ⟨ocParser_parse_rota, odParser_parse_rota, .func (PySem.W.fnOf "parse_rota" "Parser.parse_rota" (defArgs sParser_parse_rota) (defBody sParser_parse_rota) (defScope sParser_parse_rota) .none kVParser_parse_rota dcParser_parse_rota pmParser_parse_rota anParser_parse_rota cdParser_parse_rota ctParser_parse_rota), slParser_parse_rota⟩)
    (cParser_parse_rota : PySem.W.codeIn K cdParser_parse_rota "Parser.parse_rota" = true)
    (kParser_parse_rota : PySem.W.keepIn K (.ref fParser_parse_rota) = true)
    (aload : PySem.W.nsIn K mainGlobals "load" = some (some (.ref fload)))
    (lload : K.lookup fload = some ⟨ocload, odload, .func (PySem.W.fnOf "load" "load" (defArgs sload) (defBody sload) (defScope sload) .none kVload dcload pmload anload cdload ctload), slload⟩)
    (cload : PySem.W.codeIn K cdload "load" = true)
    (kload : PySem.W.keepIn K (.ref fload) = true)
    (aformat_parsed : PySem.W.nsIn K mainGlobals "format_parsed" = some (some (.ref fformat_parsed)))
    (lformat_parsed : K.lookup fformat_parsed = some ⟨ocformat_parsed, odformat_parsed, .func (PySem.W.fnOf "format_parsed" "format_parsed" (defArgs sformat_parsed) (defBody sformat_parsed) (defScope sformat_parsed) .none kVformat_parsed dcformat_parsed pmformat_parsed anformat_parsed cdformat_parsed ctformat_parsed), slformat_parsed⟩)
    (cformat_parsed : PySem.W.codeIn K cdformat_parsed "format_parsed" = true)
    (kformat_parsed : PySem.W.keepIn K (.ref fformat_parsed) = true)
    (ais_int_in : PySem.W.nsIn K mainGlobals "is_int_in" = some (some (.ref fis_int_in)))
    (lis_int_in : K.lookup fis_int_in = some ⟨ocis_int_in, odis_int_in, .func (PySem.W.fnOf "is_int_in" "is_int_in" (defArgs sis_int_in) (defBody sis_int_in) (defScope sis_int_in) .none kVis_int_in dcis_int_in pmis_int_in anis_int_in cdis_int_in ctis_int_in), slis_int_in⟩)
    (cis_int_in : PySem.W.codeIn K cdis_int_in "is_int_in" = true)
    (kis_int_in : PySem.W.keepIn K (.ref fis_int_in) = true)
    (aencode : PySem.W.nsIn K mainGlobals "encode" = some (some (.ref fencode)))
    (lencode : K.lookup fencode = some ⟨ocencode, odencode, .func (PySem.W.fnOf "encode" "encode" (defArgs sencode) (defBody sencode) (defScope sencode) .none kVencode dcencode pmencode anencode cdencode ctencode), slencode⟩)
    (cencode : PySem.W.codeIn K cdencode "encode" = true)
    (kencode : PySem.W.keepIn K (.ref fencode) = true)
    (xInvalidCode : K.lookup C_InvalidCode = some (excClassObj nmInvalidCode qInvalidCode C_InvalidCode NInvalidCode bsInvalidCode [.ref C_RotaError, .type "ValueError", .type "Exception", .type "BaseException", .type "object"] true snInvalidCode subInvalidCode abInvalidCode colInvalidCode ddInvalidCode m0InvalidCode m1InvalidCode m2InvalidCode m3InvalidCode m5InvalidCode "ValueError.__new__"))
    (sEInvalidCode : PySem.W.findIn K (.ref C_InvalidCode) "__setattr__" = some (some (.builtin "object.__setattr__")))
    (eCInvalidCode : PySem.W.subIn K (.ref C_InvalidCode) (.type "BaseException") = some true)
    (tCInvalidCode : PySem.W.typeIn K (.ref C_InvalidCode) = some (.type "type"))
    (kCInvalidCode : PySem.W.keepIn K (.ref C_InvalidCode) = true)
    (aInvalidCodeI : PySem.W.findIn K (.ref C_InvalidCode) "__init__" = some (some (.ref fInvalidCodeI)))
    (tInvalidCodeI : PySem.W.typeIn K (.ref fInvalidCodeI) = some (.type "function"))
    (lInvalidCodeI : K.lookup fInvalidCodeI = some ⟨ocInvalidCodeI, odInvalidCodeI, .func (PySem.W.fnOf "__init__" "InvalidCode.__init__" (defArgs sInvalidCode___init__) (defBody sInvalidCode___init__) (defScope sInvalidCode___init__) .none kVInvalidCodeI dcInvalidCodeI pmInvalidCodeI anInvalidCodeI cdInvalidCodeI ctInvalidCodeI), slInvalidCodeI⟩)
    (cInvalidCodeI : PySem.W.codeIn K cdInvalidCodeI "InvalidCode.__init__" = true)
    (kInvalidCodeI : PySem.W.keepIn K (.ref fInvalidCodeI) = true)
    (noInvalidCodeplace : PySem.W.findIn K (.ref C_InvalidCode) "place" = some none)
    (mkReader : PySem.W.makesIn K C_Reader = true)
    (kcReader : PySem.W.keepIn K (.ref C_Reader) = true)
    (aReaderI : PySem.W.findIn K (.ref C_Reader) "__init__" = some (some (.ref fReaderI)))
    (iReaderI : PySem.W.isFn K (.ref fReaderI) = true)
    (lReaderI : K.lookup fReaderI = some ⟨ocReaderI, odReaderI, .func (PySem.W.fnOf "__init__" "Reader.__init__" (defArgs sReader___init__) (defBody sReader___init__) (defScope sReader___init__) .none kVReaderI dcReaderI pmReaderI anReaderI cdReaderI ctReaderI), slReaderI⟩)
    (cReaderI : PySem.W.codeIn K cdReaderI "Reader.__init__" = true)
    (kReaderI : PySem.W.keepIn K (.ref fReaderI) = true)
    (aReader_fail : PySem.W.findIn K (.ref C_Reader) "fail" = some (some (.ref fReader_fail)))
    (iReader_fail : PySem.W.isFn K (.ref fReader_fail) = true)
    (lReader_fail : K.lookup fReader_fail = some ⟨ocReader_fail, odReader_fail, .func (PySem.W.fnOf "fail" "Reader.fail" (defArgs sReader_fail) (defBody sReader_fail) (defScope sReader_fail) .none kVReader_fail dcReader_fail pmReader_fail anReader_fail cdReader_fail ctReader_fail), slReader_fail⟩)
    (cReader_fail : PySem.W.codeIn K cdReader_fail "Reader.fail" = true)
    (kReader_fail : PySem.W.keepIn K (.ref fReader_fail) = true)
    (aReader_read_byte : PySem.W.findIn K (.ref C_Reader) "read_byte" = some (some (.ref fReader_read_byte)))
    (iReader_read_byte : PySem.W.isFn K (.ref fReader_read_byte) = true)
    (lReader_read_byte : K.lookup fReader_read_byte = some ⟨ocReader_read_byte, odReader_read_byte, .func (PySem.W.fnOf "read_byte" "Reader.read_byte" (defArgs sReader_read_byte) (defBody sReader_read_byte) (defScope sReader_read_byte) .none kVReader_read_byte dcReader_read_byte pmReader_read_byte anReader_read_byte cdReader_read_byte ctReader_read_byte), slReader_read_byte⟩)
    (cReader_read_byte : PySem.W.codeIn K cdReader_read_byte "Reader.read_byte" = true)
    (kReader_read_byte : PySem.W.keepIn K (.ref fReader_read_byte) = true)
    (aReader_read_name : PySem.W.findIn K (.ref C_Reader) "read_name" = some (some (.ref fReader_read_name)))
    (iReader_read_name : PySem.W.isFn K (.ref fReader_read_name) = true)
    (lReader_read_name : K.lookup fReader_read_name = some ⟨ocReader_read_name, odReader_read_name, .func (PySem.W.fnOf "read_name" "Reader.read_name" (defArgs sReader_read_name) (defBody sReader_read_name) (defScope sReader_read_name) .none kVReader_read_name dcReader_read_name pmReader_read_name anReader_read_name cdReader_read_name ctReader_read_name), slReader_read_name⟩)
    (cReader_read_name : PySem.W.codeIn K cdReader_read_name "Reader.read_name" = true)
    (kReader_read_name : PySem.W.keepIn K (.ref fReader_read_name) = true)
    (aReader_read_turns : PySem.W.findIn K (.ref C_Reader) "read_turns" = some (some (.ref fReader_read_turns)))
    (iReader_read_turns : PySem.W.isFn K (.ref fReader_read_turns) = true)
    (lReader_read_turns : K.lookup fReader_read_turns = some ⟨ocReader_read_turns, odReader_read_turns, .func (PySem.W.fnOf "read_turns" "Reader.read_turns" (defArgs sReader_read_turns) (defBody sReader_read_turns) (defScope sReader_read_turns) .none kVReader_read_turns dcReader_read_turns pmReader_read_turns anReader_read_turns cdReader_read_turns ctReader_read_turns), slReader_read_turns⟩)
    (cReader_read_turns : PySem.W.codeIn K cdReader_read_turns "Reader.read_turns" = true)
    (kReader_read_turns : PySem.W.keepIn K (.ref fReader_read_turns) = true)
    (aReader_read_aways : PySem.W.findIn K (.ref C_Reader) "read_aways" = some (some (.ref fReader_read_aways)))
    (iReader_read_aways : PySem.W.isFn K (.ref fReader_read_aways) = true)
    (lReader_read_aways : K.lookup fReader_read_aways = some ⟨ocReader_read_aways, odReader_read_aways, .func (PySem.W.fnOf "read_aways" "Reader.read_aways" (defArgs sReader_read_aways) (defBody sReader_read_aways) (defScope sReader_read_aways) .none kVReader_read_aways dcReader_read_aways pmReader_read_aways anReader_read_aways cdReader_read_aways ctReader_read_aways), slReader_read_aways⟩)
    (cReader_read_aways : PySem.W.codeIn K cdReader_read_aways "Reader.read_aways" = true)
    (kReader_read_aways : PySem.W.keepIn K (.ref fReader_read_aways) = true)
    (aReader_read_makers : PySem.W.findIn K (.ref C_Reader) "read_makers" = some (some (.ref fReader_read_makers)))
    (iReader_read_makers : PySem.W.isFn K (.ref fReader_read_makers) = true)
    (lReader_read_makers : K.lookup fReader_read_makers = some ⟨ocReader_read_makers, odReader_read_makers, .func (PySem.W.fnOf "read_makers" "Reader.read_makers" (defArgs sReader_read_makers) (defBody sReader_read_makers) (defScope sReader_read_makers) .none kVReader_read_makers dcReader_read_makers pmReader_read_makers anReader_read_makers cdReader_read_makers ctReader_read_makers), slReader_read_makers⟩)
    (cReader_read_makers : PySem.W.codeIn K cdReader_read_makers "Reader.read_makers" = true)
    (kReader_read_makers : PySem.W.keepIn K (.ref fReader_read_makers) = true)
    (adecode : PySem.W.nsIn K mainGlobals "decode" = some (some (.ref fdecode)))
    (ldecode : K.lookup fdecode = some ⟨ocdecode, oddecode, .func (PySem.W.fnOf "decode" "decode" (defArgs sdecode) (defBody sdecode) (defScope sdecode) .none kVdecode dcdecode pmdecode andecode cddecode ctdecode), sldecode⟩)
    (cdecode : PySem.W.codeIn K cddecode "decode" = true)
    (kdecode : PySem.W.keepIn K (.ref fdecode) = true)
    (a_law_error_of : PySem.W.nsIn K mainGlobals "_law_error_of" = some (some (.ref f_law_error_of)))
    (l_law_error_of : K.lookup f_law_error_of = some ⟨oc_law_error_of, od_law_error_of, .func (PySem.W.fnOf "_law_error_of" "_law_error_of" (defArgs s_law_error_of) (defBody s_law_error_of) (defScope s_law_error_of) .none kV_law_error_of dc_law_error_of pm_law_error_of an_law_error_of cd_law_error_of ct_law_error_of), sl_law_error_of⟩)
    (c_law_error_of : PySem.W.codeIn K cd_law_error_of "_law_error_of" = true)
    (k_law_error_of : PySem.W.keepIn K (.ref f_law_error_of) = true)
    (ktInvalidCode0 : PySem.W.kitOne K (.ref C_InvalidCode) (.ref C_InvalidTick) = some false)
    (ktInvalidCode1 : PySem.W.kitOne K (.ref C_InvalidCode) (.ref C_InvalidCount) = some false)
    (ktInvalidCode2 : PySem.W.kitOne K (.ref C_InvalidCode) (.ref C_UnknownPerson) = some false)
    (ktInvalidCode3 : PySem.W.kitOne K (.ref C_InvalidCode) (.ref C_TooLong) = some false)
    (ktInvalidCode4 : PySem.W.kitOne K (.ref C_InvalidCode) (.ref C_DifferentPeople) = some false)
    (ktInvalidCode5 : PySem.W.kitOne K (.ref C_InvalidCode) (.ref C_Contradiction) = some false)
    (ktInvalidCode6 : PySem.W.kitOne K (.ref C_InvalidCode) (.ref C_NobodyHome) = some false)
    (ktInvalidCode7 : PySem.W.kitOne K (.ref C_InvalidCode) (.ref C_InvalidName) = some false)
    (ktInvalidCode8 : PySem.W.kitOne K (.ref C_InvalidCode) (.ref C_UnknownName) = some false)
    (ktInvalidCode9 : PySem.W.kitOne K (.ref C_InvalidCode) (.ref C_SyntaxFault) = some false)
    (ktInvalidCode10 : PySem.W.kitOne K (.ref C_InvalidCode) (.ref C_CheckFault) = some false)
    (ktInvalidCode11 : PySem.W.kitOne K (.ref C_InvalidCode) (.ref C_InvalidCode) = some true)
    (ktInvalidCode12 : PySem.W.kitOne K (.ref C_InvalidCode) (.ref C_InvalidOperation) = some false)
    (ktInvalidCode13 : PySem.W.kitOne K (.ref C_InvalidCode) (.ref C_InvalidSession) = some false)
    (kvInvalidCode : PySem.W.kitOne K (.ref C_InvalidCode) (.type "ValueError") = some true)
    (kxInvalidCode : PySem.W.exmOne K (.ref C_InvalidCode) (.ref C_RotaError) = some true)
    (kiInvalidCode : PySem.W.isClsIn K C_InvalidCode = true)
    (gEInvalidCode : PySem.W.findIn K (.ref C_InvalidCode) "__getattribute__" = some (some (.builtin "BaseException.__getattribute__")))
    (ggInvalidCode : PySem.W.findIn K (.ref C_InvalidCode) "__getattr__" = some none)
    (cEInvalidCode : PySem.W.findIn K (.ref C_InvalidCode) "__class__" = some (some (.builtin "object.__class__")))
    (mEInvalidCode : PySem.W.mroIn K C_InvalidCode (.type "object") = some true)
    (hEInvalidCode : PySem.W.hasDictIn K C_InvalidCode = true)
    (cgO : PySem.W.specialIn K (.builtin "object.__class__") "__get__" = some (some (.builtin "getset_descriptor.__get__")))
    (tkO : PySem.W.takesIn K (.builtin "object.__class__") = some true)
    (z_len : PySem.W.nsIn K mainGlobals "len" = some none)
    (z_range : PySem.W.nsIn K mainGlobals "range" = some none)
    (z_list : PySem.W.nsIn K mainGlobals "list" = some none)
    (z_tuple : PySem.W.nsIn K mainGlobals "tuple" = some none)
    (z_int : PySem.W.nsIn K mainGlobals "int" = some none)
    (z_str : PySem.W.nsIn K mainGlobals "str" = some none)
    (z_abs : PySem.W.nsIn K mainGlobals "abs" = some none)
    (z_max : PySem.W.nsIn K mainGlobals "max" = some none)
    (z_sorted : PySem.W.nsIn K mainGlobals "sorted" = some none)
    (z_set : PySem.W.nsIn K mainGlobals "set" = some none)
    (z_any : PySem.W.nsIn K mainGlobals "any" = some none)
    (z_all : PySem.W.nsIn K mainGlobals "all" = some none)
    (z_enumerate : PySem.W.nsIn K mainGlobals "enumerate" = some none)
    (z_isinstance : PySem.W.nsIn K mainGlobals "isinstance" = some none)
    (z_bool : PySem.W.nsIn K mainGlobals "bool" = some none)
    (z_sum : PySem.W.nsIn K mainGlobals "sum" = some none)
    (z_zip : PySem.W.nsIn K mainGlobals "zip" = some none)
    (z_min : PySem.W.nsIn K mainGlobals "min" = some none)
    (z_dict : PySem.W.nsIn K mainGlobals "dict" = some none)
    (z_divmod : PySem.W.nsIn K mainGlobals "divmod" = some none)
    (z_ValueError : PySem.W.nsIn K mainGlobals "ValueError" = some none)
    (ne_Token__Parser : C_Token ≠ C_Parser)
    (alaw : PySem.W.nsIn K mainGlobals "law" = some (some (.ref flaw)))
    (llaw : K.lookup flaw = some ⟨oclaw, odlaw, .func (PySem.W.fnOf "law" "law" (defArgs slaw) (defBody slaw) (defScope slaw) .none kVlaw dclaw pmlaw anlaw (.ref cT) ctlaw), sllaw⟩)
    (claw : PySem.W.codeIn K (.ref cT) "law" = true)
    (klaw : PySem.W.keepIn K (.ref flaw) = true)
    (vT : K.lookup cT = some ⟨.type "code", odT, .fields vsT, slT⟩)
    (pT : (vsT[11]? : Option Value) = some (.ref PT))
    (chT : PySem.W.codeHdIn K cT PT = true)
    (nT : K.lookup PT = none)
    (tT : h.get? PT = some (PySem.W.tabObj #[]))
    : LamX.LawAtS l w K CX0 8 63 "_law_script" mg fa h := by
  have e := hfa.symm.trans (PySem.W.mg_of X G alaw)
  cases e
  have BX : BaseX K mg C_RotaError := ⟨PySem.W.mg_of X G aCRotaError, rdR, gaR, atR⟩
  let cs : Nat → Addr := fun i => ([C_InvalidTick, C_InvalidCount, C_UnknownPerson, C_TooLong, C_DifferentPeople, C_Contradiction, C_NobodyHome, C_InvalidName, C_UnknownName, C_SyntaxFault, C_CheckFault, C_InvalidCode, C_InvalidOperation, C_InvalidSession] : List Addr).getD i 0
  have gc : ∀ i, i < 14 → mg (clsN.getD i "") = some (.ref (cs i)) := fun i hi => by match i, hi with | 0, _ => exact PySem.W.mg_of X G aCInvalidTick | 1, _ => exact PySem.W.mg_of X G aCInvalidCount | 2, _ => exact PySem.W.mg_of X G aCUnknownPerson | 3, _ => exact PySem.W.mg_of X G aCTooLong | 4, _ => exact PySem.W.mg_of X G aCDifferentPeople | 5, _ => exact PySem.W.mg_of X G aCContradiction | 6, _ => exact PySem.W.mg_of X G aCNobodyHome | 7, _ => exact PySem.W.mg_of X G aCInvalidName | 8, _ => exact PySem.W.mg_of X G aCUnknownName | 9, _ => exact PySem.W.mg_of X G aCSyntaxFault | 10, _ => exact PySem.W.mg_of X G aCCheckFault | 11, _ => exact PySem.W.mg_of X G aCInvalidCode | 12, _ => exact PySem.W.mg_of X G aCInvalidOperation | 13, _ => exact PySem.W.mg_of X G aCInvalidSession
  have gR : mg "RotaError" = some (.ref C_RotaError) := PySem.W.mg_of X G aCRotaError
  have c_END_SIGN : ∃ t, mg "END_SIGN" = some (.str ";" t) := ⟨_, PySem.W.mg_of X G s_END_SIGN⟩
  have c_SIGN : ∃ t, mg "SIGN" = some (.str "sign" t) := ⟨_, PySem.W.mg_of X G s_SIGN⟩
  have c_DIGITS : ∃ t, mg "DIGITS" = some (.str "0123456789" t) := ⟨_, PySem.W.mg_of X G s_DIGITS⟩
  have c_MAX_DIGITS : ∃ t, mg "MAX_DIGITS" = some (.int 2 t) := ⟨_, PySem.W.mg_of X G s_MAX_DIGITS⟩
  have c_NUMBER : ∃ t, mg "NUMBER" = some (.str "number" t) := ⟨_, PySem.W.mg_of X G s_NUMBER⟩
  have c_LETTERS : ∃ t, mg "LETTERS" = some (.str "abcdefghijklmnopqrstuvwxyz" t) := ⟨_, PySem.W.mg_of X G s_LETTERS⟩
  have c_KEYWORDS : ∃ a, mg "KEYWORDS" = some (.ref a) ∧ ∀ H : Hp, SqT K H a ((["people", "turns", "weights", "away", "of", "makeup"] : List Str).map V.str) := ⟨_, PySem.W.mg_of X G s_KEYWORDS, fun H => .inr ⟨_, _, _, u_KEYWORDS, rfl, rfl, by show 6 ≤ sizeLine; decide, .cons ⟨_, rfl⟩ (.cons ⟨_, rfl⟩ (.cons ⟨_, rfl⟩ (.cons ⟨_, rfl⟩ (.cons ⟨_, rfl⟩ (.cons ⟨_, rfl⟩ (.nil))))))⟩⟩
  have c_KEYWORD : ∃ t, mg "KEYWORD" = some (.str "keyword" t) := ⟨_, PySem.W.mg_of X G s_KEYWORD⟩
  have c_MAX_LETTERS : ∃ t, mg "MAX_LETTERS" = some (.int 8 t) := ⟨_, PySem.W.mg_of X G s_MAX_LETTERS⟩
  have c_NAME : ∃ t, mg "NAME" = some (.str "name" t) := ⟨_, PySem.W.mg_of X G s_NAME⟩
  have c_END : ∃ t, mg "END" = some (.str "end" t) := ⟨_, PySem.W.mg_of X G s_END⟩
  have c_SPACES : ∃ t, mg "SPACES" = some (.str " \n" t) := ⟨_, PySem.W.mg_of X G s_SPACES⟩
  have K_Token : Cls K C_Token := ⟨pgToken, hdToken, poToken, saToken⟩
  have N_Token_kind : NoAttr K C_Token "kind" := nToken_kind
  have N_Token_text : NoAttr K C_Token "text" := nToken_text
  have N_Token_line : NoAttr K C_Token "line" := nToken_line
  have N_Token_column : NoAttr K C_Token "column" := nToken_column
  have K_Parser : Cls K C_Parser := ⟨pgParser, hdParser, poParser, saParser⟩
  have N_Parser_tokens : NoAttr K C_Parser "tokens" := nParser_tokens
  have N_Parser_at : NoAttr K C_Parser "at" := nParser_at
  have N_Parser_faults : NoAttr K C_Parser "faults" := nParser_faults
  have N_Parser_names : NoAttr K C_Parser "names" := nParser_names
  have N_Parser_weights : NoAttr K C_Parser "weights" := nParser_weights
  have N_Parser_makers : NoAttr K C_Parser "makers" := nParser_makers
  have N_Parser_aways : NoAttr K C_Parser "aways" := nParser_aways
  have K_Reader : Cls K C_Reader := ⟨pgReader, hdReader, poReader, saReader⟩
  have N_Reader_code : NoAttr K C_Reader "code" := nReader_code
  have N_Reader_place : NoAttr K C_Reader "place" := nReader_place
  have c_TAG : ∃ t, mg "TAG" = some (.int 66 t) := ⟨_, PySem.W.mg_of X G s_TAG⟩
  have c_BYTE : ∃ t, mg "BYTE" = some (.int 256 t) := ⟨_, PySem.W.mg_of X G s_BYTE⟩
  have F_law_below := fun_mk (st := s_law_below) l_law_below c_law_below k_law_below
  have D__law_below : DefAt K mg "_law_below" s_law_below ["_law_d", "_law_limit"] := ⟨⟨f_law_below, _, PySem.W.mg_of X G a_law_below, F_law_below, (F_law_below.binds fun _ _ _ _ _ _ us hl => match us, hl with | [_, _], _ => rfl)⟩⟩
  have F_law_random := fun_mk (st := s_law_random) l_law_random c_law_random k_law_random
  have D__law_random : DefAt K mg "_law_random" s_law_random ["_law_script", "_law_salt"] := ⟨⟨f_law_random, _, PySem.W.mg_of X G a_law_random, F_law_random, (F_law_random.binds fun _ _ _ _ _ _ us hl => match us, hl with | [_, _], _ => rfl)⟩⟩
  have F_law_shuffled := fun_mk (st := s_law_shuffled) l_law_shuffled c_law_shuffled k_law_shuffled
  have D__law_shuffled : DefAt K mg "_law_shuffled" s_law_shuffled ["_law_d", "_law_items"] := ⟨⟨f_law_shuffled, _, PySem.W.mg_of X G a_law_shuffled, F_law_shuffled, (F_law_shuffled.binds fun _ _ _ _ _ _ us hl => match us, hl with | [_, _], _ => rfl)⟩⟩
  have F_law_rota := fun_mk (st := s_law_rota) l_law_rota c_law_rota k_law_rota
  have D__law_rota : DefAt K mg "_law_rota" s_law_rota ["_law_d", "_law_most"] := ⟨⟨f_law_rota, _, PySem.W.mg_of X G a_law_rota, F_law_rota, (F_law_rota.binds fun _ _ _ _ _ _ us hl => match us, hl with | [_, _], _ => rfl)⟩⟩
  have F_law_text := fun_mk (st := s_law_text) l_law_text c_law_text k_law_text
  have D__law_text : DefAt K mg "_law_text" s_law_text ["_law_rota_here"] := ⟨⟨f_law_text, _, PySem.W.mg_of X G a_law_text, F_law_text, (F_law_text.binds fun _ _ _ _ _ _ us hl => match us, hl with | [_], _ => rfl)⟩⟩
  have FTokenI := fun_mk (st := sToken___init__) lTokenI cTokenI kTokenI
  have D_Token : InitAt K mg "Token" "Token.__init__" C_Token sToken___init__ ["self", "kind", "text", "line", "column"] := ⟨⟨fTokenI, _, PySem.W.mg_of X G aCToken, ⟨mkToken, aTokenI, iTokenI, kcToken⟩, FTokenI, (FTokenI.binds fun _ _ _ _ _ _ us hl => match us, hl with | [_, _, _, _, _], _ => rfl)⟩⟩
  have Frun_end := fun_mk (st := srun_end) lrun_end crun_end krun_end
  have D_run_end : DefAt K mg "run_end" srun_end ["row", "start", "letters"] := ⟨⟨frun_end, _, PySem.W.mg_of X G arun_end, Frun_end, (Frun_end.binds fun _ _ _ _ _ _ us hl => match us, hl with | [_, _, _], _ => rfl)⟩⟩
  have Fread_token := fun_mk (st := sread_token) lread_token cread_token kread_token
  have D_read_token : DefAt K mg "read_token" sread_token ["row", "line", "column"] := ⟨⟨fread_token, _, PySem.W.mg_of X G aread_token, Fread_token, (Fread_token.binds fun _ _ _ _ _ _ us hl => match us, hl with | [_, _, _], _ => rfl)⟩⟩
  have Ftokenize := fun_mk (st := stokenize) ltokenize ctokenize ktokenize
  have D_tokenize : DefAt K mg "tokenize" stokenize ["source"] := ⟨⟨ftokenize, _, PySem.W.mg_of X G atokenize, Ftokenize, (Ftokenize.binds fun _ _ _ _ _ _ us hl => match us, hl with | [_], _ => rfl)⟩⟩
  have FParserI := fun_mk (st := sParser___init__) lParserI cParserI kParserI
  have D_Parser : InitAt K mg "Parser" "Parser.__init__" C_Parser sParser___init__ ["self", "tokens"] := ⟨⟨fParserI, _, PySem.W.mg_of X G aCParser, ⟨mkParser, aParserI, iParserI, kcParser⟩, FParserI, (FParserI.binds fun _ _ _ _ _ _ us hl => match us, hl with | [_, _], _ => rfl)⟩⟩
  have FParser_peek := fun_mk (st := sParser_peek) lParser_peek cParser_peek kParser_peek
  have D_Parser_peek : MethAt K C_Parser "peek" "Parser.peek" sParser_peek ["self"] := ⟨⟨fParser_peek, _, ⟨aParser_peek, iParser_peek, kParser_peek⟩, FParser_peek, (FParser_peek.binds fun _ _ _ _ _ _ us hl => match us, hl with | [_], _ => rfl)⟩⟩
  have FParser_take := fun_mk (st := sParser_take) lParser_take cParser_take kParser_take
  have D_Parser_take : MethAt K C_Parser "take" "Parser.take" sParser_take ["self", "kind"] := ⟨⟨fParser_take, _, ⟨aParser_take, iParser_take, kParser_take⟩, FParser_take, (FParser_take.binds fun _ _ _ _ _ _ us hl => match us, hl with | [_, _], _ => rfl)⟩⟩
  have FParser_take_word := fun_mk (st := sParser_take_word) lParser_take_word cParser_take_word kParser_take_word
  have D_Parser_take_word : MethAt K C_Parser "take_word" "Parser.take_word" sParser_take_word ["self", "word"] := ⟨⟨fParser_take_word, _, ⟨aParser_take_word, iParser_take_word, kParser_take_word⟩, FParser_take_word, (FParser_take_word.binds fun _ _ _ _ _ _ us hl => match us, hl with | [_, _], _ => rfl)⟩⟩
  have FParser_take_all := fun_mk (st := sParser_take_all) lParser_take_all cParser_take_all kParser_take_all
  have D_Parser_take_all : MethAt K C_Parser "take_all" "Parser.take_all" sParser_take_all ["self", "kind"] := ⟨⟨fParser_take_all, _, ⟨aParser_take_all, iParser_take_all, kParser_take_all⟩, FParser_take_all, (FParser_take_all.binds fun _ _ _ _ _ _ us hl => match us, hl with | [_, _], _ => rfl)⟩⟩
  have FParser_person := fun_mk (st := sParser_person) lParser_person cParser_person kParser_person
  have D_Parser_person : MethAt K C_Parser "person" "Parser.person" sParser_person ["self", "token"] := ⟨⟨fParser_person, _, ⟨aParser_person, iParser_person, kParser_person⟩, FParser_person, (FParser_person.binds fun _ _ _ _ _ _ us hl => match us, hl with | [_, _], _ => rfl)⟩⟩
  have FParser_parse_people := fun_mk (st := sParser_parse_people) lParser_parse_people cParser_parse_people kParser_parse_people
  have D_Parser_parse_people : MethAt K C_Parser "parse_people" "Parser.parse_people" sParser_parse_people ["self"] := ⟨⟨fParser_parse_people, _, ⟨aParser_parse_people, iParser_parse_people, kParser_parse_people⟩, FParser_parse_people, (FParser_parse_people.binds fun _ _ _ _ _ _ us hl => match us, hl with | [_], _ => rfl)⟩⟩
  have c_MAX_PEOPLE : ∃ t, mg "MAX_PEOPLE" = some (.int 6 t) := ⟨_, PySem.W.mg_of X G s_MAX_PEOPLE⟩
  have FParser_parse_turns := fun_mk (st := sParser_parse_turns) lParser_parse_turns cParser_parse_turns kParser_parse_turns
  have D_Parser_parse_turns : MethAt K C_Parser "parse_turns" "Parser.parse_turns" sParser_parse_turns ["self"] := ⟨⟨fParser_parse_turns, _, ⟨aParser_parse_turns, iParser_parse_turns, kParser_parse_turns⟩, FParser_parse_turns, (FParser_parse_turns.binds fun _ _ _ _ _ _ us hl => match us, hl with | [_], _ => rfl)⟩⟩
  have c_MAX_TURNS : ∃ t, mg "MAX_TURNS" = some (.int 12 t) := ⟨_, PySem.W.mg_of X G s_MAX_TURNS⟩
  have FParser_parse_weights := fun_mk (st := sParser_parse_weights) lParser_parse_weights cParser_parse_weights kParser_parse_weights
  have D_Parser_parse_weights : MethAt K C_Parser "parse_weights" "Parser.parse_weights" sParser_parse_weights ["self"] := ⟨⟨fParser_parse_weights, _, ⟨aParser_parse_weights, iParser_parse_weights, kParser_parse_weights⟩, FParser_parse_weights, (FParser_parse_weights.binds fun _ _ _ _ _ _ us hl => match us, hl with | [_], _ => rfl)⟩⟩
  have c_MAX_WEIGHT : ∃ t, mg "MAX_WEIGHT" = some (.int 9 t) := ⟨_, PySem.W.mg_of X G s_MAX_WEIGHT⟩
  have FParser_parse_away := fun_mk (st := sParser_parse_away) lParser_parse_away cParser_parse_away kParser_parse_away
  have D_Parser_parse_away : MethAt K C_Parser "parse_away" "Parser.parse_away" sParser_parse_away ["self"] := ⟨⟨fParser_parse_away, _, ⟨aParser_parse_away, iParser_parse_away, kParser_parse_away⟩, FParser_parse_away, (FParser_parse_away.binds fun _ _ _ _ _ _ us hl => match us, hl with | [_], _ => rfl)⟩⟩
  have c_MAX_AWAYS : ∃ t, mg "MAX_AWAYS" = some (.int 20 t) := ⟨_, PySem.W.mg_of X G s_MAX_AWAYS⟩
  have c_MODULI : ∃ a, mg "MODULI" = some (.ref a) ∧ ∀ H : Hp, SqT K H a (([2, 3, 4, 6, 8, 12] : List Int).map V.int) := ⟨_, PySem.W.mg_of X G s_MODULI, fun H => .inr ⟨_, _, _, u_MODULI, rfl, rfl, by show 6 ≤ sizeLine; decide, .cons ⟨_, rfl⟩ (.cons ⟨_, rfl⟩ (.cons ⟨_, rfl⟩ (.cons ⟨_, rfl⟩ (.cons ⟨_, rfl⟩ (.cons ⟨_, rfl⟩ (.nil))))))⟩⟩
  have FParser_parse_makeup := fun_mk (st := sParser_parse_makeup) lParser_parse_makeup cParser_parse_makeup kParser_parse_makeup
  have D_Parser_parse_makeup : MethAt K C_Parser "parse_makeup" "Parser.parse_makeup" sParser_parse_makeup ["self"] := ⟨⟨fParser_parse_makeup, _, ⟨aParser_parse_makeup, iParser_parse_makeup, kParser_parse_makeup⟩, FParser_parse_makeup, (FParser_parse_makeup.binds fun _ _ _ _ _ _ us hl => match us, hl with | [_], _ => rfl)⟩⟩
  have FParser_parse_rota := fun_mk (st := sParser_parse_rota) lParser_parse_rota cParser_parse_rota kParser_parse_rota
  have D_Parser_parse_rota : MethAt K C_Parser "parse_rota" "Parser.parse_rota" sParser_parse_rota ["self"] := ⟨⟨fParser_parse_rota, _, ⟨aParser_parse_rota, iParser_parse_rota, kParser_parse_rota⟩, FParser_parse_rota, (FParser_parse_rota.binds fun _ _ _ _ _ _ us hl => match us, hl with | [_], _ => rfl)⟩⟩
  have Fload := fun_mk (st := sload) lload cload kload
  have D_load : DefAt K mg "load" sload ["rota"] := ⟨⟨fload, _, PySem.W.mg_of X G aload, Fload, (Fload.binds fun _ _ _ _ _ _ us hl => match us, hl with | [_], _ => rfl)⟩⟩
  have Fformat_parsed := fun_mk (st := sformat_parsed) lformat_parsed cformat_parsed kformat_parsed
  have D_format_parsed : DefAt K mg "format_parsed" sformat_parsed ["parsed"] := ⟨⟨fformat_parsed, _, PySem.W.mg_of X G aformat_parsed, Fformat_parsed, (Fformat_parsed.binds fun _ _ _ _ _ _ us hl => match us, hl with | [_], _ => rfl)⟩⟩
  have Fis_int_in := fun_mk (st := sis_int_in) lis_int_in cis_int_in kis_int_in
  have D_is_int_in : DefAt K mg "is_int_in" sis_int_in ["value", "low", "high"] := ⟨⟨fis_int_in, _, PySem.W.mg_of X G ais_int_in, Fis_int_in, (Fis_int_in.binds fun _ _ _ _ _ _ us hl => match us, hl with | [_, _, _], _ => rfl)⟩⟩
  have Fencode := fun_mk (st := sencode) lencode cencode kencode
  have D_encode : DefAt K mg "encode" sencode ["rota"] := ⟨⟨fencode, _, PySem.W.mg_of X G aencode, Fencode, (Fencode.binds fun _ _ _ _ _ _ us hl => match us, hl with | [_], _ => rfl)⟩⟩
  have FInvalidCodeI := fun_mk (st := sInvalidCode___init__) lInvalidCodeI cInvalidCodeI kInvalidCodeI
  have OInvalidCode : OexC K C_InvalidCode := ⟨⟨nmInvalidCode, qInvalidCode, NInvalidCode, bsInvalidCode, _, snInvalidCode, subInvalidCode, abInvalidCode, colInvalidCode, ddInvalidCode, m0InvalidCode, m1InvalidCode, m2InvalidCode, m3InvalidCode, m5InvalidCode, xInvalidCode, by rfl⟩, sEInvalidCode, eCInvalidCode, tCInvalidCode, kCInvalidCode⟩
  have noInvalidCode : ∀ f ∈ (["place"] : List Str), PySem.W.findIn K (.ref C_InvalidCode) f = some none := by
      intro f hf; simp only [List.mem_cons, List.not_mem_nil, or_false] at hf; rcases hf with rfl
      · exact noInvalidCodeplace
  have D_InvalidCode : ExTxt K mg "InvalidCode" "InvalidCode.__init__" C_InvalidCode sInvalidCode___init__ ["self", "place"] ["place"] := ⟨OInvalidCode, PySem.W.mg_of X G aCInvalidCode, noInvalidCode, fInvalidCodeI, _, aInvalidCodeI, tInvalidCodeI, FInvalidCodeI, (FInvalidCodeI.binds fun _ _ _ _ _ _ us hl => match us, hl with | [_, _], _ => rfl)⟩
  have FReaderI := fun_mk (st := sReader___init__) lReaderI cReaderI kReaderI
  have D_Reader : InitAt K mg "Reader" "Reader.__init__" C_Reader sReader___init__ ["self", "code"] := ⟨⟨fReaderI, _, PySem.W.mg_of X G aCReader, ⟨mkReader, aReaderI, iReaderI, kcReader⟩, FReaderI, (FReaderI.binds fun _ _ _ _ _ _ us hl => match us, hl with | [_, _], _ => rfl)⟩⟩
  have FReader_fail := fun_mk (st := sReader_fail) lReader_fail cReader_fail kReader_fail
  have D_Reader_fail : MethAt K C_Reader "fail" "Reader.fail" sReader_fail ["self", "place"] := ⟨⟨fReader_fail, _, ⟨aReader_fail, iReader_fail, kReader_fail⟩, FReader_fail, (FReader_fail.binds fun _ _ _ _ _ _ us hl => match us, hl with | [_, _], _ => rfl)⟩⟩
  have FReader_read_byte := fun_mk (st := sReader_read_byte) lReader_read_byte cReader_read_byte kReader_read_byte
  have D_Reader_read_byte : MethAt K C_Reader "read_byte" "Reader.read_byte" sReader_read_byte ["self", "low", "high"] := ⟨⟨fReader_read_byte, _, ⟨aReader_read_byte, iReader_read_byte, kReader_read_byte⟩, FReader_read_byte, (FReader_read_byte.binds fun _ _ _ _ _ _ us hl => match us, hl with | [_, _, _], _ => rfl)⟩⟩
  have FReader_read_name := fun_mk (st := sReader_read_name) lReader_read_name cReader_read_name kReader_read_name
  have D_Reader_read_name : MethAt K C_Reader "read_name" "Reader.read_name" sReader_read_name ["self", "names"] := ⟨⟨fReader_read_name, _, ⟨aReader_read_name, iReader_read_name, kReader_read_name⟩, FReader_read_name, (FReader_read_name.binds fun _ _ _ _ _ _ us hl => match us, hl with | [_, _], _ => rfl)⟩⟩
  have FReader_read_turns := fun_mk (st := sReader_read_turns) lReader_read_turns cReader_read_turns kReader_read_turns
  have D_Reader_read_turns : MethAt K C_Reader "read_turns" "Reader.read_turns" sReader_read_turns ["self", "count"] := ⟨⟨fReader_read_turns, _, ⟨aReader_read_turns, iReader_read_turns, kReader_read_turns⟩, FReader_read_turns, (FReader_read_turns.binds fun _ _ _ _ _ _ us hl => match us, hl with | [_, _], _ => rfl)⟩⟩
  have FReader_read_aways := fun_mk (st := sReader_read_aways) lReader_read_aways cReader_read_aways kReader_read_aways
  have D_Reader_read_aways : MethAt K C_Reader "read_aways" "Reader.read_aways" sReader_read_aways ["self", "count"] := ⟨⟨fReader_read_aways, _, ⟨aReader_read_aways, iReader_read_aways, kReader_read_aways⟩, FReader_read_aways, (FReader_read_aways.binds fun _ _ _ _ _ _ us hl => match us, hl with | [_, _], _ => rfl)⟩⟩
  have FReader_read_makers := fun_mk (st := sReader_read_makers) lReader_read_makers cReader_read_makers kReader_read_makers
  have D_Reader_read_makers : MethAt K C_Reader "read_makers" "Reader.read_makers" sReader_read_makers ["self", "count"] := ⟨⟨fReader_read_makers, _, ⟨aReader_read_makers, iReader_read_makers, kReader_read_makers⟩, FReader_read_makers, (FReader_read_makers.binds fun _ _ _ _ _ _ us hl => match us, hl with | [_, _], _ => rfl)⟩⟩
  have Fdecode := fun_mk (st := sdecode) ldecode cdecode kdecode
  have D_decode : DefAt K mg "decode" sdecode ["code"] := ⟨⟨fdecode, _, PySem.W.mg_of X G adecode, Fdecode, (Fdecode.binds fun _ _ _ _ _ _ us hl => match us, hl with | [_], _ => rfl)⟩⟩
  have F_law_error_of := fun_mk (st := s_law_error_of) l_law_error_of c_law_error_of k_law_error_of
  have D__law_error_of : DefAt K mg "_law_error_of" s_law_error_of ["_law_call"] := ⟨⟨f_law_error_of, _, PySem.W.mg_of X G a_law_error_of, F_law_error_of, (F_law_error_of.binds fun _ _ _ _ _ _ us hl => match us, hl with | [_], _ => rfl)⟩⟩
  have IS_InvalidCode : IsX K C_InvalidCode := ⟨kiInvalidCode, gEInvalidCode, ggInvalidCode, eCInvalidCode, cEInvalidCode, cgO, tkO, mEInvalidCode⟩
  have ER_InvalidCode : ErK K cs C_RotaError C_InvalidCode 11 := ⟨by decide, fun i hi => (by match i, hi with | 0, _ => exact ktInvalidCode0 | 1, _ => exact ktInvalidCode1 | 2, _ => exact ktInvalidCode2 | 3, _ => exact ktInvalidCode3 | 4, _ => exact ktInvalidCode4 | 5, _ => exact ktInvalidCode5 | 6, _ => exact ktInvalidCode6 | 7, _ => exact ktInvalidCode7 | 8, _ => exact ktInvalidCode8 | 9, _ => exact ktInvalidCode9 | 10, _ => exact ktInvalidCode10 | 11, _ => exact ktInvalidCode11 | 12, _ => exact ktInvalidCode12 | 13, _ => exact ktInvalidCode13), kvInvalidCode, kxInvalidCode, IS_InvalidCode, ⟨gEInvalidCode, ggInvalidCode, eCInvalidCode, hEInvalidCode⟩⟩
  have F_law := funC_mk (st := slaw) llaw claw
  have T : Bi mg := ⟨PySem.W.mg_none_of X G z_len, PySem.W.mg_none_of X G z_range, PySem.W.mg_none_of X G z_list, PySem.W.mg_none_of X G z_tuple, PySem.W.mg_none_of X G z_int, PySem.W.mg_none_of X G z_str, PySem.W.mg_none_of X G z_abs, PySem.W.mg_none_of X G z_max, PySem.W.mg_none_of X G z_sorted, PySem.W.mg_none_of X G z_set, PySem.W.mg_none_of X G z_any, PySem.W.mg_none_of X G z_all, PySem.W.mg_none_of X G z_enumerate, PySem.W.mg_none_of X G z_isinstance, PySem.W.mg_none_of X G z_bool, PySem.W.mg_none_of X G z_sum, PySem.W.mg_none_of X G z_zip, PySem.W.mg_none_of X G z_min, PySem.W.mg_none_of X G z_dict, PySem.W.mg_none_of X G z_divmod, PySem.W.mg_none_of X G z_ValueError⟩
  refine ⟨PySem.W.fnOf "law" "law" (defArgs slaw) (defBody slaw) (defScope slaw) .none kVlaw dclaw pmlaw anlaw (.ref cT) ctlaw, [(cT, PT)], spLaw PT K, fun p hp => (by rw [List.mem_singleton.mp hp]; exact tT), fun p hp => (by rw [List.mem_singleton.mp hp]; exact nT), fun p hp => (by rw [List.mem_singleton.mp hp]; exact PySem.W.codeHd_of_K X chT), fun s v => .of_eq rfl, fun H a ns hl _ hT hS => ⟨a, ns, rfl, hS, hl, hT _ List.mem_cons_self, fun _ => rfl⟩, fun base _ _ TBs => ?_⟩
  have TB := TBs _ List.mem_cons_self

  have LC : LexC K mg := ⟨c_END_SIGN, c_SIGN, c_DIGITS, c_MAX_DIGITS, c_NUMBER, c_LETTERS, c_KEYWORDS, c_KEYWORD, c_MAX_LETTERS, c_NAME, c_END, c_SPACES⟩
  have TC : TokCls K C_Token := ⟨K_Token, N_Token_kind, N_Token_text, N_Token_line, N_Token_column⟩
  have PC : ParCls K C_Parser := ⟨K_Parser, N_Parser_tokens, N_Parser_at, N_Parser_faults, N_Parser_names, N_Parser_weights, N_Parser_makers, N_Parser_aways⟩
  have RC : RdrCls K C_Reader := ⟨K_Reader, N_Reader_code, N_Reader_place⟩
  have EC : EncC mg := ⟨c_TAG, c_BYTE⟩
  have c_below := cal_below (P := l.prog) (w := w) (base := base) D__law_below T
  have c_random := cal_random (P := l.prog) (w := w) (base := base) D__law_random T
  have c_shuf := cal_shuffled D__law_shuffled T c_below
  have c_rota := cal_rota D__law_rota T c_below c_shuf
  have c_text := cal_text (P := l.prog) (w := w) (base := base) D__law_text T
  have c_mkt := mk_token (P := l.prog) (w := w) (base := base) D_Token TC
  have c_run := cal_run_end (P := l.prog) (w := w) (base := base) D_run_end T
  have c_read := cal_read_token D_read_token T LC c_run c_mkt
  have c_tok := cal_tokenize D_tokenize T LC TC c_read c_mkt
  have c_mkp := mk_parser (P := l.prog) (w := w) (base := base) (CT := C_Token) D_Parser PC
  have c_peek := me_peek (P := l.prog) (w := w) (mg := mg) (base := base) (CT := C_Token) D_Parser_peek PC
  have c_take := me_take D_Parser_take PC TC c_peek
  have c_word := me_take_word D_Parser_take_word PC TC c_peek
  have c_all := me_take_all D_Parser_take_all PC TC LC c_peek c_take c_word
  have c_per := me_person (P := l.prog) (w := w) (mg := mg) (base := base) (CT := C_Token) D_Parser_person PC TC
  have c_peo := me_people D_Parser_parse_people T PC TC LC c_MAX_PEOPLE c_word c_all
  have c_tur := me_turns D_Parser_parse_turns T PC TC LC c_MAX_TURNS c_peek c_word c_all c_per
  have c_wei := me_weights D_Parser_parse_weights T PC TC LC c_MAX_WEIGHT c_peek c_word c_all
  have c_awa := me_away D_Parser_parse_away T PC TC LC c_MAX_AWAYS c_MODULI c_peek c_word c_take c_per
  have c_mak := me_makeup D_Parser_parse_makeup T PC TC LC c_peek c_word c_all c_per
  have c_prs := me_rota D_Parser_parse_rota T PC TC LC c_peek c_peo c_tur c_wei c_awa c_mak
  have c_load := cal_load D_load PC ne_Token__Parser c_tok c_mkp c_prs
  have c_fmt := cal_format (P := l.prog) (w := w) (base := base) D_format_parsed T
  have c_int := cal_intIn (P := l.prog) (w := w) (base := base) D_is_int_in T
  have c_enc := cal_encode D_encode T LC EC c_load
  have x_code := ex_InvalidCode (P := l.prog) (w := w) (base := base) D_InvalidCode BX
  have c_mkr := mk_reader (P := l.prog) (w := w) (mg := mg) (base := base) D_Reader RC
  have c_fail := me_rfail D_Reader_fail x_code
  have c_byte := me_rbyte D_Reader_read_byte T RC x_code c_int
  have c_rnam := me_rname D_Reader_read_name T RC LC c_byte c_fail
  have c_rtur := me_rturns D_Reader_read_turns T RC c_MAX_TURNS c_byte c_fail
  have c_rawa := me_raways D_Reader_read_aways T RC c_MAX_AWAYS c_MODULI c_byte c_fail
  have c_rmak := me_rmakers D_Reader_read_makers T RC c_byte
  have c_dec := cal_decode D_decode T RC EC c_MAX_PEOPLE c_MAX_WEIGHT x_code c_mkr c_byte c_rnam c_rtur c_rawa c_rmak c_fmt
  exact law_ok (cs := cs) F_law T gR gc TB D__law_error_of ER_InvalidCode noInvalidCodeplace c_random c_rota c_text c_below c_enc c_dec
end Br

open PySem PySem.W PyProof.Rows in
set_option maxHeartbeats 0 in
theorem PySem.Challenge.cw_breadrota_k17_invalid_bytes_holds : PySem.Challenge.rw_breadrota_k17_invalid_bytes.Holds := by
  w_on; o_law; k_head; (case hw => w_witness2)
  k_fill
  refine LamX.walk_ofTs (l := PySem.Challenge.rw_breadrota_k17_invalid_bytes) (n := 63) (k := 8) (x := "_law_script") (CX := fun _ => L2.CX0) rfl (by decide) rfl ⟨rfl, by decide, by decide⟩ (fun w h Y => PySem.W.km_in_of Y) ?F fun _ _ _ _ _ z => z
  case F =>
    intro w mg fa h Y KX G hmg
    refine' Br.all_mk KX G hmg ?aCRotaError ?rdR ?gaR ?atR ?aCInvalidTick ?aCInvalidCount ?aCUnknownPerson ?aCTooLong ?aCDifferentPeople ?aCContradiction ?aCNobodyHome ?aCInvalidName ?aCUnknownName ?aCSyntaxFault ?aCCheckFault ?aCInvalidCode ?aCInvalidOperation ?aCInvalidSession ?s_END_SIGN ?s_SIGN ?s_DIGITS ?s_MAX_DIGITS ?s_NUMBER ?s_LETTERS ?s_KEYWORDS ?u_KEYWORDS ?s_KEYWORD ?s_MAX_LETTERS ?s_NAME ?s_END ?s_SPACES ?aCToken ?pgToken ?hdToken ?poToken ?saToken ?nToken_kind ?nToken_text ?nToken_line ?nToken_column ?aCParser ?pgParser ?hdParser ?poParser ?saParser ?nParser_tokens ?nParser_at ?nParser_faults ?nParser_names ?nParser_weights ?nParser_makers ?nParser_aways ?aCReader ?pgReader ?hdReader ?poReader ?saReader ?nReader_code ?nReader_place ?s_TAG ?s_BYTE ?a_law_below ?l_law_below ?c_law_below ?k_law_below ?a_law_random ?l_law_random ?c_law_random ?k_law_random ?a_law_shuffled ?l_law_shuffled ?c_law_shuffled ?k_law_shuffled ?a_law_rota ?l_law_rota ?c_law_rota ?k_law_rota ?a_law_text ?l_law_text ?c_law_text ?k_law_text ?mkToken ?kcToken ?aTokenI ?iTokenI ?lTokenI ?cTokenI ?kTokenI ?arun_end ?lrun_end ?crun_end ?krun_end ?aread_token ?lread_token ?cread_token ?kread_token ?atokenize ?ltokenize ?ctokenize ?ktokenize ?mkParser ?kcParser ?aParserI ?iParserI ?lParserI ?cParserI ?kParserI ?aParser_peek ?iParser_peek ?lParser_peek ?cParser_peek ?kParser_peek ?aParser_take ?iParser_take ?lParser_take ?cParser_take ?kParser_take ?aParser_take_word ?iParser_take_word ?lParser_take_word ?cParser_take_word ?kParser_take_word ?aParser_take_all ?iParser_take_all ?lParser_take_all ?cParser_take_all ?kParser_take_all ?aParser_person ?iParser_person ?lParser_person ?cParser_person ?kParser_person ?aParser_parse_people ?iParser_parse_people ?lParser_parse_people ?cParser_parse_people ?kParser_parse_people ?s_MAX_PEOPLE ?aParser_parse_turns ?iParser_parse_turns ?lParser_parse_turns ?cParser_parse_turns ?kParser_parse_turns ?s_MAX_TURNS ?aParser_parse_weights ?iParser_parse_weights ?lParser_parse_weights ?cParser_parse_weights ?kParser_parse_weights ?s_MAX_WEIGHT ?aParser_parse_away ?iParser_parse_away ?lParser_parse_away ?cParser_parse_away ?kParser_parse_away ?s_MAX_AWAYS ?s_MODULI ?u_MODULI ?aParser_parse_makeup ?iParser_parse_makeup ?lParser_parse_makeup ?cParser_parse_makeup ?kParser_parse_makeup ?aParser_parse_rota ?iParser_parse_rota ?lParser_parse_rota ?cParser_parse_rota ?kParser_parse_rota ?aload ?lload ?cload ?kload ?aformat_parsed ?lformat_parsed ?cformat_parsed ?kformat_parsed ?ais_int_in ?lis_int_in ?cis_int_in ?kis_int_in ?aencode ?lencode ?cencode ?kencode ?xInvalidCode ?sEInvalidCode ?eCInvalidCode ?tCInvalidCode ?kCInvalidCode ?aInvalidCodeI ?tInvalidCodeI ?lInvalidCodeI ?cInvalidCodeI ?kInvalidCodeI ?noInvalidCodeplace ?mkReader ?kcReader ?aReaderI ?iReaderI ?lReaderI ?cReaderI ?kReaderI ?aReader_fail ?iReader_fail ?lReader_fail ?cReader_fail ?kReader_fail ?aReader_read_byte ?iReader_read_byte ?lReader_read_byte ?cReader_read_byte ?kReader_read_byte ?aReader_read_name ?iReader_read_name ?lReader_read_name ?cReader_read_name ?kReader_read_name ?aReader_read_turns ?iReader_read_turns ?lReader_read_turns ?cReader_read_turns ?kReader_read_turns ?aReader_read_aways ?iReader_read_aways ?lReader_read_aways ?cReader_read_aways ?kReader_read_aways ?aReader_read_makers ?iReader_read_makers ?lReader_read_makers ?cReader_read_makers ?kReader_read_makers ?adecode ?ldecode ?cdecode ?kdecode ?a_law_error_of ?l_law_error_of ?c_law_error_of ?k_law_error_of ?ktInvalidCode0 ?ktInvalidCode1 ?ktInvalidCode2 ?ktInvalidCode3 ?ktInvalidCode4 ?ktInvalidCode5 ?ktInvalidCode6 ?ktInvalidCode7 ?ktInvalidCode8 ?ktInvalidCode9 ?ktInvalidCode10 ?ktInvalidCode11 ?ktInvalidCode12 ?ktInvalidCode13 ?kvInvalidCode ?kxInvalidCode ?kiInvalidCode ?gEInvalidCode ?ggInvalidCode ?cEInvalidCode ?mEInvalidCode ?hEInvalidCode ?cgO ?tkO ?z_len ?z_range ?z_list ?z_tuple ?z_int ?z_str ?z_abs ?z_max ?z_sorted ?z_set ?z_any ?z_all ?z_enumerate ?z_isinstance ?z_bool ?z_sum ?z_zip ?z_min ?z_dict ?z_divmod ?z_ValueError ?ne_Token__Parser ?alaw ?llaw ?claw ?klaw ?vT ?pT ?chT ?nT ?tT
    (case aCRotaError => k_is)
    (case rdR => k_is)
    (case gaR => k_is)
    (case atR => k_is)
    (case aCInvalidTick => k_is)
    (case aCInvalidCount => k_is)
    (case aCUnknownPerson => k_is)
    (case aCTooLong => k_is)
    (case aCDifferentPeople => k_is)
    (case aCContradiction => k_is)
    (case aCNobodyHome => k_is)
    (case aCInvalidName => k_is)
    (case aCUnknownName => k_is)
    (case aCSyntaxFault => k_is)
    (case aCCheckFault => k_is)
    (case aCInvalidCode => k_is)
    (case aCInvalidOperation => k_is)
    (case aCInvalidSession => k_is)
    (case s_END_SIGN => k_is)
    (case s_SIGN => k_is)
    (case s_DIGITS => k_is)
    (case s_MAX_DIGITS => k_is)
    (case s_NUMBER => k_is)
    (case s_LETTERS => k_is)
    (case s_KEYWORDS => k_is)
    (case u_KEYWORDS => k_is)
    (case s_KEYWORD => k_is)
    (case s_MAX_LETTERS => k_is)
    (case s_NAME => k_is)
    (case s_END => k_is)
    (case s_SPACES => k_is)
    (case aCToken => k_is)
    (case pgToken => k_is)
    (case hdToken => k_is)
    (case poToken => k_is)
    (case saToken => k_is)
    (case nToken_kind => k_is)
    (case nToken_text => k_is)
    (case nToken_line => k_is)
    (case nToken_column => k_is)
    (case aCParser => k_is)
    (case pgParser => k_is)
    (case hdParser => k_is)
    (case poParser => k_is)
    (case saParser => k_is)
    (case nParser_tokens => k_is)
    (case nParser_at => k_is)
    (case nParser_faults => k_is)
    (case nParser_names => k_is)
    (case nParser_weights => k_is)
    (case nParser_makers => k_is)
    (case nParser_aways => k_is)
    (case aCReader => k_is)
    (case pgReader => k_is)
    (case hdReader => k_is)
    (case poReader => k_is)
    (case saReader => k_is)
    (case nReader_code => k_is)
    (case nReader_place => k_is)
    (case s_TAG => k_is)
    (case s_BYTE => k_is)
    (case a_law_below => k_is)
    (case l_law_below => k_is)
    (case c_law_below => k_is)
    (case k_law_below => k_is)
    (case a_law_random => k_is)
    (case l_law_random => k_is)
    (case c_law_random => k_is)
    (case k_law_random => k_is)
    (case a_law_shuffled => k_is)
    (case l_law_shuffled => k_is)
    (case c_law_shuffled => k_is)
    (case k_law_shuffled => k_is)
    (case a_law_rota => k_is)
    (case l_law_rota => k_is)
    (case c_law_rota => k_is)
    (case k_law_rota => k_is)
    (case a_law_text => k_is)
    (case l_law_text => k_is)
    (case c_law_text => k_is)
    (case k_law_text => k_is)
    (case mkToken => k_is)
    (case kcToken => k_is)
    (case aTokenI => k_is)
    (case iTokenI => k_is)
    (case lTokenI => k_is)
    (case cTokenI => k_is)
    (case kTokenI => k_is)
    (case arun_end => k_is)
    (case lrun_end => k_is)
    (case crun_end => k_is)
    (case krun_end => k_is)
    (case aread_token => k_is)
    (case lread_token => k_is)
    (case cread_token => k_is)
    (case kread_token => k_is)
    (case atokenize => k_is)
    (case ltokenize => k_is)
    (case ctokenize => k_is)
    (case ktokenize => k_is)
    (case mkParser => k_is)
    (case kcParser => k_is)
    (case aParserI => k_is)
    (case iParserI => k_is)
    (case lParserI => k_is)
    (case cParserI => k_is)
    (case kParserI => k_is)
    (case aParser_peek => k_is)
    (case iParser_peek => k_is)
    (case lParser_peek => k_is)
    (case cParser_peek => k_is)
    (case kParser_peek => k_is)
    (case aParser_take => k_is)
    (case iParser_take => k_is)
    (case lParser_take => k_is)
    (case cParser_take => k_is)
    (case kParser_take => k_is)
    (case aParser_take_word => k_is)
    (case iParser_take_word => k_is)
    (case lParser_take_word => k_is)
    (case cParser_take_word => k_is)
    (case kParser_take_word => k_is)
    (case aParser_take_all => k_is)
    (case iParser_take_all => k_is)
    (case lParser_take_all => k_is)
    (case cParser_take_all => k_is)
    (case kParser_take_all => k_is)
    (case aParser_person => k_is)
    (case iParser_person => k_is)
    (case lParser_person => k_is)
    (case cParser_person => k_is)
    (case kParser_person => k_is)
    (case aParser_parse_people => k_is)
    (case iParser_parse_people => k_is)
    (case lParser_parse_people => k_is)
    (case cParser_parse_people => k_is)
    (case kParser_parse_people => k_is)
    (case s_MAX_PEOPLE => k_is)
    (case aParser_parse_turns => k_is)
    (case iParser_parse_turns => k_is)
    (case lParser_parse_turns => k_is)
    (case cParser_parse_turns => k_is)
    (case kParser_parse_turns => k_is)
    (case s_MAX_TURNS => k_is)
    (case aParser_parse_weights => k_is)
    (case iParser_parse_weights => k_is)
    (case lParser_parse_weights => k_is)
    (case cParser_parse_weights => k_is)
    (case kParser_parse_weights => k_is)
    (case s_MAX_WEIGHT => k_is)
    (case aParser_parse_away => k_is)
    (case iParser_parse_away => k_is)
    (case lParser_parse_away => k_is)
    (case cParser_parse_away => k_is)
    (case kParser_parse_away => k_is)
    (case s_MAX_AWAYS => k_is)
    (case s_MODULI => k_is)
    (case u_MODULI => k_is)
    (case aParser_parse_makeup => k_is)
    (case iParser_parse_makeup => k_is)
    (case lParser_parse_makeup => k_is)
    (case cParser_parse_makeup => k_is)
    (case kParser_parse_makeup => k_is)
    (case aParser_parse_rota => k_is)
    (case iParser_parse_rota => k_is)
    (case lParser_parse_rota => k_is)
    (case cParser_parse_rota => k_is)
    (case kParser_parse_rota => k_is)
    (case aload => k_is)
    (case lload => k_is)
    (case cload => k_is)
    (case kload => k_is)
    (case aformat_parsed => k_is)
    (case lformat_parsed => k_is)
    (case cformat_parsed => k_is)
    (case kformat_parsed => k_is)
    (case ais_int_in => k_is)
    (case lis_int_in => k_is)
    (case cis_int_in => k_is)
    (case kis_int_in => k_is)
    (case aencode => k_is)
    (case lencode => k_is)
    (case cencode => k_is)
    (case kencode => k_is)
    (case xInvalidCode => k_is)
    (case sEInvalidCode => k_is)
    (case eCInvalidCode => k_is)
    (case tCInvalidCode => k_is)
    (case kCInvalidCode => k_is)
    (case aInvalidCodeI => k_is)
    (case tInvalidCodeI => k_is)
    (case lInvalidCodeI => k_is)
    (case cInvalidCodeI => k_is)
    (case kInvalidCodeI => k_is)
    (case noInvalidCodeplace => k_is)
    (case mkReader => k_is)
    (case kcReader => k_is)
    (case aReaderI => k_is)
    (case iReaderI => k_is)
    (case lReaderI => k_is)
    (case cReaderI => k_is)
    (case kReaderI => k_is)
    (case aReader_fail => k_is)
    (case iReader_fail => k_is)
    (case lReader_fail => k_is)
    (case cReader_fail => k_is)
    (case kReader_fail => k_is)
    (case aReader_read_byte => k_is)
    (case iReader_read_byte => k_is)
    (case lReader_read_byte => k_is)
    (case cReader_read_byte => k_is)
    (case kReader_read_byte => k_is)
    (case aReader_read_name => k_is)
    (case iReader_read_name => k_is)
    (case lReader_read_name => k_is)
    (case cReader_read_name => k_is)
    (case kReader_read_name => k_is)
    (case aReader_read_turns => k_is)
    (case iReader_read_turns => k_is)
    (case lReader_read_turns => k_is)
    (case cReader_read_turns => k_is)
    (case kReader_read_turns => k_is)
    (case aReader_read_aways => k_is)
    (case iReader_read_aways => k_is)
    (case lReader_read_aways => k_is)
    (case cReader_read_aways => k_is)
    (case kReader_read_aways => k_is)
    (case aReader_read_makers => k_is)
    (case iReader_read_makers => k_is)
    (case lReader_read_makers => k_is)
    (case cReader_read_makers => k_is)
    (case kReader_read_makers => k_is)
    (case adecode => k_is)
    (case ldecode => k_is)
    (case cdecode => k_is)
    (case kdecode => k_is)
    (case a_law_error_of => k_is)
    (case l_law_error_of => k_is)
    (case c_law_error_of => k_is)
    (case k_law_error_of => k_is)
    (case ktInvalidCode0 => kernel_rfl)
    (case ktInvalidCode1 => kernel_rfl)
    (case ktInvalidCode2 => kernel_rfl)
    (case ktInvalidCode3 => kernel_rfl)
    (case ktInvalidCode4 => kernel_rfl)
    (case ktInvalidCode5 => kernel_rfl)
    (case ktInvalidCode6 => kernel_rfl)
    (case ktInvalidCode7 => kernel_rfl)
    (case ktInvalidCode8 => kernel_rfl)
    (case ktInvalidCode9 => kernel_rfl)
    (case ktInvalidCode10 => kernel_rfl)
    (case ktInvalidCode11 => kernel_rfl)
    (case ktInvalidCode12 => kernel_rfl)
    (case ktInvalidCode13 => kernel_rfl)
    (case kvInvalidCode => kernel_rfl)
    (case kxInvalidCode => kernel_rfl)
    (case kiInvalidCode => k_is)
    (case gEInvalidCode => k_is)
    (case ggInvalidCode => k_is)
    (case cEInvalidCode => k_is)
    (case mEInvalidCode => k_is)
    (case hEInvalidCode => k_is)
    (case cgO => k_is)
    (case tkO => k_is)
    (case z_len => k_is)
    (case z_range => k_is)
    (case z_list => k_is)
    (case z_tuple => k_is)
    (case z_int => k_is)
    (case z_str => k_is)
    (case z_abs => k_is)
    (case z_max => k_is)
    (case z_sorted => k_is)
    (case z_set => k_is)
    (case z_any => k_is)
    (case z_all => k_is)
    (case z_enumerate => k_is)
    (case z_isinstance => k_is)
    (case z_bool => k_is)
    (case z_sum => k_is)
    (case z_zip => k_is)
    (case z_min => k_is)
    (case z_dict => k_is)
    (case z_divmod => k_is)
    (case z_ValueError => k_is)
    (case ne_Token__Parser => decide)
    (case alaw => k_is)
    (case llaw => k_is)
    (case claw => k_is)
    (case klaw => k_is)
    (case vT => k_is)
    (case pT => exact rfl)
    (case chT => kernel_rfl)
    (case nT => kernel_rfl)
    (case tT => exact PySem.W.km_tabs_of Y _ (by k_mem))
