import PyProof.Rows.All
import Wide.All
import OpenK.AllK
import Wide.FinOn
import HandS.Base
import HandS.Call
import HandS.List
import HandS.Comp
import HandS.Ends
import HandS.Dict
import HandS.Iter
import HandS.Text
import HandS.Words
import HandS.WordsList
import HandS.Codes
import HandS.TupMul
import HandS.TupAny
import HandS.TupSets
import HandS.SetFor
import HandS.Strs
import HandS.Deep
import HandS.Conv
import KE.DatumOrd
import PyProof.StrOps2
import PyProof.EqAt
import HandS.Small
import HandS.Walk
import HandS.Zip
import HandS.Star
import HandS.Replace
import HandS.IsInst
import HandS.Exc
import HandS.Hot
import HandS.ExcInit
import HandS.ExcOwn
import HandS.ExcField
import HandS.WordsExc
import HandS.Property
import HandS.ListItems
import KE.KDictZip
import HandS.TryOnly
import HandS.Lambda
import HandS.EndTab
import KE.KExcIs
import PyProof.Rows.MatchSeqLen
import HandS.WrittenGet
import HandS.ClsMeth
import HandS.ExcCtx
import HandS.SuiteRaise
import HandS.HotCalls
import PyProof.TupleIter
import KE.KDflt
import HandS.TupLe
import HandS.DictComp
import KE.KNestM
import KE.KLam
import PySem.Challenge.RW_breadrota_k21_book_errors
set_option Elab.async false
set_option linter.all false
set_option maxRecDepth 100000
set_option maxHeartbeats 3900000
local macro_rules | `(tactic| walk_at "sub") => `(tactic| repeat (first | exact List.Sublist.refl _ | exact List.nil_sublist _ | refine List.Sublist.cons₂ _ ?_ | refine List.Sublist.cons _ ?_))
/-! The common kit: what a call leaves of the heap (Wd), a callee's contract (Cal). -/
namespace Br
open PySem PySem.Spec PyProof.Rows L2

/-- from H0 to H: all outside M is kept, tuples are kept, the domain grows; l is known now: new objects and those of M -/
structure Wd (M : List Addr) (H0 H : Hp) (l : List (Addr × HO)) : Prop where
  base : ∀ b o, b ∉ M → H0 b = some o → H b = some o
  tups : ∀ b xs, H0 b = some (.tup xs) → H b = some (.tup xs)
  own : ∀ q ∈ l, H0 q.1 = none ∨ q.1 ∈ M
  at_ : ∀ q ∈ l, H q.1 = some q.2
  nd : (l.map Prod.fst).Nodup
  free : ∀ p, H p = none → H0 p = none

theorem Wd.refl (H : Hp) : Wd [] H H [] := ⟨fun _ _ _ h => h, fun _ _ h => h, fun _ h => (nomatch h), fun _ h => (nomatch h), List.nodup_nil, fun _ h => h⟩
theorem Wd.start1 {H : Hp} {d : Addr} {o : HO} (h : H d = some o) : Wd [d] H H [(d, o)] :=
  ⟨fun _ _ _ h => h, fun _ _ h => h, fun q hq => by rw [List.mem_singleton.mp hq]; exact .inr List.mem_cons_self, fun q hq => by rw [List.mem_singleton.mp hq]; exact h, by simp, fun _ h => h⟩
theorem Wd.mono {M M' : List Addr} {H0 H : Hp} {l : List (Addr × HO)} (w : Wd M H0 H l) (h : ∀ a ∈ M, a ∈ M') : Wd M' H0 H l :=
  ⟨fun b o hb e => w.base b o (fun z => hb (h b z)) e, w.tups, fun q hq => (w.own q hq).imp id (h _), w.at_, w.nd, w.free⟩
theorem Wd.get {M : List Addr} {H0 H : Hp} {l : List (Addr × HO)} (w : Wd M H0 H l) (i : Nat) {a : Addr} {o : HO} (h : l[i]? = some (a, o)) : H a = some o :=
  w.at_ (a, o) (List.mem_of_getElem? h)
theorem Wd.old {M : List Addr} {H0 H : Hp} {l : List (Addr × HO)} (w : Wd M H0 H l) {a : Addr} {o : HO} (h : H0 a = some o) (hm : a ∉ M) : H a = some o := w.base a o hm h
/-- a new object -/
theorem Wd.new {M : List Addr} {H0 H : Hp} {l : List (Addr × HO)} (w : Wd M H0 H l) {p : Addr} (o : HO) (hp : H p = none) : Wd M H0 (upd H p o) ((p, o) :: l) where
  base := fun b u hb e => by rw [upd_ne (ne_of_none (w.base b u hb e) hp)]; exact w.base b u hb e
  tups := fun b u e => by rw [upd_ne (ne_of_none (w.tups b u e) hp)]; exact w.tups b u e
  own := fun q hq => by
    rcases List.mem_cons.mp hq with rfl | hq
    · exact .inl (w.free _ hp)
    · exact w.own q hq
  at_ := fun q hq => by
    rcases List.mem_cons.mp hq with rfl | hq
    · exact upd_same
    · rw [upd_ne (ne_of_none (w.at_ q hq) hp)]; exact w.at_ q hq
  nd := by
    rw [List.map_cons, List.nodup_cons]
    refine ⟨fun hm => ?_, w.nd⟩
    obtain ⟨q, hq, e⟩ := List.mem_map.mp hm
    have := w.at_ q hq
    rw [e, hp] at this; cases this
  free := fun b e => w.free b (by
    by_cases hb : b = p
    · rw [hb]; exact hp
    · rw [upd_ne hb] at e; exact e)
theorem mem_set {α : Type} {l : List α} {i : Nat} {x y : α} (h : y ∈ l.set i x) : y = x ∨ y ∈ l := (List.mem_or_eq_of_mem_set h).symm
/-- an object of the ledger is changed -/
theorem Wd.put {M : List Addr} {H0 H : Hp} {l : List (Addr × HO)} (w : Wd M H0 H l) (i : Nat) {a : Addr} {o : HO} (o' : HO) (h : l[i]? = some (a, o)) (hn : ∀ xs, o ≠ .tup xs) : Wd M H0 (upd H a o') (l.set i (a, o')) where
  base := fun b u hb e => by
    have ha := List.mem_of_getElem? h
    have : b ≠ a := fun z => by
      subst z
      rcases w.own _ ha with q | q
      · rw [show H0 b = none from q] at e; cases e
      · exact hb q
    rw [upd_ne this]; exact w.base b u hb e
  tups := fun b u e => by
    have ha := w.at_ _ (List.mem_of_getElem? h)
    have : b ≠ a := fun z => by
      subst z
      have e2 := w.tups b u e
      rw [show H b = some o from ha] at e2
      exact hn u (Option.some.inj e2)
    rw [upd_ne this]; exact w.tups b u e
  own := fun q hq => by
    rcases mem_set hq with rfl | hq
    · exact w.own (a, o) (List.mem_of_getElem? h)
    · exact w.own q hq
  at_ := fun q hq => by
    obtain ⟨j, hj⟩ := List.mem_iff_getElem?.mp hq
    by_cases e : i = j
    · subst e
      have hi : i < l.length := (List.getElem?_eq_some_iff.mp h).1
      rw [List.getElem?_set_self hi] at hj
      cases hj
      exact upd_same
    · rw [List.getElem?_set_ne e] at hj
      have hq' := w.at_ q (List.mem_of_getElem? hj)
      have : q.1 ≠ a := fun z => by
        have h1 : (l.map Prod.fst)[i]? = some a := by rw [List.getElem?_map, h]; rfl
        have h2 : (l.map Prod.fst)[j]? = some a := by rw [List.getElem?_map, hj, ← z]; rfl
        exact e (nd_ix w.nd h1 h2)
      rw [upd_ne this]; exact hq'
  nd := by
    have e : (l.set i (a, o')).map Prod.fst = l.map Prod.fst := by
      rw [List.map_set]
      refine List.ext_getElem? fun j => ?_
      by_cases e : i = j
      · subst e
        have hi : i < l.length := (List.getElem?_eq_some_iff.mp h).1
        rw [List.getElem?_set_self (by rw [List.length_map]; exact hi), List.getElem?_map, h]; rfl
      · rw [List.getElem?_set_ne e]
    rw [e]; exact w.nd
  free := fun b e => w.free b (by
    by_cases hb : b = a
    · subst hb; rw [upd_same] at e; cases e
    · rw [upd_ne hb] at e; exact e)
/-- a callee that changed nothing old -/
theorem Wd.call0 {M : List Addr} {H0 H H' : Hp} {l l' : List (Addr × HO)} (w : Wd M H0 H l) (c : Wd [] H H' l') : Wd M H0 H' (l' ++ l) where
  base := fun b u hb e => c.base b u (by simp) (w.base b u hb e)
  tups := fun b u e => c.tups b u (w.tups b u e)
  own := fun q hq => by
    rcases List.mem_append.mp hq with hq | hq
    · rcases c.own q hq with z | z
      · exact .inl (w.free _ z)
      · cases z
    · exact w.own q hq
  at_ := fun q hq => by
    rcases List.mem_append.mp hq with hq | hq
    · exact c.at_ q hq
    · exact c.base _ _ (by simp) (w.at_ q hq)
  nd := by
    rw [List.map_append, List.nodup_append]
    refine ⟨c.nd, w.nd, fun a ha b hb e => ?_⟩
    obtain ⟨q, hq, e1⟩ := List.mem_map.mp ha
    obtain ⟨r, hr, e2⟩ := List.mem_map.mp hb
    have h1 := w.at_ r hr
    rcases c.own q hq with z | z
    · rw [e1, e, ← e2, h1] at z; cases z
    · cases z
  free := fun b e => w.free b (c.free b e)
/-- a callee that changed the ledger's first object alone -/
theorem Wd.call1 {M : List Addr} {H0 H H' : Hp} {l l' : List (Addr × HO)} {d : Addr} {o o' : HO} (w : Wd M H0 H ((d, o) :: l)) (ho : ∀ xs, o ≠ .tup xs) (c : Wd [d] H H' ((d, o') :: l')) : Wd M H0 H' ((d, o') :: (l' ++ l)) where
  base := fun b u hb e => by
    have hd : b ≠ d := fun z => by
      subst z
      rcases w.own _ List.mem_cons_self with q | q
      · rw [show H0 b = none from q] at e; cases e
      · exact hb q
    exact c.base b u (by simpa using hd) (w.base b u hb e)
  tups := fun b u e => c.tups b u (w.tups b u e)
  own := fun q hq => by
    rcases List.mem_cons.mp hq with rfl | hq
    · exact w.own (d, o) List.mem_cons_self
    · rcases List.mem_append.mp hq with hq | hq
      · rcases c.own q (List.mem_cons_of_mem _ hq) with z | z
        · exact .inl (w.free _ z)
        · have hn := c.nd
          rw [List.map_cons, List.nodup_cons] at hn
          have : q.1 = d := by simpa using z
          exact absurd (List.mem_map.mpr ⟨q, hq, this⟩) hn.1
      · exact w.own q (List.mem_cons_of_mem _ hq)
  at_ := fun q hq => by
    rcases List.mem_cons.mp hq with rfl | hq
    · exact c.at_ _ List.mem_cons_self
    · rcases List.mem_append.mp hq with hq | hq
      · exact c.at_ q (List.mem_cons_of_mem _ hq)
      · have hn := w.nd
        rw [List.map_cons, List.nodup_cons] at hn
        have hd : q.1 ≠ d := fun z => hn.1 (List.mem_map.mpr ⟨q, hq, z⟩)
        exact c.base _ _ (by simpa using hd) (w.at_ q (List.mem_cons_of_mem _ hq))
  nd := by
    have hn := w.nd
    have hn' := c.nd
    rw [List.map_cons, List.nodup_cons] at hn hn'
    rw [List.map_cons, List.map_append, List.nodup_cons, List.nodup_append]
    refine ⟨fun hm => ?_, hn'.2, hn.2, fun a ha b hb e => ?_⟩
    · rcases List.mem_append.mp hm with h | h
      · exact hn'.1 h
      · exact hn.1 h
    · obtain ⟨q, hq, e1⟩ := List.mem_map.mp ha
      obtain ⟨r, hr, e2⟩ := List.mem_map.mp hb
      have h1 := w.at_ r (List.mem_cons_of_mem _ hr)
      rcases c.own q (List.mem_cons_of_mem _ hq) with z | z
      · rw [e1, e, ← e2, h1] at z; cases z
      · have : q.1 = d := by simpa using z
        exact hn'.1 (List.mem_map.mpr ⟨q, hq, this⟩)
  free := fun b e => w.free b (c.free b e)
/-- forget -/
theorem Wd.sub {M : List Addr} {H0 H : Hp} {l l' : List (Addr × HO)} (w : Wd M H0 H l) (h : List.Sublist l' l) : Wd M H0 H l' :=
  ⟨w.base, w.tups, fun q hq => w.own q (h.subset hq), fun q hq => w.at_ q (h.subset hq), (h.map Prod.fst).nodup w.nd, w.free⟩
theorem Wd.perm {M : List Addr} {H0 H : Hp} {l l' : List (Addr × HO)} (w : Wd M H0 H l) (h : List.Perm l l') : Wd M H0 H l' :=
  ⟨w.base, w.tups, fun q hq => w.own q (h.mem_iff.mpr hq), fun q hq => w.at_ q (h.mem_iff.mpr hq), (h.map Prod.fst).nodup_iff.mp w.nd, w.free⟩
/-- a new object behind the first -/
theorem Wd.new1 {M : List Addr} {H0 H : Hp} {l : List (Addr × HO)} {e : Addr × HO} (w : Wd M H0 H (e :: l)) {p : Addr} (o : HO) (hp : H p = none) : Wd M H0 (upd H p o) (e :: (p, o) :: l) :=
  (w.new o hp).perm (.swap _ _ _)

/-- tuples are kept -/
def KT (H H' : Hp) : Prop := ∀ b xs, H b = some (.tup xs) → H' b = some (.tup xs)
theorem KT.refl (H : Hp) : KT H H := fun _ _ h => h
theorem KT.new {H H' : Hp} (k : KT H H') {p : Addr} {o : HO} (hp : H' p = none) : KT H (upd H' p o) := fun b xs e => by
  rw [upd_ne (ne_of_none (k b xs e) hp)]; exact k b xs e
theorem KT.call {M : List Addr} {H H' H'' : Hp} {l : List (Addr × HO)} (k : KT H H') (c : Wd M H' H'' l) : KT H H'' := fun b xs e => c.tups b xs (k b xs e)
theorem KT.put {H H' : Hp} (k : KT H H') {p : Addr} {o u : HO} (hp : H' p = some u) (hn : ∀ xs, u ≠ .tup xs) : KT H (upd H' p o) := fun b xs e => by
  rw [upd_ne (ne_of (k b xs e) hp (hn xs).symm)]; exact k b xs e
/-- a def of the module and its contract -/
structure Cal (P : Program) (w : World) (K : PySem.W.Frag) (mg : Str → Option Value) (base : Heap) (k : Nat) (x : Str) (ps : List Str) (sp : Sp) : Prop where
  ex : ∃ (f : Addr) (fd : FuncData), mg x = some (.ref f) ∧ PySem.W.keepIn K (.ref f) = true ∧ Binds K fd ps [] ∧ FnOk P w K mg base CX0 k f fd ps sp
/-- a def of the module as the top left it -/
structure DefAt (K : PySem.W.Frag) (mg : Str → Option Value) (x : Str) (st : Stmt) (ps : List Str) : Prop where
  ex : ∃ (f : Addr) (fd : FuncData), mg x = some (.ref f) ∧ Fun K x x st f fd ∧ Binds K fd ps []
theorem DefAt.cal {P : Program} {w : World} {K : PySem.W.Frag} {mg : Str → Option Value} {base : Heap} {k : Nat} {x : Str} {st : Stmt} {ps : List Str} {sp : Sp} (D : DefAt K mg x st ps)
    (h : ∀ f fd, Fun K x x st f fd → FnOk P w K mg base CX0 k f fd ps sp) : Cal P w K mg base k x ps sp := by
  obtain ⟨f, fd, m, F, b⟩ := D.ex
  exact ⟨f, fd, m, F.kp, b, h f fd F⟩
/-- the names of built-ins that the module leaves as they are -/
structure Bi (mg : Str → Option Value) : Prop where
  len : mg "len" = none
  range : mg "range" = none
  list : mg "list" = none
  tuple : mg "tuple" = none
  int : mg "int" = none
  str : mg "str" = none
  abs : mg "abs" = none
  max : mg "max" = none
  sorted : mg "sorted" = none
  set : mg "set" = none
  any : mg "any" = none
  all : mg "all" = none
  enumerate : mg "enumerate" = none
  isinstance : mg "isinstance" = none
  bool : mg "bool" = none
  sum : mg "sum" = none
  zip : mg "zip" = none
  min : mg "min" = none
  dict : mg "dict" = none
  divmod : mg "divmod" = none
  ValueError : mg "ValueError" = none
end Br

/-! Rules that the layer lacks. -/
namespace Br
open PySem PySem.Spec PyProof.Rows L2
section
variable {X : Cx}
/-! ### max of a tuple of ints -/
theorem maxOf_ge : ∀ (xs : List Int) (x : Int), (PySem.W.maxOf x xs ∈ x :: xs) ∧ ∀ y ∈ x :: xs, y ≤ PySem.W.maxOf x xs
  | [], x => by simp [PySem.W.maxOf]
  | z :: xs, x => by
    have e : PySem.W.maxOf x (z :: xs) = PySem.W.maxOf (if x < z then z else x) xs := by
      show List.foldl _ _ (z :: xs) = _
      rw [List.foldl_cons]
      show List.foldl _ (if decide (x < z) = true then z else x) xs = List.foldl _ (if x < z then z else x) xs
      simp only [decide_eq_true_eq]
    rw [e]
    obtain ⟨h1, h2⟩ := maxOf_ge xs (if x < z then z else x)
    have hw : x ≤ (if x < z then z else x) ∧ z ≤ (if x < z then z else x) ∧ ((if x < z then z else x) = z ∨ (if x < z then z else x) = x) := by
      by_cases c : x < z
      · rw [if_pos c]; omega
      · rw [if_neg c]; omega
    generalize (if x < z then z else x) = v at *
    have h3 := h2 _ List.mem_cons_self
    refine ⟨?_, fun y hy => ?_⟩
    · rcases List.mem_cons.mp h1 with h | h
      · rw [h]; rcases hw.2.2 with r | r <;> simp [r]
      · exact List.mem_cons_of_mem _ (List.mem_cons_of_mem _ h)
    · rcases List.mem_cons.mp hy with h | h
      · subst h; omega
      · rcases List.mem_cons.mp h with h | h
        · subst h; omega
        · exact h2 y (List.mem_cons_of_mem _ h)
theorem holds_of_ints {h : Heap} : ∀ {vs : List Value} {ns : List Int}, IntsAre vs ns → PySem.W.HoldAll h vs ns
  | _, _, .nil => PySem.W.HoldAll.nil
  | _, _, .cons n t hr => PySem.W.HoldAll.cons ⟨_, Reads.int n t⟩ (holds_of_ints hr)
def rMaxT (K : PySem.W.Frag) : List V → Hp → VK → Prop := fun vs H Q => ∃ (a : Addr) (ns : List Int), vs = [V.ref a] ∧ SqT K H a (ns.map V.int) ∧ 0 < ns.length ∧ ∀ m, m ∈ ns → (∀ y, y ∈ ns → y ≤ m) → Q (.int m) H
theorem cr_maxT (hc : X.calm = true) (hu : X.A.units + 64 < cLine) : CallR X (.builtin "max") (rMaxT X.K) := by
  intro pins s σ H vs us Q I r h
  obtain ⟨a, ns, rfl, hs, hne, q⟩ := h
  obtain ⟨its, rv, hl, _⟩ := I.tuple hs
  rw [Vals.ref1 r]
  have hi := rv.ints
  cases ns with
  | nil => simp at hne
  | cons x xs =>
    refine PySem.W.max_tuple_datum (α := Int) (x := x) (xs := xs) (I.ok.hd hc) hl (by simpa using holds_of_ints hi) (by show _ + 1 + 0 < _; omega) fun i v h' tk hv hh hk => ?_
    obtain ⟨as, rd⟩ := hh
    obtain ⟨m1, m2⟩ := maxOf_ge xs x
    generalize PySem.W.maxOf x xs = m at *
    have : ∃ t, v = Value.int m t := by cases rd; exact ⟨_, rfl⟩
    obtain ⟨t, rfl⟩ := this
    exact ⟨.int m, H, I.kept hk, ⟨t, rfl⟩, q m m1 m2⟩
/-! ### a match over texts -/
structure PCs (X : Cx) (cs : List MatchCase) (t : Str → TS) : Prop where
  run : ∀ (pins : List (Addr × Obj)) (s : Shared) (σ : L2.St) (H : Hp) (D : Ends) (z : Str) (tk : Tok) (first : Bool), Inv X pins σ H s → t z D σ H → wpAny (model X.prog X.w) X.A (matchCases cs X.env (.str z tk) first) (SP X pins D) X.xe s
def tMatch (te : TE) (tc : Str → TS) : TS := fun D σ H => te σ H fun x H1 => ∃ z, x = .str z ∧ tc z D σ H1
theorem ps_match {e : Expr} {te : TE} {cs : List MatchCase} {tc : Str → TS} {pos : Pos} (he : PE X e te) (hc : PCs X cs tc) : PS X (.Match e cs pos) (tMatch te tc) := by
  refine ⟨fun pins s σ H D I h => ?_⟩
  show wpAny _ _ (do standAt pos; let v ← eval e X.env; matchCases cs X.env v true) _ _ _
  refine wpAny_bind (wpAny_standAt (wpAny_bind (thn (he.run pins s σ H _ I h) fun v s1 ⟨x, H1, I1, r1, z, hz, q⟩ => ?_)))
  subst hz
  obtain ⟨tk, rfl⟩ := r1
  exact hc.run pins s1 σ H1 D z tk true I1 q
theorem pcs_nil : PCs X [] (fun _ D σ H => D.nx σ H) := ⟨fun pins s σ H D z tk first I h => wpAny_pure ⟨σ, H, I, h⟩⟩
theorem pcs_str {c : Str} {j cpos pos} {body : List Stmt} {rest : List MatchCase} {tb : TS} {tr : Str → TS} (hb : PSs X body tb) (hr : PCs X rest tr) :
    PCs X (⟨.MatchValue (.Constant (.str c) j cpos) pos, none, body⟩ :: rest) (fun z D σ H => if z = c then tb D σ H else tr z D σ H) := by
  refine ⟨fun pins s σ H D z tk first I h => ?_⟩
  unfold matchCases
  refine wpAny_bind (wpAny_holding ?_)
  unfold matchPattern
  refine wpAny_bind (Calls.Constant_str (wpAny_bind (wpAny_standAt (wpAny_bind (eq_str (wpAny_bind (wpAny_truthy_bool ?_)))))))
  have I1 := I.tok (s.toks + 1)
  by_cases e : z = c
  · rw [if_pos e] at h
    subst e
    rw [beq_self_eq_true]
    refine wpAny_pure ?_
    dsimp only
    refine wpAny_bind (wpAny_holding ?_)
    refine wpAny_pure (wpAny_bind (wpAny_pure ?_))
    exact hb.run pins _ σ H D I1 h
  · rw [if_neg e] at h
    rw [show (z == c) = false from beq_eq_false_iff_ne.mpr e]
    refine wpAny_pure ?_
    exact hr.run pins _ σ H D z tk false I1 h
theorem pcs_any {pos} {body : List Stmt} {tb : TS} (hb : PSs X body tb) : PCs X [⟨.MatchAs none none pos, none, body⟩] (fun _ D σ H => tb D σ H) := by
  refine ⟨fun pins s σ H D z tk first I h => ?_⟩
  unfold matchCases
  refine wpAny_bind (wpAny_holding ?_)
  unfold matchPattern
  refine wpAny_pure ?_
  dsimp only
  refine wpAny_bind (wpAny_holding ?_)
  refine wpAny_pure (wpAny_bind (wpAny_pure ?_))
  exact hb.run pins _ σ H D I h
/-! ### tuple * int, str * int -/
theorem tup_mul1 (l : Addr) (items : Array Value) (n : Nat) (dd : Option Addr) (sl : Array (Option Value)) (u : Tok) :
    Meets (Builtin.«tuple.__mul__» ⟨[.ref l, .int 1 u], []⟩) (fun _ R s => s.heap.get? l = some { cls := .type "tuple", dict := dd, data := .seq items n, slots := sl } ∧ R (.ok (.ret (Value.ref l))) s) :=
  .of_wp fun prog w A R s h => by
    obtain ⟨hp, g, d, tk, os⟩ := s
    obtain ⟨hl, h⟩ := h
    have f1 := AutoSeq1.idx_int
    have c1 : (items.isEmpty || (1 : Int) == 1) = true := by simp
    wp_walk using wpAny_loadPart' hl
    exact ⟨_, rfl, h⟩
def rRepA (K : PySem.W.Frag) : R2 := fun x y H Q => ∃ l k xs, x = .ref l ∧ y = .int k ∧ SqT K H l xs ∧ xs ≠ [] ∧ 1 ≤ k ∧ k ≤ 1000 ∧ xs.length ≤ 1000 ∧ (k = 1 → Q (.ref l) H) ∧ (2 ≤ k → ∀ p, H p = none → Q (.ref p) (upd H p (.tup (List.replicate k.toNat xs).flatten)))
theorem op_repA : OpR X (binaryOp .Mult) (rRepA X.K) := by
  intro pins s σ H x y v u Q I rx ry h
  obtain ⟨l, k, xs, rfl, rfl, hT, hne, h1, h2, hz, q1, q2⟩ := h
  by_cases hk : k = 1
  · subst hk
    cases rx
    obtain ⟨t, rfl⟩ := ry
    obtain ⟨its, r, ⟨⟨cls, dd, data, sl⟩, ho, hc, n, hd⟩, hs⟩ := I.tuple hT
    simp only at hc hd
    subst hc hd
    exact wpAny_binaryOp_repeat_ref (T := "tuple") (U := "int") (by decide) ⟨_, ho, rfl⟩ (fun s' => typeIs_int s' 1 t) noFill_tuple_mul F.fills_int_mul F.slot_int_rmul repeat_tuple F.slot_int_index.lookup
      (call_meets F.slot_int_rmul (typeIs_int s 1 t) F.entry_int_rmul (F.args_int_rmul_2 _ _) (int_rmul_tuple 1 t l its.toArray n dd sl)
        ⟨ho, rfl, ⟨_, ho, rfl⟩, call_meets F.slot_tuple_mul ⟨_, ho, rfl⟩ F.entry_tuple_mul (F.args_tuple_mul_2 _ _) (tup_mul1 l its.toArray n dd sl t) ⟨ho, ⟨.ref l, H, I, rfl, q1 rfl⟩⟩⟩)
  · exact op_repT pins s σ H (.ref l) (.int k) v u Q I rx ry ⟨l, k, xs, rfl, rfl, hT, hne, by omega, h2, hz, q2 (by omega)⟩
def repS (z : Str) (k : Nat) : Str := ⟨(List.replicate k z.cps).foldl (· ++ ·) #[]⟩
theorem foldl_rep (b : Array Nat) : ∀ (k : Nat) (a : Array Nat), (List.foldl (· ++ ·) a (List.replicate k b)).toList = a.toList ++ (List.replicate k b.toList).flatten
  | 0, a => by simp
  | k + 1, a => by
    rw [List.replicate_succ, List.foldl_cons, foldl_rep b k, List.replicate_succ, List.flatten_cons, Array.toList_append, List.append_assoc]
theorem repS_list (z : Str) (k : Nat) : (repS z k).cps.toList = (List.replicate k z.cps.toList).flatten := by
  have := foldl_rep z.cps k #[]
  simpa [repS] using this
theorem repS_length (z : Str) (k : Nat) : (repS z k).length = k * z.length := by
  have h := congrArg List.length (repS_list z k)
  rw [List.length_flatten, List.map_replicate, List.sum_replicate_nat] at h
  simpa [Str.length] using h
def rRepS : R2 := fun x y H Q => ∃ z k, x = .str z ∧ y = .int k ∧ 1 ≤ k ∧ k ≤ 1000 ∧ 0 < z.length ∧ z.length ≤ 1000 ∧ Q (.str (repS z k.toNat)) H
theorem op_repS : OpR X (binaryOp .Mult) rRepS := by
  intro pins s σ H x y v u Q I rx ry h
  obtain ⟨z, k, rfl, rfl, h1, h2, hz0, hz, q⟩ := h
  obtain ⟨t, rfl⟩ := rx
  obtain ⟨t', rfl⟩ := ry
  refine PySem.P.mul_str (by rw [decide_eq_false (by omega), decide_eq_false (by omega)]; rfl) (fun _ _ => ?_) (fun _ _ => ?_) ?_
  · have : (1000 : Int) ≤ (2 ^ 63 - 1) / k := by
      exact (Int.le_ediv_iff_mul_le (by omega)).mpr (by omega)
    omega
  · have h3 : z.length * k.toNat ≤ 1000 * 1000 := Nat.mul_le_mul hz (by omega)
    unfold PySem.Builtin.Str.tooLong
    exact decide_eq_false (by have := sizeLine_eq; omega)
  · rw [if_neg (by omega)]
    by_cases c : (k == 1 || z.length == 0) = true
    · rw [if_pos c]
      have hk : k = 1 := by
        rcases Bool.or_eq_true _ _ ▸ c with c | c
        · exact eq_of_beq c
        · have := eq_of_beq c; omega
      subst hk
      refine ⟨.str z, H, I, ⟨t, rfl⟩, ?_⟩
      have e : repS z (1 : Int).toNat = z := by
        show (⟨#[] ++ z.cps⟩ : Str) = z
        rw [Array.empty_append]
      rw [e] at q
      exact q
    · rw [if_neg c]
      refine ⟨?_, .str (repS z k.toNat), H, I.tok _, ⟨_, rfl⟩, q⟩
      have h3 : k.toNat * z.length ≤ 1000 * 1000 := Nat.mul_le_mul (by omega) hz
      have h4 := repS_length z k.toNat
      have := sizeLine_eq
      show (repS z k.toNat).length ≤ sizeLine
      omega
/-! ### the layer's rules with the written part named -/
abbrev rLenS (K : PySem.W.Frag) : List V → Hp → VK → Prop := fun xs H Q => ∃ p ys, xs = [.ref p] ∧ (SqL K H p ys ∨ SqT K H p ys) ∧ Q (.int ys.length) H
abbrev rListOf (K : PySem.W.Frag) : List V → Hp → VK → Prop := fun xs H Q => ∃ p ys, xs = [.ref p] ∧ (SqL K H p ys ∨ SqT K H p ys) ∧ ∀ l, H l = none → Q (.ref l) (upd H l (.lst ys))
abbrev rTupOf (K : PySem.W.Frag) : List V → Hp → VK → Prop := fun xs H Q => ∃ p ys, xs = [.ref p] ∧ ((SqL K H p ys ∧ ∀ l, H l = none → Q (.ref l) (upd H l (.tup ys))) ∨ (SqT K H p ys ∧ Q (.ref p) H))
abbrev rJoin (K : PySem.W.Frag) : V → List V → Hp → VK → Prop := fun x xs H Q => ∃ a p, ∃ ys : List Str, x = .str a ∧ xs = [.ref p] ∧ (SqL K H p (ys.map V.str) ∨ SqT K H p (ys.map V.str)) ∧ (ys.map (·.length)).sum + ys.length * a.length ≤ 16777216 ∧ Q (.str (Txt.join a ys)) H
variable {K : PySem.W.Frag}
theorem pe_fldK (hK : X.K = K) {e : Expr} {ta : TE} {f : Str} {pos : Pos} (he : PE X e ta) (hb : attributeBase e f X.env (eval e X.env) = eval e X.env) : PE X (.Attribute e f pos) (tFld K ta f) := by
  subst hK; exact pe_fld he hb
theorem pe_bmK (hK : X.K = K) {T id : String} {name : Str} {r : V → List V → Hp → VK → Prop} {o e : Expr} {es : List Expr} {to : TE} {t : TA} {apos cpos : Pos} (pa : PlainAttrs T) (slot : Slot T name id) (hty : typeOf (.builtin id) = pure (.type "method_descriptor")) (hm : MtR X id r) (ho : PE X o to) (ha : PA X (e :: es) t)
    (hbase : attributeBase o name X.env (eval o X.env) = eval o X.env := by rfl)
    (hfew : ((backTo cpos (starEach (e :: es) X.env)).all (fun x => !x.1) && (backToKw cpos (keywordEach [] X.env)).all (fun x => x.1.isSome) && decide ((e :: es).length + ([] : List Keyword).length + (if ([] : List Keyword).isEmpty then 0 else 1) < 30)) = true := by rfl)
    (hline : (apos.endLine == cpos.line) = true := by rfl) (hs : starEach (e :: es) X.env = (false, eval e X.env) :: starEach es X.env := by rfl) (hplain : (backTo cpos (starEach es X.env)).any (·.1) = false := by rfl) :
    PE X (.Call (.Attribute o name apos) (e :: es) [] cpos) (tBM K T r to t) := by
  subst hK; exact pe_bm pa slot hty hm ho ha hbase hfew hline hs hplain
theorem pe_joinK (hK : X.K = K) {o e : Expr} {to te : TE} {apos pos : Pos} (ho : PE X o to) (he : PE X e te) (hs : starEach [e] X.env = [(false, eval e X.env)] := by rfl) (hbase : attributeBase o "join" X.env (eval o X.env) = eval o X.env := by rfl) (hline : (apos.endLine == pos.line) = true := by rfl) :
    PE X (.Call (.Attribute o "join" apos) [e] [] pos) (tM1 (rJoin K) to te) := by
  subst hK; exact pe_join ho he hs hbase hline
theorem pi_listK (hK : X.K = K) {tg l : Expr} {tl : TE} (hl : PE X l tl) : PI X tg l (iList K tl) := by subst hK; exact pi_list hl
theorem pi_tupK (hK : X.K = K) {tg l : Expr} {tl : TE} (hl : PE X l tl) : PI X tg l (iTup K tl) := by subst hK; exact pi_tup hl
theorem pg_tupK (hK : X.K = K) {es : List Expr} {k : Nat} {t : TGs} {n : Nat} {pos : Pos} (hc : X.calm = true) (h : PGs X es t)
    (hn : (assignEach es X.env).length = n := by rfl) (hst : (assignEach es X.env).findIdx? (·.1) = none := by rfl) : PG X (.Tuple es k pos) (gTup K n t) := by
  subst hK; exact pg_tup hc h hn hst
end
end Br

namespace Br
open PySem PySem.Spec PyProof.Rows L2
def topS (i : Nat) : Stmt := PySem.Challenge.pw_breadrota_k21_book_errors.main.body.getD i (.Pass ⟨0, 0, 0, 0⟩)
/-- the source of numbers: the seed, the digits left of the present cell, the cells to come -/
def dl (a b : Int) (r : List Int) : HO := .lst (V.int a :: V.int b :: r.map V.int)
structure DOk (a b : Int) (r : List Int) : Prop where
  a0 : 0 ≤ a
  b0 : 0 ≤ b
  r0 : ∀ x ∈ r, 0 ≤ x
section
variable {P : Program} {w : World} {K : PySem.W.Frag} {mg : Str → Option Value} {base : Heap}
def spBelow : Sp := fun vs H Q _ => ∃ (d : Addr) (n a b : Int) (r : List Int), vs = [.ref d, .int n] ∧ 0 < n ∧ n < 1073741824 ∧ H d = some (dl a b r) ∧ DOk a b r ∧
  ∀ (k a' b' : Int) (r' : List Int) (H' : Hp), Wd [d] H H' [(d, dl a' b' r')] → DOk a' b' r' → 0 ≤ k → k < n → Q (.int k) H'
abbrev s_law_below : Stmt := topS 64
theorem sc_law_below : FnScope ["_law_d", "_law_limit", "_law_result"] ["_law_d", "_law_limit"] (defScope s_law_below) := ⟨rfl, rfl, rfl, by decide +kernel, rfl, by decide +kernel, by decide +kernel⟩
theorem put0 {H0 H : Hp} {d : Addr} {a b : Int} {r : List Int} (w : Wd [d] H0 H [(d, dl a b r)]) (a' b' : Int) (r' : List Int) : Wd [d] H0 (upd H d (dl a' b' r')) [(d, dl a' b' r')] :=
  w.put 0 (dl a' b' r') rfl (fun xs q => by cases q)
theorem cal_below (D : DefAt K mg "_law_below" s_law_below ["_law_d", "_law_limit"]) (T : Bi mg) : Cal P w K mg base 1 "_law_below" ["_law_d", "_law_limit"] spBelow := D.cal fun f fd F => by
  have nd := sc_law_below.nd
  refine F.ok sc_law_below (fun vs H Q E h => ?_) (fun cdv A outer s H vs Q E hr h => ?_)
  · obtain ⟨d, n, a, b, r, rfl, _⟩ := h; rfl
  obtain ⟨d, n, a, b, r, rfl, n0, n1, hd, ok, k⟩ := h
  refine ⟨_, (C8.pss_cut (ps_if (PW.pt (pw_and (pt_cmpR op_eq (pe_ix (r := rIxL K) ix_list (pv 0) pe_int (fun _ _ => rfl)) pe_int (nomark _)) (pw_and1 (pt_cmpR op_gt (pe_callB (r := rLenS K) call_len_seq (by rfl) T.len PySem.boot_len (pa_cons (pv 0) pa_nil)) pe_int (nomark _)))))
 (pss_one (ps_asg (pe_bmK (K := K) rfl PySem.F.plainAttrs_list PySem.F.slot_list_pop PySem.F.type_list_pop mt_popAt (pv 0) (pa_cons pe_int pa_nil)) (pg_sub (pv 0) pe_int set_list)))
 pss_nil)
 (pss_cons (ps_if (pt_cmpR op_gt (pe_ix (r := rIxL K) ix_list (pv 0) pe_int (fun _ _ => rfl)) pe_int (nomark _))
 (pss_cons (ps_set (i := 2) nd rfl (Or.inl rfl) (pe_op op_modN (pe_ix (r := rIxL K) ix_list (pv 0) pe_int (fun _ _ => rfl)) (pv 1)))
 (pss_cons (ps_asg (pe_op op_fdivN (pe_ix (r := rIxL K) ix_list (pv 0) pe_int (fun _ _ => rfl)) (pv 1)) (pg_sub (pv 0) pe_int set_list))
 (pss_one (ps_ret (pv 2)))))
 pss_nil)
 (pss_cons (ps_asg (pe_op op_mod (pe_op op_add (pe_op op_mul (pe_ix (r := rIxL K) ix_list (pv 0) pe_int (fun _ _ => rfl)) pe_int) pe_int) pe_int) (pg_sub (pv 0) pe_int set_list))
 (pss_one (ps_ret (pe_op op_modN (pe_op op_fdiv (pe_ix (r := rIxL K) ix_list (pv 0) pe_int (fun _ _ => rfl)) pe_int) (pv 1))))))), ?_⟩
  refine ⟨fun σ H1 => σ = [some (.ref d), some (.int n), none] ∧ ∃ a b r, Wd [d] H H1 [(d, dl a b r)] ∧ DOk a b r, ?_, ?_⟩
  · -- if _law_d[1] == 0 and len(_law_d) > 2: _law_d[1] = _law_d.pop(2)
    refine ⟨_, rfl, _, _, _, _, rfl, rfl, SqL.of hd, atI_nat (j := 1) rfl, rfl, _, rfl, ?_⟩
    refine ite2 (fun _ => ?_) (fun _ => ⟨rfl, a, b, r, Wd.start1 hd, ok⟩)
    refine ⟨_, rfl, d, _, rfl, .inl (SqL.of hd), _, _, rfl, rfl, _, rfl, ?_⟩
    refine ite2 (fun h2 => ?_) (fun _ => ⟨rfl, a, b, r, Wd.start1 hd, ok⟩)
    cases r with
    | nil => simp at h2
    | cons x r =>
      refine ⟨_, rfl, .inl ⟨rfl, _, SqL.of hd⟩, d, _, 2, 2, V.int x, rfl, rfl, hd, by decide, by decide, ?_, rfl, ?_⟩
      · simp [seqIndex?]; omega
      refine ⟨_, rfl, d, _, 1, 1, rfl, rfl, upd_same, ?_, ?_⟩
      · simp [ixN, seqIndex?]; omega
      rw [upd_upd]
      exact ⟨rfl, a, x, r, put0 (Wd.start1 hd) a x r, ⟨ok.a0, ok.r0 x List.mem_cons_self, fun y hy => ok.r0 y (List.mem_cons_of_mem _ hy)⟩⟩
  · rintro σ H1 ⟨rfl, a, b, r, w1, ok⟩
    have hd := w1.get 0 rfl
    -- if _law_d[1] > 0: ..
    refine ⟨_, rfl, _, _, _, _, rfl, rfl, SqL.of hd, atI_nat (j := 1) rfl, _, _, rfl, rfl, _, rfl, ?_⟩
    refine ite2 (fun hb => ?_) (fun hb => ?_)
    · have hb' : 0 < b := of_decide_eq_true hb
      refine ⟨_, rfl, _, _, _, _, rfl, rfl, SqL.of hd, atI_nat (j := 1) rfl, _, rfl, _, _, rfl, rfl, (by omega), ?_⟩
      refine ⟨_, rfl, _, _, _, _, rfl, rfl, SqL.of hd, atI_nat (j := 1) rfl, _, rfl, _, _, rfl, rfl, ⟨by omega, by omega⟩, ?_⟩
      refine ⟨_, rfl, d, _, 1, 1, rfl, rfl, hd, ?_, ?_⟩
      · simp [ixN, seqIndex?]; omega
      refine ⟨_, rfl, ?_⟩
      refine k _ _ _ _ _ (put0 w1 a (b.fdiv n) r) ⟨ok.a0, Int.fdiv_nonneg ok.b0 (by omega), ok.r0⟩ (Int.fmod_nonneg_of_pos _ n0) (Int.fmod_lt_of_pos _ n0)
    · refine ⟨_, rfl, _, _, _, _, rfl, rfl, SqL.of hd, atI_nat (j := 0) rfl, _, _, rfl, rfl, .inr ⟨by decide, by decide⟩, _, _, rfl, rfl, _, _, rfl, rfl, (by show (0 : Int) < 2147483647; decide), ?_⟩
      refine ⟨_, rfl, d, _, 0, 0, rfl, rfl, hd, ?_, ?_⟩
      · simp [ixN, seqIndex?]; omega
      have w2 := put0 w1 ((a * 48271 + 11) % 2147483647) b r
      have h0 : (0 : Int) ≤ (a * 48271 + 11) % 2147483647 := Int.emod_nonneg _ (by decide)
      refine ⟨_, rfl, _, _, _, _, rfl, rfl, SqL.of (w2.get 0 rfl), atI_nat (j := 0) rfl, _, _, rfl, rfl, ⟨by decide, by decide⟩, _, rfl, _, _, rfl, rfl, (by omega), ?_⟩
      exact k _ _ _ _ _ w2 ⟨h0, ok.b0, ok.r0⟩ (Int.fmod_nonneg_of_pos _ n0) (Int.fmod_lt_of_pos _ n0)
end
end Br

namespace Br
open PySem PySem.Spec PyProof.Rows L2
section
variable {P : Program} {w : World} {K : PySem.W.Frag} {mg : Str → Option Value} {base : Heap}
theorem int_of_map {ns : List Int} {i : Nat} {y : V} (h : (ns.map V.int)[i]? = some y) : ∃ z, ns[i]? = some z ∧ y = V.int z := by
  rw [List.getElem?_map] at h
  cases e : ns[i]? with
  | none => rw [e] at h; cases h
  | some z => rw [e] at h; exact ⟨z, rfl, (Option.some.inj h).symm⟩
/-- a list that is read stands still -/
theorem Wd.seq {M : List Addr} {H0 H : Hp} {l : List (Addr × HO)} (w : Wd M H0 H l) {a : Addr} {xs : List V} (h : SqL K H0 a xs) (hm : a ∉ M) : SqL K H a xs := by
  rcases h with (h | ⟨o, h⟩) | h
  · exact .inl (.inl (w.base _ _ hm h))
  · exact .inl (.inr ⟨o, w.base _ _ hm h⟩)
  · exact .inr h
def spRandom (K : PySem.W.Frag) : Sp := fun vs H Q _ => ∃ (a : Addr) (ns : List Int) (salt : Int), vs = [.ref a, .int salt] ∧ 0 ≤ salt ∧ SqL K H a (ns.map V.int) ∧ ns.length ≤ 63 ∧
  ∀ (d : Addr) (x y : Int) (r : List Int) (H' : Hp), Wd [] H H' [(d, dl x y r)] → DOk x y r → Q (.ref d) H'
abbrev s_law_random : Stmt := topS 63
theorem sc_law_random : FnScope ["_law_script", "_law_salt", "_law_seed", "_law_cell"] ["_law_script", "_law_salt"] (defScope s_law_random) := ⟨rfl, rfl, rfl, by decide +kernel, rfl, by decide +kernel, by decide +kernel⟩
theorem cal_random (D : DefAt K mg "_law_random" s_law_random ["_law_script", "_law_salt"]) (T : Bi mg) : Cal P w K mg base 1 "_law_random" ["_law_script", "_law_salt"] (spRandom K) := D.cal fun f fd F => by
  have nd := sc_law_random.nd
  refine F.ok sc_law_random (fun vs H Q E h => ?_) (fun cdv A outer s H vs Q E hr h => ?_)
  · obtain ⟨a, ns, salt, rfl, _⟩ := h; rfl
  obtain ⟨a, ns, salt, rfl, hsalt, hS, hl, k⟩ := h
  refine ⟨_, (pss_cons (ps_set (i := 2) nd rfl (Or.inl rfl) (pv 1))
 (pss_cons (ps_for PassesOwn.never rfl (pi_listK (K := K) rfl (pv 0)) (pg_name (i := 3) nd rfl (Or.inl rfl))
 (pss_one (ps_set (i := 2) nd rfl (Or.inl rfl) (pe_op op_mod (pe_op op_add (pe_op op_mul (pv 2) pe_int) (pe_callB call_abs (by rfl) T.abs (by decide +kernel) (pa_cons (pv 3) pa_nil))) pe_int))))
 (pss_one (ps_ret (pe_op op_cat (pe_lst (pa_cons (pv 2) (pa_cons pe_int pa_nil))) (pe_lc (own := [("_law_cell", 3)]) rfl nd (pi_listK (K := K) rfl (pv 0)) (blkOk_by (N := ["_law_script", "_law_salt", "_law_seed", "_law_cell"]) (sc := defScope s_law_random) (by decide +kernel)) (fun _ _ _ _ _ => (pg_name (i := 3) nd rfl (Or.inl rfl))) (fun _ _ _ _ _ => (pts_one (pt_cmpR op_ge (pv 3) (pe_op op_pow pe_int pe_int) (nomark _)))) (fun _ _ _ _ _ => (pv 3)))))))), ?_⟩
  refine ⟨_, rfl, _, rfl, a, rfl, ⟨_, hS⟩, for_list (K := K) (a := a) (xs := ns.map V.int) (fun i σ H' => H' = H ∧ ∃ s v, 0 ≤ s ∧ σ = [some (.ref a), some (.int salt), some (.int s), v])
    ⟨rfl, salt, none, hsalt, rfl⟩ (fun i σ H' _ ⟨e, _⟩ => e ▸ hS) ?_ ?_⟩
  · rintro i y σ H' hi ⟨rfl, s, v, hs, rfl⟩
    obtain ⟨z, _, rfl⟩ := int_of_map hi
    refine ⟨_, rfl, _, _, rfl, rfl, .inr ⟨by decide, by decide⟩, _, rfl, _, rfl, _, _, rfl, rfl, _, _, rfl, rfl, (by show (0 : Int) < 2147483647; decide), ?_⟩
    exact ⟨rfl, _, _, Int.emod_nonneg _ (by decide), rfl⟩
  · rintro σ H' ⟨rfl, s, v, hs, rfl⟩
    refine ⟨_, rfl, (by show 2 ≤ sizeLine; decide), fun p hp => ?_⟩
    have w1 := (Wd.refl H').new (.lst [V.int s, V.int 0]) hp
    refine ⟨_, rfl, a, rfl, ⟨_, w1.seq hS (by simp)⟩, fun D hD => ?_⟩
    have w2 := w1.new (.lst []) hD
    refine lc_list (K := K) (a := a) (xs := ns.map V.int) (fun i H2 => ∃ r : List Int, Wd [] H' H2 [(D, .lst (r.map V.int)), (p, .lst [V.int s, V.int 0])] ∧ (∀ x ∈ r, 0 ≤ x) ∧ r.length ≤ i)
      ⟨[], w2, by simp, by simp⟩ (fun i H2 _ ⟨r, w3, _⟩ => w3.seq hS (by simp)) ?_ ?_
    · rintro i y H2 hi ⟨r, w3, hr0, hrl⟩
      obtain ⟨z, hz, rfl⟩ := int_of_map hi
      have hi63 := (List.getElem?_eq_some_iff.mp hz).1
      refine ⟨rfl, _, rfl, _, _, rfl, rfl, ⟨by decide, by decide, by decide⟩, _, _, rfl, rfl, _, rfl, ?_⟩
      refine ite2 (fun hc => ?_) (fun _ => ⟨r, w3, hr0, by omega⟩)
      have hc' : (10 : Int) ^ (18 : Int).toNat ≤ z := of_decide_eq_true hc
      have z0 : 0 ≤ z := Int.le_trans (by decide) hc'
      refine ⟨_, rfl, _, w3.get 0 rfl, (by rw [List.length_map]; show r.length < sizeLine; exact Nat.lt_of_le_of_lt hrl (Nat.lt_of_lt_of_le hi63 (Nat.le_trans hl (by decide)))), r ++ [z], ?_, ?_, ?_⟩
      · have := w3.put 0 (.lst ((r ++ [z]).map V.int)) rfl (fun xs q => by cases q)
        rw [List.map_append] at this ⊢
        exact this
      · intro x hx
        rcases List.mem_append.mp hx with hx | hx
        · exact hr0 x hx
        · rw [List.mem_singleton.mp hx]; exact z0
      · simp; omega
    · rintro H2 ⟨r, w3, hr0, hrl⟩
      have hrl' : r.length ≤ 63 := by rw [List.length_map] at hrl; omega
      refine ⟨p, D, _, _, rfl, rfl, w3.get 1 rfl, w3.get 0 rfl, (by rw [List.length_map]; exact Nat.le_trans (Nat.add_le_add_left hrl' 2) (by decide)), fun q hq => ?_⟩
      refine k q s 0 r _ ?_ ⟨hs, by omega, hr0⟩
      exact (w3.new (dl s 0 r) hq).sub (by simp)
end
end Br

namespace Br
open PySem PySem.Spec PyProof.Rows L2
section
variable {P : Program} {w : World} {K : PySem.W.Frag} {mg : Str → Option Value} {base : Heap}
def listLen (H : Hp) : Option (Option V) → Nat
  | some (some (.ref p)) => match H p with
    | some (.lst l) => l.length
    | _ => 0
  | _ => 0
/-- an int or a text -/
def IS : V → Prop
  | .int _ => True
  | .str s => PySem.PyData.strOk s = true
  | _ => False
def spShuffled (K : PySem.W.Frag) : Sp := fun vs H Q _ => ∃ (d a : Addr) (x y : Int) (r : List Int) (xs : List V), vs = [.ref d, .ref a] ∧ (SqL K H a xs ∨ SqT K H a xs) ∧ H d = some (dl x y r) ∧ DOk x y r ∧ (∀ v ∈ xs, IS v) ∧ xs.length ≤ 1000 ∧
  ∀ (ys : List V) (p : Addr) (x' y' : Int) (r' : List Int) (H' : Hp), Wd [d] H H' [(d, dl x' y' r'), (p, .lst ys)] → DOk x' y' r' → ys.Perm xs → Q (.ref p) H'
def dataOf : V → PyData
  | .int i => .int i
  | .str s => .str s
  | _ => .none
theorem dp_all {H : Hp} : ∀ {xs : List V}, (∀ v ∈ xs, IS v) → DpAll K H xs (xs.map dataOf)
  | [], _ => .nil
  | v :: vs, h => by
    refine .cons ?_ (dp_all fun u hu => h u (List.mem_cons_of_mem _ hu))
    have := h v List.mem_cons_self
    cases v <;> first | exact .int _ | exact .str _ | exact False.elim this
theorem lay_all : ∀ {xs : List V}, (∀ v ∈ xs, IS v) → PyData.canLayAll0 (xs.map dataOf) = true
  | [], _ => rfl
  | v :: vs, h => by
    have h1 := h v List.mem_cons_self
    have h2 := lay_all (xs := vs) fun u hu => h u (List.mem_cons_of_mem _ hu)
    rw [List.map_cons, PyData.canLayAll0, h2, Bool.and_true]
    cases v <;> first | rfl | exact h1 | exact False.elim h1
theorem depth_all : ∀ {xs : List V}, PyData.depthAll (xs.map dataOf) = 0
  | [] => rfl
  | v :: vs => by
    rw [List.map_cons, PyData.depthAll, depth_all (xs := vs)]
    cases v <;> rfl
theorem shaped_list {xs : List V} (h : ∀ v ∈ xs, IS v) : SeqAt.shaped (.list (xs.map dataOf)) = true := by
  unfold SeqAt.shaped
  rw [PyData.canLay0, lay_all h, PyData.depth, depth_all]; rfl
theorem eqv_nil (ds : List PyData) : PyData.eqv (.list ds) (.list []) = ds.isEmpty := by
  rw [PyData.eqv]; cases ds <;> rfl
theorem erase_perm {α : Type} {l : List α} {i : Nat} {y : α} (h : l[i]? = some y) : (y :: l.eraseIdx i).Perm l := by
  induction l generalizing i with
  | nil => simp at h
  | cons a r ih =>
    cases i with
    | zero => simp at h; subst h; exact .refl _
    | succ i => exact (List.Perm.swap a y _).trans ((ih (by simpa using h)).cons a)
end
end Br

/-! x == [] for a list of any things. -/
namespace Br
open PySem PySem.Spec PyProof.Rows L2
section
variable {X : Cx}
def rEqN (K : PySem.W.Frag) : R2 := fun x y H Q => ∃ a b xs, x = .ref a ∧ y = .ref b ∧ SqL K H a xs ∧ SqL K H b [] ∧ Q (.bl xs.isEmpty) H
theorem op_eqNil (hu : X.A.units < cLine) : OpR X (compareOp .Eq) (rEqN X.K) := by
  intro pins s σ H x y v u Q I rx ry h
  obtain ⟨a, b, xs, rfl, rfl, ha, hb, q⟩ := h
  cases rx
  cases ry
  obtain ⟨its, r1, ⟨o1, n1, p1, c1, d1, e1⟩, z1⟩ := I.list ha
  obtain ⟨jts, r2, ⟨o2, n2, p2, c2, d2, e2⟩, z2⟩ := I.list hb
  cases r2
  have hl : s.heap.IsList a its.toArray := ⟨o1, p1, c1, n1, e1⟩
  have hb' : s.heap.IsList b (([] : List Value).toArray) := ⟨o2, p2, c2, n2, e2⟩
  cases r1 with
  | nil =>
    refine PySem.SeqAt.eq_listAt (e := fun _ => true) hl hb' rfl hu (fun j h1 => ?_) ⟨.bl true, H, I, rfl, q⟩
    simp at h1
  | cons h t =>
    refine PySem.SeqAt.eq_list_lengthsAt hl hb' (by simp) hu ⟨.bl false, H, I, rfl, q⟩
theorem op_eqNil2 (hu : X.A.units + 64 < cLine) : OpR X (compareOp .Eq) (rEqN X.K) := op_eqNil (by omega)
theorem set_dict2 (hu : X.A.units + 64 < cLine) : PSet X rSetD := set_dict (by omega)
abbrev rTIndex (K : PySem.W.Frag) : V → List V → Hp → VK → Prop := fun x xs H Q => ∃ p, ∃ ys : List Str, ∃ z j, x = .ref p ∧ xs = [.str z] ∧ SqT K H p (ys.map V.str) ∧ ys[j]? = some z ∧ (∀ m, m < j → ys[m]? ≠ some z) ∧ Q (.int (j : Nat)) H
end
end Br

/-! tuple(xs) told to be without a dict of its own; t.index(z) of such a tuple. -/
namespace Br
open PySem PySem.Spec PyProof.Rows L2
section
variable {X : Cx}
/-- tuple(a list): a new tuple, locked, of which it is known that it has no dict -/
abbrev rTupOfF (K : PySem.W.Frag) : List V → Hp → VK → Prop := fun xs H Q => ∃ p ys, xs = [.ref p] ∧ SqL K H p ys ∧ ∀ l o, o.dict = none → H l = none → Q (.ref l) (upd H l (.frz o (.tup ys)))
theorem call_tuple_ofF : CallR X (.type "tuple") (rTupOfF X.K) := by
  intro pins s σ H xs us Q I r h
  obtain ⟨p, ys, rfl, hq, q⟩ := h
  obtain ⟨u, rfl, rx⟩ := vals1 r
  cases rx
  obtain ⟨its, r', pl, hz⟩ := I.list hq
  have hlen := r'.length
  refine call_tuple_list pl.isList (fun h2 kp => ?_) (by simp only [List.size_toArray] <;> omega)
  have I1 : Inv X pins σ H { s with heap := h2 } := I.kept (t' := s.toks) kp
  have hpush := Heap.get?_push_size h2 (o := { cls := .type "tuple", data := .seq its.toArray }) rfl
  have I2 : Inv X pins σ (upd H h2.objs.size (.frz { cls := .type "tuple", data := .seq its.toArray } (.tup ys))) { s with heap := h2.push { cls := .type "tuple", data := .seq its.toArray } } :=
    I1.laid (t' := s.toks) (fun b o e => Heap.get?_push_of_some _ e) (Nat.le_refl _) (show ObjOk X.prog X.w _ _ _ (.frz _ (.tup ys)) from ⟨hpush, hz, its, r', IsTup.new _ _⟩)
  exact ⟨.ref h2.objs.size, _, I2, rfl, q _ _ rfl (I1.hok.fresh (Nat.le_refl _))⟩
/-- the receiver is such a tuple -/
def tBMF (r : V → List V → Hp → VK → Prop) (to : TE) (t : TA) : TE := fun σ H Q => to σ H fun x H1 => (∃ a o xs, x = .ref a ∧ o.dict = none ∧ H1 a = some (.frz o (.tup xs))) ∧ t σ H1 fun xs H2 => r x xs H2 Q
variable {o e : Expr} {es : List Expr} {to : TE} {t : TA} {name : Str} {apos cpos : Pos} {id : String} {r : V → List V → Hp → VK → Prop}
theorem pe_bmF (slot : Slot "tuple" name id) (hty : typeOf (.builtin id) = pure (.type "method_descriptor")) (hm : MtR X id r) (ho : PE X o to) (ha : PA X (e :: es) t)
    (hb : attributeBase o name X.env (eval o X.env) = eval o X.env := by rfl)
    (hf : ((backTo cpos (starEach (e :: es) X.env)).all (fun x => !x.1) && (backToKw cpos (keywordEach [] X.env)).all (fun x => x.1.isSome) && decide ((e :: es).length + ([] : List Keyword).length + (if ([] : List Keyword).isEmpty then 0 else 1) < 30)) = true := by rfl)
    (hn : (apos.endLine == cpos.line) = true := by rfl) (hs : starEach (e :: es) X.env = (false, eval e X.env) :: starEach es X.env := by rfl) (hp : (backTo cpos (starEach es X.env)).any (·.1) = false := by rfl) :
    PE X (.Call (.Attribute o name apos) (e :: es) [] cpos) (tBMF r to t) := by
  refine ⟨fun pins s σ H Q I h => ?_⟩
  refine wpAny_Call_method_late hb hf hn rfl (thn (ho.run pins s σ H _ I h) fun v s1 ⟨x, H1, I1, r1, ⟨a, ob, xs, ex, hd, hfz⟩, q1⟩ => ?_)
  subst ex
  cases r1
  obtain ⟨g1, _, its, _, ⟨o2, p2, c2, n2, d2⟩⟩ := I1.hok a _ hfz
  refine ⟨"tuple", id, PySem.F.plainAttrs_tuple, slot, hty, ⟨o2, p2, c2⟩, fun b eb => ?_, ?_⟩
  · cases eb; exact ⟨ob, g1, hd⟩
  · have hA := ha.run cpos pins s1 σ H1 _ I1 q1
    rw [hs] at hA ⊢
    refine Calls.callWith_builtin (by show (false || (backTo cpos (starEach es X.env)).any (·.1)) = false; rw [hp]; rfl) (Calls.evalArgs_plain ?_)
    exact thn hA fun us s2 ⟨vs, H2, I2, r2, q2⟩ => hm pins s2 σ H2 (.ref a) vs (.ref a) us Q I2 rfl r2 q2
end
end Br

/-! set(xs) of a list of ints; sorted of such a set is the layer's own. -/
namespace Br
open PySem PySem.Spec PyProof.Rows L2
section
variable {P : Program} {w : World} {A : Around} {E : Value → Shared → Prop} {s : Shared}
abbrev emp (w : World) : Obj := { cls := .type "set", dict := none, data := .set #[] 0 (.fresh 0 0 (!w.params.followText "set-order")) }
abbrev itO (l : Addr) : Obj := { cls := .type "list_iterator", data := .fields #[.ref l, .int 0 0] }
theorem call_set_ints {l : Addr} {vs : Array Value} (ns : List Int) {Q : Value → Shared → Prop} (calm : A.handled = none) (hl : s.heap.IsList l vs) (hv : IntsAre vs.toList ns) (room : ns.length + 1 < scanBound)
    (out : ∀ (h' : Heap) (tk c : Nat), SetR w h' s.heap.objs.size (fun j => decide (j ∈ ns)) c → c ≤ ns.length → (∀ b o, s.heap.get? b = some o → h'.get? b = some o) → Q (.ref s.heap.objs.size) { s with heap := h', toks := tk }) :
    wpAny (model P w) A (call (.type "set") [.ref l]) Q E s := by
  have size : vs.size = ns.length := by simpa using IntsAre.length hv
  have ⟨c, tl, mro1⟩ := F.called_set.mro
  have k1 := F.called_set.made; have k2 := F.called_set.sub
  apply wpAny_call; apply codeAny_of_tree
  change wpAny _ _ (callAny (.type "set") _) _ _ _
  apply wpAny_pure
  refine ⟨Code.quiet_builtin _ (by decide +kernel), codeAny_builtin F.entry_type_call ?_⟩
  rw [Around.under_plain (weight_type_call_type "set" [.ref l] []) rfl]
  have k3 := F.called_set.notType; have k4 := F.called_set.canCreate
  have k5 := F.typeCall_set_1 (.ref l)
  repeat (any_goals (first | assumption | wp_step))
  apply codeAny_mono (code_set_led1 (.ref l) (E := E) (Q₁ := fun v t => v = .ref s.heap.objs.size ∧ t = { s with heap := s.heap.push (emp w) }) ⟨rfl, rfl⟩)
  intro r t hr
  cases r with
  | error e => exact hr
  | ok fl =>
  cases fl with
  | ret v =>
    obtain ⟨rfl, rfl⟩ := hr
    have at1 : (s.heap.push (emp w)).get? s.heap.objs.size = some (emp w) := Heap.get?_push_size _ rfl
    have ty1 : Shared.TypeIs { s with heap := s.heap.push (emp w) } (.ref s.heap.objs.size) "set" := ⟨_, at1, rfl⟩
    have i1 := F.called_set.init.lookup; have i2 := F.called_set.init.bind (.ref s.heap.objs.size)
    repeat (any_goals (first | assumption | wp_step))
    refine codeAny_mono (codeAny_call_builtin (R := wants (fun r t => r = .none ∧ ∃ h' tk c, t = { s with heap := h', toks := tk } ∧ SetR w h' s.heap.objs.size (fun j => decide (j ∈ ns)) c ∧ c ≤ ns.length ∧ (∀ b o, s.heap.get? b = some o → h'.get? b = some o)) E)
      F.called_set.init.plain F.entry_set_init (check_set_init_1 ty1 ?_)) fun r2 t2 hr2 => ?_
    · obtain ⟨⟨q1, q2, q3, q4⟩, hob, hcl, m, hda⟩ := hl
      simp only at hcl hda
      subst hcl hda
      have hob2 : (s.heap.push (emp w)).get? l = some { cls := .type "list", dict := q2, data := .seq vs m, slots := q4 } := Heap.get?_push_of_some _ hob
      have u1 := F.sub_list_set; have u2 := F.sub_list_frozenset
      have u3 : (Value.type "list" == Value.type "dict") = false := by decide
      have li : (s.heap.push (emp w)).IsList l vs := ⟨_, hob2, rfl, m, rfl⟩
      unfold Builtin.«set.__init__» noKeywords Builtin.Frozenset.updateFrom
      generalize hPI : pyIter = PI
      wp_walk
      subst hPI
      apply wpAny_pyIter_list li
      apply wpAny_bind; apply wpAny_runValue
      have lt1 : l < s.heap.objs.size := Heap.lt_size hob
      have calm3 : A.in1.in1.in1.handled = none := by simp [calm]
      have ne1 : l ≠ (s.heap.push (emp w)).objs.size := by
        rw [Heap.size_push]; exact Nat.ne_of_lt (Nat.lt_succ_of_lt lt1)
      have no1 : s.heap.objs.size ∉ [(s.heap.push (emp w)).objs.size, l] := by
        rw [Heap.size_push]
        intro z
        rcases List.mem_cons.mp z with z | z
        · exact absurd z (Nat.ne_of_lt (Nat.lt_succ_self _))
        · exact absurd (List.mem_singleton.mp z) (Nat.ne_of_gt lt1)
      have items : ∀ (i : Nat) (v : Value), vs[i]? = some v → ∃ k t, ns[i]? = some k ∧ v = .int k t := fun i v h => by
        have hi : i < ns.length := by rw [← size]; exact (Array.getElem?_eq_some_iff.mp h).1
        obtain ⟨t, e⟩ := PyProof.Rows.IntsAre.int_at hv i v (by rw [Array.getElem?_toList]; exact h)
        refine ⟨ns[i], t, List.getElem?_eq_getElem hi, ?_⟩
        rw [e, List.getD_eq_getElem?_getD, List.getElem?_eq_getElem hi]; rfl
      refine set_update_ints ((Walks.list calm3 _ l ne1 vs).toS) s.heap.objs.size no1 ns size room items (vs.size - 0) 0 _ (by omega) (Nat.zero_le _)
        ⟨⟨_, Heap.get?_push_size _ rfl, rfl, rfl⟩, (li.push _)⟩ ?first ?last
      case first =>
        have : ((s.heap.push (emp w)).push (itO l)).get? s.heap.objs.size = some (emp w) := Heap.get?_push_of_some _ at1
        exact ⟨0, Nat.le_refl 0, setR_new_at this⟩
      case last =>
        rintro ⟨h', g2, d2, tk2, o2⟩ c2 mv hc2 R2
        have e1 : g2 = s.gens := mv.gens
        have e2 : d2 = s.drawn := mv.drawn
        have e3 : o2 = s.os := mv.os
        subst e1 e2 e3
        change wpAny _ _ _ _ _ _
        apply wpAny_pure
        change wpAny _ _ (ret Value.none) _ _ _
        rw [size] at hc2
        refine wpAny_pure ⟨rfl, h', tk2, c2, rfl, R2, hc2, fun b o e => ?_⟩
        have b0 : b < s.heap.objs.size := Heap.lt_size e
        refine mv.heap b o (fun z => ?_) (Heap.get?_push_of_some _ (Heap.get?_push_of_some _ e))
        rcases List.mem_cons.mp z with z | z
        · exact absurd z (Nat.ne_of_lt b0)
        · rw [List.mem_singleton.mp z, Heap.size_push] at b0
          exact absurd (Nat.lt_of_succ_lt b0) (Nat.lt_irrefl _)
    · cases r2 with
      | error e => exact hr2
      | ok f2 =>
        cases f2 with
        | ret v2 =>
          obtain ⟨rfl, h', tk, c2, rfl, R2, hc2, kp⟩ := hr2
          repeat (any_goals (first | assumption | wp_step))
          exact out _ _ _ R2 hc2 kp
        | _ => exact hr2.elim
  | _ => exact hr.elim
end
section
variable {X : Cx}
def rSetI (K : PySem.W.Frag) (w : World) : List V → Hp → VK → Prop := fun xs H Q => ∃ (l : Addr) (ns : List Int), xs = [V.ref l] ∧ SqL K H l (ns.map V.int) ∧ ns.length ≤ 1000 ∧
  ∀ (a : Addr) (c : Nat), H a = none → c ≤ ns.length → Q (.ref a) (upd H a (SetO w a (fun j => decide (j ∈ ns)) c))
theorem cr_setI (hc : X.calm = true) : CallR X (.type "set") (rSetI X.K X.w) := by
  intro pins s σ H xs us Q I r h
  obtain ⟨l, ns, rfl, hl, hn, q⟩ := h
  rw [Vals.ref1 r]
  obtain ⟨its, rv, pl, hz⟩ := I.list hl
  refine call_set_ints ns (I.ok.hd hc) pl.isList (by simpa using rv.ints) (by unfold scanBound; omega) fun h' tk c R hcn k => ?_
  have hf : H s.heap.objs.size = none := I.hok.fresh (Nat.le_refl _)
  exact ⟨.ref _, upd H s.heap.objs.size (SetO X.w s.heap.objs.size (fun j => decide (j ∈ ns)) c), I.laid (t' := tk) k (Nat.le_refl _) (setO_new R), rfl, q _ c hf hcn⟩
end
end Br

namespace Br
open PySem PySem.Spec PyProof.Rows L2
/-- a rota, as plain data -/
structure Rota where
  names : List Str
  turns : List Int
  weights : List Int
  aways : List (Int × Int × Int)
  makers : List Int
def tri (t : Int × Int × Int) : List V := [.int t.1, .int t.2.1, .int t.2.2]
/-- tuples of three ints -/
def AwAt (H : Hp) : List Addr → List (Int × Int × Int) → Prop := Paired fun a t => H a = some (.tup (tri t))
/-- the names: a tuple that is known to have no dict -/
def NmT (H : Hp) (a : Addr) (ns : List Str) : Prop := ∃ o : Obj, o.dict = none ∧ H a = some (.frz o (.tup (ns.map V.str)))
def Le (H H' : Hp) : Prop := ∀ b o, H b = some o → H' b = some o
theorem Wd.le {H H' : Hp} {l : List (Addr × HO)} (w : Wd [] H H' l) : Le H H' := fun b o e => w.base b o (by simp) e
theorem NmT.sq {K : PySem.W.Frag} {H : Hp} {a : Addr} {ns : List Str} (h : NmT H a ns) : SqT K H a (ns.map V.str) := by
  obtain ⟨o, _, e⟩ := h; exact .inl (.inr ⟨o, e⟩)
theorem NmT.le {H H' : Hp} (k : Le H H') {a : Addr} {ns : List Str} (h : NmT H a ns) : NmT H' a ns := by
  obtain ⟨o, d, e⟩ := h; exact ⟨o, d, k _ _ e⟩
def RotaAt (H : Hp) (a : Addr) (r : Rota) : Prop := ∃ (an at_ aw aa am : Addr) (as : List Addr), H a = some (.tup [.ref an, .ref at_, .ref aw, .ref aa, .ref am]) ∧ NmT H an r.names ∧
  H at_ = some (.tup (r.turns.map V.int)) ∧ H aw = some (.tup (r.weights.map V.int)) ∧ H aa = some (.tup (as.map V.ref)) ∧ AwAt H as r.aways ∧ H am = some (.tup (r.makers.map V.int))
def six : List Str := ["a", "b", "cc", "longname", "x", "zed"]
def lexLt (s t : Int × Int × Int) : Prop := s.1 < t.1 ∨ s.1 = t.1 ∧ (s.2.1 < t.2.1 ∨ s.2.1 = t.2.1 ∧ s.2.2 < t.2.2)
def AwOk (n : Int) (t : Int × Int × Int) : Prop := 0 ≤ t.1 ∧ t.1 < n ∧ 0 ≤ t.2.1 ∧ t.2.1 < t.2.2 ∧ t.2.2 ∈ ([2, 3, 4, 6, 8, 12] : List Int)
/-- a rota of the laws' make -/
structure ROk (r : Rota) : Prop where
  n1 : 1 ≤ r.names.length
  n6 : r.names.length ≤ 6
  nd : r.names.Nodup
  six : ∀ x ∈ r.names, x ∈ six
  t0 : ∀ t ∈ r.turns, 0 ≤ t ∧ t < r.names.length
  tall : ∀ k : Nat, k < r.names.length → (k : Int) ∈ r.turns
  t12 : r.turns.length ≤ 12
  wl : r.weights.length = r.names.length
  w0 : ∀ x ∈ r.weights, 1 ≤ x ∧ x ≤ 9
  asc : r.aways.Pairwise lexLt
  a6 : r.aways.length ≤ 6
  a0 : ∀ t ∈ r.aways, AwOk r.names.length t
  masc : r.makers.Pairwise (· < ·)
  m0 : ∀ k ∈ r.makers, 0 ≤ k ∧ k < r.names.length
theorem AwAt.keep {H H' : Hp} (k : ∀ b xs, H b = some (.tup xs) → H' b = some (.tup xs)) : ∀ {as : List Addr} {ts : List (Int × Int × Int)}, AwAt H as ts → AwAt H' as ts
  | _, _, .nil => .nil
  | _, _, .cons h t => .cons (k _ _ h) (AwAt.keep k t)
theorem RotaAt.le {H H' : Hp} (k : Le H H') {a : Addr} {r : Rota} (h : RotaAt H a r) : RotaAt H' a r := by
  obtain ⟨an, at_, aw, aa, am, as, h1, h2, h3, h4, h5, h6, h7⟩ := h
  exact ⟨an, at_, aw, aa, am, as, k _ _ h1, h2.le k, k _ _ h3, k _ _ h4, k _ _ h5, h6.keep fun b xs => k b _, k _ _ h7⟩
theorem AwAt.length {H : Hp} : ∀ {as : List Addr} {ts : List (Int × Int × Int)}, AwAt H as ts → as.length = ts.length
  | _, _, .nil => rfl
  | _, _, .cons _ t => by rw [List.length_cons, List.length_cons, AwAt.length t]
theorem AwAt.append {H : Hp} : ∀ {as bs : List Addr} {ts us : List (Int × Int × Int)}, AwAt H as ts → AwAt H bs us → AwAt H (as ++ bs) (ts ++ us)
  | _, _, _, _, .nil, h => h
  | _, _, _, _, .cons h t, h' => .cons h (AwAt.append t h')
theorem pick {ns : List Int} {i : Int} (h0 : 0 ≤ i) (h1 : i < ns.length) : ∃ m ∈ ns, atI (ns.map V.int) i = some (V.int m) := by
  obtain ⟨j, rfl⟩ : ∃ j : Nat, i = j := ⟨i.toNat, by omega⟩
  have hj : j < ns.length := by omega
  exact ⟨ns[j], List.getElem_mem hj, atI_nat (by rw [List.getElem?_map, List.getElem?_eq_getElem hj]; rfl)⟩
theorem cut_take (xs : List V) {k : Int} (h : 0 ≤ k) : cutV xs none (some k) = xs.take k.toNat := by
  obtain ⟨j, rfl⟩ : ∃ j : Nat, k = j := ⟨k.toNat, by omega⟩
  unfold cutV
  rw [HT.sIx_none, HT.sIx_nat, List.drop_zero, Nat.sub_zero, Int.toNat_natCast]
  by_cases c : j ≤ xs.length
  · rw [Nat.min_eq_left c]
  · rw [Nat.min_eq_right (by omega), List.take_of_length_le (Nat.le_refl _), List.take_of_length_le (by omega)]
theorem cut_drop (xs : List V) {k : Int} (h : 0 ≤ k) : cutV xs (some k) none = xs.drop k.toNat := by
  obtain ⟨j, rfl⟩ : ∃ j : Nat, k = j := ⟨k.toNat, by omega⟩
  unfold cutV
  rw [HT.sIx_none, HT.sIx_nat, Int.toNat_natCast]
  by_cases c : j ≤ xs.length
  · rw [Nat.min_eq_left c]
    exact List.take_of_length_le (by rw [List.length_drop]; omega)
  · rw [Nat.min_eq_right (by omega), List.drop_eq_nil_of_le (Nat.le_refl _), List.drop_eq_nil_of_le (by omega), List.take_nil]
theorem six_is : ∀ v ∈ six.map V.str, IS v := fun v hv => by
  obtain ⟨s, hs, rfl⟩ := List.mem_map.mp hv
  have : ∀ s ∈ six, PySem.PyData.strOk s = true := by decide +kernel
  exact this s hs
def dataT (t : Int × Int × Int) : PyData := .tuple [.int t.1, .int t.2.1, .int t.2.2]
theorem dp_aw {K : PySem.W.Frag} {H : Hp} : ∀ {as : List Addr} {ts : List (Int × Int × Int)}, AwAt H as ts → DpAll K H (as.map V.ref) (ts.map dataT)
  | _, _, .nil => .nil
  | _, _, .cons h t => .cons (.tup (SqT.of h) (.cons (.int _) (.cons (.int _) (.cons (.int _) .nil)))) (dp_aw t)
theorem shaped_t (t : Int × Int × Int) : SeqAt.shaped (dataT t) = true := rfl
theorem lay_ts : ∀ ts : List (Int × Int × Int), PyData.canLayAll0 (ts.map dataT) = true
  | [] => rfl
  | t :: ts => by rw [List.map_cons, PyData.canLayAll0, lay_ts ts, Bool.and_true]; rfl
theorem depth_ts : ∀ ts : List (Int × Int × Int), PyData.depthAll (ts.map dataT) ≤ 1
  | [] => Nat.zero_le _
  | t :: ts => by
    rw [List.map_cons, PyData.depthAll]
    have h1 : (dataT t).depth = 1 := rfl
    have := depth_ts ts
    omega
theorem shaped_ts (ts : List (Int × Int × Int)) : SeqAt.shaped (.list (ts.map dataT)) = true := by
  unfold SeqAt.shaped
  rw [PyData.canLay0, lay_ts, PyData.depth, Bool.true_and]
  exact decide_eq_true (by have := depth_ts ts; omega)
theorem eqv_t (s t : Int × Int × Int) : PyData.eqv (dataT s) (dataT t) = decide (s = t) := by
  obtain ⟨a, b, c⟩ := s
  obtain ⟨a', b', c'⟩ := t
  show PyData.eqv (.tuple [.int a, .int b, .int c]) (.tuple [.int a', .int b', .int c']) = _
  rw [PyData.eqv, PyData.eqvAll, PyData.eqvAll, PyData.eqvAll, PyData.eqvAll, PyData.eqv, PyData.eqv, PyData.eqv, Bool.and_true]
  rw [Bool.eq_iff_iff]
  simp
theorem any_t (ts : List (Int × Int × Int)) (t : Int × Int × Int) : ((ts.map dataT).any fun z => PyData.eqv z (dataT t)) = decide (t ∈ ts) := by
  induction ts with
  | nil => rfl
  | cons s ts ih =>
    rw [List.map_cons, List.any_cons, ih, eqv_t, Bool.eq_iff_iff, Bool.or_eq_true, decide_eq_true_eq, decide_eq_true_eq, decide_eq_true_eq, List.mem_cons]
    exact ⟨fun h => h.imp Eq.symm id, fun h => h.imp Eq.symm id⟩
theorem AwAt.zip {H : Hp} : ∀ {as : List Addr} {ts : List (Int × Int × Int)}, AwAt H as ts → ∃ L : List (Addr × Int × Int × Int), as = L.map (·.1) ∧ ts = L.map (·.2) ∧ ∀ q ∈ L, H q.1 = some (.tup (tri q.2))
  | _, _, .nil => ⟨[], rfl, rfl, by simp⟩
  | _, _, .cons (a := a) (b := b) h t => by
    obtain ⟨L, e1, e2, h2⟩ := AwAt.zip t
    refine ⟨(a, b) :: L, by rw [List.map_cons, ← e1], by rw [List.map_cons, ← e2], fun q hq => ?_⟩
    rcases List.mem_cons.mp hq with rfl | hq
    · exact h
    · exact h2 q hq
theorem AwAt.of {H : Hp} : ∀ {L : List (Addr × Int × Int × Int)}, (∀ q ∈ L, H q.1 = some (.tup (tri q.2))) → AwAt H (L.map (·.1)) (L.map (·.2))
  | [], _ => .nil
  | q :: L, h => .cons (h q List.mem_cons_self) (AwAt.of fun r hr => h r (List.mem_cons_of_mem _ hr))
theorem code3 (a b c : Int) : TS.code 13 [a, b, c] = a * 169 + b * 13 + c := by
  have e2 : (13 : Int) ^ 2 = 169 := by decide
  have e1 : (13 : Int) ^ 1 = 13 := by decide
  have e0 : (13 : Int) ^ 0 = 1 := by decide
  show a * 13 ^ 2 + (b * 13 ^ 1 + (c * 13 ^ 0 + 0)) = _
  rw [e2, e1, e0]; omega
theorem lex_of_code {n : Int} (hn : n ≤ 13) {s t : Int × Int × Int} (hs : AwOk n s) (ht : AwOk n t) (h : TS.code 13 [s.1, s.2.1, s.2.2] ≤ TS.code 13 [t.1, t.2.1, t.2.2]) (ne : s ≠ t) : lexLt s t := by
  rw [code3, code3] at h
  obtain ⟨a, b, c⟩ := s
  obtain ⟨a', b', c'⟩ := t
  obtain ⟨h1, h2, h3, h4, h5⟩ := hs
  obtain ⟨g1, g2, g3, g4, g5⟩ := ht
  simp only at *
  have h6 : c ≤ 12 := by simp at h5; omega
  have g6 : c' ≤ 12 := by simp at g5; omega
  have : ¬ (a = a' ∧ b = b' ∧ c = c') := fun ⟨x, y, z⟩ => ne (by rw [x, y, z])
  unfold lexLt
  simp only
  omega
theorem pairwise_both {α : Type} {R S : α → α → Prop} {l : List α} (h : l.Pairwise R) (n : l.Nodup) (f : ∀ a ∈ l, ∀ b ∈ l, R a b → a ≠ b → S a b) : l.Pairwise S := by
  have := List.pairwise_and_iff.mpr ⟨h, n⟩
  exact this.imp_of_mem fun ha hb ⟨r, ne⟩ => f _ ha _ hb r ne
theorem perm_of_map {α β : Type} (f : α → β) : ∀ {l : List α} {ys : List β}, ys.Perm (l.map f) → ∃ l' : List α, ys = l'.map f ∧ l'.Perm l
  | [], ys, h => ⟨[], by simpa using h, .refl _⟩
  | x :: r, ys, h => by
    have hm : f x ∈ ys := h.mem_iff.mpr (by simp)
    obtain ⟨a, b, rfl⟩ := List.append_of_mem hm
    have h2 : (a ++ b).Perm (r.map f) := List.Perm.cons_inv (List.perm_middle.symm.trans h)
    obtain ⟨l', e, hp⟩ := perm_of_map f h2
    refine ⟨l'.take a.length ++ x :: l'.drop a.length, ?_, ?_⟩
    · have e1 : (l'.take a.length).map f = a := by rw [List.map_take, ← e, List.take_left]
      have e2 : (l'.drop a.length).map f = b := by rw [List.map_drop, ← e, List.drop_left]
      rw [List.map_append, List.map_cons, e1, e2]
    · refine List.perm_middle.trans (List.Perm.cons x ?_)
      rw [List.take_append_drop]; exact hp
section
variable {P : Program} {w : World} {K : PySem.W.Frag} {mg : Str → Option Value} {base : Heap}
def spRota (K : PySem.W.Frag) : Sp := fun vs H Q _ => ∃ (d : Addr) (n x y : Int) (r : List Int), vs = [.ref d, .int n] ∧ 1 ≤ n ∧ n ≤ 6 ∧ H d = some (dl x y r) ∧ DOk x y r ∧
  ∀ (ro : Rota) (a : Addr) (x' y' : Int) (r' : List Int) (H' : Hp), Wd [d] H H' [(d, dl x' y' r')] → DOk x' y' r' → RotaAt H' a ro → ROk ro → ro.names.length ≤ n.toNat → Q (.ref a) H'
end
end Br

/-! Comprehensions whose element changes nothing: the list is (xs.filter p).map f. -/
namespace Br
open PySem PySem.Spec PyProof.Rows L2
section
variable {K : PySem.W.Frag} {a : Addr} {xs : List V} {g : TG} {tt : TT} {te : TE} {vs : List Nat} {σ : L2.St} {H1 H0 : Hp} {D : Addr} {Qd : Hp → Prop} {M : List Addr} {l : List (Addr × HO)}
theorem take_more {α : Type} {l : List α} {i : Nat} {x : α} (h : l[i]? = some x) : l.take (i + 1) = l.take i ++ [x] := by
  rw [List.take_add_one, h]; rfl
/-- what one turn gives -/
def LcEl (g : TG) (tt : TT) (te : TE) (vs : List Nat) (σ : L2.St) (p : V → Bool) (f : V → V) (x : V) (H : Hp) : Prop :=
  ∀ (R : V → Hp → Prop) (S : Hp → Prop), (p x = true → R (f x) H) → (p x = false → S H) → g x (wipe σ vs) H fun σ2 H2 => wipe σ2 vs = wipe σ vs ∧ tt σ2 H2 fun b H3 => if b = true then te σ2 H3 R else S H3
theorem lc_turn {p : V → Bool} {f : V → V} (w : ∀ H', (∃ c, Wd M H0 H' ((D, .lst c) :: l)) → ∀ (i : Nat) (x : V), xs[i]? = some x → LcEl g tt te vs σ p f x H') (hz : xs.length ≤ 1000) :
    ∀ (i : Nat) (x : V) (H : Hp), xs[i]? = some x → Wd M H0 H ((D, .lst (((xs.take i).filter p).map f)) :: l) → g x (wipe σ vs) H fun σ2 H2 => wipe σ2 vs = wipe σ vs ∧ tt σ2 H2 fun b H3 =>
      if b = true then te σ2 H3 fun y H4 => ∃ acc, H4 D = some (.lst acc) ∧ acc.length < sizeLine ∧ Wd M H0 (upd H4 D (.lst (acc ++ [y]))) ((D, .lst (((xs.take (i + 1)).filter p).map f)) :: l)
      else Wd M H0 H3 ((D, .lst (((xs.take (i + 1)).filter p).map f)) :: l) := fun i x H hx wd => by
  refine w H ⟨_, wd⟩ i x hx _ _ (fun hp => ?_) (fun hp => ?_)
  · refine ⟨_, wd.get 0 rfl, ?_, ?_⟩
    · rw [List.length_map]
      have h1 := List.length_filter_le p (xs.take i)
      rw [List.length_take] at h1
      exact Nat.lt_of_le_of_lt (m := 1000) (by omega) (by decide)
    · have := wd.put 0 (.lst (((xs.take i).filter p).map f ++ [f x])) rfl (fun xs q => by cases q)
      rw [take_more hx, List.filter_append, List.map_append]
      simp only [List.filter_cons, hp, if_true, List.filter_nil, List.map_cons, List.map_nil]
      exact this
  · rw [take_more hx, List.filter_append]
    simp only [List.filter_cons, hp, Bool.false_eq_true, if_false, List.filter_nil, List.append_nil]
    exact wd
theorem lc_tupF (p : V → Bool) (f : V → V) (w : Wd M H0 H1 l) (hD : H1 D = none) (hs : ∀ H' c, Wd M H0 H' ((D, c) :: l) → SqT K H' a xs) (hz : xs.length ≤ 1000)
    (he : ∀ H', (∃ c, Wd M H0 H' ((D, .lst c) :: l)) → ∀ (i : Nat) (x : V), xs[i]? = some x → LcEl g tt te vs σ p f x H')
    (hd : ∀ H', Wd M H0 H' ((D, .lst ((xs.filter p).map f)) :: l) → Qd H') :
    ∃ W : Nat → Nat → Hp → Prop, (∃ m, W 0 m (upd H1 D (.lst []))) ∧ ∀ i m H, W i m H → ((Itt K a).stop i H ∧ Qd H) ∨ ((Itt K a).go i H ∧ ∃ Nx : Hp → Prop, (∀ H', Nx H' → ∃ m', m' < m ∧ W (i + 1) m' H') ∧ ∀ x H', (Itt K a).yld i H x H' → g x (wipe σ vs) H' fun σ2 H2 => wipe σ2 vs = wipe σ vs ∧ tt σ2 H2 fun b H3 =>
        if b = true then te σ2 H3 fun y H4 => ∃ acc, H4 D = some (.lst acc) ∧ acc.length < sizeLine ∧ Nx (upd H4 D (.lst (acc ++ [y]))) else Nx H3) :=
  lc_tup (K := K) (a := a) (xs := xs) (fun i H => Wd M H0 H ((D, .lst (((xs.take i).filter p).map f)) :: l)) (w.new (.lst []) hD) (fun i H _ wd => hs H _ wd) (lc_turn he hz) (fun H wd => hd H (by rw [List.take_length] at wd; exact wd))
theorem lc_lstF (p : V → Bool) (f : V → V) (w : Wd M H0 H1 l) (hD : H1 D = none) (hs : ∀ H' c, Wd M H0 H' ((D, c) :: l) → SqL K H' a xs) (hz : xs.length ≤ 1000)
    (he : ∀ H', (∃ c, Wd M H0 H' ((D, .lst c) :: l)) → ∀ (i : Nat) (x : V), xs[i]? = some x → LcEl g tt te vs σ p f x H')
    (hd : ∀ H', Wd M H0 H' ((D, .lst ((xs.filter p).map f)) :: l) → Qd H') :
    ∃ W : Nat → Nat → Hp → Prop, (∃ m, W 0 m (upd H1 D (.lst []))) ∧ ∀ i m H, W i m H → ((Itl K a).stop i H ∧ Qd H) ∨ ((Itl K a).go i H ∧ ∃ Nx : Hp → Prop, (∀ H', Nx H' → ∃ m', m' < m ∧ W (i + 1) m' H') ∧ ∀ x H', (Itl K a).yld i H x H' → g x (wipe σ vs) H' fun σ2 H2 => wipe σ2 vs = wipe σ vs ∧ tt σ2 H2 fun b H3 =>
        if b = true then te σ2 H3 fun y H4 => ∃ acc, H4 D = some (.lst acc) ∧ acc.length < sizeLine ∧ Nx (upd H4 D (.lst (acc ++ [y]))) else Nx H3) :=
  lc_list (K := K) (a := a) (xs := xs) (fun i H => Wd M H0 H ((D, .lst (((xs.take i).filter p).map f)) :: l)) (w.new (.lst []) hD) (fun i H _ wd => hs H _ wd) (lc_turn he hz) (fun H wd => hd H (by rw [List.take_length] at wd; exact wd))
theorem filter_yes {α : Type} (l : List α) : l.filter (fun _ => true) = l := List.filter_eq_self.mpr fun _ _ => rfl
end
end Br

namespace Br
open PySem PySem.Spec PyProof.Rows L2
/-! ### the canonical text of a rota, as a function -/
def num (i : Int) : Str := (toString i : String)
def nm (r : Rota) (k : Int) : Str := r.names.getD k.toNat Str.empty
def awW (r : Rota) (t : Int × Int × Int) : List Str := ["away", nm r t.1, num t.2.1, "of", num t.2.2]
def heavy (r : Rota) : Bool := r.weights.any fun v => decide (1 < v)
def lines2 (r : Rota) : List (List Str) := ["people" :: r.names, "turns" :: r.turns.map (nm r)]
def linesW (r : Rota) : List (List Str) := if heavy r = true then ["weights" :: r.weights.map num] else []
def linesM (r : Rota) : List (List Str) := if r.makers.isEmpty = true then [] else ["makeup" :: r.makers.map (nm r)]
def lineWords (r : Rota) : List (List Str) := lines2 r ++ linesW r ++ r.aways.map (awW r) ++ linesM r
def lineS (ws : List Str) : Str := Txt.join " " ws ++ ";"
def textOf (r : Rota) : Str := Txt.join "\n" ((lineWords r).map lineS)
/-! ### sizes -/
theorem joinL_len (S : List Nat) : ∀ ps : List (List Nat), (TL.joinL S ps).length ≤ (ps.map fun p => p.length + S.length).sum
  | [] => Nat.zero_le _
  | [p] => by simp [TL.joinL]
  | p :: q :: r => by
    have := joinL_len S (q :: r)
    rw [TL.joinL, List.length_append, List.length_append, List.map_cons, List.sum_cons]
    omega
theorem sum_le {α : Type} (f : α → Nat) (b : Nat) : ∀ l : List α, (∀ x ∈ l, f x ≤ b) → (l.map f).sum ≤ l.length * b
  | [], _ => by simp
  | x :: l, h => by
    have h1 := h x List.mem_cons_self
    have h2 := sum_le f b l fun y hy => h y (List.mem_cons_of_mem _ hy)
    rw [List.map_cons, List.sum_cons, List.length_cons, Nat.succ_mul]
    omega
theorem join_len (y : Str) (ps : List Str) (b : Nat) (h : ∀ p ∈ ps, p.length ≤ b) : (Txt.join y ps).length ≤ ps.length * (b + y.length) := by
  rw [TL.join_eq, TL.len_tl, TL.tl_join]
  refine Nat.le_trans (joinL_len _ _) ?_
  rw [List.map_map]
  refine sum_le _ _ _ fun p hp => ?_
  have h1 := h p hp
  rw [TL.len_tl] at h1
  show (TL.tl p).length + (TL.tl y).length ≤ b + y.length
  rw [← TL.len_tl y]; omega
theorem app_len (x y : Str) : (x ++ y).length = x.length + y.length := by
  rw [TL.len_tl, TL.tl_append, List.length_append, ← TL.len_tl, ← TL.len_tl]
theorem num_len {n : Nat} (h : n < 10000) : (num n).length ≤ 4 := by
  unfold num
  rw [TL.len_tl]
  show (TL.tl (Str.ofString (toString ((n : Nat) : Int)))).length ≤ 4
  rw [TL.tl_num]
  exact TL.numL_len (by decide) (by simpa using h)
theorem num_len' {i : Int} (h0 : 0 ≤ i) (h : i < 10000) : (num i).length ≤ 4 := by
  obtain ⟨n, rfl⟩ : ∃ n : Nat, i = n := ⟨i.toNat, by omega⟩
  exact num_len (by omega)
theorem nm_mem {r : Rota} {k : Int} (h0 : 0 ≤ k) (h : k < r.names.length) : r.names[k.toNat]? = some (nm r k) := by
  unfold nm
  rw [List.getD_eq_getElem?_getD, List.getElem?_eq_getElem (by omega)]; rfl
theorem six_len : ∀ s ∈ six, s.length ≤ 8 := by decide +kernel
theorem nm_len {r : Rota} (ok : ROk r) {k : Int} (h0 : 0 ≤ k) (h : k < r.names.length) : (nm r k).length ≤ 8 :=
  six_len _ (ok.six _ (List.mem_of_getElem? (nm_mem h0 h)))
/-- ascending numbers below n are at most n -/
theorem asc_len : ∀ {n : Nat} {l : List Int}, l.Pairwise (· < ·) → (∀ k ∈ l, 0 ≤ k ∧ k < n) → l.length ≤ n := by
  intro n l hp h
  have key : ∀ (l : List Int) (lo : Int), l.Pairwise (· < ·) → (∀ k ∈ l, lo ≤ k ∧ k < n) → (l.length : Int) ≤ max 0 (n - lo) := by
    intro l
    induction l with
    | nil => intro lo _ _; simp; omega
    | cons a l ih =>
      intro lo hp h
      rw [List.pairwise_cons] at hp
      have h1 := h a List.mem_cons_self
      have := ih (a + 1) hp.2 fun k hk => ⟨by have := hp.1 k hk; omega, (h k (List.mem_cons_of_mem _ hk)).2⟩
      rw [List.length_cons]
      omega
  have := key l 0 hp h
  omega
theorem words_len {r : Rota} (ok : ROk r) : ∀ ws ∈ lineWords r, ws.length ≤ 13 ∧ ∀ x ∈ ws, x.length ≤ 8 := by
  intro ws hws
  simp only [lineWords, List.mem_append] at hws
  rcases hws with ((h | h) | h) | h
  · simp only [lines2, List.mem_cons, List.not_mem_nil, or_false] at h
    rcases h with rfl | rfl
    · refine ⟨by rw [List.length_cons]; have := ok.n6; omega, fun x hx => ?_⟩
      rcases List.mem_cons.mp hx with rfl | hx
      · decide
      · exact six_len _ (ok.six x hx)
    · refine ⟨by rw [List.length_cons, List.length_map]; have := ok.t12; omega, fun x hx => ?_⟩
      rcases List.mem_cons.mp hx with rfl | hx
      · decide
      · obtain ⟨t, ht, rfl⟩ := List.mem_map.mp hx
        exact nm_len ok (ok.t0 t ht).1 (ok.t0 t ht).2
  · unfold linesW at h
    split at h
    · rw [List.mem_singleton.mp h]
      refine ⟨by rw [List.length_cons, List.length_map, ok.wl]; have := ok.n6; omega, fun x hx => ?_⟩
      rcases List.mem_cons.mp hx with rfl | hx
      · decide
      · obtain ⟨v, hv, rfl⟩ := List.mem_map.mp hx
        have := ok.w0 v hv
        exact Nat.le_trans (num_len' (by omega) (by omega)) (by decide)
    · cases h
  · obtain ⟨t, ht, rfl⟩ := List.mem_map.mp h
    obtain ⟨h1, h2, h3, h4, h5⟩ := ok.a0 t ht
    have h6 : t.2.2 ≤ 12 := by simp at h5; omega
    refine ⟨by show 5 ≤ 13; decide, fun x hx => ?_⟩
    simp only [awW, List.mem_cons, List.not_mem_nil, or_false] at hx
    rcases hx with rfl | rfl | rfl | rfl | rfl
    · decide
    · exact nm_len ok h1 h2
    · exact Nat.le_trans (num_len' (by omega) (by omega)) (by decide)
    · decide
    · exact Nat.le_trans (num_len' (by omega) (by omega)) (by decide)
  · unfold linesM at h
    split at h
    · cases h
    · rw [List.mem_singleton.mp h]
      have hm : r.makers.length ≤ 6 := by
        have := asc_len ok.masc (n := r.names.length) ok.m0
        have := ok.n6
        omega
      refine ⟨by rw [List.length_cons, List.length_map]; omega, fun x hx => ?_⟩
      rcases List.mem_cons.mp hx with rfl | hx
      · decide
      · obtain ⟨k, hk, rfl⟩ := List.mem_map.mp hx
        exact nm_len ok (ok.m0 k hk).1 (ok.m0 k hk).2
theorem lineS_len {ws : List Str} (h1 : ws.length ≤ 13) (h2 : ∀ x ∈ ws, x.length ≤ 8) : (lineS ws).length ≤ 200 := by
  unfold lineS
  rw [app_len]
  have := join_len " " ws 8 h2
  have e1 : ((" " : Str)).length = 1 := by decide
  have e2 : ((";" : Str)).length = 1 := by decide
  rw [e1] at this
  rw [e2]
  omega
theorem lines_few {r : Rota} (ok : ROk r) : (lineWords r).length ≤ 10 := by
  unfold lineWords lines2 linesW linesM
  rw [List.length_append, List.length_append, List.length_append, List.length_map]
  have := ok.a6
  have h1 : (if heavy r = true then [("weights" : Str) :: r.weights.map num] else []).length ≤ 1 := by split <;> simp
  have h2 : (if r.makers.isEmpty = true then [] else [("makeup" : Str) :: r.makers.map (nm r)]).length ≤ 1 := by split <;> simp
  simp only [List.length_cons, List.length_nil]
  omega
/-- the lines' lists on the heap -/
def TL1 (L : List (Addr × List Str)) : List (Addr × HO) := L.map fun q => (q.1, HO.lst (q.2.map V.str))
def refs (L : List (Addr × List Str)) : List V := L.map fun q => V.ref q.1
theorem TL1_append (L M : List (Addr × List Str)) : TL1 (L ++ M) = TL1 L ++ TL1 M := List.map_append
theorem refs_append (L M : List (Addr × List Str)) : refs (L ++ M) = refs L ++ refs M := List.map_append
theorem refs_length (L : List (Addr × List Str)) : (refs L).length = L.length := List.length_map _
section
variable {P : Program} {w : World} {K : PySem.W.Frag} {mg : Str → Option Value} {base : Heap}
theorem AwAt.at {H : Hp} : ∀ {as : List Addr} {ts : List (Int × Int × Int)} {i : Nat} {a : Addr}, AwAt H as ts → as[i]? = some a → ∃ t, ts[i]? = some t ∧ H a = some (.tup (tri t))
  | _, _, i, a, .nil, h => by simp at h
  | _, _, 0, a, .cons h _, e => by simp at e; subst e; exact ⟨_, rfl, h⟩
  | _, _, i + 1, a, .cons _ t, e => by simpa using AwAt.at t (i := i) (by simpa using e)
theorem shaped_tup {xs : List V} (h : ∀ v ∈ xs, IS v) : SeqAt.shaped (.tuple (xs.map dataOf)) = true := by
  unfold SeqAt.shaped
  rw [PyData.canLay0, lay_all h, PyData.depth, depth_all]; rfl
theorem eqv_nilT (ds : List PyData) : PyData.eqv (.tuple ds) (.tuple []) = ds.isEmpty := by
  rw [PyData.eqv]; cases ds <;> rfl
/-- a new line is appended -/
theorem lines_push {M : List Addr} {H0 H : Hp} {ll p : Addr} {L : List (Addr × List Str)} {ws : List Str} {X : List (Addr × HO)} (w : Wd M H0 H ((p, .lst (ws.map V.str)) :: (ll, .lst (refs L)) :: (TL1 L ++ X))) :
    Wd M H0 (upd H ll (.lst (refs L ++ [V.ref p]))) ((ll, .lst (refs (L ++ [(p, ws)]))) :: (TL1 (L ++ [(p, ws)]) ++ X)) := by
  have w1 := w.put 1 (.lst (refs L ++ [V.ref p])) rfl (fun xs q => by cases q)
  rw [refs_append, TL1_append]
  refine w1.perm ?_
  show List.Perm ((p, HO.lst (ws.map V.str)) :: (ll, HO.lst (refs L ++ [V.ref p])) :: (TL1 L ++ X)) ((ll, HO.lst (refs L ++ [V.ref p])) :: ((TL1 L ++ [(p, HO.lst (ws.map V.str))]) ++ X))
  refine (List.Perm.swap _ _ _).trans (List.Perm.cons _ ?_)
  rw [List.append_assoc]
  exact List.perm_middle.symm
def spText : Sp := fun vs H Q _ => ∃ (a : Addr) (r : Rota), vs = [.ref a] ∧ RotaAt H a r ∧ ROk r ∧ ∀ H' : Hp, Wd [] H H' [] → Q (.str (textOf r)) H'
end
end Br

/-! Plain: who is at home, a tick, the book's operations. -/
namespace Br
open PySem PySem.Spec PyProof.Rows L2
/-! ### a tick, as functions -/
def isHome (r : Rota) (t p : Int) : Bool := ((r.aways.filter fun a => decide (a.1 = p)).map fun a => !decide (t.fmod a.2.2 = a.2.1)).all id
def persons (r : Rota) : List Int := (List.range r.names.length).map fun i : Nat => (i : Int)
def homes (r : Rota) (t : Int) : List Int := (persons r).filter (isHome r t)
def owes (o : List Int) (p : Int) : Int := o.getD p.toNat 0
def chg (o : List Int) (p a : Int) : List Int := o.set p.toNat (if owes o p + a < 9 then owes o p + a else 9)
def turnAt (r : Rota) (s : Nat) : Int := r.turns.getD s 0
def passT (r : Rota) (s : Nat) (o : List Int) : List Int := if turnAt r s ∈ r.makers then chg o (turnAt r s) 1 else o
def nextS (r : Rota) (s : Nat) : Nat := (s + 1) % r.turns.length
def spin (r : Rota) (hs : List Int) : Nat → Nat → List Int → Nat × List Int
  | 0, s, o => (s, o)
  | k + 1, s, o => if turnAt r s ∈ hs then (s, o) else spin r hs k (nextS r s) (passT r s o)
def maxL : List Int → Int
  | [] => 0
  | [x] => x
  | x :: y :: l => max x (maxL (y :: l))
def debtor (hs : List Int) (o : List Int) : Option Int := hs.find? fun p => decide (owes o p = maxL (hs.map (owes o)))
def tickF (r : Rota) (s : Nat) (o : List Int) (t : Int) : Nat × List Int × Option Int :=
  let hs := homes r t
  if hs = [] then (s, o, none)
  else if 0 < maxL (hs.map (owes o)) then
    match debtor hs o with
    | some p => (s, chg o p (-1), some p)
    | none => (s, o, none)
  else
    let q := spin r hs r.turns.length s o
    (nextS r q.1, q.2, some (turnAt r q.1))
structure OwOk (r : Rota) (o : List Int) : Prop where
  len : o.length = r.names.length
  rng : ∀ v ∈ o, 0 ≤ v ∧ v ≤ 9
section
variable {r : Rota} {o : List Int} {s : Nat} {hs : List Int} {t p : Int}
theorem mem_persons : p ∈ persons r ↔ 0 ≤ p ∧ p < r.names.length := by
  unfold persons
  rw [List.mem_map]
  constructor
  · rintro ⟨i, hi, rfl⟩; have := List.mem_range.mp hi; omega
  · rintro ⟨h1, h2⟩; exact ⟨p.toNat, List.mem_range.mpr (by omega), by omega⟩
theorem homes_in (h : p ∈ homes r t) : 0 ≤ p ∧ p < r.names.length := mem_persons.mp (List.mem_filter.mp h).1
theorem owes_at (h0 : 0 ≤ p) (h : p.toNat < o.length) : o[p.toNat]? = some (owes o p) := by
  unfold owes; rw [List.getD_eq_getElem?_getD, List.getElem?_eq_getElem h]; rfl
theorem OwOk.at_ (k : OwOk r o) (h0 : 0 ≤ p) (h : p < r.names.length) : 0 ≤ owes o p ∧ owes o p ≤ 9 :=
  k.rng _ (List.mem_of_getElem? (owes_at h0 (by have := k.len; omega)))
theorem OwOk.chg (k : OwOk r o) {a : Int} (ha : 0 ≤ owes o p + a) : OwOk r (chg o p a) := by
  refine ⟨by unfold Br.chg; rw [List.length_set]; exact k.len, fun v hv => ?_⟩
  unfold Br.chg at hv
  rcases List.mem_or_eq_of_mem_set hv with h | h
  · exact k.rng v h
  · subst h; split <;> omega
theorem maxL_mem : ∀ {l : List Int}, l ≠ [] → maxL l ∈ l ∧ ∀ y ∈ l, y ≤ maxL l
  | [], h => absurd rfl h
  | [x], _ => ⟨by simp [maxL], by simp [maxL]⟩
  | x :: y :: l, _ => by
    obtain ⟨h1, h2⟩ := maxL_mem (l := y :: l) (by simp)
    have e : maxL (x :: y :: l) = max x (maxL (y :: l)) := rfl
    rw [e]
    refine ⟨?_, fun z hz => ?_⟩
    · by_cases c : x ≤ maxL (y :: l)
      · rw [Int.max_eq_right c]; exact List.mem_cons_of_mem _ h1
      · rw [Int.max_eq_left (by omega)]; exact List.mem_cons_self
    · rcases List.mem_cons.mp hz with rfl | hz
      · omega
      · have := h2 z hz; omega
theorem debtor_some (h : hs ≠ []) : ∃ p, debtor hs o = some p ∧ p ∈ hs ∧ owes o p = maxL (hs.map (owes o)) := by
  have hm := (maxL_mem (l := hs.map (owes o)) (by simpa using h)).1
  obtain ⟨p, hp, e⟩ := List.mem_map.mp hm
  cases hd : debtor hs o with
  | none =>
    have := List.find?_eq_none.mp hd p hp
    simp [e] at this
  | some q => exact ⟨q, rfl, List.mem_of_find?_eq_some hd, by simpa using List.find?_some hd⟩
theorem nextS_lt (h : 0 < r.turns.length) : nextS r s < r.turns.length := Nat.mod_lt _ h
theorem turnAt_at (h : s < r.turns.length) : r.turns[s]? = some (turnAt r s) := by
  unfold turnAt; rw [List.getD_eq_getElem?_getD, List.getElem?_eq_getElem h]; rfl
theorem turnAt_in (ok : ROk r) (h : s < r.turns.length) : 0 ≤ turnAt r s ∧ turnAt r s < r.names.length := ok.t0 _ (List.mem_of_getElem? (turnAt_at h))
theorem OwOk.pass (k : OwOk r o) (ok : ROk r) (h : s < r.turns.length) : OwOk r (passT r s o) := by
  unfold passT
  split
  · have h1 := turnAt_in ok h
    exact k.chg (by have := (k.at_ h1.1 h1.2).1; omega)
  · exact k
theorem turns_pos (ok : ROk r) : 0 < r.turns.length := by
  have := ok.tall 0 (by have := ok.n1; omega)
  exact List.length_pos_of_mem this
/-- so many steps ahead somebody at home has the turn -/
def Near (r : Rota) (hs : List Int) (k s : Nat) : Prop := ∃ j, j < k ∧ turnAt r ((s + j) % r.turns.length) ∈ hs
theorem near_start (ok : ROk r) (hne : hs ≠ []) (hin : ∀ p ∈ hs, 0 ≤ p ∧ p < r.names.length) (h : s < r.turns.length) : Near r hs r.turns.length s := by
  obtain ⟨p, hp⟩ := List.exists_mem_of_ne_nil hs hne
  have h1 := hin p hp
  have h2 := ok.tall p.toNat (by omega)
  rw [show ((p.toNat : Nat) : Int) = p by omega] at h2
  obtain ⟨i, hi, e⟩ := List.getElem_of_mem h2
  refine ⟨(i + (r.turns.length - s)) % r.turns.length, Nat.mod_lt _ (by omega), ?_⟩
  have e2 : (s + (i + (r.turns.length - s)) % r.turns.length) % r.turns.length = i := by
    rw [Nat.add_mod, Nat.mod_mod, ← Nat.add_mod, show s + (i + (r.turns.length - s)) = i + r.turns.length by omega, Nat.add_mod_right, Nat.mod_eq_of_lt hi]
  rw [e2]
  have := turnAt_at hi
  rw [List.getElem?_eq_getElem hi, e] at this
  rw [← Option.some.inj this]; exact hp
theorem near_step {k : Nat} (h : s < r.turns.length) (n : Near r hs (k + 1) s) (hn : turnAt r s ∉ hs) : Near r hs k (nextS r s) := by
  obtain ⟨j, hj, e⟩ := n
  cases j with
  | zero => rw [Nat.add_zero, Nat.mod_eq_of_lt h] at e; exact absurd e hn
  | succ j =>
    refine ⟨j, by omega, ?_⟩
    unfold nextS
    rw [show s + (j + 1) = s + 1 + j by omega] at e
    rw [Nat.add_mod, Nat.mod_mod, ← Nat.add_mod]
    exact e
theorem spin_ok (ok : ROk r) : ∀ (k s : Nat) (o : List Int), s < r.turns.length → OwOk r o → Near r hs k s → (spin r hs k s o).1 < r.turns.length ∧ OwOk r (spin r hs k s o).2 ∧ turnAt r (spin r hs k s o).1 ∈ hs
  | 0, s, o, _, _, ⟨j, hj, _⟩ => absurd hj (Nat.not_lt_zero _)
  | k + 1, s, o, h, w, n => by
    unfold spin
    by_cases c : turnAt r s ∈ hs
    · rw [if_pos c]; exact ⟨h, w, c⟩
    · rw [if_neg c]
      exact spin_ok ok k _ _ (nextS_lt (by omega)) (w.pass ok h) (near_step h n c)
/-- a tick keeps what holds -/
theorem tick_ok (ok : ROk r) (h : s < r.turns.length) (k : OwOk r o) : (tickF r s o t).1 < r.turns.length ∧ OwOk r (tickF r s o t).2.1 ∧ ∀ p, (tickF r s o t).2.2 = some p → 0 ≤ p ∧ p < r.names.length := by
  unfold tickF
  simp only
  by_cases c : homes r t = []
  · rw [if_pos c]; exact ⟨h, k, fun p e => by cases e⟩
  rw [if_neg c]
  by_cases c2 : 0 < maxL ((homes r t).map (owes o))
  · rw [if_pos c2]
    obtain ⟨p, hp, hm, e⟩ := debtor_some (o := o) c
    rw [hp]
    refine ⟨h, k.chg (by omega), fun q hq => ?_⟩
    cases hq
    exact homes_in hm
  · rw [if_neg c2]
    obtain ⟨h1, h2, h3⟩ := spin_ok ok _ _ _ h k (near_start ok c (fun p hp => homes_in hp) h)
    refine ⟨nextS_lt (by omega), h2, fun q hq => ?_⟩
    cases hq
    exact turnAt_in ok h1
end
/-! ### the state of a book -/
structure Now where
  s : Nat
  o : List Int
  t : Nat
  d : List (Option Int)
structure NowOk (r : Rota) (n : Now) : Prop where
  s : n.s < r.turns.length
  o : OwOk r n.o
  d : ∀ p, some p ∈ n.d → 0 ≤ p ∧ p < r.names.length
def now0 (r : Rota) : Now := ⟨0, List.replicate r.names.length 0, 0, []⟩
theorem now0_ok {r : Rota} (ok : ROk r) : NowOk r (now0 r) :=
  ⟨turns_pos ok, ⟨List.length_replicate .., fun v hv => by rw [(List.mem_replicate.mp hv).2]; decide⟩, fun p hp => by cases hp⟩
/-- k ticks from a state: the state behind them and who does it -/
def ticksF (r : Rota) : Nat → Nat → List Int → Nat → Nat × List Int × List (Option Int)
  | 0, s, o, _ => (s, o, [])
  | k + 1, s, o, t => let q := tickF r s o t
    let z := ticksF r k q.1 q.2.1 (t + 1)
    (z.1, z.2.1, q.2.2 :: z.2.2)
theorem ticksF_len {r : Rota} : ∀ (k s : Nat) (o : List Int) (t : Nat), (ticksF r k s o t).2.2.length = k
  | 0, _, _, _ => rfl
  | k + 1, s, o, t => by unfold ticksF; simp only [List.length_cons]; rw [ticksF_len]
/-- one more at the end -/
theorem ticksF_more {r : Rota} : ∀ (k s : Nat) (o : List Int) (t : Nat), ticksF r (k + 1) s o t = let z := ticksF r k s o t
    let q := tickF r z.1 z.2.1 ((t + k : Nat) : Int)
    (q.1, q.2.1, z.2.2 ++ [q.2.2])
  | 0, s, o, t => rfl
  | k + 1, s, o, t => by
    have ih := ticksF_more (r := r) k (tickF r s o t).1 (tickF r s o t).2.1 (t + 1)
    rw [ticksF]
    simp only
    rw [ih]
    simp only
    rw [show t + 1 + k = t + (k + 1) by omega]
    conv => rhs; rw [ticksF]
    rfl
theorem ticks_ok {r : Rota} (ok : ROk r) : ∀ (k s : Nat) (o : List Int) (t : Nat), s < r.turns.length → OwOk r o →
    (ticksF r k s o t).1 < r.turns.length ∧ OwOk r (ticksF r k s o t).2.1 ∧ ∀ p, some p ∈ (ticksF r k s o t).2.2 → 0 ≤ p ∧ p < r.names.length
  | 0, s, o, t, h, w => ⟨h, w, fun p hp => by cases hp⟩
  | k + 1, s, o, t, h, w => by
    obtain ⟨h1, h2, h3⟩ := tick_ok (t := t) ok h w
    obtain ⟨g1, g2, g3⟩ := ticks_ok ok k _ _ (t + 1) h1 h2
    unfold ticksF
    refine ⟨g1, g2, fun p hp => ?_⟩
    rcases List.mem_cons.mp hp with e | hp
    · exact h3 p e.symm
    · exact g3 p hp
def stepN (r : Rota) (k : Nat) (n : Now) : Now := let z := ticksF r k n.s n.o n.t
  ⟨z.1, z.2.1, n.t + k, n.d ++ z.2.2⟩
def found (r : Rota) (k : Nat) (n : Now) : List (Option Int) := (ticksF r k n.s n.o n.t).2.2
theorem stepN_ok {r : Rota} (ok : ROk r) {k : Nat} {n : Now} (h : NowOk r n) : NowOk r (stepN r k n) := by
  obtain ⟨g1, g2, g3⟩ := ticks_ok ok k _ _ n.t h.s h.o
  refine ⟨g1, g2, fun p hp => ?_⟩
  rcases List.mem_append.mp hp with hp | hp
  · exact h.d p hp
  · exact g3 p hp
def less (v : Int) : Int := if v - 1 > 0 then v - 1 else 0
def giftN (p : Int) (n : Now) : Now := ⟨n.s, n.o.set p.toNat (less (owes n.o p)), n.t + 1, n.d ++ [some p]⟩
def forgiveN (p : Int) (n : Now) : Now := ⟨n.s, n.o.set p.toNat 0, n.t, n.d⟩
theorem giftN_ok {r : Rota} {p : Int} {n : Now} (h0 : 0 ≤ p) (h1 : p < r.names.length) (h : NowOk r n) : NowOk r (giftN p n) := by
  have hp := h.o.at_ h0 h1
  refine ⟨h.s, ⟨by show (n.o.set _ _).length = _; rw [List.length_set]; exact h.o.len, fun v hv => ?_⟩, fun q hq => ?_⟩
  · rcases List.mem_or_eq_of_mem_set hv with hv | rfl
    · exact h.o.rng v hv
    · unfold less; split <;> omega
  · rcases List.mem_append.mp hq with hq | hq
    · exact h.d q hq
    · cases List.mem_singleton.mp hq; exact ⟨h0, h1⟩
theorem forgiveN_ok {r : Rota} {p : Int} {n : Now} (h : NowOk r n) : NowOk r (forgiveN p n) := by
  refine ⟨h.s, ⟨by show (n.o.set _ _).length = _; rw [List.length_set]; exact h.o.len, fun v hv => ?_⟩, h.d⟩
  rcases List.mem_or_eq_of_mem_set hv with hv | rfl
  · exact h.o.rng v hv
  · omega
/-- what is done of a book and what is undone of it -/
structure Bst where
  now : Now
  past : List (Str × Now)
  und : List ((Str × Now) × Now)
def ents : List (Str × Now) → Now → List (Str × Now × Now)
  | [], _ => []
  | [(w, b)], n => [(w, b, n)]
  | (w, b) :: (w', b') :: l, n => (w, b, b') :: ents ((w', b') :: l) n
theorem ents_more : ∀ (l : List (Str × Now)) (w : Str) (b n : Now), ents (l ++ [(w, b)]) n = ents l b ++ [(w, b, n)]
  | [], _, _, _ => rfl
  | [(w, b)], _, _, _ => rfl
  | (w, b) :: (w', b') :: l, w2, b2, n => by
    have := ents_more ((w', b') :: l) w2 b2 n
    show (w, b, b') :: ents ((w', b') :: l ++ [(w2, b2)]) n = _
    rw [this]; rfl
theorem ents_len : ∀ (l : List (Str × Now)) (n : Now), (ents l n).length = l.length
  | [], _ => rfl
  | [(w, b)], _ => rfl
  | (w, b) :: (w', b') :: l, n => by
    show (ents ((w', b') :: l) n).length + 1 = _
    rw [ents_len]; rfl
theorem ents_map : ∀ (l : List (Str × Now)) (n : Now), (ents l n).map (fun e => e.1) = l.map Prod.fst
  | [], _ => rfl
  | [(w, b)], _ => rfl
  | (w, b) :: (w', b') :: l, n => by
    show _ :: (ents ((w', b') :: l) n).map _ = _
    rw [ents_map]; rfl
/-- what was undone begins where the book stands; the last one first -/
def UCh : List ((Str × Now) × Now) → Now → Prop
  | [], _ => True
  | ((_, b), a) :: u, n => b = n ∧ UCh u a
structure BOk (r : Rota) (b : Bst) : Prop where
  now : NowOk r b.now
  past : ∀ e ∈ b.past, NowOk r e.2
  und : ∀ e ∈ b.und, NowOk r e.1.2 ∧ NowOk r e.2
  ch : UCh b.und.reverse b.now
def recB (w : Str) (b : Bst) (n : Now) : Bst := ⟨n, b.past ++ [(w, b.now)], []⟩
theorem recB_ok {r : Rota} {b : Bst} {w : Str} {n : Now} (k : BOk r b) (h : NowOk r n) : BOk r (recB w b n) :=
  ⟨h, fun e he => by
    rcases List.mem_append.mp he with he | he
    · exact k.past e he
    · rw [List.mem_singleton.mp he]; exact k.now, fun e he => (nomatch he), trivial⟩
def undoB (b : Bst) : Option Bst := match b.past.getLast? with
  | none => none
  | some e => some ⟨e.2, b.past.dropLast, b.und ++ [(e, b.now)]⟩
def redoB (b : Bst) : Option Bst := match b.und.getLast? with
  | none => none
  | some e => some ⟨e.2, b.past ++ [e.1], b.und.dropLast⟩
theorem undoB_ok {r : Rota} {b b' : Bst} (k : BOk r b) (h : undoB b = some b') : BOk r b' := by
  unfold undoB at h
  cases e : b.past.getLast? with
  | none => rw [e] at h; cases h
  | some x =>
    rw [e] at h
    cases h
    have hx : x ∈ b.past := List.mem_of_getLast? e
    refine ⟨k.past x hx, fun y hy => k.past y ((List.dropLast_sublist _).subset hy), fun y hy => ?_, ?_⟩
    · rcases List.mem_append.mp hy with hy | hy
      · exact k.und y hy
      · rw [List.mem_singleton.mp hy]; exact ⟨k.past x hx, k.now⟩
    · show UCh (b.und ++ [(x, b.now)]).reverse _
      rw [List.reverse_append]
      exact ⟨rfl, k.ch⟩
theorem redoB_ok {r : Rota} {b b' : Bst} (k : BOk r b) (h : redoB b = some b') : BOk r b' := by
  unfold redoB at h
  cases e : b.und.getLast? with
  | none => rw [e] at h; cases h
  | some x =>
    rw [e] at h
    cases h
    have hx : x ∈ b.und := List.mem_of_getLast? e
    have ex : b.und = b.und.dropLast ++ [x] := by
      obtain ⟨l, hl⟩ := List.getLast?_eq_some_iff.mp e
      rw [hl, List.dropLast_concat]
    have ch := k.ch
    rw [ex, List.reverse_append] at ch
    refine ⟨(k.und x hx).2, fun y hy => ?_, fun y hy => k.und y ((List.dropLast_sublist _).subset hy), ch.2⟩
    rcases List.mem_append.mp hy with hy | hy
    · exact k.past y hy
    · rw [List.mem_singleton.mp hy]; exact (k.und x hx).1
end Br

/-! Comprehensions that fill a list told ahead; isinstance of flat things. -/
namespace Br
open PySem PySem.Spec PyProof.Rows L2
section
variable {J : It} {n : Nat} {G : Hp → Prop} {Y : Nat → Hp → V → Hp → Prop}
/-- a comprehension without a test that makes ys; the ledger behind the new list may change from turn to turn -/
theorem lc_put (w : Walk J n G Y) {g : TG} {te : TE} {vs : List Nat} {σ : L2.St} {H0 H1 : Hp} {D : Addr} {Qd : Hp → Prop} {M : List Addr} {l : Nat → List (Addr × HO)} (ys : List V) (hy : ys.length = n) (hn : n ≤ 1000)
    (wd : Wd M H0 H1 (l 0)) (hD : H1 D = none) (hG : ∀ i H, i ≤ n → Wd M H0 H ((D, .lst (ys.take i)) :: l i) → G H)
    (hs : ∀ i x H H' (R : V → Hp → Prop), i < n → Wd M H0 H ((D, .lst (ys.take i)) :: l i) → Y i H x H' → (∀ y H4, ys[i]? = some y → Wd M H0 H4 ((D, .lst (ys.take i)) :: l (i + 1)) → R y H4) → g x (wipe σ vs) H' fun σ2 H2 => wipe σ2 vs = wipe σ vs ∧ te σ2 H2 R)
    (hd : ∀ H, Wd M H0 H ((D, .lst ys) :: l n) → Qd H) :
    ∃ W : Nat → Nat → Hp → Prop, (∃ m, W 0 m (upd H1 D (.lst []))) ∧ ∀ i m H, W i m H →
      (J.stop i H ∧ Qd H) ∨ (J.go i H ∧ ∃ Nx : Hp → Prop, (∀ H', Nx H' → ∃ m', m' < m ∧ W (i + 1) m' H') ∧ ∀ x H', J.yld i H x H' → g x (wipe σ vs) H' fun σ2 H2 => wipe σ2 vs = wipe σ vs ∧ tYes σ2 H2 fun b H3 =>
        if b = true then te σ2 H3 fun y H4 => ∃ acc, H4 D = some (.lst acc) ∧ acc.length < sizeLine ∧ Nx (upd H4 D (.lst (acc ++ [y]))) else Nx H3) := by
  refine ⟨fun i m H => m = n - i ∧ i ≤ n ∧ Wd M H0 H ((D, .lst (ys.take i)) :: l i), ⟨n, by simp, Nat.zero_le _, ?_⟩, ?_⟩
  · rw [List.take_zero]; exact wd.new _ hD
  rintro i m H ⟨rfl, hi, p⟩
  have q := hG i H hi p
  by_cases hlt : i < n
  · refine .inr ⟨w.goes i H hlt q, fun H' => Wd M H0 H' ((D, .lst (ys.take (i + 1))) :: l (i + 1)), fun H' p' => ⟨n - (i + 1), by omega, rfl, hlt, p'⟩, fun x H' y => ?_⟩
    refine hs i x H H' _ hlt p (w.yields i H x H' hlt q y) fun y H4 hy4 w4 => ⟨_, w4.get 0 rfl, ?_, ?_⟩
    · rw [List.length_take]
      exact Nat.lt_of_le_of_lt (m := 1000) (by omega) (by decide)
    · have := w4.put 0 (.lst (ys.take i ++ [y])) rfl (fun xs q => by cases q)
      rw [take_more hy4]
      exact this
  · have e : i = n := by omega
    subst e
    refine .inl ⟨w.stops H q, hd H ?_⟩
    rw [← hy, List.take_length] at p
    rw [← hy]; exact p
/-! ### flat things and isinstance -/
/-- a value and its class, as isinstance asks -/
inductive Ky (H : Hp) : V → String → Prop
  | non : Ky H .non "NoneType"
  | bl (b : Bool) : Ky H (.bl b) "bool"
  | int (i : Int) : Ky H (.int i) "int"
  | str (z : Str) : Ky H (.str z) "str"
  | lst {a : Addr} {xs : List V} (h : H a = some (.lst xs)) : Ky H (.ref a) "list"
  | tup {a : Addr} {xs : List V} (h : H a = some (.tup xs)) : Ky H (.ref a) "tuple"
theorem Ky.ty {K : PySem.W.Frag} {H : Hp} {x : V} {t : String} (h : Ky H x t) : TyX K H x (.type t) := by
  cases h with
  | non => exact .base .non
  | bl b => exact .base (.bl b)
  | int i => exact .base (.int i)
  | str z => exact .base (.str z)
  | lst h => exact .base (.lst h)
  | tup h => exact .base (.tup h)
/-- isinstance(x, T) of such things, T one of the six -/
def isA (t T : String) : Bool := t == T || (t == "bool" && T == "int")
theorem kit_is {K : PySem.W.Frag} {t T : String} (h : t ∈ ["NoneType", "bool", "int", "str", "list", "tuple"]) (h' : T ∈ ["bool", "int", "str", "list", "tuple"]) : PySem.W.kitOne K (.type t) (.type T) = some (isA t T) := by
  simp only [List.mem_cons, List.not_mem_nil, or_false] at h h'
  rcases h with rfl | rfl | rfl | rfl | rfl | rfl <;> rcases h' with rfl | rfl | rfl | rfl | rfl <;> rfl
theorem Ky.mem {H : Hp} {x : V} {t : String} (h : Ky H x t) : t ∈ ["NoneType", "bool", "int", "str", "list", "tuple"] := by
  cases h <;> decide
def intIn (lo hi : Int) : V → Bool
  | .int i => decide (lo ≤ i) && decide (i ≤ hi)
  | _ => false
abbrev rSIndex : V → List V → Hp → VK → Prop := fun x xs H Q => ∃ a b i rest, x = .str a ∧ xs = [.str b] ∧ Builtin.Str.occurrences a b 0 a.length 1 = i :: rest ∧ Q (.int (i : Nat)) H
end
end Br

namespace Br
open PySem PySem.Spec PyProof.Rows L2
theorem Wd.app0 {M : List Addr} {H0 H : Hp} {D : Addr} {ys : List V} {l : List (Addr × HO)} (w : Wd M H0 H ((D, .lst ys) :: l)) (y : V) : Wd M H0 (upd H D (.lst (ys ++ [y]))) ((D, .lst (ys ++ [y])) :: l) :=
  w.put 0 (.lst (ys ++ [y])) rfl (fun _ q => by cases q)
section
variable {P : Program} {w : World} {K : PySem.W.Frag} {mg : Str → Option Value} {base : Heap}
abbrev sis_home : Stmt := topS 46
theorem scis_home : FnScope ["parsed", "person", "tick", "other", "remainder", "modulus"] ["parsed", "person", "tick"] (defScope sis_home) := ⟨rfl, rfl, rfl, by decide +kernel, rfl, by decide +kernel, by decide +kernel⟩
def spHome : Sp := fun vs H Q _ => ∃ (a : Addr) (r : Rota) (p t : Int), vs = [.ref a, .int p, .int t] ∧ RotaAt H a r ∧ ROk r ∧ ∀ H', Wd [] H H' [] → Q (.bl (isHome r t p)) H'
theorem cal_home (D : DefAt K mg "is_home" sis_home ["parsed", "person", "tick"]) (T : Bi mg) : Cal P w K mg base 1 "is_home" ["parsed", "person", "tick"] spHome := D.cal fun f fd F => by
  have nd := scis_home.nd
  refine F.ok scis_home (fun vs H Q E h => ?_) (fun cdv A outer s H vs Q E hr h => ?_)
  · obtain ⟨a, r, p, t, rfl, _⟩ := h; rfl
  obtain ⟨a, r, p, t, rfl, hR, ok, q⟩ := h
  obtain ⟨an, at_, aw, aa, am, as, h1, h2, h3, h4, h5, h6, h7⟩ := hR
  refine ⟨_, (pss_one (ps_ret (pe_callB (r := L2.rAll K) (cr_all rfl) (by rfl) T.all (by decide +kernel) (pa_cons (pe_lc (own := [("other", 3), ("remainder", 4), ("modulus", 5)]) rfl nd (pi_tupK (K := K) rfl (pe_ix (r := rIxT K) ix_tup (pv 0) pe_int (fun _ _ => rfl))) (blkOk_by (N := ["parsed", "person", "tick", "other", "remainder", "modulus"]) (sc := defScope sis_home) (by decide +kernel)) (fun _ _ _ _ _ => (pg_tupK (K := K) (n := 3) rfl rfl (pgs_cons (pg_name (i := 3) nd rfl (Or.inl rfl)) (pgs_cons (pg_name (i := 4) nd rfl (Or.inl rfl)) (pgs_cons (pg_name (i := 5) nd rfl (Or.inl rfl)) pgs_nil))))) (fun _ _ _ _ _ => (pts_one (pt_cmpR op_eq (pv 3) (pv 1) (nomark _)))) (fun _ _ _ _ _ => (pe_cmpR op_ne (pe_op op_modN (pv 2) (pv 5)) (pv 4) (nomark _)))) pa_nil)))), ?_⟩
  have has : as.length = r.aways.length := h6.length
  have a6 := ok.a6
  refine ⟨_, rfl, a, _, 3, _, rfl, rfl, SqT.of h1, rfl, aa, rfl, ⟨_, SqT.of h5⟩, fun D hD => ?_⟩
  refine lc_tup (xs := as.map V.ref) (fun i H2 => Wd [] H H2 [(D, .lst ((((r.aways.take i).filter fun a => decide (a.1 = p)).map fun a => !decide (t.fmod a.2.2 = a.2.1)).map V.bl))]) ((Wd.refl H).new _ hD) (fun i H2 _ w2 => SqT.of (w2.old h5 (by simp))) (fun i x H2 hx w2 => ?_) (fun H2 w2 => ?_)
  · rw [List.getElem?_map] at hx
    obtain ⟨b1, hb, rfl⟩ := Option.map_eq_some_iff.mp hx
    obtain ⟨z, hz, hbz⟩ := h6.at hb
    have hmod : z.2.2 ≠ 0 := by
      obtain ⟨g1, g2, g3, g4, g5⟩ := ok.a0 z (List.mem_of_getElem? hz)
      intro e; rw [e] at g5; simp at g5
    rw [take_more hz, List.filter_append, List.map_append]
    refine ⟨b1, tri z, rfl, SqT.of (w2.old hbz (by simp)), rfl, _, _, rfl, _, _, rfl, _, _, rfl, rfl, rfl, _, rfl, _, rfl, rfl, _, rfl, ?_⟩
    refine ite2 (fun hh => ?_) (fun hh => ?_)
    · have c : z.1 = p := by have := of_decide_eq_true hh; injection this
      refine ⟨_, rfl, _, rfl, _, _, rfl, rfl, hmod, _, rfl, ?_⟩
      refine ⟨rfl, _, w2.get 0 rfl, ?_, ?_⟩
      · rw [List.length_map, List.length_map]
        have h1 := List.length_filter_le (fun a : Int × Int × Int => decide (a.1 = p)) (r.aways.take i)
        rw [List.length_take] at h1
        exact Nat.lt_of_le_of_lt (m := 100) (by omega) (by decide)
      · rw [List.filter_cons_of_pos (by simpa using c), List.filter_nil]
        have e : (!decide (V.int (t.fmod z.2.2) = V.int z.2.1)) = !decide (t.fmod z.2.2 = z.2.1) := by simp
        have := w2.app0 (V.bl (!decide (V.int (t.fmod z.2.2) = V.int z.2.1)))
        rw [e] at this
        simpa using this
    · have c : ¬ z.1 = p := fun e => hh (decide_eq_true (by rw [e]))
      rw [List.filter_cons_of_neg (by simpa using c), List.filter_nil, List.map_nil, List.append_nil]
      exact w2
  · rw [List.length_map, has, List.take_length] at w2
    exact ⟨D, _, rfl, SqL.of (w2.get 0 rfl), q _ (w2.sub (List.nil_sublist _))⟩
abbrev shome_people : Stmt := topS 47
theorem schome_people : FnScope ["parsed", "tick", "person"] ["parsed", "tick"] (defScope shome_people) := ⟨rfl, rfl, rfl, by decide +kernel, rfl, by decide +kernel, by decide +kernel⟩
def spHomes : Sp := fun vs H Q _ => ∃ (a : Addr) (r : Rota) (t : Int), vs = [.ref a, .int t] ∧ RotaAt H a r ∧ ROk r ∧ ∀ H' p, Wd [] H H' [(p, .lst ((homes r t).map V.int))] → Q (.ref p) H'
theorem persons_len (r : Rota) : (persons r).length = r.names.length := by unfold persons; rw [List.length_map, List.length_range]
theorem persons_at {r : Rota} {i : Nat} (h : i < r.names.length) : (persons r)[i]? = some (i : Int) := by
  unfold persons; rw [List.getElem?_map, List.getElem?_range h]; rfl
theorem cal_homes (D : DefAt K mg "home_people" shome_people ["parsed", "tick"]) (T : Bi mg) (C1 : Cal P w K mg base 1 "is_home" ["parsed", "person", "tick"] spHome) : Cal P w K mg base 2 "home_people" ["parsed", "tick"] spHomes := D.cal fun f fd F => by
  have nd := schome_people.nd
  obtain ⟨f1, fd1, m_is_home, kp_is_home, b_is_home, G_is_home⟩ := C1.ex
  refine F.ok schome_people (fun vs H Q E h => ?_) (fun cdv A outer s H vs Q E hr h => ?_)
  · obtain ⟨a, r, t, rfl, _⟩ := h; rfl
  obtain ⟨a, r, t, rfl, hR, ok, q⟩ := h
  obtain ⟨an, at_, aw, aa, am, as, h1, h2, h3, h4, h5, h6, h7⟩ := id hR
  refine ⟨_, (pss_one (ps_ret (pe_lc (own := [("person", 2)]) rfl nd (pi_range1 (by rfl) T.range (pa_cons (pe_callB (r := rLenS K) call_len_seq (by rfl) T.len PySem.boot_len (pa_cons (pe_ix (r := rIxT K) ix_tup (pv 0) pe_int (fun _ _ => rfl)) pa_nil)) pa_nil)) (blkOk_by (N := ["parsed", "tick", "person"]) (sc := defScope shome_people) (by decide +kernel)) (fun _ _ _ _ _ => (pg_name (i := 2) nd rfl (Or.inl rfl))) (fun _ _ _ _ _ => (pts_one (pt_val (pe_call G_is_home (hr.mono (by first | decide | omega)) (by rfl) m_is_home kp_is_home b_is_home .nil pass0 (pa_cons (pv 0) (pa_cons (pv 2) (pa_cons (pv 1) pa_nil))))))) (fun _ _ _ _ _ => (pv 2))))), ?_⟩
  have n6 := ok.n6
  refine ⟨_, rfl, a, _, 0, _, rfl, rfl, SqT.of h1, rfl, an, _, rfl, .inr h2.sq, _, rfl, by rw [List.length_map]; omega, by rw [List.length_map]; omega, fun D hD => ?_⟩
  have en : (((r.names.map V.str).length : Nat) : Int).toNat = r.names.length := by rw [List.length_map]; omega
  rw [en]
  refine lc_range (lo := 0) (n := r.names.length) (fun i H2 => Wd [] H H2 [(D, .lst ((((persons r).take i).filter (isHome r t)).map V.int))]) ((Wd.refl H).new _ hD) ?_ ?_
  · rintro i H2 hi w2
    refine ⟨rfl, _, rfl, _, rfl, _, rfl, a, r, _, t, rfl, hR.le w2.le, ok, fun H3 w3 => ⟨_, rfl, ?_⟩⟩
    have w4 := w2.call0 w3
    rw [take_more (persons_at hi), List.filter_append, Int.zero_add]
    refine ite2 (fun c => ?_) (fun c => ?_)
    · rw [List.filter_cons_of_pos c, List.filter_nil, List.map_append]
      refine ⟨_, rfl, _, w4.get 0 rfl, ?_, w4.app0 _⟩
      rw [List.length_map]
      have h1 := List.length_filter_le (isHome r t) ((persons r).take i)
      rw [List.length_take] at h1
      exact Nat.lt_of_le_of_lt (m := 100) (by omega) (by decide)
    · rw [List.filter_cons_of_neg c, List.filter_nil, List.append_nil]
      exact w4
  · rintro H2 w2
    rw [show (persons r).take r.names.length = persons r by rw [← persons_len r, List.take_length]] at w2
    exact q _ _ w2
abbrev sfirst_state : Stmt := topS 48
theorem scfirst_state : FnScope ["parsed"] ["parsed"] (defScope sfirst_state) := ⟨rfl, rfl, rfl, by decide +kernel, rfl, by decide +kernel, by decide +kernel⟩
def spFirst : Sp := fun vs H Q _ => ∃ (a : Addr) (r : Rota), vs = [.ref a] ∧ RotaAt H a r ∧ ROk r ∧ ∀ H' p o, Wd [] H H' [] → H' p = some (.tup [.int 0, .ref o]) → H' o = some (.tup ((List.replicate r.names.length 0).map V.int)) → Q (.ref p) H'
theorem cal_first (D : DefAt K mg "first_state" sfirst_state ["parsed"]) (T : Bi mg) : Cal P w K mg base 1 "first_state" ["parsed"] spFirst := D.cal fun f fd F => by
  have nd := scfirst_state.nd
  refine F.ok scfirst_state (fun vs H Q E h => ?_) (fun cdv A outer s H vs Q E hr h => ?_)
  · obtain ⟨a, r, rfl, _⟩ := h; rfl
  obtain ⟨a, r, rfl, hR, ok, q⟩ := h
  obtain ⟨an, at_, aw, aa, am, as, h1, h2, h3, h4, h5, h6, h7⟩ := id hR
  refine ⟨_, (pss_one (ps_ret (pe_tup (pa_cons pe_int (pa_cons (pe_op (r := rRepA K) op_repA (pe_tup (pa_cons pe_int pa_nil)) (pe_callB (r := rLenS K) call_len_seq (by rfl) T.len PySem.boot_len (pa_cons (pe_ix (r := rIxT K) ix_tup (pv 0) pe_int (fun _ _ => rfl)) pa_nil))) pa_nil))))), ?_⟩
  have n6 := ok.n6
  have n1 := ok.n1
  refine ⟨(by show 1 ≤ sizeLine; decide), fun p hp => ?_⟩
  have w1 := (Wd.refl H).new (.tup [V.int 0]) hp
  refine ⟨_, rfl, a, _, 0, _, rfl, rfl, SqT.of (w1.old h1 (by simp)), rfl, an, _, rfl, .inr ((h2.le w1.le).sq), p, _, _, rfl, rfl, SqT.of (w1.get 0 rfl), by simp, by rw [List.length_map]; omega, by rw [List.length_map]; omega, by show 1 ≤ 1000; decide, fun e => ?_, fun e o ho => ?_⟩
  · rw [List.length_map] at e
    refine ⟨(by show 2 ≤ sizeLine; decide), fun p2 hp2 => ?_⟩
    have w2 := w1.new (.tup [V.int 0, V.ref p]) hp2
    refine q _ p2 p (w2.sub (List.nil_sublist _)) (w2.get 0 rfl) ?_
    rw [show r.names.length = 1 by omega]
    exact w2.get 1 rfl
  · have w2 := w1.new (.tup (List.replicate (((r.names.map V.str).length : Nat) : Int).toNat [V.int 0]).flatten) ho
    refine ⟨(by show 2 ≤ sizeLine; decide), fun p2 hp2 => ?_⟩
    have w3 := w2.new (.tup [V.int 0, V.ref o]) hp2
    refine q _ p2 o (w3.sub (List.nil_sublist _)) (w3.get 0 rfl) ?_
    have hrep : ∀ k : Nat, (List.replicate k [V.int 0]).flatten = (List.replicate k (0 : Int)).map V.int := fun k => by
      induction k with
      | zero => rfl
      | succ k ih => rw [List.replicate_succ, List.flatten_cons, ih, List.replicate_succ]; rfl
    refine (w3.get 1 rfl).trans ?_
    rw [hrep, List.length_map, Int.toNat_natCast]
/-! ### slices and sums of tuples, the address left open -/
theorem slA_any {H : Hp} {a : Addr} {xs : List V} {lo hi : Option Int} {Q : VK} (h : H a = some (.tup xs)) (q : ∀ H' p, Wd [] H H' [] → H' p = some (.tup (cutV xs lo hi)) → Q (.ref p) H') : rSlA K (.ref a) lo hi H Q := by
  refine ⟨a, xs, rfl, SqT.of h, fun e => q H a (Wd.refl H) ?_, fun _ p hp => q _ p (((Wd.refl H).new _ hp).sub (List.nil_sublist _)) upd_same⟩
  unfold cutV
  rw [e.1, e.2, List.drop_zero, Nat.sub_zero, List.take_length]; exact h
theorem catA_any {H : Hp} {a b : Addr} {xs ys : List V} {Q : VK} (h : H a = some (.tup xs)) (h' : H b = some (.tup ys)) (hz : xs.length + ys.length ≤ 100000) (q : ∀ H' p, Wd [] H H' [] → H' p = some (.tup (xs ++ ys)) → Q (.ref p) H') : rCatA K (.ref a) (.ref b) H Q := by
  refine ⟨a, b, xs, ys, rfl, rfl, SqT.of h, SqT.of h', Nat.le_trans hz (by decide), fun e => q H b (Wd.refl H) ?_, fun _ e => q H a (Wd.refl H) ?_, fun _ _ p hp => q _ p (((Wd.refl H).new _ hp).sub (List.nil_sublist _)) upd_same⟩
  · rw [e]; exact h'
  · rw [e, List.append_nil]; exact h
abbrev schanged : Stmt := topS 50
theorem scchanged : FnScope ["owed", "person", "amount"] ["owed", "person", "amount"] (defScope schanged) := ⟨rfl, rfl, rfl, by decide +kernel, rfl, by decide +kernel, by decide +kernel⟩
def spChanged : Sp := fun vs H Q _ => ∃ (a : Addr) (o : List Int) (p x : Int), vs = [.ref a, .int p, .int x] ∧ H a = some (.tup (o.map V.int)) ∧ 0 ≤ p ∧ p < o.length ∧ o.length ≤ 6 ∧ ∀ H' b, Wd [] H H' [] → H' b = some (.tup ((chg o p x).map V.int)) → Q (.ref b) H'
theorem set_split {α : Type} {l : List α} {i : Nat} {x : α} (h : i < l.length) : l.take i ++ [x] ++ l.drop (i + 1) = l.set i x := by
  rw [List.set_eq_take_append_cons_drop, if_pos h, List.append_assoc]; rfl
theorem cal_changed (D : DefAt K mg "changed" schanged ["owed", "person", "amount"]) (T : Bi mg) (c9 : ∃ t, mg "MAX_OWED" = some (.int 9 t)) : Cal P w K mg base 1 "changed" ["owed", "person", "amount"] spChanged := D.cal fun f fd F => by
  have nd := scchanged.nd
  obtain ⟨t9, c_MAX_OWED⟩ := c9
  refine F.ok scchanged (fun vs H Q E h => ?_) (fun cdv A outer s H vs Q E hr h => ?_)
  · obtain ⟨a, o, p, x, rfl, _⟩ := h; rfl
  obtain ⟨a, o, p, x, rfl, ho, hp0, hp1, h6, q⟩ := h
  refine ⟨_, (pss_one (ps_ret (pe_op (r := rCatA K) op_catA (pe_op (r := rCatA K) op_catA (pe_slice (r := rSlA K) sl_tupA (pv 0) po_none (po_some (pv 1))) (pe_tup (pa_cons (pe_callB (call_min2 rfl) (by rfl) T.min (by decide +kernel) (pa_cons (pe_glob (v := .int 9) (by rfl) c_MAX_OWED ⟨_, rfl⟩) (pa_cons (pe_op op_add (pe_ix (r := rIxT K) ix_tup (pv 0) (pv 1) (fun _ _ => rfl)) (pv 2)) pa_nil))) pa_nil))) (pe_slice (r := rSlA K) sl_tupA (pv 0) (po_some (pe_op op_add (pv 1) pe_int)) po_none)))), ?_⟩
  have eo : atI (o.map V.int) p = some (.int (owes o p)) := by
    have e : p = ((p.toNat : Nat) : Int) := by omega
    rw [e]
    refine atI_nat ?_
    rw [List.getElem?_map, ← e, owes_at hp0 (by omega)]; rfl
  have hlo : (o.map V.int).length = o.length := List.length_map ..
  refine ⟨_, rfl, _, rfl, _, rfl, slA_any ho fun H1 p1 w1 g1 => ?_⟩
  rw [cut_take _ hp0] at g1
  refine ⟨_, rfl, _, rfl, a, _, p, _, rfl, rfl, SqT.of (w1.tups _ _ ho), eo, _, rfl, _, _, rfl, rfl, _, _, rfl, (by show 1 ≤ sizeLine; decide), fun p2 hp2 => ?_⟩
  have w2 := w1.new (.tup [V.int (if owes o p + x < 9 then owes o p + x else 9)]) hp2
  have v2 := (Wd.refl H1).new (.tup [V.int (if owes o p + x < 9 then owes o p + x else 9)]) hp2
  refine catA_any (v2.tups _ _ g1) (w2.get 0 rfl) (by rw [List.length_take]; simp only [List.length_cons, List.length_nil]; omega) fun H3 p3 w3 g3 => ?_
  have w4 := w2.call0 w3
  refine ⟨_, rfl, _, rfl, _, _, rfl, rfl, _, rfl, ?_⟩
  dsimp only [tNoPart]
  refine slA_any (w4.tups _ _ ho) fun H4 p4 w5 g4 => ?_
  rw [cut_drop _ (by omega)] at g4
  have w6 := w4.call0 w5
  refine catA_any (w5.tups _ _ g3) g4 (by rw [List.length_append, List.length_take, List.length_drop]; simp only [List.length_cons, List.length_nil]; omega) fun H5 p5 w7 g5 => ?_
  refine q _ _ ((w6.call0 w7).sub (List.nil_sublist _)) ?_
  rw [g5]
  have e : (p + 1).toNat = p.toNat + 1 := by omega
  rw [e, set_split (by omega)]
  unfold chg
  rw [List.map_set]
end
end Br

namespace Br
open PySem PySem.Spec PyProof.Rows L2
/-! ### the lexer -/
/-- a class's __init__ and its contract; a method's -/
structure MkAt (P : Program) (w : World) (K : PySem.W.Frag) (mg : Str → Option Value) (base : Heap) (k : Nat) (x : Str) (C : Addr) (ps : List Str) (sp : Sp) : Prop where
  ex : ∃ (f : Addr) (fd : FuncData), mg x = some (.ref C) ∧ Mk K C f ∧ Binds K fd ps [] ∧ FnOk P w K mg base CX0 k f fd ps sp
structure MeAt (P : Program) (w : World) (K : PySem.W.Frag) (mg : Str → Option Value) (base : Heap) (k : Nat) (C : Addr) (m : Str) (ps : List Str) (sp : Sp) : Prop where
  ex : ∃ (f : Addr) (fd : FuncData), Meth K C m f ∧ Binds K fd ps [] ∧ FnOk P w K mg base CX0 k f fd ps sp
structure InitAt (K : PySem.W.Frag) (mg : Str → Option Value) (x q : Str) (C : Addr) (st : Stmt) (ps : List Str) : Prop where
  ex : ∃ (f : Addr) (fd : FuncData), mg x = some (.ref C) ∧ Mk K C f ∧ Fun K "__init__" q st f fd ∧ Binds K fd ps []
structure MethAt (K : PySem.W.Frag) (C : Addr) (m q : Str) (st : Stmt) (ps : List Str) : Prop where
  ex : ∃ (f : Addr) (fd : FuncData), Meth K C m f ∧ Fun K m q st f fd ∧ Binds K fd ps []
theorem InitAt.mk' {P : Program} {w : World} {K : PySem.W.Frag} {mg : Str → Option Value} {base : Heap} {k : Nat} {x q : Str} {C : Addr} {st : Stmt} {ps : List Str} {sp : Sp} (D : InitAt K mg x q C st ps)
    (h : ∀ f fd, Fun K "__init__" q st f fd → FnOk P w K mg base CX0 k f fd ps sp) : MkAt P w K mg base k x C ps sp := by
  obtain ⟨f, fd, m, M, F, b⟩ := D.ex
  exact ⟨f, fd, m, M, b, h f fd F⟩
theorem MethAt.me {P : Program} {w : World} {K : PySem.W.Frag} {mg : Str → Option Value} {base : Heap} {k : Nat} {m q : Str} {C : Addr} {st : Stmt} {ps : List Str} {sp : Sp} (D : MethAt K C m q st ps)
    (h : ∀ f fd, Fun K m q st f fd → FnOk P w K mg base CX0 k f fd ps sp) : MeAt P w K mg base k C m ps sp := by
  obtain ⟨f, fd, M, F, b⟩ := D.ex
  exact ⟨f, fd, M, b, h f fd F⟩
/-- a new instance -/
theorem Wd.make {M : List Addr} {H0 H : Hp} {l : List (Addr × HO)} (w : Wd M H0 H l) {x dx : Addr} (C : Addr) (hx : H x = none) (hd : H dx = none) (ne : dx ≠ x) :
    Wd M H0 (upd (upd H dx (.own x)) x (.ins C dx [])) ((x, .ins C dx []) :: (dx, .own x) :: l) :=
  (w.new (.own x) hd).new (.ins C dx []) (by rw [upd_ne ne.symm]; exact hx)
def slotI (σ : L2.St) (i : Nat) : Int := match σ[i]? with
  | some (some (V.int e)) => e
  | _ => 0
structure TokCls (K : PySem.W.Frag) (CT : Addr) : Prop where
  cl : Cls K CT
  nk : NoAttr K CT "kind"
  nt : NoAttr K CT "text"
  nl : NoAttr K CT "line"
  nc : NoAttr K CT "column"
def tkF (k t : Str) (l c : Int) : List (Str × V) := [("kind", .str k), ("text", .str t), ("line", .int l), ("column", .int c)]
theorem putF_ne {f g : Str} {v x : V} {r : List (Str × V)} (h : ¬ g = f) : putF f v ((g, x) :: r) = (g, x) :: putF f v r := if_neg h
theorem tkF_new (k t : Str) (l c : Int) : putF "column" (.int c) (putF "line" (.int l) (putF "text" (.str t) (putF "kind" (.str k) []))) = tkF k t l c := by
  have e1 : putF "text" (.str t) (putF "kind" (.str k) []) = [(("kind" : Str), V.str k), ("text", V.str t)] := putF_ne (by decide +kernel)
  have e2 : putF "line" (.int l) [(("kind" : Str), V.str k), ("text", V.str t)] = [(("kind" : Str), V.str k), ("text", V.str t), ("line", V.int l)] := by
    rw [putF_ne (by decide +kernel), putF_ne (by decide +kernel)]; rfl
  rw [e1, e2, putF_ne (by decide +kernel), putF_ne (by decide +kernel), putF_ne (by decide +kernel)]
  rfl
theorem look_ne {f g : Str} {x : V} {r : List (Str × V)} (h : (f == g) = false) : List.lookup f ((g, x) :: r) = List.lookup f r := by
  simp only [List.lookup, h]
theorem look_eq {f : Str} {x : V} {r : List (Str × V)} : List.lookup f ((f, x) :: r) = some x := by
  simp only [List.lookup, beq_self_eq_true]
theorem tk_kind (k t : Str) (l c : Int) : (tkF k t l c).lookup ("kind" : Str) = some (.str k) := look_eq
theorem tk_text (k t : Str) (l c : Int) : (tkF k t l c).lookup ("text" : Str) = some (.str t) := (look_ne (by decide +kernel)).trans look_eq
theorem tk_line (k t : Str) (l c : Int) : (tkF k t l c).lookup ("line" : Str) = some (.int l) := (look_ne (by decide +kernel)).trans ((look_ne (by decide +kernel)).trans look_eq)
theorem tk_column (k t : Str) (l c : Int) : (tkF k t l c).lookup ("column" : Str) = some (.int c) := (look_ne (by decide +kernel)).trans ((look_ne (by decide +kernel)).trans ((look_ne (by decide +kernel)).trans look_eq))
/-- what stands at the head of a row's rest, as the lexer reads it: the kind, the text -/
def dig (c : Nat) : Bool := decide (c ∈ TL.tl "0123456789")
def ltr (c : Nat) : Bool := decide (c ∈ TL.tl "abcdefghijklmnopqrstuvwxyz")
def kws : List Str := ["people", "turns", "weights", "away", "of", "makeup"]
def tokAt : List Nat → Option (Str × Str)
  | [] => none
  | c :: r => if c = 59 then some ("sign", ";")
    else if dig c = true then (let w := (c :: r).takeWhile dig; if w.length > 2 ∨ (w.length > 1 ∧ c = 48) then none else some ("number", ⟨w.toArray⟩))
    else (let w := (c :: r).takeWhile ltr; if (⟨w.toArray⟩ : Str) ∈ kws then some ("keyword", ⟨w.toArray⟩) else if 1 ≤ w.length ∧ w.length ≤ 8 then some ("name", ⟨w.toArray⟩) else none)
theorem at_iN {α : Type} {xs : List α} {z : Int} {j : Nat} {v : α} (e : z = (j : Int)) (h : xs[j]? = some v) : atI xs z = some v := by
  rw [e]; exact atI_nat h
theorem run_le (p : Nat → Bool) (l : List Nat) : (l.takeWhile p).length ≤ l.length := (List.takeWhile_sublist p).length_le
theorem take_run (p : Nat → Bool) : ∀ l : List Nat, l.take (l.takeWhile p).length = l.takeWhile p
  | [] => rfl
  | c :: r => by
    rw [List.takeWhile_cons]
    split
    · rw [List.length_cons, List.take_succ_cons, take_run p r]
    · rfl
theorem cut_run (z : Str) (i : Nat) (p : Nat → Bool) (h : i ≤ z.length) : cutS z (some (i : Int)) (some ((i : Int) + (((TL.tl z).drop i).takeWhile p).length)) = ⟨(((TL.tl z).drop i).takeWhile p).toArray⟩ := by
  have hl : ((TL.tl z).drop i).length = z.length - i := by rw [List.length_drop, ← TL.len_tl]
  have hw := run_le p ((TL.tl z).drop i)
  unfold cutS
  have e : (i : Int) + (((TL.tl z).drop i).takeWhile p).length = ((i + (((TL.tl z).drop i).takeWhile p).length : Nat) : Int) := by omega
  rw [e, HT.sIx_nat, HT.sIx_nat, Nat.min_eq_left h, Nat.min_eq_left (by omega), Nat.add_sub_cancel_left]
  show (⟨(List.take _ ((TL.tl z).drop i)).toArray⟩ : Str) = _
  rw [take_run]
section
variable {P : Program} {w : World} {K : PySem.W.Frag} {mg : Str → Option Value} {base : Heap} {CT : Addr}
def spTokI (CT : Addr) : Sp := fun vs H Q _ => ∃ (x dx : Addr) (k t : Str) (l c : Int), vs = [.ref x, .str k, .str t, .int l, .int c] ∧ H x = some (.ins CT dx []) ∧
  ∀ H' : Hp, Wd [x] H H' [(x, .ins CT dx (tkF k t l c))] → Q .non H'
abbrev sToken___init__ : Stmt := inClass (topS 30) 0
theorem scToken___init__ : FnScope ["self", "kind", "text", "line", "column"] ["self", "kind", "text", "line", "column"] (defScope sToken___init__) := ⟨rfl, rfl, rfl, by decide +kernel, rfl, by decide +kernel, by decide +kernel⟩
theorem mk_token (D : InitAt K mg "Token" "Token.__init__" CT sToken___init__ ["self", "kind", "text", "line", "column"]) (TC : TokCls K CT) : MkAt P w K mg base 1 "Token" CT ["self", "kind", "text", "line", "column"] (spTokI CT) := D.mk' fun f fd F => by
  have nd := scToken___init__.nd
  refine F.ok scToken___init__ (fun vs H Q E h => ?_) (fun cdv A outer s H vs Q E hr h => ?_)
  · obtain ⟨x, dx, k, t, l, c, rfl, _⟩ := h; rfl
  obtain ⟨x, dx, k, t, l, c, rfl, hx, q⟩ := h
  refine ⟨_, (pss_cons (ps_fld (pv 0) (pv 1) rfl)
 (pss_cons (ps_fld (pv 0) (pv 2) rfl)
 (pss_cons (ps_fld (pv 0) (pv 3) rfl)
 (pss_one (ps_fld (pv 0) (pv 4) rfl))))), ?_⟩
  have w0 := Wd.start1 hx
  refine ⟨_, rfl, _, rfl, x, CT, dx, [], rfl, hx, TC.cl, TC.nk, (by show 0 < 1000; decide), ?_⟩
  refine ⟨_, rfl, _, rfl, x, CT, dx, _, rfl, upd_same, TC.cl, TC.nt, (by show 1 < 1000; decide), ?_⟩
  have e1 : putF "text" (.str t) (putF "kind" (.str k) []) = [(("kind" : Str), V.str k), ("text", V.str t)] := putF_ne (by decide +kernel)
  refine ⟨_, rfl, _, rfl, x, CT, dx, _, rfl, upd_same, TC.cl, TC.nl, (by rw [e1]; show 2 < 1000; decide), ?_⟩
  have e2 : putF "line" (.int l) (putF "text" (.str t) (putF "kind" (.str k) [])) = [(("kind" : Str), V.str k), ("text", V.str t), ("line", V.int l)] := by
    rw [e1, putF_ne (by decide +kernel), putF_ne (by decide +kernel)]; rfl
  refine ⟨_, rfl, _, rfl, x, CT, dx, _, rfl, upd_same, TC.cl, TC.nc, (by rw [e2]; show 3 < 1000; decide), ?_⟩
  rw [tkF_new, upd_upd, upd_upd, upd_upd]
  exact q _ (w0.put 0 (.ins CT dx (tkF k t l c)) rfl (fun xs q => by cases q))
/-! run_end -/
def spRunEnd : Sp := fun vs H Q _ => ∃ (z ls : Str) (i : Nat), vs = [.str z, .int i, .str ls] ∧ i ≤ z.length ∧ z.length ≤ sizeLine ∧ Q (.int ((i : Int) + (((TL.tl z).drop i).takeWhile fun c => decide (c ∈ TL.tl ls)).length)) H
abbrev srun_end : Stmt := topS 31
theorem scrun_end : FnScope ["row", "start", "letters", "end"] ["row", "start", "letters"] (defScope srun_end) := ⟨rfl, rfl, rfl, by decide +kernel, rfl, by decide +kernel, by decide +kernel⟩
theorem cal_run_end (D : DefAt K mg "run_end" srun_end ["row", "start", "letters"]) (T : Bi mg) : Cal P w K mg base 1 "run_end" ["row", "start", "letters"] spRunEnd := D.cal fun f fd F => by
  have nd := scrun_end.nd
  refine F.ok scrun_end (fun vs H Q E h => ?_) (fun cdv A outer s H vs Q E hr h => ?_)
  · obtain ⟨z, ls, i, rfl, _⟩ := h; rfl
  obtain ⟨z, ls, i, rfl, hi, hz, q⟩ := h
  refine ⟨_, (pss_cons (ps_set (i := 3) nd rfl (Or.inl rfl) (pv 1))
 (pss_cons (ps_while PassesOwn.never (PW.pt (pw_and (pt_cmpR op_lt (pv 3) (pe_callB call_len_str (by rfl) T.len PySem.boot_len (pa_cons (pv 0) pa_nil)) (nomark _)) (pw_and1 (pt_cmpR op_in_sign (pe_ix ix_str (pv 0) (pv 3) (fun _ _ => rfl)) (pv 2) (by rfl)))))
 (pss_one (ps_aug (i := 3) nd rfl (Or.inl rfl) pe_int ip_add)))
 (pss_one (ps_ret (pv 3))))), ?_⟩
  have hl : ((TL.tl z).drop i).length = z.length - i := by rw [List.length_drop, ← TL.len_tl]
  generalize hp : (fun c => decide (c ∈ TL.tl ls)) = p at q
  have hw := run_le p ((TL.tl z).drop i)
  have hget : ∀ j : Nat, ((TL.tl z).drop i)[j]? = (TL.tl z)[i + j]? := fun j => List.getElem?_drop
  have hrun : ∀ (l : List Nat) (j : Nat), j ≤ (l.takeWhile p).length → ∀ c, l[j]? = some c → (p c = true ↔ j < (l.takeWhile p).length) := by
    intro l
    induction l with
    | nil => intro j _ c h; simp at h
    | cons a l ih =>
      intro j hj c hc
      rw [List.takeWhile_cons] at hj ⊢
      by_cases ha : p a = true
      · rw [if_pos ha, List.length_cons] at hj ⊢
        cases j with
        | zero => simp at hc; subst hc; simp [ha]
        | succ j =>
          have := ih j (by omega) c (by simpa using hc)
          exact this.trans ⟨fun h => by omega, fun h => by omega⟩
      · rw [if_neg ha] at hj ⊢
        have : j = 0 := by simpa using hj
        subst this
        simp at hc; subst hc
        simp [ha]
  generalize hn : (((TL.tl z).drop i).takeWhile p).length = n at q hw
  refine ⟨_, rfl, while_by (fun σ H' => H' = H ∧ ∃ j : Nat, j ≤ n ∧ σ = [some (.str z), some (.int i), some (.str ls), some (.int ((i : Int) + j))]) (fun σ _ => z.length - (slotI σ 3).toNat)
    ⟨rfl, 0, Nat.zero_le _, by simp; rfl⟩ ?_ ?_⟩
  · rintro σ H1 ⟨rfl, j, hj, rfl⟩
    refine ⟨_, rfl, _, rfl, z, rfl, hz, _, _, rfl, rfl, _, rfl, ?_⟩
    refine ite2 (fun hc => ?_) (fun hc => ?_)
    · have hlt : i + j < z.length := by have := of_decide_eq_true hc; omega
      have hlt' : i + j < (TL.tl z).length := by rw [← TL.len_tl]; exact hlt
      refine ⟨_, rfl, _, rfl, z, _, (TL.tl z)[i + j], rfl, rfl, hz, at_iN (j := i + j) (by omega) (List.getElem?_eq_getElem hlt'), _, rfl, _, ls, rfl, rfl, _, rfl, ?_⟩
      have hr := hrun ((TL.tl z).drop i) j (by rw [hn]; exact hj) (TL.tl z)[i + j] (by rw [hget]; exact List.getElem?_eq_getElem hlt')
      rw [hn] at hr
      refine ite2 (fun hc2 => ?_) (fun hc2 => ?_)
      · have hjn : j < n := hr.mp (by rw [← hp]; exact hc2)
        refine ⟨_, rfl, _, _, rfl, rfl, ⟨rfl, j + 1, hjn, ?_⟩, ?_⟩
        · show [_, _, _, some (V.int ((i : Int) + j + 1))] = _
          rw [show (i : Int) + j + 1 = (i : Int) + (j + 1 : Nat) by omega]
        · show z.length - ((i : Int) + j + 1).toNat < z.length - ((i : Int) + j).toNat
          omega
      · have hjn : j = n := by
          have : ¬ j < n := fun h => hc2 (by rw [← hp] at hr; exact hr.mpr h)
          omega
        subst hjn
        exact ⟨_, rfl, q⟩
    · have hjn : j = n := by
        have : ¬ (i : Int) + j < z.length := fun h => hc (decide_eq_true h)
        omega
      subst hjn
      exact ⟨_, rfl, q⟩
  · intro σ H Q Q' h hc
    obtain ⟨v3, e3, v0, e0, z, ez, hz, i, j, ei, ej, c, ec, hc⟩ := hc
    refine ⟨v3, e3, v0, e0, z, ez, hz, i, j, ei, ej, c, ec, ?_⟩
    cases c with
    | false => exact h _ _ hc
    | true =>
      obtain ⟨a1, a2, a3, a4, a5, a6, a7, a8, a9, b1, b2, b3, b4, b5, b6, b7, b8, b9, c1, c2⟩ := hc
      exact ⟨a1, a2, a3, a4, a5, a6, a7, a8, a9, b1, b2, b3, b4, b5, b6, b7, b8, b9, c1, h _ _ c2⟩
end
end Br

namespace Br
open PySem PySem.Spec PyProof.Rows L2
/-- the lexer's constants -/
structure LexC (K : PySem.W.Frag) (mg : Str → Option Value) : Prop where
  END_SIGN : ∃ t, mg "END_SIGN" = some (.str ";" t)
  SIGN : ∃ t, mg "SIGN" = some (.str "sign" t)
  DIGITS : ∃ t, mg "DIGITS" = some (.str "0123456789" t)
  MAX_DIGITS : ∃ t, mg "MAX_DIGITS" = some (.int 2 t)
  NUMBER : ∃ t, mg "NUMBER" = some (.str "number" t)
  LETTERS : ∃ t, mg "LETTERS" = some (.str "abcdefghijklmnopqrstuvwxyz" t)
  KEYWORDS : ∃ kw, mg "KEYWORDS" = some (.ref kw) ∧ ∀ H : Hp, SqT K H kw (kws.map V.str)
  KEYWORD : ∃ t, mg "KEYWORD" = some (.str "keyword" t)
  MAX_LETTERS : ∃ t, mg "MAX_LETTERS" = some (.int 8 t)
  NAME : ∃ t, mg "NAME" = some (.str "name" t)
  END : ∃ t, mg "END" = some (.str "end" t)
  SPACES : ∃ t, mg "SPACES" = some (.str " \n" t)
theorem inV_strs (x : Str) : ∀ l : List Str, inV (.str x) (l.map V.str) = decide (x ∈ l)
  | [] => by simp [inV]
  | y :: l => by
    have ih := inV_strs x l
    unfold inV at ih ⊢
    rw [List.map_cons, List.any_cons, ih, Bool.eq_iff_iff, Bool.or_eq_true, decide_eq_true_eq, decide_eq_true_eq, List.mem_cons]
    exact or_congr ⟨fun h => (eq_of_beq (show (y == x) = true from h)).symm, fun h => (show (y == x) = true from beq_iff_eq.mpr h.symm)⟩ Iff.rfl
theorem flat_strs' (l : List Str) : (l.map V.str).all flatV = true := by
  rw [List.all_eq_true]
  intro v hv
  obtain ⟨s, _, rfl⟩ := List.mem_map.mp hv
  rfl
section
variable {P : Program} {w : World} {K : PySem.W.Frag} {mg : Str → Option Value} {base : Heap} {CT : Addr}
def spReadTok (CT : Addr) : Sp := fun vs H Q _ => ∃ (z k t : Str) (line : Int) (col : Nat), vs = [.str z, .int line, .int col] ∧ z.length ≤ sizeLine ∧ tokAt ((TL.tl z).drop col) = some (k, t) ∧
  ∀ (x dx : Addr) (H' : Hp), Wd [] H H' [(x, .ins CT dx (tkF k t line col)), (dx, .own x)] → Q (.ref x) H'
theorem tok_fin {H H' : Hp} {x dx : Addr} {fs : List (Str × V)} (hx : H x = none) (hd : H dx = none) (ne : dx ≠ x) (c : Wd [x] (upd (upd H dx (.own x)) x (.ins CT dx [])) H' [(x, .ins CT dx fs)]) : Wd [] H H' [(x, .ins CT dx fs), (dx, .own x)] :=
  ((Wd.refl H).make CT hx hd ne).call1 (fun xs q => by cases q) c
abbrev sread_token : Stmt := topS 32
theorem scread_token : FnScope ["row", "line", "column", "first", "word"] ["row", "line", "column"] (defScope sread_token) := ⟨rfl, rfl, rfl, by decide +kernel, rfl, by decide +kernel, by decide +kernel⟩
theorem cal_read_token (D : DefAt K mg "read_token" sread_token ["row", "line", "column"]) (T : Bi mg) (C : LexC K mg) (C1 : Cal P w K mg base 1 "run_end" ["row", "start", "letters"] spRunEnd) (CM : MkAt P w K mg base 1 "Token" CT ["self", "kind", "text", "line", "column"] (spTokI CT)) :
    Cal P w K mg base 3 "read_token" ["row", "line", "column"] (spReadTok CT) := D.cal fun f fd F => by
  have nd := scread_token.nd
  obtain ⟨t1, c_END_SIGN⟩ := C.END_SIGN
  obtain ⟨t2, c_SIGN⟩ := C.SIGN
  obtain ⟨t3, c_DIGITS⟩ := C.DIGITS
  obtain ⟨t4, c_MAX_DIGITS⟩ := C.MAX_DIGITS
  obtain ⟨t5, c_NUMBER⟩ := C.NUMBER
  obtain ⟨t6, c_LETTERS⟩ := C.LETTERS
  obtain ⟨a_KEYWORDS, c_KEYWORDS, hkw⟩ := C.KEYWORDS
  obtain ⟨t7, c_KEYWORD⟩ := C.KEYWORD
  obtain ⟨t8, c_MAX_LETTERS⟩ := C.MAX_LETTERS
  obtain ⟨t9, c_NAME⟩ := C.NAME
  obtain ⟨f1, fd1, m_run_end, kp_run_end, b_run_end, G_run_end⟩ := C1.ex
  obtain ⟨f2, fd2, mC_Token, Mk_Token, b_Token, G_Token⟩ := CM.ex
  refine F.ok scread_token (fun vs H Q E h => ?_) (fun cdv A outer s H vs Q E hr h => ?_)
  · obtain ⟨z, k, t, line, col, rfl, _⟩ := h; rfl
  obtain ⟨z, k, t, line, col, rfl, hz, htok, q⟩ := h
  refine ⟨_, (pss_cons (ps_set (i := 3) nd rfl (Or.inl rfl) (pe_ix ix_str (pv 0) (pv 2) (fun _ _ => rfl)))
 (pss_cons (ps_if (pt_cmpR op_eq (pv 3) (pe_glob (v := .str ";") (by rfl) c_END_SIGN ⟨_, rfl⟩) (nomark _))
 (pss_one (ps_ret (pe_make Mk_Token G_Token (hr.mono (by first | decide | omega)) (by rfl) mC_Token b_Token .nil pass0 (pa_cons (pe_glob (v := .str "sign") (by rfl) c_SIGN ⟨_, rfl⟩) (pa_cons (pv 3) (pa_cons (pv 1) (pa_cons (pv 2) pa_nil)))))))
 pss_nil)
 (pss_cons (ps_if (pt_cmpR op_in_sign (pv 3) (pe_glob (v := .str "0123456789") (by rfl) c_DIGITS ⟨_, rfl⟩) (by rfl))
 (pss_cons (ps_set (i := 4) nd rfl (Or.inl rfl) (pe_slice sl_str (pv 0) (po_some (pv 2)) (po_some (pe_call G_run_end (hr.mono (by first | decide | omega)) (by rfl) m_run_end kp_run_end b_run_end .nil pass0 (pa_cons (pv 0) (pa_cons (pv 2) (pa_cons (pe_glob (v := .str "0123456789") (by rfl) c_DIGITS ⟨_, rfl⟩) pa_nil)))))))
 (pss_cons (ps_if (PW.pt (pw_or (pt_cmpR op_gt (pe_callB call_len_str (by rfl) T.len PySem.boot_len (pa_cons (pv 4) pa_nil)) (pe_glob (v := .int 2) (by rfl) c_MAX_DIGITS ⟨_, rfl⟩) (nomark _)) (pw_or1 (PW.pt (pw_and (pt_cmpR op_gt (pe_callB call_len_str (by rfl) T.len PySem.boot_len (pa_cons (pv 4) pa_nil)) pe_int (nomark _)) (pw_and1 (pt_cmpR op_eq (pv 3) pe_str (nomark _))))))))
 pss_never
 pss_nil)
 (pss_one (ps_ret (pe_make Mk_Token G_Token (hr.mono (by first | decide | omega)) (by rfl) mC_Token b_Token .nil pass0 (pa_cons (pe_glob (v := .str "number") (by rfl) c_NUMBER ⟨_, rfl⟩) (pa_cons (pv 4) (pa_cons (pv 1) (pa_cons (pv 2) pa_nil)))))))))
 pss_nil)
 (pss_cons (ps_set (i := 4) nd rfl (Or.inl rfl) (pe_slice sl_str (pv 0) (po_some (pv 2)) (po_some (pe_call G_run_end (hr.mono (by first | decide | omega)) (by rfl) m_run_end kp_run_end b_run_end .nil pass0 (pa_cons (pv 0) (pa_cons (pv 2) (pa_cons (pe_glob (v := .str "abcdefghijklmnopqrstuvwxyz") (by rfl) c_LETTERS ⟨_, rfl⟩) pa_nil)))))))
 (pss_cons (ps_if (pt_cmpR (r := rIn K false) op_in_seq (pv 4) (pe_glob (v := .ref a_KEYWORDS) (by rfl) c_KEYWORDS rfl) (by rfl))
 (pss_one (ps_ret (pe_make Mk_Token G_Token (hr.mono (by first | decide | omega)) (by rfl) mC_Token b_Token .nil pass0 (pa_cons (pe_glob (v := .str "keyword") (by rfl) c_KEYWORD ⟨_, rfl⟩) (pa_cons (pv 4) (pa_cons (pv 1) (pa_cons (pv 2) pa_nil)))))))
 pss_nil)
 (pss_cons (ps_if (pt_not (pt_chain op_le op_le pe_int (pe_callB call_len_str (by rfl) T.len PySem.boot_len (pa_cons (pv 4) pa_nil)) (pe_glob (v := .int 8) (by rfl) c_MAX_LETTERS ⟨_, rfl⟩)))
 pss_never
 pss_nil)
 (pss_one (ps_ret (pe_make Mk_Token G_Token (hr.mono (by first | decide | omega)) (by rfl) mC_Token b_Token .nil pass0 (pa_cons (pe_glob (v := .str "name") (by rfl) c_NAME ⟨_, rfl⟩) (pa_cons (pv 4) (pa_cons (pv 1) (pa_cons (pv 2) pa_nil))))))))))))), ?_⟩
  have hcol : col < (TL.tl z).length := by
    refine Nat.lt_of_not_le fun hle => ?_
    rw [List.drop_eq_nil_of_le hle] at htok
    cases htok
  have hcol' : col ≤ z.length := by rw [TL.len_tl]; omega
  obtain ⟨c, r, hcr⟩ : ∃ c r, (TL.tl z).drop col = c :: r := ⟨_, _, List.drop_eq_getElem_cons hcol⟩
  have hc : (TL.tl z)[col]? = some c := by
    have := congrArg (fun l => l[0]?) hcr
    simpa [List.getElem?_drop] using this
  have cutd : ∀ p : Nat → Bool, cutS z (some (col : Int)) (some ((col : Int) + (((TL.tl z).drop col).takeWhile p).length)) = ⟨((c :: r).takeWhile p).toArray⟩ := fun p => by
    rw [cut_run z col p hcol', hcr]
  have wl : ∀ p : Nat → Bool, (⟨((c :: r).takeWhile p).toArray⟩ : Str).length = ((c :: r).takeWhile p).length := fun p => by simp [Str.length]
  have hlen : (c :: r).length ≤ sizeLine := by
    have h2 := congrArg List.length hcr
    rw [List.length_drop, ← TL.len_tl] at h2
    exact Nat.le_trans (by omega) hz
  have wz : ∀ p : Nat → Bool, ((c :: r).takeWhile p).length ≤ sizeLine := fun p => Nat.le_trans (run_le p (c :: r)) hlen
  rw [hcr] at htok
  refine ⟨_, rfl, _, rfl, z, _, c, rfl, rfl, hz, atI_nat hc, ?_⟩
  have fs : decide (V.str ⟨#[c]⟩ = V.str ";") = decide (c = 59) := by
    rw [decide_eq_decide]
    constructor
    · intro h
      have := congrArg (fun v => match v with | V.str s => TL.tl s | _ => []) h
      have e : TL.tl (";" : Str) = [59] := by decide +kernel
      simp only [e] at this
      simpa [TL.tl] using this
    · rintro rfl; rfl
  refine ⟨_, rfl, rfl, _, rfl, ?_⟩
  rw [fs]
  simp only [tokAt] at htok
  by_cases h1 : c = 59
  · rw [if_pos h1] at htok
    cases htok
    subst h1
    refine ite2 (fun _ => ?_) (fun h => absurd (decide_eq_true rfl) h)
    refine ⟨_, rfl, _, rfl, _, rfl, fun x dx hx hd ne => ?_⟩
    exact ⟨x, dx, _, _, _, _, rfl, upd_same, fun H' c => ⟨rfl, q x dx H' (tok_fin hx hd ne c)⟩⟩
  rw [if_neg h1] at htok
  refine ite2 (fun h => absurd (of_decide_eq_true h) h1) (fun _ => ?_)
  refine ⟨_, rfl, c, "0123456789", rfl, rfl, _, rfl, ?_⟩
  have fd : decide (c ∈ ("0123456789" : Str).cps.toList) = dig c := rfl
  rw [fd]
  by_cases h2 : dig c = true
  · rw [if_pos h2] at htok
    refine ite2 (fun _ => ?_) (fun h => absurd h2 h)
    refine ⟨_, rfl, _, rfl, _, rfl, _, rfl, _, rfl, z, "0123456789", col, rfl, hcol', hz, _, rfl, z, rfl, hz, ?_⟩
    have e1 : cutS z (some (col : Int)) (some ((col : Int) + ((List.drop col (TL.tl z)).takeWhile fun c => decide (c ∈ TL.tl "0123456789")).length)) = ⟨((c :: r).takeWhile dig).toArray⟩ := cutd dig
    rw [e1]
    have h3 := wl dig
    have h4 := wz dig
    generalize hw : (c :: r).takeWhile dig = wd at *
    by_cases h5 : wd.length > 2 ∨ (wd.length > 1 ∧ c = 48)
    · rw [if_pos h5] at htok; cases htok
    rw [if_neg h5] at htok
    cases htok
    have f0 : decide (V.str ⟨#[c]⟩ = V.str "0") = decide (c = 48) := by
      rw [decide_eq_decide]
      constructor
      · intro h
        have := congrArg (fun v => match v with | V.str s => TL.tl s | _ => []) h
        have e : TL.tl ("0" : Str) = [48] := by decide +kernel
        simp only [e] at this
        simpa [TL.tl] using this
      · rintro rfl; rfl
    refine ⟨_, rfl, _, rfl, by rw [h3]; exact h4, _, _, rfl, rfl, _, rfl, ?_⟩
    refine ite2 (fun h => absurd (of_decide_eq_true h) (by rw [h3]; omega)) (fun _ => ?_)
    have fin : ∀ x dx, H x = none → H dx = none → dx ≠ x → spTokI CT (.ref x :: ([V.str "number", V.str ⟨wd.toArray⟩, V.int line, V.int col] ++ [])) (upd (upd H dx (.own x)) x (.ins CT dx [])) (fun v H2 => v = .non ∧ Q (.ref x) H2) E0 := fun x dx hx hd ne =>
      ⟨x, dx, _, _, _, _, rfl, upd_same, fun H' c => ⟨rfl, q x dx H' (tok_fin hx hd ne c)⟩⟩
    refine ⟨_, rfl, _, rfl, by rw [h3]; exact h4, _, _, rfl, rfl, _, rfl, ?_⟩
    refine ite2 (fun h6 => ?_) (fun _ => ⟨_, rfl, _, rfl, _, rfl, fin⟩)
    refine ⟨_, rfl, rfl, _, rfl, ?_⟩
    rw [f0]
    have h7 := of_decide_eq_true h6
    refine ite2 (fun h8 => absurd (of_decide_eq_true h8) (by rw [h3] at h7; omega)) (fun _ => ⟨_, rfl, _, rfl, _, rfl, fin⟩)
  rw [if_neg h2] at htok
  refine ite2 (fun h => absurd h h2) (fun _ => ?_)
  refine ⟨_, rfl, _, rfl, _, rfl, _, rfl, _, rfl, z, "abcdefghijklmnopqrstuvwxyz", col, rfl, hcol', hz, _, rfl, z, rfl, hz, ?_⟩
  have e1 : cutS z (some (col : Int)) (some ((col : Int) + ((List.drop col (TL.tl z)).takeWhile fun c => decide (c ∈ TL.tl "abcdefghijklmnopqrstuvwxyz")).length)) = ⟨((c :: r).takeWhile ltr).toArray⟩ := cutd ltr
  rw [e1]
  have h3 := wl ltr
  have h4 := wz ltr
  generalize hw : (c :: r).takeWhile ltr = wd at *
  have fin : ∀ x dx, H x = none → H dx = none → dx ≠ x → spTokI CT (.ref x :: ([V.str k, V.str ⟨wd.toArray⟩, V.int line, V.int col] ++ [])) (upd (upd H dx (.own x)) x (.ins CT dx [])) (fun v H2 => v = .non ∧ Q (.ref x) H2) E0 := fun x dx hx hd ne =>
    ⟨x, dx, _, _, _, _, rfl, upd_same, fun H' c => ⟨rfl, q x dx H' (by
      have ht : t = ⟨wd.toArray⟩ := by
        split at htok
        · cases htok; rfl
        · split at htok
          · cases htok; rfl
          · cases htok
      rw [ht]
      exact tok_fin hx hd ne c)⟩⟩
  refine ⟨_, rfl, a_KEYWORDS, kws.map V.str, rfl, .inr (hkw _), rfl, flat_strs' _, _, rfl, ?_⟩
  rw [if_neg Bool.false_ne_true, inV_strs]
  by_cases h5 : (⟨wd.toArray⟩ : Str) ∈ kws
  · rw [if_pos h5] at htok
    cases htok
    refine ite2 (fun _ => ?_) (fun h => absurd (decide_eq_true h5) h)
    exact ⟨_, rfl, _, rfl, _, rfl, fin⟩
  rw [if_neg h5] at htok
  refine ite2 (fun h => absurd (of_decide_eq_true h) h5) (fun _ => ?_)
  by_cases h6 : 1 ≤ wd.length ∧ wd.length ≤ 8
  · rw [if_pos h6] at htok
    cases htok
    refine ⟨_, rfl, _, rfl, by rw [h3]; exact h4, _, _, rfl, rfl, _, rfl, ?_⟩
    refine ite2 (fun _ => ?_) (fun h => absurd (decide_eq_true (by rw [h3]; omega)) h)
    refine ⟨_, _, rfl, rfl, _, rfl, ?_⟩
    refine ite2 (fun h => ?_) (fun _ => ?_)
    · rw [show decide ((((⟨wd.toArray⟩ : Str).length : Nat) : Int) ≤ 8) = true from decide_eq_true (by rw [h3]; omega)] at h
      cases h
    · exact ⟨_, rfl, _, rfl, _, rfl, fin⟩
  · rw [if_neg h6] at htok
    cases htok
end
end Br

namespace Br
open PySem PySem.Spec PyProof.Rows L2
/-! ### the whole lexer -/
/-- the tokens of a row -/
inductive LexR : List Nat → List (Str × Str) → Prop
  | nil : LexR [] []
  | space {c r ts} : c = 32 ∨ c = 10 → LexR r ts → LexR (c :: r) ts
  | tok {c r k t ts} : ¬ (c = 32 ∨ c = 10) → tokAt (c :: r) = some (k, t) → LexR ((c :: r).drop t.length) ts → LexR (c :: r) ((k, t) :: ts)
theorem tokAt_pos {l : List Nat} {k t : Str} (h : tokAt l = some (k, t)) : 1 ≤ t.length := by
  cases l with
  | nil => cases h
  | cons c r =>
    simp only [tokAt] at h
    split at h
    · cases h; decide
    · split at h
      · rename_i hd
        split at h
        · cases h
        · cases h
          show 1 ≤ ((c :: r).takeWhile dig).toArray.size
          rw [List.takeWhile_cons, if_pos hd]; simp
      · split at h
        · rename_i hk
          cases h
          have : ∀ s ∈ kws, 1 ≤ s.length := by decide
          exact this _ hk
        · split at h
          · rename_i hk
            cases h
            exact hk.1
          · cases h
theorem tokAt_len {l : List Nat} {k t : Str} {n : Nat} (h : tokAt l = some (k, t)) (hn : l.length ≤ n) : t.length ≤ n := by
  cases l with
  | nil => cases h
  | cons c r =>
    have hp : ∀ p : Nat → Bool, ((c :: r).takeWhile p).length ≤ n := fun p => Nat.le_trans (run_le p _) hn
    simp only [tokAt] at h
    split at h
    · cases h
      exact Nat.le_trans (show 1 ≤ (c :: r).length by simp) hn
    · split at h
      · split at h
        · cases h
        · cases h; exact hp dig
      · split at h
        · cases h; exact hp ltr
        · split at h
          · cases h; exact hp ltr
          · cases h
def Tks (CT : Addr) (H : Hp) (L : List (Addr × (Str × Str))) : Prop := ∀ q ∈ L, ∃ dx l c, H q.1 = some (.ins CT dx (tkF q.2.1 q.2.2 l c))
def trefs (L : List (Addr × (Str × Str))) : List V := L.map fun q => V.ref q.1
theorem trefs_len (L : List (Addr × (Str × Str))) : (trefs L).length = L.length := List.length_map ..
theorem Tks.nil {CT : Addr} {H : Hp} : Tks CT H [] := fun q h => nomatch h
theorem Tks.new {CT : Addr} {H : Hp} {L : List (Addr × (Str × Str))} (h : Tks CT H L) {p : Addr} {o : HO} (hp : H p = none) : Tks CT (upd H p o) L := fun q hq => by
  obtain ⟨dx, l, c, e⟩ := h q hq
  exact ⟨dx, l, c, by rw [upd_ne (ne_of_none e hp)]; exact e⟩
theorem Tks.put {CT : Addr} {H : Hp} {L : List (Addr × (Str × Str))} (h : Tks CT H L) {p : Addr} {o u : HO} (hp : H p = some u) (hu : ∀ dx fs, u ≠ .ins CT dx fs) : Tks CT (upd H p o) L := fun q hq => by
  obtain ⟨dx, l, c, e⟩ := h q hq
  exact ⟨dx, l, c, by rw [upd_ne (ne_of e hp (fun z => hu _ _ z.symm))]; exact e⟩
theorem Tks.call {CT : Addr} {H H' : Hp} {L : List (Addr × (Str × Str))} {l : List (Addr × HO)} (h : Tks CT H L) (c : Wd [] H H' l) : Tks CT H' L := fun q hq => by
  obtain ⟨dx, l, c', e⟩ := h q hq
  exact ⟨dx, l, c', c.base _ _ (by simp) e⟩
theorem Tks.snoc {CT : Addr} {H : Hp} {L : List (Addr × (Str × Str))} (h : Tks CT H L) {x dx : Addr} {k t : Str} {l c : Int} (e : H x = some (.ins CT dx (tkF k t l c))) : Tks CT H (L ++ [(x, (k, t))]) := fun q hq => by
  rcases List.mem_append.mp hq with hq | hq
  · exact h q hq
  · rw [List.mem_singleton.mp hq]; exact ⟨dx, l, c, e⟩
section
variable {P : Program} {w : World} {K : PySem.W.Frag} {mg : Str → Option Value} {base : Heap} {CT : Addr}
def spTokenize (CT : Addr) : Sp := fun vs H Q _ => ∃ (z : Str) (tss : List (List (Str × Str))), vs = [.str z] ∧ z.length + 2 ≤ sizeLine ∧ (Txt.split z "\n").length = tss.length ∧
  (∀ (i : Nat) row ts, (Txt.split z "\n")[i]? = some row → tss[i]? = some ts → row.length ≤ sizeLine ∧ LexR (TL.tl row) ts) ∧ tss.flatten.length < 1000 ∧ (Txt.split z "\n").length ≤ sizeLine ∧
  ∀ (p : Addr) (L : List (Addr × (Str × Str))) (H' : Hp), Wd [] H H' [(p, .lst (trefs L))] → Tks CT H' L → L.map (·.2) = tss.flatten ++ [(("end" : Str), ("" : Str))] → Q (.ref p) H'
abbrev stokenize : Stmt := topS 33
theorem sctokenize : FnScope ["source", "tokens", "rows", "line", "row", "column", "token"] ["source"] (defScope stokenize) := ⟨rfl, rfl, rfl, by decide +kernel, rfl, by decide +kernel, by decide +kernel⟩
theorem cal_tokenize (D : DefAt K mg "tokenize" stokenize ["source"]) (T : Bi mg) (C : LexC K mg) (TC : TokCls K CT) (C1 : Cal P w K mg base 3 "read_token" ["row", "line", "column"] (spReadTok CT)) (CM : MkAt P w K mg base 1 "Token" CT ["self", "kind", "text", "line", "column"] (spTokI CT)) :
    Cal P w K mg base 4 "tokenize" ["source"] (spTokenize CT) := D.cal fun f fd F => by
  have nd := sctokenize.nd
  obtain ⟨t1, c_SPACES⟩ := C.SPACES
  obtain ⟨t2, c_END⟩ := C.END
  obtain ⟨f1, fd1, m_read_token, kp_read_token, b_read_token, G_read_token⟩ := C1.ex
  obtain ⟨f2, fd2, mC_Token, Mk_Token, b_Token, G_Token⟩ := CM.ex
  refine F.ok sctokenize (fun vs H Q E h => ?_) (fun cdv A outer s H vs Q E hr h => ?_)
  · obtain ⟨z, k, rfl, _⟩ := h; rfl
  obtain ⟨z, tss, rfl, hz, hlen, hlex, hfew, hrows, q⟩ := h
  refine ⟨_, (pss_cons (ps_set (i := 1) nd rfl (Or.inl rfl) (pe_lst pa_nil))
 (pss_cons (ps_set (i := 2) nd rfl (Or.inl rfl) (pe_split (pv 0) pe_str))
 (pss_cons (ps_for PassesOwn.never rfl (pi_enum (by rfl) T.enumerate (pa_cons (pv 2) pa_nil)) (pg_tupK (K := K) (n := 2) rfl rfl (pgs_cons (pg_name (i := 3) nd rfl (Or.inl rfl)) (pgs_cons (pg_name (i := 4) nd rfl (Or.inl rfl)) pgs_nil)))
 (pss_cons (ps_set (i := 5) nd rfl (Or.inl rfl) pe_int)
 (pss_one (ps_while PassesOwn.never (pt_cmpR op_lt (pv 5) (pe_callB call_len_str (by rfl) T.len PySem.boot_len (pa_cons (pv 4) pa_nil)) (nomark _))
 (pss_one (ps_if (pt_cmpR op_in_sign (pe_ix ix_str (pv 4) (pv 5) (fun _ _ => rfl)) (pe_glob (v := .str " \n") (by rfl) c_SPACES ⟨_, rfl⟩) (by rfl))
 (pss_one (ps_aug (i := 5) nd rfl (Or.inl rfl) pe_int ip_add))
 (pss_cons (ps_set (i := 6) nd rfl (Or.inl rfl) (pe_call G_read_token (hr.mono (by first | decide | omega)) (by rfl) m_read_token kp_read_token b_read_token .nil pass0 (pa_cons (pv 4) (pa_cons (pv 3) (pa_cons (pv 5) pa_nil)))))
 (pss_cons (ps_expr (pe_bmK (K := K) rfl PySem.F.plainAttrs_list PySem.F.slot_list_append PySem.F.type_list_append mt_append (pv 1) (pa_cons (pv 6) pa_nil)))
 (pss_one (ps_aug (i := 5) nd rfl (Or.inl rfl) (pe_callB call_len_str (by rfl) T.len PySem.boot_len (pa_cons (pe_fldK (K := K) rfl (pv 6) rfl) pa_nil)) ip_add))))))))))
 (pss_one (ps_ret (pe_op op_cat (pv 1) (pe_lst (pa_cons (pe_make Mk_Token G_Token (hr.mono (by first | decide | omega)) (by rfl) mC_Token b_Token .nil pass0 (pa_cons (pe_glob (v := .str "end") (by rfl) c_END ⟨_, rfl⟩) (pa_cons pe_str (pa_cons (pe_callB (r := rLenS K) call_len_seq (by rfl) T.len PySem.boot_len (pa_cons (pv 2) pa_nil)) (pa_cons pe_int pa_nil))))) pa_nil)))))))), ?_⟩
  refine ⟨(by show 0 ≤ sizeLine; decide), fun p hp => ?_⟩
  have w1 := (Wd.refl H).new (.lst []) hp
  refine ⟨_, rfl, ⟨_, rfl⟩, z, "\n", rfl, rfl, rfl, hz, fun rr hrr => ?_⟩
  generalize hR : Txt.split z "\n" = rows at *
  have w2 := w1.new1 (.lst (rows.map V.str)) hrr
  have w2s := w2
  refine ⟨_, rfl, rr, rows.map V.str, rfl, SqL.of (w2.get 1 rfl), ?_⟩
  refine for_it (walk_enum (xs := rows.map V.str)) (fun i σ H1 => ∃ (L : List (Addr × (Str × Str))) (a b c d : Option V), σ = [some (.str z), some (.ref p), some (.ref rr), a, b, c, d] ∧
    Wd [] H H1 [(p, .lst (trefs L)), (rr, .lst (rows.map V.str))] ∧ Tks CT H1 L ∧ L.map (·.2) = (tss.take i).flatten) ?_ ?_ ?_ ?_
  · exact ⟨[], _, _, _, _, rfl, w2, Tks.nil, rfl⟩
  · rintro i σ H1 _ ⟨L, a, b, c, d, rfl, w, _⟩
    exact SqL.of (w.get 1 rfl)
  · rintro i x σ H1 H1' hi ⟨L, a, b, c, d, rfl, w3, hT, hL⟩ ⟨T0, x1, x2, rfl, hT0, rfl, e1, e2⟩
    cases e1
    obtain ⟨row, hrow, rfl⟩ : ∃ row, rows[i]? = some row ∧ x2 = V.str row := by
      have e3 : (rows.map V.str)[i]? = some x2 := e2
      rw [List.getElem?_map] at e3
      cases e : rows[i]? with
      | none => rw [e] at e3; cases e3
      | some b => rw [e] at e3; exact ⟨b, rfl, (Option.some.inj e3).symm⟩
    have hil : i < tss.length := by rw [← hlen]; exact (List.getElem?_eq_some_iff.mp hrow).1
    obtain ⟨ts, hts⟩ : ∃ ts, tss[i]? = some ts := ⟨_, List.getElem?_eq_getElem hil⟩
    obtain ⟨hrl, hx⟩ := hlex i row ts hrow hts
    have w4 := (w3.new (.tup [.int (i : Nat), .str row]) hT0)
    have hfl : (tss.take (i + 1)).flatten = (tss.take i).flatten ++ ts := by
      rw [List.take_succ, hts]; simp
    have hle : (tss.take (i + 1)).flatten.length ≤ tss.flatten.length := by
      conv => rhs; rw [← List.take_append_drop (i + 1) tss]
      rw [List.flatten_append, List.length_append]; omega
    refine ⟨T0, _, rfl, SqT.of (w4.get 0 rfl), rfl, _, _, rfl, _, _, rfl, rfl, ?_⟩
    refine while_by (fun σ H' => ∃ (L : List (Addr × (Str × Str))) (col : Nat) (d : Option V), σ = [some (.str z), some (.ref p), some (.ref rr), some (.int (i : Nat)), some (.str row), some (.int col), d] ∧
      Wd [] H H' [(p, .lst (trefs L)), (rr, .lst (rows.map V.str))] ∧ Tks CT H' L ∧ ∃ rest, LexR ((TL.tl row).drop col) rest ∧ L.map (·.2) ++ rest = (tss.take (i + 1)).flatten) (fun σ _ => row.length - (slotI σ 5).toNat)
      ⟨L, 0, d, rfl, w4.sub (by walk_at "sub"), hT.new hT0, ts, hx, by rw [hL, hfl]⟩ ?_ ?_
    · rintro σ H2 ⟨L2, col, d2, rfl, w5, hT2, rest, hx2, hL2⟩
      refine ⟨_, rfl, _, rfl, row, rfl, hrl, _, _, rfl, rfl, _, rfl, ?_⟩
      refine ite2 (fun hc => ?_) (fun hc => ?_)
      · have hlt : col < row.length := by have := of_decide_eq_true hc; omega
        have hlt' : col < (TL.tl row).length := by rw [← TL.len_tl]; exact hlt
        have hdr := List.drop_eq_getElem_cons hlt'
        have hget := List.getElem?_eq_getElem hlt'
        generalize (TL.tl row)[col] = c0 at hdr hget
        refine ⟨_, rfl, _, rfl, row, _, c0, rfl, rfl, hrl, atI_nat hget, c0, " \n", rfl, rfl, _, rfl, ?_⟩
        have fsp : decide (c0 ∈ (" \n" : Str).cps.toList) = decide (c0 = 32 ∨ c0 = 10) := by
          have e : (" \n" : Str).cps.toList = [32, 10] := by decide +kernel
          rw [e]; simp
        rw [fsp]
        rw [hdr] at hx2
        have hcols : (TL.tl row).drop (col + 1) = ((TL.tl row).drop col).drop 1 := by rw [List.drop_drop]
        refine ite2 (fun hs => ?_) (fun hs => ?_)
        · have hs := of_decide_eq_true hs
          refine ⟨_, rfl, _, _, rfl, rfl, ⟨L2, col + 1, d2, ?_, w5, hT2, rest, ?_, hL2⟩, ?_⟩
          · show [_, _, _, _, _, some (V.int ((col : Int) + 1)), _] = _
            rw [show (col : Int) + 1 = ((col + 1 : Nat) : Int) by omega]
          · cases hx2 with
            | space _ h => exact h
            | tok h => exact absurd hs h
          · show row.length - ((col : Int) + 1).toNat < row.length - ((col : Int)).toNat
            omega
        · have hs : ¬ (c0 = 32 ∨ c0 = 10) := fun h => hs (decide_eq_true h)
          cases hx2 with
          | space h => exact absurd h hs
          | @tok _ _ k t ts2 _ ht hx3 =>
          have hpos := tokAt_pos ht
          refine ⟨_, rfl, _, rfl, _, rfl, row, k, t, (i : Nat), col, rfl, hrl, by rw [hdr]; exact ht, fun x dx H3 c => ?_⟩
          have w6 := w5.call0 c
          have hT3 := (hT2.call c).snoc (w6.get 0 rfl)
          refine ⟨_, rfl, .inl ⟨rfl, _, SqL.of (w6.get 2 rfl)⟩, _, rfl, ?_⟩
          have hLl : (L2 ++ [(x, (k, t))]).length ≤ tss.flatten.length := by
            have := congrArg List.length hL2
            rw [List.length_append, List.length_map, List.length_cons] at this
            rw [List.length_append]
            show L2.length + 1 ≤ _
            omega
          refine ⟨p, _, _, rfl, rfl, w6.get 2 rfl, ?_, ?_⟩
          · rw [trefs_len]
            have hL9 : L2.length + 1 ≤ tss.flatten.length := by simpa using hLl
            exact Nat.lt_of_lt_of_le (m := 1000) (by omega) (by decide)
          have w7 := w6.put 2 (.lst (trefs L2 ++ [.ref x])) rfl (fun xs q => by cases q)
          have hT4 := hT3.put (p := p) (o := .lst (trefs L2 ++ [.ref x])) (w6.get 2 rfl) (fun _ _ q => by cases q)
          have hTx := hT4 (x, (k, t)) (by simp)
          obtain ⟨dx2, l2, c2, hTx⟩ := hTx
          have htl : t.length ≤ sizeLine := tokAt_len ht (by
            have h2 := congrArg List.length hdr
            rw [List.length_drop, ← TL.len_tl] at h2
            rw [← h2]
            exact Nat.le_trans (Nat.sub_le _ _) hrl)
          refine ⟨_, rfl, _, rfl, x, CT, dx2, _, _, rfl, hTx, TC.cl, TC.nt, tk_text k t _ _, t, rfl, htl, _, _, rfl, rfl, ⟨L2 ++ [(x, (k, t))], col + t.length, some (.ref x), ?_, ?_, hT4, ts2, ?_, ?_⟩, ?_⟩
          · show [_, _, _, _, _, some (V.int ((col : Int) + t.length)), _] = _
            rw [show (col : Int) + t.length = ((col + t.length : Nat) : Int) by omega]
          · have w8 := w7.sub (l' := [(p, HO.lst (trefs L2 ++ [.ref x])), (rr, .lst (rows.map V.str))]) (by walk_at "sub")
            have e : trefs (L2 ++ [(x, (k, t))]) = trefs L2 ++ [.ref x] := by simp [trefs]
            rw [e]; exact w8
          · rw [← hdr, List.drop_drop] at hx3
            exact hx3
          · rw [← hL2, List.map_append, List.append_assoc]; rfl
          · show row.length - ((col : Int) + t.length).toNat < row.length - ((col : Int)).toNat
            omega
      · have hge : (TL.tl row).drop col = [] := List.drop_eq_nil_of_le (by
          rw [← TL.len_tl]
          have : ¬ (col : Int) < row.length := fun h => hc (decide_eq_true h)
          omega)
        rw [hge] at hx2
        cases hx2
        rw [List.append_nil] at hL2
        exact ⟨L2, _, _, _, _, rfl, w5, hT2, hL2⟩
    · intro σ H Q Q' h hc
      obtain ⟨v5, e5, v4, e4, zz, ez, hzz, i1, i2, ei1, ei2, hc⟩ := hc
      refine ⟨v5, e5, v4, e4, zz, ez, hzz, i1, i2, ei1, ei2, ?_⟩
      obtain ⟨b, hb, hc⟩ := hc
      exact ⟨b, hb, h _ _ hc⟩
  · rintro σ H1 ⟨L, a, b, c, d, rfl, w3, hT, hL⟩
    rw [List.length_map, hlen, List.take_length] at hL
    refine ⟨_, rfl, _, rfl, rr, _, rfl, .inl (SqL.of (w3.get 1 rfl)), fun x dx hx hd ne => ?_⟩
    refine ⟨x, dx, _, _, _, _, rfl, upd_same, fun H2 c2 => ⟨rfl, (by show 1 ≤ sizeLine; decide), fun pl hpl => ?_⟩⟩
    have w4 := w3.call0 (tok_fin hx hd ne c2)
    have hT2 := (hT.call (tok_fin hx hd ne c2)).snoc (w4.get 0 rfl)
    have w5 := w4.new (.lst [V.ref x]) hpl
    have hT3 := hT2.new (o := .lst [V.ref x]) hpl
    have hLl : L.length = tss.flatten.length := by rw [← hL, List.length_map]
    refine ⟨p, pl, _, _, rfl, rfl, w5.get 3 rfl, w5.get 0 rfl, ?_, fun p2 hp2 => ?_⟩
    · rw [trefs_len, hLl]
      exact Nat.le_trans (m := 1000) (by show _ + 1 ≤ _; omega) (by decide)
    · refine q p2 (L ++ [(x, (("end" : Str), ("" : Str)))]) _ ?_ (hT3.new hp2) (by rw [List.map_append, hL]; rfl)
      have e : trefs (L ++ [(x, (("end" : Str), ("" : Str)))]) = trefs L ++ [.ref x] := by simp [trefs]
      rw [e]
      exact (w5.new (.lst (trefs L ++ [.ref x])) hp2).sub (.cons₂ _ (List.nil_sublist _))
end
end Br

namespace Br
open PySem PySem.Spec PyProof.Rows L2
/-! ### the parser: frames -/
theorem Wd.fput {M : List Addr} {H0 H : Hp} {p : Addr} {u : HO} (c : Wd M H0 H []) (o : HO) (hp : H0 p = none ∨ p ∈ M) (hH : H p = some u) (hn : ∀ xs, u ≠ .tup xs) : Wd M H0 (upd H p o) [] :=
  ⟨fun b v hb e => by
    have : b ≠ p := fun z => by
      subst z
      rcases hp with q | q
      · rw [q] at e; cases e
      · exact hb q
    rw [upd_ne this]; exact c.base b v hb e,
   fun b v e => by
    have : b ≠ p := fun z => by
      subst z
      have := c.tups b v e
      rw [hH] at this
      exact hn v (Option.some.inj this)
    rw [upd_ne this]; exact c.tups b v e,
   fun _ h => (nomatch h), fun _ h => (nomatch h), List.nodup_nil, fun b e => c.free b (by
    by_cases hb : b = p
    · subst hb; rw [upd_same] at e; cases e
    · rw [upd_ne hb] at e; exact e)⟩
theorem Wd.fnew {M : List Addr} {H0 H : Hp} (c : Wd M H0 H []) {p : Addr} (o : HO) (hp : H p = none) : Wd M H0 (upd H p o) [] := (c.new o hp).sub (List.nil_sublist _)
theorem Wd.fgo {M : List Addr} {H0 H H' : Hp} (c : Wd M H0 H []) (d : Wd M H H' []) : Wd M H0 H' [] :=
  ⟨fun b o hb e => d.base b o hb (c.base b o hb e), fun b xs e => d.tups b xs (c.tups b xs e), fun _ h => (nomatch h), fun _ h => (nomatch h), List.nodup_nil, fun p e => c.free p (d.free p e)⟩
theorem Wd.frefl (M : List Addr) (H : Hp) : Wd M H H [] := (Wd.refl H).mono fun _ h => nomatch h
structure Pz where
  x : Addr
  dx : Addr
  tk : Addr
  fl : Addr
  nl : Addr
  al : Addr
structure Pv where
  n : Nat
  names : List Str
  aws : List (Addr × (Int × Int × Int))
  W : Option (Addr × List Int)
  M : Option (Addr × List Int)
def oV : Option (Addr × List Int) → V
  | none => .non
  | some p => .ref p.1
def pF (z : Pz) (s : Pv) : List (Str × V) := [("tokens", .ref z.tk), ("at", .int s.n), ("faults", .ref z.fl), ("names", .ref z.nl), ("weights", oV s.W), ("makers", oV s.M), ("aways", .ref z.al)]
def Pz.mut (z : Pz) : List Addr := [z.x, z.nl, z.al]
def arefs (l : List (Addr × (Int × Int × Int))) : List V := l.map fun q => V.ref q.1
theorem pf_none {z : Pz} {s : Pv} {m : Str} (h : ∀ f ∈ (["tokens", "at", "faults", "names", "weights", "makers", "aways"] : List Str), (m == f) = false) : (pF z s).lookup m = none := by
  unfold pF
  rw [look_ne (h _ (by simp)), look_ne (h _ (by simp)), look_ne (h _ (by simp)), look_ne (h _ (by simp)), look_ne (h _ (by simp)), look_ne (h _ (by simp)), look_ne (h _ (by simp))]
  rfl
section
variable {z : Pz} {s : Pv}
theorem pf_tokens : (pF z s).lookup ("tokens" : Str) = some (.ref z.tk) := look_eq
theorem pf_at : (pF z s).lookup ("at" : Str) = some (.int s.n) := (look_ne (by decide +kernel)).trans look_eq
theorem pf_faults : (pF z s).lookup ("faults" : Str) = some (.ref z.fl) := (look_ne (by decide +kernel)).trans ((look_ne (by decide +kernel)).trans look_eq)
theorem pf_names : (pF z s).lookup ("names" : Str) = some (.ref z.nl) := (look_ne (by decide +kernel)).trans ((look_ne (by decide +kernel)).trans ((look_ne (by decide +kernel)).trans look_eq))
theorem pf_weights : (pF z s).lookup ("weights" : Str) = some (oV s.W) := (look_ne (by decide +kernel)).trans ((look_ne (by decide +kernel)).trans ((look_ne (by decide +kernel)).trans ((look_ne (by decide +kernel)).trans look_eq)))
theorem pf_makers : (pF z s).lookup ("makers" : Str) = some (oV s.M) := (look_ne (by decide +kernel)).trans ((look_ne (by decide +kernel)).trans ((look_ne (by decide +kernel)).trans ((look_ne (by decide +kernel)).trans ((look_ne (by decide +kernel)).trans look_eq))))
theorem pf_aways : (pF z s).lookup ("aways" : Str) = some (.ref z.al) := (look_ne (by decide +kernel)).trans ((look_ne (by decide +kernel)).trans ((look_ne (by decide +kernel)).trans ((look_ne (by decide +kernel)).trans ((look_ne (by decide +kernel)).trans ((look_ne (by decide +kernel)).trans look_eq)))))
theorem pf_putAt (n : Nat) : putF "at" (.int n) (pF z s) = pF z { s with n := n } := by
  unfold pF
  rw [putF_ne (by decide +kernel)]; rfl
theorem pf_putW (p : Addr × List Int) : putF "weights" (.ref p.1) (pF z s) = pF z { s with W := some p } := by
  unfold pF
  rw [putF_ne (by decide +kernel), putF_ne (by decide +kernel), putF_ne (by decide +kernel), putF_ne (by decide +kernel)]; rfl
theorem pf_putM (p : Addr × List Int) : putF "makers" (.ref p.1) (pF z s) = pF z { s with M := some p } := by
  unfold pF
  rw [putF_ne (by decide +kernel), putF_ne (by decide +kernel), putF_ne (by decide +kernel), putF_ne (by decide +kernel), putF_ne (by decide +kernel)]; rfl
end
structure PAt (CP CT : Addr) (z : Pz) (L : List (Addr × (Str × Str))) (s : Pv) (H : Hp) : Prop where
  ob : H z.x = some (.ins CP z.dx (pF z s))
  tk : H z.tk = some (.lst (trefs L))
  ts : Tks CT H L
  fl : H z.fl = some (.lst [])
  nl : H z.nl = some (.lst (s.names.map V.str))
  al : H z.al = some (.lst (arefs s.aws))
  aw : ∀ q ∈ s.aws, H q.1 = some (.tup (tri q.2))
  w : ∀ p, s.W = some p → H p.1 = some (.tup (p.2.map V.int))
  m : ∀ p, s.M = some p → H p.1 = some (.tup (p.2.map V.int))
  ne : [z.x, z.tk, z.fl, z.nl, z.al].Nodup
  cn : CT ≠ CP
section
variable {CP CT : Addr} {z : Pz} {L : List (Addr × (Str × Str))} {s : Pv} {H : Hp}
theorem PAt.new (h : PAt CP CT z L s H) {p : Addr} (o : HO) (hp : H p = none) : PAt CP CT z L s (upd H p o) := by
  have k : ∀ {b : Addr} {u : HO}, H b = some u → upd H p o b = some u := fun e => by rw [upd_ne (ne_of_none e hp)]; exact e
  exact ⟨k h.ob, k h.tk, h.ts.new hp, k h.fl, k h.nl, k h.al, fun q hq => k (h.aw q hq), fun q hq => k (h.w q hq), fun q hq => k (h.m q hq), h.ne, h.cn⟩
/-- the object itself -/
theorem PAt.setX (h : PAt CP CT z L s H) (s' : Pv) (e1 : s'.names = s.names) (e2 : s'.aws = s.aws) (hw : ∀ p, s'.W = some p → H p.1 = some (.tup (p.2.map V.int))) (hm : ∀ p, s'.M = some p → H p.1 = some (.tup (p.2.map V.int))) :
    PAt CP CT z L s' (upd H z.x (.ins CP z.dx (pF z s'))) := by
  have k : ∀ {b : Addr} {u : HO}, H b = some u → (∀ dx fs, u ≠ .ins CP dx fs) → upd H z.x (.ins CP z.dx (pF z s')) b = some u := fun e n => by rw [upd_ne (ne_of e h.ob (n _ _))]; exact e
  refine ⟨upd_same, k h.tk (fun _ _ q => by cases q), fun q hq => ?_, k h.fl (fun _ _ q => by cases q), k (by rw [e1]; exact h.nl) (fun _ _ q => by cases q), k (by rw [e2]; exact h.al) (fun _ _ q => by cases q), fun q hq => k (h.aw q (by rw [← e2]; exact hq)) (fun _ _ q => by cases q),
    fun q hq => k (hw q hq) (fun _ _ q => by cases q), fun q hq => k (hm q hq) (fun _ _ q => by cases q), h.ne, h.cn⟩
  obtain ⟨dx, l, c, e⟩ := h.ts q hq
  exact ⟨dx, l, c, k e (fun _ _ q => by injection q with q1; exact h.cn q1)⟩
theorem PAt.setN (h : PAt CP CT z L s H) (ns : List Str) : PAt CP CT z L { s with names := ns } (upd H z.nl (.lst (ns.map V.str))) := by
  have hn := h.ne
  simp only [List.nodup_cons, List.mem_cons, List.not_mem_nil, or_false, not_or] at hn
  have k : ∀ {b : Addr} {u : HO}, H b = some u → b ≠ z.nl → upd H z.nl (.lst (ns.map V.str)) b = some u := fun e n => by rw [upd_ne n]; exact e
  have k2 : ∀ {b : Addr} {u : HO}, H b = some u → (∀ xs, u ≠ .lst xs) → upd H z.nl (.lst (ns.map V.str)) b = some u := fun e n => k e (ne_of e h.nl (n _))
  refine ⟨k h.ob hn.1.2.2.1, k h.tk hn.2.1.2.1, fun q hq => ?_, k h.fl hn.2.2.1.1, upd_same, k h.al (Ne.symm hn.2.2.2.1), fun q hq => k2 (h.aw q hq) (fun _ q => by cases q), fun q hq => k2 (h.w q hq) (fun _ q => by cases q), fun q hq => k2 (h.m q hq) (fun _ q => by cases q), h.ne, h.cn⟩
  obtain ⟨dx, l, c, e⟩ := h.ts q hq
  exact ⟨dx, l, c, k2 e (fun _ q => by cases q)⟩
theorem PAt.setA (h : PAt CP CT z L s H) (as : List (Addr × (Int × Int × Int))) (ha : ∀ q ∈ as, H q.1 = some (.tup (tri q.2))) : PAt CP CT z L { s with aws := as } (upd H z.al (.lst (arefs as))) := by
  have hn := h.ne
  simp only [List.nodup_cons, List.mem_cons, List.not_mem_nil, or_false, not_or] at hn
  have k : ∀ {b : Addr} {u : HO}, H b = some u → b ≠ z.al → upd H z.al (.lst (arefs as)) b = some u := fun e n => by rw [upd_ne n]; exact e
  have k2 : ∀ {b : Addr} {u : HO}, H b = some u → (∀ xs, u ≠ .lst xs) → upd H z.al (.lst (arefs as)) b = some u := fun e n => k e (ne_of e h.al (n _))
  refine ⟨k h.ob hn.1.2.2.2, k h.tk hn.2.1.2.2, fun q hq => ?_, k h.fl hn.2.2.1.2, k h.nl hn.2.2.2.1, upd_same, fun q hq => k2 (ha q hq) (fun _ q => by cases q), fun q hq => k2 (h.w q hq) (fun _ q => by cases q), fun q hq => k2 (h.m q hq) (fun _ q => by cases q), h.ne, h.cn⟩
  obtain ⟨dx, l, c, e⟩ := h.ts q hq
  exact ⟨dx, l, c, k2 e (fun _ q => by cases q)⟩
/-- a list of ours -/
theorem PAt.putL (h : PAt CP CT z L s H) {p : Addr} {l : List V} {o : HO} (hp : H p = some (.lst l)) (hm : p ∉ z.mut) (h1 : z.tk ≠ p) (h2 : z.fl ≠ p) : PAt CP CT z L s (upd H p o) := by
  simp only [Pz.mut, List.mem_cons, List.not_mem_nil, or_false, not_or] at hm
  have k : ∀ {b : Addr} {u : HO}, H b = some u → b ≠ p → upd H p o b = some u := fun e n => by rw [upd_ne n]; exact e
  have k2 : ∀ {b : Addr} {u : HO}, H b = some u → (∀ xs, u ≠ .lst xs) → upd H p o b = some u := fun e n => k e (ne_of e hp (n _))
  refine ⟨k h.ob (Ne.symm hm.1), k h.tk h1, fun q hq => ?_, k h.fl h2, k h.nl (Ne.symm hm.2.1), k h.al (Ne.symm hm.2.2), fun q hq => k2 (h.aw q hq) (fun _ q => by cases q), fun q hq => k2 (h.w q hq) (fun _ q => by cases q), fun q hq => k2 (h.m q hq) (fun _ q => by cases q), h.ne, h.cn⟩
  obtain ⟨dx, l, c, e⟩ := h.ts q hq
  exact ⟨dx, l, c, k2 e (fun _ q => by cases q)⟩
/-- what follows at the n-th token -/
def TkAt (L : List (Addr × (Str × Str))) (n : Nat) (ts : List (Str × Str)) : Prop := (L.map Prod.snd).drop n = ts
theorem TkAt.cons {n : Nat} {t : Str × Str} {ts : List (Str × Str)} (h : TkAt L n (t :: ts)) : (∃ a, L[n]? = some (a, t)) ∧ TkAt L (n + 1) ts := by
  unfold TkAt at h ⊢
  have e : (L.map Prod.snd)[n]? = some t := by
    have := congrArg (fun l => l[0]?) h
    simpa [List.getElem?_drop] using this
  rw [List.getElem?_map] at e
  refine ⟨?_, ?_⟩
  · cases hL : L[n]? with
    | none => rw [hL] at e; cases e
    | some q =>
      rw [hL] at e
      obtain ⟨a, b⟩ := q
      exact ⟨a, by cases e; rfl⟩
  · rw [← List.drop_drop, h]; rfl
theorem TkAt.app {n : Nat} {ts us : List (Str × Str)} (h : TkAt L n (ts ++ us)) : TkAt L (n + ts.length) us := by
  unfold TkAt at h ⊢
  rw [← List.drop_drop, h, List.drop_left]
theorem trefs_at {n : Nat} {a : Addr} {t : Str × Str} (h : L[n]? = some (a, t)) : atI (trefs L) (n : Int) = some (.ref a) := by
  refine atI_nat ?_
  unfold trefs
  rw [List.getElem?_map, h]; rfl
end
structure ParCls (K : PySem.W.Frag) (CP : Addr) : Prop where
  cl : Cls K CP
  n1 : NoAttr K CP "tokens"
  n2 : NoAttr K CP "at"
  n3 : NoAttr K CP "faults"
  n4 : NoAttr K CP "names"
  n5 : NoAttr K CP "weights"
  n6 : NoAttr K CP "makers"
  n7 : NoAttr K CP "aways"
section
variable {P : Program} {w : World} {K : PySem.W.Frag} {mg : Str → Option Value} {base : Heap} {CT CP : Addr}
abbrev sParser___init__ : Stmt := inClass (topS 40) 0
theorem scParser___init__ : FnScope ["self", "tokens"] ["self", "tokens"] (defScope sParser___init__) := ⟨rfl, rfl, rfl, by decide +kernel, rfl, by decide +kernel, by decide +kernel⟩
def spParI (CP CT : Addr) : Sp := fun vs H Q _ => ∃ (x dx tk : Addr) (L : List (Addr × (Str × Str))), vs = [.ref x, .ref tk] ∧ H x = some (.ins CP dx []) ∧ H tk = some (.lst (trefs L)) ∧ Tks CT H L ∧ CT ≠ CP ∧
  ∀ (z : Pz) (H' : Hp), z.x = x → Wd [x] H H' [] → PAt CP CT z L ⟨0, [], [], none, none⟩ H' → H z.nl = none → H z.al = none → Q .non H'
theorem mk_parser (D : InitAt K mg "Parser" "Parser.__init__" CP sParser___init__ ["self", "tokens"]) (PC : ParCls K CP) : MkAt P w K mg base 1 "Parser" CP ["self", "tokens"] (spParI CP CT) := D.mk' fun f fd F => by
  have nd := scParser___init__.nd
  refine F.ok scParser___init__ (fun vs H Q E h => ?_) (fun cdv A outer s H vs Q E hr h => ?_)
  · obtain ⟨x, dx, tk, L, rfl, _⟩ := h; rfl
  obtain ⟨x, dx, tk, L, rfl, hx, htk, hT, cn, q⟩ := h
  refine ⟨_, (pss_cons (ps_fld (pv 0) (pv 1) rfl)
 (pss_cons (ps_fld (pv 0) pe_int rfl)
 (pss_cons (ps_fld (pv 0) (pe_lst pa_nil) rfl)
 (pss_cons (ps_fld (pv 0) (pe_lst pa_nil) rfl)
 (pss_cons (ps_fld (pv 0) pe_non rfl)
 (pss_cons (ps_fld (pv 0) pe_non rfl)
 (pss_one (ps_fld (pv 0) (pe_lst pa_nil) rfl)))))))), ?_⟩
  have hxt : x ≠ tk := ne_of hx htk (by simp)
  have c0 := Wd.frefl [x] H
  have e1 : putF "tokens" (.ref tk) [] = [(("tokens" : Str), V.ref tk)] := rfl
  have e2 : putF "at" (.int 0) [(("tokens" : Str), V.ref tk)] = [(("tokens" : Str), V.ref tk), ("at", .int 0)] := by rw [putF_ne (by decide +kernel)]; rfl
  refine ⟨_, rfl, _, rfl, x, CP, dx, [], rfl, hx, PC.cl, PC.n1, (by show 0 < 1000; decide), ?_⟩
  refine ⟨_, rfl, x, CP, dx, _, rfl, upd_same, PC.cl, PC.n2, (by show 1 < 1000; decide), ?_⟩
  rw [e1, e2, upd_upd]
  have c1 := c0.fput (.ins CP dx [(("tokens" : Str), V.ref tk), ("at", .int 0)]) (.inr (by simp)) hx (fun _ q => by cases q)
  refine ⟨(by show 0 ≤ sizeLine; decide), fun fl hfl => ?_⟩
  have c2 := c1.fnew (.lst []) hfl
  have ld0 : Wd [x] H (upd H x (.ins CP dx [(("tokens" : Str), V.ref tk), ("at", .int 0)])) [(x, .ins CP dx [(("tokens" : Str), V.ref tk), ("at", .int 0)])] :=
    (Wd.start1 hx).put 0 _ rfl (fun _ q => by cases q)
  have ld1 := ld0.new1 (.lst []) hfl
  refine ⟨_, rfl, x, CP, dx, _, rfl, ld1.get 0 rfl, PC.cl, PC.n3, (by show 2 < 1000; decide), ?_⟩
  have e3 : putF "faults" (.ref fl) [(("tokens" : Str), V.ref tk), ("at", .int 0)] = [(("tokens" : Str), V.ref tk), ("at", .int 0), ("faults", .ref fl)] := by rw [putF_ne (by decide +kernel), putF_ne (by decide +kernel)]; rfl
  rw [e3]
  have ld2 := ld1.put 0 (.ins CP dx [(("tokens" : Str), V.ref tk), ("at", .int 0), ("faults", .ref fl)]) rfl (fun _ q => by cases q)
  refine ⟨(by show 0 ≤ sizeLine; decide), fun nl hnl => ?_⟩
  have ld3 := ld2.new1 (.lst []) hnl
  refine ⟨_, rfl, x, CP, dx, _, rfl, ld3.get 0 rfl, PC.cl, PC.n4, (by show 3 < 1000; decide), ?_⟩
  have e4 : putF "names" (.ref nl) [(("tokens" : Str), V.ref tk), ("at", .int 0), ("faults", .ref fl)] = [(("tokens" : Str), V.ref tk), ("at", .int 0), ("faults", .ref fl), ("names", .ref nl)] := by rw [putF_ne (by decide +kernel), putF_ne (by decide +kernel), putF_ne (by decide +kernel)]; rfl
  rw [e4]
  have ld4 := ld3.put 0 (.ins CP dx [(("tokens" : Str), V.ref tk), ("at", .int 0), ("faults", .ref fl), ("names", .ref nl)]) rfl (fun _ q => by cases q)
  refine ⟨_, rfl, x, CP, dx, _, rfl, ld4.get 0 rfl, PC.cl, PC.n5, (by show 4 < 1000; decide), ?_⟩
  have e5 : putF "weights" .non [(("tokens" : Str), V.ref tk), ("at", .int 0), ("faults", .ref fl), ("names", .ref nl)] = [(("tokens" : Str), V.ref tk), ("at", .int 0), ("faults", .ref fl), ("names", .ref nl), ("weights", .non)] := by
    rw [putF_ne (by decide +kernel), putF_ne (by decide +kernel), putF_ne (by decide +kernel), putF_ne (by decide +kernel)]; rfl
  rw [e5]
  have ld5 := ld4.put 0 (.ins CP dx [(("tokens" : Str), V.ref tk), ("at", .int 0), ("faults", .ref fl), ("names", .ref nl), ("weights", .non)]) rfl (fun _ q => by cases q)
  refine ⟨_, rfl, x, CP, dx, _, rfl, ld5.get 0 rfl, PC.cl, PC.n6, (by show 5 < 1000; decide), ?_⟩
  have e6 : putF "makers" .non [(("tokens" : Str), V.ref tk), ("at", .int 0), ("faults", .ref fl), ("names", .ref nl), ("weights", .non)] = [(("tokens" : Str), V.ref tk), ("at", .int 0), ("faults", .ref fl), ("names", .ref nl), ("weights", .non), ("makers", .non)] := by
    rw [putF_ne (by decide +kernel), putF_ne (by decide +kernel), putF_ne (by decide +kernel), putF_ne (by decide +kernel), putF_ne (by decide +kernel)]; rfl
  rw [e6]
  have ld6 := ld5.put 0 (.ins CP dx [(("tokens" : Str), V.ref tk), ("at", .int 0), ("faults", .ref fl), ("names", .ref nl), ("weights", .non), ("makers", .non)]) rfl (fun _ q => by cases q)
  refine ⟨(by show 0 ≤ sizeLine; decide), fun al hal => ?_⟩
  have ld7 := ld6.new1 (.lst []) hal
  refine ⟨_, rfl, x, CP, dx, _, rfl, ld7.get 0 rfl, PC.cl, PC.n7, (by show 6 < 1000; decide), ?_⟩
  have e7 : putF "aways" (.ref al) [(("tokens" : Str), V.ref tk), ("at", .int 0), ("faults", .ref fl), ("names", .ref nl), ("weights", .non), ("makers", .non)] = pF ⟨x, dx, tk, fl, nl, al⟩ ⟨0, [], [], none, none⟩ := by
    rw [putF_ne (by decide +kernel), putF_ne (by decide +kernel), putF_ne (by decide +kernel), putF_ne (by decide +kernel), putF_ne (by decide +kernel), putF_ne (by decide +kernel)]; rfl
  rw [e7]
  have ld8 := ld7.put 0 (.ins CP dx (pF ⟨x, dx, tk, fl, nl, al⟩ ⟨0, [], [], none, none⟩)) rfl (fun _ q => by cases q)
  have hal0 := ld6.free _ hal
  have hnl0 := ld2.free _ hnl
  have hfl0 := ld0.free _ hfl
  have ndl := ld8.nd
  have hkt := ne_of_none htk hal0
  have hkn := ne_of_none htk hnl0
  have hkf := ne_of_none htk hfl0
  have htx : tk ∉ [x] := by simpa using hxt.symm
  refine q ⟨x, dx, tk, fl, nl, al⟩ _ rfl (ld8.sub (List.nil_sublist _)) ⟨ld8.get 0 rfl, ld8.old htk htx, fun t ht => ?_, ld8.get 3 rfl, ld8.get 2 rfl, ld8.get 1 rfl, fun _ h => (nomatch h), fun _ h => (nomatch h), fun _ h => (nomatch h), ?_, cn⟩ hnl0 hal0
  · obtain ⟨tdx, tl, tc, e⟩ := hT t ht
    refine ⟨tdx, tl, tc, ld8.old e ?_⟩
    have : t.1 ≠ x := ne_of e hx (fun q => by injection q with q1; exact cn q1)
    simpa using this
  · simp only [List.set, List.map_cons, List.map_nil, List.nodup_cons, List.mem_cons, List.not_mem_nil, or_false, not_or] at ndl ⊢
    obtain ⟨⟨n1, n2, n3⟩, ⟨n4, n5⟩, n6, n7⟩ := ndl
    exact ⟨⟨hxt, n3, n2, n1⟩, ⟨hkf, hkn, hkt⟩, ⟨Ne.symm n6, Ne.symm n5⟩, Ne.symm n4, n7⟩
abbrev sParser_peek : Stmt := inClass (topS 40) 1
theorem scParser_peek : FnScope ["self"] ["self"] (defScope sParser_peek) := ⟨rfl, rfl, rfl, by decide +kernel, rfl, by decide +kernel, by decide +kernel⟩
def spPeek (CP CT : Addr) : Sp := fun vs H Q _ => ∃ (z : Pz) (L : List (Addr × (Str × Str))) (s : Pv) (a : Addr) (t : Str × Str), vs = [.ref z.x] ∧ PAt CP CT z L s H ∧ L[s.n]? = some (a, t) ∧ Q (.ref a) H
theorem me_peek (D : MethAt K CP "peek" "Parser.peek" sParser_peek ["self"]) (PC : ParCls K CP) : MeAt P w K mg base 1 CP "peek" ["self"] (spPeek CP CT) := D.me fun f fd F => by
  have nd := scParser_peek.nd
  refine F.ok scParser_peek (fun vs H Q E h => ?_) (fun cdv A outer s H vs Q E hr h => ?_)
  · obtain ⟨z, L, s, a, t, rfl, _⟩ := h; rfl
  obtain ⟨z, L, sv, a, t, rfl, hp, ht, q⟩ := h
  refine ⟨_, (pss_one (ps_ret (pe_ix (r := rIxL K) ix_list (pe_fldK (K := K) rfl (pv 0) rfl) (pe_fldK (K := K) rfl (pv 0) rfl) (fun _ _ => rfl)))), ?_⟩
  exact ⟨_, rfl, z.x, CP, z.dx, _, _, rfl, hp.ob, PC.cl, PC.n1, pf_tokens, _, rfl, z.x, CP, z.dx, _, _, rfl, hp.ob, PC.cl, PC.n2, pf_at, z.tk, _, _, _, rfl, rfl, SqL.of hp.tk, trefs_at ht, q⟩
/-- a token taken -/
def spTake (CP CT : Addr) : Sp := fun vs H Q _ => ∃ (z : Pz) (L : List (Addr × (Str × Str))) (s : Pv) (a : Addr) (k t : Str), vs = [.ref z.x, .str k] ∧ PAt CP CT z L s H ∧ L[s.n]? = some (a, (k, t)) ∧
  ∀ H', Wd z.mut H H' [] → PAt CP CT z L { s with n := s.n + 1 } H' → Q (.ref a) H'
abbrev sParser_take : Stmt := inClass (topS 40) 4
theorem scParser_take : FnScope ["self", "kind", "token"] ["self", "kind"] (defScope sParser_take) := ⟨rfl, rfl, rfl, by decide +kernel, rfl, by decide +kernel, by decide +kernel⟩
theorem me_take (D : MethAt K CP "take" "Parser.take" sParser_take ["self", "kind"]) (PC : ParCls K CP) (TC : TokCls K CT) (C1 : MeAt P w K mg base 1 CP "peek" ["self"] (spPeek CP CT)) : MeAt P w K mg base 2 CP "take" ["self", "kind"] (spTake CP CT) := D.me fun f fd F => by
  have nd := scParser_take.nd
  have cl_Parser := PC.cl
  obtain ⟨f1, fd1, me_peek, b_peek, G_peek⟩ := C1.ex
  refine F.ok scParser_take (fun vs H Q E h => ?_) (fun cdv A outer s H vs Q E hr h => ?_)
  · obtain ⟨z, L, s, a, k, t, rfl, _⟩ := h; rfl
  obtain ⟨z, L, sv, a, k, t, rfl, hp, ht, q⟩ := h
  refine ⟨_, (pss_cons (ps_set (i := 2) nd rfl (Or.inl rfl) (pe_meth0 (pv 0) cl_Parser me_peek G_peek (hr.mono (by first | decide | omega)) b_peek .nil pass0))
 (pss_cons (ps_if (pt_cmpR op_ne (pe_fldK (K := K) rfl (pv 2) rfl) (pv 1) (nomark _))
 pss_never
 pss_nil)
 (pss_cons (ps_fldaug (pv 0) pe_int in_add)
 (pss_one (ps_ret (pv 2)))))), ?_⟩
  obtain ⟨tdx, tl, tc, hta⟩ := hp.ts _ (List.mem_of_getElem? ht)
  refine ⟨_, rfl, z.x, z.dx, _, rfl, hp.ob, pf_none (by decide +kernel), z, L, sv, a, _, rfl, hp, ht, ?_⟩
  refine ⟨_, rfl, a, CT, tdx, _, _, rfl, hta, TC.cl, TC.nk, tk_kind _ _ _ _, _, rfl, rfl, _, rfl, ?_⟩
  refine ite2 (fun h => ?_) (fun _ => ?_)
  · exact absurd h (by simp)
  refine ⟨_, rfl, z.x, CP, z.dx, _, _, rfl, hp.ob, PC.cl, PC.n2, pf_at, _, _, rfl, rfl, _, _, hp.ob, (by show 7 < 1000; decide), ?_⟩
  have e : putF "at" (.int ((sv.n : Int) + 1)) (pF z sv) = pF z { sv with n := sv.n + 1 } := by
    rw [show (sv.n : Int) + 1 = ((sv.n + 1 : Nat) : Int) by omega]; exact pf_putAt _
  rw [e]
  exact ⟨_, rfl, q _ ((Wd.frefl _ _).fput _ (.inr (by simp [Pz.mut])) hp.ob (fun _ q => by cases q)) (hp.setX { sv with n := sv.n + 1 } rfl rfl hp.w hp.m)⟩
abbrev sParser_take_word : Stmt := inClass (topS 40) 5
theorem scParser_take_word : FnScope ["self", "word"] ["self", "word"] (defScope sParser_take_word) := ⟨rfl, rfl, rfl, by decide +kernel, rfl, by decide +kernel, by decide +kernel⟩
/-- a word taken -/
def spTakeW (CP CT : Addr) : Sp := fun vs H Q _ => ∃ (z : Pz) (L : List (Addr × (Str × Str))) (s : Pv) (a : Addr) (k t : Str), vs = [.ref z.x, .str t] ∧ PAt CP CT z L s H ∧ L[s.n]? = some (a, (k, t)) ∧
  ∀ H', Wd z.mut H H' [] → PAt CP CT z L { s with n := s.n + 1 } H' → Q .non H'
theorem me_take_word (D : MethAt K CP "take_word" "Parser.take_word" sParser_take_word ["self", "word"]) (PC : ParCls K CP) (TC : TokCls K CT) (C1 : MeAt P w K mg base 1 CP "peek" ["self"] (spPeek CP CT)) : MeAt P w K mg base 2 CP "take_word" ["self", "word"] (spTakeW CP CT) := D.me fun f fd F => by
  have nd := scParser_take_word.nd
  have cl_Parser := PC.cl
  obtain ⟨f1, fd1, me_peek, b_peek, G_peek⟩ := C1.ex
  refine F.ok scParser_take_word (fun vs H Q E h => ?_) (fun cdv A outer s H vs Q E hr h => ?_)
  · obtain ⟨z, L, s, a, k, t, rfl, _⟩ := h; rfl
  obtain ⟨z, L, sv, a, k, t, rfl, hp, ht, q⟩ := h
  refine ⟨_, (pss_cons (ps_if (pt_cmpR op_ne (pe_fldK (K := K) rfl (pe_meth0 (pv 0) cl_Parser me_peek G_peek (hr.mono (by first | decide | omega)) b_peek .nil pass0) rfl) (pv 1) (nomark _))
 pss_never
 pss_nil)
 (pss_one (ps_fldaug (pv 0) pe_int in_add))), ?_⟩
  obtain ⟨tdx, tl, tc, hta⟩ := hp.ts _ (List.mem_of_getElem? ht)
  refine ⟨_, rfl, z.x, z.dx, _, rfl, hp.ob, pf_none (by decide +kernel), z, L, sv, a, _, rfl, hp, ht, ?_⟩
  refine ⟨a, CT, tdx, _, _, rfl, hta, TC.cl, TC.nt, tk_text _ _ _ _, _, rfl, rfl, _, rfl, ?_⟩
  refine ite2 (fun h => absurd h (by simp)) (fun _ => ?_)
  refine ⟨_, rfl, z.x, CP, z.dx, _, _, rfl, hp.ob, PC.cl, PC.n2, pf_at, _, _, rfl, rfl, _, _, hp.ob, (by show 7 < 1000; decide), ?_⟩
  have e : putF "at" (.int ((sv.n : Int) + 1)) (pF z sv) = pF z { sv with n := sv.n + 1 } := by
    rw [show (sv.n : Int) + 1 = ((sv.n + 1 : Nat) : Int) by omega]; exact pf_putAt _
  rw [e]
  exact q _ ((Wd.frefl _ _).fput _ (.inr (by simp [Pz.mut])) hp.ob (fun _ q => by cases q)) (hp.setX { sv with n := sv.n + 1 } rfl rfl hp.w hp.m)
abbrev sParser_take_all : Stmt := inClass (topS 40) 6
theorem scParser_take_all : FnScope ["self", "kind", "tokens"] ["self", "kind"] (defScope sParser_take_all) := ⟨rfl, rfl, rfl, by decide +kernel, rfl, by decide +kernel, by decide +kernel⟩
/-- all of a kind, and the sign -/
def spTakeA (CP CT : Addr) : Sp := fun vs H Q _ => ∃ (z : Pz) (L : List (Addr × (Str × Str))) (s : Pv) (k : Str) (ks : List Str) (rest : List (Str × Str)), vs = [.ref z.x, .str k] ∧ PAt CP CT z L s H ∧ k ≠ "sign" ∧ ks ≠ [] ∧ ks.length ≤ 1000 ∧
  TkAt L s.n (ks.map (fun t => (k, t)) ++ (("sign" : Str), (";" : Str)) :: rest) ∧
  ∀ H' p sub, Wd z.mut H H' [] → PAt CP CT z L { s with n := s.n + ks.length + 1 } H' → H p = none → H' p = some (.lst (trefs sub)) → sub.map Prod.snd = ks.map (fun t => (k, t)) → (∀ q ∈ sub, q ∈ L) → Q (.ref p) H'
theorem me_take_all (D : MethAt K CP "take_all" "Parser.take_all" sParser_take_all ["self", "kind"]) (PC : ParCls K CP) (TC : TokCls K CT) (LC : LexC K mg) (C1 : MeAt P w K mg base 1 CP "peek" ["self"] (spPeek CP CT))
    (C2 : MeAt P w K mg base 2 CP "take" ["self", "kind"] (spTake CP CT)) (C3 : MeAt P w K mg base 2 CP "take_word" ["self", "word"] (spTakeW CP CT)) : MeAt P w K mg base 3 CP "take_all" ["self", "kind"] (spTakeA CP CT) := D.me fun f fd F => by
  have nd := scParser_take_all.nd
  have cl_Parser := PC.cl
  obtain ⟨t1, c_END_SIGN⟩ := LC.END_SIGN
  obtain ⟨f1, fd1, me_peek, b_peek, G_peek⟩ := C1.ex
  obtain ⟨f2, fd2, me_take, b_take, G_take⟩ := C2.ex
  obtain ⟨f3, fd3, me_take_word, b_take_word, G_take_word⟩ := C3.ex
  refine F.ok scParser_take_all (fun vs H Q E h => ?_) (fun cdv A outer s H vs Q E hr h => ?_)
  · obtain ⟨z, L, s, k, ks, rest, rfl, _⟩ := h; rfl
  obtain ⟨z, L, sv, k, ks, rest, rfl, hp, hk, hne, hlen, hts, q⟩ := h
  refine ⟨_, (pss_cons (ps_set (i := 2) nd rfl (Or.inl rfl) (pe_lst (pa_cons (pe_meth (pv 0) cl_Parser me_take G_take (hr.mono (by first | decide | omega)) b_take .nil pass0 (pa_cons (pv 1) pa_nil)) pa_nil)))
 (pss_cons (ps_while PassesOwn.never (pt_cmpR op_eq (pe_fldK (K := K) rfl (pe_meth0 (pv 0) cl_Parser me_peek G_peek (hr.mono (by first | decide | omega)) b_peek .nil pass0) rfl) (pv 1) (nomark _))
 (pss_one (ps_expr (pe_bmK (K := K) rfl PySem.F.plainAttrs_list PySem.F.slot_list_append PySem.F.type_list_append mt_append (pv 2) (pa_cons (pe_meth (pv 0) cl_Parser me_take G_take (hr.mono (by first | decide | omega)) b_take .nil pass0 (pa_cons (pv 1) pa_nil)) pa_nil)))))
 (pss_cons (ps_expr (pe_meth (pv 0) cl_Parser me_take_word G_take_word (hr.mono (by first | decide | omega)) b_take_word .nil pass0 (pa_cons (pe_glob (v := .str ";") (by rfl) c_END_SIGN ⟨_, rfl⟩) pa_nil)))
 (pss_one (ps_ret (pv 2)))))), ?_⟩
  obtain ⟨t0, kr, rfl⟩ := List.exists_cons_of_ne_nil hne
  obtain ⟨⟨a0, h0⟩, hts1⟩ := hts.cons
  refine ⟨_, rfl, z.x, z.dx, _, rfl, hp.ob, pf_none (by decide +kernel), _, rfl, z, L, sv, a0, k, t0, rfl, hp, h0, fun H1 c1 hp1 => ?_⟩
  refine ⟨(by show 1 ≤ sizeLine; decide), fun p hpn => ?_⟩
  have hpn0 := c1.free _ hpn
  refine while_by (fun σ H' => σ = [some (.ref z.x), some (.str k), some (.ref p)] ∧ ∃ (sub : List (Addr × (Str × Str))) (ks1 ks2 : List Str), Wd z.mut H H' [] ∧ PAt CP CT z L { sv with n := sv.n + ks1.length } H' ∧ H' p = some (.lst (trefs sub)) ∧
      ks1 ++ ks2 = t0 :: kr ∧ sub.map Prod.snd = ks1.map (fun t => (k, t)) ∧ (∀ q ∈ sub, q ∈ L) ∧ TkAt L (sv.n + ks1.length) (ks2.map (fun t => (k, t)) ++ (("sign" : Str), (";" : Str)) :: rest)) (fun _ H' => kr.length + 1 - (match H' p with | some (.lst l) => l.length | _ => 0))
    ⟨rfl, [(a0, (k, t0))], [t0], kr, c1.fnew _ hpn, hp1.new _ hpn, upd_same, rfl, rfl, (by intro q hq; rw [List.mem_singleton.mp hq]; exact List.mem_of_getElem? h0), hts1⟩ ?_ ?_
  · rintro σ H2 ⟨rfl, sub, ks1, ks2, c2, hp2, hsub, hks, hmap, hmem, hts2⟩
    have hpm : p ∉ z.mut := by
      intro hm
      simp only [Pz.mut, List.mem_cons, List.not_mem_nil, or_false] at hm
      rcases hm with rfl | rfl | rfl
      · rw [hp.ob] at hpn0; cases hpn0
      · rw [hp.nl] at hpn0; cases hpn0
      · rw [hp.al] at hpn0; cases hpn0
    have hl := congrArg List.length hks
    rw [List.length_append, List.length_cons] at hl
    have hl2 : sub.length = ks1.length := by
      have := congrArg List.length hmap
      rw [List.length_map, List.length_map] at this
      exact this
    cases ks2 with
    | cons t2 ks2 =>
      obtain ⟨⟨a2, h2⟩, hts3⟩ := hts2.cons
      obtain ⟨tdx, tl, tc, hta⟩ := hp2.ts _ (List.mem_of_getElem? h2)
      refine ⟨_, rfl, z.x, z.dx, _, rfl, hp2.ob, pf_none (by decide +kernel), z, L, _, a2, _, rfl, hp2, h2, a2, CT, tdx, _, _, rfl, hta, TC.cl, TC.nk, tk_kind _ _ _ _, _, rfl, rfl, _, rfl, ?_⟩
      refine ite2 (fun _ => ?_) (fun h => absurd (by simp) h)
      refine ⟨_, rfl, .inl ⟨rfl, _, SqL.of hsub⟩, _, rfl, z.x, z.dx, _, rfl, hp2.ob, pf_none (by decide +kernel), _, rfl, z, L, _, a2, k, t2, rfl, hp2, h2, fun H3 c3 hp3 => ?_⟩
      have hsub3 := c3.base _ _ hpm hsub
      refine ⟨p, _, _, rfl, rfl, hsub3, ?_, ⟨rfl, sub ++ [(a2, (k, t2))], ks1 ++ [t2], ks2, ?_, ?_, ?_, ?_, ?_, ?_, ?_⟩, ?_⟩
      · rw [trefs_len, hl2]; exact Nat.lt_of_lt_of_le (m := 1001) (by simp at hlen hl; omega) (by decide)
      · exact (c2.fgo c3).fput _ (.inl hpn0) hsub3 (fun _ q => by cases q)
      · have e : ({ sv with n := sv.n + (ks1 ++ [t2]).length } : Pv) = { ({ sv with n := sv.n + ks1.length } : Pv) with n := sv.n + ks1.length + 1 } := by
          simp only [List.length_append, List.length_cons, List.length_nil]; rfl
        rw [e]
        exact hp3.putL (p := p) hsub3 hpm (fun h => by rw [← h, hp.tk] at hpn0; cases hpn0) (fun h => by rw [← h, hp.fl] at hpn0; cases hpn0)
      · have e : trefs (sub ++ [(a2, (k, t2))]) = trefs sub ++ [.ref a2] := by simp [trefs]
        rw [upd_same, e]
      · rw [← hks]; simp
      · rw [List.map_append, hmap, List.map_append]; rfl
      · intro q hq
        rcases List.mem_append.mp hq with hq | hq
        · exact hmem q hq
        · rw [List.mem_singleton.mp hq]; exact List.mem_of_getElem? h2
      · rw [List.length_append, List.length_cons, List.length_nil, ← Nat.add_assoc]; exact hts3
      · show kr.length + 1 - (match upd H3 p _ p with | some (.lst l) => l.length | _ => 0) < _
        rw [upd_same, hsub]
        show kr.length + 1 - (trefs sub ++ [V.ref a2]).length < kr.length + 1 - (trefs sub).length
        rw [List.length_append, trefs_len, hl2]
        simp only [List.length_cons] at hl ⊢
        omega
    | nil =>
      obtain ⟨⟨a2, h2⟩, hts3⟩ := hts2.cons
      obtain ⟨tdx, tl, tc, hta⟩ := hp2.ts _ (List.mem_of_getElem? h2)
      refine ⟨_, rfl, z.x, z.dx, _, rfl, hp2.ob, pf_none (by decide +kernel), z, L, _, a2, _, rfl, hp2, h2, a2, CT, tdx, _, _, rfl, hta, TC.cl, TC.nk, tk_kind _ _ _ _, _, rfl, rfl, _, rfl, ?_⟩
      refine ite2 (fun h => absurd (of_decide_eq_true h) (fun e => hk (by injection e with e; exact e.symm))) (fun _ => ?_)
      refine ⟨_, rfl, z.x, z.dx, _, rfl, hp2.ob, pf_none (by decide +kernel), z, L, _, a2, _, _, rfl, hp2, h2, fun H3 c3 hp3 => ?_⟩
      rw [List.append_nil] at hks
      subst hks
      exact ⟨_, rfl, q H3 p sub (c2.fgo c3) hp3 hpn0 (c3.base _ _ hpm hsub) hmap hmem⟩
  · intro σ H2 Q1 Q2 hm hc
    obtain ⟨v0, e0, a, dx', fs, ea, eo, en, z', L', s', a', t', e1, e2, e3, a'', C'', dx'', fs'', v'', g1, g2, g3, g4, g5, v1, e4, e5, b, hb, hc⟩ := hc
    exact ⟨v0, e0, a, dx', fs, ea, eo, en, z', L', s', a', t', e1, e2, e3, a'', C'', dx'', fs'', v'', g1, g2, g3, g4, g5, v1, e4, e5, b, hb, hm _ _ hc⟩
end
end Br

namespace Br
open PySem PySem.Spec PyProof.Rows L2
theorem PAt.call0 {CP CT : Addr} {z : Pz} {L : List (Addr × (Str × Str))} {s : Pv} {H H' : Hp} {l : List (Addr × HO)} (h : PAt CP CT z L s H) (c : Wd [] H H' l) : PAt CP CT z L s H' := by
  have k : ∀ {b : Addr} {u : HO}, H b = some u → H' b = some u := fun e => c.base _ _ (by simp) e
  exact ⟨k h.ob, k h.tk, h.ts.call c, k h.fl, k h.nl, k h.al, fun q hq => k (h.aw q hq), fun q hq => k (h.w q hq), fun q hq => k (h.m q hq), h.ne, h.cn⟩
theorem PAt.out {CP CT : Addr} {z : Pz} {L : List (Addr × (Str × Str))} {s : Pv} {H : Hp} (h : PAt CP CT z L s H) {p : Addr} (hp : H p = none) : p ∉ z.mut ∧ z.tk ≠ p ∧ z.fl ≠ p := by
  refine ⟨fun hm => ?_, ne_of_none h.tk hp, ne_of_none h.fl hp⟩
  simp only [Pz.mut, List.mem_cons, List.not_mem_nil, or_false] at hm
  rcases hm with rfl | rfl | rfl
  · rw [h.ob] at hp; cases hp
  · rw [h.nl] at hp; cases hp
  · rw [h.al] at hp; cases hp
theorem sub_at {sub : List (Addr × (Str × Str))} {k : Str} {ks : List Str} (hm : sub.map Prod.snd = ks.map (fun t => (k, t))) {i : Nat} {x : V} (hx : (trefs sub)[i]? = some x) : ∃ a t, x = .ref a ∧ ks[i]? = some t ∧ (a, (k, t)) ∈ sub := by
  unfold trefs at hx
  rw [List.getElem?_map] at hx
  cases e : sub[i]? with
  | none => rw [e] at hx; cases hx
  | some q =>
    rw [e] at hx
    have h2 := congrArg (fun l => l[i]?) hm
    simp only [List.getElem?_map, e] at h2
    cases e3 : ks[i]? with
    | none => rw [e3] at h2; cases h2
    | some t =>
      rw [e3] at h2
      have h4 : q.2 = (k, t) := Option.some.inj h2
      exact ⟨q.1, t, (Option.some.inj hx).symm, rfl, by rw [← h4]; exact List.mem_of_getElem? e⟩
theorem eqV_str (a b : Str) : eqV (.str a) (.str b) = decide (a = b) := by
  rw [Bool.eq_iff_iff, decide_eq_true_eq]
  exact ⟨fun h => eq_of_beq (show (a == b) = true from h), fun h => (show (a == b) = true from beq_iff_eq.mpr h)⟩
section
variable {P : Program} {w : World} {K : PySem.W.Frag} {mg : Str → Option Value} {base : Heap} {CT CP : Addr}
def spPerson (CP CT : Addr) : Sp := fun vs H Q _ => ∃ (z : Pz) (L : List (Addr × (Str × Str))) (s : Pv) (a : Addr) (k t : Str) (j : Nat), vs = [.ref z.x, .ref a] ∧ PAt CP CT z L s H ∧ (a, (k, t)) ∈ L ∧ s.names.Nodup ∧ s.names[j]? = some t ∧ Q (.int j) H
abbrev sParser_person : Stmt := inClass (topS 40) 7
theorem scParser_person : FnScope ["self", "token"] ["self", "token"] (defScope sParser_person) := ⟨rfl, rfl, rfl, by decide +kernel, rfl, by decide +kernel, by decide +kernel⟩
theorem me_person (D : MethAt K CP "person" "Parser.person" sParser_person ["self", "token"]) (PC : ParCls K CP) (TC : TokCls K CT) : MeAt P w K mg base 1 CP "person" ["self", "token"] (spPerson CP CT) := D.me fun f fd F => by
  have nd := scParser_person.nd
  refine F.ok scParser_person (fun vs H Q E h => ?_) (fun cdv A outer s H vs Q E hr h => ?_)
  · obtain ⟨z, L, s, a, k, t, j, rfl, _⟩ := h; rfl
  obtain ⟨z, L, sv, a, k, t, j, rfl, hp, ht, hnd, hj, q⟩ := h
  refine ⟨_, (pss_cons (ps_if (pt_cmpR (r := rIn K false) op_in_seq (pe_fldK (K := K) rfl (pv 1) rfl) (pe_fldK (K := K) rfl (pv 0) rfl) (by rfl))
 (pss_one (ps_ret (pe_bmK (K := K) rfl PySem.F.plainAttrs_list PySem.F.slot_list_index PySem.F.type_list_index mt_index (pe_fldK (K := K) rfl (pv 0) rfl) (pa_cons (pe_fldK (K := K) rfl (pv 1) rfl) pa_nil))))
 pss_nil)
 pss_never), ?_⟩
  obtain ⟨tdx, tl, tc, hta⟩ := hp.ts _ ht
  refine ⟨_, rfl, a, CT, tdx, _, _, rfl, hta, TC.cl, TC.nt, tk_text _ _ _ _, _, rfl, z.x, CP, z.dx, _, _, rfl, hp.ob, PC.cl, PC.n4, pf_names, z.nl, sv.names.map V.str, rfl, .inl (SqL.of hp.nl), rfl, flat_strs' _, _, rfl, ?_⟩
  rw [if_neg Bool.false_ne_true, inV_strs]
  refine ite2 (fun _ => ?_) (fun h => absurd (decide_eq_true (List.mem_of_getElem? hj)) h)
  refine ⟨_, rfl, z.x, CP, z.dx, _, _, rfl, hp.ob, PC.cl, PC.n4, pf_names, .inl ⟨rfl, _, SqL.of hp.nl⟩, _, rfl, a, CT, tdx, _, _, rfl, hta, TC.cl, TC.nt, tk_text _ _ _ _, ?_⟩
  refine ⟨z.nl, sv.names.map V.str, .str t, j, .str t, rfl, rfl, SqL.of hp.nl, rfl, flat_strs' _, by rw [List.getElem?_map, hj]; rfl, by rw [eqV_str]; exact decide_eq_true rfl, fun m z' hm hz' => ?_, q⟩
  rw [List.getElem?_map] at hz'
  cases e : sv.names[m]? with
  | none => rw [e] at hz'; cases hz'
  | some y =>
    rw [e] at hz'
    cases hz'
    rw [eqV_str, decide_eq_false_iff_not]
    rintro rfl
    exact absurd (nd_ix hnd e hj) (by omega)
/-- the people -/
def spPeople (CP CT : Addr) : Sp := fun vs H Q _ => ∃ (z : Pz) (L : List (Addr × (Str × Str))) (s : Pv) (ns : List Str) (rest : List (Str × Str)), vs = [.ref z.x] ∧ PAt CP CT z L s H ∧ s.names = [] ∧ ns ≠ [] ∧ ns.length ≤ 6 ∧ ns.Nodup ∧
  TkAt L s.n ((("keyword" : Str), ("people" : Str)) :: (ns.map (fun t => (("name" : Str), t)) ++ (("sign" : Str), (";" : Str)) :: rest)) ∧
  ∀ H', Wd z.mut H H' [] → PAt CP CT z L { s with n := s.n + 1 + ns.length + 1, names := ns } H' → Q .non H'
abbrev sParser_parse_people : Stmt := inClass (topS 40) 8
theorem scParser_parse_people : FnScope ["self", "token"] ["self"] (defScope sParser_parse_people) := ⟨rfl, rfl, rfl, by decide +kernel, rfl, by decide +kernel, by decide +kernel⟩
theorem me_people (D : MethAt K CP "parse_people" "Parser.parse_people" sParser_parse_people ["self"]) (T : Bi mg) (PC : ParCls K CP) (TC : TokCls K CT) (LC : LexC K mg) (hMP : ∃ t, mg "MAX_PEOPLE" = some (.int 6 t)) (C1 : MeAt P w K mg base 2 CP "take_word" ["self", "word"] (spTakeW CP CT))
    (C2 : MeAt P w K mg base 3 CP "take_all" ["self", "kind"] (spTakeA CP CT)) : MeAt P w K mg base 4 CP "parse_people" ["self"] (spPeople CP CT) := D.me fun f fd F => by
  have nd := scParser_parse_people.nd
  have cl_Parser := PC.cl
  obtain ⟨t1, c_NAME⟩ := LC.NAME
  obtain ⟨t2, c_MAX_PEOPLE⟩ := hMP
  obtain ⟨f1, fd1, me_take_word, b_take_word, G_take_word⟩ := C1.ex
  obtain ⟨f2, fd2, me_take_all, b_take_all, G_take_all⟩ := C2.ex
  refine F.ok scParser_parse_people (fun vs H Q E h => ?_) (fun cdv A outer s H vs Q E hr h => ?_)
  · obtain ⟨z, L, s, ns, rest, rfl, _⟩ := h; rfl
  obtain ⟨z, L, sv, ns, rest, rfl, hp, hn0, hne, h6, hnd, hts, q⟩ := h
  refine ⟨_, (pss_cons (ps_expr (pe_meth (pv 0) cl_Parser me_take_word G_take_word (hr.mono (by first | decide | omega)) b_take_word .nil pass0 (pa_cons pe_str pa_nil)))
 (pss_one (ps_for PassesOwn.never rfl (pi_listK (K := K) rfl (pe_meth (pv 0) cl_Parser me_take_all G_take_all (hr.mono (by first | decide | omega)) b_take_all .nil pass0 (pa_cons (pe_glob (v := .str "name") (by rfl) c_NAME ⟨_, rfl⟩) pa_nil))) (pg_name (i := 1) nd rfl (Or.inl rfl))
 (pss_one (ps_if (pt_cmpR (r := rIn K false) op_in_seq (pe_fldK (K := K) rfl (pv 1) rfl) (pe_fldK (K := K) rfl (pv 0) rfl) (by rfl))
 pss_never
 (pss_one (ps_if (pt_cmpR op_eq (pe_callB (r := rLenS K) call_len_seq (by rfl) T.len PySem.boot_len (pa_cons (pe_fldK (K := K) rfl (pv 0) rfl) pa_nil)) (pe_glob (v := .int 6) (by rfl) c_MAX_PEOPLE ⟨_, rfl⟩) (nomark _))
 pss_never
 (pss_one (ps_expr (pe_bmK (K := K) rfl PySem.F.plainAttrs_list PySem.F.slot_list_append PySem.F.type_list_append mt_append (pe_fldK (K := K) rfl (pv 0) rfl) (pa_cons (pe_fldK (K := K) rfl (pv 1) rfl) pa_nil))))))))))), ?_⟩
  obtain ⟨⟨a0, h0⟩, hts1⟩ := hts.cons
  refine ⟨_, rfl, z.x, z.dx, _, rfl, hp.ob, pf_none (by decide +kernel), z, L, sv, a0, _, _, rfl, hp, h0, fun H1 c1 hp1 => ?_⟩
  refine ⟨_, rfl, z.x, z.dx, _, rfl, hp1.ob, pf_none (by decide +kernel), z, L, _, _, ns, rest, rfl, hp1, by decide +kernel, hne, by omega, hts1, fun H2 p sub c2 hp2 hpn hsub hmap hmem => ?_⟩
  have hpo := hp1.out hpn
  have hpn0 := c1.free _ hpn
  have hsl : (trefs sub).length = ns.length := by
    have := congrArg List.length hmap
    rw [List.length_map, List.length_map] at this
    rw [trefs_len]; exact this
  refine ⟨p, rfl, ⟨_, SqL.of hsub⟩, ?_⟩
  refine for_it (walk_list (xs := trefs sub)) (fun i σ H' => (∃ b, σ = [some (.ref z.x), b]) ∧ Wd z.mut H H' [] ∧ PAt CP CT z L { sv with n := sv.n + 1 + ns.length + 1, names := ns.take i } H' ∧ H' p = some (.lst (trefs sub))) ?_ ?_ ?_ ?_
  · exact ⟨⟨_, rfl⟩, c1.fgo c2, by rw [List.take_zero, ← hn0]; exact hp2, hsub⟩
  · rintro i σ H' _ ⟨_, _, _, h⟩
    exact SqL.of h
  · rintro i x σ H3 H3' hi ⟨⟨b, rfl⟩, c3, hp3, hs3⟩ ⟨rfl, hx⟩
    obtain ⟨a, t, rfl, ht, hm⟩ := sub_at hmap hx
    obtain ⟨tdx, tl, tc, hta⟩ := hp3.ts _ (hmem _ hm)
    have hi6 : (ns.take i).length = i := by rw [List.length_take]; omega
    refine ⟨_, rfl, a, CT, tdx, _, _, rfl, hta, TC.cl, TC.nt, tk_text _ _ _ _, _, rfl, z.x, CP, z.dx, _, _, rfl, hp3.ob, PC.cl, PC.n4, pf_names, z.nl, (ns.take i).map V.str, rfl, .inl (SqL.of hp3.nl), rfl, flat_strs' _, _, rfl, ?_⟩
    rw [if_neg Bool.false_ne_true, inV_strs]
    have hnot : t ∉ ns.take i := fun h => by
      obtain ⟨j, hj, e⟩ := List.mem_take_iff_getElem.mp h
      have e2 : ns[j]? = some t := by rw [List.getElem?_eq_getElem (by omega), e]
      exact absurd (nd_ix hnd e2 ht) (by omega)
    refine ite2 (fun h => absurd (of_decide_eq_true h) hnot) (fun _ => ?_)
    refine ⟨_, rfl, z.x, CP, z.dx, _, _, rfl, hp3.ob, PC.cl, PC.n4, pf_names, z.nl, _, rfl, .inl (SqL.of hp3.nl), rfl, _, rfl, ?_⟩
    have hni : i ≠ 6 := by omega
    refine ite2 (fun h => absurd (of_decide_eq_true h) ?_) (fun _ => ?_)
    · rw [List.length_map, hi6]
      intro e; injection e with e; omega
    refine ⟨_, rfl, z.x, CP, z.dx, _, _, rfl, hp3.ob, PC.cl, PC.n4, pf_names, .inl ⟨rfl, _, SqL.of hp3.nl⟩, _, rfl, a, CT, tdx, _, _, rfl, hta, TC.cl, TC.nt, tk_text _ _ _ _, ?_⟩
    refine ⟨z.nl, _, _, rfl, rfl, hp3.nl, ?_, ⟨_, rfl⟩, ?_, ?_, ?_⟩
    · rw [List.length_map, hi6]; exact Nat.lt_of_lt_of_le (m := 100) (by omega) (by decide)
    · exact c3.fput _ (.inr (by simp [Pz.mut])) hp3.nl (fun _ q => by cases q)
    · have e : (ns.take i).map V.str ++ [V.str t] = (ns.take (i + 1)).map V.str := by rw [take_more ht, List.map_append]; rfl
      rw [e]
      exact hp3.setN _
    · have hne : p ≠ z.nl := fun e => hpo.1 (by rw [e]; simp [Pz.mut])
      rw [upd_ne hne]; exact hs3
  · rintro σ H3 ⟨⟨b, rfl⟩, c3, hp3, hs3⟩
    rw [hsl, List.take_length] at hp3
    exact q _ c3 hp3
end
end Br

namespace Br
open PySem PySem.Spec PyProof.Rows L2
theorem eqV_int (a b : Int) : eqV (.int a) (.int b) = decide (a = b) := by
  rw [Bool.eq_iff_iff, decide_eq_true_eq]
  exact ⟨fun h => eq_of_beq (show (a == b) = true from h), fun h => (show (a == b) = true from beq_iff_eq.mpr h)⟩
theorem inV_ints (x : Int) : ∀ l : List Int, inV (.int x) (l.map V.int) = decide (x ∈ l)
  | [] => by simp [inV]
  | y :: l => by
    have ih := inV_ints x l
    unfold inV at ih ⊢
    rw [List.map_cons, List.any_cons, ih, eqV_int, Bool.eq_iff_iff, Bool.or_eq_true, decide_eq_true_eq, decide_eq_true_eq, decide_eq_true_eq, List.mem_cons]
    exact or_congr ⟨fun h => h.symm, fun h => h.symm⟩ Iff.rfl
theorem flat_ints (l : List Int) : (l.map V.int).all flatV = true := by
  rw [List.all_eq_true]
  intro v hv
  obtain ⟨s, _, rfl⟩ := List.mem_map.mp hv
  rfl
/-- the name of the k-th -/
def nmL (ns : List Str) (k : Int) : Str := ns.getD k.toNat Str.empty
theorem nmL_at {ns : List Str} {k : Int} (h0 : 0 ≤ k) (h1 : k < ns.length) : ns[k.toNat]? = some (nmL ns k) := by
  unfold nmL
  rw [List.getD_eq_getElem?_getD, List.getElem?_eq_getElem (by omega)]; rfl
section
variable {P : Program} {w : World} {K : PySem.W.Frag} {mg : Str → Option Value} {base : Heap} {CT CP : Addr}
/-- the turns -/
def spTurns (CP CT : Addr) : Sp := fun vs H Q _ => ∃ (z : Pz) (L : List (Addr × (Str × Str))) (s : Pv) (ts : List Int) (rest : List (Str × Str)), vs = [.ref z.x] ∧ PAt CP CT z L s H ∧ s.names.Nodup ∧ s.names.length ≤ 6 ∧ ts ≠ [] ∧ ts.length ≤ 12 ∧
  (∀ t ∈ ts, 0 ≤ t ∧ t < s.names.length) ∧ (∀ k : Nat, k < s.names.length → (k : Int) ∈ ts) ∧
  TkAt L s.n ((("keyword" : Str), ("turns" : Str)) :: ((ts.map (nmL s.names)).map (fun t => (("name" : Str), t)) ++ (("sign" : Str), (";" : Str)) :: rest)) ∧
  ∀ H' r, Wd z.mut H H' [] → PAt CP CT z L { s with n := s.n + 1 + ts.length + 1 } H' → H' r = some (.tup (ts.map V.int)) → Q (.ref r) H'
abbrev sParser_parse_turns : Stmt := inClass (topS 40) 9
theorem scParser_parse_turns : FnScope ["self", "start", "turns", "index", "token", "person"] ["self"] (defScope sParser_parse_turns) := ⟨rfl, rfl, rfl, by decide +kernel, rfl, by decide +kernel, by decide +kernel⟩
theorem me_turns (D : MethAt K CP "parse_turns" "Parser.parse_turns" sParser_parse_turns ["self"]) (T : Bi mg) (PC : ParCls K CP) (TC : TokCls K CT) (LC : LexC K mg) (hMP : ∃ t, mg "MAX_TURNS" = some (.int 12 t))
    (C0 : MeAt P w K mg base 1 CP "peek" ["self"] (spPeek CP CT)) (C1 : MeAt P w K mg base 2 CP "take_word" ["self", "word"] (spTakeW CP CT))
    (C2 : MeAt P w K mg base 3 CP "take_all" ["self", "kind"] (spTakeA CP CT)) (C3 : MeAt P w K mg base 1 CP "person" ["self", "token"] (spPerson CP CT)) : MeAt P w K mg base 4 CP "parse_turns" ["self"] (spTurns CP CT) := D.me fun f fd F => by
  have nd := scParser_parse_turns.nd
  have cl_Parser := PC.cl
  obtain ⟨t1, c_NAME⟩ := LC.NAME
  obtain ⟨t2, c_MAX_TURNS⟩ := hMP
  obtain ⟨f0, fd0, me_peek, b_peek, G_peek⟩ := C0.ex
  obtain ⟨f1, fd1, me_take_word, b_take_word, G_take_word⟩ := C1.ex
  obtain ⟨f2, fd2, me_take_all, b_take_all, G_take_all⟩ := C2.ex
  obtain ⟨f3, fd3, me_person, b_person, G_person⟩ := C3.ex
  refine F.ok scParser_parse_turns (fun vs H Q E h => ?_) (fun cdv A outer s H vs Q E hr h => ?_)
  · obtain ⟨z, L, s, ts, rest, rfl, _⟩ := h; rfl
  obtain ⟨z, L, sv, ts, rest, rfl, hp, hnd, h6, hne, h12, hin, hall, hts, q⟩ := h
  refine ⟨_, (pss_cons (ps_set (i := 1) nd rfl (Or.inl rfl) (pe_meth0 (pv 0) cl_Parser me_peek G_peek (hr.mono (by first | decide | omega)) b_peek .nil pass0))
 (pss_cons (ps_expr (pe_meth (pv 0) cl_Parser me_take_word G_take_word (hr.mono (by first | decide | omega)) b_take_word .nil pass0 (pa_cons pe_str pa_nil)))
 (pss_cons (ps_set (i := 2) nd rfl (Or.inr rfl) (pe_lst pa_nil))
 (pss_cons (ps_for PassesOwn.never rfl (pi_enum (by rfl) T.enumerate (pa_cons (pe_meth (pv 0) cl_Parser me_take_all G_take_all (hr.mono (by first | decide | omega)) b_take_all .nil pass0 (pa_cons (pe_glob (v := .str "name") (by rfl) c_NAME ⟨_, rfl⟩) pa_nil)) pa_nil)) (pg_tupK (K := K) (n := 2) rfl rfl (pgs_cons (pg_name (i := 3) nd rfl (Or.inl rfl)) (pgs_cons (pg_name (i := 4) nd rfl (Or.inl rfl)) pgs_nil)))
 (pss_cons (ps_expr (pe_bmK (K := K) rfl PySem.F.plainAttrs_list PySem.F.slot_list_append PySem.F.type_list_append mt_append (pv 2) (pa_cons (pe_meth (pv 0) cl_Parser me_person G_person (hr.mono (by first | decide | omega)) b_person .nil pass0 (pa_cons (pv 4) pa_nil)) pa_nil)))
 (pss_one (ps_if (pt_cmpR op_eq (pv 3) (pe_glob (v := .int 12) (by rfl) c_MAX_TURNS ⟨_, rfl⟩) (nomark _))
 pss_never
 pss_nil))))
 (pss_cons (ps_if (pt_val (pe_callB (r := L2.rAny K) (cr_any rfl) (by rfl) T.any (by decide +kernel) (pa_cons (pe_lc (own := [("person", 5)]) rfl nd (pi_range1 (by rfl) T.range (pa_cons (pe_callB (r := rLenS K) call_len_seq (by rfl) T.len PySem.boot_len (pa_cons (pe_fldK (K := K) rfl (pv 0) rfl) pa_nil)) pa_nil)) (blkOk_by (N := ["self", "start", "turns", "index", "token", "person"]) (sc := defScope sParser_parse_turns) (by decide +kernel)) (fun _ _ _ _ _ => (pg_name (i := 5) nd rfl (Or.inl rfl))) (fun _ _ _ _ _ => pts_nil) (fun _ _ _ _ _ => (pe_cmpR (r := rIn K true) op_notIn_seq (pv 5) (pv 2) (by rfl)))) pa_nil)))
 pss_never
 pss_nil)
 (pss_one (ps_ret (pe_callTy (r := rTupOf K) call_tuple_of (by rfl) T.tuple (by decide +kernel) (pa_cons (pv 2) pa_nil))))))))), ?_⟩
  obtain ⟨⟨a0, h0⟩, hts1⟩ := hts.cons
  refine ⟨_, rfl, z.x, z.dx, _, rfl, hp.ob, pf_none (by decide +kernel), z, L, sv, a0, _, rfl, hp, h0, ?_⟩
  refine ⟨_, rfl, z.x, z.dx, _, rfl, hp.ob, pf_none (by decide +kernel), z, L, sv, a0, _, _, rfl, hp, h0, fun H1 c1 hp1 => ?_⟩
  refine ⟨(by show 0 ≤ sizeLine; decide), fun tq htq => ?_⟩
  have htqN := c1.free _ htq
  have c1 := c1.fnew (.lst []) htq
  have htq0 := (hp1.out htq)
  have hp1 := hp1.new (.lst []) htq
  have htq1 : upd H1 tq (.lst []) tq = some (.lst ([].map V.int)) := upd_same
  generalize upd H1 tq (.lst []) = H1 at *
  refine ⟨_, rfl, z.x, z.dx, _, rfl, hp1.ob, pf_none (by decide +kernel), z, L, _, _, ts.map (nmL sv.names), rest, rfl, hp1, by decide +kernel, by simpa using hne, by rw [List.length_map]; omega, hts1, fun H2 p sub c2 hp2 hpn hsub hmap hmem => ?_⟩
  have hpo := hp1.out hpn
  have hpt : p ≠ tq := (ne_of_none htq1 hpn).symm
  have htq2 := c2.base _ _ htq0.1 htq1
  have hsl : (trefs sub).length = ts.length := by
    have := congrArg List.length hmap
    rw [List.length_map, List.length_map, List.length_map] at this
    rw [trefs_len]; exact this
  have hlen : (ts.map (nmL sv.names)).length = ts.length := List.length_map ..
  rw [hlen] at hp2
  refine ⟨p, _, rfl, SqL.of hsub, ?_⟩
  refine for_it (walk_enum (xs := trefs sub)) (fun i σ H' => (∃ b c d e, σ = [some (.ref z.x), b, some (.ref tq), c, d, e]) ∧ Wd z.mut H H' [] ∧ PAt CP CT z L { sv with n := sv.n + 1 + ts.length + 1 } H' ∧ H' p = some (.lst (trefs sub)) ∧ H' tq = some (.lst ((ts.take i).map V.int))) ?_ ?_ ?_ ?_
  · exact ⟨⟨_, _, _, _, rfl⟩, c1.fgo c2, hp2, hsub, htq2⟩
  · rintro i σ H' _ ⟨_, _, _, h, _⟩
    exact SqL.of h
  · rintro i x σ H3 H3' hi ⟨⟨b, c, d, e, rfl⟩, c3, hp3, hs3, hq3⟩ ⟨T0, x1, x2, rfl, hT0, rfl, e1, e2⟩
    cases e1
    obtain ⟨a, t, rfl, ht, hm⟩ := sub_at hmap e2
    rw [List.getElem?_map] at ht
    obtain ⟨v, hv, rfl⟩ : ∃ v, ts[i]? = some v ∧ nmL sv.names v = t := by
      cases e5 : ts[i]? with
      | none => rw [e5] at ht; cases ht
      | some v => rw [e5] at ht; exact ⟨v, rfl, Option.some.inj ht⟩
    have hv0 := hin v (List.mem_of_getElem? hv)
    have hi2 := (List.getElem?_eq_some_iff.mp hv).1
    have hpT := ne_of_none hs3 hT0
    have hqT := ne_of_none hq3 hT0
    have c4 := c3.fnew (.tup [.int (i : Nat), .ref a]) hT0
    have hp4 := hp3.new (.tup [.int (i : Nat), .ref a]) hT0
    have hT4 : upd H3 T0 (.tup [.int (i : Nat), .ref a]) T0 = some (.tup [.int (i : Nat), .ref a]) := upd_same
    have hs4 : upd H3 T0 (.tup [.int (i : Nat), .ref a]) p = some (.lst (trefs sub)) := by rw [upd_ne hpT]; exact hs3
    have hq4 : upd H3 T0 (.tup [.int (i : Nat), .ref a]) tq = some (.lst ((ts.take i).map V.int)) := by rw [upd_ne hqT]; exact hq3
    generalize upd H3 T0 (.tup [.int (i : Nat), .ref a]) = H4 at *
    have hil : (ts.take i).length = i := by rw [List.length_take]; omega
    refine ⟨T0, _, rfl, SqT.of hT4, rfl, _, _, rfl, _, _, rfl, rfl, ?_⟩
    refine ⟨_, rfl, .inl ⟨rfl, _, SqL.of hq4⟩, _, rfl, z.x, z.dx, _, rfl, hp4.ob, pf_none (by decide +kernel), _, rfl, z, L, _, a, _, _, v.toNat, rfl, hp4, hmem _ hm, hnd, nmL_at hv0.1 hv0.2, ?_⟩
    refine ⟨tq, _, _, rfl, rfl, hq4, (by rw [List.length_map, hil]; exact Nat.lt_of_lt_of_le (m := 100) (by omega) (by decide)), _, rfl, rfl, _, rfl, ?_⟩
    refine ite2 (fun h => absurd (of_decide_eq_true h) (fun e => by injection e with e; omega)) (fun _ => ?_)
    have e6 : (ts.take i).map V.int ++ [V.int (v.toNat : Int)] = (ts.take (i + 1)).map V.int := by
      rw [take_more hv, List.map_append, Int.toNat_of_nonneg hv0.1]; rfl
    rw [e6]
    refine ⟨⟨_, _, _, _, rfl⟩, c4.fput _ (.inl htqN) hq4 (fun _ q => by cases q), hp4.putL hq4 htq0.1 htq0.2.1 htq0.2.2, by rw [upd_ne hpt]; exact hs4, upd_same⟩
  · rintro σ H3 ⟨⟨b, c, d, e, rfl⟩, c3, hp3, hs3, hq3⟩
    rw [hsl, List.take_length] at hq3
    refine ⟨_, rfl, z.x, CP, z.dx, _, _, rfl, hp3.ob, PC.cl, PC.n4, pf_names, z.nl, sv.names.map V.str, rfl, .inl (SqL.of hp3.nl), _, rfl, by rw [List.length_map]; omega, by rw [List.length_map]; omega, fun D hD => ?_⟩
    have w4 := (Wd.refl H3).new (.lst []) hD
    have en : (((sv.names.map V.str).length : Nat) : Int).toNat = sv.names.length := by rw [List.length_map]; omega
    rw [en]
    refine lc_range (lo := 0) (n := sv.names.length) (fun i H2 => Wd [] H3 H2 [(D, .lst ((List.replicate i false).map V.bl))]) w4 ?_ ?_
    · rintro i H5 hi w5
      have hi2 := hall i hi
      refine ⟨rfl, _, rfl, _, rfl, tq, ts.map V.int, rfl, .inl (SqL.of (w5.old hq3 (by simp))), rfl, flat_ints _, _, w5.get 0 rfl, ?_, ?_⟩
      · rw [List.length_map, List.length_replicate]; exact Nat.lt_of_lt_of_le (m := 100) (by omega) (by decide)
      · rw [if_pos rfl, inV_ints, decide_eq_true (by rw [Int.zero_add]; exact hi2)]
        have := w5.put 0 (.lst ((List.replicate i false).map V.bl ++ [V.bl false])) rfl (fun _ q => by cases q)
        rw [List.replicate_succ', List.map_append]
        exact this
    · intro H5 w5
      refine ⟨D, _, rfl, SqL.of (w5.get 0 rfl), _, rfl, ?_⟩
      have ea : (List.replicate sv.names.length false).any id = false := by
        rw [List.any_eq_false]
        intro x hx
        rw [(List.mem_replicate.mp hx).2]; simp
      rw [ea]
      refine ite2 (fun h => absurd h (by decide)) (fun _ => ?_)
      refine ⟨_, rfl, tq, _, rfl, .inl ⟨SqL.of (w5.old hq3 (by simp)), fun l hl => ?_⟩⟩
      have c5 : Wd z.mut H H5 [] := c3.fgo ((w5.sub (List.nil_sublist _)).mono fun _ h => nomatch h)
      exact q _ l (c5.fnew _ hl) ((hp3.call0 w5).new _ hl) upd_same
/-! ### the weights -/
def ntok (i : Int) : Str × Str := (("number" : Str), num i)
theorem int_num' {i : Int} (h0 : 0 ≤ i) (h1 : i ≤ 99) : intText? (num i) = some i ∧ (num i).length ≤ 640 := by
  obtain ⟨n, rfl⟩ := Int.eq_ofNat_of_zero_le h0
  have hl := TL.tl_num n
  have h2 : (TL.numL n).length ≤ 2 := by
    have : ∀ m : Nat, m < 100 → (TL.numL m).length ≤ 2 := by decide +kernel
    exact this n (by omega)
  refine ⟨TL.int_num (by omega), ?_⟩
  have : (num (n : Int)).length = (TL.numL n).length := by rw [TL.len_tl]; exact congrArg List.length hl
  omega
def spWeights (CP CT : Addr) : Sp := fun vs H Q _ => ∃ (z : Pz) (L : List (Addr × (Str × Str))) (s : Pv) (ws : List Int) (rest : List (Str × Str)), vs = [.ref z.x] ∧ PAt CP CT z L s H ∧ s.W = none ∧ ws.length = s.names.length ∧ s.names.length ≤ 6 ∧ ws ≠ [] ∧
  (∀ t ∈ ws, 1 ≤ t ∧ t ≤ 9) ∧
  TkAt L s.n ((("keyword" : Str), ("weights" : Str)) :: ((ws.map num).map (fun t => (("number" : Str), t)) ++ (("sign" : Str), (";" : Str)) :: rest)) ∧
  ∀ H' b, Wd z.mut H H' [] → PAt CP CT z L { s with n := s.n + 1 + ws.length + 1, W := some (b, ws) } H' → Q .non H'
abbrev sParser_parse_weights : Stmt := inClass (topS 40) 10
theorem scParser_parse_weights : FnScope ["self", "start", "tokens", "index", "token"] ["self"] (defScope sParser_parse_weights) := ⟨rfl, rfl, rfl, by decide +kernel, rfl, by decide +kernel, by decide +kernel⟩
theorem me_weights (D : MethAt K CP "parse_weights" "Parser.parse_weights" sParser_parse_weights ["self"]) (T : Bi mg) (PC : ParCls K CP) (TC : TokCls K CT) (LC : LexC K mg) (hMP : ∃ t, mg "MAX_WEIGHT" = some (.int 9 t))
    (C0 : MeAt P w K mg base 1 CP "peek" ["self"] (spPeek CP CT)) (C1 : MeAt P w K mg base 2 CP "take_word" ["self", "word"] (spTakeW CP CT))
    (C2 : MeAt P w K mg base 3 CP "take_all" ["self", "kind"] (spTakeA CP CT)) : MeAt P w K mg base 4 CP "parse_weights" ["self"] (spWeights CP CT) := D.me fun f fd F => by
  have nd := scParser_parse_weights.nd
  have cl_Parser := PC.cl
  obtain ⟨t1, c_NUMBER⟩ := LC.NUMBER
  obtain ⟨t2, c_MAX_WEIGHT⟩ := hMP
  obtain ⟨f0, fd0, me_peek, b_peek, G_peek⟩ := C0.ex
  obtain ⟨f1, fd1, me_take_word, b_take_word, G_take_word⟩ := C1.ex
  obtain ⟨f2, fd2, me_take_all, b_take_all, G_take_all⟩ := C2.ex
  refine F.ok scParser_parse_weights (fun vs H Q E h => ?_) (fun cdv A outer s H vs Q E hr h => ?_)
  · obtain ⟨z, L, s, ts, rest, rfl, _⟩ := h; rfl
  obtain ⟨z, L, sv, ws, rest, rfl, hp, hW, hwl, h6, hne, hin, hts, q⟩ := h
  refine ⟨_, (pss_cons (ps_set (i := 1) nd rfl (Or.inl rfl) (pe_meth0 (pv 0) cl_Parser me_peek G_peek (hr.mono (by first | decide | omega)) b_peek .nil pass0))
 (pss_cons (ps_expr (pe_meth (pv 0) cl_Parser me_take_word G_take_word (hr.mono (by first | decide | omega)) b_take_word .nil pass0 (pa_cons pe_str pa_nil)))
 (pss_cons (ps_set (i := 2) nd rfl (Or.inl rfl) (pe_meth (pv 0) cl_Parser me_take_all G_take_all (hr.mono (by first | decide | omega)) b_take_all .nil pass0 (pa_cons (pe_glob (v := .str "number") (by rfl) c_NUMBER ⟨_, rfl⟩) pa_nil)))
 (pss_cons (ps_if (pt_cmpR op_notN (pe_fldK (K := K) rfl (pv 0) rfl) pe_non (nomark _))
 pss_never
 pss_nil)
 (pss_cons (ps_for PassesOwn.never rfl (pi_enum (by rfl) T.enumerate (pa_cons (pv 2) pa_nil)) (pg_tupK (K := K) (n := 2) rfl rfl (pgs_cons (pg_name (i := 3) nd rfl (Or.inl rfl)) (pgs_cons (pg_name (i := 4) nd rfl (Or.inl rfl)) pgs_nil)))
 (pss_one (ps_if (PW.pt (pw_or (pt_cmpR op_eq (pv 3) (pe_callB (r := rLenS K) call_len_seq (by rfl) T.len PySem.boot_len (pa_cons (pe_fldK (K := K) rfl (pv 0) rfl) pa_nil)) (nomark _)) (pw_or1 (pt_not (pt_chain op_le op_le pe_int (pe_callTy call_int_str (by rfl) T.int (by decide +kernel) (pa_cons (pe_fldK (K := K) rfl (pv 4) rfl) pa_nil)) (pe_glob (v := .int 9) (by rfl) c_MAX_WEIGHT ⟨_, rfl⟩))))))
 pss_never
 pss_nil)))
 (pss_cons (ps_if (pt_cmpR op_lt (pe_callB (r := rLenS K) call_len_seq (by rfl) T.len PySem.boot_len (pa_cons (pv 2) pa_nil)) (pe_callB (r := rLenS K) call_len_seq (by rfl) T.len PySem.boot_len (pa_cons (pe_fldK (K := K) rfl (pv 0) rfl) pa_nil)) (nomark _))
 pss_never
 pss_nil)
 (pss_one (ps_fld (pv 0) (pe_callTy (r := rTupOf K) call_tuple_of (by rfl) T.tuple (by decide +kernel) (pa_cons (pe_lc (own := [("token", 4)]) rfl nd (pi_listK (K := K) rfl (pv 2)) (blkOk_by (N := ["self", "start", "tokens", "index", "token"]) (sc := defScope sParser_parse_weights) (by decide +kernel)) (fun _ _ _ _ _ => (pg_name (i := 4) nd rfl (Or.inl rfl))) (fun _ _ _ _ _ => pts_nil) (fun _ _ _ _ _ => (pe_callTy call_int_str (by rfl) T.int (by decide +kernel) (pa_cons (pe_fldK (K := K) rfl (pv 4) rfl) pa_nil)))) pa_nil)) rfl)))))))), ?_⟩
  obtain ⟨⟨a0, h0⟩, hts1⟩ := hts.cons
  refine ⟨_, rfl, z.x, z.dx, _, rfl, hp.ob, pf_none (by decide +kernel), z, L, sv, a0, _, rfl, hp, h0, ?_⟩
  refine ⟨_, rfl, z.x, z.dx, _, rfl, hp.ob, pf_none (by decide +kernel), z, L, sv, a0, _, _, rfl, hp, h0, fun H1 c1 hp1 => ?_⟩
  refine ⟨_, rfl, z.x, z.dx, _, rfl, hp1.ob, pf_none (by decide +kernel), z, L, _, _, ws.map num, rest, rfl, hp1, by decide +kernel, by simpa using hne, by rw [List.length_map]; omega, hts1, fun H2 p sub c2 hp2 hpn hsub hmap hmem => ?_⟩
  have hpo := hp1.out hpn
  have hsl : (trefs sub).length = ws.length := by
    have := congrArg List.length hmap
    rw [List.length_map, List.length_map, List.length_map] at this
    rw [trefs_len]; exact this
  have hlen : (ws.map num).length = ws.length := List.length_map ..
  rw [hlen] at hp2
  have hw2 : oV sv.W = .non := by rw [hW]; rfl
  refine ⟨_, rfl, z.x, CP, z.dx, _, _, rfl, hp2.ob, PC.cl, PC.n5, pf_weights, ?_⟩
  have tokv : ∀ (i : Nat) (x : V), (trefs sub)[i]? = some x → ∃ a v, x = .ref a ∧ ws[i]? = some v ∧ (a, (("number" : Str), num v)) ∈ L ∧ 1 ≤ v ∧ v ≤ 9 := fun i x hx => by
    obtain ⟨a, t, rfl, ht, hm⟩ := sub_at hmap hx
    rw [List.getElem?_map] at ht
    cases e5 : ws[i]? with
    | none => rw [e5] at ht; cases ht
    | some v =>
      rw [e5] at ht
      have e6 : num v = t := Option.some.inj ht
      exact ⟨a, v, rfl, rfl, by rw [e6]; exact hmem _ hm, (hin v (List.mem_of_getElem? e5)).1, (hin v (List.mem_of_getElem? e5)).2⟩
  refine ⟨rfl, _, rfl, ?_⟩
  rw [hw2]
  refine ite2 (fun h => absurd h (by simp)) (fun _ => ?_)
  refine ⟨_, rfl, p, _, rfl, SqL.of hsub, ?_⟩
  refine for_it (walk_enum (xs := trefs sub)) (fun i σ H' => (∃ b c d, σ = [some (.ref z.x), b, some (.ref p), c, d]) ∧ Wd z.mut H H' [] ∧ PAt CP CT z L { sv with n := sv.n + 1 + ws.length + 1 } H' ∧ H' p = some (.lst (trefs sub))) ?_ ?_ ?_ ?_
  · exact ⟨⟨_, _, _, rfl⟩, c1.fgo c2, hp2, hsub⟩
  · rintro i σ H' _ ⟨_, _, _, h⟩
    exact SqL.of h
  · rintro i x σ H3 H3' hi ⟨⟨b, c, d, rfl⟩, c3, hp3, hs3⟩ ⟨T0, x1, x2, rfl, hT0, rfl, e1, e2⟩
    cases e1
    obtain ⟨a, v, rfl, hv, hm, hv1, hv9⟩ := tokv i _ e2
    have hi2 := (List.getElem?_eq_some_iff.mp hv).1
    have hpT := ne_of_none hs3 hT0
    have c4 := c3.fnew (.tup [.int (i : Nat), .ref a]) hT0
    have hp4 := hp3.new (.tup [.int (i : Nat), .ref a]) hT0
    have hT4 : upd H3 T0 (.tup [.int (i : Nat), .ref a]) T0 = some (.tup [.int (i : Nat), .ref a]) := upd_same
    have hs4 : upd H3 T0 (.tup [.int (i : Nat), .ref a]) p = some (.lst (trefs sub)) := by rw [upd_ne hpT]; exact hs3
    generalize upd H3 T0 (.tup [.int (i : Nat), .ref a]) = H4 at *
    obtain ⟨tdx, tl, tc, hta⟩ := hp4.ts _ hm
    obtain ⟨hn1, hn2⟩ := int_num' (i := v) (by omega) (by omega)
    refine ⟨T0, _, rfl, SqT.of hT4, rfl, _, _, rfl, _, _, rfl, rfl, ?_⟩
    refine ⟨_, rfl, _, rfl, z.x, CP, z.dx, _, _, rfl, hp4.ob, PC.cl, PC.n4, pf_names, z.nl, _, rfl, .inl (SqL.of hp4.nl), rfl, _, rfl, ?_⟩
    refine ite2 (fun h => absurd (of_decide_eq_true h) (fun e => by injection e with e; rw [List.length_map] at e; dsimp only at e; omega)) (fun _ => ?_)
    refine ⟨_, rfl, a, CT, tdx, _, _, rfl, hta, TC.cl, TC.nt, tk_text _ _ _ _, _, v, rfl, hn1, hn2, _, _, rfl, rfl, _, rfl, ?_⟩
    refine ite2 (fun _ => ?_) (fun h => absurd (decide_eq_true hv1) h)
    refine ⟨_, _, rfl, rfl, _, rfl, ?_⟩
    rw [decide_eq_true (show v ≤ 9 from hv9)]
    refine ite2 (fun h => absurd h (by decide)) (fun _ => ?_)
    exact ⟨⟨_, _, _, rfl⟩, c4, hp4, hs4⟩
  · rintro σ H3 ⟨⟨b, c, d, rfl⟩, c3, hp3, hs3⟩
    refine ⟨_, rfl, p, _, rfl, .inl (SqL.of hs3), _, rfl, z.x, CP, z.dx, _, _, rfl, hp3.ob, PC.cl, PC.n4, pf_names, z.nl, _, rfl, .inl (SqL.of hp3.nl), _, _, rfl, rfl, _, rfl, ?_⟩
    refine ite2 (fun h => absurd (of_decide_eq_true h) (by rw [List.length_map, hsl, hwl]; dsimp only; omega)) (fun _ => ?_)
    refine ⟨_, rfl, p, rfl, ⟨_, SqL.of hs3⟩, fun D hD => ?_⟩
    have w0 := (Wd.refl H3).new (.lst []) hD
    refine lc_list (K := K) (a := p) (xs := trefs sub) (fun i H2 => Wd [] H3 H2 [(D, .lst ((ws.take i).map V.int))]) w0 (fun i H2 _ w => SqL.of (w.old hs3 (by simp))) ?_ ?_
    · rintro i x H4 hx w4
      obtain ⟨a, v, rfl, hv, hm, hv1, hv9⟩ := tokv i _ hx
      have hi2 := (List.getElem?_eq_some_iff.mp hv).1
      obtain ⟨tdx, tl, tc, hta⟩ := (hp3.call0 w4).ts _ hm
      obtain ⟨hn1, hn2⟩ := int_num' (i := v) (by omega) (by omega)
      refine ⟨rfl, _, rfl, a, CT, tdx, _, _, rfl, hta, TC.cl, TC.nt, tk_text _ _ _ _, _, v, rfl, hn1, hn2, _, w4.get 0 rfl, ?_, ?_⟩
      · rw [List.length_map, List.length_take]; exact Nat.lt_of_lt_of_le (m := 100) (by omega) (by decide)
      · rw [take_more hv, List.map_append]
        exact w4.put 0 (.lst ((ws.take i).map V.int ++ [V.int v])) rfl (fun _ q => by cases q)
    · intro H4 w4
      rw [hsl, List.take_length] at w4
      refine ⟨D, _, rfl, .inl ⟨SqL.of (w4.get 0 rfl), fun b hb => ?_⟩⟩
      have c5 : Wd z.mut H H4 [] := c3.fgo ((w4.sub (List.nil_sublist _)).mono fun _ h => nomatch h)
      have c6 := c5.fnew (.tup (ws.map V.int)) hb
      have hp6 := (hp3.call0 w4).new (.tup (ws.map V.int)) hb
      refine ⟨_, rfl, z.x, CP, z.dx, _, rfl, hp6.ob, PC.cl, PC.n5, (by show 7 < 1000; decide), ?_⟩
      rw [pf_putW (b, ws)]
      refine q _ b (c6.fput _ (.inr (by simp [Pz.mut])) hp6.ob (fun _ q => by cases q)) (hp6.setX _ rfl rfl (fun p hp => ?_) hp6.m)
      cases hp
      exact upd_same
end
end Br

namespace Br
open PySem PySem.Spec PyProof.Rows L2
/-- a state of the rota: the next turn and what everybody owes -/
def StT (H : Hp) (a : Addr) (s : Nat) (o : List Int) : Prop := ∃ b : Addr, H a = some (.tup [.int (s : Int), .ref b]) ∧ H b = some (.tup (o.map V.int))
def dV : Option Int → V
  | none => .non
  | some p => .int p
theorem StT.keep {H H' : Hp} (k : ∀ b xs, H b = some (.tup xs) → H' b = some (.tup xs)) {a : Addr} {s : Nat} {o : List Int} (h : StT H a s o) : StT H' a s o := by
  obtain ⟨b, h1, h2⟩ := h; exact ⟨b, k _ _ h1, k _ _ h2⟩
theorem owes_V {o : List Int} {p : Int} (h0 : 0 ≤ p) (h1 : p < o.length) : atI (o.map V.int) p = some (.int (owes o p)) := by
  have e : p = ((p.toNat : Nat) : Int) := by omega
  rw [e]
  refine atI_nat ?_
  rw [List.getElem?_map, ← e, owes_at h0 (by omega)]; rfl
theorem turn_V {r : Rota} {s : Nat} (h : s < r.turns.length) : atI (r.turns.map V.int) (s : Int) = some (.int (turnAt r s)) :=
  atI_nat (by rw [List.getElem?_map, turnAt_at h]; rfl)
theorem max_unique {m : Int} {l : List Int} (hm : m ∈ l) (h : ∀ y ∈ l, y ≤ m) : m = maxL l := by
  obtain ⟨h1, h2⟩ := maxL_mem (l := l) (by rintro rfl; cases hm)
  have := h _ h1
  have := h2 _ hm
  omega
section
variable {r : Rota} {s : Nat} {o : List Int} {t p : Int}
theorem tick_debt (h : homes r t ≠ []) (c : 0 < maxL ((homes r t).map (owes o))) (hd : debtor (homes r t) o = some p) : tickF r s o t = (s, chg o p (-1), some p) := by
  unfold tickF; simp only; rw [if_neg h, if_pos c, hd]
theorem tick_turn (h : homes r t ≠ []) (c : ¬ 0 < maxL ((homes r t).map (owes o))) : tickF r s o t = (nextS r (spin r (homes r t) r.turns.length s o).1, (spin r (homes r t) r.turns.length s o).2, some (turnAt r (spin r (homes r t) r.turns.length s o).1)) := by
  unfold tickF; simp only; rw [if_neg h, if_neg c]
def topOf (hs o : List Int) : Int → Bool := fun p => decide (owes o p = maxL (hs.map (owes o)))
theorem fmod_nat (a b : Nat) : (a : Int).fmod (b : Int) = ((a % b : Nat) : Int) := by
  rw [Int.fmod_eq_emod_of_nonneg _ (by omega)]; rfl
end
section
variable {P : Program} {w : World} {K : PySem.W.Frag} {mg : Str → Option Value} {base : Heap}
theorem dp_ints {H : Hp} : ∀ l : List Int, DpAll K H (l.map V.int) (l.map PyData.int)
  | [] => .nil
  | x :: l => .cons (.int x) (dp_ints l)
theorem lay_ints : ∀ l : List Int, PyData.canLayAll0 (l.map PyData.int) = true ∧ PyData.depthAll (l.map PyData.int) = 0
  | [] => ⟨rfl, rfl⟩
  | x :: l => by
    obtain ⟨h1, h2⟩ := lay_ints l
    exact ⟨by rw [List.map_cons, PyData.canLayAll0, h1, Bool.and_true]; rfl, by rw [List.map_cons, PyData.depthAll, h2]; rfl⟩
theorem shaped_ints (l : List Int) : SeqAt.shaped (.list (l.map PyData.int)) = true := by
  unfold SeqAt.shaped
  obtain ⟨h1, h2⟩ := lay_ints l
  rw [PyData.canLay0, h1, PyData.depth, h2]; decide
abbrev safter_tick : Stmt := topS 49
theorem scafter_tick : FnScope ["parsed", "state", "tick", "spot", "owed", "at_home", "most", "person", "turns"] ["parsed", "state", "tick"] (defScope safter_tick) := ⟨rfl, rfl, rfl, by decide +kernel, rfl, by decide +kernel, by decide +kernel⟩
def spAfter : Sp := fun vs H Q _ => ∃ (a st : Addr) (r : Rota) (s : Nat) (o : List Int) (t : Int), vs = [.ref a, .ref st, .int t] ∧ RotaAt H a r ∧ ROk r ∧ StT H st s o ∧ s < r.turns.length ∧ OwOk r o ∧
  ∀ H' p st', Wd [] H H' [] → H' p = some (.tup [.ref st', dV (tickF r s o t).2.2]) → StT H' st' (tickF r s o t).1 (tickF r s o t).2.1 → Q (.ref p) H'
theorem cal_after (D : DefAt K mg "after_tick" safter_tick ["parsed", "state", "tick"]) (T : Bi mg) (C1 : Cal P w K mg base 2 "home_people" ["parsed", "tick"] spHomes) (C2 : Cal P w K mg base 1 "changed" ["owed", "person", "amount"] spChanged) : Cal P w K mg base 3 "after_tick" ["parsed", "state", "tick"] spAfter := D.cal fun f fd F => by
  have nd := scafter_tick.nd
  obtain ⟨f1, fd1, m_home_people, kp_home_people, b_home_people, G_home_people⟩ := C1.ex
  obtain ⟨f2, fd2, m_changed, kp_changed, b_changed, G_changed⟩ := C2.ex
  refine F.ok scafter_tick (fun vs H Q E h => ?_) (fun cdv A outer s H vs Q E hr h => ?_)
  · obtain ⟨a, st, r, s, o, t, rfl, _⟩ := h; rfl
  obtain ⟨a, st, r, s, o, t, rfl, hR, ok, hS, hs, hO, q⟩ := h
  obtain ⟨an, at_, aw, aa, am, as, h1, h2, h3, h4, h5, h6, h7⟩ := id hR
  have hu := hr.units
  refine ⟨_, (pss_cons (ps_asg (pv 1) (pg_tupK (K := K) (n := 2) rfl rfl (pgs_cons (pg_name (i := 3) nd rfl (Or.inl rfl)) (pgs_cons (pg_name (i := 4) nd rfl (Or.inr rfl)) pgs_nil))))
 (pss_cons (ps_set (i := 5) nd rfl (Or.inl rfl) (pe_call G_home_people (hr.mono (by first | decide | omega)) (by rfl) m_home_people kp_home_people b_home_people .nil pass0 (pa_cons (pv 0) (pa_cons (pv 2) pa_nil))))
 (pss_cons (ps_if (pt_cmpR (r := rEqD K) (op_eqD hu) (pv 5) (pe_lst pa_nil) (nomark _))
 (pss_one (ps_ret (pe_tup (pa_cons (pv 1) (pa_cons pe_non pa_nil)))))
 pss_nil)
 (pss_cons (ps_set (i := 6) nd rfl (Or.inr rfl) (pe_callB (r := L2.rMax K) (cr_max rfl) (by rfl) T.max (by decide +kernel) (pa_cons (pe_lc (own := [("person", 7)]) rfl nd (pi_listK (K := K) rfl (pv 5)) (blkOk_by (N := ["parsed", "state", "tick", "spot", "owed", "at_home", "most", "person", "turns"]) (sc := defScope safter_tick) (by decide +kernel)) (fun _ _ _ _ _ => (pg_name (i := 7) nd rfl (Or.inl rfl))) (fun _ _ _ _ _ => pts_nil) (fun _ _ _ _ _ => (pe_ix (r := rIxT K) ix_tup (pv 4) (pv 7) (fun _ _ => rfl)))) pa_nil)))
 (pss_cons (ps_if (pt_cmpR op_gt (pv 6) pe_int (nomark _))
 (pss_cons (ps_set (i := 7) nd rfl (Or.inl rfl) (pe_ix (r := rIxL K) ix_list (pe_lc (own := [("person", 7)]) rfl nd (pi_listK (K := K) rfl (pv 5)) (blkOk_by (N := ["parsed", "state", "tick", "spot", "owed", "at_home", "most", "person", "turns"]) (sc := defScope safter_tick) (by decide +kernel)) (fun _ _ _ _ _ => (pg_name (i := 7) nd rfl (Or.inl rfl))) (fun _ _ _ _ _ => (pts_one (pt_cmpR op_eq (pe_ix (r := rIxT K) ix_tup (pv 4) (pv 7) (fun _ _ => rfl)) (pv 6) (nomark _)))) (fun _ _ _ _ _ => (pv 7))) pe_int (fun _ _ => rfl)))
 (pss_one (ps_ret (pe_tup (pa_cons (pe_tup (pa_cons (pv 3) (pa_cons (pe_call G_changed (hr.mono (by first | decide | omega)) (by rfl) m_changed kp_changed b_changed .nil pass0 (pa_cons (pv 4) (pa_cons (pv 7) (pa_cons (pe_un un_neg pe_int) pa_nil)))) pa_nil))) (pa_cons (pv 7) pa_nil))))))
 pss_nil)
 (pss_cons (ps_set (i := 8) nd rfl (Or.inl rfl) (pe_ix (r := rIxT K) ix_tup (pv 0) pe_int (fun _ _ => rfl)))
 (pss_cons (ps_while PassesOwn.never (pt_cmpR (r := rIn K true) op_notIn_seq (pe_ix (r := rIxT K) ix_tup (pv 8) (pv 3) (fun _ _ => rfl)) (pv 5) (by rfl))
 (C8.pss_cut (ps_if (pt_cmpR (r := rIn K false) op_in_seq (pe_ix (r := rIxT K) ix_tup (pv 8) (pv 3) (fun _ _ => rfl)) (pe_ix (r := rIxT K) ix_tup (pv 0) pe_int (fun _ _ => rfl)) (by rfl))
 (pss_one (ps_set (i := 4) nd rfl (Or.inr rfl) (pe_call G_changed (hr.mono (by first | decide | omega)) (by rfl) m_changed kp_changed b_changed .nil pass0 (pa_cons (pv 4) (pa_cons (pe_ix (r := rIxT K) ix_tup (pv 8) (pv 3) (fun _ _ => rfl)) (pa_cons pe_int pa_nil))))))
 pss_nil)
 (pss_one (ps_set (i := 3) nd rfl (Or.inl rfl) (pe_op op_modN (pe_callTy call_int1 (by rfl) T.int (by decide +kernel) (pa_cons (pe_op op_add (pv 3) pe_int) pa_nil)) (pe_callB (r := rLenS K) call_len_seq (by rfl) T.len PySem.boot_len (pa_cons (pv 8) pa_nil)))))))
 (pss_one (ps_ret (pe_tup (pa_cons (pe_tup (pa_cons (pe_op op_modN (pe_callTy call_int1 (by rfl) T.int (by decide +kernel) (pa_cons (pe_op op_add (pv 3) pe_int) pa_nil)) (pe_callB (r := rLenS K) call_len_seq (by rfl) T.len PySem.boot_len (pa_cons (pv 8) pa_nil))) (pa_cons (pv 4) pa_nil))) (pa_cons (pe_ix (r := rIxT K) ix_tup (pv 8) (pv 3) (fun _ _ => rfl)) pa_nil)))))))))))), ?_⟩
  obtain ⟨ob, hst, hob⟩ := id hS
  have n6 := ok.n6
  have ol := hO.len
  refine ⟨_, rfl, st, _, rfl, SqT.of hst, rfl, _, _, rfl, _, _, rfl, rfl, ?_⟩
  refine ⟨_, rfl, _, rfl, a, r, t, rfl, hR, ok, fun H1 hp w1 => ?_⟩
  refine ⟨_, rfl, Nat.zero_le _, fun e he => ?_⟩
  have w2 := w1.new (.lst []) he
  refine ⟨.list ((homes r t).map PyData.int), .list [], .lst (SqL.of (w2.get 1 rfl)) (dp_ints _), .lst (SqL.of (w2.get 0 rfl)) .nil, shaped_ints _, rfl, _, rfl, ?_⟩
  rw [eqv_nil]
  by_cases hne : homes r t = []
  · rw [hne]
    refine iteT ⟨_, rfl, (by show 2 ≤ sizeLine; decide), fun p hp2 => ?_⟩
    have w3 := w2.new (.tup [V.ref st, V.non]) hp2
    have et : tickF r s o t = (s, o, none) := by unfold tickF; simp only; rw [if_pos hne]
    rw [et] at q
    exact q _ p st (w3.sub (List.nil_sublist _)) (w3.get 0 rfl) (hS.keep w3.tups)
  have e0 : ((homes r t).map PyData.int).isEmpty = false := by
    cases hh : homes r t with
    | nil => exact absurd hh hne
    | cons x l => rfl
  rw [e0]
  refine iteF ?_
  have hlen : (homes r t).length ≤ 6 := by
    have h1 := List.length_filter_le (isHome r t) (persons r)
    rw [persons_len] at h1
    unfold homes; omega
  have w3 := w2.sub (l' := [(hp, .lst ((homes r t).map V.int))]) (by walk_at "sub")
  generalize upd H1 e (.lst []) = H2 at w3
  refine ⟨_, rfl, hp, rfl, ⟨_, SqL.of (w3.get 0 rfl)⟩, fun D hD => ?_⟩
  have hin : ∀ p ∈ homes r t, 0 ≤ p ∧ p < o.length := fun p hp => by rw [ol]; exact homes_in hp
  refine lc_list (xs := (homes r t).map V.int) (fun i H3 => Wd [] H H3 [(D, .lst ((((homes r t).take i).map (owes o)).map V.int)), (hp, .lst ((homes r t).map V.int))]) (w3.new _ hD) (fun i H3 _ w4 => SqL.of (w4.get 1 rfl)) (fun i x H3 hx w4 => ?_) (fun H3 w4 => ?_)
  · rw [List.getElem?_map] at hx
    obtain ⟨p, hpi, rfl⟩ := Option.map_eq_some_iff.mp hx
    have hpm := hin p (List.mem_of_getElem? hpi)
    refine ⟨rfl, _, rfl, _, rfl, ob, _, p, _, rfl, rfl, SqT.of (w4.tups _ _ hob), owes_V hpm.1 hpm.2, _, w4.get 0 rfl, ?_, ?_⟩
    · rw [List.length_map, List.length_map, List.length_take]
      exact Nat.lt_of_le_of_lt (m := 100) (by omega) (by decide)
    · rw [take_more hpi, List.map_append, List.map_append]
      exact w4.app0 _
  rw [List.length_map, List.take_length] at w4
  have hpos : 0 < ((homes r t).map (owes o)).length := by rw [List.length_map]; exact List.length_pos_iff.mpr hne
  refine ⟨D, (homes r t).map (owes o), rfl, SqL.of (w4.get 0 rfl), hpos, fun m hm1 hm2 => ?_⟩
  obtain rfl := max_unique hm1 hm2
  have w5 := w4.sub (l' := [(hp, .lst ((homes r t).map V.int))]) (by walk_at "sub")
  refine ⟨_, rfl, _, _, rfl, rfl, _, rfl, ?_⟩
  refine ite2 (fun c => ?_) (fun c => ?_)
  · have c1 : 0 < maxL ((homes r t).map (owes o)) := of_decide_eq_true c
    obtain ⟨p, hd, hpm, hpe⟩ := debtor_some (o := o) hne
    have et := tick_debt (s := s) hne c1 hd
    have hp2 := hin p hpm
    refine ⟨_, rfl, hp, rfl, ⟨_, SqL.of (w5.get 0 rfl)⟩, fun D2 hD2 => ?_⟩
    refine lc_list (xs := (homes r t).map V.int) (fun i H3 => Wd [] H H3 [(D2, .lst ((((homes r t).take i).filter (topOf (homes r t) o)).map V.int)), (hp, .lst ((homes r t).map V.int))]) (w5.new _ hD2) (fun i H3 _ w6 => SqL.of (w6.get 1 rfl)) (fun i x H3 hx w6 => ?_) (fun H3 w6 => ?_)
    · rw [List.getElem?_map] at hx
      obtain ⟨p, hpi, rfl⟩ := Option.map_eq_some_iff.mp hx
      have hpm := hin p (List.mem_of_getElem? hpi)
      refine ⟨rfl, _, rfl, _, rfl, ob, _, p, _, rfl, rfl, SqT.of (w6.tups _ _ hob), owes_V hpm.1 hpm.2, _, rfl, rfl, _, rfl, ?_⟩
      rw [take_more hpi, List.filter_append]
      refine ite2 (fun c => ?_) (fun c => ?_)
      · have c2 : owes o p = maxL ((homes r t).map (owes o)) := by have := of_decide_eq_true c; injection this
        rw [List.filter_cons_of_pos (p := topOf (homes r t) o) (decide_eq_true c2), List.filter_nil, List.map_append]
        refine ⟨_, rfl, _, w6.get 0 rfl, ?_, w6.app0 _⟩
        rw [List.length_map]
        have h1 := List.length_filter_le (topOf (homes r t) o) ((homes r t).take i)
        rw [List.length_take] at h1
        exact Nat.lt_of_le_of_lt (m := 100) (by omega) (by decide)
      · have c2 : ¬ owes o p = maxL ((homes r t).map (owes o)) := fun e => c (decide_eq_true (by rw [e]))
        rw [List.filter_cons_of_neg (p := topOf (homes r t) o) (by unfold topOf; simpa using c2), List.filter_nil, List.append_nil]
        exact w6
    rw [List.length_map, List.take_length] at w6
    have hh : ((homes r t).filter (topOf (homes r t) o)).head? = some p := by rw [List.head?_filter]; exact hd
    have ha : atI (((homes r t).filter (topOf (homes r t) o)).map V.int) 0 = some (.int p) := by
      refine atI_nat (j := 0) ?_
      rw [List.getElem?_map, ← List.head?_eq_getElem?, hh]; rfl
    refine ⟨D2, _, 0, _, rfl, rfl, SqL.of (w6.get 0 rfl), ha, ?_⟩
    refine ⟨_, rfl, _, rfl, _, rfl, _, rfl, ob, o, p, -1, rfl, w6.tups _ _ hob, hp2.1, hp2.2, by omega, fun H4 b w7 g7 => ?_⟩
    have w8 := w6.call0 w7
    refine ⟨(by show 2 ≤ sizeLine; decide), fun p1 hp1 => ⟨_, rfl, (by show 2 ≤ sizeLine; decide), fun p3 hp3 => ?_⟩⟩
    have w9 := w8.new (.tup [V.int (s : Int), V.ref b]) hp1
    have w10 := w9.new (.tup [V.ref p1, V.int p]) hp3
    rw [et] at q
    have v1 := ((Wd.refl H4).new (.tup [V.int (s : Int), V.ref b]) hp1).new (.tup [V.ref p1, V.int p]) hp3
    exact q _ p3 p1 (w10.sub (List.nil_sublist _)) (w10.get 0 rfl) ⟨b, w10.get 1 rfl, v1.tups _ _ g7⟩
  · have c1 : ¬ 0 < maxL ((homes r t).map (owes o)) := fun e => c (decide_eq_true e)
    have et := tick_turn (s := s) hne c1
    refine ⟨_, rfl, a, _, 1, _, rfl, rfl, SqT.of (w5.tups _ _ h1), rfl, ?_⟩
    have hnp := turns_pos ok
    have t12 := ok.t12
    generalize hz : spin r (homes r t) r.turns.length s o = z at et
    refine ⟨fun m σ H' => ∃ (s' : Nat) (o' : List Int) (ob' : Addr), σ = [some (.ref a), some (.ref st), some (.int t), some (.int (s' : Int)), some (.ref ob'), some (.ref hp), some (.int (maxL ((homes r t).map (owes o)))), none, some (.ref at_)] ∧ Wd [] H H' [(hp, .lst ((homes r t).map V.int))] ∧ H' ob' = some (.tup (o'.map V.int)) ∧ s' < r.turns.length ∧ OwOk r o' ∧ Near r (homes r t) m s' ∧ spin r (homes r t) m s' o' = z,
      ⟨r.turns.length, s, o, ob, rfl, w5, w5.tups _ _ hob, hs, hO, near_start ok hne (fun p hp => homes_in hp) hs, hz⟩, ?_⟩
    rintro m σ H6 ⟨s', o', ob', rfl, w6, hob', hs', hO', near, hsp⟩
    have ht := turnAt_in ok hs'
    refine ⟨_, rfl, _, rfl, at_, _, _, _, rfl, rfl, SqT.of (w6.tups _ _ h3), turn_V hs', _, rfl, hp, _, rfl, .inl (SqL.of (w6.get 0 rfl)), rfl, flat_ints _, _, rfl, ?_⟩
    rw [if_pos rfl, inV_ints]
    cases m with
    | zero => obtain ⟨j, hj, _⟩ := near; exact absurd hj (Nat.not_lt_zero _)
    | succ m =>
    unfold spin at hsp
    by_cases c2 : turnAt r s' ∈ homes r t
    · rw [decide_eq_true c2]
      refine iteF ?_
      rw [if_pos c2] at hsp
      rw [← hsp] at et
      dsimp only at et
      rw [et] at q
      refine ⟨_, rfl, _, _, rfl, rfl, .inl ⟨_, rfl, _, rfl, at_, _, rfl, .inr (SqT.of (w6.tups _ _ h3)), _, _, rfl, rfl, by rw [List.length_map]; omega, _, rfl, (by show 2 ≤ sizeLine; decide), fun p1 hp1 => ?_⟩⟩
      have en : ((s' : Int) + 1).fmod (((r.turns.map V.int).length : Nat) : Int) = ((nextS r s' : Nat) : Int) := by
        rw [List.length_map]; exact fmod_nat (s' + 1) _
      dsimp only
      rw [en]
      have w7 := w6.new (.tup [V.int ((nextS r s' : Nat) : Int), V.ref ob']) hp1
      refine ⟨_, rfl, _, rfl, at_, _, _, _, rfl, rfl, SqT.of (w7.tups _ _ h3), turn_V hs', (by show 2 ≤ sizeLine; decide), fun p2 hp2 => ?_⟩
      have w8 := w7.new (.tup [V.ref p1, V.int (turnAt r s')]) hp2
      have v8 := ((Wd.refl H6).new (.tup [V.int ((nextS r s' : Nat) : Int), V.ref ob']) hp1).new (.tup [V.ref p1, V.int (turnAt r s')]) hp2
      exact q _ p2 p1 (w8.sub (List.nil_sublist _)) (w8.get 0 rfl) ⟨ob', w8.get 1 rfl, v8.tups _ _ hob'⟩
    · rw [decide_eq_false c2]
      rw [if_neg c2] at hsp
      refine iteT ?_
      have Mid : ∃ Mid : L2.St → Hp → Prop, Mid = fun σ H' => ∃ ob2 : Addr, σ = [some (.ref a), some (.ref st), some (.int t), some (.int (s' : Int)), some (.ref ob2), some (.ref hp), some (.int (maxL ((homes r t).map (owes o)))), none, some (.ref at_)] ∧ Wd [] H H' [(hp, .lst ((homes r t).map V.int))] ∧ H' ob2 = some (.tup ((passT r s' o').map V.int)) := ⟨_, rfl⟩
      obtain ⟨Mid, hMid⟩ := Mid
      refine ⟨fun σ H' => ∃ m', m' < m + 1 ∧ ∃ (s' : Nat) (o' : List Int) (ob' : Addr), σ = [some (.ref a), some (.ref st), some (.int t), some (.int (s' : Int)), some (.ref ob'), some (.ref hp), some (.int (maxL ((homes r t).map (owes o)))), none, some (.ref at_)] ∧ Wd [] H H' [(hp, .lst ((homes r t).map V.int))] ∧ H' ob' = some (.tup (o'.map V.int)) ∧ s' < r.turns.length ∧ OwOk r o' ∧ Near r (homes r t) m' s' ∧ spin r (homes r t) m' s' o' = z, fun σ' H' h => h, Mid, ?_, ?_⟩
      · refine ⟨_, rfl, _, rfl, at_, _, _, _, rfl, rfl, SqT.of (w6.tups _ _ h3), turn_V hs', _, rfl, a, _, 4, _, rfl, rfl, SqT.of (w6.tups _ _ h1), rfl, am, _, rfl, .inr (SqT.of (w6.tups _ _ h7)), rfl, flat_ints _, _, rfl, ?_⟩
        rw [if_neg (by decide), inV_ints]
        have ep : passT r s' o' = if turnAt r s' ∈ r.makers then chg o' (turnAt r s') 1 else o' := rfl
        refine ite2 (fun c => ?_) (fun c => ?_)
        · rw [if_pos (of_decide_eq_true c)] at ep
          refine ⟨_, rfl, _, rfl, _, rfl, at_, _, _, _, rfl, rfl, SqT.of (w6.tups _ _ h3), turn_V hs', ob', o', _, 1, rfl, hob', ht.1, by rw [hO'.len]; exact ht.2, by rw [hO'.len]; exact n6, fun H7 b w7 g7 => ?_⟩
          show Mid _ _
          rw [hMid]
          exact ⟨b, rfl, w6.call0 w7, by rw [ep]; exact g7⟩
        · rw [if_neg (fun e => c (decide_eq_true e))] at ep
          show Mid _ _
          rw [hMid]
          exact ⟨ob', rfl, w6, by rw [ep]; exact hob'⟩
      · intro σ H7 hmid
        rw [hMid] at hmid
        obtain ⟨ob2, rfl, w7, g7⟩ := hmid
        refine ⟨_, rfl, _, _, rfl, rfl, .inl ⟨_, rfl, _, rfl, at_, _, rfl, .inr (SqT.of (w7.tups _ _ h3)), _, _, rfl, rfl, by rw [List.length_map]; omega, ?_⟩⟩
        have en : ((s' : Int) + 1).fmod (((r.turns.map V.int).length : Nat) : Int) = ((nextS r s' : Nat) : Int) := by
          rw [List.length_map]; exact fmod_nat (s' + 1) _
        refine ⟨m, Nat.lt_succ_self m, nextS r s', passT r s' o', ob2, ?_, w7, g7, nextS_lt hnp, hO'.pass ok hs', near_step hs' near c2, hsp⟩
        dsimp only
        rw [en]; rfl
end
end Br

/-! A comprehension whose element may raise: the exception leaves the block and flies on in the def. -/
namespace Br
open PySem PySem.Spec PySem.Calls PyProof.Rows L2
section
variable {M : Model} {A : Around} {E : Value → Shared → Prop} {s : Shared} {env : Env}
/-- the block's end, its own environment named -/
def cPost (M : Model) (A : Around) (E : Value → Shared → Prop) (Qz : Value → Shared → Prop) (acc : Value) (ce : Env) (r : Result) (z : Shared) : Prop :=
  match r with
  | .ok _ => ∃ m, z.heap.Ns ce.locals m ∧ ∀ hz, Heap.SameBut ce.locals z.heap hz → Qz acc { z with heap := hz }
  | .error x => ∃ m, z.heap.Ns ce.locals m ∧ ∀ hz, Heap.SameBut ce.locals z.heap hz → wpAny M A (PySem.passOn "comprehension.variables-let-go" x ce : Sem Value) (fun _ _ => False) E { z with heap := hz }
theorem comp_any {e : Expr} {scope : Scope} {pos : Pos} {newAcc first : Sem Value} {g : Comprehension} {gs : List Comprehension} {cl : List (Str × Addr)} {Q : Value → Shared → Prop}
    (hcl : clausesOf e = g :: gs) (hs : ∀ x, foldedSetIterable g.iter env x = pure x) (hclos : closureFor scope env = pure cl) (hkind : scope.kind = .function) (hnames : ∀ x ∈ scope.names, x.2 = .local → scope.names.lookup x.1 = some .local)
    (h : wpAny M A first (fun x z1 => wpAny M A (pyIter x) (fun it z2 => wpAny M A newAcc (fun acc z3 => wpAny M A (newFunctionEnv scope env.globals cl [] env.qual none .none (some env)) (fun ce z4 =>
        codeAny M A (.compStart e 0 it acc { ce with scope := relabel scope env }) (cPost M A E Q acc { ce with scope := relabel scope env }) z4) E z3) E z2) E z1) E s) :
    wpAny M A (comprehension e scope env pos newAcc false first none) Q E s := by
  unfold comprehension
  rw [hclos, hcl]
  refine wpAny_bind (wpAny_mono h (fun x z1 k1 => wpAny_bind (wpAny_standAt (wpAny_bind (wpAny_of_eq (hs x) (wpAny_bind (wpAny_holding (wpAny_mono k1 (fun it z2 k2 =>
    wpAny_standIf (wpAny_bind (wpAny_mono k2 (fun acc z3 k3 => wpAny_bind (wpAny_pure (wpAny_bind (wpAny_mono k3 (fun ce z4 k4 => ?_) fun _ _ y => y)))) fun _ _ y => y))) fun _ _ y => y))))))) fun _ _ y => y)
  dsimp only
  have hv : ∀ x ∈ (scope.names.filter fun x => (x.2 == .local || x.2 == .cell) && x.1 != (".0" : Str)).reverse, x.2 = .local → Env.kindOf { ce with scope := relabel scope env } x.1 = some .local := fun x hx hl =>
    lookup_relabel_local (hnames x (List.mem_filter.mp (List.mem_reverse.mp hx)).1 hl)
  refine wpAny_holding (wpAny_bind (wpAny_attempt (wpAny_holding (wpAny_run (codeAny_mono k4 fun r z5 hr => ?_)))))
  cases r with
  | ok f =>
    obtain ⟨m, hn, q⟩ := hr
    exact wpAny_bind (wpAny_holding (wpAny_comp_letGo (cenv := { ce with scope := relabel scope env }) hkind _ z5 m hv hn fun hz mz _ sz => wpAny_pure (q hz sz)))
  | error x =>
    obtain ⟨m, hn, q⟩ := hr
    exact wpAny_bind (wpAny_holding (wpAny_comp_letGo (cenv := { ce with scope := relabel scope env }) hkind _ z5 m hv hn fun hz mz _ sz => wpAny_mono (q hz sz) (fun _ _ f => f.elim) fun _ _ y => y))
end
theorem ff_but {base h h' : Heap} {C : Addr} (k : ∀ b, b ≠ C → h'.get? b = h.get? b) (hb : ∀ b o, base.get? b = some o → True) : ∀ {l : List Env}, h.FunFrames base l → C ∉ frs l → h'.FunFrames (PySem.W.hideAll base [C]) l
  | [], _, _ => trivial
  | env :: l, h1, hc => by
    obtain ⟨hk, ⟨L, o, hf, hn, ho, hd⟩, hr⟩ := h1
    have hL : L ∈ frs (env :: l) := List.mem_filterMap.mpr ⟨env, List.mem_cons_self, hf⟩
    refine ⟨hk, ⟨L, o, hf, ?_, (k L fun z => hc (z ▸ hL)).trans ho, hd⟩, ff_but k hb hr fun hm => hc ?_⟩
    · cases q : (PySem.W.hideAll base [C]).get? L with
      | none => rfl
      | some o' => rw [PySem.W.of_hideAll _ q] at hn; cases hn
    · obtain ⟨e, he, q⟩ := List.mem_filterMap.mp hm
      exact List.mem_filterMap.mpr ⟨e, List.mem_cons_of_mem _ he, q⟩
section
variable {X : Cx} {W : WX} {pins : List (Addr × Obj)} {σ : L2.St} {H3 : Hp} {s3 : Shared} {scope : Scope} {cl : List (Str × Addr)} {fp : List Addr} {Qz : Value → Shared → Prop} {D : Addr}
/-- what an element's exception meets -/
def blkE (X : Cx) (Qz : Value → Shared → Prop) (D : Addr) (ce : Env) : Value → Shared → Prop :=
  notedBy (model X.prog X.w) X.A ce fun e z => cPost (model X.prog X.w) X.A X.xe Qz (.ref D) ce (.error e) z
theorem note_same {M : Model} {A : Around} {Q : Unit → Shared → Prop} {E : Value → Shared → Prop} {s : Shared} {e : Value} {ce env : Env} (h : ce.frame = env.frame) (k : wpAny M A (noteFrame e env) Q E s) : wpAny M A (noteFrame e ce) Q E s := by
  unfold noteFrame PySem.frameOf at k ⊢
  rw [h]
  exact k
theorem blk_pass (hs : X.stack = X.env :: X.outer) (hf : X.env.frame = some X.env.locals) (tk : Takes X W) (I3 : Inv X pins σ H3 s3) {ce : Env} (hce : ce.locals = s3.heap.objs.size) (hcf : ce.frame = X.env.frame)
    (f3 : ∀ b ∈ fp, FpOk X pins H3 b ∧ b < s3.heap.objs.size) :
    Passes (L2.CX X.prog X.w) ((X.blk s3 H3 scope ce fp).wish (blkE X Qz D ce)) (fun cls d H' => W cls d σ H') := by
  intro pins2 σ2 H s e z I0 c
  have I : Inv (X.blk s3 H3 scope ce fp) pins2 σ2 H s := I0.unwish
  have ok := I3.ok
  have hfr : X.A.frames = some (X.env :: X.outer) := by rw [ok.frames, hs]
  obtain ⟨a, B, sI, p2, σ4, H2, cls, d, rfl, J, nb, up, sky, na, os, ag, w⟩ := XE.of_call (X := X.blk s3 H3 scope ce fp) (W := fun cls d _ H' => W cls d σ H') I (fun _ _ _ h => h) c
  obtain ⟨a1, B1, _, _, _, ea, fl1, _⟩ := c
  cases ea
  obtain ⟨_, _, _, oe1, vs1, T1, oT1, ts1, he1, _, hd1, hv1, _, _, hT1, hdT1, h31⟩ := fl1
  have fl : HandSPX.FlyingZ B (X.env :: X.outer) a (Zc cls d) z.heap := by
    rw [← hs]
    rcases sky with ⟨_, _, _, oe, vs, he, _, hd, h1⟩ | fl | hh
    · rw [he1] at he; cases he
      rw [hd1] at hd; cases hd
      rw [hv1] at h1; cases h1
    · exact fl
    · obtain ⟨_, _, _, oe, vs, T, oT, ts, he, _, hd, h1, _, _, hT, hdT, h3⟩ := hh
      rw [he1] at he; cases he
      rw [hd1] at hd; cases hd
      rw [hv1] at h1; cases h1
      rw [hT1] at hT; cases hT
      rw [hdT1] at hdT; cases hdT
      rw [h31] at h3; cases h3
  have hC3 : FpOk X pins H2 s3.heap.objs.size := I3.fpOk (Nat.le_refl _) (by have q := J.free; rw [show (X.blk s3 H3 scope ce fp).env.locals = s3.heap.objs.size from hce] at q; exact q)
  have nfr : s3.heap.objs.size ∉ frs (X.env :: X.outer) := fun hm => by
    obtain ⟨e, he, q⟩ := List.mem_filterMap.mp hm
    rcases List.mem_cons.mp he with rfl | he
    · rw [hf] at q; exact hC3.2.1 (Option.some.inj q).symm
    · exact hC3.2.2.1 (List.mem_filterMap.mpr ⟨e, he, q⟩)
  unfold blkE notedBy
  refine note_same hcf ?_
  refine HandSPX.looks_onZ Zc.steady hfr hf fl fun h1 hh1 up1 => ?_
  obtain ⟨m, hns, _⟩ := J.loc
  have hns : sI.heap.Ns ce.locals m := hns
  rw [hce] at hns
  obtain ⟨oC, es, ep, hoC, hdC⟩ := id hns
  have hC1 : h1.get? s3.heap.objs.size = some oC := hh1.1 _ _ (nb _ _ hoC (by rw [show (X.blk s3 H3 scope ce fp).stack = X.env :: X.outer from hs]; exact nfr))
  refine ⟨m, by rw [hce]; exact ⟨oC, es, ep, hC1, hdC⟩, fun h2 sb => ?_⟩
  rw [hce] at sb
  have k2 : ∀ b, b ≠ s3.heap.objs.size → h2.get? b = h1.get? b := sb.2
  have hh2 : HandSPX.HeldZ (PySem.W.hideAll B [s3.heap.objs.size]) (X.env :: X.outer) a (Zc cls d) X.env.locals h2 := by
    obtain ⟨x1, x2, x3, oe, vs, T, oT, ts, he, hz, hd, hv, hT0, hTe, hT, hdT, h3⟩ := hh1
    have nf : ∀ {b o ws}, h1.get? b = some o → o.data = .fields ws → b ≠ s3.heap.objs.size := fun e1 e2 q => by
      rw [q, hC1] at e1; cases e1
      rw [hdC.1] at e2; cases e2
    have hid : ∀ b, B.get? b = none → (PySem.W.hideAll B [s3.heap.objs.size]).get? b = none := fun b q => by
      cases q2 : (PySem.W.hideAll B [s3.heap.objs.size]).get? b with
      | none => rfl
      | some o' => rw [PySem.W.of_hideAll _ q2] at q; cases q
    refine ⟨fun b o e => ?_, hid _ x2, ff_but k2 (fun _ _ _ => trivial) x3 nfr, oe, vs, T, oT, ts, (k2 _ (nf he hd)).trans he, hz, hd, hv, hid _ hT0, hTe, (k2 _ (nf hT hdT)).trans hT, hdT, h3⟩
    have hb : b ≠ s3.heap.objs.size := fun q => by rw [q, PySem.W.hideAll_none _ (by simp)] at e; cases e
    exact (k2 b hb).trans (x1 b o (PySem.W.of_hideAll _ e))
  obtain ⟨_, _, _, oe5, vs5, T5, oT5, ts5, he5, _, hd5, hv5, _⟩ := id hh2
  unfold PySem.passOn
  refine wpAny_bind (wpAny_field he5 hd5 hv5 ?_)
  rw [if_neg (show ¬ ((Value.ref T5 == Value.none) = true) from by simp)]
  have fin : wpAny (model X.prog X.w) X.A (setFlight (.ref a) ce.frame) (fun _ z4 => wpAny (model X.prog X.w) X.A (throw (.ref a) : Sem Value) (fun _ _ => False) X.xe z4) X.xe { z with heap := h2 } := by
    rw [hcf, hf]
    refine HandSPX.setFlight_onZ hh2 fun h3 hh3 up3 => wpAny_throw (tk _ _ ?_)
    have nC : ∀ b o, (PySem.W.hideAll sI.heap [s3.heap.objs.size]).get? b = some o → b ≠ s3.heap.objs.size := fun b o e q => by rw [q, PySem.W.hideAll_none _ (by simp)] at e; cases e
    have hid : ∀ b o, b ≠ s3.heap.objs.size → sI.heap.get? b = some o → (PySem.W.hideAll sI.heap [s3.heap.objs.size]).get? b = some o := fun b o hb e => PySem.W.hideAll_get _ e (by simpa using hb)
    have old : ∀ b o, s3.heap.get? b = some o → b ≠ s3.heap.objs.size := fun b o e => Nat.ne_of_lt (Heap.lt_size e)
    have jb := J.base
    have U : Un (frs X.stack) fp H3 H2 s3.heap (PySem.W.hideAll sI.heap [s3.heap.objs.size]) := {
      keep := fun b o e n q1 q2 => hid b o (old b o e) (jb.keep b o e n q1 q2)
      slot := fun b o e n q1 q2 => by
        obtain ⟨sl, q⟩ := jb.slot b o e n q1 q2
        exact ⟨sl, hid b _ (old b o e) q⟩
      free := jb.free
      there := fun b o e q1 => by
        obtain ⟨o', q⟩ := jb.there b o e q1
        exact ⟨o', hid b _ (old b o e) q⟩
      tups := jb.tups
      frzs := jb.frzs
      tbls := jb.tbls }
    have hokB : HOk X.prog X.w H2 (PySem.W.hideAll sI.heap [s3.heap.objs.size]) := fun b o q => (J.hok b o q).stay (fun c u hc r => hid c u (fun q2 => by
      subst q2
      rcases hc with hc | hc
      · rw [← hc, hC3.1] at q; cases q
      · rw [hC3.1] at hc; cases hc) r) (fun _ r => r) fun _ _ r => r
    have I7 : Inv X pins σ H2 { sI with heap := PySem.W.hideAll sI.heap [s3.heap.objs.size] } := I3.call' (s' := { sI with heap := PySem.W.hideAll sI.heap [s3.heap.objs.size] }) (ch := fp) J.os U hokB J.bare fun b hb => ⟨(f3 b hb).1.2.2.2.1, (f3 b hb).1.2.1, (f3 b hb).1.2.2.2.2.1, (f3 b hb).1.2.2.2.2.2⟩
    refine ⟨a, PySem.W.hideAll B [s3.heap.objs.size], _, pins, σ, H2, cls, d, rfl, I7, fun b o e hb => PySem.W.hideAll_get _ (nb b o (PySem.W.of_hideAll _ e) hb) (by simpa using nC b o e), fun b o e hn => ?_, .inr (.inr (by rw [hs]; exact hh3)), na, os, ag, w⟩
    obtain ⟨l1, e1⟩ := up b o (PySem.W.of_hideAll _ e) hn
    obtain ⟨l2, e2⟩ := up1 b _ e1 hn
    obtain ⟨l3, e3⟩ := up3 b _ ((k2 b (nC b o e)).trans e2) hn
    exact ⟨l3, e3⟩
  first
    | exact wpAny_bind (wpAny_pure (wpAny_bind fin))
    | exact wpAny_bind fin
end
section
variable {X : Cx} {W : WX}
theorem thF {α : Type} {t : Sem α} {Q Q' : α → Shared → Prop} {M : Model} {A : Around} {E : Value → Shared → Prop} {z : Shared} (h : wpAny M A t Q (fun _ _ => False) z) (k : ∀ a y, Q a y → Q' a y) : wpAny M A t Q' E z := wpAny_mono h k fun _ _ q => False.elim q
/-- [elt for target in iter if ..], elt may raise: te, what elt asks, told by the def's wish; the tests may lean on the state at the block's start -/
theorem pe_lcI {elt tg iter : Expr} {ifs : List Expr} {scope : Scope} {own : List (Str × Nat)} {pos : Pos} {wi : TI} {g : TG} {tt : TT} {te : XK → TE} (hc : X.calm = true) (hst : X.stack = X.env :: X.outer) (hfm : X.env.frame = some X.env.locals) (tk : Takes X W) (hN : X.N.Nodup)
    (hi : PI X tg iter wi) (ok : BlkOk X.N X.env.scope scope own)
    (hg : ∀ (y : Shared) (H : Hp) (C : Addr) (cl : List (Str × Addr)) (fp : List Addr), PG (X.blk y H scope (compEnvC scope cl C X.env) fp) tg g)
    (ht : ∀ (y : Shared) (H : Hp) (C : Addr) (cl : List (Str × Addr)) (fp : List Addr), (∃ pins σ, Inv X pins σ H y ∧ ∀ b ∈ fp, FpOk X pins H b) → PTs (X.blk y H scope (compEnvC scope cl C X.env) fp) ifs tt)
    (he : ∀ (y : Shared) (H : Hp) (C : Addr) (cl : List (Str × Addr)) (fp : List Addr) (xe : Value → Shared → Prop) (E : XK), Passes (L2.CX X.prog X.w) ((X.blk y H scope (compEnvC scope cl C X.env) fp).wish xe) E → PE ((X.blk y H scope (compEnvC scope cl C X.env) fp).wish xe) elt (te E))
    (hfs : ∀ x, foldedSetIterable iter X.env x = pure x := by intro _; rfl) :
    PE X (.ListComp elt [⟨tg, iter, ifs, 0⟩] scope pos) (fun σ H Q => tLc wi g tt (te fun cls d H' => W cls d σ H') (own.map (·.2)) σ H Q) := by
  refine ⟨fun pins y σ H Q I h => ?_⟩
  rw [eval_ListComp]
  have hfree : ∀ n ∈ scope.names, n.2 = .free → ∃ c, X.env.cells.lookup n.1 = some c := fun n hn e => (ok.free n hn e).elim (fun k => I.ok.has _ (.inl k)) fun k => I.ok.has _ (.inr k)
  refine comp_any rfl hfs (closure_ok hfree) ok.kind (fun n hn e => by rw [ok.uniq n hn, e]) (thn (hi.run pins y σ H _ I h) fun xv y1 hx => thn hx fun itv y2 h2 => ?_)
  obtain ⟨it, fp, tn, J, H2, e, I2, T, st2, f2, q⟩ := h2
  subst e
  refine wpAny_newObj_type (newEnv_comp ?_) (by show 0 ≤ sizeLine; decide)
  generalize hD : y2.heap.objs.size = D
  have hDn : H2 D = none := I2.hok.fresh (Nat.le_of_eq hD)
  obtain ⟨Wt, ⟨m0, w0⟩, turn⟩ := q D hDn
  generalize hy3 : ({ y2 with heap := y2.heap.push { cls := .type "list", data := .seq ([] : List Value).toArray } } : Shared) = y3
  have I3 : Inv X pins σ (upd H2 D (.lst [])) y3 := by
    rw [← hy3]
    exact I2.laid (t' := y2.toks) (fun b o e => Heap.get?_push_of_some _ e) (Nat.le_of_eq hD) ⟨Nat.zero_le _, [], 0, .nil, by rw [← hD]; exact Heap.get?_push_size _ rfl⟩
  have h3 : y3.heap = y2.heap.push { cls := .type "list", data := .seq ([] : List Value).toArray } := by rw [← hy3]
  have sz : ∀ b ∈ fp, b < y2.heap.objs.size := fun b hb => (T.obj _ _ st2 b hb).elim fun o e => Heap.lt_size e.1
  have f3 : ∀ b ∈ fp, FpOk X pins (upd H2 D (.lst [])) b ∧ b < y3.heap.objs.size := fun b hb =>
    ⟨⟨by rw [upd_ne (by rw [← hD]; exact Nat.ne_of_lt (sz b hb))]; exact (f2 b hb).1, (f2 b hb).2⟩, by rw [h3, Heap.size_push]; exact Nat.lt_succ_of_lt (sz b hb)⟩
  have st3 : tn 0 y3.heap := T.keep _ _ _ st2 fun b _ o e => by rw [h3]; exact Heap.get?_push_of_some _ e
  have I4 := block_start I3 ok hN f3
  have pg := hg y3 (upd H2 D (.lst [])) y3.heap.objs.size (cellsFrom (y3.heap.objs.size + 1) scope.names (cloFrom X.env.cells scope.names [])) fp
  have pt := ht y3 (upd H2 D (.lst [])) y3.heap.objs.size (cellsFrom (y3.heap.objs.size + 1) scope.names (cloFrom X.env.cells scope.names [])) fp ⟨pins, σ, I3, fun b hb => (f3 b hb).1⟩
  have pe := fun xe E => he y3 (upd H2 D (.lst [])) y3.heap.objs.size (cellsFrom (y3.heap.objs.size + 1) scope.names (cloFrom X.env.cells scope.names [])) fp xe E
  show codeAny _ _ (.compStart (.ListComp elt [⟨tg, iter, ifs, 0⟩] scope pos) 0 (.ref it) (.ref D) (compEnvC scope (cellsFrom (y3.heap.objs.size + 1) scope.names (cloFrom X.env.cells scope.names [])) y3.heap.objs.size X.env)) (cPost (model X.prog X.w) X.A X.xe (EP X pins σ Q) (.ref D) (compEnvC scope (cellsFrom (y3.heap.objs.size + 1) scope.names (cloFrom X.env.cells scope.names [])) y3.heap.objs.size X.env)) { y3 with heap := pushCells (y3.heap.push { cls := .type "dict", data := .dict #[] }) scope.names }
  have nfp : ∀ b ∈ fp, (upd H2 D (.lst [])) b = none := fun b hb => (f3 b hb).1.1
  generalize hce : compEnvC scope (cellsFrom (y3.heap.objs.size + 1) scope.names (cloFrom X.env.cells scope.names [])) y3.heap.objs.size X.env = ce at I4 pg pt pe ⊢
  have cL : ce.locals = y3.heap.objs.size := by subst hce; rfl
  have cF : ce.frame = X.env.frame := by subst hce; rfl
  generalize hH3 : upd H2 D (.lst []) = H3 at I3 I4 pg pt pe w0 nfp f3
  generalize hy4 : ({ y3 with heap := pushCells (y3.heap.push { cls := .type "dict", data := .dict #[] }) scope.names } : Shared) = y4 at I4 ⊢
  have ps := pe _ _ (blk_pass (scope := scope) (Qz := EP X pins σ Q) (D := D) hst hfm tk I3 cL cF f3)
  have st4 : tn 0 y4.heap := T.keep _ _ _ st3 fun b _ o e => by rw [← hy4]; exact pushCells_keeps _ _ _ _ (Heap.get?_push_of_some _ e)
  have stat : ∀ {σ' : L2.St} {H' : Hp} {z : Shared}, Inv (X.blk y3 H3 scope ce fp) [] σ' H' z → (∀ b ∈ fp, H' b = none) → ∀ b ∈ fp, FpOk (X.blk y3 H3 scope ce fp) [] H' b := fun {σ' H' z} I' hn b hb =>
    ⟨hn b hb, (I'.ok.exf b hb).1, I'.ok.exfs b hb, .inl hb, fun x c e => (I'.ok.exf b hb).2 x c e, fun p hp => absurd (show p ∈ ([] : List (Addr × Obj)) ++ [] from hp) (by simp)⟩
  have loop : codeAny (model X.prog X.w) X.A (.compLoop (.ListComp elt [⟨tg, iter, ifs, 0⟩] scope pos) 0 (.ref it) (.ref D) ce) (cPost (model X.prog X.w) X.A X.xe (EP X pins σ Q) (.ref D) ce) y4 := by
    refine compLoop_any (fun n z => ∃ i H', Inv (X.blk y3 H3 scope ce fp) [] (wipe σ (own.map (·.2))) H' z ∧ tn i z.heap ∧ (∀ b ∈ fp, H' b = none) ∧ Wt i n H') ?_ m0 ⟨0, H3, I4, st4, nfp, w0⟩
    rintro n y5 ⟨i, H5, I5, st5, n5, w5⟩
    rcases turn i n H5 w5 with ⟨stop, qq⟩ | ⟨go, Nx, hNx, step⟩
    · refine thF (T.done (X.blk y3 H3 scope ce fp) rfl rfl rfl hc i [] y5 _ H5 (fun _ _ => False) I5 (stat I5 n5) st5 stop) fun r y6 ⟨hr, I6⟩ => ?_
      subst hr
      have I7 : Inv X pins σ H5 y6 := I3.call' (ch := fp) I6.os I6.base I6.hok I6.bare fun b hb => ⟨(f3 b hb).1.2.2.2.1, (f3 b hb).1.2.1, (f3 b hb).1.2.2.2.2.1, (f3 b hb).1.2.2.2.2.2⟩
      have nC : H5 y3.heap.objs.size = none := by rw [← cL]; exact I6.free
      obtain ⟨m, hn, _⟩ := I6.loc
      have hn : y6.heap.Ns ce.locals m := hn
      obtain ⟨g0, g1, g2, g3, g4, g5⟩ := I3.fpOk (Nat.le_refl _) nC
      refine ⟨m, hn, fun hz sb => ?_⟩
      rw [cL] at sb
      exact ⟨.ref D, H5, I7.turned (t' := y6.toks) (fun b o hb e => (sb.2 b hb).trans e) g0 g1 g3 g4 g5, rfl, qq⟩
    · refine thF (T.item (X.blk y3 H3 scope ce fp) rfl rfl rfl hc i [] y5 _ H5 (fun _ _ => False) I5 (stat I5 n5) st5 go) fun r y6 ⟨u, hr, k6⟩ => ?_
      subst hr
      refine thF k6 fun _ y7 ⟨x, H7, I7, r7, yx7, st7, n7⟩ => ?_
      have I7' := I7.pinned (stat I7 n7) (T.obj _ _ st7)
      refine thF (pg.run _ y7 _ H7 x u _ I7' r7 (step x H7 yx7)) fun _ y8 ⟨σ8, H8, I8, hw8, q8⟩ => ?_
      refine thF (pt.run _ y8 σ8 H8 _ I8 q8) fun b y9 ⟨H9, I9, q9⟩ => ?_
      have fin : ∀ {z : Shared} {H' : Hp}, Inv (X.blk y3 H3 scope ce fp) ([] ++ pinsAt fp y7.heap) σ8 H' z → Nx H' → ∃ m, m < n ∧ ∃ i H', Inv (X.blk y3 H3 scope ce fp) [] (wipe σ (own.map (·.2))) H' z ∧ tn i z.heap ∧ (∀ b ∈ fp, H' b = none) ∧ Wt i m H' := fun {z H'} I' nx => by
        obtain ⟨m', hm, w'⟩ := hNx H' nx
        have pin' : ∀ b ∈ fp, ∀ o, y7.heap.get? b = some o → z.heap.get? b = some o ∧ H' b = none := fun b hb o e =>
          have q := I'.pin (b, o) (List.mem_append_right _ (List.mem_append_right _ (mem_pinsAt hb e)))
          ⟨q.1, q.2.1⟩
        have hl : (wipe σ (own.map (·.2))).length = σ8.length := by rw [← hw8, wipe_length]
        refine ⟨m', hm, i + 1, H', (I'.unpinned (pins := [])).weak hl (fun j v e => (wipe_some (by rw [← hw8] at e; exact e)).1), T.keep _ _ _ st7 fun b hb o e => (pin' b hb o e).1, fun b hb => ?_, w'⟩
        obtain ⟨o, e, _⟩ := T.obj _ _ st7 b hb
        exact (pin' b hb o e).2
      cases b with
      | false =>
        simp only [Bool.false_eq_true, if_false] at q9 ⊢
        exact fin I9 q9
      | true =>
        simp only [if_true] at q9 ⊢
        refine wpAny_mono (ps.run _ y9 σ8 H9 _ (I9.wish _) q9) (fun v y10 ⟨yv, H10, I10, r10, acc, hD10, hz10, nx⟩ => ?_) fun _ _ q => q
        exact app_ok (X := X.blk y3 H3 scope ce fp) I10.unwish hD10 hz10 r10 fun y11 I11 => fin I11 nx
  exact codeAny_compStart_list loop (T.self X.A 0 _ _ _ st4 loop)
/-- the same, the tests by themselves -/
theorem pe_lcX {elt tg iter : Expr} {ifs : List Expr} {scope : Scope} {own : List (Str × Nat)} {pos : Pos} {wi : TI} {g : TG} {tt : TT} {te : XK → TE} (hc : X.calm = true) (hst : X.stack = X.env :: X.outer) (hfm : X.env.frame = some X.env.locals) (tk : Takes X W) (hN : X.N.Nodup)
    (hi : PI X tg iter wi) (ok : BlkOk X.N X.env.scope scope own)
    (hg : ∀ (y : Shared) (H : Hp) (C : Addr) (cl : List (Str × Addr)) (fp : List Addr), PG (X.blk y H scope (compEnvC scope cl C X.env) fp) tg g)
    (ht : ∀ (y : Shared) (H : Hp) (C : Addr) (cl : List (Str × Addr)) (fp : List Addr), PTs (X.blk y H scope (compEnvC scope cl C X.env) fp) ifs tt)
    (he : ∀ (y : Shared) (H : Hp) (C : Addr) (cl : List (Str × Addr)) (fp : List Addr) (xe : Value → Shared → Prop) (E : XK), Passes (L2.CX X.prog X.w) ((X.blk y H scope (compEnvC scope cl C X.env) fp).wish xe) E → PE ((X.blk y H scope (compEnvC scope cl C X.env) fp).wish xe) elt (te E))
    (hfs : ∀ x, foldedSetIterable iter X.env x = pure x := by intro _; rfl) :
    PE X (.ListComp elt [⟨tg, iter, ifs, 0⟩] scope pos) (fun σ H Q => tLc wi g tt (te fun cls d H' => W cls d σ H') (own.map (·.2)) σ H Q) := pe_lcI hc hst hfm tk hN hi ok hg (fun y H C cl fp _ => ht y H C cl fp) he hfs
end
end Br

/-! The program's exception classes: made by their own __init__ that calls the base's, raised, told by the ledger. -/
namespace Br
open PySem PySem.Spec PyProof.Rows L2
/-- the base class at CR: RotaError.__init__ is ValueError's -/
structure BaseX (K : PySem.W.Frag) (mg : Str → Option Value) (CR : Addr) : Prop where
  g : mg "RotaError" = some (.ref CR)
  rd : PySem.W.readsIn K CR (.type "type") = true
  ga : PySem.W.specialIn K (.ref CR) "__getattribute__" = some (some (.builtin "type.__getattribute__"))
  at_ : PySem.W.findCls K (.ref CR) (.type "type") "__init__" = some (.val (.builtin "ValueError.__init__"))
section
variable {X : Cx} {e : Expr} {es : List Expr} {ta : TA} {p1 p2 pos : Pos} {CR : Addr}
theorem pe_rinit {pl : Sem Bool} (B : BaseX X.K X.mg CR) (hg : Gl X "RotaError") (ha : PA X (e :: es) ta)
    (he : starEach (e :: es) X.env = (false, eval e X.env) :: starEach es X.env := by rfl) (hpl : (backTo pos (starEach es X.env)).any (·.1) = false := by rfl)
    (hc : eval (.Call (.Attribute (.Name "RotaError" p1) "__init__" p2) (e :: es) [] pos) X.env = (do
      let ov ← eval (.Name "RotaError" p1) X.env
      standAt p2.atName
      let (f, first) ← holding [ov] (getMethod ov "__init__" pl)
      callWith pos f first (backTo pos (starEach (e :: es) X.env)) (backToKw pos (keywordEach [] X.env))) := by rfl) :
    PE X (.Call (.Attribute (.Name "RotaError" p1) "__init__" p2) (e :: es) [] pos) (tVeI X.K ta) := by
  refine ⟨fun pins y σ H Q I h => ?_⟩
  refine PySem.W.methodCall_KW (ld_glob I hg B.g ?_ (by decide)) hc
  refine PySem.W.method_cls I.kIn B.ga (PySem.W.cls_value I.kIn B.rd B.at_ (by decide +kernel) ?_)
  refine PyProof.Rows.callWith_method1 (thn (ha.run pos pins _ σ H _ (I.tok _) h) fun us y1 ⟨vs, H1, I1, r1, a, C, ws, ev, hl, T, ea, q⟩ => ?_) he hpl
  subst ev
  cases r1 with
  | @cons _ u0 _ ur ra rw2 =>
    obtain rfl : u0 = Value.ref a := ra
    exact oinit_ok T I1 ea (by rw [← Paired.length rw2, sizeLine_eq]; omega) fun z J => ⟨.non, H1, J, rfl, q⟩
end
/-- an error as it lies behind a call: of the class at C, its dict d holds fs; nothing old is changed -/
def spEx (C : Addr) (fs : List Str) : Sp := fun vs H Q _ => ∃ (a : Addr) (ws : List V), vs = .ref a :: ws ∧ ws.length = fs.length ∧ H a = some (exo a C none) ∧
  ∀ (dx : Addr) (H' : Hp), H dx = none → dx ≠ a → (∀ b, b ≠ dx → b ≠ a → H' b = H b) → H' a = some (exo a C (some dx)) → H' dx = some (exd dx (fs.zip ws).reverse) → Q .non H'
/-- an own exception class with an __init__, ready to be raised -/
structure ExAt (P : Program) (w : World) (K : PySem.W.Frag) (mg : Str → Option Value) (base : Heap) (x : Str) (C : Addr) (fs : List Str) : Prop where
  T : OexC K C
  gC : mg x = some (.ref C)
  ex : ∃ (fI : Addr) (fd : FuncData) (ps : List Str), PySem.W.findIn K (.ref C) "__init__" = some (some (.ref fI)) ∧ PySem.W.typeIn K (.ref fI) = some (.type "function") ∧ FnOk P w K mg base CX0 1 fI fd ps (spEx C fs) ∧ Binds K fd ps []
theorem del_wd {H H2 : Hp} {a d : Addr} {C : Addr} {fs : List (Str × V)} (ha : H a = none) (hd : H d = none) (ne : d ≠ a) (k : ∀ b, b ≠ d → b ≠ a → H2 b = upd H a (exo a C none) b) : Wd [] H (upd (del H2 a) d (.xd fs)) [(d, .xd fs)] where
  base := fun b o _ e => by
    have h1 := ne_of_none e hd
    have h2 := ne_of_none e ha
    rw [upd_ne h1, del_ne h2, k b h1 h2, upd_ne h2]; exact e
  tups := fun b xs e => by
    have h1 := ne_of_none e hd
    have h2 := ne_of_none e ha
    rw [upd_ne h1, del_ne h2, k b h1 h2, upd_ne h2]; exact e
  own := fun q hq => by rw [List.mem_singleton.mp hq]; exact .inl hd
  at_ := fun q hq => by rw [List.mem_singleton.mp hq]; exact upd_same
  nd := by simp
  free := fun b e => by
    by_cases h1 : b = d
    · rw [h1]; exact hd
    by_cases h2 : b = a
    · rw [h2]; exact ha
    rw [upd_ne h1, del_ne h2, k b h1 h2, upd_ne h2] at e; exact e
section
variable {X : Cx} {e : Expr} {es : List Expr} {ta : TA} {p pos : Pos} {C : Addr} {x : Str} {fs : List Str}
def tUp (t : TA) : TA := fun σ H Q => ∃ R : List V → Hp → Prop, t σ H R ∧ ∀ vs H1, R vs H1 → Q vs H1
theorem pa_up (h : PA X es ta) : PA X es (tUp ta) := ⟨fun pos pins y σ H Q I ⟨R, h1, h2⟩ => thn (h.run pos pins y σ H R I h1) fun us z ⟨vs, H1, I1, r1, q⟩ => ⟨vs, H1, I1, r1, h2 _ _ q⟩⟩
def tMkE (C : Addr) (fs : List Str) (ta : TA) : L2.St → Hp → XK → Prop := fun σ H Q => ta σ H fun ws H1 => ws.length = fs.length ∧ ∀ d H', Wd [] H1 H' [(d, .xd (fs.zip ws).reverse)] → Q (.ref C) (some d) H'
theorem pmk_ex (D : ExAt X.prog X.w X.K X.mg X.base x C fs) (hr : Room 2 X.A) (hg : Gl X x) (ha : PA X (e :: es) ta) (hz : fs.length ≤ 1000) (hdb : (x == ("__debug__" : Str)) = false := by decide)
    (he : starEach (e :: es) X.env = (false, eval e X.env) :: starEach es X.env := by rfl) (hpl : (backTo pos (starEach es X.env)).any (·.1) = false := by rfl) :
    PMk X (.Call (.Name x p) (e :: es) [] pos) (tMkE C fs ta) := by
  obtain ⟨fI, fd, ps, iC, tI, F1, b⟩ := D.ex
  have h := pmk_oex (X := X) (dvs := []) (p := p) (pos := pos) D.T iC tI F1 hr b .nil (fun _ _ _ _ _ _ _ z => False.elim z) hg D.gC (pa_up ha) hdb he hpl
  intro pins y σ H Q I q
  refine h pins y σ H Q I ⟨_, q, fun ws H1 ⟨hl, k⟩ => ⟨by omega, fun a ha0 => ⟨a, ws, by rw [List.append_nil], hl, upd_same, fun dx H' hd ne hk h1 h2 => ⟨rfl, dx, _, h1, h2, ?_, ?_⟩⟩⟩⟩
  · rw [upd_ne ne] at hd; exact hd
  · exact k dx _ (del_wd ha0 (by rw [upd_ne ne] at hd; exact hd) ne hk)
end
/-- the class as the top left it: its __init__ is st, in order self and the fields -/
structure ExTxt (K : PySem.W.Frag) (mg : Str → Option Value) (x q : Str) (C : Addr) (st : Stmt) (ps fs : List Str) : Prop where
  T : OexC K C
  gC : mg x = some (.ref C)
  no : ∀ f ∈ fs, PySem.W.findIn K (.ref C) f = some none
  ex : ∃ (fI : Addr) (fd : FuncData), PySem.W.findIn K (.ref C) "__init__" = some (some (.ref fI)) ∧ PySem.W.typeIn K (.ref fI) = some (.type "function") ∧ Fun K "__init__" q st fI fd ∧ Binds K fd ps []
theorem ExTxt.at_ {P : Program} {w : World} {K : PySem.W.Frag} {mg : Str → Option Value} {base : Heap} {x q : Str} {C : Addr} {st : Stmt} {ps fs : List Str} (D : ExTxt K mg x q C st ps fs)
    (h : ∀ fI fd, Fun K "__init__" q st fI fd → FnOk P w K mg base CX0 1 fI fd ps (spEx C fs)) : ExAt P w K mg base x C fs := by
  obtain ⟨fI, fd, h1, h2, F, b⟩ := D.ex
  exact ⟨D.T, D.gC, fI, fd, ps, h1, h2, h fI fd F, b⟩
end Br

/-! Contracts of defs and methods that may raise. -/
namespace Br
open PySem PySem.Spec PyProof.Rows L2
structure CalX (P : Program) (w : World) (K : PySem.W.Frag) (mg : Str → Option Value) (base : Heap) (k : Nat) (x : Str) (ps : List Str) (sp : Sp) : Prop where
  ex : ∃ (f : Addr) (fd : FuncData), mg x = some (.ref f) ∧ PySem.W.keepIn K (.ref f) = true ∧ Binds K fd ps [] ∧ FnOk P w K mg base (L2.CX P w) k f fd ps sp
structure MeX (P : Program) (w : World) (K : PySem.W.Frag) (mg : Str → Option Value) (base : Heap) (k : Nat) (C : Addr) (m : Str) (ps : List Str) (sp : Sp) : Prop where
  ex : ∃ (f : Addr) (fd : FuncData), Meth K C m f ∧ Binds K fd ps [] ∧ FnOk P w K mg base (L2.CX P w) k f fd ps sp
section
variable {P : Program} {w : World} {K : PySem.W.Frag} {mg : Str → Option Value} {base : Heap} {k : Nat} {x m q : Str} {C : Addr} {st : Stmt} {ps : List Str} {sp : Sp}
theorem DefAt.calX (D : DefAt K mg x st ps) (h : ∀ f fd, Fun K x x st f fd → FnOk P w K mg base (L2.CX P w) k f fd ps sp) : CalX P w K mg base k x ps sp := by
  obtain ⟨f, fd, m, F, b⟩ := D.ex
  exact ⟨f, fd, m, F.kp, b, h f fd F⟩
theorem MethAt.meX (D : MethAt K C m q st ps) (h : ∀ f fd, Fun K m q st f fd → FnOk P w K mg base (L2.CX P w) k f fd ps sp) : MeX P w K mg base k C m ps sp := by
  obtain ⟨f, fd, M, F, b⟩ := D.ex
  exact ⟨f, fd, M, b, h f fd F⟩
end
end Br

namespace Br
open PySem PySem.Spec PyProof.Rows L2
section
variable {P : Program} {w : World} {K : PySem.W.Frag} {mg : Str → Option Value} {base : Heap} {CT CP : Addr}
def awToks (ns : List Str) (t : Int × Int × Int) : List (Str × Str) := [("keyword", "away"), ("name", nmL ns t.1), ("number", num t.2.1), ("keyword", "of"), ("number", num t.2.2), ("sign", ";")]
def spAway (CP CT : Addr) : Sp := fun vs H Q _ => ∃ (z : Pz) (L : List (Addr × (Str × Str))) (s : Pv) (t : Int × Int × Int) (rest : List (Str × Str)), vs = [.ref z.x] ∧ PAt CP CT z L s H ∧ s.names.Nodup ∧ s.names.length ≤ 6 ∧ AwOk s.names.length t ∧ s.aws.length < 20 ∧
  TkAt L s.n (awToks s.names t ++ rest) ∧
  ∀ H' b, Wd z.mut H H' [] → PAt CP CT z L { s with n := s.n + 6, aws := s.aws ++ [(b, t)] } H' → Q .non H'
abbrev sParser_parse_away : Stmt := inClass (topS 40) 11
theorem scParser_parse_away : FnScope ["self", "start", "person", "remainder", "modulus"] ["self"] (defScope sParser_parse_away) := ⟨rfl, rfl, rfl, by decide +kernel, rfl, by decide +kernel, by decide +kernel⟩
theorem me_away (D : MethAt K CP "parse_away" "Parser.parse_away" sParser_parse_away ["self"]) (T : Bi mg) (PC : ParCls K CP) (TC : TokCls K CT) (LC : LexC K mg) (hMA : ∃ t, mg "MAX_AWAYS" = some (.int 20 t))
    (hMO : ∃ a, mg "MODULI" = some (.ref a) ∧ ∀ H : Hp, SqT K H a (([2, 3, 4, 6, 8, 12] : List Int).map V.int))
    (C0 : MeAt P w K mg base 1 CP "peek" ["self"] (spPeek CP CT)) (C1 : MeAt P w K mg base 2 CP "take_word" ["self", "word"] (spTakeW CP CT))
    (C2 : MeAt P w K mg base 2 CP "take" ["self", "kind"] (spTake CP CT)) (C3 : MeAt P w K mg base 1 CP "person" ["self", "token"] (spPerson CP CT)) : MeAt P w K mg base 3 CP "parse_away" ["self"] (spAway CP CT) := D.me fun f fd F => by
  have nd := scParser_parse_away.nd
  have cl_Parser := PC.cl
  obtain ⟨t1, c_NAME⟩ := LC.NAME
  obtain ⟨t3, c_NUMBER⟩ := LC.NUMBER
  obtain ⟨t4, c_END_SIGN⟩ := LC.END_SIGN
  obtain ⟨t2, c_MAX_AWAYS⟩ := hMA
  obtain ⟨a_MODULI, c_MODULI, hmo⟩ := hMO
  obtain ⟨f0, fd0, me_peek, b_peek, G_peek⟩ := C0.ex
  obtain ⟨f1, fd1, me_take_word, b_take_word, G_take_word⟩ := C1.ex
  obtain ⟨f2, fd2, me_take, b_take, G_take⟩ := C2.ex
  obtain ⟨f3, fd3, me_person, b_person, G_person⟩ := C3.ex
  refine F.ok scParser_parse_away (fun vs H Q E h => ?_) (fun cdv A outer s H vs Q E hr h => ?_)
  · obtain ⟨z, L, s, ts, rest, rfl, _⟩ := h; rfl
  obtain ⟨z, L, sv, t, rest, rfl, hp, hnd, h6, ⟨g1, g2, g3, g4, g5⟩, h20, hts, q⟩ := h
  refine ⟨_, (pss_cons (ps_set (i := 1) nd rfl (Or.inl rfl) (pe_meth0 (pv 0) cl_Parser me_peek G_peek (hr.mono (by first | decide | omega)) b_peek .nil pass0))
 (pss_cons (ps_expr (pe_meth (pv 0) cl_Parser me_take_word G_take_word (hr.mono (by first | decide | omega)) b_take_word .nil pass0 (pa_cons pe_str pa_nil)))
 (pss_cons (ps_set (i := 2) nd rfl (Or.inl rfl) (pe_meth (pv 0) cl_Parser me_person G_person (hr.mono (by first | decide | omega)) b_person .nil pass0 (pa_cons (pe_meth (pv 0) cl_Parser me_take G_take (hr.mono (by first | decide | omega)) b_take .nil pass0 (pa_cons (pe_glob (v := .str "name") (by rfl) c_NAME ⟨_, rfl⟩) pa_nil)) pa_nil)))
 (pss_cons (ps_set (i := 3) nd rfl (Or.inl rfl) (pe_meth (pv 0) cl_Parser me_take G_take (hr.mono (by first | decide | omega)) b_take .nil pass0 (pa_cons (pe_glob (v := .str "number") (by rfl) c_NUMBER ⟨_, rfl⟩) pa_nil)))
 (pss_cons (ps_expr (pe_meth (pv 0) cl_Parser me_take_word G_take_word (hr.mono (by first | decide | omega)) b_take_word .nil pass0 (pa_cons pe_str pa_nil)))
 (pss_cons (ps_set (i := 4) nd rfl (Or.inl rfl) (pe_meth (pv 0) cl_Parser me_take G_take (hr.mono (by first | decide | omega)) b_take .nil pass0 (pa_cons (pe_glob (v := .str "number") (by rfl) c_NUMBER ⟨_, rfl⟩) pa_nil)))
 (pss_cons (ps_expr (pe_meth (pv 0) cl_Parser me_take_word G_take_word (hr.mono (by first | decide | omega)) b_take_word .nil pass0 (pa_cons (pe_glob (v := .str ";") (by rfl) c_END_SIGN ⟨_, rfl⟩) pa_nil)))
 (pss_cons (ps_if (pt_cmpR (r := rIn K true) op_notIn_seq (pe_callTy call_int_str (by rfl) T.int (by decide +kernel) (pa_cons (pe_fldK (K := K) rfl (pv 4) rfl) pa_nil)) (pe_glob (v := .ref a_MODULI) (by rfl) c_MODULI rfl) (by rfl))
 pss_never
 (pss_one (ps_if (pt_cmpR op_ge (pe_callTy call_int_str (by rfl) T.int (by decide +kernel) (pa_cons (pe_fldK (K := K) rfl (pv 3) rfl) pa_nil)) (pe_callTy call_int_str (by rfl) T.int (by decide +kernel) (pa_cons (pe_fldK (K := K) rfl (pv 4) rfl) pa_nil)) (nomark _))
 pss_never
 (pss_one (ps_if (pt_cmpR op_eq (pe_callB (r := rLenS K) call_len_seq (by rfl) T.len PySem.boot_len (pa_cons (pe_fldK (K := K) rfl (pv 0) rfl) pa_nil)) (pe_glob (v := .int 20) (by rfl) c_MAX_AWAYS ⟨_, rfl⟩) (nomark _))
 pss_never
 pss_nil)))))
 (pss_one (ps_expr (pe_bmK (K := K) rfl PySem.F.plainAttrs_list PySem.F.slot_list_append PySem.F.type_list_append mt_append (pe_fldK (K := K) rfl (pv 0) rfl) (pa_cons (pe_tup (pa_cons (pv 2) (pa_cons (pe_callTy call_int_str (by rfl) T.int (by decide +kernel) (pa_cons (pe_fldK (K := K) rfl (pv 3) rfl) pa_nil)) (pa_cons (pe_callTy call_int_str (by rfl) T.int (by decide +kernel) (pa_cons (pe_fldK (K := K) rfl (pv 4) rfl) pa_nil)) pa_nil)))) pa_nil)))))))))))), ?_⟩
  have g6 : t.2.2 ≤ 12 := by simp at g5; omega
  have g7 : 2 ≤ t.2.2 := by simp at g5; omega
  obtain ⟨⟨a0, h0⟩, hts1⟩ := hts.cons
  obtain ⟨⟨a1, h1⟩, hts2⟩ := hts1.cons
  obtain ⟨⟨a2, h2⟩, hts3⟩ := hts2.cons
  obtain ⟨⟨a3, h3⟩, hts4⟩ := hts3.cons
  obtain ⟨⟨a4, h4⟩, hts5⟩ := hts4.cons
  obtain ⟨⟨a5, h5⟩, hts6⟩ := hts5.cons
  refine ⟨_, rfl, z.x, z.dx, _, rfl, hp.ob, pf_none (by decide +kernel), z, L, sv, a0, _, rfl, hp, h0, ?_⟩
  refine ⟨_, rfl, z.x, z.dx, _, rfl, hp.ob, pf_none (by decide +kernel), z, L, sv, a0, _, _, rfl, hp, h0, fun H1 c1 hp1 => ?_⟩
  refine ⟨_, rfl, z.x, z.dx, _, rfl, hp1.ob, pf_none (by decide +kernel), _, rfl, z.x, z.dx, _, rfl, hp1.ob, pf_none (by decide +kernel), z, L, _, a1, _, _, rfl, hp1, h1, fun H2 c2 hp2 => ?_⟩
  refine ⟨z, L, _, a1, _, _, t.1.toNat, rfl, hp2, List.mem_of_getElem? h1, hnd, nmL_at g1 g2, ?_⟩
  refine ⟨_, rfl, z.x, z.dx, _, rfl, hp2.ob, pf_none (by decide +kernel), z, L, _, a2, _, _, rfl, hp2, h2, fun H3 c3 hp3 => ?_⟩
  refine ⟨_, rfl, z.x, z.dx, _, rfl, hp3.ob, pf_none (by decide +kernel), z, L, _, a3, _, _, rfl, hp3, h3, fun H4 c4 hp4 => ?_⟩
  refine ⟨_, rfl, z.x, z.dx, _, rfl, hp4.ob, pf_none (by decide +kernel), z, L, _, a4, _, _, rfl, hp4, h4, fun H5 c5 hp5 => ?_⟩
  refine ⟨_, rfl, z.x, z.dx, _, rfl, hp5.ob, pf_none (by decide +kernel), z, L, _, a5, _, _, rfl, hp5, h5, fun H6 c6 hp6 => ?_⟩
  have c7 := ((((c1.fgo c2).fgo c3).fgo c4).fgo c5).fgo c6
  obtain ⟨ndx, nl_, nc, hta2⟩ := hp6.ts _ (List.mem_of_getElem? h2)
  obtain ⟨mdx, ml, mc, hta4⟩ := hp6.ts _ (List.mem_of_getElem? h4)
  obtain ⟨hr1, hr2⟩ := int_num' (i := t.2.1) (by omega) (by omega)
  obtain ⟨hm1, hm2⟩ := int_num' (i := t.2.2) (by omega) (by omega)
  refine ⟨_, rfl, a4, CT, mdx, _, _, rfl, hta4, TC.cl, TC.nt, tk_text _ _ _ _, _, _, rfl, hm1, hm2, a_MODULI, _, rfl, .inr (hmo _), rfl, flat_ints _, _, rfl, ?_⟩
  rw [if_pos rfl, inV_ints, decide_eq_true g5]
  refine ite2 (fun h => absurd h (by decide)) (fun _ => ?_)
  refine ⟨_, rfl, a2, CT, ndx, _, _, rfl, hta2, TC.cl, TC.nt, tk_text _ _ _ _, _, _, rfl, hr1, hr2, _, rfl, a4, CT, mdx, _, _, rfl, hta4, TC.cl, TC.nt, tk_text _ _ _ _, _, _, rfl, hm1, hm2, _, _, rfl, rfl, _, rfl, ?_⟩
  refine ite2 (fun h => absurd (of_decide_eq_true h) (by omega)) (fun _ => ?_)
  refine ⟨_, rfl, z.x, CP, z.dx, _, _, rfl, hp6.ob, PC.cl, PC.n7, pf_aways, z.al, _, rfl, .inl (SqL.of hp6.al), rfl, _, rfl, ?_⟩
  refine ite2 (fun h => absurd (of_decide_eq_true h) (fun e => by injection e with e; unfold arefs at e; rw [List.length_map] at e; dsimp only at e; omega)) (fun _ => ?_)
  have halm : z.al ∈ z.mut := by simp [Pz.mut]
  refine ⟨_, rfl, z.x, CP, z.dx, _, _, rfl, hp6.ob, PC.cl, PC.n7, pf_aways, .inl ⟨rfl, _, SqL.of hp6.al⟩, _, rfl, _, rfl, a2, CT, ndx, _, _, rfl, hta2, TC.cl, TC.nt, tk_text _ _ _ _, _, _, rfl, hr1, hr2, _, rfl, a4, CT, mdx, _, _, rfl, hta4, TC.cl, TC.nt, tk_text _ _ _ _, _, _, rfl, hm1, hm2, (by show 3 ≤ sizeLine; decide), fun b hb => ?_⟩
  have e1 : ((t.1.toNat : Nat) : Int) = t.1 := Int.toNat_of_nonneg g1
  rw [e1]
  have hp7 := hp6.new (.tup (tri t)) hb
  have c8 := c7.fnew (.tup (tri t)) hb
  have hbt : upd H6 b (.tup (tri t)) b = some (.tup (tri t)) := upd_same
  show ∃ a xs, _
  refine ⟨z.al, arefs sv.aws, _, rfl, rfl, hp7.al, ?_, ?_⟩
  · unfold arefs; rw [List.length_map]; exact Nat.lt_of_lt_of_le (m := 100) (by omega) (by decide)
  have e2 : arefs sv.aws ++ [V.ref b] = arefs (sv.aws ++ [(b, t)]) := by simp [arefs]
  rw [e2]
  refine q _ b (c8.fput _ (.inr halm) hp7.al (fun _ q => by cases q)) (hp7.setA _ fun q hq => ?_)
  rcases List.mem_append.mp hq with hq | hq
  · exact hp7.aw q hq
  · rw [List.mem_singleton.mp hq]; exact hbt
/-! ### who makes up -/
def spMakeup (CP CT : Addr) : Sp := fun vs H Q _ => ∃ (z : Pz) (L : List (Addr × (Str × Str))) (s : Pv) (ks : List Int) (rest : List (Str × Str)), vs = [.ref z.x] ∧ PAt CP CT z L s H ∧ s.M = none ∧ s.names.Nodup ∧ s.names.length ≤ 6 ∧ ks ≠ [] ∧ ks.length ≤ 12 ∧
  (∀ k ∈ ks, 0 ≤ k ∧ k < s.names.length) ∧
  TkAt L s.n ((("keyword" : Str), ("makeup" : Str)) :: ((ks.map (nmL s.names)).map (fun t => (("name" : Str), t)) ++ (("sign" : Str), (";" : Str)) :: rest)) ∧
  ∀ H' b ms, Wd z.mut H H' [] → ms.Pairwise (· < ·) → (∀ k : Int, k ∈ ms ↔ k ∈ ks) → PAt CP CT z L { s with n := s.n + 1 + ks.length + 1, M := some (b, ms) } H' → Q .non H'
abbrev sParser_parse_makeup : Stmt := inClass (topS 40) 12
theorem scParser_parse_makeup : FnScope ["self", "start", "persons", "token"] ["self"] (defScope sParser_parse_makeup) := ⟨rfl, rfl, rfl, by decide +kernel, rfl, by decide +kernel, by decide +kernel⟩
theorem me_makeup (D : MethAt K CP "parse_makeup" "Parser.parse_makeup" sParser_parse_makeup ["self"]) (T : Bi mg) (PC : ParCls K CP) (TC : TokCls K CT) (LC : LexC K mg)
    (C0 : MeAt P w K mg base 1 CP "peek" ["self"] (spPeek CP CT)) (C1 : MeAt P w K mg base 2 CP "take_word" ["self", "word"] (spTakeW CP CT))
    (C2 : MeAt P w K mg base 3 CP "take_all" ["self", "kind"] (spTakeA CP CT)) (C3 : MeAt P w K mg base 1 CP "person" ["self", "token"] (spPerson CP CT)) : MeAt P w K mg base 4 CP "parse_makeup" ["self"] (spMakeup CP CT) := D.me fun f fd F => by
  have nd := scParser_parse_makeup.nd
  have cl_Parser := PC.cl
  obtain ⟨t1, c_NAME⟩ := LC.NAME
  obtain ⟨f0, fd0, me_peek, b_peek, G_peek⟩ := C0.ex
  obtain ⟨f1, fd1, me_take_word, b_take_word, G_take_word⟩ := C1.ex
  obtain ⟨f2, fd2, me_take_all, b_take_all, G_take_all⟩ := C2.ex
  obtain ⟨f3, fd3, me_person, b_person, G_person⟩ := C3.ex
  refine F.ok scParser_parse_makeup (fun vs H Q E h => ?_) (fun cdv A outer s H vs Q E hr h => ?_)
  · obtain ⟨z, L, s, ts, rest, rfl, _⟩ := h; rfl
  obtain ⟨z, L, sv, ks, rest, rfl, hp, hM, hnd, h6, hne, h12, hin, hts, q⟩ := h
  refine ⟨_, (pss_cons (ps_set (i := 1) nd rfl (Or.inl rfl) (pe_meth0 (pv 0) cl_Parser me_peek G_peek (hr.mono (by first | decide | omega)) b_peek .nil pass0))
 (pss_cons (ps_expr (pe_meth (pv 0) cl_Parser me_take_word G_take_word (hr.mono (by first | decide | omega)) b_take_word .nil pass0 (pa_cons pe_str pa_nil)))
 (pss_cons (ps_setLc (i := 2) (own := [("token", 3)]) rfl nd rfl rfl (sw_true rfl rfl rfl (by decide +kernel)) (pi_listK (K := K) rfl (pe_meth (pv 0) cl_Parser me_take_all G_take_all (hr.mono (by first | decide | omega)) b_take_all .nil pass0 (pa_cons (pe_glob (v := .str "name") (by rfl) c_NAME ⟨_, rfl⟩) pa_nil))) (blkOk_by (N := ["self", "start", "persons", "token"]) (sc := defScope sParser_parse_makeup) (by decide +kernel)) (fun _ _ _ _ _ => (pg_name (i := 3) nd rfl (Or.inl rfl))) (fun _ _ _ _ _ => pts_nil) (fun _ _ _ _ _ => (pe_meth (pv 0) cl_Parser me_person G_person (hr.mono (by first | decide | omega)) b_person .nil pass0 (pa_cons (pv 3) pa_nil))))
 (pss_cons (ps_if (pt_cmpR op_notN (pe_fldK (K := K) rfl (pv 0) rfl) pe_non (nomark _))
 pss_never
 pss_nil)
 (pss_one (ps_fld (pv 0) (pe_callTy (r := rTupOf K) call_tuple_of (by rfl) T.tuple (by decide +kernel) (pa_cons (pe_callB (r := rSortedSet w) (cr_sortedSet rfl) (by rfl) T.sorted (by decide +kernel) (pa_cons (pe_callTy (r := rSetI K w) (cr_setI rfl) (by rfl) T.set (by decide +kernel) (pa_cons (pv 2) pa_nil)) pa_nil)) pa_nil)) rfl)))))), ?_⟩
  obtain ⟨⟨a0, h0⟩, hts1⟩ := hts.cons
  refine ⟨_, rfl, z.x, z.dx, _, rfl, hp.ob, pf_none (by decide +kernel), z, L, sv, a0, _, rfl, hp, h0, ?_⟩
  refine ⟨_, rfl, z.x, z.dx, _, rfl, hp.ob, pf_none (by decide +kernel), z, L, sv, a0, _, _, rfl, hp, h0, fun H1 c1 hp1 => ?_⟩
  refine ⟨_, rfl, z.x, z.dx, _, rfl, hp1.ob, pf_none (by decide +kernel), z, L, _, _, ks.map (nmL sv.names), rest, rfl, hp1, by decide +kernel, by simpa using hne, by rw [List.length_map]; omega, hts1, fun H2 p sub c2 hp2 hpn hsub hmap hmem => ?_⟩
  have hsl : (trefs sub).length = ks.length := by
    have := congrArg List.length hmap
    rw [List.length_map, List.length_map, List.length_map] at this
    rw [trefs_len]; exact this
  have hlen : (ks.map (nmL sv.names)).length = ks.length := List.length_map ..
  rw [hlen] at hp2
  have tokv : ∀ (i : Nat) (x : V), (trefs sub)[i]? = some x → ∃ a v, x = .ref a ∧ ks[i]? = some v ∧ (a, (("name" : Str), nmL sv.names v)) ∈ L ∧ 0 ≤ v ∧ v < sv.names.length := fun i x hx => by
    obtain ⟨a, t, rfl, ht, hm⟩ := sub_at hmap hx
    rw [List.getElem?_map] at ht
    cases e5 : ks[i]? with
    | none => rw [e5] at ht; cases ht
    | some v =>
      rw [e5] at ht
      have e6 : nmL sv.names v = t := Option.some.inj ht
      exact ⟨a, v, rfl, rfl, by rw [e6]; exact hmem _ hm, (hin v (List.mem_of_getElem? e5)).1, (hin v (List.mem_of_getElem? e5)).2⟩
  have c3 := c1.fgo c2
  refine ⟨p, rfl, ⟨_, SqL.of hsub⟩, fun D hD => ?_⟩
  have w0 := (Wd.refl H2).new (.lst []) hD
  refine lc_list (K := K) (a := p) (xs := trefs sub) (fun i H3 => Wd [] H2 H3 [(D, .lst ((ks.take i).map V.int))]) w0 (fun i H3 _ w => SqL.of (w.old hsub (by simp))) ?_ ?_
  · rintro i x H4 hx w4
    obtain ⟨a, v, rfl, hv, hm, hv1, hv9⟩ := tokv i _ hx
    have hi2 := (List.getElem?_eq_some_iff.mp hv).1
    have hp4 := hp2.call0 w4
    refine ⟨rfl, _, rfl, z.x, z.dx, _, rfl, hp4.ob, pf_none (by decide +kernel), _, rfl, z, L, _, a, _, _, v.toNat, rfl, hp4, hm, hnd, nmL_at hv1 hv9, _, w4.get 0 rfl, ?_, ?_⟩
    · rw [List.length_map, List.length_take]; exact Nat.lt_of_lt_of_le (m := 100) (by omega) (by decide)
    · rw [take_more hv, List.map_append, Int.toNat_of_nonneg hv1]
      exact w4.put 0 (.lst ((ks.take i).map V.int ++ [V.int v])) rfl (fun _ q => by cases q)
  · intro H4 w4
    rw [hsl, List.take_length] at w4
    have hp4 := hp2.call0 w4
    have hw2 : oV sv.M = .non := by rw [hM]; rfl
    have c5 : Wd z.mut H H4 [] := c3.fgo ((w4.sub (List.nil_sublist _)).mono fun _ h => nomatch h)
    refine ⟨_, rfl, z.x, CP, z.dx, _, _, rfl, hp4.ob, PC.cl, PC.n6, pf_makers, rfl, _, rfl, ?_⟩
    dsimp only
    rw [hw2]
    refine ite2 (fun h => absurd h (by simp)) (fun _ => ?_)
    refine ⟨_, rfl, D, ks, rfl, SqL.of (w4.get 0 rfl), by omega, fun sa n hsa hn => ?_⟩
    have c6 := c5.fnew (SetO w sa (fun j => decide (j ∈ ks)) n) hsa
    have hp6 := hp4.new (SetO w sa (fun j => decide (j ∈ ks)) n) hsa
    refine ⟨sa, _, n, rfl, upd_same, by omega, fun ms lp hpw hms hl hlp => ?_⟩
    have c7 := c6.fnew (.lst (ms.map V.int)) hlp
    have hp7 := hp6.new (.lst (ms.map V.int)) hlp
    refine ⟨lp, _, rfl, .inl ⟨SqL.of upd_same, fun b hb => ?_⟩⟩
    have c8 := c7.fnew (.tup (ms.map V.int)) hb
    have hp8 := hp7.new (.tup (ms.map V.int)) hb
    refine ⟨_, rfl, z.x, CP, z.dx, _, rfl, hp8.ob, PC.cl, PC.n6, (by show 7 < 1000; decide), ?_⟩
    rw [pf_putM (b, ms)]
    refine q _ b ms (c8.fput _ (.inr (by simp [Pz.mut])) hp8.ob (fun _ q => by cases q)) hpw (fun k => (hms k).trans ⟨of_decide_eq_true, decide_eq_true⟩) (hp8.setX _ rfl rfl hp8.w (fun p hp => ?_))
    cases hp
    exact upd_same
end
end Br

namespace Br
open PySem PySem.Spec PyProof.Rows L2
theorem asc_unique {α : Type} {R : α → α → Prop} (irr : ∀ a b, R a b → R b a → False) : ∀ {l l' : List α}, l.Pairwise R → l'.Pairwise R → (∀ x, x ∈ l ↔ x ∈ l') → l = l'
  | [], [], _, _, _ => rfl
  | [], b :: l', _, _, h => absurd ((h b).mpr List.mem_cons_self) (by simp)
  | a :: l, [], _, _, h => absurd ((h a).mp List.mem_cons_self) (by simp)
  | a :: l, b :: l', p, p', h => by
    rw [List.pairwise_cons] at p p'
    have e : a = b := by
      by_cases e : a = b
      · exact e
      · have h1 : a ∈ l' := (List.mem_cons.mp ((h a).mp List.mem_cons_self)).resolve_left e
        have h2 : b ∈ l := (List.mem_cons.mp ((h b).mpr List.mem_cons_self)).resolve_left (Ne.symm e)
        exact (irr _ _ (p.1 b h2) (p'.1 a h1)).elim
    subst e
    refine congrArg (a :: ·) (asc_unique irr p.2 p'.2 fun x => ⟨fun hx => ?_, fun hx => ?_⟩)
    · refine (List.mem_cons.mp ((h x).mp (List.mem_cons_of_mem _ hx))).resolve_left fun e => ?_
      subst e
      exact irr _ _ (p.1 _ hx) (p.1 _ hx)
    · refine (List.mem_cons.mp ((h x).mpr (List.mem_cons_of_mem _ hx))).resolve_left fun e => ?_
      subst e
      exact irr _ _ (p'.1 _ hx) (p'.1 _ hx)
theorem lexLt_irr (s t : Int × Int × Int) (h : lexLt s t) (h' : lexLt t s) : False := by
  unfold lexLt at h h'; omega
theorem TkAt.cast {L : List (Addr × (Str × Str))} {n m : Nat} {ts : List (Str × Str)} (h : TkAt L n ts) (e : n = m) : TkAt L m ts := e ▸ h
/-! ### a text's statements -/
inductive Stm where
  | w
  | aw (t : Int × Int × Int)
  | mk (ks : List Int)
def Stm.isW : Stm → Bool
  | .w => true
  | _ => false
def Stm.aw? : Stm → Option (Int × Int × Int)
  | .aw t => some t
  | _ => none
def Stm.mk? : Stm → Option (List Int)
  | .mk ks => some ks
  | _ => none
theorem aw_cons (t : Int × Int × Int) (S : List Stm) : (Stm.aw t :: S).filterMap Stm.aw? = t :: S.filterMap Stm.aw? := rfl
theorem mk_cons (ks : List Int) (S : List Stm) : (Stm.mk ks :: S).filterMap Stm.mk? = ks :: S.filterMap Stm.mk? := rfl
def stmToks (r : Rota) : Stm → List (Str × Str)
  | .w => ("keyword", "weights") :: ((r.weights.map num).map (fun t => (("number" : Str), t)) ++ [(("sign" : Str), (";" : Str))])
  | .aw t => awToks r.names t
  | .mk ks => ("keyword", "makeup") :: ((ks.map (nmL r.names)).map (fun t => (("name" : Str), t)) ++ [(("sign" : Str), (";" : Str))])
structure Spell (r : Rota) (S : List Stm) : Prop where
  w1 : (S.filter Stm.isW).length ≤ 1
  w0 : S.filter Stm.isW = [] → r.weights = List.replicate r.names.length 1
  aw : ∀ t, t ∈ S.filterMap Stm.aw? ↔ t ∈ r.aways
  aw20 : (S.filterMap Stm.aw?).length ≤ 20
  m1 : (S.filterMap Stm.mk?).length ≤ 1
  mks : ∀ ks ∈ S.filterMap Stm.mk?, ks ≠ [] ∧ ks.length ≤ 12 ∧ ∀ k : Int, k ∈ ks ↔ k ∈ r.makers
  m0 : S.filterMap Stm.mk? = [] → r.makers = []
def rotaToks (r : Rota) (S : List Stm) : List (Str × Str) := (("keyword" : Str), ("people" : Str)) :: (r.names.map (fun t => (("name" : Str), t)) ++ (("sign" : Str), (";" : Str)) ::
  ((("keyword" : Str), ("turns" : Str)) :: ((r.turns.map (nmL r.names)).map (fun t => (("name" : Str), t)) ++ (("sign" : Str), (";" : Str)) :: (S.flatMap (stmToks r) ++ [(("end" : Str), ("" : Str))]))))
def l3 (t : Int × Int × Int) : List Int := [t.1, t.2.1, t.2.2]
def tr3 (l : List Int) : Int × Int × Int := (l.getD 0 0, l.getD 1 0, l.getD 2 0)
def atOf (o : Option HO) : Nat := match o with
  | some (.ins _ _ fs) => match fs.lookup ("at" : Str) with
    | some (.int i) => i.toNat
    | _ => 0
  | _ => 0
section
variable {P : Program} {w : World} {K : PySem.W.Frag} {mg : Str → Option Value} {base : Heap} {CT CP : Addr}
def spParse (CP CT : Addr) : Sp := fun vs H Q _ => ∃ (z : Pz) (L : List (Addr × (Str × Str))) (r : Rota) (S : List Stm), vs = [.ref z.x] ∧ PAt CP CT z L ⟨0, [], [], none, none⟩ H ∧ ROk r ∧ Spell r S ∧ TkAt L 0 (rotaToks r S) ∧
  ∀ H' a, Wd z.mut H H' [] → RotaAt H' a r → Q (.ref a) H'
abbrev sParser_parse_rota : Stmt := inClass (topS 40) 13
theorem scParser_parse_rota : FnScope ["self", "turns", "line", "column", "number", "reason", "weights", "makers"] ["self"] (defScope sParser_parse_rota) := ⟨rfl, rfl, rfl, by decide +kernel, rfl, by decide +kernel, by decide +kernel⟩
theorem me_rota (D : MethAt K CP "parse_rota" "Parser.parse_rota" sParser_parse_rota ["self"]) (T : Bi mg) (PC : ParCls K CP) (TC : TokCls K CT) (LC : LexC K mg)
    (C0 : MeAt P w K mg base 1 CP "peek" ["self"] (spPeek CP CT)) (C1 : MeAt P w K mg base 4 CP "parse_people" ["self"] (spPeople CP CT))
    (C2 : MeAt P w K mg base 4 CP "parse_turns" ["self"] (spTurns CP CT)) (C3 : MeAt P w K mg base 4 CP "parse_weights" ["self"] (spWeights CP CT))
    (C4 : MeAt P w K mg base 3 CP "parse_away" ["self"] (spAway CP CT)) (C5 : MeAt P w K mg base 4 CP "parse_makeup" ["self"] (spMakeup CP CT)) : MeAt P w K mg base 5 CP "parse_rota" ["self"] (spParse CP CT) := D.me fun f fd F => by
  have nd := scParser_parse_rota.nd
  have cl_Parser := PC.cl
  obtain ⟨t1, c_END⟩ := LC.END
  obtain ⟨f0, fd0, me_peek, b_peek, G_peek⟩ := C0.ex
  obtain ⟨f1, fd1, me_parse_people, b_parse_people, G_parse_people⟩ := C1.ex
  obtain ⟨f2, fd2, me_parse_turns, b_parse_turns, G_parse_turns⟩ := C2.ex
  obtain ⟨f3, fd3, me_parse_weights, b_parse_weights, G_parse_weights⟩ := C3.ex
  obtain ⟨f4, fd4, me_parse_away, b_parse_away, G_parse_away⟩ := C4.ex
  obtain ⟨f5, fd5, me_parse_makeup, b_parse_makeup, G_parse_makeup⟩ := C5.ex
  refine F.ok scParser_parse_rota (fun vs H Q E h => ?_) (fun cdv A outer s H vs Q E hr h => ?_)
  · obtain ⟨z, L, s, ts, rfl, _⟩ := h; rfl
  obtain ⟨z, L, r, S, rfl, hp, ok, sp, hts, q⟩ := h
  have hu := hr.units
  have hkey : (!decide (V.str "keyword" = V.str "end")) = true := by decide +kernel
  have hwa : ¬ ("away" : Str) = "weights" := by decide +kernel
  have hwm : ¬ ("makeup" : Str) = "weights" := by decide +kernel
  have ham_ : ¬ ("makeup" : Str) = "away" := by decide +kernel
  refine ⟨_, (pss_cons (ps_expr (pe_meth0 (pv 0) cl_Parser me_parse_people G_parse_people (hr.mono (by first | decide | omega)) b_parse_people .nil pass0))
 (pss_cons (ps_set (i := 1) nd rfl (Or.inl rfl) (pe_meth0 (pv 0) cl_Parser me_parse_turns G_parse_turns (hr.mono (by first | decide | omega)) b_parse_turns .nil pass0))
 (pss_cons (ps_while PassesOwn.never (pt_cmpR op_ne (pe_fldK (K := K) rfl (pe_meth0 (pv 0) cl_Parser me_peek G_peek (hr.mono (by first | decide | omega)) b_peek .nil pass0) rfl) (pe_glob (v := .str "end") (by rfl) c_END ⟨_, rfl⟩) (nomark _))
 (pss_one (ps_match (pe_fldK (K := K) rfl (pe_meth0 (pv 0) cl_Parser me_peek G_peek (hr.mono (by first | decide | omega)) b_peek .nil pass0) rfl) (pcs_str (pss_one (ps_expr (pe_meth0 (pv 0) cl_Parser me_parse_weights G_parse_weights (hr.mono (by first | decide | omega)) b_parse_weights .nil pass0))) (pcs_str (pss_one (ps_expr (pe_meth0 (pv 0) cl_Parser me_parse_away G_parse_away (hr.mono (by first | decide | omega)) b_parse_away .nil pass0))) (pcs_str (pss_one (ps_expr (pe_meth0 (pv 0) cl_Parser me_parse_makeup G_parse_makeup (hr.mono (by first | decide | omega)) b_parse_makeup .nil pass0))) (pcs_any pss_never)))))))
 (pss_cons (ps_if (pt_cmpR (r := rNeD K) (op_neD hu) (pe_fldK (K := K) rfl (pv 0) rfl) (pe_lst pa_nil) (nomark _))
 pss_never
 pss_nil)
 (C8.pss_cut (ps_set (i := 6) nd rfl (Or.inl rfl) (pe_ifExp (pt_cmpR op_notN (pe_fldK (K := K) rfl (pv 0) rfl) pe_non (nomark _)) (pe_fldK (K := K) rfl (pv 0) rfl) (pe_op (r := rRepA K) op_repA (pe_tup (pa_cons pe_int pa_nil)) (pe_callB (r := rLenS K) call_len_seq (by rfl) T.len PySem.boot_len (pa_cons (pe_fldK (K := K) rfl (pv 0) rfl) pa_nil)))))
 (C8.pss_cut (ps_set (i := 7) nd rfl (Or.inl rfl) (pe_ifExp (pt_cmpR op_notN (pe_fldK (K := K) rfl (pv 0) rfl) pe_non (nomark _)) (pe_fldK (K := K) rfl (pv 0) rfl) (pe_tup pa_nil)))
 (pss_one (ps_ret (pe_tup (pa_cons (pe_callTy (r := rTupOfF K) call_tuple_ofF (by rfl) T.tuple (by decide +kernel) (pa_cons (pe_fldK (K := K) rfl (pv 0) rfl) pa_nil)) (pa_cons (pv 1) (pa_cons (pv 6) (pa_cons (pe_callTy (r := rTupOf K) call_tuple_of (by rfl) T.tuple (by decide +kernel) (pa_cons (pe_callB (r := rSortedT K P w) (cr_sortedT rfl) (by rfl) T.sorted (by decide +kernel) (pa_cons (pe_callTy (r := rSetOfT K P w) (cr_setOfT rfl hu) (by rfl) T.set (by decide +kernel) (pa_cons (pe_fldK (K := K) rfl (pv 0) rfl) pa_nil)) pa_nil)) pa_nil)) (pa_cons (pv 7) pa_nil)))))))))))))), ?_⟩
  have n1 := ok.n1
  have n6 := ok.n6
  have hnn : r.names ≠ [] := fun e => by rw [e] at n1; simp at n1
  have htn : r.turns ≠ [] := fun e => by have := ok.tall 0 (by omega); rw [e] at this; simp at this
  have hwn : r.weights ≠ [] := fun e => by have := ok.wl; rw [e] at this; simp at this; omega
  refine ⟨_, rfl, z.x, z.dx, _, rfl, hp.ob, pf_none (by decide +kernel), z, L, _, r.names, _, rfl, hp, rfl, hnn, n6, ok.nd, hts, fun H1 c1 hp1 => ?_⟩
  have hts1 : TkAt L (0 + 1 + r.names.length + 1) _ := hts.cons.2.app.cons.2.cast (by rw [List.length_map])
  refine ⟨_, rfl, z.x, z.dx, _, rfl, hp1.ob, pf_none (by decide +kernel), z, L, _, r.turns, _, rfl, hp1, ok.nd, n6, htn, ok.t12, ok.t0, ok.tall, hts1, fun H2 tn c2 hp2 htu => ?_⟩
  have hts2 : TkAt L (0 + 1 + r.names.length + 1 + 1 + r.turns.length + 1) _ := hts1.cons.2.app.cons.2.cast (by rw [List.length_map, List.length_map])
  refine while_by (fun σ H' => σ = [some (.ref z.x), some (.ref tn), none, none, none, none, none, none] ∧ ∃ (s : Pv) (S1 S2 : List Stm), Wd z.mut H H' [] ∧ PAt CP CT z L s H' ∧ H' tn = some (.tup (r.turns.map V.int)) ∧ S1 ++ S2 = S ∧ s.names = r.names ∧
      TkAt L s.n (S2.flatMap (stmToks r) ++ [(("end" : Str), ("" : Str))]) ∧ s.aws.map Prod.snd = S1.filterMap Stm.aw? ∧
      ((s.W = none ∧ S1.filter Stm.isW = []) ∨ ((∃ b, s.W = some (b, r.weights)) ∧ S1.filter Stm.isW ≠ [])) ∧ ((s.M = none ∧ S1.filterMap Stm.mk? = []) ∨ ((∃ b, s.M = some (b, r.makers)) ∧ S1.filterMap Stm.mk? ≠ []))) (fun _ H' => L.length - atOf (H' z.x))
    ⟨rfl, _, [], S, c1.fgo c2, hp2, htu, rfl, rfl, hts2, rfl, .inl ⟨rfl, rfl⟩, .inl ⟨rfl, rfl⟩⟩ ?_ ?_
  · rintro σ H3 ⟨rfl, s3, S1, S2, c3, hp3, htu3, hS, hnm, hts3, haw3, hW3, hM3⟩
    have hat : atOf (H3 z.x) = s3.n := by
      rw [hp3.ob]
      unfold atOf
      simp only [pf_at]; rfl
    have nd1 := hp3.ne
    cases S2 with
    | nil =>
      rw [List.append_nil] at hS
      subst hS
      obtain ⟨⟨a0, h0⟩, _⟩ := hts3.cons
      obtain ⟨tdx, tl, tc, hta⟩ := hp3.ts _ (List.mem_of_getElem? h0)
      refine ⟨_, rfl, z.x, z.dx, _, rfl, hp3.ob, pf_none (by decide +kernel), z, L, s3, a0, _, rfl, hp3, h0, a0, CT, tdx, _, _, rfl, hta, TC.cl, TC.nk, tk_kind _ _ _ _, rfl, _, rfl, ?_⟩
      refine ite2 (fun h => absurd h (by simp)) (fun _ => ?_)
      refine ⟨_, rfl, z.x, CP, z.dx, _, _, rfl, hp3.ob, PC.cl, PC.n3, pf_faults, (by show 0 ≤ sizeLine; decide), fun e he => ?_⟩
      have c4 := c3.fnew (.lst []) he
      have hp4 := hp3.new (.lst []) he
      have htu4 : upd H3 e (.lst []) tn = some (.tup (r.turns.map V.int)) := by rw [upd_ne (ne_of_none htu3 he)]; exact htu3
      have hee : upd H3 e (.lst []) e = some (.lst []) := upd_same
      generalize upd H3 e (.lst []) = H4 at *
      refine ⟨.list [], .list [], .lst (SqL.of hp4.fl) .nil, .lst (SqL.of hee) .nil, rfl, rfl, _, rfl, ?_⟩
      rw [eqv_nil]
      refine ite2 (fun h => absurd h (by decide)) (fun _ => ?_)
      refine ⟨fun σ H' => ∃ aw, σ = [some (.ref z.x), some (.ref tn), none, none, none, none, some (.ref aw), none] ∧ Wd z.mut H H' [] ∧ PAt CP CT z L s3 H' ∧ H' tn = some (.tup (r.turns.map V.int)) ∧ H' aw = some (.tup (r.weights.map V.int)), ?_, ?_⟩
      · refine ⟨_, rfl, z.x, CP, z.dx, _, _, rfl, hp4.ob, PC.cl, PC.n5, pf_weights, rfl, _, rfl, ?_⟩
        rcases hW3 with ⟨hW, hf⟩ | ⟨⟨b, hW⟩, hf⟩
        · have hw2 : oV s3.W = .non := by rw [hW]; rfl
          rw [hw2]
          refine ite2 (fun h => absurd h (by simp)) (fun _ => ?_)
          have hr1 := sp.w0 hf
          refine ⟨(by show 1 ≤ sizeLine; decide), fun tp htp => ?_⟩
          have hp5 := hp4.new (.tup [V.int 1]) htp
          have c5 := c4.fnew (.tup [V.int 1]) htp
          have htu5 : upd H4 tp (.tup [V.int 1]) tn = some (.tup (r.turns.map V.int)) := by rw [upd_ne (ne_of_none htu4 htp)]; exact htu4
          refine ⟨_, rfl, z.x, CP, z.dx, _, _, rfl, hp5.ob, PC.cl, PC.n4, pf_names, z.nl, _, rfl, .inl (SqL.of hp5.nl), tp, _, [V.int 1], rfl, rfl, SqT.of upd_same, by simp, ?_, ?_, by simp, fun hk => ?_, fun hk p hpn => ?_⟩
          · rw [List.length_map, hnm]; omega
          · rw [List.length_map, hnm]; omega
          · rw [List.length_map, hnm] at hk
            refine ⟨tp, rfl, c5, hp5, htu5, ?_⟩
            rw [hr1, show r.names.length = 1 by omega]
            exact upd_same
          · refine ⟨p, rfl, c5.fnew _ hpn, hp5.new _ hpn, by rw [upd_ne (ne_of_none htu5 hpn)]; exact htu5, ?_⟩
            rw [upd_same, hr1, List.length_map, hnm, Int.toNat_natCast]
            have e5 : ∀ n : Nat, (List.replicate n [V.int 1]).flatten = (List.replicate n (1 : Int)).map V.int := fun n => by
              induction n with
              | zero => rfl
              | succ n ih => rw [List.replicate_succ, List.flatten_cons, ih, List.replicate_succ]; rfl
            rw [e5]
        · have hw2 : oV s3.W = .ref b := by rw [hW]; rfl
          rw [hw2]
          refine ite2 (fun _ => ?_) (fun h => absurd (by simp) h)
          refine ⟨_, rfl, z.x, CP, z.dx, _, _, rfl, hp4.ob, PC.cl, PC.n5, pf_weights, ?_⟩
          exact ⟨b, by rw [hw2]; rfl, c4, hp4, htu4, hp4.w _ hW⟩
      · rintro σ H5 ⟨aw, rfl, c5, hp5, htu5, haw5⟩
        refine ⟨fun σ H' => ∃ am, σ = [some (.ref z.x), some (.ref tn), none, none, none, none, some (.ref aw), some (.ref am)] ∧ Wd z.mut H H' [] ∧ PAt CP CT z L s3 H' ∧ H' tn = some (.tup (r.turns.map V.int)) ∧ H' aw = some (.tup (r.weights.map V.int)) ∧ H' am = some (.tup (r.makers.map V.int)), ?_, ?_⟩
        · refine ⟨_, rfl, z.x, CP, z.dx, _, _, rfl, hp5.ob, PC.cl, PC.n6, pf_makers, rfl, _, rfl, ?_⟩
          rcases hM3 with ⟨hM, hf⟩ | ⟨⟨b, hM⟩, hf⟩
          · have hw2 : oV s3.M = .non := by rw [hM]; rfl
            rw [hw2]
            refine ite2 (fun h => absurd h (by simp)) (fun _ => ?_)
            refine ⟨(by show 0 ≤ sizeLine; decide), fun tp htp => ⟨tp, rfl, c5.fnew _ htp, hp5.new _ htp, by rw [upd_ne (ne_of_none htu5 htp)]; exact htu5, by rw [upd_ne (ne_of_none haw5 htp)]; exact haw5, ?_⟩⟩
            rw [upd_same, sp.m0 hf]; rfl
          · have hw2 : oV s3.M = .ref b := by rw [hM]; rfl
            rw [hw2]
            refine ite2 (fun _ => ?_) (fun h => absurd (by simp) h)
            refine ⟨_, rfl, z.x, CP, z.dx, _, _, rfl, hp5.ob, PC.cl, PC.n6, pf_makers, ?_⟩
            exact ⟨b, by rw [hw2]; rfl, c5, hp5, htu5, haw5, hp5.m _ hM⟩
        · rintro σ H6 ⟨am, rfl, c6, hp6, htu6, haw6, ham6⟩
          refine ⟨_, rfl, z.x, CP, z.dx, _, _, rfl, hp6.ob, PC.cl, PC.n4, pf_names, z.nl, _, rfl, SqL.of hp6.nl, fun an ono hono han => ?_⟩
          have w1 := (Wd.refl H6).new (.frz ono (.tup (s3.names.map V.str))) han
          have hp7 := hp6.call0 w1
          have hawl : s3.aws.length ≤ 20 := by
            have h2 := congrArg List.length haw3
            rw [List.length_map] at h2
            have := sp.aw20
            omega
          refine ⟨_, rfl, _, rfl, _, rfl, z.x, CP, z.dx, _, _, rfl, hp7.ob, PC.cl, PC.n7, pf_aways, z.al, s3.aws.map (fun q => (q.1, l3 q.2)), rfl, ?_, ?_, ?_, fun sa L1 hsa hsub hcov => ?_⟩
          · have e : (s3.aws.map (fun q => (q.1, l3 q.2))).map (fun p => V.ref p.1) = arefs s3.aws := by rw [List.map_map]; rfl
            rw [e]; exact SqL.of hp7.al
          · intro p hp
            obtain ⟨g, hg, rfl⟩ := List.mem_map.mp hp
            exact SqT.of (hp7.aw g hg)
          · rw [List.length_map]; omega
          have w2 := w1.new (SetTO P w sa L1) hsa
          have hp8 := hp6.call0 w2
          have hL1 : ∀ p ∈ L1, ∃ g ∈ s3.aws, p = (g.1, l3 g.2) := fun p hp => by
            obtain ⟨g, hg, e⟩ := List.mem_map.mp (hsub p hp)
            exact ⟨g, hg, e.symm⟩
          have hin : ∀ g ∈ s3.aws, g.2 ∈ r.aways := fun g hg => (sp.aw g.2).mp (by rw [← haw3]; exact List.mem_map.mpr ⟨g, hg, rfl⟩)
          refine ⟨sa, L1, 3, 13, rfl, w2.get 0 rfl, ?_, by decide, ?_, fun L2 lp hperm hnd _ hpw hlp => ?_⟩
          · intro p hp
            obtain ⟨g, hg, rfl⟩ := hL1 p hp
            exact SqT.of (hp8.aw g hg)
          · intro p hp
            obtain ⟨g, hg, rfl⟩ := hL1 p hp
            refine ⟨rfl, fun x hx => ?_⟩
            obtain ⟨g1, g2, g3, g4, g5⟩ := ok.a0 _ (hin g hg)
            have g6 : g.2.2.2 ≤ 12 := by simp at g5; omega
            simp only [l3, List.mem_cons, List.not_mem_nil, or_false] at hx
            rcases hx with rfl | rfl | rfl <;> omega
          have w3 := w2.new (.lst (L2.map fun q => V.ref q.1)) hlp
          have hL2 : ∀ p ∈ L2, ∃ g ∈ s3.aws, p = (g.1, l3 g.2) := fun p hp => hL1 p (hperm.mem_iff.mp hp)
          refine ⟨lp, _, rfl, .inl ⟨SqL.of (w3.get 0 rfl), fun aa haa => ?_⟩⟩
          have w4 := w3.new (.tup (L2.map fun q => V.ref q.1)) haa
          refine ⟨_, rfl, (by show 5 ≤ sizeLine; decide), fun a ha => ?_⟩
          have w5 := w4.new (.tup [V.ref an, V.ref tn, V.ref aw, V.ref aa, V.ref am]) ha
          have c7 : Wd z.mut H _ [] := c6.fgo ((w5.sub (List.nil_sublist _)).mono fun _ h => nomatch h)
          have hp9 := hp6.call0 w5
          have e3 : ∀ t : Int × Int × Int, tr3 (l3 t) = t := fun t => rfl
          have hsrt : L2.map (fun q => tr3 q.2) = r.aways := by
            refine asc_unique lexLt_irr ?_ ok.asc fun t => ?_
            · rw [List.pairwise_map]
              have hnd2 : (L2.map (·.2)).Nodup := hnd
              have hnd3 : L2.Pairwise fun p q => p.2 ≠ q.2 := List.pairwise_map.mp hnd2
              refine (hpw.and hnd3).imp_of_mem fun {p q} hp hq ⟨h, ne⟩ => ?_
              obtain ⟨g, hg, rfl⟩ := hL2 p hp
              obtain ⟨k, hk, rfl⟩ := hL2 q hq
              exact lex_of_code (n := r.names.length) (by omega) (ok.a0 _ (hin g hg)) (ok.a0 _ (hin k hk)) h (fun e => ne (congrArg l3 e))
            · constructor
              · intro ht
                obtain ⟨p, hp, rfl⟩ := List.mem_map.mp ht
                obtain ⟨g, hg, rfl⟩ := hL2 p hp
                exact hin g hg
              · intro ht
                have h1 := (sp.aw t).mpr ht
                rw [← haw3] at h1
                obtain ⟨g, hg, rfl⟩ := List.mem_map.mp h1
                obtain ⟨p, hp, e⟩ := List.mem_map.mp (hcov (g.1, l3 g.2) (List.mem_map.mpr ⟨g, hg, rfl⟩))
                exact List.mem_map.mpr ⟨p, hperm.mem_iff.mpr hp, by rw [e]; rfl⟩
          refine q _ a c7 ⟨an, tn, aw, aa, am, L2.map (·.1), w5.get 0 rfl, ?_, w5.tups _ _ htu6, w5.tups _ _ haw6, ?_, ?_, w5.tups _ _ ham6⟩
          · rw [← hnm]; exact ⟨ono, hono, w5.get 4 rfl⟩
          · rw [List.map_map]; exact w5.get 1 rfl
          · rw [← hsrt]
            have e1 : L2.map (·.1) = (L2.map (fun q => (q.1, tr3 q.2))).map (·.1) := by rw [List.map_map]; rfl
            have e2 : L2.map (fun q => tr3 q.2) = (L2.map (fun q => (q.1, tr3 q.2))).map (·.2) := by rw [List.map_map]; rfl
            rw [e1, e2]
            refine AwAt.of fun p hp => ?_
            obtain ⟨p', hp', rfl⟩ := List.mem_map.mp hp
            obtain ⟨g, hg, rfl⟩ := hL2 p' hp'
            exact hp9.aw g hg
    | cons st S2 =>
      rw [List.flatMap_cons, List.append_assoc] at hts3
      have e1 : (S1 ++ [st]) ++ S2 = S := by rw [List.append_assoc]; exact hS
      cases st with
      | w =>
        have e2 : stmToks r .w ++ (S2.flatMap (stmToks r) ++ [(("end" : Str), ("" : Str))]) = (("keyword" : Str), ("weights" : Str)) :: ((r.weights.map num).map (fun t => (("number" : Str), t)) ++ (("sign" : Str), (";" : Str)) :: (S2.flatMap (stmToks r) ++ [(("end" : Str), ("" : Str))])) := by
          show _ :: ((_ ++ _) ++ _) = _
          rw [List.append_assoc]; rfl
        rw [e2] at hts3
        obtain ⟨⟨a0, h0⟩, htsr⟩ := hts3.cons
        have htsn : TkAt L (s3.n + 1 + r.weights.length + 1) _ := htsr.app.cons.2.cast (by rw [List.length_map, List.length_map])
        obtain ⟨tdx, tl, tc, hta⟩ := hp3.ts _ (List.mem_of_getElem? h0)
        have hlt := (List.getElem?_eq_some_iff.mp h0).1
        have hW0 : s3.W = none ∧ S1.filter Stm.isW = [] := hW3.resolve_right fun ⟨_, h⟩ => by
          have := sp.w1
          rw [← hS, List.filter_append, List.length_append, List.filter_cons_of_pos (by rfl), List.length_cons] at this
          have h3 := List.length_pos_iff.mpr h
          omega
        refine ⟨_, rfl, z.x, z.dx, _, rfl, hp3.ob, pf_none (by decide +kernel), z, L, s3, a0, _, rfl, hp3, h0, a0, CT, tdx, _, _, rfl, hta, TC.cl, TC.nk, tk_kind _ _ _ _, rfl, _, rfl, ?_⟩
        refine ite2 (fun _ => ?_) (fun h => absurd hkey h)
        refine ⟨_, rfl, z.x, z.dx, _, rfl, hp3.ob, pf_none (by decide +kernel), z, L, s3, a0, _, rfl, hp3, h0, a0, CT, tdx, _, _, rfl, hta, TC.cl, TC.nt, tk_text _ _ _ _, _, rfl, ?_⟩
        dsimp only
        rw [if_pos rfl]
        refine ⟨_, rfl, z.x, z.dx, _, rfl, hp3.ob, pf_none (by decide +kernel), z, L, s3, r.weights, _, rfl, hp3, hW0.1, by rw [hnm]; exact ok.wl, by rw [hnm]; exact n6, hwn, ok.w0, hts3, fun H4 b c4 hp4 => ?_⟩
        refine ⟨⟨rfl, _, S1 ++ [.w], S2, c3.fgo c4, hp4, c4.tups _ _ htu3, e1, hnm, htsn, ?_, .inr ⟨⟨b, rfl⟩, ?_⟩, ?_⟩, ?_⟩
        · rw [List.filterMap_append, haw3]; simp [Stm.aw?]
        · simp [Stm.isW]
        · rw [List.filterMap_append]; simpa [Stm.mk?] using hM3
        · have e3 : atOf (H4 z.x) = s3.n + 1 + r.weights.length + 1 := by
            rw [hp4.ob]; unfold atOf; simp only [pf_at]; rfl
          show L.length - atOf (H4 z.x) < L.length - atOf (H3 z.x)
          rw [e3, hat]; omega
      | aw t =>
        obtain ⟨⟨a0, h0⟩, _⟩ := hts3.cons
        have htsn : TkAt L (s3.n + 6) _ := hts3.app
        obtain ⟨tdx, tl, tc, hta⟩ := hp3.ts _ (List.mem_of_getElem? h0)
        have hlt := (List.getElem?_eq_some_iff.mp h0).1
        have hal : s3.aws.length < 20 := by
          have h1 := sp.aw20
          have h2 := congrArg List.length haw3
          rw [← hS, List.filterMap_append, List.length_append, aw_cons, List.length_cons] at h1
          rw [List.length_map] at h2
          omega
        have htr : t ∈ r.aways := (sp.aw t).mp (by rw [← hS, List.filterMap_append]; exact List.mem_append_right _ (by rw [aw_cons]; exact List.mem_cons_self))
        refine ⟨_, rfl, z.x, z.dx, _, rfl, hp3.ob, pf_none (by decide +kernel), z, L, s3, a0, _, rfl, hp3, h0, a0, CT, tdx, _, _, rfl, hta, TC.cl, TC.nk, tk_kind _ _ _ _, rfl, _, rfl, ?_⟩
        refine ite2 (fun _ => ?_) (fun h => absurd hkey h)
        refine ⟨_, rfl, z.x, z.dx, _, rfl, hp3.ob, pf_none (by decide +kernel), z, L, s3, a0, _, rfl, hp3, h0, a0, CT, tdx, _, _, rfl, hta, TC.cl, TC.nt, tk_text _ _ _ _, _, rfl, ?_⟩
        dsimp only
        rw [if_neg hwa, if_pos rfl]
        refine ⟨_, rfl, z.x, z.dx, _, rfl, hp3.ob, pf_none (by decide +kernel), z, L, s3, t, _, rfl, hp3, by rw [hnm]; exact ok.nd, by rw [hnm]; exact n6, by rw [hnm]; exact ok.a0 t htr, hal, by rw [hnm]; exact hts3, fun H4 b c4 hp4 => ?_⟩
        refine ⟨⟨rfl, _, S1 ++ [.aw t], S2, c3.fgo c4, hp4, c4.tups _ _ htu3, e1, hnm, htsn, ?_, ?_, ?_⟩, ?_⟩
        · rw [List.filterMap_append, List.map_append, haw3]; rfl
        · rw [List.filter_append]; simpa [Stm.isW] using hW3
        · rw [List.filterMap_append]; simpa [Stm.mk?] using hM3
        · have e3 : atOf (H4 z.x) = s3.n + 6 := by
            rw [hp4.ob]; unfold atOf; simp only [pf_at]; rfl
          show L.length - atOf (H4 z.x) < L.length - atOf (H3 z.x)
          rw [e3, hat]; omega
      | mk ks =>
        have e2 : stmToks r (.mk ks) ++ (S2.flatMap (stmToks r) ++ [(("end" : Str), ("" : Str))]) = (("keyword" : Str), ("makeup" : Str)) :: ((ks.map (nmL r.names)).map (fun t => (("name" : Str), t)) ++ (("sign" : Str), (";" : Str)) :: (S2.flatMap (stmToks r) ++ [(("end" : Str), ("" : Str))])) := by
          show _ :: ((_ ++ _) ++ _) = _
          rw [List.append_assoc]; rfl
        rw [e2] at hts3
        obtain ⟨⟨a0, h0⟩, htsr⟩ := hts3.cons
        have htsn : TkAt L (s3.n + 1 + ks.length + 1) _ := htsr.app.cons.2.cast (by rw [List.length_map, List.length_map])
        obtain ⟨tdx, tl, tc, hta⟩ := hp3.ts _ (List.mem_of_getElem? h0)
        have hlt := (List.getElem?_eq_some_iff.mp h0).1
        obtain ⟨k1, k2, k3⟩ := sp.mks ks (by rw [← hS, List.filterMap_append]; exact List.mem_append_right _ (by rw [mk_cons]; exact List.mem_cons_self))
        have hM0 : s3.M = none ∧ S1.filterMap Stm.mk? = [] := hM3.resolve_right fun ⟨_, h⟩ => by
          have := sp.m1
          rw [← hS, List.filterMap_append, List.length_append, mk_cons, List.length_cons] at this
          have h3 := List.length_pos_iff.mpr h
          omega
        refine ⟨_, rfl, z.x, z.dx, _, rfl, hp3.ob, pf_none (by decide +kernel), z, L, s3, a0, _, rfl, hp3, h0, a0, CT, tdx, _, _, rfl, hta, TC.cl, TC.nk, tk_kind _ _ _ _, rfl, _, rfl, ?_⟩
        refine ite2 (fun _ => ?_) (fun h => absurd hkey h)
        refine ⟨_, rfl, z.x, z.dx, _, rfl, hp3.ob, pf_none (by decide +kernel), z, L, s3, a0, _, rfl, hp3, h0, a0, CT, tdx, _, _, rfl, hta, TC.cl, TC.nt, tk_text _ _ _ _, _, rfl, ?_⟩
        dsimp only
        rw [if_neg hwm, if_neg ham_, if_pos rfl]
        refine ⟨_, rfl, z.x, z.dx, _, rfl, hp3.ob, pf_none (by decide +kernel), z, L, s3, ks, _, rfl, hp3, hM0.1, by rw [hnm]; exact ok.nd, by rw [hnm]; exact n6, k1, k2, fun k hk => by rw [hnm]; exact ok.m0 k ((k3 k).mp hk), by rw [hnm]; exact hts3, fun H4 b ms c4 hpw hms hp4 => ?_⟩
        have hmm : ms = r.makers := asc_unique (fun a b (h : a < b) (h' : b < a) => by omega) hpw ok.masc fun k => (hms k).trans (k3 k)
        subst hmm
        refine ⟨⟨rfl, _, S1 ++ [.mk ks], S2, c3.fgo c4, hp4, c4.tups _ _ htu3, e1, hnm, htsn, ?_, ?_, .inr ⟨⟨b, rfl⟩, ?_⟩⟩, ?_⟩
        · rw [List.filterMap_append, haw3]; simp [Stm.aw?]
        · rw [List.filter_append]; simpa [Stm.isW] using hW3
        · rw [List.filterMap_append]; simp [Stm.mk?]
        · have e3 : atOf (H4 z.x) = s3.n + 1 + ks.length + 1 := by
            rw [hp4.ob]; unfold atOf; simp only [pf_at]; rfl
          show L.length - atOf (H4 z.x) < L.length - atOf (H3 z.x)
          rw [e3, hat]; omega
  · intro σ H2 Q1 Q2 hm hc
    obtain ⟨v0, e0, a, dx', fs, ea, eo, en, z', L', s', a', t', e1, e2, e3, a'', C'', dx'', fs'', v'', g1, g2, g3, g4, g5, e5, b, hb, hc⟩ := hc
    exact ⟨v0, e0, a, dx', fs, ea, eo, en, z', L', s', a', t', e1, e2, e3, a'', C'', dx'', fs'', v'', g1, g2, g3, g4, g5, e5, b, hb, hm _ _ hc⟩
/-! ### load -/
/-- a text that spells a rota -/
structure Says (z : Str) (r : Rota) (S : List Stm) : Prop where
  ok : ROk r
  sp : Spell r S
  len : z.length + 2 ≤ sizeLine
  lex : ∃ tss : List (List (Str × Str)), (Txt.split z "\n").length = tss.length ∧ (∀ (i : Nat) row ts, (Txt.split z "\n")[i]? = some row → tss[i]? = some ts → row.length ≤ sizeLine ∧ LexR (TL.tl row) ts) ∧ tss.flatten.length < 1000 ∧ (Txt.split z "\n").length ≤ sizeLine ∧
    tss.flatten ++ [(("end" : Str), ("" : Str))] = rotaToks r S
def spLoad : Sp := fun vs H Q _ => ∃ (z : Str) (r : Rota) (S : List Stm), vs = [.str z] ∧ Says z r S ∧ ∀ H' a, Wd [] H H' [] → RotaAt H' a r → Q (.ref a) H'
abbrev sload : Stmt := topS 41
theorem scload : FnScope ["rota"] ["rota"] (defScope sload) := ⟨rfl, rfl, rfl, by decide +kernel, rfl, by decide +kernel, by decide +kernel⟩
theorem cal_load (D : DefAt K mg "load" sload ["rota"]) (PC : ParCls K CP) (cn : CT ≠ CP) (C1 : Cal P w K mg base 4 "tokenize" ["source"] (spTokenize CT)) (CM : MkAt P w K mg base 1 "Parser" CP ["self", "tokens"] (spParI CP CT))
    (C2 : MeAt P w K mg base 5 CP "parse_rota" ["self"] (spParse CP CT)) : Cal P w K mg base 6 "load" ["rota"] spLoad := D.cal fun f fd F => by
  have nd := scload.nd
  have cl_Parser := PC.cl
  obtain ⟨f1, fd1, m_tokenize, kp_tokenize, b_tokenize, G_tokenize⟩ := C1.ex
  obtain ⟨f2, fd2, mC_Parser, Mk_Parser, b_Parser, G_Parser⟩ := CM.ex
  obtain ⟨f3, fd3, me_parse_rota, b_parse_rota, G_parse_rota⟩ := C2.ex
  refine F.ok scload (fun vs H Q E h => ?_) (fun cdv A outer s H vs Q E hr h => ?_)
  · obtain ⟨z, r, S, rfl, _⟩ := h; rfl
  obtain ⟨z, r, S, rfl, ⟨ok, sp, hlen, tss, e1, e2, e3, e4, e5⟩, q⟩ := h
  refine ⟨_, (pss_one (ps_ret (pe_meth0 (pe_make Mk_Parser G_Parser (hr.mono (by first | decide | omega)) (by rfl) mC_Parser b_Parser .nil pass0 (pa_cons (pe_call G_tokenize (hr.mono (by first | decide | omega)) (by rfl) m_tokenize kp_tokenize b_tokenize .nil pass0 (pa_cons (pv 0) pa_nil)) pa_nil)) cl_Parser me_parse_rota G_parse_rota (hr.mono (by first | decide | omega)) b_parse_rota .nil pass0))), ?_⟩
  refine ⟨_, rfl, z, tss, rfl, hlen, e1, e2, e3, e4, fun p L H1 w1 hT hL => ?_⟩
  intro x dx hx hd ne
  have w2 := w1.make CP hx hd ne
  have hT2 : Tks CT (upd (upd H1 dx (.own x)) x (.ins CP dx [])) L := (hT.new hd).new (by rw [upd_ne ne.symm]; exact hx)
  refine ⟨x, dx, p, L, rfl, upd_same, w2.get 2 rfl, hT2, cn, fun z H2 hz c2 hp hnl hal => ⟨rfl, ?_⟩⟩
  have hzx : z.x = x := hz
  have hob := hp.ob
  rw [hz] at hob
  have hnl0 : z.nl ≠ x := fun e => by rw [e, upd_same] at hnl; cases hnl
  refine ⟨x, _, _, rfl, hob, pf_none (by decide +kernel), z, L, r, S, by rw [hz]; rfl, hp, ok, sp, (show TkAt L 0 _ from (by unfold TkAt; rw [List.drop_zero]; exact hL.trans e5)), fun H3 a c3 hR => q H3 a ?_ hR⟩
  refine ⟨fun b o _ e => ?_, fun b xs e => c3.tups _ _ (c2.tups _ _ (w2.tups _ _ e)), fun _ h => (nomatch h), fun _ h => (nomatch h), List.nodup_nil, fun p e => w2.free p (c2.free p (c3.free p e))⟩
  have e1 := w1.base b o (by simp) e
  have e2' := w2.base b o (by simp) e
  have bx : b ≠ x := ne_of_none e1 hx
  have bn : b ≠ z.nl := ne_of_none e2' hnl
  have ba : b ≠ z.al := ne_of_none e2' hal
  refine c3.base b o ?_ (c2.base b o (by simpa using bx) e2')
  simp only [Pz.mut, List.mem_cons, List.not_mem_nil, or_false, not_or, hz]
  exact ⟨bx, bn, ba⟩
end
end Br

namespace Br
open PySem PySem.Spec PyProof.Rows L2
theorem lt_line {n : Nat} (h : n ≤ 100000) : n < sizeLine := Nat.lt_of_le_of_lt h (by decide)
theorem le_line {n : Nat} (h : n ≤ 100000) : n ≤ sizeLine := Nat.le_trans h (by decide)
theorem Wd.wle {H H' : Hp} {l : List (Addr × HO)} (w : Wd [] H H' l) : Le H H' := w.le
/-- what a frame changes are no tuples -/
def Mu (H : Hp) (M : List Addr) : Prop := ∀ a ∈ M, (∀ xs, H a ≠ some (.tup xs)) ∧ ∀ o xs, H a ≠ some (.frz o (.tup xs))
theorem Mu.nil {H : Hp} : Mu H [] := fun _ h => nomatch h
theorem RotaAt.keepM {M : List Addr} {H H' : Hp} {l : List (Addr × HO)} (w : Wd M H H' l) (mu : Mu H M) {a : Addr} {r : Rota} (h : RotaAt H a r) : RotaAt H' a r := by
  obtain ⟨an, at_, aw, aa, am, as, h1, ⟨o, d, h2⟩, h3, h4, h5, h6, h7⟩ := h
  exact ⟨an, at_, aw, aa, am, as, w.tups _ _ h1, ⟨o, d, w.base _ _ (fun hm => (mu _ hm).2 _ _ h2) h2⟩, w.tups _ _ h3, w.tups _ _ h4, w.tups _ _ h5, h6.keep w.tups, w.tups _ _ h7⟩
/-! ### a book on the heap -/
theorem Wd.startL {H : Hp} : ∀ (l : List (Addr × HO)), (∀ q ∈ l, H q.1 = some q.2) → (l.map Prod.fst).Nodup → Wd (l.map Prod.fst) H H l := fun l h n =>
  ⟨fun _ _ _ e => e, fun _ _ e => e, fun q hq => .inr (List.mem_map.mpr ⟨q, hq, rfl⟩), h, n, fun _ e => e⟩
def NowT (H : Hp) (a : Addr) (n : Now) : Prop := ∃ st d : Addr, H a = some (.tup [.ref st, .int (n.t : Int), .ref d]) ∧ StT H st n.s n.o ∧ H d = some (.tup (n.d.map dV))
def EntT (H : Hp) (a : Addr) (e : Str × Now × Now) : Prop := ∃ b c : Addr, H a = some (.tup [.str e.1, .ref b, .ref c]) ∧ NowT H b e.2.1 ∧ NowT H c e.2.2
theorem NowT.keep {H H' : Hp} (k : ∀ b xs, H b = some (.tup xs) → H' b = some (.tup xs)) {a : Addr} {n : Now} (h : NowT H a n) : NowT H' a n := by
  obtain ⟨st, d, h1, h2, h3⟩ := h; exact ⟨st, d, k _ _ h1, h2.keep k, k _ _ h3⟩
theorem EntT.keep {H H' : Hp} (k : ∀ b xs, H b = some (.tup xs) → H' b = some (.tup xs)) {a : Addr} {e : Str × Now × Now} (h : EntT H a e) : EntT H' a e := by
  obtain ⟨b, c, h1, h2, h3⟩ := h; exact ⟨b, c, k _ _ h1, h2.keep k, h3.keep k⟩
theorem paired_imp {α β : Type} {F G : α → β → Prop} (h : ∀ a b, F a b → G a b) : ∀ {xs : List α} {ys : List β}, Paired F xs ys → Paired G xs ys
  | _, _, .nil => .nil
  | _, _, .cons x t => .cons (h _ _ x) (paired_imp h t)
theorem paired_at {α β : Type} {F : α → β → Prop} : ∀ {xs : List α} {ys : List β} {i : Nat} {x : α}, Paired F xs ys → xs[i]? = some x → ∃ y, ys[i]? = some y ∧ F x y
  | _, _, 0, _, .cons r _, h => ⟨_, rfl, by cases h; exact r⟩
  | _, _, i + 1, _, .cons _ t, h => paired_at (i := i) t h
theorem Paired.app {α β : Type} {F : α → β → Prop} : ∀ {xs xs' : List α} {ys ys' : List β}, Paired F xs ys → Paired F xs' ys' → Paired F (xs ++ xs') (ys ++ ys')
  | _, _, _, _, .nil, h => h
  | _, _, _, _, .cons x t, h => .cons x (Paired.app t h)
theorem Paired.init {α β : Type} {F : α → β → Prop} : ∀ {xs : List α} {ys : List β} {y : β}, Paired F xs (ys ++ [y]) → ∃ (xs' : List α) (x : α), xs = xs' ++ [x] ∧ Paired F xs' ys ∧ F x y
  | _, [], _, .cons x .nil => ⟨[], _, rfl, .nil, x⟩
  | _, _ :: _, _, .cons x t => by
    obtain ⟨xs', z, e, h1, h2⟩ := Paired.init t
    exact ⟨_ :: xs', z, by rw [e]; rfl, .cons x h1, h2⟩
abbrev unds (b : Bst) : List (Str × Now × Now) := b.und.map fun e => (e.1.1, e.1.2, e.2)
structure Bz where
  x : Addr
  dx : Addr
  p : Addr
  sv : Addr
  pl : Addr
  ul : Addr
  sn : List Addr
def Bz.own (z : Bz) : List Addr := z.x :: z.pl :: z.ul :: z.sv :: z.sn
def bkF (z : Bz) (na : Addr) : List (Str × V) := [("parsed", .ref z.p), ("now", .ref na), ("past", .ref z.pl), ("undone", .ref z.ul), ("saved", .ref z.sv)]
/-- the lists of a book's state -/
structure LsT (H : Hp) (na pl ul : Addr) (b : Bst) : Prop where
  now : NowT H na b.now
  pl : ∃ as : List Addr, H pl = some (.lst (as.map V.ref)) ∧ Paired (EntT H) as (ents b.past b.now)
  ul : ∃ as : List Addr, H ul = some (.lst (as.map V.ref)) ∧ Paired (EntT H) as (unds b)
/-- a snapshot -/
def SnapT (H : Hp) (z : Bz) (kv : Key × V) (e : Str × Bst) : Prop := kv.1 = .inr e.1 ∧ ∃ a na p u : Addr, kv.2 = .ref a ∧ H a = some (.tup [.ref na, .ref p, .ref u]) ∧ LsT H na p u e.2 ∧ p ∈ z.sn ∧ u ∈ z.sn
structure BkAt (CB : Addr) (z : Bz) (r : Rota) (b : Bst) (S : List (Str × Bst)) (H : Hp) : Prop where
  na : ∃ na, H z.x = some (.ins CB z.dx (bkF z na)) ∧ LsT H na z.pl z.ul b
  ro : RotaAt H z.p r
  sv : ∃ kvs : List (Key × V), H z.sv = some (.dK kvs) ∧ Paired (SnapT H z) kvs S
  ne : z.pl ≠ z.ul
  nn : z.pl ∉ z.sn ∧ z.ul ∉ z.sn
  al : ∀ a ∈ z.own, H a ≠ none
  xn : z.x ∉ z.sn
  sl : ∀ a ∈ z.sn, ∃ xs, H a = some (.lst xs)
theorem LsT.keep {H H' : Hp} {na pl ul : Addr} {b : Bst} (h : LsT H na pl ul b) (k : ∀ b xs, H b = some (.tup xs) → H' b = some (.tup xs)) (h1 : H' pl = H pl) (h2 : H' ul = H ul) : LsT H' na pl ul b := by
  obtain ⟨n, ⟨as, p1, p2⟩, us, u1, u2⟩ := h
  exact ⟨n.keep k, ⟨as, h1.trans p1, paired_imp (fun _ _ e => e.keep k) p2⟩, us, h2.trans u1, paired_imp (fun _ _ e => e.keep k) u2⟩
theorem SnapT.keep {H H' : Hp} {z z' : Bz} {kv : Key × V} {e : Str × Bst} (h : SnapT H z kv e) (k : ∀ b xs, H b = some (.tup xs) → H' b = some (.tup xs)) (hs : ∀ a ∈ z.sn, a ∈ z'.sn) (he : ∀ a ∈ z.sn, H' a = H a) : SnapT H' z' kv e := by
  obtain ⟨h1, a, na, p, u, h2, h3, h4, h5, h6⟩ := h
  exact ⟨h1, a, na, p, u, h2, k _ _ h3, h4.keep k (he _ h5) (he _ h6), hs _ h5, hs _ h6⟩
/-- what does not touch the book -/
theorem Wd.same {M : List Addr} {H H' : Hp} {l : List (Addr × HO)} (w : Wd M H H' l) {a : Addr} (ha : H a ≠ none) (hm : a ∉ M) : H' a = H a := by
  cases e : H a with
  | none => exact absurd e ha
  | some o => exact w.base a o hm e
theorem BkAt.keep {CB : Addr} {z : Bz} {r : Rota} {b : Bst} {S : List (Str × Bst)} {H H' : Hp} {M : List Addr} {l : List (Addr × HO)} (h : BkAt CB z r b S H) (w : Wd M H H' l) (d : ∀ a ∈ M, a ∉ z.own) (mu : Mu H M) : BkAt CB z r b S H' := by
  have sm : ∀ a ∈ z.own, H' a = H a := fun a ha => w.same (h.al a ha) (fun hm => d a hm ha)
  obtain ⟨na, h1, h2⟩ := h.na
  obtain ⟨kvs, s1, s2⟩ := h.sv
  exact ⟨⟨na, (sm _ (by simp [Bz.own])).trans h1, h2.keep w.tups (sm _ (by simp [Bz.own])) (sm _ (by simp [Bz.own]))⟩, h.ro.keepM w mu,
    ⟨kvs, (sm _ (by simp [Bz.own])).trans s1, paired_imp (fun _ _ e => e.keep w.tups (fun _ h => h) fun a ha => sm a (by simp [Bz.own, ha])) s2⟩, h.ne, h.nn, fun a ha => by rw [sm a ha]; exact h.al a ha, h.xn, fun a ha => by rw [sm a (by simp [Bz.own, ha])]; exact h.sl a ha⟩
/-- the book's next state -/
def BStep (CB : Addr) (z : Bz) (r : Rota) (b' : Bst) (S' : List (Str × Bst)) (H H' : Hp) : Prop := ∃ z' : Bz, z'.x = z.x ∧ Wd z.own H H' [] ∧ (∀ a ∈ z'.own, a ∈ z.own ∨ H a = none) ∧ BkAt CB z' r b' S' H'
theorem Wd.fgoX {M M' : List Addr} {H0 H H' : Hp} (c : Wd M H0 H []) (d : Wd M' H H' []) (hm : ∀ a ∈ M', a ∈ M ∨ H0 a = none) : Wd M H0 H' [] :=
  ⟨fun b o hb e => d.base b o (fun z => (hm b z).elim hb fun n => by rw [n] at e; cases e) (c.base b o hb e), fun b xs e => d.tups b xs (c.tups b xs e), fun _ h => (nomatch h), fun _ h => (nomatch h), List.nodup_nil, fun p e => c.free p (d.free p e)⟩
theorem BStep.trans {CB : Addr} {z : Bz} {r : Rota} {b1 b2 : Bst} {S1 S2 : List (Str × Bst)} {H H1 H2 : Hp} (h : ∃ z' : Bz, z'.x = z.x ∧ Wd z.own H H1 [] ∧ (∀ a ∈ z'.own, a ∈ z.own ∨ H a = none) ∧ BStep CB z' r b2 S2 H1 H2) : BStep CB z r b2 S2 H H2 := by
  obtain ⟨z1, e1, w1, o1, z2, e2, w2, o2, k2⟩ := h
  exact ⟨z2, e2.trans e1, w1.fgoX w2 o1, fun a ha => (o2 a ha).elim (o1 a) fun n => .inr (w1.free a n), k2⟩
structure BkCls (K : PySem.W.Frag) (CB : Addr) : Prop where
  cl : Cls K CB
  n1 : NoAttr K CB "parsed"
  n2 : NoAttr K CB "now"
  n3 : NoAttr K CB "past"
  n4 : NoAttr K CB "undone"
  n5 : NoAttr K CB "saved"
section
variable {z : Bz} {na : Addr}
theorem bk_parsed : (bkF z na).lookup ("parsed" : Str) = some (.ref z.p) := look_eq
theorem bk_now : (bkF z na).lookup ("now" : Str) = some (.ref na) := (look_ne (by decide +kernel)).trans look_eq
theorem bk_past : (bkF z na).lookup ("past" : Str) = some (.ref z.pl) := (look_ne (by decide +kernel)).trans ((look_ne (by decide +kernel)).trans look_eq)
theorem bk_undone : (bkF z na).lookup ("undone" : Str) = some (.ref z.ul) := (look_ne (by decide +kernel)).trans ((look_ne (by decide +kernel)).trans ((look_ne (by decide +kernel)).trans look_eq))
theorem bk_saved : (bkF z na).lookup ("saved" : Str) = some (.ref z.sv) := (look_ne (by decide +kernel)).trans ((look_ne (by decide +kernel)).trans ((look_ne (by decide +kernel)).trans ((look_ne (by decide +kernel)).trans look_eq)))
theorem bk_putNow (nb : Addr) : putF "now" (.ref nb) (bkF z na) = bkF z nb := by
  unfold bkF; rw [putF_ne (by decide +kernel)]; rfl
theorem bk_putPast (nb : Addr) : putF "past" (.ref nb) (bkF z na) = bkF { z with pl := nb } na := by
  unfold bkF; rw [putF_ne (by decide +kernel), putF_ne (by decide +kernel)]; rfl
theorem bk_putUnd (nb : Addr) : putF "undone" (.ref nb) (bkF z na) = bkF { z with ul := nb } na := by
  unfold bkF; rw [putF_ne (by decide +kernel), putF_ne (by decide +kernel), putF_ne (by decide +kernel)]; rfl
theorem bk_none {m : Str} (h : ∀ f ∈ (["parsed", "now", "past", "undone", "saved"] : List Str), (m == f) = false) : (bkF z na).lookup m = none := by
  unfold bkF
  rw [look_ne (h _ (by simp)), look_ne (h _ (by simp)), look_ne (h _ (by simp)), look_ne (h _ (by simp)), look_ne (h _ (by simp))]
  rfl
end
end Br

namespace Br
open PySem PySem.Spec PyProof.Rows L2
section
variable {CB : Addr} {z : Bz} {r : Rota} {b b' : Bst} {S : List (Str × Bst)} {H H' : Hp}
theorem Wd.sure {M : List Addr} {H H' : Hp} {l : List (Addr × HO)} (w : Wd M H H' l) {a : Addr} (h : H a ≠ none) : H' a ≠ none := fun e => h (w.free a e)
theorem BkAt.step (hb : BkAt CB z r b S H) (pl ul nb : Addr) (w : Wd [z.x, z.pl, z.ul] H H' []) (hx : H' z.x = some (.ins CB z.dx (bkF { z with pl := pl, ul := ul } nb))) (lt : LsT H' nb pl ul b') (hp : pl = z.pl ∨ H pl = none) (hu : ul = z.ul ∨ H ul = none) (ne : pl ≠ ul) : BStep CB z r b' S H H' := by
  have al : ∀ a ∈ ([z.x, z.pl, z.ul] : List Addr), a ∈ z.own := fun a ha => by simp [Bz.own] at ha ⊢; rcases ha with h | h | h <;> simp [h]
  have fr : ∀ a, H a = none → a ∉ z.own := fun a h hm => hb.al a hm h
  have svx : H' z.sv = H z.sv ∧ ∀ a ∈ z.sn, H' a = H a := by
    obtain ⟨na, h1, h2⟩ := hb.na
    obtain ⟨kvs, s1, s2⟩ := hb.sv
    obtain ⟨nw, ⟨as, p1, p2⟩, us, u1, u2⟩ := h2
    refine ⟨w.same (hb.al _ (by simp [Bz.own])) ?_, fun a ha => ?_⟩
    · simp only [List.mem_cons, List.not_mem_nil, or_false, not_or]
      exact ⟨ne_of s1 h1 (by intro z; cases z), ne_of s1 p1 (by intro z; cases z), ne_of s1 u1 (by intro z; cases z)⟩
    · refine w.same (hb.al _ (by simp [Bz.own, ha])) ?_
      simp only [List.mem_cons, List.not_mem_nil, or_false, not_or]
      refine ⟨fun e => ?_, fun e => hb.nn.1 (e ▸ ha), fun e => hb.nn.2 (e ▸ ha)⟩
      have hm : z.x ∈ z.sn := e ▸ ha
      exact hb.xn hm
  refine ⟨{ z with pl := pl, ul := ul }, rfl, w.mono al, fun a ha => ?_, ?_⟩
  · simp only [Bz.own, List.mem_cons] at ha ⊢
    rcases ha with h | h | h | h | h
    · simp [h]
    · rcases hp with e | e
      · simp [h, e]
      · rw [h]; exact .inr e
    · rcases hu with e | e
      · simp [h, e]
      · rw [h]; exact .inr e
    · simp [h]
    · simp [h]
  · obtain ⟨kvs, s1, s2⟩ := hb.sv
    have mu : Mu H [z.x, z.pl, z.ul] := by
      obtain ⟨na, h1, _, ⟨as, p1, _⟩, us, u1, _⟩ := hb.na
      intro a ha
      simp only [List.mem_cons, List.not_mem_nil, or_false] at ha
      rcases ha with rfl | rfl | rfl
      · rw [h1]; exact ⟨fun _ => by simp, fun _ _ => by simp⟩
      · rw [p1]; exact ⟨fun _ => by simp, fun _ _ => by simp⟩
      · rw [u1]; exact ⟨fun _ => by simp, fun _ _ => by simp⟩
    refine ⟨⟨nb, hx, lt⟩, hb.ro.keepM w mu, ⟨kvs, svx.1.trans s1, paired_imp (fun _ _ e => e.keep w.tups (fun _ h => h) svx.2) s2⟩, ne, ⟨?_, ?_⟩, fun a ha => ?_, hb.xn, fun a ha => by rw [svx.2 a ha]; exact hb.sl a ha⟩
    · rcases hp with e | e
      · rw [e]; exact hb.nn.1
      · exact fun hm => fr pl e (by simp [Bz.own, hm])
    · rcases hu with e | e
      · rw [e]; exact hb.nn.2
      · exact fun hm => fr ul e (by simp [Bz.own, hm])
    · simp only [Bz.own, List.mem_cons] at ha
      obtain ⟨_, ⟨as, p1, _⟩, us, u1, _⟩ := lt
      rcases ha with h | h | h | h | h
      · rw [h, hx]; simp
      · rw [h, p1]; simp
      · rw [h, u1]; simp
      · rw [h]; exact w.sure (hb.al _ (by simp [Bz.own]))
      · exact w.sure (hb.al _ (by simp [Bz.own, h]))
/-- the ledger of a book's own three -/
theorem BkAt.start {na : Addr} {as us : List Addr} (hb : BkAt CB z r b S H) (h1 : H z.x = some (.ins CB z.dx (bkF z na))) (p1 : H z.pl = some (.lst (as.map V.ref))) (u1 : H z.ul = some (.lst (us.map V.ref))) :
    Wd [z.x, z.pl, z.ul] H H [(z.x, .ins CB z.dx (bkF z na)), (z.pl, .lst (as.map V.ref)), (z.ul, .lst (us.map V.ref))] := by
  refine Wd.startL [(z.x, .ins CB z.dx (bkF z na)), (z.pl, .lst (as.map V.ref)), (z.ul, .lst (us.map V.ref))] (fun q hq => ?_) ?_
  · simp only [List.mem_cons, List.not_mem_nil, or_false] at hq
    rcases hq with rfl | rfl | rfl
    · exact h1
    · exact p1
    · exact u1
  · have e1 : z.x ≠ z.pl := ne_of h1 p1 (by intro z; cases z)
    have e2 : z.x ≠ z.ul := ne_of h1 u1 (by intro z; cases z)
    simp [e1, e2, hb.ne]
end
section
variable {P : Program} {w : World} {K : PySem.W.Frag} {mg : Str → Option Value} {base : Heap} {CB : Addr}
abbrev sBook_record : Stmt := inClass (topS 61) 2
theorem scBook_record : FnScope ["self", "word", "now"] ["self", "word", "now"] (defScope sBook_record) := ⟨rfl, rfl, rfl, by decide +kernel, rfl, by decide +kernel, by decide +kernel⟩
def spRecord (CB : Addr) : Sp := fun vs H Q _ => ∃ (z : Bz) (r : Rota) (b : Bst) (S : List (Str × Bst)) (x : Str) (nb : Addr) (n : Now), vs = [.ref z.x, .str x, .ref nb] ∧ BkAt CB z r b S H ∧ NowT H nb n ∧ b.past.length ≤ 1000 ∧ ∀ H', BStep CB z r (recB x b n) S H H' → Q .non H'
theorem me_record (D : MethAt K CB "record" "Book.record" sBook_record ["self", "word", "now"]) (BC : BkCls K CB) : MeAt P w K mg base 1 CB "record" ["self", "word", "now"] (spRecord CB) := D.me fun f fd F => by
  have nd := scBook_record.nd
  refine F.ok scBook_record (fun vs H Q E h => ?_) (fun cdv A outer s H vs Q E hr h => ?_)
  · obtain ⟨z, r, b, S, x, nb, n, rfl, _⟩ := h; rfl
  obtain ⟨z, r, b, S, x, nb, n, rfl, hb, hn, hl, q⟩ := h
  refine ⟨_, (pss_cons (ps_expr (pe_bmK (K := K) rfl PySem.F.plainAttrs_list PySem.F.slot_list_append PySem.F.type_list_append mt_append (pe_fldK (K := K) rfl (pv 0) rfl) (pa_cons (pe_tup (pa_cons (pv 1) (pa_cons (pe_fldK (K := K) rfl (pv 0) rfl) (pa_cons (pv 2) pa_nil)))) pa_nil)))
 (pss_cons (ps_fld (pv 0) (pe_lst pa_nil) rfl)
 (pss_one (ps_fld (pv 0) (pv 2) rfl)))), ?_⟩
  obtain ⟨na, hx, lt⟩ := id hb.na
  obtain ⟨nw, ⟨as, p1, p2⟩, us, u1, u2⟩ := lt
  have w0 := hb.start hx p1 u1
  have lp : as.length = b.past.length := by have := p2.length; rw [ents_len] at this; exact this
  refine ⟨_, rfl, z.x, CB, z.dx, _, _, rfl, hx, BC.cl, BC.n3, bk_past, .inl ⟨rfl, _, SqL.of p1⟩, _, rfl, _, rfl, z.x, CB, z.dx, _, _, rfl, hx, BC.cl, BC.n2, bk_now, _, rfl, (by show 3 ≤ sizeLine; decide), fun t ht => ?_⟩
  have w1 := w0.new (.tup [V.str x, V.ref na, V.ref nb]) ht
  refine ⟨z.pl, _, _, rfl, rfl, w1.get 2 rfl, by rw [List.length_map]; exact lt_line (by omega), ?_⟩
  have w2 := w1.put 2 (.lst (as.map V.ref ++ [V.ref t])) rfl (fun _ q => by cases q)
  refine ⟨Nat.zero_le _, fun u hu => ?_⟩
  have w3 := w2.new (.lst []) hu
  refine ⟨_, rfl, z.x, CB, z.dx, _, rfl, w3.get 2 rfl, BC.cl, BC.n4, (by show 5 < 1000; decide), ?_⟩
  rw [bk_putUnd]
  have w4 := w3.put 2 (.ins CB z.dx (bkF { z with ul := u } na)) rfl (fun _ q => by cases q)
  refine ⟨_, rfl, _, rfl, z.x, CB, z.dx, _, rfl, w4.get 2 rfl, BC.cl, BC.n2, (by show 5 < 1000; decide), ?_⟩
  rw [bk_putNow]
  have w5 := w4.put 2 (.ins CB z.dx (bkF { z with ul := u } nb)) rfl (fun _ q => by cases q)
  refine q _ (hb.step z.pl u nb (w5.sub (List.nil_sublist _)) (w5.get 2 rfl) ⟨hn.keep w5.tups, ⟨as ++ [t], by rw [List.map_append]; exact w5.get 3 rfl, ?_⟩, [], w5.get 0 rfl, .nil⟩ (.inl rfl) (.inr (w2.free _ hu)) ?_)
  · show Paired (EntT _) (as ++ [t]) (ents (b.past ++ [(x, b.now)]) n)
    rw [ents_more]
    exact Paired.app (paired_imp (fun _ _ e => e.keep w5.tups) p2) (.cons ⟨na, nb, w5.get 1 rfl, nw.keep w5.tups, hn.keep w5.tups⟩ .nil)
  · exact ne_of_none (w2.get 2 rfl) hu
abbrev sBook_named : Stmt := inClass (topS 61) 3
theorem scBook_named : FnScope ["self", "person"] ["self", "person"] (defScope sBook_named) := ⟨rfl, rfl, rfl, by decide +kernel, rfl, by decide +kernel, by decide +kernel⟩
def nameV (r : Rota) : Option Int → V
  | none => .non
  | some p => .str (nm r p)
def spNamed (CB : Addr) : Sp := fun vs H Q _ => ∃ (z : Bz) (r : Rota) (b : Bst) (S : List (Str × Bst)) (d : Option Int), vs = [.ref z.x, dV d] ∧ BkAt CB z r b S H ∧ (∀ p, d = some p → 0 ≤ p ∧ p < r.names.length) ∧ Q (nameV r d) H
theorem me_named (D : MethAt K CB "named" "Book.named" sBook_named ["self", "person"]) (BC : BkCls K CB) : MeAt P w K mg base 1 CB "named" ["self", "person"] (spNamed CB) := D.me fun f fd F => by
  have nd := scBook_named.nd
  refine F.ok scBook_named (fun vs H Q E h => ?_) (fun cdv A outer s H vs Q E hr h => ?_)
  · obtain ⟨z, r, b, S, d, rfl, _⟩ := h; rfl
  obtain ⟨z, r, b, S, d, rfl, hb, hd, q⟩ := h
  refine ⟨_, (pss_one (ps_ret (pe_ifExp (pt_cmpR op_isN (pv 1) pe_non (nomark _)) pe_non (pe_ix (r := rIxT K) ix_tup (pe_ix (r := rIxT K) ix_tup (pe_fldK (K := K) rfl (pv 0) rfl) pe_int (fun _ _ => rfl)) (pv 1) (fun _ _ => rfl))))), ?_⟩
  obtain ⟨na, hx, lt⟩ := id hb.na
  obtain ⟨an, at_, aw, aa, am, as, h1, h2, h3, h4, h5, h6, h7⟩ := id hb.ro
  refine ⟨_, rfl, rfl, _, rfl, ?_⟩
  cases d with
  | none => exact iteT q
  | some p =>
    have hp := hd p rfl
    refine ite2 (fun h => absurd (of_decide_eq_true h) (by intro z; cases z)) (fun _ => ?_)
    refine ⟨_, rfl, z.x, CB, z.dx, _, _, rfl, hx, BC.cl, BC.n1, bk_parsed, z.p, _, 0, _, rfl, rfl, SqT.of h1, rfl, _, rfl, an, _, p, _, rfl, rfl, h2.sq, ?_, q⟩
    have e : p = ((p.toNat : Nat) : Int) := by omega
    rw [e]
    refine atI_nat ?_
    rw [List.getElem?_map, nm_mem hp.1 hp.2, ← e]; rfl
end
end Br

namespace Br
open PySem PySem.Spec PyProof.Rows L2
section
variable {P : Program} {w : World} {K : PySem.W.Frag} {mg : Str → Option Value} {base : Heap} {CB : Addr}
abbrev sBook_reset : Stmt := inClass (topS 61) 7
theorem scBook_reset : FnScope ["self"] ["self"] (defScope sBook_reset) := ⟨rfl, rfl, rfl, by decide +kernel, rfl, by decide +kernel, by decide +kernel⟩
def spReset (CB : Addr) : Sp := fun vs H Q _ => ∃ (z : Bz) (r : Rota) (b : Bst) (S : List (Str × Bst)), vs = [.ref z.x] ∧ ROk r ∧ BkAt CB z r b S H ∧ b.past.length ≤ 1000 ∧ ∀ H', BStep CB z r (recB "reset" b (now0 r)) S H H' → Q .non H'
theorem BStep.after {CB : Addr} {z : Bz} {r : Rota} {b' : Bst} {S : List (Str × Bst)} {H H1 H2 : Hp} (w : Wd [] H H1 []) (h : BStep CB z r b' S H1 H2) : BStep CB z r b' S H H2 := by
  obtain ⟨z', e, w2, o, k⟩ := h
  exact ⟨z', e, (w.mono fun _ h => nomatch h).fgo w2, fun a ha => (o a ha).imp id (w.free a), k⟩
theorem BkAt.keep0 {CB : Addr} {z : Bz} {r : Rota} {b : Bst} {S : List (Str × Bst)} {H H' : Hp} {l : List (Addr × HO)} (h : BkAt CB z r b S H) (w : Wd [] H H' l) : BkAt CB z r b S H' := h.keep w (fun _ h => nomatch h) Mu.nil
theorem me_reset (D : MethAt K CB "reset" "Book.reset" sBook_reset ["self"]) (BC : BkCls K CB) (cR : ∃ t, mg "RESET" = some (.str "reset" t)) (C1 : Cal P w K mg base 1 "first_state" ["parsed"] spFirst)
    (C2 : MeAt P w K mg base 1 CB "record" ["self", "word", "now"] (spRecord CB)) : MeAt P w K mg base 2 CB "reset" ["self"] (spReset CB) := D.me fun f fd F => by
  have nd := scBook_reset.nd
  have cl_Book := BC.cl
  obtain ⟨tR, c_RESET⟩ := cR
  obtain ⟨f1, fd1, m_first_state, kp_first_state, b_first_state, G_first_state⟩ := C1.ex
  obtain ⟨f2, fd2, me_record, b_record, G_record⟩ := C2.ex
  refine F.ok scBook_reset (fun vs H Q E h => ?_) (fun cdv A outer s H vs Q E hr h => ?_)
  · obtain ⟨z, r, b, S, rfl, _⟩ := h; rfl
  obtain ⟨z, r, b, S, rfl, ok, hb, hl, q⟩ := h
  refine ⟨_, (pss_one (ps_expr (pe_meth (pv 0) cl_Book me_record G_record (hr.mono (by first | decide | omega)) b_record .nil pass0 (pa_cons (pe_glob (v := .str "reset") (by rfl) c_RESET ⟨_, rfl⟩) (pa_cons (pe_tup (pa_cons (pe_call G_first_state (hr.mono (by first | decide | omega)) (by rfl) m_first_state kp_first_state b_first_state .nil pass0 (pa_cons (pe_fldK (K := K) rfl (pv 0) rfl) pa_nil)) (pa_cons pe_int (pa_cons (pe_tup pa_nil) pa_nil)))) pa_nil))))), ?_⟩
  obtain ⟨na, hx, lt⟩ := id hb.na
  refine ⟨_, rfl, z.x, z.dx, _, rfl, hx, bk_none (by decide +kernel), _, rfl, z.x, CB, z.dx, _, _, rfl, hx, BC.cl, BC.n1, bk_parsed, z.p, r, rfl, hb.ro, ok, fun H1 st o w1 h1 h2 => ?_⟩
  refine ⟨Nat.zero_le _, fun e he => ⟨(by show 3 ≤ sizeLine; decide), fun nb hnb => ?_⟩⟩
  have w2 := (w1.new (.tup []) he).new (.tup [V.ref st, V.int 0, V.ref e]) hnb
  have v2 := ((Wd.refl H1).new (.tup []) he).new (.tup [V.ref st, V.int 0, V.ref e]) hnb
  refine ⟨z, r, b, S, "reset", nb, now0 r, rfl, hb.keep0 w2, ⟨st, e, w2.get 0 rfl, ⟨o, v2.tups _ _ h1, v2.tups _ _ h2⟩, w2.get 1 rfl⟩, hl, fun H3 k => ?_⟩
  exact q _ (k.after (w2.sub (List.nil_sublist _)))
abbrev sBook_undo : Stmt := inClass (topS 61) 8
theorem scBook_undo : FnScope ["self", "entry"] ["self"] (defScope sBook_undo) := ⟨rfl, rfl, rfl, by decide +kernel, rfl, by decide +kernel, by decide +kernel⟩
def spUndo (CB : Addr) : Sp := fun vs H Q _ => ∃ (z : Bz) (r : Rota) (b : Bst) (S : List (Str × Bst)), vs = [.ref z.x] ∧ BOk r b ∧ BkAt CB z r b S H ∧ b.past.length ≤ 1000 ∧ b.und.length ≤ 1000 ∧
  match undoB b with
  | none => ∀ H', BStep CB z r b S H H' → Q (.bl false) H'
  | some b' => ∀ H', BStep CB z r b' S H H' → Q (.bl true) H'
theorem BStep.refl {CB : Addr} {z : Bz} {r : Rota} {b : Bst} {S : List (Str × Bst)} {H H' : Hp} (hb : BkAt CB z r b S H) (w : Wd [] H H' []) : BStep CB z r b S H H' :=
  ⟨z, rfl, w.mono (fun _ h => nomatch h), fun _ h => Or.inl h, hb.keep0 w⟩
theorem me_undo (D : MethAt K CB "undo" "Book.undo" sBook_undo ["self"]) (BC : BkCls K CB) : MeAt P w K mg base 1 CB "undo" ["self"] (spUndo CB) := D.me fun f fd F => by
  have nd := scBook_undo.nd
  refine F.ok scBook_undo (fun vs H Q E h => ?_) (fun cdv A outer s H vs Q E hr h => ?_)
  · obtain ⟨z, r, b, S, rfl, _⟩ := h; rfl
  obtain ⟨z, r, b, S, rfl, bo, hb, hl, hl2, q⟩ := h
  have hu := hr.units
  refine ⟨_, (pss_cons (ps_if (pt_cmpR (r := rEqN K) (op_eqNil2 hu) (pe_fldK (K := K) rfl (pv 0) rfl) (pe_lst pa_nil) (nomark _))
 (pss_one (ps_ret pe_bl))
 pss_nil)
 (pss_cons (ps_set (i := 1) nd rfl (Or.inl rfl) (pe_bm0 PySem.F.plainAttrs_list PySem.F.slot_list_pop PySem.F.type_list_pop mt_pop (pe_fldK (K := K) rfl (pv 0) rfl)))
 (pss_cons (ps_expr (pe_bmK (K := K) rfl PySem.F.plainAttrs_list PySem.F.slot_list_append PySem.F.type_list_append mt_append (pe_fldK (K := K) rfl (pv 0) rfl) (pa_cons (pv 1) pa_nil)))
 (pss_cons (ps_fld (pv 0) (pe_ix (r := rIxT K) ix_tup (pv 1) pe_int (fun _ _ => rfl)) rfl)
 (pss_one (ps_ret pe_bl)))))), ?_⟩
  obtain ⟨na, hx, lt⟩ := id hb.na
  obtain ⟨nw, ⟨as, p1, p2⟩, us, u1, u2⟩ := lt
  refine ⟨_, rfl, z.x, CB, z.dx, _, _, rfl, hx, BC.cl, BC.n3, bk_past, Nat.zero_le _, fun e he => ?_⟩
  have v1 := (Wd.refl H).new (.lst []) he
  have hb1 := hb.keep0 v1
  refine ⟨z.pl, e, _, rfl, rfl, SqL.of (v1.old p1 (by simp)), SqL.of (v1.get 0 rfl), _, rfl, ?_⟩
  unfold undoB at q
  cases hp : b.past.getLast? with
  | none =>
    rw [hp] at q
    have e0 : b.past = [] := List.getLast?_eq_none_iff.mp hp
    rw [e0] at p2
    cases p2
    exact iteT (q _ (BStep.refl hb (v1.sub (List.nil_sublist _))))
  | some y =>
    rw [hp] at q
    obtain ⟨l, hl3⟩ := List.getLast?_eq_some_iff.mp hp
    obtain ⟨yw, yb⟩ := y
    rw [hl3, ents_more] at p2
    obtain ⟨as', t, rfl, p3, b1, c1, t1, t2, t3⟩ := Paired.init p2
    have e0 : ((as' ++ [t]).map V.ref).isEmpty = false := by simp
    rw [e0]
    refine iteF ?_
    generalize upd H e (.lst []) = H1 at v1 hb1 ⊢
    have w0 := hb1.start (v1.old hx (by simp)) (v1.old p1 (by simp)) (v1.old u1 (by simp))
    have lp : as'.length = l.length := by have := p3.length; rw [ents_len] at this; exact this
    have lu : us.length = b.und.length := by have := u2.length; rw [List.length_map] at this; exact this
    have lb : b.past.length = l.length + 1 := by rw [hl3, List.length_append]; rfl
    refine ⟨_, rfl, z.x, CB, z.dx, _, _, rfl, w0.get 0 rfl, BC.cl, BC.n3, bk_past, .inl ⟨rfl, _, SqL.of (w0.get 1 rfl)⟩, z.pl, _, .ref t, rfl, rfl, w0.get 1 rfl, ?_, ?_⟩
    · rw [List.map_append, List.length_append, List.length_map]
      show (as'.map V.ref ++ [V.ref t])[as'.length + 1 - 1]? = _
      rw [Nat.add_sub_cancel, List.getElem?_append_right (by rw [List.length_map]; exact Nat.le_refl _), List.length_map, Nat.sub_self]; rfl
    have ed : ((as' ++ [t]).map V.ref).dropLast = as'.map V.ref := by rw [List.map_append]; exact List.dropLast_concat
    rw [ed]
    have w1 := w0.put 1 (.lst (as'.map V.ref)) rfl (fun _ q => by cases q)
    refine ⟨_, rfl, z.x, CB, z.dx, _, _, rfl, w1.get 0 rfl, BC.cl, BC.n4, bk_undone, .inl ⟨rfl, _, SqL.of (w1.get 2 rfl)⟩, _, rfl, z.ul, _, _, rfl, rfl, w1.get 2 rfl, by rw [List.length_map]; exact lt_line (by omega), ?_⟩
    have w2 := w1.put 2 (.lst (us.map V.ref ++ [V.ref t])) rfl (fun _ q => by cases q)
    refine ⟨_, rfl, t, _, 1, _, rfl, rfl, SqT.of (w2.tups _ _ (v1.tups _ _ t1)), rfl, _, rfl, z.x, CB, z.dx, _, rfl, w2.get 0 rfl, BC.cl, BC.n2, (by show 5 < 1000; decide), ?_⟩
    rw [bk_putNow]
    have w3 := w2.put 0 (.ins CB z.dx (bkF z b1)) rfl (fun _ q => by cases q)
    have kt : ∀ b xs, H b = some (.tup xs) → _ = some (HO.tup xs) := fun b xs h => w3.tups b xs (v1.tups b xs h)
    refine q _ ((hb1.step (b' := ⟨yb, b.past.dropLast, b.und ++ [((yw, yb), b.now)]⟩) z.pl z.ul b1 (w3.sub (List.nil_sublist _)) (w3.get 0 rfl) ⟨t2.keep kt, ⟨as', w3.get 1 rfl, ?_⟩, us ++ [t], by rw [List.map_append]; exact w3.get 2 rfl, ?_⟩ (.inl rfl) (.inl rfl) hb.ne).after (v1.sub (List.nil_sublist _)))
    · show Paired _ as' (ents b.past.dropLast yb)
      rw [hl3, List.dropLast_concat]
      exact paired_imp (fun _ _ e => e.keep kt) p3
    · show Paired _ (us ++ [t]) ((b.und ++ [((yw, yb), b.now)]).map fun e => (e.1.1, e.1.2, e.2))
      rw [List.map_append]
      exact Paired.app (paired_imp (fun _ _ e => e.keep kt) u2) (.cons ⟨b1, c1, kt _ _ t1, t2.keep kt, t3.keep kt⟩ .nil)
abbrev sBook_redo : Stmt := inClass (topS 61) 9
theorem scBook_redo : FnScope ["self", "entry"] ["self"] (defScope sBook_redo) := ⟨rfl, rfl, rfl, by decide +kernel, rfl, by decide +kernel, by decide +kernel⟩
def spRedo (CB : Addr) : Sp := fun vs H Q _ => ∃ (z : Bz) (r : Rota) (b : Bst) (S : List (Str × Bst)), vs = [.ref z.x] ∧ BOk r b ∧ BkAt CB z r b S H ∧ b.past.length ≤ 1000 ∧ b.und.length ≤ 1000 ∧
  match redoB b with
  | none => ∀ H', BStep CB z r b S H H' → Q (.bl false) H'
  | some b' => ∀ H', BStep CB z r b' S H H' → Q (.bl true) H'
theorem me_redo (D : MethAt K CB "redo" "Book.redo" sBook_redo ["self"]) (BC : BkCls K CB) : MeAt P w K mg base 1 CB "redo" ["self"] (spRedo CB) := D.me fun f fd F => by
  have nd := scBook_redo.nd
  refine F.ok scBook_redo (fun vs H Q E h => ?_) (fun cdv A outer s H vs Q E hr h => ?_)
  · obtain ⟨z, r, b, S, rfl, _⟩ := h; rfl
  obtain ⟨z, r, b, S, rfl, bo, hb, hl, hl2, q⟩ := h
  have hu := hr.units
  refine ⟨_, (pss_cons (ps_if (pt_cmpR (r := rEqN K) (op_eqNil2 hu) (pe_fldK (K := K) rfl (pv 0) rfl) (pe_lst pa_nil) (nomark _))
 (pss_one (ps_ret pe_bl))
 pss_nil)
 (pss_cons (ps_set (i := 1) nd rfl (Or.inl rfl) (pe_bm0 PySem.F.plainAttrs_list PySem.F.slot_list_pop PySem.F.type_list_pop mt_pop (pe_fldK (K := K) rfl (pv 0) rfl)))
 (pss_cons (ps_expr (pe_bmK (K := K) rfl PySem.F.plainAttrs_list PySem.F.slot_list_append PySem.F.type_list_append mt_append (pe_fldK (K := K) rfl (pv 0) rfl) (pa_cons (pv 1) pa_nil)))
 (pss_cons (ps_fld (pv 0) (pe_ix (r := rIxT K) ix_tup (pv 1) pe_int (fun _ _ => rfl)) rfl)
 (pss_one (ps_ret pe_bl)))))), ?_⟩
  obtain ⟨na, hx, lt⟩ := id hb.na
  obtain ⟨nw, ⟨as, p1, p2⟩, us, u1, u2⟩ := lt
  refine ⟨_, rfl, z.x, CB, z.dx, _, _, rfl, hx, BC.cl, BC.n4, bk_undone, Nat.zero_le _, fun e he => ?_⟩
  have v1 := (Wd.refl H).new (.lst []) he
  have hb1 := hb.keep0 v1
  refine ⟨z.ul, e, _, rfl, rfl, SqL.of (v1.old u1 (by simp)), SqL.of (v1.get 0 rfl), _, rfl, ?_⟩
  unfold redoB at q
  cases hp : b.und.getLast? with
  | none =>
    rw [hp] at q
    have e0 : b.und = [] := List.getLast?_eq_none_iff.mp hp
    unfold unds at u2
    rw [e0] at u2
    cases u2
    exact iteT (q _ (BStep.refl hb (v1.sub (List.nil_sublist _))))
  | some y =>
    rw [hp] at q
    obtain ⟨l, hl3⟩ := List.getLast?_eq_some_iff.mp hp
    obtain ⟨⟨yw, yb⟩, ya⟩ := y
    have eyb : yb = b.now := by
      have := bo.ch
      rw [hl3, List.reverse_append] at this
      exact this.1
    subst eyb
    unfold unds at u2
    rw [hl3, List.map_append] at u2
    obtain ⟨us', t, rfl, u3, b1, c1, t1, t2, t3⟩ := Paired.init u2
    have e0 : ((us' ++ [t]).map V.ref).isEmpty = false := by simp
    rw [e0]
    refine iteF ?_
    generalize upd H e (.lst []) = H1 at v1 hb1 ⊢
    have w0 := hb1.start (v1.old hx (by simp)) (v1.old p1 (by simp)) (v1.old u1 (by simp))
    have lp : as.length = b.past.length := by have := p2.length; rw [ents_len] at this; exact this
    refine ⟨_, rfl, z.x, CB, z.dx, _, _, rfl, w0.get 0 rfl, BC.cl, BC.n4, bk_undone, .inl ⟨rfl, _, SqL.of (w0.get 2 rfl)⟩, z.ul, _, .ref t, rfl, rfl, w0.get 2 rfl, ?_, ?_⟩
    · rw [List.map_append, List.length_append, List.length_map]
      show (us'.map V.ref ++ [V.ref t])[us'.length + 1 - 1]? = _
      rw [Nat.add_sub_cancel, List.getElem?_append_right (by rw [List.length_map]; exact Nat.le_refl _), List.length_map, Nat.sub_self]; rfl
    have ed : ((us' ++ [t]).map V.ref).dropLast = us'.map V.ref := by rw [List.map_append]; exact List.dropLast_concat
    rw [ed]
    have w1 := w0.put 2 (.lst (us'.map V.ref)) rfl (fun _ q => by cases q)
    refine ⟨_, rfl, z.x, CB, z.dx, _, _, rfl, w1.get 0 rfl, BC.cl, BC.n3, bk_past, .inl ⟨rfl, _, SqL.of (w1.get 1 rfl)⟩, _, rfl, z.pl, _, _, rfl, rfl, w1.get 1 rfl, by rw [List.length_map]; exact lt_line (by omega), ?_⟩
    have w2 := w1.put 1 (.lst (as.map V.ref ++ [V.ref t])) rfl (fun _ q => by cases q)
    refine ⟨_, rfl, t, _, 2, _, rfl, rfl, SqT.of (w2.tups _ _ (v1.tups _ _ t1)), rfl, _, rfl, z.x, CB, z.dx, _, rfl, w2.get 0 rfl, BC.cl, BC.n2, (by show 5 < 1000; decide), ?_⟩
    rw [bk_putNow]
    have w3 := w2.put 0 (.ins CB z.dx (bkF z c1)) rfl (fun _ q => by cases q)
    have kt : ∀ b xs, H b = some (.tup xs) → _ = some (HO.tup xs) := fun b xs h => w3.tups b xs (v1.tups b xs h)
    refine q _ ((hb1.step (b' := ⟨ya, b.past ++ [(yw, b.now)], b.und.dropLast⟩) z.pl z.ul c1 (w3.sub (List.nil_sublist _)) (w3.get 0 rfl) ⟨t3.keep kt, ⟨as ++ [t], by rw [List.map_append]; exact w3.get 1 rfl, ?_⟩, us', w3.get 2 rfl, ?_⟩ (.inl rfl) (.inl rfl) hb.ne).after (v1.sub (List.nil_sublist _)))
    · show Paired _ (as ++ [t]) (ents (b.past ++ [(yw, b.now)]) ya)
      rw [ents_more]
      exact Paired.app (paired_imp (fun _ _ e => e.keep kt) p2) (.cons ⟨b1, c1, kt _ _ t1, t2.keep kt, t3.keep kt⟩ .nil)
    · show Paired _ us' (b.und.dropLast.map fun e => (e.1.1, e.1.2, e.2))
      rw [hl3, List.dropLast_concat]
      exact paired_imp (fun _ _ e => e.keep kt) u3
end
end Br

namespace Br
open PySem PySem.Spec PyProof.Rows L2
/-! ### named snapshots -/
def getS (w : Str) (S : List (Str × Bst)) : Option Bst := (S.find? fun e => decide (e.1 = w)).map (·.2)
def putS (w : Str) (b : Bst) (S : List (Str × Bst)) : List (Str × Bst) :=
  if (S.any fun e => decide (e.1 = w)) = true then S.map (fun e => if e.1 = w then (e.1, b) else e) else S ++ [(w, b)]
theorem inr_dec {k : Key} {x w : Str} (h : k = .inr x) : decide (k = .inr w) = decide (x = w) := by
  subst h
  rw [Bool.eq_iff_iff, decide_eq_true_iff, decide_eq_true_iff]
  exact ⟨fun h => Sum.inr.inj h, fun h => by rw [h]⟩
section
variable {F : Key × V → Str × Bst → Prop}
theorem paired_any (hF : ∀ kv e, F kv e → kv.1 = .inr e.1) (w : Str) : ∀ {kvs : List (Key × V)} {S : List (Str × Bst)}, Paired F kvs S → (kvs.any fun kv => decide (kv.1 = .inr w)) = S.any fun e => decide (e.1 = w)
  | _, _, .nil => rfl
  | _, _, .cons h t => by
    rw [List.any_cons, List.any_cons, paired_any hF w t, inr_dec (hF _ _ h)]
theorem paired_map (hF : ∀ kv e, F kv e → kv.1 = .inr e.1) {w : Str} {v : V} {b : Bst} (h0 : F (.inr w, v) (w, b)) : ∀ {kvs : List (Key × V)} {S : List (Str × Bst)}, Paired F kvs S →
    Paired F (kvs.map fun kv => if kv.1 = .inr w then (kv.1, v) else kv) (S.map fun e => if e.1 = w then (e.1, b) else e)
  | _, _, .nil => .nil
  | kv :: _, e :: _, .cons h t => by
    refine .cons ?_ (paired_map hF h0 t)
    have hk := hF _ _ h
    show F (if kv.1 = .inr w then (kv.1, v) else kv) (if e.1 = w then (e.1, b) else e)
    by_cases c : e.1 = w
    · rw [if_pos c, if_pos (hk.trans (by rw [c])), hk, c]; exact h0
    · rw [if_neg c, if_neg (fun z => c (Sum.inr.inj (hk.symm.trans z)))]; exact h
theorem paired_put (hF : ∀ kv e, F kv e → kv.1 = .inr e.1) {w : Str} {v : V} {b : Bst} (h0 : F (.inr w, v) (w, b)) {kvs : List (Key × V)} {S : List (Str × Bst)} (h : Paired F kvs S) : Paired F (putK kvs (.inr w) v) (putS w b S) := by
  unfold putK putS
  rw [paired_any hF w h]
  split
  · exact paired_map hF h0 h
  · exact Paired.app h (.cons h0 .nil)
theorem paired_get (hF : ∀ kv e, F kv e → kv.1 = .inr e.1) (w : Str) : ∀ {kvs : List (Key × V)} {S : List (Str × Bst)}, Paired F kvs S →
    (valV kvs (.inr w) = none ∧ getS w S = none) ∨ ∃ v b, valV kvs (.inr w) = some v ∧ getS w S = some b ∧ F (.inr w, v) (w, b) ∧ (w, b) ∈ S
  | _, _, .nil => .inl ⟨rfl, rfl⟩
  | kv :: kvs, e :: S, .cons h t => by
    have hk := hF _ _ h
    by_cases c : e.1 = w
    · refine .inr ⟨kv.2, e.2, valV_pos (hk.trans (by rw [c])), by simp [getS, List.find?_cons, c], ?_, ?_⟩
      · have e1 : kv = (.inr w, kv.2) := Prod.ext (hk.trans (by rw [c])) rfl
        have e2 : e = (w, e.2) := Prod.ext c rfl
        rw [← e1, ← e2]; exact h
      · exact List.mem_cons.mpr (.inl (Prod.ext c.symm rfl))
    · have n1 : ¬ kv.1 = .inr w := fun z => c (Sum.inr.inj (hk.symm.trans z))
      have n2 : getS w (e :: S) = getS w S := by simp [getS, List.find?_cons, c]
      rw [valV_neg n1, n2]
      exact (paired_get hF w t).imp id fun ⟨v, b, h1, h2, h3, h4⟩ => ⟨v, b, h1, h2, h3, List.mem_cons_of_mem _ h4⟩
end
theorem putS_mem {w : Str} {b : Bst} {S : List (Str × Bst)} {e : Str × Bst} (h : e ∈ putS w b S) : e = (w, b) ∨ e ∈ S := by
  unfold putS at h
  split at h
  · obtain ⟨x, hx, e1⟩ := List.mem_map.mp h
    by_cases c : x.1 = w
    · rw [if_pos c] at e1; exact .inl (by rw [← e1, c])
    · rw [if_neg c] at e1; exact .inr (by rw [← e1]; exact hx)
  · rcases List.mem_append.mp h with h | h
    · exact .inr h
    · exact .inl (List.mem_singleton.mp h)
theorem putS_len {w : Str} {b : Bst} {S : List (Str × Bst)} : (putS w b S).length ≤ S.length + 1 := by
  unfold putS
  split
  · rw [List.length_map]; omega
  · rw [List.length_append]; exact Nat.le_refl _
theorem SnapT.key {H : Hp} {z : Bz} (kv : Key × V) (e : Str × Bst) (h : SnapT H z kv e) : kv.1 = .inr e.1 := h.1
end Br

namespace Br
open PySem PySem.Spec PyProof.Rows L2
/-! ### is_int_in; a plain own exception -/
/-- an own exception class without an __init__, ready to be raised -/
structure ExPl (K : PySem.W.Frag) (mg : Str → Option Value) (x : Str) (C : Addr) : Prop where
  q : PySem.W.excIn K C [.type "ValueError", .type "Exception", .type "BaseException", .type "object"] "ValueError.__new__" = true
  g : mg x = some (.ref C)
  k : PySem.W.keepIn K (.ref C) = true
  b : PySem.W.subIn K (.ref C) (.type "BaseException") = some true
  t : PySem.W.typeIn K (.ref C) = some (.type "type")
theorem ExPl.r {X : Cx} {x : Str} {C : Addr} (E : ExPl X.K X.mg x C) : Raises X (.ref C) := raises_own E.b E.t
section
variable {P : Program} {w : World} {K : PySem.W.Frag} {mg : Str → Option Value} {base : Heap}
abbrev sis_int_in : Stmt := topS 44
theorem scis_int_in : FnScope ["value", "low", "high"] ["value", "low", "high"] (defScope sis_int_in) := ⟨rfl, rfl, rfl, by decide +kernel, rfl, by decide +kernel, by decide +kernel⟩
theorem intIn_int (lo hi i : Int) : intIn lo hi (.int i) = (decide (lo ≤ i) && decide (i ≤ hi)) := rfl
def spIntIn : Sp := fun vs H Q _ => ∃ (x : V) (t : String) (lo hi : Int), vs = [x, .int lo, .int hi] ∧ Ky H x t ∧ Q (.bl (intIn lo hi x)) H
theorem cal_intIn (D : DefAt K mg "is_int_in" sis_int_in ["value", "low", "high"]) (T : Bi mg) : Cal P w K mg base 1 "is_int_in" ["value", "low", "high"] spIntIn := D.cal fun f fd F => by
  have nd := scis_int_in.nd
  refine F.ok scis_int_in (fun vs H Q E h => ?_) (fun cdv A outer s H vs Q E hr h => ?_)
  · obtain ⟨x, t, lo, hi, rfl, _⟩ := h; rfl
  obtain ⟨x, t, lo, hi, rfl, hk, q⟩ := h
  refine ⟨_, (pss_one (ps_ret (pe_and (pe_callB call_isi (by rfl) T.isinstance (by decide +kernel) (pa_cons (pv 0) (pa_cons (pe_bltn (v := .ty "int") (by rfl) T.int (by decide +kernel) rfl) pa_nil))) (pe_and (pe_not (pe_callB call_isi (by rfl) T.isinstance (by decide +kernel) (pa_cons (pv 0) (pa_cons (pe_bltn (v := .ty "bool") (by rfl) T.bool (by decide +kernel) rfl) pa_nil)))) (pe_one (pe_chain op_le op_le (pv 1) (pv 0) (pv 2))))))), ?_⟩
  have k1 := kit_is (K := K) hk.mem (T := "int") (by decide)
  have k2 := kit_is (K := K) hk.mem (T := "bool") (by decide)
  refine ⟨_, rfl, _, _, _, .type "int", _, rfl, .ty "int", hk.ty, k1, _, rfl, ite2 (fun h1 => ?_) (fun h1 => ?_)⟩
  · refine ⟨_, rfl, _, _, _, .type "bool", _, rfl, .ty "bool", hk.ty, k2, _, rfl, _, rfl, ite2 (fun h2 => ?_) (fun h2 => ?_)⟩
    · cases hk with
      | int i =>
        refine ⟨_, rfl, _, rfl, _, _, rfl, rfl, _, rfl, ite2 (fun h3 => ?_) (fun h3 => ?_)⟩
        · refine ⟨_, rfl, _, _, rfl, rfl, ?_⟩
          have e : intIn lo hi (.int i) = decide (i ≤ hi) := by rw [intIn_int, h3, Bool.true_and]
          rw [e] at q; exact q
        · have e : intIn lo hi (.int i) = false := by rw [intIn_int, Bool.eq_false_iff.mpr h3]; rfl
          rw [e] at q; exact q
      | bl b => exact absurd h2 (by decide)
      | non => exact absurd h1 (by decide)
      | str z => exact absurd h1 (by decide)
      | lst h => exact absurd h1 (by decide)
      | tup h => exact absurd h1 (by decide)
    · cases hk with
      | bl b => exact q
      | int i => exact absurd rfl h2
      | non => exact q
      | str z => exact q
      | lst h => exact q
      | tup h => exact q
  · cases hk with
    | bl b => exact absurd rfl h1
    | int i => exact absurd rfl h1
    | non => exact q
    | str z => exact q
    | lst h => exact q
    | tup h => exact q
end
end Br

namespace Br
open PySem PySem.Spec PyProof.Rows L2
/-! ### the person of a name -/
def personOf (r : Rota) : V → Option Int
  | .str z => (r.names.findIdx? fun y => decide (y = z)).map Int.ofNat
  | _ => none
theorem personOf_in {r : Rota} {v : V} {p : Int} (h : personOf r v = some p) : 0 ≤ p ∧ p < r.names.length ∧ v = .str (nm r p) := by
  cases v with
  | str z =>
    unfold personOf at h
    obtain ⟨i, hi, rfl⟩ := Option.map_eq_some_iff.mp h
    obtain ⟨h1, h2, _⟩ := List.findIdx?_eq_some_iff_getElem.mp hi
    refine ⟨by simp, by simp [h1], ?_⟩
    have e := of_decide_eq_true h2
    have := nm_mem (r := r) (k := Int.ofNat i) (by simp) (by simp [h1])
    rw [show (Int.ofNat i).toNat = i from rfl, List.getElem?_eq_getElem h1, e] at this
    rw [Option.some.inj this]
  | _ => cases h
theorem personOf_nm {r : Rota} (ok : ROk r) {p : Int} (h0 : 0 ≤ p) (h1 : p < r.names.length) : personOf r (.str (nm r p)) = some p := by
  have hm := nm_mem (r := r) h0 h1
  have hl : p.toNat < r.names.length := by omega
  have : (r.names.findIdx? fun y => decide (y = nm r p)) = some p.toNat := by
    refine List.findIdx?_eq_some_iff_getElem.mpr ⟨hl, ?_, fun j hj => ?_⟩
    · rw [List.getElem?_eq_getElem hl] at hm
      exact decide_eq_true (Option.some.inj hm)
    · have hjl : j < r.names.length := by omega
      rw [List.getElem?_eq_getElem hl] at hm
      have e := Option.some.inj hm
      simp only [Bool.not_eq_true, decide_eq_false_iff_not]
      intro e2
      have := (List.getElem_inj ok.nd (h₀ := hjl) (h₁ := hl)).mp (e2.trans e.symm)
      omega
  show (r.names.findIdx? fun y => decide (y = nm r p)).map Int.ofNat = some p
  rw [this]
  show some ((p.toNat : Nat) : Int) = some p
  rw [Int.toNat_of_nonneg h0]
section
variable {P : Program} {w : World} {K : PySem.W.Frag} {mg : Str → Option Value} {base : Heap} {CB CU CC CN : Addr}
abbrev sperson_number : Stmt := topS 45
theorem scperson_number : FnScope ["parsed", "name"] ["parsed", "name"] (defScope sperson_number) := ⟨rfl, rfl, rfl, by decide +kernel, rfl, by decide +kernel, by decide +kernel⟩
def spPersonN (CU : Addr) : Sp := fun vs H Q E => ∃ (a : Addr) (r : Rota) (v : V) (t : String), vs = [.ref a, v] ∧ RotaAt H a r ∧ ROk r ∧ Ky H v t ∧ match personOf r v with
  | some p => ∀ H', Wd [] H H' [] → Q (.int p) H'
  | none => ∀ H', Wd [] H H' [] → E (.ref CU) none H'
theorem cal_personN (D : DefAt K mg "person_number" sperson_number ["parsed", "name"]) (T : Bi mg) (EP_UnknownPerson : ExPl K mg "UnknownPerson" CU) : CalX P w K mg base 1 "person_number" ["parsed", "name"] (spPersonN CU) := D.calX fun f fd F => by
  have nd := scperson_number.nd
  refine F.okX scperson_number (fun vs H Q E h => ?_) (fun cdv A outer s H vs Q E hr h => ?_)
  · obtain ⟨a, r, v, t, rfl, _⟩ := h; rfl
  obtain ⟨a, r, v, t, rfl, hR, ok, kv, q⟩ := h
  obtain ⟨an, at_, aw, aa, am, as, h1, h2, h3, h4, h5, h6, h7⟩ := id hR
  refine ⟨_, (pss_cons (ps_if (PW.pt (pw_or (pt_not (pt_val (pe_callB call_isi (by rfl) T.isinstance (by decide +kernel) (pa_cons (pv 1) (pa_cons (pe_bltn (v := .ty "str") (by rfl) T.str (by decide +kernel) rfl) pa_nil))))) (pw_or1 (pt_cmpR (r := rIn K true) op_notIn_seq (pv 1) (pe_ix (r := rIxT K) ix_tup (pv 0) pe_int (fun _ _ => rfl)) (by rfl)))))
 (pss_one (ps_raise rfl (takes_of rfl rfl rfl rfl) (pmk_own PySem.F.excBase_ValueError EP_UnknownPerson.q EP_UnknownPerson.g EP_UnknownPerson.k EP_UnknownPerson.r (by rfl))))
 pss_nil)
 (pss_one (ps_ret (pe_bmF (r := rTIndex K) PySem.F.slot_tuple_index PySem.F.type_tuple_index mt_tup_index (pe_ix (r := rIxT K) ix_tup (pv 0) pe_int (fun _ _ => rfl)) (pa_cons (pv 1) pa_nil))))), ?_⟩
  have k1 := kit_is (K := K) kv.mem (T := "str") (by decide)
  refine ⟨_, rfl, _, _, _, .type "str", _, rfl, .ty "str", kv.ty, k1, _, rfl, ?_⟩
  have no : personOf r v = none → ∀ H', Wd [] H H' [] → E (.ref CU) none H' := fun e => by rw [e] at q; exact q
  refine ite2 (fun c => ?_) (fun c => ?_)
  · refine iteT ?_
    refine no ?_ _ (Wd.refl H)
    cases v with
    | str z => cases kv; exact absurd c (by decide)
    | _ => rfl
  · have hv : ∃ z, v = .str z := by
      cases kv with
      | str z => exact ⟨z, rfl⟩
      | non => exact absurd rfl c
      | bl b => exact absurd rfl c
      | int i => exact absurd rfl c
      | lst h => exact absurd rfl c
      | tup h => exact absurd rfl c
    obtain ⟨x, rfl⟩ := hv
    refine ⟨_, rfl, _, rfl, a, _, 0, _, rfl, rfl, SqT.of h1, rfl, an, _, rfl, .inr h2.sq, rfl, flat_strs _, _, rfl, ?_⟩
    rw [if_pos rfl, inV_strs]
    by_cases hm : x ∈ r.names
    · rw [decide_eq_true hm]
      refine iteF ?_
      obtain ⟨i, hi, e⟩ := List.getElem_of_mem hm
      cases hp : personOf r (.str x) with
      | none =>
        have e2 := personOf_nm ok (p := (i : Int)) (by omega) (by omega)
        have e3 : nm r (i : Int) = x := by
          have := nm_mem (r := r) (k := (i : Int)) (by omega) (by omega)
          rw [Int.toNat_natCast, List.getElem?_eq_getElem hi, e] at this
          exact (Option.some.inj this).symm
        rw [e3, hp] at e2; cases e2
      | some p =>
        rw [hp] at q
        obtain ⟨g1, g2, g3⟩ := personOf_in hp
        cases g3
        have hl : p.toNat < r.names.length := by omega
        refine ⟨_, rfl, a, _, 0, _, rfl, rfl, SqT.of h1, rfl, ?_⟩
        obtain ⟨on, hon, hfz⟩ := id h2
        refine ⟨⟨an, on, _, rfl, hon, hfz⟩, _, rfl, an, r.names, nm r p, p.toNat, rfl, rfl, h2.sq, nm_mem g1 g2, fun m hm e => ?_, ?_⟩
        · have hml : m < r.names.length := by omega
          have e1 := nm_mem (r := r) g1 g2
          rw [List.getElem?_eq_getElem hl] at e1
          rw [List.getElem?_eq_getElem hml] at e
          have := (List.getElem_inj ok.nd (h₀ := hml) (h₁ := hl)).mp ((Option.some.inj e).trans (Option.some.inj e1).symm)
          omega
        · rw [Int.toNat_of_nonneg g1]; exact q _ (Wd.refl H)
    · rw [decide_eq_false hm]
      refine iteT ?_
      refine no ?_ _ (Wd.refl H)
      cases hp : personOf r (.str x) with
      | none => rfl
      | some p =>
        obtain ⟨g1, g2, g3⟩ := personOf_in hp
        cases g3
        exact absurd (List.mem_of_getElem? (nm_mem g1 g2)) hm
end
end Br

namespace Br
open PySem PySem.Spec PyProof.Rows L2
/-- the book's next state, and a new object of the caller's own -/
def BStepN (CB : Addr) (z : Bz) (r : Rota) (b' : Bst) (S' : List (Str × Bst)) (H H' : Hp) (p : Addr) (o : HO) : Prop :=
  ∃ z' : Bz, z'.x = z.x ∧ Wd z.own H H' [(p, o)] ∧ (∀ a ∈ z'.own, a ∈ z.own ∨ H a = none) ∧ H p = none ∧ p ∉ z'.own ∧ BkAt CB z' r b' S' H'
/-- intIn, said back -/
theorem intIn_ex {lo hi : Int} {v : V} (h : intIn lo hi v = true) : ∃ i, v = .int i ∧ lo ≤ i ∧ i ≤ hi := by
  cases v with
  | int i =>
    have := h
    unfold intIn at this
    rw [Bool.and_eq_true] at this
    exact ⟨i, rfl, of_decide_eq_true this.1, of_decide_eq_true this.2⟩
  | _ => cases h
theorem Wd.put0L {H : Hp} {a : Addr} {xs ys : List V} (w : Wd [] H H []) (h : H a = some (.lst xs)) : Wd [a] H (upd H a (.lst ys)) [] :=
  ((Wd.start1 h).put 0 (.lst ys) rfl (fun _ q => by cases q)).sub (List.nil_sublist _)
theorem Wd.callN {M : List Addr} {H0 H H' : Hp} {l : List (Addr × HO)} (w : Wd M H0 H []) (c : Wd [] H H' l) : Wd M H0 H' l := by
  have := w.call0 c
  rwa [List.append_nil] at this
section
variable {P : Program} {w : World} {K : PySem.W.Frag} {mg : Str → Option Value} {base : Heap} {CB CU CC CN : Addr}
abbrev sBook_step : Stmt := inClass (topS 61) 4
theorem scBook_step : FnScope ["self", "count", "state", "tick", "doers", "found", "turn", "person"] ["self", "count"] (defScope sBook_step) := ⟨rfl, rfl, rfl, by decide +kernel, rfl, by decide +kernel, by decide +kernel⟩
def spStep (CB CC : Addr) : Sp := fun vs H Q E => ∃ (z : Bz) (r : Rota) (b : Bst) (S : List (Str × Bst)) (v : V) (t : String), vs = [.ref z.x, v] ∧ ROk r ∧ BOk r b ∧ BkAt CB z r b S H ∧ Ky H v t ∧ b.past.length ≤ 1000 ∧ b.now.d.length ≤ 50000 ∧
  (intIn 0 500 v = false → ∀ H', Wd [] H H' [] → E (.ref CC) none H') ∧
  ∀ k : Nat, v = .int (k : Int) → k ≤ 500 → ∀ H' p, BStepN CB z r (recB "step" b (stepN r k b.now)) S H H' p (.lst ((found r k b.now).map (nameV r))) → Q (.ref p) H'
theorem me_step (D : MethAt K CB "step" "Book.step" sBook_step ["self", "count"]) (T : Bi mg) (BC : BkCls K CB) (cS : ∃ t, mg "STEP" = some (.str "step" t)) (cM : ∃ t, mg "MAX_STEPS" = some (.int 500 t)) (EP_InvalidCount : ExPl K mg "InvalidCount" CC)
    (C1 : Cal P w K mg base 1 "is_int_in" ["value", "low", "high"] spIntIn) (C2 : Cal P w K mg base 3 "after_tick" ["parsed", "state", "tick"] spAfter) (C3 : MeAt P w K mg base 1 CB "record" ["self", "word", "now"] (spRecord CB)) (C4 : MeAt P w K mg base 1 CB "named" ["self", "person"] (spNamed CB)) :
    MeX P w K mg base 4 CB "step" ["self", "count"] (spStep CB CC) := D.meX fun f fd F => by
  have nd := scBook_step.nd
  have cl_Book := BC.cl
  obtain ⟨tS, c_STEP⟩ := cS
  obtain ⟨tM, c_MAX_STEPS⟩ := cM
  obtain ⟨f1, fd1, m_is_int_in, kp_is_int_in, b_is_int_in, G_is_int_in⟩ := C1.ex
  obtain ⟨f2, fd2, m_after_tick, kp_after_tick, b_after_tick, G_after_tick⟩ := C2.ex
  obtain ⟨f3, fd3, me_record, b_record, G_record⟩ := C3.ex
  obtain ⟨f4, fd4, me_named, b_named, G_named⟩ := C4.ex
  refine F.okX scBook_step (fun vs H Q E h => ?_) (fun cdv A outer s H vs Q E hr h => ?_)
  · obtain ⟨z, r, b, S, v, t, rfl, _⟩ := h; rfl
  obtain ⟨z, r, b, S, v, t, rfl, ok, bo, hb, kv, hl, hl2, hE, q⟩ := h
  refine ⟨_, (pss_cons (ps_if (pt_not (pt_val (pe_call G_is_int_in (hr.mono (by first | decide | omega)) (by rfl) m_is_int_in kp_is_int_in b_is_int_in .nil pass0 (pa_cons (pv 1) (pa_cons pe_int (pa_cons (pe_glob (v := .int 500) (by rfl) c_MAX_STEPS ⟨_, rfl⟩) pa_nil))))))
 (pss_one (ps_raise rfl (takes_of rfl rfl rfl rfl) (pmk_own PySem.F.excBase_ValueError EP_InvalidCount.q EP_InvalidCount.g EP_InvalidCount.k EP_InvalidCount.r (by rfl))))
 pss_nil)
 (pss_cons (ps_asg (pe_fldK (K := K) rfl (pv 0) rfl) (pg_tupK (K := K) (n := 3) rfl rfl (pgs_cons (pg_name (i := 2) nd rfl (Or.inl rfl)) (pgs_cons (pg_name (i := 3) nd rfl (Or.inl rfl)) (pgs_cons (pg_name (i := 4) nd rfl (Or.inl rfl)) pgs_nil)))))
 (pss_cons (ps_set (i := 5) nd rfl (Or.inl rfl) (pe_lst pa_nil))
 (pss_cons (ps_for (passes_of rfl) rfl (pi_range1 (by rfl) T.range (pa_cons (pv 1) pa_nil)) (pg_name (i := 6) nd rfl (Or.inl rfl))
 (pss_cons (ps_asg (pe_call G_after_tick (hr.mono (by first | decide | omega)) (by rfl) m_after_tick kp_after_tick b_after_tick .nil pass0 (pa_cons (pe_fldK (K := K) rfl (pv 0) rfl) (pa_cons (pv 2) (pa_cons (pe_op op_add (pv 3) (pv 6)) pa_nil)))) (pg_tupK (K := K) (n := 2) rfl rfl (pgs_cons (pg_name (i := 2) nd rfl (Or.inl rfl)) (pgs_cons (pg_name (i := 7) nd rfl (Or.inl rfl)) pgs_nil))))
 (pss_one (ps_expr (pe_bmK (K := K) rfl PySem.F.plainAttrs_list PySem.F.slot_list_append PySem.F.type_list_append mt_append (pv 5) (pa_cons (pv 7) pa_nil))))))
 (pss_cons (ps_expr (pe_meth (pv 0) cl_Book me_record G_record (hr.mono (by first | decide | omega)) b_record .nil pass0 (pa_cons (pe_glob (v := .str "step") (by rfl) c_STEP ⟨_, rfl⟩) (pa_cons (pe_tup (pa_cons (pv 2) (pa_cons (pe_op op_add (pv 3) (pv 1)) (pa_cons (pe_op (r := rCatA K) op_catA (pv 4) (pe_callTy (r := rTupOf K) call_tuple_of (by rfl) T.tuple (by decide +kernel) (pa_cons (pv 5) pa_nil))) pa_nil)))) pa_nil))))
 (pss_one (ps_ret (pe_lc (own := [("person", 7)]) rfl nd (pi_listK (K := K) rfl (pv 5)) (blkOk_by (N := ["self", "count", "state", "tick", "doers", "found", "turn", "person"]) (sc := defScope sBook_step) (by decide +kernel)) (fun _ _ _ _ _ => (pg_name (i := 7) nd rfl (Or.inl rfl))) (fun _ _ _ _ _ => pts_nil) (fun _ _ _ _ _ => (pe_meth (pv 0) cl_Book me_named G_named (hr.mono (by first | decide | omega)) b_named .nil pass0 (pa_cons (pv 7) pa_nil))))))))))), ?_⟩
  refine ⟨_, rfl, v, t, 0, 500, rfl, kv, _, rfl, ?_⟩
  cases hin : intIn 0 500 v with
  | false => exact iteT (hE hin _ (Wd.refl H))
  | true =>
  refine iteF ?_
  obtain ⟨i, rfl, i1, i2⟩ := intIn_ex hin
  obtain ⟨k, rfl⟩ : ∃ k : Nat, i = k := ⟨i.toNat, by omega⟩
  have hk : k ≤ 500 := by omega
  obtain ⟨na, hx, lt⟩ := id hb.na
  obtain ⟨st, dd, n1, n2, n3⟩ := lt.now
  refine ⟨_, rfl, z.x, CB, z.dx, _, _, rfl, hx, BC.cl, BC.n2, bk_now, na, _, rfl, SqT.of n1, rfl, _, _, rfl, _, _, rfl, _, _, rfl, rfl, ?_⟩
  refine ⟨Nat.zero_le _, fun fl hfl => ?_⟩
  have w1 := (Wd.refl H).new (.lst []) hfl
  refine ⟨_, rfl, _, rfl, by omega, by omega, ?_⟩
  rw [Int.toNat_natCast]
  have nowk := bo.now
  refine for_range (lo := 0) (n := k) (fun i σ H' => ∃ (st' : Addr) (s6 s7 : Option V), σ = [some (.ref z.x), some (.int (k : Int)), some (.ref st'), some (.int (b.now.t : Int)), some (.ref dd), some (.ref fl), s6, s7] ∧ Wd [] H H' [(fl, .lst ((ticksF r i b.now.s b.now.o b.now.t).2.2.map dV))] ∧
    StT H' st' (ticksF r i b.now.s b.now.o b.now.t).1 (ticksF r i b.now.s b.now.o b.now.t).2.1) ⟨st, _, _, rfl, w1, n2.keep w1.tups⟩ ?_ ?_
  · rintro i σ H2 hi ⟨st', s6, s7, rfl, w2, hst⟩
    have hb2 := hb.keep0 w2
    obtain ⟨g1, g2, g3⟩ := ticks_ok ok i _ _ b.now.t nowk.s nowk.o
    have hm := ticksF_more (r := r) i b.now.s b.now.o b.now.t
    refine ⟨_, rfl, z.x, CB, z.dx, _, _, rfl, w2.old hx (by simp), BC.cl, BC.n1, bk_parsed, _, rfl, _, rfl, _, rfl, _, _, rfl, rfl, z.p, st', r, _, _, _, rfl, hb2.ro, ok, hst, g1, g2, fun H3 p st2 w3 h3 h4 => ?_⟩
    have et : ((b.now.t : Int) + (0 + (i : Int))) = ((b.now.t + i : Nat) : Int) := by omega
    rw [et] at h3 h4
    have w4 := w2.call0 w3
    refine ⟨p, _, rfl, SqT.of h3, rfl, _, _, rfl, _, _, rfl, rfl, ?_⟩
    refine ⟨_, rfl, .inl ⟨rfl, _, SqL.of (w4.get 0 rfl)⟩, _, rfl, fl, _, _, rfl, rfl, w4.get 0 rfl, ?_, st2, _, _, rfl, ?_, ?_⟩
    · rw [List.length_map, ticksF_len]; exact lt_line (by omega)
    · rw [hm]
      have w5 := w4.app0 (dV (tickF r (ticksF r i b.now.s b.now.o b.now.t).1 (ticksF r i b.now.s b.now.o b.now.t).2.1 ((b.now.t + i : Nat) : Int)).2.2)
      dsimp only
      rw [List.map_append]
      exact w5
    · rw [hm]
      exact h4.keep ((Wd.refl H3).put0L (w4.get 0 rfl)).tups
  · rintro σ H2 ⟨st', s6, s7, rfl, w2, hst⟩
    have hb2 := hb.keep0 w2
    have hlen := ticksF_len (r := r) k b.now.s b.now.o b.now.t
    have ow2 := w2.get 0 rfl
    refine ⟨_, rfl, z.x, z.dx, _, rfl, w2.old hx (by simp), bk_none (by decide +kernel), _, rfl, _, rfl, _, rfl, _, _, rfl, rfl, _, rfl, _, rfl, fl, _, rfl, .inl ⟨SqL.of (w2.get 0 rfl), fun ft hft => ?_⟩⟩
    have w3 := w2.new (.tup ((ticksF r k b.now.s b.now.o b.now.t).2.2.map dV)) hft
    refine catA_any (w3.tups _ _ n3) (w3.get 0 rfl) (by rw [List.length_map, List.length_map, hlen]; omega) fun H4 dn w4 h4 => ?_
    have w5 := w3.call0 w4
    refine ⟨(by show 3 ≤ sizeLine; decide), fun nb hnb => ?_⟩
    have w6 := w5.new (.tup [V.ref st', V.int ((b.now.t : Int) + (k : Int)), V.ref dn]) hnb
    have v6 := (((Wd.refl H2).new (.tup ((ticksF r k b.now.s b.now.o b.now.t).2.2.map dV)) hft).call0 w4).new (.tup [V.ref st', V.int ((b.now.t : Int) + (k : Int)), V.ref dn]) hnb
    have u6 := (Wd.refl H4).new (.tup [V.ref st', V.int ((b.now.t : Int) + (k : Int)), V.ref dn]) hnb
    have hn6 : NowT _ nb (stepN r k b.now) := ⟨st', dn, w6.get 0 rfl, hst.keep v6.tups, by rw [u6.tups _ _ h4]; show _ = some (HO.tup ((b.now.d ++ _).map dV)); rw [List.map_append]⟩
    refine ⟨z, r, b, S, "step", nb, stepN r k b.now, rfl, hb.keep0 w6, hn6, hl, fun H7 bs => ?_⟩
    obtain ⟨z', ez, w7, oz, hb7⟩ := bs
    have fo : ∀ a ∈ z.own, H a ≠ none := hb.al
    have flz : fl ∉ z.own := fun hm => fo fl hm hfl
    have w6' := w6.get 2 rfl
    have hfl7 : H7 fl = some (.lst ((ticksF r k b.now.s b.now.o b.now.t).2.2.map dV)) := w7.base _ _ flz w6'
    refine ⟨_, rfl, fl, rfl, ⟨_, SqL.of hfl7⟩, fun D hD => ?_⟩
    have w8 : Wd z.own H H7 [] := ((w6.sub (List.nil_sublist _)).mono (fun _ h => nomatch h)).fgo w7
    obtain ⟨na', hx7, lt7⟩ := id hb7.na
    rw [ez] at hx7
    obtain ⟨t1, t2, t3⟩ := ticks_ok ok k _ _ b.now.t nowk.s nowk.o
    refine lc_list (xs := (ticksF r k b.now.s b.now.o b.now.t).2.2.map dV) (fun i H8 => Wd [] H7 H8 [(D, .lst (((found r k b.now).take i).map (nameV r)))]) ((Wd.refl H7).new _ hD) (fun i H8 _ w9 => SqL.of (w9.old hfl7 (by simp))) (fun i x H8 hx8 w9 => ?_) (fun H8 w9 => ?_)
    · rw [List.getElem?_map] at hx8
      obtain ⟨d, hd, rfl⟩ := Option.map_eq_some_iff.mp hx8
      have hb8 := hb7.keep0 w9
      refine ⟨rfl, _, rfl, z.x, z'.dx, _, rfl, w9.old hx7 (by simp), bk_none (by decide +kernel), _, rfl, z', r, _, S, d, by rw [ez]; rfl, hb8, fun p e => t3 p (e ▸ List.mem_of_getElem? hd), _, w9.get 0 rfl, ?_, ?_⟩
      · rw [List.length_map, List.length_take]; exact lt_line (by unfold found; rw [hlen]; omega)
      · rw [take_more (show (found r k b.now)[i]? = some d from hd), List.map_append]
        exact w9.app0 _
    · rw [List.length_map, hlen] at w9
      have e9 : (found r k b.now).take k = found r k b.now := List.take_of_length_le (by unfold found; rw [hlen]; exact Nat.le_refl _)
      rw [e9] at w9
      refine q k rfl hk _ D ⟨z', ez, ?_, fun a ha => (oz a ha).imp id (w6.free a), w8.free _ hD, fun hm => hb7.al D hm hD, hb7.keep0 w9⟩
      exact w8.callN w9
end
end Br

/-! o.f as one of several targets. -/
namespace Br
open PySem PySem.Spec PyProof.Rows L2
section
variable {X : Cx} {o : Expr} {f : Str} {pos : Pos} {ta : TE}
def gFld (K : PySem.W.Frag) (ta : TE) (f : Str) : TG := fun v σ H Q => ta σ H fun x H1 => ∃ a C dx fs, x = .ref a ∧ H1 a = some (.ins C dx fs) ∧ Cls K C ∧ NoAttr K C f ∧ fs.length < 1000 ∧ Q σ (upd H1 a (.ins C dx (putF f v fs)))
theorem pg_fld (ha : PE X o ta) {K : PySem.W.Frag} (hK : K = X.K) : PG X (.Attribute o f pos) (gFld K ta f) := by
  subst hK
  refine ⟨fun pins s σ H v u Q I r h => ?_⟩
  rw [assign_Attribute]
  refine wpAny_bind (wpAny_holding (thn (ha.run pins s σ H _ I h) fun ov s1 ⟨x, H1, I1, r1, a, C, dx, fs, ex, ea, c, n, l, q⟩ => ?_))
  subst ex
  obtain rfl : ov = Value.ref a := r1
  refine wpAny_bind (wpAny_standAt (wpAny_bind (wpAny_holding ?_)))
  exact setattr_ok I1 ea c n l r fun s3 I3 => wpAny_release ⟨σ, _, I3, q⟩
section
variable {o i : Expr} {td ty : TE}
theorem pe_dgetU (hu : X.A.units + 64 < cLine) (ho : PE X o td) (hi : PE X i ty) (hs : NoSl i) : PE X (.Subscript o i pos) (tDGet td ty) := pe_dget (by omega) ho hi hs
theorem pc_dinU (hu : X.A.units + 64 < cLine) (hi : PE X i ty) (ho : PE X o td) : PC X .In i o (tDIn ty td) := pc_din (by omega) hi ho
theorem pc_dnotinU (hu : X.A.units + 64 < cLine) (hi : PE X i ty) (ho : PE X o td) : PC X .NotIn i o (tDNotIn ty td) := pc_dnotin (by omega) hi ho
end
end
end Br

namespace Br
open PySem PySem.Spec PyProof.Rows L2
section
variable {P : Program} {w : World} {K : PySem.W.Frag} {mg : Str → Option Value} {base : Heap} {CB CX : Addr}
abbrev sBook_restore : Stmt := inClass (topS 61) 15
theorem scBook_restore : FnScope ["self", "name", "past", "undone"] ["self", "name"] (defScope sBook_restore) := ⟨rfl, rfl, rfl, by decide +kernel, rfl, by decide +kernel, by decide +kernel⟩
def spRestore (CB CX : Addr) : Sp := fun vs H Q E => ∃ (z : Bz) (r : Rota) (b : Bst) (S : List (Str × Bst)) (nm : Str), vs = [.ref z.x, .str nm] ∧ BkAt CB z r b S H ∧ (∀ e ∈ S, e.2.past.length ≤ 1000 ∧ e.2.und.length ≤ 1000) ∧
  match getS nm S with
  | none => ∀ H', Wd [] H H' [] → E (.ref CX) none H'
  | some b' => ∀ H', BStep CB z r b' S H H' → Q .non H'
theorem me_restore (D : MethAt K CB "restore" "Book.restore" sBook_restore ["self", "name"]) (T : Bi mg) (BC : BkCls K CB) (EP_UnknownName : ExPl K mg "UnknownName" CX) : MeX P w K mg base 1 CB "restore" ["self", "name"] (spRestore CB CX) := D.meX fun f fd F => by
  have nd := scBook_restore.nd
  refine F.okX scBook_restore (fun vs H Q E h => ?_) (fun cdv A outer s H vs Q E hr h => ?_)
  · obtain ⟨z, r, b, S, nm, rfl, _⟩ := h; rfl
  obtain ⟨z, r, b, S, nm, rfl, hb, hS, q⟩ := h
  have hu := hr.units
  refine ⟨_, (pss_cons (ps_if (PW.pt (pw_or (pt_not (pt_val (pe_callB call_isi (by rfl) T.isinstance (by decide +kernel) (pa_cons (pv 1) (pa_cons (pe_bltn (v := .ty "str") (by rfl) T.str (by decide +kernel) rfl) pa_nil))))) (pw_or1 (pt_cmp (pc_dnotinU hu (pv 1) (pe_fldK (K := K) rfl (pv 0) rfl)) (by rfl)))))
 (pss_one (ps_raise rfl (takes_of rfl rfl rfl rfl) (pmk_own PySem.F.excBase_ValueError EP_UnknownName.q EP_UnknownName.g EP_UnknownName.k EP_UnknownName.r (by rfl))))
 pss_nil)
 (pss_cons (ps_asg (pe_dgetU hu (pe_fldK (K := K) rfl (pv 0) rfl) (pv 1) (fun _ _ => rfl)) (pg_tupK (K := K) (n := 3) rfl rfl (pgs_cons (pg_fld (pv 0) (K := K) rfl) (pgs_cons (pg_name (i := 2) nd rfl (Or.inl rfl)) (pgs_cons (pg_name (i := 3) nd rfl (Or.inl rfl)) pgs_nil)))))
 (pss_one (ps_asg (pe_tup (pa_cons (pe_callTy (r := rListOf K) call_list_of (by rfl) T.list (by decide +kernel) (pa_cons (pv 2) pa_nil)) (pa_cons (pe_callTy (r := rListOf K) call_list_of (by rfl) T.list (by decide +kernel) (pa_cons (pv 3) pa_nil)) pa_nil))) (pg_tupK (K := K) (n := 2) rfl rfl (pgs_cons (pg_fld (pv 0) (K := K) rfl) (pgs_cons (pg_fld (pv 0) (K := K) rfl) pgs_nil))))))), ?_⟩
  obtain ⟨na, hx, lt⟩ := id hb.na
  obtain ⟨nw, ⟨as, p1, p2⟩, us, u1, u2⟩ := lt
  obtain ⟨kvs, s1, s2⟩ := id hb.sv
  have k1 := kit_is (K := K) (Ky.mem (H := H) (.str nm)) (T := "str") (by decide)
  refine ⟨_, rfl, _, _, _, .type "str", _, rfl, .ty "str", (Ky.str (H := H) nm).ty, k1, _, rfl, iteF ?_⟩
  refine ⟨_, rfl, _, rfl, z.x, CB, z.dx, _, _, rfl, hx, BC.cl, BC.n5, bk_saved, z.sv, _, rfl, DGet.k (k := .inr nm) s1, _, rfl, ?_⟩
  rcases paired_get SnapT.key nm s2 with ⟨g1, g2⟩ | ⟨v, b', g1, g2, g3, g4⟩
  · rw [g2] at q
    rw [g1]
    exact iteT (q _ (Wd.refl H))
  rw [g2] at q
  rw [g1]
  refine iteF ?_
  obtain ⟨_, a, na', p, u, ev, ha, lt', hp, hu'⟩ := g3
  cases ev
  obtain ⟨nw', ⟨as', p1', p2'⟩, us', u1', u2'⟩ := lt'
  obtain ⟨z1, z2⟩ := hS _ g4
  have lp : as'.length = b'.past.length := by have := p2'.length; rw [ents_len] at this; exact this
  have lu : us'.length = b'.und.length := by have := u2'.length; rw [List.length_map] at this; exact this
  have w0 := hb.start hx p1 u1
  refine ⟨_, rfl, z.x, CB, z.dx, _, _, rfl, hx, BC.cl, BC.n5, bk_saved, _, rfl, z.sv, _, rfl, by rw [← g1]; exact DGet.k (k := .inr nm) s1, a, _, rfl, SqT.of ha, rfl, _, _, rfl, _, rfl, z.x, CB, z.dx, _, rfl, hx, BC.cl, BC.n2, (by show 5 < 1000; decide), ?_⟩
  rw [bk_putNow]
  have w1 := w0.put 0 (.ins CB z.dx (bkF z na')) rfl (fun _ q => by cases q)
  have nx1 : ∀ {a : Addr} {xs : List V}, H a = some (.lst xs) → a ≠ z.x := fun e h => by rw [h, hx] at e; cases e
  have p3 : upd H z.x (.ins CB z.dx (bkF z na')) p = some (.lst (as'.map V.ref)) := by rw [upd_ne (nx1 p1')]; exact p1'
  have u3 : upd H z.x (.ins CB z.dx (bkF z na')) u = some (.lst (us'.map V.ref)) := by rw [upd_ne (nx1 u1')]; exact u1'
  refine ⟨_, _, rfl, _, _, rfl, rfl, _, rfl, p, _, rfl, .inl (SqL.of p3), fun pn hpn => ?_⟩
  have w2 := w1.new (.lst (as'.map V.ref)) hpn
  refine ⟨_, rfl, u, _, rfl, .inl (SqL.of ((upd_ne (ne_of_none u3 hpn)).trans u3)), fun un hun => ?_⟩
  have w3 := w2.new (.lst (us'.map V.ref)) hun
  refine ⟨(by show 2 ≤ sizeLine; decide), fun t ht => ?_⟩
  have w4 := w3.new (.tup [V.ref pn, V.ref un]) ht
  refine ⟨t, _, rfl, SqT.of (w4.get 0 rfl), rfl, _, _, rfl, _, rfl, z.x, CB, z.dx, _, rfl, w4.get 3 rfl, BC.cl, BC.n3, (by show 5 < 1000; decide), ?_⟩
  rw [bk_putPast]
  have w5 := w4.put 3 (.ins CB z.dx (bkF { z with pl := pn } na')) rfl (fun _ q => by cases q)
  refine ⟨_, _, rfl, _, rfl, z.x, CB, z.dx, _, rfl, w5.get 3 rfl, BC.cl, BC.n4, (by show 5 < 1000; decide), ?_⟩
  rw [bk_putUnd]
  have w6 := w5.put 3 (.ins CB z.dx (bkF { z with pl := pn, ul := un } na')) rfl (fun _ q => by cases q)
  exact ⟨rfl, q _ (hb.step pn un na' (w6.sub (List.nil_sublist _)) (w6.get 3 rfl) ⟨nw'.keep w6.tups, ⟨as', w6.get 2 rfl, paired_imp (fun _ _ e => e.keep w6.tups) p2'⟩, us', w6.get 1 rfl, paired_imp (fun _ _ e => e.keep w6.tups) u2'⟩ (.inr (w1.free _ hpn)) (.inr (w2.free _ hun)) (ne_of_none (w2.get 0 rfl) hun))⟩
end
end Br

namespace Br
open PySem PySem.Spec PyProof.Rows L2
theorem lc_str {x : Str} {g : TG} {tt : TT} {te : TE} {vs : List Nat} {σ : L2.St} {H1 : Hp} {D : Addr} {Qd : Hp → Prop} (Pv : Nat → Hp → Prop) (h0 : Pv 0 (upd H1 D (.lst [])))
    (hs : ∀ i c H, x.cps[i]? = some c → Pv i H → g (.str ⟨#[c]⟩) (wipe σ vs) H fun σ2 H2 => wipe σ2 vs = wipe σ vs ∧ tt σ2 H2 fun b H3 =>
      if b = true then te σ2 H3 fun y H4 => ∃ acc, H4 D = some (.lst acc) ∧ acc.length < sizeLine ∧ Pv (i + 1) (upd H4 D (.lst (acc ++ [y]))) else Pv (i + 1) H3) (hd : ∀ H, Pv x.cps.size H → Qd H) :
    ∃ W : Nat → Nat → Hp → Prop, (∃ m, W 0 m (upd H1 D (.lst []))) ∧ ∀ i m H, W i m H →
      ((Its x).stop i H ∧ Qd H) ∨ ((Its x).go i H ∧ ∃ Nx : Hp → Prop, (∀ H', Nx H' → ∃ m', m' < m ∧ W (i + 1) m' H') ∧ ∀ v H', (Its x).yld i H v H' → g v (wipe σ vs) H' fun σ2 H2 => wipe σ2 vs = wipe σ vs ∧ tt σ2 H2 fun b H3 =>
        if b = true then te σ2 H3 fun y H4 => ∃ acc, H4 D = some (.lst acc) ∧ acc.length < sizeLine ∧ Nx (upd H4 D (.lst (acc ++ [y]))) else Nx H3) := by
  refine ⟨fun i m H => m = x.cps.size - i ∧ i ≤ x.cps.size ∧ Pv i H, ⟨x.cps.size, by simp, Nat.zero_le _, h0⟩, ?_⟩
  rintro i m H ⟨rfl, hi, p⟩
  by_cases hlt : i < x.cps.size
  · refine .inr ⟨hlt, Pv (i + 1), fun H' p' => ⟨x.cps.size - (i + 1), by omega, rfl, hlt, p'⟩, fun v H' y => ?_⟩
    obtain ⟨e, c, hc, ev⟩ := y
    subst e
    subst ev
    exact hs i c H' hc p
  · have : i = x.cps.size := by omega
    subst this
    exact .inl ⟨Nat.le_refl _, hd H p⟩
section
variable {P : Program} {w : World} {K : PySem.W.Frag} {mg : Str → Option Value} {base : Heap} {CB CX : Addr}
def NmOk (nm : Str) : Prop := (∀ c ∈ nm.cps.toList, c ∈ ("abcdefghijklmnopqrstuvwxyz" : Str).cps.toList) ∧ 1 ≤ nm.length ∧ nm.length ≤ 8
abbrev sBook_save : Stmt := inClass (topS 61) 14
theorem scBook_save : FnScope ["self", "name", "letter"] ["self", "name"] (defScope sBook_save) := ⟨rfl, rfl, rfl, by decide +kernel, rfl, by decide +kernel, by decide +kernel⟩
def spSave (CB : Addr) : Sp := fun vs H Q E => ∃ (z : Bz) (r : Rota) (b : Bst) (S : List (Str × Bst)) (nm : Str), vs = [.ref z.x, .str nm] ∧ NmOk nm ∧ BkAt CB z r b S H ∧ b.past.length ≤ 1000 ∧ b.und.length ≤ 1000 ∧ S.length ≤ 1000 ∧ ∀ H', BStep CB z r b (putS nm b S) H H' → Q .non H'
theorem me_save (D : MethAt K CB "save" "Book.save" sBook_save ["self", "name"]) (T : Bi mg) (BC : BkCls K CB) (EP_InvalidName : ExPl K mg "InvalidName" CX) (cL : ∃ t, mg "LETTERS" = some (.str "abcdefghijklmnopqrstuvwxyz" t)) (cM : ∃ t, mg "MAX_LETTERS" = some (.int 8 t)) :
    MeX P w K mg base 1 CB "save" ["self", "name"] (spSave CB) := D.meX fun f fd F => by
  have nd := scBook_save.nd
  obtain ⟨t1, c_LETTERS⟩ := cL
  obtain ⟨t2, c_MAX_LETTERS⟩ := cM
  refine F.okX scBook_save (fun vs H Q E h => ?_) (fun cdv A outer s H vs Q E hr h => ?_)
  · obtain ⟨z, r, b, S, nm, rfl, _⟩ := h; rfl
  obtain ⟨z, r, b, S, nm, rfl, ⟨n1, n2, n3⟩, hb, hz1, hz2, hz3, q⟩ := h
  have hu := hr.units
  refine ⟨_, (pss_cons (ps_if (PW.pt (pw_or (pt_not (pt_val (pe_callB call_isi (by rfl) T.isinstance (by decide +kernel) (pa_cons (pv 1) (pa_cons (pe_bltn (v := .ty "str") (by rfl) T.str (by decide +kernel) rfl) pa_nil))))) (pw_or1 (pt_not (pt_chain op_le op_le pe_int (pe_callB call_len_str (by rfl) T.len PySem.boot_len (pa_cons (pv 1) pa_nil)) (pe_glob (v := .int 8) (by rfl) c_MAX_LETTERS ⟨_, rfl⟩))))))
 (pss_one (ps_raise rfl (takes_of rfl rfl rfl rfl) (pmk_own PySem.F.excBase_ValueError EP_InvalidName.q EP_InvalidName.g EP_InvalidName.k EP_InvalidName.r (by rfl))))
 pss_nil)
 (pss_cons (ps_if (pt_not (pt_val (pe_callB (r := L2.rAll K) (cr_all rfl) (by rfl) T.all (by decide +kernel) (pa_cons (pe_lc (own := [("letter", 2)]) rfl nd (pi_str (pv 1)) (blkOk_by (N := ["self", "name", "letter"]) (sc := defScope sBook_save) (by decide +kernel)) (fun _ _ _ _ _ => (pg_name (i := 2) nd rfl (Or.inl rfl))) (fun _ _ _ _ _ => pts_nil) (fun _ _ _ _ _ => (pe_cmpR op_in_sign (pv 2) (pe_glob (v := .str "abcdefghijklmnopqrstuvwxyz") (by rfl) c_LETTERS ⟨_, rfl⟩) (by rfl)))) pa_nil))))
 (pss_one (ps_raise rfl (takes_of rfl rfl rfl rfl) (pmk_own PySem.F.excBase_ValueError EP_InvalidName.q EP_InvalidName.g EP_InvalidName.k EP_InvalidName.r (by rfl))))
 pss_nil)
 (pss_one (ps_asg (pe_tup (pa_cons (pe_fldK (K := K) rfl (pv 0) rfl) (pa_cons (pe_callTy (r := rListOf K) call_list_of (by rfl) T.list (by decide +kernel) (pa_cons (pe_fldK (K := K) rfl (pv 0) rfl) pa_nil)) (pa_cons (pe_callTy (r := rListOf K) call_list_of (by rfl) T.list (by decide +kernel) (pa_cons (pe_fldK (K := K) rfl (pv 0) rfl) pa_nil)) pa_nil)))) (pg_sub (pe_fldK (K := K) rfl (pv 0) rfl) (pv 1) (set_dict2 hu)))))), ?_⟩
  obtain ⟨na, hx, lt⟩ := id hb.na
  obtain ⟨nw, ⟨as, p1, p2⟩, us, u1, u2⟩ := id lt
  obtain ⟨kvs, s1, s2⟩ := id hb.sv
  have k1 := kit_is (K := K) (Ky.mem (H := H) (.str nm)) (T := "str") (by decide)
  refine ⟨_, rfl, _, _, _, .type "str", _, rfl, .ty "str", (Ky.str (H := H) nm).ty, k1, _, rfl, iteF ?_⟩
  refine ⟨_, rfl, nm, rfl, le_line (by omega), _, _, rfl, rfl, _, rfl, ?_⟩
  rw [decide_eq_true (show (1 : Int) ≤ (nm.length : Int) by omega)]
  refine iteT ⟨_, _, rfl, rfl, _, rfl, ?_⟩
  rw [decide_eq_true (show (nm.length : Int) ≤ 8 by omega)]
  refine iteF ?_
  refine ⟨_, rfl, nm, rfl, fun D hD => ?_⟩
  refine lc_str (fun i H2 => ∃ bs : List Bool, bs.length = i ∧ bs.all id = true ∧ Wd [] H H2 [(D, .lst (bs.map V.bl))]) ⟨[], rfl, rfl, (Wd.refl H).new _ hD⟩ ?_ ?_
  · rintro i c H2 hc ⟨bs, hl, ha, w2⟩
    refine ⟨rfl, _, rfl, c, _, rfl, rfl, _, w2.get 0 rfl, ?_, ?_⟩
    · have : i < nm.cps.size := (Array.getElem?_eq_some_iff.mp hc).1
      have e : nm.length = nm.cps.size := rfl
      rw [List.length_map]; exact lt_line (by omega)
    · have hm : c ∈ nm.cps.toList := by
        rw [← Array.getElem?_toList] at hc
        exact List.mem_of_getElem? hc
      rw [decide_eq_true (n1 c hm)]
      refine ⟨bs ++ [true], by rw [List.length_append, hl]; rfl, by rw [List.all_append, ha]; rfl, ?_⟩
      rw [List.map_append]; exact w2.app0 _
  rintro H2 ⟨bs, hl, ha, w2⟩
  refine ⟨D, bs, rfl, SqL.of (w2.get 0 rfl), ?_⟩
  rw [ha]
  refine ⟨_, rfl, iteF ?_⟩
  have hb2 := hb.keep0 w2
  clear s1 s2 u1 u2 p1 p2 nw lt hx
  obtain ⟨na, hx, lt⟩ := id hb2.na
  obtain ⟨nw, ⟨as, p1, p2⟩, us, u1, u2⟩ := id lt
  obtain ⟨kvs, s1, s2⟩ := id hb2.sv
  have w3 := Wd.start1 s1
  have vx : ∀ {a : Addr} {o : HO}, H2 a = some o → (∀ q, o ≠ .dK q) → a ≠ z.sv := fun e n h => by rw [h, s1] at e; exact n _ (Option.some.inj e).symm
  refine ⟨_, rfl, z.x, CB, z.dx, _, _, rfl, hx, BC.cl, BC.n2, bk_now, _, rfl, z.x, CB, z.dx, _, _, rfl, hx, BC.cl, BC.n3, bk_past, z.pl, _, rfl, .inl (SqL.of p1), fun pn hpn => ?_⟩
  have w4 := w3.new (.lst (as.map V.ref)) hpn
  have hx4 : upd H2 pn (.lst (as.map V.ref)) z.x = _ := (upd_ne (ne_of_none hx hpn)).trans hx
  have u4 : upd H2 pn (.lst (as.map V.ref)) z.ul = _ := (upd_ne (ne_of_none u1 hpn)).trans u1
  refine ⟨_, rfl, z.x, CB, z.dx, _, _, rfl, hx4, BC.cl, BC.n4, bk_undone, z.ul, _, rfl, .inl (SqL.of u4), fun un hun => ⟨(by show 3 ≤ sizeLine; decide), fun t ht => ?_⟩⟩
  have w5 := w4.new (.lst (us.map V.ref)) hun
  have w6 := w5.new (.tup [V.ref na, V.ref pn, V.ref un]) ht
  have hx6 := w6.base _ _ (by simpa using vx hx (by intro q z; cases z)) hx
  have lk : kvs.length = S.length := s2.length
  refine ⟨_, rfl, z.x, CB, z.dx, _, _, rfl, hx6, BC.cl, BC.n5, bk_saved, _, rfl, z.sv, _, rfl, DPut.k (k := .inr nm) (w6.get 3 rfl) (lt_line (by omega)), ?_⟩
  have w7 := w6.put 3 (.dK (putK kvs (.inr nm) (.ref t))) rfl (fun _ q => by cases q)
  have fpn : H2 pn = none := hpn
  have fun' : H2 un = none := w4.free _ hun
  have mu : Mu H2 [z.sv] := fun a ha => by rw [List.mem_singleton.mp ha, s1]; exact ⟨fun _ => by simp, fun _ _ => by simp⟩
  have sm : ∀ a, H2 a ≠ none → a ≠ z.sv → upd (upd (upd (upd H2 pn (.lst (as.map V.ref))) un (.lst (us.map V.ref))) t (.tup [V.ref na, V.ref pn, V.ref un])) z.sv (.dK (putK kvs (.inr nm) (.ref t))) a = H2 a := fun a h1 h2 => w7.same h1 (by simpa using h2)
  have aown : ∀ a ∈ z.own, H2 a ≠ none := hb2.al
  have sx : ∀ a ∈ z.sn, a ≠ z.sv := fun a ha h => by obtain ⟨xs, e⟩ := hb2.sl a ha; rw [h, s1] at e; cases e
  have e7p := w7.get 2 rfl
  have e7u := w7.get 1 rfl
  have e7t := w7.get 0 rfl
  have e7s := w7.get 3 rfl
  refine q _ (BStep.after (w2.sub (List.nil_sublist _)) ?_)
  refine ⟨{ z with sn := pn :: un :: z.sn }, rfl, (w7.mono fun a ha => by rw [List.mem_singleton.mp ha]; simp [Bz.own]).sub (List.nil_sublist _), fun a ha => ?_, ?_⟩
  · simp only [Bz.own, List.mem_cons] at ha ⊢
    rcases ha with h | h | h | h | h | h | h
    · simp [h]
    · simp [h]
    · simp [h]
    · simp [h]
    · rw [h]; exact .inr fpn
    · rw [h]; exact .inr fun'
    · simp [h]
  refine ⟨⟨na, (sm _ (aown _ (by simp [Bz.own])) (vx hx (by intro q z; cases z))).trans hx, lt.keep w7.tups (sm _ (aown _ (by simp [Bz.own])) (vx p1 (by intro q z; cases z))) (sm _ (aown _ (by simp [Bz.own])) (vx u1 (by intro q z; cases z)))⟩, hb2.ro.keepM w7 mu,
    ⟨_, e7s, paired_put SnapT.key ⟨rfl, t, na, pn, un, rfl, e7t, ⟨nw.keep w7.tups, ⟨as, e7p, paired_imp (fun _ _ e => e.keep w7.tups) p2⟩, us, e7u, paired_imp (fun _ _ e => e.keep w7.tups) u2⟩, by simp, by simp⟩ (paired_imp (fun _ _ e => e.keep w7.tups (fun a h => by simp [h]) fun a ha => sm a (aown a (by simp [Bz.own, ha])) (sx a ha)) s2)⟩,
    hb2.ne, ⟨?_, ?_⟩, fun a ha => ?_, ?_, fun a ha => ?_⟩
  · simp only [List.mem_cons, not_or]
    exact ⟨fun h => (by rw [h, fpn] at p1; cases p1), fun h => (by rw [h, fun'] at p1; cases p1), hb2.nn.1⟩
  · simp only [List.mem_cons, not_or]
    exact ⟨fun h => (by rw [h, fpn] at u1; cases u1), fun h => (by rw [h, fun'] at u1; cases u1), hb2.nn.2⟩
  · simp only [Bz.own, List.mem_cons] at ha
    rcases ha with h | h | h | h | h | h | h
    · rw [h]; exact w7.sure (aown _ (by simp [Bz.own]))
    · rw [h]; exact w7.sure (aown _ (by simp [Bz.own]))
    · rw [h]; exact w7.sure (aown _ (by simp [Bz.own]))
    · rw [h]; exact w7.sure (aown _ (by simp [Bz.own]))
    · rw [h, e7p]; simp
    · rw [h, e7u]; simp
    · exact w7.sure (aown _ (by simp [Bz.own, h]))
  · simp only [List.mem_cons, not_or]
    exact ⟨fun h => (by rw [h, fpn] at hx; cases hx), fun h => (by rw [h, fun'] at hx; cases hx), hb2.xn⟩
  · simp only [List.mem_cons] at ha
    rcases ha with h | h | h
    · exact ⟨_, by rw [h]; exact e7p⟩
    · exact ⟨_, by rw [h]; exact e7u⟩
    · obtain ⟨xs, e⟩ := hb2.sl a h
      exact ⟨xs, (sm a (aown a (by simp [Bz.own, h])) (sx a h)).trans e⟩
end
end Br

namespace Br
open PySem PySem.Spec PyProof.Rows L2
section
variable {P : Program} {w : World} {K : PySem.W.Frag} {mg : Str → Option Value} {base : Heap} {CB CU CC CN : Addr}
theorem owes_set {o : List Int} {p x : Int} (h0 : 0 ≤ p) (h1 : p.toNat < o.length) : owes (o.set p.toNat x) p = x := by
  unfold owes
  rw [List.getD_eq_getElem?_getD, List.getElem?_set_self h1]; rfl
abbrev sBook_gift : Stmt := inClass (topS 61) 5
theorem scBook_gift : FnScope ["self", "name", "person", "spot", "owed", "tick", "doers"] ["self", "name"] (defScope sBook_gift) := ⟨rfl, rfl, rfl, by decide +kernel, rfl, by decide +kernel, by decide +kernel⟩
def spGift (CB CU CN : Addr) : Sp := fun vs H Q E => ∃ (z : Bz) (r : Rota) (b : Bst) (S : List (Str × Bst)) (v : V) (t : String), vs = [.ref z.x, v] ∧ ROk r ∧ BOk r b ∧ BkAt CB z r b S H ∧ Ky H v t ∧ b.past.length ≤ 1000 ∧ b.now.d.length ≤ 50000 ∧
  match personOf r v with
  | none => ∀ H', Wd [] H H' [] → E (.ref CU) none H'
  | some p => (p ∉ homes r b.now.t → ∀ H', Wd [] H H' [] → E (.ref CN) none H') ∧ (p ∈ homes r b.now.t → ∀ H', BStep CB z r (recB "gift" b (giftN p b.now)) S H H' → Q (.int (less (owes b.now.o p))) H')
theorem me_gift (D : MethAt K CB "gift" "Book.gift" sBook_gift ["self", "name"]) (T : Bi mg) (BC : BkCls K CB) (cG : ∃ t, mg "GIFT" = some (.str "gift" t)) (EP_NobodyHome : ExPl K mg "NobodyHome" CN)
    (C1 : CalX P w K mg base 1 "person_number" ["parsed", "name"] (spPersonN CU)) (C2 : Cal P w K mg base 2 "home_people" ["parsed", "tick"] spHomes) (C3 : MeAt P w K mg base 1 CB "record" ["self", "word", "now"] (spRecord CB)) :
    MeX P w K mg base 3 CB "gift" ["self", "name"] (spGift CB CU CN) := D.meX fun f fd F => by
  have nd := scBook_gift.nd
  have cl_Book := BC.cl
  obtain ⟨tG, c_GIFT⟩ := cG
  obtain ⟨f1, fd1, m_person_number, kp_person_number, b_person_number, G_person_number⟩ := C1.ex
  obtain ⟨f2, fd2, m_home_people, kp_home_people, b_home_people, G_home_people⟩ := C2.ex
  obtain ⟨f3, fd3, me_record, b_record, G_record⟩ := C3.ex
  refine F.okX scBook_gift (fun vs H Q E h => ?_) (fun cdv A outer s H vs Q E hr h => ?_)
  · obtain ⟨z, r, b, S, v, t, rfl, _⟩ := h; rfl
  obtain ⟨z, r, b, S, v, t, rfl, ok, bo, hb, kv, hl, hl2, q⟩ := h
  refine ⟨_, (pss_cons (ps_set (i := 2) nd rfl (Or.inl rfl) (pe_call G_person_number (hr.mono (by first | decide | omega)) (by rfl) m_person_number kp_person_number b_person_number .nil (passes_call (takes_of rfl rfl rfl rfl) (fun _ _ _ _ h => h)) (pa_cons (pe_fldK (K := K) rfl (pv 0) rfl) (pa_cons (pv 1) pa_nil))))
 (pss_cons (ps_asg (pe_fldK (K := K) rfl (pv 0) rfl) (pg_tupK (K := K) (n := 3) rfl rfl (pgs_cons (pg_tupK (K := K) (n := 2) rfl rfl (pgs_cons (pg_name (i := 3) nd rfl (Or.inl rfl)) (pgs_cons (pg_name (i := 4) nd rfl (Or.inl rfl)) pgs_nil))) (pgs_cons (pg_name (i := 5) nd rfl (Or.inl rfl)) (pgs_cons (pg_name (i := 6) nd rfl (Or.inl rfl)) pgs_nil)))))
 (pss_cons (ps_if (pt_cmpR (r := rIn K true) op_notIn_seq (pv 2) (pe_call G_home_people (hr.mono (by first | decide | omega)) (by rfl) m_home_people kp_home_people b_home_people .nil pass0 (pa_cons (pe_fldK (K := K) rfl (pv 0) rfl) (pa_cons (pv 5) pa_nil))) (by rfl))
 (pss_one (ps_raise rfl (takes_of rfl rfl rfl rfl) (pmk_own PySem.F.excBase_ValueError EP_NobodyHome.q EP_NobodyHome.g EP_NobodyHome.k EP_NobodyHome.r (by rfl))))
 pss_nil)
 (pss_cons (ps_set (i := 4) nd rfl (Or.inl rfl) (pe_op (r := rCatA K) op_catA (pe_op (r := rCatA K) op_catA (pe_slice (r := rSlA K) sl_tupA (pv 4) po_none (po_some (pv 2))) (pe_tup (pa_cons (pe_callB (call_max2 rfl) (by rfl) T.max (by decide +kernel) (pa_cons pe_int (pa_cons (pe_op op_sub (pe_ix (r := rIxT K) ix_tup (pv 4) (pv 2) (fun _ _ => rfl)) pe_int) pa_nil))) pa_nil))) (pe_slice (r := rSlA K) sl_tupA (pv 4) (po_some (pe_op op_add (pv 2) pe_int)) po_none)))
 (pss_cons (ps_expr (pe_meth (pv 0) cl_Book me_record G_record (hr.mono (by first | decide | omega)) b_record .nil pass0 (pa_cons (pe_glob (v := .str "gift") (by rfl) c_GIFT ⟨_, rfl⟩) (pa_cons (pe_tup (pa_cons (pe_tup (pa_cons (pv 3) (pa_cons (pv 4) pa_nil))) (pa_cons (pe_op op_add (pv 5) pe_int) (pa_cons (pe_op (r := rCatA K) op_catA (pv 6) (pe_tup (pa_cons (pv 2) pa_nil))) pa_nil)))) pa_nil))))
 (pss_one (ps_ret (pe_ix (r := rIxT K) ix_tup (pv 4) (pv 2) (fun _ _ => rfl))))))))), ?_⟩
  obtain ⟨na, hx, lt⟩ := id hb.na
  obtain ⟨st, dd, n1, ⟨ob, n2, n2'⟩, n3⟩ := lt.now
  refine ⟨_, rfl, z.x, CB, z.dx, _, _, rfl, hx, BC.cl, BC.n1, bk_parsed, _, rfl, z.p, r, v, t, rfl, hb.ro, ok, kv, ?_⟩
  cases hp : personOf r v with
  | none => rw [hp] at q; exact q
  | some p =>
  rw [hp] at q
  obtain ⟨q1, q2⟩ := q
  obtain ⟨hp0, hp1, _⟩ := personOf_in hp
  have ol := bo.now.o.len
  intro H1 w1
  refine ⟨_, rfl, z.x, CB, z.dx, _, _, rfl, w1.old hx (by simp), BC.cl, BC.n2, bk_now, na, _, rfl, SqT.of (w1.tups _ _ n1), rfl, _, _, rfl, ?_⟩
  refine ⟨st, _, rfl, SqT.of (w1.tups _ _ n2), rfl, _, _, rfl, _, _, rfl, rfl, _, _, rfl, _, _, rfl, rfl, ?_⟩
  have hb1 := hb.keep0 w1
  refine ⟨_, rfl, _, rfl, z.x, CB, z.dx, _, _, rfl, w1.old hx (by simp), BC.cl, BC.n1, bk_parsed, _, rfl, z.p, r, _, rfl, hb1.ro, ok, fun H2 hs w2 => ?_⟩
  have w3 := w1.call0 w2
  refine ⟨hs, _, rfl, .inl (SqL.of (w3.get 0 rfl)), rfl, flat_ints _, _, rfl, ?_⟩
  rw [if_pos rfl, inV_ints]
  by_cases hm : p ∈ homes r b.now.t
  · rw [decide_eq_true hm]
    refine iteF ?_
    have w4 := w3.sub (List.nil_sublist _)
    have eo : atI (b.now.o.map V.int) p = some (.int (owes b.now.o p)) := owes_V hp0 (by omega)
    refine ⟨_, rfl, _, rfl, _, rfl, slA_any (w4.tups _ _ n2') fun H3 p1 w5 g1 => ?_⟩
    rw [cut_take _ hp0] at g1
    refine ⟨_, rfl, _, rfl, ob, _, p, _, rfl, rfl, SqT.of (w5.tups _ _ (w4.tups _ _ n2')), eo, _, _, rfl, rfl, _, _, rfl, (by show 1 ≤ sizeLine; decide), fun p2 hp2 => ?_⟩
    have w6 := w4.call0 w5
    have w7 := w6.new (.tup [V.int (less (owes b.now.o p))]) hp2
    have v7 := (Wd.refl H3).new (.tup [V.int (less (owes b.now.o p))]) hp2
    refine catA_any (v7.tups _ _ g1) (w7.get 0 rfl) (by rw [List.length_take, List.length_map]; simp only [List.length_cons, List.length_nil]; have := ok.n6; omega) fun H4 p3 w8 g3 => ?_
    have w9 := w7.call0 w8
    refine ⟨_, rfl, _, rfl, _, _, rfl, rfl, _, rfl, ?_⟩
    dsimp only [tNoPart]
    refine slA_any (w9.tups _ _ n2') fun H5 p4 w10 g4 => ?_
    rw [cut_drop _ (by omega)] at g4
    have w11 := w9.call0 w10
    refine catA_any (w10.tups _ _ g3) g4 (by rw [List.length_append, List.length_take, List.length_drop, List.length_map]; simp only [List.length_cons, List.length_nil]; have := ok.n6; omega) fun H6 p5 w12 g5 => ?_
    have w13 := w11.call0 w12
    rw [show (p + 1).toNat = p.toNat + 1 by omega, set_split (by rw [List.length_map]; omega), ← List.map_set] at g5
    -- record
    refine ⟨_, rfl, z.x, z.dx, _, rfl, w13.old hx (by simp), bk_none (by decide +kernel), _, rfl, _, rfl, (by show 2 ≤ sizeLine; decide), fun a1 ha1 => ?_⟩
    have w14 := w13.new (.tup [V.int (b.now.s : Int), V.ref p5]) ha1
    refine ⟨_, rfl, _, _, rfl, rfl, _, rfl, _, rfl, (by show 1 ≤ sizeLine; decide), fun a2 ha2 => ?_⟩
    have w15 := w14.new (.tup [V.int p]) ha2
    refine catA_any (w15.tups _ _ n3) (w15.get 0 rfl) (by rw [List.length_map]; simp only [List.length_cons, List.length_nil]; omega) fun H7 dn w16 g7 => ?_
    have w17 := w15.call0 w16
    refine ⟨(by show 3 ≤ sizeLine; decide), fun nb hnb => ?_⟩
    have w18 := w17.new (.tup [V.ref a1, V.int ((b.now.t : Int) + 1), V.ref dn]) hnb
    have v18 := ((((Wd.refl H6).new (.tup [V.int (b.now.s : Int), V.ref p5]) ha1).new (.tup [V.int p]) ha2).call0 w16).new (.tup [V.ref a1, V.int ((b.now.t : Int) + 1), V.ref dn]) hnb
    have u18 := (Wd.refl H7).new (.tup [V.ref a1, V.int ((b.now.t : Int) + 1), V.ref dn]) hnb
    have hn : NowT _ nb (giftN p b.now) := ⟨a1, dn, w18.get 0 rfl, ⟨p5, w18.get 2 rfl, v18.tups _ _ g5⟩, by rw [u18.tups _ _ g7]; show _ = some (HO.tup ((b.now.d ++ [some p]).map dV)); rw [List.map_append]; rfl⟩
    refine ⟨z, r, b, S, "gift", nb, giftN p b.now, rfl, hb.keep0 w18, hn, hl, fun H8 bs => ?_⟩
    have g8 : H8 p5 = some (.tup ((b.now.o.set p.toNat (less (owes b.now.o p))).map V.int)) := by
      obtain ⟨z', _, w19, _⟩ := bs
      exact w19.tups _ _ (v18.tups _ _ g5)
    refine ⟨_, rfl, _, rfl, p5, _, p, _, rfl, rfl, SqT.of g8, owes_V hp0 (by rw [List.length_set]; omega), ?_⟩
    rw [owes_set hp0 (by omega)]
    exact q2 hm _ (bs.after (w18.sub (List.nil_sublist _)))
  · rw [decide_eq_false hm]
    exact iteT (q1 hm _ (w3.sub (List.nil_sublist _)))
abbrev sBook_forgive : Stmt := inClass (topS 61) 6
theorem scBook_forgive : FnScope ["self", "name", "person", "spot", "owed", "tick", "doers", "left"] ["self", "name"] (defScope sBook_forgive) := ⟨rfl, rfl, rfl, by decide +kernel, rfl, by decide +kernel, by decide +kernel⟩
def spForgive (CB CU : Addr) : Sp := fun vs H Q E => ∃ (z : Bz) (r : Rota) (b : Bst) (S : List (Str × Bst)) (v : V) (t : String), vs = [.ref z.x, v] ∧ ROk r ∧ BOk r b ∧ BkAt CB z r b S H ∧ Ky H v t ∧ b.past.length ≤ 1000 ∧
  match personOf r v with
  | none => ∀ H', Wd [] H H' [] → E (.ref CU) none H'
  | some p => ∀ H', BStep CB z r (recB "forgive" b (forgiveN p b.now)) S H H' → Q (.int (owes b.now.o p)) H'
theorem me_forgive (D : MethAt K CB "forgive" "Book.forgive" sBook_forgive ["self", "name"]) (T : Bi mg) (BC : BkCls K CB) (cG : ∃ t, mg "FORGIVE" = some (.str "forgive" t))
    (C1 : CalX P w K mg base 1 "person_number" ["parsed", "name"] (spPersonN CU)) (C3 : MeAt P w K mg base 1 CB "record" ["self", "word", "now"] (spRecord CB)) :
    MeX P w K mg base 3 CB "forgive" ["self", "name"] (spForgive CB CU) := D.meX fun f fd F => by
  have nd := scBook_forgive.nd
  have cl_Book := BC.cl
  obtain ⟨tG, c_FORGIVE⟩ := cG
  obtain ⟨f1, fd1, m_person_number, kp_person_number, b_person_number, G_person_number⟩ := C1.ex
  obtain ⟨f3, fd3, me_record, b_record, G_record⟩ := C3.ex
  refine F.okX scBook_forgive (fun vs H Q E h => ?_) (fun cdv A outer s H vs Q E hr h => ?_)
  · obtain ⟨z, r, b, S, v, t, rfl, _⟩ := h; rfl
  obtain ⟨z, r, b, S, v, t, rfl, ok, bo, hb, kv, hl, q⟩ := h
  refine ⟨_, (pss_cons (ps_set (i := 2) nd rfl (Or.inl rfl) (pe_call G_person_number (hr.mono (by first | decide | omega)) (by rfl) m_person_number kp_person_number b_person_number .nil (passes_call (takes_of rfl rfl rfl rfl) (fun _ _ _ _ h => h)) (pa_cons (pe_fldK (K := K) rfl (pv 0) rfl) (pa_cons (pv 1) pa_nil))))
 (pss_cons (ps_asg (pe_fldK (K := K) rfl (pv 0) rfl) (pg_tupK (K := K) (n := 3) rfl rfl (pgs_cons (pg_tupK (K := K) (n := 2) rfl rfl (pgs_cons (pg_name (i := 3) nd rfl (Or.inl rfl)) (pgs_cons (pg_name (i := 4) nd rfl (Or.inl rfl)) pgs_nil))) (pgs_cons (pg_name (i := 5) nd rfl (Or.inl rfl)) (pgs_cons (pg_name (i := 6) nd rfl (Or.inl rfl)) pgs_nil)))))
 (pss_cons (ps_set (i := 7) nd rfl (Or.inl rfl) (pe_op (r := rCatA K) op_catA (pe_op (r := rCatA K) op_catA (pe_slice (r := rSlA K) sl_tupA (pv 4) po_none (po_some (pv 2))) (pe_tup (pa_cons pe_int pa_nil))) (pe_slice (r := rSlA K) sl_tupA (pv 4) (po_some (pe_op op_add (pv 2) pe_int)) po_none)))
 (pss_cons (ps_expr (pe_meth (pv 0) cl_Book me_record G_record (hr.mono (by first | decide | omega)) b_record .nil pass0 (pa_cons (pe_glob (v := .str "forgive") (by rfl) c_FORGIVE ⟨_, rfl⟩) (pa_cons (pe_tup (pa_cons (pe_tup (pa_cons (pv 3) (pa_cons (pv 7) pa_nil))) (pa_cons (pv 5) (pa_cons (pv 6) pa_nil)))) pa_nil))))
 (pss_one (ps_ret (pe_ix (r := rIxT K) ix_tup (pv 4) (pv 2) (fun _ _ => rfl)))))))), ?_⟩
  obtain ⟨na, hx, lt⟩ := id hb.na
  obtain ⟨st, dd, n1, ⟨ob, n2, n2'⟩, n3⟩ := lt.now
  refine ⟨_, rfl, z.x, CB, z.dx, _, _, rfl, hx, BC.cl, BC.n1, bk_parsed, _, rfl, z.p, r, v, t, rfl, hb.ro, ok, kv, ?_⟩
  cases hp : personOf r v with
  | none => rw [hp] at q; exact q
  | some p =>
  rw [hp] at q
  obtain ⟨hp0, hp1, _⟩ := personOf_in hp
  have ol := bo.now.o.len
  have n6 := ok.n6
  intro H1 w1
  refine ⟨_, rfl, z.x, CB, z.dx, _, _, rfl, w1.old hx (by simp), BC.cl, BC.n2, bk_now, na, _, rfl, SqT.of (w1.tups _ _ n1), rfl, _, _, rfl, ?_⟩
  refine ⟨st, _, rfl, SqT.of (w1.tups _ _ n2), rfl, _, _, rfl, _, _, rfl, rfl, _, _, rfl, _, _, rfl, rfl, ?_⟩
  refine ⟨_, rfl, _, rfl, _, rfl, slA_any (w1.tups _ _ n2') fun H3 p1 w5 g1 => ?_⟩
  rw [cut_take _ hp0] at g1
  refine ⟨(by show 1 ≤ sizeLine; decide), fun p2 hp2 => ?_⟩
  have w6 := w1.call0 w5
  have w7 := w6.new (.tup [V.int 0]) hp2
  have v7 := (Wd.refl H3).new (.tup [V.int 0]) hp2
  refine catA_any (v7.tups _ _ g1) (w7.get 0 rfl) (by rw [List.length_take, List.length_map]; simp only [List.length_cons, List.length_nil]; omega) fun H4 p3 w8 g3 => ?_
  have w9 := w7.call0 w8
  refine ⟨_, rfl, _, rfl, _, _, rfl, rfl, _, rfl, ?_⟩
  dsimp only [tNoPart]
  refine slA_any (w9.tups _ _ n2') fun H5 p4 w10 g4 => ?_
  rw [cut_drop _ (by omega)] at g4
  have w11 := w9.call0 w10
  refine catA_any (w10.tups _ _ g3) g4 (by rw [List.length_append, List.length_take, List.length_drop, List.length_map]; simp only [List.length_cons, List.length_nil]; omega) fun H6 p5 w12 g5 => ?_
  have w13 := w11.call0 w12
  rw [show (p + 1).toNat = p.toNat + 1 by omega, set_split (by rw [List.length_map]; omega), ← List.map_set] at g5
  refine ⟨_, rfl, z.x, z.dx, _, rfl, w13.old hx (by simp), bk_none (by decide +kernel), _, rfl, _, rfl, (by show 2 ≤ sizeLine; decide), fun a1 ha1 => ?_⟩
  have w14 := w13.new (.tup [V.int (b.now.s : Int), V.ref p5]) ha1
  refine ⟨_, rfl, _, rfl, (by show 3 ≤ sizeLine; decide), fun nb hnb => ?_⟩
  have w18 := w14.new (.tup [V.ref a1, V.int (b.now.t : Int), V.ref dd]) hnb
  have v18 := ((Wd.refl H6).new (.tup [V.int (b.now.s : Int), V.ref p5]) ha1).new (.tup [V.ref a1, V.int (b.now.t : Int), V.ref dd]) hnb
  have hn : NowT _ nb (forgiveN p b.now) := ⟨a1, dd, w18.get 0 rfl, ⟨p5, w18.get 1 rfl, v18.tups _ _ g5⟩, w18.tups _ _ n3⟩
  refine ⟨z, r, b, S, "forgive", nb, forgiveN p b.now, rfl, hb.keep0 w18, hn, hl, fun H8 bs => ?_⟩
  have g8 : H8 ob = some (.tup (b.now.o.map V.int)) := by
    obtain ⟨z', _, w19, _⟩ := bs
    exact w19.tups _ _ (w18.tups _ _ n2')
  refine ⟨_, rfl, _, rfl, ob, _, p, _, rfl, rfl, SqT.of g8, owes_V hp0 (by omega), ?_⟩
  exact q _ (bs.after (w18.sub (List.nil_sublist _)))
end
end Br

namespace Br
open PySem PySem.Spec PyProof.Rows L2
def bst0 (r : Rota) : Bst := ⟨now0 r, [], []⟩
theorem bst0_ok {r : Rota} (ok : ROk r) : BOk r (bst0 r) := ⟨now0_ok ok, fun _ h => (nomatch h), fun _ h => (nomatch h), trivial⟩
section
variable {P : Program} {w : World} {K : PySem.W.Frag} {mg : Str → Option Value} {base : Heap} {CB CU CC CN : Addr}
abbrev sBook___init__ : Stmt := inClass (topS 61) 0
theorem scBook___init__ : FnScope ["self", "rota"] ["self", "rota"] (defScope sBook___init__) := ⟨rfl, rfl, rfl, by decide +kernel, rfl, by decide +kernel, by decide +kernel⟩
def spBookI (CB : Addr) : Sp := fun vs H Q _ => ∃ (x dx : Addr) (z : Str) (r : Rota) (S : List Stm), vs = [.ref x, .str z] ∧ H x = some (.ins CB dx []) ∧ Says z r S ∧
  ∀ (zb : Bz) (H' : Hp), zb.x = x → Wd [x] H H' [] → (∀ a ∈ zb.own, a = x ∨ H a = none) → BkAt CB zb r (bst0 r) [] H' → Q .non H'
theorem mk_book (D : InitAt K mg "Book" "Book.__init__" CB sBook___init__ ["self", "rota"]) (BC : BkCls K CB) (C1 : Cal P w K mg base 6 "load" ["rota"] spLoad) (C2 : Cal P w K mg base 1 "first_state" ["parsed"] spFirst) :
    MkAt P w K mg base 7 "Book" CB ["self", "rota"] (spBookI CB) := D.mk' fun f fd F => by
  have nd := scBook___init__.nd
  obtain ⟨f1, fd1, m_load, kp_load, b_load, G_load⟩ := C1.ex
  obtain ⟨f2, fd2, m_first_state, kp_first_state, b_first_state, G_first_state⟩ := C2.ex
  refine F.ok scBook___init__ (fun vs H Q E h => ?_) (fun cdv A outer s H vs Q E hr h => ?_)
  · obtain ⟨x, dx, z, r, S, rfl, _⟩ := h; rfl
  obtain ⟨x, dx, z, r, S, rfl, hx, hz, q⟩ := h
  refine ⟨_, (pss_cons (ps_fld (pv 0) (pe_call G_load (hr.mono (by first | decide | omega)) (by rfl) m_load kp_load b_load .nil pass0 (pa_cons (pv 1) pa_nil)) rfl)
 (pss_cons (ps_fld (pv 0) (pe_tup (pa_cons (pe_call G_first_state (hr.mono (by first | decide | omega)) (by rfl) m_first_state kp_first_state b_first_state .nil pass0 (pa_cons (pe_fldK (K := K) rfl (pv 0) rfl) pa_nil)) (pa_cons pe_int (pa_cons (pe_tup pa_nil) pa_nil)))) rfl)
 (pss_cons (ps_fld (pv 0) (pe_lst pa_nil) rfl)
 (pss_cons (ps_fld (pv 0) (pe_lst pa_nil) rfl)
 (pss_one (ps_fld (pv 0) pe_dnewK rfl)))))), ?_⟩
  have ok := hz.ok
  have w0 := Wd.start1 hx
  refine ⟨_, rfl, z, r, S, rfl, hz, fun H1 pa c1 hR => ?_⟩
  have w1 := w0.call0 c1
  refine ⟨_, rfl, x, CB, dx, _, rfl, w1.get 0 rfl, BC.cl, BC.n1, (by show 0 < 1000; decide), ?_⟩
  have e1 : putF "parsed" (.ref pa) [] = [(("parsed" : Str), V.ref pa)] := rfl
  rw [e1]
  have w2 := w1.put 0 (.ins CB dx [(("parsed" : Str), V.ref pa)]) rfl (fun _ q => by cases q)
  have mux : ∀ {H' : Hp} {C d : Addr} {fs : List (Str × V)}, H' x = some (.ins C d fs) → Mu H' [x] := fun e a ha => by
    rw [List.mem_singleton.mp ha, e]; exact ⟨fun _ => by simp, fun _ _ => by simp⟩
  have v2 := ((Wd.start1 (w1.get 0 rfl)).put 0 (.ins CB dx [(("parsed" : Str), V.ref pa)]) rfl (fun _ q => by cases q))
  have hR2 := hR.keepM v2 (mux (w1.get 0 rfl))
  refine ⟨_, rfl, x, CB, dx, _, _, rfl, w2.get 0 rfl, BC.cl, BC.n1, look_eq, pa, r, rfl, hR2, ok, fun H3 st o c3 g1 g2 => ?_⟩
  have w3 := w2.call0 c3
  have hR3 := hR2.le c3.le
  refine ⟨Nat.zero_le _, fun e he => ⟨(by show 3 ≤ sizeLine; decide), fun na hna => ?_⟩⟩
  have w4 := (w3.new (.tup []) he).new (.tup [V.ref st, V.int 0, V.ref e]) hna
  have v4 := ((Wd.refl H3).new (.tup []) he).new (.tup [V.ref st, V.int 0, V.ref e]) hna
  have hR4 := hR3.le v4.le
  refine ⟨_, rfl, x, CB, dx, _, rfl, w4.get 2 rfl, BC.cl, BC.n2, (by show 1 < 1000; decide), ?_⟩
  have e2 : putF "now" (.ref na) [(("parsed" : Str), V.ref pa)] = [(("parsed" : Str), V.ref pa), ("now", .ref na)] := by rw [putF_ne (by decide +kernel)]; rfl
  rw [e2]
  have hn4 : NowT _ na (now0 r) := ⟨st, e, w4.get 0 rfl, ⟨o, v4.tups _ _ g1, v4.tups _ _ g2⟩, w4.get 1 rfl⟩
  have w5 := w4.put 2 (.ins CB dx [(("parsed" : Str), V.ref pa), ("now", .ref na)]) rfl (fun _ q => by cases q)
  have v5 := ((Wd.start1 (w4.get 2 rfl)).put 0 (.ins CB dx [(("parsed" : Str), V.ref pa), ("now", .ref na)]) rfl (fun _ q => by cases q))
  have hR5 := hR4.keepM v5 (mux (w4.get 2 rfl))
  have hn5 := hn4.keep v5.tups
  have w5' := w5.sub (l' := [(x, .ins CB dx [(("parsed" : Str), V.ref pa), ("now", .ref na)])]) (by walk_at "sub")
  generalize upd (upd (upd H3 e (.tup [])) na (.tup [V.ref st, V.int 0, V.ref e])) x (.ins CB dx [(("parsed" : Str), V.ref pa), ("now", .ref na)]) = H5 at w5' hR5 hn5 ⊢
  have wH : Wd [x] H5 H5 [(x, .ins CB dx [(("parsed" : Str), V.ref pa), ("now", .ref na)])] := Wd.start1 (w5'.get 0 rfl)
  have hx5 := w5'.get 0 rfl
  refine ⟨Nat.zero_le _, fun pl hpl => ?_⟩
  have a1 := wH.new (.lst []) hpl
  refine ⟨_, rfl, x, CB, dx, _, rfl, a1.get 1 rfl, BC.cl, BC.n3, (by show 2 < 1000; decide), ?_⟩
  have e3 : putF "past" (.ref pl) [(("parsed" : Str), V.ref pa), ("now", .ref na)] = [(("parsed" : Str), V.ref pa), ("now", .ref na), ("past", .ref pl)] := by rw [putF_ne (by decide +kernel), putF_ne (by decide +kernel)]; rfl
  rw [e3]
  have a2 := a1.put 1 (.ins CB dx [(("parsed" : Str), V.ref pa), ("now", .ref na), ("past", .ref pl)]) rfl (fun _ q => by cases q)
  refine ⟨Nat.zero_le _, fun ul hul => ?_⟩
  have a3 := a2.new (.lst []) hul
  refine ⟨_, rfl, x, CB, dx, _, rfl, a3.get 2 rfl, BC.cl, BC.n4, (by show 3 < 1000; decide), ?_⟩
  have e4 : putF "undone" (.ref ul) [(("parsed" : Str), V.ref pa), ("now", .ref na), ("past", .ref pl)] = [(("parsed" : Str), V.ref pa), ("now", .ref na), ("past", .ref pl), ("undone", .ref ul)] := by rw [putF_ne (by decide +kernel), putF_ne (by decide +kernel), putF_ne (by decide +kernel)]; rfl
  rw [e4]
  have a4 := a3.put 2 (.ins CB dx [(("parsed" : Str), V.ref pa), ("now", .ref na), ("past", .ref pl), ("undone", .ref ul)]) rfl (fun _ q => by cases q)
  intro sv hsv
  have a5 := a4.new (.dK []) hsv
  refine ⟨_, rfl, x, CB, dx, _, rfl, a5.get 3 rfl, BC.cl, BC.n5, (by show 4 < 1000; decide), ?_⟩
  let zb : Bz := ⟨x, dx, pa, sv, pl, ul, []⟩
  have e5 : putF "saved" (.ref sv) [(("parsed" : Str), V.ref pa), ("now", .ref na), ("past", .ref pl), ("undone", .ref ul)] = bkF zb na := by rw [putF_ne (by decide +kernel), putF_ne (by decide +kernel), putF_ne (by decide +kernel), putF_ne (by decide +kernel)]; rfl
  rw [e5]
  have a6 := a5.put 3 (.ins CB dx (bkF zb na)) rfl (fun _ q => by cases q)
  have nx : pl ≠ ul := ne_of_none (a2.get 0 rfl) hul
  have fr5 : ∀ {a : Addr}, H5 a = none → H a = none := fun h => w5'.free _ h
  refine q zb _ rfl ((w5'.sub (List.nil_sublist _)).fgo (a6.sub (List.nil_sublist _))) (fun a ha => ?_) ⟨⟨na, a6.get 3 rfl, hn5.keep a6.tups, ⟨[], a6.get 2 rfl, .nil⟩, [], a6.get 1 rfl, .nil⟩, hR5.keepM (a6.sub (List.nil_sublist _)) (mux hx5), ⟨[], a6.get 0 rfl, .nil⟩, nx, ⟨by simp [zb], by simp [zb]⟩, fun a ha => ?_, by simp [zb], fun a ha => by simp [zb] at ha⟩
  · simp only [Bz.own, zb, List.mem_cons, List.not_mem_nil, or_false] at ha
    rcases ha with rfl | rfl | rfl | rfl
    · exact .inl rfl
    · exact .inr (fr5 hpl)
    · exact .inr (fr5 (a2.free _ hul))
    · exact .inr (fr5 (a4.free _ hsv))
  · simp only [Bz.own, zb, List.mem_cons, List.not_mem_nil, or_false] at ha
    rcases ha with rfl | rfl | rfl | rfl
    · rw [a6.get 3 rfl]; simp
    · rw [a6.get 2 rfl]; simp
    · rw [a6.get 1 rfl]; simp
    · rw [a6.get 0 rfl]; simp
abbrev sBook_ticks : Stmt := inClass (topS 61) 10
theorem scBook_ticks : FnScope ["self"] ["self"] (defScope sBook_ticks) := ⟨rfl, rfl, rfl, by decide +kernel, rfl, by decide +kernel, by decide +kernel⟩
structure PrAt (P : Program) (w : World) (K : PySem.W.Frag) (mg : Str → Option Value) (base : Heap) (k : Nat) (C : Addr) (m : Str) (sp : Sp) : Prop where
  ex : ∃ (p g : Addr) (fd : FuncData), PropOf K C m p g ∧ FnOk P w K mg base CX0 k g fd ["self"] sp ∧ Binds K fd ["self"] []
structure PropAt (K : PySem.W.Frag) (C : Addr) (m q : Str) (st : Stmt) : Prop where
  ex : ∃ (p g : Addr) (fd : FuncData), PropOf K C m p g ∧ Fun K m q st g fd ∧ Binds K fd ["self"] []
theorem PropAt.pr {k : Nat} {C : Addr} {m q : Str} {st : Stmt} {sp : Sp} (D : PropAt K C m q st) (h : ∀ f fd, Fun K m q st f fd → FnOk P w K mg base CX0 k f fd ["self"] sp) : PrAt P w K mg base k C m sp := by
  obtain ⟨p, g, fd, pr, F, b⟩ := D.ex
  exact ⟨p, g, fd, pr, h g fd F, b⟩
def spTicks (CB : Addr) : Sp := fun vs H Q _ => ∃ (z : Bz) (r : Rota) (b : Bst) (S : List (Str × Bst)), vs = [.ref z.x] ∧ BkAt CB z r b S H ∧ Q (.int (b.now.t : Int)) H
theorem pr_ticks (D : PropAt K CB "ticks" "Book.ticks" sBook_ticks) (BC : BkCls K CB) : PrAt P w K mg base 1 CB "ticks" (spTicks CB) := D.pr fun f fd F => by
  have nd := scBook_ticks.nd
  refine F.ok scBook_ticks (fun vs H Q E h => ?_) (fun cdv A outer s H vs Q E hr h => ?_)
  · obtain ⟨z, r, b, S, rfl, _⟩ := h; rfl
  obtain ⟨z, r, b, S, rfl, hb, q⟩ := h
  refine ⟨_, (pss_one (ps_ret (pe_ix (r := rIxT K) ix_tup (pe_fldK (K := K) rfl (pv 0) rfl) pe_int (fun _ _ => rfl)))), ?_⟩
  obtain ⟨na, hx, lt⟩ := id hb.na
  obtain ⟨st, dd, n1, n2, n3⟩ := lt.now
  exact ⟨_, rfl, z.x, CB, z.dx, _, _, rfl, hx, BC.cl, BC.n2, bk_now, na, _, 1, _, rfl, rfl, SqT.of n1, rfl, q⟩
def spEntries (CB : Addr) : Sp := fun vs H Q _ => ∃ (z : Bz) (r : Rota) (b : Bst) (S : List (Str × Bst)), vs = [.ref z.x] ∧ BOk r b ∧ BkAt CB z r b S H ∧ b.now.d.length ≤ 1000 ∧ ∀ H' p, Wd [] H H' [(p, .lst (b.now.d.map (nameV r)))] → Q (.ref p) H'
abbrev sBook_operations : Stmt := inClass (topS 61) 13
theorem scBook_operations : FnScope ["self", "entry"] ["self"] (defScope sBook_operations) := ⟨rfl, rfl, rfl, by decide +kernel, rfl, by decide +kernel, by decide +kernel⟩
def spOps (CB : Addr) : Sp := fun vs H Q _ => ∃ (z : Bz) (r : Rota) (b : Bst) (S : List (Str × Bst)), vs = [.ref z.x] ∧ BkAt CB z r b S H ∧ b.past.length ≤ 1000 ∧ ∀ H' p, Wd [] H H' [(p, .lst (b.past.map fun e => V.str e.1))] → Q (.ref p) H'
theorem pr_operations (D : PropAt K CB "operations" "Book.operations" sBook_operations) (BC : BkCls K CB) : PrAt P w K mg base 1 CB "operations" (spOps CB) := D.pr fun f fd F => by
  have nd := scBook_operations.nd
  refine F.ok scBook_operations (fun vs H Q E h => ?_) (fun cdv A outer s H vs Q E hr h => ?_)
  · obtain ⟨z, r, b, S, rfl, _⟩ := h; rfl
  obtain ⟨z, r, b, S, rfl, hb, hl, q⟩ := h
  refine ⟨_, (pss_one (ps_ret (pe_lc (own := [("entry", 1)]) rfl nd (pi_listK (K := K) rfl (pe_fldK (K := K) rfl (pv 0) rfl)) (blkOk_by (N := ["self", "entry"]) (sc := defScope sBook_operations) (by decide +kernel)) (fun _ _ _ _ _ => (pg_name (i := 1) nd rfl (Or.inl rfl))) (fun _ _ _ _ _ => pts_nil) (fun _ _ _ _ _ => (pe_ix (r := rIxT K) ix_tup (pv 1) pe_int (fun _ _ => rfl)))))), ?_⟩
  obtain ⟨na, hx, lt⟩ := id hb.na
  obtain ⟨nw, ⟨as, p1, p2⟩, us, u1, u2⟩ := lt
  have le := ents_len b.past b.now
  have lp : as.length = b.past.length := by have := p2.length; omega
  refine ⟨_, rfl, z.x, CB, z.dx, _, _, rfl, hx, BC.cl, BC.n3, bk_past, z.pl, rfl, ⟨_, SqL.of p1⟩, fun D hD => ?_⟩
  refine lc_list (xs := as.map V.ref) (fun i H8 => Wd [] H H8 [(D, .lst (((ents b.past b.now).take i).map fun e => V.str e.1))]) ((Wd.refl H).new _ hD) (fun i H8 _ w9 => SqL.of (w9.old p1 (by simp))) (fun i x H8 hx8 w9 => ?_) (fun H8 w9 => ?_)
  · rw [List.getElem?_map] at hx8
    obtain ⟨a, ha, rfl⟩ := Option.map_eq_some_iff.mp hx8
    obtain ⟨e, he, e1, e2, e3, _⟩ := paired_at p2 ha
    refine ⟨rfl, _, rfl, a, _, 0, _, rfl, rfl, SqT.of (w9.tups _ _ e3), rfl, _, w9.get 0 rfl, ?_, ?_⟩
    · rw [List.length_map, List.length_take]; exact lt_line (by omega)
    · rw [take_more he, List.map_append]; exact w9.app0 _
  · rw [List.length_map, lp, ← le, List.take_length] at w9
    refine q _ D ?_
    have := congrArg (List.map V.str) (ents_map b.past b.now)
    rw [List.map_map, List.map_map] at this
    rw [show (b.past.map fun e => V.str e.1) = (ents b.past b.now).map fun e => V.str e.1 from this.symm]
    exact w9
end
end Br

/-! dict(zip(t, u)) of two tuples. -/
namespace Br
open PySem PySem.Spec PyProof.Rows L2
section
variable {prog : Program} {w : World} {A : Around} {E : Value → Shared → Prop} {s : Shared}
/-- the next pair, while the one given out before is still there -/
theorem zt_next {z TI TO T i j a b : Addr} {f : Bool} {oT : Obj} {m n : Nat} {xs ys : Array Value} {x y : Value} {Q : Value → Shared → Prop} (D : ZipApart z TI TO i j a b)
    (gz : IsZipHeld s.heap z TI TO T f) (gT : s.heap.get? T = some oT) (gTI : IsPair s.heap TI (.ref i) (.ref j)) (gi : s.heap.IsTupleIter i a m) (gj : s.heap.IsTupleIter j b n)
    (ga : s.heap.IsTuple a xs) (gb : s.heap.IsTuple b ys) (ex : xs[m]? = some x) (ey : ys[n]? = some y)
    (hQ : ∀ h', IsZipHeld h' z TI TO T true → h'.IsTupleIter i a (m + 1) → h'.IsTupleIter j b (n + 1) → IsPair h' s.heap.objs.size x y → h'.objs.size = s.heap.objs.size + 1 →
      (∀ c o, c ≠ z → c ≠ i → c ≠ j → s.heap.get? c = some o → h'.get? c = some o) → Q (.ref s.heap.objs.size) { s with heap := h' }) :
    wpAny (model prog w) A (Builtin.«zip.__next__» ⟨[.ref z], []⟩) (fun fin s' => ∃ v, fin = .done (.ret v) ∧ Q v s') E s := by
  show wpAny _ _ (field (.ref z) 2 >>= _) _ _ _
  refine wpAny_bind (wpAny_field gz rfl (x := .bool false) rfl ?_)
  show wpAny _ _ (field (.ref z) 3 >>= _) _ _ _
  refine wpAny_bind (wpAny_field gz rfl (x := .ref TI) rfl (wpAny_bind (wpAny_seqItems gTI rfl ?_)))
  show wpAny _ _ (Builtin.SmallTypes.ownedTupleIsFree (.ref z) >>= _) _ _ _
  refine wpAny_bind (wpAny_tupleHeld_zip gz gT fun k1 z1 b1 => ?_)
  simp only [Bool.false_eq_true, if_false]
  refine wpAny_bind ?_
  rw [← Array.forIn_toList]
  simp only [List.forIn_cons, List.forIn_nil]
  refine wpAny_bind (wpAny_bind (wpAny_holding ?_))
  show wpAny _ _ (Builtin.SmallTypes.nextOf (.ref i) >>= _) _ _ _
  refine wpAny_bind (RZ.nextOf_tuple_item (s := { s with heap := k1 }) (gi.extBut b1.extBut D.i1z) (ga.extBut b1.extBut D.l1z) ex fun k2 i2 b2 => wpAny_pure (wpAny_pure ?_))
  refine wpAny_bind (wpAny_bind (wpAny_holding ?_))
  show wpAny _ _ (Builtin.SmallTypes.nextOf (.ref j) >>= _) _ _ _
  refine wpAny_bind (RZ.nextOf_tuple_item (s := { s with heap := k2 }) ((gj.extBut b1.extBut D.i2z).extBut b2.extBut D.i12.symm) ((gb.extBut b1.extBut D.l2z).extBut b2.extBut D.l2i1) ey fun k3 j3 b3 => wpAny_pure (wpAny_pure (wpAny_pure ?_)))
  show wpAny _ _ (newTuple [x, y] >>= _) _ _ _
  refine wpAny_bind (wpAny_newTuple (wpAny_pure ⟨_, rfl, ?_⟩))
  have sz : k3.objs.size = s.heap.objs.size := by rw [b3.1, b2.1, b1.1]
  have z3 : IsZipHeld k3 z TI TO T true := b3.extBut _ _ D.i2z.symm (b2.extBut _ _ D.i1z.symm z1)
  have kk : ∀ c o, c ≠ z → c ≠ i → c ≠ j → s.heap.get? c = some o → k3.get? c = some o := fun c o c1 c2 c3 e => b3.extBut _ _ c3 (b2.extBut _ _ c2 (b1.extBut _ _ c1 e))
  have i3 : k3.IsTupleIter i a (m + 1) := i2.extBut b3.extBut D.i12
  show Q (.ref k3.objs.size) _
  have hp : IsPair (k3.push { cls := .type "tuple", data := .seq #[x, y] }) k3.objs.size x y := Heap.get?_push_size _ rfl
  have z4 : (k3.push { cls := .type "tuple", data := .seq #[x, y] }).objs.size = k3.objs.size + 1 := Heap.size_push ..
  rw [sz] at hp z4 ⊢
  exact hQ _ (Heap.get?_push_of_some _ z3) (i3.at fun o e => Heap.get?_push_of_some _ e) (j3.at fun o e => Heap.get?_push_of_some _ e) hp z4 fun c o c1 c2 c3 e => Heap.get?_push_of_some _ (kk c o c1 c2 c3 e)
theorem zt_stop {z TI TO T i j a b : Addr} {f : Bool} {oT : Obj} {m n : Nat} {xs ys : Array Value} {Q : Fin → Shared → Prop} (hh : A.handled = none) (D : ZipApart z TI TO i j a b)
    (gz : IsZipHeld s.heap z TI TO T f) (gT : s.heap.get? T = some oT) (gTI : IsPair s.heap TI (.ref i) (.ref j)) (gi : s.heap.IsTupleIter i a m) (gj : s.heap.IsTupleIter j b n)
    (ga : s.heap.IsTuple a xs) (gb : s.heap.IsTuple b ys) (he : xs[m]? = none)
    (hE : ∀ h' e, (∀ c o, c ≠ z → c ≠ i → c ≠ j → s.heap.get? c = some o → h'.get? c = some o) → (∃ o, h'.get? e = some o ∧ o.cls = .type "StopIteration") → E (.ref e) { s with heap := h' }) :
    wpAny (model prog w) A (Builtin.«zip.__next__» ⟨[.ref z], []⟩) Q E s := by
  show wpAny _ _ (field (.ref z) 2 >>= _) _ _ _
  refine wpAny_bind (wpAny_field gz rfl (x := .bool false) rfl ?_)
  show wpAny _ _ (field (.ref z) 3 >>= _) _ _ _
  refine wpAny_bind (wpAny_field gz rfl (x := .ref TI) rfl (wpAny_bind (wpAny_seqItems gTI rfl ?_)))
  show wpAny _ _ (Builtin.SmallTypes.ownedTupleIsFree (.ref z) >>= _) _ _ _
  refine wpAny_bind (wpAny_tupleHeld_zip gz gT fun k1 z1 b1 => ?_)
  simp only [Bool.false_eq_true, if_false]
  refine wpAny_bind ?_
  rw [← Array.forIn_toList]
  simp only [List.forIn_cons, List.forIn_nil]
  refine wpAny_bind (wpAny_bind (wpAny_holding ?_))
  show wpAny _ _ (Builtin.SmallTypes.nextOf (.ref i) >>= _) _ _ _
  refine wpAny_bind (RZ.nextOf_tuple_end (s := { s with heap := k1 }) hh (gi.extBut b1.extBut D.i1z) (ga.extBut b1.extBut D.l1z) he fun k2 e b2 ho => ?_)
  exact hE k2 e (fun c o c1 c2 _ x => b2 _ _ c2 (b1.extBut _ _ c1 x)) ho
theorem zt_pyNext {z TI TO T i j a b : Addr} {f : Bool} {oT : Obj} {m n : Nat} {xs ys : Array Value} {x y : Value} {Q : Option Value → Shared → Prop} (D : ZipApart z TI TO i j a b)
    (gz : IsZipHeld s.heap z TI TO T f) (gT : s.heap.get? T = some oT) (gTI : IsPair s.heap TI (.ref i) (.ref j)) (gi : s.heap.IsTupleIter i a m) (gj : s.heap.IsTupleIter j b n)
    (ga : s.heap.IsTuple a xs) (gb : s.heap.IsTuple b ys) (ex : xs[m]? = some x) (ey : ys[n]? = some y)
    (hQ : ∀ h', IsZipHeld h' z TI TO T true → h'.IsTupleIter i a (m + 1) → h'.IsTupleIter j b (n + 1) → IsPair h' s.heap.objs.size x y → h'.objs.size = s.heap.objs.size + 1 →
      (∀ c o, c ≠ z → c ≠ i → c ≠ j → s.heap.get? c = some o → h'.get? c = some o) → Q (some (.ref s.heap.objs.size)) { s with heap := h' }) : wpAny (model prog w) A (pyNext (.ref z)) Q E s := by
  have tz : s.TypeIs (.ref z) "zip" := ⟨_, gz, rfl⟩
  unfold pyNext
  exact wpAny_bind (wpAny_attempt (wpAny_callSpecial?_slot (name := Str.ofString "__next__") tz F.slot_zip_next (wpAny_call_entry F.slot_zip_next tz F.entry_zip_next (zt_next D gz gT gTI gi gj ga gb ex ey fun k a1 a2 a3 a4 a5 a6 => wpAny_pure (hQ k a1 a2 a3 a4 a5 a6)) (F.args_zip_next_1 _))))
theorem zt_pyStop {z TI TO T i j a b : Addr} {f : Bool} {oT : Obj} {m n : Nat} {xs ys : Array Value} {Q : Option Value → Shared → Prop} (hh : A.handled = none) (D : ZipApart z TI TO i j a b)
    (gz : IsZipHeld s.heap z TI TO T f) (gT : s.heap.get? T = some oT) (gTI : IsPair s.heap TI (.ref i) (.ref j)) (gi : s.heap.IsTupleIter i a m) (gj : s.heap.IsTupleIter j b n)
    (ga : s.heap.IsTuple a xs) (gb : s.heap.IsTuple b ys) (he : xs[m]? = none) (hQ : ∀ h', (∀ c o, c ≠ z → c ≠ i → c ≠ j → s.heap.get? c = some o → h'.get? c = some o) → Q none { s with heap := h' }) : wpAny (model prog w) A (pyNext (.ref z)) Q E s := by
  have tz : s.TypeIs (.ref z) "zip" := ⟨_, gz, rfl⟩
  unfold pyNext
  refine wpAny_bind (wpAny_attempt (wpAny_callSpecial?_slot (name := Str.ofString "__next__") tz F.slot_zip_next (wpAny_call_entry F.slot_zip_next tz F.entry_zip_next (zt_stop hh D gz gT gTI gi gj ga gb he fun k e ke ho => ?_) (F.args_zip_next_1 _))))
  obtain ⟨o, po, co⟩ := ho
  exact wpAny_bind (wpAny_isInstance (T := "StopIteration") (b := true) ⟨o, po, co⟩ isSubtype_stop (wpAny_pure (hQ _ ke)))
end
section
variable {prog : Program} {w : World}
/-- what the pairs' walk keeps -/
def ZtSt (z TI TO i j a b d : Addr) (xs ys : Array Value) (k : Nat) (h : Heap) : Prop := IsPair h TI (.ref i) (.ref j) ∧ h.IsTupleIter i a k ∧ h.IsTupleIter j b k ∧ h.IsTuple a xs ∧ h.IsTuple b ys ∧
  ((IsZip h z TI TO .none ∧ ∃ u v, IsPair h TO u v) ∨ ∃ T f oT, IsZipHeld h z TI TO T f ∧ h.get? T = some oT ∧ T ≠ z ∧ T ≠ i ∧ T ≠ j ∧ T ≠ d)
theorem zt_arg (z TI TO i j a b : Addr) (D : ZipApart z TI TO i j a b) (xs ys : Array Value) (hl : xs.size = ys.size) :
    PairArg prog w "zip" z [z, TI, TO, i, j, a, b] [z, TO, i, j] xs.size (fun k u v => xs[k]? = some u ∧ ys[k]? = some v)
      (fun h => IsZip h z TI TO .none ∧ IsPair h TI (.ref i) (.ref j) ∧ (∃ u v, IsPair h TO u v) ∧ h.IsTupleIter i a 0 ∧ h.IsTupleIter j b 0 ∧ h.IsTuple a xs ∧ h.IsTuple b ys) where
  type := fun s ok => ⟨_, ok.1, rfl⟩
  notDict := by decide
  keep := fun h k ⟨gz, gTI, ⟨u, v, gTO⟩, gi, gj, ga, gb⟩ hk => ⟨hk _ _ gz, hk _ _ gTI, ⟨u, v, hk _ _ gTO⟩, gi.at fun o e => hk _ o e, gj.at fun o e => hk _ o e, ga.at fun o e => hk _ o e, gb.at fun o e => hk _ o e⟩
  there := fun h ⟨gz, gTI, ⟨u, v, gTO⟩, ⟨o1, gi, _⟩, ⟨o2, gj, _⟩, ⟨o3, ga, _⟩, ⟨o4, gb, _⟩⟩ c hc => by
    simp only [List.mem_cons, List.not_mem_nil, or_false] at hc
    rcases hc with e | e | e | e | e | e | e <;> subst e
    · exact ⟨_, gz⟩
    · exact ⟨_, gTI⟩
    · exact ⟨_, gTO⟩
    · exact ⟨_, gi⟩
    · exact ⟨_, gj⟩
    · exact ⟨_, ga⟩
    · exact ⟨_, gb⟩
  sub := fun c hc => by
    simp only [List.mem_cons, List.not_mem_nil, or_false] at hc ⊢
    rcases hc with e | e | e | e <;> simp [e]
  noKeys := fun A s Q E hA ok q => getAttrOr_miss_zip ok.1 rfl rfl rfl zip_no_keys (by decide +kernel) hA q
  iter := fun A s d Q E hA ok hd hdf q => by
    obtain ⟨gz, gTI, ⟨u, v, gTO⟩, gi, gj, ga, gb⟩ := ok
    simp only [List.mem_cons, List.not_mem_nil, or_false, not_or] at hdf
    obtain ⟨dz, dTI, dTO, di, dj, da, db⟩ := hdf
    refine wpAny_pyIter_zip gz (q z [z, TO, i, j] (ZtSt z TI TO i j a b d xs ys) s.heap s.toks ?_ ⟨gTI, gi, gj, ga, gb, .inl ⟨gz, u, v, gTO⟩⟩ (fun _ _ e => e) fun c hc => .inl hc)
    refine ⟨fun hm => ?_, fun k h1 h2 st hk => ?_, fun k s1 Q1 E1 hi st hds q1 => ?_, fun s1 Q1 E1 st q1 => ?_⟩
    · simp only [List.mem_cons, List.not_mem_nil, or_false] at hm
      rcases hm with e | e | e | e
      · exact dz e
      · exact dTO e
      · exact di e
      · exact dj e
    · obtain ⟨gTI, gi, gj, ga, gb, gz⟩ := st
      refine ⟨hk _ _ (Ne.symm dTI) gTI, gi.at fun o e => hk _ o (Ne.symm di) e, gj.at fun o e => hk _ o (Ne.symm dj) e, ga.at fun o e => hk _ o (Ne.symm da) e, gb.at fun o e => hk _ o (Ne.symm db) e, ?_⟩
      rcases gz with ⟨gz, u, v, gTO⟩ | ⟨T, f, oT, gz, gT, r1, r2, r3, r4⟩
      · exact .inl ⟨hk _ _ (Ne.symm dz) gz, u, v, hk _ _ (Ne.symm dTO) gTO⟩
      · exact .inr ⟨T, f, oT, hk _ _ (Ne.symm dz) gz, hk _ _ r4 gT, r1, r2, r3, r4⟩
    · obtain ⟨gTI, gi, gj, ga, gb, gz⟩ := st
      have ex := Array.getElem?_eq_getElem hi
      have ey := Array.getElem?_eq_getElem (hl ▸ hi : k < ys.size)
      have lt : ∀ {c o}, s1.heap.get? c = some o → s1.heap.objs.size ≠ c := fun e => Nat.ne_of_gt (Heap.lt_size e)
      have n1 : s1.heap.objs.size ≠ i := let ⟨_, e, _⟩ := gi; lt e
      have n2 : s1.heap.objs.size ≠ j := let ⟨_, e, _⟩ := gj; lt e
      rcases gz with ⟨gz, u, v, gTO⟩ | ⟨T, f, oT, gz, gT, r1, r2, r3, r4⟩
      · refine RZ.pyNext_zipT_item D gz gTI gTO gi gj ga gb ex ey fun k' a1 a2 a3 a4 a5 a6 hk => ?_
        refine q1 s1.heap.objs.size _ _ k' s1.toks ⟨ex, ey⟩ (.inl ⟨_, a5, rfl, _, rfl⟩) ⟨hk _ _ D.TIz D.TITO D.TIi1 D.TIi2 gTI, a3, a4, ga.at fun o e => hk _ o D.l1z D.l1TO D.l1i1 D.l1i2 e, gb.at fun o e => hk _ o D.l2z D.l2TO D.l2i1 D.l2i2 e, .inr ⟨s1.heap.objs.size, false, _, a1, a5, lt gz, n1, n2, Nat.ne_of_gt hds⟩⟩ fun c o hc e => ?_
        exact hk c o (fun x => hc (by simp [x])) (fun x => hc (by simp [x])) (fun x => hc (by simp [x])) (fun x => hc (by simp [x])) e
      · refine zt_pyNext D gz gT gTI gi gj ga gb ex ey fun k' a1 a3 a4 a5 a6 hk => ?_
        refine q1 s1.heap.objs.size _ _ k' s1.toks ⟨ex, ey⟩ (.inl ⟨_, a5, rfl, _, rfl⟩) ⟨hk _ _ D.TIz D.TIi1 D.TIi2 gTI, a3, a4, ga.at fun o e => hk _ o D.l1z D.l1i1 D.l1i2 e, gb.at fun o e => hk _ o D.l2z D.l2i1 D.l2i2 e, .inr ⟨T, true, oT, a1, hk _ _ r1 r2 r3 gT, r1, r2, r3, r4⟩⟩ fun c o hc e => ?_
        exact hk c o (fun x => hc (by simp [x])) (fun x => hc (by simp [x])) (fun x => hc (by simp [x])) e
    · obtain ⟨gTI, gi, gj, ga, gb, gz⟩ := st
      have he : xs[xs.size]? = none := Array.getElem?_eq_none (Nat.le_refl _)
      rcases gz with ⟨gz, u, v, gTO⟩ | ⟨T, f, oT, gz, gT, r1, r2, r3, r4⟩
      · exact RZ.pyNext_zipT_end hA D gz gTI gTO gi gj ga gb (.inl he) fun k' hk => q1 k' s1.toks fun c o hc e => hk c o (fun x => hc (by simp [x])) (fun x => hc (by simp [x])) (fun x => hc (by simp [x])) (fun x => hc (by simp [x])) e
      · exact zt_pyStop hA D gz gT gTI gi gj ga gb he fun k' hk => q1 k' s1.toks fun c o hc e => hk c o (fun x => hc (by simp [x])) (fun x => hc (by simp [x])) (fun x => hc (by simp [x])) e
end
section
variable {X : Cx} {e1 e2 : Expr} {ta : TA} {p p2 pos pos2 : Pos}
abbrev strKeys (ks : List Str) : List Key := ks.map fun k => (Sum.inr k : Key)
/-- dict(zip(t, u)): t a tuple of texts, u a tuple of as many things -/
def tDictZip (K : PySem.W.Frag) (ta : TA) : TE := fun σ H Q => ta σ H fun vs H1 => ∃ (a b : Addr) (ks : List Str) (us : List V), vs = [.ref a, .ref b] ∧ SqT K H1 a (ks.map V.str) ∧ SqT K H1 b us ∧ ks.length = us.length ∧
  ∀ d, H1 d = none → Q (.ref d) (upd H1 d (.dK (mergeK [] ((strKeys ks).zip us))))
theorem kv_zip : ∀ {ks : List Str} {us : List V} {ys : List Value}, Vals us ys → KV ((strKeys ks).zip us) ((strKeys ks).zip ys)
  | [], _, _, _ => .nil
  | _ :: _, _, _, .nil => .nil
  | k :: ks, _, _, .cons h t => .cons ⟨rfl, h⟩ (kv_zip (ks := ks) t)
theorem vals_str_at : ∀ {ks : List Str} {xs : List Value} {i : Nat} {u : Value}, Vals (ks.map V.str) xs → xs[i]? = some u → ∃ k t, ks[i]? = some k ∧ u = .str k t
  | [], _, _, _, h, e => by cases h; simp at e
  | k :: ks, _, 0, u, .cons h t, e => by
    obtain ⟨tk, rfl⟩ := h
    exact ⟨k, tk, rfl, by simpa using e.symm⟩
  | k :: ks, _, i + 1, u, .cons h t, e => by
    obtain ⟨k', tk, h1, h2⟩ := vals_str_at (i := i) t (by simpa using e)
    exact ⟨k', tk, by simpa using h1, h2⟩
theorem pe_dictZip (hc : X.calm = true) (hg : Gl X "dict") (hm : X.mg "dict" = none) (hv : bootBuiltins "dict" = some (.type "dict")) (hg2 : Gl X "zip") (hm2 : X.mg "zip" = none) (ha : PA X [e1, e2] ta)
    (hs : starEach [.Call (.Name "zip" p2) [e1, e2] [] pos2] X.env = (false, eval (.Call (.Name "zip" p2) [e1, e2] [] pos2) X.env) :: starEach [] X.env := by rfl)
    (hs2 : starEach [e1, e2] X.env = (false, eval e1 X.env) :: starEach [e2] X.env := by rfl) (hp2 : (backTo pos2 (starEach [e2] X.env)).any (·.1) = false := by rfl) :
    PE X (.Call (.Name "dict" p) [.Call (.Name "zip" p2) [e1, e2] [] pos2] [] pos) (tDictZip X.K ta) := by
  refine ⟨fun pins s σ H Q I hq => ?_⟩
  refine wpAny_Call_Name_kw (ld_blt I hg hm hv ?_)
  refine PyProof.Rows.callWith_type1 ?_ hs rfl
  rw [hs]
  show wpAny _ _ (spliced ((false, eval (.Call (.Name "zip" p2) [e1, e2] [] pos2) X.env) :: backTo pos (starEach [] X.env))) _ _ s
  refine Calls.spliced_cons ?_
  refine Call_ (ld_blt I hg2 hm2 PyProof.Rows.boot_zip (PyProof.Rows.callWith_type1 (thn (ha.run pos2 pins s σ H _ I hq) fun us s1 ⟨vs, H1, I1, r1, q1⟩ => ?_) hs2 hp2))
  obtain ⟨a, b, ks, xs, rfl, ga, gb, hl, q⟩ := q1
  cases r1 with
  | cons r rr =>
    cases rr with
    | cons r' rr =>
      cases rr
      cases r
      cases r'
      obtain ⟨its, rv, g1, z1⟩ := I1.tuple ga
      obtain ⟨its2, rv2, g2, z2⟩ := I1.tuple gb
      have l1 := rv.length
      have l2 := rv2.length
      rw [List.length_map] at l1 z1
      obtain ⟨o1, ho1, _⟩ := id g1
      obtain ⟨o2, ho2, _⟩ := id g2
      refine RZ.call_zipT (show s1.heap.IsTuple a its.toArray from g1) (show s1.heap.IsTuple b its2.toArray from g2) fun h2 hz hTI hTO hi hj hsz hk => ?_
      refine Calls.spliced_nil ?_
      have ga2 : h2.IsTuple a its.toArray := by obtain ⟨o, e, r⟩ := g1; exact ⟨o, hk _ _ e, r⟩
      have gb2 : h2.IsTuple b its2.toArray := by obtain ⟨o, e, r⟩ := g2; exact ⟨o, hk _ _ e, r⟩
      have hsize : its.toArray.size = its2.toArray.size := by simp only [List.size_toArray]; omega
      have hsz2 : its.toArray.size ≤ sizeLine := by
        have e0 : its.toArray.size = its.length := by simp
        rw [e0]; omega
      refine PySem.call_dict_pairs (s := { s1 with heap := h2 }) (knd := mixKind X.prog X.w) (kvs := (strKeys ks).zip its2) (zt_arg _ _ _ _ _ _ _ (PySem.W.ktu_apart s1.heap.objs.size a b (Heap.lt_size ho1) (Heap.lt_size ho2)) its.toArray its2.toArray hsize) (I1.ok.hd hc) ⟨hz, hTI, ⟨_, _, hTO⟩, hi, hj, ga2, gb2⟩ ⟨?_, fun i u v hr => ?_⟩ hsz2 fun h' tk hd' kk => ?_
      · rw [List.length_zip, List.length_map]; simp only [List.size_toArray]; omega
      · obtain ⟨k, t, e3, rfl⟩ := vals_str_at rv (show its[i]? = some u by simpa using hr.1)
        refine ⟨Sum.inr k, ?_, keyIs_str k t⟩
        rw [List.getElem?_zip_eq_some]
        exact ⟨by rw [List.getElem?_map, e3]; rfl, by simpa using hr.2⟩
      · have big : (h2.objs.size == sysModules) = false := beq_eq_false_iff_ne.mpr (Nat.ne_of_gt (Nat.lt_of_lt_of_le I1.big (by rw [hsz]; exact Nat.le_add_right _ _)))
        have hlen : (mergeK [] ((strKeys ks).zip xs)).length ≤ sizeLine := by
          refine Nat.le_trans (length_mergeK _ []) ?_
          rw [List.length_nil, List.length_zip, List.length_map]; omega
        have kp : ∀ c u, s1.heap.get? c = some u → h'.get? c = some u := fun c u e => by
          have lt := Heap.lt_size e
          refine kk c u (fun hm => ?_) (hk _ _ e)
          simp only [List.mem_cons, List.not_mem_nil, or_false] at hm
          rcases hm with e | e | e | e
          · rw [e] at lt; exact absurd lt (Nat.not_lt.mpr (Nat.le_add_right _ _))
          · rw [e] at lt; exact absurd lt (Nat.not_lt.mpr (Nat.le_add_right _ _))
          · rw [e] at lt; exact Nat.lt_irrefl _ lt
          · rw [e] at lt; exact absurd lt (Nat.not_lt.mpr (Nat.le_add_right _ _))
        refine ⟨.ref h2.objs.size, upd H1 h2.objs.size (.dK (mergeK [] ((strKeys ks).zip xs))), I1.laid (t' := tk) kp (by omega) (show ObjOk X.prog X.w _ _ _ (.dK (mergeK [] ((strKeys ks).zip xs))) from ⟨hlen, big, merged [] ((strKeys ks).zip its2), KV.merge (kv_zip rv2) .nil, hd'⟩), rfl, q _ (I1.hok.fresh (by omega))⟩
end
end Br

namespace Br
open PySem PySem.Spec PyProof.Rows L2
/-- what everybody owes, as the dict's pairs -/
def dbt (r : Rota) (o : List Int) : List (Key × V) := (strKeys r.names).zip (o.map V.int)
theorem putK_add {k : Key} {v : V} {l : List (Key × V)} (h : k ∉ l.map Prod.fst) : putK l k v = l ++ [(k, v)] := by
  unfold putK
  rw [if_neg]
  intro e
  obtain ⟨q, hq, e2⟩ := List.any_eq_true.mp e
  exact h (List.mem_map.mpr ⟨q, hq, of_decide_eq_true e2⟩)
theorem mergeK_nodup : ∀ (m l : List (Key × V)), ((l ++ m).map Prod.fst).Nodup → mergeK l m = l ++ m
  | [], l, _ => by rw [List.append_nil]; rfl
  | (k, v) :: m, l, h => by
    have e : mergeK l ((k, v) :: m) = mergeK (putK l k v) m := rfl
    have hk : k ∉ l.map Prod.fst := fun hm => by
      rw [List.map_append, List.nodup_append] at h
      exact h.2.2 k hm k (by simp) rfl
    rw [e, putK_add hk, mergeK_nodup m (l ++ [(k, v)]) (by rw [List.append_assoc]; exact h), List.append_assoc]; rfl
theorem merge_dbt {r : Rota} {o : List Int} (nd : r.names.Nodup) (hl : o.length = r.names.length) : mergeK [] ((strKeys r.names).zip (o.map V.int)) = dbt r o := by
  have : ((strKeys r.names).zip (o.map V.int)).map Prod.fst = strKeys r.names := by
    rw [List.map_fst_zip]; rw [List.length_map, List.length_map]; omega
  rw [mergeK_nodup]; rfl
  rw [List.nil_append, this]
  unfold strKeys
  exact List.Pairwise.map _ (fun a b h e => h (by injection e)) nd
section
variable {P : Program} {w : World} {K : PySem.W.Frag} {mg : Str → Option Value} {base : Heap} {CB : Addr}
abbrev sBook_debts : Stmt := inClass (topS 61) 12
theorem scBook_debts : FnScope ["self"] ["self"] (defScope sBook_debts) := ⟨rfl, rfl, rfl, by decide +kernel, rfl, by decide +kernel, by decide +kernel⟩
def spDebts (CB : Addr) : Sp := fun vs H Q _ => ∃ (z : Bz) (r : Rota) (b : Bst) (S : List (Str × Bst)), vs = [.ref z.x] ∧ ROk r ∧ BOk r b ∧ BkAt CB z r b S H ∧ ∀ d, H d = none → Q (.ref d) (upd H d (.dK (dbt r b.now.o)))
theorem pr_debts (D : PropAt K CB "debts" "Book.debts" sBook_debts) (T : Bi mg) (BC : BkCls K CB) : PrAt P w K mg base 1 CB "debts" (spDebts CB) := D.pr fun f fd F => by
  have nd := scBook_debts.nd
  refine F.ok scBook_debts (fun vs H Q E h => ?_) (fun cdv A outer s H vs Q E hr h => ?_)
  · obtain ⟨z, r, b, S, rfl, _⟩ := h; rfl
  obtain ⟨z, r, b, S, rfl, ok, bo, hb, q⟩ := h
  refine ⟨_, (pss_one (ps_ret (pe_dictZip rfl (by rfl) T.dict (by decide +kernel) (by rfl) T.zip (pa_cons (pe_ix (r := rIxT K) ix_tup (pe_fldK (K := K) rfl (pv 0) rfl) pe_int (fun _ _ => rfl)) (pa_cons (pe_ix (r := rIxT K) ix_tup (pe_ix (r := rIxT K) ix_tup (pe_fldK (K := K) rfl (pv 0) rfl) pe_int (fun _ _ => rfl)) pe_int (fun _ _ => rfl)) pa_nil))))), ?_⟩
  obtain ⟨na, hx, lt⟩ := id hb.na
  obtain ⟨st, dd, n1, ⟨ob, n2, n2'⟩, n3⟩ := lt.now
  obtain ⟨an, at_, aw, aa, am, as, h1, h2, h3, h4, h5, h6, h7⟩ := id hb.ro
  refine ⟨_, rfl, z.x, CB, z.dx, _, _, rfl, hx, BC.cl, BC.n1, bk_parsed, z.p, _, 0, _, rfl, rfl, SqT.of h1, rfl, ?_⟩
  refine ⟨_, rfl, z.x, CB, z.dx, _, _, rfl, hx, BC.cl, BC.n2, bk_now, na, _, 0, _, rfl, rfl, SqT.of n1, rfl, st, _, 1, _, rfl, rfl, SqT.of n2, rfl, an, ob, r.names, b.now.o.map V.int, rfl, h2.sq, SqT.of n2', by rw [List.length_map]; exact bo.now.o.len.symm, fun d hd => ?_⟩
  rw [merge_dbt ok.nd bo.now.o.len]
  exact q d hd
end
end Br

namespace Br
open PySem PySem.Spec PyProof.Rows L2
/-! ### the law's own book: lists that nobody changes, outside of M -/
def Msk (M : List Addr) (H : Hp) : Hp := fun a => if a ∈ M then none else H a
def Al (M : List Addr) (H : Hp) : Prop := ∀ a ∈ M, H a ≠ none
theorem Msk.out {M : List Addr} {H : Hp} {a : Addr} {o : HO} (h : Msk M H a = some o) : a ∉ M ∧ H a = some o := by
  unfold Msk at h
  by_cases c : a ∈ M
  · rw [if_pos c] at h; cases h
  · rw [if_neg c] at h; exact ⟨c, h⟩
theorem Msk.mk {M : List Addr} {H : Hp} {a : Addr} {o : HO} (h : a ∉ M) (e : H a = some o) : Msk M H a = some o := by
  unfold Msk; rw [if_neg h]; exact e
theorem Msk.le {N M M' : List Addr} {H H' : Hp} {l : List (Addr × HO)} (w : Wd N H H' l) (hN : ∀ a ∈ N, a ∈ M) (hM : ∀ a ∈ M', a ∈ M ∨ H a = none) : Le (Msk M H) (Msk M' H') := fun b o e => by
  obtain ⟨e1, e2⟩ := Msk.out e
  exact Msk.mk (fun h => (hM b h).elim e1 fun n => by rw [n] at e2; cases e2) (w.base b o (fun h => e1 (hN b h)) e2)
theorem Msk.le0 {M : List Addr} {H H' : Hp} {l : List (Addr × HO)} (w : Wd [] H H' l) : Le (Msk M H) (Msk M H') := Msk.le w (fun _ h => nomatch h) fun _ h => .inl h
theorem Msk.sub {M M' : List Addr} {H : Hp} (h : ∀ a ∈ M, a ∈ M') : Le (Msk M' H) (Msk M H) := fun b o e => by
  obtain ⟨e1, e2⟩ := Msk.out e
  exact Msk.mk (fun hm => e1 (h b hm)) e2
theorem Msk.nw {M : List Addr} {H H' : Hp} {a : Addr} {o : HO} (al : Al M H) (hn : H a = none) (e : H' a = some o) : Msk M H' a = some o := Msk.mk (fun h => al a h hn) e
theorem Al.keep {M : List Addr} {H H' : Hp} {N : List Addr} {l : List (Addr × HO)} (al : Al M H) (w : Wd N H H' l) : Al M H' := fun a h e => al a h (w.free a e)
theorem Le.trans {H H' H'' : Hp} (h : Le H H') (k : Le H' H'') : Le H H'' := fun b o e => k b o (h b o e)
def LStT (G : Hp) (a : Addr) (s : Nat) (o : List Int) : Prop := ∃ b : Addr, G a = some (.tup [.int (s : Int), .ref b]) ∧ G b = some (.lst (o.map V.int))
def LNow (G : Hp) (r : Rota) (a : Addr) (n : Now) : Prop := ∃ st d : Addr, G a = some (.tup [.ref st, .int (n.t : Int), .ref d]) ∧ LStT G st n.s n.o ∧ G d = some (.lst (n.d.map (nameV r)))
def LEnt (G : Hp) (r : Rota) (a : Addr) (e : Str × Now) : Prop := ∃ b : Addr, G a = some (.tup [.str e.1, .ref b]) ∧ LNow G r b e.2
def LUnd (G : Hp) (r : Rota) (a : Addr) (e : (Str × Now) × Now) : Prop := ∃ b c : Addr, G a = some (.tup [.ref b, .ref c]) ∧ LEnt G r b e.1 ∧ LNow G r c e.2
structure LW (G : Hp) (r : Rota) (a : Addr) (b : Bst) : Prop where
  ex : ∃ (ra na pl ul : Addr) (as us : List Addr), G a = some (.lst [.ref ra, .ref na, .ref pl, .ref ul]) ∧ RotaAt G ra r ∧ LNow G r na b.now ∧ G pl = some (.lst (as.map V.ref)) ∧ Paired (LEnt G r) as b.past ∧ G ul = some (.lst (us.map V.ref)) ∧ Paired (LUnd G r) us b.und
section
variable {G G' : Hp} {r : Rota} {a : Addr}
theorem LStT.le (k : Le G G') {s : Nat} {o : List Int} (h : LStT G a s o) : LStT G' a s o := by
  obtain ⟨b, h1, h2⟩ := h; exact ⟨b, k _ _ h1, k _ _ h2⟩
theorem LNow.le (k : Le G G') {n : Now} (h : LNow G r a n) : LNow G' r a n := by
  obtain ⟨st, d, h1, h2, h3⟩ := h; exact ⟨st, d, k _ _ h1, h2.le k, k _ _ h3⟩
theorem LEnt.le (k : Le G G') {e : Str × Now} (h : LEnt G r a e) : LEnt G' r a e := by
  obtain ⟨b, h1, h2⟩ := h; exact ⟨b, k _ _ h1, h2.le k⟩
theorem LUnd.le (k : Le G G') {e : (Str × Now) × Now} (h : LUnd G r a e) : LUnd G' r a e := by
  obtain ⟨b, c, h1, h2, h3⟩ := h; exact ⟨b, c, k _ _ h1, h2.le k, h3.le k⟩
theorem LW.le (k : Le G G') {b : Bst} (h : LW G r a b) : LW G' r a b := by
  obtain ⟨ra, na, pl, ul, as, us, h1, h2, h3, h4, h5, h6, h7⟩ := h.ex
  exact ⟨ra, na, pl, ul, as, us, k _ _ h1, h2.le k, h3.le k, k _ _ h4, paired_imp (fun _ _ e => e.le k) h5, k _ _ h6, paired_imp (fun _ _ e => e.le k) h7⟩
end
/-! ### who is at home, twice -/
def awayL (r : Rota) (t : Int) : List Int := (r.aways.filter fun a => decide (t.fmod a.2.2 = a.2.1)).map fun a => a.1
theorem homes_twice (r : Rota) (t : Int) : (persons r).filter (fun p => !decide (p ∈ awayL r t)) = homes r t := by
  unfold homes
  refine List.filter_congr fun p _ => ?_
  rw [Bool.eq_iff_iff]
  unfold isHome awayL
  rw [List.all_eq_true, Bool.not_eq_true', decide_eq_false_iff_not]
  constructor
  · intro h x hx
    obtain ⟨a, ha, rfl⟩ := List.mem_map.mp hx
    obtain ⟨h1, h2⟩ := List.mem_filter.mp ha
    have e := of_decide_eq_true h2
    refine (Bool.not_eq_true' _).mpr (decide_eq_false fun e2 => h ?_)
    exact List.mem_map.mpr ⟨a, List.mem_filter.mpr ⟨h1, decide_eq_true e2⟩, e⟩
  · intro h hm
    obtain ⟨a, ha, e⟩ := List.mem_map.mp hm
    obtain ⟨h1, h2⟩ := List.mem_filter.mp ha
    have := h _ (List.mem_map.mpr ⟨a, List.mem_filter.mpr ⟨h1, decide_eq_true e⟩, rfl⟩)
    rw [decide_eq_true (of_decide_eq_true h2)] at this
    cases this
section
variable {P : Program} {w : World} {K : PySem.W.Frag} {mg : Str → Option Value} {base : Heap}
def spLNamed : Sp := fun vs H Q _ => ∃ (a : Addr) (r : Rota) (d : Option Int), vs = [.ref a, dV d] ∧ RotaAt H a r ∧ (∀ p, d = some p → 0 ≤ p ∧ p < r.names.length) ∧ Q (nameV r d) H
end
end Br

namespace Br
open PySem PySem.Spec PyProof.Rows L2
theorem chg_down {r : Rota} {o : List Int} {p : Int} (k : OwOk r o) (h0 : 0 ≤ p) (h1 : p < r.names.length) : chg o p (-1) = o.set p.toNat (owes o p - 1) := by
  have := k.at_ h0 h1
  unfold chg
  rw [if_pos (by omega)]; rfl
theorem ixN_in {n : Nat} {p : Int} (h0 : 0 ≤ p) (h1 : p < n) : ixN n p = some p.toNat := by
  unfold ixN
  rw [if_pos h0, if_pos h1]
section
variable {P : Program} {w : World} {K : PySem.W.Frag} {mg : Str → Option Value} {base : Heap}
def spLTick : Sp := fun vs H Q _ => ∃ (a st : Addr) (r : Rota) (s : Nat) (o : List Int) (t : Int) (M : List Addr), vs = [.ref a, .ref st, .int t] ∧ Al M H ∧ RotaAt H a r ∧ ROk r ∧ LStT H st s o ∧ s < r.turns.length ∧ OwOk r o ∧
  ∀ H' p st', Wd [] H H' [] → H' p = some (.tup [.ref st', dV (tickF r s o t).2.2]) → LStT (Msk M H') st' (tickF r s o t).1 (tickF r s o t).2.1 → Q (.ref p) H'
end
end Br

namespace Br
open PySem PySem.Spec PyProof.Rows L2
/-! ### operations -/
/-- what is no number of ticks -/
inductive BadV where
  | neg (k : Nat)
  | big (k : Nat)
  | non
  | tru
  | one
def badV : BadV → V
  | .neg k => .int (-1 - (k : Int))
  | .big k => .int (501 + (k : Int))
  | .non => .non
  | .tru => .bl true
  | .one => .str "1"
theorem bad_in : ∀ v : BadV, intIn 0 500 (badV v) = false
  | .neg k => by show (decide ((0 : Int) ≤ -1 - (k : Int)) && decide (-1 - (k : Int) ≤ 500)) = false; rw [decide_eq_false (by omega)]; rfl
  | .big k => by show (decide ((0 : Int) ≤ 501 + (k : Int)) && decide (501 + (k : Int) ≤ 500)) = false; rw [decide_eq_false (show ¬ (501 + (k : Int) ≤ 500) by omega), Bool.and_false]
  | .non => rfl
  | .tru => rfl
  | .one => rfl
theorem bad_ky (H : Hp) : ∀ v : BadV, ∃ t, Ky H (badV v) t
  | .neg _ => ⟨_, .int _⟩
  | .big _ => ⟨_, .int _⟩
  | .non => ⟨_, .non⟩
  | .tru => ⟨_, .bl _⟩
  | .one => ⟨_, .str _⟩
def badD : BadV → PyData
  | .neg k => .int (-1 - (k : Int))
  | .big k => .int (501 + (k : Int))
  | .non => .none
  | .tru => .bool true
  | .one => .str "1"
inductive Op where
  | step (k : Nat)
  | gift (z : Str)
  | forgive (z : Str)
  | reset
  | undo
  | redo
  | bad (v : BadV)
def opL : Op → List V
  | .step k => [.str "step", .int (k : Int)]
  | .gift z => [.str "gift", .str z]
  | .forgive z => [.str "forgive", .str z]
  | .reset => [.str "reset"]
  | .undo => [.str "undo"]
  | .redo => [.str "redo"]
  | .bad v => [.str "step", badV v]
def OpOk (r : Rota) : Op → Prop
  | .step k => k ≤ 6 ∨ k = 501
  | .gift z => z ∈ r.names ∨ z = "nobody"
  | .forgive z => z ∈ r.names ∨ z = "nobody"
  | _ => True
inductive Res where
  | non
  | bl (b : Bool)
  | int (i : Int)
  | nms (l : List (Option Int))
def giftR (r : Rota) (n : Now) : Option Int → Except Str (Res × Now)
  | none => .error "person"
  | some p => if p ∈ homes r n.t then .ok (.int (less (owes n.o p)), giftN p n) else .error "nobody"
def forgiveR (n : Now) : Option Int → Except Str (Res × Now)
  | none => .error "person"
  | some p => .ok (.int (owes n.o p), forgiveN p n)
/-- a step, a gift, a forgiving or a return: its error or its result and the new state -/
def workOn (r : Rota) (n : Now) : Op → Except Str (Res × Now)
  | .step k => if 500 < k then .error "count" else .ok (.nms (found r k n), stepN r k n)
  | .gift z => giftR r n (personOf r (.str z))
  | .forgive z => forgiveR n (personOf r (.str z))
  | .reset => .ok (.non, now0 r)
  | .undo => .error "other"
  | .redo => .error "other"
  | .bad _ => .error "count"
def ResT (G : Hp) (r : Rota) : Res → V → Prop
  | .non, v => v = .non
  | .bl b, v => v = .bl b
  | .int i, v => v = .int i
  | .nms l, v => ∃ p : Addr, v = .ref p ∧ G p = some (.lst (l.map (nameV r)))
theorem ResT.le {G G' : Hp} (k : Le G G') {r : Rota} {x : Res} {v : V} (h : ResT G r x v) : ResT G' r x v := by
  cases x with
  | nms l => obtain ⟨p, e, h⟩ := h; exact ⟨p, e, k _ _ h⟩
  | _ => exact h
theorem six_nobody : ("nobody" : Str) ∉ six := by decide +kernel
theorem personOf_some {r : Rota} (ok : ROk r) {z : Str} (h : z ∈ r.names) : ∃ p, personOf r (.str z) = some p ∧ 0 ≤ p ∧ p < r.names.length ∧ nm r p = z := by
  obtain ⟨i, hi, e⟩ := List.getElem_of_mem h
  have e3 : nm r (i : Int) = z := by
    have := nm_mem (r := r) (k := (i : Int)) (by omega) (by omega)
    rw [Int.toNat_natCast, List.getElem?_eq_getElem hi, e] at this
    exact (Option.some.inj this).symm
  exact ⟨i, by rw [← e3]; exact personOf_nm ok (by omega) (by omega), by omega, by omega, e3⟩
theorem personOf_nobody {r : Rota} (ok : ROk r) : personOf r (.str "nobody") = none := by
  cases h : personOf r (.str "nobody") with
  | none => rfl
  | some p =>
    obtain ⟨g1, g2, g3⟩ := personOf_in h
    have : ("nobody" : Str) = nm r p := by injection g3
    exact absurd (by rw [this]; exact ok.six _ (List.mem_of_getElem? (nm_mem g1 g2))) six_nobody
theorem iteS {x y : Str} {A B : Prop} (h : x ≠ y) (b : B) : if decide (V.str x = V.str y) = true then A else B := by
  rw [decide_eq_false (fun e => h (by injection e))]; exact iteF b
theorem Wd.callN' {H0 H H' : Hp} {l l' : List (Addr × HO)} (w : Wd [] H0 H l) (c : Wd [] H H' l') : Wd [] H0 H' l' := (w.sub (List.nil_sublist _)).callN c
theorem Msk.id {M : List Addr} {H : Hp} : Le (Msk M H) H := fun b o e => (Msk.out e).2
theorem nms_bound {r : Rota} {k s : Nat} {o : List Int} {t : Nat} : ((ticksF r k s o t).2.2.map (nameV r)).length = k := by rw [List.length_map, ticksF_len]
section
variable {P : Program} {w : World} {K : PySem.W.Frag} {mg : Str → Option Value} {base : Heap}
def spLWorkOn : Sp := fun vs H Q _ => ∃ (a na oa : Addr) (r : Rota) (n : Now) (op : Op) (M : List Addr), vs = [.ref a, .ref na, .ref oa] ∧ Al M H ∧ RotaAt H a r ∧ ROk r ∧ LNow (Msk M H) r na n ∧ NowOk r n ∧ H oa = some (.tup (opL op)) ∧ OpOk r op ∧ op ≠ .undo ∧ op ≠ .redo ∧ n.d.length ≤ 1000 ∧
  match workOn r n op with
  | .error e => ∀ H' p nb, Wd [] H H' [] → H' p = some (.tup [.str e, .int 0, .ref nb]) → Q (.ref p) H'
  | .ok (x, n') => ∀ H' p v nb, Wd [] H H' [] → H' p = some (.tup [.str "", v, .ref nb]) → ResT (Msk M H') r x v → LNow (Msk M H') r nb n' → Q (.ref p) H'
end
end Br

namespace Br
open PySem PySem.Spec PyProof.Rows L2
def opWord : Op → Str
  | .step _ => "step"
  | .gift _ => "gift"
  | .forgive _ => "forgive"
  | .reset => "reset"
  | .undo => "undo"
  | .redo => "redo"
  | .bad _ => "step"
/-- an operation's error, or its result and the new state -/
def undoR (b : Bst) : Option Bst → Except Str (Res × Bst)
  | none => .ok (.bl false, b)
  | some b' => .ok (.bl true, b')
def recR (w : Str) (b : Bst) : Except Str (Res × Now) → Except Str (Res × Bst)
  | .error e => .error e
  | .ok (x, n) => .ok (x, recB w b n)
def doOp (r : Rota) (b : Bst) : Op → Except Str (Res × Bst)
  | .undo => undoR b (undoB b)
  | .redo => undoR b (redoB b)
  | op => recR (opWord op) b (workOn r b.now op)
theorem word_undo {op : Op} (h : op ≠ .undo) : opWord op ≠ "undo" := by
  cases op with
  | undo => exact absurd rfl h
  | step k => show ("step" : Str) ≠ "undo"; decide +kernel
  | gift z => show ("gift" : Str) ≠ "undo"; decide +kernel
  | forgive z => show ("forgive" : Str) ≠ "undo"; decide +kernel
  | reset => decide +kernel
  | redo => decide +kernel
  | bad k => show ("step" : Str) ≠ "undo"; decide +kernel
theorem word_redo {op : Op} (h : op ≠ .redo) : opWord op ≠ "redo" := by
  cases op with
  | redo => exact absurd rfl h
  | step k => show ("step" : Str) ≠ "redo"; decide +kernel
  | gift z => show ("gift" : Str) ≠ "redo"; decide +kernel
  | forgive z => show ("forgive" : Str) ≠ "redo"; decide +kernel
  | reset => decide +kernel
  | undo => decide +kernel
  | bad k => show ("step" : Str) ≠ "redo"; decide +kernel
theorem workOn_err {r : Rota} {n : Now} {op : Op} {e : Str} (h : workOn r n op = .error e) : e ∈ (["count", "person", "nobody", "other"] : List Str) := by
  cases op with
  | step k =>
    have : (if 500 < k then Except.error ("count" : Str) else .ok (.nms (found r k n), stepN r k n)) = (Except.error e : Except Str (Res × Now)) := h
    split at this <;> cases this
    simp
  | gift z =>
    have h2 : giftR r n (personOf r (.str z)) = .error e := h
    cases hp : personOf r (.str z) with
    | none => rw [hp] at h2; cases h2; simp
    | some p =>
      rw [hp] at h2
      have : (if p ∈ homes r n.t then Except.ok (Res.int (less (owes n.o p)), giftN p n) else .error ("nobody" : Str)) = (Except.error e : Except Str (Res × Now)) := h2
      split at this <;> cases this
      simp
  | forgive z =>
    have h2 : forgiveR n (personOf r (.str z)) = .error e := h
    cases hp : personOf r (.str z) with
    | none => rw [hp] at h2; cases h2; simp
    | some p => rw [hp] at h2; cases h2
  | reset => cases h
  | undo => cases h; simp
  | redo => cases h; simp
  | bad v => cases h; simp
theorem err_ne {e : Str} (h : e ∈ (["count", "person", "nobody", "other"] : List Str)) : e ≠ "" := by
  have : ∀ x ∈ (["count", "person", "nobody", "other"] : List Str), x ≠ "" := by decide +kernel
  exact this e h
theorem atI_last {α : Type} {l : List α} {x : α} : atI (l ++ [x]) (-1) = some x := by
  unfold atI ixN
  rw [if_neg (by decide), List.length_append]
  rw [if_pos (by simp only [List.length_cons, List.length_nil]; omega)]
  show (l ++ [x])[(-1 + ((l.length + [x].length : Nat) : Int)).toNat]? = some x
  rw [show (-1 + ((l.length + [x].length : Nat) : Int)).toNat = l.length by simp only [List.length_cons, List.length_nil]; omega, List.getElem?_append_right (Nat.le_refl _), Nat.sub_self]; rfl
theorem cut_last {l : List V} {x : V} : cutV (l ++ [x]) none (some (-1)) = l := by
  unfold cutV
  have e : HT.sIx (l ++ [x]).length (l ++ [x]).length (some (-1)) = l.length := by
    show (if (-1 : Int) < 0 then ((-1 : Int) + ((l ++ [x]).length : Int)).toNat else min (-1 : Int).toNat (l ++ [x]).length) = _
    rw [if_pos (by decide), List.length_append]
    simp only [List.length_cons, List.length_nil]; omega
  rw [e, HT.sIx_none, List.drop_zero, Nat.sub_zero, List.take_left]
section
variable {P : Program} {w : World} {K : PySem.W.Frag} {mg : Str → Option Value} {base : Heap}
def spLWorked : Sp := fun vs H Q _ => ∃ (wa oa : Addr) (r : Rota) (b : Bst) (op : Op) (M : List Addr), vs = [.ref wa, .ref oa] ∧ Al M H ∧ ROk r ∧ LW (Msk M H) r wa b ∧ BOk r b ∧ H oa = some (.tup (opL op)) ∧ OpOk r op ∧ b.now.d.length ≤ 1000 ∧ b.past.length ≤ 1000 ∧ b.und.length ≤ 1000 ∧
  match doOp r b op with
  | .error e => ∀ H' p, Wd [] H H' [] → H' p = some (.tup [.str e, .int 0]) → Q (.ref p) H'
  | .ok (x, b') => ∀ H' p v wb, Wd [] H H' [] → H' p = some (.tup [.str "", v, .ref wb]) → ResT (Msk M H') r x v → LW (Msk M H') r wb b' → Q (.ref p) H'
end
end Br

namespace Br
open PySem PySem.Spec PyProof.Rows L2
theorem Mu.lst {H : Hp} {d : Addr} {xs : List V} (h : H d = some (.lst xs)) : Mu H [d] := fun a ha => by
  rw [List.mem_singleton.mp ha, h]; exact ⟨fun _ => by simp, fun _ _ => by simp⟩
theorem RotaAt.msk {H : Hp} {M : List Addr} {a : Addr} {r : Rota} (mu : Mu H M) (h : RotaAt H a r) : RotaAt (Msk M H) a r := by
  obtain ⟨an, at_, aw, aa, am, as, h1, ⟨o, d, h2⟩, h3, h4, h5, h6, h7⟩ := h
  have k : ∀ b xs, H b = some (.tup xs) → Msk M H b = some (.tup xs) := fun b xs e => Msk.mk (fun hm => (mu b hm).1 xs e) e
  exact ⟨an, at_, aw, aa, am, as, k _ _ h1, ⟨o, d, Msk.mk (fun hm => (mu _ hm).2 _ _ h2) h2⟩, k _ _ h3, k _ _ h4, k _ _ h5, h6.keep k, k _ _ h7⟩
section
variable {P : Program} {w : World} {K : PySem.W.Frag} {mg : Str → Option Value} {base : Heap}
def spLNew : Sp := fun vs H Q _ => ∃ (d : Addr) (x y : Int) (l : List Int), vs = [.ref d] ∧ H d = some (dl x y l) ∧ DOk x y l ∧
  ∀ (r : Rota) (wa : Addr) (x' y' : Int) (l' : List Int) (H' : Hp), Wd [d] H H' [(d, dl x' y' l')] → DOk x' y' l' → ROk r → LW (Msk [d] H') r wa (bst0 r) → Q (.ref wa) H'
theorem Wd.fgo1 {H0 H H' : Hp} {d : Addr} {o o' : HO} (w : Wd [d] H0 H [(d, o)]) (c : Wd [d] H H' [(d, o')]) : Wd [d] H0 H' [(d, o')] :=
  ⟨fun b u hb e => c.base b u hb (w.base b u hb e), fun b xs e => c.tups b xs (w.tups b xs e), fun q hq => by rw [List.mem_singleton.mp hq]; exact .inr (by simp), c.at_, by simp, fun p e => w.free p (c.free p e)⟩
theorem name_rd {σ : L2.St} {H : Hp} {d a : Addr} {r : Rota} {x y : Int} {l : List Int} {Q : VK} (s0 : σ[0]? = some (some (.ref d))) (s1 : σ[1]? = some (some (.ref a))) (hd : H d = some (dl x y l)) (dok : DOk x y l) (hR : RotaAt H a r) (ok : ROk r)
    (q : ∀ z x' y' l' H', Wd [d] H H' [(d, dl x' y' l')] → DOk x' y' l' → (z ∈ r.names ∨ z = "nobody") → Q (.str z) H') :
    tIf (tTest (tOp (rI0 fun i j => V.bl (decide (j < i))) (tCall spBelow [] E0 (tCons (tVar 0) (tCons (tC (V.int 6)) tNil))) (tC (V.int 0))))
      (tOp (rIxT K) (tOp (rIxT K) (tVar 1) (tC (V.int 0))) (tCall spBelow [] E0 (tCons (tVar 0) (tCons (tCB (rLenS K) (tCons (tOp (rIxT K) (tVar 1) (tC (V.int 0))) tNil)) tNil)))) (tC (V.str "nobody")) σ H Q := by
  have n6 := ok.n6
  have n1 := ok.n1
  refine ⟨_, s0, d, 6, x, y, l, rfl, by omega, by omega, hd, dok, fun i x1 y1 l1 H1 c1 dok1 i0 i6 => ⟨_, _, rfl, rfl, _, rfl, ite2 (fun _ => ?_) (fun _ => ?_)⟩⟩
  · have w1 := (Wd.start1 hd).call1 (fun xs q => by cases q) c1
    have hR1 := hR.keepM w1 (Mu.lst hd)
    obtain ⟨an, at_, aw, aa, am, as, h1, h2, h3, h4, h5, h6, h7⟩ := id hR1
    refine ⟨_, s1, a, _, 0, _, rfl, rfl, SqT.of h1, rfl, _, s0, _, s1, a, _, 0, _, rfl, rfl, SqT.of h1, rfl, an, _, rfl, .inr h2.sq, d, _, x1, y1, l1, rfl, by rw [List.length_map]; omega, by rw [List.length_map]; omega, w1.get 0 rfl, dok1, fun j x2 y2 l2 H2 c2 dok2 j0 j1 => ?_⟩
    rw [List.length_map] at j1
    have w2 := w1.call1 (fun xs q => by cases q) c2
    have hR2 := hR1.keepM c2 (Mu.lst (w1.get 0 rfl))
    obtain ⟨o, od, e2⟩ := h2
    have e3 : H2 an = some (.frz o (.tup (r.names.map V.str))) := c2.base _ _ (by
      have e1 := w1.get 0 rfl
      intro hm
      rw [List.mem_singleton.mp hm, e1] at e2
      unfold dl at e2; cases e2) e2
    refine ⟨an, _, j, .str (nm r j), rfl, rfl, .inl (.inr ⟨o, e3⟩), ?_, ?_⟩
    · have e : j = ((j.toNat : Nat) : Int) := by omega
      rw [e]
      refine atI_nat ?_
      rw [List.getElem?_map, nm_mem j0 j1, ← e]; rfl
    · exact q _ x2 y2 l2 H2 (w2.sub (by walk_at "sub")) dok2 (.inl (List.mem_of_getElem? (nm_mem j0 j1)))
  · exact q _ x1 y1 l1 H1 c1 dok1 (.inr rfl)
def spLOp : Sp := fun vs H Q _ => ∃ (d a : Addr) (r : Rota) (x y : Int) (l : List Int), vs = [.ref d, .ref a] ∧ H d = some (dl x y l) ∧ DOk x y l ∧ RotaAt H a r ∧ ROk r ∧
  ∀ (op : Op) (p : Addr) (x' y' : Int) (l' : List Int) (H' : Hp), Wd [d] H H' [(d, dl x' y' l')] → DOk x' y' l' → OpOk r op → H' p = some (.tup (opL op)) → Q (.ref p) H'
end
end Br

namespace Br
open PySem PySem.Spec PyProof.Rows L2
def resV : Res → V
  | .non => .non
  | .bl b => .bl b
  | .int i => .int i
  | .nms _ => .non
/-- what an operation on the book hands back -/
def BRes (CB : Addr) (z : Bz) (r : Rota) (b' : Bst) (S : List (Str × Bst)) (H H' : Hp) : Res → V → Prop
  | .nms l, v => ∃ p : Addr, v = .ref p ∧ BStepN CB z r b' S H H' p (.lst (l.map (nameV r)))
  | x, v => v = resV x ∧ BStep CB z r b' S H H'
/-- the class of an operation's error -/
def errC (CC CU CN : Addr) (e : Str) : Addr := if e = "count" then CC else if e = "person" then CU else CN
def DoR (CB CC CU CN : Addr) (z : Bz) (r : Rota) (S : List (Str × Bst)) (H : Hp) (Q : VK) (E : XK) : Except Str (Res × Bst) → Prop
  | .error e => ∀ H', Wd [] H H' [] → E (.ref (errC CC CU CN e)) none H'
  | .ok (x, b') => ∀ H' v, BRes CB z r b' S H H' x v → Q v H'
theorem ky_str {H : Hp} (z : Str) : Ky H (.str z) "str" := .str z
section
variable {P : Program} {w : World} {K : PySem.W.Frag} {mg : Str → Option Value} {base : Heap} {CB CC CU CN : Addr}
def spLDo (CB CC CU CN : Addr) : Sp := fun vs H Q E => ∃ (z : Bz) (oa : Addr) (r : Rota) (b : Bst) (S : List (Str × Bst)) (op : Op), vs = [.ref z.x, .ref oa] ∧ ROk r ∧ BOk r b ∧ BkAt CB z r b S H ∧ H oa = some (.tup (opL op)) ∧ OpOk r op ∧ b.past.length ≤ 1000 ∧ b.und.length ≤ 1000 ∧ b.now.d.length ≤ 1000 ∧
  DoR CB CC CU CN z r S H Q E (doOp r b op)
end
end Br

namespace Br
open PySem PySem.Spec PyProof.Rows L2
/-! ### the law's comparison, of like things -/
inductive EqV (H : Hp) : Nat → V → V → Prop
  | non (n : Nat) : EqV H n .non .non
  | bl (n : Nat) (b : Bool) : EqV H n (.bl b) (.bl b)
  | int (n : Nat) (i : Int) : EqV H n (.int i) (.int i)
  | str (n : Nat) (z : Str) : EqV H n (.str z) (.str z)
  | lst {n : Nat} {a b : Addr} {xs ys : List V} (ha : H a = some (.lst xs)) (hb : H b = some (.lst ys)) (hl : xs.length = ys.length) (hz : ys.length ≤ 1000) (he : ∀ (i : Nat) x y, xs[i]? = some x → ys[i]? = some y → EqV H n x y) : EqV H (n + 1) (.ref a) (.ref b)
  | tup {n : Nat} {a b : Addr} {xs ys : List V} (ha : H a = some (.tup xs)) (hb : H b = some (.tup ys)) (hl : xs.length = ys.length) (hz : ys.length ≤ 1000) (he : ∀ (i : Nat) x y, xs[i]? = some x → ys[i]? = some y → EqV H n x y) : EqV H (n + 1) (.ref a) (.ref b)
theorem EqV.keep {H H' : Hp} {l : List (Addr × HO)} (w : Wd [] H H' l) : ∀ {n : Nat} {x y : V}, EqV H n x y → EqV H' n x y := by
  intro n x y h
  induction h with
  | non n => exact .non n
  | bl n b => exact .bl n b
  | int n i => exact .int n i
  | str n z => exact .str n z
  | lst ha hb hl hz he ih => exact .lst (w.old ha (by simp)) (w.old hb (by simp)) hl hz ih
  | tup ha hb hl hz he ih => exact .tup (w.old ha (by simp)) (w.old hb (by simp)) hl hz ih
theorem eqv_ints {H : Hp} (n : Nat) {l : List Int} : ∀ (i : Nat) x y, (l.map V.int)[i]? = some x → (l.map V.int)[i]? = some y → EqV H n x y := fun i x y hx hy => by
  rw [hx] at hy; cases hy
  obtain ⟨z, _, rfl⟩ := int_of_map hx
  exact .int n z
section
variable {P : Program} {w : World} {K : PySem.W.Frag} {mg : Str → Option Value} {base : Heap}
def spEq (n : Nat) : Sp := fun vs H Q _ => ∃ x y : V, vs = [x, y] ∧ EqV H n x y ∧ ∀ H', Wd [] H H' [] → Q (.bl true) H'
/-- the first ways out: of what is no list and no tuple -/
theorem eq_flat {H : Hp} {n : Nat} {x y : V} (h : EqV H n x y) : (∃ b, x = .bl b ∧ y = .bl b) ∨ (∃ i, x = .int i ∧ y = .int i) ∨ (∃ z, x = .str z ∧ y = .str z) ∨ (x = .non ∧ y = .non) ∨ 0 < n := by
  cases h with
  | non n => exact .inr (.inr (.inr (.inl ⟨rfl, rfl⟩)))
  | bl n b => exact .inl ⟨b, rfl, rfl⟩
  | int n i => exact .inr (.inl ⟨i, rfl, rfl⟩)
  | str n z => exact .inr (.inr (.inl ⟨z, rfl, rfl⟩))
  | lst => exact .inr (.inr (.inr (.inr (Nat.succ_pos _))))
  | tup => exact .inr (.inr (.inr (.inr (Nat.succ_pos _))))
end
end Br

namespace Br
open PySem PySem.Spec PyProof.Rows L2
def FlatV : V → Prop
  | .non => True
  | .bl _ => True
  | .int _ => True
  | .str _ => True
  | _ => False
theorem eqv_flat {H : Hp} (n : Nat) : ∀ {x : V}, FlatV x → EqV H n x x
  | .non, _ => .non n
  | .bl b, _ => .bl n b
  | .int i, _ => .int n i
  | .str z, _ => .str n z
theorem flat_name (r : Rota) (d : Option Int) : FlatV (nameV r d) := by cases d <;> trivial
theorem eqv_flats {H : Hp} (n : Nat) {l : List V} (hf : ∀ v ∈ l, FlatV v) : ∀ (i : Nat) x y, l[i]? = some x → l[i]? = some y → EqV H n x y := fun i x y hx hy => by
  rw [hx] at hy; cases hy
  exact eqv_flat n (hf x (List.mem_of_getElem? hx))
theorem Wd.ofLe {H H' : Hp} (k : Le H H') : Wd [] H H' [] :=
  ⟨fun b o _ e => k b o e, fun b xs e => k b _ e, fun _ h => (nomatch h), fun _ h => (nomatch h), List.nodup_nil, fun p e => by
    cases h : H p with
    | none => rfl
    | some o => rw [k p o h] at e; cases e⟩
section
variable {P : Program} {w : World} {K : PySem.W.Frag} {mg : Str → Option Value} {base : Heap} {CB CC CU CN : Addr}
def spStands (CB : Addr) : Sp := fun vs H Q _ => ∃ (z : Bz) (wa : Addr) (r : Rota) (b : Bst) (S : List (Str × Bst)), vs = [.ref z.x, .ref wa] ∧ ROk r ∧ BOk r b ∧ BkAt CB z r b S H ∧ LW H r wa b ∧ b.past.length ≤ 1000 ∧ b.now.d.length ≤ 1000 ∧ ∀ H', Wd [] H H' [] → Q (.bl true) H'
end
end Br

namespace Br
open PySem PySem.Spec PyProof.Rows L2
/-! ### sizes -/
structure BSz (m : Nat) (b : Bst) : Prop where
  len : b.past.length + b.und.length ≤ m
  now : b.now.d.length ≤ 6 * m
  past : ∀ e ∈ b.past, e.2.d.length ≤ 6 * m
  und : ∀ e ∈ b.und, e.1.2.d.length ≤ 6 * m ∧ e.2.d.length ≤ 6 * m
theorem BSz.zero (r : Rota) : BSz 0 (bst0 r) := ⟨Nat.le_refl _, Nat.le_refl _, fun _ h => (nomatch h), fun _ h => (nomatch h)⟩
theorem BSz.mono {m n : Nat} {b : Bst} (h : BSz m b) (k : m ≤ n) : BSz n b :=
  ⟨Nat.le_trans h.len k, by have := h.now; omega, fun e he => by have := h.past e he; omega, fun e he => by have := h.und e he; omega⟩
theorem BSz.recd {m : Nat} {b : Bst} {w : Str} {n : Now} (h : BSz m b) (hn : n.d.length ≤ 6 * (m + 1)) : BSz (m + 1) (recB w b n) := by
  refine ⟨?_, hn, fun e he => ?_, fun _ h => nomatch h⟩
  · show (b.past ++ [(w, b.now)]).length + 0 ≤ _
    have := h.len
    rw [List.length_append]; simp only [List.length_cons, List.length_nil]; omega
  · rcases List.mem_append.mp he with he | he
    · have := h.past e he; omega
    · rw [List.mem_singleton.mp he]; have := h.now; show b.now.d.length ≤ _; omega
theorem BSz.undo {m : Nat} {b b' : Bst} (h : BSz m b) (e : undoB b = some b') : BSz m b' := by
  unfold undoB at e
  cases hp : b.past.getLast? with
  | none => rw [hp] at e; cases e
  | some x =>
    rw [hp] at e
    cases e
    have hx : x ∈ b.past := List.mem_of_getLast? hp
    have hl : 0 < b.past.length := List.length_pos_of_mem hx
    refine ⟨?_, h.past x hx, fun y hy => h.past y ((List.dropLast_sublist _).subset hy), fun y hy => ?_⟩
    · show b.past.dropLast.length + (b.und ++ [(x, b.now)]).length ≤ m
      have := h.len
      rw [List.length_dropLast, List.length_append]; simp only [List.length_cons, List.length_nil]; omega
    · rcases List.mem_append.mp hy with hy | hy
      · exact h.und y hy
      · rw [List.mem_singleton.mp hy]; exact ⟨h.past x hx, h.now⟩
theorem BSz.redo {m : Nat} {b b' : Bst} (h : BSz m b) (e : redoB b = some b') : BSz m b' := by
  unfold redoB at e
  cases hp : b.und.getLast? with
  | none => rw [hp] at e; cases e
  | some x =>
    rw [hp] at e
    cases e
    have hx : x ∈ b.und := List.mem_of_getLast? hp
    have hl : 0 < b.und.length := List.length_pos_of_mem hx
    refine ⟨?_, (h.und x hx).2, fun y hy => ?_, fun y hy => h.und y ((List.dropLast_sublist _).subset hy)⟩
    · show (b.past ++ [x.1]).length + b.und.dropLast.length ≤ m
      have := h.len
      rw [List.length_dropLast, List.length_append]; simp only [List.length_cons, List.length_nil]; omega
    · rcases List.mem_append.mp hy with hy | hy
      · exact h.past y hy
      · rw [List.mem_singleton.mp hy]; exact (h.und x hx).1
/-- what an operation that works keeps -/
theorem doOp_keep {r : Rota} {b b' : Bst} {op : Op} {x : Res} {m : Nat} (ok : ROk r) (hop : OpOk r op) (bo : BOk r b) (bs : BSz m b) (h : doOp r b op = .ok (x, b')) : BOk r b' ∧ BSz (m + 1) b' ∧ ∀ l, x = .nms l → l.length ≤ 500 := by
  have und : ∀ {ob : Option Bst}, undoR b ob = .ok (x, b') → (∀ c, ob = some c → BOk r c ∧ BSz m c) → BOk r b' ∧ BSz (m + 1) b' ∧ ∀ l, x = .nms l → l.length ≤ 500 := fun {ob} e k => by
    cases ob with
    | none => cases e; exact ⟨bo, bs.mono (Nat.le_succ m), fun l h => nomatch h⟩
    | some c => cases e; obtain ⟨k1, k2⟩ := k _ rfl; exact ⟨k1, k2.mono (Nat.le_succ m), fun l h => nomatch h⟩
  have recK : ∀ {w : Str} {e : Except Str (Res × Now)}, recR w b e = .ok (x, b') → (∀ y n, e = .ok (y, n) → NowOk r n ∧ n.d.length ≤ 6 * (m + 1) ∧ ∀ l, y = .nms l → l.length ≤ 500) → BOk r b' ∧ BSz (m + 1) b' ∧ ∀ l, x = .nms l → l.length ≤ 500 := fun {w e} h k => by
    cases e with
    | error z => cases h
    | ok z =>
      obtain ⟨y, n⟩ := z
      obtain ⟨k1, k2, k3⟩ := k y n rfl
      cases h
      exact ⟨recB_ok bo k1, bs.recd k2, k3⟩
  cases op with
  | bad v => exact nomatch (show (Except.error ("count" : Str) : Except Str (Res × Bst)) = .ok (x, b') from h)
  | undo => exact und (show undoR b (undoB b) = _ from h) fun c e => ⟨undoB_ok bo e, bs.undo e⟩
  | redo => exact und (show undoR b (redoB b) = _ from h) fun c e => ⟨redoB_ok bo e, bs.redo e⟩
  | reset =>
    refine recK (show recR "reset" b (.ok (.non, now0 r)) = _ from h) fun y n e => ?_
    cases e
    exact ⟨now0_ok ok, Nat.zero_le _, fun l h => nomatch h⟩
  | step k =>
    refine recK (show recR "step" b (if 500 < k then .error "count" else .ok (.nms (found r k b.now), stepN r k b.now)) = _ from h) fun y n e => ?_
    by_cases c : 500 < k
    · rw [if_pos c] at e; cases e
    · rw [if_neg c] at e
      cases e
      have h6 : k ≤ 6 := by have : k ≤ 6 ∨ k = 501 := hop; omega
      have := bs.now
      have l1 := ticksF_len (r := r) k b.now.s b.now.o b.now.t
      refine ⟨stepN_ok ok bo.now, ?_, fun l e => ?_⟩
      · show (b.now.d ++ (ticksF r k b.now.s b.now.o b.now.t).2.2).length ≤ _
        rw [List.length_append, l1]; omega
      · cases e
        show (ticksF r k b.now.s b.now.o b.now.t).2.2.length ≤ _
        rw [l1]; omega
  | gift z =>
    refine recK (show recR "gift" b (giftR r b.now (personOf r (.str z))) = _ from h) fun y n e => ?_
    cases hp : personOf r (.str z) with
    | none => rw [hp] at e; cases e
    | some p =>
      rw [hp] at e
      have e2 : (if p ∈ homes r b.now.t then Except.ok (Res.int (less (owes b.now.o p)), giftN p b.now) else .error ("nobody" : Str)) = .ok (y, n) := e
      obtain ⟨p0, p1, _⟩ := personOf_in hp
      split at e2 <;> cases e2
      have := bs.now
      refine ⟨giftN_ok p0 p1 bo.now, ?_, fun l e => nomatch e⟩
      show (b.now.d ++ [some p]).length ≤ _
      rw [List.length_append]; simp only [List.length_cons, List.length_nil]; omega
  | forgive z =>
    refine recK (show recR "forgive" b (forgiveR b.now (personOf r (.str z))) = _ from h) fun y n e => ?_
    cases hp : personOf r (.str z) with
    | none => rw [hp] at e; cases e
    | some p =>
      rw [hp] at e
      cases e
      have := bs.now
      exact ⟨forgiveN_ok bo.now, by show b.now.d.length ≤ _; omega, fun l e => nomatch e⟩
end Br

/-! isinstance of a caught error of an own class, with or without a dict; list.count of flat things. -/
namespace Br
open PySem PySem.Spec PyProof.Rows L2
/-- what a class must say, that isinstance asks its caught instances rightly -/
structure IsX (K : PySem.W.Frag) (C : Addr) : Prop where
  cl : PySem.W.isClsIn K C = true
  ga : PySem.W.findIn K (.ref C) "__getattribute__" = some (some (.builtin "BaseException.__getattribute__"))
  gg : PySem.W.findIn K (.ref C) "__getattr__" = some none
  sb : PySem.W.subIn K (.ref C) (.type "BaseException") = some true
  ca : PySem.W.findIn K (.ref C) "__class__" = some (some (.builtin "object.__class__"))
  cg : PySem.W.specialIn K (.builtin "object.__class__") "__get__" = some (some (.builtin "getset_descriptor.__get__"))
  tk : PySem.W.takesIn K (.builtin "object.__class__") = some true
  mo : PySem.W.mroIn K C (.type "object") = some true
/-- the error at a: of the class at C; its dict, if any, is told -/
def DOk' (H : Hp) (d : Option Addr) : Prop := ∀ dd, d = some dd → ∃ fs, H dd = some (.xd fs)
def rIsX (K : PySem.W.Frag) (a : Addr) (cls : Value) (d : Option Addr) : List V → Hp → VK → Prop := fun xs H Q => ∃ (C : Addr) (c : V) (cv : Value) (b : Bool), cls = .ref C ∧ IsX K C ∧ DOk' H d ∧ xs = [.ref a, c] ∧ (∀ u, RelV c u → u = cv) ∧ PySem.W.kitOne K (.ref C) cv = some b ∧ Q (.bl b) H
theorem call_isX {X : Cx} {a : Addr} {oe : Obj} {cls : Value} {d : Option Addr} {pn : List (Addr × Obj)} (hz : Zc cls d oe) (hf : ∃ vs, oe.data = .fields vs) : CallR (X.suite a ((a, oe) :: pn)) (.builtin "isinstance") (rIsX X.K a cls d) := by
  intro pins y σ H xs us Q I r h
  obtain ⟨C, c, cv, b, rfl, T, hd, rfl, hcv, e, q⟩ := h
  cases r with
  | cons rx rr => cases rr with
    | cons rt r0 =>
      cases r0
      cases rx
      have ec := hcv _ rt
      subst ec
      obtain ⟨hget, _⟩ := I.pin (a, oe) (List.mem_append.mpr (.inl List.mem_cons_self))
      obtain ⟨vs, hv⟩ := hf
      have J : ∃ od, PySem.W.InstAt y.heap a oe C od := by
        cases hd0 : d with
        | none => exact ⟨none, hget, hz.1, by unfold PySem.W.notCls; rw [hv] <;> rfl, by rw [hz.2, hd0]; trivial⟩
        | some dd =>
          obtain ⟨fs, ea⟩ := hd dd hd0
          have hx : ObjOk X.prog X.w H y.heap dd (.xd fs) := I.hok dd _ ea
          obtain ⟨mA, hns, _⟩ := hx
          obtain ⟨od, ho, _⟩ := lookIn_ns hns
          exact ⟨some od, hget, hz.1, by unfold PySem.W.notCls; rw [hv] <;> rfl, by rw [hz.2, hd0]; exact ho⟩
      obtain ⟨od, J⟩ := J
      exact PySem.W.kia_one (PySem.W.kitx_exc (od := od) T.cl T.ga T.gg T.sb T.ca T.cg T.tk T.mo) I.kIn J e (fun z => nomatch z) fun tk => ⟨.bl b, H, I.kept (t' := tk) fun _ _ z => z, rfl, q⟩
/-! ### list.count of flat things -/
section
variable {X : Cx}
def rCntF (K : PySem.W.Frag) : V → List V → Hp → VK → Prop := fun x xs H Q => ∃ (p : Addr) (ys : List V) (y : V), x = .ref p ∧ xs = [y] ∧ SqL K H p ys ∧ flatV y = true ∧ ys.all flatV = true ∧ Q (.int ((ys.countP fun z => eqV z y : Nat))) H
theorem count_flat {y : V} : ∀ {ys : List V} {us : List Value}, Vals ys us → ys.all flatV = true → us.countP (eqU y) = ys.countP fun z => eqV z y
  | [], _, .nil, _ => rfl
  | z :: ys, _, .cons r rr, h => by
    rw [List.all_cons, Bool.and_eq_true] at h
    rw [List.countP_cons, List.countP_cons, count_flat rr h.2, eqU_of r h.1]
theorem mt_countF : MtR X "list.count" (rCntF X.K) := by
  intro pins s σ H x xs v us Q I rx rxs h
  obtain ⟨p, ys, y, rfl, rfl, hs, fy, fys, q⟩ := h
  cases rx
  cases rxs with
  | cons ry rt =>
    rename_i uy ut
    cases rt
    obtain ⟨its, rv, ⟨⟨cls, dd, data, sl⟩, n, ho, hc, hdn, hd⟩, hlen⟩ := I.list hs
    simp only at hc hd
    subst hc hd
    refine call_meets PySem.F.slot_list_count ⟨_, ho, rfl⟩ PySem.F.entry_list_count (PySem.F.args_list_count_2 _ _)
      (SeqAt.list_countAt p its.toArray n dd sl uy (eqU y)) ⟨ho, fun u' hu' => mem_eqAt ry fy rv fys u' (by simpa using hu'), ?_⟩
    refine ⟨.int ((ys.countP fun z => eqV z y : Nat)), H, I.tok _, ⟨s.toks, ?_⟩, q⟩
    show Value.int ((its.toArray.toList.countP (eqU y) : Nat) : Int) s.toks = _
    rw [show its.toArray.toList = its from rfl, count_flat rv fys]
end
end Br

namespace Br
open PySem PySem.Spec PyProof.Rows L2
/-! ### what the law tells of an error -/
def clsN : List Str := ["InvalidTick", "InvalidCount", "UnknownPerson", "TooLong", "DifferentPeople", "Contradiction", "NobodyHome", "InvalidName", "UnknownName", "SyntaxFault", "CheckFault", "InvalidCode", "InvalidOperation", "InvalidSession"]
def kindN : List Str := ["tick", "count", "person", "long", "different", "contradiction", "nobody", "name", "unknown", "syntax", "check", "code", "operation", "session"]
/-- the class at C is the j-th of the fourteen -/
structure ErK (K : PySem.W.Frag) (cs : Nat → Addr) (CR C : Addr) (j : Nat) : Prop where
  j14 : j < 14
  at_ : ∀ i, i < 14 → PySem.W.kitOne K (.ref C) (.ref (cs i)) = some (decide (i = j))
  ve : PySem.W.kitOne K (.ref C) (.type "ValueError") = some true
  ex : PySem.W.exmOne K (.ref C) (.ref CR) = some true
  is_ : IsX K C
  xf : XfC K C
/-- what the law's word of an error is: a kind's name, and what it carries -/
inductive Carry (K : PySem.W.Frag) (C : Addr) (H : Hp) (d : Option Addr) (Q : VK) : Nat → Prop
  | none {j : Nat} (hj : j < 9) (hd : d = none) (q : ∀ p H', Wd [] H H' [(p, .tup [.str (kindN.getD j ""), .int 0])] → Q (.ref p) H') : Carry K C H d Q j
  | place {j : Nat} {dd : Addr} {fs : List (Str × V)} {i : Int} (hj : 11 ≤ j) (hd : d = some dd) (ha : H dd = some (.xd fs)) (hl : fs.lookup ("place" : Str) = some (.int i)) (no : PySem.W.findIn K (.ref C) "place" = some none)
      (q : ∀ p H', Wd [] H H' [(p, .tup [.str (kindN.getD j ""), .int i])] → Q (.ref p) H') : Carry K C H d Q j
  | syn {dd : Addr} {fs : List (Str × V)} {l c : Int} (hd : d = some dd) (ha : H dd = some (.xd fs)) (h1 : fs.lookup ("line" : Str) = some (.int l)) (h2 : fs.lookup ("column" : Str) = some (.int c)) (n1 : PySem.W.findIn K (.ref C) "line" = some none) (n2 : PySem.W.findIn K (.ref C) "column" = some none)
      (q : ∀ p p2 H', Wd [] H H' [(p, .tup [.str "syntax", .ref p2]), (p2, .tup [.int l, .int c])] → Q (.ref p) H') : Carry K C H d Q 9
  | chk {dd : Addr} {fs : List (Str × V)} {r : Str} {l c : Int} (hd : d = some dd) (ha : H dd = some (.xd fs)) (h0 : fs.lookup ("reason" : Str) = some (.str r)) (h1 : fs.lookup ("line" : Str) = some (.int l)) (h2 : fs.lookup ("column" : Str) = some (.int c))
      (n0 : PySem.W.findIn K (.ref C) "reason" = some none) (n1 : PySem.W.findIn K (.ref C) "line" = some none) (n2 : PySem.W.findIn K (.ref C) "column" = some none)
      (q : ∀ p p2 H', Wd [] H H' [(p, .tup [.str "check", .ref p2]), (p2, .tup [.str r, .int l, .int c])] → Q (.ref p) H') : Carry K C H d Q 10
/-- the wish: what leaves the call is one of the fourteen, and the law's word of it is what the caller wants -/
def ErW (K : PySem.W.Frag) (cs : Nat → Addr) (CR : Addr) (Q : VK) : XK := fun cls d H => ∃ (C : Addr) (j : Nat), cls = .ref C ∧ ErK K cs CR C j ∧ DOk' H d ∧ Carry K C H d Q j
theorem kinds_count : ∀ j : Fin 14, ((List.range 14).map fun i => V.bl (decide (i = j.val))).countP (fun z => eqV z (.bl true)) = 1 := by decide
theorem kinds_at : ∀ j : Fin 14, ((List.range 14).map fun i => V.bl (decide (i = j.val)))[j.val]? = some (.bl true) := by decide
theorem kinds_no : ∀ j m : Fin 14, m.val < j.val → ((List.range 14).map fun i => V.bl (decide (i = j.val)))[m.val]? = some (.bl false) := by decide
theorem kinds_flat : ∀ j : Nat, ((List.range 14).map fun i => V.bl (decide (i = j))).all flatV = true := fun j => by
  rw [List.all_eq_true]
  intro v hv
  obtain ⟨i, _, rfl⟩ := List.mem_map.mp hv; rfl
theorem kind_get : ∀ j : Fin 14, (kindN.map V.str)[j.val]? = some (.str (kindN.getD j.val "")) := by decide +kernel
theorem kind_two : ∀ j : Fin 14, inV (.str (kindN.getD j.val "")) [.str "syntax", .str "check"] = decide (j.val = 9 ∨ j.val = 10) := by decide +kernel
theorem kind_three : ∀ j : Fin 14, inV (.str (kindN.getD j.val "")) [.str "code", .str "operation", .str "session"] = decide (11 ≤ j.val) := by decide +kernel
section
variable {X : Cx}
/-- e.f, e the exception that the suite holds -/
def tXfE (K : PySem.W.Frag) (a : Addr) (cls : Value) (d : Option Addr) (f : Str) (te : TE) : TE := fun σ H Q => te σ H fun x H1 => x = .ref a ∧ ∃ (C dd : Addr) (fs : List (Str × V)) (v : V), cls = .ref C ∧ XfC K C ∧ PySem.W.findIn K (.ref C) f = some none ∧ d = some dd ∧ H1 dd = some (.xd fs) ∧ fs.lookup f = some v ∧ Q v H1
theorem pe_xfE {a : Addr} {oe : Obj} {cls : Value} {d : Option Addr} {pn : List (Addr × Obj)} {e : Expr} {te : TE} {pos : Pos} {n : Str} (hz : Zc cls d oe) (hf : ∃ vs, oe.data = .fields vs) (he : PE (X.suite a ((a, oe) :: pn)) e te) (hb : attributeBase e n X.env (eval e X.env) = eval e X.env := by rfl) :
    PE (X.suite a ((a, oe) :: pn)) (.Attribute e n pos) (tXfE X.K a cls d n te) := by
  refine ⟨fun pins y σ H Q I h => ?_⟩
  refine attr_of hb (thn (he.run pins y σ H _ I h) fun u y1 ⟨x, H1, I1, rx, ex, C, dd, fs, v, ec, T, hno, ed, ea, l, q⟩ => ?_)
  subst ex ec ed
  obtain rfl : u = Value.ref a := rx
  obtain ⟨vs, hd⟩ := hf
  have hx : ObjOk X.prog X.w H1 y1.heap dd (.xd fs) := I1.hok dd _ ea
  obtain ⟨mA, hns, hr⟩ := hx
  obtain ⟨od, ho, hl⟩ := lookIn_ns hns
  obtain ⟨u1, hu1, ru⟩ := RelO.some_of (v := v) (o := mA n) (by rw [← l]; exact hr n)
  have J : PySem.W.InstAt y1.heap a oe C (some od) := ⟨(I1.pin (a, oe) (List.mem_append_left _ List.mem_cons_self)).1, hz.1, by unfold PySem.W.notCls; rw [hd] <;> rfl, by rw [hz.2]; exact ho⟩
  exact HandSPX.exc_get I1.kIn J T.ga T.gg T.exC (PySem.W.findObj_own T.hdC hno rfl (by rw [hl, hu1])) (handed_of ru) ⟨v, H1, I1.tok _, ru, q⟩
theorem takes_len {W : WX} (tk : Takes X W) : Takes X (fun c d σ H => σ.length = X.N.length → W c d σ H) := fun u z ⟨a, B, sI, pins, σ, H, cls, d, e, I, nb, up, sky, na, os, ag, w⟩ => tk u z ⟨a, B, sI, pins, σ, H, cls, d, e, I, nb, up, sky, na, os, ag, w I.len⟩
end
section
variable {P : Program} {w : World} {K : PySem.W.Frag} {mg : Str → Option Value} {base : Heap} {cs : Nat → Addr} {CR : Addr}
abbrev s_law_error_of : Stmt := topS 65
theorem sc_law_error_of : FnScope ["_law_call", "e", "_law_kinds", "_law_names", "_law_name"] ["_law_call"] (defScope s_law_error_of) := ⟨rfl, rfl, rfl, by decide +kernel, rfl, by decide +kernel, by decide +kernel⟩
/-- what the law's _law_error_of makes of a call's reading -/
def TTe (K : PySem.W.Frag) (cs : Nat → Addr) (CR : Addr) : (XK → Hp → VK → Prop) → Hp → VK → Prop := fun tl H Q => tl (ErW K cs CR Q) H (fun _ H' => Q .non H')
theorem five {σ : L2.St} (h : σ.length = 5) : ∃ a b c d e, σ = [a, b, c, d, e] := by
  match σ, h with
  | [a, b, c, d, e], _ => exact ⟨a, b, c, d, e, rfl⟩
abbrev erX (X : Cx) (g : Addr) (cdg : Value) (s : Shared) (H : Hp) (a : Addr) (oe : Obj) (pn : List (Addr × Obj)) : Cx := (cxOf C8.CX0 X.prog X.w X.K X.mg X.base ["_law_call", "e", "_law_kinds", "_law_names", "_law_name"] "_law_error_of" (defScope s_law_error_of) g cdg X.A X.stack s H C8.E0).nox.suite a ((a, oe) :: pn)
def suiteOf : List Stmt → List Stmt
  | .Try _ [.ExceptHandler _ _ b _] _ _ _ :: _ => b
  | _ => []
/-- the suite's reading -/
def erTs (K : PySem.W.Frag) (cs : Nat → Addr) (a : Addr) (cls : Value) (d : Option Addr) : TS :=  
  (tSeq (tAsg (tLst (tCons (tCB (rIsX K a cls d) (tCons (tVar 1) (tCons (tC (V.ref (cs 0))) tNil))) (tCons (tCB (rIsX K a cls d) (tCons (tVar 1) (tCons (tC (V.ref (cs 1))) tNil))) (tCons (tCB (rIsX K a cls d) (tCons (tVar 1) (tCons (tC (V.ref (cs 2))) tNil))) tNil)))) (gName 2)) 
  (tSeq (tAsg (tOp rCat (tVar 2) (tLst (tCons (tCB (rIsX K a cls d) (tCons (tVar 1) (tCons (tC (V.ref (cs 3))) tNil))) (tCons (tCB (rIsX K a cls d) (tCons (tVar 1) (tCons (tC (V.ref (cs 4))) tNil))) (tCons (tCB (rIsX K a cls d) (tCons (tVar 1) (tCons (tC (V.ref (cs 5))) tNil))) tNil))))) (gName 2)) 
  (tSeq (tAsg (tOp rCat (tVar 2) (tLst (tCons (tCB (rIsX K a cls d) (tCons (tVar 1) (tCons (tC (V.ref (cs 6))) tNil))) (tCons (tCB (rIsX K a cls d) (tCons (tVar 1) (tCons (tC (V.ref (cs 7))) tNil))) (tCons (tCB (rIsX K a cls d) (tCons (tVar 1) (tCons (tC (V.ref (cs 8))) tNil))) tNil))))) (gName 2)) 
  (tSeq (tAsg (tOp rCat (tVar 2) (tLst (tCons (tCB (rIsX K a cls d) (tCons (tVar 1) (tCons (tC (V.ref (cs 9))) tNil))) (tCons (tCB (rIsX K a cls d) (tCons (tVar 1) (tCons (tC (V.ref (cs 10))) tNil))) (tCons (tCB (rIsX K a cls d) (tCons (tVar 1) (tCons (tC (V.ref (cs 11))) tNil))) tNil))))) (gName 2)) 
  (tSeq (tAsg (tOp rCat (tVar 2) (tLst (tCons (tCB (rIsX K a cls d) (tCons (tVar 1) (tCons (tC (V.ref (cs 12))) tNil))) (tCons (tCB (rIsX K a cls d) (tCons (tVar 1) (tCons (tC (V.ref (cs 13))) tNil))) tNil)))) (gName 2)) 
  (tSeq (tIfS (tOr (tTest (tOp rNe (tBM K "list" (rCntF K) (tVar 2) (tCons (tC (V.bl true)) tNil)) (tC (V.int 1)))) (tNot (tB (tCB (rIsX K a cls d) (tCons (tVar 1) (tCons (tC (V.ty "ValueError")) tNil)))))) (tRet (tTup (tCons (tC (V.str "other")) (tCons (tC (V.int 0)) tNil)))) tNext) 
  (tSeq (tAsg (tLst (tCons (tC (V.str "tick")) (tCons (tC (V.str "count")) (tCons (tC (V.str "person")) (tCons (tC (V.str "long")) (tCons (tC (V.str "different")) (tCons (tC (V.str "contradiction")) (tCons (tC (V.str "nobody")) (tCons (tC (V.str "name")) (tCons (tC (V.str "unknown")) tNil)))))))))) (gName 3)) 
  (tSeq (tAsg (tOp (rIxL K) (tOp rCat (tVar 3) (tLst (tCons (tC (V.str "syntax")) (tCons (tC (V.str "check")) (tCons (tC (V.str "code")) (tCons (tC (V.str "operation")) (tCons (tC (V.str "session")) tNil))))))) (tBM K "list" (rIndex K) (tVar 2) (tCons (tC (V.bl true)) tNil))) (gName 4)) 
  (tSeq (tIfS (tTest (tOp (rIn K false) (tVar 4) (tLst (tCons (tC (V.str "syntax")) (tCons (tC (V.str "check")) tNil))))) (tRet (tTup (tCons (tVar 4) (tCons (tIf (tTest (tOp rEq (tVar 4) (tC (V.str "syntax")))) (tTup (tCons (tXfE K a cls d "line" (tVar 1)) (tCons (tXfE K a cls d "column" (tVar 1)) tNil))) (tTup (tCons (tXfE K a cls d "reason" (tVar 1)) (tCons (tXfE K a cls d "line" (tVar 1)) (tCons (tXfE K a cls d "column" (tVar 1)) tNil))))) tNil)))) tNext) (tRet (tTup (tCons (tVar 4) (tCons (tIf (tTest (tOp (rIn K false) (tVar 4) (tLst (tCons (tC (V.str "code")) (tCons (tC (V.str "operation")) (tCons (tC (V.str "session")) tNil)))))) (tXfE K a cls d "place" (tVar 1)) (tC (V.int 0))) tNil)))))))))))))
theorem er_suite {X : Cx} {g : Addr} {cdg : Value} {s : Shared} {H : Hp} {a : Addr} {oe : Obj} {cls : Value} {d : Option Addr} {pn : List (Addr × Obj)} (T : Bi X.mg) (nd : (["_law_call", "e", "_law_kinds", "_law_names", "_law_name"] : List Str).Nodup) (gc : ∀ i, i < 14 → X.mg (clsN.getD i "") = some (.ref (cs i))) (hz : Zc cls d oe) (hf : ∃ vs, oe.data = .fields vs) : PSs (erX X g cdg s H a oe pn) (suiteOf (defBody s_law_error_of)) (erTs X.K cs a cls d) := by
  have this : PSs (erX X g cdg s H a oe pn) (suiteOf (defBody s_law_error_of)) _ := (pss_cons (ps_set (i := 2) nd rfl (Or.inl rfl) (pe_lst (pa_cons (pe_callB (call_isX hz hf) (by rfl) T.isinstance (by decide +kernel) (pa_cons (pv 1) (pa_cons (pe_glob (v := .ref (cs 0)) (by rfl) (gc 0 (by decide)) rfl) pa_nil))) (pa_cons (pe_callB (call_isX hz hf) (by rfl) T.isinstance (by decide +kernel) (pa_cons (pv 1) (pa_cons (pe_glob (v := .ref (cs 1)) (by rfl) (gc 1 (by decide)) rfl) pa_nil))) (pa_cons (pe_callB (call_isX hz hf) (by rfl) T.isinstance (by decide +kernel) (pa_cons (pv 1) (pa_cons (pe_glob (v := .ref (cs 2)) (by rfl) (gc 2 (by decide)) rfl) pa_nil))) pa_nil)))))
 (pss_cons (ps_set (i := 2) nd rfl (Or.inl rfl) (pe_op op_cat (pv 2) (pe_lst (pa_cons (pe_callB (call_isX hz hf) (by rfl) T.isinstance (by decide +kernel) (pa_cons (pv 1) (pa_cons (pe_glob (v := .ref (cs 3)) (by rfl) (gc 3 (by decide)) rfl) pa_nil))) (pa_cons (pe_callB (call_isX hz hf) (by rfl) T.isinstance (by decide +kernel) (pa_cons (pv 1) (pa_cons (pe_glob (v := .ref (cs 4)) (by rfl) (gc 4 (by decide)) rfl) pa_nil))) (pa_cons (pe_callB (call_isX hz hf) (by rfl) T.isinstance (by decide +kernel) (pa_cons (pv 1) (pa_cons (pe_glob (v := .ref (cs 5)) (by rfl) (gc 5 (by decide)) rfl) pa_nil))) pa_nil))))))
 (pss_cons (ps_set (i := 2) nd rfl (Or.inl rfl) (pe_op op_cat (pv 2) (pe_lst (pa_cons (pe_callB (call_isX hz hf) (by rfl) T.isinstance (by decide +kernel) (pa_cons (pv 1) (pa_cons (pe_glob (v := .ref (cs 6)) (by rfl) (gc 6 (by decide)) rfl) pa_nil))) (pa_cons (pe_callB (call_isX hz hf) (by rfl) T.isinstance (by decide +kernel) (pa_cons (pv 1) (pa_cons (pe_glob (v := .ref (cs 7)) (by rfl) (gc 7 (by decide)) rfl) pa_nil))) (pa_cons (pe_callB (call_isX hz hf) (by rfl) T.isinstance (by decide +kernel) (pa_cons (pv 1) (pa_cons (pe_glob (v := .ref (cs 8)) (by rfl) (gc 8 (by decide)) rfl) pa_nil))) pa_nil))))))
 (pss_cons (ps_set (i := 2) nd rfl (Or.inl rfl) (pe_op op_cat (pv 2) (pe_lst (pa_cons (pe_callB (call_isX hz hf) (by rfl) T.isinstance (by decide +kernel) (pa_cons (pv 1) (pa_cons (pe_glob (v := .ref (cs 9)) (by rfl) (gc 9 (by decide)) rfl) pa_nil))) (pa_cons (pe_callB (call_isX hz hf) (by rfl) T.isinstance (by decide +kernel) (pa_cons (pv 1) (pa_cons (pe_glob (v := .ref (cs 10)) (by rfl) (gc 10 (by decide)) rfl) pa_nil))) (pa_cons (pe_callB (call_isX hz hf) (by rfl) T.isinstance (by decide +kernel) (pa_cons (pv 1) (pa_cons (pe_glob (v := .ref (cs 11)) (by rfl) (gc 11 (by decide)) rfl) pa_nil))) pa_nil))))))
 (pss_cons (ps_set (i := 2) nd rfl (Or.inl rfl) (pe_op op_cat (pv 2) (pe_lst (pa_cons (pe_callB (call_isX hz hf) (by rfl) T.isinstance (by decide +kernel) (pa_cons (pv 1) (pa_cons (pe_glob (v := .ref (cs 12)) (by rfl) (gc 12 (by decide)) rfl) pa_nil))) (pa_cons (pe_callB (call_isX hz hf) (by rfl) T.isinstance (by decide +kernel) (pa_cons (pv 1) (pa_cons (pe_glob (v := .ref (cs 13)) (by rfl) (gc 13 (by decide)) rfl) pa_nil))) pa_nil)))))
 (pss_cons (ps_if (PW.pt (pw_or (pt_cmpR op_ne (pe_bm (X := erX X g cdg s H a oe pn) PySem.F.plainAttrs_list PySem.F.slot_list_count PySem.F.type_list_count mt_countF (pv 2) (pa_cons pe_bl pa_nil)) pe_int (nomark _)) (pw_or1 (pt_not (pt_val (pe_callB (call_isX hz hf) (by rfl) T.isinstance (by decide +kernel) (pa_cons (pv 1) (pa_cons (pe_bltn (v := .ty "ValueError") (by rfl) T.ValueError (by decide +kernel) rfl) pa_nil))))))))
 (pss_one (ps_ret (pe_tup (pa_cons pe_str (pa_cons pe_int pa_nil)))))
 pss_nil)
 (pss_cons (ps_set (i := 3) nd rfl (Or.inl rfl) (pe_lst (pa_cons pe_str (pa_cons pe_str (pa_cons pe_str (pa_cons pe_str (pa_cons pe_str (pa_cons pe_str (pa_cons pe_str (pa_cons pe_str (pa_cons pe_str pa_nil)))))))))))
 (pss_cons (ps_set (i := 4) nd rfl (Or.inl rfl) (pe_ix ix_list (pe_op op_cat (pv 3) (pe_lst (pa_cons pe_str (pa_cons pe_str (pa_cons pe_str (pa_cons pe_str (pa_cons pe_str pa_nil))))))) (pe_bm (X := erX X g cdg s H a oe pn) PySem.F.plainAttrs_list PySem.F.slot_list_index PySem.F.type_list_index mt_index (pv 2) (pa_cons pe_bl pa_nil)) (fun _ _ => rfl)))
 (pss_cons (ps_if (pt_cmpR op_in_seq (pv 4) (pe_lst (pa_cons pe_str (pa_cons pe_str pa_nil))) (by rfl))
 (pss_one (ps_ret (pe_tup (pa_cons (pv 4) (pa_cons (pe_ifExp (pt_cmpR op_eq (pv 4) pe_str (nomark _)) (pe_tup (pa_cons (pe_xfE hz hf (pv 1)) (pa_cons (pe_xfE hz hf (pv 1)) pa_nil))) (pe_tup (pa_cons (pe_xfE hz hf (pv 1)) (pa_cons (pe_xfE hz hf (pv 1)) (pa_cons (pe_xfE hz hf (pv 1)) pa_nil))))) pa_nil)))))
 pss_nil)
 (pss_one (ps_ret (pe_tup (pa_cons (pv 4) (pa_cons (pe_ifExp (pt_cmpR op_in_seq (pv 4) (pe_lst (pa_cons pe_str (pa_cons pe_str (pa_cons pe_str pa_nil)))) (by rfl)) (pe_xfE hz hf (pv 1)) pe_int) pa_nil))))))))))))))
  exact this
theorem sz20 {n : Nat} (h : n ≤ 20) : n ≤ sizeLine := Nat.le_trans h (by decide)
theorem ite_no {b : Bool} {p q : Prop} (h : ¬ b = true) (hq : q) : if b = true then p else q := by rw [if_neg h]; exact hq
theorem ite_yes {b : Bool} {p q : Prop} (h : b = true) (hp : p) : if b = true then p else q := by rw [if_pos h]; exact hp
theorem er_read {a : Addr} {C : Addr} {d : Option Addr} {j : Nat} {H : Hp} {Q : VK} {D : Ends} {x0 x2 x3 x4 : Option V} (E : ErK K cs CR C j) (hd : DOk' H d) (cr : Carry K C H d Q j) (hD : D.rt = Q) :
    erTs K cs a (.ref C) d D [x0, some (.ref a), x2, x3, x4] H := by
  have le20 : ∀ {n m : Nat}, Nat.ble n m = true → n ≤ m := fun h => Nat.le_of_ble_eq_true h
  obtain ⟨j14, eat, eve, _, eis, exf⟩ := E
  have dk : ∀ {H' : Hp} {l : List (Addr × HO)}, Wd [] H H' l → DOk' H' d := fun w dd e => by
    obtain ⟨fs, h⟩ := hd dd e
    exact ⟨fs, w.old h (by simp)⟩
  have iz : ∀ (i : Nat), i < 14 → ∀ {σ : L2.St} {H' : Hp} {l : List (Addr × HO)} {R : VK}, σ[1]? = some (some (V.ref a)) → Wd [] H H' l → R (.bl (decide (i = j))) H' → tCB (rIsX K a (.ref C) d) (tCons (tVar 1) (tCons (tC (V.ref (cs i))) tNil)) σ H' R :=
    fun i hi σ H' l R e w q => ⟨_, e, C, _, _, _, rfl, eis, dk w, rfl, fun u r => r, eat i hi, q⟩
  have cat : ∀ {H' : Hp} {l : List (Addr × HO)} {p q : Addr} {xs zs : List V} {R : VK}, Wd [] H H' l → H' p = some (.lst xs) → H' q = some (.lst zs) → xs.length + zs.length ≤ 20 → (∀ r, H' r = none → R (.ref r) (upd H' r (.lst (xs ++ zs)))) → rCat (.ref p) (.ref q) H' R :=
    fun w h1 h2 h3 h4 => ⟨_, _, _, _, rfl, rfl, h1, h2, sz20 (by omega), h4⟩
  let b := fun i => V.bl (decide (i = j))
  have sz : ∀ n, n ≤ 20 → n ≤ sizeLine := fun n h => sz20 (by omega)
  have w0 := Wd.refl H
  refine iz 0 (by decide) rfl w0 <| iz 1 (by decide) rfl w0 <| iz 2 (by decide) rfl w0 ⟨sz _ (le20 rfl), fun p1 hp1 => ?_⟩
  have w1 := w0.new (.lst [b 0, b 1, b 2]) hp1
  refine ⟨_, rfl, ?_⟩
  refine iz 3 (by decide) rfl w1 <| iz 4 (by decide) rfl w1 <| iz 5 (by decide) rfl w1 ⟨sz _ (le20 rfl), fun p2 hp2 => ?_⟩
  have w2 := w1.new (.lst [b 3, b 4, b 5]) hp2
  refine cat w2 (w2.get 1 rfl) (w2.get 0 rfl) (le20 rfl) fun p3 hp3 => ?_
  have w3 := (w2.new (.lst [b 0, b 1, b 2, b 3, b 4, b 5]) hp3).sub (l' := [(p3, .lst [b 0, b 1, b 2, b 3, b 4, b 5])]) (by walk_at "sub")
  refine ⟨_, rfl, ?_⟩
  refine iz 6 (by decide) rfl w3 <| iz 7 (by decide) rfl w3 <| iz 8 (by decide) rfl w3 ⟨sz _ (le20 rfl), fun p4 hp4 => ?_⟩
  have w4 := w3.new (.lst [b 6, b 7, b 8]) hp4
  refine cat w4 (w4.get 1 rfl) (w4.get 0 rfl) (le20 rfl) fun p5 hp5 => ?_
  have w5 := (w4.new (.lst [b 0, b 1, b 2, b 3, b 4, b 5, b 6, b 7, b 8]) hp5).sub (l' := [(p5, .lst [b 0, b 1, b 2, b 3, b 4, b 5, b 6, b 7, b 8])]) (by walk_at "sub")
  refine ⟨_, rfl, ?_⟩
  refine iz 9 (by decide) rfl w5 <| iz 10 (by decide) rfl w5 <| iz 11 (by decide) rfl w5 ⟨sz _ (le20 rfl), fun p6 hp6 => ?_⟩
  have w6 := w5.new (.lst [b 9, b 10, b 11]) hp6
  refine cat w6 (w6.get 1 rfl) (w6.get 0 rfl) (le20 rfl) fun p7 hp7 => ?_
  have w7 := (w6.new (.lst [b 0, b 1, b 2, b 3, b 4, b 5, b 6, b 7, b 8, b 9, b 10, b 11]) hp7).sub (l' := [(p7, .lst [b 0, b 1, b 2, b 3, b 4, b 5, b 6, b 7, b 8, b 9, b 10, b 11])]) (by walk_at "sub")
  refine ⟨_, rfl, ?_⟩
  refine iz 12 (by decide) rfl w7 <| iz 13 (by decide) rfl w7 ⟨sz _ (le20 rfl), fun p8 hp8 => ?_⟩
  have w8 := w7.new (.lst [b 12, b 13]) hp8
  refine cat w8 (w8.get 1 rfl) (w8.get 0 rfl) (le20 rfl) fun p9 hp9 => ?_
  have w9 : Wd [] H (upd _ p9 (.lst ((List.range 14).map fun i => V.bl (decide (i = j))))) [(p9, .lst ((List.range 14).map fun i => V.bl (decide (i = j))))] := (w8.new _ hp9).sub (by walk_at "sub")
  have f9 := kinds_flat j
  -- the test
  refine ⟨_, rfl, .inl ⟨rfl, _, .inl (.inl (w9.get 0 rfl))⟩, p9, _, _, rfl, rfl, .inl (.inl (w9.get 0 rfl)), rfl, f9, ?_⟩
  refine ⟨rfl, _, rfl, ?_⟩
  have ec : (!decide (V.int (List.countP (fun z => eqV z (V.bl true)) ((List.range 14).map fun i => V.bl (decide (i = j))) : Nat) = V.int 1)) = false := by
    rw [kinds_count ⟨j, j14⟩]; rfl
  show if (!decide (V.int (List.countP (fun z => eqV z (V.bl true)) ((List.range 14).map fun i => V.bl (decide (i = j))) : Nat) = V.int 1)) = true then _ else _
  rw [ec, if_neg (by decide)]
  refine ⟨_, rfl, C, _, _, _, rfl, eis, dk w9, rfl, fun u r => r, eve, _, rfl, ?_⟩
  refine ⟨sz20 (le20 rfl), fun p10 hp10 => ?_⟩
  have w10 := w9.new (.lst (kindN.take 9 |>.map V.str)) hp10
  refine ⟨_, rfl, sz20 (le20 rfl), fun p11 hp11 => ?_⟩
  have w11 := w10.new (.lst (kindN.drop 9 |>.map V.str)) hp11
  refine cat w11 (w11.get 1 rfl) (w11.get 0 rfl) (le20 rfl) fun p12 hp12 => ?_
  have w12 : Wd [] H (upd _ p12 (.lst (kindN.map V.str))) ((p12, .lst (kindN.map V.str)) :: _) := w11.new _ hp12
  refine ⟨_, rfl, .inl ⟨rfl, _, .inl (.inl (w12.get 3 rfl))⟩, p9, _, _, j, _, rfl, rfl, .inl (.inl (w12.get 3 rfl)), rfl, f9, kinds_at ⟨j, j14⟩, rfl, fun m z' hm hz => ?_, ?_⟩
  · rw [kinds_no ⟨j, j14⟩ ⟨m, by omega⟩ hm] at hz
    cases hz; rfl
  have ek := kind_get ⟨j, j14⟩
  refine ⟨_, _, _, .str (kindN.getD j ""), rfl, rfl, .inl (.inl (w12.get 0 rfl)), at_of (j := j) rfl ek, ?_⟩
  refine ⟨_, rfl, sz20 (le20 rfl), fun p13 hp13 => ?_⟩
  have w13 := w12.new (.lst [.str "syntax", .str "check"]) hp13
  refine ⟨p13, [.str "syntax", .str "check"], rfl, .inl (.inl (.inl (w13.get 0 rfl))), rfl, rfl, decide (j = 9 ∨ j = 10), by rw [← kind_two ⟨j, j14⟩]; rfl, ?_⟩
  cases cr with
  | none hj hd q =>
    refine ite_no (b := _) (by rw [decide_eq_true_eq]; omega) ?_
    refine ⟨_, rfl, _, rfl, sz20 (le20 rfl), fun p14 hp14 => ?_⟩
    have w14 := w13.new (.lst [.str "code", .str "operation", .str "session"]) hp14
    refine ⟨p14, [.str "code", .str "operation", .str "session"], rfl, .inl (.inl (.inl (w14.get 0 rfl))), rfl, rfl, decide (11 ≤ j), by rw [← kind_three ⟨j, j14⟩]; rfl, ?_⟩
    refine ite_no (b := _) (by rw [decide_eq_true_eq]; omega) ?_
    refine ⟨sz20 (le20 rfl), fun p15 hp15 => ?_⟩
    rw [hD]
    exact q _ _ ((w14.new _ hp15).sub (by walk_at "sub"))
  | place hj hd ha hl no q =>
    refine ite_no (b := _) (by rw [decide_eq_true_eq]; omega) ?_
    refine ⟨_, rfl, _, rfl, sz20 (le20 rfl), fun p14 hp14 => ?_⟩
    have w14 := w13.new (.lst [.str "code", .str "operation", .str "session"]) hp14
    refine ⟨p14, [.str "code", .str "operation", .str "session"], rfl, .inl (.inl (.inl (w14.get 0 rfl))), rfl, rfl, decide (11 ≤ j), by rw [← kind_three ⟨j, j14⟩]; rfl, ?_⟩
    refine ite_yes (b := _) (by rw [decide_eq_true_eq]; omega) ?_
    refine ⟨_, rfl, rfl, C, _, _, _, rfl, exf, no, hd, w14.old ha (by simp), hl, sz20 (le20 rfl), fun p15 hp15 => ?_⟩
    rw [hD]
    exact q _ _ ((w14.new _ hp15).sub (by walk_at "sub"))
  | @syn dd fs l c hd ha h1 h2 n1 n2 q =>
    refine ite_yes (b := _) (by decide) ?_
    refine ⟨_, rfl, _, rfl, rfl, _, rfl, ?_⟩
    refine ite_yes (b := _) (by decide +kernel) ?_
    refine ⟨_, rfl, rfl, C, _, _, _, rfl, exf, n1, hd, w13.old ha (by simp), h1, _, rfl, rfl, C, _, _, _, rfl, exf, n2, hd, w13.old ha (by simp), h2, sz20 (le20 rfl), fun p14 hp14 => ?_⟩
    have w14 := w13.new (.tup [.int l, .int c]) hp14
    refine ⟨sz20 (le20 rfl), fun p15 hp15 => ?_⟩
    rw [hD]
    exact q _ _ _ ((w14.new _ hp15).sub (by walk_at "sub"))
  | @chk dd fs r l c hd ha h0 h1 h2 n0 n1 n2 q =>
    refine ite_yes (b := _) (by decide) ?_
    refine ⟨_, rfl, _, rfl, rfl, _, rfl, ?_⟩
    refine ite_no (b := _) (by decide +kernel) ?_
    refine ⟨_, rfl, rfl, C, _, _, _, rfl, exf, n0, hd, w13.old ha (by simp), h0, _, rfl, rfl, C, _, _, _, rfl, exf, n1, hd, w13.old ha (by simp), h1, _, rfl, rfl, C, _, _, _, rfl, exf, n2, hd, w13.old ha (by simp), h2, sz20 (le20 rfl), fun p14 hp14 => ?_⟩
    have w14 := w13.new (.tup [.str r, .int l, .int c]) hp14
    refine ⟨sz20 (le20 rfl), fun p15 hp15 => ?_⟩
    rw [hD]
    exact q _ _ _ ((w14.new _ hp15).sub (by walk_at "sub"))
theorem er_gives {X : Cx} {q : Str} {g : Addr} {cdg : Value} (T : Bi X.mg) (hR : X.mg "RotaError" = some (.ref CR)) (gc : ∀ i, i < 14 → X.mg (clsN.getD i "") = some (.ref (cs i))) :
    LamX.GivesTo X ["_law_call", "e", "_law_kinds", "_law_names", "_law_name"] "_law_error_of" (defScope s_law_error_of) g cdg (defBody s_law_error_of) "_law_call" q (TTe X.K cs CR) := by
  intro f c' s H Q tl act hc h
  have nd := sc_law_error_of.nd
  refine ⟨_, pss_cons (ps_try_as (i := 1) (c := .ref CR) (ts := erTs X.K cs) (Wout := fun _ _ _ _ => False)
      (tb := fun W D σ H => ∃ Ech : XK, (∀ cls d σ' H', Ech cls d H' → σ'.length = 5 → W cls d σ' H') ∧ σ[0]? = some (some (.ref f)) ∧ H c' = some (LamX.CodeO c' q) ∧ tl Ech H (fun _ H' => D.nx σ H'))
      rfl rfl nd rfl rfl ⟨by rfl, by decide, .inl hR⟩ takes0 (fun W pn xe tk _ => ?_) (fun a oe cls d pn hz hf => er_suite (g := g) (cdg := cdg) (s := s) (H := H) T nd gc hz hf)) (pss_one (ps_ret pe_non)), ?_⟩
  · refine ⟨fun pins s σ H D I ⟨Ech, hE, h0, hC, ht⟩ => ?_⟩
    exact (pss_one (ps_expr (act (fun c d σ H => σ.length = 5 → W c d σ H) pn xe Ech _ _ (takes_len tk) (fun cls d σ' H' e hl => hE cls d σ' H' e hl)))).run pins s σ H D I ⟨h0, hC, ht⟩
  · refine ⟨ErW X.K cs CR Q, fun cls d σ' H' ⟨C, j, ec, Ek, hd, cr⟩ hl => ?_, rfl, hc, h⟩
    subst ec
    obtain ⟨y0, y1, y2, y3, y4, rfl⟩ := five hl
    exact ⟨true, Ek.ex, fun _ a na => er_read Ek hd cr rfl, fun z => nomatch z⟩
end
end Br

/-! the law's _law_error_of(lambda: ..); a def whose code object is known. -/
namespace Br
open PySem PySem.Spec PyProof.Rows L2
/-- a def, its code object told -/
structure FunC (K : PySem.W.Frag) (x qual : Str) (st : Stmt) (f : Addr) (fd : FuncData) (c : Addr) : Prop where
  ex : ∃ (oc : Value) (od : Option Addr) (kV doc pm : Value) (an : Option Addr) (ct : Value) (osl : Array (Option Value)),
    fd = PySem.W.fnOf x qual (defArgs st) (defBody st) (defScope st) .none kV doc pm an (.ref c) ct ∧ K.lookup f = some ⟨oc, od, .func fd, osl⟩ ∧ PySem.W.codeIn K (.ref c) qual = true
section
variable {P : Program} {w : World} {K : PySem.W.Frag} {mg : Str → Option Value} {base : Heap}
theorem FunC.ok {x qual : Str} {st : Stmt} {f c : Addr} {fd : FuncData} {N ps : List Str} {k : Nat} {sp : Sp} (F : FunC K x qual st f fd c) (S : FnScope N ps (defScope st)) (len : ∀ vs H Q E, sp vs H Q E → vs.length = ps.length)
    (hbody : ∀ (A : Around) (outer : List Env) (s : Shared) (H : Hp) (vs : List V) (Q : VK) (E : XK), Room k (A.deeper (envOfC qual (defScope st) s.heap.objs.size f (.ref c))) → sp vs H Q E →
      ∃ t, PSs (cxOf CX0 P w K mg base N qual (defScope st) f (.ref c) A outer s H E).nox (defBody st) t ∧ t { nx := fun _ H' => Q .non H', rt := Q } (L2.start N vs) H) : FnOk P w K mg base CX0 (k + 1) f fd ps sp := by
  obtain ⟨oc, od, kV, doc, pm, an, ct, osl, rfl, lk, hcd⟩ := F.ex
  refine fn_of lk hcd S len fun A outer s H vs Q E hr hsp => ?_
  obtain ⟨t, h, q⟩ := hbody A outer s H vs Q E hr hsp
  exact ⟨t, h.nox, q⟩
theorem funC_mk {x qual : Str} {st : Stmt} {f c : Addr} {oc : Value} {od an : Option Addr} {osl : Array (Option Value)} {kV doc pm ct : Value} (l : K.lookup f = some ⟨oc, od, .func (PySem.W.fnOf x qual (defArgs st) (defBody st) (defScope st) .none kV doc pm an (.ref c) ct), osl⟩)
    (h : PySem.W.codeIn K (.ref c) qual = true) : FunC K x qual st f (PySem.W.fnOf x qual (defArgs st) (defBody st) (defScope st) .none kV doc pm an (.ref c) ct) c := ⟨oc, od, kV, doc, pm, an, ct, osl, rfl, l, h⟩
end
section
variable {X : Cx} {cs : Nat → Addr} {CR P' c : Addr} {k : Nat} {params : Arguments} {body : Expr} {scope : Scope} {t : XK → TE} {p lpos pos : Pos}
/-- _law_error_of(lambda: body) -/
theorem pe_erof (D : DefAt X.K X.mg "_law_error_of" s_law_error_of ["_law_call"]) (T : Bi X.mg) (hR : X.mg "RotaError" = some (.ref CR)) (gc : ∀ i, i < 14 → X.mg (clsN.getD i "") = some (.ref (cs i))) (TB : LamX.TabB X.base X.mg c P') (hg : Gl X "_law_error_of") (hcode : X.env.code = .ref c)
    (hr : Room (k + 2) X.A) (L : LamX.LamS X.env.scope scope) (hdef : defaultsOf params X.env = ([], []))
    (hbind : ∀ (q : Str) (cl : List (Str × Addr)) (pm cv ctv : Value), bindArgs (PySem.W.kla_fn "<lambda>" q params body scope cl pm cv ctv) ⟨[], []⟩ = pure [])
    (hbody : ∀ (A : Around) (outer : List Env) (s : Shared) (H : Hp) (E : XK) (f c' : Addr), Room k (A.deeper (LamX.lamEnv X scope s.heap.objs.size f c')) → PE (LamX.lamCx X A outer s H E scope f c') body (t E)) :
    PE X (.Call (.Name "_law_error_of" p) [.Lambda params body scope lpos] [] pos) (LamX.tLam [(P', X.env.qual ++ "<lambda>")] (TTe X.K cs CR) t) := by
  obtain ⟨f, fd, m, F, b⟩ := D.ex
  obtain ⟨oc, od, kV, doc, pm, an, cdv, ct, osl, rfl, lk, hcd⟩ := F.ex
  exact LamX.pe_lamcall hg m F.kp lk hcd b sc_law_error_of rfl (Or.inl rfl) (er_gives T hR gc) TB hcode (List.mem_singleton.mpr rfl) (fun p hp _ => by rw [List.mem_singleton.mp hp]) hr L hdef hbind hbody
end
/-! ### the tables are kept -/
theorem tabs_wd {T : List (Addr × Str)} {M : List Addr} {H H' : Hp} {l : List (Addr × HO)} (t : LamX.Tabs T H) (w : Wd M H H' l) (hM : ∀ a ∈ M, ∃ xs, H a = some (.lst xs)) : LamX.Tabs T H' := fun p hp => by
  obtain ⟨ps, h1, h2, h3⟩ := t p hp
  have ne : ∀ {b : Addr} {o : HO}, H b = some o → (∀ xs, o ≠ .lst xs) → b ∉ M := fun e n hb => by
    obtain ⟨xs, e2⟩ := hM _ hb
    rw [e] at e2
    exact n xs (Option.some.inj e2)
  refine ⟨ps, w.base _ _ (ne h1 fun xs z => by cases z) h1, h2, fun pos cv hc => ?_⟩
  obtain ⟨c, e, hk⟩ := h3 pos cv hc
  exact ⟨c, e, w.base _ _ (ne hk fun xs z => by unfold LamX.CodeO at z; cases z) hk⟩
theorem tabs_mut {T : List (Addr × Str)} {H : Hp} {a : Addr} {xs : List V} {o : HO} (t : LamX.Tabs T H) (h : H a = some (.lst xs)) : LamX.Tabs T (upd H a o) := fun p hp => by
  obtain ⟨ps, h1, h2, h3⟩ := t p hp
  have ne : ∀ {b : Addr} {o : HO}, H b = some o → (∀ xs, o ≠ .lst xs) → b ≠ a := fun e n z => by
    subst z
    rw [h] at e
    exact n xs (Option.some.inj e).symm
  refine ⟨ps, by rw [upd_ne (ne h1 fun xs z => by cases z)]; exact h1, h2, fun pos cv hc => ?_⟩
  obtain ⟨c, e, hk⟩ := h3 pos cv hc
  exact ⟨c, e, by rw [upd_ne (ne hk fun xs z => by unfold LamX.CodeO at z; cases z)]; exact hk⟩
end Br

namespace Br
open PySem PySem.Spec PyProof.Rows L2
/-! ### what a step of the law keeps -/
def Nt (H : Hp) : Hp := fun a => match H a with
  | some (.tbl _) => none
  | o => o
theorem Nt.mk {H : Hp} {a : Addr} {o : HO} (h : H a = some o) (n : ∀ ps, o ≠ .tbl ps) : Nt H a = some o := by
  unfold Nt
  rw [h]
  cases o with
  | tbl ps => exact absurd rfl (n ps)
  | _ => rfl
section
variable {G : Hp} {r : Rota} {a : Addr}
theorem LStT.nt {s : Nat} {o : List Int} (h : LStT G a s o) : LStT (Nt G) a s o := by
  obtain ⟨b, h1, h2⟩ := h; exact ⟨b, Nt.mk h1 (fun _ => by simp), Nt.mk h2 (fun _ => by simp)⟩
theorem LNow.nt {n : Now} (h : LNow G r a n) : LNow (Nt G) r a n := by
  obtain ⟨st, d, h1, h2, h3⟩ := h; exact ⟨st, d, Nt.mk h1 (fun _ => by simp), h2.nt, Nt.mk h3 (fun _ => by simp)⟩
theorem LEnt.nt {e : Str × Now} (h : LEnt G r a e) : LEnt (Nt G) r a e := by
  obtain ⟨b, h1, h2⟩ := h; exact ⟨b, Nt.mk h1 (fun _ => by simp), h2.nt⟩
theorem LUnd.nt {e : (Str × Now) × Now} (h : LUnd G r a e) : LUnd (Nt G) r a e := by
  obtain ⟨b, c, h1, h2, h3⟩ := h; exact ⟨b, c, Nt.mk h1 (fun _ => by simp), h2.nt, h3.nt⟩
theorem AwAt.nt : ∀ {as : List Addr} {ts : List (Int × Int × Int)}, AwAt G as ts → AwAt (Nt G) as ts
  | _, _, .nil => .nil
  | _, _, .cons h t => .cons (Nt.mk h (fun _ => by simp)) (AwAt.nt t)
theorem RotaAt.nt (h : RotaAt G a r) : RotaAt (Nt G) a r := by
  obtain ⟨an, at_, aw, aa, am, as, h1, ⟨o, d, h2⟩, h3, h4, h5, h6, h7⟩ := h
  exact ⟨an, at_, aw, aa, am, as, Nt.mk h1 (fun _ => by simp), ⟨o, d, Nt.mk h2 (fun _ => by simp)⟩, Nt.mk h3 (fun _ => by simp), Nt.mk h4 (fun _ => by simp), Nt.mk h5 (fun _ => by simp), h6.nt, Nt.mk h7 (fun _ => by simp)⟩
theorem LW.nt {b : Bst} (h : LW G r a b) : LW (Nt G) r a b := by
  obtain ⟨ra, na, pl, ul, as, us, h1, h2, h3, h4, h5, h6, h7⟩ := h.ex
  exact ⟨ra, na, pl, ul, as, us, Nt.mk h1 (fun _ => by simp), h2.nt, h3.nt, Nt.mk h4 (fun _ => by simp), paired_imp (fun _ _ e => e.nt) h5, Nt.mk h6 (fun _ => by simp), paired_imp (fun _ _ e => e.nt) h7⟩
end
theorem nt_le {M : List Addr} {H H' : Hp} (e : LamX.ExtN H H') : Le (Nt (Msk M H)) (Msk M H') := fun b o h => by
  unfold Nt at h
  cases h2 : Msk M H b with
  | none => rw [h2] at h; cases h
  | some u =>
    rw [h2] at h
    obtain ⟨m1, m2⟩ := Msk.out h2
    cases u with
    | tbl ps => cases h
    | _ => cases h; exact Msk.mk m1 (e b _ m2 (fun _ => by simp))
/-- what may be written: lists, instances, dicts -/
def MutO : HO → Prop
  | .lst _ => True
  | .ins _ _ _ => True
  | .dK _ => True
  | _ => False
def MuO (H : Hp) (M : List Addr) : Prop := ∀ a ∈ M, ∃ o, H a = some o ∧ MutO o
theorem MuO.mu {H : Hp} {M : List Addr} (h : MuO H M) : Mu H M := fun a ha => by
  obtain ⟨o, e, m⟩ := h a ha
  rw [e]
  cases o <;> first | exact False.elim m | exact ⟨fun _ => by simp, fun _ _ => by simp⟩
theorem BkAt.muO {CB : Addr} {z : Bz} {r : Rota} {b : Bst} {S : List (Str × Bst)} {H : Hp} (h : BkAt CB z r b S H) : MuO H z.own := fun a ha => by
  obtain ⟨na, h1, _, ⟨as, p1, _⟩, us, u1, _⟩ := h.na
  obtain ⟨kvs, s1, _⟩ := h.sv
  simp only [Bz.own, List.mem_cons] at ha
  rcases ha with e | e | e | e | e
  · rw [e]; exact ⟨_, h1, trivial⟩
  · rw [e]; exact ⟨_, p1, trivial⟩
  · rw [e]; exact ⟨_, u1, trivial⟩
  · rw [e]; exact ⟨_, s1, trivial⟩
  · obtain ⟨xs, e2⟩ := h.sl a e; exact ⟨_, e2, trivial⟩
theorem tabs_wdO {T : List (Addr × Str)} {M : List Addr} {H H' : Hp} {l : List (Addr × HO)} (t : LamX.Tabs T H) (w : Wd M H H' l) (hM : MuO H M) : LamX.Tabs T H' := fun p hp => by
  obtain ⟨ps, h1, h2, h3⟩ := t p hp
  have ne : ∀ {b : Addr} {o : HO}, H b = some o → ¬ MutO o → b ∉ M := fun e n hb => by
    obtain ⟨u, e2, m⟩ := hM _ hb
    rw [e] at e2
    exact n (by rw [Option.some.inj e2]; exact m)
  refine ⟨ps, w.base _ _ (ne h1 id) h1, h2, fun pos cv hc => ?_⟩
  obtain ⟨c, e, hk⟩ := h3 pos cv hc
  exact ⟨c, e, w.base _ _ (ne hk id) hk⟩
theorem BkAt.ext {CB : Addr} {z : Bz} {r : Rota} {b : Bst} {S : List (Str × Bst)} {H H' : Hp} (h : BkAt CB z r b S H) (e : LamX.ExtN H H') : BkAt CB z r b S H' := by
  have kt : ∀ b xs, H b = some (.tup xs) → H' b = some (.tup xs) := fun b xs q => e b _ q (fun _ => by simp)
  have sm : ∀ a ∈ z.own, H' a = H a := fun a ha => by
    obtain ⟨o, e1, m⟩ := h.muO a ha
    rw [e1]
    exact e a o e1 fun ps z => by rw [z] at m; exact m
  obtain ⟨na, h1, h2⟩ := h.na
  obtain ⟨kvs, s1, s2⟩ := h.sv
  have hro : RotaAt H' z.p r := h.ro.nt.le fun b o q => by
    unfold Nt at q
    cases h2 : H b with
    | none => rw [h2] at q; cases q
    | some u =>
      rw [h2] at q
      cases u with
      | tbl ps => cases q
      | _ => cases q; exact e b _ h2 (fun _ => by simp)
  exact ⟨⟨na, (sm _ (by simp [Bz.own])).trans h1, h2.keep kt (sm _ (by simp [Bz.own])) (sm _ (by simp [Bz.own]))⟩, hro,
    ⟨kvs, (sm _ (by simp [Bz.own])).trans s1, paired_imp (fun _ _ q => q.keep kt (fun _ h => h) fun a ha => sm a (by simp [Bz.own, ha])) s2⟩, h.ne, h.nn, fun a ha => by rw [sm a ha]; exact h.al a ha, h.xn, fun a ha => by rw [sm a (by simp [Bz.own, ha])]; exact h.sl a ha⟩
/-- the law's state: the tables, the numbers at d, the book, the law's own book -/
structure Jn (CB PT d : Addr) (qq : Str) (z : Bz) (r : Rota) (bl bb : Bst) (S : List (Str × Bst)) (wa : Addr) (H : Hp) : Prop where
  tabs : LamX.Tabs [(PT, qq)] H
  dr : ∃ x y l, H d = some (dl x y l) ∧ DOk x y l
  bk : BkAt CB z r bb S H
  lw : LW (Msk (PT :: d :: z.own) H) r wa bl
  nd : d ∉ z.own
section
variable {CB PT d : Addr} {qq : Str} {z : Bz} {r : Rota} {bl bb b' : Bst} {S S' : List (Str × Bst)} {wa : Addr} {H H' : Hp} {l : List (Addr × HO)}
theorem Jn.pt (j : Jn CB PT d qq z r bl bb S wa H) : ∃ ps, H PT = some (.tbl ps) := by
  obtain ⟨ps, h, _⟩ := j.tabs (PT, qq) (by simp); exact ⟨ps, h⟩
theorem Jn.np (j : Jn CB PT d qq z r bl bb S wa H) : PT ∉ z.own := fun h => by
  obtain ⟨ps, e⟩ := j.pt
  obtain ⟨o, e2, m⟩ := j.bk.muO _ h
  rw [e] at e2
  rw [← Option.some.inj e2] at m; exact m
theorem Jn.al (j : Jn CB PT d qq z r bl bb S wa H) : Al (PT :: d :: z.own) H := fun a ha => by
  rcases List.mem_cons.mp ha with e | ha
  · obtain ⟨ps, h⟩ := j.pt; rw [e, h]; simp
  rcases List.mem_cons.mp ha with e | ha
  · obtain ⟨x, y, l, h, _⟩ := j.dr; rw [e, h]; simp
  · exact j.bk.al a ha
theorem Jn.wd0 (j : Jn CB PT d qq z r bl bb S wa H) (w : Wd [] H H' l) : Jn CB PT d qq z r bl bb S wa H' := by
  obtain ⟨x, y, m, h, ok⟩ := j.dr
  exact ⟨tabs_wdO j.tabs w (fun _ h => nomatch h), ⟨x, y, m, w.base _ _ (by simp) h, ok⟩, j.bk.keep0 w, j.lw.le (Msk.le0 w), j.nd⟩
theorem Jn.bel {x y : Int} {m : List Int} (j : Jn CB PT d qq z r bl bb S wa H) (w : Wd [d] H H' l) (h : H' d = some (dl x y m)) (ok : DOk x y m) : Jn CB PT d qq z r bl bb S wa H' := by
  obtain ⟨x0, y0, m0, h0, _⟩ := j.dr
  have mu : MuO H [d] := fun a ha => by rw [List.mem_singleton.mp ha]; exact ⟨_, h0, trivial⟩
  exact ⟨tabs_wdO j.tabs w mu, ⟨x, y, m, h, ok⟩, j.bk.keep w (fun a ha => by rw [List.mem_singleton.mp ha]; exact j.nd) mu.mu, j.lw.le (Msk.le w (by simp) fun a ha => .inl ha), j.nd⟩
theorem Jn.ext (j : Jn CB PT d qq z r bl bb S wa H) (e : LamX.ExtN H H') (t : LamX.Tabs [(PT, qq)] H') : Jn CB PT d qq z r bl bb S wa H' := by
  obtain ⟨x, y, m, h, ok⟩ := j.dr
  exact ⟨t, ⟨x, y, m, e _ _ h (fun ps q => by unfold dl at q; cases q), ok⟩, j.bk.ext e, j.lw.nt.le (nt_le e), j.nd⟩
/-- the book is stepped on -/
theorem Jn.book (j : Jn CB PT d qq z r bl bb S wa H) (b : BStep CB z r b' S' H H') : ∃ z', z'.x = z.x ∧ Jn CB PT d qq z' r bl b' S' wa H' := by
  obtain ⟨z', ez, w, o, bk⟩ := b
  obtain ⟨x, y, m, h, ok⟩ := j.dr
  refine ⟨z', ez, tabs_wdO j.tabs w j.bk.muO, ⟨x, y, m, w.base _ _ j.nd h, ok⟩, bk, j.lw.le (Msk.le w (fun a ha => by simp [ha]) fun a ha => ?_), fun hm => (o d hm).elim j.nd fun n => by rw [n] at h; cases h⟩
  rcases List.mem_cons.mp ha with e | ha
  · exact .inl (by rw [e]; simp)
  rcases List.mem_cons.mp ha with e | ha
  · exact .inl (by rw [e]; simp)
  · exact (o a ha).imp (fun h => by simp [h]) id
/-- the law's own book is another one -/
theorem Jn.law (j : Jn CB PT d qq z r bl bb S wa H) {wb : Addr} {b : Bst} (h : LW (Msk (PT :: d :: z.own) H) r wb b) : Jn CB PT d qq z r b bb S wb H := ⟨j.tabs, j.dr, j.bk, h, j.nd⟩
/-- an object of nobody's is written -/
theorem Jn.side {p : Addr} {o o' : HO} (j : Jn CB PT d qq z r bl bb S wa H) (hp : H p = some o) (m : MutO o) (h1 : p ∉ PT :: d :: z.own) (lw : LW (Msk (p :: PT :: d :: z.own) H) r wa bl) : Jn CB PT d qq z r bl bb S wa (upd H p o') := by
  have mu : MuO H [p] := fun a ha => by rw [List.mem_singleton.mp ha]; exact ⟨_, hp, m⟩
  have w : Wd [p] H (upd H p o') [] := ((Wd.start1 hp).put 0 o' rfl (fun xs z => by rw [z] at m; exact m)).sub (List.nil_sublist _)
  obtain ⟨x, y, l, h, ok⟩ := j.dr
  have hpd : d ≠ p := fun e => h1 (by rw [← e]; simp)
  refine ⟨tabs_wdO j.tabs w mu, ⟨x, y, l, by rw [upd_ne hpd]; exact h, ok⟩, j.bk.keep w (fun a ha hm => h1 (by rw [List.mem_singleton.mp ha] at hm; simp [hm])) mu.mu, ?_, j.nd⟩
  exact (lw.le (Msk.le w (by simp) (fun a ha => .inl ha) : Le (Msk (p :: PT :: d :: z.own) H) (Msk (p :: PT :: d :: z.own) (upd H p o')))).le (Msk.sub fun a ha => List.mem_cons_of_mem _ ha)
/-- a new object of nobody's -/
theorem Jn.lone {p : Addr} (j : Jn CB PT d qq z r bl bb S wa H) (w : Wd [] H H' l) (hp : H p = none) : p ∉ PT :: d :: z.own ∧ LW (Msk (p :: PT :: d :: z.own) H') r wa bl :=
  ⟨fun h => j.al p h hp, j.lw.le (Msk.le w (fun _ h => nomatch h) fun a ha => (List.mem_cons.mp ha).elim (fun e => .inr (by rw [e]; exact hp)) .inl)⟩
theorem Jn.bookN {p : Addr} {o : HO} (j : Jn CB PT d qq z r bl bb S wa H) (b : BStepN CB z r b' S' H H' p o) : ∃ z', z'.x = z.x ∧ Jn CB PT d qq z' r bl b' S' wa H' ∧ H' p = some o ∧ p ∉ PT :: d :: z'.own ∧ LW (Msk (p :: PT :: d :: z'.own) H') r wa bl ∧ H p = none := by
  obtain ⟨z', ez, w, oz, hp, hpz, bk⟩ := b
  obtain ⟨z2, e2, j2⟩ := j.book ⟨z', ez, w.sub (List.nil_sublist _), oz, bk⟩
  have hold : ∀ a ∈ PT :: d :: z'.own, a ∈ PT :: d :: z.own ∨ H a = none := fun a ha => by
    rcases List.mem_cons.mp ha with e | ha
    · exact .inl (by rw [e]; simp)
    rcases List.mem_cons.mp ha with e | ha
    · exact .inl (by rw [e]; simp)
    · exact (oz a ha).imp (fun h => by simp [h]) id
  obtain ⟨x, y, m, h, ok⟩ := j.dr
  refine ⟨z', ez, ⟨tabs_wdO j.tabs w j.bk.muO, ⟨x, y, m, w.base _ _ j.nd h, ok⟩, bk, j.lw.le (Msk.le w (fun a ha => by simp [ha]) hold), fun hm => (oz d hm).elim j.nd fun n => by rw [n] at h; cases h⟩, w.get 0 rfl, fun hm => ?_, j.lw.le (Msk.le w (fun a ha => by simp [ha]) fun a ha => (List.mem_cons.mp ha).elim (fun e => .inr (by rw [e]; exact hp)) (hold a)), hp⟩
  rcases List.mem_cons.mp hm with e | hm
  · obtain ⟨ps, q⟩ := j.pt; rw [e] at hp; rw [hp] at q; cases q
  rcases List.mem_cons.mp hm with e | hm
  · rw [e] at hp; rw [hp] at h; cases h
  · exact hpz hm
end
end Br

namespace Br
open PySem PySem.Spec PyProof.Rows L2
/-! ### texts and their tokens -/
/-- no letter, no digit ahead -/
def Stop (y : List Nat) : Prop := ∀ c r, y = c :: r → dig c = false ∧ ltr c = false
theorem Stop.nil : Stop [] := fun _ _ h => nomatch h
theorem Stop.cons {c : Nat} {r : List Nat} (h : c = 32 ∨ c = 10 ∨ c = 59) : Stop (c :: r) := fun c' r' e => by
  cases e
  rcases h with rfl | rfl | rfl <;> decide
theorem tw_full {p : Nat → Bool} {w y : List Nat} (hw : ∀ c ∈ w, p c = true) (hy : ∀ c r, y = c :: r → p c = false) : (w ++ y).takeWhile p = w := by
  induction w with
  | nil =>
    cases y with
    | nil => rfl
    | cons c r => rw [List.nil_append, List.takeWhile_cons, hy c r rfl]; rfl
  | cons c w ih =>
    rw [List.cons_append, List.takeWhile_cons, hw c List.mem_cons_self, if_pos rfl, ih fun x hx => hw x (List.mem_cons_of_mem _ hx)]
theorem tw_all {p : Nat → Bool} {l : List Nat} : ∀ c ∈ l.takeWhile p, p c = true := by
  induction l with
  | nil => intro c h; cases h
  | cons a l ih =>
    intro c h
    rw [List.takeWhile_cons] at h
    split at h
    · rename_i ha
      rcases List.mem_cons.mp h with rfl | h
      · exact ha
      · exact ih c h
    · cases h
/-- the three kinds of tokens -/
theorem tok_cases {l : List Nat} {k t : Str} (h : tokAt l = some (k, t)) : (k = "sign" ∧ t = ";" ∧ ∃ r, l = 59 :: r) ∨ (∃ (p : Nat → Bool) (y : List Nat), (p = dig ∨ p = ltr) ∧ l = TL.tl t ++ y ∧ (∀ c ∈ TL.tl t, p c = true) ∧ (∀ c r, y = c :: r → p c = false) ∧ TL.tl t ≠ [] ∧
    ∀ y', (∀ c r, y' = c :: r → p c = false) → tokAt (TL.tl t ++ y') = some (k, t)) := by
  cases l with
  | nil => cases h
  | cons c r =>
    have sp : ∀ p : Nat → Bool, (c :: r) = (c :: r).takeWhile p ++ (c :: r).dropWhile p := fun p => List.takeWhile_append_dropWhile.symm
    have hd : ∀ p : Nat → Bool, ∀ x y, (c :: r).dropWhile p = x :: y → p x = false := fun p x y e => by
      have := List.head?_dropWhile_not p (c :: r)
      rw [e] at this
      simpa using this
    by_cases h1 : c = 59
    · subst h1
      simp only [tokAt, if_pos] at h
      cases h
      exact .inl ⟨rfl, rfl, r, rfl⟩
    simp only [tokAt, if_neg h1] at h
    refine .inr ?_
    by_cases h2 : dig c = true
    · rw [if_pos h2] at h
      by_cases h3 : ((c :: r).takeWhile dig).length > 2 ∨ (((c :: r).takeWhile dig).length > 1 ∧ c = 48)
      · rw [if_pos h3] at h; cases h
      rw [if_neg h3] at h
      cases h
      have et : TL.tl ⟨((c :: r).takeWhile dig).toArray⟩ = (c :: r).takeWhile dig := rfl
      refine ⟨dig, (c :: r).dropWhile dig, .inl rfl, by rw [et]; exact sp dig, by rw [et]; exact tw_all, hd dig, by rw [et, List.takeWhile_cons, if_pos h2]; simp, fun y' hy' => ?_⟩
      rw [et]
      have ew : (c :: r).takeWhile dig = c :: r.takeWhile dig := by rw [List.takeWhile_cons, if_pos h2]
      have hfull := tw_full (p := dig) (w := (c :: r).takeWhile dig) tw_all hy'
      rw [ew] at hfull h3 ⊢
      rw [List.cons_append] at hfull ⊢
      simp only [tokAt, if_neg h1, if_pos h2]
      rw [hfull, if_neg h3]
    · rw [if_neg h2] at h
      have hl : ltr c = true := by
        by_cases hl : ltr c = true
        · exact hl
        · have e0 : (c :: r).takeWhile ltr = [] := by rw [List.takeWhile_cons, if_neg hl]
          rw [e0] at h
          rw [if_neg (by decide +kernel), if_neg (by simp)] at h
          cases h
      have et : TL.tl ⟨((c :: r).takeWhile ltr).toArray⟩ = (c :: r).takeWhile ltr := rfl
      have ht : t = ⟨((c :: r).takeWhile ltr).toArray⟩ := by
        split at h
        · cases h; rfl
        · split at h
          · cases h; rfl
          · cases h
      have hh := h
      subst ht
      refine ⟨ltr, (c :: r).dropWhile ltr, .inr rfl, by rw [et]; exact sp ltr, by rw [et]; exact tw_all, hd ltr, by rw [et, List.takeWhile_cons, if_pos hl]; simp, fun y' hy' => ?_⟩
      rw [et]
      have ew : (c :: r).takeWhile ltr = c :: r.takeWhile ltr := by rw [List.takeWhile_cons, if_pos hl]
      have hfull := tw_full (p := ltr) (w := (c :: r).takeWhile ltr) tw_all hy'
      rw [ew] at hfull hh ⊢
      rw [List.cons_append] at hfull ⊢
      simp only [tokAt, if_neg h1, if_neg h2]
      rw [hfull]
      exact hh
/-- a word that is a token -/
def Wk (k w : Str) : Prop := tokAt (TL.tl w) = some (k, w)
theorem Wk.ahead {k w : Str} (h : Wk k w) {y : List Nat} (hy : Stop y) : tokAt (TL.tl w ++ y) = some (k, w) := by
  rcases tok_cases h with ⟨rfl, rfl, _⟩ | ⟨p, y0, hp, e, h1, h2, h3, h4⟩
  · have : TL.tl (";" : Str) = [59] := by decide +kernel
    rw [this]; rfl
  · refine h4 y fun c r e => ?_
    have := hy c r e
    rcases hp with rfl | rfl
    · exact this.1
    · exact this.2
theorem tok_head {l : List Nat} {k t : Str} (h : tokAt l = some (k, t)) : ∃ c r, l = c :: r ∧ ¬ (c = 32 ∨ c = 10) ∧ l = TL.tl t ++ l.drop t.length ∧ 10 ∉ TL.tl t := by
  rcases tok_cases h with ⟨rfl, rfl, r, rfl⟩ | ⟨p, y, hp, e, h1, h2, h3, h4⟩
  · exact ⟨59, r, rfl, by decide, rfl, by decide +kernel⟩
  · obtain ⟨c, w, hw⟩ := List.exists_cons_of_ne_nil h3
    have hc := h1 c (by rw [hw]; exact List.mem_cons_self)
    refine ⟨c, w ++ y, by rw [e, hw]; rfl, ?_, ?_, fun hm => ?_⟩
    · rintro (rfl | rfl) <;> (rcases hp with rfl | rfl <;> exact absurd hc (by decide))
    · rw [e, TL.len_tl, List.drop_left]
    · have := h1 _ hm
      rcases hp with rfl | rfl <;> exact absurd this (by decide)
theorem LexR.word {k w : Str} {y : List Nat} {ts : List (Str × Str)} (h : Wk k w) (hy : Stop y) (ht : LexR y ts) : LexR (TL.tl w ++ y) ((k, w) :: ts) := by
  have h1 := h.ahead hy
  obtain ⟨c, r, e, hc, e2, _⟩ := tok_head h1
  rw [e] at h1 e2 ⊢
  refine .tok hc h1 ?_
  have : (c :: r).drop w.length = y := by rw [← e, TL.len_tl, List.drop_left]
  rw [this]; exact ht
theorem LexR.gap {g y : List Nat} {ts : List (Str × Str)} (hg : ∀ c ∈ g, c = 32 ∨ c = 10) (h : LexR y ts) : LexR (g ++ y) ts := by
  induction g with
  | nil => exact h
  | cons c g ih => exact .space (hg c List.mem_cons_self) (ih fun x hx => hg x (List.mem_cons_of_mem _ hx))
/-! ### rows -/
def rowsOf : List Nat → List Nat × List (List Nat)
  | [] => ([], [])
  | c :: r => if c = 10 then ([], (rowsOf r).1 :: (rowsOf r).2) else (c :: (rowsOf r).1, (rowsOf r).2)
theorem spl_rows : ∀ (l acc : List Nat), TL.spl [10] 0 acc l = (acc ++ (rowsOf l).1) :: (rowsOf l).2
  | [], acc => by rw [TL.spl_nil]; simp [rowsOf]
  | c :: r, acc => by
    by_cases h : c = 10
    · subst h
      rw [TL.spl_hit (by rfl)]
      show acc :: TL.spl [10] 0 [] r = _
      rw [spl_rows r []]
      simp [rowsOf]
    · rw [TL.spl_miss (TL.pre_of_head [] r h), spl_rows r (acc ++ [c])]
      simp [rowsOf, h]
theorem rows_app {p l : List Nat} (h : 10 ∉ p) : rowsOf (p ++ l) = (p ++ (rowsOf l).1, (rowsOf l).2) := by
  induction p with
  | nil => rfl
  | cons c p ih =>
    have hc : c ≠ 10 := fun e => h (by rw [e]; exact List.mem_cons_self)
    have := ih fun hm => h (List.mem_cons_of_mem _ hm)
    simp [rowsOf, hc, this]
theorem rows_head (l : List Nat) : (rowsOf l).1 = [] ∨ ∃ c r r', l = c :: r ∧ (rowsOf l).1 = c :: r' := by
  cases l with
  | nil => exact .inl rfl
  | cons c r =>
    by_cases h : c = 10
    · subst h; exact .inl (by simp [rowsOf])
    · exact .inr ⟨c, r, (rowsOf r).1, rfl, by simp [rowsOf, h]⟩
theorem tok_cut {l : List Nat} {k t : Str} (h : tokAt l = some (k, t)) : tokAt (TL.tl t ++ (rowsOf (l.drop t.length)).1) = some (k, t) := by
  rcases tok_cases h with ⟨rfl, rfl, r, rfl⟩ | ⟨p, y, hp, e, h1, h2, h3, h4⟩
  · have : TL.tl (";" : Str) = [59] := by decide +kernel
    rw [this]; rfl
  · have ey : l.drop t.length = y := by rw [e, TL.len_tl, List.drop_left]
    rw [ey]
    refine h4 _ fun c r e2 => ?_
    rcases rows_head y with h0 | ⟨c', r', r'', e3, e4⟩
    · rw [h0] at e2; cases e2
    · rw [e4] at e2
      cases e2
      exact h2 _ _ e3
theorem lex_rows {l : List Nat} {ts : List (Str × Str)} (h : LexR l ts) : ∃ t0 tss, LexR (rowsOf l).1 t0 ∧ Paired LexR (rowsOf l).2 tss ∧ t0 ++ tss.flatten = ts := by
  induction h with
  | nil => exact ⟨[], [], .nil, .nil, rfl⟩
  | @space c r ts hc _ ih =>
    obtain ⟨t0, tss, h1, h2, h3⟩ := ih
    rcases hc with rfl | rfl
    · refine ⟨t0, tss, ?_, ?_, h3⟩
      · simp only [rowsOf]; exact .space (.inl rfl) h1
      · simp only [rowsOf]; exact h2
    · refine ⟨[], t0 :: tss, ?_, ?_, by simpa using h3⟩
      · simp only [rowsOf]; exact .nil
      · simp only [rowsOf]; exact .cons h1 h2
  | @tok c r k t ts hc ht _ ih =>
    obtain ⟨t0, tss, h1, h2, h3⟩ := ih
    obtain ⟨_, _, _, _, e2, h10⟩ := tok_head ht
    have hcut := tok_cut ht
    rw [e2, rows_app h10]
    refine ⟨(k, t) :: t0, tss, ?_, h2, by rw [← h3]; rfl⟩
    obtain ⟨c', r', e3, hc', _, _⟩ := tok_head hcut
    show LexR (TL.tl t ++ (rowsOf ((c :: r).drop t.length)).1) _
    rw [e3] at hcut ⊢
    refine .tok hc' hcut ?_
    have : (c' :: r').drop t.length = (rowsOf ((c :: r).drop t.length)).1 := by rw [← e3, TL.len_tl, List.drop_left]
    rw [this]; exact h1
theorem Paired.get {α β : Type} {R : α → β → Prop} : ∀ {as : List α} {bs : List β}, Paired R as bs → as.length = bs.length ∧ ∀ (i : Nat) a b, as[i]? = some a → bs[i]? = some b → R a b
  | _, _, .nil => ⟨rfl, fun i a b h => by simp at h⟩
  | _, _, .cons h t => by
    obtain ⟨h1, h2⟩ := Paired.get t
    refine ⟨by rw [List.length_cons, List.length_cons, h1], fun i a b ha hb => ?_⟩
    cases i with
    | zero => cases ha; cases hb; exact h
    | succ i => exact h2 i a b (by simpa using ha) (by simpa using hb)
/-- a text whose whole lexes -/
theorem says_of {z : Str} {r : Rota} {S : List Stm} {ts : List (Str × Str)} (ok : ROk r) (sp : Spell r S) (hz : z.length ≤ 10000) (hl : LexR (TL.tl z) ts) (hts : ts ++ [(("end" : Str), ("" : Str))] = rotaToks r S) (hfew : ts.length < 1000) : Says z r S := by
  obtain ⟨t0, tss, h1, h2, h3⟩ := lex_rows hl
  have hsz : 10002 ≤ sizeLine := by decide
  have hy : TL.tl ("\n" : Str) = [10] := by decide +kernel
  have hsp := TL.split_spl z "\n" (by rw [hy]; simp) (TL.kind_ok (by decide +kernel))
  rw [hy, spl_rows, List.nil_append] at hsp
  have hP : Paired LexR ((Txt.split z "\n").map TL.tl) (t0 :: tss) := by rw [hsp]; exact .cons h1 h2
  obtain ⟨g1, g2⟩ := Paired.get hP
  rw [List.length_map] at g1
  -- each row is part of the text
  have hrl : ∀ l : List Nat, (rowsOf l).1.length ≤ l.length ∧ (∀ x ∈ (rowsOf l).2, x.length ≤ l.length) ∧ (rowsOf l).2.length ≤ l.length := fun l => by
    induction l with
    | nil => simp [rowsOf]
    | cons c l ih =>
      obtain ⟨i1, i2, i3⟩ := ih
      by_cases h : c = 10
      · simp only [rowsOf, h, if_pos, List.length_cons, List.length_nil]
        refine ⟨by omega, fun x hx => ?_, by omega⟩
        rcases List.mem_cons.mp hx with rfl | hx
        · omega
        · have := i2 x hx; omega
      · simp only [rowsOf, h, if_false, List.length_cons]
        refine ⟨by omega, fun x hx => ?_, by omega⟩
        have := i2 x hx; omega
  obtain ⟨i1, i2, i3⟩ := hrl (TL.tl z)
  rw [← TL.len_tl] at i1 i2 i3
  refine ⟨ok, sp, by omega, t0 :: tss, g1, fun i row t hi ht => ⟨?_, ?_⟩, ?_, ?_, ?_⟩
  · have hm : TL.tl row ∈ (rowsOf (TL.tl z)).1 :: (rowsOf (TL.tl z)).2 := by rw [← hsp]; exact List.mem_map.mpr ⟨row, List.mem_of_getElem? hi, rfl⟩
    rw [TL.len_tl]
    rcases List.mem_cons.mp hm with e | hm
    · rw [e]; omega
    · have := i2 _ hm; omega
  · exact g2 i _ _ (by rw [List.getElem?_map, hi]; rfl) ht
  · rw [List.flatten_cons, h3]; exact hfew
  · have := congrArg List.length hsp
    rw [List.length_map, List.length_cons] at this
    omega
  · rw [List.flatten_cons, h3]; exact hts
end Br

namespace Br
open PySem PySem.Spec PyProof.Rows L2
/-! ### words of a rota's text -/
def kindOf (w : Str) : Str := match tokAt (TL.tl w) with
  | some (k, _) => k
  | none => ""
def tokOf (w : Str) : Str × Str := (kindOf w, w)
theorem Wk.kind {k w : Str} (h : Wk k w) : tokOf w = (k, w) := by
  unfold tokOf kindOf
  rw [show tokAt (TL.tl w) = some (k, w) from h]
/-- a word of letters or of digits -/
def Wd0 (w : Str) : Prop := ∃ k, Wk k w ∧ k ≠ "sign"
theorem Wd0.wk {w : Str} (h : Wd0 w) : Wk (kindOf w) w := by
  obtain ⟨k, h, _⟩ := h
  have := congrArg Prod.fst h.kind
  show tokAt (TL.tl w) = some (kindOf w, w)
  rw [show kindOf w = k from this]; exact h
theorem dig_plain {c : Nat} (h : dig c = true) : Unicode.isSpace c = false ∧ c ≠ 59 ∧ c ≠ 10 := by
  have : ∀ c ∈ TL.tl "0123456789", Unicode.isSpace c = false ∧ c ≠ 59 ∧ c ≠ 10 := by decide +kernel
  exact this c (of_decide_eq_true h)
theorem ltr_plain {c : Nat} (h : ltr c = true) : Unicode.isSpace c = false ∧ c ≠ 59 ∧ c ≠ 10 := by
  have : ∀ c ∈ TL.tl "abcdefghijklmnopqrstuvwxyz", Unicode.isSpace c = false ∧ c ≠ 59 ∧ c ≠ 10 := by decide +kernel
  exact this c (of_decide_eq_true h)
theorem Wd0.plain {w : Str} (h : Wd0 w) : TL.tl w ≠ [] ∧ ∀ c ∈ TL.tl w, Unicode.isSpace c = false ∧ c ≠ 59 ∧ c ≠ 10 := by
  obtain ⟨k, h, hk⟩ := h
  rcases tok_cases h with ⟨rfl, _⟩ | ⟨p, y, hp, e, h1, h2, h3, h4⟩
  · exact absurd rfl hk
  · refine ⟨h3, fun c hc => ?_⟩
    rcases hp with rfl | rfl
    · exact dig_plain (h1 c hc)
    · exact ltr_plain (h1 c hc)
theorem wk_key : ∀ w ∈ kws, Wk "keyword" w := by unfold Wk; decide +kernel
theorem wk_name : ∀ w ∈ six, Wk "name" w := by unfold Wk; decide +kernel
theorem wk_num {i : Int} (h0 : 0 ≤ i) (h : i < 100) : Wk "number" (num i) := by
  obtain ⟨n, rfl⟩ := Int.eq_ofNat_of_zero_le h0
  have : ∀ n : Nat, n < 100 → tokAt (TL.numL n) = some (("number" : Str), (⟨(TL.numL n).toArray⟩ : Str)) := by decide +kernel
  have h1 := this n (by omega)
  have e : TL.tl (num n) = TL.numL n := TL.tl_num n
  unfold Wk
  rw [e, h1, ← e, TL.mk_tl]
theorem w0_key {w : Str} (h : w ∈ kws) : Wd0 w := ⟨_, wk_key w h, by decide +kernel⟩
theorem w0_name {w : Str} (h : w ∈ six) : Wd0 w := ⟨_, wk_name w h, by decide +kernel⟩
theorem w0_num {i : Int} (h0 : 0 ≤ i) (h : i < 100) : Wd0 (num i) := ⟨_, wk_num h0 h, by decide +kernel⟩
def stmWords (r : Rota) : Stm → List Str
  | .w => "weights" :: r.weights.map num
  | .aw t => awW r t
  | .mk ks => "makeup" :: ks.map (nm r)
/-- a statement fit for the rota -/
def StmOk (r : Rota) : Stm → Prop
  | .w => True
  | .aw t => t ∈ r.aways
  | .mk ks => ks.length ≤ 12 ∧ ∀ k ∈ ks, 0 ≤ k ∧ k < r.names.length
def allWords (r : Rota) (S : List Stm) : List (List Str) := lines2 r ++ S.map (stmWords r)
def lineToks (ws : List Str) : List (Str × Str) := ws.map tokOf ++ [(("sign" : Str), (";" : Str))]
section
variable {r : Rota}
theorem nm_six (ok : ROk r) {k : Int} (h : 0 ≤ k ∧ k < r.names.length) : nm r k ∈ six := ok.six _ (List.mem_of_getElem? (nm_mem h.1 h.2))
theorem words0 (ok : ROk r) {S : List Stm} (hS : ∀ s ∈ S, StmOk r s) : ∀ ws ∈ allWords r S, ws ≠ [] ∧ ws.length ≤ 13 ∧ ∀ x ∈ ws, Wd0 x ∧ x.length ≤ 8 := by
  have l6 : ∀ w ∈ kws, w.length ≤ 8 := by decide +kernel
  have key : ∀ {w : Str}, w ∈ kws → Wd0 w ∧ w.length ≤ 8 := fun h => ⟨w0_key h, l6 _ h⟩
  have nam : ∀ {k : Int}, 0 ≤ k ∧ k < r.names.length → Wd0 (nm r k) ∧ (nm r k).length ≤ 8 := fun h => ⟨w0_name (nm_six ok h), six_len _ (nm_six ok h)⟩
  have nu : ∀ {i : Int}, 0 ≤ i → i < 100 → Wd0 (num i) ∧ (num i).length ≤ 8 := fun h0 h => ⟨w0_num h0 h, Nat.le_trans (num_len' h0 (by omega)) (by decide)⟩
  intro ws hws
  rcases List.mem_append.mp hws with h | h
  · simp only [lines2, List.mem_cons, List.not_mem_nil, or_false] at h
    rcases h with rfl | rfl
    · refine ⟨by simp, by rw [List.length_cons]; have := ok.n6; omega, fun x hx => ?_⟩
      rcases List.mem_cons.mp hx with rfl | hx
      · exact key (by decide +kernel)
      · exact ⟨w0_name (ok.six x hx), six_len _ (ok.six x hx)⟩
    · refine ⟨by simp, by rw [List.length_cons, List.length_map]; have := ok.t12; omega, fun x hx => ?_⟩
      rcases List.mem_cons.mp hx with rfl | hx
      · exact key (by decide +kernel)
      · obtain ⟨t, ht, rfl⟩ := List.mem_map.mp hx
        exact nam (ok.t0 t ht)
  · obtain ⟨s, hs, rfl⟩ := List.mem_map.mp h
    have hso := hS s hs
    cases s with
    | w =>
      refine ⟨by simp [stmWords], by simp only [stmWords, List.length_cons, List.length_map, ok.wl]; have := ok.n6; omega, fun x hx => ?_⟩
      rcases List.mem_cons.mp hx with rfl | hx
      · exact key (by decide +kernel)
      · obtain ⟨v, hv, rfl⟩ := List.mem_map.mp hx
        have := ok.w0 v hv
        exact nu (by omega) (by omega)
    | aw t =>
      obtain ⟨h1, h2, h3, h4, h5⟩ := ok.a0 t hso
      have h6 : t.2.2 ≤ 12 := by simp at h5; omega
      refine ⟨by simp [stmWords, awW], by show 5 ≤ 13; decide, fun x hx => ?_⟩
      simp only [stmWords, awW, List.mem_cons, List.not_mem_nil, or_false] at hx
      rcases hx with rfl | rfl | rfl | rfl | rfl
      · exact key (by decide +kernel)
      · exact nam ⟨h1, h2⟩
      · exact nu h3 (by omega)
      · exact key (by decide +kernel)
      · exact nu (by omega) (by omega)
    | mk ks =>
      obtain ⟨g1, g2⟩ := hso
      refine ⟨by simp [stmWords], by simp only [stmWords, List.length_cons, List.length_map]; omega, fun x hx => ?_⟩
      rcases List.mem_cons.mp hx with rfl | hx
      · exact key (by decide +kernel)
      · obtain ⟨t, ht, rfl⟩ := List.mem_map.mp hx
        exact nam (g2 t ht)
theorem tokOf_key {w : Str} (h : w ∈ kws) : tokOf w = (("keyword" : Str), w) := (wk_key w h).kind
theorem toks_stm (ok : ROk r) {s : Stm} (hs : StmOk r s) : lineToks (stmWords r s) = stmToks r s := by
  have nam : ∀ {k : Int}, 0 ≤ k ∧ k < r.names.length → tokOf (nm r k) = (("name" : Str), nm r k) := fun h => (wk_name _ (nm_six ok h)).kind
  cases s with
  | w =>
    simp only [lineToks, stmWords, stmToks, List.map_cons, List.map_map, List.cons_append]
    rw [tokOf_key (by decide +kernel)]
    refine congrArg (_ :: ·) (congrArg (· ++ _) (List.map_congr_left fun v hv => ?_))
    have := ok.w0 v hv
    exact (wk_num (by omega) (by omega)).kind
  | aw t =>
    obtain ⟨h1, h2, h3, h4, h5⟩ := ok.a0 t hs
    have h6 : t.2.2 ≤ 12 := by simp at h5; omega
    simp only [lineToks, stmWords, stmToks, awToks, awW, List.map_cons, List.map_nil, List.cons_append, List.nil_append]
    rw [tokOf_key (by decide +kernel), nam ⟨h1, h2⟩, (wk_num h3 (by omega)).kind, tokOf_key (by decide +kernel), (wk_num (by omega) (by omega)).kind]
    rfl
  | mk ks =>
    simp only [lineToks, stmWords, stmToks, List.map_cons, List.map_map, List.cons_append]
    rw [tokOf_key (by decide +kernel)]
    refine congrArg (_ :: ·) (congrArg (· ++ _) (List.map_congr_left fun v hv => ?_))
    exact nam (hs.2 v hv)
theorem toks_rota (ok : ROk r) {S : List Stm} (hS : ∀ s ∈ S, StmOk r s) : (allWords r S).flatMap lineToks ++ [(("end" : Str), ("" : Str))] = rotaToks r S := by
  have e1 : (S.map (stmWords r)).flatMap lineToks = S.flatMap (stmToks r) := by
    induction S with
    | nil => rfl
    | cons s S ih =>
      rw [List.map_cons, List.flatMap_cons, List.flatMap_cons, ih fun x hx => hS x (List.mem_cons_of_mem _ hx), toks_stm ok (hS s List.mem_cons_self)]
  have e2 : lineToks ("people" :: r.names) = (("keyword" : Str), ("people" : Str)) :: (r.names.map (fun t => (("name" : Str), t)) ++ [(("sign" : Str), (";" : Str))]) := by
    simp only [lineToks, List.map_cons, List.cons_append]
    rw [tokOf_key (by decide +kernel)]
    exact congrArg (_ :: ·) (congrArg (· ++ _) (List.map_congr_left fun v hv => (wk_name _ (ok.six v hv)).kind))
  have e3 : lineToks ("turns" :: r.turns.map (nm r)) = (("keyword" : Str), ("turns" : Str)) :: ((r.turns.map (nmL r.names)).map (fun t => (("name" : Str), t)) ++ [(("sign" : Str), (";" : Str))]) := by
    simp only [lineToks, List.map_cons, List.cons_append, List.map_map]
    rw [tokOf_key (by decide +kernel)]
    exact congrArg (_ :: ·) (congrArg (· ++ _) (List.map_congr_left fun v hv => (wk_name _ (nm_six ok (ok.t0 v hv))).kind))
  unfold allWords lines2 rotaToks
  rw [List.flatMap_append, e1, List.flatMap_cons, List.flatMap_cons, List.flatMap_nil, e2, e3]
  simp [List.append_assoc]
end
/-! ### the canonical text -/
theorem lex_words : ∀ (ws : List Str) (rest : List Nat) (ts : List (Str × Str)), ws ≠ [] → (∀ x ∈ ws, Wd0 x) → LexR rest ts → LexR (TL.joinL [32] (ws.map TL.tl) ++ (59 :: rest)) (lineToks ws ++ ts)
  | [], _, _, h, _, _ => absurd rfl h
  | [w], rest, ts, _, h, hr => by
    have h1 := (h w List.mem_cons_self).wk
    refine LexR.word h1 (Stop.cons (.inr (.inr rfl))) ?_
    exact LexR.tok (by decide) (by rfl) hr
  | w :: v :: ws, rest, ts, _, h, hr => by
    have h1 := (h w List.mem_cons_self).wk
    have ih := lex_words (v :: ws) rest ts (by simp) (fun x hx => h x (List.mem_cons_of_mem _ hx)) hr
    have e : TL.joinL [32] ((w :: v :: ws).map TL.tl) ++ (59 :: rest) = TL.tl w ++ (32 :: (TL.joinL [32] ((v :: ws).map TL.tl) ++ (59 :: rest))) := by
      simp [TL.joinL]
    rw [e]
    exact LexR.word h1 (Stop.cons (.inl rfl)) (.space (.inl rfl) ih)
theorem tl_line (ws : List Str) : TL.tl (lineS ws) = TL.joinL [32] (ws.map TL.tl) ++ [59] := by
  unfold lineS
  rw [TL.tl_append, TL.join_eq, TL.tl_join]
  rfl
theorem lex_lines : ∀ (W : List (List Str)), (∀ ws ∈ W, ws ≠ [] ∧ ∀ x ∈ ws, Wd0 x) → LexR (TL.joinL [10] ((W.map lineS).map TL.tl)) (W.flatMap lineToks)
  | [], _ => .nil
  | [ws], h => by
    obtain ⟨h1, h2⟩ := h ws List.mem_cons_self
    have := lex_words ws [] [] h1 h2 .nil
    rw [← tl_line, List.append_nil] at this
    rw [List.flatMap_cons, List.flatMap_nil, List.append_nil]
    exact this
  | ws :: vs :: W, h => by
    obtain ⟨h1, h2⟩ := h ws List.mem_cons_self
    have ih := lex_lines (vs :: W) fun x hx => h x (List.mem_cons_of_mem _ hx)
    have := lex_words ws (10 :: TL.joinL [10] (((vs :: W).map lineS).map TL.tl)) _ h1 h2 (.space (.inr rfl) ih)
    have e : TL.joinL [10] (((ws :: vs :: W).map lineS).map TL.tl) = TL.joinL [32] (ws.map TL.tl) ++ 59 :: (10 :: TL.joinL [10] (((vs :: W).map lineS).map TL.tl)) := by
      simp only [List.map_cons, TL.joinL, tl_line, List.append_assoc]; rfl
    rw [e, List.flatMap_cons]
    exact this
def canonS (r : Rota) : List Stm := (if heavy r = true then [Stm.w] else []) ++ r.aways.map Stm.aw ++ (if r.makers.isEmpty = true then [] else [Stm.mk r.makers])
theorem canon_words (r : Rota) : allWords r (canonS r) = lineWords r := by
  unfold allWords canonS lineWords linesW linesM
  rw [List.map_append, List.map_append, List.map_map, ← List.append_assoc, ← List.append_assoc]
  have e1 : (if heavy r = true then [Stm.w] else []).map (stmWords r) = if heavy r = true then [("weights" : Str) :: r.weights.map num] else [] := by split <;> rfl
  have e2 : (if r.makers.isEmpty = true then [] else [Stm.mk r.makers]).map (stmWords r) = if r.makers.isEmpty = true then [] else [("makeup" : Str) :: r.makers.map (nm r)] := by split <;> rfl
  rw [e1, e2]; rfl
theorem canon_ok {r : Rota} (ok : ROk r) : ∀ s ∈ canonS r, StmOk r s := by
  intro s hs
  rcases List.mem_append.mp hs with hs | hs
  · rcases List.mem_append.mp hs with hs | hs
    · split at hs
      · rw [List.mem_singleton.mp hs]; exact True.intro
      · cases hs
    · obtain ⟨t, ht, rfl⟩ := List.mem_map.mp hs; exact ht
  · split at hs
    · cases hs
    · rw [List.mem_singleton.mp hs]
      have := asc_len ok.masc (n := r.names.length) ok.m0
      have := ok.n6
      exact ⟨by omega, ok.m0⟩
theorem w_ones {r : Rota} (ok : ROk r) (h : heavy r = false) : r.weights = List.replicate r.names.length 1 := by
  rw [← ok.wl, List.eq_replicate_iff]
  refine ⟨rfl, fun x hx => ?_⟩
  have h1 := ok.w0 x hx
  have h2 : ¬ (1 < x) := fun h3 => by
    unfold heavy at h
    have : r.weights.any (fun v => decide (1 < v)) = true := List.any_eq_true.mpr ⟨x, hx, decide_eq_true h3⟩
    rw [this] at h; cases h
  omega
theorem canon_aw (r : Rota) : (canonS r).filterMap Stm.aw? = r.aways := by
  unfold canonS
  rw [List.filterMap_append, List.filterMap_append]
  have e1 : (if heavy r = true then [Stm.w] else []).filterMap Stm.aw? = [] := by split <;> rfl
  have e2 : (if r.makers.isEmpty = true then [] else [Stm.mk r.makers]).filterMap Stm.aw? = [] := by split <;> rfl
  have e3 : (r.aways.map Stm.aw).filterMap Stm.aw? = r.aways := by
    rw [List.filterMap_map]; exact List.filterMap_some ..
  rw [e1, e2, e3, List.nil_append, List.append_nil]
theorem canon_w (r : Rota) : (canonS r).filter Stm.isW = if heavy r = true then [Stm.w] else [] := by
  unfold canonS
  rw [List.filter_append, List.filter_append]
  have e1 : (if heavy r = true then [Stm.w] else []).filter Stm.isW = if heavy r = true then [Stm.w] else [] := by split <;> rfl
  have e2 : (if r.makers.isEmpty = true then [] else [Stm.mk r.makers]).filter Stm.isW = [] := by split <;> rfl
  have e3 : (r.aways.map Stm.aw).filter Stm.isW = [] := by
    rw [List.filter_eq_nil_iff]; intro s hs
    obtain ⟨t, _, rfl⟩ := List.mem_map.mp hs; simp [Stm.isW]
  rw [e1, e2, e3, List.append_nil, List.append_nil]
theorem canon_m (r : Rota) : (canonS r).filterMap Stm.mk? = if r.makers.isEmpty = true then [] else [r.makers] := by
  unfold canonS
  rw [List.filterMap_append, List.filterMap_append]
  have e1 : (if heavy r = true then [Stm.w] else []).filterMap Stm.mk? = [] := by split <;> rfl
  have e2 : (if r.makers.isEmpty = true then [] else [Stm.mk r.makers]).filterMap Stm.mk? = if r.makers.isEmpty = true then [] else [r.makers] := by split <;> rfl
  have e3 : (r.aways.map Stm.aw).filterMap Stm.mk? = [] := by
    rw [List.filterMap_eq_nil_iff]; intro s hs
    obtain ⟨t, _, rfl⟩ := List.mem_map.mp hs; rfl
  rw [e1, e2, e3]; rfl
theorem canon_spell {r : Rota} (ok : ROk r) : Spell r (canonS r) := by
  have ml := asc_len ok.masc (n := r.names.length) ok.m0
  have n6 := ok.n6
  refine ⟨?_, fun h => ?_, fun t => by rw [canon_aw], by rw [canon_aw]; have := ok.a6; omega, ?_, fun ks h => ?_, fun h => ?_⟩
  · rw [canon_w]; split <;> simp
  · rw [canon_w] at h
    refine w_ones ok ?_
    cases hh : heavy r
    · rfl
    · rw [hh, if_pos rfl] at h; cases h
  · rw [canon_m]; split <;> simp
  · rw [canon_m] at h
    split at h
    · cases h
    · rename_i hm
      rw [List.mem_singleton.mp h]
      refine ⟨fun e => hm (by rw [e]; rfl), by omega, fun k => Iff.rfl⟩
  · rw [canon_m] at h
    split at h
    · rename_i hm; exact List.isEmpty_iff.mp hm
    · cases h
theorem text_len {r : Rota} (ok : ROk r) : (textOf r).length ≤ 10000 := by
  have h1 := join_len "\n" ((lineWords r).map lineS) 200 fun s hs => by
    obtain ⟨ws, hws, rfl⟩ := List.mem_map.mp hs
    have := words_len ok ws hws
    exact lineS_len this.1 this.2
  have h2 := lines_few ok
  have e1 : (("\n" : Str)).length = 1 := by decide
  rw [e1, List.length_map] at h1
  unfold textOf
  have : (lineWords r).length * (200 + 1) ≤ 10 * 201 := Nat.mul_le_mul (by omega) (by decide)
  omega
theorem says_text {r : Rota} (ok : ROk r) : Says (textOf r) r (canonS r) := by
  have hw := words0 ok (canon_ok ok)
  have hl := lex_lines (lineWords r) fun ws hws => by
    rw [← canon_words] at hws
    exact ⟨(hw ws hws).1, fun x hx => ((hw ws hws).2.2 x hx).1⟩
  have e : TL.tl (textOf r) = TL.joinL [10] (((lineWords r).map lineS).map TL.tl) := by
    unfold textOf
    rw [TL.join_eq, TL.tl_join]
    have : TL.tl ("\n" : Str) = [10] := by decide +kernel
    rw [this]
  rw [← e] at hl
  refine says_of ok (canon_spell ok) (text_len ok) hl ?_ ?_
  · rw [← canon_words]; exact toks_rota ok (canon_ok ok)
  · have h2 := lines_few ok
    rw [List.length_flatMap]
    have := sum_le (fun ws => (lineToks ws).length) 14 (lineWords r) fun ws hws => by
      have := (words_len ok ws hws).1
      unfold lineToks
      rw [List.length_append, List.length_map, List.length_singleton]; omega
    have h3 : (lineWords r).length * 14 ≤ 10 * 14 := Nat.mul_le_mul (by omega) (by decide)
    omega
end Br

namespace Br
open PySem PySem.Spec PyProof.Rows L2
theorem doOp_err {r : Rota} {b : Bst} {op : Op} {e : Str} (h : doOp r b op = .error e) : e ∈ (["count", "person", "nobody"] : List Str) := by
  cases op with
  | bad v => cases (show (Except.error ("count" : Str) : Except Str (Res × Bst)) = .error e from h); simp
  | undo =>
    have h2 : undoR b (undoB b) = .error e := h
    cases hu : undoB b <;> rw [hu] at h2 <;> cases h2
  | redo =>
    have h2 : undoR b (redoB b) = .error e := h
    cases hu : redoB b <;> rw [hu] at h2 <;> cases h2
  | reset => cases (show recR "reset" b (.ok (.non, now0 r)) = .error e from h)
  | step k =>
    have h2 : recR "step" b (if 500 < k then .error "count" else .ok (.nms (found r k b.now), stepN r k b.now)) = .error e := h
    split at h2 <;> cases h2
    simp
  | gift z =>
    have h2 : recR "gift" b (giftR r b.now (personOf r (.str z))) = .error e := h
    cases hp : personOf r (.str z) with
    | none => rw [hp] at h2; cases h2; simp
    | some p =>
      rw [hp] at h2
      have h3 : recR "gift" b (if p ∈ homes r b.now.t then .ok (Res.int (less (owes b.now.o p)), giftN p b.now) else .error "nobody") = .error e := h2
      split at h3 <;> cases h3
      simp
  | forgive z =>
    have h2 : recR "forgive" b (forgiveR b.now (personOf r (.str z))) = .error e := h
    cases hp : personOf r (.str z) with
    | none => rw [hp] at h2; cases h2; simp
    | some p => rw [hp] at h2; cases h2
def errD (e : Str) : PyData := .tuple [.str e, .int 0]
theorem errD_ok : ∀ e ∈ (["count", "person", "nobody"] : List Str), PyData.canLay0 (errD e) = true ∧ SeqAt.shaped (errD e) = true := by
  intro e he
  simp only [List.mem_cons, List.not_mem_nil, or_false] at he
  rcases he with rfl | rfl | rfl <;> exact ⟨by decide +kernel, by decide +kernel⟩
section
variable {K : PySem.W.Frag} {CB CC CU CN CR PT d : Addr} {cs : Nat → Addr} {qq : Str} {z : Bz} {r : Rota} {b bl : Bst} {S : List (Str × Bst)} {wa : Addr} {H : Hp} {σ : L2.St} {D : Ends}
/-- the law's question where an operation fails -/
theorem er_op {oa pe : Addr} {op : Op} {e : Str} (k1 : ErK K cs CR CC 1) (k2 : ErK K cs CR CU 2) (k6 : ErK K cs CR CN 6) (j : Jn CB PT d qq z r bl b S wa H) (ok : ROk r) (bo : BOk r b) (ho : H oa = some (.tup (opL op))) (hop : OpOk r op) (z1 : b.past.length ≤ 1000) (z2 : b.und.length ≤ 1000) (z3 : b.now.d.length ≤ 1000)
    (hd : doOp r b op = .error e) (he : H pe = some (.tup [.str e, .int 0])) (s3 : σ[3]? = some (some (.ref z.x))) (s5 : σ[5]? = some (some (.ref oa))) (s6 : σ[6]? = some (some (.ref pe))) (hnx : ∀ H', Jn CB PT d qq z r bl b S wa H' → D.nx σ H') :
    tIfS (tTest (tOp (rNeD K) (LamX.tLam [(PT, qq)] (TTe K cs CR) fun x => tCall (spLDo CB CC CU CN) [] x (tCons (tVar 3) (tCons (tVar 5) tNil))) (tVar 6))) (tRet (tC (.bl false))) tNext D σ H := by
  refine ⟨j.tabs, fun H1 e1 t1 => ?_⟩
  have j1 := j.ext e1 t1
  have he' : e ∈ (["count", "person", "nobody"] : List Str) := doOp_err hd
  refine ⟨_, s3, _, s5, z, oa, r, b, S, op, rfl, ok, bo, j1.bk, e1 _ _ ho (fun _ => by simp), hop, z1, z2, z3, ?_⟩
  rw [hd]
  intro H2 w2
  have j2 := j1.wd0 w2
  have h2 : H2 pe = some (.tup [.str e, .int 0]) := w2.tups _ _ (e1 _ _ he (fun _ => by simp))
  have fin : ∀ p H3, Wd [] H2 H3 [(p, .tup [.str e, .int 0])] → (tVar 6) σ H3 (fun y H5 => rNeD K (.ref p) y H5 fun x H' => ∃ k, x = .bl k ∧ if k = true then tRet (tC (.bl false)) D σ H' else tNext D σ H') := fun p H3 w3 => by
    obtain ⟨l1, l2⟩ := errD_ok e he'
    refine ⟨_, s6, errD e, errD e, .tup (SqT.of (w3.get 0 rfl)) (.cons (.str _) (.cons (.int _) .nil)), .tup (SqT.of (w3.tups _ _ h2)) (.cons (.str _) (.cons (.int _) .nil)), l2, l2, ?_⟩
    rw [SeqAt.eqv_refl _ l1]
    exact ⟨false, rfl, iteF (hnx _ (j2.wd0 w3))⟩
  have nod : DOk' H2 none := fun dd q => by cases q
  simp only [List.mem_cons, List.not_mem_nil, or_false] at he'
  rcases he' with rfl | rfl | rfl
  · exact ⟨CC, 1, rfl, k1, nod, .none (by decide) rfl fun p H' w' => fin p H' w'⟩
  · exact ⟨CU, 2, rfl, k2, nod, .none (by decide) rfl fun p H' w' => fin p H' w'⟩
  · exact ⟨CN, 6, rfl, k6, nod, .none (by decide) rfl fun p H' w' => fin p H' w'⟩
end
end Br

namespace Br
open PySem PySem.Spec PyProof.Rows L2
section
variable {r : Rota} {i j : Nat} {b b' : Bst}
/-- going back or forth -/
theorem undo_ok (bo : BOk r b) (bs : BSz i b) : ∃ (k : Bool) (b' : Bst), doOp r b .undo = .ok (.bl k, b') ∧ BOk r b' ∧ BSz i b' ∧ ((undoB b = none ∧ k = false ∧ b' = b) ∨ (undoB b = some b' ∧ k = true)) := by
  cases h : undoB b with
  | none => exact ⟨false, b, (by show undoR b (undoB b) = _; rw [h]; rfl), bo, bs, .inl ⟨rfl, rfl, rfl⟩⟩
  | some c => exact ⟨true, c, (by show undoR b (undoB b) = _; rw [h]; rfl), undoB_ok bo h, bs.undo h, .inr ⟨rfl, rfl⟩⟩
theorem redo_ok (bo : BOk r b) (bs : BSz i b) : ∃ (k : Bool) (b' : Bst), doOp r b .redo = .ok (.bl k, b') ∧ BOk r b' ∧ BSz i b' ∧ ((redoB b = none ∧ k = false ∧ b' = b) ∨ (redoB b = some b' ∧ k = true)) := by
  cases h : redoB b with
  | none => exact ⟨false, b, (by show undoR b (redoB b) = _; rw [h]; rfl), bo, bs, .inl ⟨rfl, rfl, rfl⟩⟩
  | some c => exact ⟨true, c, (by show undoR b (redoB b) = _; rw [h]; rfl), redoB_ok bo h, bs.redo h, .inr ⟨rfl, rfl⟩⟩
end
def UnC (b : Bst) (ob : Option Bst) (k : Bool) (b' : Bst) : Prop := (ob = none ∧ k = false ∧ b' = b) ∨ (ob = some b' ∧ k = true)
def spUn (CB : Addr) (g : Bst → Option Bst) : Sp := fun vs H Q _ => ∃ (z : Bz) (r : Rota) (b : Bst) (S : List (Str × Bst)) (k : Bool) (b' : Bst), vs = [.ref z.x] ∧ BOk r b ∧ BkAt CB z r b S H ∧ b.past.length ≤ 1000 ∧ b.und.length ≤ 1000 ∧ UnC b (g b) k b' ∧ ∀ H', BStep CB z r b' S H H' → Q (.bl k) H'
section
variable {P : Program} {w : World} {K : PySem.W.Frag} {mg : Str → Option Value} {base : Heap} {CB : Addr} {k : Nat} {ps : List Str}
theorem undo_weak (M : MeAt P w K mg base k CB "undo" ps (spUndo CB)) : MeAt P w K mg base k CB "undo" ps (spUn CB undoB) := by
  obtain ⟨f, fd, m, b, G⟩ := M.ex
  refine ⟨f, fd, m, b, G.imp ?_⟩
  rintro vs H Q E ⟨z, r, b, S, k, b', rfl, bo, hb, z1, z2, c, q⟩
  refine ⟨z, r, b, S, rfl, bo, hb, z1, z2, ?_⟩
  rcases c with ⟨h, rfl, rfl⟩ | ⟨h, rfl⟩ <;> rw [h] <;> exact q
theorem redo_weak (M : MeAt P w K mg base k CB "redo" ps (spRedo CB)) : MeAt P w K mg base k CB "redo" ps (spUn CB redoB) := by
  obtain ⟨f, fd, m, b, G⟩ := M.ex
  refine ⟨f, fd, m, b, G.imp ?_⟩
  rintro vs H Q E ⟨z, r, b, S, k, b', rfl, bo, hb, z1, z2, c, q⟩
  refine ⟨z, r, b, S, rfl, bo, hb, z1, z2, ?_⟩
  rcases c with ⟨h, rfl, rfl⟩ | ⟨h, rfl⟩ <;> rw [h] <;> exact q
end
end Br

/-! A match over a tuple: case [word], case [word, name]. -/
namespace Br
open PySem PySem.Spec PyProof.Rows L2
section
variable {X : Cx}
structure PCt (X : Cx) (cs : List MatchCase) (t : List V → TS) : Prop where
  run : ∀ (pins : List (Addr × Obj)) (s : Shared) (σ : L2.St) (H : Hp) (D : Ends) (a : Addr) (vs : List V) (first : Bool), Inv X pins σ H s → H a = some (.tup vs) → t vs D σ H → wpAny (model X.prog X.w) X.A (matchCases cs X.env (.ref a) first) (SP X pins D) X.xe s
def tMatchT (te : TE) (tc : List V → TS) : TS := fun D σ H => te σ H fun x H1 => ∃ a vs, x = .ref a ∧ H1 a = some (.tup vs) ∧ tc vs D σ H1
theorem ps_matchT {e : Expr} {te : TE} {cs : List MatchCase} {tc : List V → TS} {pos : Pos} (he : PE X e te) (hc : PCt X cs tc) : PS X (.Match e cs pos) (tMatchT te tc) := by
  refine ⟨fun pins s σ H D I h => ?_⟩
  show wpAny _ _ (do standAt pos; let v ← eval e X.env; matchCases cs X.env v true) _ _ _
  refine wpAny_bind (wpAny_standAt (wpAny_bind (thn (he.run pins s σ H _ I h) fun v s1 ⟨x, H1, I1, r1, a, vs, hx, ha, q⟩ => ?_)))
  subst hx
  obtain rfl : v = Value.ref a := r1
  exact hc.run pins s1 σ H1 D a vs true I1 ha q
theorem unpack_n {prog : Program} {w : World} {A : Around} {E : Value → Shared → Prop} {s : Shared} {t : Addr} {items : Array Value} {n : Nat} {Q : List Value → Shared → Prop} (hn : n = items.size) (hh : A.handled = none) (ht : IsTup s.heap t items)
    (hQ : ∀ h', Heap.ExtBut s.heap.objs.size s.heap h' → Q items.toList { s with heap := h' }) : wpAny (model prog w) A (unpackItems (.ref t) n none) Q E s := by
  subst hn; exact unpackItems_tuple hh ht hQ
theorem pct_nil : PCt X [] (fun _ D σ H => D.nx σ H) := ⟨fun pins s σ H D z tk first I h q => wpAny_pure ⟨σ, H, I, q⟩⟩
/-- case [word] -/
def tOne (c : Str) (tb : TS) (tr : List V → TS) : List V → TS := fun vs D σ H => (∀ x, vs = [x] → ∃ z, x = .str z ∧ (z = c → tb D σ H) ∧ (z ≠ c → tr vs D σ H)) ∧ (vs.length ≠ 1 → tr vs D σ H)
/-- case [word, name] -/
def tTwo (c : Str) (i : Nat) (tb : TS) (tr : List V → TS) : List V → TS := fun vs D σ H => (∀ x y, vs = [x, y] → ∃ z, x = .str z ∧ (z = c → tb D (σ.set i (some y)) H) ∧ (z ≠ c → tr vs D σ H)) ∧ (vs.length ≠ 2 → tr vs D σ H)
theorem pct_one {c : Str} {j cpos vpos pos} {body : List Stmt} {rest : List MatchCase} {tb : TS} {tr : List V → TS} (hc : X.calm = true) (hb : PSs X body tb) (hr : PCt X rest tr) :
    PCt X (⟨.MatchSequence [.MatchValue (.Constant (.str c) j cpos) vpos] pos, none, body⟩ :: rest) (tOne c tb tr) := by
  refine ⟨fun pins s σ H D a vs first I e h => ?_⟩
  obtain ⟨h1, h2⟩ := h
  obtain ⟨its, rv, ht, hz⟩ := I.tuple (SqT.of (K := X.K) e)
  have hfit : ((its.toArray.size : Nat) : Int) < 2 ^ 63 := by
    rw [List.size_toArray]
    have h0 := rv.length
    rw [sizeLine_eq] at hz
    omega
  refine wpAny_matchCases_cons ?_
  by_cases hl : its.length = 1
  · obtain ⟨u, rfl⟩ := List.length_eq_one_iff.mp hl
    · obtain ⟨x, rfl, rx⟩ : ∃ x, vs = [x] ∧ RelV x u := by cases rv with | cons r t => cases t; exact ⟨_, rfl, r⟩
      obtain ⟨z, rfl, q1, q2⟩ := h1 x rfl
      obtain ⟨tk, rfl⟩ := (show ∃ tk, u = Value.str z tk from rx)
      refine matchSeq_tuple_hit ht hfit rfl ?_
      refine unpack_n rfl (I.ok.hd hc) ht fun h' hx' => ?_
      refine wpAny_matchEach_cons (wpAny_matchPattern_Value (Calls.Constant_str (eq_str (wpAny_truthy_bool ?_))))
      have I1 : Inv X pins σ H { s with heap := h', toks := s.toks + 1 + 1 + 1 } := I.kept fun b o e => hx' b o (Nat.ne_of_lt (Heap.lt_size e)) e
      by_cases ez : z = c
      · subst ez
        rw [beq_self_eq_true]
        refine wpAny_matchEach_nil ?_
        exact wpAny_pure (hb.run pins _ σ H D I1 (q1 rfl))
      · rw [show (z == c) = false from beq_eq_false_iff_ne.mpr ez]
        exact hr.run pins _ σ H D a _ false I1 e (q2 ez)
  · have hv : vs.length ≠ 1 := fun q => hl (by rw [← rv.length]; exact q)
    refine matchSeq_tuple_miss ht hfit (by simpa using hl) ?_
    exact hr.run pins _ σ H D a vs false (I.tok _) e (h2 hv)
theorem pct_two {c n : Str} {i : Nat} {j cpos vpos apos pos} {body : List Stmt} {rest : List MatchCase} {tb : TS} {tr : List V → TS} (hc : X.calm = true) (hN : X.N.Nodup) (hi : X.N[i]? = some n) (hx : Loc X.env.scope n) (hb : PSs X body tb) (hr : PCt X rest tr)
    (hf : X.fn n = true ∨ X.env.scope.names.lookup n = some .local := by first | exact .inl rfl | exact .inr rfl | assumption) :
    PCt X (⟨.MatchSequence [.MatchValue (.Constant (.str c) j cpos) vpos, .MatchAs none (some n) apos] pos, none, body⟩ :: rest) (tTwo c i tb tr) := by
  refine ⟨fun pins s σ H D a vs first I e h => ?_⟩
  obtain ⟨h1, h2⟩ := h
  obtain ⟨its, rv, ht, hz⟩ := I.tuple (SqT.of (K := X.K) e)
  have hfit : ((its.toArray.size : Nat) : Int) < 2 ^ 63 := by
    rw [List.size_toArray]
    have h0 := rv.length
    rw [sizeLine_eq] at hz
    omega
  refine wpAny_matchCases_cons ?_
  by_cases hl : its.length = 2
  · obtain ⟨u, w, rfl⟩ : ∃ u w, its = [u, w] := by
      cases its with
      | nil => simp at hl
      | cons u t => cases t with
        | nil => simp at hl
        | cons w t => cases t with
          | nil => exact ⟨_, _, rfl⟩
          | cons _ _ => simp at hl
    · obtain ⟨x, y, rfl, rx, ry⟩ : ∃ x y, vs = [x, y] ∧ RelV x u ∧ RelV y w := by cases rv with | cons r t => cases t with | cons r2 t => cases t; exact ⟨_, _, rfl, r, r2⟩
      obtain ⟨z, rfl, q1, q2⟩ := h1 x y rfl
      obtain ⟨tk, rfl⟩ := (show ∃ tk, u = Value.str z tk from rx)
      refine matchSeq_tuple_hit ht hfit rfl ?_
      refine unpack_n rfl (I.ok.hd hc) ht fun h' hx' => ?_
      refine wpAny_matchEach_cons (wpAny_matchPattern_Value (Calls.Constant_str (eq_str (wpAny_truthy_bool ?_))))
      have I1 : Inv X pins σ H { s with heap := h', toks := s.toks + 1 + 1 + 1 } := I.kept fun b o e => hx' b o (Nat.ne_of_lt (Heap.lt_size e)) e
      by_cases ez : z = c
      · subst ez
        rw [beq_self_eq_true]
        refine wpAny_matchEach_cons (wpAny_matchPattern_Capture (wpAny_matchEach_nil ?_))
        show wpAny _ _ (assignInOrder [fun v => bindName X.env n v] [w]) _ _ _
        refine wpAny_assignInOrder_more (wpAny_bindName (store_ok I1 hN hi hx ry (fun s' I' => wpAny_assignInOrder_none ?_) hf))
        exact hb.run pins _ _ H D I' (q1 rfl)
      · rw [show (z == c) = false from beq_eq_false_iff_ne.mpr ez]
        exact hr.run pins _ σ H D a _ false I1 e (q2 ez)
  · have hv : vs.length ≠ 2 := fun q => hl (by rw [← rv.length]; exact q)
    refine matchSeq_tuple_miss ht hfit (by simpa using hl) ?_
    exact hr.run pins _ σ H D a vs false (I.tok _) e (h2 hv)
end
end Br

/-! d.get(k, x), d a dict of the module, the key there. -/
namespace Br
open PySem PySem.Spec PyProof.Rows L2
section
variable {X : Cx} {o e f : Expr} {apos cpos : Pos} {td ty tx : TE}
def tKGet (K : PySem.W.Frag) (w : World) (td ty tx : TE) : TE := fun σ H Q => td σ H fun x H1 => ∃ p es n, x = .ref p ∧ K.lookup p = some ⟨.type "dict", none, .dict es n, #[]⟩ ∧ PySem.W.KeysLit w.params es.toList ∧ (p == sysModules) = false ∧
  ty σ H1 fun y H2 => ∃ z v u, y = .str z ∧ PySem.W.nsIn K p z = some (some u) ∧ RelV v u ∧ tx σ H2 fun _ H3 => Q v H3
theorem pe_kget {K : PySem.W.Frag} {w : World} (hK : K = X.K) (hw : w = X.w) (ho : PE X o td) (he : PE X e ty) (hf : PE X f tx) (m : M2 X o "get" apos e f cpos) : PE X (.Call (.Attribute o "get" apos) [e, f] [] cpos) (tKGet K w td ty tx) := by
  subst hK hw
  refine ⟨fun pins s σ H Q I h => ?_⟩
  refine wpAny_Call_method m.base m.few m.line PySem.F.plainAttrs_dict PySem.F.slot_dict_get PySem.F.type_dict_get (thn (ho.run pins s σ H _ I h) fun u s1 ⟨x, H1, I1, rx, p, es, n, ex, hl, hk, hd, q1⟩ => ?_)
  subst ex
  obtain rfl : u = Value.ref p := rx
  have hm := PySem.W.mapOf_K (prog := X.prog) (w := X.w) I1.kIn hl hk
  refine ⟨hm.typeIs, fun b q => ?_, ?_⟩
  · cases q
    exact ⟨_, I1.kIn _ _ hl, rfl⟩
  rw [m.trees]
  refine Calls.callWith_builtin rfl (Calls.evalArgs_plain (Calls.spliced_cons (thn (he.run pins s1 σ H1 _ I1 q1) fun iv s2 ⟨y, H2, I2, ry, z, v, r, ey, hz, rv, q2⟩ =>
    Calls.spliced_cons (thn (hf.run pins s2 σ H2 _ I2 q2) fun fv s3 ⟨d, H3, I3, rd, q3⟩ => Calls.spliced_nil ?_))))
  subst ey
  obtain ⟨t, rfl⟩ := (show ∃ t, iv = Value.str z t from ry)
  have hm3 := PySem.W.mapOf_K (prog := X.prog) (w := X.w) I3.kIn hl hk
  refine call_meetsIn PySem.F.slot_dict_get hm3.typeIs PySem.F.entry_dict_get (PySem.F.args_dict_get_3 _ _ _) (meets_dict_get_default (strKind X.prog X.w) p (strKind_is X.prog X.w z t) hd fv) ⟨_, hm3, ⟨v, H3, I3.tok _, ?_, q3⟩⟩
  rw [PySem.W.find_K hl hz]
  exact rv
end
end Br

namespace Br
open PySem PySem.Spec PyProof.Rows L2
section
variable {P : Program} {w : World} {K : PySem.W.Frag} {mg : Str → Option Value} {base : Heap} {CB CC CU CN : Addr}
theorem one_miss {c : Str} {tb : TS} {tr : List V → TS} {x y : V} {D : Ends} {σ : L2.St} {H : Hp} (h : tr [x, y] D σ H) : tOne c tb tr [x, y] D σ H := ⟨fun _ e => by simp at e, fun _ => h⟩
theorem two_miss {c : Str} {i : Nat} {tb : TS} {tr : List V → TS} {x : V} {D : Ends} {σ : L2.St} {H : Hp} (h : tr [x] D σ H) : tTwo c i tb tr [x] D σ H := ⟨fun _ _ e => by simp at e, fun _ => h⟩
theorem one_no {c z : Str} {tb : TS} {tr : List V → TS} {D : Ends} {σ : L2.St} {H : Hp} (n : z ≠ c) (h : tr [.str z] D σ H) : tOne c tb tr [.str z] D σ H :=
  ⟨fun x e => by cases e; exact ⟨z, rfl, fun q => absurd q n, fun _ => h⟩, fun q => absurd rfl q⟩
theorem one_yes {c : Str} {tb : TS} {tr : List V → TS} {D : Ends} {σ : L2.St} {H : Hp} (h : tb D σ H) : tOne c tb tr [.str c] D σ H :=
  ⟨fun x e => by cases e; exact ⟨c, rfl, fun _ => h, fun q => absurd rfl q⟩, fun q => absurd rfl q⟩
theorem two_no {c z : Str} {i : Nat} {y : V} {tb : TS} {tr : List V → TS} {D : Ends} {σ : L2.St} {H : Hp} (n : z ≠ c) (h : tr [.str z, y] D σ H) : tTwo c i tb tr [.str z, y] D σ H :=
  ⟨fun x u e => by cases e; exact ⟨z, rfl, fun q => absurd q n, fun _ => h⟩, fun q => absurd rfl q⟩
theorem two_yes {c : Str} {i : Nat} {y : V} {tb : TS} {tr : List V → TS} {D : Ends} {σ : L2.St} {H : Hp} (h : tb D (σ.set i (some y)) H) : tTwo c i tb tr [.str c, y] D σ H :=
  ⟨fun x u e => by cases e; exact ⟨c, rfl, fun _ => h, fun q => absurd rfl q⟩, fun q => absurd rfl q⟩
abbrev sBook_execute : Stmt := inClass (topS 61) 16
theorem scBook_execute : FnScope ["self", "operation", "count", "name"] ["self", "operation"] (defScope sBook_execute) := ⟨rfl, rfl, rfl, by decide +kernel, rfl, by decide +kernel, by decide +kernel⟩
theorem me_execute (D : MethAt K CB "execute" "Book.execute" sBook_execute ["self", "operation"]) (BC : BkCls K CB) (C1 : MeX P w K mg base 4 CB "step" ["self", "count"] (spStep CB CC)) (C2 : MeX P w K mg base 3 CB "gift" ["self", "name"] (spGift CB CU CN)) (C3 : MeX P w K mg base 3 CB "forgive" ["self", "name"] (spForgive CB CU))
    (C4 : MeAt P w K mg base 2 CB "reset" ["self"] (spReset CB)) (C5 : MeAt P w K mg base 1 CB "undo" ["self"] (spUndo CB)) (C6 : MeAt P w K mg base 1 CB "redo" ["self"] (spRedo CB)) :
    MeX P w K mg base 5 CB "execute" ["self", "operation"] (spLDo CB CC CU CN) := D.meX fun f fd F => by
  have nd := scBook_execute.nd
  have cl_Book := BC.cl
  obtain ⟨f1, fd1, me_step, b_step, G_step⟩ := C1.ex
  obtain ⟨f2, fd2, me_gift, b_gift, G_gift⟩ := C2.ex
  obtain ⟨f3, fd3, me_forgive, b_forgive, G_forgive⟩ := C3.ex
  obtain ⟨f4, fd4, me_reset, b_reset, G_reset⟩ := C4.ex
  obtain ⟨f5, fd5, me_undo, b_undo, G_undo⟩ := C5.ex
  obtain ⟨f6, fd6, me_redo, b_redo, G_redo⟩ := C6.ex
  refine F.okX scBook_execute (fun vs H Q E h => ?_) (fun cdv A outer s H vs Q E hr h => ?_)
  · obtain ⟨z, oa, r, b, S, op, rfl, _⟩ := h; rfl
  obtain ⟨z, oa, r, b, S, op, rfl, ok, bo, hb, ho, hop, hz1, hz2, hz3, q⟩ := h
  refine ⟨_, (pss_cons (ps_matchT (pv 1) (pct_two (i := 2) (by rfl) nd rfl (Or.inl rfl) (pss_one (ps_ret (pe_meth (pv 0) cl_Book me_step G_step (hr.mono (by first | decide | omega)) b_step .nil (passes_call (takes_of rfl rfl rfl rfl) (fun _ _ _ _ h => h)) (pa_cons (pv 2) pa_nil)))) (pct_two (i := 3) (by rfl) nd rfl (Or.inl rfl) (pss_one (ps_ret (pe_meth (pv 0) cl_Book me_gift G_gift (hr.mono (by first | decide | omega)) b_gift .nil (passes_call (takes_of rfl rfl rfl rfl) (fun _ _ _ _ h => h)) (pa_cons (pv 3) pa_nil)))) (pct_two (i := 3) (by rfl) nd rfl (Or.inl rfl) (pss_one (ps_ret (pe_meth (pv 0) cl_Book me_forgive G_forgive (hr.mono (by first | decide | omega)) b_forgive .nil (passes_call (takes_of rfl rfl rfl rfl) (fun _ _ _ _ h => h)) (pa_cons (pv 3) pa_nil)))) (pct_one (by rfl) (pss_one (ps_ret (pe_meth0 (pv 0) cl_Book me_reset G_reset (hr.mono (by first | decide | omega)) b_reset .nil pass0))) (pct_one (by rfl) (pss_one (ps_ret (pe_meth0 (pv 0) cl_Book me_undo G_undo (hr.mono (by first | decide | omega)) b_undo .nil pass0))) pct_nil))))))
 (pss_one (ps_ret (pe_meth0 (pv 0) cl_Book me_redo G_redo (hr.mono (by first | decide | omega)) b_redo .nil pass0)))), ?_⟩
  obtain ⟨na, hx, lt⟩ := id hb.na
  refine ⟨_, rfl, oa, _, rfl, ho, ?_⟩
  cases op with
  | bad v =>
    obtain ⟨t, kv⟩ := bad_ky H v
    refine two_yes ?_
    refine ⟨_, rfl, z.x, z.dx, _, rfl, hx, bk_none (by decide +kernel), _, rfl, z, r, b, S, badV v, t, rfl, ok, bo, hb, kv, hz1, by omega, fun hi H' w' => ?_, fun k' e hk H' p bs => ?_⟩
    · exact (show ∀ H', Wd [] H H' [] → E (.ref CC) none H' from q) H' w'
    · have := bad_in v
      rw [e, show intIn 0 500 (.int (k' : Int)) = (decide ((0 : Int) ≤ (k' : Int)) && decide ((k' : Int) ≤ 500)) from rfl, decide_eq_true (by omega), decide_eq_true (by omega)] at this
      cases this
  | step k =>
    refine two_yes ?_
    refine ⟨_, rfl, z.x, z.dx, _, rfl, hx, bk_none (by decide +kernel), _, rfl, z, r, b, S, _, "int", rfl, ok, bo, hb, .int _, hz1, by omega, fun hi H' w' => ?_, fun k' e hk H' p bs => ?_⟩
    · have c : 500 < k := by
        have h2 : (decide ((0 : Int) ≤ (k : Int)) && decide ((k : Int) ≤ 500)) = false := hi
        rw [decide_eq_true (by omega), Bool.true_and] at h2
        have := of_decide_eq_false h2
        omega
      have qd : doOp r b (.step k) = .error "count" := by
        show recR "step" b (if 500 < k then .error "count" else _) = _
        rw [if_pos c]; rfl
      rw [qd] at q
      exact q H' w'
    · have ek : k' = k := by injection e with e; omega
      subst ek
      have qd : doOp r b (.step k') = .ok (.nms (found r k' b.now), recB "step" b (stepN r k' b.now)) := by
        show recR "step" b (if 500 < k' then .error "count" else .ok (.nms (found r k' b.now), stepN r k' b.now)) = _
        rw [if_neg (by omega)]; rfl
      rw [qd] at q
      exact q H' _ ⟨p, rfl, bs⟩
  | gift nm =>
    refine two_no (by show ("gift" : Str) ≠ "step"; decide +kernel) (two_yes ?_)
    refine ⟨_, rfl, z.x, z.dx, _, rfl, hx, bk_none (by decide +kernel), _, rfl, z, r, b, S, _, "str", rfl, ok, bo, hb, .str _, hz1, by omega, ?_⟩
    have qd : doOp r b (.gift nm) = recR "gift" b (giftR r b.now (personOf r (.str nm))) := rfl
    rw [qd] at q
    cases hp : personOf r (.str nm) with
    | none =>
      rw [hp] at q
      exact fun H' w' => q H' w'
    | some p =>
      rw [hp] at q
      refine ⟨fun hm H' w' => ?_, fun hm H' bs => ?_⟩
      · have qd2 : recR "gift" b (giftR r b.now (some p)) = .error "nobody" := by
          show recR "gift" b (if p ∈ homes r b.now.t then .ok (Res.int (less (owes b.now.o p)), giftN p b.now) else .error "nobody") = _
          rw [if_neg hm]; rfl
        rw [qd2] at q
        exact q H' w'
      · have qd2 : recR "gift" b (giftR r b.now (some p)) = .ok (.int (less (owes b.now.o p)), recB "gift" b (giftN p b.now)) := by
          show recR "gift" b (if p ∈ homes r b.now.t then .ok (Res.int (less (owes b.now.o p)), giftN p b.now) else .error "nobody") = _
          rw [if_pos hm]; rfl
        rw [qd2] at q
        exact q H' _ ⟨rfl, bs⟩
  | forgive nm =>
    refine two_no (by show ("forgive" : Str) ≠ "step"; decide +kernel) (two_no (by show ("forgive" : Str) ≠ "gift"; decide +kernel) (two_yes ?_))
    refine ⟨_, rfl, z.x, z.dx, _, rfl, hx, bk_none (by decide +kernel), _, rfl, z, r, b, S, _, "str", rfl, ok, bo, hb, .str _, hz1, ?_⟩
    have qd : doOp r b (.forgive nm) = recR "forgive" b (forgiveR b.now (personOf r (.str nm))) := rfl
    rw [qd] at q
    cases hp : personOf r (.str nm) with
    | none =>
      rw [hp] at q
      exact fun H' w' => q H' w'
    | some p =>
      rw [hp] at q
      exact fun H' bs => q H' _ ⟨rfl, bs⟩
  | reset =>
    refine two_miss (two_miss (two_miss (one_yes ?_)))
    exact ⟨_, rfl, z.x, z.dx, _, rfl, hx, bk_none (by decide +kernel), z, r, b, S, rfl, ok, hb, hz1, fun H' bs => q H' _ ⟨rfl, bs⟩⟩
  | undo =>
    refine two_miss (two_miss (two_miss (one_no (by decide +kernel) (one_yes ?_))))
    refine ⟨_, rfl, z.x, z.dx, _, rfl, hx, bk_none (by decide +kernel), z, r, b, S, rfl, bo, hb, hz1, hz2, ?_⟩
    have qd : doOp r b .undo = undoR b (undoB b) := rfl
    rw [qd] at q
    cases hu : undoB b with
    | none => rw [hu] at q; exact fun H' bs => q H' _ ⟨rfl, bs⟩
    | some b' => rw [hu] at q; exact fun H' bs => q H' _ ⟨rfl, bs⟩
  | redo =>
    refine two_miss (two_miss (two_miss (one_no (by decide +kernel) (one_no (by decide +kernel) ?_))))
    refine ⟨_, rfl, z.x, z.dx, _, rfl, hx, bk_none (by decide +kernel), z, r, b, S, rfl, bo, hb, hz1, hz2, ?_⟩
    have qd : doOp r b .redo = undoR b (redoB b) := rfl
    rw [qd] at q
    cases hu : redoB b with
    | none => rw [hu] at q; exact fun H' bs => q H' _ ⟨rfl, bs⟩
    | some b' => rw [hu] at q; exact fun H' bs => q H' _ ⟨rfl, bs⟩
def opD : Op → PyData
  | .step k => .tuple [.str "step", .int (k : Int)]
  | .gift z => .tuple [.str "gift", .str z]
  | .forgive z => .tuple [.str "forgive", .str z]
  | .reset => .tuple [.str "reset"]
  | .undo => .tuple [.str "undo"]
  | .redo => .tuple [.str "redo"]
  | .bad v => .tuple [.str "step", badD v]
theorem opD_dp {H : Hp} {oa : Addr} {op : Op} (h : H oa = some (.tup (opL op))) : Dp K H (.ref oa) (opD op) := by
  cases op with
  | step k => exact .tup (SqT.of h) (.cons (.str _) (.cons (.int _) .nil))
  | gift z => exact .tup (SqT.of h) (.cons (.str _) (.cons (.str _) .nil))
  | forgive z => exact .tup (SqT.of h) (.cons (.str _) (.cons (.str _) .nil))
  | reset => exact .tup (SqT.of h) (.cons (.str _) .nil)
  | undo => exact .tup (SqT.of h) (.cons (.str _) .nil)
  | redo => exact .tup (SqT.of h) (.cons (.str _) .nil)
  | bad v => exact .tup (SqT.of h) (.cons (.str _) (.cons (by cases v <;> first | exact .int _ | exact .str _ | exact .none | exact .bool _ | exact .non | exact .bl _ | constructor) .nil))
theorem opD_eq (op : Op) (nb : ∀ v, op ≠ .bad v) : opD op = .tuple ((opL op).map dataOf) := by cases op <;> first | rfl | exact absurd rfl (nb _)
theorem name_is {r : Rota} (ok : ROk r) {z : Str} (h : z ∈ r.names ∨ z = "nobody") : IS (V.str z) := by
  have k : ∀ z ∈ ("nobody" : Str) :: six, PyData.strOk z = true := by decide +kernel
  rcases h with h | h
  · exact k z (List.mem_cons_of_mem _ (ok.six z h))
  · exact k z (by rw [h]; exact List.mem_cons_self)
theorem opL_is {r : Rota} (ok : ROk r) {op : Op} (hop : OpOk r op) (nb : ∀ v, op ≠ .bad v) : ∀ v ∈ opL op, IS v := by
  have w : ∀ z ∈ (["step", "gift", "forgive", "reset", "undo", "redo"] : List Str), PyData.strOk z = true := by decide +kernel
  intro v hv
  cases op with
  | bad v => exact absurd rfl (nb _)
  | step k =>
    simp only [opL, List.mem_cons, List.not_mem_nil, or_false] at hv
    rcases hv with rfl | rfl
    · exact w _ (by simp)
    · trivial
  | gift z =>
    simp only [opL, List.mem_cons, List.not_mem_nil, or_false] at hv
    rcases hv with rfl | rfl
    · exact w _ (by simp)
    · exact name_is ok hop
  | forgive z =>
    simp only [opL, List.mem_cons, List.not_mem_nil, or_false] at hv
    rcases hv with rfl | rfl
    · exact w _ (by simp)
    · exact name_is ok hop
  | reset => rw [List.mem_singleton.mp hv]; exact w _ (by simp)
  | undo => rw [List.mem_singleton.mp hv]; exact w _ (by simp)
  | redo => rw [List.mem_singleton.mp hv]; exact w _ (by simp)
theorem shaped_tuple {xs : List V} (h : ∀ v ∈ xs, IS v) : SeqAt.shaped (.tuple (xs.map dataOf)) = true := by
  unfold SeqAt.shaped
  rw [PyData.canLay0, lay_all h, PyData.depth, depth_all]; rfl
theorem opD_sh {r : Rota} (ok : ROk r) {op : Op} (hop : OpOk r op) : SeqAt.shaped (opD op) = true := by
  by_cases nb : ∃ v, op = .bad v
  · obtain ⟨v, rfl⟩ := nb
    have w : PyData.strOk "step" = true := by decide +kernel
    have g : ∀ i : Int, ∀ v ∈ [V.str "step", V.int i], IS v := fun i v hv => by
      simp only [List.mem_cons, List.not_mem_nil, or_false] at hv
      rcases hv with rfl | rfl
      · exact w
      · trivial
    cases v with
    | neg k => exact shaped_tuple (g _)
    | big k => exact shaped_tuple (g _)
    | non => decide +kernel
    | tru => decide +kernel
    | one => decide +kernel
  · have nb : ∀ v, op ≠ .bad v := fun v e => nb ⟨v, e⟩
    rw [opD_eq op nb]; exact shaped_tuple (opL_is ok hop nb)
theorem opD_ne (op : Op) : PyData.eqv (opD op) (.tuple []) = false := by cases op <;> rfl
abbrev sis_operation : Stmt := topS 60
theorem scis_operation : FnScope ["value"] ["value"] (defScope sis_operation) := ⟨rfl, rfl, rfl, by decide +kernel, rfl, by decide +kernel, by decide +kernel⟩
/-- the module's table of lengths -/
def LenD (K : PySem.W.Frag) (w : World) (mg : Str → Option Value) (p : Addr) : Prop := mg "LENGTHS" = some (.ref p) ∧ ∃ es n, K.lookup p = some ⟨.type "dict", none, .dict es n, #[]⟩ ∧ PySem.W.KeysLit w.params es.toList ∧ (p == sysModules) = false ∧
  ∀ op : Op, ∃ t, PySem.W.nsIn K p (opWord op) = some (some (.int (opL op).length t))
def spIsOp : Sp := fun vs H Q _ => ∃ (oa : Addr) (r : Rota) (op : Op), vs = [.ref oa] ∧ ROk r ∧ OpOk r op ∧ H oa = some (.tup (opL op)) ∧ ∀ H', Wd [] H H' [] → Q (.bl true) H'
theorem cal_isOp {a_LENGTHS : Addr} (D : DefAt K mg "is_operation" sis_operation ["value"]) (T : Bi mg) (LD : LenD K w mg a_LENGTHS) : Cal P w K mg base 1 "is_operation" ["value"] spIsOp := D.cal fun f fd F => by
  have nd := scis_operation.nd
  obtain ⟨c_LENGTHS, es, n, hl, hk, hs, hv⟩ := LD
  refine F.ok scis_operation (fun vs H Q E h => ?_) (fun cdv A outer s H vs Q E hr h => ?_)
  · obtain ⟨oa, r, op, rfl, _⟩ := h; rfl
  obtain ⟨oa, r, op, rfl, ok, hop, ho, q⟩ := h
  have hu := hr.units
  refine ⟨_, (pss_cons (ps_if (PW.pt (pw_or (pt_not (pt_val (pe_callB call_isi (by rfl) T.isinstance (by decide +kernel) (pa_cons (pv 0) (pa_cons (pe_bltn (v := .ty "tuple") (by rfl) T.tuple (by decide +kernel) rfl) pa_nil))))) (pw_or (pt_cmpR (r := rEqD K) (op_eqD hu) (pv 0) (pe_tup pa_nil) (nomark _)) (pw_or1 (pt_not (pt_val (pe_callB call_isi (by rfl) T.isinstance (by decide +kernel) (pa_cons (pe_ix (r := rIxT K) ix_tup (pv 0) pe_int (fun _ _ => rfl)) (pa_cons (pe_bltn (v := .ty "str") (by rfl) T.str (by decide +kernel) rfl) pa_nil)))))))))
 (pss_one (ps_ret pe_bl))
 pss_nil)
 (pss_one (ps_ret (pe_cmpR op_eq (pe_kget rfl rfl (pe_glob (v := .ref a_LENGTHS) (by rfl) c_LENGTHS rfl) (pe_ix (r := rIxT K) ix_tup (pv 0) pe_int (fun _ _ => rfl)) pe_int ⟨rfl, by rfl, rfl, rfl⟩) (pe_callB (r := rLenS K) call_len_seq (by rfl) T.len PySem.boot_len (pa_cons (pv 0) pa_nil)) (nomark _))))), ?_⟩
  have o0 : atI (opL op) 0 = some (.str (opWord op)) := by cases op <;> rfl
  refine ⟨_, rfl, _, _, _, .type "tuple", _, rfl, .ty "tuple", (Ky.tup ho).ty, kit_is (K := K) (Ky.tup ho).mem (T := "tuple") (by decide), _, rfl, iteF ?_⟩
  refine ⟨_, rfl, Nat.zero_le _, fun e he => ?_⟩
  have w1 := (Wd.refl H).new (.tup []) he
  have ho1 := w1.tups _ _ ho
  refine ⟨opD op, .tuple [], opD_dp ho1, .tup (SqT.of (w1.get 0 rfl)) .nil, opD_sh ok hop, rfl, ?_⟩
  rw [opD_ne op]
  refine ⟨_, rfl, iteF ?_⟩
  refine ⟨_, rfl, oa, _, 0, _, rfl, rfl, SqT.of ho1, o0, ?_⟩
  have k1 := kit_is (K := K) (Ky.mem (H := upd H e (.tup [])) (.str (opWord op))) (T := "str") (by decide)
  refine ⟨_, _, _, .type "str", _, rfl, .ty "str", (Ky.str (H := upd H e (.tup [])) (opWord op)).ty, k1, _, rfl, iteF ?_⟩
  obtain ⟨t, ht⟩ := hv op
  refine ⟨_, es, n, rfl, hl, hk, hs, _, rfl, oa, _, 0, _, rfl, rfl, SqT.of ho1, o0, _, .int ((opL op).length : Int), _, rfl, ht, ⟨_, rfl⟩, ?_⟩
  refine ⟨_, rfl, oa, _, rfl, .inr (SqT.of ho1), rfl, ?_⟩
  show Q (V.bl (decide (V.int ((opL op).length : Int) = V.int ((opL op).length : Int)))) _
  rw [decide_eq_true rfl]
  exact q _ (w1.sub (List.nil_sublist _))
end
end Br

/-! cls(..) in a classmethod: an instance of the class that a name holds. -/
namespace Br
open PySem PySem.Spec PyProof.Rows L2
section
variable {X : Cx} {CX : CXT} {k i : Nat} {C f : Addr} {fd : FuncData} {x : Str} {p pos : Pos} {e : Expr} {es : List Expr} {ps : List Str} {ds : List Value} {dvs : List V} {sp : Sp} {E : XK} {t : TA}
def tMakeL (i : Nat) (C : Addr) (sp : Sp) (dvs : List V) (E : XK) (t : TA) : TE := fun σ H Q => σ[i]? = some (some (.ref C)) ∧ tMake C sp dvs E t σ H Q
theorem pe_makeL (hn : PE X (.Name x p) (tVar i)) (M : Mk X.K C f) (F : FnOk X.prog X.w X.K X.mg X.base CX k f fd ps sp) (hr : Room (k + 1) X.A) (hb : Binds X.K fd ps ds) (hd : Vals dvs ds) (hx : Passes CX X E)
    (ha : PA X (e :: es) t) (he : starEach (e :: es) X.env = (false, eval e X.env) :: starEach es X.env := by rfl) (hpl : (backTo pos (starEach es X.env)).any (·.1) = false := by rfl) :
    PE X (.Call (.Name x p) (e :: es) [] pos) (tMakeL i C sp dvs E t) := by
  refine ⟨fun pins s σ H Q I h => ?_⟩
  obtain ⟨h0, h⟩ := h
  refine wpAny_Call_Name_kw (thn (hn.run pins s σ H (fun y H1 => y = .ref C ∧ tMake C sp dvs E t σ H1 Q) I ⟨_, h0, rfl, h⟩) fun u s1 ⟨y, H1, I1, r1, ey, h1⟩ => ?_)
  subst ey
  obtain rfl : u = Value.ref C := r1
  refine PySem.W.callWith_K (h₀ := X.base) I1.ok.mod.kin M.kp (thn (ha.run pos pins s1 σ H1 _ I1 h1) fun us s2 ⟨vs, H2, I2, r, q⟩ => ⟨I2.kIn, ?_⟩) he hpl
  exact run_make M F hr hb hd hx I2 r q
end
end Br

namespace Br
open PySem PySem.Spec PyProof.Rows L2
/-! ### several operations, none of which fails -/
def andThen (x : Res) : Option (List Res × Bst) → Option (List Res × Bst)
  | none => none
  | some (xs, c) => some (x :: xs, c)
def stepOps (f : Bst → Option (List Res × Bst)) : Except Str (Res × Bst) → Option (List Res × Bst)
  | .error _ => none
  | .ok (x, b') => andThen x (f b')
def doOps (r : Rota) : List Op → Bst → Option (List Res × Bst)
  | [], b => some ([], b)
  | op :: t, b => stepOps (doOps r t) (doOp r b op)
theorem doOps_split {r : Rota} : ∀ {ops : List Op} {b b' : Bst} {xs : List Res} (i : Nat), doOps r ops b = some (xs, b') → ∃ ys c zs, doOps r (ops.take i) b = some (ys, c) ∧ doOps r (ops.drop i) c = some (zs, b') ∧ xs = ys ++ zs
  | _, b, _, _, 0, h => ⟨[], b, _, rfl, h, rfl⟩
  | [], b, _, _, i + 1, h => by cases h; exact ⟨[], b, [], rfl, rfl, rfl⟩
  | op :: t, b, b', xs, i + 1, h => by
    have h2 : stepOps (doOps r t) (doOp r b op) = some (xs, b') := h
    cases hd : doOp r b op with
    | error e => rw [hd] at h2; cases h2
    | ok xb =>
      obtain ⟨x, b1⟩ := xb
      rw [hd] at h2
      have h3 : andThen x (doOps r t b1) = some (xs, b') := h2
      cases ht : doOps r t b1 with
      | none => rw [ht] at h3; cases h3
      | some yc =>
        obtain ⟨ys0, c0⟩ := yc
        rw [ht] at h3
        cases h3
        obtain ⟨ys, c, zs, k1, k2, k3⟩ := doOps_split i ht
        refine ⟨x :: ys, c, zs, ?_, k2, by rw [k3]; rfl⟩
        show stepOps (doOps r (t.take i)) (doOp r b op) = _
        rw [hd]
        show andThen x (doOps r (t.take i) b1) = _
        rw [k1]; rfl
theorem doOps_app {r : Rota} : ∀ {ops opt : List Op} {b c b' : Bst} {ys zs : List Res}, doOps r ops b = some (ys, c) → doOps r opt c = some (zs, b') → doOps r (ops ++ opt) b = some (ys ++ zs, b')
  | [], _, _, _, _, _, _, h, k => by cases h; exact k
  | op :: t, opt, b, c, b', ys, zs, h, k => by
    have h2 : stepOps (doOps r t) (doOp r b op) = some (ys, c) := h
    show stepOps (doOps r (t ++ opt)) (doOp r b op) = _
    cases hd : doOp r b op with
    | error e => rw [hd] at h2; cases h2
    | ok xb =>
      obtain ⟨x, b1⟩ := xb
      rw [hd] at h2
      have h3 : andThen x (doOps r t b1) = some (ys, c) := h2
      cases ht : doOps r t b1 with
      | none => rw [ht] at h3; cases h3
      | some yc =>
        rw [ht] at h3
        obtain ⟨ys0, c0⟩ := yc
        cases h3
        show andThen x (doOps r (t ++ opt) b1) = _
        rw [doOps_app ht k]; rfl
theorem doOps_one {r : Rota} {b b' : Bst} {op : Op} {x : Res} (h : doOp r b op = .ok (x, b')) : doOps r [op] b = some ([x], b') := by
  show stepOps (doOps r []) (doOp r b op) = _
  rw [h]; rfl
theorem doOps_head {r : Rota} {b b' : Bst} {op : Op} {t : List Op} {zs : List Res} (h : doOps r (op :: t) b = some (zs, b')) : ∃ x b1, doOp r b op = .ok (x, b1) := by
  have h2 : stepOps (doOps r t) (doOp r b op) = some (zs, b') := h
  cases hd : doOp r b op with
  | error e => rw [hd] at h2; cases h2
  | ok xb => exact ⟨_, _, rfl⟩
/-- the next operation of a list that works -/
theorem doOps_next {r : Rota} {ops : List Op} {b c b' : Bst} {xs ys : List Res} {i : Nat} {op : Op} (h : doOps r ops b = some (xs, b')) (ho : ops[i]? = some op) (hc : doOps r (ops.take i) b = some (ys, c)) :
    ∃ x c', doOp r c op = .ok (x, c') ∧ doOps r (ops.take (i + 1)) b = some (ys ++ [x], c') := by
  obtain ⟨ys', c0, zs, k1, k2, _⟩ := doOps_split i h
  rw [hc] at k1
  cases k1
  have hl := (List.getElem?_eq_some_iff.mp ho)
  obtain ⟨hlt, he⟩ := hl
  rw [List.drop_eq_getElem_cons hlt, he] at k2
  obtain ⟨x, c', hd⟩ := doOps_head k2
  exact ⟨x, c', hd, by rw [take_more ho]; exact doOps_app hc (doOps_one hd)⟩
end Br

namespace Br
open PySem PySem.Spec PyProof.Rows L2
/-- what an operation leaves on the heap: the book's next state, its result -/
def Went (CB : Addr) (z : Bz) (r : Rota) (b' : Bst) (S : List (Str × Bst)) (H H' : Hp) (x : Res) (v : V) : Prop := ∃ z' : Bz, z'.x = z.x ∧ Wd z.own H H' [] ∧ (∀ a ∈ z'.own, a ∈ z.own ∨ H a = none) ∧ BkAt CB z' r b' S H' ∧ ResT (Msk z'.own H') r x v ∧ ∀ p, v = .ref p → H p = none
theorem BRes.went {CB : Addr} {z : Bz} {r : Rota} {b' : Bst} {S : List (Str × Bst)} {H H' : Hp} {x : Res} {v : V} (h : BRes CB z r b' S H H' x v) : Went CB z r b' S H H' x v := by
  cases x with
  | nms l =>
    obtain ⟨p, rfl, z', ez, w, oz, hp, hpz, bk⟩ := h
    exact ⟨z', ez, w.sub (List.nil_sublist _), oz, bk, ⟨p, rfl, Msk.mk hpz (w.get 0 rfl)⟩, fun p' e => by cases e; exact hp⟩
  | _ =>
    obtain ⟨hv, z', ez, w, oz, bk⟩ := h
    exact ⟨z', ez, w, oz, bk, hv, fun p e => by rw [hv] at e; cases e⟩
theorem Wd.goX {M M' : List Addr} {H0 H H' : Hp} {l : List (Addr × HO)} (c : Wd M H0 H l) (d : Wd M' H H' []) (hm : ∀ a ∈ M', a ∈ M ∨ H0 a = none) (hl : ∀ q ∈ l, q.1 ∉ M') : Wd M H0 H' l := by
  obtain ⟨b1, b2, b3, b4, b5, b6⟩ := c
  exact ⟨fun b o hb e => d.base b o (fun z => (hm b z).elim hb fun n => by rw [n] at e; cases e) (b1 b o hb e), fun b xs e => d.tups b xs (b2 b xs e), b3, fun q hq => d.base _ _ (hl q hq) (b4 q hq), b5, fun p e => b6 p (d.free p e)⟩
theorem Wd.pre {M : List Addr} {H0 H H' : Hp} {l0 l : List (Addr × HO)} (w : Wd [] H0 H l0) (c : Wd M H H' l) : Wd M H0 H' l := by
  obtain ⟨b1, b2, b3, b4, b5, b6⟩ := c
  exact ⟨fun b o hb e => b1 b o hb (w.base b o (by simp) e), fun b xs e => b2 b xs (w.tups b xs e), fun q hq => (b3 q hq).imp (w.free _) id, b4, b5, fun p e => w.free p (b6 p e)⟩
theorem ResT.mk {M : List Addr} {H : Hp} {D : Addr} {r : Rota} {x : Res} {v : V} (h : ResT (Msk M H) r x v) (n : ∀ p, v = .ref p → p ≠ D) : ResT (Msk (D :: M) H) r x v := by
  cases x with
  | nms l =>
    obtain ⟨p, e, h⟩ := h
    obtain ⟨h1, h2⟩ := Msk.out h
    exact ⟨p, e, Msk.mk (fun hm => (List.mem_cons.mp hm).elim (n p e) h1) h2⟩
  | _ => exact h
def OpsT (H : Hp) (oas : List Addr) (ops : List Op) : Prop := Paired (fun oa op => H oa = some (.tup (opL op))) oas ops
theorem OpsT.keep {H H' : Hp} {oas : List Addr} {ops : List Op} (h : OpsT H oas ops) (k : ∀ b xs, H b = some (.tup xs) → H' b = some (.tup xs)) : OpsT H' oas ops := paired_imp (fun _ _ e => k _ _ e) h
section
variable {P : Program} {w : World} {K : PySem.W.Frag} {mg : Str → Option Value} {base : Heap} {CB CC CU CN : Addr}
abbrev sBook_batch : Stmt := inClass (topS 61) 17
theorem scBook_batch : FnScope ["self", "operations", "place", "operation", "before"] ["self", "operations"] (defScope sBook_batch) := ⟨rfl, rfl, rfl, by decide +kernel, rfl, by decide +kernel, by decide +kernel⟩
/-- a batch that works -/
def spBatch (CB : Addr) : Sp := fun vs H Q _ => ∃ (z : Bz) (la : Addr) (oas : List Addr) (ops : List Op) (r : Rota) (b b' : Bst) (S : List (Str × Bst)) (m : Nat) (xs : List Res), vs = [.ref z.x, .ref la] ∧ ROk r ∧ BOk r b ∧ BSz m b ∧ m ≤ 100 ∧ BkAt CB z r b S H ∧ H la = some (.lst (oas.map V.ref)) ∧ la ∉ z.own ∧ OpsT H oas ops ∧ (∀ op ∈ ops, OpOk r op) ∧ ops.length ≤ 60 ∧
  doOps r ops b = some (xs, b') ∧ ∀ (H' : Hp) (p : Addr) (vs' : List V) (z' : Bz), z'.x = z.x → Wd z.own H H' [(p, .lst vs')] → (∀ a ∈ z'.own, a ∈ z.own ∨ H a = none) → H p = none → p ∉ z'.own → BkAt CB z' r b' S H' → BOk r b' → BSz (m + ops.length) b' → Paired (ResT (Msk z'.own H') r) xs vs' → Q (.ref p) H'
theorem me_batch (D : MethAt K CB "batch" "Book.batch" sBook_batch ["self", "operations"]) (T : Bi mg) (BC : BkCls K CB) (C1 : Cal P w K mg base 1 "is_operation" ["value"] spIsOp) (C2 : MeX P w K mg base 5 CB "execute" ["self", "operation"] (spLDo CB CC CU CN)) : MeAt P w K mg base 6 CB "batch" ["self", "operations"] (spBatch CB) := D.me fun f fd F => by
  have nd := scBook_batch.nd
  have cl_Book := BC.cl
  obtain ⟨f1, fd1, m_is_operation, kp_is_operation, b_is_operation, G_is_operation⟩ := C1.ex
  obtain ⟨f2, fd2, me_execute, b_execute, G_execute⟩ := C2.ex
  refine F.ok scBook_batch (fun vs H Q E h => ?_) (fun cdv A outer s H vs Q E hr h => ?_)
  · obtain ⟨z, la, oas, ops, r, b, b', S, m, xs, rfl, _⟩ := h; rfl
  obtain ⟨z, la, oas, ops, r, b, b', S, m, xs, rfl, ok, bo, bs, hm, hb, hla, hlz, ho, hop, hol, hdo, q⟩ := h
  refine ⟨_, (pss_cons (ps_if (pt_not (pt_val (pe_callB call_isi (by rfl) T.isinstance (by decide +kernel) (pa_cons (pv 1) (pa_cons (pe_bltn (v := .ty "list") (by rfl) T.list (by decide +kernel) rfl) pa_nil)))))
 pss_never
 pss_nil)
 (pss_cons (ps_for PassesOwn.never rfl (pi_enum (by rfl) T.enumerate (pa_cons (pv 1) pa_nil)) (pg_tupK (K := K) (n := 2) rfl rfl (pgs_cons (pg_name (i := 2) nd rfl (Or.inl rfl)) (pgs_cons (pg_name (i := 3) nd rfl (Or.inl rfl)) pgs_nil)))
 (pss_one (ps_if (pt_not (pt_val (pe_call G_is_operation (hr.mono (by first | decide | omega)) (by rfl) m_is_operation kp_is_operation b_is_operation .nil pass0 (pa_cons (pv 3) pa_nil))))
 pss_never
 pss_nil)))
 (pss_cons (ps_set (i := 4) nd rfl (Or.inl rfl) (pe_tup (pa_cons (pe_fldK (K := K) rfl (pv 0) rfl) (pa_cons (pe_callTy (r := rListOf K) call_list_of (by rfl) T.list (by decide +kernel) (pa_cons (pe_fldK (K := K) rfl (pv 0) rfl) pa_nil)) (pa_cons (pe_callTy (r := rListOf K) call_list_of (by rfl) T.list (by decide +kernel) (pa_cons (pe_fldK (K := K) rfl (pv 0) rfl) pa_nil)) pa_nil)))))
 (pss_one (ps_try_thru0 (pss_one (ps_ret (pe_lc (own := [("operation", 3)]) rfl nd (pi_listK (K := K) rfl (pv 1)) (blkOk_by (N := ["self", "operations", "place", "operation", "before"]) (sc := defScope sBook_batch) (by decide +kernel)) (fun _ _ _ _ _ => (pg_name (i := 3) nd rfl (Or.inl rfl))) (fun _ _ _ _ _ => pts_nil) (fun _ _ _ _ _ => (pe_meth (pv 0) cl_Book me_execute G_execute (hr.mono (by first | decide | omega)) b_execute .nil passL (pa_cons (pv 3) pa_nil))))))))))), ?_⟩
  have lo : oas.length = ops.length := ho.length
  refine ⟨_, rfl, _, _, _, .type "list", _, rfl, .ty "list", (Ky.lst hla).ty, kit_is (K := K) (Ky.lst hla).mem (T := "list") (by decide), _, rfl, iteF ?_⟩
  refine ⟨_, rfl, la, _, rfl, SqL.of hla, ?_⟩
  refine for_it (walk_enum (xs := oas.map V.ref)) (fun i σ H' => (∃ b c d, σ = [some (.ref z.x), some (.ref la), b, c, d]) ∧ Wd [] H H' []) ⟨⟨_, _, _, rfl⟩, Wd.refl H⟩ (fun i σ H' _ h => SqL.of (h.2.base _ _ (by simp) hla)) ?_ ?_
  · rintro i x σ H3 H3' hi ⟨⟨b3, c3, d3, rfl⟩, w3⟩ ⟨T0, x1, x2, rfl, hT0, rfl, e1, e2⟩
    cases e1
    have e2 : (oas.map V.ref)[i]? = some x2 := e2
    rw [List.getElem?_map] at e2
    obtain ⟨oa, hoa, rfl⟩ := Option.map_eq_some_iff.mp e2
    obtain ⟨op, hop1, hop2⟩ := paired_at ho hoa
    have w4 := w3.new (.tup [.int (i : Nat), .ref oa]) hT0
    refine ⟨T0, _, rfl, SqT.of (w4.get 0 rfl), rfl, _, _, rfl, _, _, rfl, rfl, ?_⟩
    refine ⟨_, rfl, oa, r, op, rfl, ok, hop op (List.mem_of_getElem? hop1), w4.tups _ _ hop2, fun H5 w5 => ⟨_, rfl, iteF ?_⟩⟩
    exact ⟨⟨_, _, _, rfl⟩, (w4.sub (List.nil_sublist _)).callN w5 |>.sub (List.nil_sublist _)⟩
  rintro σ H3 ⟨⟨b3, c3, d3, rfl⟩, w3⟩
  have hb3 := hb.keep0 w3
  obtain ⟨na, hx, lt⟩ := id hb3.na
  obtain ⟨nw, ⟨as, p1, p2⟩, us, u1, u2⟩ := id lt
  refine ⟨_, rfl, z.x, CB, z.dx, _, _, rfl, hx, BC.cl, BC.n2, bk_now, _, rfl, z.x, CB, z.dx, _, _, rfl, hx, BC.cl, BC.n3, bk_past, z.pl, _, rfl, .inl (SqL.of p1), fun pn hpn => ?_⟩
  have w4 := (Wd.refl H3).new (.lst (as.map V.ref)) hpn
  have hx4 := w4.old hx (by simp)
  have u4 := w4.old u1 (by simp)
  refine ⟨_, rfl, z.x, CB, z.dx, _, _, rfl, hx4, BC.cl, BC.n4, bk_undone, z.ul, _, rfl, .inl (SqL.of u4), fun un hun => ⟨(by show 3 ≤ sizeLine; decide), fun t ht => ?_⟩⟩
  have w5 := w4.new (.lst (us.map V.ref)) hun
  have w6 := w5.new (.tup [V.ref na, V.ref pn, V.ref un]) ht
  have w36 := w3.callN w6
  have hb6 := hb3.keep0 w6
  have la6 := w36.base _ _ (by simp) hla
  have ho6 := ho.keep w36.tups
  generalize upd (upd (upd H3 pn (.lst (as.map V.ref))) un (.lst (us.map V.ref))) t (.tup [V.ref na, V.ref pn, V.ref un]) = H4 at *
  refine ⟨_, rfl, la, rfl, ⟨_, SqL.of la6⟩, fun D hD => ?_⟩
  have lz : ∀ {z' : Bz}, (∀ a ∈ z'.own, a ∈ z.own ∨ H4 a = none) → la ∉ z'.own := fun h hm => (h la hm).elim hlz fun n => by rw [n] at la6; cases la6
  refine lc_list (xs := oas.map V.ref) (fun i H' => ∃ (ys : List Res) (c : Bst) (vs : List V) (z' : Bz), doOps r (ops.take i) b = some (ys, c) ∧ z'.x = z.x ∧ Wd z.own H4 H' [(D, .lst vs)] ∧ (∀ a ∈ z'.own, a ∈ z.own ∨ H4 a = none) ∧ D ∉ z'.own ∧ BkAt CB z' r c S H' ∧ BOk r c ∧ BSz (m + i) c ∧
    Paired (ResT (Msk (D :: z'.own) H') r) ys vs ∧ vs.length = i) ?_ ?_ ?_ ?_
  · have w7 := (Wd.refl H4).new (.lst []) hD
    exact ⟨[], b, [], z, rfl, rfl, w7.mono (fun _ h => nomatch h), fun a ha => .inl ha, fun hm => hb6.al D hm hD, hb6.keep0 w7, bo, bs, .nil, rfl⟩
  · rintro i H' _ ⟨ys, c, vs, z', _, _, w7, oz, _⟩
    exact SqL.of (w7.base _ _ hlz la6)
  · rintro i x H' hxi ⟨ys, c, vs, z', k1, ez, w7, oz, dz, bk7, bo7, bs7, rs7, lv⟩
    rw [List.getElem?_map] at hxi
    obtain ⟨oa, hoa, rfl⟩ := Option.map_eq_some_iff.mp hxi
    obtain ⟨op, hop1, hop2⟩ := paired_at ho6 hoa
    have hopk := hop op (List.mem_of_getElem? hop1)
    obtain ⟨x, c', hd, k2⟩ := doOps_next hdo hop1 k1
    have hi := (List.getElem?_eq_some_iff.mp hop1).1
    have q1 := bs7.len
    have q2 := bs7.now
    obtain ⟨bo8, bs8, hl8⟩ := doOp_keep ok hopk bo7 bs7 hd
    obtain ⟨na7, zx, _⟩ := id bk7.na
    refine ⟨rfl, _, rfl, z.x, z'.dx, _, rfl, by rw [← ez]; exact zx, bk_none (by decide +kernel), _, rfl, z', oa, r, c, S, op, by rw [ez]; rfl, ok, bo7, bk7, w7.tups _ _ hop2, hopk, by omega, by omega, by omega, ?_⟩
    rw [hd]
    intro H8 v hres
    obtain ⟨z2, ez2, w8, oz8, bk8, rs8, nv⟩ := hres.went
    have hD7 := w7.get 0 rfl
    have hD8 : H8 D = some (.lst vs) := w8.base _ _ dz hD7
    have dz2 : D ∉ z2.own := fun hm => (oz8 D hm).elim dz fun n => by rw [n] at hD7; cases hD7
    have oz2 : ∀ a ∈ z2.own, a ∈ z.own ∨ H4 a = none := fun a ha => (oz8 a ha).elim (oz a) fun n => .inr (w7.free a n)
    have w9 := w7.goX w8 oz fun q hq => by rw [List.mem_singleton.mp hq]; exact dz
    have wD : Wd [D] H8 (upd H8 D (.lst (vs ++ [v]))) [] := ((Wd.start1 hD8).put 0 (.lst (vs ++ [v])) rfl (fun _ q => by cases q)).sub (List.nil_sublist _)
    have muD : Mu H8 [D] := fun a ha => by rw [List.mem_singleton.mp ha, hD8]; exact ⟨fun _ => by simp, fun _ _ => by simp⟩
    have le1 : Le (Msk (D :: z'.own) H') (Msk (D :: z2.own) H8) := Msk.le w8 (fun a ha => List.mem_cons_of_mem _ ha) fun a ha => (List.mem_cons.mp ha).elim (fun e => .inl (by rw [e]; exact List.mem_cons_self)) fun ha => (oz8 a ha).imp (fun h => List.mem_cons_of_mem _ h) id
    have le2 : Le (Msk (D :: z2.own) H8) (Msk (D :: z2.own) (upd H8 D (.lst (vs ++ [v])))) := Msk.le wD (by simp) fun a ha => .inl ha
    refine ⟨vs, hD8, lt_line (by omega), ys ++ [x], c', vs ++ [v], z2, k2, ez2.trans ez, w9.put 0 (.lst (vs ++ [v])) rfl (fun _ q => by cases q), oz2, dz2, bk8.keep wD (fun a ha => by rw [List.mem_singleton.mp ha]; exact dz2) muD, bo8, bs8.mono (by omega), ?_, by rw [List.length_append, lv]; rfl⟩
    refine Paired.app (paired_imp (fun _ _ e => (e.le le1).le le2) rs7) (.cons ?_ .nil)
    exact (rs8.mk fun p e h => by rw [h] at e; have := nv D e; rw [hD7] at this; cases this).le le2
  · rintro H' ⟨ys, c, vs, z', k1, ez, w7, oz, dz, bk7, bo7, bs7, rs7, lv⟩
    rw [List.length_map, lo, List.take_length, hdo] at k1
    cases k1
    rw [List.length_map, lo] at bs7
    exact q H' D vs z' ez (w36.pre w7) (fun a ha => (oz a ha).imp id (w36.free a)) (w36.free D hD) dz bk7 bo7 bs7 (paired_imp (fun _ _ e => e.le (Msk.sub fun a ha => List.mem_cons_of_mem _ ha)) rs7)
end
end Br

/-! Contracts of defs and methods that raise exceptions without a context (so that an except suite may go on with them). -/
namespace Br
open PySem PySem.Spec PyProof.Rows L2
structure CalN (P : Program) (w : World) (K : PySem.W.Frag) (mg : Str → Option Value) (base : Heap) (k : Nat) (x : Str) (ps : List Str) (sp : Sp) : Prop where
  ex : ∃ (f : Addr) (fd : FuncData), mg x = some (.ref f) ∧ PySem.W.keepIn K (.ref f) = true ∧ Binds K fd ps [] ∧ FnOk P w K mg base (L2N.CX P w) k f fd ps sp
structure MeN (P : Program) (w : World) (K : PySem.W.Frag) (mg : Str → Option Value) (base : Heap) (k : Nat) (C : Addr) (m : Str) (ps : List Str) (sp : Sp) : Prop where
  ex : ∃ (f : Addr) (fd : FuncData), Meth K C m f ∧ Binds K fd ps [] ∧ FnOk P w K mg base (L2N.CX P w) k f fd ps sp
section
variable {P : Program} {w : World} {K : PySem.W.Frag} {mg : Str → Option Value} {base : Heap} {k : Nat} {x m q : Str} {C : Addr} {st : Stmt} {ps : List Str} {sp : Sp}
theorem DefAt.calN (D : DefAt K mg x st ps) (h : ∀ f fd, Fun K x x st f fd → FnOk P w K mg base (L2N.CX P w) k f fd ps sp) : CalN P w K mg base k x ps sp := by
  obtain ⟨f, fd, m, F, b⟩ := D.ex
  exact ⟨f, fd, m, F.kp, b, h f fd F⟩
theorem MethAt.meN (D : MethAt K C m q st ps) (h : ∀ f fd, Fun K m q st f fd → FnOk P w K mg base (L2N.CX P w) k f fd ps sp) : MeN P w K mg base k C m ps sp := by
  obtain ⟨f, fd, M, F, b⟩ := D.ex
  exact ⟨f, fd, M, b, h f fd F⟩
end
end Br
namespace L2
open PySem PySem.Spec PyProof.Rows
section
variable {P : Program} {w : World} {K : PySem.W.Frag} {mg : Str → Option Value} {base : Heap}
theorem Fun.okN {x qual : Str} {st : Stmt} {f : Addr} {fd : FuncData} {N ps : List Str} {k : Nat} {sp : Sp} (F : Fun K x qual st f fd) (S : FnScope N ps (defScope st)) (len : ∀ vs H Q E, sp vs H Q E → vs.length = ps.length)
    (hbody : ∀ (cdv : Value) (A : Around) (outer : List Env) (s : Shared) (H : Hp) (vs : List V) (Q : VK) (E : XK), Room k (A.deeper (envOfC qual (defScope st) s.heap.objs.size f cdv)) → sp vs H Q E →
      ∃ t, PSs (cxOf (L2N.CX P w) P w K mg base N qual (defScope st) f cdv A outer s H E) (defBody st) t ∧ t { nx := fun _ H' => Q .non H', rt := Q } (start N vs) H) : FnOk P w K mg base (L2N.CX P w) (k + 1) f fd ps sp := by
  obtain ⟨oc, od, kV, doc, pm, an, cdv, ct, osl, rfl, lk, hcd⟩ := F.ex
  exact fn_of lk hcd S len fun A outer s H vs Q E hr hsp => hbody cdv A outer s H vs Q E hr hsp
/-- an exception without a context is one -/
theorem cxn_cx {outer : List Env} {H : Hp} {s s' : Shared} {E : XK} {u : Value} (c : L2N.CX P w outer H s E u s') : L2.CX P w outer H s E u s' := by
  obtain ⟨a, B, H', cls, d, e, fl, r⟩ := c
  exact ⟨a, B, H', cls, d, e, L2H.flyingZ_imp (fun o z => L2N.Zn.zc z) fl, r⟩
theorem FnOk.ofN {k : Nat} {f : Addr} {fd : FuncData} {ps : List Str} {sp : Sp} (F : FnOk P w K mg base (L2N.CX P w) k f fd ps sp) : FnOk P w K mg base (L2.CX P w) k f fd ps sp :=
  ⟨F.len, fun A outer s H args us vs Q E hr he hb hv hs => codeAny_mono (F.run A outer s H args us vs Q E hr he hb hv hs) fun r s' h => by
    cases r with
    | error e => exact cxn_cx h
    | ok v => cases v <;> exact h⟩
end
end L2
namespace Br
open PySem PySem.Spec PyProof.Rows L2
section
variable {P : Program} {w : World} {K : PySem.W.Frag} {mg : Str → Option Value} {base : Heap} {k : Nat} {x m q : Str} {C : Addr} {st : Stmt} {ps : List Str} {sp : Sp}
theorem CalN.toX (c : CalN P w K mg base k x ps sp) : CalX P w K mg base k x ps sp := by
  obtain ⟨f, fd, m, kp, b, F⟩ := c.ex
  exact ⟨f, fd, m, kp, b, F.ofN⟩
theorem MeN.toX (c : MeN P w K mg base k C m ps sp) : MeX P w K mg base k C m ps sp := by
  obtain ⟨f, fd, m, b, F⟩ := c.ex
  exact ⟨f, fd, m, b, F.ofN⟩
end
end Br

namespace Br
open PySem PySem.Spec PyProof.Rows L2
section
variable {P : Program} {w : World} {K : PySem.W.Frag} {mg : Str → Option Value} {base : Heap} {CB CU CC CN : Addr}
theorem cal_personNN (D : DefAt K mg "person_number" sperson_number ["parsed", "name"]) (T : Bi mg) (EP_UnknownPerson : ExPl K mg "UnknownPerson" CU) : CalN P w K mg base 1 "person_number" ["parsed", "name"] (spPersonN CU) := D.calN fun f fd F => by
  have nd := scperson_number.nd
  refine F.okN scperson_number (fun vs H Q E h => ?_) (fun cdv A outer s H vs Q E hr h => ?_)
  · obtain ⟨a, r, v, t, rfl, _⟩ := h; rfl
  obtain ⟨a, r, v, t, rfl, hR, ok, kv, q⟩ := h
  obtain ⟨an, at_, aw, aa, am, as, h1, h2, h3, h4, h5, h6, h7⟩ := id hR
  refine ⟨_, (pss_cons (ps_if (PW.pt (pw_or (pt_not (pt_val (pe_callB call_isi (by rfl) T.isinstance (by decide +kernel) (pa_cons (pv 1) (pa_cons (pe_bltn (v := .ty "str") (by rfl) T.str (by decide +kernel) rfl) pa_nil))))) (pw_or1 (pt_cmpR (r := rIn K true) op_notIn_seq (pv 1) (pe_ix (r := rIxT K) ix_tup (pv 0) pe_int (fun _ _ => rfl)) (by rfl)))))
 (pss_one (L2N.ps_raise rfl (L2N.takes_of rfl rfl rfl rfl) (L2N.pmk_own PySem.F.excBase_ValueError EP_UnknownPerson.q EP_UnknownPerson.g EP_UnknownPerson.k EP_UnknownPerson.r (by rfl))))
 pss_nil)
 (pss_one (ps_ret (pe_bmF (r := rTIndex K) PySem.F.slot_tuple_index PySem.F.type_tuple_index mt_tup_index (pe_ix (r := rIxT K) ix_tup (pv 0) pe_int (fun _ _ => rfl)) (pa_cons (pv 1) pa_nil))))), ?_⟩
  have k1 := kit_is (K := K) kv.mem (T := "str") (by decide)
  refine ⟨_, rfl, _, _, _, .type "str", _, rfl, .ty "str", kv.ty, k1, _, rfl, ?_⟩
  have no : personOf r v = none → ∀ H', Wd [] H H' [] → E (.ref CU) none H' := fun e => by rw [e] at q; exact q
  refine ite2 (fun c => ?_) (fun c => ?_)
  · refine iteT ?_
    refine no ?_ _ (Wd.refl H)
    cases v with
    | str z => cases kv; exact absurd c (by decide)
    | _ => rfl
  · have hv : ∃ z, v = .str z := by
      cases kv with
      | str z => exact ⟨z, rfl⟩
      | non => exact absurd rfl c
      | bl b => exact absurd rfl c
      | int i => exact absurd rfl c
      | lst h => exact absurd rfl c
      | tup h => exact absurd rfl c
    obtain ⟨x, rfl⟩ := hv
    refine ⟨_, rfl, _, rfl, a, _, 0, _, rfl, rfl, SqT.of h1, rfl, an, _, rfl, .inr h2.sq, rfl, flat_strs _, _, rfl, ?_⟩
    rw [if_pos rfl, inV_strs]
    by_cases hm : x ∈ r.names
    · rw [decide_eq_true hm]
      refine iteF ?_
      obtain ⟨i, hi, e⟩ := List.getElem_of_mem hm
      cases hp : personOf r (.str x) with
      | none =>
        have e2 := personOf_nm ok (p := (i : Int)) (by omega) (by omega)
        have e3 : nm r (i : Int) = x := by
          have := nm_mem (r := r) (k := (i : Int)) (by omega) (by omega)
          rw [Int.toNat_natCast, List.getElem?_eq_getElem hi, e] at this
          exact (Option.some.inj this).symm
        rw [e3, hp] at e2; cases e2
      | some p =>
        rw [hp] at q
        obtain ⟨g1, g2, g3⟩ := personOf_in hp
        cases g3
        have hl : p.toNat < r.names.length := by omega
        refine ⟨_, rfl, a, _, 0, _, rfl, rfl, SqT.of h1, rfl, ?_⟩
        obtain ⟨on, hon, hfz⟩ := id h2
        refine ⟨⟨an, on, _, rfl, hon, hfz⟩, _, rfl, an, r.names, nm r p, p.toNat, rfl, rfl, h2.sq, nm_mem g1 g2, fun m hm e => ?_, ?_⟩
        · have hml : m < r.names.length := by omega
          have e1 := nm_mem (r := r) g1 g2
          rw [List.getElem?_eq_getElem hl] at e1
          rw [List.getElem?_eq_getElem hml] at e
          have := (List.getElem_inj ok.nd (h₀ := hml) (h₁ := hl)).mp ((Option.some.inj e).trans (Option.some.inj e1).symm)
          omega
        · rw [Int.toNat_of_nonneg g1]; exact q _ (Wd.refl H)
    · rw [decide_eq_false hm]
      refine iteT ?_
      refine no ?_ _ (Wd.refl H)
      cases hp : personOf r (.str x) with
      | none => rfl
      | some p =>
        obtain ⟨g1, g2, g3⟩ := personOf_in hp
        cases g3
        exact absurd (List.mem_of_getElem? (nm_mem g1 g2)) hm
end
end Br

namespace Br
open PySem PySem.Spec PyProof.Rows L2
section
variable {P : Program} {w : World} {K : PySem.W.Frag} {mg : Str → Option Value} {base : Heap} {CB CU CC CN : Addr}
theorem me_stepN (D : MethAt K CB "step" "Book.step" sBook_step ["self", "count"]) (T : Bi mg) (BC : BkCls K CB) (cS : ∃ t, mg "STEP" = some (.str "step" t)) (cM : ∃ t, mg "MAX_STEPS" = some (.int 500 t)) (EP_InvalidCount : ExPl K mg "InvalidCount" CC)
    (C1 : Cal P w K mg base 1 "is_int_in" ["value", "low", "high"] spIntIn) (C2 : Cal P w K mg base 3 "after_tick" ["parsed", "state", "tick"] spAfter) (C3 : MeAt P w K mg base 1 CB "record" ["self", "word", "now"] (spRecord CB)) (C4 : MeAt P w K mg base 1 CB "named" ["self", "person"] (spNamed CB)) :
    MeN P w K mg base 4 CB "step" ["self", "count"] (spStep CB CC) := D.meN fun f fd F => by
  have nd := scBook_step.nd
  have cl_Book := BC.cl
  obtain ⟨tS, c_STEP⟩ := cS
  obtain ⟨tM, c_MAX_STEPS⟩ := cM
  obtain ⟨f1, fd1, m_is_int_in, kp_is_int_in, b_is_int_in, G_is_int_in⟩ := C1.ex
  obtain ⟨f2, fd2, m_after_tick, kp_after_tick, b_after_tick, G_after_tick⟩ := C2.ex
  obtain ⟨f3, fd3, me_record, b_record, G_record⟩ := C3.ex
  obtain ⟨f4, fd4, me_named, b_named, G_named⟩ := C4.ex
  refine F.okN scBook_step (fun vs H Q E h => ?_) (fun cdv A outer s H vs Q E hr h => ?_)
  · obtain ⟨z, r, b, S, v, t, rfl, _⟩ := h; rfl
  obtain ⟨z, r, b, S, v, t, rfl, ok, bo, hb, kv, hl, hl2, hE, q⟩ := h
  refine ⟨_, (pss_cons (ps_if (pt_not (pt_val (pe_call G_is_int_in (hr.mono (by first | decide | omega)) (by rfl) m_is_int_in kp_is_int_in b_is_int_in .nil pass0 (pa_cons (pv 1) (pa_cons pe_int (pa_cons (pe_glob (v := .int 500) (by rfl) c_MAX_STEPS ⟨_, rfl⟩) pa_nil))))))
 (pss_one (L2N.ps_raise rfl (L2N.takes_of rfl rfl rfl rfl) (L2N.pmk_own PySem.F.excBase_ValueError EP_InvalidCount.q EP_InvalidCount.g EP_InvalidCount.k EP_InvalidCount.r (by rfl))))
 pss_nil)
 (pss_cons (ps_asg (pe_fldK (K := K) rfl (pv 0) rfl) (pg_tupK (K := K) (n := 3) rfl rfl (pgs_cons (pg_name (i := 2) nd rfl (Or.inl rfl)) (pgs_cons (pg_name (i := 3) nd rfl (Or.inl rfl)) (pgs_cons (pg_name (i := 4) nd rfl (Or.inl rfl)) pgs_nil)))))
 (pss_cons (ps_set (i := 5) nd rfl (Or.inl rfl) (pe_lst pa_nil))
 (pss_cons (ps_for (passes_of rfl) rfl (pi_range1 (by rfl) T.range (pa_cons (pv 1) pa_nil)) (pg_name (i := 6) nd rfl (Or.inl rfl))
 (pss_cons (ps_asg (pe_call G_after_tick (hr.mono (by first | decide | omega)) (by rfl) m_after_tick kp_after_tick b_after_tick .nil pass0 (pa_cons (pe_fldK (K := K) rfl (pv 0) rfl) (pa_cons (pv 2) (pa_cons (pe_op op_add (pv 3) (pv 6)) pa_nil)))) (pg_tupK (K := K) (n := 2) rfl rfl (pgs_cons (pg_name (i := 2) nd rfl (Or.inl rfl)) (pgs_cons (pg_name (i := 7) nd rfl (Or.inl rfl)) pgs_nil))))
 (pss_one (ps_expr (pe_bmK (K := K) rfl PySem.F.plainAttrs_list PySem.F.slot_list_append PySem.F.type_list_append mt_append (pv 5) (pa_cons (pv 7) pa_nil))))))
 (pss_cons (ps_expr (pe_meth (pv 0) cl_Book me_record G_record (hr.mono (by first | decide | omega)) b_record .nil pass0 (pa_cons (pe_glob (v := .str "step") (by rfl) c_STEP ⟨_, rfl⟩) (pa_cons (pe_tup (pa_cons (pv 2) (pa_cons (pe_op op_add (pv 3) (pv 1)) (pa_cons (pe_op (r := rCatA K) op_catA (pv 4) (pe_callTy (r := rTupOf K) call_tuple_of (by rfl) T.tuple (by decide +kernel) (pa_cons (pv 5) pa_nil))) pa_nil)))) pa_nil))))
 (pss_one (ps_ret (pe_lc (own := [("person", 7)]) rfl nd (pi_listK (K := K) rfl (pv 5)) (blkOk_by (N := ["self", "count", "state", "tick", "doers", "found", "turn", "person"]) (sc := defScope sBook_step) (by decide +kernel)) (fun _ _ _ _ _ => (pg_name (i := 7) nd rfl (Or.inl rfl))) (fun _ _ _ _ _ => pts_nil) (fun _ _ _ _ _ => (pe_meth (pv 0) cl_Book me_named G_named (hr.mono (by first | decide | omega)) b_named .nil pass0 (pa_cons (pv 7) pa_nil))))))))))), ?_⟩
  refine ⟨_, rfl, v, t, 0, 500, rfl, kv, _, rfl, ?_⟩
  cases hin : intIn 0 500 v with
  | false => exact iteT (hE hin _ (Wd.refl H))
  | true =>
  refine iteF ?_
  obtain ⟨i, rfl, i1, i2⟩ := intIn_ex hin
  obtain ⟨k, rfl⟩ : ∃ k : Nat, i = k := ⟨i.toNat, by omega⟩
  have hk : k ≤ 500 := by omega
  obtain ⟨na, hx, lt⟩ := id hb.na
  obtain ⟨st, dd, n1, n2, n3⟩ := lt.now
  refine ⟨_, rfl, z.x, CB, z.dx, _, _, rfl, hx, BC.cl, BC.n2, bk_now, na, _, rfl, SqT.of n1, rfl, _, _, rfl, _, _, rfl, _, _, rfl, rfl, ?_⟩
  refine ⟨Nat.zero_le _, fun fl hfl => ?_⟩
  have w1 := (Wd.refl H).new (.lst []) hfl
  refine ⟨_, rfl, _, rfl, by omega, by omega, ?_⟩
  rw [Int.toNat_natCast]
  have nowk := bo.now
  refine for_range (lo := 0) (n := k) (fun i σ H' => ∃ (st' : Addr) (s6 s7 : Option V), σ = [some (.ref z.x), some (.int (k : Int)), some (.ref st'), some (.int (b.now.t : Int)), some (.ref dd), some (.ref fl), s6, s7] ∧ Wd [] H H' [(fl, .lst ((ticksF r i b.now.s b.now.o b.now.t).2.2.map dV))] ∧
    StT H' st' (ticksF r i b.now.s b.now.o b.now.t).1 (ticksF r i b.now.s b.now.o b.now.t).2.1) ⟨st, _, _, rfl, w1, n2.keep w1.tups⟩ ?_ ?_
  · rintro i σ H2 hi ⟨st', s6, s7, rfl, w2, hst⟩
    have hb2 := hb.keep0 w2
    obtain ⟨g1, g2, g3⟩ := ticks_ok ok i _ _ b.now.t nowk.s nowk.o
    have hm := ticksF_more (r := r) i b.now.s b.now.o b.now.t
    refine ⟨_, rfl, z.x, CB, z.dx, _, _, rfl, w2.old hx (by simp), BC.cl, BC.n1, bk_parsed, _, rfl, _, rfl, _, rfl, _, _, rfl, rfl, z.p, st', r, _, _, _, rfl, hb2.ro, ok, hst, g1, g2, fun H3 p st2 w3 h3 h4 => ?_⟩
    have et : ((b.now.t : Int) + (0 + (i : Int))) = ((b.now.t + i : Nat) : Int) := by omega
    rw [et] at h3 h4
    have w4 := w2.call0 w3
    refine ⟨p, _, rfl, SqT.of h3, rfl, _, _, rfl, _, _, rfl, rfl, ?_⟩
    refine ⟨_, rfl, .inl ⟨rfl, _, SqL.of (w4.get 0 rfl)⟩, _, rfl, fl, _, _, rfl, rfl, w4.get 0 rfl, ?_, st2, _, _, rfl, ?_, ?_⟩
    · rw [List.length_map, ticksF_len]; exact lt_line (by omega)
    · rw [hm]
      have w5 := w4.app0 (dV (tickF r (ticksF r i b.now.s b.now.o b.now.t).1 (ticksF r i b.now.s b.now.o b.now.t).2.1 ((b.now.t + i : Nat) : Int)).2.2)
      dsimp only
      rw [List.map_append]
      exact w5
    · rw [hm]
      exact h4.keep ((Wd.refl H3).put0L (w4.get 0 rfl)).tups
  · rintro σ H2 ⟨st', s6, s7, rfl, w2, hst⟩
    have hb2 := hb.keep0 w2
    have hlen := ticksF_len (r := r) k b.now.s b.now.o b.now.t
    have ow2 := w2.get 0 rfl
    refine ⟨_, rfl, z.x, z.dx, _, rfl, w2.old hx (by simp), bk_none (by decide +kernel), _, rfl, _, rfl, _, rfl, _, _, rfl, rfl, _, rfl, _, rfl, fl, _, rfl, .inl ⟨SqL.of (w2.get 0 rfl), fun ft hft => ?_⟩⟩
    have w3 := w2.new (.tup ((ticksF r k b.now.s b.now.o b.now.t).2.2.map dV)) hft
    refine catA_any (w3.tups _ _ n3) (w3.get 0 rfl) (by rw [List.length_map, List.length_map, hlen]; omega) fun H4 dn w4 h4 => ?_
    have w5 := w3.call0 w4
    refine ⟨(by show 3 ≤ sizeLine; decide), fun nb hnb => ?_⟩
    have w6 := w5.new (.tup [V.ref st', V.int ((b.now.t : Int) + (k : Int)), V.ref dn]) hnb
    have v6 := (((Wd.refl H2).new (.tup ((ticksF r k b.now.s b.now.o b.now.t).2.2.map dV)) hft).call0 w4).new (.tup [V.ref st', V.int ((b.now.t : Int) + (k : Int)), V.ref dn]) hnb
    have u6 := (Wd.refl H4).new (.tup [V.ref st', V.int ((b.now.t : Int) + (k : Int)), V.ref dn]) hnb
    have hn6 : NowT _ nb (stepN r k b.now) := ⟨st', dn, w6.get 0 rfl, hst.keep v6.tups, by rw [u6.tups _ _ h4]; show _ = some (HO.tup ((b.now.d ++ _).map dV)); rw [List.map_append]⟩
    refine ⟨z, r, b, S, "step", nb, stepN r k b.now, rfl, hb.keep0 w6, hn6, hl, fun H7 bs => ?_⟩
    obtain ⟨z', ez, w7, oz, hb7⟩ := bs
    have fo : ∀ a ∈ z.own, H a ≠ none := hb.al
    have flz : fl ∉ z.own := fun hm => fo fl hm hfl
    have w6' := w6.get 2 rfl
    have hfl7 : H7 fl = some (.lst ((ticksF r k b.now.s b.now.o b.now.t).2.2.map dV)) := w7.base _ _ flz w6'
    refine ⟨_, rfl, fl, rfl, ⟨_, SqL.of hfl7⟩, fun D hD => ?_⟩
    have w8 : Wd z.own H H7 [] := ((w6.sub (List.nil_sublist _)).mono (fun _ h => nomatch h)).fgo w7
    obtain ⟨na', hx7, lt7⟩ := id hb7.na
    rw [ez] at hx7
    obtain ⟨t1, t2, t3⟩ := ticks_ok ok k _ _ b.now.t nowk.s nowk.o
    refine lc_list (xs := (ticksF r k b.now.s b.now.o b.now.t).2.2.map dV) (fun i H8 => Wd [] H7 H8 [(D, .lst (((found r k b.now).take i).map (nameV r)))]) ((Wd.refl H7).new _ hD) (fun i H8 _ w9 => SqL.of (w9.old hfl7 (by simp))) (fun i x H8 hx8 w9 => ?_) (fun H8 w9 => ?_)
    · rw [List.getElem?_map] at hx8
      obtain ⟨d, hd, rfl⟩ := Option.map_eq_some_iff.mp hx8
      have hb8 := hb7.keep0 w9
      refine ⟨rfl, _, rfl, z.x, z'.dx, _, rfl, w9.old hx7 (by simp), bk_none (by decide +kernel), _, rfl, z', r, _, S, d, by rw [ez]; rfl, hb8, fun p e => t3 p (e ▸ List.mem_of_getElem? hd), _, w9.get 0 rfl, ?_, ?_⟩
      · rw [List.length_map, List.length_take]; exact lt_line (by unfold found; rw [hlen]; omega)
      · rw [take_more (show (found r k b.now)[i]? = some d from hd), List.map_append]
        exact w9.app0 _
    · rw [List.length_map, hlen] at w9
      have e9 : (found r k b.now).take k = found r k b.now := List.take_of_length_le (by unfold found; rw [hlen]; exact Nat.le_refl _)
      rw [e9] at w9
      refine q k rfl hk _ D ⟨z', ez, ?_, fun a ha => (oz a ha).imp id (w6.free a), w8.free _ hD, fun hm => hb7.al D hm hD, hb7.keep0 w9⟩
      exact w8.callN w9
end
end Br

namespace Br
open PySem PySem.Spec PyProof.Rows L2
section
variable {P : Program} {w : World} {K : PySem.W.Frag} {mg : Str → Option Value} {base : Heap} {CB CU CC CN : Addr}
theorem me_giftN (D : MethAt K CB "gift" "Book.gift" sBook_gift ["self", "name"]) (T : Bi mg) (BC : BkCls K CB) (cG : ∃ t, mg "GIFT" = some (.str "gift" t)) (EP_NobodyHome : ExPl K mg "NobodyHome" CN)
    (C1 : CalN P w K mg base 1 "person_number" ["parsed", "name"] (spPersonN CU)) (C2 : Cal P w K mg base 2 "home_people" ["parsed", "tick"] spHomes) (C3 : MeAt P w K mg base 1 CB "record" ["self", "word", "now"] (spRecord CB)) :
    MeN P w K mg base 3 CB "gift" ["self", "name"] (spGift CB CU CN) := D.meN fun f fd F => by
  have nd := scBook_gift.nd
  have cl_Book := BC.cl
  obtain ⟨tG, c_GIFT⟩ := cG
  obtain ⟨f1, fd1, m_person_number, kp_person_number, b_person_number, G_person_number⟩ := C1.ex
  obtain ⟨f2, fd2, m_home_people, kp_home_people, b_home_people, G_home_people⟩ := C2.ex
  obtain ⟨f3, fd3, me_record, b_record, G_record⟩ := C3.ex
  refine F.okN scBook_gift (fun vs H Q E h => ?_) (fun cdv A outer s H vs Q E hr h => ?_)
  · obtain ⟨z, r, b, S, v, t, rfl, _⟩ := h; rfl
  obtain ⟨z, r, b, S, v, t, rfl, ok, bo, hb, kv, hl, hl2, q⟩ := h
  refine ⟨_, (pss_cons (ps_set (i := 2) nd rfl (Or.inl rfl) (pe_call G_person_number (hr.mono (by first | decide | omega)) (by rfl) m_person_number kp_person_number b_person_number .nil (L2N.passes_call (L2N.takes_of rfl rfl rfl rfl) (fun _ _ _ _ h => h)) (pa_cons (pe_fldK (K := K) rfl (pv 0) rfl) (pa_cons (pv 1) pa_nil))))
 (pss_cons (ps_asg (pe_fldK (K := K) rfl (pv 0) rfl) (pg_tupK (K := K) (n := 3) rfl rfl (pgs_cons (pg_tupK (K := K) (n := 2) rfl rfl (pgs_cons (pg_name (i := 3) nd rfl (Or.inl rfl)) (pgs_cons (pg_name (i := 4) nd rfl (Or.inl rfl)) pgs_nil))) (pgs_cons (pg_name (i := 5) nd rfl (Or.inl rfl)) (pgs_cons (pg_name (i := 6) nd rfl (Or.inl rfl)) pgs_nil)))))
 (pss_cons (ps_if (pt_cmpR (r := rIn K true) op_notIn_seq (pv 2) (pe_call G_home_people (hr.mono (by first | decide | omega)) (by rfl) m_home_people kp_home_people b_home_people .nil pass0 (pa_cons (pe_fldK (K := K) rfl (pv 0) rfl) (pa_cons (pv 5) pa_nil))) (by rfl))
 (pss_one (L2N.ps_raise rfl (L2N.takes_of rfl rfl rfl rfl) (L2N.pmk_own PySem.F.excBase_ValueError EP_NobodyHome.q EP_NobodyHome.g EP_NobodyHome.k EP_NobodyHome.r (by rfl))))
 pss_nil)
 (pss_cons (ps_set (i := 4) nd rfl (Or.inl rfl) (pe_op (r := rCatA K) op_catA (pe_op (r := rCatA K) op_catA (pe_slice (r := rSlA K) sl_tupA (pv 4) po_none (po_some (pv 2))) (pe_tup (pa_cons (pe_callB (call_max2 rfl) (by rfl) T.max (by decide +kernel) (pa_cons pe_int (pa_cons (pe_op op_sub (pe_ix (r := rIxT K) ix_tup (pv 4) (pv 2) (fun _ _ => rfl)) pe_int) pa_nil))) pa_nil))) (pe_slice (r := rSlA K) sl_tupA (pv 4) (po_some (pe_op op_add (pv 2) pe_int)) po_none)))
 (pss_cons (ps_expr (pe_meth (pv 0) cl_Book me_record G_record (hr.mono (by first | decide | omega)) b_record .nil pass0 (pa_cons (pe_glob (v := .str "gift") (by rfl) c_GIFT ⟨_, rfl⟩) (pa_cons (pe_tup (pa_cons (pe_tup (pa_cons (pv 3) (pa_cons (pv 4) pa_nil))) (pa_cons (pe_op op_add (pv 5) pe_int) (pa_cons (pe_op (r := rCatA K) op_catA (pv 6) (pe_tup (pa_cons (pv 2) pa_nil))) pa_nil)))) pa_nil))))
 (pss_one (ps_ret (pe_ix (r := rIxT K) ix_tup (pv 4) (pv 2) (fun _ _ => rfl))))))))), ?_⟩
  obtain ⟨na, hx, lt⟩ := id hb.na
  obtain ⟨st, dd, n1, ⟨ob, n2, n2'⟩, n3⟩ := lt.now
  refine ⟨_, rfl, z.x, CB, z.dx, _, _, rfl, hx, BC.cl, BC.n1, bk_parsed, _, rfl, z.p, r, v, t, rfl, hb.ro, ok, kv, ?_⟩
  cases hp : personOf r v with
  | none => rw [hp] at q; exact q
  | some p =>
  rw [hp] at q
  obtain ⟨q1, q2⟩ := q
  obtain ⟨hp0, hp1, _⟩ := personOf_in hp
  have ol := bo.now.o.len
  intro H1 w1
  refine ⟨_, rfl, z.x, CB, z.dx, _, _, rfl, w1.old hx (by simp), BC.cl, BC.n2, bk_now, na, _, rfl, SqT.of (w1.tups _ _ n1), rfl, _, _, rfl, ?_⟩
  refine ⟨st, _, rfl, SqT.of (w1.tups _ _ n2), rfl, _, _, rfl, _, _, rfl, rfl, _, _, rfl, _, _, rfl, rfl, ?_⟩
  have hb1 := hb.keep0 w1
  refine ⟨_, rfl, _, rfl, z.x, CB, z.dx, _, _, rfl, w1.old hx (by simp), BC.cl, BC.n1, bk_parsed, _, rfl, z.p, r, _, rfl, hb1.ro, ok, fun H2 hs w2 => ?_⟩
  have w3 := w1.call0 w2
  refine ⟨hs, _, rfl, .inl (SqL.of (w3.get 0 rfl)), rfl, flat_ints _, _, rfl, ?_⟩
  rw [if_pos rfl, inV_ints]
  by_cases hm : p ∈ homes r b.now.t
  · rw [decide_eq_true hm]
    refine iteF ?_
    have w4 := w3.sub (List.nil_sublist _)
    have eo : atI (b.now.o.map V.int) p = some (.int (owes b.now.o p)) := owes_V hp0 (by omega)
    refine ⟨_, rfl, _, rfl, _, rfl, slA_any (w4.tups _ _ n2') fun H3 p1 w5 g1 => ?_⟩
    rw [cut_take _ hp0] at g1
    refine ⟨_, rfl, _, rfl, ob, _, p, _, rfl, rfl, SqT.of (w5.tups _ _ (w4.tups _ _ n2')), eo, _, _, rfl, rfl, _, _, rfl, (by show 1 ≤ sizeLine; decide), fun p2 hp2 => ?_⟩
    have w6 := w4.call0 w5
    have w7 := w6.new (.tup [V.int (less (owes b.now.o p))]) hp2
    have v7 := (Wd.refl H3).new (.tup [V.int (less (owes b.now.o p))]) hp2
    refine catA_any (v7.tups _ _ g1) (w7.get 0 rfl) (by rw [List.length_take, List.length_map]; simp only [List.length_cons, List.length_nil]; have := ok.n6; omega) fun H4 p3 w8 g3 => ?_
    have w9 := w7.call0 w8
    refine ⟨_, rfl, _, rfl, _, _, rfl, rfl, _, rfl, ?_⟩
    dsimp only [tNoPart]
    refine slA_any (w9.tups _ _ n2') fun H5 p4 w10 g4 => ?_
    rw [cut_drop _ (by omega)] at g4
    have w11 := w9.call0 w10
    refine catA_any (w10.tups _ _ g3) g4 (by rw [List.length_append, List.length_take, List.length_drop, List.length_map]; simp only [List.length_cons, List.length_nil]; have := ok.n6; omega) fun H6 p5 w12 g5 => ?_
    have w13 := w11.call0 w12
    rw [show (p + 1).toNat = p.toNat + 1 by omega, set_split (by rw [List.length_map]; omega), ← List.map_set] at g5
    -- record
    refine ⟨_, rfl, z.x, z.dx, _, rfl, w13.old hx (by simp), bk_none (by decide +kernel), _, rfl, _, rfl, (by show 2 ≤ sizeLine; decide), fun a1 ha1 => ?_⟩
    have w14 := w13.new (.tup [V.int (b.now.s : Int), V.ref p5]) ha1
    refine ⟨_, rfl, _, _, rfl, rfl, _, rfl, _, rfl, (by show 1 ≤ sizeLine; decide), fun a2 ha2 => ?_⟩
    have w15 := w14.new (.tup [V.int p]) ha2
    refine catA_any (w15.tups _ _ n3) (w15.get 0 rfl) (by rw [List.length_map]; simp only [List.length_cons, List.length_nil]; omega) fun H7 dn w16 g7 => ?_
    have w17 := w15.call0 w16
    refine ⟨(by show 3 ≤ sizeLine; decide), fun nb hnb => ?_⟩
    have w18 := w17.new (.tup [V.ref a1, V.int ((b.now.t : Int) + 1), V.ref dn]) hnb
    have v18 := ((((Wd.refl H6).new (.tup [V.int (b.now.s : Int), V.ref p5]) ha1).new (.tup [V.int p]) ha2).call0 w16).new (.tup [V.ref a1, V.int ((b.now.t : Int) + 1), V.ref dn]) hnb
    have u18 := (Wd.refl H7).new (.tup [V.ref a1, V.int ((b.now.t : Int) + 1), V.ref dn]) hnb
    have hn : NowT _ nb (giftN p b.now) := ⟨a1, dn, w18.get 0 rfl, ⟨p5, w18.get 2 rfl, v18.tups _ _ g5⟩, by rw [u18.tups _ _ g7]; show _ = some (HO.tup ((b.now.d ++ [some p]).map dV)); rw [List.map_append]; rfl⟩
    refine ⟨z, r, b, S, "gift", nb, giftN p b.now, rfl, hb.keep0 w18, hn, hl, fun H8 bs => ?_⟩
    have g8 : H8 p5 = some (.tup ((b.now.o.set p.toNat (less (owes b.now.o p))).map V.int)) := by
      obtain ⟨z', _, w19, _⟩ := bs
      exact w19.tups _ _ (v18.tups _ _ g5)
    refine ⟨_, rfl, _, rfl, p5, _, p, _, rfl, rfl, SqT.of g8, owes_V hp0 (by rw [List.length_set]; omega), ?_⟩
    rw [owes_set hp0 (by omega)]
    exact q2 hm _ (bs.after (w18.sub (List.nil_sublist _)))
  · rw [decide_eq_false hm]
    exact iteT (q1 hm _ (w3.sub (List.nil_sublist _)))
theorem me_forgiveN (D : MethAt K CB "forgive" "Book.forgive" sBook_forgive ["self", "name"]) (T : Bi mg) (BC : BkCls K CB) (cG : ∃ t, mg "FORGIVE" = some (.str "forgive" t))
    (C1 : CalN P w K mg base 1 "person_number" ["parsed", "name"] (spPersonN CU)) (C3 : MeAt P w K mg base 1 CB "record" ["self", "word", "now"] (spRecord CB)) :
    MeN P w K mg base 3 CB "forgive" ["self", "name"] (spForgive CB CU) := D.meN fun f fd F => by
  have nd := scBook_forgive.nd
  have cl_Book := BC.cl
  obtain ⟨tG, c_FORGIVE⟩ := cG
  obtain ⟨f1, fd1, m_person_number, kp_person_number, b_person_number, G_person_number⟩ := C1.ex
  obtain ⟨f3, fd3, me_record, b_record, G_record⟩ := C3.ex
  refine F.okN scBook_forgive (fun vs H Q E h => ?_) (fun cdv A outer s H vs Q E hr h => ?_)
  · obtain ⟨z, r, b, S, v, t, rfl, _⟩ := h; rfl
  obtain ⟨z, r, b, S, v, t, rfl, ok, bo, hb, kv, hl, q⟩ := h
  refine ⟨_, (pss_cons (ps_set (i := 2) nd rfl (Or.inl rfl) (pe_call G_person_number (hr.mono (by first | decide | omega)) (by rfl) m_person_number kp_person_number b_person_number .nil (L2N.passes_call (L2N.takes_of rfl rfl rfl rfl) (fun _ _ _ _ h => h)) (pa_cons (pe_fldK (K := K) rfl (pv 0) rfl) (pa_cons (pv 1) pa_nil))))
 (pss_cons (ps_asg (pe_fldK (K := K) rfl (pv 0) rfl) (pg_tupK (K := K) (n := 3) rfl rfl (pgs_cons (pg_tupK (K := K) (n := 2) rfl rfl (pgs_cons (pg_name (i := 3) nd rfl (Or.inl rfl)) (pgs_cons (pg_name (i := 4) nd rfl (Or.inl rfl)) pgs_nil))) (pgs_cons (pg_name (i := 5) nd rfl (Or.inl rfl)) (pgs_cons (pg_name (i := 6) nd rfl (Or.inl rfl)) pgs_nil)))))
 (pss_cons (ps_set (i := 7) nd rfl (Or.inl rfl) (pe_op (r := rCatA K) op_catA (pe_op (r := rCatA K) op_catA (pe_slice (r := rSlA K) sl_tupA (pv 4) po_none (po_some (pv 2))) (pe_tup (pa_cons pe_int pa_nil))) (pe_slice (r := rSlA K) sl_tupA (pv 4) (po_some (pe_op op_add (pv 2) pe_int)) po_none)))
 (pss_cons (ps_expr (pe_meth (pv 0) cl_Book me_record G_record (hr.mono (by first | decide | omega)) b_record .nil pass0 (pa_cons (pe_glob (v := .str "forgive") (by rfl) c_FORGIVE ⟨_, rfl⟩) (pa_cons (pe_tup (pa_cons (pe_tup (pa_cons (pv 3) (pa_cons (pv 7) pa_nil))) (pa_cons (pv 5) (pa_cons (pv 6) pa_nil)))) pa_nil))))
 (pss_one (ps_ret (pe_ix (r := rIxT K) ix_tup (pv 4) (pv 2) (fun _ _ => rfl)))))))), ?_⟩
  obtain ⟨na, hx, lt⟩ := id hb.na
  obtain ⟨st, dd, n1, ⟨ob, n2, n2'⟩, n3⟩ := lt.now
  refine ⟨_, rfl, z.x, CB, z.dx, _, _, rfl, hx, BC.cl, BC.n1, bk_parsed, _, rfl, z.p, r, v, t, rfl, hb.ro, ok, kv, ?_⟩
  cases hp : personOf r v with
  | none => rw [hp] at q; exact q
  | some p =>
  rw [hp] at q
  obtain ⟨hp0, hp1, _⟩ := personOf_in hp
  have ol := bo.now.o.len
  have n6 := ok.n6
  intro H1 w1
  refine ⟨_, rfl, z.x, CB, z.dx, _, _, rfl, w1.old hx (by simp), BC.cl, BC.n2, bk_now, na, _, rfl, SqT.of (w1.tups _ _ n1), rfl, _, _, rfl, ?_⟩
  refine ⟨st, _, rfl, SqT.of (w1.tups _ _ n2), rfl, _, _, rfl, _, _, rfl, rfl, _, _, rfl, _, _, rfl, rfl, ?_⟩
  refine ⟨_, rfl, _, rfl, _, rfl, slA_any (w1.tups _ _ n2') fun H3 p1 w5 g1 => ?_⟩
  rw [cut_take _ hp0] at g1
  refine ⟨(by show 1 ≤ sizeLine; decide), fun p2 hp2 => ?_⟩
  have w6 := w1.call0 w5
  have w7 := w6.new (.tup [V.int 0]) hp2
  have v7 := (Wd.refl H3).new (.tup [V.int 0]) hp2
  refine catA_any (v7.tups _ _ g1) (w7.get 0 rfl) (by rw [List.length_take, List.length_map]; simp only [List.length_cons, List.length_nil]; omega) fun H4 p3 w8 g3 => ?_
  have w9 := w7.call0 w8
  refine ⟨_, rfl, _, rfl, _, _, rfl, rfl, _, rfl, ?_⟩
  dsimp only [tNoPart]
  refine slA_any (w9.tups _ _ n2') fun H5 p4 w10 g4 => ?_
  rw [cut_drop _ (by omega)] at g4
  have w11 := w9.call0 w10
  refine catA_any (w10.tups _ _ g3) g4 (by rw [List.length_append, List.length_take, List.length_drop, List.length_map]; simp only [List.length_cons, List.length_nil]; omega) fun H6 p5 w12 g5 => ?_
  have w13 := w11.call0 w12
  rw [show (p + 1).toNat = p.toNat + 1 by omega, set_split (by rw [List.length_map]; omega), ← List.map_set] at g5
  refine ⟨_, rfl, z.x, z.dx, _, rfl, w13.old hx (by simp), bk_none (by decide +kernel), _, rfl, _, rfl, (by show 2 ≤ sizeLine; decide), fun a1 ha1 => ?_⟩
  have w14 := w13.new (.tup [V.int (b.now.s : Int), V.ref p5]) ha1
  refine ⟨_, rfl, _, rfl, (by show 3 ≤ sizeLine; decide), fun nb hnb => ?_⟩
  have w18 := w14.new (.tup [V.ref a1, V.int (b.now.t : Int), V.ref dd]) hnb
  have v18 := ((Wd.refl H6).new (.tup [V.int (b.now.s : Int), V.ref p5]) ha1).new (.tup [V.ref a1, V.int (b.now.t : Int), V.ref dd]) hnb
  have hn : NowT _ nb (forgiveN p b.now) := ⟨a1, dd, w18.get 0 rfl, ⟨p5, w18.get 1 rfl, v18.tups _ _ g5⟩, w18.tups _ _ n3⟩
  refine ⟨z, r, b, S, "forgive", nb, forgiveN p b.now, rfl, hb.keep0 w18, hn, hl, fun H8 bs => ?_⟩
  have g8 : H8 ob = some (.tup (b.now.o.map V.int)) := by
    obtain ⟨z', _, w19, _⟩ := bs
    exact w19.tups _ _ (w18.tups _ _ n2')
  refine ⟨_, rfl, _, rfl, ob, _, p, _, rfl, rfl, SqT.of g8, owes_V hp0 (by omega), ?_⟩
  exact q _ (bs.after (w18.sub (List.nil_sublist _)))
end
end Br

namespace Br
open PySem PySem.Spec PyProof.Rows L2
section
variable {P : Program} {w : World} {K : PySem.W.Frag} {mg : Str → Option Value} {base : Heap} {CB CC CU CN : Addr}
theorem me_executeN (D : MethAt K CB "execute" "Book.execute" sBook_execute ["self", "operation"]) (BC : BkCls K CB) (C1 : MeN P w K mg base 4 CB "step" ["self", "count"] (spStep CB CC)) (C2 : MeN P w K mg base 3 CB "gift" ["self", "name"] (spGift CB CU CN)) (C3 : MeN P w K mg base 3 CB "forgive" ["self", "name"] (spForgive CB CU))
    (C4 : MeAt P w K mg base 2 CB "reset" ["self"] (spReset CB)) (C5 : MeAt P w K mg base 1 CB "undo" ["self"] (spUndo CB)) (C6 : MeAt P w K mg base 1 CB "redo" ["self"] (spRedo CB)) :
    MeN P w K mg base 5 CB "execute" ["self", "operation"] (spLDo CB CC CU CN) := D.meN fun f fd F => by
  have nd := scBook_execute.nd
  have cl_Book := BC.cl
  obtain ⟨f1, fd1, me_step, b_step, G_step⟩ := C1.ex
  obtain ⟨f2, fd2, me_gift, b_gift, G_gift⟩ := C2.ex
  obtain ⟨f3, fd3, me_forgive, b_forgive, G_forgive⟩ := C3.ex
  obtain ⟨f4, fd4, me_reset, b_reset, G_reset⟩ := C4.ex
  obtain ⟨f5, fd5, me_undo, b_undo, G_undo⟩ := C5.ex
  obtain ⟨f6, fd6, me_redo, b_redo, G_redo⟩ := C6.ex
  refine F.okN scBook_execute (fun vs H Q E h => ?_) (fun cdv A outer s H vs Q E hr h => ?_)
  · obtain ⟨z, oa, r, b, S, op, rfl, _⟩ := h; rfl
  obtain ⟨z, oa, r, b, S, op, rfl, ok, bo, hb, ho, hop, hz1, hz2, hz3, q⟩ := h
  refine ⟨_, (pss_cons (ps_matchT (pv 1) (pct_two (i := 2) (by rfl) nd rfl (Or.inl rfl) (pss_one (ps_ret (pe_meth (pv 0) cl_Book me_step G_step (hr.mono (by first | decide | omega)) b_step .nil (L2N.passes_call (L2N.takes_of rfl rfl rfl rfl) (fun _ _ _ _ h => h)) (pa_cons (pv 2) pa_nil)))) (pct_two (i := 3) (by rfl) nd rfl (Or.inl rfl) (pss_one (ps_ret (pe_meth (pv 0) cl_Book me_gift G_gift (hr.mono (by first | decide | omega)) b_gift .nil (L2N.passes_call (L2N.takes_of rfl rfl rfl rfl) (fun _ _ _ _ h => h)) (pa_cons (pv 3) pa_nil)))) (pct_two (i := 3) (by rfl) nd rfl (Or.inl rfl) (pss_one (ps_ret (pe_meth (pv 0) cl_Book me_forgive G_forgive (hr.mono (by first | decide | omega)) b_forgive .nil (L2N.passes_call (L2N.takes_of rfl rfl rfl rfl) (fun _ _ _ _ h => h)) (pa_cons (pv 3) pa_nil)))) (pct_one (by rfl) (pss_one (ps_ret (pe_meth0 (pv 0) cl_Book me_reset G_reset (hr.mono (by first | decide | omega)) b_reset .nil pass0))) (pct_one (by rfl) (pss_one (ps_ret (pe_meth0 (pv 0) cl_Book me_undo G_undo (hr.mono (by first | decide | omega)) b_undo .nil pass0))) pct_nil))))))
 (pss_one (ps_ret (pe_meth0 (pv 0) cl_Book me_redo G_redo (hr.mono (by first | decide | omega)) b_redo .nil pass0)))), ?_⟩
  obtain ⟨na, hx, lt⟩ := id hb.na
  refine ⟨_, rfl, oa, _, rfl, ho, ?_⟩
  cases op with
  | bad v =>
    obtain ⟨t, kv⟩ := bad_ky H v
    refine two_yes ?_
    refine ⟨_, rfl, z.x, z.dx, _, rfl, hx, bk_none (by decide +kernel), _, rfl, z, r, b, S, badV v, t, rfl, ok, bo, hb, kv, hz1, by omega, fun hi H' w' => ?_, fun k' e hk H' p bs => ?_⟩
    · exact (show ∀ H', Wd [] H H' [] → E (.ref CC) none H' from q) H' w'
    · have := bad_in v
      rw [e, show intIn 0 500 (.int (k' : Int)) = (decide ((0 : Int) ≤ (k' : Int)) && decide ((k' : Int) ≤ 500)) from rfl, decide_eq_true (by omega), decide_eq_true (by omega)] at this
      cases this
  | step k =>
    refine two_yes ?_
    refine ⟨_, rfl, z.x, z.dx, _, rfl, hx, bk_none (by decide +kernel), _, rfl, z, r, b, S, _, "int", rfl, ok, bo, hb, .int _, hz1, by omega, fun hi H' w' => ?_, fun k' e hk H' p bs => ?_⟩
    · have c : 500 < k := by
        have h2 : (decide ((0 : Int) ≤ (k : Int)) && decide ((k : Int) ≤ 500)) = false := hi
        rw [decide_eq_true (by omega), Bool.true_and] at h2
        have := of_decide_eq_false h2
        omega
      have qd : doOp r b (.step k) = .error "count" := by
        show recR "step" b (if 500 < k then .error "count" else _) = _
        rw [if_pos c]; rfl
      rw [qd] at q
      exact q H' w'
    · have ek : k' = k := by injection e with e; omega
      subst ek
      have qd : doOp r b (.step k') = .ok (.nms (found r k' b.now), recB "step" b (stepN r k' b.now)) := by
        show recR "step" b (if 500 < k' then .error "count" else .ok (.nms (found r k' b.now), stepN r k' b.now)) = _
        rw [if_neg (by omega)]; rfl
      rw [qd] at q
      exact q H' _ ⟨p, rfl, bs⟩
  | gift nm =>
    refine two_no (by show ("gift" : Str) ≠ "step"; decide +kernel) (two_yes ?_)
    refine ⟨_, rfl, z.x, z.dx, _, rfl, hx, bk_none (by decide +kernel), _, rfl, z, r, b, S, _, "str", rfl, ok, bo, hb, .str _, hz1, by omega, ?_⟩
    have qd : doOp r b (.gift nm) = recR "gift" b (giftR r b.now (personOf r (.str nm))) := rfl
    rw [qd] at q
    cases hp : personOf r (.str nm) with
    | none =>
      rw [hp] at q
      exact fun H' w' => q H' w'
    | some p =>
      rw [hp] at q
      refine ⟨fun hm H' w' => ?_, fun hm H' bs => ?_⟩
      · have qd2 : recR "gift" b (giftR r b.now (some p)) = .error "nobody" := by
          show recR "gift" b (if p ∈ homes r b.now.t then .ok (Res.int (less (owes b.now.o p)), giftN p b.now) else .error "nobody") = _
          rw [if_neg hm]; rfl
        rw [qd2] at q
        exact q H' w'
      · have qd2 : recR "gift" b (giftR r b.now (some p)) = .ok (.int (less (owes b.now.o p)), recB "gift" b (giftN p b.now)) := by
          show recR "gift" b (if p ∈ homes r b.now.t then .ok (Res.int (less (owes b.now.o p)), giftN p b.now) else .error "nobody") = _
          rw [if_pos hm]; rfl
        rw [qd2] at q
        exact q H' _ ⟨rfl, bs⟩
  | forgive nm =>
    refine two_no (by show ("forgive" : Str) ≠ "step"; decide +kernel) (two_no (by show ("forgive" : Str) ≠ "gift"; decide +kernel) (two_yes ?_))
    refine ⟨_, rfl, z.x, z.dx, _, rfl, hx, bk_none (by decide +kernel), _, rfl, z, r, b, S, _, "str", rfl, ok, bo, hb, .str _, hz1, ?_⟩
    have qd : doOp r b (.forgive nm) = recR "forgive" b (forgiveR b.now (personOf r (.str nm))) := rfl
    rw [qd] at q
    cases hp : personOf r (.str nm) with
    | none =>
      rw [hp] at q
      exact fun H' w' => q H' w'
    | some p =>
      rw [hp] at q
      exact fun H' bs => q H' _ ⟨rfl, bs⟩
  | reset =>
    refine two_miss (two_miss (two_miss (one_yes ?_)))
    exact ⟨_, rfl, z.x, z.dx, _, rfl, hx, bk_none (by decide +kernel), z, r, b, S, rfl, ok, hb, hz1, fun H' bs => q H' _ ⟨rfl, bs⟩⟩
  | undo =>
    refine two_miss (two_miss (two_miss (one_no (by decide +kernel) (one_yes ?_))))
    refine ⟨_, rfl, z.x, z.dx, _, rfl, hx, bk_none (by decide +kernel), z, r, b, S, rfl, bo, hb, hz1, hz2, ?_⟩
    have qd : doOp r b .undo = undoR b (undoB b) := rfl
    rw [qd] at q
    cases hu : undoB b with
    | none => rw [hu] at q; exact fun H' bs => q H' _ ⟨rfl, bs⟩
    | some b' => rw [hu] at q; exact fun H' bs => q H' _ ⟨rfl, bs⟩
  | redo =>
    refine two_miss (two_miss (two_miss (one_no (by decide +kernel) (one_no (by decide +kernel) ?_))))
    refine ⟨_, rfl, z.x, z.dx, _, rfl, hx, bk_none (by decide +kernel), z, r, b, S, rfl, bo, hb, hz1, hz2, ?_⟩
    have qd : doOp r b .redo = undoR b (redoB b) := rfl
    rw [qd] at q
    cases hu : redoB b with
    | none => rw [hu] at q; exact fun H' bs => q H' _ ⟨rfl, bs⟩
    | some b' => rw [hu] at q; exact fun H' bs => q H' _ ⟨rfl, bs⟩
end
end Br

/-! BrLx once more, for exceptions without a context. -/
namespace Br
open PySem PySem.Spec PySem.Calls PyProof.Rows L2
section
variable {X : Cx} {W : WX} {pins : List (Addr × Obj)} {σ : L2.St} {H3 : Hp} {s3 : Shared} {scope : Scope} {cl : List (Str × Addr)} {fp : List Addr} {Qz : Value → Shared → Prop} {D : Addr}
theorem blk_passN (hs : X.stack = X.env :: X.outer) (hf : X.env.frame = some X.env.locals) (tk : L2N.Takes X W) (I3 : Inv X pins σ H3 s3) {ce : Env} (hce : ce.locals = s3.heap.objs.size) (hcf : ce.frame = X.env.frame)
    (f3 : ∀ b ∈ fp, FpOk X pins H3 b ∧ b < s3.heap.objs.size) :
    Passes (L2N.CX X.prog X.w) ((X.blk s3 H3 scope ce fp).wish (blkE X Qz D ce)) (fun cls d H' => W cls d σ H') := by
  intro pins2 σ2 H s e z I0 c
  have I : Inv (X.blk s3 H3 scope ce fp) pins2 σ2 H s := I0.unwish
  have ok := I3.ok
  have hfr : X.A.frames = some (X.env :: X.outer) := by rw [ok.frames, hs]
  obtain ⟨a, B, sI, p2, σ4, H2, cls, d, rfl, J, nb, up, sky, na, os, ag, w⟩ := L2N.XE.of_call (X := X.blk s3 H3 scope ce fp) (W := fun cls d _ H' => W cls d σ H') I (fun _ _ _ h => h) c
  obtain ⟨a1, B1, _, _, _, ea, fl1, _⟩ := c
  cases ea
  obtain ⟨_, _, _, oe1, vs1, T1, oT1, ts1, he1, _, hd1, hv1, _, _, hT1, hdT1, h31⟩ := fl1
  have fl : HandSPX.FlyingZ B (X.env :: X.outer) a (L2N.Zn cls d) z.heap := by
    rw [← hs]
    rcases sky with ⟨_, _, _, oe, vs, he, _, hd, h1⟩ | fl | hh
    · rw [he1] at he; cases he
      rw [hd1] at hd; cases hd
      rw [hv1] at h1; cases h1
    · exact fl
    · obtain ⟨_, _, _, oe, vs, T, oT, ts, he, _, hd, h1, _, _, hT, hdT, h3⟩ := hh
      rw [he1] at he; cases he
      rw [hd1] at hd; cases hd
      rw [hv1] at h1; cases h1
      rw [hT1] at hT; cases hT
      rw [hdT1] at hdT; cases hdT
      rw [h31] at h3; cases h3
  have hC3 : FpOk X pins H2 s3.heap.objs.size := I3.fpOk (Nat.le_refl _) (by have q := J.free; rw [show (X.blk s3 H3 scope ce fp).env.locals = s3.heap.objs.size from hce] at q; exact q)
  have nfr : s3.heap.objs.size ∉ frs (X.env :: X.outer) := fun hm => by
    obtain ⟨e, he, q⟩ := List.mem_filterMap.mp hm
    rcases List.mem_cons.mp he with rfl | he
    · rw [hf] at q; exact hC3.2.1 (Option.some.inj q).symm
    · exact hC3.2.2.1 (List.mem_filterMap.mpr ⟨e, he, q⟩)
  unfold blkE notedBy
  refine note_same hcf ?_
  refine PXN.looks_onZ L2N.Zn.steady hfr hf fl fun h1 hh1 up1 => ?_
  obtain ⟨m, hns, _⟩ := J.loc
  have hns : sI.heap.Ns ce.locals m := hns
  rw [hce] at hns
  obtain ⟨oC, es, ep, hoC, hdC⟩ := id hns
  have hC1 : h1.get? s3.heap.objs.size = some oC := hh1.1 _ _ (nb _ _ hoC (by rw [show (X.blk s3 H3 scope ce fp).stack = X.env :: X.outer from hs]; exact nfr))
  refine ⟨m, by rw [hce]; exact ⟨oC, es, ep, hC1, hdC⟩, fun h2 sb => ?_⟩
  rw [hce] at sb
  have k2 : ∀ b, b ≠ s3.heap.objs.size → h2.get? b = h1.get? b := sb.2
  have hh2 : HandSPX.HeldZ (PySem.W.hideAll B [s3.heap.objs.size]) (X.env :: X.outer) a (L2N.Zn cls d) X.env.locals h2 := by
    obtain ⟨x1, x2, x3, oe, vs, T, oT, ts, he, hz, hd, hv, hT0, hTe, hT, hdT, h3⟩ := hh1
    have nf : ∀ {b o ws}, h1.get? b = some o → o.data = .fields ws → b ≠ s3.heap.objs.size := fun e1 e2 q => by
      rw [q, hC1] at e1; cases e1
      rw [hdC.1] at e2; cases e2
    have hid : ∀ b, B.get? b = none → (PySem.W.hideAll B [s3.heap.objs.size]).get? b = none := fun b q => by
      cases q2 : (PySem.W.hideAll B [s3.heap.objs.size]).get? b with
      | none => rfl
      | some o' => rw [PySem.W.of_hideAll _ q2] at q; cases q
    refine ⟨fun b o e => ?_, hid _ x2, ff_but k2 (fun _ _ _ => trivial) x3 nfr, oe, vs, T, oT, ts, (k2 _ (nf he hd)).trans he, hz, hd, hv, hid _ hT0, hTe, (k2 _ (nf hT hdT)).trans hT, hdT, h3⟩
    have hb : b ≠ s3.heap.objs.size := fun q => by rw [q, PySem.W.hideAll_none _ (by simp)] at e; cases e
    exact (k2 b hb).trans (x1 b o (PySem.W.of_hideAll _ e))
  obtain ⟨_, _, _, oe5, vs5, T5, oT5, ts5, he5, _, hd5, hv5, _⟩ := id hh2
  unfold PySem.passOn
  refine wpAny_bind (wpAny_field he5 hd5 hv5 ?_)
  rw [if_neg (show ¬ ((Value.ref T5 == Value.none) = true) from by simp)]
  have fin : wpAny (model X.prog X.w) X.A (setFlight (.ref a) ce.frame) (fun _ z4 => wpAny (model X.prog X.w) X.A (throw (.ref a) : Sem Value) (fun _ _ => False) X.xe z4) X.xe { z with heap := h2 } := by
    rw [hcf, hf]
    refine HandSPX.setFlight_onZ hh2 fun h3 hh3 up3 => wpAny_throw (tk _ _ ?_)
    have nC : ∀ b o, (PySem.W.hideAll sI.heap [s3.heap.objs.size]).get? b = some o → b ≠ s3.heap.objs.size := fun b o e q => by rw [q, PySem.W.hideAll_none _ (by simp)] at e; cases e
    have hid : ∀ b o, b ≠ s3.heap.objs.size → sI.heap.get? b = some o → (PySem.W.hideAll sI.heap [s3.heap.objs.size]).get? b = some o := fun b o hb e => PySem.W.hideAll_get _ e (by simpa using hb)
    have old : ∀ b o, s3.heap.get? b = some o → b ≠ s3.heap.objs.size := fun b o e => Nat.ne_of_lt (Heap.lt_size e)
    have jb := J.base
    have U : Un (frs X.stack) fp H3 H2 s3.heap (PySem.W.hideAll sI.heap [s3.heap.objs.size]) := {
      keep := fun b o e n q1 q2 => hid b o (old b o e) (jb.keep b o e n q1 q2)
      slot := fun b o e n q1 q2 => by
        obtain ⟨sl, q⟩ := jb.slot b o e n q1 q2
        exact ⟨sl, hid b _ (old b o e) q⟩
      free := jb.free
      there := fun b o e q1 => by
        obtain ⟨o', q⟩ := jb.there b o e q1
        exact ⟨o', hid b _ (old b o e) q⟩
      tups := jb.tups
      frzs := jb.frzs
      tbls := jb.tbls }
    have hokB : HOk X.prog X.w H2 (PySem.W.hideAll sI.heap [s3.heap.objs.size]) := fun b o q => (J.hok b o q).stay (fun c u hc r => hid c u (fun q2 => by
      subst q2
      rcases hc with hc | hc
      · rw [← hc, hC3.1] at q; cases q
      · rw [hC3.1] at hc; cases hc) r) (fun _ r => r) fun _ _ r => r
    have I7 : Inv X pins σ H2 { sI with heap := PySem.W.hideAll sI.heap [s3.heap.objs.size] } := I3.call' (s' := { sI with heap := PySem.W.hideAll sI.heap [s3.heap.objs.size] }) (ch := fp) J.os U hokB J.bare fun b hb => ⟨(f3 b hb).1.2.2.2.1, (f3 b hb).1.2.1, (f3 b hb).1.2.2.2.2.1, (f3 b hb).1.2.2.2.2.2⟩
    refine ⟨a, PySem.W.hideAll B [s3.heap.objs.size], _, pins, σ, H2, cls, d, rfl, I7, fun b o e hb => PySem.W.hideAll_get _ (nb b o (PySem.W.of_hideAll _ e) hb) (by simpa using nC b o e), fun b o e hn => ?_, .inr (.inr (by rw [hs]; exact hh3)), na, os, ag, w⟩
    obtain ⟨l1, e1⟩ := up b o (PySem.W.of_hideAll _ e) hn
    obtain ⟨l2, e2⟩ := up1 b _ e1 hn
    obtain ⟨l3, e3⟩ := up3 b _ ((k2 b (nC b o e)).trans e2) hn
    exact ⟨l3, e3⟩
  first
    | exact wpAny_bind (wpAny_pure (wpAny_bind fin))
    | exact wpAny_bind fin
end
section
variable {X : Cx} {W : WX}
/-- [elt for target in iter if ..], elt may raise: te, what elt asks, told by the def's wish -/
theorem pe_lcXN {elt tg iter : Expr} {ifs : List Expr} {scope : Scope} {own : List (Str × Nat)} {pos : Pos} {wi : TI} {g : TG} {tt : TT} {te : XK → TE} (hc : X.calm = true) (hst : X.stack = X.env :: X.outer) (hfm : X.env.frame = some X.env.locals) (tk : L2N.Takes X W) (hN : X.N.Nodup)
    (hi : PI X tg iter wi) (ok : BlkOk X.N X.env.scope scope own)
    (hg : ∀ (y : Shared) (H : Hp) (C : Addr) (cl : List (Str × Addr)) (fp : List Addr), PG (X.blk y H scope (compEnvC scope cl C X.env) fp) tg g)
    (ht : ∀ (y : Shared) (H : Hp) (C : Addr) (cl : List (Str × Addr)) (fp : List Addr), PTs (X.blk y H scope (compEnvC scope cl C X.env) fp) ifs tt)
    (he : ∀ (y : Shared) (H : Hp) (C : Addr) (cl : List (Str × Addr)) (fp : List Addr) (xe : Value → Shared → Prop) (E : XK), Passes (L2N.CX X.prog X.w) ((X.blk y H scope (compEnvC scope cl C X.env) fp).wish xe) E → PE ((X.blk y H scope (compEnvC scope cl C X.env) fp).wish xe) elt (te E))
    (hfs : ∀ x, foldedSetIterable iter X.env x = pure x := by intro _; rfl) :
    PE X (.ListComp elt [⟨tg, iter, ifs, 0⟩] scope pos) (fun σ H Q => tLc wi g tt (te fun cls d H' => W cls d σ H') (own.map (·.2)) σ H Q) := by
  refine ⟨fun pins y σ H Q I h => ?_⟩
  rw [eval_ListComp]
  have hfree : ∀ n ∈ scope.names, n.2 = .free → ∃ c, X.env.cells.lookup n.1 = some c := fun n hn e => (ok.free n hn e).elim (fun k => I.ok.has _ (.inl k)) fun k => I.ok.has _ (.inr k)
  refine comp_any rfl hfs (closure_ok hfree) ok.kind (fun n hn e => by rw [ok.uniq n hn, e]) (thn (hi.run pins y σ H _ I h) fun xv y1 hx => thn hx fun itv y2 h2 => ?_)
  obtain ⟨it, fp, tn, J, H2, e, I2, T, st2, f2, q⟩ := h2
  subst e
  refine wpAny_newObj_type (newEnv_comp ?_) (by show 0 ≤ sizeLine; decide)
  generalize hD : y2.heap.objs.size = D
  have hDn : H2 D = none := I2.hok.fresh (Nat.le_of_eq hD)
  obtain ⟨Wt, ⟨m0, w0⟩, turn⟩ := q D hDn
  generalize hy3 : ({ y2 with heap := y2.heap.push { cls := .type "list", data := .seq ([] : List Value).toArray } } : Shared) = y3
  have I3 : Inv X pins σ (upd H2 D (.lst [])) y3 := by
    rw [← hy3]
    exact I2.laid (t' := y2.toks) (fun b o e => Heap.get?_push_of_some _ e) (Nat.le_of_eq hD) ⟨Nat.zero_le _, [], 0, .nil, by rw [← hD]; exact Heap.get?_push_size _ rfl⟩
  have h3 : y3.heap = y2.heap.push { cls := .type "list", data := .seq ([] : List Value).toArray } := by rw [← hy3]
  have sz : ∀ b ∈ fp, b < y2.heap.objs.size := fun b hb => (T.obj _ _ st2 b hb).elim fun o e => Heap.lt_size e.1
  have f3 : ∀ b ∈ fp, FpOk X pins (upd H2 D (.lst [])) b ∧ b < y3.heap.objs.size := fun b hb =>
    ⟨⟨by rw [upd_ne (by rw [← hD]; exact Nat.ne_of_lt (sz b hb))]; exact (f2 b hb).1, (f2 b hb).2⟩, by rw [h3, Heap.size_push]; exact Nat.lt_succ_of_lt (sz b hb)⟩
  have st3 : tn 0 y3.heap := T.keep _ _ _ st2 fun b _ o e => by rw [h3]; exact Heap.get?_push_of_some _ e
  have I4 := block_start I3 ok hN f3
  have pg := hg y3 (upd H2 D (.lst [])) y3.heap.objs.size (cellsFrom (y3.heap.objs.size + 1) scope.names (cloFrom X.env.cells scope.names [])) fp
  have pt := ht y3 (upd H2 D (.lst [])) y3.heap.objs.size (cellsFrom (y3.heap.objs.size + 1) scope.names (cloFrom X.env.cells scope.names [])) fp
  have pe := fun xe E => he y3 (upd H2 D (.lst [])) y3.heap.objs.size (cellsFrom (y3.heap.objs.size + 1) scope.names (cloFrom X.env.cells scope.names [])) fp xe E
  show codeAny _ _ (.compStart (.ListComp elt [⟨tg, iter, ifs, 0⟩] scope pos) 0 (.ref it) (.ref D) (compEnvC scope (cellsFrom (y3.heap.objs.size + 1) scope.names (cloFrom X.env.cells scope.names [])) y3.heap.objs.size X.env)) (cPost (model X.prog X.w) X.A X.xe (EP X pins σ Q) (.ref D) (compEnvC scope (cellsFrom (y3.heap.objs.size + 1) scope.names (cloFrom X.env.cells scope.names [])) y3.heap.objs.size X.env)) { y3 with heap := pushCells (y3.heap.push { cls := .type "dict", data := .dict #[] }) scope.names }
  have nfp : ∀ b ∈ fp, (upd H2 D (.lst [])) b = none := fun b hb => (f3 b hb).1.1
  generalize hce : compEnvC scope (cellsFrom (y3.heap.objs.size + 1) scope.names (cloFrom X.env.cells scope.names [])) y3.heap.objs.size X.env = ce at I4 pg pt pe ⊢
  have cL : ce.locals = y3.heap.objs.size := by subst hce; rfl
  have cF : ce.frame = X.env.frame := by subst hce; rfl
  generalize hH3 : upd H2 D (.lst []) = H3 at I3 I4 pg pt pe w0 nfp f3
  generalize hy4 : ({ y3 with heap := pushCells (y3.heap.push { cls := .type "dict", data := .dict #[] }) scope.names } : Shared) = y4 at I4 ⊢
  have ps := pe _ _ (blk_passN (scope := scope) (Qz := EP X pins σ Q) (D := D) hst hfm tk I3 cL cF f3)
  have st4 : tn 0 y4.heap := T.keep _ _ _ st3 fun b _ o e => by rw [← hy4]; exact pushCells_keeps _ _ _ _ (Heap.get?_push_of_some _ e)
  have stat : ∀ {σ' : L2.St} {H' : Hp} {z : Shared}, Inv (X.blk y3 H3 scope ce fp) [] σ' H' z → (∀ b ∈ fp, H' b = none) → ∀ b ∈ fp, FpOk (X.blk y3 H3 scope ce fp) [] H' b := fun {σ' H' z} I' hn b hb =>
    ⟨hn b hb, (I'.ok.exf b hb).1, I'.ok.exfs b hb, .inl hb, fun x c e => (I'.ok.exf b hb).2 x c e, fun p hp => absurd (show p ∈ ([] : List (Addr × Obj)) ++ [] from hp) (by simp)⟩
  have loop : codeAny (model X.prog X.w) X.A (.compLoop (.ListComp elt [⟨tg, iter, ifs, 0⟩] scope pos) 0 (.ref it) (.ref D) ce) (cPost (model X.prog X.w) X.A X.xe (EP X pins σ Q) (.ref D) ce) y4 := by
    refine compLoop_any (fun n z => ∃ i H', Inv (X.blk y3 H3 scope ce fp) [] (wipe σ (own.map (·.2))) H' z ∧ tn i z.heap ∧ (∀ b ∈ fp, H' b = none) ∧ Wt i n H') ?_ m0 ⟨0, H3, I4, st4, nfp, w0⟩
    rintro n y5 ⟨i, H5, I5, st5, n5, w5⟩
    rcases turn i n H5 w5 with ⟨stop, qq⟩ | ⟨go, Nx, hNx, step⟩
    · refine thF (T.done (X.blk y3 H3 scope ce fp) rfl rfl rfl hc i [] y5 _ H5 (fun _ _ => False) I5 (stat I5 n5) st5 stop) fun r y6 ⟨hr, I6⟩ => ?_
      subst hr
      have I7 : Inv X pins σ H5 y6 := I3.call' (ch := fp) I6.os I6.base I6.hok I6.bare fun b hb => ⟨(f3 b hb).1.2.2.2.1, (f3 b hb).1.2.1, (f3 b hb).1.2.2.2.2.1, (f3 b hb).1.2.2.2.2.2⟩
      have nC : H5 y3.heap.objs.size = none := by rw [← cL]; exact I6.free
      obtain ⟨m, hn, _⟩ := I6.loc
      have hn : y6.heap.Ns ce.locals m := hn
      obtain ⟨g0, g1, g2, g3, g4, g5⟩ := I3.fpOk (Nat.le_refl _) nC
      refine ⟨m, hn, fun hz sb => ?_⟩
      rw [cL] at sb
      exact ⟨.ref D, H5, I7.turned (t' := y6.toks) (fun b o hb e => (sb.2 b hb).trans e) g0 g1 g3 g4 g5, rfl, qq⟩
    · refine thF (T.item (X.blk y3 H3 scope ce fp) rfl rfl rfl hc i [] y5 _ H5 (fun _ _ => False) I5 (stat I5 n5) st5 go) fun r y6 ⟨u, hr, k6⟩ => ?_
      subst hr
      refine thF k6 fun _ y7 ⟨x, H7, I7, r7, yx7, st7, n7⟩ => ?_
      have I7' := I7.pinned (stat I7 n7) (T.obj _ _ st7)
      refine thF (pg.run _ y7 _ H7 x u _ I7' r7 (step x H7 yx7)) fun _ y8 ⟨σ8, H8, I8, hw8, q8⟩ => ?_
      refine thF (pt.run _ y8 σ8 H8 _ I8 q8) fun b y9 ⟨H9, I9, q9⟩ => ?_
      have fin : ∀ {z : Shared} {H' : Hp}, Inv (X.blk y3 H3 scope ce fp) ([] ++ pinsAt fp y7.heap) σ8 H' z → Nx H' → ∃ m, m < n ∧ ∃ i H', Inv (X.blk y3 H3 scope ce fp) [] (wipe σ (own.map (·.2))) H' z ∧ tn i z.heap ∧ (∀ b ∈ fp, H' b = none) ∧ Wt i m H' := fun {z H'} I' nx => by
        obtain ⟨m', hm, w'⟩ := hNx H' nx
        have pin' : ∀ b ∈ fp, ∀ o, y7.heap.get? b = some o → z.heap.get? b = some o ∧ H' b = none := fun b hb o e =>
          have q := I'.pin (b, o) (List.mem_append_right _ (List.mem_append_right _ (mem_pinsAt hb e)))
          ⟨q.1, q.2.1⟩
        have hl : (wipe σ (own.map (·.2))).length = σ8.length := by rw [← hw8, wipe_length]
        refine ⟨m', hm, i + 1, H', (I'.unpinned (pins := [])).weak hl (fun j v e => (wipe_some (by rw [← hw8] at e; exact e)).1), T.keep _ _ _ st7 fun b hb o e => (pin' b hb o e).1, fun b hb => ?_, w'⟩
        obtain ⟨o, e, _⟩ := T.obj _ _ st7 b hb
        exact (pin' b hb o e).2
      cases b with
      | false =>
        simp only [Bool.false_eq_true, if_false] at q9 ⊢
        exact fin I9 q9
      | true =>
        simp only [if_true] at q9 ⊢
        refine wpAny_mono (ps.run _ y9 σ8 H9 _ (I9.wish _) q9) (fun v y10 ⟨yv, H10, I10, r10, acc, hD10, hz10, nx⟩ => ?_) fun _ _ q => q
        exact app_ok (X := X.blk y3 H3 scope ce fp) I10.unwish hD10 hz10 r10 fun y11 I11 => fin I11 nx
  exact codeAny_compStart_list loop (T.self X.A 0 _ _ _ st4 loop)
end
end Br

/-! try .. except X: suite; raise: the same exception raised again. -/
namespace Br
open PySem PySem.Spec PyProof.Rows L2 L2H
/-- Inv is kept where objects that nobody tracks are taken away -/
theorem inv_cut {X : Cx} {pins : List (Addr × Obj)} {σ : L2.St} {H : Hp} {s : Shared} (I : Inv X pins σ H s) (hx : X.ex = []) (l : List Addr)
    (hl : ∀ a ∈ l, H a = none ∧ X.s_0.heap.get? a = none ∧ a ≠ X.env.locals ∧ (∀ x c, X.env.cells.lookup x = some c → c ≠ a) ∧ ∀ p ∈ X.pn ++ pins, p.1 ≠ a) :
    ∃ G : Heap, (∀ b o, G.get? b = some o → s.heap.get? b = some o) ∧ (∀ a ∈ l, G.get? a = none) ∧ Inv X pins σ H { s with heap := G } := by
  obtain ⟨G, g1, g2⟩ := restrict s.heap fun b => !decide (b ∈ l)
  have gk : ∀ b o, b ∉ l → s.heap.get? b = some o → G.get? b = some o := fun b o hb e => by
    rw [g1 b (by simp [hb])]; exact e
  have ga : ∀ a ∈ l, G.get? a = none := fun a ha => g2 a (by simp [ha])
  have gs : ∀ b o, G.get? b = some o → s.heap.get? b = some o := fun b o e => by
    by_cases hb : b ∈ l
    · rw [ga b hb] at e; cases e
    · rw [← g1 b (by simp [hb])]; exact e
  have ne0 : ∀ b o, X.s_0.heap.get? b = some o → b ∉ l := fun b o e hb => by rw [(hl b hb).2.1] at e; cases e
  have neH : ∀ b o, H b = some o → b ∉ l := fun b o e hb => by rw [(hl b hb).1] at e; cases e
  have hex : ∀ b, b ∉ X.ex := fun b hb => by rw [hx] at hb; cases hb
  have cellK : ∀ x c, X.env.cells.lookup x = some c → ∀ v, s.heap.IsCell c v → G.IsCell c v := fun x c e v ⟨o, ho, hd⟩ => ⟨o, gk c o (fun hm => (hl c hm).2.2.2.1 x c e rfl) ho, hd⟩
  refine ⟨G, gs, ga, I.ok, I.os, I.bare, ⟨fun b o e n hb hq => gk b o (ne0 b o e) (I.base.keep b o e n hb hq), fun b o e n hb hq => ?_, I.base.free, fun b o e hq => ?_, I.base.tups, I.base.frzs, I.base.tbls⟩, ?_, fun x c e => ?_, I.free, I.freeC, fun p hp => ?_, fun b u e => ?_, I.len⟩
  · obtain ⟨sl, q⟩ := I.base.slot b o e n hb hq
    exact ⟨sl, gk b _ (ne0 b o e) q⟩
  · obtain ⟨o', q⟩ := I.base.there b o e hq
    exact ⟨o', gk b o' (ne0 b o e) q⟩
  · obtain ⟨m, ⟨o, es, ep, ho, r⟩, hlk⟩ := I.loc
    refine ⟨m, ⟨o, es, ep, gk _ _ (fun hm => (hl _ hm).2.2.1 rfl) ho, r⟩, fun i x v e1 e2 e3 => ?_⟩
    obtain ⟨u, r', k⟩ := hlk i x v e1 e2 e3
    refine ⟨u, r', ?_⟩
    rcases k with k | ⟨k, c, ec, z⟩
    · exact .inl k
    · exact .inr ⟨k, c, ec, cellK x c ec _ z⟩
  · obtain ⟨v, z⟩ := I.cell x c e
    exact ⟨v, cellK x c e v z⟩
  · obtain ⟨e, n, ne, nf, d⟩ := I.pin p hp
    exact ⟨gk _ _ (fun hm => (hl _ hm).2.2.2.2 p hp rfl) e, n, ne, nf, d⟩
  · refine (I.hok b u e).stay (fun c v hc q => gk c v ?_ q) (fun _ q => q) fun _ _ q => q
    rcases hc with z | z
    · rw [z]; exact neH b u e
    · exact neH _ _ z
/-- the suite may raise what it handles once more -/
def ReOk (X : Cx) (a : Addr) (pn : List (Addr × Obj)) (cls : Value) (d : Option Addr) (Wout : WX) : Prop :=
  ∀ (pn' : List (Addr × Obj)) (σ : L2.St) (H : Hp) (s : Shared) (Q : Flow → Shared → Prop), Inv (suiteX X a pn) pn' σ H s → Wout cls d σ H → wpAny (model X.prog X.w) (X.A.mark (some (.ref a))) (raiseStmt X.env none none) Q X.xe s
section
variable {X : Cx} {x : Str} {c : Value} {body suite : List Stmt} {b₀ : Stmt} {np pos pos' : Pos} {tb : WX → TS} {ts : Addr → Value → Option Addr → TS} {Wout : WX}
theorem ps_reraise {a : Addr} {pn : List (Addr × Obj)} {cls : Value} {d : Option Addr} (re : ReOk X a pn cls d Wout) : PS (suiteX X a pn) (.Raise none none pos) (fun _ σ H => Wout cls d σ H) := by
  refine ⟨fun pins s σ H D I h => ?_⟩
  show wpAny _ _ (do standAt pos; raiseStmt X.env none none) _ _ _
  exact wpAny_bind (wpAny_standAt (re pins σ H s _ I h))
theorem reOk_mk {pins : List (Addr × Obj)} {a T : Addr} {oe oT : Obj} {vs ts' : Array Value} {cls : Value} {d : Option Addr} (hs : X.stack = X.env :: X.outer) (hf : X.env.frame = some X.env.locals) (hx : X.ex = []) (ok : X.Ok) (tk : L2.Takes X Wout)
    (ha0 : X.s_0.heap.get? a = none) (hT0 : X.s_0.heap.get? T = none) (hTa : T ≠ a) (hz : Zc cls d oe) (hd : oe.data = .fields vs) (h1 : vs[1]? = some (.ref T)) (hdT : oT.data = .fields ts') (h3 : ts'[3]? = some .none)
    (np : ∀ p ∈ X.pn ++ pins, p.1 ≠ a ∧ p.1 ≠ T) : ReOk X a ((a, oe) :: (T, oT) :: (X.pn ++ pins)) cls d Wout := by
  intro pn' σ H s Q I w
  have J : Inv X pins σ H s := ⟨ok, I.os, I.bare, I.base, I.loc, I.cell, I.free, I.freeC, fun p hp => I.pin p (List.mem_append_left _ (List.mem_cons_of_mem _ (List.mem_cons_of_mem _ hp))), I.hok, I.len⟩
  obtain ⟨pa, na, nla, nfa, nca⟩ := I.pin (a, oe) (List.mem_append_left _ List.mem_cons_self)
  obtain ⟨pT, nT, nlT, nfT, ncT⟩ := I.pin (T, oT) (List.mem_append_left _ (List.mem_cons_of_mem _ List.mem_cons_self))
  have notc : ∀ {b : Addr} {o : Obj} {ws : Array Value}, s.heap.get? b = some o → o.data = .fields ws → ∀ x c, X.env.cells.lookup x = some c → c ≠ b := fun {b o ws} e q x c hc z => by
    obtain ⟨v, o', e', q'⟩ := J.cell x c hc
    rw [z, e] at e'; cases e'
    rw [q] at q'; cases q'
  obtain ⟨G, gs, ga, JG⟩ := inv_cut J hx [a, T] (fun b hb => by
    simp only [List.mem_cons, List.not_mem_nil, or_false] at hb
    rcases hb with rfl | rfl
    · exact ⟨na, ha0, nla, notc pa hd, fun p hp => (np p hp).1⟩
    · exact ⟨nT, hT0, nlT, notc pT hdT, fun p hp => (np p hp).2⟩)
  have fl : HandSPX.FlyingZ (PySem.W.hideAll G (frs X.stack)) (X.env :: X.outer) a (Zc cls d) s.heap := by
    refine ⟨fun b o e => gs b o (PySem.W.of_hideAll _ e), ?_, ?_, oe, vs, T, oT, ts', pa, hz, hd, h1, ?_, hTa, pT, hdT, h3⟩
    · cases q : (PySem.W.hideAll G (frs X.stack)).get? a with
      | none => rfl
      | some o => have z := PySem.W.of_hideAll _ q; rw [ga a (by simp)] at z; cases z
    · rw [← hs]; exact funFrames_none J.stack fun b hb => PySem.W.hideAll_none _ hb
    · cases q : (PySem.W.hideAll G (frs X.stack)).get? T with
      | none => rfl
      | some o => have z := PySem.W.of_hideAll _ q; rw [ga T (by simp)] at z; cases z
  unfold raiseStmt
  dsimp only
  refine wpAny_bind (wpAny_handled ?_)
  rw [show (X.A.mark (some (.ref a))).handled = some (.ref a) from rfl]
  dsimp only
  refine wpAny_bind (wpAny_rule ?_)
  refine wpAny_bind (wpAny_field pa hd h1 ?_)
  rw [if_neg (show ¬ ((Value.ref T == Value.none) = true) from by simp)]
  have fin : wpAny (model X.prog X.w) (X.A.mark (some (.ref a))) (setFlight (.ref a) X.env.frame) (fun _ s4 => wpAny (model X.prog X.w) (X.A.mark (some (.ref a))) (throw (.ref a) : Sem Flow) Q X.xe s4) X.xe s := by
    rw [hf]
    refine HandSPX.setFlight_upZ fl fun h4 hh4 up4 => wpAny_throw (tk _ _ ?_)
    exact ⟨a, PySem.W.hideAll G (frs X.stack), { s with heap := G }, pins, σ, H, cls, d, rfl, JG, fun b o e hb => PySem.W.hideAll_get _ e hb, (Heap.UpToSlots.of_keeps gs).trans up4, .inr (.inr (by have z := hh4; rw [← hs] at z; exact z)), na, rfl, I.bare, w⟩
  first
    | exact wpAny_bind (wpAny_pure (wpAny_bind fin))
    | exact wpAny_bind fin
/-- try .. except X: suite, the suite may end in a raise of its own exception -/
theorem ps_try_onlyR (hs : X.stack = X.env :: X.outer) (hf : X.env.frame = some X.env.locals) (hx : X.ex = []) (hc : Names X x c) (hpa : ∀ hd : Option Value, PassesOwnAt (model X.prog X.w) (X.A.mark hd) X.A X.env X.xe) (tk : L2.Takes X Wout)
    (hb : ∀ (W : WX) (pn : List (Addr × Obj)) (xe : Value → Shared → Prop), L2N.Takes (X.tr pn xe) W → PassesOwn (model X.prog X.w) X.A X.env xe → PSs (X.tr pn xe) body (tb W))
    (hsu : ∀ (a : Addr) (cls : Value) (d : Option Addr) (pn : List (Addr × Obj)), HotC (suiteX X a pn) → ReOk X a pn cls d Wout → PSs (suiteX X a pn) (b₀ :: suite) (ts a cls d)) :
    PS X (.Try body [.ExceptHandler (some (.Name x np)) none (b₀ :: suite) pos'] [] [] pos) (fun D σ H => tb (wOnly X.K c ts Wout D) D σ H) := by
  refine ⟨fun pins s σ H D I h => ?_⟩
  have ok := I.ok
  have hfr : X.A.frames = some (X.env :: X.outer) := by rw [ok.frames, hs]
  have notFr : ∀ {B h : Heap} {a : Addr} {o : Obj} {vs : Array Value}, h.FunFrames B (X.env :: X.outer) → h.get? a = some o → o.data = .fields vs → a ∉ frs (X.env :: X.outer) := fun {B h a o vs} ff e dd hm => by
    obtain ⟨_, o', e', hnf⟩ := ff.mem hm
    rw [e] at e'; cases e'
    exact hnf _ dd
  have hex : ∀ b, b ∉ X.ex := fun b hb => by rw [hx] at hb; cases hb
  refine wpAny_Try_except ?_
  refine wpAny_mono ((hb (wOnly X.K c ts Wout D) (X.pn ++ pins) (fun e s₁ => wpAny (model X.prog X.w) X.A (noteFrame e X.env) (fun _ s₂ => wpAny (model X.prog X.w) X.A (setFlight e none) (fun _ s₃ =>
    wpAny (model X.prog X.w) X.A (handleBy e X.env [.ExceptHandler (some (.Name x np)) none (b₀ :: suite) pos']) (SP X pins D) X.xe s₃) X.xe s₂) X.xe s₁) (fun u s' xx => ?_) PassesOwn.looking).run [] s σ H D (I.toTry _) h) (fun f s1 hsp => ?_) (fun e s1 he => he)
  · obtain ⟨a, B, sI, pins', σ', H', cls, d, rfl, J', nb, up, sky, na, os, ag, b, hb1, hyes, hno⟩ := xx
    have J : Inv X pins σ' H' sI := J'.ofTry ok
    have sky' : L2.Sky B (X.env :: X.outer) a (L2N.Zn cls d) X.env.locals s'.heap := by rw [← hs]; exact sky
    show wpAny (model X.prog X.w) X.A (noteFrame (.ref a) X.env) _ _ _
    refine L2N.Sky.land L2N.Zn.steady hfr hf sky' fun h3 fl3 up3 => ?_
    have J3 : Inv X pins σ' H' { s' with heap := h3 } := J.landed nb fl3.1 (up.trans up3) os ag
    obtain ⟨oe3, vs3, he3, hz3, hd3⟩ := fl3.there
    have nfr : a ∉ frs (X.env :: X.outer) := notFr fl3.2.2.1 he3 hd3
    have inL : ∀ b, b ∉ frs (X.env :: X.outer) → b ≠ X.env.locals ∧ b ∉ X.fs := fun b hb => ⟨fun z => hb (List.mem_filterMap.mpr ⟨X.env, List.mem_cons_self, by rw [hf, z]⟩), fun hm => by
      obtain ⟨e, he, q⟩ := List.mem_filterMap.mp hm
      exact hb (List.mem_filterMap.mpr ⟨e, List.mem_cons_of_mem _ he, q⟩)⟩
    obtain ⟨nL, nF⟩ := inL a nfr
    have S3 := J3.suite he3 hd3 na nL nF
    refine wpAny_handleBy_cons (codeAny_handlers_test ?_) (by intro q; cases q)
    have LT : PySem.W.Looks (model X.prog X.w) h3 (typeOf (.ref a)) cls := fun A Q E s k q => wpAny_typeOf_ref (k _ _ he3) (by rw [hz3.1]; exact q)
    have LM := PySem.W.exm_one (M := model X.prog X.w) (J3.kIn) LT hb1
    have test : ∀ {Q : Value → Shared → Prop} {E : Value → Shared → Prop}, Q c { s' with heap := h3 } → wpAny (model X.prog X.w) (X.A.mark (some (.ref a))) (eval (.Name x np) X.env) Q E { s' with heap := h3 } := fun {Q E} q => by
      obtain ⟨hg, hdbg, hm | ⟨hm, hv, hnn⟩⟩ := hc
      · exact ld_glob (X := X.suite a ((a, oe3) :: (X.pn ++ pins))) S3 hg hm q hdbg
      · exact ld_blt (X := X.suite a ((a, oe3) :: (X.pn ++ pins))) S3 hg hm hv q hnn hdbg
    refine test (LM.here ?_)
    cases b with
    | true =>
      refine codeAny_handlers_suite ?_
      refine HandSPX.lands_againZ fl3 fun h4 fl4 up4 => ?_
      have J4 : Inv X pins σ' H' { s' with heap := h4 } := J.landed nb fl4.1 ((up.trans up3).trans up4) os ag
      obtain ⟨k1, k2, k3, oe4, vs4, T, oT, ts4, he4, hz4, hd4, h14, hnT, hTa, hT4, hdT, h34⟩ := id fl4
      have nfT : T ∉ frs (X.env :: X.outer) := notFr k3 hT4 hdT
      obtain ⟨nLT, nFT⟩ := inL T nfT
      have nT : H' T = none := (J.inGround nb).gone hnT
      have noI : ∀ b, B.get? b = none → b ∉ frs (X.env :: X.outer) → sI.heap.get? b = none := fun b hB hfb => by
        cases q : sI.heap.get? b with
        | none => rfl
        | some o => have z := nb b o q (by rw [hs]; exact hfb); rw [hB] at z; cases z
      have no0 : ∀ b, sI.heap.get? b = none → X.s_0.heap.get? b = none := fun b hb => by
        cases q : X.s_0.heap.get? b with
        | none => rfl
        | some o => obtain ⟨o', z⟩ := J.base.there b o q (hex b); rw [hb] at z; cases z
      have nIa := noI a k2 nfr
      have nIT := noI T hnT nfT
      have S4 := suiteX_of (J4.suite he4 hd4 na nL nF)
      have S5 : Inv (suiteX X a ((a, oe4) :: (T, oT) :: (X.pn ++ pins))) [] σ' H' { s' with heap := h4 } := by
        refine ⟨⟨S4.ok.mod, S4.ok.kind, S4.ok.glob, S4.ok.blt, S4.ok.above, S4.ok.inj, S4.ok.has, S4.ok.cab, S4.ok.hd, S4.ok.frames, S4.ok.stk, S4.ok.exf, S4.ok.bs, S4.ok.bsz, S4.ok.noex, S4.ok.exfs, S4.ok.funs, S4.ok.frf⟩, S4.os, S4.bare, S4.base, S4.loc, S4.cell, S4.free, S4.freeC, fun p hp => ?_, S4.hok, S4.len⟩
        have hp' : p ∈ (a, oe4) :: (T, oT) :: (X.pn ++ pins) := by rw [List.append_nil] at hp; exact hp
        rcases List.mem_cons.mp hp' with e | hp'
        · exact S4.pin p (List.mem_append_left _ (by rw [e]; exact List.mem_cons_self))
        rcases List.mem_cons.mp hp' with e | hp'
        · rw [e]; exact ⟨hT4, nT, nLT, nFT, fun v z => by have z' : oT.data = .cell v := z; rw [hdT] at z'; cases z'⟩
        · exact S4.pin p (List.mem_append_left _ (List.mem_cons_of_mem _ hp'))
      have re : ReOk X a ((a, oe4) :: (T, oT) :: (X.pn ++ pins)) cls d Wout := reOk_mk hs hf hx ok tk (no0 a nIa) (no0 T nIT) hTa hz4.zc hd4 h14 hdT h34 fun p hp => by
        have e := (J.pin p hp).1
        exact ⟨fun z => (by rw [z, nIa] at e; cases e), fun z => (by rw [z, nIT] at e; cases e)⟩
      have hot : HotC (suiteX X a ((a, oe4) :: (T, oT) :: (X.pn ++ pins))) := ⟨(a, oe4), ⟨rfl, vs4, hd4, hz4.2.2 vs4 hd4⟩, List.mem_cons_self⟩
      have un : ∀ {pn' : List (Addr × Obj)} {σ6 : L2.St} {H6 : Hp} {s6 : Shared}, Inv (suiteX X a ((a, oe4) :: (T, oT) :: (X.pn ++ pins))) pn' σ6 H6 s6 → Inv X pins σ6 H6 s6 := fun {pn' σ6 H6 s6} I6 =>
        ⟨ok, I6.os, I6.bare, I6.base, I6.loc, I6.cell, I6.free, I6.freeC, fun p hp => I6.pin p (List.mem_append_left _ (List.mem_cons_of_mem _ (List.mem_cons_of_mem _ hp))), I6.hok, I6.len⟩
      refine wpAny_mono ((hsu a cls d _ hot re).run [] _ _ H' _ S5 (hyes rfl a na)) (fun f s6 hsp => ?_) (fun e6 s6 z => hpa (some (.ref a)) e6 s6 z)
      cases f with
      | next => obtain ⟨σ6, H6, S6, q6⟩ := hsp; exact ⟨_, _, un S6, q6⟩
      | brk => obtain ⟨σ6, H6, S6, q6⟩ := hsp; exact ⟨_, _, un S6, q6⟩
      | cont => obtain ⟨σ6, H6, S6, q6⟩ := hsp; exact ⟨_, _, un S6, q6⟩
      | ret u => obtain ⟨v6, σ6, H6, S6, r6, q6⟩ := hsp; exact ⟨_, _, _, un S6, r6, q6⟩
    | false =>
      show wpAny _ X.A (handleBy (.ref a) X.env []) _ _ _
      refine wpAny_handleBy_nil ?_
      obtain ⟨k1, k2, k3, oe, vs, T, oT, ts', he, hz, hd, h1, hr⟩ := id fl3
      unfold PySem.passOn
      refine wpAny_bind (wpAny_field he hd h1 ?_)
      rw [if_neg (show ¬ ((Value.ref T == Value.none) = true) from by simp)]
      have fin : wpAny (model X.prog X.w) X.A (setFlight (.ref a) X.env.frame) (fun _ s4 => wpAny (model X.prog X.w) X.A (throw (.ref a) : Sem Flow) (SP X pins D) X.xe s4) X.xe { s' with heap := h3 } := by
        rw [hf]
        refine HandSPX.setFlight_upZ (flyingZ_imp (fun o z => L2N.Zn.zc z) fl3) fun h4 hh4 up4 => wpAny_throw (tk _ _ ?_)
        exact ⟨a, B, sI, pins, σ', H', cls, d, rfl, J, nb, (up.trans up3).trans up4, .inr (.inr (by rw [hs]; exact hh4)), na, os, ag, hno rfl⟩
      first
        | exact wpAny_bind (wpAny_pure (wpAny_bind fin))
        | exact wpAny_bind fin
  · cases f with
    | next => obtain ⟨σ', H', J', q⟩ := hsp; exact wpAny_execs_nil ⟨σ', H', J'.ofTry ok, q⟩
    | brk => obtain ⟨σ', H', J', q⟩ := hsp; exact ⟨σ', H', J'.ofTry ok, q⟩
    | cont => obtain ⟨σ', H', J', q⟩ := hsp; exact ⟨σ', H', J'.ofTry ok, q⟩
    | ret u => obtain ⟨v, σ', H', J', r, q⟩ := hsp; exact ⟨v, σ', H', J'.ofTry ok, r, q⟩
end
end Br

/-! a, b, .. = a tuple, in an except suite. -/
namespace Br
open PySem PySem.Spec PyProof.Rows L2 L2H HotX
section
variable {prog : Program} {w : World} {A : Around} {E : Value → Shared → Prop} {s : Shared}
theorem next_tup_end_hot {it t x1 : Addr} {i : Nat} {items} {Q : Option Value → Shared → Prop} (hot : HotAt A x1 s.heap)
    (hit : s.heap.IsTupleIter it t i) (ht : s.heap.IsTuple t items) (hx : items[i]? = none)
    (hQ : ∀ h', Heap.ExtBut it s.heap h' → Q none { s with heap := h' }) : wpAny (model prog w) A (pyNext (.ref it)) Q E s := by
  obtain ⟨o, ho, hc, hd⟩ := id hit
  obtain ⟨ol, hol, _, nl, hdl⟩ := ht
  obtain ⟨hh, o1, vs1, h1, d1, c1⟩ := hot
  have hne : it ≠ x1 := fun z => by
    rw [← z, ho] at h1; cases h1
    rw [hd] at d1; cases d1
    simp at c1
  have h1' : ∀ f : Obj → Obj, (s.heap.update it f).get? x1 = some o1 := fun f => (Heap.get?_update_other _ _ hne).trans h1
  unfold pyNext
  refine wpAny_bind (wpAny_attempt (wpAny_callSpecial?_slot (name := Str.ofString "__next__") hit.typeIs F.slot_tuple_iterator_next
    (wpAny_call_entry F.slot_tuple_iterator_next hit.typeIs F.entry_tuple_iterator_next ?_ (F.args_tuple_iterator_next_1 _))))
  show wpAny _ _ (field (.ref it) 0 >>= _) _ _ s
  refine wpAny_bind (wpAny_field ho hd (x := .ref t) rfl ?_)
  show wpAny _ _ (if (Value.ref t == Value.none) = true then _ else _) _ _ s
  rw [if_neg (show ¬ ((Value.ref t == Value.none) = true) from Bool.false_ne_true)]
  show wpAny _ _ (field (.ref it) 1 >>= _) _ _ s
  refine wpAny_bind (wpAny_field ho hd (x := .int i 0) rfl ?_)
  show wpAny _ _ (seqItems? (.ref t) >>= _) _ _ s
  refine wpAny_bind (wpAny_seqItems hol hdl ?_)
  simp only [Int.toNat_natCast, hx]
  refine wpAny_bind (wpAny_rule (wpAny_bind (wpAny_setField ho hd (by simp) ?_)))
  show wpAny _ _ (newExc (.type "StopIteration") [] >>= _) _ _ _
  refine wpAny_bind ?_
  simp only [newExc, newTuple]
  refine wpAny_bind (wpAny_newObj_type ?_ (by size_fits))
  refine wpAny_bind (m := firstArgMember _ _) (wpAny_of_eq (a := Value.none) (by first | rfl | (simp only [firstArgMember]; rfl)) ?_)
  refine wpAny_newObj_type ?_ (by size_fits)
  refine raiseNew_hot ⟨hh, o1, vs1, Heap.get?_push_of_some _ (Heap.get?_push_of_some _ (h1' _)), d1, c1⟩ (Nat.ne_of_lt (Heap.lt_size (Heap.get?_push_of_some _ (h1' _)))) (Heap.get?_push_size _ rfl) rfl (by first | (simp; done) | (simp; omega) | (simp only [Array.size_append]; simp; omega)) ?_
  refine wpAny_bind (wpAny_isInstance (T := "StopIteration") (b := true) ⟨_, Heap.get?_update_self _ (Heap.get?_push_size _ rfl) rfl, rfl⟩ isSubtype_stop ?_)
  refine wpAny_pure (hQ _ fun b u hb e => ?_)
  have e1 : (s.heap.update it (Obj.mapFields (·.setIfInBounds 0 Value.none))).get? b = some u := (Heap.get?_update_other _ _ (Ne.symm hb)).trans e
  have e2 := Heap.get?_push_of_some (h := s.heap.update it (Obj.mapFields (·.setIfInBounds 0 Value.none))) { cls := .type "tuple", data := .seq ([] : List Value).toArray } e1
  first
    | exact (Heap.get?_update_other _ _ (Nat.ne_of_gt (Heap.lt_size e2))).trans (Heap.get?_push_of_some _ e2)
    | (rw [Heap.get?_update_other _ _ (Nat.ne_of_gt (Heap.lt_size (Heap.get?_push_of_some _ e1)))]; exact Heap.get?_push_of_some _ (Heap.get?_push_of_some _ e1))
theorem unpack_tup_hot {t x1 : Addr} {items : Array Value} {Q : List Value → Shared → Prop} (hot : HotAt A x1 s.heap) (ht : s.heap.IsTuple t items)
    (hQ : ∀ h', Heap.ExtBut s.heap.objs.size s.heap h' → Q items.toList { s with heap := h' }) : wpAny (model prog w) A (unpackItems (.ref t) items.size none) Q E s := by
  have hlt : t ≠ s.heap.objs.size := by obtain ⟨o, ho, _⟩ := ht; exact Nat.ne_of_lt (Heap.lt_size ho)
  obtain ⟨hh, o1, vs1, h1, d1, c1⟩ := hot
  unfold unpackItems
  refine wpAny_bind ?_
  · unfold notIterableAtAll
    refine wpAny_bind (wpAny_specialOf ht.typeIs F.slot_tuple_iter.lookup ?_)
    refine wpAny_pure ?_
    simp only [Bool.false_eq_true, if_false]
    refine wpAny_bind (wpAny_holding (wpAny_pyIter_tuple ht ?_))
    refine wpAny_bind (wpAny_holding (wpAny_draw_tuple hlt items.size 0 _ _ ⟨_, Heap.get?_push_size _ rfl, rfl, rfl⟩ (ht.push _) (by omega) fun h₁ hit₁ hs₁ => ?_))
    have hall : List.take items.size (List.drop 0 items.toList) = items.toList := by
      rw [List.drop_zero]; exact List.take_of_length_le (by simp)
    rw [hall]
    rw [if_neg (by simp)]
    have ht₁ : h₁.IsTuple t items := (ht.push _).extBut hs₁.extBut hlt
    have hot₁ : HotAt A x1 h₁ := ⟨hh, o1, vs1, hs₁.extBut x1 o1 (Nat.ne_of_lt (Heap.lt_size h1)) (Heap.get?_push_of_some _ h1), d1, c1⟩
    refine wpAny_bind (wpAny_holding (next_tup_end_hot hot₁ hit₁ ht₁ (by simp) fun h₂ he₂ => ?_))
    simp only [Option.isSome_none, Bool.false_eq_true, if_false]
    refine wpAny_pure (hQ h₂ fun b o hb e => he₂ b o hb (hs₁.extBut b o hb (Heap.get?_push_of_some _ e)))
theorem assign_tup_hot {env : Env} {elts : List Expr} {x0} {pos : Pos} {t x1 : Addr} {items : Array Value} {Q : Unit → Shared → Prop} (hot : HotAt A x1 s.heap) (ht : s.heap.IsTuple t items)
    (hn : (assignEach elts env).length = items.size) (hstar : (assignEach elts env).findIdx? (·.1) = none)
    (h : ∀ h', Heap.ExtBut s.heap.objs.size s.heap h' → wpAny (model prog w) A (assignInOrder ((assignEach elts env).map (·.2)) items.toList) Q E { s with heap := h' }) :
    wpAny (model prog w) A (assign (.Tuple elts x0 pos) env (.ref t)) Q E s := by
  rw [arm_assign_Tuple]
  refine wpAny_bind (wpAny_standAt ?_)
  unfold unpack
  rw [hn, hstar]
  exact wpAny_bind (wpAny_holding (unpack_tup_hot hot ht h))
end
section
variable {X : Cx} {K : PySem.W.Frag} {pos : Pos}
theorem pg_tupH (hK : X.K = K) {es : List Expr} {k : Nat} {t : TGs} {n : Nat} (hc : HotC X) (h : PGs X es t)
    (hn : (assignEach es X.env).length = n := by rfl) (hst : (assignEach es X.env).findIdx? (·.1) = none := by rfl) : PG X (.Tuple es k pos) (gTup K n t) := by
  subst hK
  refine ⟨fun pins s σ H v u Q I r hw => ?_⟩
  obtain ⟨a, xs, e1, hq, hl, hw⟩ := hw
  subst e1
  cases r
  obtain ⟨its, rv, ht, hz⟩ := I.tuple hq
  obtain ⟨x1, hot⟩ := hc.at I
  have ht' : s.heap.IsTuple a its.toArray := ht
  refine assign_tup_hot hot ht' (by simp [hn, ← hl, rv.length]) hst fun h' hx => ?_
  have I1 : Inv X pins σ H { s with heap := h' } := I.kept (t' := s.toks) fun b o e => hx b o (Nat.ne_of_lt (Heap.lt_size e)) e
  exact h.run pins _ σ H xs _ Q I1 (by simpa using rv) hw
end
end Br

namespace Br
open PySem PySem.Spec PyProof.Rows L2
/-! ### the first error of several operations -/
def firstS (f : Bst → Option Str) : Except Str (Res × Bst) → Option Str
  | .error e => some e
  | .ok (_, b') => f b'
def firstE (r : Rota) : List Op → Bst → Option Str
  | [], _ => none
  | op :: t, b => firstS (firstE r t) (doOp r b op)
theorem firstE_drop {r : Rota} : ∀ {ops : List Op} {b c : Bst} {ys : List Res} (i : Nat), doOps r (ops.take i) b = some (ys, c) → firstE r ops b = firstE r (ops.drop i) c
  | _, b, _, _, 0, h => by cases h; rfl
  | [], b, _, _, i + 1, h => by cases h; rfl
  | op :: t, b, c, ys, i + 1, h => by
    have h2 : stepOps (doOps r (t.take i)) (doOp r b op) = some (ys, c) := h
    show firstS (firstE r t) (doOp r b op) = firstE r (t.drop i) c
    cases hd : doOp r b op with
    | error e => rw [hd] at h2; cases h2
    | ok xb =>
      obtain ⟨x, b1⟩ := xb
      rw [hd] at h2
      have h3 : andThen x (doOps r (t.take i) b1) = some (ys, c) := h2
      cases ht : doOps r (t.take i) b1 with
      | none => rw [ht] at h3; cases h3
      | some yc =>
        obtain ⟨y0, c0⟩ := yc
        rw [ht] at h3
        cases h3
        exact firstE_drop i ht
/-- either all work or there is a first error -/
theorem ops_either {r : Rota} : ∀ (ops : List Op) (b : Bst), (∃ xs b', doOps r ops b = some (xs, b')) ∨ ∃ e, firstE r ops b = some e
  | [], b => .inl ⟨[], b, rfl⟩
  | op :: t, b => by
    cases hd : doOp r b op with
    | error e => exact .inr ⟨e, by show firstS _ (doOp r b op) = _; rw [hd]; rfl⟩
    | ok xb =>
      obtain ⟨x, b1⟩ := xb
      rcases ops_either t b1 with ⟨xs, b', h⟩ | ⟨e, h⟩
      · exact .inl ⟨x :: xs, b', by show stepOps _ (doOp r b op) = _; rw [hd]; show andThen x (doOps r t b1) = _; rw [h]; rfl⟩
      · exact .inr ⟨e, by show firstS _ (doOp r b op) = _; rw [hd]; exact h⟩
section
variable {CB : Addr} {z : Bz} {r : Rota} {b b' : Bst} {S : List (Str × Bst)} {H H' : Hp}
/-- the book with lists that were kept beside it -/
theorem BkAt.back (hb : BkAt CB z r b S H) (pl ul nb : Addr) (w : Wd [z.x] H H' []) (hx : H' z.x = some (.ins CB z.dx (bkF { z with pl := pl, ul := ul } nb))) (lt : LsT H' nb pl ul b') (np : pl ∉ z.own) (nu : ul ∉ z.own) (ne : pl ≠ ul) : BkAt CB { z with pl := pl, ul := ul } r b' S H' := by
  obtain ⟨na, h1, h2⟩ := hb.na
  obtain ⟨kvs, s1, s2⟩ := hb.sv
  have mu : Mu H [z.x] := fun a ha => by rw [List.mem_singleton.mp ha, h1]; exact ⟨fun _ => by simp, fun _ _ => by simp⟩
  have sv : H' z.sv = some (.dK kvs) := w.base _ _ (by simpa using (ne_of s1 h1 (by intro q; cases q))) s1
  have sn : ∀ a ∈ z.sn, H' a = H a := fun a ha => by
    obtain ⟨xs, e⟩ := hb.sl a ha
    exact w.same (by rw [e]; simp) (fun hm => hb.xn (by rw [List.mem_singleton.mp hm] at ha; exact ha))
  refine ⟨⟨nb, hx, lt⟩, hb.ro.keepM w mu, ⟨kvs, sv, paired_imp (fun _ _ e => e.keep w.tups (fun _ h => h) sn) s2⟩, ne, ⟨fun hm => np (by simp [Bz.own, hm]), fun hm => nu (by simp [Bz.own, hm])⟩, fun a ha => ?_, hb.xn, fun a ha => by rw [sn a ha]; exact hb.sl a ha⟩
  obtain ⟨_, ⟨as, p1, _⟩, us, u1, _⟩ := lt
  simp only [Bz.own, List.mem_cons] at ha
  rcases ha with h | h | h | h | h
  · rw [h, hx]; simp
  · rw [h, p1]; simp
  · rw [h, u1]; simp
  · rw [h, sv]; simp
  · obtain ⟨xs, e⟩ := hb.sl a h; rw [sn a h, e]; simp
end
section
variable {P : Program} {w : World} {K : PySem.W.Frag} {mg : Str → Option Value} {base : Heap} {CB CC CU CN CR : Addr}
/-- a batch of which an operation fails -/
def spBatchF (CB CC CU CN : Addr) : Sp := fun vs H _ E => ∃ (z : Bz) (la : Addr) (oas : List Addr) (ops : List Op) (r : Rota) (b : Bst) (S : List (Str × Bst)) (m : Nat) (e : Str), vs = [.ref z.x, .ref la] ∧ ROk r ∧ BOk r b ∧ BSz m b ∧ m ≤ 100 ∧ BkAt CB z r b S H ∧ H la = some (.lst (oas.map V.ref)) ∧ la ∉ z.own ∧ OpsT H oas ops ∧ (∀ op ∈ ops, OpOk r op) ∧ ops.length ≤ 60 ∧
  firstE r ops b = some e ∧ ∀ (H' : Hp) (z' : Bz), z'.x = z.x → Wd z.own H H' [] → (∀ a ∈ z'.own, a ∈ z.own ∨ H a = none) → BkAt CB z' r b S H' → E (.ref (errC CC CU CN e)) none H'
theorem me_batchF (D : MethAt K CB "batch" "Book.batch" sBook_batch ["self", "operations"]) (T : Bi mg) (BC : BkCls K CB) (gR : mg "RotaError" = some (.ref CR)) (eX : ∀ e : Str, PySem.W.exmOne K (.ref (errC CC CU CN e)) (.ref CR) = some true)
    (C1 : Cal P w K mg base 1 "is_operation" ["value"] spIsOp) (C2 : MeN P w K mg base 5 CB "execute" ["self", "operation"] (spLDo CB CC CU CN)) : MeX P w K mg base 6 CB "batch" ["self", "operations"] (spBatchF CB CC CU CN) := D.meX fun f fd F => by
  have nd := scBook_batch.nd
  have cl_Book := BC.cl
  obtain ⟨f1, fd1, m_is_operation, kp_is_operation, b_is_operation, G_is_operation⟩ := C1.ex
  obtain ⟨f2, fd2, me_execute, b_execute, G_execute⟩ := C2.ex
  refine F.okX scBook_batch (fun vs H Q E h => ?_) (fun cdv A outer s H vs Q E hr h => ?_)
  · obtain ⟨z, la, oas, ops, r, b, S, m, e, rfl, _⟩ := h; rfl
  obtain ⟨z, la, oas, ops, r, b, S, m, e, rfl, ok, bo, bs, hm, hb, hla, hlz, ho, hop, hol, hfe, q⟩ := h
  refine ⟨_, (pss_cons (ps_if (pt_not (pt_val (pe_callB call_isi (by rfl) T.isinstance (by decide +kernel) (pa_cons (pv 1) (pa_cons (pe_bltn (v := .ty "list") (by rfl) T.list (by decide +kernel) rfl) pa_nil)))))
 pss_never
 pss_nil)
 (pss_cons (ps_for (passes_of rfl) rfl (pi_enum (by rfl) T.enumerate (pa_cons (pv 1) pa_nil)) (pg_tupK (K := K) (n := 2) rfl rfl (pgs_cons (pg_name (i := 2) nd rfl (Or.inl rfl)) (pgs_cons (pg_name (i := 3) nd rfl (Or.inl rfl)) pgs_nil)))
 (pss_one (ps_if (pt_not (pt_val (pe_call G_is_operation (hr.mono (by first | decide | omega)) (by rfl) m_is_operation kp_is_operation b_is_operation .nil pass0 (pa_cons (pv 3) pa_nil))))
 pss_never
 pss_nil)))
 (pss_cons (ps_set (i := 4) nd rfl (Or.inl rfl) (pe_tup (pa_cons (pe_fldK (K := K) rfl (pv 0) rfl) (pa_cons (pe_callTy (r := rListOf K) call_list_of (by rfl) T.list (by decide +kernel) (pa_cons (pe_fldK (K := K) rfl (pv 0) rfl) pa_nil)) (pa_cons (pe_callTy (r := rListOf K) call_list_of (by rfl) T.list (by decide +kernel) (pa_cons (pe_fldK (K := K) rfl (pv 0) rfl) pa_nil)) pa_nil)))))
 (pss_one (ps_try_onlyR rfl rfl rfl ⟨by rfl, by decide, .inl gR⟩ (fun hd => L2H.passesAt_of rfl hd) (takes_of rfl rfl rfl rfl) (fun W pn xe tk _ => (pss_one (ps_ret (pe_lcXN (own := [("operation", 3)]) rfl rfl rfl tk nd (pi_listK (K := K) rfl (pv 1)) (blkOk_by (N := ["self", "operations", "place", "operation", "before"]) (sc := defScope sBook_batch) (by decide +kernel)) (fun _ _ _ _ _ => (pg_name (i := 3) nd rfl (Or.inl rfl))) (fun _ _ _ _ _ => pts_nil) (fun _ _ _ _ _ _ _ hp => (pe_meth (pv 0) cl_Book me_execute G_execute (hr.mono (by first | decide | omega)) b_execute .nil hp (pa_cons (pv 3) pa_nil))))))) (fun a cls d pn hot re => (pss_cons (ps_asg (pv 4) (pg_tupH (K := K) (n := 3) rfl hot (pgs_cons (pg_fld (pv 0) (K := K) rfl) (pgs_cons (pg_fld (pv 0) (K := K) rfl) (pgs_cons (pg_fld (pv 0) (K := K) rfl) pgs_nil))))) (pss_one (ps_reraise re))))))))), ?_⟩
  have lo : oas.length = ops.length := ho.length
  refine ⟨_, rfl, _, _, _, .type "list", _, rfl, .ty "list", (Ky.lst hla).ty, kit_is (K := K) (Ky.lst hla).mem (T := "list") (by decide), _, rfl, iteF ?_⟩
  refine ⟨_, rfl, la, _, rfl, SqL.of hla, ?_⟩
  refine for_it (walk_enum (xs := oas.map V.ref)) (fun i σ H' => (∃ b c d, σ = [some (.ref z.x), some (.ref la), b, c, d]) ∧ Wd [] H H' []) ⟨⟨_, _, _, rfl⟩, Wd.refl H⟩ (fun i σ H' _ h => SqL.of (h.2.base _ _ (by simp) hla)) ?_ ?_
  · rintro i x σ H3 H3' hi ⟨⟨b3, c3, d3, rfl⟩, w3⟩ ⟨T0, x1, x2, rfl, hT0, rfl, e1, e2⟩
    cases e1
    have e2 : (oas.map V.ref)[i]? = some x2 := e2
    rw [List.getElem?_map] at e2
    obtain ⟨oa, hoa, rfl⟩ := Option.map_eq_some_iff.mp e2
    obtain ⟨op, hop1, hop2⟩ := paired_at ho hoa
    have w4 := w3.new (.tup [.int (i : Nat), .ref oa]) hT0
    refine ⟨T0, _, rfl, SqT.of (w4.get 0 rfl), rfl, _, _, rfl, _, _, rfl, rfl, ?_⟩
    refine ⟨_, rfl, oa, r, op, rfl, ok, hop op (List.mem_of_getElem? hop1), w4.tups _ _ hop2, fun H5 w5 => ⟨_, rfl, iteF ?_⟩⟩
    exact ⟨⟨_, _, _, rfl⟩, (w4.sub (List.nil_sublist _)).callN w5 |>.sub (List.nil_sublist _)⟩
  rintro σ H3 ⟨⟨b3, c3, d3, rfl⟩, w3⟩
  have hb3 := hb.keep0 w3
  obtain ⟨na, hx, lt⟩ := id hb3.na
  obtain ⟨nw, ⟨as, p1, p2⟩, us, u1, u2⟩ := id lt
  refine ⟨_, rfl, z.x, CB, z.dx, _, _, rfl, hx, BC.cl, BC.n2, bk_now, _, rfl, z.x, CB, z.dx, _, _, rfl, hx, BC.cl, BC.n3, bk_past, z.pl, _, rfl, .inl (SqL.of p1), fun pn hpn => ?_⟩
  have w4 := (Wd.refl H3).new (.lst (as.map V.ref)) hpn
  have hx4 := w4.old hx (by simp)
  have u4 := w4.old u1 (by simp)
  refine ⟨_, rfl, z.x, CB, z.dx, _, _, rfl, hx4, BC.cl, BC.n4, bk_undone, z.ul, _, rfl, .inl (SqL.of u4), fun un hun => ⟨(by show 3 ≤ sizeLine; decide), fun t ht => ?_⟩⟩
  have w5 := w4.new (.lst (us.map V.ref)) hun
  have w6 := w5.new (.tup [V.ref na, V.ref pn, V.ref un]) ht
  have w36 := w3.callN w6
  have hb6 := hb3.keep0 w6
  have la6 := w36.base _ _ (by simp) hla
  have ho6 := ho.keep w36.tups
  have ht6 := w6.get 0 rfl
  have hu6 := w6.get 1 rfl
  have hp6 := w6.get 2 rfl
  have npu : pn ≠ un := ne_of_none (w4.get 0 rfl) hun
  have npz : pn ∉ z.own := fun hm => hb3.al pn hm hpn
  have nuz : un ∉ z.own := fun hm => hb3.al un hm (w4.free _ hun)
  have nw6 := nw.keep w6.tups
  have p26 := paired_imp (fun _ _ e => e.keep w6.tups) p2
  have u26 := paired_imp (fun _ _ e => e.keep w6.tups) u2
  generalize upd (upd (upd H3 pn (.lst (as.map V.ref))) un (.lst (us.map V.ref))) t (.tup [V.ref na, V.ref pn, V.ref un]) = H4 at *
  refine ⟨_, rfl, la, rfl, ⟨_, SqL.of la6⟩, fun D hD => ?_⟩
  refine lc_list (xs := oas.map V.ref) (fun i H' => ∃ (ys : List Res) (c : Bst) (vs : List V) (z' : Bz), doOps r (ops.take i) b = some (ys, c) ∧ z'.x = z.x ∧ Wd z.own H4 H' [(D, .lst vs)] ∧ (∀ a ∈ z'.own, a ∈ z.own ∨ H4 a = none) ∧ D ∉ z'.own ∧ BkAt CB z' r c S H' ∧ BOk r c ∧ BSz (m + i) c ∧ vs.length = i) ?_ ?_ ?_ ?_
  · have w7 := (Wd.refl H4).new (.lst []) hD
    exact ⟨[], b, [], z, rfl, rfl, w7.mono (fun _ h => nomatch h), fun a ha => .inl ha, fun hm => hb6.al D hm hD, hb6.keep0 w7, bo, bs, rfl⟩
  · rintro i H' _ ⟨ys, c, vs, z', _, _, w7, oz, _⟩
    exact SqL.of (w7.base _ _ hlz la6)
  · rintro i x H' hxi ⟨ys, c, vs, z', k1, ez, w7, oz, dz, bk7, bo7, bs7, lv⟩
    rw [List.getElem?_map] at hxi
    obtain ⟨oa, hoa, rfl⟩ := Option.map_eq_some_iff.mp hxi
    obtain ⟨op, hop1, hop2⟩ := paired_at ho6 hoa
    have hopk := hop op (List.mem_of_getElem? hop1)
    have hi := (List.getElem?_eq_some_iff.mp hop1).1
    have q1 := bs7.len
    have q2 := bs7.now
    have hfd := firstE_drop i k1
    rw [hfe, List.drop_eq_getElem_cons hi, (List.getElem?_eq_some_iff.mp hop1).2] at hfd
    obtain ⟨na7, zx, _⟩ := id bk7.na
    refine ⟨rfl, _, rfl, z.x, z'.dx, _, rfl, by rw [← ez]; exact zx, bk_none (by decide +kernel), _, rfl, z', oa, r, c, S, op, by rw [ez]; rfl, ok, bo7, bk7, w7.tups _ _ hop2, hopk, by omega, by omega, by omega, ?_⟩
    cases hd : doOp r c op with
    | ok xb =>
      obtain ⟨x, c'⟩ := xb
      have k2 : doOps r (ops.take (i + 1)) b = some (ys ++ [x], c') := by rw [take_more hop1]; exact doOps_app k1 (doOps_one hd)
      obtain ⟨bo8, bs8, hl8⟩ := doOp_keep ok hopk bo7 bs7 hd
      intro H8 v hres
      obtain ⟨z2, ez2, w8, oz8, bk8, rs8, nv⟩ := hres.went
      have hD7 := w7.get 0 rfl
      have hD8 : H8 D = some (.lst vs) := w8.base _ _ dz hD7
      have dz2 : D ∉ z2.own := fun hm => (oz8 D hm).elim dz fun n => by rw [n] at hD7; cases hD7
      have oz2 : ∀ a ∈ z2.own, a ∈ z.own ∨ H4 a = none := fun a ha => (oz8 a ha).elim (oz a) fun n => .inr (w7.free a n)
      have w9 := w7.goX w8 oz fun q hq => by rw [List.mem_singleton.mp hq]; exact dz
      have wD : Wd [D] H8 (upd H8 D (.lst (vs ++ [v]))) [] := ((Wd.start1 hD8).put 0 (.lst (vs ++ [v])) rfl (fun _ q => by cases q)).sub (List.nil_sublist _)
      exact ⟨vs, hD8, lt_line (by omega), ys ++ [x], c', vs ++ [v], z2, k2, ez2.trans ez, w9.put 0 (.lst (vs ++ [v])) rfl (fun _ q => by cases q), oz2, dz2, bk8.keep wD (fun a ha => by rw [List.mem_singleton.mp ha]; exact dz2) (Mu.lst hD8), bo8, bs8.mono (by omega), by rw [List.length_append, lv]; rfl⟩
    | error e' =>
      intro H8 w8
      have ee : e' = e := by
        have : some e = firstS (firstE r (ops.drop (i + 1))) (doOp r c op) := hfd
        rw [hd] at this
        exact (Option.some.inj this).symm
      subst ee
      refine ⟨true, eX e', fun _ a ha => ?_, fun q => nomatch q⟩
      have bk8 := bk7.keep0 w8
      obtain ⟨na8, zx8, _⟩ := id bk8.na
      have pz : pn ∉ z'.own := fun hm => (oz pn hm).elim npz fun n => by rw [n] at hp6; cases hp6
      have uz : un ∉ z'.own := fun hm => (oz un hm).elim nuz fun n => by rw [n] at hu6; cases hu6
      have w48 : Wd z.own H4 H8 [] := (w7.sub (List.nil_sublist _)).callN w8
      have ht8 := w48.tups _ _ ht6
      have hp8 := w48.base _ _ npz hp6
      have hu8 := w48.base _ _ nuz hu6
      have zx8' : H8 z.x = some (.ins CB z'.dx (bkF z' na8)) := by rw [← ez]; exact zx8
      have nx1 : ∀ {a : Addr} {xs : List V}, H8 a = some (.lst xs) → a ≠ z.x := fun e h => by rw [h, zx8'] at e; cases e
      refine ⟨_, rfl, t, _, rfl, SqT.of ht8, rfl, _, _, rfl, _, rfl, z.x, CB, z'.dx, _, rfl, zx8', BC.cl, BC.n2, (by show 5 < 1000; decide), ?_⟩
      rw [bk_putNow]
      have v1 := (Wd.start1 zx8').put 0 (.ins CB z'.dx (bkF z' na)) rfl (fun _ q => by cases q)
      refine ⟨_, _, rfl, _, rfl, z.x, CB, z'.dx, _, rfl, v1.get 0 rfl, BC.cl, BC.n3, (by show 5 < 1000; decide), ?_⟩
      rw [bk_putPast]
      have v2 := v1.put 0 (.ins CB z'.dx (bkF { z' with pl := pn } na)) rfl (fun _ q => by cases q)
      refine ⟨_, _, rfl, _, rfl, z.x, CB, z'.dx, _, rfl, v2.get 0 rfl, BC.cl, BC.n4, (by show 5 < 1000; decide), ?_⟩
      rw [bk_putUnd]
      have v3 := v2.put 0 (.ins CB z'.dx (bkF { z' with pl := pn, ul := un } na)) rfl (fun _ q => by cases q)
      have v3' := v3.sub (l' := []) (List.nil_sublist _)
      have hx3 := v3.get 0 rfl
      have hp3 := v3.base _ _ (by simpa using nx1 hp8) hp8
      have hu3 := v3.base _ _ (by simpa using nx1 hu8) hu8
      refine ⟨rfl, ?_⟩
      generalize upd (upd (upd H8 z.x (.ins CB z'.dx (bkF z' na))) z.x (.ins CB z'.dx (bkF { z' with pl := pn } na))) z.x (.ins CB z'.dx (bkF { z' with pl := pn, ul := un } na)) = H9 at *
      have k49 : ∀ b xs, H4 b = some (.tup xs) → H9 b = some (.tup xs) := fun b xs e => v3'.tups _ _ (w48.tups _ _ e)
      have bk9 : BkAt CB { z' with pl := pn, ul := un } r b S H9 := by
        refine bk8.back pn un na (by rw [ez]; exact v3') (by rw [ez]; exact hx3) ⟨nw6.keep k49, ⟨as, hp3, paired_imp (fun _ _ e => e.keep k49) p26⟩, us, hu3, paired_imp (fun _ _ e => e.keep k49) u26⟩ pz uz npu
      have zxo : z.x ∈ z.own := by simp [Bz.own]
      have w49 : Wd z.own H4 H9 [] := w48.goX v3' (fun a ha => .inl (by rw [List.mem_singleton.mp ha]; exact zxo)) (fun _ h => nomatch h)
      refine q H9 { z' with pl := pn, ul := un } ez (w36.pre w49) (fun a ha => ?_) bk9
      simp only [Bz.own, List.mem_cons] at ha
      rcases ha with h | h | h | h | h
      · exact (oz a (by simp [Bz.own, h])).imp id (w36.free a)
      · exact .inr (by rw [h]; exact w3.free _ hpn)
      · exact .inr (by rw [h]; exact w3.free _ (w4.free _ hun))
      · exact (oz a (by simp [Bz.own, h])).imp id (w36.free a)
      · exact (oz a (by simp [Bz.own, h])).imp id (w36.free a)
  · rintro H' ⟨ys, c, vs, z', k1, ez, w7, oz, dz, bk7, bo7, bs7, lv⟩
    have hfd := firstE_drop _ k1
    rw [hfe, List.length_map, lo, List.drop_length] at hfd
    cases hfd
end
end Br

/-! Lambdas that are kept in lists and called later: what is told of the made function, and its call. -/
namespace Br
open PySem PySem.Spec PyProof.Rows L2
/-! ### the old untracked objects -/
def Kept (H0 : Hp) (h0 : Heap) (H : Hp) (h : Heap) : Prop := ∀ c o, h0.get? c = some o → H0 c = none → (∃ sl, h.get? c = some { o with slots := sl }) ∧ H c = none
theorem Kept.trans {H0 H1 H2 : Hp} {h0 h1 h2 : Heap} (a : Kept H0 h0 H1 h1) (b : Kept H1 h1 H2 h2) : Kept H0 h0 H2 h2 := fun c o e n => by
  obtain ⟨⟨sl, e1⟩, n1⟩ := a c o e n
  obtain ⟨⟨sl2, e2⟩, n2⟩ := b c _ e1 n1
  exact ⟨⟨sl2, e2⟩, n2⟩
theorem Kept.un {fs : List Addr} {H0 H : Hp} {h0 h : Heap} (u : Un fs [] H0 H h0 h) : Kept H0 h0 H h := fun c o e n => ⟨u.any e n (by simp), u.free c o e n (by simp)⟩
/-- within a def's comprehension block -/
theorem Kept.blk {X : Cx} {pins : List (Addr × Obj)} {σ : L2.St} {H3 H : Hp} {y3 : Shared} {h : Heap} {fp : List Addr} (I3 : Inv X pins σ H3 y3) (hx : X.ex = []) (f : ∀ b ∈ fp, FpOk X pins H3 b) {fs : List Addr} (u : Un fs fp H3 H y3.heap h) : Kept X.H_0 X.s_0.heap H h := fun c o e n => by
  have hb := I3.base
  rw [hx] at hb
  obtain ⟨⟨sl, e1⟩, n1⟩ := Kept.un hb c o e n
  have hc : c ∉ fp := fun hc => by
    rcases (f c hc).2.2.2.1 with z | z
    · rw [hx] at z; cases z
    · exact absurd (Heap.lt_size e) (Nat.not_lt_of_le z)
  obtain ⟨sl2, e2⟩ := u.any e1 n1 hc
  exact ⟨⟨sl2, e2⟩, u.free c _ e1 n1 hc⟩
/-! ### the made function -/
abbrev lamO (q : Str) (params : Arguments) (body : Expr) (scope : Scope) (cl : List (Str × Addr)) (dV doc pm : Value) (c' : Addr) (ctv : Value) : Obj := PySem.W.kdv_obj "<lambda>" q params (.expr body) scope cl dV doc pm c' ctv
/-- the lambda of these words stands at f, made in env; dv: its defaults -/
def LamAt (env : Env) (params : Arguments) (body : Expr) (scope : Scope) (dv : List V) (f : Addr) (H : Hp) : Prop :=
  ∃ (c' : Addr) (dV doc pm ctv : Value), H f = some (.frz (lamO (env.qual ++ "<lambda>") params body scope (cloFrom env.cells scope.names []) dV doc pm c' ctv) (.own 0)) ∧ H c' = some (LamX.CodeO c' (env.qual ++ "<lambda>")) ∧
    ((dv = [] ∧ dV = .none) ∨ (dv ≠ [] ∧ ∃ t, dV = .ref t ∧ H t = some (.tup dv)))
theorem LamAt.le {env : Env} {params : Arguments} {body : Expr} {scope : Scope} {dv : List V} {f : Addr} {H H' : Hp} (k : ∀ b o, H b = some o → (∀ xs, o ≠ .lst xs) → (∀ ps, o ≠ .tbl ps) → H' b = some o) (h : LamAt env params body scope dv f H) : LamAt env params body scope dv f H' := by
  obtain ⟨c', dV, doc, pm, ctv, h1, h2, h3⟩ := h
  refine ⟨c', dV, doc, pm, ctv, k _ _ h1 (fun _ z => by cases z) (fun _ z => by cases z), k _ _ h2 (fun _ z => by unfold LamX.CodeO at z; cases z) (fun _ z => by unfold LamX.CodeO at z; cases z), ?_⟩
  rcases h3 with h3 | ⟨h3, t, e, h4⟩
  · exact .inl h3
  · exact .inr ⟨h3, t, e, k _ _ h4 (fun _ z => by cases z) (fun _ z => by cases z)⟩
section
variable {X : Cx} {pins : List (Addr × Obj)} {σ : L2.St} {H : Hp} {s : Shared}
theorem lam_tail {T : List (Addr × Str)} {c P : Addr} {params : Arguments} {body : Expr} {scope : Scope} {pos : Pos} {dV : Value} {E : Value → Shared → Prop} {Q : Value → Shared → Prop} (I : Inv X pins σ H s) (TB : LamX.TabB X.base X.mg c P) (hcode : X.env.code = .ref c)
    (hm : (P, X.env.qual ++ "<lambda>") ∈ T) (hu : ∀ p ∈ T, p.1 = P → p.2 = X.env.qual ++ "<lambda>") (hT : LamX.Tabs T H) (hfree : ∀ y ∈ scope.names, y.2 = .free → ∃ c, X.env.cells.lookup y.1 = some c)
    (h : ∀ (f c' : Addr) (doc pm ctv : Value) (H1 : Hp) (s' : Shared), Inv X pins σ H1 s' → LamX.ExtN H H1 → LamX.Tabs T H1 →
      H1 f = some (.frz (lamO (X.env.qual ++ "<lambda>") params body scope (cloFrom X.env.cells scope.names []) dV doc pm c' ctv) (.own 0)) → H1 c' = some (LamX.CodeO c' (X.env.qual ++ "<lambda>")) → Q (.ref f) s') :
    wpAny (model X.prog X.w) X.A (makeTail "<lambda>" (X.env.qual ++ "<lambda>") params (.expr body) scope X.env dV .none none pos pos.line) Q E s := by
  obtain ⟨ps, hP, ht, ha⟩ := hT _ hm
  have bP : s.heap.BuiltinsAt X.mg P := TB.bm.keeps I.bk
  have hP' : s.heap.get? P = some { cls := .none, data := .fields ps } := I.hok P _ hP
  cases hc : codeAmong pos ps.toList with
  | none =>
    refine PySem.W.kdv_makeTail (mg := X.mg) (c := c) (P := P) (ps := ps) (closure_ok hfree) I.ok.glob (I.mod.glob.keeps I.bk) hcode (TB.code.keeps I.bk) hP' ht hc TB.gP bP fun c' ctv doc h' tk hx hge hlt hrec htb => ?_
    obtain ⟨c2, oc, vs, t, e2, hoc, hd, hv⟩ := hrec
    cases e2
    have nC : H c' = none := I.hok.fresh hge
    have I1 := LamX.inv_table (t' := tk) (more := #[rawInt pos.line, rawInt pos.col, .ref c']) (h' := h') I hP hx htb hge ⟨oc, vs, t, hoc, hd, hv⟩
    have hE : LamX.ExtN H (upd (upd H P (.tbl (ps ++ #[rawInt pos.line, rawInt pos.col, .ref c']))) c' (LamX.CodeO c' (X.env.qual ++ "<lambda>"))) := fun b o e n => by
      rw [upd_ne (ne_of_none e nC), upd_ne (fun z => n ps (Option.some.inj (e.symm.trans (by rw [z]; exact hP))))]
      exact e
    have eL : (ps ++ #[rawInt pos.line, rawInt pos.col, .ref c']).toList = ps.toList ++ [rawInt pos.line, rawInt pos.col, .ref c'] := by simp
    generalize hH1 : upd (upd H P (.tbl (ps ++ #[rawInt pos.line, rawInt pos.col, .ref c']))) c' (LamX.CodeO c' (X.env.qual ++ "<lambda>")) = H1 at I1 hE
    have nF : H1 h'.objs.size = none := I1.hok.fresh (Nat.le_refl _)
    have I2 := I1.laid (a := h'.objs.size) (o := .frz (lamO (X.env.qual ++ "<lambda>") params body scope (cloFrom X.env.cells scope.names []) dV doc ((X.mg "__name__").getD .none) c' ctv) (.own 0)) (t' := tk) (h' := h'.push (lamO (X.env.qual ++ "<lambda>") params body scope (cloFrom X.env.cells scope.names []) dV doc ((X.mg "__name__").getD .none) c' ctv)) (fun b u e => Heap.get?_push_of_some _ e) (Nat.le_refl _) ⟨Heap.get?_push_size _ rfl, _, Heap.get?_push_size _ rfl⟩
    have up1 : ∀ {b o}, H1 b = some o → ∀ u, upd H1 h'.objs.size u b = some o := fun {b o} e u => by rw [upd_ne (ne_of_none e nF)]; exact e
    have cC : H1 c' = some (LamX.CodeO c' (X.env.qual ++ "<lambda>")) := by rw [← hH1]; exact upd_same
    refine h h'.objs.size c' doc ((X.mg "__name__").getD .none) ctv _ _ I2 (fun b o e n => up1 (hE b o e n) _) (fun p hp => ?_) upd_same (up1 cC _)
    by_cases hb : p.1 = P
    · rw [hu p hp hb, hb]
      refine ⟨_, up1 (by rw [← hH1, upd_ne (ne_of_none hP nC), upd_same]) _, by rw [eL]; exact PySem.TriplesOk_snoc _ _ _ _ ht, fun p' cv hcv => ?_⟩
      rw [eL] at hcv
      rcases LamX.among_app _ ht hcv with z | z
      · obtain ⟨c0, e1, e2⟩ := ha p' cv z
        exact ⟨c0, e1, up1 (hE _ _ e2 LamX.codeO_ne) _⟩
      · exact ⟨c', z, up1 cC _⟩
    · obtain ⟨ps', a1, a2, a3⟩ := hT p hp
      refine ⟨ps', up1 (by rw [← hH1, upd_ne (ne_of_none a1 nC), upd_ne hb]; exact a1) _, a2, fun p' cv hcv => ?_⟩
      obtain ⟨c0, e1, e2⟩ := a3 p' cv hcv
      exact ⟨c0, e1, up1 (hE _ _ e2 LamX.codeO_ne) _⟩
  | some cv =>
    obtain ⟨c', e, hco⟩ := ha pos cv hc
    subst e
    refine PySem.W.kdv_makeTailHit (mg := X.mg) (c := c) (P := P) (ps := ps) (closure_ok hfree) I.ok.glob (I.mod.glob.keeps I.bk) hcode (TB.code.keeps I.bk) hP' ht hc bP fun ctv doc h' tk hx hsz => ?_
    have nF : H h'.objs.size = none := I.hok.fresh hsz
    have I1 : Inv X pins σ H { s with heap := h', toks := tk } := I.kept hx
    have I2 := I1.laid (a := h'.objs.size) (o := .frz (lamO (X.env.qual ++ "<lambda>") params body scope (cloFrom X.env.cells scope.names []) dV doc ((X.mg "__name__").getD .none) c' ctv) (.own 0)) (t' := tk) (h' := h'.push (lamO (X.env.qual ++ "<lambda>") params body scope (cloFrom X.env.cells scope.names []) dV doc ((X.mg "__name__").getD .none) c' ctv)) (fun b u e => Heap.get?_push_of_some _ e) (Nat.le_refl _) ⟨Heap.get?_push_size _ rfl, _, Heap.get?_push_size _ rfl⟩
    have up1 : ∀ {b o}, H b = some o → ∀ u, upd H h'.objs.size u b = some o := fun {b o} e u => by rw [upd_ne (ne_of_none e nF)]; exact e
    exact h h'.objs.size c' doc ((X.mg "__name__").getD .none) ctv _ _ I2 (fun b o e _ => up1 e _) (hT.ext fun b o e => up1 e _) upd_same (up1 hco _)
end
/-- the making's reading -/
def tMk (T : List (Addr × Str)) (env : Env) (params : Arguments) (body : Expr) (scope : Scope) (dv : List V) : TE := fun _ H Q => LamX.Tabs T H ∧ ∀ f H1, LamX.ExtN H H1 → LamX.Tabs T H1 → LamAt env params body scope dv f H1 → Q (.ref f) H1
section
variable {X : Cx}
theorem pe_lam0 {T : List (Addr × Str)} {c P : Addr} {params : Arguments} {body : Expr} {scope : Scope} {pos : Pos} (TB : LamX.TabB X.base X.mg c P) (hcode : X.env.code = .ref c) (hm : (P, X.env.qual ++ "<lambda>") ∈ T) (hu : ∀ p ∈ T, p.1 = P → p.2 = X.env.qual ++ "<lambda>")
    (hfree : ∀ y ∈ scope.names, y.2 = .free → X.env.scope.names.lookup y.1 = some .cell ∨ X.env.scope.names.lookup y.1 = some .free) (hdef : defaultsOf params X.env = ([], [])) : PE X (.Lambda params body scope pos) (tMk T X.env params body scope []) := by
  refine ⟨fun pins s σ H Q I h => ?_⟩
  obtain ⟨hT, h⟩ := h
  refine PySem.W.kla_eval hdef ?_
  rw [makeFunction_eq]
  simp only [List.zip_nil_right, List.filterMap_nil, List.isEmpty_nil, if_true, pure_bind]
  exact lam_tail I TB hcode hm hu hT (fun y hy e => (hfree y hy e).elim (fun k => I.ok.has _ (.inl k)) fun k => I.ok.has _ (.inr k)) fun f c' doc pm ctv H1 s' I1 eN T1 hf hc => ⟨.ref f, H1, I1, rfl, h f H1 eN T1 ⟨c', _, doc, pm, ctv, hf, hc, .inl ⟨rfl, rfl⟩⟩⟩
theorem pe_lam1 {T : List (Addr × Str)} {c P : Addr} {params : Arguments} {body : Expr} {scope : Scope} {pos : Pos} {e : Expr} {v : V} (TB : LamX.TabB X.base X.mg c P) (hcode : X.env.code = .ref c) (hm : (P, X.env.qual ++ "<lambda>") ∈ T) (hu : ∀ p ∈ T, p.1 = P → p.2 = X.env.qual ++ "<lambda>")
    (hfree : ∀ y ∈ scope.names, y.2 = .free → X.env.scope.names.lookup y.1 = some .cell ∨ X.env.scope.names.lookup y.1 = some .free) (hd : params.defaults = [e]) (hk : params.kw_defaults = []) (he : PE X e (tC v)) : PE X (.Lambda params body scope pos) (tMk T X.env params body scope [v]) := by
  refine ⟨fun pins s σ H Q I h => ?_⟩
  obtain ⟨hT, h⟩ := h
  refine PySem.W.kdv_lam (by rw [hd]; rfl) hk ?_
  rw [hd]
  refine PySem.W.kdv_all1 (wpAny_mono (he.run pins s σ H (fun x H1 => x = v ∧ H1 = H) I ⟨rfl, rfl⟩) (fun u s1 ⟨w, H1, I1, r1, e1, e2⟩ => ?_) fun _ _ q => q)
  subst e1 e2
  refine PySem.W.kdv_all0 ?_
  rw [makeFunction_eq]
  simp only [List.zip_nil_right, List.filterMap_nil, List.isEmpty_nil, List.isEmpty_cons, Bool.false_eq_true, if_false, if_true, pure_bind]
  refine wpAny_bind (wpAny_newTextTuple ?_)
  have nT : H1 s1.heap.objs.size = none := I1.hok.fresh (Nat.le_refl _)
  have I2 := I1.laid (a := s1.heap.objs.size) (o := .tup [w]) (t' := s1.toks) (h' := s1.heap.push { cls := .type "tuple", data := .seq [u].toArray }) (fun b o e => Heap.get?_push_of_some _ e) (Nat.le_refl _) ⟨by show 1 ≤ sizeLine; decide, [u], .cons r1 .nil, ⟨_, Heap.get?_push_size _ rfl, rfl, _, rfl⟩⟩
  have up1 : ∀ {b o}, H1 b = some o → ∀ u, upd H1 s1.heap.objs.size u b = some o := fun {b o} e u => by rw [upd_ne (ne_of_none e nT)]; exact e
  refine lam_tail I2 TB hcode hm hu (hT.ext fun b o e => up1 e _) (fun y hy e => (hfree y hy e).elim (fun k => I1.ok.has _ (.inl k)) fun k => I1.ok.has _ (.inr k)) fun f c' doc pm ctv H2 s' I3 eN T1 hf hc => ⟨.ref f, H2, I3, rfl, h f H2 (fun b o e n => eN b o (up1 e _) n) T1 ⟨c', _, doc, pm, ctv, hf, hc, .inr ⟨by simp, _, rfl, eN _ _ upd_same (fun _ z => by cases z)⟩⟩⟩
end
/-! ### the call -/
/-- the lambda's names: ps its parameters, none of them the maker's -/
structure LamD (N : List Str) (sc scope : Scope) (ps : List Str) : Prop where
  kind : scope.kind = .function
  co : scope.isCoroutine = false
  gen : scope.isGenerator = false
  own : ∀ y ∈ scope.names, y.2 ≠ .cell ∧ (y.2 = .local → y.1 ∉ N)
  free : ∀ y ∈ scope.names, y.2 = .free → sc.names.lookup y.1 = some .cell ∨ sc.names.lookup y.1 = some .free
  par : ∀ p ∈ ps, scope.names.lookup p = some .local
def lamDB (N : List Str) (sc scope : Scope) (ps : List Str) : Bool :=
  decide (scope.kind = .function) && !scope.isCoroutine && !scope.isGenerator && (scope.names.all fun y => !decide (y.2 = .cell) && (!decide (y.2 = .local) || decide (y.1 ∉ N)) && (!decide (y.2 = .free) || decide (sc.names.lookup y.1 = some .cell) || decide (sc.names.lookup y.1 = some .free))) && ps.all fun p => decide (scope.names.lookup p = some .local)
theorem lamD_by {N : List Str} {sc scope : Scope} {ps : List Str} (h : lamDB N sc scope ps = true) : LamD N sc scope ps := by
  unfold lamDB at h
  simp only [Bool.and_eq_true, Bool.or_eq_true, Bool.not_eq_true', decide_eq_true_eq, decide_eq_false_iff_not, List.all_eq_true] at h
  obtain ⟨⟨⟨⟨h1, h2⟩, h3⟩, h4⟩, h5⟩ := h
  refine ⟨h1, h2, h3, fun y hy => ⟨(h4 y hy).1.1, fun e => ?_⟩, fun y hy e => ?_, h5⟩
  · rcases (h4 y hy).1.2 with z | z
    · exact absurd e z
    · exact z
  · rcases (h4 y hy).2 with (z | z) | z
    · exact absurd e z
    · exact .inl z
    · exact .inr z
/-- what the call binds -/
def BindsD (params : Arguments) (body : Expr) (scope : Scope) (dv : List V) (ps : List Str) : Prop :=
  (dv = [] ∧ ps = [] ∧ ∀ (q : Str) (cl : List (Str × Addr)) (doc pm cv ctv : Value), bindArgs (PySem.W.kdv_fn "<lambda>" q params (.expr body) scope cl .none doc pm cv ctv) ⟨[], []⟩ = pure []) ∨
  (∃ v p, dv = [v] ∧ ps = [p] ∧ ∀ (q : Str) (cl : List (Str × Addr)) (T : Addr) (doc pm cv ctv u : Value), ∃ k, bindArgs (PySem.W.kdv_fn "<lambda>" q params (.expr body) scope cl (.ref T) doc pm cv ctv) ⟨[], []⟩ = seqItems? (.ref T) >>= k ∧ k (some #[u]) = pure [(p, u)])
section
variable {X : Cx} {pins : List (Addr × Obj)} {σ : L2.St} {H HZ : Hp} {s s1 : Shared}
theorem lam_start3 {A : Around} {outer : List Env} {E : XK} {scope : Scope} {ps : List Str} {f c' : Addr} {h₁ : Heap} {tk : Nat} {m : Str → Option Value} (I : Inv X pins σ H s) (L : LamD X.N X.env.scope scope ps) (e0 : Env0 X.prog X.w X.K X.mg X.base A outer s1 HZ) (hd : A.handled = none)
    (un : Kept H s.heap HZ s1.heap) (hns : h₁.Ns s1.heap.objs.size m) (kp : ∀ b o, s1.heap.get? b = some o → h₁.get? b = some o) :
    Inv (LamX.lamCx X A outer s1 HZ E scope f c') [] σ HZ { s1 with heap := h₁, toks := tk } := by
  have hfree : ∀ y ∈ scope.names, y.2 = .free → ∃ c, X.env.cells.lookup y.1 = some c := fun y hy e => (L.free y hy e).elim (fun k => I.ok.has _ (.inl k)) fun k => I.ok.has _ (.inr k)
  have cm : ∀ {y c}, (cloFrom X.env.cells scope.names []).lookup y = some c → X.env.cells.lookup y = some c := fun {y c} e => by
    rcases cloFrom_mem (PySem.mem_of_lookup e) with hm | ⟨h1, h2⟩
    · cases hm
    · obtain ⟨c1, hc⟩ := hfree _ h1 rfl
      have hc : X.env.cells.lookup y = some c1 := hc
      have e2 : c = c1 := by
        rw [h2, hc] <;> rfl
      rw [e2]
      exact hc
  have look : ∀ {y}, scope.names.lookup y = some .free → ∃ c, (cloFrom X.env.cells scope.names []).lookup y = some c := fun {y} hl => by
    have hy : (y, NameKind.free) ∈ scope.names := PySem.mem_of_lookup hl
    exact mem_lookup (cloFrom_has (cells := X.env.cells) (acc := []) hy)
  have cellK : ∀ {c : Addr} {v : Option Value}, H c = none → s.heap.IsCell c v → h₁.IsCell c v := fun {c v} n ⟨o, ho, hd⟩ => by
    obtain ⟨⟨sl, q⟩, _⟩ := un c o ho n
    exact ⟨_, kp _ _ q, hd⟩
  have noA : ∀ b : Addr, b ∉ (LamX.lamCx X A outer s1 HZ E scope f c').ex := fun b z => absurd (show b ∈ ([] : List Addr) from z) (by simp)
  refine ⟨⟨e0.mod, L.kind, rfl, rfl, Nat.le_refl _, fun y z c e1 e2 => I.ok.inj y z c (cm e1) (cm e2), fun y hy => ?_, fun y c z _ => ?_, fun _ => hd, Around.frames_deeper e0.frames, .inr ⟨rfl, rfl⟩, fun b z => absurd z (noA b), e0.bs, e0.bsz, fun b _ _ => noA b,
      fun b z => absurd z (noA b), e0.funs, e0.frf⟩,
    rfl, e0.bare, Un.kept kp, ⟨_, hns, fun i y v e1 e2 e3 => ?_⟩, fun y c e => ?_, e0.hok.fresh (Nat.le_refl _), fun y c e => ?_, fun q hq => absurd (show q ∈ ([] : List (Addr × Obj)) ++ [] from hq) (by simp), e0.hok.kept kp, I.len⟩
  · have hy : scope.names.lookup y = some .cell ∨ scope.names.lookup y = some .free := hy
    rcases hy with hy | hy
    · exact absurd rfl (L.own _ (PySem.mem_of_lookup hy)).1
    · exact look hy
  · have z : false = true := z
    cases z
  · have e3 : Vis scope y := e3
    rcases e3 with k | k | k
    · exact absurd (List.mem_of_getElem? (show X.N[i]? = some y from e1)) ((L.own _ (PySem.mem_of_lookup k)).2 rfl)
    · exact absurd rfl (L.own _ (PySem.mem_of_lookup k)).1
    · obtain ⟨m, hn, hl⟩ := I.loc
      have hvis : Vis X.env.scope y := (L.free _ (PySem.mem_of_lookup k) rfl).elim (fun k => .inr (.inl k)) (fun k => .inr (.inr k))
      obtain ⟨w', r, q⟩ := hl i y v e1 e2 hvis
      obtain ⟨c2, h2⟩ := look k
      refine ⟨w', r, .inr ⟨.inr k, c2, h2, ?_⟩⟩
      have c1 := cm h2
      rcases q with ⟨k', _⟩ | ⟨_, c3, e', z⟩
      · have k' : X.env.scope.names.lookup y = some .local := k'
        rcases L.free _ (PySem.mem_of_lookup k) rfl with k2 | k2 <;> rw [show X.env.scope.names.lookup y = _ from k2] at k' <;> cases k'
      · rw [c1] at e'
        cases e'
        exact cellK (I.freeC y _ c1) z
  · obtain ⟨w', z⟩ := I.cell y c (cm e)
    exact ⟨w', cellK (I.freeC y c (cm e)) z⟩
  · obtain ⟨v, o, ho, hd⟩ := I.cell y c (cm e)
    exact (un c o ho (I.freeC y c (cm e))).2
/-- a function that may be called: tl, its reading; h0: the heap that its words lean on -/
structure ActOk (P : Program) (w : World) (K : PySem.W.Frag) (mg : Str → Option Value) (base : Heap) (H0 : Hp) (h0 : Heap) (k : Nat) (f : Addr) (tl : XK → Hp → VK → Prop) : Prop where
  fn : ∀ E H Q, tl E H Q → (∃ (oc : Value) (od : Option Addr) (fd : FuncData) (sl : Array (Option Value)), H f = some (.frz ⟨oc, od, .func fd, sl⟩ (.own 0))) ∧ ∃ c' q, H c' = some (LamX.CodeO c' q)
  run : ∀ (A : Around) (outer : List Env) (s : Shared) (H : Hp) (E : XK) (Q : VK), Room k A → Env0 P w K mg base A outer s H → Kept H0 h0 H s.heap → tl E H Q → codeAny (model P w) A (.call (.ref f) ⟨[], []⟩) (CR (L2.CX P w) outer P w H s Q E) s
theorem act_lam {k : Nat} {f : Addr} {params : Arguments} {body : Expr} {scope : Scope} {dv : List V} {ps : List Str} {t : XK → TE} (I : Inv X pins σ H s) (L : LamD X.N X.env.scope scope ps) (B : BindsD params body scope dv ps)
    (hbody : ∀ (A : Around) (outer : List Env) (s : Shared) (H : Hp) (E : XK) (f c' : Addr), Room k (A.deeper (LamX.lamEnv X scope s.heap.objs.size f c')) → PE (LamX.lamCx X A outer s H E scope f c') body (t E)) :
    ActOk X.prog X.w X.K X.mg X.base H s.heap (k + 1) f (fun E HZ Q => LamAt X.env params body scope dv f HZ ∧ t E σ HZ Q) := by
  refine ⟨fun E HZ Q ⟨⟨c', dV, doc, pm, ctv, h1, h2, _⟩, _⟩ => ⟨⟨_, _, _, _, h1⟩, c', _, h2⟩, fun A outer s1 HZ E Q hr e0 kp ⟨hl, ht⟩ => ?_⟩
  obtain ⟨c', dV, doc, pm, ctv, h1, h2, h3⟩ := hl
  have of1 := (e0.hok f _ h1).1
  obtain ⟨⟨oc, vs, tt, hoc, hdc, hvc⟩, _, _⟩ := e0.hok c' _ h2
  have hb : ∃ us : List Value, us.length = ps.length ∧ BindsTo s1 (PySem.W.kdv_fn "<lambda>" (X.env.qual ++ "<lambda>") params (.expr body) scope (cloFrom X.env.cells scope.names []) dV doc pm (.ref c') ctv) ⟨[], []⟩ (ps.zip us) := by
    rcases B with ⟨ed, ep, b⟩ | ⟨v, p, ed, ep, b⟩
    · rcases h3 with ⟨_, e⟩ | ⟨ne, _⟩
      · subst e ep
        exact ⟨[], rfl, BindsTo.of_eq (b _ _ _ _ _ _)⟩
      · exact absurd ed ne
    · rcases h3 with ⟨e, _⟩ | ⟨_, T, e, hT⟩
      · rw [ed] at e; cases e
      · subst e ep ed
        obtain ⟨_, its, r, oT, hoT, hcT, nT, hdT⟩ := e0.hok T _ hT
        cases r with
        | cons r1 r2 =>
          cases r2
          rename_i u
          obtain ⟨k', e1, e2⟩ := b (X.env.qual ++ "<lambda>") (cloFrom X.env.cells scope.names []) T doc pm (.ref c') ctv u
          refine ⟨[u], rfl, fun M A' E' Q' hq => ?_⟩
          rw [e1]
          refine wpAny_bind (wpAny_seqItems hoT hdT ?_)
          show wpAny M A' (k' (some #[u])) Q' E' s1
          rw [e2]
          exact wpAny_pure hq
  obtain ⟨us, hus, hb⟩ := hb
  have hloc : ∀ y ∈ ps.zip us, scope.names.lookup y.1 = some .local := fun ⟨n, v⟩ hy => L.par n (List.of_mem_zip hy).1
  refine PySem.W.kla_callFunE hr.depth of1 rfl L.co L.gen rfl ⟨c', oc, vs, tt, rfl, hoc, hdc, hvc⟩ (hb _ _ _ _ ?_)
  refine wpAny_newFunctionEnv (fun y hy => (L.own y hy).1) hloc (fun h₁ hns hsb => ⟨(e0.mod.nolimit.keeps fun b o e => (e0.bs b o e).1).fresh _ hsb, ?_⟩) L.kind
  show codeAny _ _ (.expr body (LamX.lamEnv X scope s1.heap.objs.size f c')) _ _
  have kp1 : ∀ b o, s1.heap.get? b = some o → h₁.get? b = some o := fun b o e => hsb.extBut b o (Nat.ne_of_lt (Heap.lt_size e)) (Heap.get?_push_of_some _ e)
  have J : Inv (LamX.lamCx X A outer s1 HZ E scope f c') [] σ HZ { s1 with heap := h₁, toks := s1.toks + (ps.zip us).length } :=
    lam_start3 I L e0 hr.hd kp hns kp1
  refine PySem.W.kla_codeExpr (wpAny_mono ((hbody _ _ s1 HZ E f c' (hr.deeper _)).run [] _ _ HZ Q J ht) (fun v s' hq => ?_) fun e s' hq => hq)
  obtain ⟨w', H', J', rv, q⟩ := hq
  exact ⟨w', H', J'.os, J'.bare, J'.base, J'.hok, rv, q⟩
/-- x(), within the def that got the function -/
theorem pe_actK {CXg : CXT} {Eg : XK} {Ng : List Str} {qg : Str} {sg : Scope} {g f : Addr} {cdg : Value} {k i : Nat} {a : Str} {pn : List (Addr × Obj)} {xe : Value → Shared → Prop} {W : WX} {E : XK} {H0 : Hp} {h0 : Heap} {tl : XK → Hp → VK → Prop} {p1 p2 : Pos}
    (F : ActOk X.prog X.w X.K X.mg X.base H0 h0 k f tl) (kp : Kept H0 h0 H s.heap) (tk : Takes ((cxOf CXg X.prog X.w X.K X.mg X.base Ng qg sg g cdg X.A X.stack s H Eg).tr pn xe) W) (hW : ∀ cls d σ' H', E cls d H' → W cls d σ' H') (hr : Room k (X.A.deeper (envOfC qg sg s.heap.objs.size g cdg)))
    (hN : Ng[i]? = some a) (hv : Vis sg a) (hd : (a == ("__debug__" : Str)) = false := by decide) (hcd : (a == ("__classdict__" : Str)) = false := by decide) :
    PE ((cxOf CXg X.prog X.w X.K X.mg X.base Ng qg sg g cdg X.A X.stack s H Eg).tr pn xe) (.Call (.Name a p1) [] [] p2) (fun σZ HZ Q => σZ[i]? = some (some (.ref f)) ∧ tl E HZ Q) := by
  refine ⟨fun pinsZ sZ σZ HZ Q IZ h => ?_⟩
  obtain ⟨hs, ht⟩ := h
  refine wpAny_Call_Name_kw (thn ((pe_var (pos := p1) (i := i) hN hv hd hcd).run pinsZ sZ σZ HZ (fun v H1 => v = .ref f ∧ H1 = HZ) IZ ⟨.ref f, hs, rfl, rfl⟩) fun u s1 ⟨v, H1, I1, r1, q1⟩ => ?_)
  obtain ⟨ev, eH⟩ := q1
  subst ev
  rw [eH] at I1
  obtain rfl : u = Value.ref f := r1
  obtain ⟨⟨oc, od, fd, sl, hf⟩, _⟩ := F.fn E HZ Q ht
  refine PySem.W.callWith_F0 ⟨_, _, _, _, (I1.hok f _ hf).1⟩ ?_
  have un : Un (frs X.stack) [] H HZ s.heap s1.heap := I1.base
  have hx : Passes (L2.CX X.prog X.w) ((cxOf CXg X.prog X.w X.K X.mg X.base Ng qg sg g cdg X.A X.stack s H Eg).tr pn xe) E := passes_call tk hW
  refine wpAny_call (codeAny_mono (F.run _ _ s1 HZ E Q hr I1.env0 (kp.trans (Kept.un un)) ht) fun r s' hq => ?_)
  cases r with
  | error e => exact hx pinsZ σZ HZ s1 e s' I1 hq
  | ok fl =>
    cases fl with
    | ret u => exact I1.after hq
    | next => exact False.elim hq
    | brk => exact False.elim hq
    | cont => exact False.elim hq
end
end Br

namespace Br
open PySem PySem.Spec PyProof.Rows L2
/-! the law's _law_all_raise([lambda: .., ..], expected). -/
abbrev s_law_all_raise : Stmt := topS 66
theorem sc_law_all_raise : FnScope ["_law_calls", "_law_expected", "_law_call"] ["_law_calls", "_law_expected"] (defScope s_law_all_raise) := ⟨rfl, rfl, rfl, by decide +kernel, rfl, by decide +kernel, by decide +kernel⟩
section
variable {X : Cx} {cs : Nat → Addr} {CR : Addr} {k : Nat}
/-- _law_error_of(y), y a function that may be called -/
theorem er_act {H0 : Hp} {h0 : Heap} {y : Str} {py p pos : Pos} {te : TE} (D : DefAt X.K X.mg "_law_error_of" s_law_error_of ["_law_call"]) (T : Bi X.mg) (hR : X.mg "RotaError" = some (.ref CR)) (gc : ∀ i, i < 14 → X.mg (clsN.getD i "") = some (.ref (cs i))) (hg : Gl X "_law_error_of") (hr : Room (k + 1) X.A)
    (he : PE X (.Name y py) te) (hK : ∀ pins σ H s, Inv X pins σ H s → Kept H0 h0 H s.heap) :
    PE X (.Call (.Name "_law_error_of" p) [.Name y py] [] pos) (fun σ H Q => te σ H fun v H1 => ∃ f tl, v = .ref f ∧ ActOk X.prog X.w X.K X.mg X.base H0 h0 k f tl ∧ TTe X.K cs CR tl H1 Q) := by
  obtain ⟨g, fd, m, F, b⟩ := D.ex
  obtain ⟨oc, od, kV, doc, pm, an, cdv, ct, osl, rfl, lk, hcd⟩ := F.ex
  refine ⟨fun pins s σ H Q I h => ?_⟩
  refine wpAny_Call_Name_kw (ld_glob I hg m ?_ rfl)
  refine PySem.W.callWith_K (h₀ := X.base) I.ok.mod.kin F.kp ?_ (by rfl) (by rfl)
  show wpAny _ _ (spliced ((false, eval (.Name y py) X.env) :: backTo pos (starEach [] X.env))) _ _ s
  refine Calls.spliced_cons (wpAny_mono (he.run pins s σ H _ I h) (fun u s1 ⟨v, H1, I1, r1, f, tl, ev, FA, ht⟩ => ?_) fun _ _ q => q)
  subst ev
  obtain rfl : u = Value.ref f := r1
  refine Calls.spliced_nil ⟨I1.kIn, ?_⟩
  obtain ⟨_, c', q, hc⟩ := FA.fn _ _ _ ht
  have rc : codeAny (model X.prog X.w) X.A (.call (.ref g) ⟨[.ref f], []⟩) (L2.CR C8.CX0 X.stack X.prog X.w H1 s1 Q C8.E0) s1 := by
    refine LamX.run_ofS (ps := ["_law_call"]) (us := [.ref f]) (vs := [.ref f]) lk hcd sc_law_error_of hr I1.env0 (b s1 [.ref f] I1.kIn rfl) (.cons rfl .nil) rfl fun hr' => ?_
    obtain ⟨t', ht', hq'⟩ := er_gives T hR gc f c' s1 H1 Q tl (fun W pn xe E p1 p2 tk hW => ⟨fun pinsZ sZ σZ HZ QZ IZ ⟨z1, _, z3⟩ =>
      (pe_actK (i := 0) (W := W) FA (hK _ _ _ _ I1) tk hW hr' rfl (Or.inl rfl)).run pinsZ sZ σZ HZ QZ IZ ⟨z1, z3⟩⟩) hc ht
    exact ⟨t', ht'.nox, hq'⟩
  refine wpAny_call (codeAny_mono rc fun r s2 hq => ?_)
  cases r with
  | error e => exact (show False from hq).elim
  | ok fl =>
    cases fl with
    | ret u => exact I1.after hq
    | next => exact False.elim hq
    | brk => exact False.elim hq
    | cont => exact False.elim hq
/-! ### a list of lambdas -/
/-- the j-th thing of the list that the statement makes, or hands to a method -/
def esOf : Stmt → List Expr
  | .Assign _ (.List es _) _ => es
  | .Expr (.Call _ es _ _) _ => es
  | _ => []
def lamP : Expr → Arguments
  | .Lambda p _ _ _ => p
  | _ => ⟨[], [], none, [], [], none, []⟩
def lamB : Expr → Expr
  | .Lambda _ b _ _ => b
  | e => e
def lamS (sc : Scope) : Expr → Scope
  | .Lambda _ _ s _ => s
  | _ => sc
def bdOf : Stmt → List Stmt
  | .If _ b _ _ => b
  | _ => []
def stAt : List Nat → List Stmt → List Expr
  | [], _ => []
  | [i], l => esOf (l.getD i (.Pass default))
  | i :: j :: r, l => stAt (j :: r) (bdOf (l.getD i (.Pass default)))
def lamE (st : Stmt) (i : List Nat) (j : Nat) : Expr := ((stAt i (defBody st)).getD j (.Constant .none 0 default))
structure LE where
  params : Arguments
  body : Expr
  scope : Scope
  dv : List V
  ps : List Str
  t : XK → TE
structure LE.Ok (X : Cx) (k : Nat) (l : LE) : Prop where
  ok : LamD X.N X.env.scope l.scope l.ps
  bind : BindsD l.params l.body l.scope l.dv l.ps
  body : ∀ (A : Around) (outer : List Env) (s : Shared) (H : Hp) (E : XK) (f c' : Addr), Room k (A.deeper (LamX.lamEnv X l.scope s.heap.objs.size f c')) → PE (LamX.lamCx X A outer s H E l.scope f c') l.body (l.t E)
/-- the lambda l stands at f -/
def LE.At (env : Env) (l : LE) (f : Addr) (H : Hp) : Prop := LamAt env l.params l.body l.scope l.dv f H
def LE.tl (env : Env) (σ : L2.St) (f : Addr) (l : LE) : XK → Hp → VK → Prop := fun E HZ Q => l.At env f HZ ∧ l.t E σ HZ Q
/-- one behind another: each raises what is wanted -/
def chainA (K : PySem.W.Frag) (cs : Nat → Addr) (CR : Addr) (y : V) (a D : Addr) (xs : List V) (fin : Hp → Prop) : List (XK → Hp → VK → Prop) → Hp → Prop
  | [], H => H a = some (.lst xs) ∧ H D = some (.lst []) ∧ fin H
  | tl :: r, H => H a = some (.lst xs) ∧ H D = some (.lst []) ∧ ∀ Q : VK, (∀ H', chainA K cs CR y a D xs fin r H' → Q (.bl false) H') → TTe K cs CR tl H (fun v H' => rNeD K v y H' Q)
theorem chainA.at {K : PySem.W.Frag} {cs : Nat → Addr} {CR : Addr} {y : V} {a D : Addr} {xs : List V} {fin : Hp → Prop} : ∀ {l : List (XK → Hp → VK → Prop)} {H : Hp}, chainA K cs CR y a D xs fin l H → H a = some (.lst xs) ∧ H D = some (.lst [])
  | [], _, h => ⟨h.1, h.2.1⟩
  | _ :: _, _, h => ⟨h.1, h.2.1⟩
def tAllR (X : Cx) (cs : Nat → Addr) (CR : Addr) (ls : List LE) (te1 te2 : TE) : TE := fun σ H Q => te1 σ H fun v H1 => te2 σ H1 fun y H2 => ∃ (a : Addr) (fs : List Addr), v = .ref a ∧ Paired (fun f l => LE.At X.env l f H2) fs ls ∧ H2 a = some (.lst (fs.map V.ref)) ∧
  ∀ D, H2 D = none → chainA X.K cs CR y a D (fs.map V.ref) (fun H' => ∀ H'', Wd [] H' H'' [] → Q (.bl true) H'') (fs.zipWith (LE.tl X.env σ) ls) (upd H2 D (.lst []))
theorem ne_step {K : PySem.W.Frag} {y : V} {tl : XK → Hp → VK → Prop} {H : Hp} {Q : VK} {σ : L2.St} {P : Hp → Prop} (p3 : ∀ Q : VK, (∀ H', P H' → Q (.bl false) H') → TTe K cs CR tl H (fun v H' => rNeD K v y H' Q)) (hσ : σ[1]? = some (some y)) (hQ : ∀ H', P H' → Q (.bl false) H') :
    TTe K cs CR tl H (fun x H3 => tVar 1 σ H3 fun y' H4 => rNeD K x y' H4 Q) := by
  refine cast ?_ (p3 Q hQ)
  congr 1
  funext v H'
  exact propext ⟨fun h => ⟨y, hσ, h⟩, fun ⟨y', e, h⟩ => by rw [hσ] at e; cases e; exact h⟩
theorem pe_allr {ls : List LE} {e1 e2 : Expr} {te1 te2 : TE} {p pos : Pos} (D : DefAt X.K X.mg "_law_error_of" s_law_error_of ["_law_call"]) (D2 : DefAt X.K X.mg "_law_all_raise" s_law_all_raise ["_law_calls", "_law_expected"]) (T : Bi X.mg) (hR : X.mg "RotaError" = some (.ref CR)) (gc : ∀ i, i < 14 → X.mg (clsN.getD i "") = some (.ref (cs i)))
    (hg : Gl X "_law_all_raise") (hr : Room (k + 3) X.A) (hls : ∀ l ∈ ls, l.Ok X k) (h1 : PE X e1 te1) (h2 : PE X e2 te2) (he : starEach [e1, e2] X.env = (false, eval e1 X.env) :: starEach [e2] X.env := by rfl) (he2 : starEach [e2] X.env = (false, eval e2 X.env) :: starEach [] X.env := by rfl) (hpl : (backTo pos (starEach [e2] X.env)).any (·.1) = false := by rfl) :
    PE X (.Call (.Name "_law_all_raise" p) [e1, e2] [] pos) (tAllR X cs CR ls te1 te2) := by
  obtain ⟨g, fd, m, F, b⟩ := D2.ex
  obtain ⟨oc, od, kV, doc, pm, an, cdv, ct, osl, rfl, lk, hcd⟩ := F.ex
  refine ⟨fun pins s σ H Q I h => ?_⟩
  refine wpAny_Call_Name_kw (ld_glob I hg m ?_ rfl)
  refine PySem.W.callWith_K (h₀ := X.base) I.ok.mod.kin F.kp (thn ((pa_cons h1 (pa_cons h2 pa_nil he2) he).run pos pins s σ H (fun vs H1 => match vs with | [v, y] => ∃ (a : Addr) (fs : List Addr), v = .ref a ∧ Paired (fun f l => LE.At X.env l f H1) fs ls ∧ H1 a = some (.lst (fs.map V.ref)) ∧
  (∀ D, H1 D = none → chainA X.K cs CR y a D (fs.map V.ref) (fun H' => ∀ H'', Wd [] H' H'' [] → Q (.bl true) H'') (fs.zipWith (LE.tl X.env σ) ls) (upd H1 D (.lst []))) | _ => False) I h) fun us s1 ⟨vs, H1, I1, r, q1⟩ => ⟨I1.kIn, ?_⟩) he hpl
  obtain ⟨v, y, rfl⟩ : ∃ v y, vs = [v, y] := by
    match vs, q1 with
    | [v, y], _ => exact ⟨v, y, rfl⟩
  obtain ⟨a, fs, rfl, pr, ha, hch⟩ := q1
  have rc : codeAny (model X.prog X.w) X.A (.call (.ref g) ⟨us, []⟩) (L2.CR C8.CX0 X.stack X.prog X.w H1 s1 Q C8.E0) s1 := by
    have hl : us.length = 2 := by rw [← r.length]; rfl
    have acts : ∀ (f : Addr) (l : LE), (f, l) ∈ fs.zip ls → ActOk X.prog X.w X.K X.mg X.base H1 s1.heap (k + 1) f (LE.tl X.env σ f l) := fun f l hm => by
      have hl := hls l (List.of_mem_zip hm).2
      exact act_lam I1 hl.ok hl.bind hl.body
    refine LamX.run_ofS (ps := ["_law_calls", "_law_expected"]) (us := us) (vs := [.ref a, y]) lk hcd sc_law_all_raise hr I1.env0 (by have := b s1 us I1.kIn (by rw [List.append_nil]; exact hl); rw [List.append_nil] at this; exact this) r rfl fun hr' => ?_
    have nd : (["_law_calls", "_law_expected", "_law_call"] : List Str).Nodup := by decide +kernel
    let Y := (cxOf C8.CX0 X.prog X.w X.K X.mg X.base ["_law_calls", "_law_expected", "_law_call"] "_law_all_raise" (defScope s_law_all_raise) g cdv X.A X.stack s1 H1 C8.E0).nox
    have hu1 : Y.A.units + 64 < cLine := by have := hr'.un; show (X.A.deeper (envOfC "_law_all_raise" (defScope s_law_all_raise) s1.heap.objs.size g cdv)).units + 64 < cLine; omega
    have hu0 : Y.A.units < cLine := by omega
    let tt : TT := tTest (tOp (rNeD X.K) (fun σ H Q => tVar 2 σ H fun v H2 => ∃ f tl, v = .ref f ∧ ActOk X.prog X.w X.K X.mg X.base H1 s1.heap (k + 1) f tl ∧ TTe X.K cs CR tl H2 Q) (tVar 1))
    have body : PSs Y (defBody s_law_all_raise) (tRet (tOp (rEqN X.K) (fun σ H Q => tLc (iList X.K (tVar 0)) (gName 2) tt (tVar 2) [2] σ H Q) (tLst tNil))) := (pss_one (ps_ret (pe_cmpR (op_eqNil (X := Y) hu0)
      (pe_lcI (own := [("_law_call", 2)]) (tt := tt) (te := fun _ => tVar 2) (W := fun _ _ _ _ => False) rfl rfl rfl (LamX.takes0 (X := Y)) nd (pi_list (pe_var (i := 0) rfl (Or.inl rfl))) (blkOk_by (N := ["_law_calls", "_law_expected", "_law_call"]) (sc := defScope s_law_all_raise) (by decide +kernel)) (fun _ _ _ _ _ => (pg_name (i := 2) nd rfl (Or.inl rfl)))
        (fun y3 H3 C cl fp ⟨pins3, σ3, I3, f3⟩ => by
          refine pts_one (pt_cmpR (r := rNeD X.K) (ta := fun σ H Q => tVar 2 σ H fun v H2 => ∃ f tl, v = .ref f ∧ ActOk X.prog X.w X.K X.mg X.base H1 s1.heap (k + 1) f tl ∧ TTe X.K cs CR tl H2 Q) (tb := tVar 1) ?_ ?_ ?_ rfl)
          rotate_left
          · refine er_act (k := k + 1) (H0 := H1) (h0 := s1.heap) (cs := cs) (CR := CR) ?_ ?_ ?_ ?_ ?_ ?_ ?_ ?_
            · exact D
            · exact T
            · exact hR
            · exact gc
            · rfl
            · exact hr'
            rotate_left
            · exact fun pins σ H s J => Kept.blk I3 rfl f3 J.base
            · exact pe_var (i := 2) rfl (Or.inl rfl)
          · exact pe_var (i := 1) rfl (by first | exact Or.inl rfl | exact Or.inr (Or.inl rfl) | exact Or.inr (Or.inr rfl))
          · exact op_neD (by exact hu1))
        (fun _ _ _ _ _ _ _ _ => pe_var (i := 2) rfl (Or.inl rfl)))
      (pe_lst pa_nil) rfl)))
    refine ⟨_, body.nox, ?_⟩
    refine ⟨.ref a, rfl, a, rfl, ⟨_, .inl (.inl ha)⟩, fun D hD => ?_⟩
    have hlen : fs.length = ls.length := pr.length
    refine lc_list (xs := fs.map V.ref) (fun i H => chainA X.K cs CR y a D (fs.map V.ref) (fun H' => ∀ H'', Wd [] H' H'' [] → Q (.bl true) H'') ((fs.zipWith (LE.tl X.env σ) ls).drop i) H) (hch D hD) (fun i H _ p => .inl (.inl p.at.1)) (fun i x H hx p => ?_) fun H p => ?_
    · obtain ⟨f, hf, rfl⟩ : ∃ f, fs[i]? = some f ∧ x = V.ref f := by
        rw [List.getElem?_map] at hx
        cases e : fs[i]? with
        | none => rw [e] at hx; cases hx
        | some f => rw [e] at hx; cases hx; exact ⟨f, rfl, rfl⟩
      have hi : i < fs.length := (List.getElem?_eq_some_iff.mp hf).1
      have hl' : ls[i]? = some ls[i] := List.getElem?_eq_getElem (by omega)
      have hz : (fs.zip ls)[i]? = some (f, ls[i]) := by rw [List.zip, List.getElem?_zipWith, hf, hl']
      have hd : (fs.zipWith (LE.tl X.env σ) ls).drop i = LE.tl X.env σ f ls[i] :: (fs.zipWith (LE.tl X.env σ) ls).drop (i + 1) := by
        rw [List.drop_eq_getElem_cons (by rw [List.length_zipWith]; omega)]
        congr 1
        rw [List.getElem_zipWith]
        congr 1
        exact (List.getElem?_eq_some_iff.mp hf).2
      rw [hd] at p
      obtain ⟨p1, p2, p3⟩ := p
      refine ⟨rfl, ?_⟩
      refine ⟨.ref f, rfl, f, LE.tl X.env σ f ls[i], rfl, acts f ls[i] (List.mem_of_getElem? hz), ?_⟩
      exact ne_step p3 rfl fun H' c => ⟨false, rfl, c⟩
    · have hp := p
      rw [List.drop_eq_nil_of_le (by rw [List.length_zipWith, List.length_map]; omega)] at hp
      obtain ⟨p1, p2, p3⟩ := hp
      refine ⟨Nat.zero_le _, fun z hz => ?_⟩
      exact ⟨D, z, [], rfl, rfl, .inl (.inl (by rw [upd_ne (ne_of_none p2 hz)]; exact p2)), .inl (.inl upd_same), p3 _ (((Wd.refl H).new (.lst []) hz).sub (by walk_at "sub"))⟩
  refine wpAny_call (codeAny_mono rc fun r s2 hq => ?_)
  cases r with
  | error e => exact (show False from hq).elim
  | ok fl =>
    cases fl with
    | ret u => exact I1.after hq
    | next => exact False.elim hq
    | brk => exact False.elim hq
    | cont => exact False.elim hq
theorem pe_lmA {P' c : Addr} {params : Arguments} {body : Expr} {scope : Scope} {ps : List Str} {pos : Pos} (TB : LamX.TabB X.base X.mg c P') (hcode : X.env.code = .ref c) (L : LamD X.N X.env.scope scope ps) (hdef : defaultsOf params X.env = ([], [])) :
    PE X (.Lambda params body scope pos) (tMk [(P', X.env.qual ++ "<lambda>")] X.env params body scope []) := pe_lam0 TB hcode (List.mem_singleton.mpr rfl) (fun p hp _ => by rw [List.mem_singleton.mp hp]) L.free hdef
theorem pe_lmB {P' c : Addr} {params : Arguments} {body : Expr} {scope : Scope} {ps : List Str} {pos : Pos} {e : Expr} {v : V} (TB : LamX.TabB X.base X.mg c P') (hcode : X.env.code = .ref c) (L : LamD X.N X.env.scope scope ps) (hd : params.defaults = [e]) (hk : params.kw_defaults = []) (he : PE X e (tC v)) :
    PE X (.Lambda params body scope pos) (tMk [(P', X.env.qual ++ "<lambda>")] X.env params body scope [v]) := pe_lam1 TB hcode (List.mem_singleton.mpr rfl) (fun p hp _ => by rw [List.mem_singleton.mp hp]) L.free hd hk he
theorem leOk {p : Arguments} {b : Expr} {sc : Scope} {dv : List V} {ps : List Str} {t : XK → TE} (h1 : LamD X.N X.env.scope sc ps) (h2 : BindsD p b sc dv ps)
    (h3 : ∀ (A : Around) (outer : List Env) (s : Shared) (H : Hp) (E : XK) (f c' : Addr), Room k (A.deeper (LamX.lamEnv X sc s.heap.objs.size f c')) → PE (LamX.lamCx X A outer s H E sc f c') b (t E)) : LE.Ok X k ⟨p, b, sc, dv, ps, t⟩ := ⟨h1, h2, h3⟩
theorem le_nil : ∀ l ∈ ([] : List LE), l.Ok X k := fun _ h => nomatch h
theorem le_cons {l : LE} {ls : List LE} (h : l.Ok X k) (t : ∀ l ∈ ls, l.Ok X k) : ∀ x ∈ l :: ls, x.Ok X k := fun x hx => by
  rcases List.mem_cons.mp hx with rfl | hx
  · exact h
  · exact t x hx
end
end Br

namespace Br
open PySem PySem.Spec PyProof.Rows L2
/-! save and restore where the name is wrong -/
section
variable {P : Program} {w : World} {K : PySem.W.Frag} {mg : Str → Option Value} {base : Heap} {CB CX : Addr}
def lets : List Nat := ("abcdefghijklmnopqrstuvwxyz" : Str).cps.toList
def nameOk (nm : Str) : Bool := decide (1 ≤ nm.length) && decide (nm.length ≤ 8) && nm.cps.toList.all fun c => decide (c ∈ lets)
/-- no name at all, or a short text that is no name -/
def BadNm : V → Prop
  | .str nm => nm.length ≤ 20 ∧ nameOk nm = false
  | _ => True
def spSaveF (CB CX : Addr) : Sp := fun vs H Q E => ∃ (z : Bz) (r : Rota) (b : Bst) (S : List (Str × Bst)) (v : V) (t : String), vs = [.ref z.x, v] ∧ Ky H v t ∧ BadNm v ∧ BkAt CB z r b S H ∧ ∀ H', Wd [] H H' [] → E (.ref CX) none H'
theorem me_saveF (D : MethAt K CB "save" "Book.save" sBook_save ["self", "name"]) (T : Bi mg) (BC : BkCls K CB) (EP_InvalidName : ExPl K mg "InvalidName" CX) (cL : ∃ t, mg "LETTERS" = some (.str "abcdefghijklmnopqrstuvwxyz" t)) (cM : ∃ t, mg "MAX_LETTERS" = some (.int 8 t)) :
    MeX P w K mg base 1 CB "save" ["self", "name"] (spSaveF CB CX) := D.meX fun f fd F => by
  have nd := scBook_save.nd
  obtain ⟨t1, c_LETTERS⟩ := cL
  obtain ⟨t2, c_MAX_LETTERS⟩ := cM
  refine F.okX scBook_save (fun vs H Q E h => ?_) (fun cdv A outer s H vs Q E hr h => ?_)
  · obtain ⟨z, r, b, S, v, t, rfl, _⟩ := h; rfl
  obtain ⟨z, r, b, S, v, t, rfl, kv, hv, hb, q⟩ := h
  have hu := hr.units
  refine ⟨_, (pss_cons (ps_if (PW.pt (pw_or (pt_not (pt_val (pe_callB call_isi (by rfl) T.isinstance (by decide +kernel) (pa_cons (pv 1) (pa_cons (pe_bltn (v := .ty "str") (by rfl) T.str (by decide +kernel) rfl) pa_nil))))) (pw_or1 (pt_not (pt_chain op_le op_le pe_int (pe_callB call_len_str (by rfl) T.len PySem.boot_len (pa_cons (pv 1) pa_nil)) (pe_glob (v := .int 8) (by rfl) c_MAX_LETTERS ⟨_, rfl⟩))))))
 (pss_one (ps_raise rfl (takes_of rfl rfl rfl rfl) (pmk_own PySem.F.excBase_ValueError EP_InvalidName.q EP_InvalidName.g EP_InvalidName.k EP_InvalidName.r (by rfl))))
 pss_nil)
 (pss_cons (ps_if (pt_not (pt_val (pe_callB (r := L2.rAll K) (cr_all rfl) (by rfl) T.all (by decide +kernel) (pa_cons (pe_lc (own := [("letter", 2)]) rfl nd (pi_str (pv 1)) (blkOk_by (N := ["self", "name", "letter"]) (sc := defScope sBook_save) (by decide +kernel)) (fun _ _ _ _ _ => (pg_name (i := 2) nd rfl (Or.inl rfl))) (fun _ _ _ _ _ => pts_nil) (fun _ _ _ _ _ => (pe_cmpR op_in_sign (pv 2) (pe_glob (v := .str "abcdefghijklmnopqrstuvwxyz") (by rfl) c_LETTERS ⟨_, rfl⟩) (by rfl)))) pa_nil))))
 (pss_one (ps_raise rfl (takes_of rfl rfl rfl rfl) (pmk_own PySem.F.excBase_ValueError EP_InvalidName.q EP_InvalidName.g EP_InvalidName.k EP_InvalidName.r (by rfl))))
 pss_nil)
 (pss_one (ps_asg (pe_tup (pa_cons (pe_fldK (K := K) rfl (pv 0) rfl) (pa_cons (pe_callTy (r := rListOf K) call_list_of (by rfl) T.list (by decide +kernel) (pa_cons (pe_fldK (K := K) rfl (pv 0) rfl) pa_nil)) (pa_cons (pe_callTy (r := rListOf K) call_list_of (by rfl) T.list (by decide +kernel) (pa_cons (pe_fldK (K := K) rfl (pv 0) rfl) pa_nil)) pa_nil)))) (pg_sub (pe_fldK (K := K) rfl (pv 0) rfl) (pv 1) (set_dict2 hu)))))), ?_⟩
  have k1 := kit_is (K := K) kv.mem (T := "str") (by decide)
  refine ⟨_, rfl, _, _, _, .type "str", _, rfl, .ty "str", kv.ty, k1, _, rfl, ?_⟩
  refine ite2 (fun c => iteT (q _ (Wd.refl H))) (fun c => ?_)
  obtain ⟨nm, rfl⟩ : ∃ nm, v = .str nm := by
    cases kv with
    | str z => exact ⟨z, rfl⟩
    | non => exact absurd rfl c
    | bl b => exact absurd rfl c
    | int i => exact absurd rfl c
    | lst h => exact absurd rfl c
    | tup h => exact absurd rfl c
  obtain ⟨h20, hno⟩ := hv
  refine ⟨_, rfl, nm, rfl, le_line (by omega), _, _, rfl, rfl, _, rfl, ?_⟩
  by_cases n1 : (1 : Int) ≤ (nm.length : Int)
  · rw [decide_eq_true n1]
    refine iteT ⟨_, _, rfl, rfl, _, rfl, ?_⟩
    by_cases n2 : (nm.length : Int) ≤ 8
    · rw [decide_eq_true n2]
      refine iteF ?_
      refine ⟨_, rfl, nm, rfl, fun D hD => ?_⟩
      refine lc_str (fun i H2 => ∃ bs : List Bool, bs = (nm.cps.toList.take i).map (fun c => decide (c ∈ lets)) ∧ Wd [] H H2 [(D, .lst (bs.map V.bl))]) ⟨[], rfl, (Wd.refl H).new _ hD⟩ ?_ ?_
      · rintro i c H2 hc ⟨bs, hl, w2⟩
        have hi : i < nm.cps.size := (Array.getElem?_eq_some_iff.mp hc).1
        have e : nm.length = nm.cps.size := rfl
        have hm : nm.cps.toList[i]? = some c := by rw [← Array.getElem?_toList] at hc; exact hc
        refine ⟨rfl, _, rfl, c, _, rfl, rfl, _, w2.get 0 rfl, ?_, ?_⟩
        · rw [hl, List.length_map, List.length_map, List.length_take]; exact lt_line (by omega)
        · refine ⟨bs ++ [decide (c ∈ lets)], ?_, ?_⟩
          · rw [hl, List.take_add_one, hm, List.map_append]; rfl
          · rw [List.map_append]; exact w2.app0 _
      rintro H2 ⟨bs, hl, w2⟩
      refine ⟨D, bs, rfl, SqL.of (w2.get 0 rfl), ?_⟩
      have hal : bs.all id = false := by
        have e : nm.cps.toList.take nm.cps.size = nm.cps.toList := List.take_of_length_le (by simp)
        rw [hl, e, List.all_map]
        unfold nameOk at hno
        rw [decide_eq_true (by omega : 1 ≤ nm.length), decide_eq_true (by omega : nm.length ≤ 8), Bool.true_and, Bool.true_and] at hno
        exact hno
      rw [hal]
      exact ⟨_, rfl, iteT (q _ (w2.sub (List.nil_sublist _)))⟩
    · rw [decide_eq_false n2]
      exact iteT (q _ (Wd.refl H))
  · rw [decide_eq_false n1]
    refine iteF ⟨_, rfl, iteT (q _ (Wd.refl H))⟩
def spRestoreF (CB CX : Addr) : Sp := fun vs H Q E => ∃ (z : Bz) (r : Rota) (b : Bst) (S : List (Str × Bst)) (v : V) (t : String), vs = [.ref z.x, v] ∧ Ky H v t ∧ (∀ nm, v = .str nm → getS nm S = none) ∧ BkAt CB z r b S H ∧ ∀ H', Wd [] H H' [] → E (.ref CX) none H'
theorem me_restoreF (D : MethAt K CB "restore" "Book.restore" sBook_restore ["self", "name"]) (T : Bi mg) (BC : BkCls K CB) (EP_UnknownName : ExPl K mg "UnknownName" CX) : MeX P w K mg base 1 CB "restore" ["self", "name"] (spRestoreF CB CX) := D.meX fun f fd F => by
  have nd := scBook_restore.nd
  refine F.okX scBook_restore (fun vs H Q E h => ?_) (fun cdv A outer s H vs Q E hr h => ?_)
  · obtain ⟨z, r, b, S, v, t, rfl, _⟩ := h; rfl
  obtain ⟨z, r, b, S, v, t, rfl, kv, hS, hb, q⟩ := h
  have hu := hr.units
  refine ⟨_, (pss_cons (ps_if (PW.pt (pw_or (pt_not (pt_val (pe_callB call_isi (by rfl) T.isinstance (by decide +kernel) (pa_cons (pv 1) (pa_cons (pe_bltn (v := .ty "str") (by rfl) T.str (by decide +kernel) rfl) pa_nil))))) (pw_or1 (pt_cmp (pc_dnotinU hu (pv 1) (pe_fldK (K := K) rfl (pv 0) rfl)) (by rfl)))))
 (pss_one (ps_raise rfl (takes_of rfl rfl rfl rfl) (pmk_own PySem.F.excBase_ValueError EP_UnknownName.q EP_UnknownName.g EP_UnknownName.k EP_UnknownName.r (by rfl))))
 pss_nil)
 (pss_cons (ps_asg (pe_dgetU hu (pe_fldK (K := K) rfl (pv 0) rfl) (pv 1) (fun _ _ => rfl)) (pg_tupK (K := K) (n := 3) rfl rfl (pgs_cons (pg_fld (pv 0) (K := K) rfl) (pgs_cons (pg_name (i := 2) nd rfl (Or.inl rfl)) (pgs_cons (pg_name (i := 3) nd rfl (Or.inl rfl)) pgs_nil)))))
 (pss_one (ps_asg (pe_tup (pa_cons (pe_callTy (r := rListOf K) call_list_of (by rfl) T.list (by decide +kernel) (pa_cons (pv 2) pa_nil)) (pa_cons (pe_callTy (r := rListOf K) call_list_of (by rfl) T.list (by decide +kernel) (pa_cons (pv 3) pa_nil)) pa_nil))) (pg_tupK (K := K) (n := 2) rfl rfl (pgs_cons (pg_fld (pv 0) (K := K) rfl) (pgs_cons (pg_fld (pv 0) (K := K) rfl) pgs_nil))))))), ?_⟩
  obtain ⟨na, hx, lt⟩ := id hb.na
  obtain ⟨kvs, s1, s2⟩ := id hb.sv
  have k1 := kit_is (K := K) kv.mem (T := "str") (by decide)
  refine ⟨_, rfl, _, _, _, .type "str", _, rfl, .ty "str", kv.ty, k1, _, rfl, ?_⟩
  refine ite2 (fun c => iteT (q _ (Wd.refl H))) (fun c => ?_)
  obtain ⟨nm, rfl⟩ : ∃ nm, v = .str nm := by
    cases kv with
    | str z => exact ⟨z, rfl⟩
    | non => exact absurd rfl c
    | bl b => exact absurd rfl c
    | int i => exact absurd rfl c
    | lst h => exact absurd rfl c
    | tup h => exact absurd rfl c
  refine ⟨_, rfl, _, rfl, z.x, CB, z.dx, _, _, rfl, hx, BC.cl, BC.n5, bk_saved, z.sv, _, rfl, DGet.k (k := .inr nm) s1, _, rfl, ?_⟩
  rcases paired_get SnapT.key nm s2 with ⟨g1, g2⟩ | ⟨v, b', g1, g2, g3, g4⟩
  · rw [g1]
    exact iteT (q _ (Wd.refl H))
  · rw [hS nm rfl] at g2; cases g2
end
end Br

namespace Br
open PySem PySem.Spec PyProof.Rows L2
/-! k21: the state between steps, the questions' chain. -/
structure J21 (CB PT d : Addr) (qq : Str) (z : Bz) (r : Rota) (b : Bst) (H : Hp) : Prop where
  tabs : LamX.Tabs [(PT, qq)] H
  dr : ∃ x y l, H d = some (dl x y l) ∧ DOk x y l
  bk : BkAt CB z r b [] H
  nd : d ∉ z.own
section
variable {CB PT d : Addr} {qq : Str} {z z' : Bz} {r : Rota} {b b' : Bst} {H H' : Hp} {l : List (Addr × HO)}
theorem J21.wd0 (j : J21 CB PT d qq z r b H) (w : Wd [] H H' l) : J21 CB PT d qq z r b H' := by
  obtain ⟨x, y, l, h, o⟩ := j.dr
  exact ⟨tabs_wdO j.tabs w (fun _ h => nomatch h), ⟨x, y, l, w.base _ _ (by simp) h, o⟩, j.bk.keep0 w, j.nd⟩
theorem J21.ext (j : J21 CB PT d qq z r b H) (e : LamX.ExtN H H') (t : LamX.Tabs [(PT, qq)] H') : J21 CB PT d qq z r b H' := by
  obtain ⟨x, y, l, h, o⟩ := j.dr
  exact ⟨t, ⟨x, y, l, e _ _ h (fun _ z => by cases z), o⟩, j.bk.ext e, j.nd⟩
theorem J21.to (j : J21 CB PT d qq z r b H) (w : Wd z.own H H' []) (ho : ∀ a ∈ z'.own, a ∈ z.own ∨ H a = none) (bk : BkAt CB z' r b' [] H') : J21 CB PT d qq z' r b' H' := by
  obtain ⟨x, y, l, h, o⟩ := j.dr
  exact ⟨tabs_wdO j.tabs w j.bk.muO, ⟨x, y, l, w.base _ _ j.nd h, o⟩, bk, fun hm => (ho d hm).elim j.nd fun n => by rw [n] at h; cases h⟩
end
theorem LamAt.mu {env : Env} {params : Arguments} {body : Expr} {scope : Scope} {dv : List V} {f : Addr} {H H' : Hp} (k : ∀ b o, H b = some o → ¬ MutO o → (∀ ps, o ≠ .tbl ps) → H' b = some o) (h : LamAt env params body scope dv f H) : LamAt env params body scope dv f H' := by
  obtain ⟨c', dV, doc, pm, ctv, h1, h2, h3⟩ := h
  refine ⟨c', dV, doc, pm, ctv, k _ _ h1 id (fun _ z => by cases z), k _ _ h2 id (fun _ z => by unfold LamX.CodeO at z; cases z), ?_⟩
  rcases h3 with h3 | ⟨h3, t, e, h4⟩
  · exact .inl h3
  · exact .inr ⟨h3, t, e, k _ _ h4 id (fun _ z => by cases z)⟩
/-- what stands and is not written -/
def Sta (G : Hp → Prop) : Prop := ∀ H H', (∀ b o, H b = some o → ¬ MutO o → (∀ ps, o ≠ .tbl ps) → H' b = some o) → G H → G H'
theorem Sta.wd {G : Hp → Prop} (st : Sta G) {M : List Addr} {H H' : Hp} {L : List (Addr × HO)} (w : Wd M H H' L) (m : MuO H M) (h : G H) : G H' := st H H' (fun b o e n _ => w.base b o (fun hb => by
  obtain ⟨u, e2, m2⟩ := m b hb
  rw [e] at e2
  exact n (by rw [Option.some.inj e2]; exact m2)) e) h
theorem Sta.ext {G : Hp → Prop} (st : Sta G) {H H' : Hp} (e : LamX.ExtN H H') (h : G H) : G H' := st H H' (fun b o q _ n => e b o q n) h
theorem mkG2 {env : Env} {p0 p1 : Arguments} {b0 b1 : Expr} {s0 s1 : Scope} {v0 v1 : List V} {g0 g1 : Addr} {H : Hp} (a0 : LamAt env p0 b0 s0 v0 g0 H) (a1 : LamAt env p1 b1 s1 v1 g1 H) :
    ∃ G : Hp → Prop, Sta G ∧ G H ∧ ∀ H', G H' → LamAt env p0 b0 s0 v0 g0 H' ∧ LamAt env p1 b1 s1 v1 g1 H' :=
  ⟨fun H => LamAt env p0 b0 s0 v0 g0 H ∧ LamAt env p1 b1 s1 v1 g1 H, fun _ _ k h => ⟨h.1.mu k, h.2.mu k⟩, ⟨a0, a1⟩, fun _ h => h⟩
theorem mkG3 {env : Env} {p0 p1 p2 : Arguments} {b0 b1 b2 : Expr} {s0 s1 s2 : Scope} {v0 v1 v2 : List V} {g0 g1 g2 : Addr} {H : Hp} (a0 : LamAt env p0 b0 s0 v0 g0 H) (a1 : LamAt env p1 b1 s1 v1 g1 H) (a2 : LamAt env p2 b2 s2 v2 g2 H) :
    ∃ G : Hp → Prop, Sta G ∧ G H ∧ ∀ H', G H' → LamAt env p0 b0 s0 v0 g0 H' ∧ LamAt env p1 b1 s1 v1 g1 H' ∧ LamAt env p2 b2 s2 v2 g2 H' :=
  ⟨fun H => LamAt env p0 b0 s0 v0 g0 H ∧ LamAt env p1 b1 s1 v1 g1 H ∧ LamAt env p2 b2 s2 v2 g2 H, fun _ _ k h => ⟨h.1.mu k, h.2.1.mu k, h.2.2.mu k⟩, ⟨a0, a1, a2⟩, fun _ h => h⟩
theorem LamAt.ext {env : Env} {params : Arguments} {body : Expr} {scope : Scope} {dv : List V} {f : Addr} {H H' : Hp} (h : LamAt env params body scope dv f H) (e : LamX.ExtN H H') : LamAt env params body scope dv f H' := h.mu fun b o q _ n => e b o q n
/-- the chain's state -/
structure C21 (CB PT d : Addr) (qq : Str) (G : Hp → Prop) (a D yp : Addr) (xs yv : List V) (z : Bz) (r : Rota) (b : Bst) (H : Hp) : Prop where
  j : J21 CB PT d qq z r b H
  st : Sta G
  ha : H a = some (.lst xs)
  hD : H D = some (.lst [])
  hy : H yp = some (.tup yv)
  g : G H
  na : a ∉ z.own
  nD : D ∉ z.own
section
variable {CB PT d : Addr} {qq : Str} {G : Hp → Prop} {a D yp : Addr} {xs yv : List V} {z z' : Bz} {r : Rota} {b b' : Bst} {H H' : Hp} {l : List (Addr × HO)}
theorem C21.wd0 (c : C21 CB PT d qq G a D yp xs yv z r b H) (w : Wd [] H H' l) : C21 CB PT d qq G a D yp xs yv z r b H' :=
  ⟨c.j.wd0 w, c.st, w.base _ _ (by simp) c.ha, w.base _ _ (by simp) c.hD, w.tups _ _ c.hy, c.st.wd w (fun _ h => nomatch h) c.g, c.na, c.nD⟩
theorem C21.to (c : C21 CB PT d qq G a D yp xs yv z r b H) (w : Wd z.own H H' []) (ho : ∀ a ∈ z'.own, a ∈ z.own ∨ H a = none) (bk : BkAt CB z' r b' [] H') : C21 CB PT d qq G a D yp xs yv z' r b' H' :=
  ⟨c.j.to w ho bk, c.st, w.base _ _ c.na c.ha, w.base _ _ c.nD c.hD, w.tups _ _ c.hy, c.st.wd w c.j.bk.muO c.g, fun hm => (ho a hm).elim c.na fun n => (by have := c.ha; rw [n] at this; cases this), fun hm => (ho D hm).elim c.nD fun n => (by have := c.hD; rw [n] at this; cases this)⟩
/-- at the chain's start: the list, the wanted tuple, the new list -/
theorem C21.mk' {H1 : Hp} (j : J21 CB PT d qq z r b H1) (st : Sta G) (g : G H1) (ha : H1 a = none) (hy : upd H1 a (.lst xs) yp = none) (hD : upd (upd H1 a (.lst xs)) yp (.tup yv) D = none) : C21 CB PT d qq G a D yp xs yv z r b (upd (upd (upd H1 a (.lst xs)) yp (.tup yv)) D (.lst [])) := by
  have w := (((Wd.refl H1).new (.lst xs) ha).new (.tup yv) hy).new (.lst []) hD
  have nD1 : H1 D = none := ((((Wd.refl H1).new (.lst xs) ha).new (.tup yv) hy).free _ hD)
  exact ⟨j.wd0 w, st, w.get 2 rfl, w.get 0 rfl, w.get 1 rfl, st.wd w (fun _ h => nomatch h) g, fun hm => j.bk.al a hm ha, fun hm => j.bk.al D hm nD1⟩
end
theorem errD_ok5 : ∀ e ∈ (["count", "person", "nobody", "name", "unknown"] : List Str), PyData.canLay0 (errD e) = true ∧ SeqAt.shaped (errD e) = true := by
  intro e he
  simp only [List.mem_cons, List.not_mem_nil, or_false] at he
  rcases he with rfl | rfl | rfl | rfl | rfl <;> exact ⟨by decide +kernel, by decide +kernel⟩
/-- an error without a place, against the tuple at yp -/
theorem er_none {K : PySem.W.Frag} {cs : Nat → Addr} {CR C yp : Addr} {j : Nat} {e : Str} {H : Hp} {Q : VK} (k : ErK K cs CR C j) (hj : j < 9) (he : kindN.getD j "" = e) (h5 : e ∈ (["count", "person", "nobody", "name", "unknown"] : List Str)) (hy : H yp = some (.tup [.str e, .int 0])) (hQ : ∀ H2, Wd [] H H2 [] → Q (.bl false) H2) :
    ErW K cs CR (fun v H' => rNeD K v (.ref yp) H' Q) (.ref C) none H := by
  subst he
  have dk : DOk' H none := fun _ h => by cases h
  refine ⟨C, j, rfl, k, dk, Carry.none hj rfl fun p H' w => ?_⟩
  obtain ⟨l1, l2⟩ := errD_ok5 _ h5
  refine ⟨errD (kindN.getD j ""), errD (kindN.getD j ""), .tup (SqT.of (w.get 0 rfl)) (.cons (.str _) (.cons (.int _) .nil)), .tup (SqT.of (w.tups _ _ hy)) (.cons (.str _) (.cons (.int _) .nil)), l2, l2, ?_⟩
  rw [SeqAt.eqv_refl _ l1]
  exact hQ _ (w.sub (List.nil_sublist _))
/-! ### the rota -/
def r21 : Rota := ⟨["a", "b"], [0, 1], [1, 1], [(1, 0, 2)], [1]⟩
theorem r21_ok : ROk r21 where
  n1 := by decide
  n6 := by decide
  nd := by decide +kernel
  six := by decide +kernel
  t0 := by decide
  tall := fun k hk => by
    have : k < 2 := hk
    match k, this with
    | 0, _ => decide
    | 1, _ => decide
  t12 := by decide
  wl := rfl
  w0 := by decide
  asc := by simp [r21]
  a6 := by decide
  a0 := fun t ht => by
    rw [List.mem_singleton.mp (show t ∈ [((1 : Int), (0 : Int), (2 : Int))] from ht)]
    exact ⟨by decide, by decide, by decide, by decide, by decide⟩
  masc := by simp [r21]
  m0 := by decide
def S21 : List Stm := [.aw (1, 0, 2), .mk [1]]
/-- the lexer, with fuel -/
def lexN : Nat → List Nat → Option (List (Str × Str))
  | _, [] => some []
  | 0, _ :: _ => none
  | n + 1, c :: r => if c = 32 ∨ c = 10 then lexN n r else
    match tokAt (c :: r) with
    | none => none
    | some (k, t) => match lexN n ((c :: r).drop t.length) with
      | none => none
      | some ts => some ((k, t) :: ts)
theorem lexN_ok : ∀ {n : Nat} {l : List Nat} {ts : List (Str × Str)}, lexN n l = some ts → LexR l ts
  | 0, [], _, h => by cases h; exact .nil
  | _ + 1, [], _, h => by cases h; exact .nil
  | 0, _ :: _, _, h => by cases h
  | n + 1, c :: r, ts, h => by
    rw [lexN] at h
    by_cases hc : c = 32 ∨ c = 10
    · rw [if_pos hc] at h
      exact .space hc (lexN_ok h)
    · rw [if_neg hc] at h
      cases ht : tokAt (c :: r) with
      | none => rw [ht] at h; cases h
      | some kt =>
        obtain ⟨k, t⟩ := kt
        rw [ht] at h
        dsimp only at h
        cases hl : lexN n ((c :: r).drop t.length) with
        | none => rw [hl] at h; cases h
        | some us =>
          rw [hl] at h
          cases h
          exact .tok hc ht (lexN_ok hl)
def t21 : Str := "people a b; turns a b; away b 0 of 2; makeup b;"
theorem lex21 : lexN 100 (TL.tl t21) = some ((rotaToks r21 S21).dropLast) := by decide +kernel
theorem says21 : Says t21 r21 S21 := by
  refine says_of r21_ok ⟨by decide +kernel, fun _ => rfl, fun t => ?_, by decide +kernel, by decide +kernel, fun ks hk => ?_, fun h => by cases h⟩ (by decide +kernel) (lexN_ok lex21) (by decide +kernel) (by decide +kernel)
  · exact Iff.rfl
  · rw [List.mem_singleton.mp (show ks ∈ [[(1 : Int)]] from hk)]
    exact ⟨by decide, by decide, fun k => Iff.rfl⟩
/-! ### what the law's bodies do on it -/
theorem bat_count (v : BadV) : firstE r21 [.gift "a", .bad v] (bst0 r21) = some "count" := by
  have h : doOp r21 (bst0 r21) (.gift "a") = .ok (.int 0, recB "gift" (bst0 r21) (giftN 0 (bst0 r21).now)) := by rfl
  show firstS _ (doOp r21 (bst0 r21) (.gift "a")) = _
  rw [h]; rfl
theorem bat_nobody : firstE r21 [.step 2, .gift "b"] (bst0 r21) = some "nobody" := by rfl
end Br

namespace Br
open PySem PySem.Spec PyProof.Rows L2
abbrev slaw : Stmt := topS 67
theorem sclaw : FnScope ["_law_script", "_law_d", "_law_book", "_law_far", "_law_name", "_law_calls", "_law_count"] ["_law_script"] (defScope slaw) := ⟨rfl, rfl, rfl, by decide +kernel, rfl, by decide +kernel, by decide +kernel⟩
def rest21 (i : Nat) : List Stmt := (defBody slaw).drop i
structure K21 (P : Program) (w : World) (K : PySem.W.Frag) (mg : Str → Option Value) (base : Heap) (CB CC CU CN CI CW : Addr) : Prop where
  T : Bi mg
  BC : BkCls K CB
  c_random : Cal P w K mg base 1 "_law_random" ["_law_script", "_law_salt"] (spRandom K)
  c_below : Cal P w K mg base 1 "_law_below" ["_law_d", "_law_limit"] spBelow
  c_book : MkAt P w K mg base 7 "Book" CB ["self", "rota"] (spBookI CB)
  c_save : MeX P w K mg base 1 CB "save" ["self", "name"] (spSaveF CB CI)
  c_restore : MeX P w K mg base 1 CB "restore" ["self", "name"] (spRestoreF CB CW)
  c_gift : MeX P w K mg base 3 CB "gift" ["self", "name"] (spGift CB CU CN)
  c_forgive : MeX P w K mg base 3 CB "forgive" ["self", "name"] (spForgive CB CU)
  c_step : MeX P w K mg base 4 CB "step" ["self", "count"] (spStep CB CC)
  c_batch : MeX P w K mg base 6 CB "batch" ["self", "operations"] (spBatchF CB CC CU CN)
  c_undo : MeAt P w K mg base 1 CB "undo" ["self"] (spUn CB undoB)
  p_ticks : PrAt P w K mg base 1 CB "ticks" (spTicks CB)
  p_debts : PrAt P w K mg base 1 CB "debts" (spDebts CB)
  p_operations : PrAt P w K mg base 1 CB "operations" (spOps CB)
def badNames : List Str := ["", "A", "a b", "abcdefghi", "a1"]
/-- what is no name -/
def NmV (H : Hp) (v : V) : Prop := (∃ x ∈ badNames, v = .str x) ∨ v = .non ∨ v = .int 5 ∨ v = .bl true ∨ ∃ p xs, v = .ref p ∧ H p = some (.tup xs)
theorem NmV.keep {H H' : Hp} {v : V} (h : NmV H v) (k : ∀ b xs, H b = some (.tup xs) → H' b = some (.tup xs)) : NmV H' v := by
  rcases h with h | h | h | h | ⟨p, xs, h1, h2⟩
  · exact .inl h
  · exact .inr (.inl h)
  · exact .inr (.inr (.inl h))
  · exact .inr (.inr (.inr (.inl h)))
  · exact .inr (.inr (.inr (.inr ⟨p, xs, h1, k _ _ h2⟩)))
theorem NmV.ky {H : Hp} {v : V} (h : NmV H v) : ∃ t, Ky H v t := by
  rcases h with ⟨x, _, rfl⟩ | rfl | rfl | rfl | ⟨p, xs, rfl, h2⟩
  · exact ⟨_, .str _⟩
  · exact ⟨_, .non⟩
  · exact ⟨_, .int _⟩
  · exact ⟨_, .bl _⟩
  · exact ⟨_, .tup h2⟩
theorem NmV.bad {H : Hp} {v : V} (h : NmV H v) : BadNm v := by
  have k : ∀ x ∈ badNames, x.length ≤ 20 ∧ nameOk x = false := by decide +kernel
  rcases h with ⟨x, hx, rfl⟩ | rfl | rfl | rfl | ⟨p, xs, rfl, h2⟩
  · exact k x hx
  · trivial
  · trivial
  · trivial
  · trivial
theorem NmV.per {H : Hp} {v : V} (h : NmV H v) : personOf r21 v = none := by
  have k : ∀ x ∈ badNames, personOf r21 (.str x) = none := by decide +kernel
  rcases h with ⟨x, hx, rfl⟩ | rfl | rfl | rfl | ⟨p, xs, rfl, h2⟩
  · exact k x hx
  · rfl
  · rfl
  · rfl
  · rfl
section
variable {P : Program} {w : World} {K : PySem.W.Frag} {mg : Str → Option Value} {base : Heap} {CB CC CU CN CI CW CR PT cT : Addr} {cs : Nat → Addr}
theorem p14 (k : K21 P w K mg base CB CC CU CN CI CW) (f : Addr) (A : Around) (outer : List Env) (s : Shared) (H0 : Hp) (E : XK) (hr : Room 9 (A.deeper (envOfC "law" (defScope slaw) s.heap.objs.size f (.ref cT)))) :
    ∃ t, PSs (cxOf CX0 P w K mg base ["_law_script", "_law_d", "_law_book", "_law_far", "_law_name", "_law_calls", "_law_count"] "law" (defScope slaw) f (.ref cT) A outer s H0 E).nox (rest21 14) t ∧ ∀ (D : Ends) (d : Addr) (qq : Str) (z : Bz) (s0 s3 s4 s5 s6 : Option V) (H : Hp), J21 CB PT d qq z r21 (bst0 r21) H → (∀ H', D.rt (.bl true) H') → t D [s0, some (.ref d), some (.ref z.x), s3, s4, s5, s6] H := by
  have nd := sclaw.nd
  have T := k.T
  have BC := k.BC
  have cl_Book := BC.cl
  have hu := hr.units
  obtain ⟨f1, fd1, me_gift, b_gift, G_gift⟩ := k.c_gift.ex
  obtain ⟨f2, fd2, me_step, b_step, G_step⟩ := k.c_step.ex
  obtain ⟨f3, fd3, me_undo, b_undo, G_undo⟩ := k.c_undo.ex
  obtain ⟨p1, g1, gd1, pr_ticks, G_ticks, b_ticks⟩ := k.p_ticks.ex
  obtain ⟨p2, g2, gd2, pr_debts, G_debts, b_debts⟩ := k.p_debts.ex
  obtain ⟨p3, g3, gd3, pr_operations, G_operations, b_operations⟩ := k.p_operations.ex
  refine ⟨_, (pss_cons (ps_if (PW.pt (pw_or (pt_cmpR (r := rNeD K) (op_neD hu) (pe_prop (pv 2) cl_Book pr_operations G_operations (hr.mono (by first | decide | omega)) b_operations .nil pass0 (by rfl)) (pe_lst pa_nil) (nomark _)) (pw_or (pt_cmpR op_ne (pe_prop (pv 2) cl_Book pr_ticks G_ticks (hr.mono (by first | decide | omega)) b_ticks .nil pass0 (by rfl)) pe_int (nomark _)) (pw_or (pt_cmpR op_isnot_bl (pe_meth0 (pv 2) cl_Book me_undo G_undo (hr.mono (by first | decide | omega)) b_undo .nil pass0) pe_bl (nomark _)) (pw_or1 (pt_cmpR (op_ne_dictA (Nat.lt_of_le_of_lt (Nat.le_add_right _ 64) hu)) (pe_prop (pv 2) cl_Book pr_debts G_debts (hr.mono (by first | decide | omega)) b_debts .nil pass0 (by rfl)) (pe_disp (pps_cons pe_str pe_int (pps_cons pe_str pe_int pps_nil)) rfl rfl (List.cons_ne_nil _ _) (Nat.le_of_ble_eq_true rfl)) (nomark _)))))))
 (pss_one (ps_ret pe_bl))
 pss_nil)
 (pss_one (ps_ret (pe_and (pe_cmpR op_eq (pe_callB (r := rLenS K) call_len_seq (by rfl) T.len PySem.boot_len (pa_cons (pe_meth (pv 2) cl_Book me_step G_step (hr.mono (by first | decide | omega)) b_step .nil passL (pa_cons pe_int pa_nil)) pa_nil)) pe_int (nomark _)) (pe_and (pe_cmpR (r := rEqD K) (op_eqD hu) (pe_meth (pv 2) cl_Book me_step G_step (hr.mono (by first | decide | omega)) b_step .nil passL (pa_cons pe_int pa_nil)) (pe_lst pa_nil) (nomark _)) (pe_and (pe_cmpR op_eq (pe_meth (pv 2) cl_Book me_gift G_gift (hr.mono (by first | decide | omega)) b_gift .nil passL (pa_cons pe_str pa_nil)) pe_int (nomark _)) (pe_one (pe_cmpR op_eq (pe_prop (pv 2) cl_Book pr_ticks G_ticks (hr.mono (by first | decide | omega)) b_ticks .nil pass0 (by rfl)) pe_int (nomark _))))))))), ?_⟩
  intro D d qq z s0 s3 s4 s5 s6 H j q
  obtain ⟨na, hx, lt⟩ := id j.bk.na
  have ok := r21_ok
  have bo := bst0_ok ok
  refine ⟨_, rfl, z.x, z.dx, _, rfl, hx, z, r21, bst0 r21, [], rfl, j.bk, Nat.zero_le _, fun H1 p w1 => ⟨Nat.zero_le _, fun e he => ⟨.list [], .list [], .lst (SqL.of ?_) .nil, .lst (SqL.of upd_same) .nil, rfl, rfl, _, rfl, iteF ?_⟩⟩⟩
  · rw [upd_ne (ne_of_none (w1.get 0 rfl) he)]; exact w1.get 0 rfl
  have j1 := (j.wd0 w1).wd0 ((Wd.refl H1).new (.lst []) he)
  generalize upd H1 e (.lst []) = H2 at j1 ⊢
  obtain ⟨na1, hx1, lt1⟩ := id j1.bk.na
  refine ⟨_, rfl, z.x, z.dx, _, rfl, hx1, z, r21, bst0 r21, [], rfl, j1.bk, rfl, _, rfl, iteF ?_⟩
  refine ⟨_, rfl, z.x, z.dx, _, rfl, hx1, bk_none (by decide +kernel), z, r21, bst0 r21, [], false, bst0 r21, rfl, bo, j1.bk, Nat.zero_le _, Nat.zero_le _, ?_, fun H3 bs => ⟨_, _, rfl, rfl, _, rfl, iteF ?_⟩⟩
  · exact .inl ⟨rfl, rfl, rfl⟩
  obtain ⟨z2, ez, w3, o3, bk3⟩ := bs
  have j3 := j1.to w3 o3 bk3
  obtain ⟨na3, hx3, lt3⟩ := id bk3.na
  refine ⟨_, rfl, z.x, z2.dx, _, rfl, by rw [← ez]; exact hx3, z2, r21, bst0 r21, [], by rw [ez], ok, bo, bk3, fun dd hdd p hp => ⟨upd_same, [(.inr "a", .int 0), (.inr "b", .int 0)], rfl, by decide, dd, p, [(.inr "a", .int 0), (.inr "b", .int 0)], [(.inr "a", .int 0), (.inr "b", .int 0)], rfl, rfl, ?_, upd_same, rfl, ?_, _, rfl, iteF ?_⟩⟩
  · rw [upd_ne (ne_of_none upd_same hp), upd_ne (ne_of_none upd_same hp)]; exact upd_same
  · intro q hq
    simp only [List.mem_cons, List.not_mem_nil, or_false] at hq
    rcases hq with rfl | rfl <;> exact ⟨by decide +kernel, rfl⟩
  have j4 := (j3.wd0 ((Wd.refl H3).new (.dK (dbt r21 (bst0 r21).now.o)) hdd)).wd0 (((Wd.refl _).new (.dK []) hp).put 0 (.dK (mergeK [] [(.inr "a", .int 0), (.inr "b", .int 0)])) rfl (fun _ q => by cases q))
  generalize upd (upd (upd H3 dd (.dK (dbt r21 (bst0 r21).now.o))) p (.dK [])) p (.dK (mergeK [] [(.inr "a", .int 0), (.inr "b", .int 0)])) = H4 at j4 ⊢
  obtain ⟨na4, hx4, lt4⟩ := id j4.bk.na
  -- step(500)
  refine ⟨_, rfl, z.x, z2.dx, _, rfl, by rw [← ez]; exact hx4, bk_none (by decide +kernel), z2, r21, bst0 r21, [], .int 500, "int", by rw [ez]; rfl, ok, bo, j4.bk, .int _, Nat.zero_le _, Nat.zero_le _, fun h => absurd h (by decide), fun k' e hk H5 p5 bs => ?_⟩
  obtain rfl : k' = 500 := by injection e with e; omega
  obtain ⟨z5, ez5, w5, o5, _, _, bk5⟩ := bs
  have bo5 : BOk r21 (recB "step" (bst0 r21) (stepN r21 500 (bst0 r21).now)) := recB_ok bo (stepN_ok ok bo.now)
  have j5 : J21 CB PT d qq z5 r21 (recB "step" (bst0 r21) (stepN r21 500 (bst0 r21).now)) H5 := j4.to (w5.sub (List.nil_sublist _)) o5 bk5
  have l5 : ((found r21 500 (bst0 r21).now).map (nameV r21)).length = 500 := by rw [List.length_map]; exact ticksF_len _ _ _ _
  have ld5 : (stepN r21 500 (bst0 r21).now).d.length = 500 := by
    show ((bst0 r21).now.d ++ (ticksF r21 500 _ _ _).2.2).length = 500
    rw [List.length_append, ticksF_len]; rfl
  generalize hb5 : recB "step" (bst0 r21) (stepN r21 500 (bst0 r21).now) = b5 at *
  have hn5 : b5.now = stepN r21 500 (bst0 r21).now := by rw [← hb5]; rfl
  have hp5 : b5.past.length = 1 := by rw [← hb5]; rfl
  refine ⟨p5, _, rfl, .inl (SqL.of (w5.get 0 rfl)), rfl, true, ?_, ?_⟩
  · rw [l5]; rfl
  rw [if_pos rfl]
  obtain ⟨na5, hx5, lt5⟩ := id bk5.na
  refine ⟨_, rfl, z.x, z5.dx, _, rfl, by rw [← ez, ← ez5]; exact hx5, bk_none (by decide +kernel), z5, r21, b5, [], .int 0, "int", by rw [ez5, ez]; rfl, ok, bo5, bk5, .int _, by omega, by rw [hn5, ld5]; decide, fun h => absurd h (by decide), fun k' e hk H6 p6 bs => ?_⟩
  obtain rfl : k' = 0 := by injection e with e; omega
  obtain ⟨z6, ez6, w6, o6, _, _, bk6⟩ := bs
  have bo6 : BOk r21 (recB "step" b5 (stepN r21 0 b5.now)) := recB_ok bo5 (stepN_ok ok bo5.now)
  have j6 : J21 CB PT d qq z6 r21 (recB "step" b5 (stepN r21 0 b5.now)) H6 := j5.to (w6.sub (List.nil_sublist _)) o6 bk6
  refine ⟨Nat.zero_le _, fun e6 he6 => ⟨.list [], .list [], .lst (SqL.of ?_) .nil, .lst (SqL.of upd_same) .nil, rfl, rfl, true, rfl, ?_⟩⟩
  · rw [upd_ne (ne_of_none (w6.get 0 rfl) he6)]; exact w6.get 0 rfl
  rw [if_pos rfl]
  have j7 := j6.wd0 ((Wd.refl H6).new (.lst []) he6)
  generalize upd H6 e6 (.lst []) = H7 at j7 ⊢
  obtain ⟨na7, hx7, lt7⟩ := id j7.bk.na
  refine ⟨_, rfl, z.x, z6.dx, _, rfl, by rw [← ez, ← ez5, ← ez6]; exact hx7, bk_none (by decide +kernel), z6, r21, _, [], .str "a", "str", by rw [ez6, ez5, ez]; rfl, ok, bo6, j7.bk, .str _, ?_, ?_, ?_⟩
  · show (b5.past ++ [_]).length ≤ 1000
    rw [List.length_append, hp5]; show 1 + 1 ≤ 1000; decide
  · show (b5.now.d ++ (ticksF r21 0 _ _ _).2.2).length ≤ 50000
    rw [List.length_append, ticksF_len, hn5, ld5]; decide
  have pa : personOf r21 (.str "a") = some 0 := by decide +kernel
  have ht : (recB "step" b5 (stepN r21 0 b5.now)).now.t = 500 := by
    show b5.now.t + 0 = 500
    rw [hn5]; rfl
  have ho : (recB "step" b5 (stepN r21 0 b5.now)).now.o = (stepN r21 500 (bst0 r21).now).o := by
    show b5.now.o = _
    rw [hn5]
  have hm : (0 : Int) ∈ homes r21 500 := by decide +kernel
  have hl : less (owes (stepN r21 500 (bst0 r21).now).o 0) = 0 := by decide +kernel
  rw [pa]
  refine ⟨fun h => absurd (by rw [ht]; exact hm) h, fun _ H8 bs8 => ?_⟩
  rw [ho, hl]
  refine ⟨rfl, true, rfl, ?_⟩
  rw [if_pos rfl]
  obtain ⟨z8, ez8, w8, o8, bk8⟩ := bs8
  obtain ⟨na8, hx8, lt8⟩ := id bk8.na
  refine ⟨_, rfl, z.x, z8.dx, _, rfl, by rw [← ez, ← ez5, ← ez6, ← ez8]; exact hx8, z8, r21, _, [], by rw [ez8, ez6, ez5, ez], bk8, rfl, ?_⟩
  have h501 : (giftN 0 (recB "step" b5 (stepN r21 0 b5.now)).now).t = 501 := by
    show (recB "step" b5 (stepN r21 0 b5.now)).now.t + 1 = 501
    rw [ht]
  show D.rt (V.bl (decide (V.int ((giftN 0 (recB "step" b5 (stepN r21 0 b5.now)).now).t : Int) = V.int 501))) _
  rw [h501]
  exact q _
theorem p12 (k : K21 P w K mg base CB CC CU CN CI CW) (hR : mg "RotaError" = some (.ref CR)) (gc : ∀ i, i < 14 → mg (clsN.getD i "") = some (.ref (cs i))) (TB : LamX.TabB base mg cT PT) (EO : DefAt K mg "_law_error_of" s_law_error_of ["_law_call"]) (EA : DefAt K mg "_law_all_raise" s_law_all_raise ["_law_calls", "_law_expected"])
    (k1 : ErK K cs CR CC 1) (k2 : ErK K cs CR CU 2) (k6 : ErK K cs CR CN 6) (f : Addr) (A : Around) (outer : List Env) (s : Shared) (H0 : Hp) (E : XK) (hr : Room 9 (A.deeper (envOfC "law" (defScope slaw) s.heap.objs.size f (.ref cT)))) :
    ∃ t, PSs (cxOf CX0 P w K mg base ["_law_script", "_law_d", "_law_book", "_law_far", "_law_name", "_law_calls", "_law_count"] "law" (defScope slaw) f (.ref cT) A outer s H0 E).nox (rest21 12) t ∧ ∀ (D : Ends) (d : Addr) (z : Bz) (s0 s3 s4 s5 s6 : Option V) (H : Hp), J21 CB PT d ((envOfC "law" (defScope slaw) s.heap.objs.size f (.ref cT)).qual ++ "<lambda>") z r21 (bst0 r21) H → (∀ H', D.rt (.bl true) H') → t D [s0, some (.ref d), some (.ref z.x), s3, s4, s5, s6] H := by
  have nd := sclaw.nd
  have T := k.T
  have BC := k.BC
  have cl_Book := BC.cl
  have hu := hr.units
  obtain ⟨f1, fd1, me_gift, b_gift, G_gift⟩ := k.c_gift.ex
  obtain ⟨f2, fd2, me_batch, b_batch, G_batch⟩ := k.c_batch.ex
  obtain ⟨tn, hn, qn⟩ := p14 (PT := PT) k f A outer s H0 E hr
  refine ⟨_, (pss_cons (ps_set (i := 5) nd rfl (Or.inl rfl) (pe_lst (pa_cons (pe_lmA TB rfl (lamD_by (N := ["_law_script", "_law_d", "_law_book", "_law_far", "_law_name", "_law_calls", "_law_count"]) (sc := defScope slaw) (ps := []) (by decide +kernel)) rfl) (pa_cons (pe_lmB TB rfl (lamD_by (N := ["_law_script", "_law_d", "_law_book", "_law_far", "_law_name", "_law_calls", "_law_count"]) (sc := defScope slaw) (ps := ["_law_a"]) (by decide +kernel)) rfl rfl pe_int) pa_nil))))
 (pss_cons (ps_if (pt_not (pt_val (pe_allr (k := 6) EO EA T hR gc (by rfl) (hr.mono (by decide))
 (le_cons (leOk (p := lamP (lamE slaw [12] 0)) (b := lamB (lamE slaw [12] 0)) (sc := lamS (defScope slaw) (lamE slaw [12] 0)) (dv := []) (lamD_by (N := ["_law_script", "_law_d", "_law_book", "_law_far", "_law_name", "_law_calls", "_law_count"]) (sc := defScope slaw) (ps := []) (by decide +kernel)) (.inl ⟨rfl, rfl, fun _ _ _ _ _ _ => rfl⟩) (fun _ _ _ _ _ _ _ hr => (pe_meth (pv 2) cl_Book me_gift G_gift (hr.mono (by first | decide | omega)) b_gift .nil (passes_call (takes_of rfl rfl rfl rfl) (fun _ _ _ _ h => h)) (pa_cons pe_str pa_nil))))
 (le_cons (leOk (p := lamP (lamE slaw [12] 1)) (b := lamB (lamE slaw [12] 1)) (sc := lamS (defScope slaw) (lamE slaw [12] 1)) (dv := [.int 0]) (lamD_by (N := ["_law_script", "_law_d", "_law_book", "_law_far", "_law_name", "_law_calls", "_law_count"]) (sc := defScope slaw) (ps := ["_law_a"]) (by decide +kernel)) (.inr ⟨_, _, rfl, rfl, fun _ _ _ _ _ _ _ _ => ⟨_, rfl, rfl⟩⟩) (fun _ _ _ _ _ _ _ hr => (pe_meth (pv 2) cl_Book me_batch G_batch (hr.mono (by first | decide | omega)) b_batch .nil (passes_call (takes_of rfl rfl rfl rfl) (fun _ _ _ _ h => h)) (pa_cons (pe_lst (pa_cons (pe_tup (pa_cons pe_str (pa_cons pe_int pa_nil))) (pa_cons (pe_tup (pa_cons pe_str (pa_cons pe_str pa_nil))) pa_nil))) pa_nil))))
 le_nil)) (pv 5) (pe_tup (pa_cons pe_str (pa_cons pe_int pa_nil))))))
 (pss_one (ps_ret pe_bl))
 pss_nil)
 hn)), ?_⟩
  let qq : Str := (envOfC "law" (defScope slaw) s.heap.objs.size f (.ref cT)).qual ++ "<lambda>"
  intro D d z s0 s3 s4 s5 s6 H j q
  have ok := r21_ok
  have bo := bst0_ok ok
  refine ⟨j.tabs, fun g0 H1 e1 t1 a0 => ⟨t1, fun g1 H2 e2 t2 a1 => ⟨by show 2 ≤ sizeLine; decide, fun p hp => ?_⟩⟩⟩
  obtain ⟨G, st, g, hG⟩ := mkG2 (a0.ext e2) a1
  have j2 := (j.ext e1 t1).ext e2 t2
  refine ⟨_, rfl, by show 2 ≤ sizeLine; decide, fun yp hyp => ⟨p, [g0, g1], rfl, ?_, ?_, fun Dd hDd => ?_⟩⟩
  · have w := ((Wd.refl H2).new (.lst [V.ref g0, V.ref g1]) hp).new (.tup [V.str "nobody", V.int 0]) hyp
    obtain ⟨b0, b1⟩ := hG _ (st.wd w (fun _ h => nomatch h) g)
    exact .cons b0 (.cons b1 .nil)
  · exact (upd_ne (ne_of_none upd_same hyp)).trans upd_same
  have c := C21.mk' j2 st g hp hyp hDd
  generalize upd (upd (upd H2 p (.lst [V.ref g0, V.ref g1])) yp (.tup [V.str "nobody", V.int 0])) Dd (.lst []) = H5 at c
  have pb : personOf r21 (.str "b") = some 1 := by decide +kernel
  have hb : (1 : Int) ∉ homes r21 0 := by decide +kernel
  obtain ⟨na, hx, _⟩ := id c.j.bk.na
  refine ⟨c.ha, c.hD, fun Q hQ => ⟨(hG _ c.g).1, ?_⟩⟩
  refine ⟨_, rfl, z.x, z.dx, _, rfl, hx, bk_none (by decide +kernel), z, r21, bst0 r21, [], .str "b", "str", rfl, ok, bo, c.j.bk, .str _, Nat.zero_le _, Nat.zero_le _, ?_⟩
  rw [pb]
  refine ⟨fun _ H6 w6 => er_none k6 (by decide) rfl (by decide +kernel) (c.wd0 w6).hy fun H7 w7 => hQ H7 ?_, fun h => absurd h hb⟩
  have c7 := (c.wd0 w6).wd0 w7
  obtain ⟨na7, hx7, _⟩ := id c7.j.bk.na
  refine ⟨c7.ha, c7.hD, fun Q hQ => ⟨(hG _ c7.g).2, ?_⟩⟩
  refine ⟨_, rfl, z.x, z.dx, _, rfl, hx7, bk_none (by decide +kernel), by show 2 ≤ sizeLine; decide, fun o1 ho1 => ⟨by show 2 ≤ sizeLine; decide, fun o2 ho2 => ⟨by show 2 ≤ sizeLine; decide, fun la hla => ?_⟩⟩⟩
  have w8 := (((Wd.refl H7).new (.tup [V.str "step", V.int 2]) ho1).new (.tup [V.str "gift", V.str "b"]) ho2).new (.lst [V.ref o1, V.ref o2]) hla
  have c8 := c7.wd0 w8
  have q0 := w8.get 0 rfl
  have q1 := w8.get 1 rfl
  have q2 := w8.get 2 rfl
  have nla : la ∉ z.own := fun hm => (c7.wd0 (((Wd.refl H7).new (.tup [V.str "step", V.int 2]) ho1).new (.tup [V.str "gift", V.str "b"]) ho2)).j.bk.al la hm hla
  refine ⟨z, la, [o1, o2], [.step 2, .gift "b"], r21, bst0 r21, [], 0, "nobody", rfl, ok, bo, BSz.zero _, by decide, c8.j.bk, q0, nla, .cons q2 (.cons q1 .nil), ?_, by decide, bat_nobody, fun H9 z9 ez9 w9 o9 bk9 => ?_⟩
  · intro op hop
    simp only [List.mem_cons, List.not_mem_nil, or_false] at hop
    rcases hop with rfl | rfl
    · exact .inl (by decide)
    · exact .inl (by decide +kernel)
  have c9 := c8.to w9 o9 bk9
  refine er_none k6 (by decide) rfl (by decide +kernel) c9.hy fun H10 w10 => hQ H10 ?_
  have c10 := c9.wd0 w10
  refine ⟨c10.ha, c10.hD, fun H11 w11 => ⟨true, rfl, iteF ?_⟩⟩
  have := qn D d qq z9 s0 s3 s4 (some (.ref p)) s6 H11 (c10.j.wd0 w11) q
  rw [ez9] at this
  exact this
theorem p9 (k : K21 P w K mg base CB CC CU CN CI CW) (hR : mg "RotaError" = some (.ref CR)) (gc : ∀ i, i < 14 → mg (clsN.getD i "") = some (.ref (cs i))) (TB : LamX.TabB base mg cT PT) (EO : DefAt K mg "_law_error_of" s_law_error_of ["_law_call"]) (EA : DefAt K mg "_law_all_raise" s_law_all_raise ["_law_calls", "_law_expected"])
    (k1 : ErK K cs CR CC 1) (k2 : ErK K cs CR CU 2) (k6 : ErK K cs CR CN 6) (f : Addr) (A : Around) (outer : List Env) (s : Shared) (H0 : Hp) (E : XK) (hr : Room 9 (A.deeper (envOfC "law" (defScope slaw) s.heap.objs.size f (.ref cT)))) :
    ∃ t, PSs (cxOf CX0 P w K mg base ["_law_script", "_law_d", "_law_book", "_law_far", "_law_name", "_law_calls", "_law_count"] "law" (defScope slaw) f (.ref cT) A outer s H0 E).nox (rest21 9) t ∧ ∀ (D : Ends) (d : Addr) (z : Bz) (s0 s4 s5 s6 : Option V) (far : Int) (H : Hp), J21 CB PT d ((envOfC "law" (defScope slaw) s.heap.objs.size f (.ref cT)).qual ++ "<lambda>") z r21 (bst0 r21) H → 0 ≤ far → (∀ H', D.rt (.bl true) H') → t D [s0, some (.ref d), some (.ref z.x), some (.int far), s4, s5, s6] H := by
  have nd := sclaw.nd
  have T := k.T
  have BC := k.BC
  have cl_Book := BC.cl
  have hu := hr.units
  obtain ⟨f0, fd0, m__law_below, kp__law_below, b__law_below, G__law_below⟩ := k.c_below.ex
  obtain ⟨f1, fd1, me_step, b_step, G_step⟩ := k.c_step.ex
  obtain ⟨f2, fd2, me_batch, b_batch, G_batch⟩ := k.c_batch.ex
  obtain ⟨tn, hn, qn⟩ := p12 k hR gc TB EO EA k1 k2 k6 f A outer s H0 E hr
  refine ⟨_, (pss_cons (ps_set (i := 6) nd rfl (Or.inr rfl) (pe_ix (r := rIxL K) ix_list (pe_lst (pa_cons (pe_op op_sub (pe_op op_sub pe_int pe_int) (pv 3)) (pa_cons (pe_op op_add pe_int (pv 3)) (pa_cons pe_non (pa_cons pe_bl (pa_cons pe_str pa_nil)))))) (pe_call G__law_below (hr.mono (by first | decide | omega)) (by rfl) m__law_below kp__law_below b__law_below .nil pass0 (pa_cons (pv 1) (pa_cons pe_int pa_nil))) (fun _ _ => rfl)))
 (pss_cons (ps_set (i := 5) nd rfl (Or.inl rfl) (pe_lst (pa_cons (pe_lmA TB rfl (lamD_by (N := ["_law_script", "_law_d", "_law_book", "_law_far", "_law_name", "_law_calls", "_law_count"]) (sc := defScope slaw) (ps := []) (by decide +kernel)) rfl) (pa_cons (pe_lmB TB rfl (lamD_by (N := ["_law_script", "_law_d", "_law_book", "_law_far", "_law_name", "_law_calls", "_law_count"]) (sc := defScope slaw) (ps := ["_law_a"]) (by decide +kernel)) rfl rfl pe_int) pa_nil))))
 (pss_cons (ps_if (pt_not (pt_val (pe_allr (k := 6) EO EA T hR gc (by rfl) (hr.mono (by decide))
 (le_cons (leOk (p := lamP (lamE slaw [10] 0)) (b := lamB (lamE slaw [10] 0)) (sc := lamS (defScope slaw) (lamE slaw [10] 0)) (dv := []) (lamD_by (N := ["_law_script", "_law_d", "_law_book", "_law_far", "_law_name", "_law_calls", "_law_count"]) (sc := defScope slaw) (ps := []) (by decide +kernel)) (.inl ⟨rfl, rfl, fun _ _ _ _ _ _ => rfl⟩) (fun _ _ _ _ _ _ _ hr => (pe_meth (pv 2) cl_Book me_step G_step (hr.mono (by first | decide | omega)) b_step .nil (passes_call (takes_of rfl rfl rfl rfl) (fun _ _ _ _ h => h)) (pa_cons (pv 6) pa_nil))))
 (le_cons (leOk (p := lamP (lamE slaw [10] 1)) (b := lamB (lamE slaw [10] 1)) (sc := lamS (defScope slaw) (lamE slaw [10] 1)) (dv := [.int 0]) (lamD_by (N := ["_law_script", "_law_d", "_law_book", "_law_far", "_law_name", "_law_calls", "_law_count"]) (sc := defScope slaw) (ps := ["_law_a"]) (by decide +kernel)) (.inr ⟨_, _, rfl, rfl, fun _ _ _ _ _ _ _ _ => ⟨_, rfl, rfl⟩⟩) (fun _ _ _ _ _ _ _ hr => (pe_meth (pv 2) cl_Book me_batch G_batch (hr.mono (by first | decide | omega)) b_batch .nil (passes_call (takes_of rfl rfl rfl rfl) (fun _ _ _ _ h => h)) (pa_cons (pe_lst (pa_cons (pe_tup (pa_cons pe_str (pa_cons pe_str pa_nil))) (pa_cons (pe_tup (pa_cons pe_str (pa_cons (pv 6) pa_nil))) pa_nil))) pa_nil))))
 le_nil)) (pv 5) (pe_tup (pa_cons pe_str (pa_cons pe_int pa_nil))))))
 (pss_one (ps_ret pe_bl))
 pss_nil)
 hn))), ?_⟩
  let qq : Str := (envOfC "law" (defScope slaw) s.heap.objs.size f (.ref cT)).qual ++ "<lambda>"
  intro D d z s0 s4 s5 s6 far H j hfar q
  have ok := r21_ok
  have bo := bst0_ok ok
  obtain ⟨x, y, l, hd, okd⟩ := id j.dr
  refine ⟨0, 1, rfl, rfl, _, rfl, _, _, rfl, rfl, _, rfl, 501, far, rfl, rfl, by show 5 ≤ sizeLine; decide, fun cl hcl => ?_⟩
  have w0 := (Wd.refl H).new (.lst [V.int (0 - 1 - far), V.int (501 + far), .non, .bl true, .str "1"]) hcl
  refine ⟨_, rfl, d, 5, x, y, l, rfl, by decide, by decide, w0.old hd (by simp), okd, fun kk x1 y1 l1 H1 w1 okd1 hk0 hk5 => ?_⟩
  have dne : d ≠ cl := ne_of_none hd hcl
  have j0 := j.wd0 w0
  have mud : MuO (upd H cl (.lst [V.int (0 - 1 - far), V.int (501 + far), .non, .bl true, .str "1"])) [d] := fun b hb => by rw [List.mem_singleton.mp hb]; exact ⟨_, w0.old hd (by simp), trivial⟩
  have hcl1 := w1.base _ _ (by simpa using dne.symm) (w0.get 0 rfl)
  have j1 : J21 CB PT d qq z r21 (bst0 r21) H1 := ⟨tabs_wdO j0.tabs w1 mud, ⟨x1, y1, l1, w1.get 0 rfl, okd1⟩, j0.bk.keep w1 (fun a ha => by rw [List.mem_singleton.mp ha]; exact j0.nd) mud.mu, j0.nd⟩
  obtain ⟨bv, hbv⟩ : ∃ bv : BadV, atI [V.int (0 - 1 - far), V.int (501 + far), .non, .bl true, .str "1"] kk = some (badV bv) := by
    obtain ⟨m, rfl⟩ : ∃ m : Nat, far = m := ⟨far.toNat, by omega⟩
    have : kk = 0 ∨ kk = 1 ∨ kk = 2 ∨ kk = 3 ∨ kk = 4 := by omega
    rcases this with h | h | h | h | h <;> subst h
    · exact ⟨.neg m, rfl⟩
    · exact ⟨.big m, rfl⟩
    · exact ⟨.non, rfl⟩
    · exact ⟨.tru, rfl⟩
    · exact ⟨.one, rfl⟩
  refine ⟨cl, _, kk, badV bv, rfl, rfl, .inl (.inl hcl1), hbv, ?_⟩
  refine ⟨j1.tabs, fun g0 H1' e1 t1 a0 => ⟨t1, fun g1 H2 e2 t2 a1 => ⟨by show 2 ≤ sizeLine; decide, fun p hp => ?_⟩⟩⟩
  obtain ⟨G, st, g, hG⟩ := mkG2 (a0.ext e2) a1
  have j2 := (j1.ext e1 t1).ext e2 t2
  refine ⟨_, rfl, by show 2 ≤ sizeLine; decide, fun yp hyp => ⟨p, [g0, g1], rfl, ?_, ?_, fun Dd hDd => ?_⟩⟩
  · have w := ((Wd.refl H2).new (.lst [V.ref g0, V.ref g1]) hp).new (.tup [V.str "count", V.int 0]) hyp
    obtain ⟨b0, b1⟩ := hG _ (st.wd w (fun _ h => nomatch h) g)
    exact .cons b0 (.cons b1 .nil)
  · exact (upd_ne (ne_of_none upd_same hyp)).trans upd_same
  have c := C21.mk' j2 st g hp hyp hDd
  generalize upd (upd (upd H2 p (.lst [V.ref g0, V.ref g1])) yp (.tup [V.str "count", V.int 0])) Dd (.lst []) = H5 at c
  obtain ⟨tb, kb⟩ := bad_ky H5 bv
  obtain ⟨na, hx, _⟩ := id c.j.bk.na
  refine ⟨c.ha, c.hD, fun Q hQ => ⟨(hG _ c.g).1, ?_⟩⟩
  refine ⟨_, rfl, z.x, z.dx, _, rfl, hx, bk_none (by decide +kernel), _, rfl, z, r21, bst0 r21, [], badV bv, tb, rfl, ok, bo, c.j.bk, kb, Nat.zero_le _, Nat.zero_le _, fun _ H6 w6 => er_none k1 (by decide) rfl (by decide +kernel) (c.wd0 w6).hy fun H7 w7 => hQ H7 ?_, fun k' e hk => ?_⟩
  rotate_left
  · have := bad_in bv
    rw [e, show intIn 0 500 (.int (k' : Int)) = (decide ((0 : Int) ≤ (k' : Int)) && decide ((k' : Int) ≤ 500)) from rfl, decide_eq_true (by omega), decide_eq_true (by omega)] at this
    cases this
  have c7 := (c.wd0 w6).wd0 w7
  obtain ⟨na7, hx7, _⟩ := id c7.j.bk.na
  refine ⟨c7.ha, c7.hD, fun Q hQ => ⟨(hG _ c7.g).2, ?_⟩⟩
  refine ⟨_, rfl, z.x, z.dx, _, rfl, hx7, bk_none (by decide +kernel), by show 2 ≤ sizeLine; decide, fun o1 ho1 => ⟨_, rfl, by show 2 ≤ sizeLine; decide, fun o2 ho2 => ⟨by show 2 ≤ sizeLine; decide, fun la hla => ?_⟩⟩⟩
  have w8 := (((Wd.refl H7).new (.tup [V.str "gift", V.str "a"]) ho1).new (.tup [V.str "step", badV bv]) ho2).new (.lst [V.ref o1, V.ref o2]) hla
  have c8 := c7.wd0 w8
  have q0 := w8.get 0 rfl
  have q1 := w8.get 1 rfl
  have q2 := w8.get 2 rfl
  have nla : la ∉ z.own := fun hm => (c7.wd0 (((Wd.refl H7).new (.tup [V.str "gift", V.str "a"]) ho1).new (.tup [V.str "step", badV bv]) ho2)).j.bk.al la hm hla
  refine ⟨z, la, [o1, o2], [.gift "a", .bad bv], r21, bst0 r21, [], 0, "count", rfl, ok, bo, BSz.zero _, by decide, c8.j.bk, q0, nla, .cons q2 (.cons q1 .nil), ?_, by show 2 ≤ 60; decide, bat_count bv, fun H9 z9 ez9 w9 o9 bk9 => ?_⟩
  · intro op hop
    simp only [List.mem_cons, List.not_mem_nil, or_false] at hop
    rcases hop with rfl | rfl
    · exact .inl (by decide +kernel)
    · trivial
  have c9 := c8.to w9 o9 bk9
  refine er_none k1 (by decide) rfl (by decide +kernel) c9.hy fun H10 w10 => hQ H10 ?_
  have c10 := c9.wd0 w10
  refine ⟨c10.ha, c10.hD, fun H11 w11 => ⟨true, rfl, iteF ?_⟩⟩
  have := qn D d z9 s0 (some (.int far)) s4 (some (.ref p)) (some (badV bv)) H11 (c10.j.wd0 w11) q
  rw [ez9] at this
  exact this
theorem p7 (k : K21 P w K mg base CB CC CU CN CI CW) (hR : mg "RotaError" = some (.ref CR)) (gc : ∀ i, i < 14 → mg (clsN.getD i "") = some (.ref (cs i))) (TB : LamX.TabB base mg cT PT) (EO : DefAt K mg "_law_error_of" s_law_error_of ["_law_call"]) (EA : DefAt K mg "_law_all_raise" s_law_all_raise ["_law_calls", "_law_expected"])
    (k1 : ErK K cs CR CC 1) (k2 : ErK K cs CR CU 2) (k6 : ErK K cs CR CN 6) (f : Addr) (A : Around) (outer : List Env) (s : Shared) (H0 : Hp) (E : XK) (hr : Room 9 (A.deeper (envOfC "law" (defScope slaw) s.heap.objs.size f (.ref cT)))) :
    ∃ t, PSs (cxOf CX0 P w K mg base ["_law_script", "_law_d", "_law_book", "_law_far", "_law_name", "_law_calls", "_law_count"] "law" (defScope slaw) f (.ref cT) A outer s H0 E).nox (rest21 7) t ∧ ∀ (D : Ends) (d : Addr) (z : Bz) (s0 s5 s6 : Option V) (far : Int) (nv : V) (H : Hp), J21 CB PT d ((envOfC "law" (defScope slaw) s.heap.objs.size f (.ref cT)).qual ++ "<lambda>") z r21 (bst0 r21) H → 0 ≤ far → NmV H nv → (∀ H', D.rt (.bl true) H') → t D [s0, some (.ref d), some (.ref z.x), some (.int far), some nv, s5, s6] H := by
  have nd := sclaw.nd
  have T := k.T
  have BC := k.BC
  have cl_Book := BC.cl
  have hu := hr.units
  obtain ⟨f1, fd1, me_gift, b_gift, G_gift⟩ := k.c_gift.ex
  obtain ⟨f2, fd2, me_forgive, b_forgive, G_forgive⟩ := k.c_forgive.ex
  obtain ⟨tn, hn, qn⟩ := p9 k hR gc TB EO EA k1 k2 k6 f A outer s H0 E hr
  refine ⟨_, (pss_cons (ps_set (i := 5) nd rfl (Or.inl rfl) (pe_lst (pa_cons (pe_lmA TB rfl (lamD_by (N := ["_law_script", "_law_d", "_law_book", "_law_far", "_law_name", "_law_calls", "_law_count"]) (sc := defScope slaw) (ps := []) (by decide +kernel)) rfl) (pa_cons (pe_lmB TB rfl (lamD_by (N := ["_law_script", "_law_d", "_law_book", "_law_far", "_law_name", "_law_calls", "_law_count"]) (sc := defScope slaw) (ps := ["_law_a"]) (by decide +kernel)) rfl rfl pe_int) (pa_cons (pe_lmB TB rfl (lamD_by (N := ["_law_script", "_law_d", "_law_book", "_law_far", "_law_name", "_law_calls", "_law_count"]) (sc := defScope slaw) (ps := ["_law_b"]) (by decide +kernel)) rfl rfl pe_int) pa_nil)))))
 (pss_cons (ps_if (pt_not (pt_val (pe_allr (k := 6) EO EA T hR gc (by rfl) (hr.mono (by decide))
 (le_cons (leOk (p := lamP (lamE slaw [7] 0)) (b := lamB (lamE slaw [7] 0)) (sc := lamS (defScope slaw) (lamE slaw [7] 0)) (dv := []) (lamD_by (N := ["_law_script", "_law_d", "_law_book", "_law_far", "_law_name", "_law_calls", "_law_count"]) (sc := defScope slaw) (ps := []) (by decide +kernel)) (.inl ⟨rfl, rfl, fun _ _ _ _ _ _ => rfl⟩) (fun _ _ _ _ _ _ _ hr => (pe_meth (pv 2) cl_Book me_gift G_gift (hr.mono (by first | decide | omega)) b_gift .nil (passes_call (takes_of rfl rfl rfl rfl) (fun _ _ _ _ h => h)) (pa_cons (pv 4) pa_nil))))
 (le_cons (leOk (p := lamP (lamE slaw [7] 1)) (b := lamB (lamE slaw [7] 1)) (sc := lamS (defScope slaw) (lamE slaw [7] 1)) (dv := [.int 0]) (lamD_by (N := ["_law_script", "_law_d", "_law_book", "_law_far", "_law_name", "_law_calls", "_law_count"]) (sc := defScope slaw) (ps := ["_law_a"]) (by decide +kernel)) (.inr ⟨_, _, rfl, rfl, fun _ _ _ _ _ _ _ _ => ⟨_, rfl, rfl⟩⟩) (fun _ _ _ _ _ _ _ hr => (pe_meth (pv 2) cl_Book me_forgive G_forgive (hr.mono (by first | decide | omega)) b_forgive .nil (passes_call (takes_of rfl rfl rfl rfl) (fun _ _ _ _ h => h)) (pa_cons (pv 4) pa_nil))))
 (le_cons (leOk (p := lamP (lamE slaw [7] 2)) (b := lamB (lamE slaw [7] 2)) (sc := lamS (defScope slaw) (lamE slaw [7] 2)) (dv := [.int 0]) (lamD_by (N := ["_law_script", "_law_d", "_law_book", "_law_far", "_law_name", "_law_calls", "_law_count"]) (sc := defScope slaw) (ps := ["_law_b"]) (by decide +kernel)) (.inr ⟨_, _, rfl, rfl, fun _ _ _ _ _ _ _ _ => ⟨_, rfl, rfl⟩⟩) (fun _ _ _ _ _ _ _ hr => (pe_meth (pv 2) cl_Book me_gift G_gift (hr.mono (by first | decide | omega)) b_gift .nil (passes_call (takes_of rfl rfl rfl rfl) (fun _ _ _ _ h => h)) (pa_cons pe_str pa_nil))))
 le_nil))) (pv 5) (pe_tup (pa_cons pe_str (pa_cons pe_int pa_nil))))))
 (pss_one (ps_ret pe_bl))
 pss_nil)
 hn)), ?_⟩
  let qq : Str := (envOfC "law" (defScope slaw) s.heap.objs.size f (.ref cT)).qual ++ "<lambda>"
  intro D d z s0 s5 s6 far nv H j hfar hv q
  have ok := r21_ok
  have bo := bst0_ok ok
  refine ⟨j.tabs, fun g0 H1 e1 t1 a0 => ⟨t1, fun g1 H2 e2 t2 a1 => ⟨t2, fun g2 H3 e3 t3 a2 => ⟨by show 3 ≤ sizeLine; decide, fun p hp => ?_⟩⟩⟩⟩
  obtain ⟨G, st, g, hG⟩ := mkG3 ((a0.ext e2).ext e3) (a1.ext e3) a2
  have j3 := ((j.ext e1 t1).ext e2 t2).ext e3 t3
  have tk : ∀ b xs, H b = some (.tup xs) → H3 b = some (.tup xs) := fun b xs e => e3 _ _ (e2 _ _ (e1 _ _ e (fun _ => by simp)) (fun _ => by simp)) (fun _ => by simp)
  refine ⟨_, rfl, by show 2 ≤ sizeLine; decide, fun yp hyp => ⟨p, [g0, g1, g2], rfl, ?_, ?_, fun Dd hDd => ?_⟩⟩
  · have w := ((Wd.refl H3).new (.lst [V.ref g0, V.ref g1, V.ref g2]) hp).new (.tup [V.str "person", V.int 0]) hyp
    obtain ⟨b0, b1, b2⟩ := hG _ (st.wd w (fun _ h => nomatch h) g)
    exact .cons b0 (.cons b1 (.cons b2 .nil))
  · exact (upd_ne (ne_of_none upd_same hyp)).trans upd_same
  have c := C21.mk' j3 st g hp hyp hDd
  have hv5 := (hv.keep tk).keep ((((Wd.refl H3).new (.lst [V.ref g0, V.ref g1, V.ref g2]) hp).new (.tup [V.str "person", V.int 0]) hyp).new (.lst []) hDd).tups
  generalize upd (upd (upd H3 p (.lst [V.ref g0, V.ref g1, V.ref g2])) yp (.tup [V.str "person", V.int 0])) Dd (.lst []) = H5 at c hv5
  have pz : personOf r21 (.str "zz") = none := by decide +kernel
  obtain ⟨na, hx, _⟩ := id c.j.bk.na
  obtain ⟨t5, ky5⟩ := hv5.ky
  refine ⟨c.ha, c.hD, fun Q hQ => ⟨(hG _ c.g).1, ?_⟩⟩
  refine ⟨_, rfl, z.x, z.dx, _, rfl, hx, bk_none (by decide +kernel), _, rfl, z, r21, bst0 r21, [], nv, t5, rfl, ok, bo, c.j.bk, ky5, Nat.zero_le _, Nat.zero_le _, ?_⟩
  rw [hv5.per]
  refine fun H6 w6 => er_none k2 (by decide) rfl (by decide +kernel) (c.wd0 w6).hy fun H7 w7 => hQ H7 ?_
  have c7 := (c.wd0 w6).wd0 w7
  have hv7 := (hv5.keep w6.tups).keep w7.tups
  obtain ⟨na7, hx7, _⟩ := id c7.j.bk.na
  obtain ⟨t7, ky7⟩ := hv7.ky
  refine ⟨c7.ha, c7.hD, fun Q hQ => ⟨(hG _ c7.g).2.1, ?_⟩⟩
  refine ⟨_, rfl, z.x, z.dx, _, rfl, hx7, bk_none (by decide +kernel), _, rfl, z, r21, bst0 r21, [], nv, t7, rfl, ok, bo, c7.j.bk, ky7, Nat.zero_le _, ?_⟩
  rw [hv7.per]
  refine fun H8 w8 => er_none k2 (by decide) rfl (by decide +kernel) (c7.wd0 w8).hy fun H9 w9 => hQ H9 ?_
  have c9 := (c7.wd0 w8).wd0 w9
  obtain ⟨na9, hx9, _⟩ := id c9.j.bk.na
  refine ⟨c9.ha, c9.hD, fun Q hQ => ⟨(hG _ c9.g).2.2, ?_⟩⟩
  refine ⟨_, rfl, z.x, z.dx, _, rfl, hx9, bk_none (by decide +kernel), z, r21, bst0 r21, [], .str "zz", "str", rfl, ok, bo, c9.j.bk, .str _, Nat.zero_le _, Nat.zero_le _, ?_⟩
  rw [pz]
  refine fun H10 w10 => er_none k2 (by decide) rfl (by decide +kernel) (c9.wd0 w10).hy fun H11 w11 => hQ H11 ?_
  have c11 := (c9.wd0 w10).wd0 w11
  refine ⟨c11.ha, c11.hD, fun H12 w12 => ⟨true, rfl, iteF ?_⟩⟩
  exact qn D d z s0 (some nv) (some (.ref p)) s6 far H12 (c11.j.wd0 w12) hfar q
theorem p5 (k : K21 P w K mg base CB CC CU CN CI CW) (hR : mg "RotaError" = some (.ref CR)) (gc : ∀ i, i < 14 → mg (clsN.getD i "") = some (.ref (cs i))) (TB : LamX.TabB base mg cT PT) (EO : DefAt K mg "_law_error_of" s_law_error_of ["_law_call"]) (EA : DefAt K mg "_law_all_raise" s_law_all_raise ["_law_calls", "_law_expected"])
    (k1 : ErK K cs CR CC 1) (k2 : ErK K cs CR CU 2) (k6 : ErK K cs CR CN 6) (k8 : ErK K cs CR CW 8) (f : Addr) (A : Around) (outer : List Env) (s : Shared) (H0 : Hp) (E : XK) (hr : Room 9 (A.deeper (envOfC "law" (defScope slaw) s.heap.objs.size f (.ref cT)))) :
    ∃ t, PSs (cxOf CX0 P w K mg base ["_law_script", "_law_d", "_law_book", "_law_far", "_law_name", "_law_calls", "_law_count"] "law" (defScope slaw) f (.ref cT) A outer s H0 E).nox (rest21 5) t ∧ ∀ (D : Ends) (d : Addr) (z : Bz) (s0 s5 s6 : Option V) (far : Int) (nv : V) (H : Hp), J21 CB PT d ((envOfC "law" (defScope slaw) s.heap.objs.size f (.ref cT)).qual ++ "<lambda>") z r21 (bst0 r21) H → 0 ≤ far → NmV H nv → (∀ H', D.rt (.bl true) H') → t D [s0, some (.ref d), some (.ref z.x), some (.int far), some nv, s5, s6] H := by
  have nd := sclaw.nd
  have T := k.T
  have BC := k.BC
  have cl_Book := BC.cl
  have hu := hr.units
  obtain ⟨f1, fd1, me_restore, b_restore, G_restore⟩ := k.c_restore.ex
  obtain ⟨tn, hn, qn⟩ := p7 k hR gc TB EO EA k1 k2 k6 f A outer s H0 E hr
  refine ⟨_, (pss_cons (ps_set (i := 5) nd rfl (Or.inl rfl) (pe_lst (pa_cons (pe_lmA TB rfl (lamD_by (N := ["_law_script", "_law_d", "_law_book", "_law_far", "_law_name", "_law_calls", "_law_count"]) (sc := defScope slaw) (ps := []) (by decide +kernel)) rfl) (pa_cons (pe_lmB TB rfl (lamD_by (N := ["_law_script", "_law_d", "_law_book", "_law_far", "_law_name", "_law_calls", "_law_count"]) (sc := defScope slaw) (ps := ["_law_a"]) (by decide +kernel)) rfl rfl pe_int) pa_nil))))
 (pss_cons (ps_if (pt_not (pt_val (pe_allr (k := 6) EO EA T hR gc (by rfl) (hr.mono (by decide))
 (le_cons (leOk (p := lamP (lamE slaw [5] 0)) (b := lamB (lamE slaw [5] 0)) (sc := lamS (defScope slaw) (lamE slaw [5] 0)) (dv := []) (lamD_by (N := ["_law_script", "_law_d", "_law_book", "_law_far", "_law_name", "_law_calls", "_law_count"]) (sc := defScope slaw) (ps := []) (by decide +kernel)) (.inl ⟨rfl, rfl, fun _ _ _ _ _ _ => rfl⟩) (fun _ _ _ _ _ _ _ hr => (pe_meth (pv 2) cl_Book me_restore G_restore (hr.mono (by first | decide | omega)) b_restore .nil (passes_call (takes_of rfl rfl rfl rfl) (fun _ _ _ _ h => h)) (pa_cons (pv 4) pa_nil))))
 (le_cons (leOk (p := lamP (lamE slaw [5] 1)) (b := lamB (lamE slaw [5] 1)) (sc := lamS (defScope slaw) (lamE slaw [5] 1)) (dv := [.int 0]) (lamD_by (N := ["_law_script", "_law_d", "_law_book", "_law_far", "_law_name", "_law_calls", "_law_count"]) (sc := defScope slaw) (ps := ["_law_a"]) (by decide +kernel)) (.inr ⟨_, _, rfl, rfl, fun _ _ _ _ _ _ _ _ => ⟨_, rfl, rfl⟩⟩) (fun _ _ _ _ _ _ _ hr => (pe_meth (pv 2) cl_Book me_restore G_restore (hr.mono (by first | decide | omega)) b_restore .nil (passes_call (takes_of rfl rfl rfl rfl) (fun _ _ _ _ h => h)) (pa_cons pe_str pa_nil))))
 le_nil)) (pv 5) (pe_tup (pa_cons pe_str (pa_cons pe_int pa_nil))))))
 (pss_one (ps_ret pe_bl))
 pss_nil)
 hn)), ?_⟩
  let qq : Str := (envOfC "law" (defScope slaw) s.heap.objs.size f (.ref cT)).qual ++ "<lambda>"
  intro D d z s0 s5 s6 far nv H j hfar hv q
  refine ⟨j.tabs, fun g0 H1 e1 t1 a0 => ⟨t1, fun g1 H2 e2 t2 a1 => ⟨by show 2 ≤ sizeLine; decide, fun p hp => ?_⟩⟩⟩
  obtain ⟨G, st, g, hG⟩ := mkG2 (a0.ext e2) a1
  have j3 := (j.ext e1 t1).ext e2 t2
  have tk : ∀ b xs, H b = some (.tup xs) → H2 b = some (.tup xs) := fun b xs e => e2 _ _ (e1 _ _ e (fun _ => by simp)) (fun _ => by simp)
  refine ⟨_, rfl, by show 2 ≤ sizeLine; decide, fun yp hyp => ⟨p, [g0, g1], rfl, ?_, ?_, fun Dd hDd => ?_⟩⟩
  · have w := ((Wd.refl H2).new (.lst [V.ref g0, V.ref g1]) hp).new (.tup [V.str "unknown", V.int 0]) hyp
    obtain ⟨b0, b1⟩ := hG _ (st.wd w (fun _ h => nomatch h) g)
    exact .cons b0 (.cons b1 .nil)
  · exact (upd_ne (ne_of_none upd_same hyp)).trans upd_same
  have c := C21.mk' j3 st g hp hyp hDd
  have hv5 := (hv.keep tk).keep ((((Wd.refl H2).new (.lst [V.ref g0, V.ref g1]) hp).new (.tup [V.str "unknown", V.int 0]) hyp).new (.lst []) hDd).tups
  generalize upd (upd (upd H2 p (.lst [V.ref g0, V.ref g1])) yp (.tup [V.str "unknown", V.int 0])) Dd (.lst []) = H5 at c hv5
  obtain ⟨na, hx, _⟩ := id c.j.bk.na
  obtain ⟨t5, ky5⟩ := hv5.ky
  refine ⟨c.ha, c.hD, fun Q hQ => ⟨(hG _ c.g).1, ?_⟩⟩
  refine ⟨_, rfl, z.x, z.dx, _, rfl, hx, bk_none (by decide +kernel), _, rfl, z, r21, bst0 r21, [], nv, t5, rfl, ky5, fun _ _ => rfl, c.j.bk, fun H6 w6 => er_none k8 (by decide) rfl (by decide +kernel) (c.wd0 w6).hy fun H7 w7 => hQ H7 ?_⟩
  have c7 := (c.wd0 w6).wd0 w7
  obtain ⟨na7, hx7, _⟩ := id c7.j.bk.na
  refine ⟨c7.ha, c7.hD, fun Q hQ => ⟨(hG _ c7.g).2, ?_⟩⟩
  refine ⟨_, rfl, z.x, z.dx, _, rfl, hx7, bk_none (by decide +kernel), z, r21, bst0 r21, [], .str "zz", "str", rfl, .str _, fun _ _ => rfl, c7.j.bk, fun H10 w10 => er_none k8 (by decide) rfl (by decide +kernel) (c7.wd0 w10).hy fun H11 w11 => hQ H11 ?_⟩
  have c11 := (c7.wd0 w10).wd0 w11
  have hv11 := ((hv5.keep w6.tups).keep w7.tups).keep w10.tups |>.keep w11.tups
  refine ⟨c11.ha, c11.hD, fun H12 w12 => ⟨true, rfl, iteF ?_⟩⟩
  exact qn D d z s0 (some (.ref p)) s6 far nv H12 (c11.j.wd0 w12) hfar (hv11.keep w12.tups) q
end
end Br

namespace Br
open PySem PySem.Spec PyProof.Rows L2
theorem J21.rnd {CB PT d : Addr} {qq : Str} {z : Bz} {r : Rota} {b : Bst} {H H' : Hp} {x y : Int} {l : List Int} {L : List (Addr × HO)} (j : J21 CB PT d qq z r b H) (w : Wd [d] H H' ((d, dl x y l) :: L)) (ok : DOk x y l) : J21 CB PT d qq z r b H' := by
  obtain ⟨x0, y0, l0, h0, o0⟩ := j.dr
  have mud : MuO H [d] := fun b hb => by rw [List.mem_singleton.mp hb]; exact ⟨_, h0, trivial⟩
  exact ⟨tabs_wdO j.tabs w mud, ⟨x, y, l, w.get 0 rfl, ok⟩, j.bk.keep w (fun a ha => by rw [List.mem_singleton.mp ha]; exact j.nd) mud.mu, j.nd⟩
section
variable {P : Program} {w : World} {K : PySem.W.Frag} {mg : Str → Option Value} {base : Heap} {CB CC CU CN CI CW CR PT cT : Addr} {cs : Nat → Addr}
def spLaw (PT : Addr) (K : PySem.W.Frag) : Sp := fun vs H Q _ => ∃ (a : Addr) (ns : List Int), vs = [.ref a] ∧ SqL K H a (ns.map V.int) ∧ ns.length ≤ 63 ∧ H PT = some (.tbl #[]) ∧ ∀ H', Q (.bl true) H'
theorem law_ok {f : Addr} {fd : FuncData} (F : FunC K "law" "law" slaw f fd cT) (k : K21 P w K mg base CB CC CU CN CI CW) (hR : mg "RotaError" = some (.ref CR)) (gc : ∀ i, i < 14 → mg (clsN.getD i "") = some (.ref (cs i))) (TB : LamX.TabB base mg cT PT) (EO : DefAt K mg "_law_error_of" s_law_error_of ["_law_call"]) (EA : DefAt K mg "_law_all_raise" s_law_all_raise ["_law_calls", "_law_expected"])
    (k1 : ErK K cs CR CC 1) (k2 : ErK K cs CR CU 2) (k6 : ErK K cs CR CN 6) (k7 : ErK K cs CR CI 7) (k8 : ErK K cs CR CW 8) : FnOk P w K mg base CX0 10 f fd ["_law_script"] (spLaw PT K) := by
  have nd := sclaw.nd
  have T := k.T
  have BC := k.BC
  have cl_Book := BC.cl
  obtain ⟨f1, fd1, m__law_random, kp__law_random, b__law_random, G__law_random⟩ := k.c_random.ex
  obtain ⟨f2, fd2, m__law_below, kp__law_below, b__law_below, G__law_below⟩ := k.c_below.ex
  obtain ⟨f3, fd3, me_save, b_save, G_save⟩ := k.c_save.ex
  obtain ⟨f0, fd0, mC_Book, Mk_Book, b_Book, G_Book⟩ := k.c_book.ex
  refine F.ok sclaw (fun vs H Q E h => ?_) (fun A outer s H vs Q E hr h => ?_)
  · obtain ⟨a, ns, rfl, _⟩ := h; rfl
  obtain ⟨a, ns, rfl, ha, hn, hP, q⟩ := h
  have hu := hr.units
  obtain ⟨tn, hn5, qn⟩ := p5 k hR gc TB EO EA k1 k2 k6 k8 f A outer s H E hr
  refine ⟨_, (pss_cons (ps_set (i := 1) nd rfl (Or.inl rfl) (pe_call G__law_random (hr.mono (by first | decide | omega)) (by rfl) m__law_random kp__law_random b__law_random .nil pass0 (pa_cons (pv 0) (pa_cons pe_int pa_nil))))
 (pss_cons (ps_set (i := 2) nd rfl (Or.inr rfl) (pe_make Mk_Book G_Book (hr.mono (by first | decide | omega)) (by rfl) mC_Book b_Book .nil pass0 (pa_cons pe_str pa_nil)))
 (pss_cons (ps_set (i := 3) nd rfl (Or.inl rfl) (pe_op op_mul (pe_call G__law_below (hr.mono (by first | decide | omega)) (by rfl) m__law_below kp__law_below b__law_below .nil pass0 (pa_cons (pv 1) (pa_cons pe_int pa_nil))) (pe_call G__law_below (hr.mono (by first | decide | omega)) (by rfl) m__law_below kp__law_below b__law_below .nil pass0 (pa_cons (pv 1) (pa_cons pe_int pa_nil)))))
 (pss_cons (ps_set (i := 4) nd rfl (Or.inr rfl) (pe_ix (r := rIxL K) ix_list (pe_lst (pa_cons pe_str (pa_cons pe_str (pa_cons pe_str (pa_cons pe_str (pa_cons pe_non (pa_cons pe_int (pa_cons (pe_tup (pa_cons pe_str pa_nil)) (pa_cons pe_str (pa_cons pe_bl pa_nil)))))))))) (pe_call G__law_below (hr.mono (by first | decide | omega)) (by rfl) m__law_below kp__law_below b__law_below .nil pass0 (pa_cons (pv 1) (pa_cons pe_int pa_nil))) (fun _ _ => rfl)))
 (pss_cons (ps_if (pt_cmpR (r := rNeD K) (op_neD hu) (pe_erof (k := 6) EO T hR gc TB (by rfl) rfl (hr.mono (by decide)) (LamX.lamS_by (sc := defScope slaw) (by decide +kernel)) rfl (fun _ _ _ _ _ => rfl) (fun _ _ _ _ _ _ _ hr => (pe_meth (pv 2) cl_Book me_save G_save (hr.mono (by first | decide | omega)) b_save .nil (passes_call (takes_of rfl rfl rfl rfl) (fun _ _ _ _ h => h)) (pa_cons (pv 4) pa_nil)))) (pe_tup (pa_cons pe_str (pa_cons pe_int pa_nil))) (nomark _))
 (pss_one (ps_ret pe_bl))
 pss_nil)
 hn5))))), ?_⟩
  let qq : Str := (envOfC "law" (defScope slaw) s.heap.objs.size f (.ref cT)).qual ++ "<lambda>"
  have t0 : LamX.Tabs [(PT, qq)] H := fun p hp => by rw [List.mem_singleton.mp hp]; exact .nil hP
  refine ⟨_, rfl, a, ns, 21, rfl, by decide, ha, hn, fun d x0 y0 l0 H1 c1 ok0 => ?_⟩
  have t1 := tabs_wdO t0 c1 (fun _ h => nomatch h)
  have hd1 := c1.get 0 rfl
  intro xb dx hx hdx nex
  refine ⟨xb, dx, t21, r21, S21, rfl, upd_same, says21, fun z H4 hzx c4 ho4 bk4 => ⟨rfl, ?_⟩⟩
  have m4 := (Wd.refl H1).make CB hx hdx nex
  have hdm : (upd (upd H1 dx (.own xb)) xb (.ins CB dx [])) d = some (dl x0 y0 l0) := m4.base _ _ (by simp) hd1
  have dne : d ≠ xb := ne_of_none hd1 hx
  have j4 : J21 CB PT d qq z r21 (bst0 r21) H4 := ⟨tabs_wdO (tabs_wdO t1 m4 (fun _ h => nomatch h)) c4 (fun b hb => by rw [List.mem_singleton.mp hb]; exact ⟨_, upd_same, trivial⟩), ⟨x0, y0, l0, c4.base _ _ (by simpa using dne) hdm, ok0⟩, bk4, fun hm => (ho4 d hm).elim dne fun n => by rw [n] at hdm; cases hdm⟩
  obtain ⟨x4, y4, l4, hd4, ok4⟩ := id j4.dr
  refine ⟨_, rfl, d, 2, x4, y4, l4, rfl, by decide, by decide, hd4, ok4, fun ka x5 y5 l5 H5 w5 ok5 ka0 ka2 => ?_⟩
  have j5 := j4.rnd w5 ok5
  refine ⟨_, rfl, d, 999, x5, y5, l5, rfl, by decide, by decide, w5.get 0 rfl, ok5, fun kb x6 y6 l6 H6 w6 ok6 kb0 kb9 => ?_⟩
  have j6 := j5.rnd w6 ok6
  refine ⟨ka, kb, rfl, rfl, .inl ⟨by omega, by omega⟩, ?_⟩
  have hfar : 0 ≤ ka * kb := Int.mul_nonneg ka0 kb0
  -- the name
  refine ⟨by show 1 ≤ sizeLine; decide, fun tp htp => ⟨by show 9 ≤ sizeLine; decide, fun nl hnl => ?_⟩⟩
  have w7 := ((Wd.refl H6).new (.tup [V.str "a"]) htp).new (.lst [.str "", .str "A", .str "a b", .str "abcdefghi", .non, .int 5, .ref tp, .str "a1", .bl true]) hnl
  have j7 := j6.wd0 w7
  have q0 := w7.get 0 rfl
  have q1 := w7.get 1 rfl
  generalize upd (upd H6 tp (.tup [V.str "a"])) nl (.lst [.str "", .str "A", .str "a b", .str "abcdefghi", .non, .int 5, .ref tp, .str "a1", .bl true]) = H7 at j7 q0 q1 ⊢
  obtain ⟨x7, y7, l7, hd7, ok7⟩ := id j7.dr
  refine ⟨_, rfl, d, 9, x7, y7, l7, rfl, by decide, by decide, hd7, ok7, fun kk x8 y8 l8 H8 w8 ok8 kk0 kk9 => ?_⟩
  have j8 := j7.rnd w8 ok8
  have dnl : nl ≠ d := ne_of q0 hd7 (by intro z; cases z)
  have q8 := w8.base _ _ (by simpa using dnl) q0
  have q8t := w8.tups _ _ q1
  obtain ⟨nv, hat, hv⟩ : ∃ nv : V, atI [V.str "", .str "A", .str "a b", .str "abcdefghi", .non, .int 5, .ref tp, .str "a1", .bl true] kk = some nv ∧ NmV H8 nv := by
    have : kk = 0 ∨ kk = 1 ∨ kk = 2 ∨ kk = 3 ∨ kk = 4 ∨ kk = 5 ∨ kk = 6 ∨ kk = 7 ∨ kk = 8 := by omega
    rcases this with h | h | h | h | h | h | h | h | h <;> subst h
    · exact ⟨_, rfl, .inl ⟨"", by decide +kernel, rfl⟩⟩
    · exact ⟨_, rfl, .inl ⟨"A", by decide +kernel, rfl⟩⟩
    · exact ⟨_, rfl, .inl ⟨"a b", by decide +kernel, rfl⟩⟩
    · exact ⟨_, rfl, .inl ⟨"abcdefghi", by decide +kernel, rfl⟩⟩
    · exact ⟨_, rfl, .inr (.inl rfl)⟩
    · exact ⟨_, rfl, .inr (.inr (.inl rfl))⟩
    · exact ⟨_, rfl, .inr (.inr (.inr (.inr ⟨tp, _, rfl, q8t⟩)))⟩
    · exact ⟨_, rfl, .inl ⟨"a1", by decide +kernel, rfl⟩⟩
    · exact ⟨_, rfl, .inr (.inr (.inr (.inl rfl)))⟩
  refine ⟨nl, _, kk, nv, rfl, rfl, .inl (.inl q8), hat, ?_⟩
  -- save
  refine ⟨j8.tabs, fun H9 e9 t9 => ?_⟩
  have j9 := j8.ext e9 t9
  have hv9 : NmV H9 nv := hv.keep fun b xs e => e9 _ _ e (fun _ => by simp)
  obtain ⟨na9, hx9, _⟩ := id j9.bk.na
  obtain ⟨ty, ky⟩ := hv9.ky
  refine ⟨_, by rw [← hzx]; rfl, z.x, z.dx, _, rfl, hx9, bk_none (by decide +kernel), _, rfl, z, r21, bst0 r21, [], nv, ty, rfl, ky, hv9.bad, j9.bk, fun H10 w10 => ?_⟩
  have dk : DOk' H10 none := fun _ h => by cases h
  refine ⟨CI, 7, rfl, k7, dk, Carry.none (by decide) rfl fun pe H11 w11 => ⟨by show 2 ≤ sizeLine; decide, fun yp hyp => ?_⟩⟩
  obtain ⟨l1, l2⟩ := errD_ok5 "name" (by decide +kernel)
  have w12 := w11.new (.tup [V.str "name", V.int 0]) hyp
  refine ⟨errD "name", errD "name", .tup (SqT.of (w12.get 1 rfl)) (.cons (.str _) (.cons (.int _) .nil)), .tup (SqT.of (w12.get 0 rfl)) (.cons (.str _) (.cons (.int _) .nil)), l2, l2, ?_⟩
  rw [SeqAt.eqv_refl _ l1]
  refine ⟨_, rfl, iteF ?_⟩
  have := qn { nx := fun _ H' => Q .non H', rt := Q } d z (some (.ref a)) none none (ka * kb) nv _ ((j9.wd0 w10).wd0 w12) hfar (((hv9.keep w10.tups).keep w12.tups)) q
  rw [hzx] at this
  exact this
end
end Br

namespace Br
open PySem PySem.Spec PyProof.Rows L2
/-! ### what the top has written, the head -/
theorem all_mk {l : PySem.W.OpenLaw} {w : World} {K : PySem.W.Frag} {h : Heap} {mg : Str → Option Value} {fa : Addr} (X : K.In h) (G : h.Ns mainGlobals mg) (hfa : mg "law" = some (.ref fa))
    {C_RotaError : Addr}
    {C_InvalidTick : Addr}
    {C_InvalidCount : Addr}
    {C_UnknownPerson : Addr}
    {C_TooLong : Addr}
    {C_DifferentPeople : Addr}
    {C_Contradiction : Addr}
    {C_NobodyHome : Addr}
    {C_InvalidName : Addr}
    {C_UnknownName : Addr}
    {C_SyntaxFault : Addr}
    {C_CheckFault : Addr}
    {C_InvalidCode : Addr}
    {C_InvalidOperation : Addr}
    {C_InvalidSession : Addr}
    {t_END_SIGN : Tok}
    {t_SIGN : Tok}
    {t_DIGITS : Tok}
    {t_MAX_DIGITS : Tok}
    {t_NUMBER : Tok}
    {t_LETTERS : Tok}
    {aTKEYWORDS : Addr} {dTKEYWORDS : Option Addr} {nTKEYWORDS : Nat} {slTKEYWORDS : Array (Option Value)} {tkKEYWORDS0 tkKEYWORDS1 tkKEYWORDS2 tkKEYWORDS3 tkKEYWORDS4 tkKEYWORDS5 : Tok}
    {t_KEYWORD : Tok}
    {t_MAX_LETTERS : Tok}
    {t_NAME : Tok}
    {t_END : Tok}
    {t_SPACES : Tok}
    {C_Token : Addr}
    {C_Parser : Addr}
    {C_Book : Addr}
    {f_law_below : Addr} {od_law_below an_law_below : Option Addr} {sl_law_below : Array (Option Value)} {oc_law_below kV_law_below dc_law_below pm_law_below cd_law_below ct_law_below : Value}
    {f_law_random : Addr} {od_law_random an_law_random : Option Addr} {sl_law_random : Array (Option Value)} {oc_law_random kV_law_random dc_law_random pm_law_random cd_law_random ct_law_random : Value}
    {fTokenI : Addr} {odTokenI anTokenI : Option Addr} {slTokenI : Array (Option Value)} {ocTokenI kVTokenI dcTokenI pmTokenI cdTokenI ctTokenI : Value}
    {frun_end : Addr} {odrun_end anrun_end : Option Addr} {slrun_end : Array (Option Value)} {ocrun_end kVrun_end dcrun_end pmrun_end cdrun_end ctrun_end : Value}
    {fread_token : Addr} {odread_token anread_token : Option Addr} {slread_token : Array (Option Value)} {ocread_token kVread_token dcread_token pmread_token cdread_token ctread_token : Value}
    {ftokenize : Addr} {odtokenize antokenize : Option Addr} {sltokenize : Array (Option Value)} {octokenize kVtokenize dctokenize pmtokenize cdtokenize cttokenize : Value}
    {fParserI : Addr} {odParserI anParserI : Option Addr} {slParserI : Array (Option Value)} {ocParserI kVParserI dcParserI pmParserI cdParserI ctParserI : Value}
    {fParser_peek : Addr} {odParser_peek anParser_peek : Option Addr} {slParser_peek : Array (Option Value)} {ocParser_peek kVParser_peek dcParser_peek pmParser_peek cdParser_peek ctParser_peek : Value}
    {fParser_take : Addr} {odParser_take anParser_take : Option Addr} {slParser_take : Array (Option Value)} {ocParser_take kVParser_take dcParser_take pmParser_take cdParser_take ctParser_take : Value}
    {fParser_take_word : Addr} {odParser_take_word anParser_take_word : Option Addr} {slParser_take_word : Array (Option Value)} {ocParser_take_word kVParser_take_word dcParser_take_word pmParser_take_word cdParser_take_word ctParser_take_word : Value}
    {fParser_take_all : Addr} {odParser_take_all anParser_take_all : Option Addr} {slParser_take_all : Array (Option Value)} {ocParser_take_all kVParser_take_all dcParser_take_all pmParser_take_all cdParser_take_all ctParser_take_all : Value}
    {fParser_person : Addr} {odParser_person anParser_person : Option Addr} {slParser_person : Array (Option Value)} {ocParser_person kVParser_person dcParser_person pmParser_person cdParser_person ctParser_person : Value}
    {fParser_parse_people : Addr} {odParser_parse_people anParser_parse_people : Option Addr} {slParser_parse_people : Array (Option Value)} {ocParser_parse_people kVParser_parse_people dcParser_parse_people pmParser_parse_people cdParser_parse_people ctParser_parse_people : Value}
    {t_MAX_PEOPLE : Tok}
    {fParser_parse_turns : Addr} {odParser_parse_turns anParser_parse_turns : Option Addr} {slParser_parse_turns : Array (Option Value)} {ocParser_parse_turns kVParser_parse_turns dcParser_parse_turns pmParser_parse_turns cdParser_parse_turns ctParser_parse_turns : Value}
    {t_MAX_TURNS : Tok}
    {fParser_parse_weights : Addr} {odParser_parse_weights anParser_parse_weights : Option Addr} {slParser_parse_weights : Array (Option Value)} {ocParser_parse_weights kVParser_parse_weights dcParser_parse_weights pmParser_parse_weights cdParser_parse_weights ctParser_parse_weights : Value}
    {t_MAX_WEIGHT : Tok}
    {fParser_parse_away : Addr} {odParser_parse_away anParser_parse_away : Option Addr} {slParser_parse_away : Array (Option Value)} {ocParser_parse_away kVParser_parse_away dcParser_parse_away pmParser_parse_away cdParser_parse_away ctParser_parse_away : Value}
    {t_MAX_AWAYS : Tok}
    {aTMODULI : Addr} {dTMODULI : Option Addr} {nTMODULI : Nat} {slTMODULI : Array (Option Value)} {tkMODULI0 tkMODULI1 tkMODULI2 tkMODULI3 tkMODULI4 tkMODULI5 : Tok}
    {fParser_parse_makeup : Addr} {odParser_parse_makeup anParser_parse_makeup : Option Addr} {slParser_parse_makeup : Array (Option Value)} {ocParser_parse_makeup kVParser_parse_makeup dcParser_parse_makeup pmParser_parse_makeup cdParser_parse_makeup ctParser_parse_makeup : Value}
    {fParser_parse_rota : Addr} {odParser_parse_rota anParser_parse_rota : Option Addr} {slParser_parse_rota : Array (Option Value)} {ocParser_parse_rota kVParser_parse_rota dcParser_parse_rota pmParser_parse_rota cdParser_parse_rota ctParser_parse_rota : Value}
    {fload : Addr} {odload anload : Option Addr} {slload : Array (Option Value)} {ocload kVload dcload pmload cdload ctload : Value}
    {fis_home : Addr} {odis_home anis_home : Option Addr} {slis_home : Array (Option Value)} {ocis_home kVis_home dcis_home pmis_home cdis_home ctis_home : Value}
    {fhome_people : Addr} {odhome_people anhome_people : Option Addr} {slhome_people : Array (Option Value)} {ochome_people kVhome_people dchome_people pmhome_people cdhome_people cthome_people : Value}
    {ffirst_state : Addr} {odfirst_state anfirst_state : Option Addr} {slfirst_state : Array (Option Value)} {ocfirst_state kVfirst_state dcfirst_state pmfirst_state cdfirst_state ctfirst_state : Value}
    {fchanged : Addr} {odchanged anchanged : Option Addr} {slchanged : Array (Option Value)} {occhanged kVchanged dcchanged pmchanged cdchanged ctchanged : Value}
    {t_MAX_OWED : Tok}
    {fafter_tick : Addr} {odafter_tick anafter_tick : Option Addr} {slafter_tick : Array (Option Value)} {ocafter_tick kVafter_tick dcafter_tick pmafter_tick cdafter_tick ctafter_tick : Value}
    {fBook_record : Addr} {odBook_record anBook_record : Option Addr} {slBook_record : Array (Option Value)} {ocBook_record kVBook_record dcBook_record pmBook_record cdBook_record ctBook_record : Value}
    {fBook_named : Addr} {odBook_named anBook_named : Option Addr} {slBook_named : Array (Option Value)} {ocBook_named kVBook_named dcBook_named pmBook_named cdBook_named ctBook_named : Value}
    {fBook_reset : Addr} {odBook_reset anBook_reset : Option Addr} {slBook_reset : Array (Option Value)} {ocBook_reset kVBook_reset dcBook_reset pmBook_reset cdBook_reset ctBook_reset : Value}
    {t_RESET : Tok}
    {fBook_undo : Addr} {odBook_undo anBook_undo : Option Addr} {slBook_undo : Array (Option Value)} {ocBook_undo kVBook_undo dcBook_undo pmBook_undo cdBook_undo ctBook_undo : Value}
    {fBook_redo : Addr} {odBook_redo anBook_redo : Option Addr} {slBook_redo : Array (Option Value)} {ocBook_redo kVBook_redo dcBook_redo pmBook_redo cdBook_redo ctBook_redo : Value}
    {fis_int_in : Addr} {odis_int_in anis_int_in : Option Addr} {slis_int_in : Array (Option Value)} {ocis_int_in kVis_int_in dcis_int_in pmis_int_in cdis_int_in ctis_int_in : Value}
    {fperson_number : Addr} {odperson_number anperson_number : Option Addr} {slperson_number : Array (Option Value)} {ocperson_number kVperson_number dcperson_number pmperson_number cdperson_number ctperson_number : Value}
    {fBook_step : Addr} {odBook_step anBook_step : Option Addr} {slBook_step : Array (Option Value)} {ocBook_step kVBook_step dcBook_step pmBook_step cdBook_step ctBook_step : Value}
    {t_STEP : Tok}
    {t_MAX_STEPS : Tok}
    {fBook_gift : Addr} {odBook_gift anBook_gift : Option Addr} {slBook_gift : Array (Option Value)} {ocBook_gift kVBook_gift dcBook_gift pmBook_gift cdBook_gift ctBook_gift : Value}
    {t_GIFT : Tok}
    {fBook_forgive : Addr} {odBook_forgive anBook_forgive : Option Addr} {slBook_forgive : Array (Option Value)} {ocBook_forgive kVBook_forgive dcBook_forgive pmBook_forgive cdBook_forgive ctBook_forgive : Value}
    {t_FORGIVE : Tok}
    {fBookI : Addr} {odBookI anBookI : Option Addr} {slBookI : Array (Option Value)} {ocBookI kVBookI dcBookI pmBookI cdBookI ctBookI : Value}
    {pBook_ticks : Addr} {rBook_ticks : List Value}
    {fBook_ticks : Addr} {odBook_ticks anBook_ticks : Option Addr} {slBook_ticks : Array (Option Value)} {ocBook_ticks kVBook_ticks dcBook_ticks pmBook_ticks cdBook_ticks ctBook_ticks : Value}
    {pBook_operations : Addr} {rBook_operations : List Value}
    {fBook_operations : Addr} {odBook_operations anBook_operations : Option Addr} {slBook_operations : Array (Option Value)} {ocBook_operations kVBook_operations dcBook_operations pmBook_operations cdBook_operations ctBook_operations : Value}
    {pBook_debts : Addr} {rBook_debts : List Value}
    {fBook_debts : Addr} {odBook_debts anBook_debts : Option Addr} {slBook_debts : Array (Option Value)} {ocBook_debts kVBook_debts dcBook_debts pmBook_debts cdBook_debts ctBook_debts : Value}
    {fBook_execute : Addr} {odBook_execute anBook_execute : Option Addr} {slBook_execute : Array (Option Value)} {ocBook_execute kVBook_execute dcBook_execute pmBook_execute cdBook_execute ctBook_execute : Value}
    {fis_operation : Addr} {odis_operation anis_operation : Option Addr} {slis_operation : Array (Option Value)} {ocis_operation kVis_operation dcis_operation pmis_operation cdis_operation ctis_operation : Value}
    {a_LENGTHS : Addr} {es_LENGTHS : Array DictEntry} {n_LENGTHS : Nat} {tkLENGTHS0 tkLENGTHS1 tkLENGTHS2 tkLENGTHS3 tkLENGTHS4 tkLENGTHS5 : Tok}
    {fBook_batch : Addr} {odBook_batch anBook_batch : Option Addr} {slBook_batch : Array (Option Value)} {ocBook_batch kVBook_batch dcBook_batch pmBook_batch cdBook_batch ctBook_batch : Value}
    {fBook_save : Addr} {odBook_save anBook_save : Option Addr} {slBook_save : Array (Option Value)} {ocBook_save kVBook_save dcBook_save pmBook_save cdBook_save ctBook_save : Value}
    {fBook_restore : Addr} {odBook_restore anBook_restore : Option Addr} {slBook_restore : Array (Option Value)} {ocBook_restore kVBook_restore dcBook_restore pmBook_restore cdBook_restore ctBook_restore : Value}
    {f_law_error_of : Addr} {od_law_error_of an_law_error_of : Option Addr} {sl_law_error_of : Array (Option Value)} {oc_law_error_of kV_law_error_of dc_law_error_of pm_law_error_of cd_law_error_of ct_law_error_of : Value}
    {f_law_all_raise : Addr} {od_law_all_raise an_law_all_raise : Option Addr} {sl_law_all_raise : Array (Option Value)} {oc_law_all_raise kV_law_all_raise dc_law_all_raise pm_law_all_raise cd_law_all_raise ct_law_all_raise : Value}
    {flaw : Addr} {odlaw anlaw : Option Addr} {sllaw : Array (Option Value)} {oclaw kVlaw dclaw pmlaw  ctlaw : Value}
    {cT PT : Addr} {odT : Option Addr} {vsT : Array Value} {slT : Array (Option Value)}
    (aCRotaError : PySem.W.nsIn K mainGlobals "RotaError" = some (some (.ref C_RotaError)))
    (rdR : PySem.W.readsIn K C_RotaError (.type "type") = true)
    (gaR : PySem.W.specialIn K (.ref C_RotaError) "__getattribute__" = some (some (.builtin "type.__getattribute__")))
    (atR : PySem.W.findCls K (.ref C_RotaError) (.type "type") "__init__" = some (.val (.builtin "ValueError.__init__")))
    (aCInvalidTick : PySem.W.nsIn K mainGlobals "InvalidTick" = some (some (.ref C_InvalidTick)))
    (aCInvalidCount : PySem.W.nsIn K mainGlobals "InvalidCount" = some (some (.ref C_InvalidCount)))
    (aCUnknownPerson : PySem.W.nsIn K mainGlobals "UnknownPerson" = some (some (.ref C_UnknownPerson)))
    (aCTooLong : PySem.W.nsIn K mainGlobals "TooLong" = some (some (.ref C_TooLong)))
    (aCDifferentPeople : PySem.W.nsIn K mainGlobals "DifferentPeople" = some (some (.ref C_DifferentPeople)))
    (aCContradiction : PySem.W.nsIn K mainGlobals "Contradiction" = some (some (.ref C_Contradiction)))
    (aCNobodyHome : PySem.W.nsIn K mainGlobals "NobodyHome" = some (some (.ref C_NobodyHome)))
    (aCInvalidName : PySem.W.nsIn K mainGlobals "InvalidName" = some (some (.ref C_InvalidName)))
    (aCUnknownName : PySem.W.nsIn K mainGlobals "UnknownName" = some (some (.ref C_UnknownName)))
    (aCSyntaxFault : PySem.W.nsIn K mainGlobals "SyntaxFault" = some (some (.ref C_SyntaxFault)))
    (aCCheckFault : PySem.W.nsIn K mainGlobals "CheckFault" = some (some (.ref C_CheckFault)))
    (aCInvalidCode : PySem.W.nsIn K mainGlobals "InvalidCode" = some (some (.ref C_InvalidCode)))
    (aCInvalidOperation : PySem.W.nsIn K mainGlobals "InvalidOperation" = some (some (.ref C_InvalidOperation)))
    (aCInvalidSession : PySem.W.nsIn K mainGlobals "InvalidSession" = some (some (.ref C_InvalidSession)))
    (s_END_SIGN : PySem.W.nsIn K mainGlobals "END_SIGN" = some (some (.str ";" t_END_SIGN)))
    (s_SIGN : PySem.W.nsIn K mainGlobals "SIGN" = some (some (.str "sign" t_SIGN)))
    (s_DIGITS : PySem.W.nsIn K mainGlobals "DIGITS" = some (some (.str "0123456789" t_DIGITS)))
    (s_MAX_DIGITS : PySem.W.nsIn K mainGlobals "MAX_DIGITS" = some (some (.int 2 t_MAX_DIGITS)))
    (s_NUMBER : PySem.W.nsIn K mainGlobals "NUMBER" = some (some (.str "number" t_NUMBER)))
    (s_LETTERS : PySem.W.nsIn K mainGlobals "LETTERS" = some (some (.str "abcdefghijklmnopqrstuvwxyz" t_LETTERS)))
    (s_KEYWORDS : PySem.W.nsIn K mainGlobals "KEYWORDS" = some (some (.ref aTKEYWORDS)))
    (u_KEYWORDS : K.lookup aTKEYWORDS = some ⟨.type "tuple", dTKEYWORDS, .seq #[.str "people" tkKEYWORDS0, .str "turns" tkKEYWORDS1, .str "weights" tkKEYWORDS2, .str "away" tkKEYWORDS3, .str "of" tkKEYWORDS4, .str "makeup" tkKEYWORDS5] nTKEYWORDS, slTKEYWORDS⟩)
    (s_KEYWORD : PySem.W.nsIn K mainGlobals "KEYWORD" = some (some (.str "keyword" t_KEYWORD)))
    (s_MAX_LETTERS : PySem.W.nsIn K mainGlobals "MAX_LETTERS" = some (some (.int 8 t_MAX_LETTERS)))
    (s_NAME : PySem.W.nsIn K mainGlobals "NAME" = some (some (.str "name" t_NAME)))
    (s_END : PySem.W.nsIn K mainGlobals "END" = some (some (.str "end" t_END)))
    (s_SPACES : PySem.W.nsIn K mainGlobals "SPACES" = some (some (.str " \n" t_SPACES)))
    (aCToken : PySem.W.nsIn K mainGlobals "Token" = some (some (.ref C_Token)))
    (pgToken : PySem.W.plainGet K C_Token Str.empty = true)
    (hdToken : PySem.W.hasDictIn K C_Token = true)
    (poToken : PySem.W.plainOver K C_Token = true)
    (saToken : PySem.W.findIn K (.ref C_Token) "__setattr__" = some (some (.builtin "object.__setattr__")))
    (nToken_kind : PySem.W.findIn K (.ref C_Token) "kind" = some none)
    (nToken_text : PySem.W.findIn K (.ref C_Token) "text" = some none)
    (nToken_line : PySem.W.findIn K (.ref C_Token) "line" = some none)
    (nToken_column : PySem.W.findIn K (.ref C_Token) "column" = some none)
    (aCParser : PySem.W.nsIn K mainGlobals "Parser" = some (some (.ref C_Parser)))
    (pgParser : PySem.W.plainGet K C_Parser Str.empty = true)
    (hdParser : PySem.W.hasDictIn K C_Parser = true)
    (poParser : PySem.W.plainOver K C_Parser = true)
    (saParser : PySem.W.findIn K (.ref C_Parser) "__setattr__" = some (some (.builtin "object.__setattr__")))
    (nParser_tokens : PySem.W.findIn K (.ref C_Parser) "tokens" = some none)
    (nParser_at : PySem.W.findIn K (.ref C_Parser) "at" = some none)
    (nParser_faults : PySem.W.findIn K (.ref C_Parser) "faults" = some none)
    (nParser_names : PySem.W.findIn K (.ref C_Parser) "names" = some none)
    (nParser_weights : PySem.W.findIn K (.ref C_Parser) "weights" = some none)
    (nParser_makers : PySem.W.findIn K (.ref C_Parser) "makers" = some none)
    (nParser_aways : PySem.W.findIn K (.ref C_Parser) "aways" = some none)
    (aCBook : PySem.W.nsIn K mainGlobals "Book" = some (some (.ref C_Book)))
    (pgBook : PySem.W.plainGet K C_Book Str.empty = true)
    (hdBook : PySem.W.hasDictIn K C_Book = true)
    (poBook : PySem.W.plainOver K C_Book = true)
    (saBook : PySem.W.findIn K (.ref C_Book) "__setattr__" = some (some (.builtin "object.__setattr__")))
    (nBook_parsed : PySem.W.findIn K (.ref C_Book) "parsed" = some none)
    (nBook_now : PySem.W.findIn K (.ref C_Book) "now" = some none)
    (nBook_past : PySem.W.findIn K (.ref C_Book) "past" = some none)
    (nBook_undone : PySem.W.findIn K (.ref C_Book) "undone" = some none)
    (nBook_saved : PySem.W.findIn K (.ref C_Book) "saved" = some none)
    (a_law_below : PySem.W.nsIn K mainGlobals "_law_below" = some (some (.ref f_law_below)))
    (l_law_below : K.lookup f_law_below = some ⟨oc_law_below, od_law_below, .func (PySem.W.fnOf "_law_below" "_law_below" (defArgs s_law_below) (defBody s_law_below) (defScope s_law_below) .none kV_law_below dc_law_below pm_law_below an_law_below cd_law_below ct_law_below), sl_law_below⟩)
    (c_law_below : PySem.W.codeIn K cd_law_below "_law_below" = true)
    (k_law_below : PySem.W.keepIn K (.ref f_law_below) = true)
    (a_law_random : PySem.W.nsIn K mainGlobals "_law_random" = some (some (.ref f_law_random)))
    (l_law_random : K.lookup f_law_random = some ⟨oc_law_random, od_law_random, .func (PySem.W.fnOf "_law_random" "_law_random" (defArgs s_law_random) (defBody s_law_random) (defScope s_law_random) .none kV_law_random dc_law_random pm_law_random an_law_random cd_law_random ct_law_random), sl_law_random⟩)
    (c_law_random : PySem.W.codeIn K cd_law_random "_law_random" = true)
    (k_law_random : PySem.W.keepIn K (.ref f_law_random) = true)
    (mkToken : PySem.W.makesIn K C_Token = true)
    (kcToken : PySem.W.keepIn K (.ref C_Token) = true)
    (aTokenI : PySem.W.findIn K (.ref C_Token) "__init__" = some (some (.ref fTokenI)))
    (iTokenI : PySem.W.isFn K (.ref fTokenI) = true)
    (lTokenI : K.lookup fTokenI = some ⟨ocTokenI, odTokenI, .func (PySem.W.fnOf "__init__" "Token.__init__" (defArgs sToken___init__) (defBody sToken___init__) (defScope sToken___init__) .none kVTokenI dcTokenI pmTokenI anTokenI cdTokenI ctTokenI), slTokenI⟩)
    (cTokenI : PySem.W.codeIn K cdTokenI "Token.__init__" = true)
    (kTokenI : PySem.W.keepIn K (.ref fTokenI) = true)
    (arun_end : PySem.W.nsIn K mainGlobals "run_end" = some (some (.ref frun_end)))
    (lrun_end : K.lookup frun_end = some ⟨ocrun_end, odrun_end, .func (PySem.W.fnOf "run_end" "run_end" (defArgs srun_end) (defBody srun_end) (defScope srun_end) .none kVrun_end dcrun_end pmrun_end anrun_end cdrun_end ctrun_end), slrun_end⟩)
    (crun_end : PySem.W.codeIn K cdrun_end "run_end" = true)
    (krun_end : PySem.W.keepIn K (.ref frun_end) = true)
    (aread_token : PySem.W.nsIn K mainGlobals "read_token" = some (some (.ref fread_token)))
    (lread_token : K.lookup fread_token = some ⟨ocread_token, odread_token, .func (PySem.W.fnOf "read_token" "read_token" (defArgs sread_token) (defBody sread_token) (defScope sread_token) .none kVread_token dcread_token pmread_token anread_token cdread_token ctread_token), slread_token⟩)
    (cread_token : PySem.W.codeIn K cdread_token "read_token" = true)
    (kread_token : PySem.W.keepIn K (.ref fread_token) = true)
    (atokenize : PySem.W.nsIn K mainGlobals "tokenize" = some (some (.ref ftokenize)))
    (ltokenize : K.lookup ftokenize = some ⟨octokenize, odtokenize, .func (PySem.W.fnOf "tokenize" "tokenize" (defArgs stokenize) (defBody stokenize) (defScope stokenize) .none kVtokenize dctokenize pmtokenize antokenize cdtokenize cttokenize), sltokenize⟩)
    (ctokenize : PySem.W.codeIn K cdtokenize "tokenize" = true)
    (ktokenize : PySem.W.keepIn K (.ref ftokenize) = true)
    (mkParser : PySem.W.makesIn K C_Parser = true)
    (kcParser : PySem.W.keepIn K (.ref C_Parser) = true)
    (aParserI : PySem.W.findIn K (.ref C_Parser) "__init__" = some (some (.ref fParserI)))
    (iParserI : PySem.W.isFn K (.ref fParserI) = true)
    (lParserI : K.lookup fParserI = some ⟨ocParserI, odParserI, .func (PySem.W.fnOf "__init__" "Parser.__init__" (defArgs sParser___init__) (defBody sParser___init__) (defScope sParser___init__) .none kVParserI dcParserI pmParserI anParserI cdParserI ctParserI), slParserI⟩)
    (cParserI : PySem.W.codeIn K cdParserI "Parser.__init__" = true)
    (kParserI : PySem.W.keepIn K (.ref fParserI) = true)
    (aParser_peek : PySem.W.findIn K (.ref C_Parser) "peek" = some (some (.ref fParser_peek)))
    (iParser_peek : PySem.W.isFn K (.ref fParser_peek) = true)
    (lParser_peek : K.lookup fParser_peek = some ⟨ocParser_peek, odParser_peek, .func (PySem.W.fnOf "peek" "Parser.peek" (defArgs sParser_peek) (defBody sParser_peek) (defScope sParser_peek) .none kVParser_peek dcParser_peek pmParser_peek anParser_peek cdParser_peek ctParser_peek), slParser_peek⟩)
    (cParser_peek : PySem.W.codeIn K cdParser_peek "Parser.peek" = true)
    (kParser_peek : PySem.W.keepIn K (.ref fParser_peek) = true)
    (aParser_take : PySem.W.findIn K (.ref C_Parser) "take" = some (some (.ref fParser_take)))
    (iParser_take : PySem.W.isFn K (.ref fParser_take) = true)
    (lParser_take : K.lookup fParser_take = some ⟨ocParser_take, odParser_take, .func (PySem.W.fnOf "take" "Parser.take" (defArgs sParser_take) (defBody sParser_take) (defScope sParser_take) .none kVParser_take dcParser_take pmParser_take anParser_take cdParser_take ctParser_take), slParser_take⟩)
    (cParser_take : PySem.W.codeIn K cdParser_take "Parser.take" = true)
    (kParser_take : PySem.W.keepIn K (.ref fParser_take) = true)
    (aParser_take_word : PySem.W.findIn K (.ref C_Parser) "take_word" = some (some (.ref fParser_take_word)))
    (iParser_take_word : PySem.W.isFn K (.ref fParser_take_word) = true)
    (lParser_take_word : K.lookup fParser_take_word = some ⟨ocParser_take_word, odParser_take_word, .func (PySem.W.fnOf "take_word" "Parser.take_word" (defArgs sParser_take_word) (defBody sParser_take_word) (defScope sParser_take_word) .none kVParser_take_word dcParser_take_word pmParser_take_word anParser_take_word cdParser_take_word ctParser_take_word), slParser_take_word⟩)
    (cParser_take_word : PySem.W.codeIn K cdParser_take_word "Parser.take_word" = true)
    (kParser_take_word : PySem.W.keepIn K (.ref fParser_take_word) = true)
    (aParser_take_all : PySem.W.findIn K (.ref C_Parser) "take_all" = some (some (.ref fParser_take_all)))
    (iParser_take_all : PySem.W.isFn K (.ref fParser_take_all) = true)
    (lParser_take_all : K.lookup fParser_take_all = some ⟨ocParser_take_all, odParser_take_all, .func (PySem.W.fnOf "take_all" "Parser.take_all" (defArgs sParser_take_all) (defBody sParser_take_all) (defScope sParser_take_all) .none kVParser_take_all dcParser_take_all pmParser_take_all anParser_take_all cdParser_take_all ctParser_take_all), slParser_take_all⟩)
    (cParser_take_all : PySem.W.codeIn K cdParser_take_all "Parser.take_all" = true)
    (kParser_take_all : PySem.W.keepIn K (.ref fParser_take_all) = true)
    (aParser_person : PySem.W.findIn K (.ref C_Parser) "person" = some (some (.ref fParser_person)))
    (iParser_person : PySem.W.isFn K (.ref fParser_person) = true)
    (lParser_person : K.lookup fParser_person = some ⟨ocParser_person, odParser_person, .func (PySem.W.fnOf "person" "Parser.person" (defArgs sParser_person) (defBody sParser_person) (defScope sParser_person) .none kVParser_person dcParser_person pmParser_person anParser_person cdParser_person ctParser_person), slParser_person⟩)
    (cParser_person : PySem.W.codeIn K cdParser_person "Parser.person" = true)
    (kParser_person : PySem.W.keepIn K (.ref fParser_person) = true)
    (aParser_parse_people : PySem.W.findIn K (.ref C_Parser) "parse_people" = some (some (.ref fParser_parse_people)))
    (iParser_parse_people : PySem.W.isFn K (.ref fParser_parse_people) = true)
    (lParser_parse_people : K.lookup fParser_parse_people = some ⟨ocParser_parse_people, odParser_parse_people, .func (PySem.W.fnOf "parse_people" "Parser.parse_people" (defArgs sParser_parse_people) (defBody sParser_parse_people) (defScope sParser_parse_people) .none kVParser_parse_people dcParser_parse_people pmParser_parse_people anParser_parse_people cdParser_parse_people ctParser_parse_people), slParser_parse_people⟩)
    (cParser_parse_people : PySem.W.codeIn K cdParser_parse_people "Parser.parse_people" = true)
    (kParser_parse_people : PySem.W.keepIn K (.ref fParser_parse_people) = true)
    (s_MAX_PEOPLE : PySem.W.nsIn K mainGlobals "MAX_PEOPLE" = some (some (.int 6 t_MAX_PEOPLE)))
    (aParser_parse_turns : PySem.W.findIn K (.ref C_Parser) "parse_turns" = some (some (.ref fParser_parse_turns)))
    (iParser_parse_turns : PySem.W.isFn K (.ref fParser_parse_turns) = true)
    (lParser_parse_turns : K.lookup fParser_parse_turns = some ⟨ocParser_parse_turns, odParser_parse_turns, .func (PySem.W.fnOf "parse_turns" "Parser.parse_turns" (defArgs sParser_parse_turns) (defBody sParser_parse_turns) (defScope sParser_parse_turns) .none kVParser_parse_turns dcParser_parse_turns pmParser_parse_turns anParser_parse_turns cdParser_parse_turns ctParser_parse_turns), slParser_parse_turns⟩)
    (cParser_parse_turns : PySem.W.codeIn K cdParser_parse_turns "Parser.parse_turns" = true)
    (kParser_parse_turns : PySem.W.keepIn K (.ref fParser_parse_turns) = true)
    (s_MAX_TURNS : PySem.W.nsIn K mainGlobals "MAX_TURNS" = some (some (.int 12 t_MAX_TURNS)))
    (aParser_parse_weights : PySem.W.findIn K (.ref C_Parser) "parse_weights" = some (some (.ref fParser_parse_weights)))
    (iParser_parse_weights : PySem.W.isFn K (.ref fParser_parse_weights) = true)
    (lParser_parse_weights : K.lookup fParser_parse_weights = some ⟨ocParser_parse_weights, odParser_parse_weights, .func (PySem.W.fnOf "parse_weights" "Parser.parse_weights" (defArgs sParser_parse_weights) (defBody sParser_parse_weights) (defScope sParser_parse_weights) .none kVParser_parse_weights dcParser_parse_weights pmParser_parse_weights anParser_parse_weights cdParser_parse_weights ctParser_parse_weights), slParser_parse_weights⟩)
    (cParser_parse_weights : PySem.W.codeIn K cdParser_parse_weights "Parser.parse_weights" = true)
    (kParser_parse_weights : PySem.W.keepIn K (.ref fParser_parse_weights) = true)
    (s_MAX_WEIGHT : PySem.W.nsIn K mainGlobals "MAX_WEIGHT" = some (some (.int 9 t_MAX_WEIGHT)))
    (aParser_parse_away : PySem.W.findIn K (.ref C_Parser) "parse_away" = some (some (.ref fParser_parse_away)))
    (iParser_parse_away : PySem.W.isFn K (.ref fParser_parse_away) = true)
    (lParser_parse_away : K.lookup fParser_parse_away = some ⟨ocParser_parse_away, odParser_parse_away, .func (PySem.W.fnOf "parse_away" "Parser.parse_away" (defArgs sParser_parse_away) (defBody sParser_parse_away) (defScope sParser_parse_away) .none kVParser_parse_away dcParser_parse_away pmParser_parse_away anParser_parse_away cdParser_parse_away ctParser_parse_away), slParser_parse_away⟩)
    (cParser_parse_away : PySem.W.codeIn K cdParser_parse_away "Parser.parse_away" = true)
    (kParser_parse_away : PySem.W.keepIn K (.ref fParser_parse_away) = true)
    (s_MAX_AWAYS : PySem.W.nsIn K mainGlobals "MAX_AWAYS" = some (some (.int 20 t_MAX_AWAYS)))
    (s_MODULI : PySem.W.nsIn K mainGlobals "MODULI" = some (some (.ref aTMODULI)))
    (u_MODULI : K.lookup aTMODULI = some ⟨.type "tuple", dTMODULI, .seq #[.int 2 tkMODULI0, .int 3 tkMODULI1, .int 4 tkMODULI2, .int 6 tkMODULI3, .int 8 tkMODULI4, .int 12 tkMODULI5] nTMODULI, slTMODULI⟩)
    (aParser_parse_makeup : PySem.W.findIn K (.ref C_Parser) "parse_makeup" = some (some (.ref fParser_parse_makeup)))
    (iParser_parse_makeup : PySem.W.isFn K (.ref fParser_parse_makeup) = true)
    (lParser_parse_makeup : K.lookup fParser_parse_makeup = some ⟨ocParser_parse_makeup, odParser_parse_makeup, .func (PySem.W.fnOf "parse_makeup" "Parser.parse_makeup" (defArgs sParser_parse_makeup) (defBody sParser_parse_makeup) (defScope sParser_parse_makeup) .none kVParser_parse_makeup dcParser_parse_makeup pmParser_parse_makeup anParser_parse_makeup cdParser_parse_makeup ctParser_parse_makeup), slParser_parse_makeup⟩)
    (cParser_parse_makeup : PySem.W.codeIn K cdParser_parse_makeup "Parser.parse_makeup" = true)
    (kParser_parse_makeup : PySem.W.keepIn K (.ref fParser_parse_makeup) = true)
    (aParser_parse_rota : PySem.W.findIn K (.ref C_Parser) "parse_rota" = some (some (.ref fParser_parse_rota)))
    (iParser_parse_rota : PySem.W.isFn K (.ref fParser_parse_rota) = true)
    (lParser_parse_rota : K.lookup fParser_parse_rota = some ⟨ocParser_parse_rota, odParser_parse_rota, .func (PySem.W.fnOf "parse_rota" "Parser.parse_rota" (defArgs sParser_parse_rota) (defBody sParser_parse_rota) (defScope sParser_parse_rota) .none kVParser_parse_rota dcParser_parse_rota pmParser_parse_rota anParser_parse_rota cdParser_parse_rota ctParser_parse_rota), slParser_parse_rota⟩)
    (cParser_parse_rota : PySem.W.codeIn K cdParser_parse_rota "Parser.parse_rota" = true)
    (kParser_parse_rota : PySem.W.keepIn K (.ref fParser_parse_rota) = true)
    (aload : PySem.W.nsIn K mainGlobals "load" = some (some (.ref fload)))
    (lload : K.lookup fload = some ⟨ocload, odload, .func (PySem.W.fnOf "load" "load" (defArgs sload) (defBody sload) (defScope sload) .none kVload dcload pmload anload cdload ctload), slload⟩)
    (cload : PySem.W.codeIn K cdload "load" = true)
    (kload : PySem.W.keepIn K (.ref fload) = true)
    (ais_home : PySem.W.nsIn K mainGlobals "is_home" = some (some (.ref fis_home)))
    (lis_home : K.lookup fis_home = some ⟨ocis_home, odis_home, .func (PySem.W.fnOf "is_home" "is_home" (defArgs sis_home) (defBody sis_home) (defScope sis_home) .none kVis_home dcis_home pmis_home anis_home cdis_home ctis_home), slis_home⟩)
    (cis_home : PySem.W.codeIn K cdis_home "is_home" = true)
    (kis_home : PySem.W.keepIn K (.ref fis_home) = true)
    (ahome_people : PySem.W.nsIn K mainGlobals "home_people" = some (some (.ref fhome_people)))
    (lhome_people : K.lookup fhome_people = some ⟨ochome_people, odhome_people, .func (PySem.W.fnOf "home_people" "home_people" (defArgs shome_people) (defBody shome_people) (defScope shome_people) .none kVhome_people dchome_people pmhome_people anhome_people cdhome_people cthome_people), slhome_people⟩)
    (chome_people : PySem.W.codeIn K cdhome_people "home_people" = true)
    (khome_people : PySem.W.keepIn K (.ref fhome_people) = true)
    (afirst_state : PySem.W.nsIn K mainGlobals "first_state" = some (some (.ref ffirst_state)))
    (lfirst_state : K.lookup ffirst_state = some ⟨ocfirst_state, odfirst_state, .func (PySem.W.fnOf "first_state" "first_state" (defArgs sfirst_state) (defBody sfirst_state) (defScope sfirst_state) .none kVfirst_state dcfirst_state pmfirst_state anfirst_state cdfirst_state ctfirst_state), slfirst_state⟩)
    (cfirst_state : PySem.W.codeIn K cdfirst_state "first_state" = true)
    (kfirst_state : PySem.W.keepIn K (.ref ffirst_state) = true)
    (achanged : PySem.W.nsIn K mainGlobals "changed" = some (some (.ref fchanged)))
    (lchanged : K.lookup fchanged = some ⟨occhanged, odchanged, .func (PySem.W.fnOf "changed" "changed" (defArgs schanged) (defBody schanged) (defScope schanged) .none kVchanged dcchanged pmchanged anchanged cdchanged ctchanged), slchanged⟩)
    (cchanged : PySem.W.codeIn K cdchanged "changed" = true)
    (kchanged : PySem.W.keepIn K (.ref fchanged) = true)
    (s_MAX_OWED : PySem.W.nsIn K mainGlobals "MAX_OWED" = some (some (.int 9 t_MAX_OWED)))
    (aafter_tick : PySem.W.nsIn K mainGlobals "after_tick" = some (some (.ref fafter_tick)))
    (lafter_tick : K.lookup fafter_tick = some ⟨ocafter_tick, odafter_tick, .func (PySem.W.fnOf "after_tick" "after_tick" (defArgs safter_tick) (defBody safter_tick) (defScope safter_tick) .none kVafter_tick dcafter_tick pmafter_tick anafter_tick cdafter_tick ctafter_tick), slafter_tick⟩)
    (cafter_tick : PySem.W.codeIn K cdafter_tick "after_tick" = true)
    (kafter_tick : PySem.W.keepIn K (.ref fafter_tick) = true)
    (aBook_record : PySem.W.findIn K (.ref C_Book) "record" = some (some (.ref fBook_record)))
    (iBook_record : PySem.W.isFn K (.ref fBook_record) = true)
    (lBook_record : K.lookup fBook_record = some ⟨ocBook_record, odBook_record, .func (PySem.W.fnOf "record" "Book.record" (defArgs sBook_record) (defBody sBook_record) (defScope sBook_record) .none kVBook_record dcBook_record pmBook_record anBook_record cdBook_record ctBook_record), slBook_record⟩)
    (cBook_record : PySem.W.codeIn K cdBook_record "Book.record" = true)
    (kBook_record : PySem.W.keepIn K (.ref fBook_record) = true)
    (aBook_named : PySem.W.findIn K (.ref C_Book) "named" = some (some (.ref fBook_named)))
    (iBook_named : PySem.W.isFn K (.ref fBook_named) = true)
    (lBook_named : K.lookup fBook_named = some ⟨ocBook_named, odBook_named, .func (PySem.W.fnOf "named" "Book.named" (defArgs sBook_named) (defBody sBook_named) (defScope sBook_named) .none kVBook_named dcBook_named pmBook_named anBook_named cdBook_named ctBook_named), slBook_named⟩)
    (cBook_named : PySem.W.codeIn K cdBook_named "Book.named" = true)
    (kBook_named : PySem.W.keepIn K (.ref fBook_named) = true)
    (aBook_reset : PySem.W.findIn K (.ref C_Book) "reset" = some (some (.ref fBook_reset)))
    (iBook_reset : PySem.W.isFn K (.ref fBook_reset) = true)
    (lBook_reset : K.lookup fBook_reset = some ⟨ocBook_reset, odBook_reset, .func (PySem.W.fnOf "reset" "Book.reset" (defArgs sBook_reset) (defBody sBook_reset) (defScope sBook_reset) .none kVBook_reset dcBook_reset pmBook_reset anBook_reset cdBook_reset ctBook_reset), slBook_reset⟩)
    (cBook_reset : PySem.W.codeIn K cdBook_reset "Book.reset" = true)
    (kBook_reset : PySem.W.keepIn K (.ref fBook_reset) = true)
    (s_RESET : PySem.W.nsIn K mainGlobals "RESET" = some (some (.str "reset" t_RESET)))
    (aBook_undo : PySem.W.findIn K (.ref C_Book) "undo" = some (some (.ref fBook_undo)))
    (iBook_undo : PySem.W.isFn K (.ref fBook_undo) = true)
    (lBook_undo : K.lookup fBook_undo = some ⟨ocBook_undo, odBook_undo, .func (PySem.W.fnOf "undo" "Book.undo" (defArgs sBook_undo) (defBody sBook_undo) (defScope sBook_undo) .none kVBook_undo dcBook_undo pmBook_undo anBook_undo cdBook_undo ctBook_undo), slBook_undo⟩)
    (cBook_undo : PySem.W.codeIn K cdBook_undo "Book.undo" = true)
    (kBook_undo : PySem.W.keepIn K (.ref fBook_undo) = true)
    (aBook_redo : PySem.W.findIn K (.ref C_Book) "redo" = some (some (.ref fBook_redo)))
    (iBook_redo : PySem.W.isFn K (.ref fBook_redo) = true)
    (lBook_redo : K.lookup fBook_redo = some ⟨ocBook_redo, odBook_redo, .func (PySem.W.fnOf "redo" "Book.redo" (defArgs sBook_redo) (defBody sBook_redo) (defScope sBook_redo) .none kVBook_redo dcBook_redo pmBook_redo anBook_redo cdBook_redo ctBook_redo), slBook_redo⟩)
    (cBook_redo : PySem.W.codeIn K cdBook_redo "Book.redo" = true)
    (kBook_redo : PySem.W.keepIn K (.ref fBook_redo) = true)
    (ais_int_in : PySem.W.nsIn K mainGlobals "is_int_in" = some (some (.ref fis_int_in)))
    (lis_int_in : K.lookup fis_int_in = some ⟨ocis_int_in, odis_int_in, .func (PySem.W.fnOf "is_int_in" "is_int_in" (defArgs sis_int_in) (defBody sis_int_in) (defScope sis_int_in) .none kVis_int_in dcis_int_in pmis_int_in anis_int_in cdis_int_in ctis_int_in), slis_int_in⟩)
    (cis_int_in : PySem.W.codeIn K cdis_int_in "is_int_in" = true)
    (kis_int_in : PySem.W.keepIn K (.ref fis_int_in) = true)
    (aperson_number : PySem.W.nsIn K mainGlobals "person_number" = some (some (.ref fperson_number)))
    (lperson_number : K.lookup fperson_number = some ⟨ocperson_number, odperson_number, .func (PySem.W.fnOf "person_number" "person_number" (defArgs sperson_number) (defBody sperson_number) (defScope sperson_number) .none kVperson_number dcperson_number pmperson_number anperson_number cdperson_number ctperson_number), slperson_number⟩)
    (cperson_number : PySem.W.codeIn K cdperson_number "person_number" = true)
    (kperson_number : PySem.W.keepIn K (.ref fperson_number) = true)
    (qUnknownPerson : PySem.W.excIn K C_UnknownPerson [.type "ValueError", .type "Exception", .type "BaseException", .type "object"] "ValueError.__new__" = true)
    (eCUnknownPerson : PySem.W.subIn K (.ref C_UnknownPerson) (.type "BaseException") = some true)
    (tCUnknownPerson : PySem.W.typeIn K (.ref C_UnknownPerson) = some (.type "type"))
    (kCUnknownPerson : PySem.W.keepIn K (.ref C_UnknownPerson) = true)
    (aBook_step : PySem.W.findIn K (.ref C_Book) "step" = some (some (.ref fBook_step)))
    (iBook_step : PySem.W.isFn K (.ref fBook_step) = true)
    (lBook_step : K.lookup fBook_step = some ⟨ocBook_step, odBook_step, .func (PySem.W.fnOf "step" "Book.step" (defArgs sBook_step) (defBody sBook_step) (defScope sBook_step) .none kVBook_step dcBook_step pmBook_step anBook_step cdBook_step ctBook_step), slBook_step⟩)
    (cBook_step : PySem.W.codeIn K cdBook_step "Book.step" = true)
    (kBook_step : PySem.W.keepIn K (.ref fBook_step) = true)
    (s_STEP : PySem.W.nsIn K mainGlobals "STEP" = some (some (.str "step" t_STEP)))
    (s_MAX_STEPS : PySem.W.nsIn K mainGlobals "MAX_STEPS" = some (some (.int 500 t_MAX_STEPS)))
    (qInvalidCount : PySem.W.excIn K C_InvalidCount [.type "ValueError", .type "Exception", .type "BaseException", .type "object"] "ValueError.__new__" = true)
    (eCInvalidCount : PySem.W.subIn K (.ref C_InvalidCount) (.type "BaseException") = some true)
    (tCInvalidCount : PySem.W.typeIn K (.ref C_InvalidCount) = some (.type "type"))
    (kCInvalidCount : PySem.W.keepIn K (.ref C_InvalidCount) = true)
    (aBook_gift : PySem.W.findIn K (.ref C_Book) "gift" = some (some (.ref fBook_gift)))
    (iBook_gift : PySem.W.isFn K (.ref fBook_gift) = true)
    (lBook_gift : K.lookup fBook_gift = some ⟨ocBook_gift, odBook_gift, .func (PySem.W.fnOf "gift" "Book.gift" (defArgs sBook_gift) (defBody sBook_gift) (defScope sBook_gift) .none kVBook_gift dcBook_gift pmBook_gift anBook_gift cdBook_gift ctBook_gift), slBook_gift⟩)
    (cBook_gift : PySem.W.codeIn K cdBook_gift "Book.gift" = true)
    (kBook_gift : PySem.W.keepIn K (.ref fBook_gift) = true)
    (s_GIFT : PySem.W.nsIn K mainGlobals "GIFT" = some (some (.str "gift" t_GIFT)))
    (qNobodyHome : PySem.W.excIn K C_NobodyHome [.type "ValueError", .type "Exception", .type "BaseException", .type "object"] "ValueError.__new__" = true)
    (eCNobodyHome : PySem.W.subIn K (.ref C_NobodyHome) (.type "BaseException") = some true)
    (tCNobodyHome : PySem.W.typeIn K (.ref C_NobodyHome) = some (.type "type"))
    (kCNobodyHome : PySem.W.keepIn K (.ref C_NobodyHome) = true)
    (aBook_forgive : PySem.W.findIn K (.ref C_Book) "forgive" = some (some (.ref fBook_forgive)))
    (iBook_forgive : PySem.W.isFn K (.ref fBook_forgive) = true)
    (lBook_forgive : K.lookup fBook_forgive = some ⟨ocBook_forgive, odBook_forgive, .func (PySem.W.fnOf "forgive" "Book.forgive" (defArgs sBook_forgive) (defBody sBook_forgive) (defScope sBook_forgive) .none kVBook_forgive dcBook_forgive pmBook_forgive anBook_forgive cdBook_forgive ctBook_forgive), slBook_forgive⟩)
    (cBook_forgive : PySem.W.codeIn K cdBook_forgive "Book.forgive" = true)
    (kBook_forgive : PySem.W.keepIn K (.ref fBook_forgive) = true)
    (s_FORGIVE : PySem.W.nsIn K mainGlobals "FORGIVE" = some (some (.str "forgive" t_FORGIVE)))
    (mkBook : PySem.W.makesIn K C_Book = true)
    (kcBook : PySem.W.keepIn K (.ref C_Book) = true)
    (aBookI : PySem.W.findIn K (.ref C_Book) "__init__" = some (some (.ref fBookI)))
    (iBookI : PySem.W.isFn K (.ref fBookI) = true)
    (lBookI : K.lookup fBookI = some ⟨ocBookI, odBookI, .func (PySem.W.fnOf "__init__" "Book.__init__" (defArgs sBook___init__) (defBody sBook___init__) (defScope sBook___init__) .none kVBookI dcBookI pmBookI anBookI cdBookI ctBookI), slBookI⟩)
    (cBookI : PySem.W.codeIn K cdBookI "Book.__init__" = true)
    (kBookI : PySem.W.keepIn K (.ref fBookI) = true)
    (aBook_ticks : PySem.W.findIn K (.ref C_Book) "ticks" = some (some (.ref pBook_ticks)))
    (gBook_ticks : PySem.W.specialIn K (.ref pBook_ticks) "__get__" = some (some (.builtin "property.__get__")))
    (tBook_ticks : PySem.W.takesIn K (.ref pBook_ticks) = some true)
    (r_Book_ticks : PySem.W.recIn K pBook_ticks "property" = some (.ref fBook_ticks :: rBook_ticks))
    (lBook_ticks : K.lookup fBook_ticks = some ⟨ocBook_ticks, odBook_ticks, .func (PySem.W.fnOf "ticks" "Book.ticks" (defArgs sBook_ticks) (defBody sBook_ticks) (defScope sBook_ticks) .none kVBook_ticks dcBook_ticks pmBook_ticks anBook_ticks cdBook_ticks ctBook_ticks), slBook_ticks⟩)
    (cBook_ticks : PySem.W.codeIn K cdBook_ticks "Book.ticks" = true)
    (kBook_ticks : PySem.W.keepIn K (.ref fBook_ticks) = true)
    (aBook_operations : PySem.W.findIn K (.ref C_Book) "operations" = some (some (.ref pBook_operations)))
    (gBook_operations : PySem.W.specialIn K (.ref pBook_operations) "__get__" = some (some (.builtin "property.__get__")))
    (tBook_operations : PySem.W.takesIn K (.ref pBook_operations) = some true)
    (r_Book_operations : PySem.W.recIn K pBook_operations "property" = some (.ref fBook_operations :: rBook_operations))
    (lBook_operations : K.lookup fBook_operations = some ⟨ocBook_operations, odBook_operations, .func (PySem.W.fnOf "operations" "Book.operations" (defArgs sBook_operations) (defBody sBook_operations) (defScope sBook_operations) .none kVBook_operations dcBook_operations pmBook_operations anBook_operations cdBook_operations ctBook_operations), slBook_operations⟩)
    (cBook_operations : PySem.W.codeIn K cdBook_operations "Book.operations" = true)
    (kBook_operations : PySem.W.keepIn K (.ref fBook_operations) = true)
    (aBook_debts : PySem.W.findIn K (.ref C_Book) "debts" = some (some (.ref pBook_debts)))
    (gBook_debts : PySem.W.specialIn K (.ref pBook_debts) "__get__" = some (some (.builtin "property.__get__")))
    (tBook_debts : PySem.W.takesIn K (.ref pBook_debts) = some true)
    (r_Book_debts : PySem.W.recIn K pBook_debts "property" = some (.ref fBook_debts :: rBook_debts))
    (lBook_debts : K.lookup fBook_debts = some ⟨ocBook_debts, odBook_debts, .func (PySem.W.fnOf "debts" "Book.debts" (defArgs sBook_debts) (defBody sBook_debts) (defScope sBook_debts) .none kVBook_debts dcBook_debts pmBook_debts anBook_debts cdBook_debts ctBook_debts), slBook_debts⟩)
    (cBook_debts : PySem.W.codeIn K cdBook_debts "Book.debts" = true)
    (kBook_debts : PySem.W.keepIn K (.ref fBook_debts) = true)
    (aBook_execute : PySem.W.findIn K (.ref C_Book) "execute" = some (some (.ref fBook_execute)))
    (iBook_execute : PySem.W.isFn K (.ref fBook_execute) = true)
    (lBook_execute : K.lookup fBook_execute = some ⟨ocBook_execute, odBook_execute, .func (PySem.W.fnOf "execute" "Book.execute" (defArgs sBook_execute) (defBody sBook_execute) (defScope sBook_execute) .none kVBook_execute dcBook_execute pmBook_execute anBook_execute cdBook_execute ctBook_execute), slBook_execute⟩)
    (cBook_execute : PySem.W.codeIn K cdBook_execute "Book.execute" = true)
    (kBook_execute : PySem.W.keepIn K (.ref fBook_execute) = true)
    (ais_operation : PySem.W.nsIn K mainGlobals "is_operation" = some (some (.ref fis_operation)))
    (lis_operation : K.lookup fis_operation = some ⟨ocis_operation, odis_operation, .func (PySem.W.fnOf "is_operation" "is_operation" (defArgs sis_operation) (defBody sis_operation) (defScope sis_operation) .none kVis_operation dcis_operation pmis_operation anis_operation cdis_operation ctis_operation), slis_operation⟩)
    (cis_operation : PySem.W.codeIn K cdis_operation "is_operation" = true)
    (kis_operation : PySem.W.keepIn K (.ref fis_operation) = true)
    (s_LENGTHS : PySem.W.nsIn K mainGlobals "LENGTHS" = some (some (.ref a_LENGTHS)))
    (u_LENGTHS : K.lookup a_LENGTHS = some ⟨.type "dict", none, .dict es_LENGTHS n_LENGTHS, #[]⟩)
    (kl_LENGTHS : PySem.W.KeysLit w.params es_LENGTHS.toList)
    (sm_LENGTHS : (a_LENGTHS == sysModules) = false)
    (v_LENGTHS0 : PySem.W.nsIn K a_LENGTHS "step" = some (some (.int 2 tkLENGTHS0)))
    (v_LENGTHS1 : PySem.W.nsIn K a_LENGTHS "gift" = some (some (.int 2 tkLENGTHS1)))
    (v_LENGTHS2 : PySem.W.nsIn K a_LENGTHS "forgive" = some (some (.int 2 tkLENGTHS2)))
    (v_LENGTHS3 : PySem.W.nsIn K a_LENGTHS "reset" = some (some (.int 1 tkLENGTHS3)))
    (v_LENGTHS4 : PySem.W.nsIn K a_LENGTHS "undo" = some (some (.int 1 tkLENGTHS4)))
    (v_LENGTHS5 : PySem.W.nsIn K a_LENGTHS "redo" = some (some (.int 1 tkLENGTHS5)))
    (ktInvalidCount0 : PySem.W.kitOne K (.ref C_InvalidCount) (.ref C_InvalidTick) = some false)
    (ktInvalidCount1 : PySem.W.kitOne K (.ref C_InvalidCount) (.ref C_InvalidCount) = some true)
    (ktInvalidCount2 : PySem.W.kitOne K (.ref C_InvalidCount) (.ref C_UnknownPerson) = some false)
    (ktInvalidCount3 : PySem.W.kitOne K (.ref C_InvalidCount) (.ref C_TooLong) = some false)
    (ktInvalidCount4 : PySem.W.kitOne K (.ref C_InvalidCount) (.ref C_DifferentPeople) = some false)
    (ktInvalidCount5 : PySem.W.kitOne K (.ref C_InvalidCount) (.ref C_Contradiction) = some false)
    (ktInvalidCount6 : PySem.W.kitOne K (.ref C_InvalidCount) (.ref C_NobodyHome) = some false)
    (ktInvalidCount7 : PySem.W.kitOne K (.ref C_InvalidCount) (.ref C_InvalidName) = some false)
    (ktInvalidCount8 : PySem.W.kitOne K (.ref C_InvalidCount) (.ref C_UnknownName) = some false)
    (ktInvalidCount9 : PySem.W.kitOne K (.ref C_InvalidCount) (.ref C_SyntaxFault) = some false)
    (ktInvalidCount10 : PySem.W.kitOne K (.ref C_InvalidCount) (.ref C_CheckFault) = some false)
    (ktInvalidCount11 : PySem.W.kitOne K (.ref C_InvalidCount) (.ref C_InvalidCode) = some false)
    (ktInvalidCount12 : PySem.W.kitOne K (.ref C_InvalidCount) (.ref C_InvalidOperation) = some false)
    (ktInvalidCount13 : PySem.W.kitOne K (.ref C_InvalidCount) (.ref C_InvalidSession) = some false)
    (kvInvalidCount : PySem.W.kitOne K (.ref C_InvalidCount) (.type "ValueError") = some true)
    (kxInvalidCount : PySem.W.exmOne K (.ref C_InvalidCount) (.ref C_RotaError) = some true)
    (kiInvalidCount : PySem.W.isClsIn K C_InvalidCount = true)
    (gEInvalidCount : PySem.W.findIn K (.ref C_InvalidCount) "__getattribute__" = some (some (.builtin "BaseException.__getattribute__")))
    (ggInvalidCount : PySem.W.findIn K (.ref C_InvalidCount) "__getattr__" = some none)
    (cEInvalidCount : PySem.W.findIn K (.ref C_InvalidCount) "__class__" = some (some (.builtin "object.__class__")))
    (mEInvalidCount : PySem.W.mroIn K C_InvalidCount (.type "object") = some true)
    (hEInvalidCount : PySem.W.hasDictIn K C_InvalidCount = true)
    (cgO : PySem.W.specialIn K (.builtin "object.__class__") "__get__" = some (some (.builtin "getset_descriptor.__get__")))
    (tkO : PySem.W.takesIn K (.builtin "object.__class__") = some true)
    (ktUnknownPerson0 : PySem.W.kitOne K (.ref C_UnknownPerson) (.ref C_InvalidTick) = some false)
    (ktUnknownPerson1 : PySem.W.kitOne K (.ref C_UnknownPerson) (.ref C_InvalidCount) = some false)
    (ktUnknownPerson2 : PySem.W.kitOne K (.ref C_UnknownPerson) (.ref C_UnknownPerson) = some true)
    (ktUnknownPerson3 : PySem.W.kitOne K (.ref C_UnknownPerson) (.ref C_TooLong) = some false)
    (ktUnknownPerson4 : PySem.W.kitOne K (.ref C_UnknownPerson) (.ref C_DifferentPeople) = some false)
    (ktUnknownPerson5 : PySem.W.kitOne K (.ref C_UnknownPerson) (.ref C_Contradiction) = some false)
    (ktUnknownPerson6 : PySem.W.kitOne K (.ref C_UnknownPerson) (.ref C_NobodyHome) = some false)
    (ktUnknownPerson7 : PySem.W.kitOne K (.ref C_UnknownPerson) (.ref C_InvalidName) = some false)
    (ktUnknownPerson8 : PySem.W.kitOne K (.ref C_UnknownPerson) (.ref C_UnknownName) = some false)
    (ktUnknownPerson9 : PySem.W.kitOne K (.ref C_UnknownPerson) (.ref C_SyntaxFault) = some false)
    (ktUnknownPerson10 : PySem.W.kitOne K (.ref C_UnknownPerson) (.ref C_CheckFault) = some false)
    (ktUnknownPerson11 : PySem.W.kitOne K (.ref C_UnknownPerson) (.ref C_InvalidCode) = some false)
    (ktUnknownPerson12 : PySem.W.kitOne K (.ref C_UnknownPerson) (.ref C_InvalidOperation) = some false)
    (ktUnknownPerson13 : PySem.W.kitOne K (.ref C_UnknownPerson) (.ref C_InvalidSession) = some false)
    (kvUnknownPerson : PySem.W.kitOne K (.ref C_UnknownPerson) (.type "ValueError") = some true)
    (kxUnknownPerson : PySem.W.exmOne K (.ref C_UnknownPerson) (.ref C_RotaError) = some true)
    (kiUnknownPerson : PySem.W.isClsIn K C_UnknownPerson = true)
    (gEUnknownPerson : PySem.W.findIn K (.ref C_UnknownPerson) "__getattribute__" = some (some (.builtin "BaseException.__getattribute__")))
    (ggUnknownPerson : PySem.W.findIn K (.ref C_UnknownPerson) "__getattr__" = some none)
    (cEUnknownPerson : PySem.W.findIn K (.ref C_UnknownPerson) "__class__" = some (some (.builtin "object.__class__")))
    (mEUnknownPerson : PySem.W.mroIn K C_UnknownPerson (.type "object") = some true)
    (hEUnknownPerson : PySem.W.hasDictIn K C_UnknownPerson = true)
    (ktNobodyHome0 : PySem.W.kitOne K (.ref C_NobodyHome) (.ref C_InvalidTick) = some false)
    (ktNobodyHome1 : PySem.W.kitOne K (.ref C_NobodyHome) (.ref C_InvalidCount) = some false)
    (ktNobodyHome2 : PySem.W.kitOne K (.ref C_NobodyHome) (.ref C_UnknownPerson) = some false)
    (ktNobodyHome3 : PySem.W.kitOne K (.ref C_NobodyHome) (.ref C_TooLong) = some false)
    (ktNobodyHome4 : PySem.W.kitOne K (.ref C_NobodyHome) (.ref C_DifferentPeople) = some false)
    (ktNobodyHome5 : PySem.W.kitOne K (.ref C_NobodyHome) (.ref C_Contradiction) = some false)
    (ktNobodyHome6 : PySem.W.kitOne K (.ref C_NobodyHome) (.ref C_NobodyHome) = some true)
    (ktNobodyHome7 : PySem.W.kitOne K (.ref C_NobodyHome) (.ref C_InvalidName) = some false)
    (ktNobodyHome8 : PySem.W.kitOne K (.ref C_NobodyHome) (.ref C_UnknownName) = some false)
    (ktNobodyHome9 : PySem.W.kitOne K (.ref C_NobodyHome) (.ref C_SyntaxFault) = some false)
    (ktNobodyHome10 : PySem.W.kitOne K (.ref C_NobodyHome) (.ref C_CheckFault) = some false)
    (ktNobodyHome11 : PySem.W.kitOne K (.ref C_NobodyHome) (.ref C_InvalidCode) = some false)
    (ktNobodyHome12 : PySem.W.kitOne K (.ref C_NobodyHome) (.ref C_InvalidOperation) = some false)
    (ktNobodyHome13 : PySem.W.kitOne K (.ref C_NobodyHome) (.ref C_InvalidSession) = some false)
    (kvNobodyHome : PySem.W.kitOne K (.ref C_NobodyHome) (.type "ValueError") = some true)
    (kxNobodyHome : PySem.W.exmOne K (.ref C_NobodyHome) (.ref C_RotaError) = some true)
    (kiNobodyHome : PySem.W.isClsIn K C_NobodyHome = true)
    (gENobodyHome : PySem.W.findIn K (.ref C_NobodyHome) "__getattribute__" = some (some (.builtin "BaseException.__getattribute__")))
    (ggNobodyHome : PySem.W.findIn K (.ref C_NobodyHome) "__getattr__" = some none)
    (cENobodyHome : PySem.W.findIn K (.ref C_NobodyHome) "__class__" = some (some (.builtin "object.__class__")))
    (mENobodyHome : PySem.W.mroIn K C_NobodyHome (.type "object") = some true)
    (hENobodyHome : PySem.W.hasDictIn K C_NobodyHome = true)
    (aBook_batch : PySem.W.findIn K (.ref C_Book) "batch" = some (some (.ref fBook_batch)))
    (iBook_batch : PySem.W.isFn K (.ref fBook_batch) = true)
    (lBook_batch : K.lookup fBook_batch = some ⟨ocBook_batch, odBook_batch, .func (PySem.W.fnOf "batch" "Book.batch" (defArgs sBook_batch) (defBody sBook_batch) (defScope sBook_batch) .none kVBook_batch dcBook_batch pmBook_batch anBook_batch cdBook_batch ctBook_batch), slBook_batch⟩)
    (cBook_batch : PySem.W.codeIn K cdBook_batch "Book.batch" = true)
    (kBook_batch : PySem.W.keepIn K (.ref fBook_batch) = true)
    (aBook_save : PySem.W.findIn K (.ref C_Book) "save" = some (some (.ref fBook_save)))
    (iBook_save : PySem.W.isFn K (.ref fBook_save) = true)
    (lBook_save : K.lookup fBook_save = some ⟨ocBook_save, odBook_save, .func (PySem.W.fnOf "save" "Book.save" (defArgs sBook_save) (defBody sBook_save) (defScope sBook_save) .none kVBook_save dcBook_save pmBook_save anBook_save cdBook_save ctBook_save), slBook_save⟩)
    (cBook_save : PySem.W.codeIn K cdBook_save "Book.save" = true)
    (kBook_save : PySem.W.keepIn K (.ref fBook_save) = true)
    (qInvalidName : PySem.W.excIn K C_InvalidName [.type "ValueError", .type "Exception", .type "BaseException", .type "object"] "ValueError.__new__" = true)
    (eCInvalidName : PySem.W.subIn K (.ref C_InvalidName) (.type "BaseException") = some true)
    (tCInvalidName : PySem.W.typeIn K (.ref C_InvalidName) = some (.type "type"))
    (kCInvalidName : PySem.W.keepIn K (.ref C_InvalidName) = true)
    (aBook_restore : PySem.W.findIn K (.ref C_Book) "restore" = some (some (.ref fBook_restore)))
    (iBook_restore : PySem.W.isFn K (.ref fBook_restore) = true)
    (lBook_restore : K.lookup fBook_restore = some ⟨ocBook_restore, odBook_restore, .func (PySem.W.fnOf "restore" "Book.restore" (defArgs sBook_restore) (defBody sBook_restore) (defScope sBook_restore) .none kVBook_restore dcBook_restore pmBook_restore anBook_restore cdBook_restore ctBook_restore), slBook_restore⟩)
    (cBook_restore : PySem.W.codeIn K cdBook_restore "Book.restore" = true)
    (kBook_restore : PySem.W.keepIn K (.ref fBook_restore) = true)
    (qUnknownName : PySem.W.excIn K C_UnknownName [.type "ValueError", .type "Exception", .type "BaseException", .type "object"] "ValueError.__new__" = true)
    (eCUnknownName : PySem.W.subIn K (.ref C_UnknownName) (.type "BaseException") = some true)
    (tCUnknownName : PySem.W.typeIn K (.ref C_UnknownName) = some (.type "type"))
    (kCUnknownName : PySem.W.keepIn K (.ref C_UnknownName) = true)
    (a_law_error_of : PySem.W.nsIn K mainGlobals "_law_error_of" = some (some (.ref f_law_error_of)))
    (l_law_error_of : K.lookup f_law_error_of = some ⟨oc_law_error_of, od_law_error_of, .func (PySem.W.fnOf "_law_error_of" "_law_error_of" (defArgs s_law_error_of) (defBody s_law_error_of) (defScope s_law_error_of) .none kV_law_error_of dc_law_error_of pm_law_error_of an_law_error_of cd_law_error_of ct_law_error_of), sl_law_error_of⟩)
    (c_law_error_of : PySem.W.codeIn K cd_law_error_of "_law_error_of" = true)
    (k_law_error_of : PySem.W.keepIn K (.ref f_law_error_of) = true)
    (a_law_all_raise : PySem.W.nsIn K mainGlobals "_law_all_raise" = some (some (.ref f_law_all_raise)))
    (l_law_all_raise : K.lookup f_law_all_raise = some ⟨oc_law_all_raise, od_law_all_raise, .func (PySem.W.fnOf "_law_all_raise" "_law_all_raise" (defArgs s_law_all_raise) (defBody s_law_all_raise) (defScope s_law_all_raise) .none kV_law_all_raise dc_law_all_raise pm_law_all_raise an_law_all_raise cd_law_all_raise ct_law_all_raise), sl_law_all_raise⟩)
    (c_law_all_raise : PySem.W.codeIn K cd_law_all_raise "_law_all_raise" = true)
    (k_law_all_raise : PySem.W.keepIn K (.ref f_law_all_raise) = true)
    (ktInvalidName0 : PySem.W.kitOne K (.ref C_InvalidName) (.ref C_InvalidTick) = some false)
    (ktInvalidName1 : PySem.W.kitOne K (.ref C_InvalidName) (.ref C_InvalidCount) = some false)
    (ktInvalidName2 : PySem.W.kitOne K (.ref C_InvalidName) (.ref C_UnknownPerson) = some false)
    (ktInvalidName3 : PySem.W.kitOne K (.ref C_InvalidName) (.ref C_TooLong) = some false)
    (ktInvalidName4 : PySem.W.kitOne K (.ref C_InvalidName) (.ref C_DifferentPeople) = some false)
    (ktInvalidName5 : PySem.W.kitOne K (.ref C_InvalidName) (.ref C_Contradiction) = some false)
    (ktInvalidName6 : PySem.W.kitOne K (.ref C_InvalidName) (.ref C_NobodyHome) = some false)
    (ktInvalidName7 : PySem.W.kitOne K (.ref C_InvalidName) (.ref C_InvalidName) = some true)
    (ktInvalidName8 : PySem.W.kitOne K (.ref C_InvalidName) (.ref C_UnknownName) = some false)
    (ktInvalidName9 : PySem.W.kitOne K (.ref C_InvalidName) (.ref C_SyntaxFault) = some false)
    (ktInvalidName10 : PySem.W.kitOne K (.ref C_InvalidName) (.ref C_CheckFault) = some false)
    (ktInvalidName11 : PySem.W.kitOne K (.ref C_InvalidName) (.ref C_InvalidCode) = some false)
    (ktInvalidName12 : PySem.W.kitOne K (.ref C_InvalidName) (.ref C_InvalidOperation) = some false)
    (ktInvalidName13 : PySem.W.kitOne K (.ref C_InvalidName) (.ref C_InvalidSession) = some false)
    (kvInvalidName : PySem.W.kitOne K (.ref C_InvalidName) (.type "ValueError") = some true)
    (kxInvalidName : PySem.W.exmOne K (.ref C_InvalidName) (.ref C_RotaError) = some true)
    (kiInvalidName : PySem.W.isClsIn K C_InvalidName = true)
    (gEInvalidName : PySem.W.findIn K (.ref C_InvalidName) "__getattribute__" = some (some (.builtin "BaseException.__getattribute__")))
    (ggInvalidName : PySem.W.findIn K (.ref C_InvalidName) "__getattr__" = some none)
    (cEInvalidName : PySem.W.findIn K (.ref C_InvalidName) "__class__" = some (some (.builtin "object.__class__")))
    (mEInvalidName : PySem.W.mroIn K C_InvalidName (.type "object") = some true)
    (hEInvalidName : PySem.W.hasDictIn K C_InvalidName = true)
    (ktUnknownName0 : PySem.W.kitOne K (.ref C_UnknownName) (.ref C_InvalidTick) = some false)
    (ktUnknownName1 : PySem.W.kitOne K (.ref C_UnknownName) (.ref C_InvalidCount) = some false)
    (ktUnknownName2 : PySem.W.kitOne K (.ref C_UnknownName) (.ref C_UnknownPerson) = some false)
    (ktUnknownName3 : PySem.W.kitOne K (.ref C_UnknownName) (.ref C_TooLong) = some false)
    (ktUnknownName4 : PySem.W.kitOne K (.ref C_UnknownName) (.ref C_DifferentPeople) = some false)
    (ktUnknownName5 : PySem.W.kitOne K (.ref C_UnknownName) (.ref C_Contradiction) = some false)
    (ktUnknownName6 : PySem.W.kitOne K (.ref C_UnknownName) (.ref C_NobodyHome) = some false)
    (ktUnknownName7 : PySem.W.kitOne K (.ref C_UnknownName) (.ref C_InvalidName) = some false)
    (ktUnknownName8 : PySem.W.kitOne K (.ref C_UnknownName) (.ref C_UnknownName) = some true)
    (ktUnknownName9 : PySem.W.kitOne K (.ref C_UnknownName) (.ref C_SyntaxFault) = some false)
    (ktUnknownName10 : PySem.W.kitOne K (.ref C_UnknownName) (.ref C_CheckFault) = some false)
    (ktUnknownName11 : PySem.W.kitOne K (.ref C_UnknownName) (.ref C_InvalidCode) = some false)
    (ktUnknownName12 : PySem.W.kitOne K (.ref C_UnknownName) (.ref C_InvalidOperation) = some false)
    (ktUnknownName13 : PySem.W.kitOne K (.ref C_UnknownName) (.ref C_InvalidSession) = some false)
    (kvUnknownName : PySem.W.kitOne K (.ref C_UnknownName) (.type "ValueError") = some true)
    (kxUnknownName : PySem.W.exmOne K (.ref C_UnknownName) (.ref C_RotaError) = some true)
    (kiUnknownName : PySem.W.isClsIn K C_UnknownName = true)
    (gEUnknownName : PySem.W.findIn K (.ref C_UnknownName) "__getattribute__" = some (some (.builtin "BaseException.__getattribute__")))
    (ggUnknownName : PySem.W.findIn K (.ref C_UnknownName) "__getattr__" = some none)
    (cEUnknownName : PySem.W.findIn K (.ref C_UnknownName) "__class__" = some (some (.builtin "object.__class__")))
    (mEUnknownName : PySem.W.mroIn K C_UnknownName (.type "object") = some true)
    (hEUnknownName : PySem.W.hasDictIn K C_UnknownName = true)
    (z_len : PySem.W.nsIn K mainGlobals "len" = some none)
    (z_range : PySem.W.nsIn K mainGlobals "range" = some none)
    (z_list : PySem.W.nsIn K mainGlobals "list" = some none)
    (z_tuple : PySem.W.nsIn K mainGlobals "tuple" = some none)
    (z_int : PySem.W.nsIn K mainGlobals "int" = some none)
    (z_str : PySem.W.nsIn K mainGlobals "str" = some none)
    (z_abs : PySem.W.nsIn K mainGlobals "abs" = some none)
    (z_max : PySem.W.nsIn K mainGlobals "max" = some none)
    (z_sorted : PySem.W.nsIn K mainGlobals "sorted" = some none)
    (z_set : PySem.W.nsIn K mainGlobals "set" = some none)
    (z_any : PySem.W.nsIn K mainGlobals "any" = some none)
    (z_all : PySem.W.nsIn K mainGlobals "all" = some none)
    (z_enumerate : PySem.W.nsIn K mainGlobals "enumerate" = some none)
    (z_isinstance : PySem.W.nsIn K mainGlobals "isinstance" = some none)
    (z_bool : PySem.W.nsIn K mainGlobals "bool" = some none)
    (z_sum : PySem.W.nsIn K mainGlobals "sum" = some none)
    (z_zip : PySem.W.nsIn K mainGlobals "zip" = some none)
    (z_min : PySem.W.nsIn K mainGlobals "min" = some none)
    (z_dict : PySem.W.nsIn K mainGlobals "dict" = some none)
    (z_divmod : PySem.W.nsIn K mainGlobals "divmod" = some none)
    (z_ValueError : PySem.W.nsIn K mainGlobals "ValueError" = some none)
    (ne_Token__Parser : C_Token ≠ C_Parser)
    (alaw : PySem.W.nsIn K mainGlobals "law" = some (some (.ref flaw)))
    (llaw : K.lookup flaw = some ⟨oclaw, odlaw, .func (PySem.W.fnOf "law" "law" (defArgs slaw) (defBody slaw) (defScope slaw) .none kVlaw dclaw pmlaw anlaw (.ref cT) ctlaw), sllaw⟩)
    (claw : PySem.W.codeIn K (.ref cT) "law" = true)
    (klaw : PySem.W.keepIn K (.ref flaw) = true)
    (vT : K.lookup cT = some ⟨.type "code", odT, .fields vsT, slT⟩)
    (pT : (vsT[11]? : Option Value) = some (.ref PT))
    (chT : PySem.W.codeHdIn K cT PT = true)
    (nT : K.lookup PT = none)
    (tT : h.get? PT = some (PySem.W.tabObj #[]))
    : LamX.LawAtS l w K CX0 10 63 "_law_script" mg fa h := by
  have e := hfa.symm.trans (PySem.W.mg_of X G alaw)
  cases e
  have BX : BaseX K mg C_RotaError := ⟨PySem.W.mg_of X G aCRotaError, rdR, gaR, atR⟩
  let cs : Nat → Addr := fun i => ([C_InvalidTick, C_InvalidCount, C_UnknownPerson, C_TooLong, C_DifferentPeople, C_Contradiction, C_NobodyHome, C_InvalidName, C_UnknownName, C_SyntaxFault, C_CheckFault, C_InvalidCode, C_InvalidOperation, C_InvalidSession] : List Addr).getD i 0
  have gc : ∀ i, i < 14 → mg (clsN.getD i "") = some (.ref (cs i)) := fun i hi => by match i, hi with | 0, _ => exact PySem.W.mg_of X G aCInvalidTick | 1, _ => exact PySem.W.mg_of X G aCInvalidCount | 2, _ => exact PySem.W.mg_of X G aCUnknownPerson | 3, _ => exact PySem.W.mg_of X G aCTooLong | 4, _ => exact PySem.W.mg_of X G aCDifferentPeople | 5, _ => exact PySem.W.mg_of X G aCContradiction | 6, _ => exact PySem.W.mg_of X G aCNobodyHome | 7, _ => exact PySem.W.mg_of X G aCInvalidName | 8, _ => exact PySem.W.mg_of X G aCUnknownName | 9, _ => exact PySem.W.mg_of X G aCSyntaxFault | 10, _ => exact PySem.W.mg_of X G aCCheckFault | 11, _ => exact PySem.W.mg_of X G aCInvalidCode | 12, _ => exact PySem.W.mg_of X G aCInvalidOperation | 13, _ => exact PySem.W.mg_of X G aCInvalidSession
  have gR : mg "RotaError" = some (.ref C_RotaError) := PySem.W.mg_of X G aCRotaError
  have c_END_SIGN : ∃ t, mg "END_SIGN" = some (.str ";" t) := ⟨_, PySem.W.mg_of X G s_END_SIGN⟩
  have c_SIGN : ∃ t, mg "SIGN" = some (.str "sign" t) := ⟨_, PySem.W.mg_of X G s_SIGN⟩
  have c_DIGITS : ∃ t, mg "DIGITS" = some (.str "0123456789" t) := ⟨_, PySem.W.mg_of X G s_DIGITS⟩
  have c_MAX_DIGITS : ∃ t, mg "MAX_DIGITS" = some (.int 2 t) := ⟨_, PySem.W.mg_of X G s_MAX_DIGITS⟩
  have c_NUMBER : ∃ t, mg "NUMBER" = some (.str "number" t) := ⟨_, PySem.W.mg_of X G s_NUMBER⟩
  have c_LETTERS : ∃ t, mg "LETTERS" = some (.str "abcdefghijklmnopqrstuvwxyz" t) := ⟨_, PySem.W.mg_of X G s_LETTERS⟩
  have c_KEYWORDS : ∃ a, mg "KEYWORDS" = some (.ref a) ∧ ∀ H : Hp, SqT K H a ((["people", "turns", "weights", "away", "of", "makeup"] : List Str).map V.str) := ⟨_, PySem.W.mg_of X G s_KEYWORDS, fun H => .inr ⟨_, _, _, u_KEYWORDS, rfl, rfl, by show 6 ≤ sizeLine; decide, .cons ⟨_, rfl⟩ (.cons ⟨_, rfl⟩ (.cons ⟨_, rfl⟩ (.cons ⟨_, rfl⟩ (.cons ⟨_, rfl⟩ (.cons ⟨_, rfl⟩ (.nil))))))⟩⟩
  have c_KEYWORD : ∃ t, mg "KEYWORD" = some (.str "keyword" t) := ⟨_, PySem.W.mg_of X G s_KEYWORD⟩
  have c_MAX_LETTERS : ∃ t, mg "MAX_LETTERS" = some (.int 8 t) := ⟨_, PySem.W.mg_of X G s_MAX_LETTERS⟩
  have c_NAME : ∃ t, mg "NAME" = some (.str "name" t) := ⟨_, PySem.W.mg_of X G s_NAME⟩
  have c_END : ∃ t, mg "END" = some (.str "end" t) := ⟨_, PySem.W.mg_of X G s_END⟩
  have c_SPACES : ∃ t, mg "SPACES" = some (.str " \n" t) := ⟨_, PySem.W.mg_of X G s_SPACES⟩
  have K_Token : Cls K C_Token := ⟨pgToken, hdToken, poToken, saToken⟩
  have N_Token_kind : NoAttr K C_Token "kind" := nToken_kind
  have N_Token_text : NoAttr K C_Token "text" := nToken_text
  have N_Token_line : NoAttr K C_Token "line" := nToken_line
  have N_Token_column : NoAttr K C_Token "column" := nToken_column
  have K_Parser : Cls K C_Parser := ⟨pgParser, hdParser, poParser, saParser⟩
  have N_Parser_tokens : NoAttr K C_Parser "tokens" := nParser_tokens
  have N_Parser_at : NoAttr K C_Parser "at" := nParser_at
  have N_Parser_faults : NoAttr K C_Parser "faults" := nParser_faults
  have N_Parser_names : NoAttr K C_Parser "names" := nParser_names
  have N_Parser_weights : NoAttr K C_Parser "weights" := nParser_weights
  have N_Parser_makers : NoAttr K C_Parser "makers" := nParser_makers
  have N_Parser_aways : NoAttr K C_Parser "aways" := nParser_aways
  have K_Book : Cls K C_Book := ⟨pgBook, hdBook, poBook, saBook⟩
  have N_Book_parsed : NoAttr K C_Book "parsed" := nBook_parsed
  have N_Book_now : NoAttr K C_Book "now" := nBook_now
  have N_Book_past : NoAttr K C_Book "past" := nBook_past
  have N_Book_undone : NoAttr K C_Book "undone" := nBook_undone
  have N_Book_saved : NoAttr K C_Book "saved" := nBook_saved
  have F_law_below := fun_mk (st := s_law_below) l_law_below c_law_below k_law_below
  have D__law_below : DefAt K mg "_law_below" s_law_below ["_law_d", "_law_limit"] := ⟨⟨f_law_below, _, PySem.W.mg_of X G a_law_below, F_law_below, (F_law_below.binds fun _ _ _ _ _ _ us hl => match us, hl with | [_, _], _ => rfl)⟩⟩
  have F_law_random := fun_mk (st := s_law_random) l_law_random c_law_random k_law_random
  have D__law_random : DefAt K mg "_law_random" s_law_random ["_law_script", "_law_salt"] := ⟨⟨f_law_random, _, PySem.W.mg_of X G a_law_random, F_law_random, (F_law_random.binds fun _ _ _ _ _ _ us hl => match us, hl with | [_, _], _ => rfl)⟩⟩
  have FTokenI := fun_mk (st := sToken___init__) lTokenI cTokenI kTokenI
  have D_Token : InitAt K mg "Token" "Token.__init__" C_Token sToken___init__ ["self", "kind", "text", "line", "column"] := ⟨⟨fTokenI, _, PySem.W.mg_of X G aCToken, ⟨mkToken, aTokenI, iTokenI, kcToken⟩, FTokenI, (FTokenI.binds fun _ _ _ _ _ _ us hl => match us, hl with | [_, _, _, _, _], _ => rfl)⟩⟩
  have Frun_end := fun_mk (st := srun_end) lrun_end crun_end krun_end
  have D_run_end : DefAt K mg "run_end" srun_end ["row", "start", "letters"] := ⟨⟨frun_end, _, PySem.W.mg_of X G arun_end, Frun_end, (Frun_end.binds fun _ _ _ _ _ _ us hl => match us, hl with | [_, _, _], _ => rfl)⟩⟩
  have Fread_token := fun_mk (st := sread_token) lread_token cread_token kread_token
  have D_read_token : DefAt K mg "read_token" sread_token ["row", "line", "column"] := ⟨⟨fread_token, _, PySem.W.mg_of X G aread_token, Fread_token, (Fread_token.binds fun _ _ _ _ _ _ us hl => match us, hl with | [_, _, _], _ => rfl)⟩⟩
  have Ftokenize := fun_mk (st := stokenize) ltokenize ctokenize ktokenize
  have D_tokenize : DefAt K mg "tokenize" stokenize ["source"] := ⟨⟨ftokenize, _, PySem.W.mg_of X G atokenize, Ftokenize, (Ftokenize.binds fun _ _ _ _ _ _ us hl => match us, hl with | [_], _ => rfl)⟩⟩
  have FParserI := fun_mk (st := sParser___init__) lParserI cParserI kParserI
  have D_Parser : InitAt K mg "Parser" "Parser.__init__" C_Parser sParser___init__ ["self", "tokens"] := ⟨⟨fParserI, _, PySem.W.mg_of X G aCParser, ⟨mkParser, aParserI, iParserI, kcParser⟩, FParserI, (FParserI.binds fun _ _ _ _ _ _ us hl => match us, hl with | [_, _], _ => rfl)⟩⟩
  have FParser_peek := fun_mk (st := sParser_peek) lParser_peek cParser_peek kParser_peek
  have D_Parser_peek : MethAt K C_Parser "peek" "Parser.peek" sParser_peek ["self"] := ⟨⟨fParser_peek, _, ⟨aParser_peek, iParser_peek, kParser_peek⟩, FParser_peek, (FParser_peek.binds fun _ _ _ _ _ _ us hl => match us, hl with | [_], _ => rfl)⟩⟩
  have FParser_take := fun_mk (st := sParser_take) lParser_take cParser_take kParser_take
  have D_Parser_take : MethAt K C_Parser "take" "Parser.take" sParser_take ["self", "kind"] := ⟨⟨fParser_take, _, ⟨aParser_take, iParser_take, kParser_take⟩, FParser_take, (FParser_take.binds fun _ _ _ _ _ _ us hl => match us, hl with | [_, _], _ => rfl)⟩⟩
  have FParser_take_word := fun_mk (st := sParser_take_word) lParser_take_word cParser_take_word kParser_take_word
  have D_Parser_take_word : MethAt K C_Parser "take_word" "Parser.take_word" sParser_take_word ["self", "word"] := ⟨⟨fParser_take_word, _, ⟨aParser_take_word, iParser_take_word, kParser_take_word⟩, FParser_take_word, (FParser_take_word.binds fun _ _ _ _ _ _ us hl => match us, hl with | [_, _], _ => rfl)⟩⟩
  have FParser_take_all := fun_mk (st := sParser_take_all) lParser_take_all cParser_take_all kParser_take_all
  have D_Parser_take_all : MethAt K C_Parser "take_all" "Parser.take_all" sParser_take_all ["self", "kind"] := ⟨⟨fParser_take_all, _, ⟨aParser_take_all, iParser_take_all, kParser_take_all⟩, FParser_take_all, (FParser_take_all.binds fun _ _ _ _ _ _ us hl => match us, hl with | [_, _], _ => rfl)⟩⟩
  have FParser_person := fun_mk (st := sParser_person) lParser_person cParser_person kParser_person
  have D_Parser_person : MethAt K C_Parser "person" "Parser.person" sParser_person ["self", "token"] := ⟨⟨fParser_person, _, ⟨aParser_person, iParser_person, kParser_person⟩, FParser_person, (FParser_person.binds fun _ _ _ _ _ _ us hl => match us, hl with | [_, _], _ => rfl)⟩⟩
  have FParser_parse_people := fun_mk (st := sParser_parse_people) lParser_parse_people cParser_parse_people kParser_parse_people
  have D_Parser_parse_people : MethAt K C_Parser "parse_people" "Parser.parse_people" sParser_parse_people ["self"] := ⟨⟨fParser_parse_people, _, ⟨aParser_parse_people, iParser_parse_people, kParser_parse_people⟩, FParser_parse_people, (FParser_parse_people.binds fun _ _ _ _ _ _ us hl => match us, hl with | [_], _ => rfl)⟩⟩
  have c_MAX_PEOPLE : ∃ t, mg "MAX_PEOPLE" = some (.int 6 t) := ⟨_, PySem.W.mg_of X G s_MAX_PEOPLE⟩
  have FParser_parse_turns := fun_mk (st := sParser_parse_turns) lParser_parse_turns cParser_parse_turns kParser_parse_turns
  have D_Parser_parse_turns : MethAt K C_Parser "parse_turns" "Parser.parse_turns" sParser_parse_turns ["self"] := ⟨⟨fParser_parse_turns, _, ⟨aParser_parse_turns, iParser_parse_turns, kParser_parse_turns⟩, FParser_parse_turns, (FParser_parse_turns.binds fun _ _ _ _ _ _ us hl => match us, hl with | [_], _ => rfl)⟩⟩
  have c_MAX_TURNS : ∃ t, mg "MAX_TURNS" = some (.int 12 t) := ⟨_, PySem.W.mg_of X G s_MAX_TURNS⟩
  have FParser_parse_weights := fun_mk (st := sParser_parse_weights) lParser_parse_weights cParser_parse_weights kParser_parse_weights
  have D_Parser_parse_weights : MethAt K C_Parser "parse_weights" "Parser.parse_weights" sParser_parse_weights ["self"] := ⟨⟨fParser_parse_weights, _, ⟨aParser_parse_weights, iParser_parse_weights, kParser_parse_weights⟩, FParser_parse_weights, (FParser_parse_weights.binds fun _ _ _ _ _ _ us hl => match us, hl with | [_], _ => rfl)⟩⟩
  have c_MAX_WEIGHT : ∃ t, mg "MAX_WEIGHT" = some (.int 9 t) := ⟨_, PySem.W.mg_of X G s_MAX_WEIGHT⟩
  have FParser_parse_away := fun_mk (st := sParser_parse_away) lParser_parse_away cParser_parse_away kParser_parse_away
  have D_Parser_parse_away : MethAt K C_Parser "parse_away" "Parser.parse_away" sParser_parse_away ["self"] := ⟨⟨fParser_parse_away, _, ⟨aParser_parse_away, iParser_parse_away, kParser_parse_away⟩, FParser_parse_away, (FParser_parse_away.binds fun _ _ _ _ _ _ us hl => match us, hl with | [_], _ => rfl)⟩⟩
  have c_MAX_AWAYS : ∃ t, mg "MAX_AWAYS" = some (.int 20 t) := ⟨_, PySem.W.mg_of X G s_MAX_AWAYS⟩
  have c_MODULI : ∃ a, mg "MODULI" = some (.ref a) ∧ ∀ H : Hp, SqT K H a (([2, 3, 4, 6, 8, 12] : List Int).map V.int) := ⟨_, PySem.W.mg_of X G s_MODULI, fun H => .inr ⟨_, _, _, u_MODULI, rfl, rfl, by show 6 ≤ sizeLine; decide, .cons ⟨_, rfl⟩ (.cons ⟨_, rfl⟩ (.cons ⟨_, rfl⟩ (.cons ⟨_, rfl⟩ (.cons ⟨_, rfl⟩ (.cons ⟨_, rfl⟩ (.nil))))))⟩⟩
  have FParser_parse_makeup := fun_mk (st := sParser_parse_makeup) lParser_parse_makeup cParser_parse_makeup kParser_parse_makeup
  have D_Parser_parse_makeup : MethAt K C_Parser "parse_makeup" "Parser.parse_makeup" sParser_parse_makeup ["self"] := ⟨⟨fParser_parse_makeup, _, ⟨aParser_parse_makeup, iParser_parse_makeup, kParser_parse_makeup⟩, FParser_parse_makeup, (FParser_parse_makeup.binds fun _ _ _ _ _ _ us hl => match us, hl with | [_], _ => rfl)⟩⟩
  have FParser_parse_rota := fun_mk (st := sParser_parse_rota) lParser_parse_rota cParser_parse_rota kParser_parse_rota
  have D_Parser_parse_rota : MethAt K C_Parser "parse_rota" "Parser.parse_rota" sParser_parse_rota ["self"] := ⟨⟨fParser_parse_rota, _, ⟨aParser_parse_rota, iParser_parse_rota, kParser_parse_rota⟩, FParser_parse_rota, (FParser_parse_rota.binds fun _ _ _ _ _ _ us hl => match us, hl with | [_], _ => rfl)⟩⟩
  have Fload := fun_mk (st := sload) lload cload kload
  have D_load : DefAt K mg "load" sload ["rota"] := ⟨⟨fload, _, PySem.W.mg_of X G aload, Fload, (Fload.binds fun _ _ _ _ _ _ us hl => match us, hl with | [_], _ => rfl)⟩⟩
  have Fis_home := fun_mk (st := sis_home) lis_home cis_home kis_home
  have D_is_home : DefAt K mg "is_home" sis_home ["parsed", "person", "tick"] := ⟨⟨fis_home, _, PySem.W.mg_of X G ais_home, Fis_home, (Fis_home.binds fun _ _ _ _ _ _ us hl => match us, hl with | [_, _, _], _ => rfl)⟩⟩
  have Fhome_people := fun_mk (st := shome_people) lhome_people chome_people khome_people
  have D_home_people : DefAt K mg "home_people" shome_people ["parsed", "tick"] := ⟨⟨fhome_people, _, PySem.W.mg_of X G ahome_people, Fhome_people, (Fhome_people.binds fun _ _ _ _ _ _ us hl => match us, hl with | [_, _], _ => rfl)⟩⟩
  have Ffirst_state := fun_mk (st := sfirst_state) lfirst_state cfirst_state kfirst_state
  have D_first_state : DefAt K mg "first_state" sfirst_state ["parsed"] := ⟨⟨ffirst_state, _, PySem.W.mg_of X G afirst_state, Ffirst_state, (Ffirst_state.binds fun _ _ _ _ _ _ us hl => match us, hl with | [_], _ => rfl)⟩⟩
  have Fchanged := fun_mk (st := schanged) lchanged cchanged kchanged
  have D_changed : DefAt K mg "changed" schanged ["owed", "person", "amount"] := ⟨⟨fchanged, _, PySem.W.mg_of X G achanged, Fchanged, (Fchanged.binds fun _ _ _ _ _ _ us hl => match us, hl with | [_, _, _], _ => rfl)⟩⟩
  have c_MAX_OWED : ∃ t, mg "MAX_OWED" = some (.int 9 t) := ⟨_, PySem.W.mg_of X G s_MAX_OWED⟩
  have Fafter_tick := fun_mk (st := safter_tick) lafter_tick cafter_tick kafter_tick
  have D_after_tick : DefAt K mg "after_tick" safter_tick ["parsed", "state", "tick"] := ⟨⟨fafter_tick, _, PySem.W.mg_of X G aafter_tick, Fafter_tick, (Fafter_tick.binds fun _ _ _ _ _ _ us hl => match us, hl with | [_, _, _], _ => rfl)⟩⟩
  have FBook_record := fun_mk (st := sBook_record) lBook_record cBook_record kBook_record
  have D_Book_record : MethAt K C_Book "record" "Book.record" sBook_record ["self", "word", "now"] := ⟨⟨fBook_record, _, ⟨aBook_record, iBook_record, kBook_record⟩, FBook_record, (FBook_record.binds fun _ _ _ _ _ _ us hl => match us, hl with | [_, _, _], _ => rfl)⟩⟩
  have FBook_named := fun_mk (st := sBook_named) lBook_named cBook_named kBook_named
  have D_Book_named : MethAt K C_Book "named" "Book.named" sBook_named ["self", "person"] := ⟨⟨fBook_named, _, ⟨aBook_named, iBook_named, kBook_named⟩, FBook_named, (FBook_named.binds fun _ _ _ _ _ _ us hl => match us, hl with | [_, _], _ => rfl)⟩⟩
  have FBook_reset := fun_mk (st := sBook_reset) lBook_reset cBook_reset kBook_reset
  have D_Book_reset : MethAt K C_Book "reset" "Book.reset" sBook_reset ["self"] := ⟨⟨fBook_reset, _, ⟨aBook_reset, iBook_reset, kBook_reset⟩, FBook_reset, (FBook_reset.binds fun _ _ _ _ _ _ us hl => match us, hl with | [_], _ => rfl)⟩⟩
  have c_RESET : ∃ t, mg "RESET" = some (.str "reset" t) := ⟨_, PySem.W.mg_of X G s_RESET⟩
  have FBook_undo := fun_mk (st := sBook_undo) lBook_undo cBook_undo kBook_undo
  have D_Book_undo : MethAt K C_Book "undo" "Book.undo" sBook_undo ["self"] := ⟨⟨fBook_undo, _, ⟨aBook_undo, iBook_undo, kBook_undo⟩, FBook_undo, (FBook_undo.binds fun _ _ _ _ _ _ us hl => match us, hl with | [_], _ => rfl)⟩⟩
  have FBook_redo := fun_mk (st := sBook_redo) lBook_redo cBook_redo kBook_redo
  have D_Book_redo : MethAt K C_Book "redo" "Book.redo" sBook_redo ["self"] := ⟨⟨fBook_redo, _, ⟨aBook_redo, iBook_redo, kBook_redo⟩, FBook_redo, (FBook_redo.binds fun _ _ _ _ _ _ us hl => match us, hl with | [_], _ => rfl)⟩⟩
  have Fis_int_in := fun_mk (st := sis_int_in) lis_int_in cis_int_in kis_int_in
  have D_is_int_in : DefAt K mg "is_int_in" sis_int_in ["value", "low", "high"] := ⟨⟨fis_int_in, _, PySem.W.mg_of X G ais_int_in, Fis_int_in, (Fis_int_in.binds fun _ _ _ _ _ _ us hl => match us, hl with | [_, _, _], _ => rfl)⟩⟩
  have Fperson_number := fun_mk (st := sperson_number) lperson_number cperson_number kperson_number
  have D_person_number : DefAt K mg "person_number" sperson_number ["parsed", "name"] := ⟨⟨fperson_number, _, PySem.W.mg_of X G aperson_number, Fperson_number, (Fperson_number.binds fun _ _ _ _ _ _ us hl => match us, hl with | [_, _], _ => rfl)⟩⟩
  have EP_UnknownPerson : ExPl K mg "UnknownPerson" C_UnknownPerson := ⟨qUnknownPerson, PySem.W.mg_of X G aCUnknownPerson, kCUnknownPerson, eCUnknownPerson, tCUnknownPerson⟩
  have FBook_step := fun_mk (st := sBook_step) lBook_step cBook_step kBook_step
  have D_Book_step : MethAt K C_Book "step" "Book.step" sBook_step ["self", "count"] := ⟨⟨fBook_step, _, ⟨aBook_step, iBook_step, kBook_step⟩, FBook_step, (FBook_step.binds fun _ _ _ _ _ _ us hl => match us, hl with | [_, _], _ => rfl)⟩⟩
  have c_STEP : ∃ t, mg "STEP" = some (.str "step" t) := ⟨_, PySem.W.mg_of X G s_STEP⟩
  have c_MAX_STEPS : ∃ t, mg "MAX_STEPS" = some (.int 500 t) := ⟨_, PySem.W.mg_of X G s_MAX_STEPS⟩
  have EP_InvalidCount : ExPl K mg "InvalidCount" C_InvalidCount := ⟨qInvalidCount, PySem.W.mg_of X G aCInvalidCount, kCInvalidCount, eCInvalidCount, tCInvalidCount⟩
  have FBook_gift := fun_mk (st := sBook_gift) lBook_gift cBook_gift kBook_gift
  have D_Book_gift : MethAt K C_Book "gift" "Book.gift" sBook_gift ["self", "name"] := ⟨⟨fBook_gift, _, ⟨aBook_gift, iBook_gift, kBook_gift⟩, FBook_gift, (FBook_gift.binds fun _ _ _ _ _ _ us hl => match us, hl with | [_, _], _ => rfl)⟩⟩
  have c_GIFT : ∃ t, mg "GIFT" = some (.str "gift" t) := ⟨_, PySem.W.mg_of X G s_GIFT⟩
  have EP_NobodyHome : ExPl K mg "NobodyHome" C_NobodyHome := ⟨qNobodyHome, PySem.W.mg_of X G aCNobodyHome, kCNobodyHome, eCNobodyHome, tCNobodyHome⟩
  have FBook_forgive := fun_mk (st := sBook_forgive) lBook_forgive cBook_forgive kBook_forgive
  have D_Book_forgive : MethAt K C_Book "forgive" "Book.forgive" sBook_forgive ["self", "name"] := ⟨⟨fBook_forgive, _, ⟨aBook_forgive, iBook_forgive, kBook_forgive⟩, FBook_forgive, (FBook_forgive.binds fun _ _ _ _ _ _ us hl => match us, hl with | [_, _], _ => rfl)⟩⟩
  have c_FORGIVE : ∃ t, mg "FORGIVE" = some (.str "forgive" t) := ⟨_, PySem.W.mg_of X G s_FORGIVE⟩
  have FBookI := fun_mk (st := sBook___init__) lBookI cBookI kBookI
  have D_Book : InitAt K mg "Book" "Book.__init__" C_Book sBook___init__ ["self", "rota"] := ⟨⟨fBookI, _, PySem.W.mg_of X G aCBook, ⟨mkBook, aBookI, iBookI, kcBook⟩, FBookI, (FBookI.binds fun _ _ _ _ _ _ us hl => match us, hl with | [_, _], _ => rfl)⟩⟩
  have FBook_ticks := fun_mk (st := sBook_ticks) lBook_ticks cBook_ticks kBook_ticks
  have D_Book_ticks : PropAt K C_Book "ticks" "Book.ticks" sBook_ticks := ⟨⟨pBook_ticks, fBook_ticks, _, ⟨aBook_ticks, gBook_ticks, tBook_ticks, ⟨_, r_Book_ticks⟩⟩, FBook_ticks, (FBook_ticks.binds fun _ _ _ _ _ _ us hl => match us, hl with | [_], _ => rfl)⟩⟩
  have FBook_operations := fun_mk (st := sBook_operations) lBook_operations cBook_operations kBook_operations
  have D_Book_operations : PropAt K C_Book "operations" "Book.operations" sBook_operations := ⟨⟨pBook_operations, fBook_operations, _, ⟨aBook_operations, gBook_operations, tBook_operations, ⟨_, r_Book_operations⟩⟩, FBook_operations, (FBook_operations.binds fun _ _ _ _ _ _ us hl => match us, hl with | [_], _ => rfl)⟩⟩
  have FBook_debts := fun_mk (st := sBook_debts) lBook_debts cBook_debts kBook_debts
  have D_Book_debts : PropAt K C_Book "debts" "Book.debts" sBook_debts := ⟨⟨pBook_debts, fBook_debts, _, ⟨aBook_debts, gBook_debts, tBook_debts, ⟨_, r_Book_debts⟩⟩, FBook_debts, (FBook_debts.binds fun _ _ _ _ _ _ us hl => match us, hl with | [_], _ => rfl)⟩⟩
  have FBook_execute := fun_mk (st := sBook_execute) lBook_execute cBook_execute kBook_execute
  have D_Book_execute : MethAt K C_Book "execute" "Book.execute" sBook_execute ["self", "operation"] := ⟨⟨fBook_execute, _, ⟨aBook_execute, iBook_execute, kBook_execute⟩, FBook_execute, (FBook_execute.binds fun _ _ _ _ _ _ us hl => match us, hl with | [_, _], _ => rfl)⟩⟩
  have Fis_operation := fun_mk (st := sis_operation) lis_operation cis_operation kis_operation
  have D_is_operation : DefAt K mg "is_operation" sis_operation ["value"] := ⟨⟨fis_operation, _, PySem.W.mg_of X G ais_operation, Fis_operation, (Fis_operation.binds fun _ _ _ _ _ _ us hl => match us, hl with | [_], _ => rfl)⟩⟩
  have c_LENGTHS : LenD K w mg a_LENGTHS := ⟨PySem.W.mg_of X G s_LENGTHS, es_LENGTHS, n_LENGTHS, u_LENGTHS, kl_LENGTHS, sm_LENGTHS, fun op => match op with | .step _ => ⟨_, v_LENGTHS0⟩ | .gift _ => ⟨_, v_LENGTHS1⟩ | .forgive _ => ⟨_, v_LENGTHS2⟩ | .reset => ⟨_, v_LENGTHS3⟩ | .undo => ⟨_, v_LENGTHS4⟩ | .redo => ⟨_, v_LENGTHS5⟩ | .bad _ => ⟨_, v_LENGTHS0⟩⟩
  have IS_InvalidCount : IsX K C_InvalidCount := ⟨kiInvalidCount, gEInvalidCount, ggInvalidCount, eCInvalidCount, cEInvalidCount, cgO, tkO, mEInvalidCount⟩
  have ER_InvalidCount : ErK K cs C_RotaError C_InvalidCount 1 := ⟨by decide, fun i hi => (by match i, hi with | 0, _ => exact ktInvalidCount0 | 1, _ => exact ktInvalidCount1 | 2, _ => exact ktInvalidCount2 | 3, _ => exact ktInvalidCount3 | 4, _ => exact ktInvalidCount4 | 5, _ => exact ktInvalidCount5 | 6, _ => exact ktInvalidCount6 | 7, _ => exact ktInvalidCount7 | 8, _ => exact ktInvalidCount8 | 9, _ => exact ktInvalidCount9 | 10, _ => exact ktInvalidCount10 | 11, _ => exact ktInvalidCount11 | 12, _ => exact ktInvalidCount12 | 13, _ => exact ktInvalidCount13), kvInvalidCount, kxInvalidCount, IS_InvalidCount, ⟨gEInvalidCount, ggInvalidCount, eCInvalidCount, hEInvalidCount⟩⟩
  have IS_UnknownPerson : IsX K C_UnknownPerson := ⟨kiUnknownPerson, gEUnknownPerson, ggUnknownPerson, eCUnknownPerson, cEUnknownPerson, cgO, tkO, mEUnknownPerson⟩
  have ER_UnknownPerson : ErK K cs C_RotaError C_UnknownPerson 2 := ⟨by decide, fun i hi => (by match i, hi with | 0, _ => exact ktUnknownPerson0 | 1, _ => exact ktUnknownPerson1 | 2, _ => exact ktUnknownPerson2 | 3, _ => exact ktUnknownPerson3 | 4, _ => exact ktUnknownPerson4 | 5, _ => exact ktUnknownPerson5 | 6, _ => exact ktUnknownPerson6 | 7, _ => exact ktUnknownPerson7 | 8, _ => exact ktUnknownPerson8 | 9, _ => exact ktUnknownPerson9 | 10, _ => exact ktUnknownPerson10 | 11, _ => exact ktUnknownPerson11 | 12, _ => exact ktUnknownPerson12 | 13, _ => exact ktUnknownPerson13), kvUnknownPerson, kxUnknownPerson, IS_UnknownPerson, ⟨gEUnknownPerson, ggUnknownPerson, eCUnknownPerson, hEUnknownPerson⟩⟩
  have IS_NobodyHome : IsX K C_NobodyHome := ⟨kiNobodyHome, gENobodyHome, ggNobodyHome, eCNobodyHome, cENobodyHome, cgO, tkO, mENobodyHome⟩
  have ER_NobodyHome : ErK K cs C_RotaError C_NobodyHome 6 := ⟨by decide, fun i hi => (by match i, hi with | 0, _ => exact ktNobodyHome0 | 1, _ => exact ktNobodyHome1 | 2, _ => exact ktNobodyHome2 | 3, _ => exact ktNobodyHome3 | 4, _ => exact ktNobodyHome4 | 5, _ => exact ktNobodyHome5 | 6, _ => exact ktNobodyHome6 | 7, _ => exact ktNobodyHome7 | 8, _ => exact ktNobodyHome8 | 9, _ => exact ktNobodyHome9 | 10, _ => exact ktNobodyHome10 | 11, _ => exact ktNobodyHome11 | 12, _ => exact ktNobodyHome12 | 13, _ => exact ktNobodyHome13), kvNobodyHome, kxNobodyHome, IS_NobodyHome, ⟨gENobodyHome, ggNobodyHome, eCNobodyHome, hENobodyHome⟩⟩
  have FBook_batch := fun_mk (st := sBook_batch) lBook_batch cBook_batch kBook_batch
  have D_Book_batch : MethAt K C_Book "batch" "Book.batch" sBook_batch ["self", "operations"] := ⟨⟨fBook_batch, _, ⟨aBook_batch, iBook_batch, kBook_batch⟩, FBook_batch, (FBook_batch.binds fun _ _ _ _ _ _ us hl => match us, hl with | [_, _], _ => rfl)⟩⟩
  have FBook_save := fun_mk (st := sBook_save) lBook_save cBook_save kBook_save
  have D_Book_save : MethAt K C_Book "save" "Book.save" sBook_save ["self", "name"] := ⟨⟨fBook_save, _, ⟨aBook_save, iBook_save, kBook_save⟩, FBook_save, (FBook_save.binds fun _ _ _ _ _ _ us hl => match us, hl with | [_, _], _ => rfl)⟩⟩
  have EP_InvalidName : ExPl K mg "InvalidName" C_InvalidName := ⟨qInvalidName, PySem.W.mg_of X G aCInvalidName, kCInvalidName, eCInvalidName, tCInvalidName⟩
  have FBook_restore := fun_mk (st := sBook_restore) lBook_restore cBook_restore kBook_restore
  have D_Book_restore : MethAt K C_Book "restore" "Book.restore" sBook_restore ["self", "name"] := ⟨⟨fBook_restore, _, ⟨aBook_restore, iBook_restore, kBook_restore⟩, FBook_restore, (FBook_restore.binds fun _ _ _ _ _ _ us hl => match us, hl with | [_, _], _ => rfl)⟩⟩
  have EP_UnknownName : ExPl K mg "UnknownName" C_UnknownName := ⟨qUnknownName, PySem.W.mg_of X G aCUnknownName, kCUnknownName, eCUnknownName, tCUnknownName⟩
  have F_law_error_of := fun_mk (st := s_law_error_of) l_law_error_of c_law_error_of k_law_error_of
  have D__law_error_of : DefAt K mg "_law_error_of" s_law_error_of ["_law_call"] := ⟨⟨f_law_error_of, _, PySem.W.mg_of X G a_law_error_of, F_law_error_of, (F_law_error_of.binds fun _ _ _ _ _ _ us hl => match us, hl with | [_], _ => rfl)⟩⟩
  have F_law_all_raise := fun_mk (st := s_law_all_raise) l_law_all_raise c_law_all_raise k_law_all_raise
  have D__law_all_raise : DefAt K mg "_law_all_raise" s_law_all_raise ["_law_calls", "_law_expected"] := ⟨⟨f_law_all_raise, _, PySem.W.mg_of X G a_law_all_raise, F_law_all_raise, (F_law_all_raise.binds fun _ _ _ _ _ _ us hl => match us, hl with | [_, _], _ => rfl)⟩⟩
  have IS_InvalidName : IsX K C_InvalidName := ⟨kiInvalidName, gEInvalidName, ggInvalidName, eCInvalidName, cEInvalidName, cgO, tkO, mEInvalidName⟩
  have ER_InvalidName : ErK K cs C_RotaError C_InvalidName 7 := ⟨by decide, fun i hi => (by match i, hi with | 0, _ => exact ktInvalidName0 | 1, _ => exact ktInvalidName1 | 2, _ => exact ktInvalidName2 | 3, _ => exact ktInvalidName3 | 4, _ => exact ktInvalidName4 | 5, _ => exact ktInvalidName5 | 6, _ => exact ktInvalidName6 | 7, _ => exact ktInvalidName7 | 8, _ => exact ktInvalidName8 | 9, _ => exact ktInvalidName9 | 10, _ => exact ktInvalidName10 | 11, _ => exact ktInvalidName11 | 12, _ => exact ktInvalidName12 | 13, _ => exact ktInvalidName13), kvInvalidName, kxInvalidName, IS_InvalidName, ⟨gEInvalidName, ggInvalidName, eCInvalidName, hEInvalidName⟩⟩
  have IS_UnknownName : IsX K C_UnknownName := ⟨kiUnknownName, gEUnknownName, ggUnknownName, eCUnknownName, cEUnknownName, cgO, tkO, mEUnknownName⟩
  have ER_UnknownName : ErK K cs C_RotaError C_UnknownName 8 := ⟨by decide, fun i hi => (by match i, hi with | 0, _ => exact ktUnknownName0 | 1, _ => exact ktUnknownName1 | 2, _ => exact ktUnknownName2 | 3, _ => exact ktUnknownName3 | 4, _ => exact ktUnknownName4 | 5, _ => exact ktUnknownName5 | 6, _ => exact ktUnknownName6 | 7, _ => exact ktUnknownName7 | 8, _ => exact ktUnknownName8 | 9, _ => exact ktUnknownName9 | 10, _ => exact ktUnknownName10 | 11, _ => exact ktUnknownName11 | 12, _ => exact ktUnknownName12 | 13, _ => exact ktUnknownName13), kvUnknownName, kxUnknownName, IS_UnknownName, ⟨gEUnknownName, ggUnknownName, eCUnknownName, hEUnknownName⟩⟩
  have F_law := funC_mk (st := slaw) llaw claw
  have T : Bi mg := ⟨PySem.W.mg_none_of X G z_len, PySem.W.mg_none_of X G z_range, PySem.W.mg_none_of X G z_list, PySem.W.mg_none_of X G z_tuple, PySem.W.mg_none_of X G z_int, PySem.W.mg_none_of X G z_str, PySem.W.mg_none_of X G z_abs, PySem.W.mg_none_of X G z_max, PySem.W.mg_none_of X G z_sorted, PySem.W.mg_none_of X G z_set, PySem.W.mg_none_of X G z_any, PySem.W.mg_none_of X G z_all, PySem.W.mg_none_of X G z_enumerate, PySem.W.mg_none_of X G z_isinstance, PySem.W.mg_none_of X G z_bool, PySem.W.mg_none_of X G z_sum, PySem.W.mg_none_of X G z_zip, PySem.W.mg_none_of X G z_min, PySem.W.mg_none_of X G z_dict, PySem.W.mg_none_of X G z_divmod, PySem.W.mg_none_of X G z_ValueError⟩
  refine ⟨PySem.W.fnOf "law" "law" (defArgs slaw) (defBody slaw) (defScope slaw) .none kVlaw dclaw pmlaw anlaw (.ref cT) ctlaw, [(cT, PT)], spLaw PT K, fun p hp => (by rw [List.mem_singleton.mp hp]; exact tT), fun p hp => (by rw [List.mem_singleton.mp hp]; exact nT), fun p hp => (by rw [List.mem_singleton.mp hp]; exact PySem.W.codeHd_of_K X chT), fun s v => .of_eq rfl, fun H a ns hl _ hT hS => ⟨a, ns, rfl, hS, hl, hT _ List.mem_cons_self, fun _ => rfl⟩, fun base _ _ TBs => ?_⟩
  have TB := TBs _ List.mem_cons_self

  have LC : LexC K mg := ⟨c_END_SIGN, c_SIGN, c_DIGITS, c_MAX_DIGITS, c_NUMBER, c_LETTERS, c_KEYWORDS, c_KEYWORD, c_MAX_LETTERS, c_NAME, c_END, c_SPACES⟩
  have TC : TokCls K C_Token := ⟨K_Token, N_Token_kind, N_Token_text, N_Token_line, N_Token_column⟩
  have PC : ParCls K C_Parser := ⟨K_Parser, N_Parser_tokens, N_Parser_at, N_Parser_faults, N_Parser_names, N_Parser_weights, N_Parser_makers, N_Parser_aways⟩
  have BC : BkCls K C_Book := ⟨K_Book, N_Book_parsed, N_Book_now, N_Book_past, N_Book_undone, N_Book_saved⟩
  have c_below := cal_below (P := l.prog) (w := w) (base := base) D__law_below T
  have c_random := cal_random (P := l.prog) (w := w) (base := base) D__law_random T
  have c_mkt := mk_token (P := l.prog) (w := w) (base := base) D_Token TC
  have c_run := cal_run_end (P := l.prog) (w := w) (base := base) D_run_end T
  have c_read := cal_read_token D_read_token T LC c_run c_mkt
  have c_tok := cal_tokenize D_tokenize T LC TC c_read c_mkt
  have c_mkp := mk_parser (P := l.prog) (w := w) (base := base) (CT := C_Token) D_Parser PC
  have c_peek := me_peek (P := l.prog) (w := w) (mg := mg) (base := base) (CT := C_Token) D_Parser_peek PC
  have c_take := me_take D_Parser_take PC TC c_peek
  have c_word := me_take_word D_Parser_take_word PC TC c_peek
  have c_all := me_take_all D_Parser_take_all PC TC LC c_peek c_take c_word
  have c_per := me_person (P := l.prog) (w := w) (mg := mg) (base := base) (CT := C_Token) D_Parser_person PC TC
  have c_peo := me_people D_Parser_parse_people T PC TC LC c_MAX_PEOPLE c_word c_all
  have c_tur := me_turns D_Parser_parse_turns T PC TC LC c_MAX_TURNS c_peek c_word c_all c_per
  have c_wei := me_weights D_Parser_parse_weights T PC TC LC c_MAX_WEIGHT c_peek c_word c_all
  have c_awa := me_away D_Parser_parse_away T PC TC LC c_MAX_AWAYS c_MODULI c_peek c_word c_take c_per
  have c_mak := me_makeup D_Parser_parse_makeup T PC TC LC c_peek c_word c_all c_per
  have c_prs := me_rota D_Parser_parse_rota T PC TC LC c_peek c_peo c_tur c_wei c_awa c_mak
  have c_load := cal_load D_load PC ne_Token__Parser c_tok c_mkp c_prs
  have c_home := cal_home (P := l.prog) (w := w) (base := base) D_is_home T
  have c_homes := cal_homes D_home_people T c_home
  have c_first := cal_first (P := l.prog) (w := w) (base := base) D_first_state T
  have c_chg := cal_changed (P := l.prog) (w := w) (base := base) D_changed T c_MAX_OWED
  have c_aft := cal_after D_after_tick T c_homes c_chg
  have c_rec := me_record (P := l.prog) (w := w) (mg := mg) (base := base) D_Book_record BC
  have c_nmd := me_named (P := l.prog) (w := w) (mg := mg) (base := base) D_Book_named BC
  have c_res := me_reset D_Book_reset BC c_RESET c_first c_rec
  have c_und := me_undo (P := l.prog) (w := w) (mg := mg) (base := base) D_Book_undo BC
  have c_red := me_redo (P := l.prog) (w := w) (mg := mg) (base := base) D_Book_redo BC
  have c_int := cal_intIn (P := l.prog) (w := w) (base := base) D_is_int_in T
  have n_pn := cal_personNN (P := l.prog) (w := w) (base := base) D_person_number T EP_UnknownPerson
  have c_pn := n_pn.toX
  have n_stp := me_stepN D_Book_step T BC c_STEP c_MAX_STEPS EP_InvalidCount c_int c_aft c_rec c_nmd
  have c_stp := n_stp.toX
  have n_gif := me_giftN D_Book_gift T BC c_GIFT EP_NobodyHome n_pn c_homes c_rec
  have c_gif := n_gif.toX
  have n_for := me_forgiveN D_Book_forgive T BC c_FORGIVE n_pn c_rec
  have c_for := n_for.toX
  have c_bk := mk_book D_Book BC c_load c_first
  have p_tic := pr_ticks (P := l.prog) (w := w) (mg := mg) (base := base) D_Book_ticks BC
  have p_ops := pr_operations (P := l.prog) (w := w) (mg := mg) (base := base) D_Book_operations BC
  have p_deb := pr_debts (P := l.prog) (w := w) (mg := mg) (base := base) D_Book_debts T BC
  have n_ex := me_executeN D_Book_execute BC n_stp n_gif n_for c_res c_und c_red
  have c_isop := cal_isOp (P := l.prog) (w := w) (base := base) D_is_operation T c_LENGTHS
  have eX : ∀ e : Str, PySem.W.exmOne K (.ref (errC C_InvalidCount C_UnknownPerson C_NobodyHome e)) (.ref C_RotaError) = some true := fun e => by
    unfold errC
    split
    · exact ER_InvalidCount.ex
    · split
      · exact ER_UnknownPerson.ex
      · exact ER_NobodyHome.ex
  have c_batF := me_batchF D_Book_batch T BC gR eX c_isop n_ex
  have c_sav := me_saveF (P := l.prog) (w := w) (base := base) D_Book_save T BC EP_InvalidName c_LETTERS c_MAX_LETTERS
  have c_rst := me_restoreF (P := l.prog) (w := w) (base := base) D_Book_restore T BC EP_UnknownName
  have kk : K21 l.prog w K mg base C_Book C_InvalidCount C_UnknownPerson C_NobodyHome C_InvalidName C_UnknownName := ⟨T, BC, c_random, c_below, c_bk, c_sav, c_rst, c_gif, c_for, c_stp, c_batF, undo_weak c_und, p_tic, p_deb, p_ops⟩
  exact law_ok (cs := cs) F_law kk gR gc TB D__law_error_of D__law_all_raise ER_InvalidCount ER_UnknownPerson ER_NobodyHome ER_InvalidName ER_UnknownName
end Br

open PySem PySem.W PyProof.Rows in
set_option maxHeartbeats 0 in
theorem PySem.Challenge.cw_breadrota_k21_book_errors_holds : PySem.Challenge.rw_breadrota_k21_book_errors.Holds := by
  w_on; o_law; k_head; (case hw => w_witness2)
  k_fill
  refine LamX.walk_ofTs (l := PySem.Challenge.rw_breadrota_k21_book_errors) (n := 63) (k := 10) (x := "_law_script") (CX := fun _ => L2.CX0) rfl (by decide) rfl ⟨rfl, by decide, by decide⟩ (fun w h Y => PySem.W.km_in_of Y) ?F fun _ _ _ _ _ z => z
  case F =>
    intro w mg fa h Y KX G hmg
    refine' Br.all_mk KX G hmg ?aCRotaError ?rdR ?gaR ?atR ?aCInvalidTick ?aCInvalidCount ?aCUnknownPerson ?aCTooLong ?aCDifferentPeople ?aCContradiction ?aCNobodyHome ?aCInvalidName ?aCUnknownName ?aCSyntaxFault ?aCCheckFault ?aCInvalidCode ?aCInvalidOperation ?aCInvalidSession ?s_END_SIGN ?s_SIGN ?s_DIGITS ?s_MAX_DIGITS ?s_NUMBER ?s_LETTERS ?s_KEYWORDS ?u_KEYWORDS ?s_KEYWORD ?s_MAX_LETTERS ?s_NAME ?s_END ?s_SPACES ?aCToken ?pgToken ?hdToken ?poToken ?saToken ?nToken_kind ?nToken_text ?nToken_line ?nToken_column ?aCParser ?pgParser ?hdParser ?poParser ?saParser ?nParser_tokens ?nParser_at ?nParser_faults ?nParser_names ?nParser_weights ?nParser_makers ?nParser_aways ?aCBook ?pgBook ?hdBook ?poBook ?saBook ?nBook_parsed ?nBook_now ?nBook_past ?nBook_undone ?nBook_saved ?a_law_below ?l_law_below ?c_law_below ?k_law_below ?a_law_random ?l_law_random ?c_law_random ?k_law_random ?mkToken ?kcToken ?aTokenI ?iTokenI ?lTokenI ?cTokenI ?kTokenI ?arun_end ?lrun_end ?crun_end ?krun_end ?aread_token ?lread_token ?cread_token ?kread_token ?atokenize ?ltokenize ?ctokenize ?ktokenize ?mkParser ?kcParser ?aParserI ?iParserI ?lParserI ?cParserI ?kParserI ?aParser_peek ?iParser_peek ?lParser_peek ?cParser_peek ?kParser_peek ?aParser_take ?iParser_take ?lParser_take ?cParser_take ?kParser_take ?aParser_take_word ?iParser_take_word ?lParser_take_word ?cParser_take_word ?kParser_take_word ?aParser_take_all ?iParser_take_all ?lParser_take_all ?cParser_take_all ?kParser_take_all ?aParser_person ?iParser_person ?lParser_person ?cParser_person ?kParser_person ?aParser_parse_people ?iParser_parse_people ?lParser_parse_people ?cParser_parse_people ?kParser_parse_people ?s_MAX_PEOPLE ?aParser_parse_turns ?iParser_parse_turns ?lParser_parse_turns ?cParser_parse_turns ?kParser_parse_turns ?s_MAX_TURNS ?aParser_parse_weights ?iParser_parse_weights ?lParser_parse_weights ?cParser_parse_weights ?kParser_parse_weights ?s_MAX_WEIGHT ?aParser_parse_away ?iParser_parse_away ?lParser_parse_away ?cParser_parse_away ?kParser_parse_away ?s_MAX_AWAYS ?s_MODULI ?u_MODULI ?aParser_parse_makeup ?iParser_parse_makeup ?lParser_parse_makeup ?cParser_parse_makeup ?kParser_parse_makeup ?aParser_parse_rota ?iParser_parse_rota ?lParser_parse_rota ?cParser_parse_rota ?kParser_parse_rota ?aload ?lload ?cload ?kload ?ais_home ?lis_home ?cis_home ?kis_home ?ahome_people ?lhome_people ?chome_people ?khome_people ?afirst_state ?lfirst_state ?cfirst_state ?kfirst_state ?achanged ?lchanged ?cchanged ?kchanged ?s_MAX_OWED ?aafter_tick ?lafter_tick ?cafter_tick ?kafter_tick ?aBook_record ?iBook_record ?lBook_record ?cBook_record ?kBook_record ?aBook_named ?iBook_named ?lBook_named ?cBook_named ?kBook_named ?aBook_reset ?iBook_reset ?lBook_reset ?cBook_reset ?kBook_reset ?s_RESET ?aBook_undo ?iBook_undo ?lBook_undo ?cBook_undo ?kBook_undo ?aBook_redo ?iBook_redo ?lBook_redo ?cBook_redo ?kBook_redo ?ais_int_in ?lis_int_in ?cis_int_in ?kis_int_in ?aperson_number ?lperson_number ?cperson_number ?kperson_number ?qUnknownPerson ?eCUnknownPerson ?tCUnknownPerson ?kCUnknownPerson ?aBook_step ?iBook_step ?lBook_step ?cBook_step ?kBook_step ?s_STEP ?s_MAX_STEPS ?qInvalidCount ?eCInvalidCount ?tCInvalidCount ?kCInvalidCount ?aBook_gift ?iBook_gift ?lBook_gift ?cBook_gift ?kBook_gift ?s_GIFT ?qNobodyHome ?eCNobodyHome ?tCNobodyHome ?kCNobodyHome ?aBook_forgive ?iBook_forgive ?lBook_forgive ?cBook_forgive ?kBook_forgive ?s_FORGIVE ?mkBook ?kcBook ?aBookI ?iBookI ?lBookI ?cBookI ?kBookI ?aBook_ticks ?gBook_ticks ?tBook_ticks ?r_Book_ticks ?lBook_ticks ?cBook_ticks ?kBook_ticks ?aBook_operations ?gBook_operations ?tBook_operations ?r_Book_operations ?lBook_operations ?cBook_operations ?kBook_operations ?aBook_debts ?gBook_debts ?tBook_debts ?r_Book_debts ?lBook_debts ?cBook_debts ?kBook_debts ?aBook_execute ?iBook_execute ?lBook_execute ?cBook_execute ?kBook_execute ?ais_operation ?lis_operation ?cis_operation ?kis_operation ?s_LENGTHS ?u_LENGTHS ?kl_LENGTHS ?sm_LENGTHS ?v_LENGTHS0 ?v_LENGTHS1 ?v_LENGTHS2 ?v_LENGTHS3 ?v_LENGTHS4 ?v_LENGTHS5 ?ktInvalidCount0 ?ktInvalidCount1 ?ktInvalidCount2 ?ktInvalidCount3 ?ktInvalidCount4 ?ktInvalidCount5 ?ktInvalidCount6 ?ktInvalidCount7 ?ktInvalidCount8 ?ktInvalidCount9 ?ktInvalidCount10 ?ktInvalidCount11 ?ktInvalidCount12 ?ktInvalidCount13 ?kvInvalidCount ?kxInvalidCount ?kiInvalidCount ?gEInvalidCount ?ggInvalidCount ?cEInvalidCount ?mEInvalidCount ?hEInvalidCount ?cgO ?tkO ?ktUnknownPerson0 ?ktUnknownPerson1 ?ktUnknownPerson2 ?ktUnknownPerson3 ?ktUnknownPerson4 ?ktUnknownPerson5 ?ktUnknownPerson6 ?ktUnknownPerson7 ?ktUnknownPerson8 ?ktUnknownPerson9 ?ktUnknownPerson10 ?ktUnknownPerson11 ?ktUnknownPerson12 ?ktUnknownPerson13 ?kvUnknownPerson ?kxUnknownPerson ?kiUnknownPerson ?gEUnknownPerson ?ggUnknownPerson ?cEUnknownPerson ?mEUnknownPerson ?hEUnknownPerson ?ktNobodyHome0 ?ktNobodyHome1 ?ktNobodyHome2 ?ktNobodyHome3 ?ktNobodyHome4 ?ktNobodyHome5 ?ktNobodyHome6 ?ktNobodyHome7 ?ktNobodyHome8 ?ktNobodyHome9 ?ktNobodyHome10 ?ktNobodyHome11 ?ktNobodyHome12 ?ktNobodyHome13 ?kvNobodyHome ?kxNobodyHome ?kiNobodyHome ?gENobodyHome ?ggNobodyHome ?cENobodyHome ?mENobodyHome ?hENobodyHome ?aBook_batch ?iBook_batch ?lBook_batch ?cBook_batch ?kBook_batch ?aBook_save ?iBook_save ?lBook_save ?cBook_save ?kBook_save ?qInvalidName ?eCInvalidName ?tCInvalidName ?kCInvalidName ?aBook_restore ?iBook_restore ?lBook_restore ?cBook_restore ?kBook_restore ?qUnknownName ?eCUnknownName ?tCUnknownName ?kCUnknownName ?a_law_error_of ?l_law_error_of ?c_law_error_of ?k_law_error_of ?a_law_all_raise ?l_law_all_raise ?c_law_all_raise ?k_law_all_raise ?ktInvalidName0 ?ktInvalidName1 ?ktInvalidName2 ?ktInvalidName3 ?ktInvalidName4 ?ktInvalidName5 ?ktInvalidName6 ?ktInvalidName7 ?ktInvalidName8 ?ktInvalidName9 ?ktInvalidName10 ?ktInvalidName11 ?ktInvalidName12 ?ktInvalidName13 ?kvInvalidName ?kxInvalidName ?kiInvalidName ?gEInvalidName ?ggInvalidName ?cEInvalidName ?mEInvalidName ?hEInvalidName ?ktUnknownName0 ?ktUnknownName1 ?ktUnknownName2 ?ktUnknownName3 ?ktUnknownName4 ?ktUnknownName5 ?ktUnknownName6 ?ktUnknownName7 ?ktUnknownName8 ?ktUnknownName9 ?ktUnknownName10 ?ktUnknownName11 ?ktUnknownName12 ?ktUnknownName13 ?kvUnknownName ?kxUnknownName ?kiUnknownName ?gEUnknownName ?ggUnknownName ?cEUnknownName ?mEUnknownName ?hEUnknownName ?z_len ?z_range ?z_list ?z_tuple ?z_int ?z_str ?z_abs ?z_max ?z_sorted ?z_set ?z_any ?z_all ?z_enumerate ?z_isinstance ?z_bool ?z_sum ?z_zip ?z_min ?z_dict ?z_divmod ?z_ValueError ?ne_Token__Parser ?alaw ?llaw ?claw ?klaw ?vT ?pT ?chT ?nT ?tT
    (case aCRotaError => k_is)
    (case rdR => k_is)
    (case gaR => k_is)
    (case atR => k_is)
    (case aCInvalidTick => k_is)
    (case aCInvalidCount => k_is)
    (case aCUnknownPerson => k_is)
    (case aCTooLong => k_is)
    (case aCDifferentPeople => k_is)
    (case aCContradiction => k_is)
    (case aCNobodyHome => k_is)
    (case aCInvalidName => k_is)
    (case aCUnknownName => k_is)
    (case aCSyntaxFault => k_is)
    (case aCCheckFault => k_is)
    (case aCInvalidCode => k_is)
    (case aCInvalidOperation => k_is)
    (case aCInvalidSession => k_is)
    (case s_END_SIGN => k_is)
    (case s_SIGN => k_is)
    (case s_DIGITS => k_is)
    (case s_MAX_DIGITS => k_is)
    (case s_NUMBER => k_is)
    (case s_LETTERS => k_is)
    (case s_KEYWORDS => k_is)
    (case u_KEYWORDS => k_is)
    (case s_KEYWORD => k_is)
    (case s_MAX_LETTERS => k_is)
    (case s_NAME => k_is)
    (case s_END => k_is)
    (case s_SPACES => k_is)
    (case aCToken => k_is)
    (case pgToken => k_is)
    (case hdToken => k_is)
    (case poToken => k_is)
    (case saToken => k_is)
    (case nToken_kind => k_is)
    (case nToken_text => k_is)
    (case nToken_line => k_is)
    (case nToken_column => k_is)
    (case aCParser => k_is)
    (case pgParser => k_is)
    (case hdParser => k_is)
    (case poParser => k_is)
    (case saParser => k_is)
    (case nParser_tokens => k_is)
    (case nParser_at => k_is)
    (case nParser_faults => k_is)
    (case nParser_names => k_is)
    (case nParser_weights => k_is)
    (case nParser_makers => k_is)
    (case nParser_aways => k_is)
    (case aCBook => k_is)
    (case pgBook => k_is)
    (case hdBook => k_is)
    (case poBook => k_is)
    (case saBook => k_is)
    (case nBook_parsed => k_is)
    (case nBook_now => k_is)
    (case nBook_past => k_is)
    (case nBook_undone => k_is)
    (case nBook_saved => k_is)
    (case a_law_below => k_is)
    (case l_law_below => k_is)
    (case c_law_below => k_is)
    (case k_law_below => k_is)
    (case a_law_random => k_is)
    (case l_law_random => k_is)
    (case c_law_random => k_is)
    (case k_law_random => k_is)
    (case mkToken => k_is)
    (case kcToken => k_is)
    (case aTokenI => k_is)
    (case iTokenI => k_is)
    (case lTokenI => k_is)
    (case cTokenI => k_is)
    (case kTokenI => k_is)
    (case arun_end => k_is)
    (case lrun_end => k_is)
    (case crun_end => k_is)
    (case krun_end => k_is)
    (case aread_token => k_is)
    (case lread_token => k_is)
    (case cread_token => k_is)
    (case kread_token => k_is)
    (case atokenize => k_is)
    (case ltokenize => k_is)
    (case ctokenize => k_is)
    (case ktokenize => k_is)
    (case mkParser => k_is)
    (case kcParser => k_is)
    (case aParserI => k_is)
    (case iParserI => k_is)
    (case lParserI => k_is)
    (case cParserI => k_is)
    (case kParserI => k_is)
    (case aParser_peek => k_is)
    (case iParser_peek => k_is)
    (case lParser_peek => k_is)
    (case cParser_peek => k_is)
    (case kParser_peek => k_is)
    (case aParser_take => k_is)
    (case iParser_take => k_is)
    (case lParser_take => k_is)
    (case cParser_take => k_is)
    (case kParser_take => k_is)
    (case aParser_take_word => k_is)
    (case iParser_take_word => k_is)
    (case lParser_take_word => k_is)
    (case cParser_take_word => k_is)
    (case kParser_take_word => k_is)
    (case aParser_take_all => k_is)
    (case iParser_take_all => k_is)
    (case lParser_take_all => k_is)
    (case cParser_take_all => k_is)
    (case kParser_take_all => k_is)
    (case aParser_person => k_is)
    (case iParser_person => k_is)
    (case lParser_person => k_is)
    (case cParser_person => k_is)
    (case kParser_person => k_is)
    (case aParser_parse_people => k_is)
    (case iParser_parse_people => k_is)
    (case lParser_parse_people => k_is)
    (case cParser_parse_people => k_is)
    (case kParser_parse_people => k_is)
    (case s_MAX_PEOPLE => k_is)
    (case aParser_parse_turns => k_is)
    (case iParser_parse_turns => k_is)
    (case lParser_parse_turns => k_is)
    (case cParser_parse_turns => k_is)
    (case kParser_parse_turns => k_is)
    (case s_MAX_TURNS => k_is)
    (case aParser_parse_weights => k_is)
    (case iParser_parse_weights => k_is)
    (case lParser_parse_weights => k_is)
    (case cParser_parse_weights => k_is)
    (case kParser_parse_weights => k_is)
    (case s_MAX_WEIGHT => k_is)
    (case aParser_parse_away => k_is)
    (case iParser_parse_away => k_is)
    (case lParser_parse_away => k_is)
    (case cParser_parse_away => k_is)
    (case kParser_parse_away => k_is)
    (case s_MAX_AWAYS => k_is)
    (case s_MODULI => k_is)
    (case u_MODULI => k_is)
    (case aParser_parse_makeup => k_is)
    (case iParser_parse_makeup => k_is)
    (case lParser_parse_makeup => k_is)
    (case cParser_parse_makeup => k_is)
    (case kParser_parse_makeup => k_is)
    (case aParser_parse_rota => k_is)
    (case iParser_parse_rota => k_is)
    (case lParser_parse_rota => k_is)
    (case cParser_parse_rota => k_is)
    (case kParser_parse_rota => k_is)
    (case aload => k_is)
    (case lload => k_is)
    (case cload => k_is)
    (case kload => k_is)
    (case ais_home => k_is)
    (case lis_home => k_is)
    (case cis_home => k_is)
    (case kis_home => k_is)
    (case ahome_people => k_is)
    (case lhome_people => k_is)
    (case chome_people => k_is)
    (case khome_people => k_is)
    (case afirst_state => k_is)
    (case lfirst_state => k_is)
    (case cfirst_state => k_is)
    (case kfirst_state => k_is)
    (case achanged => k_is)
    (case lchanged => k_is)
    (case cchanged => k_is)
    (case kchanged => k_is)
    (case s_MAX_OWED => k_is)
    (case aafter_tick => k_is)
    (case lafter_tick => k_is)
    (case cafter_tick => k_is)
    (case kafter_tick => k_is)
    (case aBook_record => k_is)
    (case iBook_record => k_is)
    (case lBook_record => k_is)
    (case cBook_record => k_is)
    (case kBook_record => k_is)
    (case aBook_named => k_is)
    (case iBook_named => k_is)
    (case lBook_named => k_is)
    (case cBook_named => k_is)
    (case kBook_named => k_is)
    (case aBook_reset => k_is)
    (case iBook_reset => k_is)
    (case lBook_reset => k_is)
    (case cBook_reset => k_is)
    (case kBook_reset => k_is)
    (case s_RESET => k_is)
    (case aBook_undo => k_is)
    (case iBook_undo => k_is)
    (case lBook_undo => k_is)
    (case cBook_undo => k_is)
    (case kBook_undo => k_is)
    (case aBook_redo => k_is)
    (case iBook_redo => k_is)
    (case lBook_redo => k_is)
    (case cBook_redo => k_is)
    (case kBook_redo => k_is)
    (case ais_int_in => k_is)
    (case lis_int_in => k_is)
    (case cis_int_in => k_is)
    (case kis_int_in => k_is)
    (case aperson_number => k_is)
    (case lperson_number => k_is)
    (case cperson_number => k_is)
    (case kperson_number => k_is)
    (case qUnknownPerson => k_exc)
    (case eCUnknownPerson => k_is)
    (case tCUnknownPerson => k_is)
    (case kCUnknownPerson => k_is)
    (case aBook_step => k_is)
    (case iBook_step => k_is)
    (case lBook_step => k_is)
    (case cBook_step => k_is)
    (case kBook_step => k_is)
    (case s_STEP => k_is)
    (case s_MAX_STEPS => k_is)
    (case qInvalidCount => k_exc)
    (case eCInvalidCount => k_is)
    (case tCInvalidCount => k_is)
    (case kCInvalidCount => k_is)
    (case aBook_gift => k_is)
    (case iBook_gift => k_is)
    (case lBook_gift => k_is)
    (case cBook_gift => k_is)
    (case kBook_gift => k_is)
    (case s_GIFT => k_is)
    (case qNobodyHome => k_exc)
    (case eCNobodyHome => k_is)
    (case tCNobodyHome => k_is)
    (case kCNobodyHome => k_is)
    (case aBook_forgive => k_is)
    (case iBook_forgive => k_is)
    (case lBook_forgive => k_is)
    (case cBook_forgive => k_is)
    (case kBook_forgive => k_is)
    (case s_FORGIVE => k_is)
    (case mkBook => k_is)
    (case kcBook => k_is)
    (case aBookI => k_is)
    (case iBookI => k_is)
    (case lBookI => k_is)
    (case cBookI => k_is)
    (case kBookI => k_is)
    (case aBook_ticks => k_is)
    (case gBook_ticks => k_is)
    (case tBook_ticks => k_is)
    (case r_Book_ticks => k_is)
    (case lBook_ticks => k_is)
    (case cBook_ticks => k_is)
    (case kBook_ticks => k_is)
    (case aBook_operations => k_is)
    (case gBook_operations => k_is)
    (case tBook_operations => k_is)
    (case r_Book_operations => k_is)
    (case lBook_operations => k_is)
    (case cBook_operations => k_is)
    (case kBook_operations => k_is)
    (case aBook_debts => k_is)
    (case gBook_debts => k_is)
    (case tBook_debts => k_is)
    (case r_Book_debts => k_is)
    (case lBook_debts => k_is)
    (case cBook_debts => k_is)
    (case kBook_debts => k_is)
    (case aBook_execute => k_is)
    (case iBook_execute => k_is)
    (case lBook_execute => k_is)
    (case cBook_execute => k_is)
    (case kBook_execute => k_is)
    (case ais_operation => k_is)
    (case lis_operation => k_is)
    (case cis_operation => k_is)
    (case kis_operation => k_is)
    (case s_LENGTHS => k_is)
    (case u_LENGTHS => k_is)
    (case kl_LENGTHS => repeat (first | exact trivial | refine ⟨⟨_, _, rfl, rfl⟩, ?_⟩))
    (case sm_LENGTHS => first | rfl | decide)
    (case v_LENGTHS0 => k_is)
    (case v_LENGTHS1 => k_is)
    (case v_LENGTHS2 => k_is)
    (case v_LENGTHS3 => k_is)
    (case v_LENGTHS4 => k_is)
    (case v_LENGTHS5 => k_is)
    (case ktInvalidCount0 => kernel_rfl)
    (case ktInvalidCount1 => kernel_rfl)
    (case ktInvalidCount2 => kernel_rfl)
    (case ktInvalidCount3 => kernel_rfl)
    (case ktInvalidCount4 => kernel_rfl)
    (case ktInvalidCount5 => kernel_rfl)
    (case ktInvalidCount6 => kernel_rfl)
    (case ktInvalidCount7 => kernel_rfl)
    (case ktInvalidCount8 => kernel_rfl)
    (case ktInvalidCount9 => kernel_rfl)
    (case ktInvalidCount10 => kernel_rfl)
    (case ktInvalidCount11 => kernel_rfl)
    (case ktInvalidCount12 => kernel_rfl)
    (case ktInvalidCount13 => kernel_rfl)
    (case kvInvalidCount => kernel_rfl)
    (case kxInvalidCount => kernel_rfl)
    (case kiInvalidCount => k_is)
    (case gEInvalidCount => k_is)
    (case ggInvalidCount => k_is)
    (case cEInvalidCount => k_is)
    (case mEInvalidCount => k_is)
    (case hEInvalidCount => k_is)
    (case cgO => k_is)
    (case tkO => k_is)
    (case ktUnknownPerson0 => kernel_rfl)
    (case ktUnknownPerson1 => kernel_rfl)
    (case ktUnknownPerson2 => kernel_rfl)
    (case ktUnknownPerson3 => kernel_rfl)
    (case ktUnknownPerson4 => kernel_rfl)
    (case ktUnknownPerson5 => kernel_rfl)
    (case ktUnknownPerson6 => kernel_rfl)
    (case ktUnknownPerson7 => kernel_rfl)
    (case ktUnknownPerson8 => kernel_rfl)
    (case ktUnknownPerson9 => kernel_rfl)
    (case ktUnknownPerson10 => kernel_rfl)
    (case ktUnknownPerson11 => kernel_rfl)
    (case ktUnknownPerson12 => kernel_rfl)
    (case ktUnknownPerson13 => kernel_rfl)
    (case kvUnknownPerson => kernel_rfl)
    (case kxUnknownPerson => kernel_rfl)
    (case kiUnknownPerson => k_is)
    (case gEUnknownPerson => k_is)
    (case ggUnknownPerson => k_is)
    (case cEUnknownPerson => k_is)
    (case mEUnknownPerson => k_is)
    (case hEUnknownPerson => k_is)
    (case ktNobodyHome0 => kernel_rfl)
    (case ktNobodyHome1 => kernel_rfl)
    (case ktNobodyHome2 => kernel_rfl)
    (case ktNobodyHome3 => kernel_rfl)
    (case ktNobodyHome4 => kernel_rfl)
    (case ktNobodyHome5 => kernel_rfl)
    (case ktNobodyHome6 => kernel_rfl)
    (case ktNobodyHome7 => kernel_rfl)
    (case ktNobodyHome8 => kernel_rfl)
    (case ktNobodyHome9 => kernel_rfl)
    (case ktNobodyHome10 => kernel_rfl)
    (case ktNobodyHome11 => kernel_rfl)
    (case ktNobodyHome12 => kernel_rfl)
    (case ktNobodyHome13 => kernel_rfl)
    (case kvNobodyHome => kernel_rfl)
    (case kxNobodyHome => kernel_rfl)
    (case kiNobodyHome => k_is)
    (case gENobodyHome => k_is)
    (case ggNobodyHome => k_is)
    (case cENobodyHome => k_is)
    (case mENobodyHome => k_is)
    (case hENobodyHome => k_is)
    (case aBook_batch => k_is)
    (case iBook_batch => k_is)
    (case lBook_batch => k_is)
    (case cBook_batch => k_is)
    (case kBook_batch => k_is)
    (case aBook_save => k_is)
    (case iBook_save => k_is)
    (case lBook_save => k_is)
    (case cBook_save => k_is)
    (case kBook_save => k_is)
    (case qInvalidName => k_exc)
    (case eCInvalidName => k_is)
    (case tCInvalidName => k_is)
    (case kCInvalidName => k_is)
    (case aBook_restore => k_is)
    (case iBook_restore => k_is)
    (case lBook_restore => k_is)
    (case cBook_restore => k_is)
    (case kBook_restore => k_is)
    (case qUnknownName => k_exc)
    (case eCUnknownName => k_is)
    (case tCUnknownName => k_is)
    (case kCUnknownName => k_is)
    (case a_law_error_of => k_is)
    (case l_law_error_of => k_is)
    (case c_law_error_of => k_is)
    (case k_law_error_of => k_is)
    (case a_law_all_raise => k_is)
    (case l_law_all_raise => k_is)
    (case c_law_all_raise => k_is)
    (case k_law_all_raise => k_is)
    (case ktInvalidName0 => kernel_rfl)
    (case ktInvalidName1 => kernel_rfl)
    (case ktInvalidName2 => kernel_rfl)
    (case ktInvalidName3 => kernel_rfl)
    (case ktInvalidName4 => kernel_rfl)
    (case ktInvalidName5 => kernel_rfl)
    (case ktInvalidName6 => kernel_rfl)
    (case ktInvalidName7 => kernel_rfl)
    (case ktInvalidName8 => kernel_rfl)
    (case ktInvalidName9 => kernel_rfl)
    (case ktInvalidName10 => kernel_rfl)
    (case ktInvalidName11 => kernel_rfl)
    (case ktInvalidName12 => kernel_rfl)
    (case ktInvalidName13 => kernel_rfl)
    (case kvInvalidName => kernel_rfl)
    (case kxInvalidName => kernel_rfl)
    (case kiInvalidName => k_is)
    (case gEInvalidName => k_is)
    (case ggInvalidName => k_is)
    (case cEInvalidName => k_is)
    (case mEInvalidName => k_is)
    (case hEInvalidName => k_is)
    (case ktUnknownName0 => kernel_rfl)
    (case ktUnknownName1 => kernel_rfl)
    (case ktUnknownName2 => kernel_rfl)
    (case ktUnknownName3 => kernel_rfl)
    (case ktUnknownName4 => kernel_rfl)
    (case ktUnknownName5 => kernel_rfl)
    (case ktUnknownName6 => kernel_rfl)
    (case ktUnknownName7 => kernel_rfl)
    (case ktUnknownName8 => kernel_rfl)
    (case ktUnknownName9 => kernel_rfl)
    (case ktUnknownName10 => kernel_rfl)
    (case ktUnknownName11 => kernel_rfl)
    (case ktUnknownName12 => kernel_rfl)
    (case ktUnknownName13 => kernel_rfl)
    (case kvUnknownName => kernel_rfl)
    (case kxUnknownName => kernel_rfl)
    (case kiUnknownName => k_is)
    (case gEUnknownName => k_is)
    (case ggUnknownName => k_is)
    (case cEUnknownName => k_is)
    (case mEUnknownName => k_is)
    (case hEUnknownName => k_is)
    (case z_len => k_is)
    (case z_range => k_is)
    (case z_list => k_is)
    (case z_tuple => k_is)
    (case z_int => k_is)
    (case z_str => k_is)
    (case z_abs => k_is)
    (case z_max => k_is)
    (case z_sorted => k_is)
    (case z_set => k_is)
    (case z_any => k_is)
    (case z_all => k_is)
    (case z_enumerate => k_is)
    (case z_isinstance => k_is)
    (case z_bool => k_is)
    (case z_sum => k_is)
    (case z_zip => k_is)
    (case z_min => k_is)
    (case z_dict => k_is)
    (case z_divmod => k_is)
    (case z_ValueError => k_is)
    (case ne_Token__Parser => decide)
    (case alaw => k_is)
    (case llaw => k_is)
    (case claw => k_is)
    (case klaw => k_is)
    (case vT => k_is)
    (case pT => exact rfl)
    (case chT => kernel_rfl)
    (case nT => kernel_rfl)
    (case tT => exact PySem.W.km_tabs_of Y _ (by k_mem))
