import PyProof.Rows.All
import Wide.All
import OpenK.AllK
import Wide.FinOn
import HandS.Base
import HandS.Call
import HandS.List
import HandS.Comp
import HandS.Ends
import HandS.Dict
import HandS.Iter
import HandS.Text
import HandS.Words
import HandS.WordsList
import HandS.Codes
import HandS.TupMul
import HandS.TupAny
import HandS.TupSets
import HandS.SetFor
import HandS.Strs
import HandS.Deep
import HandS.Conv
import KE.DatumOrd
import PyProof.StrOps2
import HandS.Walk
import HandS.IsInst
import HandS.ReplaceLit
import PySem.Challenge.RW_breadrota_k03_canonical_rotas
set_option Elab.async false
set_option linter.all false
set_option maxRecDepth 100000
set_option maxHeartbeats 3900000
local macro_rules | `(tactic| walk_at "sub") => `(tactic| repeat (first | exact List.Sublist.refl _ | exact List.nil_sublist _ | refine List.Sublist.cons₂ _ ?_ | refine List.Sublist.cons _ ?_))
/-! The common kit: what a call leaves of the heap (Wd), a callee's contract (Cal). -/
namespace Br
open PySem PySem.Spec PyProof.Rows L2

/-- from H0 to H: all outside M is kept, tuples are kept, the domain grows; l is known now: new objects and those of M -/
structure Wd (M : List Addr) (H0 H : Hp) (l : List (Addr × HO)) : Prop where
  base : ∀ b o, b ∉ M → H0 b = some o → H b = some o
  tups : ∀ b xs, H0 b = some (.tup xs) → H b = some (.tup xs)
  own : ∀ q ∈ l, H0 q.1 = none ∨ q.1 ∈ M
  at_ : ∀ q ∈ l, H q.1 = some q.2
  nd : (l.map Prod.fst).Nodup
  free : ∀ p, H p = none → H0 p = none

theorem Wd.refl (H : Hp) : Wd [] H H [] := ⟨fun _ _ _ h => h, fun _ _ h => h, fun _ h => (nomatch h), fun _ h => (nomatch h), List.nodup_nil, fun _ h => h⟩
theorem Wd.start1 {H : Hp} {d : Addr} {o : HO} (h : H d = some o) : Wd [d] H H [(d, o)] :=
  ⟨fun _ _ _ h => h, fun _ _ h => h, fun q hq => by rw [List.mem_singleton.mp hq]; exact .inr List.mem_cons_self, fun q hq => by rw [List.mem_singleton.mp hq]; exact h, by simp, fun _ h => h⟩
theorem Wd.mono {M M' : List Addr} {H0 H : Hp} {l : List (Addr × HO)} (w : Wd M H0 H l) (h : ∀ a ∈ M, a ∈ M') : Wd M' H0 H l :=
  ⟨fun b o hb e => w.base b o (fun z => hb (h b z)) e, w.tups, fun q hq => (w.own q hq).imp id (h _), w.at_, w.nd, w.free⟩
theorem Wd.get {M : List Addr} {H0 H : Hp} {l : List (Addr × HO)} (w : Wd M H0 H l) (i : Nat) {a : Addr} {o : HO} (h : l[i]? = some (a, o)) : H a = some o :=
  w.at_ (a, o) (List.mem_of_getElem? h)
theorem Wd.old {M : List Addr} {H0 H : Hp} {l : List (Addr × HO)} (w : Wd M H0 H l) {a : Addr} {o : HO} (h : H0 a = some o) (hm : a ∉ M) : H a = some o := w.base a o hm h
/-- a new object -/
theorem Wd.new {M : List Addr} {H0 H : Hp} {l : List (Addr × HO)} (w : Wd M H0 H l) {p : Addr} (o : HO) (hp : H p = none) : Wd M H0 (upd H p o) ((p, o) :: l) where
  base := fun b u hb e => by rw [upd_ne (ne_of_none (w.base b u hb e) hp)]; exact w.base b u hb e
  tups := fun b u e => by rw [upd_ne (ne_of_none (w.tups b u e) hp)]; exact w.tups b u e
  own := fun q hq => by
    rcases List.mem_cons.mp hq with rfl | hq
    · exact .inl (w.free _ hp)
    · exact w.own q hq
  at_ := fun q hq => by
    rcases List.mem_cons.mp hq with rfl | hq
    · exact upd_same
    · rw [upd_ne (ne_of_none (w.at_ q hq) hp)]; exact w.at_ q hq
  nd := by
    rw [List.map_cons, List.nodup_cons]
    refine ⟨fun hm => ?_, w.nd⟩
    obtain ⟨q, hq, e⟩ := List.mem_map.mp hm
    have := w.at_ q hq
    rw [e, hp] at this; cases this
  free := fun b e => w.free b (by
    by_cases hb : b = p
    · rw [hb]; exact hp
    · rw [upd_ne hb] at e; exact e)
theorem mem_set {α : Type} {l : List α} {i : Nat} {x y : α} (h : y ∈ l.set i x) : y = x ∨ y ∈ l := (List.mem_or_eq_of_mem_set h).symm
/-- an object of the ledger is changed -/
theorem Wd.put {M : List Addr} {H0 H : Hp} {l : List (Addr × HO)} (w : Wd M H0 H l) (i : Nat) {a : Addr} {o : HO} (o' : HO) (h : l[i]? = some (a, o)) (hn : ∀ xs, o ≠ .tup xs) : Wd M H0 (upd H a o') (l.set i (a, o')) where
  base := fun b u hb e => by
    have ha := List.mem_of_getElem? h
    have : b ≠ a := fun z => by
      subst z
      rcases w.own _ ha with q | q
      · rw [show H0 b = none from q] at e; cases e
      · exact hb q
    rw [upd_ne this]; exact w.base b u hb e
  tups := fun b u e => by
    have ha := w.at_ _ (List.mem_of_getElem? h)
    have : b ≠ a := fun z => by
      subst z
      have e2 := w.tups b u e
      rw [show H b = some o from ha] at e2
      exact hn u (Option.some.inj e2)
    rw [upd_ne this]; exact w.tups b u e
  own := fun q hq => by
    rcases mem_set hq with rfl | hq
    · exact w.own (a, o) (List.mem_of_getElem? h)
    · exact w.own q hq
  at_ := fun q hq => by
    obtain ⟨j, hj⟩ := List.mem_iff_getElem?.mp hq
    by_cases e : i = j
    · subst e
      have hi : i < l.length := (List.getElem?_eq_some_iff.mp h).1
      rw [List.getElem?_set_self hi] at hj
      cases hj
      exact upd_same
    · rw [List.getElem?_set_ne e] at hj
      have hq' := w.at_ q (List.mem_of_getElem? hj)
      have : q.1 ≠ a := fun z => by
        have h1 : (l.map Prod.fst)[i]? = some a := by rw [List.getElem?_map, h]; rfl
        have h2 : (l.map Prod.fst)[j]? = some a := by rw [List.getElem?_map, hj, ← z]; rfl
        exact e (nd_ix w.nd h1 h2)
      rw [upd_ne this]; exact hq'
  nd := by
    have e : (l.set i (a, o')).map Prod.fst = l.map Prod.fst := by
      rw [List.map_set]
      refine List.ext_getElem? fun j => ?_
      by_cases e : i = j
      · subst e
        have hi : i < l.length := (List.getElem?_eq_some_iff.mp h).1
        rw [List.getElem?_set_self (by rw [List.length_map]; exact hi), List.getElem?_map, h]; rfl
      · rw [List.getElem?_set_ne e]
    rw [e]; exact w.nd
  free := fun b e => w.free b (by
    by_cases hb : b = a
    · subst hb; rw [upd_same] at e; cases e
    · rw [upd_ne hb] at e; exact e)
/-- a callee that changed nothing old -/
theorem Wd.call0 {M : List Addr} {H0 H H' : Hp} {l l' : List (Addr × HO)} (w : Wd M H0 H l) (c : Wd [] H H' l') : Wd M H0 H' (l' ++ l) where
  base := fun b u hb e => c.base b u (by simp) (w.base b u hb e)
  tups := fun b u e => c.tups b u (w.tups b u e)
  own := fun q hq => by
    rcases List.mem_append.mp hq with hq | hq
    · rcases c.own q hq with z | z
      · exact .inl (w.free _ z)
      · cases z
    · exact w.own q hq
  at_ := fun q hq => by
    rcases List.mem_append.mp hq with hq | hq
    · exact c.at_ q hq
    · exact c.base _ _ (by simp) (w.at_ q hq)
  nd := by
    rw [List.map_append, List.nodup_append]
    refine ⟨c.nd, w.nd, fun a ha b hb e => ?_⟩
    obtain ⟨q, hq, e1⟩ := List.mem_map.mp ha
    obtain ⟨r, hr, e2⟩ := List.mem_map.mp hb
    have h1 := w.at_ r hr
    rcases c.own q hq with z | z
    · rw [e1, e, ← e2, h1] at z; cases z
    · cases z
  free := fun b e => w.free b (c.free b e)
/-- a callee that changed the ledger's first object alone -/
theorem Wd.call1 {M : List Addr} {H0 H H' : Hp} {l l' : List (Addr × HO)} {d : Addr} {o o' : HO} (w : Wd M H0 H ((d, o) :: l)) (ho : ∀ xs, o ≠ .tup xs) (c : Wd [d] H H' ((d, o') :: l')) : Wd M H0 H' ((d, o') :: (l' ++ l)) where
  base := fun b u hb e => by
    have hd : b ≠ d := fun z => by
      subst z
      rcases w.own _ List.mem_cons_self with q | q
      · rw [show H0 b = none from q] at e; cases e
      · exact hb q
    exact c.base b u (by simpa using hd) (w.base b u hb e)
  tups := fun b u e => c.tups b u (w.tups b u e)
  own := fun q hq => by
    rcases List.mem_cons.mp hq with rfl | hq
    · exact w.own (d, o) List.mem_cons_self
    · rcases List.mem_append.mp hq with hq | hq
      · rcases c.own q (List.mem_cons_of_mem _ hq) with z | z
        · exact .inl (w.free _ z)
        · have hn := c.nd
          rw [List.map_cons, List.nodup_cons] at hn
          have : q.1 = d := by simpa using z
          exact absurd (List.mem_map.mpr ⟨q, hq, this⟩) hn.1
      · exact w.own q (List.mem_cons_of_mem _ hq)
  at_ := fun q hq => by
    rcases List.mem_cons.mp hq with rfl | hq
    · exact c.at_ _ List.mem_cons_self
    · rcases List.mem_append.mp hq with hq | hq
      · exact c.at_ q (List.mem_cons_of_mem _ hq)
      · have hn := w.nd
        rw [List.map_cons, List.nodup_cons] at hn
        have hd : q.1 ≠ d := fun z => hn.1 (List.mem_map.mpr ⟨q, hq, z⟩)
        exact c.base _ _ (by simpa using hd) (w.at_ q (List.mem_cons_of_mem _ hq))
  nd := by
    have hn := w.nd
    have hn' := c.nd
    rw [List.map_cons, List.nodup_cons] at hn hn'
    rw [List.map_cons, List.map_append, List.nodup_cons, List.nodup_append]
    refine ⟨fun hm => ?_, hn'.2, hn.2, fun a ha b hb e => ?_⟩
    · rcases List.mem_append.mp hm with h | h
      · exact hn'.1 h
      · exact hn.1 h
    · obtain ⟨q, hq, e1⟩ := List.mem_map.mp ha
      obtain ⟨r, hr, e2⟩ := List.mem_map.mp hb
      have h1 := w.at_ r (List.mem_cons_of_mem _ hr)
      rcases c.own q (List.mem_cons_of_mem _ hq) with z | z
      · rw [e1, e, ← e2, h1] at z; cases z
      · have : q.1 = d := by simpa using z
        exact hn'.1 (List.mem_map.mpr ⟨q, hq, this⟩)
  free := fun b e => w.free b (c.free b e)
/-- forget -/
theorem Wd.sub {M : List Addr} {H0 H : Hp} {l l' : List (Addr × HO)} (w : Wd M H0 H l) (h : List.Sublist l' l) : Wd M H0 H l' :=
  ⟨w.base, w.tups, fun q hq => w.own q (h.subset hq), fun q hq => w.at_ q (h.subset hq), (h.map Prod.fst).nodup w.nd, w.free⟩
theorem Wd.perm {M : List Addr} {H0 H : Hp} {l l' : List (Addr × HO)} (w : Wd M H0 H l) (h : List.Perm l l') : Wd M H0 H l' :=
  ⟨w.base, w.tups, fun q hq => w.own q (h.mem_iff.mpr hq), fun q hq => w.at_ q (h.mem_iff.mpr hq), (h.map Prod.fst).nodup_iff.mp w.nd, w.free⟩
/-- a new object behind the first -/
theorem Wd.new1 {M : List Addr} {H0 H : Hp} {l : List (Addr × HO)} {e : Addr × HO} (w : Wd M H0 H (e :: l)) {p : Addr} (o : HO) (hp : H p = none) : Wd M H0 (upd H p o) (e :: (p, o) :: l) :=
  (w.new o hp).perm (.swap _ _ _)

/-- tuples are kept -/
def KT (H H' : Hp) : Prop := ∀ b xs, H b = some (.tup xs) → H' b = some (.tup xs)
theorem KT.refl (H : Hp) : KT H H := fun _ _ h => h
theorem KT.new {H H' : Hp} (k : KT H H') {p : Addr} {o : HO} (hp : H' p = none) : KT H (upd H' p o) := fun b xs e => by
  rw [upd_ne (ne_of_none (k b xs e) hp)]; exact k b xs e
theorem KT.call {M : List Addr} {H H' H'' : Hp} {l : List (Addr × HO)} (k : KT H H') (c : Wd M H' H'' l) : KT H H'' := fun b xs e => c.tups b xs (k b xs e)
theorem KT.put {H H' : Hp} (k : KT H H') {p : Addr} {o u : HO} (hp : H' p = some u) (hn : ∀ xs, u ≠ .tup xs) : KT H (upd H' p o) := fun b xs e => by
  rw [upd_ne (ne_of (k b xs e) hp (hn xs).symm)]; exact k b xs e
/-- a def of the module and its contract -/
structure Cal (P : Program) (w : World) (K : PySem.W.Frag) (mg : Str → Option Value) (base : Heap) (k : Nat) (x : Str) (ps : List Str) (sp : Sp) : Prop where
  ex : ∃ (f : Addr) (fd : FuncData), mg x = some (.ref f) ∧ PySem.W.keepIn K (.ref f) = true ∧ Binds K fd ps [] ∧ FnOk P w K mg base CX0 k f fd ps sp
/-- a def of the module as the top left it -/
structure DefAt (K : PySem.W.Frag) (mg : Str → Option Value) (x : Str) (st : Stmt) (ps : List Str) : Prop where
  ex : ∃ (f : Addr) (fd : FuncData), mg x = some (.ref f) ∧ Fun K x x st f fd ∧ Binds K fd ps []
theorem DefAt.cal {P : Program} {w : World} {K : PySem.W.Frag} {mg : Str → Option Value} {base : Heap} {k : Nat} {x : Str} {st : Stmt} {ps : List Str} {sp : Sp} (D : DefAt K mg x st ps)
    (h : ∀ f fd, Fun K x x st f fd → FnOk P w K mg base CX0 k f fd ps sp) : Cal P w K mg base k x ps sp := by
  obtain ⟨f, fd, m, F, b⟩ := D.ex
  exact ⟨f, fd, m, F.kp, b, h f fd F⟩
/-- the names of built-ins that the module leaves as they are -/
structure Bi (mg : Str → Option Value) : Prop where
  len : mg "len" = none
  range : mg "range" = none
  list : mg "list" = none
  tuple : mg "tuple" = none
  int : mg "int" = none
  str : mg "str" = none
  abs : mg "abs" = none
  max : mg "max" = none
  sorted : mg "sorted" = none
  set : mg "set" = none
  any : mg "any" = none
  all : mg "all" = none
  enumerate : mg "enumerate" = none
  isinstance : mg "isinstance" = none
  bool : mg "bool" = none
end Br

/-! Rules that the layer lacks. -/
namespace Br
open PySem PySem.Spec PyProof.Rows L2
section
variable {X : Cx}
/-! ### max of a tuple of ints -/
theorem maxOf_ge : ∀ (xs : List Int) (x : Int), (PySem.W.maxOf x xs ∈ x :: xs) ∧ ∀ y ∈ x :: xs, y ≤ PySem.W.maxOf x xs
  | [], x => by simp [PySem.W.maxOf]
  | z :: xs, x => by
    have e : PySem.W.maxOf x (z :: xs) = PySem.W.maxOf (if x < z then z else x) xs := by
      show List.foldl _ _ (z :: xs) = _
      rw [List.foldl_cons]
      show List.foldl _ (if decide (x < z) = true then z else x) xs = List.foldl _ (if x < z then z else x) xs
      simp only [decide_eq_true_eq]
    rw [e]
    obtain ⟨h1, h2⟩ := maxOf_ge xs (if x < z then z else x)
    have hw : x ≤ (if x < z then z else x) ∧ z ≤ (if x < z then z else x) ∧ ((if x < z then z else x) = z ∨ (if x < z then z else x) = x) := by
      by_cases c : x < z
      · rw [if_pos c]; omega
      · rw [if_neg c]; omega
    generalize (if x < z then z else x) = v at *
    have h3 := h2 _ List.mem_cons_self
    refine ⟨?_, fun y hy => ?_⟩
    · rcases List.mem_cons.mp h1 with h | h
      · rw [h]; rcases hw.2.2 with r | r <;> simp [r]
      · exact List.mem_cons_of_mem _ (List.mem_cons_of_mem _ h)
    · rcases List.mem_cons.mp hy with h | h
      · subst h; omega
      · rcases List.mem_cons.mp h with h | h
        · subst h; omega
        · exact h2 y (List.mem_cons_of_mem _ h)
theorem holds_of_ints {h : Heap} : ∀ {vs : List Value} {ns : List Int}, IntsAre vs ns → PySem.W.HoldAll h vs ns
  | _, _, .nil => PySem.W.HoldAll.nil
  | _, _, .cons n t hr => PySem.W.HoldAll.cons ⟨_, Reads.int n t⟩ (holds_of_ints hr)
def rMaxT (K : PySem.W.Frag) : List V → Hp → VK → Prop := fun vs H Q => ∃ (a : Addr) (ns : List Int), vs = [V.ref a] ∧ SqT K H a (ns.map V.int) ∧ 0 < ns.length ∧ ∀ m, m ∈ ns → (∀ y, y ∈ ns → y ≤ m) → Q (.int m) H
theorem cr_maxT (hc : X.calm = true) (hu : X.A.units + 64 < cLine) : CallR X (.builtin "max") (rMaxT X.K) := by
  intro pins s σ H vs us Q I r h
  obtain ⟨a, ns, rfl, hs, hne, q⟩ := h
  obtain ⟨its, rv, hl, _⟩ := I.tuple hs
  rw [Vals.ref1 r]
  have hi := rv.ints
  cases ns with
  | nil => simp at hne
  | cons x xs =>
    refine PySem.W.max_tuple_datum (α := Int) (x := x) (xs := xs) (I.ok.hd hc) hl (by simpa using holds_of_ints hi) (by show _ + 1 + 0 < _; omega) fun i v h' tk hv hh hk => ?_
    obtain ⟨as, rd⟩ := hh
    obtain ⟨m1, m2⟩ := maxOf_ge xs x
    generalize PySem.W.maxOf x xs = m at *
    have : ∃ t, v = Value.int m t := by cases rd; exact ⟨_, rfl⟩
    obtain ⟨t, rfl⟩ := this
    exact ⟨.int m, H, I.kept hk, ⟨t, rfl⟩, q m m1 m2⟩
/-! ### a match over texts -/
structure PCs (X : Cx) (cs : List MatchCase) (t : Str → TS) : Prop where
  run : ∀ (pins : List (Addr × Obj)) (s : Shared) (σ : L2.St) (H : Hp) (D : Ends) (z : Str) (tk : Tok) (first : Bool), Inv X pins σ H s → t z D σ H → wpAny (model X.prog X.w) X.A (matchCases cs X.env (.str z tk) first) (SP X pins D) X.xe s
def tMatch (te : TE) (tc : Str → TS) : TS := fun D σ H => te σ H fun x H1 => ∃ z, x = .str z ∧ tc z D σ H1
theorem ps_match {e : Expr} {te : TE} {cs : List MatchCase} {tc : Str → TS} {pos : Pos} (he : PE X e te) (hc : PCs X cs tc) : PS X (.Match e cs pos) (tMatch te tc) := by
  refine ⟨fun pins s σ H D I h => ?_⟩
  show wpAny _ _ (do standAt pos; let v ← eval e X.env; matchCases cs X.env v true) _ _ _
  refine wpAny_bind (wpAny_standAt (wpAny_bind (thn (he.run pins s σ H _ I h) fun v s1 ⟨x, H1, I1, r1, z, hz, q⟩ => ?_)))
  subst hz
  obtain ⟨tk, rfl⟩ := r1
  exact hc.run pins s1 σ H1 D z tk true I1 q
theorem pcs_nil : PCs X [] (fun _ D σ H => D.nx σ H) := ⟨fun pins s σ H D z tk first I h => wpAny_pure ⟨σ, H, I, h⟩⟩
theorem pcs_str {c : Str} {j cpos pos} {body : List Stmt} {rest : List MatchCase} {tb : TS} {tr : Str → TS} (hb : PSs X body tb) (hr : PCs X rest tr) :
    PCs X (⟨.MatchValue (.Constant (.str c) j cpos) pos, none, body⟩ :: rest) (fun z D σ H => if z = c then tb D σ H else tr z D σ H) := by
  refine ⟨fun pins s σ H D z tk first I h => ?_⟩
  unfold matchCases
  refine wpAny_bind (wpAny_holding ?_)
  unfold matchPattern
  refine wpAny_bind (Calls.Constant_str (wpAny_bind (wpAny_standAt (wpAny_bind (eq_str (wpAny_bind (wpAny_truthy_bool ?_)))))))
  have I1 := I.tok (s.toks + 1)
  by_cases e : z = c
  · rw [if_pos e] at h
    subst e
    rw [beq_self_eq_true]
    refine wpAny_pure ?_
    dsimp only
    refine wpAny_bind (wpAny_holding ?_)
    refine wpAny_pure (wpAny_bind (wpAny_pure ?_))
    exact hb.run pins _ σ H D I1 h
  · rw [if_neg e] at h
    rw [show (z == c) = false from beq_eq_false_iff_ne.mpr e]
    refine wpAny_pure ?_
    exact hr.run pins _ σ H D z tk false I1 h
theorem pcs_any {pos} {body : List Stmt} {tb : TS} (hb : PSs X body tb) : PCs X [⟨.MatchAs none none pos, none, body⟩] (fun _ D σ H => tb D σ H) := by
  refine ⟨fun pins s σ H D z tk first I h => ?_⟩
  unfold matchCases
  refine wpAny_bind (wpAny_holding ?_)
  unfold matchPattern
  refine wpAny_pure ?_
  dsimp only
  refine wpAny_bind (wpAny_holding ?_)
  refine wpAny_pure (wpAny_bind (wpAny_pure ?_))
  exact hb.run pins _ σ H D I h
/-! ### tuple * int, str * int -/
theorem tup_mul1 (l : Addr) (items : Array Value) (n : Nat) (dd : Option Addr) (sl : Array (Option Value)) (u : Tok) :
    Meets (Builtin.«tuple.__mul__» ⟨[.ref l, .int 1 u], []⟩) (fun _ R s => s.heap.get? l = some { cls := .type "tuple", dict := dd, data := .seq items n, slots := sl } ∧ R (.ok (.ret (Value.ref l))) s) :=
  .of_wp fun prog w A R s h => by
    obtain ⟨hp, g, d, tk, os⟩ := s
    obtain ⟨hl, h⟩ := h
    have f1 := AutoSeq1.idx_int
    have c1 : (items.isEmpty || (1 : Int) == 1) = true := by simp
    wp_walk using wpAny_loadPart' hl
    exact ⟨_, rfl, h⟩
def rRepA (K : PySem.W.Frag) : R2 := fun x y H Q => ∃ l k xs, x = .ref l ∧ y = .int k ∧ SqT K H l xs ∧ xs ≠ [] ∧ 1 ≤ k ∧ k ≤ 1000 ∧ xs.length ≤ 1000 ∧ (k = 1 → Q (.ref l) H) ∧ (2 ≤ k → ∀ p, H p = none → Q (.ref p) (upd H p (.tup (List.replicate k.toNat xs).flatten)))
theorem op_repA : OpR X (binaryOp .Mult) (rRepA X.K) := by
  intro pins s σ H x y v u Q I rx ry h
  obtain ⟨l, k, xs, rfl, rfl, hT, hne, h1, h2, hz, q1, q2⟩ := h
  by_cases hk : k = 1
  · subst hk
    cases rx
    obtain ⟨t, rfl⟩ := ry
    obtain ⟨its, r, ⟨⟨cls, dd, data, sl⟩, ho, hc, n, hd⟩, hs⟩ := I.tuple hT
    simp only at hc hd
    subst hc hd
    exact wpAny_binaryOp_repeat_ref (T := "tuple") (U := "int") (by decide) ⟨_, ho, rfl⟩ (fun s' => typeIs_int s' 1 t) noFill_tuple_mul F.fills_int_mul F.slot_int_rmul repeat_tuple F.slot_int_index.lookup
      (call_meets F.slot_int_rmul (typeIs_int s 1 t) F.entry_int_rmul (F.args_int_rmul_2 _ _) (int_rmul_tuple 1 t l its.toArray n dd sl)
        ⟨ho, rfl, ⟨_, ho, rfl⟩, call_meets F.slot_tuple_mul ⟨_, ho, rfl⟩ F.entry_tuple_mul (F.args_tuple_mul_2 _ _) (tup_mul1 l its.toArray n dd sl t) ⟨ho, ⟨.ref l, H, I, rfl, q1 rfl⟩⟩⟩)
  · exact op_repT pins s σ H (.ref l) (.int k) v u Q I rx ry ⟨l, k, xs, rfl, rfl, hT, hne, by omega, h2, hz, q2 (by omega)⟩
def repS (z : Str) (k : Nat) : Str := ⟨(List.replicate k z.cps).foldl (· ++ ·) #[]⟩
theorem foldl_rep (b : Array Nat) : ∀ (k : Nat) (a : Array Nat), (List.foldl (· ++ ·) a (List.replicate k b)).toList = a.toList ++ (List.replicate k b.toList).flatten
  | 0, a => by simp
  | k + 1, a => by
    rw [List.replicate_succ, List.foldl_cons, foldl_rep b k, List.replicate_succ, List.flatten_cons, Array.toList_append, List.append_assoc]
theorem repS_list (z : Str) (k : Nat) : (repS z k).cps.toList = (List.replicate k z.cps.toList).flatten := by
  have := foldl_rep z.cps k #[]
  simpa [repS] using this
theorem repS_length (z : Str) (k : Nat) : (repS z k).length = k * z.length := by
  have h := congrArg List.length (repS_list z k)
  rw [List.length_flatten, List.map_replicate, List.sum_replicate_nat] at h
  simpa [Str.length] using h
def rRepS : R2 := fun x y H Q => ∃ z k, x = .str z ∧ y = .int k ∧ 1 ≤ k ∧ k ≤ 1000 ∧ 0 < z.length ∧ z.length ≤ 1000 ∧ Q (.str (repS z k.toNat)) H
theorem op_repS : OpR X (binaryOp .Mult) rRepS := by
  intro pins s σ H x y v u Q I rx ry h
  obtain ⟨z, k, rfl, rfl, h1, h2, hz0, hz, q⟩ := h
  obtain ⟨t, rfl⟩ := rx
  obtain ⟨t', rfl⟩ := ry
  refine PySem.P.mul_str (by rw [decide_eq_false (by omega), decide_eq_false (by omega)]; rfl) (fun _ _ => ?_) (fun _ _ => ?_) ?_
  · have : (1000 : Int) ≤ (2 ^ 63 - 1) / k := by
      exact (Int.le_ediv_iff_mul_le (by omega)).mpr (by omega)
    omega
  · have h3 : z.length * k.toNat ≤ 1000 * 1000 := Nat.mul_le_mul hz (by omega)
    unfold PySem.Builtin.Str.tooLong
    exact decide_eq_false (by have := sizeLine_eq; omega)
  · rw [if_neg (by omega)]
    by_cases c : (k == 1 || z.length == 0) = true
    · rw [if_pos c]
      have hk : k = 1 := by
        rcases Bool.or_eq_true _ _ ▸ c with c | c
        · exact eq_of_beq c
        · have := eq_of_beq c; omega
      subst hk
      refine ⟨.str z, H, I, ⟨t, rfl⟩, ?_⟩
      have e : repS z (1 : Int).toNat = z := by
        show (⟨#[] ++ z.cps⟩ : Str) = z
        rw [Array.empty_append]
      rw [e] at q
      exact q
    · rw [if_neg c]
      refine ⟨?_, .str (repS z k.toNat), H, I.tok _, ⟨_, rfl⟩, q⟩
      have h3 : k.toNat * z.length ≤ 1000 * 1000 := Nat.mul_le_mul (by omega) hz
      have h4 := repS_length z k.toNat
      have := sizeLine_eq
      show (repS z k.toNat).length ≤ sizeLine
      omega
/-! ### the layer's rules with the written part named -/
abbrev rLenS (K : PySem.W.Frag) : List V → Hp → VK → Prop := fun xs H Q => ∃ p ys, xs = [.ref p] ∧ (SqL K H p ys ∨ SqT K H p ys) ∧ Q (.int ys.length) H
abbrev rListOf (K : PySem.W.Frag) : List V → Hp → VK → Prop := fun xs H Q => ∃ p ys, xs = [.ref p] ∧ (SqL K H p ys ∨ SqT K H p ys) ∧ ∀ l, H l = none → Q (.ref l) (upd H l (.lst ys))
abbrev rTupOf (K : PySem.W.Frag) : List V → Hp → VK → Prop := fun xs H Q => ∃ p ys, xs = [.ref p] ∧ ((SqL K H p ys ∧ ∀ l, H l = none → Q (.ref l) (upd H l (.tup ys))) ∨ (SqT K H p ys ∧ Q (.ref p) H))
abbrev rJoin (K : PySem.W.Frag) : V → List V → Hp → VK → Prop := fun x xs H Q => ∃ a p, ∃ ys : List Str, x = .str a ∧ xs = [.ref p] ∧ (SqL K H p (ys.map V.str) ∨ SqT K H p (ys.map V.str)) ∧ (ys.map (·.length)).sum + ys.length * a.length ≤ 16777216 ∧ Q (.str (Txt.join a ys)) H
variable {K : PySem.W.Frag}
theorem pe_fldK (hK : X.K = K) {e : Expr} {ta : TE} {f : Str} {pos : Pos} (he : PE X e ta) (hb : attributeBase e f X.env (eval e X.env) = eval e X.env) : PE X (.Attribute e f pos) (tFld K ta f) := by
  subst hK; exact pe_fld he hb
theorem pe_bmK (hK : X.K = K) {T id : String} {name : Str} {r : V → List V → Hp → VK → Prop} {o e : Expr} {es : List Expr} {to : TE} {t : TA} {apos cpos : Pos} (pa : PlainAttrs T) (slot : Slot T name id) (hty : typeOf (.builtin id) = pure (.type "method_descriptor")) (hm : MtR X id r) (ho : PE X o to) (ha : PA X (e :: es) t)
    (hbase : attributeBase o name X.env (eval o X.env) = eval o X.env := by rfl)
    (hfew : ((backTo cpos (starEach (e :: es) X.env)).all (fun x => !x.1) && (backToKw cpos (keywordEach [] X.env)).all (fun x => x.1.isSome) && decide ((e :: es).length + ([] : List Keyword).length + (if ([] : List Keyword).isEmpty then 0 else 1) < 30)) = true := by rfl)
    (hline : (apos.endLine == cpos.line) = true := by rfl) (hs : starEach (e :: es) X.env = (false, eval e X.env) :: starEach es X.env := by rfl) (hplain : (backTo cpos (starEach es X.env)).any (·.1) = false := by rfl) :
    PE X (.Call (.Attribute o name apos) (e :: es) [] cpos) (tBM K T r to t) := by
  subst hK; exact pe_bm pa slot hty hm ho ha hbase hfew hline hs hplain
theorem pe_joinK (hK : X.K = K) {o e : Expr} {to te : TE} {apos pos : Pos} (ho : PE X o to) (he : PE X e te) (hs : starEach [e] X.env = [(false, eval e X.env)] := by rfl) (hbase : attributeBase o "join" X.env (eval o X.env) = eval o X.env := by rfl) (hline : (apos.endLine == pos.line) = true := by rfl) :
    PE X (.Call (.Attribute o "join" apos) [e] [] pos) (tM1 (rJoin K) to te) := by
  subst hK; exact pe_join ho he hs hbase hline
theorem pi_listK (hK : X.K = K) {tg l : Expr} {tl : TE} (hl : PE X l tl) : PI X tg l (iList K tl) := by subst hK; exact pi_list hl
theorem pi_tupK (hK : X.K = K) {tg l : Expr} {tl : TE} (hl : PE X l tl) : PI X tg l (iTup K tl) := by subst hK; exact pi_tup hl
theorem pg_tupK (hK : X.K = K) {es : List Expr} {k : Nat} {t : TGs} {n : Nat} {pos : Pos} (hc : X.calm = true) (h : PGs X es t)
    (hn : (assignEach es X.env).length = n := by rfl) (hst : (assignEach es X.env).findIdx? (·.1) = none := by rfl) : PG X (.Tuple es k pos) (gTup K n t) := by
  subst hK; exact pg_tup hc h hn hst
end
end Br

/-! set(xs) of a list of ints; sorted of such a set is the layer's own. -/
namespace Br
open PySem PySem.Spec PyProof.Rows L2
section
variable {P : Program} {w : World} {A : Around} {E : Value → Shared → Prop} {s : Shared}
abbrev emp (w : World) : Obj := { cls := .type "set", dict := none, data := .set #[] 0 (.fresh 0 0 (!w.params.followText "set-order")) }
abbrev itO (l : Addr) : Obj := { cls := .type "list_iterator", data := .fields #[.ref l, .int 0 0] }
theorem call_set_ints {l : Addr} {vs : Array Value} (ns : List Int) {Q : Value → Shared → Prop} (calm : A.handled = none) (hl : s.heap.IsList l vs) (hv : IntsAre vs.toList ns) (room : ns.length + 1 < scanBound)
    (out : ∀ (h' : Heap) (tk c : Nat), SetR w h' s.heap.objs.size (fun j => decide (j ∈ ns)) c → c ≤ ns.length → (∀ b o, s.heap.get? b = some o → h'.get? b = some o) → Q (.ref s.heap.objs.size) { s with heap := h', toks := tk }) :
    wpAny (model P w) A (call (.type "set") [.ref l]) Q E s := by
  have size : vs.size = ns.length := by simpa using IntsAre.length hv
  have ⟨c, tl, mro1⟩ := F.called_set.mro
  have k1 := F.called_set.made; have k2 := F.called_set.sub
  apply wpAny_call; apply codeAny_of_tree
  change wpAny _ _ (callAny (.type "set") _) _ _ _
  apply wpAny_pure
  refine ⟨Code.quiet_builtin _ (by decide +kernel), codeAny_builtin F.entry_type_call ?_⟩
  rw [Around.under_plain (weight_type_call_type "set" [.ref l] []) rfl]
  have k3 := F.called_set.notType; have k4 := F.called_set.canCreate
  have k5 := F.typeCall_set_1 (.ref l)
  repeat (any_goals (first | assumption | wp_step))
  apply codeAny_mono (code_set_led1 (.ref l) (E := E) (Q₁ := fun v t => v = .ref s.heap.objs.size ∧ t = { s with heap := s.heap.push (emp w) }) ⟨rfl, rfl⟩)
  intro r t hr
  cases r with
  | error e => exact hr
  | ok fl =>
  cases fl with
  | ret v =>
    obtain ⟨rfl, rfl⟩ := hr
    have at1 : (s.heap.push (emp w)).get? s.heap.objs.size = some (emp w) := Heap.get?_push_size _ rfl
    have ty1 : Shared.TypeIs { s with heap := s.heap.push (emp w) } (.ref s.heap.objs.size) "set" := ⟨_, at1, rfl⟩
    have i1 := F.called_set.init.lookup; have i2 := F.called_set.init.bind (.ref s.heap.objs.size)
    repeat (any_goals (first | assumption | wp_step))
    refine codeAny_mono (codeAny_call_builtin (R := wants (fun r t => r = .none ∧ ∃ h' tk c, t = { s with heap := h', toks := tk } ∧ SetR w h' s.heap.objs.size (fun j => decide (j ∈ ns)) c ∧ c ≤ ns.length ∧ (∀ b o, s.heap.get? b = some o → h'.get? b = some o)) E)
      F.called_set.init.plain F.entry_set_init (check_set_init_1 ty1 ?_)) fun r2 t2 hr2 => ?_
    · obtain ⟨⟨q1, q2, q3, q4⟩, hob, hcl, m, hda⟩ := hl
      simp only at hcl hda
      subst hcl hda
      have hob2 : (s.heap.push (emp w)).get? l = some { cls := .type "list", dict := q2, data := .seq vs m, slots := q4 } := Heap.get?_push_of_some _ hob
      have u1 := F.sub_list_set; have u2 := F.sub_list_frozenset
      have u3 : (Value.type "list" == Value.type "dict") = false := by decide
      have li : (s.heap.push (emp w)).IsList l vs := ⟨_, hob2, rfl, m, rfl⟩
      unfold Builtin.«set.__init__» noKeywords Builtin.Frozenset.updateFrom
      generalize hPI : pyIter = PI
      wp_walk
      subst hPI
      apply wpAny_pyIter_list li
      apply wpAny_bind; apply wpAny_runValue
      have lt1 : l < s.heap.objs.size := Heap.lt_size hob
      have calm3 : A.in1.in1.in1.handled = none := by simp [calm]
      have ne1 : l ≠ (s.heap.push (emp w)).objs.size := by
        rw [Heap.size_push]; exact Nat.ne_of_lt (Nat.lt_succ_of_lt lt1)
      have no1 : s.heap.objs.size ∉ [(s.heap.push (emp w)).objs.size, l] := by
        rw [Heap.size_push]
        intro z
        rcases List.mem_cons.mp z with z | z
        · exact absurd z (Nat.ne_of_lt (Nat.lt_succ_self _))
        · exact absurd (List.mem_singleton.mp z) (Nat.ne_of_gt lt1)
      have items : ∀ (i : Nat) (v : Value), vs[i]? = some v → ∃ k t, ns[i]? = some k ∧ v = .int k t := fun i v h => by
        have hi : i < ns.length := by rw [← size]; exact (Array.getElem?_eq_some_iff.mp h).1
        obtain ⟨t, e⟩ := PyProof.Rows.IntsAre.int_at hv i v (by rw [Array.getElem?_toList]; exact h)
        refine ⟨ns[i], t, List.getElem?_eq_getElem hi, ?_⟩
        rw [e, List.getD_eq_getElem?_getD, List.getElem?_eq_getElem hi]; rfl
      refine set_update_ints ((Walks.list calm3 _ l ne1 vs).toS) s.heap.objs.size no1 ns size room items (vs.size - 0) 0 _ (by omega) (Nat.zero_le _)
        ⟨⟨_, Heap.get?_push_size _ rfl, rfl, rfl⟩, (li.push _)⟩ ?first ?last
      case first =>
        have : ((s.heap.push (emp w)).push (itO l)).get? s.heap.objs.size = some (emp w) := Heap.get?_push_of_some _ at1
        exact ⟨0, Nat.le_refl 0, setR_new_at this⟩
      case last =>
        rintro ⟨h', g2, d2, tk2, o2⟩ c2 mv hc2 R2
        have e1 : g2 = s.gens := mv.gens
        have e2 : d2 = s.drawn := mv.drawn
        have e3 : o2 = s.os := mv.os
        subst e1 e2 e3
        change wpAny _ _ _ _ _ _
        apply wpAny_pure
        change wpAny _ _ (ret Value.none) _ _ _
        rw [size] at hc2
        refine wpAny_pure ⟨rfl, h', tk2, c2, rfl, R2, hc2, fun b o e => ?_⟩
        have b0 : b < s.heap.objs.size := Heap.lt_size e
        refine mv.heap b o (fun z => ?_) (Heap.get?_push_of_some _ (Heap.get?_push_of_some _ e))
        rcases List.mem_cons.mp z with z | z
        · exact absurd z (Nat.ne_of_lt b0)
        · rw [List.mem_singleton.mp z, Heap.size_push] at b0
          exact absurd (Nat.lt_of_succ_lt b0) (Nat.lt_irrefl _)
    · cases r2 with
      | error e => exact hr2
      | ok f2 =>
        cases f2 with
        | ret v2 =>
          obtain ⟨rfl, h', tk, c2, rfl, R2, hc2, kp⟩ := hr2
          repeat (any_goals (first | assumption | wp_step))
          exact out _ _ _ R2 hc2 kp
        | _ => exact hr2.elim
  | _ => exact hr.elim
end
section
variable {X : Cx}
def rSetI (K : PySem.W.Frag) (w : World) : List V → Hp → VK → Prop := fun xs H Q => ∃ (l : Addr) (ns : List Int), xs = [V.ref l] ∧ SqL K H l (ns.map V.int) ∧ ns.length ≤ 1000 ∧
  ∀ (a : Addr) (c : Nat), H a = none → c ≤ ns.length → Q (.ref a) (upd H a (SetO w a (fun j => decide (j ∈ ns)) c))
theorem cr_setI (hc : X.calm = true) : CallR X (.type "set") (rSetI X.K X.w) := by
  intro pins s σ H xs us Q I r h
  obtain ⟨l, ns, rfl, hl, hn, q⟩ := h
  rw [Vals.ref1 r]
  obtain ⟨its, rv, pl, hz⟩ := I.list hl
  refine call_set_ints ns (I.ok.hd hc) pl.isList (by simpa using rv.ints) (by unfold scanBound; omega) fun h' tk c R hcn k => ?_
  have hf : H s.heap.objs.size = none := I.hok.fresh (Nat.le_refl _)
  exact ⟨.ref _, upd H s.heap.objs.size (SetO X.w s.heap.objs.size (fun j => decide (j ∈ ns)) c), I.laid (t' := tk) k (Nat.le_refl _) (setO_new R), rfl, q _ c hf hcn⟩
end
end Br

/-! Comprehensions whose element changes nothing: the list is (xs.filter p).map f. -/
namespace Br
open PySem PySem.Spec PyProof.Rows L2
section
variable {K : PySem.W.Frag} {a : Addr} {xs : List V} {g : TG} {tt : TT} {te : TE} {vs : List Nat} {σ : L2.St} {H1 H0 : Hp} {D : Addr} {Qd : Hp → Prop} {M : List Addr} {l : List (Addr × HO)}
theorem take_more {α : Type} {l : List α} {i : Nat} {x : α} (h : l[i]? = some x) : l.take (i + 1) = l.take i ++ [x] := by
  rw [List.take_add_one, h]; rfl
/-- what one turn gives -/
def LcEl (g : TG) (tt : TT) (te : TE) (vs : List Nat) (σ : L2.St) (p : V → Bool) (f : V → V) (x : V) (H : Hp) : Prop :=
  ∀ (R : V → Hp → Prop) (S : Hp → Prop), (p x = true → R (f x) H) → (p x = false → S H) → g x (wipe σ vs) H fun σ2 H2 => wipe σ2 vs = wipe σ vs ∧ tt σ2 H2 fun b H3 => if b = true then te σ2 H3 R else S H3
theorem lc_turn {p : V → Bool} {f : V → V} (w : ∀ H', (∃ c, Wd M H0 H' ((D, .lst c) :: l)) → ∀ (i : Nat) (x : V), xs[i]? = some x → LcEl g tt te vs σ p f x H') (hz : xs.length ≤ 1000) :
    ∀ (i : Nat) (x : V) (H : Hp), xs[i]? = some x → Wd M H0 H ((D, .lst (((xs.take i).filter p).map f)) :: l) → g x (wipe σ vs) H fun σ2 H2 => wipe σ2 vs = wipe σ vs ∧ tt σ2 H2 fun b H3 =>
      if b = true then te σ2 H3 fun y H4 => ∃ acc, H4 D = some (.lst acc) ∧ acc.length < sizeLine ∧ Wd M H0 (upd H4 D (.lst (acc ++ [y]))) ((D, .lst (((xs.take (i + 1)).filter p).map f)) :: l)
      else Wd M H0 H3 ((D, .lst (((xs.take (i + 1)).filter p).map f)) :: l) := fun i x H hx wd => by
  refine w H ⟨_, wd⟩ i x hx _ _ (fun hp => ?_) (fun hp => ?_)
  · refine ⟨_, wd.get 0 rfl, ?_, ?_⟩
    · rw [List.length_map]
      have h1 := List.length_filter_le p (xs.take i)
      rw [List.length_take] at h1
      exact Nat.lt_of_le_of_lt (m := 1000) (by omega) (by decide)
    · have := wd.put 0 (.lst (((xs.take i).filter p).map f ++ [f x])) rfl (fun xs q => by cases q)
      rw [take_more hx, List.filter_append, List.map_append]
      simp only [List.filter_cons, hp, if_true, List.filter_nil, List.map_cons, List.map_nil]
      exact this
  · rw [take_more hx, List.filter_append]
    simp only [List.filter_cons, hp, Bool.false_eq_true, if_false, List.filter_nil, List.append_nil]
    exact wd
theorem lc_tupF (p : V → Bool) (f : V → V) (w : Wd M H0 H1 l) (hD : H1 D = none) (hs : ∀ H' c, Wd M H0 H' ((D, c) :: l) → SqT K H' a xs) (hz : xs.length ≤ 1000)
    (he : ∀ H', (∃ c, Wd M H0 H' ((D, .lst c) :: l)) → ∀ (i : Nat) (x : V), xs[i]? = some x → LcEl g tt te vs σ p f x H')
    (hd : ∀ H', Wd M H0 H' ((D, .lst ((xs.filter p).map f)) :: l) → Qd H') :
    ∃ W : Nat → Nat → Hp → Prop, (∃ m, W 0 m (upd H1 D (.lst []))) ∧ ∀ i m H, W i m H → ((Itt K a).stop i H ∧ Qd H) ∨ ((Itt K a).go i H ∧ ∃ Nx : Hp → Prop, (∀ H', Nx H' → ∃ m', m' < m ∧ W (i + 1) m' H') ∧ ∀ x H', (Itt K a).yld i H x H' → g x (wipe σ vs) H' fun σ2 H2 => wipe σ2 vs = wipe σ vs ∧ tt σ2 H2 fun b H3 =>
        if b = true then te σ2 H3 fun y H4 => ∃ acc, H4 D = some (.lst acc) ∧ acc.length < sizeLine ∧ Nx (upd H4 D (.lst (acc ++ [y]))) else Nx H3) :=
  lc_tup (K := K) (a := a) (xs := xs) (fun i H => Wd M H0 H ((D, .lst (((xs.take i).filter p).map f)) :: l)) (w.new (.lst []) hD) (fun i H _ wd => hs H _ wd) (lc_turn he hz) (fun H wd => hd H (by rw [List.take_length] at wd; exact wd))
theorem lc_lstF (p : V → Bool) (f : V → V) (w : Wd M H0 H1 l) (hD : H1 D = none) (hs : ∀ H' c, Wd M H0 H' ((D, c) :: l) → SqL K H' a xs) (hz : xs.length ≤ 1000)
    (he : ∀ H', (∃ c, Wd M H0 H' ((D, .lst c) :: l)) → ∀ (i : Nat) (x : V), xs[i]? = some x → LcEl g tt te vs σ p f x H')
    (hd : ∀ H', Wd M H0 H' ((D, .lst ((xs.filter p).map f)) :: l) → Qd H') :
    ∃ W : Nat → Nat → Hp → Prop, (∃ m, W 0 m (upd H1 D (.lst []))) ∧ ∀ i m H, W i m H → ((Itl K a).stop i H ∧ Qd H) ∨ ((Itl K a).go i H ∧ ∃ Nx : Hp → Prop, (∀ H', Nx H' → ∃ m', m' < m ∧ W (i + 1) m' H') ∧ ∀ x H', (Itl K a).yld i H x H' → g x (wipe σ vs) H' fun σ2 H2 => wipe σ2 vs = wipe σ vs ∧ tt σ2 H2 fun b H3 =>
        if b = true then te σ2 H3 fun y H4 => ∃ acc, H4 D = some (.lst acc) ∧ acc.length < sizeLine ∧ Nx (upd H4 D (.lst (acc ++ [y]))) else Nx H3) :=
  lc_list (K := K) (a := a) (xs := xs) (fun i H => Wd M H0 H ((D, .lst (((xs.take i).filter p).map f)) :: l)) (w.new (.lst []) hD) (fun i H _ wd => hs H _ wd) (lc_turn he hz) (fun H wd => hd H (by rw [List.take_length] at wd; exact wd))
theorem filter_yes {α : Type} (l : List α) : l.filter (fun _ => true) = l := List.filter_eq_self.mpr fun _ _ => rfl
end
end Br

namespace Br
open PySem PySem.Spec PyProof.Rows L2
def topS (i : Nat) : Stmt := PySem.Challenge.pw_breadrota_k03_canonical_rotas.main.body.getD i (.Pass ⟨0, 0, 0, 0⟩)
/-- the source of numbers: the seed, the digits left of the present cell, the cells to come -/
def dl (a b : Int) (r : List Int) : HO := .lst (V.int a :: V.int b :: r.map V.int)
structure DOk (a b : Int) (r : List Int) : Prop where
  a0 : 0 ≤ a
  b0 : 0 ≤ b
  r0 : ∀ x ∈ r, 0 ≤ x
section
variable {P : Program} {w : World} {K : PySem.W.Frag} {mg : Str → Option Value} {base : Heap}
def spBelow : Sp := fun vs H Q _ => ∃ (d : Addr) (n a b : Int) (r : List Int), vs = [.ref d, .int n] ∧ 0 < n ∧ n < 1073741824 ∧ H d = some (dl a b r) ∧ DOk a b r ∧
  ∀ (k a' b' : Int) (r' : List Int) (H' : Hp), Wd [d] H H' [(d, dl a' b' r')] → DOk a' b' r' → 0 ≤ k → k < n → Q (.int k) H'
abbrev s_law_below : Stmt := topS 35
theorem sc_law_below : FnScope ["_law_d", "_law_limit", "_law_result"] ["_law_d", "_law_limit"] (defScope s_law_below) := ⟨rfl, rfl, rfl, by decide +kernel, rfl, by decide +kernel, by decide +kernel⟩
theorem put0 {H0 H : Hp} {d : Addr} {a b : Int} {r : List Int} (w : Wd [d] H0 H [(d, dl a b r)]) (a' b' : Int) (r' : List Int) : Wd [d] H0 (upd H d (dl a' b' r')) [(d, dl a' b' r')] :=
  w.put 0 (dl a' b' r') rfl (fun xs q => by cases q)
theorem cal_below (D : DefAt K mg "_law_below" s_law_below ["_law_d", "_law_limit"]) (T : Bi mg) : Cal P w K mg base 1 "_law_below" ["_law_d", "_law_limit"] spBelow := D.cal fun f fd F => by
  have nd := sc_law_below.nd
  refine F.ok sc_law_below (fun vs H Q E h => ?_) (fun cdv A outer s H vs Q E hr h => ?_)
  · obtain ⟨d, n, a, b, r, rfl, _⟩ := h; rfl
  obtain ⟨d, n, a, b, r, rfl, n0, n1, hd, ok, k⟩ := h
  refine ⟨_, (C8.pss_cut (ps_if (PW.pt (pw_and (pt_cmpR op_eq (pe_ix (r := rIxL K) ix_list (pv 0) pe_int (fun _ _ => rfl)) pe_int (nomark _)) (pw_and1 (pt_cmpR op_gt (pe_callB (r := rLenS K) call_len_seq (by rfl) T.len PySem.boot_len (pa_cons (pv 0) pa_nil)) pe_int (nomark _)))))
 (pss_one (ps_asg (pe_bmK (K := K) rfl PySem.F.plainAttrs_list PySem.F.slot_list_pop PySem.F.type_list_pop mt_popAt (pv 0) (pa_cons pe_int pa_nil)) (pg_sub (pv 0) pe_int set_list)))
 pss_nil)
 (pss_cons (ps_if (pt_cmpR op_gt (pe_ix (r := rIxL K) ix_list (pv 0) pe_int (fun _ _ => rfl)) pe_int (nomark _))
 (pss_cons (ps_set (i := 2) nd rfl (Or.inl rfl) (pe_op op_modN (pe_ix (r := rIxL K) ix_list (pv 0) pe_int (fun _ _ => rfl)) (pv 1)))
 (pss_cons (ps_asg (pe_op op_fdivN (pe_ix (r := rIxL K) ix_list (pv 0) pe_int (fun _ _ => rfl)) (pv 1)) (pg_sub (pv 0) pe_int set_list))
 (pss_one (ps_ret (pv 2)))))
 pss_nil)
 (pss_cons (ps_asg (pe_op op_mod (pe_op op_add (pe_op op_mul (pe_ix (r := rIxL K) ix_list (pv 0) pe_int (fun _ _ => rfl)) pe_int) pe_int) pe_int) (pg_sub (pv 0) pe_int set_list))
 (pss_one (ps_ret (pe_op op_modN (pe_op op_fdiv (pe_ix (r := rIxL K) ix_list (pv 0) pe_int (fun _ _ => rfl)) pe_int) (pv 1))))))), ?_⟩
  refine ⟨fun σ H1 => σ = [some (.ref d), some (.int n), none] ∧ ∃ a b r, Wd [d] H H1 [(d, dl a b r)] ∧ DOk a b r, ?_, ?_⟩
  · -- if _law_d[1] == 0 and len(_law_d) > 2: _law_d[1] = _law_d.pop(2)
    refine ⟨_, rfl, _, _, _, _, rfl, rfl, SqL.of hd, atI_nat (j := 1) rfl, rfl, _, rfl, ?_⟩
    refine ite2 (fun _ => ?_) (fun _ => ⟨rfl, a, b, r, Wd.start1 hd, ok⟩)
    refine ⟨_, rfl, d, _, rfl, .inl (SqL.of hd), _, _, rfl, rfl, _, rfl, ?_⟩
    refine ite2 (fun h2 => ?_) (fun _ => ⟨rfl, a, b, r, Wd.start1 hd, ok⟩)
    cases r with
    | nil => simp at h2
    | cons x r =>
      refine ⟨_, rfl, .inl ⟨rfl, _, SqL.of hd⟩, d, _, 2, 2, V.int x, rfl, rfl, hd, by decide, by decide, ?_, rfl, ?_⟩
      · simp [seqIndex?]; omega
      refine ⟨_, rfl, d, _, 1, 1, rfl, rfl, upd_same, ?_, ?_⟩
      · simp [ixN, seqIndex?]; omega
      rw [upd_upd]
      exact ⟨rfl, a, x, r, put0 (Wd.start1 hd) a x r, ⟨ok.a0, ok.r0 x List.mem_cons_self, fun y hy => ok.r0 y (List.mem_cons_of_mem _ hy)⟩⟩
  · rintro σ H1 ⟨rfl, a, b, r, w1, ok⟩
    have hd := w1.get 0 rfl
    -- if _law_d[1] > 0: ..
    refine ⟨_, rfl, _, _, _, _, rfl, rfl, SqL.of hd, atI_nat (j := 1) rfl, _, _, rfl, rfl, _, rfl, ?_⟩
    refine ite2 (fun hb => ?_) (fun hb => ?_)
    · have hb' : 0 < b := of_decide_eq_true hb
      refine ⟨_, rfl, _, _, _, _, rfl, rfl, SqL.of hd, atI_nat (j := 1) rfl, _, rfl, _, _, rfl, rfl, (by omega), ?_⟩
      refine ⟨_, rfl, _, _, _, _, rfl, rfl, SqL.of hd, atI_nat (j := 1) rfl, _, rfl, _, _, rfl, rfl, ⟨by omega, by omega⟩, ?_⟩
      refine ⟨_, rfl, d, _, 1, 1, rfl, rfl, hd, ?_, ?_⟩
      · simp [ixN, seqIndex?]; omega
      refine ⟨_, rfl, ?_⟩
      refine k _ _ _ _ _ (put0 w1 a (b.fdiv n) r) ⟨ok.a0, Int.fdiv_nonneg ok.b0 (by omega), ok.r0⟩ (Int.fmod_nonneg_of_pos _ n0) (Int.fmod_lt_of_pos _ n0)
    · refine ⟨_, rfl, _, _, _, _, rfl, rfl, SqL.of hd, atI_nat (j := 0) rfl, _, _, rfl, rfl, .inr ⟨by decide, by decide⟩, _, _, rfl, rfl, _, _, rfl, rfl, (by show (0 : Int) < 2147483647; decide), ?_⟩
      refine ⟨_, rfl, d, _, 0, 0, rfl, rfl, hd, ?_, ?_⟩
      · simp [ixN, seqIndex?]; omega
      have w2 := put0 w1 ((a * 48271 + 11) % 2147483647) b r
      have h0 : (0 : Int) ≤ (a * 48271 + 11) % 2147483647 := Int.emod_nonneg _ (by decide)
      refine ⟨_, rfl, _, _, _, _, rfl, rfl, SqL.of (w2.get 0 rfl), atI_nat (j := 0) rfl, _, _, rfl, rfl, ⟨by decide, by decide⟩, _, rfl, _, _, rfl, rfl, (by omega), ?_⟩
      exact k _ _ _ _ _ w2 ⟨h0, ok.b0, ok.r0⟩ (Int.fmod_nonneg_of_pos _ n0) (Int.fmod_lt_of_pos _ n0)
end
end Br

namespace Br
open PySem PySem.Spec PyProof.Rows L2
section
variable {P : Program} {w : World} {K : PySem.W.Frag} {mg : Str → Option Value} {base : Heap}
theorem int_of_map {ns : List Int} {i : Nat} {y : V} (h : (ns.map V.int)[i]? = some y) : ∃ z, ns[i]? = some z ∧ y = V.int z := by
  rw [List.getElem?_map] at h
  cases e : ns[i]? with
  | none => rw [e] at h; cases h
  | some z => rw [e] at h; exact ⟨z, rfl, (Option.some.inj h).symm⟩
/-- a list that is read stands still -/
theorem Wd.seq {M : List Addr} {H0 H : Hp} {l : List (Addr × HO)} (w : Wd M H0 H l) {a : Addr} {xs : List V} (h : SqL K H0 a xs) (hm : a ∉ M) : SqL K H a xs := by
  rcases h with (h | ⟨o, h⟩) | h
  · exact .inl (.inl (w.base _ _ hm h))
  · exact .inl (.inr ⟨o, w.base _ _ hm h⟩)
  · exact .inr h
def spRandom (K : PySem.W.Frag) : Sp := fun vs H Q _ => ∃ (a : Addr) (ns : List Int) (salt : Int), vs = [.ref a, .int salt] ∧ 0 ≤ salt ∧ SqL K H a (ns.map V.int) ∧ ns.length ≤ 63 ∧
  ∀ (d : Addr) (x y : Int) (r : List Int) (H' : Hp), Wd [] H H' [(d, dl x y r)] → DOk x y r → Q (.ref d) H'
abbrev s_law_random : Stmt := topS 34
theorem sc_law_random : FnScope ["_law_script", "_law_salt", "_law_seed", "_law_cell"] ["_law_script", "_law_salt"] (defScope s_law_random) := ⟨rfl, rfl, rfl, by decide +kernel, rfl, by decide +kernel, by decide +kernel⟩
theorem cal_random (D : DefAt K mg "_law_random" s_law_random ["_law_script", "_law_salt"]) (T : Bi mg) : Cal P w K mg base 1 "_law_random" ["_law_script", "_law_salt"] (spRandom K) := D.cal fun f fd F => by
  have nd := sc_law_random.nd
  refine F.ok sc_law_random (fun vs H Q E h => ?_) (fun cdv A outer s H vs Q E hr h => ?_)
  · obtain ⟨a, ns, salt, rfl, _⟩ := h; rfl
  obtain ⟨a, ns, salt, rfl, hsalt, hS, hl, k⟩ := h
  refine ⟨_, (pss_cons (ps_set (i := 2) nd rfl (Or.inl rfl) (pv 1))
 (pss_cons (ps_for PassesOwn.never rfl (pi_listK (K := K) rfl (pv 0)) (pg_name (i := 3) nd rfl (Or.inl rfl))
 (pss_one (ps_set (i := 2) nd rfl (Or.inl rfl) (pe_op op_mod (pe_op op_add (pe_op op_mul (pv 2) pe_int) (pe_callB call_abs (by rfl) T.abs (by decide +kernel) (pa_cons (pv 3) pa_nil))) pe_int))))
 (pss_one (ps_ret (pe_op op_cat (pe_lst (pa_cons (pv 2) (pa_cons pe_int pa_nil))) (pe_lc (own := [("_law_cell", 3)]) rfl nd (pi_listK (K := K) rfl (pv 0)) (blkOk_by (N := ["_law_script", "_law_salt", "_law_seed", "_law_cell"]) (sc := defScope s_law_random) (by decide +kernel)) (fun _ _ _ _ _ => (pg_name (i := 3) nd rfl (Or.inl rfl))) (fun _ _ _ _ _ => (pts_one (pt_cmpR op_ge (pv 3) (pe_op op_pow pe_int pe_int) (nomark _)))) (fun _ _ _ _ _ => (pv 3)))))))), ?_⟩
  refine ⟨_, rfl, _, rfl, a, rfl, ⟨_, hS⟩, for_list (K := K) (a := a) (xs := ns.map V.int) (fun i σ H' => H' = H ∧ ∃ s v, 0 ≤ s ∧ σ = [some (.ref a), some (.int salt), some (.int s), v])
    ⟨rfl, salt, none, hsalt, rfl⟩ (fun i σ H' _ ⟨e, _⟩ => e ▸ hS) ?_ ?_⟩
  · rintro i y σ H' hi ⟨rfl, s, v, hs, rfl⟩
    obtain ⟨z, _, rfl⟩ := int_of_map hi
    refine ⟨_, rfl, _, _, rfl, rfl, .inr ⟨by decide, by decide⟩, _, rfl, _, rfl, _, _, rfl, rfl, _, _, rfl, rfl, (by show (0 : Int) < 2147483647; decide), ?_⟩
    exact ⟨rfl, _, _, Int.emod_nonneg _ (by decide), rfl⟩
  · rintro σ H' ⟨rfl, s, v, hs, rfl⟩
    refine ⟨_, rfl, (by show 2 ≤ sizeLine; decide), fun p hp => ?_⟩
    have w1 := (Wd.refl H').new (.lst [V.int s, V.int 0]) hp
    refine ⟨_, rfl, a, rfl, ⟨_, w1.seq hS (by simp)⟩, fun D hD => ?_⟩
    have w2 := w1.new (.lst []) hD
    refine lc_list (K := K) (a := a) (xs := ns.map V.int) (fun i H2 => ∃ r : List Int, Wd [] H' H2 [(D, .lst (r.map V.int)), (p, .lst [V.int s, V.int 0])] ∧ (∀ x ∈ r, 0 ≤ x) ∧ r.length ≤ i)
      ⟨[], w2, by simp, by simp⟩ (fun i H2 _ ⟨r, w3, _⟩ => w3.seq hS (by simp)) ?_ ?_
    · rintro i y H2 hi ⟨r, w3, hr0, hrl⟩
      obtain ⟨z, hz, rfl⟩ := int_of_map hi
      have hi63 := (List.getElem?_eq_some_iff.mp hz).1
      refine ⟨rfl, _, rfl, _, _, rfl, rfl, ⟨by decide, by decide, by decide⟩, _, _, rfl, rfl, _, rfl, ?_⟩
      refine ite2 (fun hc => ?_) (fun _ => ⟨r, w3, hr0, by omega⟩)
      have hc' : (10 : Int) ^ (18 : Int).toNat ≤ z := of_decide_eq_true hc
      have z0 : 0 ≤ z := Int.le_trans (by decide) hc'
      refine ⟨_, rfl, _, w3.get 0 rfl, (by rw [List.length_map]; show r.length < sizeLine; exact Nat.lt_of_le_of_lt hrl (Nat.lt_of_lt_of_le hi63 (Nat.le_trans hl (by decide)))), r ++ [z], ?_, ?_, ?_⟩
      · have := w3.put 0 (.lst ((r ++ [z]).map V.int)) rfl (fun xs q => by cases q)
        rw [List.map_append] at this ⊢
        exact this
      · intro x hx
        rcases List.mem_append.mp hx with hx | hx
        · exact hr0 x hx
        · rw [List.mem_singleton.mp hx]; exact z0
      · simp; omega
    · rintro H2 ⟨r, w3, hr0, hrl⟩
      have hrl' : r.length ≤ 63 := by rw [List.length_map] at hrl; omega
      refine ⟨p, D, _, _, rfl, rfl, w3.get 1 rfl, w3.get 0 rfl, (by rw [List.length_map]; exact Nat.le_trans (Nat.add_le_add_left hrl' 2) (by decide)), fun q hq => ?_⟩
      refine k q s 0 r _ ?_ ⟨hs, by omega, hr0⟩
      exact (w3.new (dl s 0 r) hq).sub (by simp)
end
end Br

namespace Br
open PySem PySem.Spec PyProof.Rows L2
section
variable {P : Program} {w : World} {K : PySem.W.Frag} {mg : Str → Option Value} {base : Heap}
def listLen (H : Hp) : Option (Option V) → Nat
  | some (some (.ref p)) => match H p with
    | some (.lst l) => l.length
    | _ => 0
  | _ => 0
/-- an int or a text -/
def IS : V → Prop
  | .int _ => True
  | .str s => PySem.PyData.strOk s = true
  | _ => False
def spShuffled (K : PySem.W.Frag) : Sp := fun vs H Q _ => ∃ (d a : Addr) (x y : Int) (r : List Int) (xs : List V), vs = [.ref d, .ref a] ∧ (SqL K H a xs ∨ SqT K H a xs) ∧ H d = some (dl x y r) ∧ DOk x y r ∧ (∀ v ∈ xs, IS v) ∧ xs.length ≤ 1000 ∧
  ∀ (ys : List V) (p : Addr) (x' y' : Int) (r' : List Int) (H' : Hp), Wd [d] H H' [(d, dl x' y' r'), (p, .lst ys)] → DOk x' y' r' → ys.Perm xs → Q (.ref p) H'
def dataOf : V → PyData
  | .int i => .int i
  | .str s => .str s
  | _ => .none
theorem dp_all {H : Hp} : ∀ {xs : List V}, (∀ v ∈ xs, IS v) → DpAll K H xs (xs.map dataOf)
  | [], _ => .nil
  | v :: vs, h => by
    refine .cons ?_ (dp_all fun u hu => h u (List.mem_cons_of_mem _ hu))
    have := h v List.mem_cons_self
    cases v <;> first | exact .int _ | exact .str _ | exact False.elim this
theorem lay_all : ∀ {xs : List V}, (∀ v ∈ xs, IS v) → PyData.canLayAll0 (xs.map dataOf) = true
  | [], _ => rfl
  | v :: vs, h => by
    have h1 := h v List.mem_cons_self
    have h2 := lay_all (xs := vs) fun u hu => h u (List.mem_cons_of_mem _ hu)
    rw [List.map_cons, PyData.canLayAll0, h2, Bool.and_true]
    cases v <;> first | rfl | exact h1 | exact False.elim h1
theorem depth_all : ∀ {xs : List V}, PyData.depthAll (xs.map dataOf) = 0
  | [] => rfl
  | v :: vs => by
    rw [List.map_cons, PyData.depthAll, depth_all (xs := vs)]
    cases v <;> rfl
theorem shaped_list {xs : List V} (h : ∀ v ∈ xs, IS v) : SeqAt.shaped (.list (xs.map dataOf)) = true := by
  unfold SeqAt.shaped
  rw [PyData.canLay0, lay_all h, PyData.depth, depth_all]; rfl
theorem eqv_nil (ds : List PyData) : PyData.eqv (.list ds) (.list []) = ds.isEmpty := by
  rw [PyData.eqv]; cases ds <;> rfl
theorem erase_perm {α : Type} {l : List α} {i : Nat} {y : α} (h : l[i]? = some y) : (y :: l.eraseIdx i).Perm l := by
  induction l generalizing i with
  | nil => simp at h
  | cons a r ih =>
    cases i with
    | zero => simp at h; subst h; exact .refl _
    | succ i => exact (List.Perm.swap a y _).trans ((ih (by simpa using h)).cons a)
abbrev s_law_shuffled : Stmt := topS 36
theorem sc_law_shuffled : FnScope ["_law_d", "_law_items", "_law_pool", "_law_result"] ["_law_d", "_law_items"] (defScope s_law_shuffled) := ⟨rfl, rfl, rfl, by decide +kernel, rfl, by decide +kernel, by decide +kernel⟩
theorem cal_shuffled (D : DefAt K mg "_law_shuffled" s_law_shuffled ["_law_d", "_law_items"]) (T : Bi mg) (C1 : Cal P w K mg base 1 "_law_below" ["_law_d", "_law_limit"] spBelow) : Cal P w K mg base 2 "_law_shuffled" ["_law_d", "_law_items"] (spShuffled K) := D.cal fun f fd F => by
  have nd := sc_law_shuffled.nd
  obtain ⟨f_below, fd_below, m__law_below, kp__law_below, b__law_below, G__law_below⟩ := C1.ex
  refine F.ok sc_law_shuffled (fun vs H Q E h => ?_) (fun cdv A outer s H vs Q E hr h => ?_)
  · obtain ⟨d, a, x, y, r, xs, rfl, _⟩ := h; rfl
  obtain ⟨d, a, x, y, r, xs, rfl, hS, hd, ok, his, hl, k⟩ := h
  have hu := hr.units
  refine ⟨_, (pss_cons (ps_set (i := 2) nd rfl (Or.inl rfl) (pe_callTy (r := rListOf K) call_list_of (by rfl) T.list (by decide +kernel) (pa_cons (pv 1) pa_nil)))
 (pss_cons (ps_set (i := 3) nd rfl (Or.inl rfl) (pe_lst pa_nil))
 (pss_cons (ps_while PassesOwn.never (pt_cmpR (r := rNeD K) (op_neD hu) (pv 2) (pe_lst pa_nil) (nomark _))
 (pss_one (ps_expr (pe_bmK (K := K) rfl PySem.F.plainAttrs_list PySem.F.slot_list_append PySem.F.type_list_append mt_append (pv 3) (pa_cons (pe_bmK (K := K) rfl PySem.F.plainAttrs_list PySem.F.slot_list_pop PySem.F.type_list_pop mt_popAt (pv 2) (pa_cons (pe_call G__law_below (hr.mono (by first | decide | omega)) (by rfl) m__law_below kp__law_below b__law_below .nil pass0 (pa_cons (pv 0) (pa_cons (pe_callB (r := rLenS K) call_len_seq (by rfl) T.len PySem.boot_len (pa_cons (pv 2) pa_nil)) pa_nil))) pa_nil)) pa_nil)))))
 (pss_one (ps_ret (pv 3)))))), ?_⟩
  refine ⟨_, rfl, _, _, rfl, hS, fun pl hpl => ?_⟩
  have w1 := (Wd.start1 hd).new1 (.lst xs) hpl
  refine ⟨Nat.zero_le _, fun rs hrs => ?_⟩
  have w2 := w1.new1 (.lst []) hrs
  refine while_by (fun σ H' => ∃ (pool res : List V) (x y : Int) (r : List Int), σ = [some (.ref d), some (.ref a), some (.ref pl), some (.ref rs)] ∧ Wd [d] H H' [(d, dl x y r), (rs, .lst res), (pl, .lst pool)] ∧ DOk x y r ∧ (res ++ pool).Perm xs) (fun σ H => listLen H σ[2]?)
    ⟨xs, [], x, y, r, rfl, w2, ok, .refl _⟩ ?_ ?_
  · rintro σ H1 ⟨pool, res, x, y, r, rfl, w3, ok, hp⟩
    have hm : ∀ v ∈ pool, IS v := fun v hv => his v (hp.mem_iff.mp (List.mem_append_right _ hv))
    refine ⟨_, rfl, Nat.zero_le _, fun e he => ?_⟩
    have w4 := (w3.new1 (.lst []) he)
    refine ⟨.list (pool.map dataOf), .list [], .lst (SqL.of (w4.get 3 rfl)) (dp_all hm), .lst (SqL.of (w4.get 1 rfl)) .nil, shaped_list hm, rfl, _, rfl, ?_⟩
    rw [eqv_nil]
    cases pool with
    | nil =>
      refine iteF ?_
      refine ⟨_, rfl, ?_⟩
      rw [List.append_nil] at hp
      exact k res rs x y r _ (w4.sub (by simp)) ok hp
    | cons v0 vs0 =>
      refine iteT ?_
      have hlen : (v0 :: vs0).length ≤ 1000 := by
        have := hp.length_eq
        rw [List.length_append] at this
        omega
      have hlen0 : 0 < (v0 :: vs0).length := Nat.succ_pos _
      have hres : res.length < 1000 := by
        have := hp.length_eq
        rw [List.length_append] at this
        omega
      generalize v0 :: vs0 = pool at *
      refine ⟨_, rfl, .inl ⟨rfl, _, SqL.of (w4.get 2 rfl)⟩, _, rfl, .inl ⟨rfl, _, SqL.of (w4.get 3 rfl)⟩, _, rfl, _, rfl, pl, pool, rfl, .inl (SqL.of (w4.get 3 rfl)), ?_⟩
      refine ⟨d, _, x, y, r, rfl, by omega, by omega, w4.get 0 rfl, ok, fun i x' y' r' H2 c ok' hi0 hi1 => ?_⟩
      have w5 := w4.call1 (fun xs q => by cases q) c
      obtain ⟨j, rfl⟩ : ∃ j : Nat, i = j := ⟨i.toNat, by omega⟩
      have hj : j < pool.length := by omega
      refine ⟨pl, pool, j, j, pool[j], rfl, rfl, w5.get 3 rfl, by omega, by omega, ?_, List.getElem?_eq_getElem hj, ?_⟩
      · simp [seqIndex?]; omega
      have w6 := w5.put 3 (.lst (pool.eraseIdx j)) rfl (fun xs q => by cases q)
      refine ⟨rs, res, pool[j], rfl, rfl, w6.get 2 rfl, Nat.lt_trans hres (by decide), ?_⟩
      have w7 := w6.put 2 (.lst (res ++ [pool[j]])) rfl (fun xs q => by cases q)
      refine ⟨⟨pool.eraseIdx j, res ++ [pool[j]], x', y', r', rfl, w7.sub (by simp), ok', ?_⟩, ?_⟩
      · refine List.Perm.trans ?_ hp
        rw [List.append_assoc]
        exact (erase_perm (List.getElem?_eq_getElem hj)).append_left res
      · have h1 := w7.get 3 rfl
        have h2 := w3.get 2 rfl
        show listLen _ (some (some (.ref pl))) < listLen _ (some (some (.ref pl)))
        unfold listLen
        simp only [h1, h2]
        rw [List.length_eraseIdx]
        split <;> omega
  · intro σ H Q Q' h hc
    obtain ⟨v, e, z, q⟩ := hc
    exact ⟨v, e, z, fun p hp => by
      obtain ⟨d, e, h1, h2, h3, h4, c, h5, h6⟩ := q p hp
      exact ⟨d, e, h1, h2, h3, h4, c, h5, h _ _ h6⟩⟩
end
end Br

namespace Br
open PySem PySem.Spec PyProof.Rows L2
/-- a rota, as plain data -/
structure Rota where
  names : List Str
  turns : List Int
  weights : List Int
  aways : List (Int × Int × Int)
  makers : List Int
def tri (t : Int × Int × Int) : List V := [.int t.1, .int t.2.1, .int t.2.2]
/-- tuples of three ints -/
def AwAt (H : Hp) : List Addr → List (Int × Int × Int) → Prop := Paired fun a t => H a = some (.tup (tri t))
/-- the tuple of five at a -/
def RotaAt (H : Hp) (a : Addr) (r : Rota) : Prop := ∃ (an at_ aw aa am : Addr) (as : List Addr), H a = some (.tup [.ref an, .ref at_, .ref aw, .ref aa, .ref am]) ∧ H an = some (.tup (r.names.map V.str)) ∧
  H at_ = some (.tup (r.turns.map V.int)) ∧ H aw = some (.tup (r.weights.map V.int)) ∧ H aa = some (.tup (as.map V.ref)) ∧ AwAt H as r.aways ∧ H am = some (.tup (r.makers.map V.int))
def six : List Str := ["a", "b", "cc", "longname", "x", "zed"]
def lexLt (s t : Int × Int × Int) : Prop := s.1 < t.1 ∨ s.1 = t.1 ∧ (s.2.1 < t.2.1 ∨ s.2.1 = t.2.1 ∧ s.2.2 < t.2.2)
def AwOk (n : Int) (t : Int × Int × Int) : Prop := 0 ≤ t.1 ∧ t.1 < n ∧ 0 ≤ t.2.1 ∧ t.2.1 < t.2.2 ∧ t.2.2 ∈ ([2, 3, 4, 6, 8, 12] : List Int)
/-- a rota of the laws' make -/
structure ROk (r : Rota) : Prop where
  n1 : 1 ≤ r.names.length
  n6 : r.names.length ≤ 6
  nd : r.names.Nodup
  six : ∀ x ∈ r.names, x ∈ six
  t0 : ∀ t ∈ r.turns, 0 ≤ t ∧ t < r.names.length
  tall : ∀ k : Nat, k < r.names.length → (k : Int) ∈ r.turns
  t12 : r.turns.length ≤ 12
  wl : r.weights.length = r.names.length
  w0 : ∀ x ∈ r.weights, 1 ≤ x ∧ x ≤ 9
  asc : r.aways.Pairwise lexLt
  a6 : r.aways.length ≤ 6
  a0 : ∀ t ∈ r.aways, AwOk r.names.length t
  masc : r.makers.Pairwise (· < ·)
  m0 : ∀ k ∈ r.makers, 0 ≤ k ∧ k < r.names.length
theorem AwAt.keep {H H' : Hp} (k : ∀ b xs, H b = some (.tup xs) → H' b = some (.tup xs)) : ∀ {as : List Addr} {ts : List (Int × Int × Int)}, AwAt H as ts → AwAt H' as ts
  | _, _, .nil => .nil
  | _, _, .cons h t => .cons (k _ _ h) (AwAt.keep k t)
theorem RotaAt.keep {H H' : Hp} (k : ∀ b xs, H b = some (.tup xs) → H' b = some (.tup xs)) {a : Addr} {r : Rota} (h : RotaAt H a r) : RotaAt H' a r := by
  obtain ⟨an, at_, aw, aa, am, as, h1, h2, h3, h4, h5, h6, h7⟩ := h
  exact ⟨an, at_, aw, aa, am, as, k _ _ h1, k _ _ h2, k _ _ h3, k _ _ h4, k _ _ h5, h6.keep k, k _ _ h7⟩
theorem AwAt.length {H : Hp} : ∀ {as : List Addr} {ts : List (Int × Int × Int)}, AwAt H as ts → as.length = ts.length
  | _, _, .nil => rfl
  | _, _, .cons _ t => by rw [List.length_cons, List.length_cons, AwAt.length t]
theorem AwAt.append {H : Hp} : ∀ {as bs : List Addr} {ts us : List (Int × Int × Int)}, AwAt H as ts → AwAt H bs us → AwAt H (as ++ bs) (ts ++ us)
  | _, _, _, _, .nil, h => h
  | _, _, _, _, .cons h t, h' => .cons h (AwAt.append t h')
theorem pick {ns : List Int} {i : Int} (h0 : 0 ≤ i) (h1 : i < ns.length) : ∃ m ∈ ns, atI (ns.map V.int) i = some (V.int m) := by
  obtain ⟨j, rfl⟩ : ∃ j : Nat, i = j := ⟨i.toNat, by omega⟩
  have hj : j < ns.length := by omega
  exact ⟨ns[j], List.getElem_mem hj, atI_nat (by rw [List.getElem?_map, List.getElem?_eq_getElem hj]; rfl)⟩
theorem cut_take (xs : List V) {k : Int} (h : 0 ≤ k) : cutV xs none (some k) = xs.take k.toNat := by
  obtain ⟨j, rfl⟩ : ∃ j : Nat, k = j := ⟨k.toNat, by omega⟩
  unfold cutV
  rw [HT.sIx_none, HT.sIx_nat, List.drop_zero, Nat.sub_zero, Int.toNat_natCast]
  by_cases c : j ≤ xs.length
  · rw [Nat.min_eq_left c]
  · rw [Nat.min_eq_right (by omega), List.take_of_length_le (Nat.le_refl _), List.take_of_length_le (by omega)]
theorem cut_drop (xs : List V) {k : Int} (h : 0 ≤ k) : cutV xs (some k) none = xs.drop k.toNat := by
  obtain ⟨j, rfl⟩ : ∃ j : Nat, k = j := ⟨k.toNat, by omega⟩
  unfold cutV
  rw [HT.sIx_none, HT.sIx_nat, Int.toNat_natCast]
  by_cases c : j ≤ xs.length
  · rw [Nat.min_eq_left c]
    exact List.take_of_length_le (by rw [List.length_drop]; omega)
  · rw [Nat.min_eq_right (by omega), List.drop_eq_nil_of_le (Nat.le_refl _), List.drop_eq_nil_of_le (by omega), List.take_nil]
theorem six_is : ∀ v ∈ six.map V.str, IS v := fun v hv => by
  obtain ⟨s, hs, rfl⟩ := List.mem_map.mp hv
  have : ∀ s ∈ six, PySem.PyData.strOk s = true := by decide +kernel
  exact this s hs
def dataT (t : Int × Int × Int) : PyData := .tuple [.int t.1, .int t.2.1, .int t.2.2]
theorem dp_aw {K : PySem.W.Frag} {H : Hp} : ∀ {as : List Addr} {ts : List (Int × Int × Int)}, AwAt H as ts → DpAll K H (as.map V.ref) (ts.map dataT)
  | _, _, .nil => .nil
  | _, _, .cons h t => .cons (.tup (SqT.of h) (.cons (.int _) (.cons (.int _) (.cons (.int _) .nil)))) (dp_aw t)
theorem shaped_t (t : Int × Int × Int) : SeqAt.shaped (dataT t) = true := rfl
theorem lay_ts : ∀ ts : List (Int × Int × Int), PyData.canLayAll0 (ts.map dataT) = true
  | [] => rfl
  | t :: ts => by rw [List.map_cons, PyData.canLayAll0, lay_ts ts, Bool.and_true]; rfl
theorem depth_ts : ∀ ts : List (Int × Int × Int), PyData.depthAll (ts.map dataT) ≤ 1
  | [] => Nat.zero_le _
  | t :: ts => by
    rw [List.map_cons, PyData.depthAll]
    have h1 : (dataT t).depth = 1 := rfl
    have := depth_ts ts
    omega
theorem shaped_ts (ts : List (Int × Int × Int)) : SeqAt.shaped (.list (ts.map dataT)) = true := by
  unfold SeqAt.shaped
  rw [PyData.canLay0, lay_ts, PyData.depth, Bool.true_and]
  exact decide_eq_true (by have := depth_ts ts; omega)
theorem eqv_t (s t : Int × Int × Int) : PyData.eqv (dataT s) (dataT t) = decide (s = t) := by
  obtain ⟨a, b, c⟩ := s
  obtain ⟨a', b', c'⟩ := t
  show PyData.eqv (.tuple [.int a, .int b, .int c]) (.tuple [.int a', .int b', .int c']) = _
  rw [PyData.eqv, PyData.eqvAll, PyData.eqvAll, PyData.eqvAll, PyData.eqvAll, PyData.eqv, PyData.eqv, PyData.eqv, Bool.and_true]
  rw [Bool.eq_iff_iff]
  simp
theorem any_t (ts : List (Int × Int × Int)) (t : Int × Int × Int) : ((ts.map dataT).any fun z => PyData.eqv z (dataT t)) = decide (t ∈ ts) := by
  induction ts with
  | nil => rfl
  | cons s ts ih =>
    rw [List.map_cons, List.any_cons, ih, eqv_t, Bool.eq_iff_iff, Bool.or_eq_true, decide_eq_true_eq, decide_eq_true_eq, decide_eq_true_eq, List.mem_cons]
    exact ⟨fun h => h.imp Eq.symm id, fun h => h.imp Eq.symm id⟩
theorem AwAt.zip {H : Hp} : ∀ {as : List Addr} {ts : List (Int × Int × Int)}, AwAt H as ts → ∃ L : List (Addr × Int × Int × Int), as = L.map (·.1) ∧ ts = L.map (·.2) ∧ ∀ q ∈ L, H q.1 = some (.tup (tri q.2))
  | _, _, .nil => ⟨[], rfl, rfl, by simp⟩
  | _, _, .cons (a := a) (b := b) h t => by
    obtain ⟨L, e1, e2, h2⟩ := AwAt.zip t
    refine ⟨(a, b) :: L, by rw [List.map_cons, ← e1], by rw [List.map_cons, ← e2], fun q hq => ?_⟩
    rcases List.mem_cons.mp hq with rfl | hq
    · exact h
    · exact h2 q hq
theorem AwAt.of {H : Hp} : ∀ {L : List (Addr × Int × Int × Int)}, (∀ q ∈ L, H q.1 = some (.tup (tri q.2))) → AwAt H (L.map (·.1)) (L.map (·.2))
  | [], _ => .nil
  | q :: L, h => .cons (h q List.mem_cons_self) (AwAt.of fun r hr => h r (List.mem_cons_of_mem _ hr))
theorem code3 (a b c : Int) : TS.code 13 [a, b, c] = a * 169 + b * 13 + c := by
  have e2 : (13 : Int) ^ 2 = 169 := by decide
  have e1 : (13 : Int) ^ 1 = 13 := by decide
  have e0 : (13 : Int) ^ 0 = 1 := by decide
  show a * 13 ^ 2 + (b * 13 ^ 1 + (c * 13 ^ 0 + 0)) = _
  rw [e2, e1, e0]; omega
theorem lex_of_code {n : Int} (hn : n ≤ 13) {s t : Int × Int × Int} (hs : AwOk n s) (ht : AwOk n t) (h : TS.code 13 [s.1, s.2.1, s.2.2] ≤ TS.code 13 [t.1, t.2.1, t.2.2]) (ne : s ≠ t) : lexLt s t := by
  rw [code3, code3] at h
  obtain ⟨a, b, c⟩ := s
  obtain ⟨a', b', c'⟩ := t
  obtain ⟨h1, h2, h3, h4, h5⟩ := hs
  obtain ⟨g1, g2, g3, g4, g5⟩ := ht
  simp only at *
  have h6 : c ≤ 12 := by simp at h5; omega
  have g6 : c' ≤ 12 := by simp at g5; omega
  have : ¬ (a = a' ∧ b = b' ∧ c = c') := fun ⟨x, y, z⟩ => ne (by rw [x, y, z])
  unfold lexLt
  simp only
  omega
theorem pairwise_both {α : Type} {R S : α → α → Prop} {l : List α} (h : l.Pairwise R) (n : l.Nodup) (f : ∀ a ∈ l, ∀ b ∈ l, R a b → a ≠ b → S a b) : l.Pairwise S := by
  have := List.pairwise_and_iff.mpr ⟨h, n⟩
  exact this.imp_of_mem fun ha hb ⟨r, ne⟩ => f _ ha _ hb r ne
theorem perm_of_map {α β : Type} (f : α → β) : ∀ {l : List α} {ys : List β}, ys.Perm (l.map f) → ∃ l' : List α, ys = l'.map f ∧ l'.Perm l
  | [], ys, h => ⟨[], by simpa using h, .refl _⟩
  | x :: r, ys, h => by
    have hm : f x ∈ ys := h.mem_iff.mpr (by simp)
    obtain ⟨a, b, rfl⟩ := List.append_of_mem hm
    have h2 : (a ++ b).Perm (r.map f) := List.Perm.cons_inv (List.perm_middle.symm.trans h)
    obtain ⟨l', e, hp⟩ := perm_of_map f h2
    refine ⟨l'.take a.length ++ x :: l'.drop a.length, ?_, ?_⟩
    · have e1 : (l'.take a.length).map f = a := by rw [List.map_take, ← e, List.take_left]
      have e2 : (l'.drop a.length).map f = b := by rw [List.map_drop, ← e, List.drop_left]
      rw [List.map_append, List.map_cons, e1, e2]
    · refine List.perm_middle.trans (List.Perm.cons x ?_)
      rw [List.take_append_drop]; exact hp
section
variable {P : Program} {w : World} {K : PySem.W.Frag} {mg : Str → Option Value} {base : Heap}
def spRota (K : PySem.W.Frag) : Sp := fun vs H Q _ => ∃ (d : Addr) (n x y : Int) (r : List Int), vs = [.ref d, .int n] ∧ 1 ≤ n ∧ n ≤ 6 ∧ H d = some (dl x y r) ∧ DOk x y r ∧
  ∀ (ro : Rota) (a : Addr) (x' y' : Int) (r' : List Int) (H' : Hp), Wd [d] H H' [(d, dl x' y' r')] → DOk x' y' r' → RotaAt H' a ro → ROk ro → ro.names.length ≤ n.toNat → Q (.ref a) H'
abbrev s_law_rota : Stmt := topS 37
theorem sc_law_rota : FnScope ["_law_d", "_law_most", "_law_many", "_law_names", "_law_turns", "_law_weights", "_law_aways", "_law_k", "_law_modulus", "_law_away", "_law_makers"] ["_law_d", "_law_most"] (defScope s_law_rota) := ⟨rfl, rfl, rfl, by decide +kernel, rfl, by decide +kernel, by decide +kernel⟩
theorem cal_rota (D : DefAt K mg "_law_rota" s_law_rota ["_law_d", "_law_most"]) (T : Bi mg) (C1 : Cal P w K mg base 1 "_law_below" ["_law_d", "_law_limit"] spBelow) (C2 : Cal P w K mg base 2 "_law_shuffled" ["_law_d", "_law_items"] (spShuffled K)) : Cal P w K mg base 3 "_law_rota" ["_law_d", "_law_most"] (spRota K) := D.cal fun f fd F => by
  have nd := sc_law_rota.nd
  obtain ⟨f_below, fd_below, m__law_below, kp__law_below, b__law_below, G__law_below⟩ := C1.ex
  obtain ⟨f_sh, fd_sh, m__law_shuffled, kp__law_shuffled, b__law_shuffled, G__law_shuffled⟩ := C2.ex
  refine F.ok sc_law_rota (fun vs H Q E h => ?_) (fun cdv A outer s H vs Q E hr h => ?_)
  · obtain ⟨d, n, x, y, r, rfl, _⟩ := h; rfl
  obtain ⟨d, n, x, y, r, rfl, hn1, hn6, hd, ok, k⟩ := h
  have hu := hr.units
  have hu65 : (A.deeper (envOfC "_law_rota" (defScope s_law_rota) s.heap.objs.size f cdv)).units + 65 < cLine := by have := hr.un; omega
  refine ⟨_, (pss_cons (ps_set (i := 2) nd rfl (Or.inr rfl) (pe_op op_add pe_int (pe_call G__law_below (hr.mono (by first | decide | omega)) (by rfl) m__law_below kp__law_below b__law_below .nil pass0 (pa_cons (pv 0) (pa_cons (pv 1) pa_nil)))))
 (pss_cons (ps_set (i := 3) nd rfl (Or.inl rfl) (pe_callTy (r := rTupOf K) call_tuple_of (by rfl) T.tuple (by decide +kernel) (pa_cons (pe_slice (r := rSlL K) sl_list (pe_call G__law_shuffled (hr.mono (by first | decide | omega)) (by rfl) m__law_shuffled kp__law_shuffled b__law_shuffled .nil pass0 (pa_cons (pv 0) (pa_cons (pe_lst (pa_cons pe_str (pa_cons pe_str (pa_cons pe_str (pa_cons pe_str (pa_cons pe_str (pa_cons pe_str pa_nil))))))) pa_nil))) po_none (po_some (pv 2))) pa_nil)))
 (pss_cons (ps_set (i := 4) nd rfl (Or.inl rfl) (pe_op op_cat (pe_listRg rfl (by rfl) T.list (prg_1 (by rfl) T.range (pv 2))) (pe_lc (own := [("_law_k", 7)]) rfl nd (pi_range1 (by rfl) T.range (pa_cons (pe_call G__law_below (hr.mono (by first | decide | omega)) (by rfl) m__law_below kp__law_below b__law_below .nil pass0 (pa_cons (pv 0) (pa_cons (pe_ix (r := rIxL K) ix_list (pe_lst (pa_cons pe_int (pa_cons pe_int pa_nil))) (pe_call G__law_below (hr.mono (by first | decide | omega)) (by rfl) m__law_below kp__law_below b__law_below .nil pass0 (pa_cons (pv 0) (pa_cons pe_int pa_nil))) (fun _ _ => rfl)) pa_nil))) pa_nil)) (blkOk_by (N := ["_law_d", "_law_most", "_law_many", "_law_names", "_law_turns", "_law_weights", "_law_aways", "_law_k", "_law_modulus", "_law_away", "_law_makers"]) (sc := defScope s_law_rota) (by decide +kernel)) (fun _ _ _ _ _ => (pg_name (i := 7) nd rfl (Or.inl rfl))) (fun _ _ _ _ _ => pts_nil) (fun _ _ _ _ _ => (pe_call G__law_below (hr.mono (by first | decide | omega)) (by rfl) m__law_below kp__law_below b__law_below .nil pass0 (pa_cons (pv 0) (pa_cons (pv 2) pa_nil)))))))
 (C8.pss_cut (ps_set (i := 5) nd rfl (Or.inl rfl) (pe_op (r := rRepA K) op_repA (pe_tup (pa_cons pe_int pa_nil)) (pv 2)))
 (C8.pss_cut (ps_if (pt_cmpR op_eq (pe_call G__law_below (hr.mono (by first | decide | omega)) (by rfl) m__law_below kp__law_below b__law_below .nil pass0 (pa_cons (pv 0) (pa_cons pe_int pa_nil))) pe_int (nomark _))
 (pss_one (ps_set (i := 5) nd rfl (Or.inl rfl) (pe_callTy (r := rTupOf K) call_tuple_of (by rfl) T.tuple (by decide +kernel) (pa_cons (pe_lc (own := [("_law_k", 7)]) rfl nd (pi_range1 (by rfl) T.range (pa_cons (pv 2) pa_nil)) (blkOk_by (N := ["_law_d", "_law_most", "_law_many", "_law_names", "_law_turns", "_law_weights", "_law_aways", "_law_k", "_law_modulus", "_law_away", "_law_makers"]) (sc := defScope s_law_rota) (by decide +kernel)) (fun _ _ _ _ _ => (pg_name (i := 7) nd rfl (Or.inl rfl))) (fun _ _ _ _ _ => pts_nil) (fun _ _ _ _ _ => (pe_op op_add pe_int (pe_call G__law_below (hr.mono (by first | decide | omega)) (by rfl) m__law_below kp__law_below b__law_below .nil pass0 (pa_cons (pv 0) (pa_cons (pe_ix (r := rIxL K) ix_list (pe_lst (pa_cons pe_int (pa_cons pe_int pa_nil))) (pe_call G__law_below (hr.mono (by first | decide | omega)) (by rfl) m__law_below kp__law_below b__law_below .nil pass0 (pa_cons (pv 0) (pa_cons pe_int pa_nil))) (fun _ _ => rfl)) pa_nil)))))) pa_nil))))
 pss_nil)
 (pss_cons (ps_set (i := 6) nd rfl (Or.inl rfl) (pe_lst pa_nil))
 (pss_cons (ps_for PassesOwn.never rfl (pi_range1 (by rfl) T.range (pa_cons (pe_call G__law_below (hr.mono (by first | decide | omega)) (by rfl) m__law_below kp__law_below b__law_below .nil pass0 (pa_cons (pv 0) (pa_cons (pe_ix (r := rIxL K) ix_list (pe_lst (pa_cons pe_int (pa_cons pe_int pa_nil))) (pe_call G__law_below (hr.mono (by first | decide | omega)) (by rfl) m__law_below kp__law_below b__law_below .nil pass0 (pa_cons (pv 0) (pa_cons pe_int pa_nil))) (fun _ _ => rfl)) pa_nil))) pa_nil)) (pg_name (i := 7) nd rfl (Or.inl rfl))
 (pss_cons (ps_set (i := 8) nd rfl (Or.inl rfl) (pe_ix (r := rIxL K) ix_list (pe_lst (pa_cons pe_int (pa_cons pe_int (pa_cons pe_int (pa_cons pe_int (pa_cons pe_int (pa_cons pe_int pa_nil))))))) (pe_call G__law_below (hr.mono (by first | decide | omega)) (by rfl) m__law_below kp__law_below b__law_below .nil pass0 (pa_cons (pv 0) (pa_cons (pe_ix (r := rIxL K) ix_list (pe_lst (pa_cons pe_int (pa_cons pe_int (pa_cons pe_int pa_nil)))) (pe_call G__law_below (hr.mono (by first | decide | omega)) (by rfl) m__law_below kp__law_below b__law_below .nil pass0 (pa_cons (pv 0) (pa_cons pe_int pa_nil))) (fun _ _ => rfl)) pa_nil))) (fun _ _ => rfl)))
 (pss_cons (ps_set (i := 9) nd rfl (Or.inl rfl) (pe_tup (pa_cons (pe_call G__law_below (hr.mono (by first | decide | omega)) (by rfl) m__law_below kp__law_below b__law_below .nil pass0 (pa_cons (pv 0) (pa_cons (pv 2) pa_nil))) (pa_cons (pe_call G__law_below (hr.mono (by first | decide | omega)) (by rfl) m__law_below kp__law_below b__law_below .nil pass0 (pa_cons (pv 0) (pa_cons (pv 8) pa_nil))) (pa_cons (pv 8) pa_nil)))))
 (pss_one (ps_set (i := 6) nd rfl (Or.inl rfl) (pe_op op_cat (pv 6) (pe_op op_rep (pe_lst (pa_cons (pv 9) pa_nil)) (pe_callTy call_int1 (by rfl) T.int (by decide +kernel) (pa_cons (pe_cmpR (r := rNotInD K) (op_notInD hu65) (pv 9) (pv 6) (by rfl)) pa_nil)))))))))
 (pss_cons (ps_set (i := 10) nd rfl (Or.inl rfl) (pe_callTy (r := rTupOf K) call_tuple_of (by rfl) T.tuple (by decide +kernel) (pa_cons (pe_lc (own := [("_law_k", 7)]) rfl nd (pi_range1 (by rfl) T.range (pa_cons (pv 2) pa_nil)) (blkOk_by (N := ["_law_d", "_law_most", "_law_many", "_law_names", "_law_turns", "_law_weights", "_law_aways", "_law_k", "_law_modulus", "_law_away", "_law_makers"]) (sc := defScope s_law_rota) (by decide +kernel)) (fun _ _ _ _ _ => (pg_name (i := 7) nd rfl (Or.inl rfl))) (fun _ _ _ _ _ => (pts_one (pt_cmpR op_eq (pe_call G__law_below (hr.mono (by first | decide | omega)) (by rfl) m__law_below kp__law_below b__law_below .nil pass0 (pa_cons (pv 0) (pa_cons pe_int pa_nil))) pe_int (nomark _)))) (fun _ _ _ _ _ => (pv 7))) pa_nil)))
 (pss_one (ps_ret (pe_tup (pa_cons (pv 3) (pa_cons (pe_callTy (r := rTupOf K) call_tuple_of (by rfl) T.tuple (by decide +kernel) (pa_cons (pe_call G__law_shuffled (hr.mono (by first | decide | omega)) (by rfl) m__law_shuffled kp__law_shuffled b__law_shuffled .nil pass0 (pa_cons (pv 0) (pa_cons (pv 4) pa_nil))) pa_nil)) (pa_cons (pv 5) (pa_cons (pe_callTy (r := rTupOf K) call_tuple_of (by rfl) T.tuple (by decide +kernel) (pa_cons (pe_callB (r := rSortU K 3 13) (cr_sortT (by decide)) (by rfl) T.sorted (by decide +kernel) (pa_cons (pv 6) pa_nil)) pa_nil)) (pa_cons (pv 10) pa_nil)))))))))))))))), ?_⟩
  -- many
  refine ⟨_, rfl, _, rfl, d, n, x, y, r, rfl, by omega, by omega, hd, ok, fun i x y r H1 c ok hi0 hi1 => ?_⟩
  have w1 := (Wd.start1 hd).call1 (fun xs q => by cases q) c
  refine ⟨_, _, rfl, rfl, ?_⟩
  obtain ⟨m, rfl⟩ : ∃ m : Nat, i = (m : Int) := ⟨i.toNat, by omega⟩
  -- names
  refine ⟨_, rfl, (by show 6 ≤ sizeLine; decide), fun p hp => ?_⟩
  have w2 := w1.new1 (.lst (six.map V.str)) hp
  refine ⟨d, p, x, y, r, six.map V.str, rfl, .inl (SqL.of (w2.get 1 rfl)), w2.get 0 rfl, ok, ?_, by decide, fun ys q x y r H2 c ok hperm => ?_⟩
  · exact six_is
  have w3 := w2.call1 (fun xs q => by cases q) c
  obtain ⟨ns, rfl, hns⟩ := perm_of_map V.str hperm
  refine ⟨_, rfl, _, rfl, q, _, rfl, SqL.of (w3.get 1 rfl), fun p2 hp2 => ?_⟩
  rw [cut_take _ (by omega)]
  have w4 := w3.new1 (.lst ((ns.map V.str).take (1 + (m : Int)).toNat)) hp2
  refine ⟨p2, _, rfl, .inl ⟨SqL.of (w4.get 1 rfl), fun an han => ?_⟩⟩
  have w5 := (w4.new1 (.tup ((ns.map V.str).take (1 + (m : Int)).toNat)) han).sub (l' := [(d, dl x y r), (an, .tup ((ns.map V.str).take (1 + (m : Int)).toNat))]) (by simp)
  have em : (1 + (m : Int)).toNat = m + 1 := by omega
  rw [em, ← List.map_take] at w5 ⊢
  -- turns
  refine ⟨_, rfl, _, rfl, RgOk.of_le (by omega) (by omega) (by omega) (by omega), fun q hq => ?_⟩
  have w6 := w5.new1 (.lst (rgV 0 (1 + (m : Int)))) hq
  refine ⟨_, rfl, (by show 2 ≤ sizeLine; decide), fun p hp => ?_⟩
  have w7 := w6.new1 (.lst (([2, 7] : List Int).map V.int)) hp
  refine ⟨_, rfl, d, 2, x, y, r, rfl, by omega, by omega, w7.get 0 rfl, ok, fun i x y r H1 c ok hi0 hi1 => ?_⟩
  have w8 := w7.call1 (fun xs q => by cases q) c
  obtain ⟨z, hz, hz2⟩ := pick (ns := [2, 7]) hi0 hi1
  refine ⟨p, _, i, _, rfl, rfl, SqL.of (w8.get 1 rfl), hz2, ?_⟩
  have hz3 : z = 2 ∨ z = 7 := by simpa using hz
  refine ⟨d, z, x, y, r, rfl, by omega, by omega, w8.get 0 rfl, ok, fun j x y r H1 c ok hj0 hj1 => ?_⟩
  have w9 := (w8.call1 (fun xs q => by cases q) c).sub (l' := [(d, dl x y r), (q, .lst (rgV 0 (1 + (m : Int)))), (an, .tup ((ns.take (m + 1)).map V.str))]) (by simp)
  refine ⟨j, rfl, by omega, by omega, fun D hD => ?_⟩
  have w10 := w9.new1 (.lst []) hD
  refine lc_range (lo := 0) (n := j.toNat) (fun i H2 => ∃ (l : List Int) (x y : Int) (r : List Int), Wd [d] H H2 [(d, dl x y r), (D, .lst (l.map V.int)), (q, .lst (rgV 0 (1 + (m : Int)))), (an, .tup ((ns.take (m + 1)).map V.str))] ∧ DOk x y r ∧ (∀ t ∈ l, 0 ≤ t ∧ t < 1 + (m : Int)) ∧ l.length = i)
    ⟨[], x, y, r, w10, ok, by simp, rfl⟩ ?_ ?_
  · rintro i H2 hi ⟨l, x, y, r, w11, ok, hl, hll⟩
    refine ⟨rfl, _, rfl, _, rfl, d, _, x, y, r, rfl, by omega, by omega, w11.get 0 rfl, ok, fun t x y r H1 c ok ht0 ht1 => ?_⟩
    have w12 := w11.call1 (fun xs q => by cases q) c
    have hll' : l.length ≤ 10 := by omega
    refine ⟨_, w12.get 1 rfl, Nat.lt_of_le_of_lt (by rw [List.length_map]; exact hll') (by decide), l ++ [t], x, y, r, ?_, ok, ?_, by simp; omega⟩
    · have := w12.put 1 (.lst ((l ++ [t]).map V.int)) rfl (fun xs q => by cases q)
      rw [List.map_append] at this ⊢
      exact this
    · intro u hu
      rcases List.mem_append.mp hu with hu | hu
      · exact hl u hu
      · rw [List.mem_singleton.mp hu]; exact ⟨ht0, ht1⟩
  rintro H2 ⟨l, x, y, r, w11, ok, hl, hll⟩
  refine ⟨q, D, _, _, rfl, rfl, w11.get 2 rfl, w11.get 1 rfl, ?_, fun tn htn => ?_⟩
  · rw [rgV_length, List.length_map]; exact Nat.le_trans (m := 100) (by omega) (by decide)
  have w12 := (w11.new1 (.lst (rgV 0 (1 + (m : Int)) ++ l.map V.int)) htn).sub (l' := [(d, dl x y r), (tn, .lst (rgV 0 (1 + (m : Int)) ++ l.map V.int)), (an, .tup ((ns.take (m + 1)).map V.str))]) (by simp)
  have el : rgV 0 (1 + (m : Int)) ++ l.map V.int = ((List.range (m + 1)).map (fun i : Nat => (i : Int)) ++ l).map V.int := by
    unfold rgV
    rw [List.map_append, List.map_map, show (1 + (m : Int) - 0).toNat = m + 1 by omega]
    congr 1
    refine List.map_congr_left fun i _ => ?_
    show V.int (0 + (i : Int)) = V.int i
    rw [Int.zero_add]
  rw [el] at w12 ⊢
  clear el
  generalize hT : (List.range (m + 1)).map (fun i : Nat => (i : Int)) ++ l = tu at w12 ⊢
  have htu : (∀ t ∈ tu, 0 ≤ t ∧ t < 1 + (m : Int)) ∧ (∀ k : Nat, k < m + 1 → (k : Int) ∈ tu) ∧ tu.length ≤ 12 := by
    subst hT
    refine ⟨fun t ht => ?_, fun k hk => ?_, ?_⟩
    · rcases List.mem_append.mp ht with ht | ht
      · obtain ⟨u, hu, rfl⟩ := List.mem_map.mp ht
        have := List.mem_range.mp hu
        omega
      · exact hl t ht
    · exact List.mem_append_left _ (List.mem_map.mpr ⟨k, List.mem_range.mpr hk, rfl⟩)
    · rw [List.length_append, List.length_map, List.length_range]; omega
  generalize hN : ns.take (m + 1) = nm at w12 ⊢
  have hnm : nm.length = m + 1 ∧ nm.Nodup ∧ ∀ x ∈ nm, x ∈ six := by
    subst hN
    have h6 : ns.length = 6 := hns.length_eq
    refine ⟨by rw [List.length_take]; omega, List.Nodup.sublist (List.take_sublist _ _) (hns.nodup_iff.mpr (by decide +kernel)), fun x hx => hns.mem_iff.mp (List.mem_of_mem_take hx)⟩
  -- weights
  have Mid : ∃ Mid : L2.St → Hp → Prop, Mid = fun σ H' => ∃ (aw : Addr) (ws : List Int) (x y : Int) (r : List Int), σ = [some (.ref d), some (.int n), some (.int (1 + (m : Int))), some (.ref an), some (.ref tn), some (.ref aw), none, none, none, none, none] ∧
    Wd [d] H H' [(d, dl x y r), (tn, .lst (tu.map V.int)), (an, .tup (nm.map V.str)), (aw, .tup (ws.map V.int))] ∧ DOk x y r ∧ ws.length = m + 1 ∧ ∀ v ∈ ws, 1 ≤ v ∧ v ≤ 9 := ⟨_, rfl⟩
  obtain ⟨Mid, hMid⟩ := Mid
  have hrep : ∀ k : Nat, (List.replicate k [V.int 1]).flatten = (List.replicate k (1 : Int)).map V.int := fun k => by
    induction k with
    | zero => rfl
    | succ k ih => rw [List.replicate_succ, List.flatten_cons, ih, List.replicate_succ]; rfl
  refine ⟨Mid, ?_, ?_⟩
  · refine ⟨(by show 1 ≤ sizeLine; decide), fun p hp => ?_⟩
    have w13 := w12.new (.tup [V.int 1]) hp
    refine ⟨_, rfl, p, _, _, rfl, rfl, SqT.of (w13.get 0 rfl), by simp, by omega, by omega, by show 1 ≤ 1000; decide, fun e => ?_, fun e q hq => ?_⟩
    · rw [hMid]
      have em0 : m = 0 := by omega
      subst em0
      exact ⟨p, [1], x, y, r, rfl, w13.perm (by
        show List.Perm [(p, HO.tup [V.int 1]), _, _, _] [_, _, _, _]
        exact (List.perm_append_comm (l₁ := [(p, HO.tup [V.int 1])]) (l₂ := [_, _, _]))), ok, rfl, by simp⟩
    · rw [hMid]
      refine ⟨q, List.replicate (m + 1) 1, x, y, r, rfl, ?_, ok, by simp, ?_⟩
      · have w14 := w13.new (.tup (List.replicate (1 + (m : Int)).toNat [V.int 1]).flatten) hq
        rw [em, hrep] at w14 ⊢
        refine (w14.perm (List.perm_append_comm (l₁ := [_, _]) (l₂ := [_, _, _]))).sub ?_
        simp
      · intro v hv
        rw [(List.mem_replicate.mp hv).2]; omega
  rintro σ H3 hmid
  -- if _law_below(_law_d, 2) == 0: weights
  refine ⟨Mid, ?_, ?_⟩
  · rw [hMid] at hmid
    obtain ⟨aw, ws, x, y, r, rfl, w1, ok, hwl, hw0⟩ := hmid
    refine ⟨_, rfl, d, 2, x, y, r, rfl, by omega, by omega, w1.get 0 rfl, ok, fun i x y r H1 c ok hi0 hi1 => ?_⟩
    have w2 := w1.call1 (fun xs q => by cases q) c
    refine ⟨rfl, _, rfl, ?_⟩
    refine ite2 (fun _ => ?_) (fun _ => ?_)
    · refine ⟨_, rfl, _, rfl, by omega, by omega, fun D hD => ?_⟩
      have w3 := w2.new1 (.lst []) hD
      refine lc_range (lo := 0) (n := (1 + (m : Int)).toNat) (fun i H2 => ∃ (l : List Int) (x y : Int) (r : List Int), Wd [d] H H2 [(d, dl x y r), (D, .lst (l.map V.int)), (tn, .lst (tu.map V.int)), (an, .tup (nm.map V.str))] ∧ DOk x y r ∧ (∀ t ∈ l, 1 ≤ t ∧ t ≤ 9) ∧ l.length = i)
        ⟨[], x, y, r, w3.sub (by simp), ok, by simp, rfl⟩ ?_ ?_
      · rintro i H2 hi ⟨l, x, y, r, w4, ok, hl, hll⟩
        refine ⟨rfl, _, rfl, (by show 2 ≤ sizeLine; decide), fun p hp => ?_⟩
        have w5 := w4.new1 (.lst (([3, 9] : List Int).map V.int)) hp
        refine ⟨_, rfl, d, 2, x, y, r, rfl, by omega, by omega, w5.get 0 rfl, ok, fun i' x y r H1 c ok hi0 hi1 => ?_⟩
        have w6 := w5.call1 (fun xs q => by cases q) c
        obtain ⟨z, hz, hz2⟩ := pick (ns := [3, 9]) hi0 hi1
        refine ⟨p, _, i', _, rfl, rfl, SqL.of (w6.get 1 rfl), hz2, ?_⟩
        have hz3 : z = 3 ∨ z = 9 := by simpa using hz
        refine ⟨d, z, x, y, r, rfl, by omega, by omega, w6.get 0 rfl, ok, fun j x y r H1 c ok hj0 hj1 => ?_⟩
        have w7 := w6.call1 (fun xs q => by cases q) c
        refine ⟨_, _, rfl, rfl, ?_⟩
        refine ⟨_, w7.get 2 rfl, Nat.lt_of_le_of_lt (m := 100) (by rw [List.length_map]; omega) (by decide), l ++ [1 + j], x, y, r, ?_, ok, ?_, by simp; omega⟩
        · have := w7.put 2 (.lst ((l ++ [1 + j]).map V.int)) rfl (fun xs q => by cases q)
          rw [List.map_append] at this ⊢
          exact this.sub (by simp)
        · intro u hu
          rcases List.mem_append.mp hu with hu | hu
          · exact hl u hu
          · rw [List.mem_singleton.mp hu]; omega
      rintro H2 ⟨l, x, y, r, w4, ok, hl, hll⟩
      refine ⟨D, _, rfl, .inl ⟨SqL.of (w4.get 1 rfl), fun t ht => ?_⟩⟩
      show Mid _ _
      rw [hMid]
      refine ⟨t, l, x, y, r, rfl, ?_, ok, by omega, hl⟩
      exact ((w4.new (.tup (l.map V.int)) ht).perm (List.perm_append_comm (l₁ := [_]) (l₂ := [_, _, _, _]))).sub (by simp)
    · show Mid _ _
      rw [hMid]
      exact ⟨aw, ws, x, y, r, rfl, w2.sub (by simp), ok, hwl, hw0⟩
  intro σ H4 hmid
  rw [hMid] at hmid
  obtain ⟨aw, ws, x, y, r, rfl, w1, ok, hwl, hw0⟩ := hmid
  -- aways
  refine ⟨Nat.zero_le _, fun al hal => ?_⟩
  have w2 := w1.new1 (.lst []) hal
  refine ⟨_, rfl, (by show 2 ≤ sizeLine; decide), fun p hp => ?_⟩
  have w3 := w2.new1 (.lst (([3, 7] : List Int).map V.int)) hp
  refine ⟨_, rfl, d, 2, x, y, r, rfl, by omega, by omega, w3.get 0 rfl, ok, fun i x y r H1 c ok hi0 hi1 => ?_⟩
  have w4 := w3.call1 (fun xs q => by cases q) c
  obtain ⟨z, hz, hz2⟩ := pick (ns := [3, 7]) hi0 hi1
  refine ⟨p, _, i, _, rfl, rfl, SqL.of (w4.get 1 rfl), hz2, ?_⟩
  have hz3 : z = 3 ∨ z = 7 := by simpa using hz
  refine ⟨d, z, x, y, r, rfl, by omega, by omega, w4.get 0 rfl, ok, fun j x y r H1 c ok hj0 hj1 => ?_⟩
  have w5 := (w4.call1 (fun xs q => by cases q) c).sub (l' := [(d, dl x y r), (al, .lst []), (tn, .lst (tu.map V.int)), (an, .tup (nm.map V.str)), (aw, .tup (ws.map V.int))]) (by simp)
  refine ⟨j, rfl, by omega, by omega, for_range (lo := 0) (n := j.toNat) (fun i σ H' => ∃ (al : Addr) (as : List Addr) (ts : List (Int × Int × Int)) (v7 v8 v9 : Option V) (x y : Int) (r : List Int),
    σ = [some (.ref d), some (.int n), some (.int (1 + (m : Int))), some (.ref an), some (.ref tn), some (.ref aw), some (.ref al), v7, v8, v9, none] ∧
    Wd [d] H H' [(d, dl x y r), (al, .lst (as.map V.ref)), (tn, .lst (tu.map V.int)), (an, .tup (nm.map V.str)), (aw, .tup (ws.map V.int))] ∧ DOk x y r ∧ AwAt H' as ts ∧ ts.Nodup ∧ (∀ t ∈ ts, AwOk (1 + (m : Int)) t) ∧ ts.length ≤ i)
    ⟨al, [], [], none, none, none, x, y, r, rfl, w5, ok, .nil, List.nodup_nil, by simp, by simp⟩ ?_ ?_⟩
  · rintro i σ H5 hi ⟨al, as, ts, v7, v8, v9, x, y, r, rfl, w6, ok, haw, htn, hto, htl⟩
    have hc2 : (1 + (m : Int)) < 1073741824 := by omega
    refine ⟨(by show 6 ≤ sizeLine; decide), fun p hp => ?_⟩
    have w7 := w6.new1 (.lst (([2, 3, 4, 6, 8, 12] : List Int).map V.int)) hp
    refine ⟨_, rfl, (by show 3 ≤ sizeLine; decide), fun p2 hp2 => ?_⟩
    have k1 := ((KT.refl H5).new (o := .lst (([2, 3, 4, 6, 8, 12] : List Int).map V.int)) hp)
    have w8 := w7.new1 (.lst (([2, 4, 6] : List Int).map V.int)) hp2
    refine ⟨_, rfl, d, 3, x, y, r, rfl, by omega, by omega, w8.get 0 rfl, ok, fun i' x y r H1 c ok hi0 hi1 => ?_⟩
    have k2 := (k1.new (o := .lst (([2, 4, 6] : List Int).map V.int)) hp2).call c
    have w9 := w8.call1 (fun xs q => by cases q) c
    obtain ⟨z, hz, hz2⟩ := pick (ns := [2, 4, 6]) hi0 hi1
    refine ⟨p2, _, i', _, rfl, rfl, SqL.of (w9.get 1 rfl), hz2, ?_⟩
    have hz3 : z = 2 ∨ z = 4 ∨ z = 6 := by simpa using hz
    refine ⟨d, z, x, y, r, rfl, by omega, by omega, w9.get 0 rfl, ok, fun i2 x y r H1 c ok hi0 hi1 => ?_⟩
    have k3 := k2.call c
    have w10 := w9.call1 (fun xs q => by cases q) c
    obtain ⟨mo, hmo, hmo2⟩ := pick (ns := [2, 3, 4, 6, 8, 12]) hi0 (show i2 < (6 : Int) by omega)
    refine ⟨p, _, i2, _, rfl, rfl, SqL.of (w10.get 2 rfl), hmo2, ?_⟩
    have hmo3 : 2 ≤ mo ∧ mo ≤ 12 := by simp at hmo; omega
    -- the absence
    refine ⟨_, rfl, _, rfl, d, _, x, y, r, rfl, by omega, hc2, w10.get 0 rfl, ok, fun pe x y r H1 c ok hp0 hp1 => ?_⟩
    have k4 := k3.call c
    have w11 := w10.call1 (fun xs q => by cases q) c
    refine ⟨_, rfl, _, rfl, d, _, x, y, r, rfl, by omega, by omega, w11.get 0 rfl, ok, fun re x y r H1 c ok hr0 hr1 => ?_⟩
    have w12 := (w11.call1 (fun xs q => by cases q) c).sub (l' := [(d, dl x y r), (al, .lst (as.map V.ref)), (tn, .lst (tu.map V.int)), (an, .tup (nm.map V.str)), (aw, .tup (ws.map V.int))]) (by simp)
    refine ⟨_, rfl, (by show 3 ≤ sizeLine; decide), fun t ht => ?_⟩
    have haw2 : AwAt H1 as ts := haw.keep (k4.call c)
    have w13 := w12.new1 (.tup (tri (pe, re, mo))) ht
    have haw3 : AwAt (upd H1 t (.tup (tri (pe, re, mo)))) as ts := haw2.keep fun b xs e => by rw [upd_ne (ne_of_none e ht)]; exact e
    refine ⟨_, rfl, _, rfl, (by show 1 ≤ sizeLine; decide), fun q hq => ?_⟩
    have w14 := w13.new1 (.lst [V.ref t]) hq
    have haw4 : AwAt _ as ts := haw3.keep fun b xs e => (upd_ne (o := .lst [V.ref t]) (ne_of_none e hq)).trans e
    refine ⟨_, rfl, _, rfl, dataT (pe, re, mo), ts.map dataT, .tup (SqT.of (w14.get 2 rfl)) (.cons (.int _) (.cons (.int _) (.cons (.int _) .nil))), .lst (SqL.of (w14.get 3 rfl)) (dp_aw haw4), shaped_t _, shaped_ts _, ?_⟩
    rw [any_t]
    have hts : ts.length ≤ 5 := by omega
    have hb : ∀ e : Bool, (if (!e) = true then (1 : Int) else 0) = if e = true then 0 else 1 := fun e => by cases e <;> rfl
    refine .inr ⟨_, rfl, q, _, [V.ref t], rfl, rfl, w14.get 1 rfl, ?_, ?_, ?_, fun u hu' => ?_⟩
    · rw [hb]; split <;> decide
    · rw [hb]; split <;> decide
    · rw [hb]
      split
      · exact (by decide : 1 * (0 : Int).toNat ≤ sizeLine)
      · exact (by decide : 1 * (1 : Int).toNat ≤ sizeLine)
    rw [hb] at *
    have w15 := w14.new1 (.lst (List.replicate (if decide ((pe, re, mo) ∈ ts) = true then (0 : Int) else 1).toNat [V.ref t]).flatten) hu'
    have e1 : as.length = ts.length := haw.length
    refine ⟨al, u, _, _, rfl, rfl, w15.get 4 rfl, w15.get 1 rfl, ?_, fun v hv => ?_⟩
    · rw [List.length_map, e1]
      by_cases c : (pe, re, mo) ∈ ts
      · rw [decide_eq_true c]; exact Nat.le_trans (m := 100) (by simp; omega) (by decide)
      · rw [decide_eq_false c]; exact Nat.le_trans (m := 100) (by simp; omega) (by decide)
    have w16 := w15.new1 (.lst (as.map V.ref ++ (List.replicate (if decide ((pe, re, mo) ∈ ts) = true then (0 : Int) else 1).toNat [V.ref t]).flatten)) hv
    have haw5 : AwAt _ as ts := haw4.keep (((KT.refl _).new (o := .lst (List.replicate (if decide ((pe, re, mo) ∈ ts) = true then (0 : Int) else 1).toNat [V.ref t]).flatten) hu').new (o := .lst (as.map V.ref ++ (List.replicate (if decide ((pe, re, mo) ∈ ts) = true then (0 : Int) else 1).toNat [V.ref t]).flatten)) hv)
    have htt := w16.get 4 rfl
    have w17 := w16.sub (l' := [(d, dl x y r), (v, .lst (as.map V.ref ++ (List.replicate (if decide ((pe, re, mo) ∈ ts) = true then (0 : Int) else 1).toNat [V.ref t]).flatten)), (tn, .lst (tu.map V.int)), (an, .tup (nm.map V.str)), (aw, .tup (ws.map V.int))]) (by walk_at "sub")
    clear w15 w16 w14 w13
    by_cases c : (pe, re, mo) ∈ ts
    · rw [decide_eq_true c] at *
      refine ⟨v, as, ts, _, _, _, x, y, r, rfl, ?_, ok, haw5, htn, hto, by omega⟩
      rw [if_pos rfl] at *
      simpa [tri] using w17
    · rw [decide_eq_false c] at *
      refine ⟨v, as ++ [t], ts ++ [(pe, re, mo)], _, _, _, x, y, r, rfl, ?_, ok, haw5.append (.cons htt .nil), ?_, ?_, by simp; omega⟩
      · rw [if_neg (by decide)] at *
        simpa [tri] using w17
      · rw [List.nodup_append]
        exact ⟨htn, by simp, fun a ha b hb => by rw [List.mem_singleton.mp hb]; exact fun e => c (e ▸ ha)⟩
      · intro a ha
        rcases List.mem_append.mp ha with ha | ha
        · exact hto a ha
        · rw [List.mem_singleton.mp ha]; exact ⟨hp0, hp1, hr0, hr1, hmo⟩
  rintro σ H5 ⟨al, as, ts, v7, v8, v9, x, y, r, rfl, w6, ok, haw, htn, hto, htl⟩
  have htl6 : ts.length ≤ 6 := by omega
  -- makers
  refine ⟨_, rfl, _, rfl, by omega, by omega, fun D hD => ?_⟩
  have w7 := w6.new1 (.lst []) hD
  have haw2 : AwAt _ as ts := haw.keep ((KT.refl H5).new (o := .lst []) hD)
  refine lc_range (lo := 0) (n := (1 + (m : Int)).toNat) (fun i H2 => ∃ (l : List Int) (x y : Int) (r : List Int), Wd [d] H H2 [(d, dl x y r), (D, .lst (l.map V.int)), (al, .lst (as.map V.ref)), (tn, .lst (tu.map V.int)), (an, .tup (nm.map V.str)), (aw, .tup (ws.map V.int))] ∧ DOk x y r ∧ AwAt H2 as ts ∧ l.Pairwise (· < ·) ∧ (∀ t ∈ l, 0 ≤ t ∧ t < i) ∧ l.length ≤ i)
    ⟨[], x, y, r, w7, ok, haw2, .nil, by simp, by simp⟩ ?_ ?_
  · rintro i H2 hi ⟨l, x, y, r, w8, ok, haw, hlp, hl, hll⟩
    refine ⟨rfl, _, rfl, d, 2, x, y, r, rfl, by omega, by omega, w8.get 0 rfl, ok, fun i' x y r H1 c ok hi0 hi1 => ?_⟩
    have haw2 : AwAt H1 as ts := haw.keep ((KT.refl _).call c)
    have w9 := w8.call1 (fun xs q => by cases q) c
    refine ⟨rfl, _, rfl, ?_⟩
    refine ite2 (fun _ => ?_) (fun _ => ⟨l, x, y, r, w9, ok, haw2, hlp, fun t ht => by have := hl t ht; omega, by omega⟩)
    refine ⟨_, rfl, _, w9.get 1 rfl, Nat.lt_of_le_of_lt (m := 100) (by rw [List.length_map]; omega) (by decide), l ++ [0 + (i : Int)], x, y, r, ?_, ok, ?_, ?_, ?_, by simp; omega⟩
    · have := w9.put 1 (.lst ((l ++ [0 + (i : Int)]).map V.int)) rfl (fun xs q => by cases q)
      rw [List.map_append] at this ⊢
      exact this
    · exact haw2.keep ((KT.refl _).put (w9.get 1 rfl) (fun xs q => by cases q))
    · rw [List.pairwise_append]
      exact ⟨hlp, by simp, fun a ha b hb => by rw [List.mem_singleton.mp hb]; have := hl a ha; omega⟩
    · intro t ht
      rcases List.mem_append.mp ht with ht | ht
      · have := hl t ht; omega
      · rw [List.mem_singleton.mp ht]; omega
  rintro H6 ⟨mk, x, y, r, w8, ok, haw, hmp, hmo, hml⟩
  have hlim : (1 + (m : Int)).toNat ≤ 6 := by omega
  refine ⟨D, _, rfl, .inl ⟨SqL.of (w8.get 1 rfl), fun am ham => ?_⟩⟩
  have w9 := (w8.new1 (.tup (mk.map V.int)) ham).sub (l' := [(d, dl x y r), (am, .tup (mk.map V.int)), (al, .lst (as.map V.ref)), (tn, .lst (tu.map V.int)), (an, .tup (nm.map V.str)), (aw, .tup (ws.map V.int))]) (by walk_at "sub")
  have haw3 := haw.keep ((KT.refl _).new (o := .tup (mk.map V.int)) ham)
  -- the tuple
  refine ⟨_, rfl, _, rfl, _, rfl, d, tn, x, y, r, tu.map V.int, rfl, .inl (SqL.of (w9.get 3 rfl)), w9.get 0 rfl, ok, ?_, ?_, fun ys q x y r H2 c ok hperm => ?_⟩
  · intro v hv
    obtain ⟨z, _, rfl⟩ := List.mem_map.mp hv
    trivial
  · rw [List.length_map]; exact Nat.le_trans htu.2.2 (by decide)
  obtain ⟨tz, rfl, htz⟩ := perm_of_map V.int hperm
  have haw4 := haw3.keep ((KT.refl _).call c)
  have w10 := w9.call1 (fun xs q => by cases q) c
  refine ⟨q, _, rfl, .inl ⟨SqL.of (w10.get 1 rfl), fun at_ hat => ?_⟩⟩
  have w11 := w10.new1 (.tup (tz.map V.int)) hat
  have haw5 := haw4.keep ((KT.refl _).new (o := .tup (tz.map V.int)) hat)
  obtain ⟨L, e1, e2, hL⟩ := haw5.zip
  have htd : ts.length = L.length := by rw [e2, List.length_map]
  refine ⟨_, rfl, _, rfl, al, as.map V.ref, rfl, SqL.of (w11.get 4 rfl), ?_, ?_, fun ys p hperm hpw hp => ?_⟩
  · rw [List.length_map, haw.length]; omega
  · intro u hu
    obtain ⟨a, ha, rfl⟩ := List.mem_map.mp hu
    rw [e1] at ha
    obtain ⟨g, hg, rfl⟩ := List.mem_map.mp ha
    have ho := hto g.2 (by rw [e2]; exact List.mem_map.mpr ⟨g, hg, rfl⟩)
    refine ⟨[g.2.1, g.2.2.1, g.2.2.2], ⟨g.1, rfl, SqT.of (hL g hg)⟩, rfl, fun z hz => ?_⟩
    obtain ⟨h1, h2, h3, h4, h5⟩ := ho
    have h6 : g.2.2.2 ≤ 12 := by simp at h5; omega
    simp only [List.mem_cons, List.not_mem_nil, or_false] at hz
    rcases hz with rfl | rfl | rfl <;> omega
  rw [e1, List.map_map] at hperm
  obtain ⟨L2, rfl, hL2⟩ := perm_of_map _ hperm
  have w12 := w11.new1 (.lst (L2.map (V.ref ∘ fun x => x.1))) hp
  have hL3 : ∀ g ∈ L2, upd _ p (.lst (L2.map (V.ref ∘ fun x => x.1))) g.1 = some (.tup (tri g.2)) := fun g hg => (upd_ne (ne_of_none (hL g (hL2.mem_iff.mp hg)) hp)).trans (hL g (hL2.mem_iff.mp hg))
  have hsorted : (L2.map (·.2)).Pairwise lexLt := by
    have hpt : (L2.map (·.2)).Perm ts := by rw [e2]; exact hL2.map _
    rw [List.pairwise_map] at hpw
    have hpw2 : L2.Pairwise fun s t => TS.code 13 [s.2.1, s.2.2.1, s.2.2.2] ≤ TS.code 13 [t.2.1, t.2.2.1, t.2.2.2] :=
      hpw.imp_of_mem fun {s t} hs ht h => h _ _ ⟨s.1, rfl, SqT.of (hL s (hL2.mem_iff.mp hs))⟩ ⟨t.1, rfl, SqT.of (hL t (hL2.mem_iff.mp ht))⟩
    have hpw3 : (L2.map (·.2)).Pairwise fun s t => TS.code 13 [s.1, s.2.1, s.2.2] ≤ TS.code 13 [t.1, t.2.1, t.2.2] := List.pairwise_map.mpr hpw2
    exact pairwise_both hpw3 (hpt.nodup_iff.mpr htn) fun a ha b hb h ne => lex_of_code (n := 1 + (m : Int)) (by omega) (hto a (hpt.mem_iff.mp ha)) (hto b (hpt.mem_iff.mp hb)) h ne
  refine ⟨p, _, rfl, .inl ⟨SqL.of (w12.get 1 rfl), fun aa haa => ?_⟩⟩
  have w13 := w12.new1 (.tup (L2.map (V.ref ∘ fun x => x.1))) haa
  refine ⟨_, rfl, (by show 5 ≤ sizeLine; decide), fun a ha => ?_⟩
  have w14 := w13.new1 (.tup [V.ref an, V.ref at_, V.ref aw, V.ref aa, V.ref am]) ha
  have hpt : (L2.map (·.2)).Perm ts := by rw [e2]; exact hL2.map _
  refine k ⟨nm, tz, ws, L2.map (·.2), mk⟩ a x y r _ (w14.sub (by walk_at "sub")) ok ?_ ?_ (by show nm.length ≤ _; omega)
  · refine ⟨an, at_, aw, aa, am, L2.map (·.1), w14.get 1 rfl, w14.get 9 rfl, w14.get 4 rfl, w14.get 10 rfl, ?_, AwAt.of fun g hg => ?_, w14.get 6 rfl⟩
    · rw [List.map_map]; exact w14.get 2 rfl
    · rw [upd_ne (ne_of_none ((upd_ne (ne_of_none (hL3 g hg) haa)).trans (hL3 g hg)) ha), upd_ne (ne_of_none (hL3 g hg) haa)]
      exact hL3 g hg
  · have hmm : nm.length = m + 1 := hnm.1
    refine ⟨by show 1 ≤ nm.length; omega, by show nm.length ≤ 6; omega, hnm.2.1, hnm.2.2, ?_, ?_, ?_, ?_, hw0, hsorted, ?_, ?_, hmp, ?_⟩
    · intro t ht
      have := htu.1 t (htz.mem_iff.mp ht)
      show 0 ≤ t ∧ t < (nm.length : Int)
      omega
    · intro k hk
      have hk2 : k < nm.length := hk
      exact htz.mem_iff.mpr (htu.2.1 k (by omega))
    · show tz.length ≤ 12
      rw [htz.length_eq]; exact htu.2.2
    · show ws.length = nm.length
      omega
    · show (L2.map (·.2)).length ≤ 6
      rw [hpt.length_eq]; exact htl6
    · intro t ht
      have := hto t (hpt.mem_iff.mp ht)
      show AwOk (nm.length : Int) t
      rw [hmm, show ((m + 1 : Nat) : Int) = 1 + (m : Int) by omega]
      exact this
    · intro k hk
      have := hmo k hk
      show 0 ≤ k ∧ k < (nm.length : Int)
      omega
end
end Br

namespace Br
open PySem PySem.Spec PyProof.Rows L2
/-! ### the canonical text of a rota, as a function -/
def num (i : Int) : Str := (toString i : String)
def nm (r : Rota) (k : Int) : Str := r.names.getD k.toNat Str.empty
def awW (r : Rota) (t : Int × Int × Int) : List Str := ["away", nm r t.1, num t.2.1, "of", num t.2.2]
def heavy (r : Rota) : Bool := r.weights.any fun v => decide (1 < v)
def lines2 (r : Rota) : List (List Str) := ["people" :: r.names, "turns" :: r.turns.map (nm r)]
def linesW (r : Rota) : List (List Str) := if heavy r = true then ["weights" :: r.weights.map num] else []
def linesM (r : Rota) : List (List Str) := if r.makers.isEmpty = true then [] else ["makeup" :: r.makers.map (nm r)]
def lineWords (r : Rota) : List (List Str) := lines2 r ++ linesW r ++ r.aways.map (awW r) ++ linesM r
def lineS (ws : List Str) : Str := Txt.join " " ws ++ ";"
def textOf (r : Rota) : Str := Txt.join "\n" ((lineWords r).map lineS)
/-! ### sizes -/
theorem joinL_len (S : List Nat) : ∀ ps : List (List Nat), (TL.joinL S ps).length ≤ (ps.map fun p => p.length + S.length).sum
  | [] => Nat.zero_le _
  | [p] => by simp [TL.joinL]
  | p :: q :: r => by
    have := joinL_len S (q :: r)
    rw [TL.joinL, List.length_append, List.length_append, List.map_cons, List.sum_cons]
    omega
theorem sum_le {α : Type} (f : α → Nat) (b : Nat) : ∀ l : List α, (∀ x ∈ l, f x ≤ b) → (l.map f).sum ≤ l.length * b
  | [], _ => by simp
  | x :: l, h => by
    have h1 := h x List.mem_cons_self
    have h2 := sum_le f b l fun y hy => h y (List.mem_cons_of_mem _ hy)
    rw [List.map_cons, List.sum_cons, List.length_cons, Nat.succ_mul]
    omega
theorem join_len (y : Str) (ps : List Str) (b : Nat) (h : ∀ p ∈ ps, p.length ≤ b) : (Txt.join y ps).length ≤ ps.length * (b + y.length) := by
  rw [TL.join_eq, TL.len_tl, TL.tl_join]
  refine Nat.le_trans (joinL_len _ _) ?_
  rw [List.map_map]
  refine sum_le _ _ _ fun p hp => ?_
  have h1 := h p hp
  rw [TL.len_tl] at h1
  show (TL.tl p).length + (TL.tl y).length ≤ b + y.length
  rw [← TL.len_tl y]; omega
theorem app_len (x y : Str) : (x ++ y).length = x.length + y.length := by
  rw [TL.len_tl, TL.tl_append, List.length_append, ← TL.len_tl, ← TL.len_tl]
theorem num_len {n : Nat} (h : n < 10000) : (num n).length ≤ 4 := by
  unfold num
  rw [TL.len_tl]
  show (TL.tl (Str.ofString (toString ((n : Nat) : Int)))).length ≤ 4
  rw [TL.tl_num]
  exact TL.numL_len (by decide) (by simpa using h)
theorem num_len' {i : Int} (h0 : 0 ≤ i) (h : i < 10000) : (num i).length ≤ 4 := by
  obtain ⟨n, rfl⟩ : ∃ n : Nat, i = n := ⟨i.toNat, by omega⟩
  exact num_len (by omega)
theorem nm_mem {r : Rota} {k : Int} (h0 : 0 ≤ k) (h : k < r.names.length) : r.names[k.toNat]? = some (nm r k) := by
  unfold nm
  rw [List.getD_eq_getElem?_getD, List.getElem?_eq_getElem (by omega)]; rfl
theorem six_len : ∀ s ∈ six, s.length ≤ 8 := by decide +kernel
theorem nm_len {r : Rota} (ok : ROk r) {k : Int} (h0 : 0 ≤ k) (h : k < r.names.length) : (nm r k).length ≤ 8 :=
  six_len _ (ok.six _ (List.mem_of_getElem? (nm_mem h0 h)))
/-- ascending numbers below n are at most n -/
theorem asc_len : ∀ {n : Nat} {l : List Int}, l.Pairwise (· < ·) → (∀ k ∈ l, 0 ≤ k ∧ k < n) → l.length ≤ n := by
  intro n l hp h
  have key : ∀ (l : List Int) (lo : Int), l.Pairwise (· < ·) → (∀ k ∈ l, lo ≤ k ∧ k < n) → (l.length : Int) ≤ max 0 (n - lo) := by
    intro l
    induction l with
    | nil => intro lo _ _; simp; omega
    | cons a l ih =>
      intro lo hp h
      rw [List.pairwise_cons] at hp
      have h1 := h a List.mem_cons_self
      have := ih (a + 1) hp.2 fun k hk => ⟨by have := hp.1 k hk; omega, (h k (List.mem_cons_of_mem _ hk)).2⟩
      rw [List.length_cons]
      omega
  have := key l 0 hp h
  omega
theorem words_len {r : Rota} (ok : ROk r) : ∀ ws ∈ lineWords r, ws.length ≤ 13 ∧ ∀ x ∈ ws, x.length ≤ 8 := by
  intro ws hws
  simp only [lineWords, List.mem_append] at hws
  rcases hws with ((h | h) | h) | h
  · simp only [lines2, List.mem_cons, List.not_mem_nil, or_false] at h
    rcases h with rfl | rfl
    · refine ⟨by rw [List.length_cons]; have := ok.n6; omega, fun x hx => ?_⟩
      rcases List.mem_cons.mp hx with rfl | hx
      · decide
      · exact six_len _ (ok.six x hx)
    · refine ⟨by rw [List.length_cons, List.length_map]; have := ok.t12; omega, fun x hx => ?_⟩
      rcases List.mem_cons.mp hx with rfl | hx
      · decide
      · obtain ⟨t, ht, rfl⟩ := List.mem_map.mp hx
        exact nm_len ok (ok.t0 t ht).1 (ok.t0 t ht).2
  · unfold linesW at h
    split at h
    · rw [List.mem_singleton.mp h]
      refine ⟨by rw [List.length_cons, List.length_map, ok.wl]; have := ok.n6; omega, fun x hx => ?_⟩
      rcases List.mem_cons.mp hx with rfl | hx
      · decide
      · obtain ⟨v, hv, rfl⟩ := List.mem_map.mp hx
        have := ok.w0 v hv
        exact Nat.le_trans (num_len' (by omega) (by omega)) (by decide)
    · cases h
  · obtain ⟨t, ht, rfl⟩ := List.mem_map.mp h
    obtain ⟨h1, h2, h3, h4, h5⟩ := ok.a0 t ht
    have h6 : t.2.2 ≤ 12 := by simp at h5; omega
    refine ⟨by show 5 ≤ 13; decide, fun x hx => ?_⟩
    simp only [awW, List.mem_cons, List.not_mem_nil, or_false] at hx
    rcases hx with rfl | rfl | rfl | rfl | rfl
    · decide
    · exact nm_len ok h1 h2
    · exact Nat.le_trans (num_len' (by omega) (by omega)) (by decide)
    · decide
    · exact Nat.le_trans (num_len' (by omega) (by omega)) (by decide)
  · unfold linesM at h
    split at h
    · cases h
    · rw [List.mem_singleton.mp h]
      have hm : r.makers.length ≤ 6 := by
        have := asc_len ok.masc (n := r.names.length) ok.m0
        have := ok.n6
        omega
      refine ⟨by rw [List.length_cons, List.length_map]; omega, fun x hx => ?_⟩
      rcases List.mem_cons.mp hx with rfl | hx
      · decide
      · obtain ⟨k, hk, rfl⟩ := List.mem_map.mp hx
        exact nm_len ok (ok.m0 k hk).1 (ok.m0 k hk).2
theorem lineS_len {ws : List Str} (h1 : ws.length ≤ 13) (h2 : ∀ x ∈ ws, x.length ≤ 8) : (lineS ws).length ≤ 200 := by
  unfold lineS
  rw [app_len]
  have := join_len " " ws 8 h2
  have e1 : ((" " : Str)).length = 1 := by decide
  have e2 : ((";" : Str)).length = 1 := by decide
  rw [e1] at this
  rw [e2]
  omega
theorem lines_few {r : Rota} (ok : ROk r) : (lineWords r).length ≤ 10 := by
  unfold lineWords lines2 linesW linesM
  rw [List.length_append, List.length_append, List.length_append, List.length_map]
  have := ok.a6
  have h1 : (if heavy r = true then [("weights" : Str) :: r.weights.map num] else []).length ≤ 1 := by split <;> simp
  have h2 : (if r.makers.isEmpty = true then [] else [("makeup" : Str) :: r.makers.map (nm r)]).length ≤ 1 := by split <;> simp
  simp only [List.length_cons, List.length_nil]
  omega
/-- the lines' lists on the heap -/
def TL1 (L : List (Addr × List Str)) : List (Addr × HO) := L.map fun q => (q.1, HO.lst (q.2.map V.str))
def refs (L : List (Addr × List Str)) : List V := L.map fun q => V.ref q.1
theorem TL1_append (L M : List (Addr × List Str)) : TL1 (L ++ M) = TL1 L ++ TL1 M := List.map_append
theorem refs_append (L M : List (Addr × List Str)) : refs (L ++ M) = refs L ++ refs M := List.map_append
theorem refs_length (L : List (Addr × List Str)) : (refs L).length = L.length := List.length_map _
section
variable {P : Program} {w : World} {K : PySem.W.Frag} {mg : Str → Option Value} {base : Heap}
theorem AwAt.at {H : Hp} : ∀ {as : List Addr} {ts : List (Int × Int × Int)} {i : Nat} {a : Addr}, AwAt H as ts → as[i]? = some a → ∃ t, ts[i]? = some t ∧ H a = some (.tup (tri t))
  | _, _, i, a, .nil, h => by simp at h
  | _, _, 0, a, .cons h _, e => by simp at e; subst e; exact ⟨_, rfl, h⟩
  | _, _, i + 1, a, .cons _ t, e => by simpa using AwAt.at t (i := i) (by simpa using e)
theorem shaped_tup {xs : List V} (h : ∀ v ∈ xs, IS v) : SeqAt.shaped (.tuple (xs.map dataOf)) = true := by
  unfold SeqAt.shaped
  rw [PyData.canLay0, lay_all h, PyData.depth, depth_all]; rfl
theorem eqv_nilT (ds : List PyData) : PyData.eqv (.tuple ds) (.tuple []) = ds.isEmpty := by
  rw [PyData.eqv]; cases ds <;> rfl
/-- a new line is appended -/
theorem lines_push {M : List Addr} {H0 H : Hp} {ll p : Addr} {L : List (Addr × List Str)} {ws : List Str} {X : List (Addr × HO)} (w : Wd M H0 H ((p, .lst (ws.map V.str)) :: (ll, .lst (refs L)) :: (TL1 L ++ X))) :
    Wd M H0 (upd H ll (.lst (refs L ++ [V.ref p]))) ((ll, .lst (refs (L ++ [(p, ws)]))) :: (TL1 (L ++ [(p, ws)]) ++ X)) := by
  have w1 := w.put 1 (.lst (refs L ++ [V.ref p])) rfl (fun xs q => by cases q)
  rw [refs_append, TL1_append]
  refine w1.perm ?_
  show List.Perm ((p, HO.lst (ws.map V.str)) :: (ll, HO.lst (refs L ++ [V.ref p])) :: (TL1 L ++ X)) ((ll, HO.lst (refs L ++ [V.ref p])) :: ((TL1 L ++ [(p, HO.lst (ws.map V.str))]) ++ X))
  refine (List.Perm.swap _ _ _).trans (List.Perm.cons _ ?_)
  rw [List.append_assoc]
  exact List.perm_middle.symm
def spText : Sp := fun vs H Q _ => ∃ (a : Addr) (r : Rota), vs = [.ref a] ∧ RotaAt H a r ∧ ROk r ∧ ∀ H' : Hp, Wd [] H H' [] → Q (.str (textOf r)) H'
abbrev s_law_text : Stmt := topS 38
theorem sc_law_text : FnScope ["_law_rota_here", "_law_names", "_law_turns", "_law_weights", "_law_aways", "_law_makers", "_law_lines", "_law_k", "_law_weight", "_law_first", "_law_second", "_law_line"] ["_law_rota_here"] (defScope s_law_text) := ⟨rfl, rfl, rfl, by decide +kernel, rfl, by decide +kernel, by decide +kernel⟩
theorem cal_text (D : DefAt K mg "_law_text" s_law_text ["_law_rota_here"]) (T : Bi mg) : Cal P w K mg base 1 "_law_text" ["_law_rota_here"] spText := D.cal fun f fd F => by
  have nd := sc_law_text.nd
  refine F.ok sc_law_text (fun vs H Q E h => ?_) (fun cdv A outer s H vs Q E hr h => ?_)
  · obtain ⟨a, r, rfl, _⟩ := h; rfl
  obtain ⟨a, r, rfl, ⟨an, at_, aw, aa, am, as, h1, h2, h3, h4, h5, h6, h7⟩, ok, k⟩ := h
  have hu := hr.units
  have keep : ∀ {H' : Hp} {l : List (Addr × HO)}, Wd [] H H' l → ∀ {b : Addr} {xs : List V}, H b = some (.tup xs) → SqT K H' b xs := fun w _ _ e => SqT.of (w.tups _ _ e)
  refine ⟨_, (pss_cons (ps_asg (pv 0) (pg_tupK (K := K) (n := 5) rfl rfl (pgs_cons (pg_name (i := 1) nd rfl (Or.inr rfl)) (pgs_cons (pg_name (i := 2) nd rfl (Or.inl rfl)) (pgs_cons (pg_name (i := 3) nd rfl (Or.inl rfl)) (pgs_cons (pg_name (i := 4) nd rfl (Or.inl rfl)) (pgs_cons (pg_name (i := 5) nd rfl (Or.inl rfl)) pgs_nil)))))))
 (pss_cons (ps_set (i := 6) nd rfl (Or.inl rfl) (pe_lst (pa_cons (pe_op op_cat (pe_lst (pa_cons pe_str pa_nil)) (pe_callTy (r := rListOf K) call_list_of (by rfl) T.list (by decide +kernel) (pa_cons (pv 1) pa_nil))) (pa_cons (pe_op op_cat (pe_lst (pa_cons pe_str pa_nil)) (pe_lc (own := [("_law_k", 7)]) rfl nd (pi_tupK (K := K) rfl (pv 2)) (blkOk_by (N := ["_law_rota_here", "_law_names", "_law_turns", "_law_weights", "_law_aways", "_law_makers", "_law_lines", "_law_k", "_law_weight", "_law_first", "_law_second", "_law_line"]) (sc := defScope s_law_text) (by decide +kernel)) (fun _ _ _ _ _ => (pg_name (i := 7) nd rfl (Or.inl rfl))) (fun _ _ _ _ _ => pts_nil) (fun _ _ _ _ _ => (pe_ix (r := rIxT K) ix_tup (pv 1) (pv 7) (fun _ _ => rfl))))) pa_nil))))
 (C8.pss_cut (ps_if (pt_cmpR op_gt (pe_callB (r := rMaxT K) (cr_maxT rfl hu) (by rfl) T.max (by decide +kernel) (pa_cons (pv 3) pa_nil)) pe_int (nomark _))
 (pss_one (ps_expr (pe_bmK (K := K) rfl PySem.F.plainAttrs_list PySem.F.slot_list_append PySem.F.type_list_append mt_append (pv 6) (pa_cons (pe_op op_cat (pe_lst (pa_cons pe_str pa_nil)) (pe_lc (own := [("_law_weight", 8)]) rfl nd (pi_tupK (K := K) rfl (pv 3)) (blkOk_by (N := ["_law_rota_here", "_law_names", "_law_turns", "_law_weights", "_law_aways", "_law_makers", "_law_lines", "_law_k", "_law_weight", "_law_first", "_law_second", "_law_line"]) (sc := defScope s_law_text) (by decide +kernel)) (fun _ _ _ _ _ => (pg_name (i := 8) nd rfl (Or.inl rfl))) (fun _ _ _ _ _ => pts_nil) (fun _ _ _ _ _ => (pe_callTy call_str_int (by rfl) T.str (by decide +kernel) (pa_cons (pv 8) pa_nil))))) pa_nil))))
 pss_nil)
 (pss_cons (ps_set (i := 6) nd rfl (Or.inl rfl) (pe_op op_cat (pv 6) (pe_lc (own := [("_law_k", 7), ("_law_first", 9), ("_law_second", 10)]) rfl nd (pi_tupK (K := K) rfl (pv 4)) (blkOk_by (N := ["_law_rota_here", "_law_names", "_law_turns", "_law_weights", "_law_aways", "_law_makers", "_law_lines", "_law_k", "_law_weight", "_law_first", "_law_second", "_law_line"]) (sc := defScope s_law_text) (by decide +kernel)) (fun _ _ _ _ _ => (pg_tupK (K := K) (n := 3) rfl rfl (pgs_cons (pg_name (i := 7) nd rfl (Or.inl rfl)) (pgs_cons (pg_name (i := 9) nd rfl (Or.inl rfl)) (pgs_cons (pg_name (i := 10) nd rfl (Or.inl rfl)) pgs_nil))))) (fun _ _ _ _ _ => pts_nil) (fun _ _ _ _ _ => (pe_lst (pa_cons pe_str (pa_cons (pe_ix (r := rIxT K) ix_tup (pv 1) (pv 7) (fun _ _ => rfl)) (pa_cons (pe_callTy call_str_int (by rfl) T.str (by decide +kernel) (pa_cons (pv 9) pa_nil)) (pa_cons pe_str (pa_cons (pe_callTy call_str_int (by rfl) T.str (by decide +kernel) (pa_cons (pv 10) pa_nil)) pa_nil))))))))))
 (C8.pss_cut (ps_if (pt_cmpR (r := rNeD K) (op_neD hu) (pv 5) (pe_tup pa_nil) (nomark _))
 (pss_one (ps_expr (pe_bmK (K := K) rfl PySem.F.plainAttrs_list PySem.F.slot_list_append PySem.F.type_list_append mt_append (pv 6) (pa_cons (pe_op op_cat (pe_lst (pa_cons pe_str pa_nil)) (pe_lc (own := [("_law_k", 7)]) rfl nd (pi_tupK (K := K) rfl (pv 5)) (blkOk_by (N := ["_law_rota_here", "_law_names", "_law_turns", "_law_weights", "_law_aways", "_law_makers", "_law_lines", "_law_k", "_law_weight", "_law_first", "_law_second", "_law_line"]) (sc := defScope s_law_text) (by decide +kernel)) (fun _ _ _ _ _ => (pg_name (i := 7) nd rfl (Or.inl rfl))) (fun _ _ _ _ _ => pts_nil) (fun _ _ _ _ _ => (pe_ix (r := rIxT K) ix_tup (pv 1) (pv 7) (fun _ _ => rfl))))) pa_nil))))
 pss_nil)
 (pss_one (ps_ret (pe_joinK (K := K) rfl pe_str (pe_lc (own := [("_law_line", 11)]) rfl nd (pi_listK (K := K) rfl (pv 6)) (blkOk_by (N := ["_law_rota_here", "_law_names", "_law_turns", "_law_weights", "_law_aways", "_law_makers", "_law_lines", "_law_k", "_law_weight", "_law_first", "_law_second", "_law_line"]) (sc := defScope s_law_text) (by decide +kernel)) (fun _ _ _ _ _ => (pg_name (i := 11) nd rfl (Or.inl rfl))) (fun _ _ _ _ _ => pts_nil) (fun _ _ _ _ _ => (pe_op op_add_str (pe_joinK (K := K) rfl pe_str (pv 11)) pe_str))))))))))), ?_⟩
  refine ⟨_, rfl, a, _, rfl, SqT.of h1, rfl, _, _, rfl, _, _, rfl, _, _, rfl, _, _, rfl, _, _, rfl, rfl, ?_⟩
  -- the first two lines
  refine ⟨(by show 1 ≤ sizeLine; decide), fun p1 hp1 => ?_⟩
  have w1 := (Wd.refl H).new (.lst ((["people"] : List Str).map V.str)) hp1
  refine ⟨_, rfl, an, _, rfl, .inr (keep w1 h2), fun p2 hp2 => ?_⟩
  have w2 := w1.new (.lst (r.names.map V.str)) hp2
  have n6 := ok.n6
  have t12 := ok.t12
  refine ⟨p1, p2, _, _, rfl, rfl, w2.get 1 rfl, w2.get 0 rfl, (Nat.le_trans (m := 100) (by simp only [List.length_map, List.length_cons, List.length_nil]; omega) (by decide)), fun l1 hl1 => ?_⟩
  have w3 := (w2.new (.lst ((("people" : Str) :: r.names).map V.str)) hl1).sub (l' := [(l1, .lst ((("people" : Str) :: r.names).map V.str))]) (by walk_at "sub")
  refine ⟨(by show 1 ≤ sizeLine; decide), fun p3 hp3 => ?_⟩
  have w4 := w3.new (.lst ((["turns"] : List Str).map V.str)) hp3
  refine ⟨_, rfl, at_, rfl, ⟨_, keep w4 h3⟩, fun D1 hD1 => ?_⟩
  refine lc_tupF (K := K) (a := at_) (xs := r.turns.map V.int) (fun _ => true) (fun v => match v with | .int i => V.str (nm r i) | v => v) w4 hD1 (fun H' c w => keep w h3) (by rw [List.length_map]; omega) (fun H' ⟨c, w⟩ i x hx R S hR _ => ?_) (fun H' w5 => ?_)
  · obtain ⟨t, ht, rfl⟩ := int_of_map hx
    have h0 := ok.t0 t (List.mem_of_getElem? ht)
    refine ⟨rfl, _, rfl, _, rfl, an, _, _, _, rfl, rfl, keep w h2, ?_, hR rfl⟩
    exact at_of (j := t.toNat) (by omega) (by rw [List.getElem?_map, nm_mem h0.1 h0.2]; rfl)
  have e5 : (r.turns.map V.int).map (fun v => match v with | .int i => V.str (nm r i) | v => v) = (r.turns.map (nm r)).map V.str := by rw [List.map_map, List.map_map]; rfl
  rw [filter_yes, e5] at w5
  refine ⟨p3, D1, _, _, rfl, rfl, w5.get 1 rfl, w5.get 0 rfl, (Nat.le_trans (m := 100) (by simp only [List.length_map, List.length_cons, List.length_nil]; omega) (by decide)), fun l2 hl2 => ?_⟩
  have w6 := (w5.new (.lst ((("turns" : Str) :: r.turns.map (nm r)).map V.str)) hl2).sub (l' := [(l2, .lst ((("turns" : Str) :: r.turns.map (nm r)).map V.str)), (l1, .lst ((("people" : Str) :: r.names).map V.str))]) (by walk_at "sub")
  refine ⟨(by show 2 ≤ sizeLine; decide), fun ll hll => ?_⟩
  have w7 : Wd [] H _ ((ll, .lst (refs [(l1, ("people" : Str) :: r.names), (l2, ("turns" : Str) :: r.turns.map (nm r))])) :: (TL1 [(l1, ("people" : Str) :: r.names), (l2, ("turns" : Str) :: r.turns.map (nm r))] ++ [])) :=
    (w6.new (.lst [V.ref l1, V.ref l2]) hll).perm (List.Perm.cons _ (List.Perm.swap _ _ _))
  -- weights
  refine ⟨fun σ H' => ∃ (ll : Addr) (L : List (Addr × List Str)), σ = [some (.ref a), some (.ref an), some (.ref at_), some (.ref aw), some (.ref aa), some (.ref am), some (.ref ll), none, none, none, none, none] ∧
    Wd [] H H' ((ll, .lst (refs L)) :: (TL1 L ++ [])) ∧ L.map (·.2) = lines2 r ++ linesW r, ?_, ?_⟩
  · have hw0 : 0 < r.weights.length := by have := ok.wl; have := ok.n1; omega
    refine ⟨_, rfl, aw, r.weights, rfl, keep w7 h4, hw0, fun m hm hmax => ?_⟩
    refine ⟨_, _, rfl, rfl, _, rfl, ?_⟩
    refine ite2 (fun hc => ?_) (fun hc => ?_)
    · have hh : heavy r = true := List.any_eq_true.mpr ⟨m, hm, hc⟩
      refine ⟨_, rfl, .inl ⟨rfl, _, SqL.of (w7.get 0 rfl)⟩, (by show 1 ≤ sizeLine; decide), fun p hp => ?_⟩
      have w8 := w7.new (.lst ((["weights"] : List Str).map V.str)) hp
      refine ⟨_, rfl, aw, rfl, ⟨_, keep w8 h4⟩, fun D hD => ?_⟩
      refine lc_tupF (K := K) (a := aw) (xs := r.weights.map V.int) (fun _ => true) (fun v => match v with | .int i => V.str (num i) | v => v) w8 hD (fun H' c w => keep w h4) (by rw [List.length_map, ok.wl]; omega) (fun H' ⟨c, w⟩ i x hx R S hR _ => ?_) (fun H' w9 => ?_)
      · obtain ⟨t, ht, rfl⟩ := int_of_map hx
        have h0 := ok.w0 t (List.mem_of_getElem? ht)
        exact ⟨rfl, _, rfl, t, rfl, Nat.lt_of_le_of_lt (Nat.log2_le_self _) (by omega), hR rfl⟩
      have e9 : (r.weights.map V.int).map (fun v => match v with | .int i => V.str (num i) | v => v) = (r.weights.map num).map V.str := by rw [List.map_map, List.map_map]; rfl
      rw [filter_yes, e9] at w9
      refine ⟨p, D, _, _, rfl, rfl, w9.get 1 rfl, w9.get 0 rfl, (Nat.le_trans (m := 100) (by simp only [List.length_map, List.length_cons, List.length_nil, ok.wl]; omega) (by decide)), fun l hl => ?_⟩
      have w10 := (w9.new (.lst ((("weights" : Str) :: r.weights.map num).map V.str)) hl).sub (l' := (l, .lst ((("weights" : Str) :: r.weights.map num).map V.str)) :: (ll, .lst (refs [(l1, ("people" : Str) :: r.names), (l2, ("turns" : Str) :: r.turns.map (nm r))])) :: (TL1 [(l1, ("people" : Str) :: r.names), (l2, ("turns" : Str) :: r.turns.map (nm r))] ++ [])) (by walk_at "sub")
      refine ⟨ll, _, _, rfl, rfl, w10.get 1 rfl, (by show 2 < sizeLine; decide), ?_⟩
      have w11 := lines_push w10
      exact ⟨ll, _, rfl, w11, by simp [lines2, linesW, hh]⟩
    · refine ⟨ll, _, rfl, w7, ?_⟩
      have hh : heavy r = false := by
        rw [Bool.eq_false_iff]
        intro hh
        obtain ⟨v, hv, hv1⟩ := List.any_eq_true.mp hh
        have := hmax v hv
        have := of_decide_eq_true hv1
        exact hc (decide_eq_true (by omega))
      simp [lines2, linesW, hh]
  rintro σ H1 ⟨ll, L, rfl, w8, hL⟩
  have hLl : L.length ≤ 3 := by
    have := congrArg List.length hL
    rw [List.length_map, List.length_append] at this
    have h2 : (linesW r).length ≤ 1 := by unfold linesW; split <;> simp
    simp only [lines2, List.length_cons, List.length_nil] at this
    omega
  have a6 := ok.a6
  -- the absences
  refine ⟨_, rfl, _, rfl, aa, rfl, ⟨_, keep w8 h5⟩, fun D hD => ?_⟩
  have w9 := w8.new (.lst []) hD
  refine lc_tup (K := K) (a := aa) (xs := as.map V.ref) (fun i H2 => ∃ L2 : List (Addr × List Str), Wd [] H H2 ((D, .lst (refs L2)) :: (TL1 L2 ++ ((ll, HO.lst (refs L)) :: (TL1 L ++ [])))) ∧ L2.map (·.2) = (r.aways.take i).map (awW r))
    ⟨[], w9, rfl⟩ (fun i H2 _ ⟨L2, w, _⟩ => keep w h5) ?_ ?_
  · rintro i x H2 hx ⟨L2, w10, hL2⟩
    obtain ⟨b, hb, rfl⟩ : ∃ b, as[i]? = some b ∧ x = V.ref b := by
      rw [List.getElem?_map] at hx
      cases e : as[i]? with
      | none => rw [e] at hx; cases hx
      | some b => rw [e] at hx; exact ⟨b, rfl, (Option.some.inj hx).symm⟩
    obtain ⟨t, ht, hbt⟩ := h6.at hb
    obtain ⟨g1, g2, g3, g4, g5⟩ := ok.a0 t (List.mem_of_getElem? ht)
    have g6 : t.2.2 ≤ 12 := by simp at g5; omega
    have hl2 : L2.length = i := by
      have h8 := congrArg List.length hL2
      rw [List.length_map, List.length_map, List.length_take] at h8
      have := (List.getElem?_eq_some_iff.mp ht).1
      omega
    have hi6 := (List.getElem?_eq_some_iff.mp ht).1
    refine ⟨b, tri t, rfl, keep w10 hbt, rfl, _, _, rfl, _, _, rfl, _, _, rfl, rfl, rfl, ?_⟩
    refine ⟨_, rfl, _, rfl, an, _, _, _, rfl, rfl, keep w10 h2, at_of (j := t.1.toNat) (by omega) (by rw [List.getElem?_map, nm_mem g1 g2]; rfl), ?_⟩
    refine ⟨_, rfl, t.2.1, rfl, Nat.lt_of_le_of_lt (Nat.log2_le_self _) (by omega), ?_⟩
    refine ⟨_, rfl, t.2.2, rfl, Nat.lt_of_le_of_lt (Nat.log2_le_self _) (by omega), ?_⟩
    refine ⟨(by show 5 ≤ sizeLine; decide), fun p hp => ?_⟩
    have w11 := w10.new (.lst ((awW r t).map V.str)) hp
    refine ⟨refs L2, w11.get 1 rfl, ?_, L2 ++ [(p, awW r t)], ?_, ?_⟩
    · rw [refs_length]; exact Nat.lt_of_le_of_lt (m := 100) (by omega) (by decide)
    · exact lines_push w11
    · rw [List.map_append, hL2, take_more ht, List.map_append]; rfl
  rintro H2 ⟨L2, w10, hL2⟩
  rw [List.length_map, h6.length, List.take_length] at hL2
  have hL2l : L2.length ≤ 6 := by
    have h8 := congrArg List.length hL2
    rw [List.length_map, List.length_map] at h8
    omega
  have hll := w10.at_ (ll, .lst (refs L)) (by simp)
  refine ⟨ll, D, _, _, rfl, rfl, hll, w10.get 0 rfl, ?_, fun ll2 hll2 => ?_⟩
  · rw [refs_length, refs_length]; exact Nat.le_trans (m := 100) (by omega) (by decide)
  have w11 : Wd [] H (upd H2 ll2 (.lst (refs L ++ refs L2))) ((ll2, .lst (refs (L ++ L2))) :: (TL1 (L ++ L2) ++ [])) := by
    have w12 := w10.new (.lst (refs L ++ refs L2)) hll2
    rw [refs_append, TL1_append]
    refine (w12.perm (l' := (ll2, HO.lst (refs L ++ refs L2)) :: (D, HO.lst (refs L2)) :: (ll, HO.lst (refs L)) :: (TL1 L ++ TL1 L2 ++ [])) ?_).sub (by walk_at "sub")
    refine List.Perm.cons _ (List.Perm.cons _ ?_)
    rw [List.append_nil, List.append_nil]
    exact List.perm_middle.trans (List.Perm.cons _ List.perm_append_comm)
  have hL3 : (L ++ L2).map (·.2) = lines2 r ++ linesW r ++ r.aways.map (awW r) := by rw [List.map_append, hL, hL2]
  have hL3l : (L ++ L2).length ≤ 9 := by rw [List.length_append]; omega
  generalize L ++ L2 = L3 at w11 hL3 hL3l
  clear w10 w9 w8
  -- who makes up
  refine ⟨fun σ H' => ∃ (ll : Addr) (L : List (Addr × List Str)), σ = [some (.ref a), some (.ref an), some (.ref at_), some (.ref aw), some (.ref aa), some (.ref am), some (.ref ll), none, none, none, none, none] ∧
    Wd [] H H' ((ll, .lst (refs L)) :: (TL1 L ++ [])) ∧ L.map (·.2) = lineWords r, ?_, ?_⟩
  · refine ⟨_, rfl, Nat.zero_le _, fun e he => ?_⟩
    have w12 := w11.new (.tup []) he
    have hms : ∀ v ∈ r.makers.map V.int, IS v := fun v hv => by
      obtain ⟨z, _, rfl⟩ := List.mem_map.mp hv
      trivial
    refine ⟨.tuple ((r.makers.map V.int).map dataOf), .tuple [], .tup (keep w12 h7) (dp_all hms), .tup (SqT.of (w12.get 0 rfl)) .nil, shaped_tup hms, rfl, _, rfl, ?_⟩
    rw [eqv_nilT]
    have hie : ((r.makers.map V.int).map dataOf).isEmpty = r.makers.isEmpty := by cases r.makers <;> rfl
    rw [hie]
    have mlen : r.makers.length ≤ 6 := by
      have := asc_len ok.masc (n := r.names.length) ok.m0
      omega
    cases hm : r.makers.isEmpty with
    | true =>
      refine ⟨ll2, L3, rfl, w12.sub (List.Sublist.cons _ (List.Sublist.refl _)), ?_⟩
      rw [hL3, lineWords, linesM, if_pos hm, List.append_nil]
    | false =>
      refine ⟨_, rfl, .inl ⟨rfl, _, SqL.of (w12.get 1 rfl)⟩, (by show 1 ≤ sizeLine; decide), fun p hp => ?_⟩
      have w13 := w12.new (.lst ((["makeup"] : List Str).map V.str)) hp
      refine ⟨_, rfl, am, rfl, ⟨_, keep w13 h7⟩, fun D hD => ?_⟩
      refine lc_tupF (K := K) (a := am) (xs := r.makers.map V.int) (fun _ => true) (fun v => match v with | .int i => V.str (nm r i) | v => v) w13 hD (fun H' c w => keep w h7) (by rw [List.length_map]; omega) (fun H' ⟨c, w⟩ i x hx R S hR _ => ?_) (fun H' w14 => ?_)
      · obtain ⟨t, ht, rfl⟩ := int_of_map hx
        have h0 := ok.m0 t (List.mem_of_getElem? ht)
        refine ⟨rfl, _, rfl, _, rfl, an, _, _, _, rfl, rfl, keep w h2, ?_, hR rfl⟩
        exact at_of (j := t.toNat) (by omega) (by rw [List.getElem?_map, nm_mem h0.1 h0.2]; rfl)
      have e14 : (r.makers.map V.int).map (fun v => match v with | .int i => V.str (nm r i) | v => v) = (r.makers.map (nm r)).map V.str := by rw [List.map_map, List.map_map]; rfl
      rw [filter_yes, e14] at w14
      refine ⟨p, D, _, _, rfl, rfl, w14.get 1 rfl, w14.get 0 rfl, (Nat.le_trans (m := 100) (by simp only [List.length_map, List.length_cons, List.length_nil]; omega) (by decide)), fun l hl => ?_⟩
      have w15 := (w14.new (.lst ((("makeup" : Str) :: r.makers.map (nm r)).map V.str)) hl).sub (l' := (l, .lst ((("makeup" : Str) :: r.makers.map (nm r)).map V.str)) :: (ll2, .lst (refs L3)) :: (TL1 L3 ++ [])) (by walk_at "sub")
      refine ⟨ll2, _, _, rfl, rfl, w15.get 1 rfl, (by rw [refs_length]; exact Nat.lt_of_le_of_lt (m := 100) (by omega) (by decide)), ?_⟩
      refine ⟨ll2, _, rfl, lines_push w15, ?_⟩
      rw [List.map_append, hL3, lineWords, linesM, hm]; rfl
  rintro σ H3 ⟨ll3, L4, rfl, w12, hL4⟩
  have hL4l : L4.length ≤ 10 := by
    have h8 := congrArg List.length hL4
    rw [List.length_map] at h8
    have := lines_few ok
    omega
  -- the text
  refine ⟨⟨_, rfl⟩, _, rfl, ll3, rfl, ⟨_, SqL.of (w12.get 0 rfl)⟩, fun D hD => ?_⟩
  have w13 := w12.new (.lst []) hD
  refine lc_list (K := K) (a := ll3) (xs := refs L4) (fun i H2 => Wd [] H H2 ((D, .lst ((L4.take i).map fun q => V.str (lineS q.2))) :: (ll3, .lst (refs L4)) :: (TL1 L4 ++ [])))
    w13 (fun i H2 _ w => SqL.of (w.get 1 rfl)) ?_ ?_
  · rintro i x H2 hx w14
    obtain ⟨q, hq, rfl⟩ : ∃ q, L4[i]? = some q ∧ x = V.ref q.1 := by
      unfold refs at hx
      rw [List.getElem?_map] at hx
      cases e : L4[i]? with
      | none => rw [e] at hx; cases hx
      | some b => rw [e] at hx; exact ⟨b, rfl, (Option.some.inj hx).symm⟩
    have hql := words_len ok q.2 (by rw [← hL4]; exact List.mem_map.mpr ⟨q, List.mem_of_getElem? hq, rfl⟩)
    have hqa := w14.at_ (q.1, .lst (q.2.map V.str)) (List.mem_cons_of_mem _ (List.mem_cons_of_mem _ (List.mem_append_left _ (List.mem_map.mpr ⟨q, List.mem_of_getElem? hq, rfl⟩))))
    have hi := (List.getElem?_eq_some_iff.mp hq).1
    refine ⟨rfl, ⟨_, rfl⟩, _, rfl, _, q.1, q.2, rfl, rfl, .inl (SqL.of hqa), ?_, ?_⟩
    · have := sum_le (fun s : Str => s.length) 8 q.2 hql.2
      have e1 : ((" " : Str)).length = 1 := by decide
      rw [e1]
      omega
    · have hj := join_len " " q.2 8 hql.2
      have e1 : ((" " : Str)).length = 1 := by decide
      have e2 : ((";" : Str)).length = 1 := by decide
      rw [e1] at hj
      refine ⟨_, _, rfl, rfl, (by rw [e2]; exact Nat.le_trans (m := 1000) (by omega) (by decide)), ?_⟩
      refine ⟨_, w14.get 0 rfl, ?_, ?_⟩
      · rw [List.length_map, List.length_take]; exact Nat.lt_of_le_of_lt (m := 100) (by omega) (by decide)
      · have := w14.put 0 (.lst ((L4.take i).map (fun q => V.str (lineS q.2)) ++ [V.str (lineS q.2)])) rfl (fun xs q => by cases q)
        show Wd [] H _ ((D, .lst ((L4.take (i + 1)).map fun q => V.str (lineS q.2))) :: _)
        rw [take_more hq, List.map_append]
        exact this
  · intro H4 w14
    have e4 : (L4.take (refs L4).length).map (fun q => V.str (lineS q.2)) = ((lineWords r).map lineS).map V.str := by
      rw [refs_length, List.take_length, ← hL4, List.map_map, List.map_map]; rfl
    rw [e4] at w14
    refine ⟨_, D, (lineWords r).map lineS, rfl, rfl, .inl (SqL.of (w14.get 0 rfl)), ?_, ?_⟩
    · have h8 := sum_le (fun s : Str => s.length) 200 ((lineWords r).map lineS) fun s hs => by
        obtain ⟨ws, hws, rfl⟩ := List.mem_map.mp hs
        have := words_len ok ws hws
        exact lineS_len this.1 this.2
      have := lines_few ok
      have e1 : (("\n" : Str)).length = 1 := by decide
      rw [e1]
      rw [List.length_map] at h8 ⊢
      omega
    · exact k _ (w14.sub (List.nil_sublist _))
end
end Br

namespace Br
open PySem PySem.Spec PyProof.Rows L2
/-! ### the lexer -/
/-- a class's __init__ and its contract; a method's -/
structure MkAt (P : Program) (w : World) (K : PySem.W.Frag) (mg : Str → Option Value) (base : Heap) (k : Nat) (x : Str) (C : Addr) (ps : List Str) (sp : Sp) : Prop where
  ex : ∃ (f : Addr) (fd : FuncData), mg x = some (.ref C) ∧ Mk K C f ∧ Binds K fd ps [] ∧ FnOk P w K mg base CX0 k f fd ps sp
structure MeAt (P : Program) (w : World) (K : PySem.W.Frag) (mg : Str → Option Value) (base : Heap) (k : Nat) (C : Addr) (m : Str) (ps : List Str) (sp : Sp) : Prop where
  ex : ∃ (f : Addr) (fd : FuncData), Meth K C m f ∧ Binds K fd ps [] ∧ FnOk P w K mg base CX0 k f fd ps sp
structure InitAt (K : PySem.W.Frag) (mg : Str → Option Value) (x q : Str) (C : Addr) (st : Stmt) (ps : List Str) : Prop where
  ex : ∃ (f : Addr) (fd : FuncData), mg x = some (.ref C) ∧ Mk K C f ∧ Fun K "__init__" q st f fd ∧ Binds K fd ps []
structure MethAt (K : PySem.W.Frag) (C : Addr) (m q : Str) (st : Stmt) (ps : List Str) : Prop where
  ex : ∃ (f : Addr) (fd : FuncData), Meth K C m f ∧ Fun K m q st f fd ∧ Binds K fd ps []
theorem InitAt.mk' {P : Program} {w : World} {K : PySem.W.Frag} {mg : Str → Option Value} {base : Heap} {k : Nat} {x q : Str} {C : Addr} {st : Stmt} {ps : List Str} {sp : Sp} (D : InitAt K mg x q C st ps)
    (h : ∀ f fd, Fun K "__init__" q st f fd → FnOk P w K mg base CX0 k f fd ps sp) : MkAt P w K mg base k x C ps sp := by
  obtain ⟨f, fd, m, M, F, b⟩ := D.ex
  exact ⟨f, fd, m, M, b, h f fd F⟩
theorem MethAt.me {P : Program} {w : World} {K : PySem.W.Frag} {mg : Str → Option Value} {base : Heap} {k : Nat} {m q : Str} {C : Addr} {st : Stmt} {ps : List Str} {sp : Sp} (D : MethAt K C m q st ps)
    (h : ∀ f fd, Fun K m q st f fd → FnOk P w K mg base CX0 k f fd ps sp) : MeAt P w K mg base k C m ps sp := by
  obtain ⟨f, fd, M, F, b⟩ := D.ex
  exact ⟨f, fd, M, b, h f fd F⟩
/-- a new instance -/
theorem Wd.make {M : List Addr} {H0 H : Hp} {l : List (Addr × HO)} (w : Wd M H0 H l) {x dx : Addr} (C : Addr) (hx : H x = none) (hd : H dx = none) (ne : dx ≠ x) :
    Wd M H0 (upd (upd H dx (.own x)) x (.ins C dx [])) ((x, .ins C dx []) :: (dx, .own x) :: l) :=
  (w.new (.own x) hd).new (.ins C dx []) (by rw [upd_ne ne.symm]; exact hx)
def slotI (σ : L2.St) (i : Nat) : Int := match σ[i]? with
  | some (some (V.int e)) => e
  | _ => 0
structure TokCls (K : PySem.W.Frag) (CT : Addr) : Prop where
  cl : Cls K CT
  nk : NoAttr K CT "kind"
  nt : NoAttr K CT "text"
  nl : NoAttr K CT "line"
  nc : NoAttr K CT "column"
def tkF (k t : Str) (l c : Int) : List (Str × V) := [("kind", .str k), ("text", .str t), ("line", .int l), ("column", .int c)]
theorem putF_ne {f g : Str} {v x : V} {r : List (Str × V)} (h : ¬ g = f) : putF f v ((g, x) :: r) = (g, x) :: putF f v r := if_neg h
theorem tkF_new (k t : Str) (l c : Int) : putF "column" (.int c) (putF "line" (.int l) (putF "text" (.str t) (putF "kind" (.str k) []))) = tkF k t l c := by
  have e1 : putF "text" (.str t) (putF "kind" (.str k) []) = [(("kind" : Str), V.str k), ("text", V.str t)] := putF_ne (by decide +kernel)
  have e2 : putF "line" (.int l) [(("kind" : Str), V.str k), ("text", V.str t)] = [(("kind" : Str), V.str k), ("text", V.str t), ("line", V.int l)] := by
    rw [putF_ne (by decide +kernel), putF_ne (by decide +kernel)]; rfl
  rw [e1, e2, putF_ne (by decide +kernel), putF_ne (by decide +kernel), putF_ne (by decide +kernel)]
  rfl
theorem look_ne {f g : Str} {x : V} {r : List (Str × V)} (h : (f == g) = false) : List.lookup f ((g, x) :: r) = List.lookup f r := by
  simp only [List.lookup, h]
theorem look_eq {f : Str} {x : V} {r : List (Str × V)} : List.lookup f ((f, x) :: r) = some x := by
  simp only [List.lookup, beq_self_eq_true]
theorem tk_kind (k t : Str) (l c : Int) : (tkF k t l c).lookup ("kind" : Str) = some (.str k) := look_eq
theorem tk_text (k t : Str) (l c : Int) : (tkF k t l c).lookup ("text" : Str) = some (.str t) := (look_ne (by decide +kernel)).trans look_eq
theorem tk_line (k t : Str) (l c : Int) : (tkF k t l c).lookup ("line" : Str) = some (.int l) := (look_ne (by decide +kernel)).trans ((look_ne (by decide +kernel)).trans look_eq)
theorem tk_column (k t : Str) (l c : Int) : (tkF k t l c).lookup ("column" : Str) = some (.int c) := (look_ne (by decide +kernel)).trans ((look_ne (by decide +kernel)).trans ((look_ne (by decide +kernel)).trans look_eq))
/-- what stands at the head of a row's rest, as the lexer reads it: the kind, the text -/
def dig (c : Nat) : Bool := decide (c ∈ TL.tl "0123456789")
def ltr (c : Nat) : Bool := decide (c ∈ TL.tl "abcdefghijklmnopqrstuvwxyz")
def kws : List Str := ["people", "turns", "weights", "away", "of", "makeup"]
def tokAt : List Nat → Option (Str × Str)
  | [] => none
  | c :: r => if c = 59 then some ("sign", ";")
    else if dig c = true then (let w := (c :: r).takeWhile dig; if w.length > 2 ∨ (w.length > 1 ∧ c = 48) then none else some ("number", ⟨w.toArray⟩))
    else (let w := (c :: r).takeWhile ltr; if (⟨w.toArray⟩ : Str) ∈ kws then some ("keyword", ⟨w.toArray⟩) else if 1 ≤ w.length ∧ w.length ≤ 8 then some ("name", ⟨w.toArray⟩) else none)
theorem at_iN {α : Type} {xs : List α} {z : Int} {j : Nat} {v : α} (e : z = (j : Int)) (h : xs[j]? = some v) : atI xs z = some v := by
  rw [e]; exact atI_nat h
theorem run_le (p : Nat → Bool) (l : List Nat) : (l.takeWhile p).length ≤ l.length := (List.takeWhile_sublist p).length_le
theorem take_run (p : Nat → Bool) : ∀ l : List Nat, l.take (l.takeWhile p).length = l.takeWhile p
  | [] => rfl
  | c :: r => by
    rw [List.takeWhile_cons]
    split
    · rw [List.length_cons, List.take_succ_cons, take_run p r]
    · rfl
theorem cut_run (z : Str) (i : Nat) (p : Nat → Bool) (h : i ≤ z.length) : cutS z (some (i : Int)) (some ((i : Int) + (((TL.tl z).drop i).takeWhile p).length)) = ⟨(((TL.tl z).drop i).takeWhile p).toArray⟩ := by
  have hl : ((TL.tl z).drop i).length = z.length - i := by rw [List.length_drop, ← TL.len_tl]
  have hw := run_le p ((TL.tl z).drop i)
  unfold cutS
  have e : (i : Int) + (((TL.tl z).drop i).takeWhile p).length = ((i + (((TL.tl z).drop i).takeWhile p).length : Nat) : Int) := by omega
  rw [e, HT.sIx_nat, HT.sIx_nat, Nat.min_eq_left h, Nat.min_eq_left (by omega), Nat.add_sub_cancel_left]
  show (⟨(List.take _ ((TL.tl z).drop i)).toArray⟩ : Str) = _
  rw [take_run]
section
variable {P : Program} {w : World} {K : PySem.W.Frag} {mg : Str → Option Value} {base : Heap} {CT : Addr}
def spTokI (CT : Addr) : Sp := fun vs H Q _ => ∃ (x dx : Addr) (k t : Str) (l c : Int), vs = [.ref x, .str k, .str t, .int l, .int c] ∧ H x = some (.ins CT dx []) ∧
  ∀ H' : Hp, Wd [x] H H' [(x, .ins CT dx (tkF k t l c))] → Q .non H'
abbrev sToken___init__ : Stmt := inClass (topS 17) 0
theorem scToken___init__ : FnScope ["self", "kind", "text", "line", "column"] ["self", "kind", "text", "line", "column"] (defScope sToken___init__) := ⟨rfl, rfl, rfl, by decide +kernel, rfl, by decide +kernel, by decide +kernel⟩
theorem mk_token (D : InitAt K mg "Token" "Token.__init__" CT sToken___init__ ["self", "kind", "text", "line", "column"]) (TC : TokCls K CT) : MkAt P w K mg base 1 "Token" CT ["self", "kind", "text", "line", "column"] (spTokI CT) := D.mk' fun f fd F => by
  have nd := scToken___init__.nd
  refine F.ok scToken___init__ (fun vs H Q E h => ?_) (fun cdv A outer s H vs Q E hr h => ?_)
  · obtain ⟨x, dx, k, t, l, c, rfl, _⟩ := h; rfl
  obtain ⟨x, dx, k, t, l, c, rfl, hx, q⟩ := h
  refine ⟨_, (pss_cons (ps_fld (pv 0) (pv 1) rfl)
 (pss_cons (ps_fld (pv 0) (pv 2) rfl)
 (pss_cons (ps_fld (pv 0) (pv 3) rfl)
 (pss_one (ps_fld (pv 0) (pv 4) rfl))))), ?_⟩
  have w0 := Wd.start1 hx
  refine ⟨_, rfl, _, rfl, x, CT, dx, [], rfl, hx, TC.cl, TC.nk, (by show 0 < 1000; decide), ?_⟩
  refine ⟨_, rfl, _, rfl, x, CT, dx, _, rfl, upd_same, TC.cl, TC.nt, (by show 1 < 1000; decide), ?_⟩
  have e1 : putF "text" (.str t) (putF "kind" (.str k) []) = [(("kind" : Str), V.str k), ("text", V.str t)] := putF_ne (by decide +kernel)
  refine ⟨_, rfl, _, rfl, x, CT, dx, _, rfl, upd_same, TC.cl, TC.nl, (by rw [e1]; show 2 < 1000; decide), ?_⟩
  have e2 : putF "line" (.int l) (putF "text" (.str t) (putF "kind" (.str k) [])) = [(("kind" : Str), V.str k), ("text", V.str t), ("line", V.int l)] := by
    rw [e1, putF_ne (by decide +kernel), putF_ne (by decide +kernel)]; rfl
  refine ⟨_, rfl, _, rfl, x, CT, dx, _, rfl, upd_same, TC.cl, TC.nc, (by rw [e2]; show 3 < 1000; decide), ?_⟩
  rw [tkF_new, upd_upd, upd_upd, upd_upd]
  exact q _ (w0.put 0 (.ins CT dx (tkF k t l c)) rfl (fun xs q => by cases q))
/-! run_end -/
def spRunEnd : Sp := fun vs H Q _ => ∃ (z ls : Str) (i : Nat), vs = [.str z, .int i, .str ls] ∧ i ≤ z.length ∧ z.length ≤ sizeLine ∧ Q (.int ((i : Int) + (((TL.tl z).drop i).takeWhile fun c => decide (c ∈ TL.tl ls)).length)) H
abbrev srun_end : Stmt := topS 18
theorem scrun_end : FnScope ["row", "start", "letters", "end"] ["row", "start", "letters"] (defScope srun_end) := ⟨rfl, rfl, rfl, by decide +kernel, rfl, by decide +kernel, by decide +kernel⟩
theorem cal_run_end (D : DefAt K mg "run_end" srun_end ["row", "start", "letters"]) (T : Bi mg) : Cal P w K mg base 1 "run_end" ["row", "start", "letters"] spRunEnd := D.cal fun f fd F => by
  have nd := scrun_end.nd
  refine F.ok scrun_end (fun vs H Q E h => ?_) (fun cdv A outer s H vs Q E hr h => ?_)
  · obtain ⟨z, ls, i, rfl, _⟩ := h; rfl
  obtain ⟨z, ls, i, rfl, hi, hz, q⟩ := h
  refine ⟨_, (pss_cons (ps_set (i := 3) nd rfl (Or.inl rfl) (pv 1))
 (pss_cons (ps_while PassesOwn.never (PW.pt (pw_and (pt_cmpR op_lt (pv 3) (pe_callB call_len_str (by rfl) T.len PySem.boot_len (pa_cons (pv 0) pa_nil)) (nomark _)) (pw_and1 (pt_cmpR op_in_sign (pe_ix ix_str (pv 0) (pv 3) (fun _ _ => rfl)) (pv 2) (by rfl)))))
 (pss_one (ps_aug (i := 3) nd rfl (Or.inl rfl) pe_int ip_add)))
 (pss_one (ps_ret (pv 3))))), ?_⟩
  have hl : ((TL.tl z).drop i).length = z.length - i := by rw [List.length_drop, ← TL.len_tl]
  generalize hp : (fun c => decide (c ∈ TL.tl ls)) = p at q
  have hw := run_le p ((TL.tl z).drop i)
  have hget : ∀ j : Nat, ((TL.tl z).drop i)[j]? = (TL.tl z)[i + j]? := fun j => List.getElem?_drop
  have hrun : ∀ (l : List Nat) (j : Nat), j ≤ (l.takeWhile p).length → ∀ c, l[j]? = some c → (p c = true ↔ j < (l.takeWhile p).length) := by
    intro l
    induction l with
    | nil => intro j _ c h; simp at h
    | cons a l ih =>
      intro j hj c hc
      rw [List.takeWhile_cons] at hj ⊢
      by_cases ha : p a = true
      · rw [if_pos ha, List.length_cons] at hj ⊢
        cases j with
        | zero => simp at hc; subst hc; simp [ha]
        | succ j =>
          have := ih j (by omega) c (by simpa using hc)
          exact this.trans ⟨fun h => by omega, fun h => by omega⟩
      · rw [if_neg ha] at hj ⊢
        have : j = 0 := by simpa using hj
        subst this
        simp at hc; subst hc
        simp [ha]
  generalize hn : (((TL.tl z).drop i).takeWhile p).length = n at q hw
  refine ⟨_, rfl, while_by (fun σ H' => H' = H ∧ ∃ j : Nat, j ≤ n ∧ σ = [some (.str z), some (.int i), some (.str ls), some (.int ((i : Int) + j))]) (fun σ _ => z.length - (slotI σ 3).toNat)
    ⟨rfl, 0, Nat.zero_le _, by simp; rfl⟩ ?_ ?_⟩
  · rintro σ H1 ⟨rfl, j, hj, rfl⟩
    refine ⟨_, rfl, _, rfl, z, rfl, hz, _, _, rfl, rfl, _, rfl, ?_⟩
    refine ite2 (fun hc => ?_) (fun hc => ?_)
    · have hlt : i + j < z.length := by have := of_decide_eq_true hc; omega
      have hlt' : i + j < (TL.tl z).length := by rw [← TL.len_tl]; exact hlt
      refine ⟨_, rfl, _, rfl, z, _, (TL.tl z)[i + j], rfl, rfl, hz, at_iN (j := i + j) (by omega) (List.getElem?_eq_getElem hlt'), _, rfl, _, ls, rfl, rfl, _, rfl, ?_⟩
      have hr := hrun ((TL.tl z).drop i) j (by rw [hn]; exact hj) (TL.tl z)[i + j] (by rw [hget]; exact List.getElem?_eq_getElem hlt')
      rw [hn] at hr
      refine ite2 (fun hc2 => ?_) (fun hc2 => ?_)
      · have hjn : j < n := hr.mp (by rw [← hp]; exact hc2)
        refine ⟨_, rfl, _, _, rfl, rfl, ⟨rfl, j + 1, hjn, ?_⟩, ?_⟩
        · show [_, _, _, some (V.int ((i : Int) + j + 1))] = _
          rw [show (i : Int) + j + 1 = (i : Int) + (j + 1 : Nat) by omega]
        · show z.length - ((i : Int) + j + 1).toNat < z.length - ((i : Int) + j).toNat
          omega
      · have hjn : j = n := by
          have : ¬ j < n := fun h => hc2 (by rw [← hp] at hr; exact hr.mpr h)
          omega
        subst hjn
        exact ⟨_, rfl, q⟩
    · have hjn : j = n := by
        have : ¬ (i : Int) + j < z.length := fun h => hc (decide_eq_true h)
        omega
      subst hjn
      exact ⟨_, rfl, q⟩
  · intro σ H Q Q' h hc
    obtain ⟨v3, e3, v0, e0, z, ez, hz, i, j, ei, ej, c, ec, hc⟩ := hc
    refine ⟨v3, e3, v0, e0, z, ez, hz, i, j, ei, ej, c, ec, ?_⟩
    cases c with
    | false => exact h _ _ hc
    | true =>
      obtain ⟨a1, a2, a3, a4, a5, a6, a7, a8, a9, b1, b2, b3, b4, b5, b6, b7, b8, b9, c1, c2⟩ := hc
      exact ⟨a1, a2, a3, a4, a5, a6, a7, a8, a9, b1, b2, b3, b4, b5, b6, b7, b8, b9, c1, h _ _ c2⟩
end
end Br

namespace Br
open PySem PySem.Spec PyProof.Rows L2
/-- the lexer's constants -/
structure LexC (K : PySem.W.Frag) (mg : Str → Option Value) : Prop where
  END_SIGN : ∃ t, mg "END_SIGN" = some (.str ";" t)
  SIGN : ∃ t, mg "SIGN" = some (.str "sign" t)
  DIGITS : ∃ t, mg "DIGITS" = some (.str "0123456789" t)
  MAX_DIGITS : ∃ t, mg "MAX_DIGITS" = some (.int 2 t)
  NUMBER : ∃ t, mg "NUMBER" = some (.str "number" t)
  LETTERS : ∃ t, mg "LETTERS" = some (.str "abcdefghijklmnopqrstuvwxyz" t)
  KEYWORDS : ∃ kw, mg "KEYWORDS" = some (.ref kw) ∧ ∀ H : Hp, SqT K H kw (kws.map V.str)
  KEYWORD : ∃ t, mg "KEYWORD" = some (.str "keyword" t)
  MAX_LETTERS : ∃ t, mg "MAX_LETTERS" = some (.int 8 t)
  NAME : ∃ t, mg "NAME" = some (.str "name" t)
  END : ∃ t, mg "END" = some (.str "end" t)
  SPACES : ∃ t, mg "SPACES" = some (.str " \n" t)
theorem inV_strs (x : Str) : ∀ l : List Str, inV (.str x) (l.map V.str) = decide (x ∈ l)
  | [] => by simp [inV]
  | y :: l => by
    have ih := inV_strs x l
    unfold inV at ih ⊢
    rw [List.map_cons, List.any_cons, ih, Bool.eq_iff_iff, Bool.or_eq_true, decide_eq_true_eq, decide_eq_true_eq, List.mem_cons]
    exact or_congr ⟨fun h => (eq_of_beq (show (y == x) = true from h)).symm, fun h => (show (y == x) = true from beq_iff_eq.mpr h.symm)⟩ Iff.rfl
theorem flat_strs' (l : List Str) : (l.map V.str).all flatV = true := by
  rw [List.all_eq_true]
  intro v hv
  obtain ⟨s, _, rfl⟩ := List.mem_map.mp hv
  rfl
section
variable {P : Program} {w : World} {K : PySem.W.Frag} {mg : Str → Option Value} {base : Heap} {CT : Addr}
def spReadTok (CT : Addr) : Sp := fun vs H Q _ => ∃ (z k t : Str) (line : Int) (col : Nat), vs = [.str z, .int line, .int col] ∧ z.length ≤ sizeLine ∧ tokAt ((TL.tl z).drop col) = some (k, t) ∧
  ∀ (x dx : Addr) (H' : Hp), Wd [] H H' [(x, .ins CT dx (tkF k t line col)), (dx, .own x)] → Q (.ref x) H'
theorem tok_fin {H H' : Hp} {x dx : Addr} {fs : List (Str × V)} (hx : H x = none) (hd : H dx = none) (ne : dx ≠ x) (c : Wd [x] (upd (upd H dx (.own x)) x (.ins CT dx [])) H' [(x, .ins CT dx fs)]) : Wd [] H H' [(x, .ins CT dx fs), (dx, .own x)] :=
  ((Wd.refl H).make CT hx hd ne).call1 (fun xs q => by cases q) c
abbrev sread_token : Stmt := topS 19
theorem scread_token : FnScope ["row", "line", "column", "first", "word"] ["row", "line", "column"] (defScope sread_token) := ⟨rfl, rfl, rfl, by decide +kernel, rfl, by decide +kernel, by decide +kernel⟩
theorem cal_read_token (D : DefAt K mg "read_token" sread_token ["row", "line", "column"]) (T : Bi mg) (C : LexC K mg) (C1 : Cal P w K mg base 1 "run_end" ["row", "start", "letters"] spRunEnd) (CM : MkAt P w K mg base 1 "Token" CT ["self", "kind", "text", "line", "column"] (spTokI CT)) :
    Cal P w K mg base 3 "read_token" ["row", "line", "column"] (spReadTok CT) := D.cal fun f fd F => by
  have nd := scread_token.nd
  obtain ⟨t1, c_END_SIGN⟩ := C.END_SIGN
  obtain ⟨t2, c_SIGN⟩ := C.SIGN
  obtain ⟨t3, c_DIGITS⟩ := C.DIGITS
  obtain ⟨t4, c_MAX_DIGITS⟩ := C.MAX_DIGITS
  obtain ⟨t5, c_NUMBER⟩ := C.NUMBER
  obtain ⟨t6, c_LETTERS⟩ := C.LETTERS
  obtain ⟨a_KEYWORDS, c_KEYWORDS, hkw⟩ := C.KEYWORDS
  obtain ⟨t7, c_KEYWORD⟩ := C.KEYWORD
  obtain ⟨t8, c_MAX_LETTERS⟩ := C.MAX_LETTERS
  obtain ⟨t9, c_NAME⟩ := C.NAME
  obtain ⟨f1, fd1, m_run_end, kp_run_end, b_run_end, G_run_end⟩ := C1.ex
  obtain ⟨f2, fd2, mC_Token, Mk_Token, b_Token, G_Token⟩ := CM.ex
  refine F.ok scread_token (fun vs H Q E h => ?_) (fun cdv A outer s H vs Q E hr h => ?_)
  · obtain ⟨z, k, t, line, col, rfl, _⟩ := h; rfl
  obtain ⟨z, k, t, line, col, rfl, hz, htok, q⟩ := h
  refine ⟨_, (pss_cons (ps_set (i := 3) nd rfl (Or.inl rfl) (pe_ix ix_str (pv 0) (pv 2) (fun _ _ => rfl)))
 (pss_cons (ps_if (pt_cmpR op_eq (pv 3) (pe_glob (v := .str ";") (by rfl) c_END_SIGN ⟨_, rfl⟩) (nomark _))
 (pss_one (ps_ret (pe_make Mk_Token G_Token (hr.mono (by first | decide | omega)) (by rfl) mC_Token b_Token .nil pass0 (pa_cons (pe_glob (v := .str "sign") (by rfl) c_SIGN ⟨_, rfl⟩) (pa_cons (pv 3) (pa_cons (pv 1) (pa_cons (pv 2) pa_nil)))))))
 pss_nil)
 (pss_cons (ps_if (pt_cmpR op_in_sign (pv 3) (pe_glob (v := .str "0123456789") (by rfl) c_DIGITS ⟨_, rfl⟩) (by rfl))
 (pss_cons (ps_set (i := 4) nd rfl (Or.inl rfl) (pe_slice sl_str (pv 0) (po_some (pv 2)) (po_some (pe_call G_run_end (hr.mono (by first | decide | omega)) (by rfl) m_run_end kp_run_end b_run_end .nil pass0 (pa_cons (pv 0) (pa_cons (pv 2) (pa_cons (pe_glob (v := .str "0123456789") (by rfl) c_DIGITS ⟨_, rfl⟩) pa_nil)))))))
 (pss_cons (ps_if (PW.pt (pw_or (pt_cmpR op_gt (pe_callB call_len_str (by rfl) T.len PySem.boot_len (pa_cons (pv 4) pa_nil)) (pe_glob (v := .int 2) (by rfl) c_MAX_DIGITS ⟨_, rfl⟩) (nomark _)) (pw_or1 (PW.pt (pw_and (pt_cmpR op_gt (pe_callB call_len_str (by rfl) T.len PySem.boot_len (pa_cons (pv 4) pa_nil)) pe_int (nomark _)) (pw_and1 (pt_cmpR op_eq (pv 3) pe_str (nomark _))))))))
 pss_never
 pss_nil)
 (pss_one (ps_ret (pe_make Mk_Token G_Token (hr.mono (by first | decide | omega)) (by rfl) mC_Token b_Token .nil pass0 (pa_cons (pe_glob (v := .str "number") (by rfl) c_NUMBER ⟨_, rfl⟩) (pa_cons (pv 4) (pa_cons (pv 1) (pa_cons (pv 2) pa_nil)))))))))
 pss_nil)
 (pss_cons (ps_set (i := 4) nd rfl (Or.inl rfl) (pe_slice sl_str (pv 0) (po_some (pv 2)) (po_some (pe_call G_run_end (hr.mono (by first | decide | omega)) (by rfl) m_run_end kp_run_end b_run_end .nil pass0 (pa_cons (pv 0) (pa_cons (pv 2) (pa_cons (pe_glob (v := .str "abcdefghijklmnopqrstuvwxyz") (by rfl) c_LETTERS ⟨_, rfl⟩) pa_nil)))))))
 (pss_cons (ps_if (pt_cmpR (r := rIn K false) op_in_seq (pv 4) (pe_glob (v := .ref a_KEYWORDS) (by rfl) c_KEYWORDS rfl) (by rfl))
 (pss_one (ps_ret (pe_make Mk_Token G_Token (hr.mono (by first | decide | omega)) (by rfl) mC_Token b_Token .nil pass0 (pa_cons (pe_glob (v := .str "keyword") (by rfl) c_KEYWORD ⟨_, rfl⟩) (pa_cons (pv 4) (pa_cons (pv 1) (pa_cons (pv 2) pa_nil)))))))
 pss_nil)
 (pss_cons (ps_if (pt_not (pt_chain op_le op_le pe_int (pe_callB call_len_str (by rfl) T.len PySem.boot_len (pa_cons (pv 4) pa_nil)) (pe_glob (v := .int 8) (by rfl) c_MAX_LETTERS ⟨_, rfl⟩)))
 pss_never
 pss_nil)
 (pss_one (ps_ret (pe_make Mk_Token G_Token (hr.mono (by first | decide | omega)) (by rfl) mC_Token b_Token .nil pass0 (pa_cons (pe_glob (v := .str "name") (by rfl) c_NAME ⟨_, rfl⟩) (pa_cons (pv 4) (pa_cons (pv 1) (pa_cons (pv 2) pa_nil))))))))))))), ?_⟩
  have hcol : col < (TL.tl z).length := by
    refine Nat.lt_of_not_le fun hle => ?_
    rw [List.drop_eq_nil_of_le hle] at htok
    cases htok
  have hcol' : col ≤ z.length := by rw [TL.len_tl]; omega
  obtain ⟨c, r, hcr⟩ : ∃ c r, (TL.tl z).drop col = c :: r := ⟨_, _, List.drop_eq_getElem_cons hcol⟩
  have hc : (TL.tl z)[col]? = some c := by
    have := congrArg (fun l => l[0]?) hcr
    simpa [List.getElem?_drop] using this
  have cutd : ∀ p : Nat → Bool, cutS z (some (col : Int)) (some ((col : Int) + (((TL.tl z).drop col).takeWhile p).length)) = ⟨((c :: r).takeWhile p).toArray⟩ := fun p => by
    rw [cut_run z col p hcol', hcr]
  have wl : ∀ p : Nat → Bool, (⟨((c :: r).takeWhile p).toArray⟩ : Str).length = ((c :: r).takeWhile p).length := fun p => by simp [Str.length]
  have hlen : (c :: r).length ≤ sizeLine := by
    have h2 := congrArg List.length hcr
    rw [List.length_drop, ← TL.len_tl] at h2
    exact Nat.le_trans (by omega) hz
  have wz : ∀ p : Nat → Bool, ((c :: r).takeWhile p).length ≤ sizeLine := fun p => Nat.le_trans (run_le p (c :: r)) hlen
  rw [hcr] at htok
  refine ⟨_, rfl, _, rfl, z, _, c, rfl, rfl, hz, atI_nat hc, ?_⟩
  have fs : decide (V.str ⟨#[c]⟩ = V.str ";") = decide (c = 59) := by
    rw [decide_eq_decide]
    constructor
    · intro h
      have := congrArg (fun v => match v with | V.str s => TL.tl s | _ => []) h
      have e : TL.tl (";" : Str) = [59] := by decide +kernel
      simp only [e] at this
      simpa [TL.tl] using this
    · rintro rfl; rfl
  refine ⟨_, rfl, rfl, _, rfl, ?_⟩
  rw [fs]
  simp only [tokAt] at htok
  by_cases h1 : c = 59
  · rw [if_pos h1] at htok
    cases htok
    subst h1
    refine ite2 (fun _ => ?_) (fun h => absurd (decide_eq_true rfl) h)
    refine ⟨_, rfl, _, rfl, _, rfl, fun x dx hx hd ne => ?_⟩
    exact ⟨x, dx, _, _, _, _, rfl, upd_same, fun H' c => ⟨rfl, q x dx H' (tok_fin hx hd ne c)⟩⟩
  rw [if_neg h1] at htok
  refine ite2 (fun h => absurd (of_decide_eq_true h) h1) (fun _ => ?_)
  refine ⟨_, rfl, c, "0123456789", rfl, rfl, _, rfl, ?_⟩
  have fd : decide (c ∈ ("0123456789" : Str).cps.toList) = dig c := rfl
  rw [fd]
  by_cases h2 : dig c = true
  · rw [if_pos h2] at htok
    refine ite2 (fun _ => ?_) (fun h => absurd h2 h)
    refine ⟨_, rfl, _, rfl, _, rfl, _, rfl, _, rfl, z, "0123456789", col, rfl, hcol', hz, _, rfl, z, rfl, hz, ?_⟩
    have e1 : cutS z (some (col : Int)) (some ((col : Int) + ((List.drop col (TL.tl z)).takeWhile fun c => decide (c ∈ TL.tl "0123456789")).length)) = ⟨((c :: r).takeWhile dig).toArray⟩ := cutd dig
    rw [e1]
    have h3 := wl dig
    have h4 := wz dig
    generalize hw : (c :: r).takeWhile dig = wd at *
    by_cases h5 : wd.length > 2 ∨ (wd.length > 1 ∧ c = 48)
    · rw [if_pos h5] at htok; cases htok
    rw [if_neg h5] at htok
    cases htok
    have f0 : decide (V.str ⟨#[c]⟩ = V.str "0") = decide (c = 48) := by
      rw [decide_eq_decide]
      constructor
      · intro h
        have := congrArg (fun v => match v with | V.str s => TL.tl s | _ => []) h
        have e : TL.tl ("0" : Str) = [48] := by decide +kernel
        simp only [e] at this
        simpa [TL.tl] using this
      · rintro rfl; rfl
    refine ⟨_, rfl, _, rfl, by rw [h3]; exact h4, _, _, rfl, rfl, _, rfl, ?_⟩
    refine ite2 (fun h => absurd (of_decide_eq_true h) (by rw [h3]; omega)) (fun _ => ?_)
    have fin : ∀ x dx, H x = none → H dx = none → dx ≠ x → spTokI CT (.ref x :: ([V.str "number", V.str ⟨wd.toArray⟩, V.int line, V.int col] ++ [])) (upd (upd H dx (.own x)) x (.ins CT dx [])) (fun v H2 => v = .non ∧ Q (.ref x) H2) E0 := fun x dx hx hd ne =>
      ⟨x, dx, _, _, _, _, rfl, upd_same, fun H' c => ⟨rfl, q x dx H' (tok_fin hx hd ne c)⟩⟩
    refine ⟨_, rfl, _, rfl, by rw [h3]; exact h4, _, _, rfl, rfl, _, rfl, ?_⟩
    refine ite2 (fun h6 => ?_) (fun _ => ⟨_, rfl, _, rfl, _, rfl, fin⟩)
    refine ⟨_, rfl, rfl, _, rfl, ?_⟩
    rw [f0]
    have h7 := of_decide_eq_true h6
    refine ite2 (fun h8 => absurd (of_decide_eq_true h8) (by rw [h3] at h7; omega)) (fun _ => ⟨_, rfl, _, rfl, _, rfl, fin⟩)
  rw [if_neg h2] at htok
  refine ite2 (fun h => absurd h h2) (fun _ => ?_)
  refine ⟨_, rfl, _, rfl, _, rfl, _, rfl, _, rfl, z, "abcdefghijklmnopqrstuvwxyz", col, rfl, hcol', hz, _, rfl, z, rfl, hz, ?_⟩
  have e1 : cutS z (some (col : Int)) (some ((col : Int) + ((List.drop col (TL.tl z)).takeWhile fun c => decide (c ∈ TL.tl "abcdefghijklmnopqrstuvwxyz")).length)) = ⟨((c :: r).takeWhile ltr).toArray⟩ := cutd ltr
  rw [e1]
  have h3 := wl ltr
  have h4 := wz ltr
  generalize hw : (c :: r).takeWhile ltr = wd at *
  have fin : ∀ x dx, H x = none → H dx = none → dx ≠ x → spTokI CT (.ref x :: ([V.str k, V.str ⟨wd.toArray⟩, V.int line, V.int col] ++ [])) (upd (upd H dx (.own x)) x (.ins CT dx [])) (fun v H2 => v = .non ∧ Q (.ref x) H2) E0 := fun x dx hx hd ne =>
    ⟨x, dx, _, _, _, _, rfl, upd_same, fun H' c => ⟨rfl, q x dx H' (by
      have ht : t = ⟨wd.toArray⟩ := by
        split at htok
        · cases htok; rfl
        · split at htok
          · cases htok; rfl
          · cases htok
      rw [ht]
      exact tok_fin hx hd ne c)⟩⟩
  refine ⟨_, rfl, a_KEYWORDS, kws.map V.str, rfl, .inr (hkw _), rfl, flat_strs' _, _, rfl, ?_⟩
  rw [if_neg Bool.false_ne_true, inV_strs]
  by_cases h5 : (⟨wd.toArray⟩ : Str) ∈ kws
  · rw [if_pos h5] at htok
    cases htok
    refine ite2 (fun _ => ?_) (fun h => absurd (decide_eq_true h5) h)
    exact ⟨_, rfl, _, rfl, _, rfl, fin⟩
  rw [if_neg h5] at htok
  refine ite2 (fun h => absurd (of_decide_eq_true h) h5) (fun _ => ?_)
  by_cases h6 : 1 ≤ wd.length ∧ wd.length ≤ 8
  · rw [if_pos h6] at htok
    cases htok
    refine ⟨_, rfl, _, rfl, by rw [h3]; exact h4, _, _, rfl, rfl, _, rfl, ?_⟩
    refine ite2 (fun _ => ?_) (fun h => absurd (decide_eq_true (by rw [h3]; omega)) h)
    refine ⟨_, _, rfl, rfl, _, rfl, ?_⟩
    refine ite2 (fun h => ?_) (fun _ => ?_)
    · rw [show decide ((((⟨wd.toArray⟩ : Str).length : Nat) : Int) ≤ 8) = true from decide_eq_true (by rw [h3]; omega)] at h
      cases h
    · exact ⟨_, rfl, _, rfl, _, rfl, fin⟩
  · rw [if_neg h6] at htok
    cases htok
end
end Br

namespace Br
open PySem PySem.Spec PyProof.Rows L2
/-! ### the whole lexer -/
/-- the tokens of a row -/
inductive LexR : List Nat → List (Str × Str) → Prop
  | nil : LexR [] []
  | space {c r ts} : c = 32 ∨ c = 10 → LexR r ts → LexR (c :: r) ts
  | tok {c r k t ts} : ¬ (c = 32 ∨ c = 10) → tokAt (c :: r) = some (k, t) → LexR ((c :: r).drop t.length) ts → LexR (c :: r) ((k, t) :: ts)
theorem tokAt_pos {l : List Nat} {k t : Str} (h : tokAt l = some (k, t)) : 1 ≤ t.length := by
  cases l with
  | nil => cases h
  | cons c r =>
    simp only [tokAt] at h
    split at h
    · cases h; decide
    · split at h
      · rename_i hd
        split at h
        · cases h
        · cases h
          show 1 ≤ ((c :: r).takeWhile dig).toArray.size
          rw [List.takeWhile_cons, if_pos hd]; simp
      · split at h
        · rename_i hk
          cases h
          have : ∀ s ∈ kws, 1 ≤ s.length := by decide
          exact this _ hk
        · split at h
          · rename_i hk
            cases h
            exact hk.1
          · cases h
theorem tokAt_len {l : List Nat} {k t : Str} {n : Nat} (h : tokAt l = some (k, t)) (hn : l.length ≤ n) : t.length ≤ n := by
  cases l with
  | nil => cases h
  | cons c r =>
    have hp : ∀ p : Nat → Bool, ((c :: r).takeWhile p).length ≤ n := fun p => Nat.le_trans (run_le p _) hn
    simp only [tokAt] at h
    split at h
    · cases h
      exact Nat.le_trans (show 1 ≤ (c :: r).length by simp) hn
    · split at h
      · split at h
        · cases h
        · cases h; exact hp dig
      · split at h
        · cases h; exact hp ltr
        · split at h
          · cases h; exact hp ltr
          · cases h
def Tks (CT : Addr) (H : Hp) (L : List (Addr × (Str × Str))) : Prop := ∀ q ∈ L, ∃ dx l c, H q.1 = some (.ins CT dx (tkF q.2.1 q.2.2 l c))
def trefs (L : List (Addr × (Str × Str))) : List V := L.map fun q => V.ref q.1
theorem trefs_len (L : List (Addr × (Str × Str))) : (trefs L).length = L.length := List.length_map ..
theorem Tks.nil {CT : Addr} {H : Hp} : Tks CT H [] := fun q h => nomatch h
theorem Tks.new {CT : Addr} {H : Hp} {L : List (Addr × (Str × Str))} (h : Tks CT H L) {p : Addr} {o : HO} (hp : H p = none) : Tks CT (upd H p o) L := fun q hq => by
  obtain ⟨dx, l, c, e⟩ := h q hq
  exact ⟨dx, l, c, by rw [upd_ne (ne_of_none e hp)]; exact e⟩
theorem Tks.put {CT : Addr} {H : Hp} {L : List (Addr × (Str × Str))} (h : Tks CT H L) {p : Addr} {o u : HO} (hp : H p = some u) (hu : ∀ dx fs, u ≠ .ins CT dx fs) : Tks CT (upd H p o) L := fun q hq => by
  obtain ⟨dx, l, c, e⟩ := h q hq
  exact ⟨dx, l, c, by rw [upd_ne (ne_of e hp (fun z => hu _ _ z.symm))]; exact e⟩
theorem Tks.call {CT : Addr} {H H' : Hp} {L : List (Addr × (Str × Str))} {l : List (Addr × HO)} (h : Tks CT H L) (c : Wd [] H H' l) : Tks CT H' L := fun q hq => by
  obtain ⟨dx, l, c', e⟩ := h q hq
  exact ⟨dx, l, c', c.base _ _ (by simp) e⟩
theorem Tks.snoc {CT : Addr} {H : Hp} {L : List (Addr × (Str × Str))} (h : Tks CT H L) {x dx : Addr} {k t : Str} {l c : Int} (e : H x = some (.ins CT dx (tkF k t l c))) : Tks CT H (L ++ [(x, (k, t))]) := fun q hq => by
  rcases List.mem_append.mp hq with hq | hq
  · exact h q hq
  · rw [List.mem_singleton.mp hq]; exact ⟨dx, l, c, e⟩
section
variable {P : Program} {w : World} {K : PySem.W.Frag} {mg : Str → Option Value} {base : Heap} {CT : Addr}
def spTokenize (CT : Addr) : Sp := fun vs H Q _ => ∃ (z : Str) (tss : List (List (Str × Str))), vs = [.str z] ∧ z.length + 2 ≤ sizeLine ∧ (Txt.split z "\n").length = tss.length ∧
  (∀ (i : Nat) row ts, (Txt.split z "\n")[i]? = some row → tss[i]? = some ts → row.length ≤ sizeLine ∧ LexR (TL.tl row) ts) ∧ tss.flatten.length < 1000 ∧ (Txt.split z "\n").length ≤ sizeLine ∧
  ∀ (p : Addr) (L : List (Addr × (Str × Str))) (H' : Hp), Wd [] H H' [(p, .lst (trefs L))] → Tks CT H' L → L.map (·.2) = tss.flatten ++ [(("end" : Str), ("" : Str))] → Q (.ref p) H'
abbrev stokenize : Stmt := topS 20
theorem sctokenize : FnScope ["source", "tokens", "rows", "line", "row", "column", "token"] ["source"] (defScope stokenize) := ⟨rfl, rfl, rfl, by decide +kernel, rfl, by decide +kernel, by decide +kernel⟩
theorem cal_tokenize (D : DefAt K mg "tokenize" stokenize ["source"]) (T : Bi mg) (C : LexC K mg) (TC : TokCls K CT) (C1 : Cal P w K mg base 3 "read_token" ["row", "line", "column"] (spReadTok CT)) (CM : MkAt P w K mg base 1 "Token" CT ["self", "kind", "text", "line", "column"] (spTokI CT)) :
    Cal P w K mg base 4 "tokenize" ["source"] (spTokenize CT) := D.cal fun f fd F => by
  have nd := sctokenize.nd
  obtain ⟨t1, c_SPACES⟩ := C.SPACES
  obtain ⟨t2, c_END⟩ := C.END
  obtain ⟨f1, fd1, m_read_token, kp_read_token, b_read_token, G_read_token⟩ := C1.ex
  obtain ⟨f2, fd2, mC_Token, Mk_Token, b_Token, G_Token⟩ := CM.ex
  refine F.ok sctokenize (fun vs H Q E h => ?_) (fun cdv A outer s H vs Q E hr h => ?_)
  · obtain ⟨z, k, rfl, _⟩ := h; rfl
  obtain ⟨z, tss, rfl, hz, hlen, hlex, hfew, hrows, q⟩ := h
  refine ⟨_, (pss_cons (ps_set (i := 1) nd rfl (Or.inl rfl) (pe_lst pa_nil))
 (pss_cons (ps_set (i := 2) nd rfl (Or.inl rfl) (pe_split (pv 0) pe_str))
 (pss_cons (ps_for PassesOwn.never rfl (pi_enum (by rfl) T.enumerate (pa_cons (pv 2) pa_nil)) (pg_tupK (K := K) (n := 2) rfl rfl (pgs_cons (pg_name (i := 3) nd rfl (Or.inl rfl)) (pgs_cons (pg_name (i := 4) nd rfl (Or.inl rfl)) pgs_nil)))
 (pss_cons (ps_set (i := 5) nd rfl (Or.inl rfl) pe_int)
 (pss_one (ps_while PassesOwn.never (pt_cmpR op_lt (pv 5) (pe_callB call_len_str (by rfl) T.len PySem.boot_len (pa_cons (pv 4) pa_nil)) (nomark _))
 (pss_one (ps_if (pt_cmpR op_in_sign (pe_ix ix_str (pv 4) (pv 5) (fun _ _ => rfl)) (pe_glob (v := .str " \n") (by rfl) c_SPACES ⟨_, rfl⟩) (by rfl))
 (pss_one (ps_aug (i := 5) nd rfl (Or.inl rfl) pe_int ip_add))
 (pss_cons (ps_set (i := 6) nd rfl (Or.inl rfl) (pe_call G_read_token (hr.mono (by first | decide | omega)) (by rfl) m_read_token kp_read_token b_read_token .nil pass0 (pa_cons (pv 4) (pa_cons (pv 3) (pa_cons (pv 5) pa_nil)))))
 (pss_cons (ps_expr (pe_bmK (K := K) rfl PySem.F.plainAttrs_list PySem.F.slot_list_append PySem.F.type_list_append mt_append (pv 1) (pa_cons (pv 6) pa_nil)))
 (pss_one (ps_aug (i := 5) nd rfl (Or.inl rfl) (pe_callB call_len_str (by rfl) T.len PySem.boot_len (pa_cons (pe_fldK (K := K) rfl (pv 6) rfl) pa_nil)) ip_add))))))))))
 (pss_one (ps_ret (pe_op op_cat (pv 1) (pe_lst (pa_cons (pe_make Mk_Token G_Token (hr.mono (by first | decide | omega)) (by rfl) mC_Token b_Token .nil pass0 (pa_cons (pe_glob (v := .str "end") (by rfl) c_END ⟨_, rfl⟩) (pa_cons pe_str (pa_cons (pe_callB (r := rLenS K) call_len_seq (by rfl) T.len PySem.boot_len (pa_cons (pv 2) pa_nil)) (pa_cons pe_int pa_nil))))) pa_nil)))))))), ?_⟩
  refine ⟨(by show 0 ≤ sizeLine; decide), fun p hp => ?_⟩
  have w1 := (Wd.refl H).new (.lst []) hp
  refine ⟨_, rfl, ⟨_, rfl⟩, z, "\n", rfl, rfl, rfl, hz, fun rr hrr => ?_⟩
  generalize hR : Txt.split z "\n" = rows at *
  have w2 := w1.new1 (.lst (rows.map V.str)) hrr
  have w2s := w2
  refine ⟨_, rfl, rr, rows.map V.str, rfl, SqL.of (w2.get 1 rfl), ?_⟩
  refine for_it (walk_enum (xs := rows.map V.str)) (fun i σ H1 => ∃ (L : List (Addr × (Str × Str))) (a b c d : Option V), σ = [some (.str z), some (.ref p), some (.ref rr), a, b, c, d] ∧
    Wd [] H H1 [(p, .lst (trefs L)), (rr, .lst (rows.map V.str))] ∧ Tks CT H1 L ∧ L.map (·.2) = (tss.take i).flatten) ?_ ?_ ?_ ?_
  · exact ⟨[], _, _, _, _, rfl, w2, Tks.nil, rfl⟩
  · rintro i σ H1 _ ⟨L, a, b, c, d, rfl, w, _⟩
    exact SqL.of (w.get 1 rfl)
  · rintro i x σ H1 H1' hi ⟨L, a, b, c, d, rfl, w3, hT, hL⟩ ⟨T0, x1, x2, rfl, hT0, rfl, e1, e2⟩
    cases e1
    obtain ⟨row, hrow, rfl⟩ : ∃ row, rows[i]? = some row ∧ x2 = V.str row := by
      have e3 : (rows.map V.str)[i]? = some x2 := e2
      rw [List.getElem?_map] at e3
      cases e : rows[i]? with
      | none => rw [e] at e3; cases e3
      | some b => rw [e] at e3; exact ⟨b, rfl, (Option.some.inj e3).symm⟩
    have hil : i < tss.length := by rw [← hlen]; exact (List.getElem?_eq_some_iff.mp hrow).1
    obtain ⟨ts, hts⟩ : ∃ ts, tss[i]? = some ts := ⟨_, List.getElem?_eq_getElem hil⟩
    obtain ⟨hrl, hx⟩ := hlex i row ts hrow hts
    have w4 := (w3.new (.tup [.int (i : Nat), .str row]) hT0)
    have hfl : (tss.take (i + 1)).flatten = (tss.take i).flatten ++ ts := by
      rw [List.take_succ, hts]; simp
    have hle : (tss.take (i + 1)).flatten.length ≤ tss.flatten.length := by
      conv => rhs; rw [← List.take_append_drop (i + 1) tss]
      rw [List.flatten_append, List.length_append]; omega
    refine ⟨T0, _, rfl, SqT.of (w4.get 0 rfl), rfl, _, _, rfl, _, _, rfl, rfl, ?_⟩
    refine while_by (fun σ H' => ∃ (L : List (Addr × (Str × Str))) (col : Nat) (d : Option V), σ = [some (.str z), some (.ref p), some (.ref rr), some (.int (i : Nat)), some (.str row), some (.int col), d] ∧
      Wd [] H H' [(p, .lst (trefs L)), (rr, .lst (rows.map V.str))] ∧ Tks CT H' L ∧ ∃ rest, LexR ((TL.tl row).drop col) rest ∧ L.map (·.2) ++ rest = (tss.take (i + 1)).flatten) (fun σ _ => row.length - (slotI σ 5).toNat)
      ⟨L, 0, d, rfl, w4.sub (by walk_at "sub"), hT.new hT0, ts, hx, by rw [hL, hfl]⟩ ?_ ?_
    · rintro σ H2 ⟨L2, col, d2, rfl, w5, hT2, rest, hx2, hL2⟩
      refine ⟨_, rfl, _, rfl, row, rfl, hrl, _, _, rfl, rfl, _, rfl, ?_⟩
      refine ite2 (fun hc => ?_) (fun hc => ?_)
      · have hlt : col < row.length := by have := of_decide_eq_true hc; omega
        have hlt' : col < (TL.tl row).length := by rw [← TL.len_tl]; exact hlt
        have hdr := List.drop_eq_getElem_cons hlt'
        have hget := List.getElem?_eq_getElem hlt'
        generalize (TL.tl row)[col] = c0 at hdr hget
        refine ⟨_, rfl, _, rfl, row, _, c0, rfl, rfl, hrl, atI_nat hget, c0, " \n", rfl, rfl, _, rfl, ?_⟩
        have fsp : decide (c0 ∈ (" \n" : Str).cps.toList) = decide (c0 = 32 ∨ c0 = 10) := by
          have e : (" \n" : Str).cps.toList = [32, 10] := by decide +kernel
          rw [e]; simp
        rw [fsp]
        rw [hdr] at hx2
        have hcols : (TL.tl row).drop (col + 1) = ((TL.tl row).drop col).drop 1 := by rw [List.drop_drop]
        refine ite2 (fun hs => ?_) (fun hs => ?_)
        · have hs := of_decide_eq_true hs
          refine ⟨_, rfl, _, _, rfl, rfl, ⟨L2, col + 1, d2, ?_, w5, hT2, rest, ?_, hL2⟩, ?_⟩
          · show [_, _, _, _, _, some (V.int ((col : Int) + 1)), _] = _
            rw [show (col : Int) + 1 = ((col + 1 : Nat) : Int) by omega]
          · cases hx2 with
            | space _ h => exact h
            | tok h => exact absurd hs h
          · show row.length - ((col : Int) + 1).toNat < row.length - ((col : Int)).toNat
            omega
        · have hs : ¬ (c0 = 32 ∨ c0 = 10) := fun h => hs (decide_eq_true h)
          cases hx2 with
          | space h => exact absurd h hs
          | @tok _ _ k t ts2 _ ht hx3 =>
          have hpos := tokAt_pos ht
          refine ⟨_, rfl, _, rfl, _, rfl, row, k, t, (i : Nat), col, rfl, hrl, by rw [hdr]; exact ht, fun x dx H3 c => ?_⟩
          have w6 := w5.call0 c
          have hT3 := (hT2.call c).snoc (w6.get 0 rfl)
          refine ⟨_, rfl, .inl ⟨rfl, _, SqL.of (w6.get 2 rfl)⟩, _, rfl, ?_⟩
          have hLl : (L2 ++ [(x, (k, t))]).length ≤ tss.flatten.length := by
            have := congrArg List.length hL2
            rw [List.length_append, List.length_map, List.length_cons] at this
            rw [List.length_append]
            show L2.length + 1 ≤ _
            omega
          refine ⟨p, _, _, rfl, rfl, w6.get 2 rfl, ?_, ?_⟩
          · rw [trefs_len]
            have hL9 : L2.length + 1 ≤ tss.flatten.length := by simpa using hLl
            exact Nat.lt_of_lt_of_le (m := 1000) (by omega) (by decide)
          have w7 := w6.put 2 (.lst (trefs L2 ++ [.ref x])) rfl (fun xs q => by cases q)
          have hT4 := hT3.put (p := p) (o := .lst (trefs L2 ++ [.ref x])) (w6.get 2 rfl) (fun _ _ q => by cases q)
          have hTx := hT4 (x, (k, t)) (by simp)
          obtain ⟨dx2, l2, c2, hTx⟩ := hTx
          have htl : t.length ≤ sizeLine := tokAt_len ht (by
            have h2 := congrArg List.length hdr
            rw [List.length_drop, ← TL.len_tl] at h2
            rw [← h2]
            exact Nat.le_trans (Nat.sub_le _ _) hrl)
          refine ⟨_, rfl, _, rfl, x, CT, dx2, _, _, rfl, hTx, TC.cl, TC.nt, tk_text k t _ _, t, rfl, htl, _, _, rfl, rfl, ⟨L2 ++ [(x, (k, t))], col + t.length, some (.ref x), ?_, ?_, hT4, ts2, ?_, ?_⟩, ?_⟩
          · show [_, _, _, _, _, some (V.int ((col : Int) + t.length)), _] = _
            rw [show (col : Int) + t.length = ((col + t.length : Nat) : Int) by omega]
          · have w8 := w7.sub (l' := [(p, HO.lst (trefs L2 ++ [.ref x])), (rr, .lst (rows.map V.str))]) (by walk_at "sub")
            have e : trefs (L2 ++ [(x, (k, t))]) = trefs L2 ++ [.ref x] := by simp [trefs]
            rw [e]; exact w8
          · rw [← hdr, List.drop_drop] at hx3
            exact hx3
          · rw [← hL2, List.map_append, List.append_assoc]; rfl
          · show row.length - ((col : Int) + t.length).toNat < row.length - ((col : Int)).toNat
            omega
      · have hge : (TL.tl row).drop col = [] := List.drop_eq_nil_of_le (by
          rw [← TL.len_tl]
          have : ¬ (col : Int) < row.length := fun h => hc (decide_eq_true h)
          omega)
        rw [hge] at hx2
        cases hx2
        rw [List.append_nil] at hL2
        exact ⟨L2, _, _, _, _, rfl, w5, hT2, hL2⟩
    · intro σ H Q Q' h hc
      obtain ⟨v5, e5, v4, e4, zz, ez, hzz, i1, i2, ei1, ei2, hc⟩ := hc
      refine ⟨v5, e5, v4, e4, zz, ez, hzz, i1, i2, ei1, ei2, ?_⟩
      obtain ⟨b, hb, hc⟩ := hc
      exact ⟨b, hb, h _ _ hc⟩
  · rintro σ H1 ⟨L, a, b, c, d, rfl, w3, hT, hL⟩
    rw [List.length_map, hlen, List.take_length] at hL
    refine ⟨_, rfl, _, rfl, rr, _, rfl, .inl (SqL.of (w3.get 1 rfl)), fun x dx hx hd ne => ?_⟩
    refine ⟨x, dx, _, _, _, _, rfl, upd_same, fun H2 c2 => ⟨rfl, (by show 1 ≤ sizeLine; decide), fun pl hpl => ?_⟩⟩
    have w4 := w3.call0 (tok_fin hx hd ne c2)
    have hT2 := (hT.call (tok_fin hx hd ne c2)).snoc (w4.get 0 rfl)
    have w5 := w4.new (.lst [V.ref x]) hpl
    have hT3 := hT2.new (o := .lst [V.ref x]) hpl
    have hLl : L.length = tss.flatten.length := by rw [← hL, List.length_map]
    refine ⟨p, pl, _, _, rfl, rfl, w5.get 3 rfl, w5.get 0 rfl, ?_, fun p2 hp2 => ?_⟩
    · rw [trefs_len, hLl]
      exact Nat.le_trans (m := 1000) (by show _ + 1 ≤ _; omega) (by decide)
    · refine q p2 (L ++ [(x, (("end" : Str), ("" : Str)))]) _ ?_ (hT3.new hp2) (by rw [List.map_append, hL]; rfl)
      have e : trefs (L ++ [(x, (("end" : Str), ("" : Str)))]) = trefs L ++ [.ref x] := by simp [trefs]
      rw [e]
      exact (w5.new (.lst (trefs L ++ [.ref x])) hp2).sub (.cons₂ _ (List.nil_sublist _))
end
end Br

namespace Br
open PySem PySem.Spec PyProof.Rows L2
/-! ### the parser: frames -/
theorem Wd.fput {M : List Addr} {H0 H : Hp} {p : Addr} {u : HO} (c : Wd M H0 H []) (o : HO) (hp : H0 p = none ∨ p ∈ M) (hH : H p = some u) (hn : ∀ xs, u ≠ .tup xs) : Wd M H0 (upd H p o) [] :=
  ⟨fun b v hb e => by
    have : b ≠ p := fun z => by
      subst z
      rcases hp with q | q
      · rw [q] at e; cases e
      · exact hb q
    rw [upd_ne this]; exact c.base b v hb e,
   fun b v e => by
    have : b ≠ p := fun z => by
      subst z
      have := c.tups b v e
      rw [hH] at this
      exact hn v (Option.some.inj this)
    rw [upd_ne this]; exact c.tups b v e,
   fun _ h => (nomatch h), fun _ h => (nomatch h), List.nodup_nil, fun b e => c.free b (by
    by_cases hb : b = p
    · subst hb; rw [upd_same] at e; cases e
    · rw [upd_ne hb] at e; exact e)⟩
theorem Wd.fnew {M : List Addr} {H0 H : Hp} (c : Wd M H0 H []) {p : Addr} (o : HO) (hp : H p = none) : Wd M H0 (upd H p o) [] := (c.new o hp).sub (List.nil_sublist _)
theorem Wd.fgo {M : List Addr} {H0 H H' : Hp} (c : Wd M H0 H []) (d : Wd M H H' []) : Wd M H0 H' [] :=
  ⟨fun b o hb e => d.base b o hb (c.base b o hb e), fun b xs e => d.tups b xs (c.tups b xs e), fun _ h => (nomatch h), fun _ h => (nomatch h), List.nodup_nil, fun p e => c.free p (d.free p e)⟩
theorem Wd.frefl (M : List Addr) (H : Hp) : Wd M H H [] := (Wd.refl H).mono fun _ h => nomatch h
structure Pz where
  x : Addr
  dx : Addr
  tk : Addr
  fl : Addr
  nl : Addr
  al : Addr
structure Pv where
  n : Nat
  names : List Str
  aws : List (Addr × (Int × Int × Int))
  W : Option (Addr × List Int)
  M : Option (Addr × List Int)
def oV : Option (Addr × List Int) → V
  | none => .non
  | some p => .ref p.1
def pF (z : Pz) (s : Pv) : List (Str × V) := [("tokens", .ref z.tk), ("at", .int s.n), ("faults", .ref z.fl), ("names", .ref z.nl), ("weights", oV s.W), ("makers", oV s.M), ("aways", .ref z.al)]
def Pz.mut (z : Pz) : List Addr := [z.x, z.nl, z.al]
def arefs (l : List (Addr × (Int × Int × Int))) : List V := l.map fun q => V.ref q.1
theorem pf_none {z : Pz} {s : Pv} {m : Str} (h : ∀ f ∈ (["tokens", "at", "faults", "names", "weights", "makers", "aways"] : List Str), (m == f) = false) : (pF z s).lookup m = none := by
  unfold pF
  rw [look_ne (h _ (by simp)), look_ne (h _ (by simp)), look_ne (h _ (by simp)), look_ne (h _ (by simp)), look_ne (h _ (by simp)), look_ne (h _ (by simp)), look_ne (h _ (by simp))]
  rfl
section
variable {z : Pz} {s : Pv}
theorem pf_tokens : (pF z s).lookup ("tokens" : Str) = some (.ref z.tk) := look_eq
theorem pf_at : (pF z s).lookup ("at" : Str) = some (.int s.n) := (look_ne (by decide +kernel)).trans look_eq
theorem pf_faults : (pF z s).lookup ("faults" : Str) = some (.ref z.fl) := (look_ne (by decide +kernel)).trans ((look_ne (by decide +kernel)).trans look_eq)
theorem pf_names : (pF z s).lookup ("names" : Str) = some (.ref z.nl) := (look_ne (by decide +kernel)).trans ((look_ne (by decide +kernel)).trans ((look_ne (by decide +kernel)).trans look_eq))
theorem pf_weights : (pF z s).lookup ("weights" : Str) = some (oV s.W) := (look_ne (by decide +kernel)).trans ((look_ne (by decide +kernel)).trans ((look_ne (by decide +kernel)).trans ((look_ne (by decide +kernel)).trans look_eq)))
theorem pf_makers : (pF z s).lookup ("makers" : Str) = some (oV s.M) := (look_ne (by decide +kernel)).trans ((look_ne (by decide +kernel)).trans ((look_ne (by decide +kernel)).trans ((look_ne (by decide +kernel)).trans ((look_ne (by decide +kernel)).trans look_eq))))
theorem pf_aways : (pF z s).lookup ("aways" : Str) = some (.ref z.al) := (look_ne (by decide +kernel)).trans ((look_ne (by decide +kernel)).trans ((look_ne (by decide +kernel)).trans ((look_ne (by decide +kernel)).trans ((look_ne (by decide +kernel)).trans ((look_ne (by decide +kernel)).trans look_eq)))))
theorem pf_putAt (n : Nat) : putF "at" (.int n) (pF z s) = pF z { s with n := n } := by
  unfold pF
  rw [putF_ne (by decide +kernel)]; rfl
theorem pf_putW (p : Addr × List Int) : putF "weights" (.ref p.1) (pF z s) = pF z { s with W := some p } := by
  unfold pF
  rw [putF_ne (by decide +kernel), putF_ne (by decide +kernel), putF_ne (by decide +kernel), putF_ne (by decide +kernel)]; rfl
theorem pf_putM (p : Addr × List Int) : putF "makers" (.ref p.1) (pF z s) = pF z { s with M := some p } := by
  unfold pF
  rw [putF_ne (by decide +kernel), putF_ne (by decide +kernel), putF_ne (by decide +kernel), putF_ne (by decide +kernel), putF_ne (by decide +kernel)]; rfl
end
structure PAt (CP CT : Addr) (z : Pz) (L : List (Addr × (Str × Str))) (s : Pv) (H : Hp) : Prop where
  ob : H z.x = some (.ins CP z.dx (pF z s))
  tk : H z.tk = some (.lst (trefs L))
  ts : Tks CT H L
  fl : H z.fl = some (.lst [])
  nl : H z.nl = some (.lst (s.names.map V.str))
  al : H z.al = some (.lst (arefs s.aws))
  aw : ∀ q ∈ s.aws, H q.1 = some (.tup (tri q.2))
  w : ∀ p, s.W = some p → H p.1 = some (.tup (p.2.map V.int))
  m : ∀ p, s.M = some p → H p.1 = some (.tup (p.2.map V.int))
  ne : [z.x, z.tk, z.fl, z.nl, z.al].Nodup
  cn : CT ≠ CP
section
variable {CP CT : Addr} {z : Pz} {L : List (Addr × (Str × Str))} {s : Pv} {H : Hp}
theorem PAt.new (h : PAt CP CT z L s H) {p : Addr} (o : HO) (hp : H p = none) : PAt CP CT z L s (upd H p o) := by
  have k : ∀ {b : Addr} {u : HO}, H b = some u → upd H p o b = some u := fun e => by rw [upd_ne (ne_of_none e hp)]; exact e
  exact ⟨k h.ob, k h.tk, h.ts.new hp, k h.fl, k h.nl, k h.al, fun q hq => k (h.aw q hq), fun q hq => k (h.w q hq), fun q hq => k (h.m q hq), h.ne, h.cn⟩
/-- the object itself -/
theorem PAt.setX (h : PAt CP CT z L s H) (s' : Pv) (e1 : s'.names = s.names) (e2 : s'.aws = s.aws) (hw : ∀ p, s'.W = some p → H p.1 = some (.tup (p.2.map V.int))) (hm : ∀ p, s'.M = some p → H p.1 = some (.tup (p.2.map V.int))) :
    PAt CP CT z L s' (upd H z.x (.ins CP z.dx (pF z s'))) := by
  have k : ∀ {b : Addr} {u : HO}, H b = some u → (∀ dx fs, u ≠ .ins CP dx fs) → upd H z.x (.ins CP z.dx (pF z s')) b = some u := fun e n => by rw [upd_ne (ne_of e h.ob (n _ _))]; exact e
  refine ⟨upd_same, k h.tk (fun _ _ q => by cases q), fun q hq => ?_, k h.fl (fun _ _ q => by cases q), k (by rw [e1]; exact h.nl) (fun _ _ q => by cases q), k (by rw [e2]; exact h.al) (fun _ _ q => by cases q), fun q hq => k (h.aw q (by rw [← e2]; exact hq)) (fun _ _ q => by cases q),
    fun q hq => k (hw q hq) (fun _ _ q => by cases q), fun q hq => k (hm q hq) (fun _ _ q => by cases q), h.ne, h.cn⟩
  obtain ⟨dx, l, c, e⟩ := h.ts q hq
  exact ⟨dx, l, c, k e (fun _ _ q => by injection q with q1; exact h.cn q1)⟩
theorem PAt.setN (h : PAt CP CT z L s H) (ns : List Str) : PAt CP CT z L { s with names := ns } (upd H z.nl (.lst (ns.map V.str))) := by
  have hn := h.ne
  simp only [List.nodup_cons, List.mem_cons, List.not_mem_nil, or_false, not_or] at hn
  have k : ∀ {b : Addr} {u : HO}, H b = some u → b ≠ z.nl → upd H z.nl (.lst (ns.map V.str)) b = some u := fun e n => by rw [upd_ne n]; exact e
  have k2 : ∀ {b : Addr} {u : HO}, H b = some u → (∀ xs, u ≠ .lst xs) → upd H z.nl (.lst (ns.map V.str)) b = some u := fun e n => k e (ne_of e h.nl (n _))
  refine ⟨k h.ob hn.1.2.2.1, k h.tk hn.2.1.2.1, fun q hq => ?_, k h.fl hn.2.2.1.1, upd_same, k h.al (Ne.symm hn.2.2.2.1), fun q hq => k2 (h.aw q hq) (fun _ q => by cases q), fun q hq => k2 (h.w q hq) (fun _ q => by cases q), fun q hq => k2 (h.m q hq) (fun _ q => by cases q), h.ne, h.cn⟩
  obtain ⟨dx, l, c, e⟩ := h.ts q hq
  exact ⟨dx, l, c, k2 e (fun _ q => by cases q)⟩
theorem PAt.setA (h : PAt CP CT z L s H) (as : List (Addr × (Int × Int × Int))) (ha : ∀ q ∈ as, H q.1 = some (.tup (tri q.2))) : PAt CP CT z L { s with aws := as } (upd H z.al (.lst (arefs as))) := by
  have hn := h.ne
  simp only [List.nodup_cons, List.mem_cons, List.not_mem_nil, or_false, not_or] at hn
  have k : ∀ {b : Addr} {u : HO}, H b = some u → b ≠ z.al → upd H z.al (.lst (arefs as)) b = some u := fun e n => by rw [upd_ne n]; exact e
  have k2 : ∀ {b : Addr} {u : HO}, H b = some u → (∀ xs, u ≠ .lst xs) → upd H z.al (.lst (arefs as)) b = some u := fun e n => k e (ne_of e h.al (n _))
  refine ⟨k h.ob hn.1.2.2.2, k h.tk hn.2.1.2.2, fun q hq => ?_, k h.fl hn.2.2.1.2, k h.nl hn.2.2.2.1, upd_same, fun q hq => k2 (ha q hq) (fun _ q => by cases q), fun q hq => k2 (h.w q hq) (fun _ q => by cases q), fun q hq => k2 (h.m q hq) (fun _ q => by cases q), h.ne, h.cn⟩
  obtain ⟨dx, l, c, e⟩ := h.ts q hq
  exact ⟨dx, l, c, k2 e (fun _ q => by cases q)⟩
/-- a list of ours -/
theorem PAt.putL (h : PAt CP CT z L s H) {p : Addr} {l : List V} {o : HO} (hp : H p = some (.lst l)) (hm : p ∉ z.mut) (h1 : z.tk ≠ p) (h2 : z.fl ≠ p) : PAt CP CT z L s (upd H p o) := by
  simp only [Pz.mut, List.mem_cons, List.not_mem_nil, or_false, not_or] at hm
  have k : ∀ {b : Addr} {u : HO}, H b = some u → b ≠ p → upd H p o b = some u := fun e n => by rw [upd_ne n]; exact e
  have k2 : ∀ {b : Addr} {u : HO}, H b = some u → (∀ xs, u ≠ .lst xs) → upd H p o b = some u := fun e n => k e (ne_of e hp (n _))
  refine ⟨k h.ob (Ne.symm hm.1), k h.tk h1, fun q hq => ?_, k h.fl h2, k h.nl (Ne.symm hm.2.1), k h.al (Ne.symm hm.2.2), fun q hq => k2 (h.aw q hq) (fun _ q => by cases q), fun q hq => k2 (h.w q hq) (fun _ q => by cases q), fun q hq => k2 (h.m q hq) (fun _ q => by cases q), h.ne, h.cn⟩
  obtain ⟨dx, l, c, e⟩ := h.ts q hq
  exact ⟨dx, l, c, k2 e (fun _ q => by cases q)⟩
/-- what follows at the n-th token -/
def TkAt (L : List (Addr × (Str × Str))) (n : Nat) (ts : List (Str × Str)) : Prop := (L.map Prod.snd).drop n = ts
theorem TkAt.cons {n : Nat} {t : Str × Str} {ts : List (Str × Str)} (h : TkAt L n (t :: ts)) : (∃ a, L[n]? = some (a, t)) ∧ TkAt L (n + 1) ts := by
  unfold TkAt at h ⊢
  have e : (L.map Prod.snd)[n]? = some t := by
    have := congrArg (fun l => l[0]?) h
    simpa [List.getElem?_drop] using this
  rw [List.getElem?_map] at e
  refine ⟨?_, ?_⟩
  · cases hL : L[n]? with
    | none => rw [hL] at e; cases e
    | some q =>
      rw [hL] at e
      obtain ⟨a, b⟩ := q
      exact ⟨a, by cases e; rfl⟩
  · rw [← List.drop_drop, h]; rfl
theorem TkAt.app {n : Nat} {ts us : List (Str × Str)} (h : TkAt L n (ts ++ us)) : TkAt L (n + ts.length) us := by
  unfold TkAt at h ⊢
  rw [← List.drop_drop, h, List.drop_left]
theorem trefs_at {n : Nat} {a : Addr} {t : Str × Str} (h : L[n]? = some (a, t)) : atI (trefs L) (n : Int) = some (.ref a) := by
  refine atI_nat ?_
  unfold trefs
  rw [List.getElem?_map, h]; rfl
end
structure ParCls (K : PySem.W.Frag) (CP : Addr) : Prop where
  cl : Cls K CP
  n1 : NoAttr K CP "tokens"
  n2 : NoAttr K CP "at"
  n3 : NoAttr K CP "faults"
  n4 : NoAttr K CP "names"
  n5 : NoAttr K CP "weights"
  n6 : NoAttr K CP "makers"
  n7 : NoAttr K CP "aways"
section
variable {P : Program} {w : World} {K : PySem.W.Frag} {mg : Str → Option Value} {base : Heap} {CT CP : Addr}
abbrev sParser___init__ : Stmt := inClass (topS 27) 0
theorem scParser___init__ : FnScope ["self", "tokens"] ["self", "tokens"] (defScope sParser___init__) := ⟨rfl, rfl, rfl, by decide +kernel, rfl, by decide +kernel, by decide +kernel⟩
def spParI (CP CT : Addr) : Sp := fun vs H Q _ => ∃ (x dx tk : Addr) (L : List (Addr × (Str × Str))), vs = [.ref x, .ref tk] ∧ H x = some (.ins CP dx []) ∧ H tk = some (.lst (trefs L)) ∧ Tks CT H L ∧ CT ≠ CP ∧
  ∀ (z : Pz) (H' : Hp), z.x = x → Wd [x] H H' [] → PAt CP CT z L ⟨0, [], [], none, none⟩ H' → H z.nl = none → H z.al = none → Q .non H'
theorem mk_parser (D : InitAt K mg "Parser" "Parser.__init__" CP sParser___init__ ["self", "tokens"]) (PC : ParCls K CP) : MkAt P w K mg base 1 "Parser" CP ["self", "tokens"] (spParI CP CT) := D.mk' fun f fd F => by
  have nd := scParser___init__.nd
  refine F.ok scParser___init__ (fun vs H Q E h => ?_) (fun cdv A outer s H vs Q E hr h => ?_)
  · obtain ⟨x, dx, tk, L, rfl, _⟩ := h; rfl
  obtain ⟨x, dx, tk, L, rfl, hx, htk, hT, cn, q⟩ := h
  refine ⟨_, (pss_cons (ps_fld (pv 0) (pv 1) rfl)
 (pss_cons (ps_fld (pv 0) pe_int rfl)
 (pss_cons (ps_fld (pv 0) (pe_lst pa_nil) rfl)
 (pss_cons (ps_fld (pv 0) (pe_lst pa_nil) rfl)
 (pss_cons (ps_fld (pv 0) pe_non rfl)
 (pss_cons (ps_fld (pv 0) pe_non rfl)
 (pss_one (ps_fld (pv 0) (pe_lst pa_nil) rfl)))))))), ?_⟩
  have hxt : x ≠ tk := ne_of hx htk (by simp)
  have c0 := Wd.frefl [x] H
  have e1 : putF "tokens" (.ref tk) [] = [(("tokens" : Str), V.ref tk)] := rfl
  have e2 : putF "at" (.int 0) [(("tokens" : Str), V.ref tk)] = [(("tokens" : Str), V.ref tk), ("at", .int 0)] := by rw [putF_ne (by decide +kernel)]; rfl
  refine ⟨_, rfl, _, rfl, x, CP, dx, [], rfl, hx, PC.cl, PC.n1, (by show 0 < 1000; decide), ?_⟩
  refine ⟨_, rfl, x, CP, dx, _, rfl, upd_same, PC.cl, PC.n2, (by show 1 < 1000; decide), ?_⟩
  rw [e1, e2, upd_upd]
  have c1 := c0.fput (.ins CP dx [(("tokens" : Str), V.ref tk), ("at", .int 0)]) (.inr (by simp)) hx (fun _ q => by cases q)
  refine ⟨(by show 0 ≤ sizeLine; decide), fun fl hfl => ?_⟩
  have c2 := c1.fnew (.lst []) hfl
  have ld0 : Wd [x] H (upd H x (.ins CP dx [(("tokens" : Str), V.ref tk), ("at", .int 0)])) [(x, .ins CP dx [(("tokens" : Str), V.ref tk), ("at", .int 0)])] :=
    (Wd.start1 hx).put 0 _ rfl (fun _ q => by cases q)
  have ld1 := ld0.new1 (.lst []) hfl
  refine ⟨_, rfl, x, CP, dx, _, rfl, ld1.get 0 rfl, PC.cl, PC.n3, (by show 2 < 1000; decide), ?_⟩
  have e3 : putF "faults" (.ref fl) [(("tokens" : Str), V.ref tk), ("at", .int 0)] = [(("tokens" : Str), V.ref tk), ("at", .int 0), ("faults", .ref fl)] := by rw [putF_ne (by decide +kernel), putF_ne (by decide +kernel)]; rfl
  rw [e3]
  have ld2 := ld1.put 0 (.ins CP dx [(("tokens" : Str), V.ref tk), ("at", .int 0), ("faults", .ref fl)]) rfl (fun _ q => by cases q)
  refine ⟨(by show 0 ≤ sizeLine; decide), fun nl hnl => ?_⟩
  have ld3 := ld2.new1 (.lst []) hnl
  refine ⟨_, rfl, x, CP, dx, _, rfl, ld3.get 0 rfl, PC.cl, PC.n4, (by show 3 < 1000; decide), ?_⟩
  have e4 : putF "names" (.ref nl) [(("tokens" : Str), V.ref tk), ("at", .int 0), ("faults", .ref fl)] = [(("tokens" : Str), V.ref tk), ("at", .int 0), ("faults", .ref fl), ("names", .ref nl)] := by rw [putF_ne (by decide +kernel), putF_ne (by decide +kernel), putF_ne (by decide +kernel)]; rfl
  rw [e4]
  have ld4 := ld3.put 0 (.ins CP dx [(("tokens" : Str), V.ref tk), ("at", .int 0), ("faults", .ref fl), ("names", .ref nl)]) rfl (fun _ q => by cases q)
  refine ⟨_, rfl, x, CP, dx, _, rfl, ld4.get 0 rfl, PC.cl, PC.n5, (by show 4 < 1000; decide), ?_⟩
  have e5 : putF "weights" .non [(("tokens" : Str), V.ref tk), ("at", .int 0), ("faults", .ref fl), ("names", .ref nl)] = [(("tokens" : Str), V.ref tk), ("at", .int 0), ("faults", .ref fl), ("names", .ref nl), ("weights", .non)] := by
    rw [putF_ne (by decide +kernel), putF_ne (by decide +kernel), putF_ne (by decide +kernel), putF_ne (by decide +kernel)]; rfl
  rw [e5]
  have ld5 := ld4.put 0 (.ins CP dx [(("tokens" : Str), V.ref tk), ("at", .int 0), ("faults", .ref fl), ("names", .ref nl), ("weights", .non)]) rfl (fun _ q => by cases q)
  refine ⟨_, rfl, x, CP, dx, _, rfl, ld5.get 0 rfl, PC.cl, PC.n6, (by show 5 < 1000; decide), ?_⟩
  have e6 : putF "makers" .non [(("tokens" : Str), V.ref tk), ("at", .int 0), ("faults", .ref fl), ("names", .ref nl), ("weights", .non)] = [(("tokens" : Str), V.ref tk), ("at", .int 0), ("faults", .ref fl), ("names", .ref nl), ("weights", .non), ("makers", .non)] := by
    rw [putF_ne (by decide +kernel), putF_ne (by decide +kernel), putF_ne (by decide +kernel), putF_ne (by decide +kernel), putF_ne (by decide +kernel)]; rfl
  rw [e6]
  have ld6 := ld5.put 0 (.ins CP dx [(("tokens" : Str), V.ref tk), ("at", .int 0), ("faults", .ref fl), ("names", .ref nl), ("weights", .non), ("makers", .non)]) rfl (fun _ q => by cases q)
  refine ⟨(by show 0 ≤ sizeLine; decide), fun al hal => ?_⟩
  have ld7 := ld6.new1 (.lst []) hal
  refine ⟨_, rfl, x, CP, dx, _, rfl, ld7.get 0 rfl, PC.cl, PC.n7, (by show 6 < 1000; decide), ?_⟩
  have e7 : putF "aways" (.ref al) [(("tokens" : Str), V.ref tk), ("at", .int 0), ("faults", .ref fl), ("names", .ref nl), ("weights", .non), ("makers", .non)] = pF ⟨x, dx, tk, fl, nl, al⟩ ⟨0, [], [], none, none⟩ := by
    rw [putF_ne (by decide +kernel), putF_ne (by decide +kernel), putF_ne (by decide +kernel), putF_ne (by decide +kernel), putF_ne (by decide +kernel), putF_ne (by decide +kernel)]; rfl
  rw [e7]
  have ld8 := ld7.put 0 (.ins CP dx (pF ⟨x, dx, tk, fl, nl, al⟩ ⟨0, [], [], none, none⟩)) rfl (fun _ q => by cases q)
  have hal0 := ld6.free _ hal
  have hnl0 := ld2.free _ hnl
  have hfl0 := ld0.free _ hfl
  have ndl := ld8.nd
  have hkt := ne_of_none htk hal0
  have hkn := ne_of_none htk hnl0
  have hkf := ne_of_none htk hfl0
  have htx : tk ∉ [x] := by simpa using hxt.symm
  refine q ⟨x, dx, tk, fl, nl, al⟩ _ rfl (ld8.sub (List.nil_sublist _)) ⟨ld8.get 0 rfl, ld8.old htk htx, fun t ht => ?_, ld8.get 3 rfl, ld8.get 2 rfl, ld8.get 1 rfl, fun _ h => (nomatch h), fun _ h => (nomatch h), fun _ h => (nomatch h), ?_, cn⟩ hnl0 hal0
  · obtain ⟨tdx, tl, tc, e⟩ := hT t ht
    refine ⟨tdx, tl, tc, ld8.old e ?_⟩
    have : t.1 ≠ x := ne_of e hx (fun q => by injection q with q1; exact cn q1)
    simpa using this
  · simp only [List.set, List.map_cons, List.map_nil, List.nodup_cons, List.mem_cons, List.not_mem_nil, or_false, not_or] at ndl ⊢
    obtain ⟨⟨n1, n2, n3⟩, ⟨n4, n5⟩, n6, n7⟩ := ndl
    exact ⟨⟨hxt, n3, n2, n1⟩, ⟨hkf, hkn, hkt⟩, ⟨Ne.symm n6, Ne.symm n5⟩, Ne.symm n4, n7⟩
abbrev sParser_peek : Stmt := inClass (topS 27) 1
theorem scParser_peek : FnScope ["self"] ["self"] (defScope sParser_peek) := ⟨rfl, rfl, rfl, by decide +kernel, rfl, by decide +kernel, by decide +kernel⟩
def spPeek (CP CT : Addr) : Sp := fun vs H Q _ => ∃ (z : Pz) (L : List (Addr × (Str × Str))) (s : Pv) (a : Addr) (t : Str × Str), vs = [.ref z.x] ∧ PAt CP CT z L s H ∧ L[s.n]? = some (a, t) ∧ Q (.ref a) H
theorem me_peek (D : MethAt K CP "peek" "Parser.peek" sParser_peek ["self"]) (PC : ParCls K CP) : MeAt P w K mg base 1 CP "peek" ["self"] (spPeek CP CT) := D.me fun f fd F => by
  have nd := scParser_peek.nd
  refine F.ok scParser_peek (fun vs H Q E h => ?_) (fun cdv A outer s H vs Q E hr h => ?_)
  · obtain ⟨z, L, s, a, t, rfl, _⟩ := h; rfl
  obtain ⟨z, L, sv, a, t, rfl, hp, ht, q⟩ := h
  refine ⟨_, (pss_one (ps_ret (pe_ix (r := rIxL K) ix_list (pe_fldK (K := K) rfl (pv 0) rfl) (pe_fldK (K := K) rfl (pv 0) rfl) (fun _ _ => rfl)))), ?_⟩
  exact ⟨_, rfl, z.x, CP, z.dx, _, _, rfl, hp.ob, PC.cl, PC.n1, pf_tokens, _, rfl, z.x, CP, z.dx, _, _, rfl, hp.ob, PC.cl, PC.n2, pf_at, z.tk, _, _, _, rfl, rfl, SqL.of hp.tk, trefs_at ht, q⟩
/-- a token taken -/
def spTake (CP CT : Addr) : Sp := fun vs H Q _ => ∃ (z : Pz) (L : List (Addr × (Str × Str))) (s : Pv) (a : Addr) (k t : Str), vs = [.ref z.x, .str k] ∧ PAt CP CT z L s H ∧ L[s.n]? = some (a, (k, t)) ∧
  ∀ H', Wd z.mut H H' [] → PAt CP CT z L { s with n := s.n + 1 } H' → Q (.ref a) H'
abbrev sParser_take : Stmt := inClass (topS 27) 4
theorem scParser_take : FnScope ["self", "kind", "token"] ["self", "kind"] (defScope sParser_take) := ⟨rfl, rfl, rfl, by decide +kernel, rfl, by decide +kernel, by decide +kernel⟩
theorem me_take (D : MethAt K CP "take" "Parser.take" sParser_take ["self", "kind"]) (PC : ParCls K CP) (TC : TokCls K CT) (C1 : MeAt P w K mg base 1 CP "peek" ["self"] (spPeek CP CT)) : MeAt P w K mg base 2 CP "take" ["self", "kind"] (spTake CP CT) := D.me fun f fd F => by
  have nd := scParser_take.nd
  have cl_Parser := PC.cl
  obtain ⟨f1, fd1, me_peek, b_peek, G_peek⟩ := C1.ex
  refine F.ok scParser_take (fun vs H Q E h => ?_) (fun cdv A outer s H vs Q E hr h => ?_)
  · obtain ⟨z, L, s, a, k, t, rfl, _⟩ := h; rfl
  obtain ⟨z, L, sv, a, k, t, rfl, hp, ht, q⟩ := h
  refine ⟨_, (pss_cons (ps_set (i := 2) nd rfl (Or.inl rfl) (pe_meth0 (pv 0) cl_Parser me_peek G_peek (hr.mono (by first | decide | omega)) b_peek .nil pass0))
 (pss_cons (ps_if (pt_cmpR op_ne (pe_fldK (K := K) rfl (pv 2) rfl) (pv 1) (nomark _))
 pss_never
 pss_nil)
 (pss_cons (ps_fldaug (pv 0) pe_int in_add)
 (pss_one (ps_ret (pv 2)))))), ?_⟩
  obtain ⟨tdx, tl, tc, hta⟩ := hp.ts _ (List.mem_of_getElem? ht)
  refine ⟨_, rfl, z.x, z.dx, _, rfl, hp.ob, pf_none (by decide +kernel), z, L, sv, a, _, rfl, hp, ht, ?_⟩
  refine ⟨_, rfl, a, CT, tdx, _, _, rfl, hta, TC.cl, TC.nk, tk_kind _ _ _ _, _, rfl, rfl, _, rfl, ?_⟩
  refine ite2 (fun h => ?_) (fun _ => ?_)
  · exact absurd h (by simp)
  refine ⟨_, rfl, z.x, CP, z.dx, _, _, rfl, hp.ob, PC.cl, PC.n2, pf_at, _, _, rfl, rfl, _, _, hp.ob, (by show 7 < 1000; decide), ?_⟩
  have e : putF "at" (.int ((sv.n : Int) + 1)) (pF z sv) = pF z { sv with n := sv.n + 1 } := by
    rw [show (sv.n : Int) + 1 = ((sv.n + 1 : Nat) : Int) by omega]; exact pf_putAt _
  rw [e]
  exact ⟨_, rfl, q _ ((Wd.frefl _ _).fput _ (.inr (by simp [Pz.mut])) hp.ob (fun _ q => by cases q)) (hp.setX { sv with n := sv.n + 1 } rfl rfl hp.w hp.m)⟩
abbrev sParser_take_word : Stmt := inClass (topS 27) 5
theorem scParser_take_word : FnScope ["self", "word"] ["self", "word"] (defScope sParser_take_word) := ⟨rfl, rfl, rfl, by decide +kernel, rfl, by decide +kernel, by decide +kernel⟩
/-- a word taken -/
def spTakeW (CP CT : Addr) : Sp := fun vs H Q _ => ∃ (z : Pz) (L : List (Addr × (Str × Str))) (s : Pv) (a : Addr) (k t : Str), vs = [.ref z.x, .str t] ∧ PAt CP CT z L s H ∧ L[s.n]? = some (a, (k, t)) ∧
  ∀ H', Wd z.mut H H' [] → PAt CP CT z L { s with n := s.n + 1 } H' → Q .non H'
theorem me_take_word (D : MethAt K CP "take_word" "Parser.take_word" sParser_take_word ["self", "word"]) (PC : ParCls K CP) (TC : TokCls K CT) (C1 : MeAt P w K mg base 1 CP "peek" ["self"] (spPeek CP CT)) : MeAt P w K mg base 2 CP "take_word" ["self", "word"] (spTakeW CP CT) := D.me fun f fd F => by
  have nd := scParser_take_word.nd
  have cl_Parser := PC.cl
  obtain ⟨f1, fd1, me_peek, b_peek, G_peek⟩ := C1.ex
  refine F.ok scParser_take_word (fun vs H Q E h => ?_) (fun cdv A outer s H vs Q E hr h => ?_)
  · obtain ⟨z, L, s, a, k, t, rfl, _⟩ := h; rfl
  obtain ⟨z, L, sv, a, k, t, rfl, hp, ht, q⟩ := h
  refine ⟨_, (pss_cons (ps_if (pt_cmpR op_ne (pe_fldK (K := K) rfl (pe_meth0 (pv 0) cl_Parser me_peek G_peek (hr.mono (by first | decide | omega)) b_peek .nil pass0) rfl) (pv 1) (nomark _))
 pss_never
 pss_nil)
 (pss_one (ps_fldaug (pv 0) pe_int in_add))), ?_⟩
  obtain ⟨tdx, tl, tc, hta⟩ := hp.ts _ (List.mem_of_getElem? ht)
  refine ⟨_, rfl, z.x, z.dx, _, rfl, hp.ob, pf_none (by decide +kernel), z, L, sv, a, _, rfl, hp, ht, ?_⟩
  refine ⟨a, CT, tdx, _, _, rfl, hta, TC.cl, TC.nt, tk_text _ _ _ _, _, rfl, rfl, _, rfl, ?_⟩
  refine ite2 (fun h => absurd h (by simp)) (fun _ => ?_)
  refine ⟨_, rfl, z.x, CP, z.dx, _, _, rfl, hp.ob, PC.cl, PC.n2, pf_at, _, _, rfl, rfl, _, _, hp.ob, (by show 7 < 1000; decide), ?_⟩
  have e : putF "at" (.int ((sv.n : Int) + 1)) (pF z sv) = pF z { sv with n := sv.n + 1 } := by
    rw [show (sv.n : Int) + 1 = ((sv.n + 1 : Nat) : Int) by omega]; exact pf_putAt _
  rw [e]
  exact q _ ((Wd.frefl _ _).fput _ (.inr (by simp [Pz.mut])) hp.ob (fun _ q => by cases q)) (hp.setX { sv with n := sv.n + 1 } rfl rfl hp.w hp.m)
abbrev sParser_take_all : Stmt := inClass (topS 27) 6
theorem scParser_take_all : FnScope ["self", "kind", "tokens"] ["self", "kind"] (defScope sParser_take_all) := ⟨rfl, rfl, rfl, by decide +kernel, rfl, by decide +kernel, by decide +kernel⟩
/-- all of a kind, and the sign -/
def spTakeA (CP CT : Addr) : Sp := fun vs H Q _ => ∃ (z : Pz) (L : List (Addr × (Str × Str))) (s : Pv) (k : Str) (ks : List Str) (rest : List (Str × Str)), vs = [.ref z.x, .str k] ∧ PAt CP CT z L s H ∧ k ≠ "sign" ∧ ks ≠ [] ∧ ks.length ≤ 1000 ∧
  TkAt L s.n (ks.map (fun t => (k, t)) ++ (("sign" : Str), (";" : Str)) :: rest) ∧
  ∀ H' p sub, Wd z.mut H H' [] → PAt CP CT z L { s with n := s.n + ks.length + 1 } H' → H p = none → H' p = some (.lst (trefs sub)) → sub.map Prod.snd = ks.map (fun t => (k, t)) → (∀ q ∈ sub, q ∈ L) → Q (.ref p) H'
theorem me_take_all (D : MethAt K CP "take_all" "Parser.take_all" sParser_take_all ["self", "kind"]) (PC : ParCls K CP) (TC : TokCls K CT) (LC : LexC K mg) (C1 : MeAt P w K mg base 1 CP "peek" ["self"] (spPeek CP CT))
    (C2 : MeAt P w K mg base 2 CP "take" ["self", "kind"] (spTake CP CT)) (C3 : MeAt P w K mg base 2 CP "take_word" ["self", "word"] (spTakeW CP CT)) : MeAt P w K mg base 3 CP "take_all" ["self", "kind"] (spTakeA CP CT) := D.me fun f fd F => by
  have nd := scParser_take_all.nd
  have cl_Parser := PC.cl
  obtain ⟨t1, c_END_SIGN⟩ := LC.END_SIGN
  obtain ⟨f1, fd1, me_peek, b_peek, G_peek⟩ := C1.ex
  obtain ⟨f2, fd2, me_take, b_take, G_take⟩ := C2.ex
  obtain ⟨f3, fd3, me_take_word, b_take_word, G_take_word⟩ := C3.ex
  refine F.ok scParser_take_all (fun vs H Q E h => ?_) (fun cdv A outer s H vs Q E hr h => ?_)
  · obtain ⟨z, L, s, k, ks, rest, rfl, _⟩ := h; rfl
  obtain ⟨z, L, sv, k, ks, rest, rfl, hp, hk, hne, hlen, hts, q⟩ := h
  refine ⟨_, (pss_cons (ps_set (i := 2) nd rfl (Or.inl rfl) (pe_lst (pa_cons (pe_meth (pv 0) cl_Parser me_take G_take (hr.mono (by first | decide | omega)) b_take .nil pass0 (pa_cons (pv 1) pa_nil)) pa_nil)))
 (pss_cons (ps_while PassesOwn.never (pt_cmpR op_eq (pe_fldK (K := K) rfl (pe_meth0 (pv 0) cl_Parser me_peek G_peek (hr.mono (by first | decide | omega)) b_peek .nil pass0) rfl) (pv 1) (nomark _))
 (pss_one (ps_expr (pe_bmK (K := K) rfl PySem.F.plainAttrs_list PySem.F.slot_list_append PySem.F.type_list_append mt_append (pv 2) (pa_cons (pe_meth (pv 0) cl_Parser me_take G_take (hr.mono (by first | decide | omega)) b_take .nil pass0 (pa_cons (pv 1) pa_nil)) pa_nil)))))
 (pss_cons (ps_expr (pe_meth (pv 0) cl_Parser me_take_word G_take_word (hr.mono (by first | decide | omega)) b_take_word .nil pass0 (pa_cons (pe_glob (v := .str ";") (by rfl) c_END_SIGN ⟨_, rfl⟩) pa_nil)))
 (pss_one (ps_ret (pv 2)))))), ?_⟩
  obtain ⟨t0, kr, rfl⟩ := List.exists_cons_of_ne_nil hne
  obtain ⟨⟨a0, h0⟩, hts1⟩ := hts.cons
  refine ⟨_, rfl, z.x, z.dx, _, rfl, hp.ob, pf_none (by decide +kernel), _, rfl, z, L, sv, a0, k, t0, rfl, hp, h0, fun H1 c1 hp1 => ?_⟩
  refine ⟨(by show 1 ≤ sizeLine; decide), fun p hpn => ?_⟩
  have hpn0 := c1.free _ hpn
  refine while_by (fun σ H' => σ = [some (.ref z.x), some (.str k), some (.ref p)] ∧ ∃ (sub : List (Addr × (Str × Str))) (ks1 ks2 : List Str), Wd z.mut H H' [] ∧ PAt CP CT z L { sv with n := sv.n + ks1.length } H' ∧ H' p = some (.lst (trefs sub)) ∧
      ks1 ++ ks2 = t0 :: kr ∧ sub.map Prod.snd = ks1.map (fun t => (k, t)) ∧ (∀ q ∈ sub, q ∈ L) ∧ TkAt L (sv.n + ks1.length) (ks2.map (fun t => (k, t)) ++ (("sign" : Str), (";" : Str)) :: rest)) (fun _ H' => kr.length + 1 - (match H' p with | some (.lst l) => l.length | _ => 0))
    ⟨rfl, [(a0, (k, t0))], [t0], kr, c1.fnew _ hpn, hp1.new _ hpn, upd_same, rfl, rfl, (by intro q hq; rw [List.mem_singleton.mp hq]; exact List.mem_of_getElem? h0), hts1⟩ ?_ ?_
  · rintro σ H2 ⟨rfl, sub, ks1, ks2, c2, hp2, hsub, hks, hmap, hmem, hts2⟩
    have hpm : p ∉ z.mut := by
      intro hm
      simp only [Pz.mut, List.mem_cons, List.not_mem_nil, or_false] at hm
      rcases hm with rfl | rfl | rfl
      · rw [hp.ob] at hpn0; cases hpn0
      · rw [hp.nl] at hpn0; cases hpn0
      · rw [hp.al] at hpn0; cases hpn0
    have hl := congrArg List.length hks
    rw [List.length_append, List.length_cons] at hl
    have hl2 : sub.length = ks1.length := by
      have := congrArg List.length hmap
      rw [List.length_map, List.length_map] at this
      exact this
    cases ks2 with
    | cons t2 ks2 =>
      obtain ⟨⟨a2, h2⟩, hts3⟩ := hts2.cons
      obtain ⟨tdx, tl, tc, hta⟩ := hp2.ts _ (List.mem_of_getElem? h2)
      refine ⟨_, rfl, z.x, z.dx, _, rfl, hp2.ob, pf_none (by decide +kernel), z, L, _, a2, _, rfl, hp2, h2, a2, CT, tdx, _, _, rfl, hta, TC.cl, TC.nk, tk_kind _ _ _ _, _, rfl, rfl, _, rfl, ?_⟩
      refine ite2 (fun _ => ?_) (fun h => absurd (by simp) h)
      refine ⟨_, rfl, .inl ⟨rfl, _, SqL.of hsub⟩, _, rfl, z.x, z.dx, _, rfl, hp2.ob, pf_none (by decide +kernel), _, rfl, z, L, _, a2, k, t2, rfl, hp2, h2, fun H3 c3 hp3 => ?_⟩
      have hsub3 := c3.base _ _ hpm hsub
      refine ⟨p, _, _, rfl, rfl, hsub3, ?_, ⟨rfl, sub ++ [(a2, (k, t2))], ks1 ++ [t2], ks2, ?_, ?_, ?_, ?_, ?_, ?_, ?_⟩, ?_⟩
      · rw [trefs_len, hl2]; exact Nat.lt_of_lt_of_le (m := 1001) (by simp at hlen hl; omega) (by decide)
      · exact (c2.fgo c3).fput _ (.inl hpn0) hsub3 (fun _ q => by cases q)
      · have e : ({ sv with n := sv.n + (ks1 ++ [t2]).length } : Pv) = { ({ sv with n := sv.n + ks1.length } : Pv) with n := sv.n + ks1.length + 1 } := by
          simp only [List.length_append, List.length_cons, List.length_nil]; rfl
        rw [e]
        exact hp3.putL (p := p) hsub3 hpm (fun h => by rw [← h, hp.tk] at hpn0; cases hpn0) (fun h => by rw [← h, hp.fl] at hpn0; cases hpn0)
      · have e : trefs (sub ++ [(a2, (k, t2))]) = trefs sub ++ [.ref a2] := by simp [trefs]
        rw [upd_same, e]
      · rw [← hks]; simp
      · rw [List.map_append, hmap, List.map_append]; rfl
      · intro q hq
        rcases List.mem_append.mp hq with hq | hq
        · exact hmem q hq
        · rw [List.mem_singleton.mp hq]; exact List.mem_of_getElem? h2
      · rw [List.length_append, List.length_cons, List.length_nil, ← Nat.add_assoc]; exact hts3
      · show kr.length + 1 - (match upd H3 p _ p with | some (.lst l) => l.length | _ => 0) < _
        rw [upd_same, hsub]
        show kr.length + 1 - (trefs sub ++ [V.ref a2]).length < kr.length + 1 - (trefs sub).length
        rw [List.length_append, trefs_len, hl2]
        simp only [List.length_cons] at hl ⊢
        omega
    | nil =>
      obtain ⟨⟨a2, h2⟩, hts3⟩ := hts2.cons
      obtain ⟨tdx, tl, tc, hta⟩ := hp2.ts _ (List.mem_of_getElem? h2)
      refine ⟨_, rfl, z.x, z.dx, _, rfl, hp2.ob, pf_none (by decide +kernel), z, L, _, a2, _, rfl, hp2, h2, a2, CT, tdx, _, _, rfl, hta, TC.cl, TC.nk, tk_kind _ _ _ _, _, rfl, rfl, _, rfl, ?_⟩
      refine ite2 (fun h => absurd (of_decide_eq_true h) (fun e => hk (by injection e with e; exact e.symm))) (fun _ => ?_)
      refine ⟨_, rfl, z.x, z.dx, _, rfl, hp2.ob, pf_none (by decide +kernel), z, L, _, a2, _, _, rfl, hp2, h2, fun H3 c3 hp3 => ?_⟩
      rw [List.append_nil] at hks
      subst hks
      exact ⟨_, rfl, q H3 p sub (c2.fgo c3) hp3 hpn0 (c3.base _ _ hpm hsub) hmap hmem⟩
  · intro σ H2 Q1 Q2 hm hc
    obtain ⟨v0, e0, a, dx', fs, ea, eo, en, z', L', s', a', t', e1, e2, e3, a'', C'', dx'', fs'', v'', g1, g2, g3, g4, g5, v1, e4, e5, b, hb, hc⟩ := hc
    exact ⟨v0, e0, a, dx', fs, ea, eo, en, z', L', s', a', t', e1, e2, e3, a'', C'', dx'', fs'', v'', g1, g2, g3, g4, g5, v1, e4, e5, b, hb, hm _ _ hc⟩
end
end Br

namespace Br
open PySem PySem.Spec PyProof.Rows L2
theorem PAt.call0 {CP CT : Addr} {z : Pz} {L : List (Addr × (Str × Str))} {s : Pv} {H H' : Hp} {l : List (Addr × HO)} (h : PAt CP CT z L s H) (c : Wd [] H H' l) : PAt CP CT z L s H' := by
  have k : ∀ {b : Addr} {u : HO}, H b = some u → H' b = some u := fun e => c.base _ _ (by simp) e
  exact ⟨k h.ob, k h.tk, h.ts.call c, k h.fl, k h.nl, k h.al, fun q hq => k (h.aw q hq), fun q hq => k (h.w q hq), fun q hq => k (h.m q hq), h.ne, h.cn⟩
theorem PAt.out {CP CT : Addr} {z : Pz} {L : List (Addr × (Str × Str))} {s : Pv} {H : Hp} (h : PAt CP CT z L s H) {p : Addr} (hp : H p = none) : p ∉ z.mut ∧ z.tk ≠ p ∧ z.fl ≠ p := by
  refine ⟨fun hm => ?_, ne_of_none h.tk hp, ne_of_none h.fl hp⟩
  simp only [Pz.mut, List.mem_cons, List.not_mem_nil, or_false] at hm
  rcases hm with rfl | rfl | rfl
  · rw [h.ob] at hp; cases hp
  · rw [h.nl] at hp; cases hp
  · rw [h.al] at hp; cases hp
theorem sub_at {sub : List (Addr × (Str × Str))} {k : Str} {ks : List Str} (hm : sub.map Prod.snd = ks.map (fun t => (k, t))) {i : Nat} {x : V} (hx : (trefs sub)[i]? = some x) : ∃ a t, x = .ref a ∧ ks[i]? = some t ∧ (a, (k, t)) ∈ sub := by
  unfold trefs at hx
  rw [List.getElem?_map] at hx
  cases e : sub[i]? with
  | none => rw [e] at hx; cases hx
  | some q =>
    rw [e] at hx
    have h2 := congrArg (fun l => l[i]?) hm
    simp only [List.getElem?_map, e] at h2
    cases e3 : ks[i]? with
    | none => rw [e3] at h2; cases h2
    | some t =>
      rw [e3] at h2
      have h4 : q.2 = (k, t) := Option.some.inj h2
      exact ⟨q.1, t, (Option.some.inj hx).symm, rfl, by rw [← h4]; exact List.mem_of_getElem? e⟩
theorem eqV_str (a b : Str) : eqV (.str a) (.str b) = decide (a = b) := by
  rw [Bool.eq_iff_iff, decide_eq_true_eq]
  exact ⟨fun h => eq_of_beq (show (a == b) = true from h), fun h => (show (a == b) = true from beq_iff_eq.mpr h)⟩
section
variable {P : Program} {w : World} {K : PySem.W.Frag} {mg : Str → Option Value} {base : Heap} {CT CP : Addr}
def spPerson (CP CT : Addr) : Sp := fun vs H Q _ => ∃ (z : Pz) (L : List (Addr × (Str × Str))) (s : Pv) (a : Addr) (k t : Str) (j : Nat), vs = [.ref z.x, .ref a] ∧ PAt CP CT z L s H ∧ (a, (k, t)) ∈ L ∧ s.names.Nodup ∧ s.names[j]? = some t ∧ Q (.int j) H
abbrev sParser_person : Stmt := inClass (topS 27) 7
theorem scParser_person : FnScope ["self", "token"] ["self", "token"] (defScope sParser_person) := ⟨rfl, rfl, rfl, by decide +kernel, rfl, by decide +kernel, by decide +kernel⟩
theorem me_person (D : MethAt K CP "person" "Parser.person" sParser_person ["self", "token"]) (PC : ParCls K CP) (TC : TokCls K CT) : MeAt P w K mg base 1 CP "person" ["self", "token"] (spPerson CP CT) := D.me fun f fd F => by
  have nd := scParser_person.nd
  refine F.ok scParser_person (fun vs H Q E h => ?_) (fun cdv A outer s H vs Q E hr h => ?_)
  · obtain ⟨z, L, s, a, k, t, j, rfl, _⟩ := h; rfl
  obtain ⟨z, L, sv, a, k, t, j, rfl, hp, ht, hnd, hj, q⟩ := h
  refine ⟨_, (pss_cons (ps_if (pt_cmpR (r := rIn K false) op_in_seq (pe_fldK (K := K) rfl (pv 1) rfl) (pe_fldK (K := K) rfl (pv 0) rfl) (by rfl))
 (pss_one (ps_ret (pe_bmK (K := K) rfl PySem.F.plainAttrs_list PySem.F.slot_list_index PySem.F.type_list_index mt_index (pe_fldK (K := K) rfl (pv 0) rfl) (pa_cons (pe_fldK (K := K) rfl (pv 1) rfl) pa_nil))))
 pss_nil)
 pss_never), ?_⟩
  obtain ⟨tdx, tl, tc, hta⟩ := hp.ts _ ht
  refine ⟨_, rfl, a, CT, tdx, _, _, rfl, hta, TC.cl, TC.nt, tk_text _ _ _ _, _, rfl, z.x, CP, z.dx, _, _, rfl, hp.ob, PC.cl, PC.n4, pf_names, z.nl, sv.names.map V.str, rfl, .inl (SqL.of hp.nl), rfl, flat_strs' _, _, rfl, ?_⟩
  rw [if_neg Bool.false_ne_true, inV_strs]
  refine ite2 (fun _ => ?_) (fun h => absurd (decide_eq_true (List.mem_of_getElem? hj)) h)
  refine ⟨_, rfl, z.x, CP, z.dx, _, _, rfl, hp.ob, PC.cl, PC.n4, pf_names, .inl ⟨rfl, _, SqL.of hp.nl⟩, _, rfl, a, CT, tdx, _, _, rfl, hta, TC.cl, TC.nt, tk_text _ _ _ _, ?_⟩
  refine ⟨z.nl, sv.names.map V.str, .str t, j, .str t, rfl, rfl, SqL.of hp.nl, rfl, flat_strs' _, by rw [List.getElem?_map, hj]; rfl, by rw [eqV_str]; exact decide_eq_true rfl, fun m z' hm hz' => ?_, q⟩
  rw [List.getElem?_map] at hz'
  cases e : sv.names[m]? with
  | none => rw [e] at hz'; cases hz'
  | some y =>
    rw [e] at hz'
    cases hz'
    rw [eqV_str, decide_eq_false_iff_not]
    rintro rfl
    exact absurd (nd_ix hnd e hj) (by omega)
/-- the people -/
def spPeople (CP CT : Addr) : Sp := fun vs H Q _ => ∃ (z : Pz) (L : List (Addr × (Str × Str))) (s : Pv) (ns : List Str) (rest : List (Str × Str)), vs = [.ref z.x] ∧ PAt CP CT z L s H ∧ s.names = [] ∧ ns ≠ [] ∧ ns.length ≤ 6 ∧ ns.Nodup ∧
  TkAt L s.n ((("keyword" : Str), ("people" : Str)) :: (ns.map (fun t => (("name" : Str), t)) ++ (("sign" : Str), (";" : Str)) :: rest)) ∧
  ∀ H', Wd z.mut H H' [] → PAt CP CT z L { s with n := s.n + 1 + ns.length + 1, names := ns } H' → Q .non H'
abbrev sParser_parse_people : Stmt := inClass (topS 27) 8
theorem scParser_parse_people : FnScope ["self", "token"] ["self"] (defScope sParser_parse_people) := ⟨rfl, rfl, rfl, by decide +kernel, rfl, by decide +kernel, by decide +kernel⟩
theorem me_people (D : MethAt K CP "parse_people" "Parser.parse_people" sParser_parse_people ["self"]) (T : Bi mg) (PC : ParCls K CP) (TC : TokCls K CT) (LC : LexC K mg) (hMP : ∃ t, mg "MAX_PEOPLE" = some (.int 6 t)) (C1 : MeAt P w K mg base 2 CP "take_word" ["self", "word"] (spTakeW CP CT))
    (C2 : MeAt P w K mg base 3 CP "take_all" ["self", "kind"] (spTakeA CP CT)) : MeAt P w K mg base 4 CP "parse_people" ["self"] (spPeople CP CT) := D.me fun f fd F => by
  have nd := scParser_parse_people.nd
  have cl_Parser := PC.cl
  obtain ⟨t1, c_NAME⟩ := LC.NAME
  obtain ⟨t2, c_MAX_PEOPLE⟩ := hMP
  obtain ⟨f1, fd1, me_take_word, b_take_word, G_take_word⟩ := C1.ex
  obtain ⟨f2, fd2, me_take_all, b_take_all, G_take_all⟩ := C2.ex
  refine F.ok scParser_parse_people (fun vs H Q E h => ?_) (fun cdv A outer s H vs Q E hr h => ?_)
  · obtain ⟨z, L, s, ns, rest, rfl, _⟩ := h; rfl
  obtain ⟨z, L, sv, ns, rest, rfl, hp, hn0, hne, h6, hnd, hts, q⟩ := h
  refine ⟨_, (pss_cons (ps_expr (pe_meth (pv 0) cl_Parser me_take_word G_take_word (hr.mono (by first | decide | omega)) b_take_word .nil pass0 (pa_cons pe_str pa_nil)))
 (pss_one (ps_for PassesOwn.never rfl (pi_listK (K := K) rfl (pe_meth (pv 0) cl_Parser me_take_all G_take_all (hr.mono (by first | decide | omega)) b_take_all .nil pass0 (pa_cons (pe_glob (v := .str "name") (by rfl) c_NAME ⟨_, rfl⟩) pa_nil))) (pg_name (i := 1) nd rfl (Or.inl rfl))
 (pss_one (ps_if (pt_cmpR (r := rIn K false) op_in_seq (pe_fldK (K := K) rfl (pv 1) rfl) (pe_fldK (K := K) rfl (pv 0) rfl) (by rfl))
 pss_never
 (pss_one (ps_if (pt_cmpR op_eq (pe_callB (r := rLenS K) call_len_seq (by rfl) T.len PySem.boot_len (pa_cons (pe_fldK (K := K) rfl (pv 0) rfl) pa_nil)) (pe_glob (v := .int 6) (by rfl) c_MAX_PEOPLE ⟨_, rfl⟩) (nomark _))
 pss_never
 (pss_one (ps_expr (pe_bmK (K := K) rfl PySem.F.plainAttrs_list PySem.F.slot_list_append PySem.F.type_list_append mt_append (pe_fldK (K := K) rfl (pv 0) rfl) (pa_cons (pe_fldK (K := K) rfl (pv 1) rfl) pa_nil))))))))))), ?_⟩
  obtain ⟨⟨a0, h0⟩, hts1⟩ := hts.cons
  refine ⟨_, rfl, z.x, z.dx, _, rfl, hp.ob, pf_none (by decide +kernel), z, L, sv, a0, _, _, rfl, hp, h0, fun H1 c1 hp1 => ?_⟩
  refine ⟨_, rfl, z.x, z.dx, _, rfl, hp1.ob, pf_none (by decide +kernel), z, L, _, _, ns, rest, rfl, hp1, by decide +kernel, hne, by omega, hts1, fun H2 p sub c2 hp2 hpn hsub hmap hmem => ?_⟩
  have hpo := hp1.out hpn
  have hpn0 := c1.free _ hpn
  have hsl : (trefs sub).length = ns.length := by
    have := congrArg List.length hmap
    rw [List.length_map, List.length_map] at this
    rw [trefs_len]; exact this
  refine ⟨p, rfl, ⟨_, SqL.of hsub⟩, ?_⟩
  refine for_it (walk_list (xs := trefs sub)) (fun i σ H' => (∃ b, σ = [some (.ref z.x), b]) ∧ Wd z.mut H H' [] ∧ PAt CP CT z L { sv with n := sv.n + 1 + ns.length + 1, names := ns.take i } H' ∧ H' p = some (.lst (trefs sub))) ?_ ?_ ?_ ?_
  · exact ⟨⟨_, rfl⟩, c1.fgo c2, by rw [List.take_zero, ← hn0]; exact hp2, hsub⟩
  · rintro i σ H' _ ⟨_, _, _, h⟩
    exact SqL.of h
  · rintro i x σ H3 H3' hi ⟨⟨b, rfl⟩, c3, hp3, hs3⟩ ⟨rfl, hx⟩
    obtain ⟨a, t, rfl, ht, hm⟩ := sub_at hmap hx
    obtain ⟨tdx, tl, tc, hta⟩ := hp3.ts _ (hmem _ hm)
    have hi6 : (ns.take i).length = i := by rw [List.length_take]; omega
    refine ⟨_, rfl, a, CT, tdx, _, _, rfl, hta, TC.cl, TC.nt, tk_text _ _ _ _, _, rfl, z.x, CP, z.dx, _, _, rfl, hp3.ob, PC.cl, PC.n4, pf_names, z.nl, (ns.take i).map V.str, rfl, .inl (SqL.of hp3.nl), rfl, flat_strs' _, _, rfl, ?_⟩
    rw [if_neg Bool.false_ne_true, inV_strs]
    have hnot : t ∉ ns.take i := fun h => by
      obtain ⟨j, hj, e⟩ := List.mem_take_iff_getElem.mp h
      have e2 : ns[j]? = some t := by rw [List.getElem?_eq_getElem (by omega), e]
      exact absurd (nd_ix hnd e2 ht) (by omega)
    refine ite2 (fun h => absurd (of_decide_eq_true h) hnot) (fun _ => ?_)
    refine ⟨_, rfl, z.x, CP, z.dx, _, _, rfl, hp3.ob, PC.cl, PC.n4, pf_names, z.nl, _, rfl, .inl (SqL.of hp3.nl), rfl, _, rfl, ?_⟩
    have hni : i ≠ 6 := by omega
    refine ite2 (fun h => absurd (of_decide_eq_true h) ?_) (fun _ => ?_)
    · rw [List.length_map, hi6]
      intro e; injection e with e; omega
    refine ⟨_, rfl, z.x, CP, z.dx, _, _, rfl, hp3.ob, PC.cl, PC.n4, pf_names, .inl ⟨rfl, _, SqL.of hp3.nl⟩, _, rfl, a, CT, tdx, _, _, rfl, hta, TC.cl, TC.nt, tk_text _ _ _ _, ?_⟩
    refine ⟨z.nl, _, _, rfl, rfl, hp3.nl, ?_, ⟨_, rfl⟩, ?_, ?_, ?_⟩
    · rw [List.length_map, hi6]; exact Nat.lt_of_lt_of_le (m := 100) (by omega) (by decide)
    · exact c3.fput _ (.inr (by simp [Pz.mut])) hp3.nl (fun _ q => by cases q)
    · have e : (ns.take i).map V.str ++ [V.str t] = (ns.take (i + 1)).map V.str := by rw [take_more ht, List.map_append]; rfl
      rw [e]
      exact hp3.setN _
    · have hne : p ≠ z.nl := fun e => hpo.1 (by rw [e]; simp [Pz.mut])
      rw [upd_ne hne]; exact hs3
  · rintro σ H3 ⟨⟨b, rfl⟩, c3, hp3, hs3⟩
    rw [hsl, List.take_length] at hp3
    exact q _ c3 hp3
end
end Br

namespace Br
open PySem PySem.Spec PyProof.Rows L2
theorem eqV_int (a b : Int) : eqV (.int a) (.int b) = decide (a = b) := by
  rw [Bool.eq_iff_iff, decide_eq_true_eq]
  exact ⟨fun h => eq_of_beq (show (a == b) = true from h), fun h => (show (a == b) = true from beq_iff_eq.mpr h)⟩
theorem inV_ints (x : Int) : ∀ l : List Int, inV (.int x) (l.map V.int) = decide (x ∈ l)
  | [] => by simp [inV]
  | y :: l => by
    have ih := inV_ints x l
    unfold inV at ih ⊢
    rw [List.map_cons, List.any_cons, ih, eqV_int, Bool.eq_iff_iff, Bool.or_eq_true, decide_eq_true_eq, decide_eq_true_eq, decide_eq_true_eq, List.mem_cons]
    exact or_congr ⟨fun h => h.symm, fun h => h.symm⟩ Iff.rfl
theorem flat_ints (l : List Int) : (l.map V.int).all flatV = true := by
  rw [List.all_eq_true]
  intro v hv
  obtain ⟨s, _, rfl⟩ := List.mem_map.mp hv
  rfl
/-- the name of the k-th -/
def nmL (ns : List Str) (k : Int) : Str := ns.getD k.toNat Str.empty
theorem nmL_at {ns : List Str} {k : Int} (h0 : 0 ≤ k) (h1 : k < ns.length) : ns[k.toNat]? = some (nmL ns k) := by
  unfold nmL
  rw [List.getD_eq_getElem?_getD, List.getElem?_eq_getElem (by omega)]; rfl
section
variable {P : Program} {w : World} {K : PySem.W.Frag} {mg : Str → Option Value} {base : Heap} {CT CP : Addr}
/-- the turns -/
def spTurns (CP CT : Addr) : Sp := fun vs H Q _ => ∃ (z : Pz) (L : List (Addr × (Str × Str))) (s : Pv) (ts : List Int) (rest : List (Str × Str)), vs = [.ref z.x] ∧ PAt CP CT z L s H ∧ s.names.Nodup ∧ s.names.length ≤ 6 ∧ ts ≠ [] ∧ ts.length ≤ 12 ∧
  (∀ t ∈ ts, 0 ≤ t ∧ t < s.names.length) ∧ (∀ k : Nat, k < s.names.length → (k : Int) ∈ ts) ∧
  TkAt L s.n ((("keyword" : Str), ("turns" : Str)) :: ((ts.map (nmL s.names)).map (fun t => (("name" : Str), t)) ++ (("sign" : Str), (";" : Str)) :: rest)) ∧
  ∀ H' r, Wd z.mut H H' [] → PAt CP CT z L { s with n := s.n + 1 + ts.length + 1 } H' → H' r = some (.tup (ts.map V.int)) → Q (.ref r) H'
abbrev sParser_parse_turns : Stmt := inClass (topS 27) 9
theorem scParser_parse_turns : FnScope ["self", "start", "turns", "index", "token", "person"] ["self"] (defScope sParser_parse_turns) := ⟨rfl, rfl, rfl, by decide +kernel, rfl, by decide +kernel, by decide +kernel⟩
theorem me_turns (D : MethAt K CP "parse_turns" "Parser.parse_turns" sParser_parse_turns ["self"]) (T : Bi mg) (PC : ParCls K CP) (TC : TokCls K CT) (LC : LexC K mg) (hMP : ∃ t, mg "MAX_TURNS" = some (.int 12 t))
    (C0 : MeAt P w K mg base 1 CP "peek" ["self"] (spPeek CP CT)) (C1 : MeAt P w K mg base 2 CP "take_word" ["self", "word"] (spTakeW CP CT))
    (C2 : MeAt P w K mg base 3 CP "take_all" ["self", "kind"] (spTakeA CP CT)) (C3 : MeAt P w K mg base 1 CP "person" ["self", "token"] (spPerson CP CT)) : MeAt P w K mg base 4 CP "parse_turns" ["self"] (spTurns CP CT) := D.me fun f fd F => by
  have nd := scParser_parse_turns.nd
  have cl_Parser := PC.cl
  obtain ⟨t1, c_NAME⟩ := LC.NAME
  obtain ⟨t2, c_MAX_TURNS⟩ := hMP
  obtain ⟨f0, fd0, me_peek, b_peek, G_peek⟩ := C0.ex
  obtain ⟨f1, fd1, me_take_word, b_take_word, G_take_word⟩ := C1.ex
  obtain ⟨f2, fd2, me_take_all, b_take_all, G_take_all⟩ := C2.ex
  obtain ⟨f3, fd3, me_person, b_person, G_person⟩ := C3.ex
  refine F.ok scParser_parse_turns (fun vs H Q E h => ?_) (fun cdv A outer s H vs Q E hr h => ?_)
  · obtain ⟨z, L, s, ts, rest, rfl, _⟩ := h; rfl
  obtain ⟨z, L, sv, ts, rest, rfl, hp, hnd, h6, hne, h12, hin, hall, hts, q⟩ := h
  refine ⟨_, (pss_cons (ps_set (i := 1) nd rfl (Or.inl rfl) (pe_meth0 (pv 0) cl_Parser me_peek G_peek (hr.mono (by first | decide | omega)) b_peek .nil pass0))
 (pss_cons (ps_expr (pe_meth (pv 0) cl_Parser me_take_word G_take_word (hr.mono (by first | decide | omega)) b_take_word .nil pass0 (pa_cons pe_str pa_nil)))
 (pss_cons (ps_set (i := 2) nd rfl (Or.inr rfl) (pe_lst pa_nil))
 (pss_cons (ps_for PassesOwn.never rfl (pi_enum (by rfl) T.enumerate (pa_cons (pe_meth (pv 0) cl_Parser me_take_all G_take_all (hr.mono (by first | decide | omega)) b_take_all .nil pass0 (pa_cons (pe_glob (v := .str "name") (by rfl) c_NAME ⟨_, rfl⟩) pa_nil)) pa_nil)) (pg_tupK (K := K) (n := 2) rfl rfl (pgs_cons (pg_name (i := 3) nd rfl (Or.inl rfl)) (pgs_cons (pg_name (i := 4) nd rfl (Or.inl rfl)) pgs_nil)))
 (pss_cons (ps_expr (pe_bmK (K := K) rfl PySem.F.plainAttrs_list PySem.F.slot_list_append PySem.F.type_list_append mt_append (pv 2) (pa_cons (pe_meth (pv 0) cl_Parser me_person G_person (hr.mono (by first | decide | omega)) b_person .nil pass0 (pa_cons (pv 4) pa_nil)) pa_nil)))
 (pss_one (ps_if (pt_cmpR op_eq (pv 3) (pe_glob (v := .int 12) (by rfl) c_MAX_TURNS ⟨_, rfl⟩) (nomark _))
 pss_never
 pss_nil))))
 (pss_cons (ps_if (pt_val (pe_callB (r := rAny K) (cr_any rfl) (by rfl) T.any (by decide +kernel) (pa_cons (pe_lc (own := [("person", 5)]) rfl nd (pi_range1 (by rfl) T.range (pa_cons (pe_callB (r := rLenS K) call_len_seq (by rfl) T.len PySem.boot_len (pa_cons (pe_fldK (K := K) rfl (pv 0) rfl) pa_nil)) pa_nil)) (blkOk_by (N := ["self", "start", "turns", "index", "token", "person"]) (sc := defScope sParser_parse_turns) (by decide +kernel)) (fun _ _ _ _ _ => (pg_name (i := 5) nd rfl (Or.inl rfl))) (fun _ _ _ _ _ => pts_nil) (fun _ _ _ _ _ => (pe_cmpR (r := rIn K true) op_notIn_seq (pv 5) (pv 2) (by rfl)))) pa_nil)))
 pss_never
 pss_nil)
 (pss_one (ps_ret (pe_callTy (r := rTupOf K) call_tuple_of (by rfl) T.tuple (by decide +kernel) (pa_cons (pv 2) pa_nil))))))))), ?_⟩
  obtain ⟨⟨a0, h0⟩, hts1⟩ := hts.cons
  refine ⟨_, rfl, z.x, z.dx, _, rfl, hp.ob, pf_none (by decide +kernel), z, L, sv, a0, _, rfl, hp, h0, ?_⟩
  refine ⟨_, rfl, z.x, z.dx, _, rfl, hp.ob, pf_none (by decide +kernel), z, L, sv, a0, _, _, rfl, hp, h0, fun H1 c1 hp1 => ?_⟩
  refine ⟨(by show 0 ≤ sizeLine; decide), fun tq htq => ?_⟩
  have htqN := c1.free _ htq
  have c1 := c1.fnew (.lst []) htq
  have htq0 := (hp1.out htq)
  have hp1 := hp1.new (.lst []) htq
  have htq1 : upd H1 tq (.lst []) tq = some (.lst ([].map V.int)) := upd_same
  generalize upd H1 tq (.lst []) = H1 at *
  refine ⟨_, rfl, z.x, z.dx, _, rfl, hp1.ob, pf_none (by decide +kernel), z, L, _, _, ts.map (nmL sv.names), rest, rfl, hp1, by decide +kernel, by simpa using hne, by rw [List.length_map]; omega, hts1, fun H2 p sub c2 hp2 hpn hsub hmap hmem => ?_⟩
  have hpo := hp1.out hpn
  have hpt : p ≠ tq := (ne_of_none htq1 hpn).symm
  have htq2 := c2.base _ _ htq0.1 htq1
  have hsl : (trefs sub).length = ts.length := by
    have := congrArg List.length hmap
    rw [List.length_map, List.length_map, List.length_map] at this
    rw [trefs_len]; exact this
  have hlen : (ts.map (nmL sv.names)).length = ts.length := List.length_map ..
  rw [hlen] at hp2
  refine ⟨p, _, rfl, SqL.of hsub, ?_⟩
  refine for_it (walk_enum (xs := trefs sub)) (fun i σ H' => (∃ b c d e, σ = [some (.ref z.x), b, some (.ref tq), c, d, e]) ∧ Wd z.mut H H' [] ∧ PAt CP CT z L { sv with n := sv.n + 1 + ts.length + 1 } H' ∧ H' p = some (.lst (trefs sub)) ∧ H' tq = some (.lst ((ts.take i).map V.int))) ?_ ?_ ?_ ?_
  · exact ⟨⟨_, _, _, _, rfl⟩, c1.fgo c2, hp2, hsub, htq2⟩
  · rintro i σ H' _ ⟨_, _, _, h, _⟩
    exact SqL.of h
  · rintro i x σ H3 H3' hi ⟨⟨b, c, d, e, rfl⟩, c3, hp3, hs3, hq3⟩ ⟨T0, x1, x2, rfl, hT0, rfl, e1, e2⟩
    cases e1
    obtain ⟨a, t, rfl, ht, hm⟩ := sub_at hmap e2
    rw [List.getElem?_map] at ht
    obtain ⟨v, hv, rfl⟩ : ∃ v, ts[i]? = some v ∧ nmL sv.names v = t := by
      cases e5 : ts[i]? with
      | none => rw [e5] at ht; cases ht
      | some v => rw [e5] at ht; exact ⟨v, rfl, Option.some.inj ht⟩
    have hv0 := hin v (List.mem_of_getElem? hv)
    have hi2 := (List.getElem?_eq_some_iff.mp hv).1
    have hpT := ne_of_none hs3 hT0
    have hqT := ne_of_none hq3 hT0
    have c4 := c3.fnew (.tup [.int (i : Nat), .ref a]) hT0
    have hp4 := hp3.new (.tup [.int (i : Nat), .ref a]) hT0
    have hT4 : upd H3 T0 (.tup [.int (i : Nat), .ref a]) T0 = some (.tup [.int (i : Nat), .ref a]) := upd_same
    have hs4 : upd H3 T0 (.tup [.int (i : Nat), .ref a]) p = some (.lst (trefs sub)) := by rw [upd_ne hpT]; exact hs3
    have hq4 : upd H3 T0 (.tup [.int (i : Nat), .ref a]) tq = some (.lst ((ts.take i).map V.int)) := by rw [upd_ne hqT]; exact hq3
    generalize upd H3 T0 (.tup [.int (i : Nat), .ref a]) = H4 at *
    have hil : (ts.take i).length = i := by rw [List.length_take]; omega
    refine ⟨T0, _, rfl, SqT.of hT4, rfl, _, _, rfl, _, _, rfl, rfl, ?_⟩
    refine ⟨_, rfl, .inl ⟨rfl, _, SqL.of hq4⟩, _, rfl, z.x, z.dx, _, rfl, hp4.ob, pf_none (by decide +kernel), _, rfl, z, L, _, a, _, _, v.toNat, rfl, hp4, hmem _ hm, hnd, nmL_at hv0.1 hv0.2, ?_⟩
    refine ⟨tq, _, _, rfl, rfl, hq4, (by rw [List.length_map, hil]; exact Nat.lt_of_lt_of_le (m := 100) (by omega) (by decide)), _, rfl, rfl, _, rfl, ?_⟩
    refine ite2 (fun h => absurd (of_decide_eq_true h) (fun e => by injection e with e; omega)) (fun _ => ?_)
    have e6 : (ts.take i).map V.int ++ [V.int (v.toNat : Int)] = (ts.take (i + 1)).map V.int := by
      rw [take_more hv, List.map_append, Int.toNat_of_nonneg hv0.1]; rfl
    rw [e6]
    refine ⟨⟨_, _, _, _, rfl⟩, c4.fput _ (.inl htqN) hq4 (fun _ q => by cases q), hp4.putL hq4 htq0.1 htq0.2.1 htq0.2.2, by rw [upd_ne hpt]; exact hs4, upd_same⟩
  · rintro σ H3 ⟨⟨b, c, d, e, rfl⟩, c3, hp3, hs3, hq3⟩
    rw [hsl, List.take_length] at hq3
    refine ⟨_, rfl, z.x, CP, z.dx, _, _, rfl, hp3.ob, PC.cl, PC.n4, pf_names, z.nl, sv.names.map V.str, rfl, .inl (SqL.of hp3.nl), _, rfl, by rw [List.length_map]; omega, by rw [List.length_map]; omega, fun D hD => ?_⟩
    have w4 := (Wd.refl H3).new (.lst []) hD
    have en : (((sv.names.map V.str).length : Nat) : Int).toNat = sv.names.length := by rw [List.length_map]; omega
    rw [en]
    refine lc_range (lo := 0) (n := sv.names.length) (fun i H2 => Wd [] H3 H2 [(D, .lst ((List.replicate i false).map V.bl))]) w4 ?_ ?_
    · rintro i H5 hi w5
      have hi2 := hall i hi
      refine ⟨rfl, _, rfl, _, rfl, tq, ts.map V.int, rfl, .inl (SqL.of (w5.old hq3 (by simp))), rfl, flat_ints _, _, w5.get 0 rfl, ?_, ?_⟩
      · rw [List.length_map, List.length_replicate]; exact Nat.lt_of_lt_of_le (m := 100) (by omega) (by decide)
      · rw [if_pos rfl, inV_ints, decide_eq_true (by rw [Int.zero_add]; exact hi2)]
        have := w5.put 0 (.lst ((List.replicate i false).map V.bl ++ [V.bl false])) rfl (fun _ q => by cases q)
        rw [List.replicate_succ', List.map_append]
        exact this
    · intro H5 w5
      refine ⟨D, _, rfl, SqL.of (w5.get 0 rfl), _, rfl, ?_⟩
      have ea : (List.replicate sv.names.length false).any id = false := by
        rw [List.any_eq_false]
        intro x hx
        rw [(List.mem_replicate.mp hx).2]; simp
      rw [ea]
      refine ite2 (fun h => absurd h (by decide)) (fun _ => ?_)
      refine ⟨_, rfl, tq, _, rfl, .inl ⟨SqL.of (w5.old hq3 (by simp)), fun l hl => ?_⟩⟩
      have c5 : Wd z.mut H H5 [] := c3.fgo ((w5.sub (List.nil_sublist _)).mono fun _ h => nomatch h)
      exact q _ l (c5.fnew _ hl) ((hp3.call0 w5).new _ hl) upd_same
/-! ### the weights -/
def ntok (i : Int) : Str × Str := (("number" : Str), num i)
theorem int_num' {i : Int} (h0 : 0 ≤ i) (h1 : i ≤ 99) : intText? (num i) = some i ∧ (num i).length ≤ 640 := by
  obtain ⟨n, rfl⟩ := Int.eq_ofNat_of_zero_le h0
  have hl := TL.tl_num n
  have h2 : (TL.numL n).length ≤ 2 := by
    have : ∀ m : Nat, m < 100 → (TL.numL m).length ≤ 2 := by decide +kernel
    exact this n (by omega)
  refine ⟨TL.int_num (by omega), ?_⟩
  have : (num (n : Int)).length = (TL.numL n).length := by rw [TL.len_tl]; exact congrArg List.length hl
  omega
def spWeights (CP CT : Addr) : Sp := fun vs H Q _ => ∃ (z : Pz) (L : List (Addr × (Str × Str))) (s : Pv) (ws : List Int) (rest : List (Str × Str)), vs = [.ref z.x] ∧ PAt CP CT z L s H ∧ s.W = none ∧ ws.length = s.names.length ∧ s.names.length ≤ 6 ∧ ws ≠ [] ∧
  (∀ t ∈ ws, 1 ≤ t ∧ t ≤ 9) ∧
  TkAt L s.n ((("keyword" : Str), ("weights" : Str)) :: ((ws.map num).map (fun t => (("number" : Str), t)) ++ (("sign" : Str), (";" : Str)) :: rest)) ∧
  ∀ H' b, Wd z.mut H H' [] → PAt CP CT z L { s with n := s.n + 1 + ws.length + 1, W := some (b, ws) } H' → Q .non H'
abbrev sParser_parse_weights : Stmt := inClass (topS 27) 10
theorem scParser_parse_weights : FnScope ["self", "start", "tokens", "index", "token"] ["self"] (defScope sParser_parse_weights) := ⟨rfl, rfl, rfl, by decide +kernel, rfl, by decide +kernel, by decide +kernel⟩
theorem me_weights (D : MethAt K CP "parse_weights" "Parser.parse_weights" sParser_parse_weights ["self"]) (T : Bi mg) (PC : ParCls K CP) (TC : TokCls K CT) (LC : LexC K mg) (hMP : ∃ t, mg "MAX_WEIGHT" = some (.int 9 t))
    (C0 : MeAt P w K mg base 1 CP "peek" ["self"] (spPeek CP CT)) (C1 : MeAt P w K mg base 2 CP "take_word" ["self", "word"] (spTakeW CP CT))
    (C2 : MeAt P w K mg base 3 CP "take_all" ["self", "kind"] (spTakeA CP CT)) : MeAt P w K mg base 4 CP "parse_weights" ["self"] (spWeights CP CT) := D.me fun f fd F => by
  have nd := scParser_parse_weights.nd
  have cl_Parser := PC.cl
  obtain ⟨t1, c_NUMBER⟩ := LC.NUMBER
  obtain ⟨t2, c_MAX_WEIGHT⟩ := hMP
  obtain ⟨f0, fd0, me_peek, b_peek, G_peek⟩ := C0.ex
  obtain ⟨f1, fd1, me_take_word, b_take_word, G_take_word⟩ := C1.ex
  obtain ⟨f2, fd2, me_take_all, b_take_all, G_take_all⟩ := C2.ex
  refine F.ok scParser_parse_weights (fun vs H Q E h => ?_) (fun cdv A outer s H vs Q E hr h => ?_)
  · obtain ⟨z, L, s, ts, rest, rfl, _⟩ := h; rfl
  obtain ⟨z, L, sv, ws, rest, rfl, hp, hW, hwl, h6, hne, hin, hts, q⟩ := h
  refine ⟨_, (pss_cons (ps_set (i := 1) nd rfl (Or.inl rfl) (pe_meth0 (pv 0) cl_Parser me_peek G_peek (hr.mono (by first | decide | omega)) b_peek .nil pass0))
 (pss_cons (ps_expr (pe_meth (pv 0) cl_Parser me_take_word G_take_word (hr.mono (by first | decide | omega)) b_take_word .nil pass0 (pa_cons pe_str pa_nil)))
 (pss_cons (ps_set (i := 2) nd rfl (Or.inl rfl) (pe_meth (pv 0) cl_Parser me_take_all G_take_all (hr.mono (by first | decide | omega)) b_take_all .nil pass0 (pa_cons (pe_glob (v := .str "number") (by rfl) c_NUMBER ⟨_, rfl⟩) pa_nil)))
 (pss_cons (ps_if (pt_cmpR op_notN (pe_fldK (K := K) rfl (pv 0) rfl) pe_non (nomark _))
 pss_never
 pss_nil)
 (pss_cons (ps_for PassesOwn.never rfl (pi_enum (by rfl) T.enumerate (pa_cons (pv 2) pa_nil)) (pg_tupK (K := K) (n := 2) rfl rfl (pgs_cons (pg_name (i := 3) nd rfl (Or.inl rfl)) (pgs_cons (pg_name (i := 4) nd rfl (Or.inl rfl)) pgs_nil)))
 (pss_one (ps_if (PW.pt (pw_or (pt_cmpR op_eq (pv 3) (pe_callB (r := rLenS K) call_len_seq (by rfl) T.len PySem.boot_len (pa_cons (pe_fldK (K := K) rfl (pv 0) rfl) pa_nil)) (nomark _)) (pw_or1 (pt_not (pt_chain op_le op_le pe_int (pe_callTy call_int_str (by rfl) T.int (by decide +kernel) (pa_cons (pe_fldK (K := K) rfl (pv 4) rfl) pa_nil)) (pe_glob (v := .int 9) (by rfl) c_MAX_WEIGHT ⟨_, rfl⟩))))))
 pss_never
 pss_nil)))
 (pss_cons (ps_if (pt_cmpR op_lt (pe_callB (r := rLenS K) call_len_seq (by rfl) T.len PySem.boot_len (pa_cons (pv 2) pa_nil)) (pe_callB (r := rLenS K) call_len_seq (by rfl) T.len PySem.boot_len (pa_cons (pe_fldK (K := K) rfl (pv 0) rfl) pa_nil)) (nomark _))
 pss_never
 pss_nil)
 (pss_one (ps_fld (pv 0) (pe_callTy (r := rTupOf K) call_tuple_of (by rfl) T.tuple (by decide +kernel) (pa_cons (pe_lc (own := [("token", 4)]) rfl nd (pi_listK (K := K) rfl (pv 2)) (blkOk_by (N := ["self", "start", "tokens", "index", "token"]) (sc := defScope sParser_parse_weights) (by decide +kernel)) (fun _ _ _ _ _ => (pg_name (i := 4) nd rfl (Or.inl rfl))) (fun _ _ _ _ _ => pts_nil) (fun _ _ _ _ _ => (pe_callTy call_int_str (by rfl) T.int (by decide +kernel) (pa_cons (pe_fldK (K := K) rfl (pv 4) rfl) pa_nil)))) pa_nil)) rfl)))))))), ?_⟩
  obtain ⟨⟨a0, h0⟩, hts1⟩ := hts.cons
  refine ⟨_, rfl, z.x, z.dx, _, rfl, hp.ob, pf_none (by decide +kernel), z, L, sv, a0, _, rfl, hp, h0, ?_⟩
  refine ⟨_, rfl, z.x, z.dx, _, rfl, hp.ob, pf_none (by decide +kernel), z, L, sv, a0, _, _, rfl, hp, h0, fun H1 c1 hp1 => ?_⟩
  refine ⟨_, rfl, z.x, z.dx, _, rfl, hp1.ob, pf_none (by decide +kernel), z, L, _, _, ws.map num, rest, rfl, hp1, by decide +kernel, by simpa using hne, by rw [List.length_map]; omega, hts1, fun H2 p sub c2 hp2 hpn hsub hmap hmem => ?_⟩
  have hpo := hp1.out hpn
  have hsl : (trefs sub).length = ws.length := by
    have := congrArg List.length hmap
    rw [List.length_map, List.length_map, List.length_map] at this
    rw [trefs_len]; exact this
  have hlen : (ws.map num).length = ws.length := List.length_map ..
  rw [hlen] at hp2
  have hw2 : oV sv.W = .non := by rw [hW]; rfl
  refine ⟨_, rfl, z.x, CP, z.dx, _, _, rfl, hp2.ob, PC.cl, PC.n5, pf_weights, ?_⟩
  have tokv : ∀ (i : Nat) (x : V), (trefs sub)[i]? = some x → ∃ a v, x = .ref a ∧ ws[i]? = some v ∧ (a, (("number" : Str), num v)) ∈ L ∧ 1 ≤ v ∧ v ≤ 9 := fun i x hx => by
    obtain ⟨a, t, rfl, ht, hm⟩ := sub_at hmap hx
    rw [List.getElem?_map] at ht
    cases e5 : ws[i]? with
    | none => rw [e5] at ht; cases ht
    | some v =>
      rw [e5] at ht
      have e6 : num v = t := Option.some.inj ht
      exact ⟨a, v, rfl, rfl, by rw [e6]; exact hmem _ hm, (hin v (List.mem_of_getElem? e5)).1, (hin v (List.mem_of_getElem? e5)).2⟩
  refine ⟨rfl, _, rfl, ?_⟩
  rw [hw2]
  refine ite2 (fun h => absurd h (by simp)) (fun _ => ?_)
  refine ⟨_, rfl, p, _, rfl, SqL.of hsub, ?_⟩
  refine for_it (walk_enum (xs := trefs sub)) (fun i σ H' => (∃ b c d, σ = [some (.ref z.x), b, some (.ref p), c, d]) ∧ Wd z.mut H H' [] ∧ PAt CP CT z L { sv with n := sv.n + 1 + ws.length + 1 } H' ∧ H' p = some (.lst (trefs sub))) ?_ ?_ ?_ ?_
  · exact ⟨⟨_, _, _, rfl⟩, c1.fgo c2, hp2, hsub⟩
  · rintro i σ H' _ ⟨_, _, _, h⟩
    exact SqL.of h
  · rintro i x σ H3 H3' hi ⟨⟨b, c, d, rfl⟩, c3, hp3, hs3⟩ ⟨T0, x1, x2, rfl, hT0, rfl, e1, e2⟩
    cases e1
    obtain ⟨a, v, rfl, hv, hm, hv1, hv9⟩ := tokv i _ e2
    have hi2 := (List.getElem?_eq_some_iff.mp hv).1
    have hpT := ne_of_none hs3 hT0
    have c4 := c3.fnew (.tup [.int (i : Nat), .ref a]) hT0
    have hp4 := hp3.new (.tup [.int (i : Nat), .ref a]) hT0
    have hT4 : upd H3 T0 (.tup [.int (i : Nat), .ref a]) T0 = some (.tup [.int (i : Nat), .ref a]) := upd_same
    have hs4 : upd H3 T0 (.tup [.int (i : Nat), .ref a]) p = some (.lst (trefs sub)) := by rw [upd_ne hpT]; exact hs3
    generalize upd H3 T0 (.tup [.int (i : Nat), .ref a]) = H4 at *
    obtain ⟨tdx, tl, tc, hta⟩ := hp4.ts _ hm
    obtain ⟨hn1, hn2⟩ := int_num' (i := v) (by omega) (by omega)
    refine ⟨T0, _, rfl, SqT.of hT4, rfl, _, _, rfl, _, _, rfl, rfl, ?_⟩
    refine ⟨_, rfl, _, rfl, z.x, CP, z.dx, _, _, rfl, hp4.ob, PC.cl, PC.n4, pf_names, z.nl, _, rfl, .inl (SqL.of hp4.nl), rfl, _, rfl, ?_⟩
    refine ite2 (fun h => absurd (of_decide_eq_true h) (fun e => by injection e with e; rw [List.length_map] at e; dsimp only at e; omega)) (fun _ => ?_)
    refine ⟨_, rfl, a, CT, tdx, _, _, rfl, hta, TC.cl, TC.nt, tk_text _ _ _ _, _, v, rfl, hn1, hn2, _, _, rfl, rfl, _, rfl, ?_⟩
    refine ite2 (fun _ => ?_) (fun h => absurd (decide_eq_true hv1) h)
    refine ⟨_, _, rfl, rfl, _, rfl, ?_⟩
    rw [decide_eq_true (show v ≤ 9 from hv9)]
    refine ite2 (fun h => absurd h (by decide)) (fun _ => ?_)
    exact ⟨⟨_, _, _, rfl⟩, c4, hp4, hs4⟩
  · rintro σ H3 ⟨⟨b, c, d, rfl⟩, c3, hp3, hs3⟩
    refine ⟨_, rfl, p, _, rfl, .inl (SqL.of hs3), _, rfl, z.x, CP, z.dx, _, _, rfl, hp3.ob, PC.cl, PC.n4, pf_names, z.nl, _, rfl, .inl (SqL.of hp3.nl), _, _, rfl, rfl, _, rfl, ?_⟩
    refine ite2 (fun h => absurd (of_decide_eq_true h) (by rw [List.length_map, hsl, hwl]; dsimp only; omega)) (fun _ => ?_)
    refine ⟨_, rfl, p, rfl, ⟨_, SqL.of hs3⟩, fun D hD => ?_⟩
    have w0 := (Wd.refl H3).new (.lst []) hD
    refine lc_list (K := K) (a := p) (xs := trefs sub) (fun i H2 => Wd [] H3 H2 [(D, .lst ((ws.take i).map V.int))]) w0 (fun i H2 _ w => SqL.of (w.old hs3 (by simp))) ?_ ?_
    · rintro i x H4 hx w4
      obtain ⟨a, v, rfl, hv, hm, hv1, hv9⟩ := tokv i _ hx
      have hi2 := (List.getElem?_eq_some_iff.mp hv).1
      obtain ⟨tdx, tl, tc, hta⟩ := (hp3.call0 w4).ts _ hm
      obtain ⟨hn1, hn2⟩ := int_num' (i := v) (by omega) (by omega)
      refine ⟨rfl, _, rfl, a, CT, tdx, _, _, rfl, hta, TC.cl, TC.nt, tk_text _ _ _ _, _, v, rfl, hn1, hn2, _, w4.get 0 rfl, ?_, ?_⟩
      · rw [List.length_map, List.length_take]; exact Nat.lt_of_lt_of_le (m := 100) (by omega) (by decide)
      · rw [take_more hv, List.map_append]
        exact w4.put 0 (.lst ((ws.take i).map V.int ++ [V.int v])) rfl (fun _ q => by cases q)
    · intro H4 w4
      rw [hsl, List.take_length] at w4
      refine ⟨D, _, rfl, .inl ⟨SqL.of (w4.get 0 rfl), fun b hb => ?_⟩⟩
      have c5 : Wd z.mut H H4 [] := c3.fgo ((w4.sub (List.nil_sublist _)).mono fun _ h => nomatch h)
      have c6 := c5.fnew (.tup (ws.map V.int)) hb
      have hp6 := (hp3.call0 w4).new (.tup (ws.map V.int)) hb
      refine ⟨_, rfl, z.x, CP, z.dx, _, rfl, hp6.ob, PC.cl, PC.n5, (by show 7 < 1000; decide), ?_⟩
      rw [pf_putW (b, ws)]
      refine q _ b (c6.fput _ (.inr (by simp [Pz.mut])) hp6.ob (fun _ q => by cases q)) (hp6.setX _ rfl rfl (fun p hp => ?_) hp6.m)
      cases hp
      exact upd_same
end
end Br

namespace Br
open PySem PySem.Spec PyProof.Rows L2
section
variable {P : Program} {w : World} {K : PySem.W.Frag} {mg : Str → Option Value} {base : Heap} {CT CP : Addr}
def awToks (ns : List Str) (t : Int × Int × Int) : List (Str × Str) := [("keyword", "away"), ("name", nmL ns t.1), ("number", num t.2.1), ("keyword", "of"), ("number", num t.2.2), ("sign", ";")]
def spAway (CP CT : Addr) : Sp := fun vs H Q _ => ∃ (z : Pz) (L : List (Addr × (Str × Str))) (s : Pv) (t : Int × Int × Int) (rest : List (Str × Str)), vs = [.ref z.x] ∧ PAt CP CT z L s H ∧ s.names.Nodup ∧ s.names.length ≤ 6 ∧ AwOk s.names.length t ∧ s.aws.length < 20 ∧
  TkAt L s.n (awToks s.names t ++ rest) ∧
  ∀ H' b, Wd z.mut H H' [] → PAt CP CT z L { s with n := s.n + 6, aws := s.aws ++ [(b, t)] } H' → Q .non H'
abbrev sParser_parse_away : Stmt := inClass (topS 27) 11
theorem scParser_parse_away : FnScope ["self", "start", "person", "remainder", "modulus"] ["self"] (defScope sParser_parse_away) := ⟨rfl, rfl, rfl, by decide +kernel, rfl, by decide +kernel, by decide +kernel⟩
theorem me_away (D : MethAt K CP "parse_away" "Parser.parse_away" sParser_parse_away ["self"]) (T : Bi mg) (PC : ParCls K CP) (TC : TokCls K CT) (LC : LexC K mg) (hMA : ∃ t, mg "MAX_AWAYS" = some (.int 20 t))
    (hMO : ∃ a, mg "MODULI" = some (.ref a) ∧ ∀ H : Hp, SqT K H a (([2, 3, 4, 6, 8, 12] : List Int).map V.int))
    (C0 : MeAt P w K mg base 1 CP "peek" ["self"] (spPeek CP CT)) (C1 : MeAt P w K mg base 2 CP "take_word" ["self", "word"] (spTakeW CP CT))
    (C2 : MeAt P w K mg base 2 CP "take" ["self", "kind"] (spTake CP CT)) (C3 : MeAt P w K mg base 1 CP "person" ["self", "token"] (spPerson CP CT)) : MeAt P w K mg base 3 CP "parse_away" ["self"] (spAway CP CT) := D.me fun f fd F => by
  have nd := scParser_parse_away.nd
  have cl_Parser := PC.cl
  obtain ⟨t1, c_NAME⟩ := LC.NAME
  obtain ⟨t3, c_NUMBER⟩ := LC.NUMBER
  obtain ⟨t4, c_END_SIGN⟩ := LC.END_SIGN
  obtain ⟨t2, c_MAX_AWAYS⟩ := hMA
  obtain ⟨a_MODULI, c_MODULI, hmo⟩ := hMO
  obtain ⟨f0, fd0, me_peek, b_peek, G_peek⟩ := C0.ex
  obtain ⟨f1, fd1, me_take_word, b_take_word, G_take_word⟩ := C1.ex
  obtain ⟨f2, fd2, me_take, b_take, G_take⟩ := C2.ex
  obtain ⟨f3, fd3, me_person, b_person, G_person⟩ := C3.ex
  refine F.ok scParser_parse_away (fun vs H Q E h => ?_) (fun cdv A outer s H vs Q E hr h => ?_)
  · obtain ⟨z, L, s, ts, rest, rfl, _⟩ := h; rfl
  obtain ⟨z, L, sv, t, rest, rfl, hp, hnd, h6, ⟨g1, g2, g3, g4, g5⟩, h20, hts, q⟩ := h
  refine ⟨_, (pss_cons (ps_set (i := 1) nd rfl (Or.inl rfl) (pe_meth0 (pv 0) cl_Parser me_peek G_peek (hr.mono (by first | decide | omega)) b_peek .nil pass0))
 (pss_cons (ps_expr (pe_meth (pv 0) cl_Parser me_take_word G_take_word (hr.mono (by first | decide | omega)) b_take_word .nil pass0 (pa_cons pe_str pa_nil)))
 (pss_cons (ps_set (i := 2) nd rfl (Or.inl rfl) (pe_meth (pv 0) cl_Parser me_person G_person (hr.mono (by first | decide | omega)) b_person .nil pass0 (pa_cons (pe_meth (pv 0) cl_Parser me_take G_take (hr.mono (by first | decide | omega)) b_take .nil pass0 (pa_cons (pe_glob (v := .str "name") (by rfl) c_NAME ⟨_, rfl⟩) pa_nil)) pa_nil)))
 (pss_cons (ps_set (i := 3) nd rfl (Or.inl rfl) (pe_meth (pv 0) cl_Parser me_take G_take (hr.mono (by first | decide | omega)) b_take .nil pass0 (pa_cons (pe_glob (v := .str "number") (by rfl) c_NUMBER ⟨_, rfl⟩) pa_nil)))
 (pss_cons (ps_expr (pe_meth (pv 0) cl_Parser me_take_word G_take_word (hr.mono (by first | decide | omega)) b_take_word .nil pass0 (pa_cons pe_str pa_nil)))
 (pss_cons (ps_set (i := 4) nd rfl (Or.inl rfl) (pe_meth (pv 0) cl_Parser me_take G_take (hr.mono (by first | decide | omega)) b_take .nil pass0 (pa_cons (pe_glob (v := .str "number") (by rfl) c_NUMBER ⟨_, rfl⟩) pa_nil)))
 (pss_cons (ps_expr (pe_meth (pv 0) cl_Parser me_take_word G_take_word (hr.mono (by first | decide | omega)) b_take_word .nil pass0 (pa_cons (pe_glob (v := .str ";") (by rfl) c_END_SIGN ⟨_, rfl⟩) pa_nil)))
 (pss_cons (ps_if (pt_cmpR (r := rIn K true) op_notIn_seq (pe_callTy call_int_str (by rfl) T.int (by decide +kernel) (pa_cons (pe_fldK (K := K) rfl (pv 4) rfl) pa_nil)) (pe_glob (v := .ref a_MODULI) (by rfl) c_MODULI rfl) (by rfl))
 pss_never
 (pss_one (ps_if (pt_cmpR op_ge (pe_callTy call_int_str (by rfl) T.int (by decide +kernel) (pa_cons (pe_fldK (K := K) rfl (pv 3) rfl) pa_nil)) (pe_callTy call_int_str (by rfl) T.int (by decide +kernel) (pa_cons (pe_fldK (K := K) rfl (pv 4) rfl) pa_nil)) (nomark _))
 pss_never
 (pss_one (ps_if (pt_cmpR op_eq (pe_callB (r := rLenS K) call_len_seq (by rfl) T.len PySem.boot_len (pa_cons (pe_fldK (K := K) rfl (pv 0) rfl) pa_nil)) (pe_glob (v := .int 20) (by rfl) c_MAX_AWAYS ⟨_, rfl⟩) (nomark _))
 pss_never
 pss_nil)))))
 (pss_one (ps_expr (pe_bmK (K := K) rfl PySem.F.plainAttrs_list PySem.F.slot_list_append PySem.F.type_list_append mt_append (pe_fldK (K := K) rfl (pv 0) rfl) (pa_cons (pe_tup (pa_cons (pv 2) (pa_cons (pe_callTy call_int_str (by rfl) T.int (by decide +kernel) (pa_cons (pe_fldK (K := K) rfl (pv 3) rfl) pa_nil)) (pa_cons (pe_callTy call_int_str (by rfl) T.int (by decide +kernel) (pa_cons (pe_fldK (K := K) rfl (pv 4) rfl) pa_nil)) pa_nil)))) pa_nil)))))))))))), ?_⟩
  have g6 : t.2.2 ≤ 12 := by simp at g5; omega
  have g7 : 2 ≤ t.2.2 := by simp at g5; omega
  obtain ⟨⟨a0, h0⟩, hts1⟩ := hts.cons
  obtain ⟨⟨a1, h1⟩, hts2⟩ := hts1.cons
  obtain ⟨⟨a2, h2⟩, hts3⟩ := hts2.cons
  obtain ⟨⟨a3, h3⟩, hts4⟩ := hts3.cons
  obtain ⟨⟨a4, h4⟩, hts5⟩ := hts4.cons
  obtain ⟨⟨a5, h5⟩, hts6⟩ := hts5.cons
  refine ⟨_, rfl, z.x, z.dx, _, rfl, hp.ob, pf_none (by decide +kernel), z, L, sv, a0, _, rfl, hp, h0, ?_⟩
  refine ⟨_, rfl, z.x, z.dx, _, rfl, hp.ob, pf_none (by decide +kernel), z, L, sv, a0, _, _, rfl, hp, h0, fun H1 c1 hp1 => ?_⟩
  refine ⟨_, rfl, z.x, z.dx, _, rfl, hp1.ob, pf_none (by decide +kernel), _, rfl, z.x, z.dx, _, rfl, hp1.ob, pf_none (by decide +kernel), z, L, _, a1, _, _, rfl, hp1, h1, fun H2 c2 hp2 => ?_⟩
  refine ⟨z, L, _, a1, _, _, t.1.toNat, rfl, hp2, List.mem_of_getElem? h1, hnd, nmL_at g1 g2, ?_⟩
  refine ⟨_, rfl, z.x, z.dx, _, rfl, hp2.ob, pf_none (by decide +kernel), z, L, _, a2, _, _, rfl, hp2, h2, fun H3 c3 hp3 => ?_⟩
  refine ⟨_, rfl, z.x, z.dx, _, rfl, hp3.ob, pf_none (by decide +kernel), z, L, _, a3, _, _, rfl, hp3, h3, fun H4 c4 hp4 => ?_⟩
  refine ⟨_, rfl, z.x, z.dx, _, rfl, hp4.ob, pf_none (by decide +kernel), z, L, _, a4, _, _, rfl, hp4, h4, fun H5 c5 hp5 => ?_⟩
  refine ⟨_, rfl, z.x, z.dx, _, rfl, hp5.ob, pf_none (by decide +kernel), z, L, _, a5, _, _, rfl, hp5, h5, fun H6 c6 hp6 => ?_⟩
  have c7 := ((((c1.fgo c2).fgo c3).fgo c4).fgo c5).fgo c6
  obtain ⟨ndx, nl_, nc, hta2⟩ := hp6.ts _ (List.mem_of_getElem? h2)
  obtain ⟨mdx, ml, mc, hta4⟩ := hp6.ts _ (List.mem_of_getElem? h4)
  obtain ⟨hr1, hr2⟩ := int_num' (i := t.2.1) (by omega) (by omega)
  obtain ⟨hm1, hm2⟩ := int_num' (i := t.2.2) (by omega) (by omega)
  refine ⟨_, rfl, a4, CT, mdx, _, _, rfl, hta4, TC.cl, TC.nt, tk_text _ _ _ _, _, _, rfl, hm1, hm2, a_MODULI, _, rfl, .inr (hmo _), rfl, flat_ints _, _, rfl, ?_⟩
  rw [if_pos rfl, inV_ints, decide_eq_true g5]
  refine ite2 (fun h => absurd h (by decide)) (fun _ => ?_)
  refine ⟨_, rfl, a2, CT, ndx, _, _, rfl, hta2, TC.cl, TC.nt, tk_text _ _ _ _, _, _, rfl, hr1, hr2, _, rfl, a4, CT, mdx, _, _, rfl, hta4, TC.cl, TC.nt, tk_text _ _ _ _, _, _, rfl, hm1, hm2, _, _, rfl, rfl, _, rfl, ?_⟩
  refine ite2 (fun h => absurd (of_decide_eq_true h) (by omega)) (fun _ => ?_)
  refine ⟨_, rfl, z.x, CP, z.dx, _, _, rfl, hp6.ob, PC.cl, PC.n7, pf_aways, z.al, _, rfl, .inl (SqL.of hp6.al), rfl, _, rfl, ?_⟩
  refine ite2 (fun h => absurd (of_decide_eq_true h) (fun e => by injection e with e; unfold arefs at e; rw [List.length_map] at e; dsimp only at e; omega)) (fun _ => ?_)
  have halm : z.al ∈ z.mut := by simp [Pz.mut]
  refine ⟨_, rfl, z.x, CP, z.dx, _, _, rfl, hp6.ob, PC.cl, PC.n7, pf_aways, .inl ⟨rfl, _, SqL.of hp6.al⟩, _, rfl, _, rfl, a2, CT, ndx, _, _, rfl, hta2, TC.cl, TC.nt, tk_text _ _ _ _, _, _, rfl, hr1, hr2, _, rfl, a4, CT, mdx, _, _, rfl, hta4, TC.cl, TC.nt, tk_text _ _ _ _, _, _, rfl, hm1, hm2, (by show 3 ≤ sizeLine; decide), fun b hb => ?_⟩
  have e1 : ((t.1.toNat : Nat) : Int) = t.1 := Int.toNat_of_nonneg g1
  rw [e1]
  have hp7 := hp6.new (.tup (tri t)) hb
  have c8 := c7.fnew (.tup (tri t)) hb
  have hbt : upd H6 b (.tup (tri t)) b = some (.tup (tri t)) := upd_same
  show ∃ a xs, _
  refine ⟨z.al, arefs sv.aws, _, rfl, rfl, hp7.al, ?_, ?_⟩
  · unfold arefs; rw [List.length_map]; exact Nat.lt_of_lt_of_le (m := 100) (by omega) (by decide)
  have e2 : arefs sv.aws ++ [V.ref b] = arefs (sv.aws ++ [(b, t)]) := by simp [arefs]
  rw [e2]
  refine q _ b (c8.fput _ (.inr halm) hp7.al (fun _ q => by cases q)) (hp7.setA _ fun q hq => ?_)
  rcases List.mem_append.mp hq with hq | hq
  · exact hp7.aw q hq
  · rw [List.mem_singleton.mp hq]; exact hbt
/-! ### who makes up -/
def spMakeup (CP CT : Addr) : Sp := fun vs H Q _ => ∃ (z : Pz) (L : List (Addr × (Str × Str))) (s : Pv) (ks : List Int) (rest : List (Str × Str)), vs = [.ref z.x] ∧ PAt CP CT z L s H ∧ s.M = none ∧ s.names.Nodup ∧ s.names.length ≤ 6 ∧ ks ≠ [] ∧ ks.length ≤ 12 ∧
  (∀ k ∈ ks, 0 ≤ k ∧ k < s.names.length) ∧
  TkAt L s.n ((("keyword" : Str), ("makeup" : Str)) :: ((ks.map (nmL s.names)).map (fun t => (("name" : Str), t)) ++ (("sign" : Str), (";" : Str)) :: rest)) ∧
  ∀ H' b ms, Wd z.mut H H' [] → ms.Pairwise (· < ·) → (∀ k : Int, k ∈ ms ↔ k ∈ ks) → PAt CP CT z L { s with n := s.n + 1 + ks.length + 1, M := some (b, ms) } H' → Q .non H'
abbrev sParser_parse_makeup : Stmt := inClass (topS 27) 12
theorem scParser_parse_makeup : FnScope ["self", "start", "persons", "token"] ["self"] (defScope sParser_parse_makeup) := ⟨rfl, rfl, rfl, by decide +kernel, rfl, by decide +kernel, by decide +kernel⟩
theorem me_makeup (D : MethAt K CP "parse_makeup" "Parser.parse_makeup" sParser_parse_makeup ["self"]) (T : Bi mg) (PC : ParCls K CP) (TC : TokCls K CT) (LC : LexC K mg)
    (C0 : MeAt P w K mg base 1 CP "peek" ["self"] (spPeek CP CT)) (C1 : MeAt P w K mg base 2 CP "take_word" ["self", "word"] (spTakeW CP CT))
    (C2 : MeAt P w K mg base 3 CP "take_all" ["self", "kind"] (spTakeA CP CT)) (C3 : MeAt P w K mg base 1 CP "person" ["self", "token"] (spPerson CP CT)) : MeAt P w K mg base 4 CP "parse_makeup" ["self"] (spMakeup CP CT) := D.me fun f fd F => by
  have nd := scParser_parse_makeup.nd
  have cl_Parser := PC.cl
  obtain ⟨t1, c_NAME⟩ := LC.NAME
  obtain ⟨f0, fd0, me_peek, b_peek, G_peek⟩ := C0.ex
  obtain ⟨f1, fd1, me_take_word, b_take_word, G_take_word⟩ := C1.ex
  obtain ⟨f2, fd2, me_take_all, b_take_all, G_take_all⟩ := C2.ex
  obtain ⟨f3, fd3, me_person, b_person, G_person⟩ := C3.ex
  refine F.ok scParser_parse_makeup (fun vs H Q E h => ?_) (fun cdv A outer s H vs Q E hr h => ?_)
  · obtain ⟨z, L, s, ts, rest, rfl, _⟩ := h; rfl
  obtain ⟨z, L, sv, ks, rest, rfl, hp, hM, hnd, h6, hne, h12, hin, hts, q⟩ := h
  refine ⟨_, (pss_cons (ps_set (i := 1) nd rfl (Or.inl rfl) (pe_meth0 (pv 0) cl_Parser me_peek G_peek (hr.mono (by first | decide | omega)) b_peek .nil pass0))
 (pss_cons (ps_expr (pe_meth (pv 0) cl_Parser me_take_word G_take_word (hr.mono (by first | decide | omega)) b_take_word .nil pass0 (pa_cons pe_str pa_nil)))
 (pss_cons (ps_setLc (i := 2) (own := [("token", 3)]) rfl nd rfl rfl (sw_true rfl rfl rfl (by decide +kernel)) (pi_listK (K := K) rfl (pe_meth (pv 0) cl_Parser me_take_all G_take_all (hr.mono (by first | decide | omega)) b_take_all .nil pass0 (pa_cons (pe_glob (v := .str "name") (by rfl) c_NAME ⟨_, rfl⟩) pa_nil))) (blkOk_by (N := ["self", "start", "persons", "token"]) (sc := defScope sParser_parse_makeup) (by decide +kernel)) (fun _ _ _ _ _ => (pg_name (i := 3) nd rfl (Or.inl rfl))) (fun _ _ _ _ _ => pts_nil) (fun _ _ _ _ _ => (pe_meth (pv 0) cl_Parser me_person G_person (hr.mono (by first | decide | omega)) b_person .nil pass0 (pa_cons (pv 3) pa_nil))))
 (pss_cons (ps_if (pt_cmpR op_notN (pe_fldK (K := K) rfl (pv 0) rfl) pe_non (nomark _))
 pss_never
 pss_nil)
 (pss_one (ps_fld (pv 0) (pe_callTy (r := rTupOf K) call_tuple_of (by rfl) T.tuple (by decide +kernel) (pa_cons (pe_callB (r := rSortedSet w) (cr_sortedSet rfl) (by rfl) T.sorted (by decide +kernel) (pa_cons (pe_callTy (r := rSetI K w) (cr_setI rfl) (by rfl) T.set (by decide +kernel) (pa_cons (pv 2) pa_nil)) pa_nil)) pa_nil)) rfl)))))), ?_⟩
  obtain ⟨⟨a0, h0⟩, hts1⟩ := hts.cons
  refine ⟨_, rfl, z.x, z.dx, _, rfl, hp.ob, pf_none (by decide +kernel), z, L, sv, a0, _, rfl, hp, h0, ?_⟩
  refine ⟨_, rfl, z.x, z.dx, _, rfl, hp.ob, pf_none (by decide +kernel), z, L, sv, a0, _, _, rfl, hp, h0, fun H1 c1 hp1 => ?_⟩
  refine ⟨_, rfl, z.x, z.dx, _, rfl, hp1.ob, pf_none (by decide +kernel), z, L, _, _, ks.map (nmL sv.names), rest, rfl, hp1, by decide +kernel, by simpa using hne, by rw [List.length_map]; omega, hts1, fun H2 p sub c2 hp2 hpn hsub hmap hmem => ?_⟩
  have hsl : (trefs sub).length = ks.length := by
    have := congrArg List.length hmap
    rw [List.length_map, List.length_map, List.length_map] at this
    rw [trefs_len]; exact this
  have hlen : (ks.map (nmL sv.names)).length = ks.length := List.length_map ..
  rw [hlen] at hp2
  have tokv : ∀ (i : Nat) (x : V), (trefs sub)[i]? = some x → ∃ a v, x = .ref a ∧ ks[i]? = some v ∧ (a, (("name" : Str), nmL sv.names v)) ∈ L ∧ 0 ≤ v ∧ v < sv.names.length := fun i x hx => by
    obtain ⟨a, t, rfl, ht, hm⟩ := sub_at hmap hx
    rw [List.getElem?_map] at ht
    cases e5 : ks[i]? with
    | none => rw [e5] at ht; cases ht
    | some v =>
      rw [e5] at ht
      have e6 : nmL sv.names v = t := Option.some.inj ht
      exact ⟨a, v, rfl, rfl, by rw [e6]; exact hmem _ hm, (hin v (List.mem_of_getElem? e5)).1, (hin v (List.mem_of_getElem? e5)).2⟩
  have c3 := c1.fgo c2
  refine ⟨p, rfl, ⟨_, SqL.of hsub⟩, fun D hD => ?_⟩
  have w0 := (Wd.refl H2).new (.lst []) hD
  refine lc_list (K := K) (a := p) (xs := trefs sub) (fun i H3 => Wd [] H2 H3 [(D, .lst ((ks.take i).map V.int))]) w0 (fun i H3 _ w => SqL.of (w.old hsub (by simp))) ?_ ?_
  · rintro i x H4 hx w4
    obtain ⟨a, v, rfl, hv, hm, hv1, hv9⟩ := tokv i _ hx
    have hi2 := (List.getElem?_eq_some_iff.mp hv).1
    have hp4 := hp2.call0 w4
    refine ⟨rfl, _, rfl, z.x, z.dx, _, rfl, hp4.ob, pf_none (by decide +kernel), _, rfl, z, L, _, a, _, _, v.toNat, rfl, hp4, hm, hnd, nmL_at hv1 hv9, _, w4.get 0 rfl, ?_, ?_⟩
    · rw [List.length_map, List.length_take]; exact Nat.lt_of_lt_of_le (m := 100) (by omega) (by decide)
    · rw [take_more hv, List.map_append, Int.toNat_of_nonneg hv1]
      exact w4.put 0 (.lst ((ks.take i).map V.int ++ [V.int v])) rfl (fun _ q => by cases q)
  · intro H4 w4
    rw [hsl, List.take_length] at w4
    have hp4 := hp2.call0 w4
    have hw2 : oV sv.M = .non := by rw [hM]; rfl
    have c5 : Wd z.mut H H4 [] := c3.fgo ((w4.sub (List.nil_sublist _)).mono fun _ h => nomatch h)
    refine ⟨_, rfl, z.x, CP, z.dx, _, _, rfl, hp4.ob, PC.cl, PC.n6, pf_makers, rfl, _, rfl, ?_⟩
    dsimp only
    rw [hw2]
    refine ite2 (fun h => absurd h (by simp)) (fun _ => ?_)
    refine ⟨_, rfl, D, ks, rfl, SqL.of (w4.get 0 rfl), by omega, fun sa n hsa hn => ?_⟩
    have c6 := c5.fnew (SetO w sa (fun j => decide (j ∈ ks)) n) hsa
    have hp6 := hp4.new (SetO w sa (fun j => decide (j ∈ ks)) n) hsa
    refine ⟨sa, _, n, rfl, upd_same, by omega, fun ms lp hpw hms hl hlp => ?_⟩
    have c7 := c6.fnew (.lst (ms.map V.int)) hlp
    have hp7 := hp6.new (.lst (ms.map V.int)) hlp
    refine ⟨lp, _, rfl, .inl ⟨SqL.of upd_same, fun b hb => ?_⟩⟩
    have c8 := c7.fnew (.tup (ms.map V.int)) hb
    have hp8 := hp7.new (.tup (ms.map V.int)) hb
    refine ⟨_, rfl, z.x, CP, z.dx, _, rfl, hp8.ob, PC.cl, PC.n6, (by show 7 < 1000; decide), ?_⟩
    rw [pf_putM (b, ms)]
    refine q _ b ms (c8.fput _ (.inr (by simp [Pz.mut])) hp8.ob (fun _ q => by cases q)) hpw (fun k => (hms k).trans ⟨of_decide_eq_true, decide_eq_true⟩) (hp8.setX _ rfl rfl hp8.w (fun p hp => ?_))
    cases hp
    exact upd_same
end
end Br

namespace Br
open PySem PySem.Spec PyProof.Rows L2
theorem asc_unique {α : Type} {R : α → α → Prop} (irr : ∀ a b, R a b → R b a → False) : ∀ {l l' : List α}, l.Pairwise R → l'.Pairwise R → (∀ x, x ∈ l ↔ x ∈ l') → l = l'
  | [], [], _, _, _ => rfl
  | [], b :: l', _, _, h => absurd ((h b).mpr List.mem_cons_self) (by simp)
  | a :: l, [], _, _, h => absurd ((h a).mp List.mem_cons_self) (by simp)
  | a :: l, b :: l', p, p', h => by
    rw [List.pairwise_cons] at p p'
    have e : a = b := by
      by_cases e : a = b
      · exact e
      · have h1 : a ∈ l' := (List.mem_cons.mp ((h a).mp List.mem_cons_self)).resolve_left e
        have h2 : b ∈ l := (List.mem_cons.mp ((h b).mpr List.mem_cons_self)).resolve_left (Ne.symm e)
        exact (irr _ _ (p.1 b h2) (p'.1 a h1)).elim
    subst e
    refine congrArg (a :: ·) (asc_unique irr p.2 p'.2 fun x => ⟨fun hx => ?_, fun hx => ?_⟩)
    · refine (List.mem_cons.mp ((h x).mp (List.mem_cons_of_mem _ hx))).resolve_left fun e => ?_
      subst e
      exact irr _ _ (p.1 _ hx) (p.1 _ hx)
    · refine (List.mem_cons.mp ((h x).mpr (List.mem_cons_of_mem _ hx))).resolve_left fun e => ?_
      subst e
      exact irr _ _ (p'.1 _ hx) (p'.1 _ hx)
theorem lexLt_irr (s t : Int × Int × Int) (h : lexLt s t) (h' : lexLt t s) : False := by
  unfold lexLt at h h'; omega
theorem TkAt.cast {L : List (Addr × (Str × Str))} {n m : Nat} {ts : List (Str × Str)} (h : TkAt L n ts) (e : n = m) : TkAt L m ts := e ▸ h
/-! ### a text's statements -/
inductive Stm where
  | w
  | aw (t : Int × Int × Int)
  | mk (ks : List Int)
def Stm.isW : Stm → Bool
  | .w => true
  | _ => false
def Stm.aw? : Stm → Option (Int × Int × Int)
  | .aw t => some t
  | _ => none
def Stm.mk? : Stm → Option (List Int)
  | .mk ks => some ks
  | _ => none
theorem aw_cons (t : Int × Int × Int) (S : List Stm) : (Stm.aw t :: S).filterMap Stm.aw? = t :: S.filterMap Stm.aw? := rfl
theorem mk_cons (ks : List Int) (S : List Stm) : (Stm.mk ks :: S).filterMap Stm.mk? = ks :: S.filterMap Stm.mk? := rfl
def stmToks (r : Rota) : Stm → List (Str × Str)
  | .w => ("keyword", "weights") :: ((r.weights.map num).map (fun t => (("number" : Str), t)) ++ [(("sign" : Str), (";" : Str))])
  | .aw t => awToks r.names t
  | .mk ks => ("keyword", "makeup") :: ((ks.map (nmL r.names)).map (fun t => (("name" : Str), t)) ++ [(("sign" : Str), (";" : Str))])
structure Spell (r : Rota) (S : List Stm) : Prop where
  w1 : (S.filter Stm.isW).length ≤ 1
  w0 : S.filter Stm.isW = [] → r.weights = List.replicate r.names.length 1
  aw : ∀ t, t ∈ S.filterMap Stm.aw? ↔ t ∈ r.aways
  aw20 : (S.filterMap Stm.aw?).length ≤ 20
  m1 : (S.filterMap Stm.mk?).length ≤ 1
  mks : ∀ ks ∈ S.filterMap Stm.mk?, ks ≠ [] ∧ ks.length ≤ 12 ∧ ∀ k : Int, k ∈ ks ↔ k ∈ r.makers
  m0 : S.filterMap Stm.mk? = [] → r.makers = []
def rotaToks (r : Rota) (S : List Stm) : List (Str × Str) := (("keyword" : Str), ("people" : Str)) :: (r.names.map (fun t => (("name" : Str), t)) ++ (("sign" : Str), (";" : Str)) ::
  ((("keyword" : Str), ("turns" : Str)) :: ((r.turns.map (nmL r.names)).map (fun t => (("name" : Str), t)) ++ (("sign" : Str), (";" : Str)) :: (S.flatMap (stmToks r) ++ [(("end" : Str), ("" : Str))]))))
def l3 (t : Int × Int × Int) : List Int := [t.1, t.2.1, t.2.2]
def tr3 (l : List Int) : Int × Int × Int := (l.getD 0 0, l.getD 1 0, l.getD 2 0)
def atOf (o : Option HO) : Nat := match o with
  | some (.ins _ _ fs) => match fs.lookup ("at" : Str) with
    | some (.int i) => i.toNat
    | _ => 0
  | _ => 0
section
variable {P : Program} {w : World} {K : PySem.W.Frag} {mg : Str → Option Value} {base : Heap} {CT CP : Addr}
def spParse (CP CT : Addr) : Sp := fun vs H Q _ => ∃ (z : Pz) (L : List (Addr × (Str × Str))) (r : Rota) (S : List Stm), vs = [.ref z.x] ∧ PAt CP CT z L ⟨0, [], [], none, none⟩ H ∧ ROk r ∧ Spell r S ∧ TkAt L 0 (rotaToks r S) ∧
  ∀ H' a, Wd z.mut H H' [] → RotaAt H' a r → Q (.ref a) H'
abbrev sParser_parse_rota : Stmt := inClass (topS 27) 13
theorem scParser_parse_rota : FnScope ["self", "turns", "line", "column", "number", "reason", "weights", "makers"] ["self"] (defScope sParser_parse_rota) := ⟨rfl, rfl, rfl, by decide +kernel, rfl, by decide +kernel, by decide +kernel⟩
theorem me_rota (D : MethAt K CP "parse_rota" "Parser.parse_rota" sParser_parse_rota ["self"]) (T : Bi mg) (PC : ParCls K CP) (TC : TokCls K CT) (LC : LexC K mg)
    (C0 : MeAt P w K mg base 1 CP "peek" ["self"] (spPeek CP CT)) (C1 : MeAt P w K mg base 4 CP "parse_people" ["self"] (spPeople CP CT))
    (C2 : MeAt P w K mg base 4 CP "parse_turns" ["self"] (spTurns CP CT)) (C3 : MeAt P w K mg base 4 CP "parse_weights" ["self"] (spWeights CP CT))
    (C4 : MeAt P w K mg base 3 CP "parse_away" ["self"] (spAway CP CT)) (C5 : MeAt P w K mg base 4 CP "parse_makeup" ["self"] (spMakeup CP CT)) : MeAt P w K mg base 5 CP "parse_rota" ["self"] (spParse CP CT) := D.me fun f fd F => by
  have nd := scParser_parse_rota.nd
  have cl_Parser := PC.cl
  obtain ⟨t1, c_END⟩ := LC.END
  obtain ⟨f0, fd0, me_peek, b_peek, G_peek⟩ := C0.ex
  obtain ⟨f1, fd1, me_parse_people, b_parse_people, G_parse_people⟩ := C1.ex
  obtain ⟨f2, fd2, me_parse_turns, b_parse_turns, G_parse_turns⟩ := C2.ex
  obtain ⟨f3, fd3, me_parse_weights, b_parse_weights, G_parse_weights⟩ := C3.ex
  obtain ⟨f4, fd4, me_parse_away, b_parse_away, G_parse_away⟩ := C4.ex
  obtain ⟨f5, fd5, me_parse_makeup, b_parse_makeup, G_parse_makeup⟩ := C5.ex
  refine F.ok scParser_parse_rota (fun vs H Q E h => ?_) (fun cdv A outer s H vs Q E hr h => ?_)
  · obtain ⟨z, L, s, ts, rfl, _⟩ := h; rfl
  obtain ⟨z, L, r, S, rfl, hp, ok, sp, hts, q⟩ := h
  have hu := hr.units
  have hkey : (!decide (V.str "keyword" = V.str "end")) = true := by decide +kernel
  have hwa : ¬ ("away" : Str) = "weights" := by decide +kernel
  have hwm : ¬ ("makeup" : Str) = "weights" := by decide +kernel
  have ham_ : ¬ ("makeup" : Str) = "away" := by decide +kernel
  refine ⟨_, (pss_cons (ps_expr (pe_meth0 (pv 0) cl_Parser me_parse_people G_parse_people (hr.mono (by first | decide | omega)) b_parse_people .nil pass0))
 (pss_cons (ps_set (i := 1) nd rfl (Or.inl rfl) (pe_meth0 (pv 0) cl_Parser me_parse_turns G_parse_turns (hr.mono (by first | decide | omega)) b_parse_turns .nil pass0))
 (pss_cons (ps_while PassesOwn.never (pt_cmpR op_ne (pe_fldK (K := K) rfl (pe_meth0 (pv 0) cl_Parser me_peek G_peek (hr.mono (by first | decide | omega)) b_peek .nil pass0) rfl) (pe_glob (v := .str "end") (by rfl) c_END ⟨_, rfl⟩) (nomark _))
 (pss_one (ps_match (pe_fldK (K := K) rfl (pe_meth0 (pv 0) cl_Parser me_peek G_peek (hr.mono (by first | decide | omega)) b_peek .nil pass0) rfl) (pcs_str (pss_one (ps_expr (pe_meth0 (pv 0) cl_Parser me_parse_weights G_parse_weights (hr.mono (by first | decide | omega)) b_parse_weights .nil pass0))) (pcs_str (pss_one (ps_expr (pe_meth0 (pv 0) cl_Parser me_parse_away G_parse_away (hr.mono (by first | decide | omega)) b_parse_away .nil pass0))) (pcs_str (pss_one (ps_expr (pe_meth0 (pv 0) cl_Parser me_parse_makeup G_parse_makeup (hr.mono (by first | decide | omega)) b_parse_makeup .nil pass0))) (pcs_any pss_never)))))))
 (pss_cons (ps_if (pt_cmpR (r := rNeD K) (op_neD hu) (pe_fldK (K := K) rfl (pv 0) rfl) (pe_lst pa_nil) (nomark _))
 pss_never
 pss_nil)
 (C8.pss_cut (ps_set (i := 6) nd rfl (Or.inl rfl) (pe_ifExp (pt_cmpR op_notN (pe_fldK (K := K) rfl (pv 0) rfl) pe_non (nomark _)) (pe_fldK (K := K) rfl (pv 0) rfl) (pe_op (r := rRepA K) op_repA (pe_tup (pa_cons pe_int pa_nil)) (pe_callB (r := rLenS K) call_len_seq (by rfl) T.len PySem.boot_len (pa_cons (pe_fldK (K := K) rfl (pv 0) rfl) pa_nil)))))
 (C8.pss_cut (ps_set (i := 7) nd rfl (Or.inl rfl) (pe_ifExp (pt_cmpR op_notN (pe_fldK (K := K) rfl (pv 0) rfl) pe_non (nomark _)) (pe_fldK (K := K) rfl (pv 0) rfl) (pe_tup pa_nil)))
 (pss_one (ps_ret (pe_tup (pa_cons (pe_callTy (r := rTupOf K) call_tuple_of (by rfl) T.tuple (by decide +kernel) (pa_cons (pe_fldK (K := K) rfl (pv 0) rfl) pa_nil)) (pa_cons (pv 1) (pa_cons (pv 6) (pa_cons (pe_callTy (r := rTupOf K) call_tuple_of (by rfl) T.tuple (by decide +kernel) (pa_cons (pe_callB (r := rSortedT K P w) (cr_sortedT rfl) (by rfl) T.sorted (by decide +kernel) (pa_cons (pe_callTy (r := rSetOfT K P w) (cr_setOfT rfl hu) (by rfl) T.set (by decide +kernel) (pa_cons (pe_fldK (K := K) rfl (pv 0) rfl) pa_nil)) pa_nil)) pa_nil)) (pa_cons (pv 7) pa_nil)))))))))))))), ?_⟩
  have n1 := ok.n1
  have n6 := ok.n6
  have hnn : r.names ≠ [] := fun e => by rw [e] at n1; simp at n1
  have htn : r.turns ≠ [] := fun e => by have := ok.tall 0 (by omega); rw [e] at this; simp at this
  have hwn : r.weights ≠ [] := fun e => by have := ok.wl; rw [e] at this; simp at this; omega
  refine ⟨_, rfl, z.x, z.dx, _, rfl, hp.ob, pf_none (by decide +kernel), z, L, _, r.names, _, rfl, hp, rfl, hnn, n6, ok.nd, hts, fun H1 c1 hp1 => ?_⟩
  have hts1 : TkAt L (0 + 1 + r.names.length + 1) _ := hts.cons.2.app.cons.2.cast (by rw [List.length_map])
  refine ⟨_, rfl, z.x, z.dx, _, rfl, hp1.ob, pf_none (by decide +kernel), z, L, _, r.turns, _, rfl, hp1, ok.nd, n6, htn, ok.t12, ok.t0, ok.tall, hts1, fun H2 tn c2 hp2 htu => ?_⟩
  have hts2 : TkAt L (0 + 1 + r.names.length + 1 + 1 + r.turns.length + 1) _ := hts1.cons.2.app.cons.2.cast (by rw [List.length_map, List.length_map])
  refine while_by (fun σ H' => σ = [some (.ref z.x), some (.ref tn), none, none, none, none, none, none] ∧ ∃ (s : Pv) (S1 S2 : List Stm), Wd z.mut H H' [] ∧ PAt CP CT z L s H' ∧ H' tn = some (.tup (r.turns.map V.int)) ∧ S1 ++ S2 = S ∧ s.names = r.names ∧
      TkAt L s.n (S2.flatMap (stmToks r) ++ [(("end" : Str), ("" : Str))]) ∧ s.aws.map Prod.snd = S1.filterMap Stm.aw? ∧
      ((s.W = none ∧ S1.filter Stm.isW = []) ∨ ((∃ b, s.W = some (b, r.weights)) ∧ S1.filter Stm.isW ≠ [])) ∧ ((s.M = none ∧ S1.filterMap Stm.mk? = []) ∨ ((∃ b, s.M = some (b, r.makers)) ∧ S1.filterMap Stm.mk? ≠ []))) (fun _ H' => L.length - atOf (H' z.x))
    ⟨rfl, _, [], S, c1.fgo c2, hp2, htu, rfl, rfl, hts2, rfl, .inl ⟨rfl, rfl⟩, .inl ⟨rfl, rfl⟩⟩ ?_ ?_
  · rintro σ H3 ⟨rfl, s3, S1, S2, c3, hp3, htu3, hS, hnm, hts3, haw3, hW3, hM3⟩
    have hat : atOf (H3 z.x) = s3.n := by
      rw [hp3.ob]
      unfold atOf
      simp only [pf_at]; rfl
    have nd1 := hp3.ne
    cases S2 with
    | nil =>
      rw [List.append_nil] at hS
      subst hS
      obtain ⟨⟨a0, h0⟩, _⟩ := hts3.cons
      obtain ⟨tdx, tl, tc, hta⟩ := hp3.ts _ (List.mem_of_getElem? h0)
      refine ⟨_, rfl, z.x, z.dx, _, rfl, hp3.ob, pf_none (by decide +kernel), z, L, s3, a0, _, rfl, hp3, h0, a0, CT, tdx, _, _, rfl, hta, TC.cl, TC.nk, tk_kind _ _ _ _, rfl, _, rfl, ?_⟩
      refine ite2 (fun h => absurd h (by simp)) (fun _ => ?_)
      refine ⟨_, rfl, z.x, CP, z.dx, _, _, rfl, hp3.ob, PC.cl, PC.n3, pf_faults, (by show 0 ≤ sizeLine; decide), fun e he => ?_⟩
      have c4 := c3.fnew (.lst []) he
      have hp4 := hp3.new (.lst []) he
      have htu4 : upd H3 e (.lst []) tn = some (.tup (r.turns.map V.int)) := by rw [upd_ne (ne_of_none htu3 he)]; exact htu3
      have hee : upd H3 e (.lst []) e = some (.lst []) := upd_same
      generalize upd H3 e (.lst []) = H4 at *
      refine ⟨.list [], .list [], .lst (SqL.of hp4.fl) .nil, .lst (SqL.of hee) .nil, rfl, rfl, _, rfl, ?_⟩
      rw [eqv_nil]
      refine ite2 (fun h => absurd h (by decide)) (fun _ => ?_)
      refine ⟨fun σ H' => ∃ aw, σ = [some (.ref z.x), some (.ref tn), none, none, none, none, some (.ref aw), none] ∧ Wd z.mut H H' [] ∧ PAt CP CT z L s3 H' ∧ H' tn = some (.tup (r.turns.map V.int)) ∧ H' aw = some (.tup (r.weights.map V.int)), ?_, ?_⟩
      · refine ⟨_, rfl, z.x, CP, z.dx, _, _, rfl, hp4.ob, PC.cl, PC.n5, pf_weights, rfl, _, rfl, ?_⟩
        rcases hW3 with ⟨hW, hf⟩ | ⟨⟨b, hW⟩, hf⟩
        · have hw2 : oV s3.W = .non := by rw [hW]; rfl
          rw [hw2]
          refine ite2 (fun h => absurd h (by simp)) (fun _ => ?_)
          have hr1 := sp.w0 hf
          refine ⟨(by show 1 ≤ sizeLine; decide), fun tp htp => ?_⟩
          have hp5 := hp4.new (.tup [V.int 1]) htp
          have c5 := c4.fnew (.tup [V.int 1]) htp
          have htu5 : upd H4 tp (.tup [V.int 1]) tn = some (.tup (r.turns.map V.int)) := by rw [upd_ne (ne_of_none htu4 htp)]; exact htu4
          refine ⟨_, rfl, z.x, CP, z.dx, _, _, rfl, hp5.ob, PC.cl, PC.n4, pf_names, z.nl, _, rfl, .inl (SqL.of hp5.nl), tp, _, [V.int 1], rfl, rfl, SqT.of upd_same, by simp, ?_, ?_, by simp, fun hk => ?_, fun hk p hpn => ?_⟩
          · rw [List.length_map, hnm]; omega
          · rw [List.length_map, hnm]; omega
          · rw [List.length_map, hnm] at hk
            refine ⟨tp, rfl, c5, hp5, htu5, ?_⟩
            rw [hr1, show r.names.length = 1 by omega]
            exact upd_same
          · refine ⟨p, rfl, c5.fnew _ hpn, hp5.new _ hpn, by rw [upd_ne (ne_of_none htu5 hpn)]; exact htu5, ?_⟩
            rw [upd_same, hr1, List.length_map, hnm, Int.toNat_natCast]
            have e5 : ∀ n : Nat, (List.replicate n [V.int 1]).flatten = (List.replicate n (1 : Int)).map V.int := fun n => by
              induction n with
              | zero => rfl
              | succ n ih => rw [List.replicate_succ, List.flatten_cons, ih, List.replicate_succ]; rfl
            rw [e5]
        · have hw2 : oV s3.W = .ref b := by rw [hW]; rfl
          rw [hw2]
          refine ite2 (fun _ => ?_) (fun h => absurd (by simp) h)
          refine ⟨_, rfl, z.x, CP, z.dx, _, _, rfl, hp4.ob, PC.cl, PC.n5, pf_weights, ?_⟩
          exact ⟨b, by rw [hw2]; rfl, c4, hp4, htu4, hp4.w _ hW⟩
      · rintro σ H5 ⟨aw, rfl, c5, hp5, htu5, haw5⟩
        refine ⟨fun σ H' => ∃ am, σ = [some (.ref z.x), some (.ref tn), none, none, none, none, some (.ref aw), some (.ref am)] ∧ Wd z.mut H H' [] ∧ PAt CP CT z L s3 H' ∧ H' tn = some (.tup (r.turns.map V.int)) ∧ H' aw = some (.tup (r.weights.map V.int)) ∧ H' am = some (.tup (r.makers.map V.int)), ?_, ?_⟩
        · refine ⟨_, rfl, z.x, CP, z.dx, _, _, rfl, hp5.ob, PC.cl, PC.n6, pf_makers, rfl, _, rfl, ?_⟩
          rcases hM3 with ⟨hM, hf⟩ | ⟨⟨b, hM⟩, hf⟩
          · have hw2 : oV s3.M = .non := by rw [hM]; rfl
            rw [hw2]
            refine ite2 (fun h => absurd h (by simp)) (fun _ => ?_)
            refine ⟨(by show 0 ≤ sizeLine; decide), fun tp htp => ⟨tp, rfl, c5.fnew _ htp, hp5.new _ htp, by rw [upd_ne (ne_of_none htu5 htp)]; exact htu5, by rw [upd_ne (ne_of_none haw5 htp)]; exact haw5, ?_⟩⟩
            rw [upd_same, sp.m0 hf]; rfl
          · have hw2 : oV s3.M = .ref b := by rw [hM]; rfl
            rw [hw2]
            refine ite2 (fun _ => ?_) (fun h => absurd (by simp) h)
            refine ⟨_, rfl, z.x, CP, z.dx, _, _, rfl, hp5.ob, PC.cl, PC.n6, pf_makers, ?_⟩
            exact ⟨b, by rw [hw2]; rfl, c5, hp5, htu5, haw5, hp5.m _ hM⟩
        · rintro σ H6 ⟨am, rfl, c6, hp6, htu6, haw6, ham6⟩
          refine ⟨_, rfl, z.x, CP, z.dx, _, _, rfl, hp6.ob, PC.cl, PC.n4, pf_names, z.nl, _, rfl, .inl ⟨SqL.of hp6.nl, fun an han => ?_⟩⟩
          have w1 := (Wd.refl H6).new (.tup (s3.names.map V.str)) han
          have hp7 := hp6.call0 w1
          have hawl : s3.aws.length ≤ 20 := by
            have h2 := congrArg List.length haw3
            rw [List.length_map] at h2
            have := sp.aw20
            omega
          refine ⟨_, rfl, _, rfl, _, rfl, z.x, CP, z.dx, _, _, rfl, hp7.ob, PC.cl, PC.n7, pf_aways, z.al, s3.aws.map (fun q => (q.1, l3 q.2)), rfl, ?_, ?_, ?_, fun sa L1 hsa hsub hcov => ?_⟩
          · have e : (s3.aws.map (fun q => (q.1, l3 q.2))).map (fun p => V.ref p.1) = arefs s3.aws := by rw [List.map_map]; rfl
            rw [e]; exact SqL.of hp7.al
          · intro p hp
            obtain ⟨g, hg, rfl⟩ := List.mem_map.mp hp
            exact SqT.of (hp7.aw g hg)
          · rw [List.length_map]; omega
          have w2 := w1.new (SetTO P w sa L1) hsa
          have hp8 := hp6.call0 w2
          have hL1 : ∀ p ∈ L1, ∃ g ∈ s3.aws, p = (g.1, l3 g.2) := fun p hp => by
            obtain ⟨g, hg, e⟩ := List.mem_map.mp (hsub p hp)
            exact ⟨g, hg, e.symm⟩
          have hin : ∀ g ∈ s3.aws, g.2 ∈ r.aways := fun g hg => (sp.aw g.2).mp (by rw [← haw3]; exact List.mem_map.mpr ⟨g, hg, rfl⟩)
          refine ⟨sa, L1, 3, 13, rfl, w2.get 0 rfl, ?_, by decide, ?_, fun L2 lp hperm hnd _ hpw hlp => ?_⟩
          · intro p hp
            obtain ⟨g, hg, rfl⟩ := hL1 p hp
            exact SqT.of (hp8.aw g hg)
          · intro p hp
            obtain ⟨g, hg, rfl⟩ := hL1 p hp
            refine ⟨rfl, fun x hx => ?_⟩
            obtain ⟨g1, g2, g3, g4, g5⟩ := ok.a0 _ (hin g hg)
            have g6 : g.2.2.2 ≤ 12 := by simp at g5; omega
            simp only [l3, List.mem_cons, List.not_mem_nil, or_false] at hx
            rcases hx with rfl | rfl | rfl <;> omega
          have w3 := w2.new (.lst (L2.map fun q => V.ref q.1)) hlp
          have hL2 : ∀ p ∈ L2, ∃ g ∈ s3.aws, p = (g.1, l3 g.2) := fun p hp => hL1 p (hperm.mem_iff.mp hp)
          refine ⟨lp, _, rfl, .inl ⟨SqL.of (w3.get 0 rfl), fun aa haa => ?_⟩⟩
          have w4 := w3.new (.tup (L2.map fun q => V.ref q.1)) haa
          refine ⟨_, rfl, (by show 5 ≤ sizeLine; decide), fun a ha => ?_⟩
          have w5 := w4.new (.tup [V.ref an, V.ref tn, V.ref aw, V.ref aa, V.ref am]) ha
          have c7 : Wd z.mut H _ [] := c6.fgo ((w5.sub (List.nil_sublist _)).mono fun _ h => nomatch h)
          have hp9 := hp6.call0 w5
          have e3 : ∀ t : Int × Int × Int, tr3 (l3 t) = t := fun t => rfl
          have hsrt : L2.map (fun q => tr3 q.2) = r.aways := by
            refine asc_unique lexLt_irr ?_ ok.asc fun t => ?_
            · rw [List.pairwise_map]
              have hnd2 : (L2.map (·.2)).Nodup := hnd
              have hnd3 : L2.Pairwise fun p q => p.2 ≠ q.2 := List.pairwise_map.mp hnd2
              refine (hpw.and hnd3).imp_of_mem fun {p q} hp hq ⟨h, ne⟩ => ?_
              obtain ⟨g, hg, rfl⟩ := hL2 p hp
              obtain ⟨k, hk, rfl⟩ := hL2 q hq
              exact lex_of_code (n := r.names.length) (by omega) (ok.a0 _ (hin g hg)) (ok.a0 _ (hin k hk)) h (fun e => ne (congrArg l3 e))
            · constructor
              · intro ht
                obtain ⟨p, hp, rfl⟩ := List.mem_map.mp ht
                obtain ⟨g, hg, rfl⟩ := hL2 p hp
                exact hin g hg
              · intro ht
                have h1 := (sp.aw t).mpr ht
                rw [← haw3] at h1
                obtain ⟨g, hg, rfl⟩ := List.mem_map.mp h1
                obtain ⟨p, hp, e⟩ := List.mem_map.mp (hcov (g.1, l3 g.2) (List.mem_map.mpr ⟨g, hg, rfl⟩))
                exact List.mem_map.mpr ⟨p, hperm.mem_iff.mpr hp, by rw [e]; rfl⟩
          refine q _ a c7 ⟨an, tn, aw, aa, am, L2.map (·.1), w5.get 0 rfl, ?_, w5.tups _ _ htu6, w5.tups _ _ haw6, ?_, ?_, w5.tups _ _ ham6⟩
          · rw [← hnm]; exact w5.get 4 rfl
          · rw [List.map_map]; exact w5.get 1 rfl
          · rw [← hsrt]
            have e1 : L2.map (·.1) = (L2.map (fun q => (q.1, tr3 q.2))).map (·.1) := by rw [List.map_map]; rfl
            have e2 : L2.map (fun q => tr3 q.2) = (L2.map (fun q => (q.1, tr3 q.2))).map (·.2) := by rw [List.map_map]; rfl
            rw [e1, e2]
            refine AwAt.of fun p hp => ?_
            obtain ⟨p', hp', rfl⟩ := List.mem_map.mp hp
            obtain ⟨g, hg, rfl⟩ := hL2 p' hp'
            exact hp9.aw g hg
    | cons st S2 =>
      rw [List.flatMap_cons, List.append_assoc] at hts3
      have e1 : (S1 ++ [st]) ++ S2 = S := by rw [List.append_assoc]; exact hS
      cases st with
      | w =>
        have e2 : stmToks r .w ++ (S2.flatMap (stmToks r) ++ [(("end" : Str), ("" : Str))]) = (("keyword" : Str), ("weights" : Str)) :: ((r.weights.map num).map (fun t => (("number" : Str), t)) ++ (("sign" : Str), (";" : Str)) :: (S2.flatMap (stmToks r) ++ [(("end" : Str), ("" : Str))])) := by
          show _ :: ((_ ++ _) ++ _) = _
          rw [List.append_assoc]; rfl
        rw [e2] at hts3
        obtain ⟨⟨a0, h0⟩, htsr⟩ := hts3.cons
        have htsn : TkAt L (s3.n + 1 + r.weights.length + 1) _ := htsr.app.cons.2.cast (by rw [List.length_map, List.length_map])
        obtain ⟨tdx, tl, tc, hta⟩ := hp3.ts _ (List.mem_of_getElem? h0)
        have hlt := (List.getElem?_eq_some_iff.mp h0).1
        have hW0 : s3.W = none ∧ S1.filter Stm.isW = [] := hW3.resolve_right fun ⟨_, h⟩ => by
          have := sp.w1
          rw [← hS, List.filter_append, List.length_append, List.filter_cons_of_pos (by rfl), List.length_cons] at this
          have h3 := List.length_pos_iff.mpr h
          omega
        refine ⟨_, rfl, z.x, z.dx, _, rfl, hp3.ob, pf_none (by decide +kernel), z, L, s3, a0, _, rfl, hp3, h0, a0, CT, tdx, _, _, rfl, hta, TC.cl, TC.nk, tk_kind _ _ _ _, rfl, _, rfl, ?_⟩
        refine ite2 (fun _ => ?_) (fun h => absurd hkey h)
        refine ⟨_, rfl, z.x, z.dx, _, rfl, hp3.ob, pf_none (by decide +kernel), z, L, s3, a0, _, rfl, hp3, h0, a0, CT, tdx, _, _, rfl, hta, TC.cl, TC.nt, tk_text _ _ _ _, _, rfl, ?_⟩
        dsimp only
        rw [if_pos rfl]
        refine ⟨_, rfl, z.x, z.dx, _, rfl, hp3.ob, pf_none (by decide +kernel), z, L, s3, r.weights, _, rfl, hp3, hW0.1, by rw [hnm]; exact ok.wl, by rw [hnm]; exact n6, hwn, ok.w0, hts3, fun H4 b c4 hp4 => ?_⟩
        refine ⟨⟨rfl, _, S1 ++ [.w], S2, c3.fgo c4, hp4, c4.tups _ _ htu3, e1, hnm, htsn, ?_, .inr ⟨⟨b, rfl⟩, ?_⟩, ?_⟩, ?_⟩
        · rw [List.filterMap_append, haw3]; simp [Stm.aw?]
        · simp [Stm.isW]
        · rw [List.filterMap_append]; simpa [Stm.mk?] using hM3
        · have e3 : atOf (H4 z.x) = s3.n + 1 + r.weights.length + 1 := by
            rw [hp4.ob]; unfold atOf; simp only [pf_at]; rfl
          show L.length - atOf (H4 z.x) < L.length - atOf (H3 z.x)
          rw [e3, hat]; omega
      | aw t =>
        obtain ⟨⟨a0, h0⟩, _⟩ := hts3.cons
        have htsn : TkAt L (s3.n + 6) _ := hts3.app
        obtain ⟨tdx, tl, tc, hta⟩ := hp3.ts _ (List.mem_of_getElem? h0)
        have hlt := (List.getElem?_eq_some_iff.mp h0).1
        have hal : s3.aws.length < 20 := by
          have h1 := sp.aw20
          have h2 := congrArg List.length haw3
          rw [← hS, List.filterMap_append, List.length_append, aw_cons, List.length_cons] at h1
          rw [List.length_map] at h2
          omega
        have htr : t ∈ r.aways := (sp.aw t).mp (by rw [← hS, List.filterMap_append]; exact List.mem_append_right _ (by rw [aw_cons]; exact List.mem_cons_self))
        refine ⟨_, rfl, z.x, z.dx, _, rfl, hp3.ob, pf_none (by decide +kernel), z, L, s3, a0, _, rfl, hp3, h0, a0, CT, tdx, _, _, rfl, hta, TC.cl, TC.nk, tk_kind _ _ _ _, rfl, _, rfl, ?_⟩
        refine ite2 (fun _ => ?_) (fun h => absurd hkey h)
        refine ⟨_, rfl, z.x, z.dx, _, rfl, hp3.ob, pf_none (by decide +kernel), z, L, s3, a0, _, rfl, hp3, h0, a0, CT, tdx, _, _, rfl, hta, TC.cl, TC.nt, tk_text _ _ _ _, _, rfl, ?_⟩
        dsimp only
        rw [if_neg hwa, if_pos rfl]
        refine ⟨_, rfl, z.x, z.dx, _, rfl, hp3.ob, pf_none (by decide +kernel), z, L, s3, t, _, rfl, hp3, by rw [hnm]; exact ok.nd, by rw [hnm]; exact n6, by rw [hnm]; exact ok.a0 t htr, hal, by rw [hnm]; exact hts3, fun H4 b c4 hp4 => ?_⟩
        refine ⟨⟨rfl, _, S1 ++ [.aw t], S2, c3.fgo c4, hp4, c4.tups _ _ htu3, e1, hnm, htsn, ?_, ?_, ?_⟩, ?_⟩
        · rw [List.filterMap_append, List.map_append, haw3]; rfl
        · rw [List.filter_append]; simpa [Stm.isW] using hW3
        · rw [List.filterMap_append]; simpa [Stm.mk?] using hM3
        · have e3 : atOf (H4 z.x) = s3.n + 6 := by
            rw [hp4.ob]; unfold atOf; simp only [pf_at]; rfl
          show L.length - atOf (H4 z.x) < L.length - atOf (H3 z.x)
          rw [e3, hat]; omega
      | mk ks =>
        have e2 : stmToks r (.mk ks) ++ (S2.flatMap (stmToks r) ++ [(("end" : Str), ("" : Str))]) = (("keyword" : Str), ("makeup" : Str)) :: ((ks.map (nmL r.names)).map (fun t => (("name" : Str), t)) ++ (("sign" : Str), (";" : Str)) :: (S2.flatMap (stmToks r) ++ [(("end" : Str), ("" : Str))])) := by
          show _ :: ((_ ++ _) ++ _) = _
          rw [List.append_assoc]; rfl
        rw [e2] at hts3
        obtain ⟨⟨a0, h0⟩, htsr⟩ := hts3.cons
        have htsn : TkAt L (s3.n + 1 + ks.length + 1) _ := htsr.app.cons.2.cast (by rw [List.length_map, List.length_map])
        obtain ⟨tdx, tl, tc, hta⟩ := hp3.ts _ (List.mem_of_getElem? h0)
        have hlt := (List.getElem?_eq_some_iff.mp h0).1
        obtain ⟨k1, k2, k3⟩ := sp.mks ks (by rw [← hS, List.filterMap_append]; exact List.mem_append_right _ (by rw [mk_cons]; exact List.mem_cons_self))
        have hM0 : s3.M = none ∧ S1.filterMap Stm.mk? = [] := hM3.resolve_right fun ⟨_, h⟩ => by
          have := sp.m1
          rw [← hS, List.filterMap_append, List.length_append, mk_cons, List.length_cons] at this
          have h3 := List.length_pos_iff.mpr h
          omega
        refine ⟨_, rfl, z.x, z.dx, _, rfl, hp3.ob, pf_none (by decide +kernel), z, L, s3, a0, _, rfl, hp3, h0, a0, CT, tdx, _, _, rfl, hta, TC.cl, TC.nk, tk_kind _ _ _ _, rfl, _, rfl, ?_⟩
        refine ite2 (fun _ => ?_) (fun h => absurd hkey h)
        refine ⟨_, rfl, z.x, z.dx, _, rfl, hp3.ob, pf_none (by decide +kernel), z, L, s3, a0, _, rfl, hp3, h0, a0, CT, tdx, _, _, rfl, hta, TC.cl, TC.nt, tk_text _ _ _ _, _, rfl, ?_⟩
        dsimp only
        rw [if_neg hwm, if_neg ham_, if_pos rfl]
        refine ⟨_, rfl, z.x, z.dx, _, rfl, hp3.ob, pf_none (by decide +kernel), z, L, s3, ks, _, rfl, hp3, hM0.1, by rw [hnm]; exact ok.nd, by rw [hnm]; exact n6, k1, k2, fun k hk => by rw [hnm]; exact ok.m0 k ((k3 k).mp hk), by rw [hnm]; exact hts3, fun H4 b ms c4 hpw hms hp4 => ?_⟩
        have hmm : ms = r.makers := asc_unique (fun a b (h : a < b) (h' : b < a) => by omega) hpw ok.masc fun k => (hms k).trans (k3 k)
        subst hmm
        refine ⟨⟨rfl, _, S1 ++ [.mk ks], S2, c3.fgo c4, hp4, c4.tups _ _ htu3, e1, hnm, htsn, ?_, ?_, .inr ⟨⟨b, rfl⟩, ?_⟩⟩, ?_⟩
        · rw [List.filterMap_append, haw3]; simp [Stm.aw?]
        · rw [List.filter_append]; simpa [Stm.isW] using hW3
        · rw [List.filterMap_append]; simp [Stm.mk?]
        · have e3 : atOf (H4 z.x) = s3.n + 1 + ks.length + 1 := by
            rw [hp4.ob]; unfold atOf; simp only [pf_at]; rfl
          show L.length - atOf (H4 z.x) < L.length - atOf (H3 z.x)
          rw [e3, hat]; omega
  · intro σ H2 Q1 Q2 hm hc
    obtain ⟨v0, e0, a, dx', fs, ea, eo, en, z', L', s', a', t', e1, e2, e3, a'', C'', dx'', fs'', v'', g1, g2, g3, g4, g5, e5, b, hb, hc⟩ := hc
    exact ⟨v0, e0, a, dx', fs, ea, eo, en, z', L', s', a', t', e1, e2, e3, a'', C'', dx'', fs'', v'', g1, g2, g3, g4, g5, e5, b, hb, hm _ _ hc⟩
/-! ### load -/
/-- a text that spells a rota -/
structure Says (z : Str) (r : Rota) (S : List Stm) : Prop where
  ok : ROk r
  sp : Spell r S
  len : z.length + 2 ≤ sizeLine
  lex : ∃ tss : List (List (Str × Str)), (Txt.split z "\n").length = tss.length ∧ (∀ (i : Nat) row ts, (Txt.split z "\n")[i]? = some row → tss[i]? = some ts → row.length ≤ sizeLine ∧ LexR (TL.tl row) ts) ∧ tss.flatten.length < 1000 ∧ (Txt.split z "\n").length ≤ sizeLine ∧
    tss.flatten ++ [(("end" : Str), ("" : Str))] = rotaToks r S
def spLoad : Sp := fun vs H Q _ => ∃ (z : Str) (r : Rota) (S : List Stm), vs = [.str z] ∧ Says z r S ∧ ∀ H' a, Wd [] H H' [] → RotaAt H' a r → Q (.ref a) H'
abbrev sload : Stmt := topS 28
theorem scload : FnScope ["rota"] ["rota"] (defScope sload) := ⟨rfl, rfl, rfl, by decide +kernel, rfl, by decide +kernel, by decide +kernel⟩
theorem cal_load (D : DefAt K mg "load" sload ["rota"]) (PC : ParCls K CP) (cn : CT ≠ CP) (C1 : Cal P w K mg base 4 "tokenize" ["source"] (spTokenize CT)) (CM : MkAt P w K mg base 1 "Parser" CP ["self", "tokens"] (spParI CP CT))
    (C2 : MeAt P w K mg base 5 CP "parse_rota" ["self"] (spParse CP CT)) : Cal P w K mg base 6 "load" ["rota"] spLoad := D.cal fun f fd F => by
  have nd := scload.nd
  have cl_Parser := PC.cl
  obtain ⟨f1, fd1, m_tokenize, kp_tokenize, b_tokenize, G_tokenize⟩ := C1.ex
  obtain ⟨f2, fd2, mC_Parser, Mk_Parser, b_Parser, G_Parser⟩ := CM.ex
  obtain ⟨f3, fd3, me_parse_rota, b_parse_rota, G_parse_rota⟩ := C2.ex
  refine F.ok scload (fun vs H Q E h => ?_) (fun cdv A outer s H vs Q E hr h => ?_)
  · obtain ⟨z, r, S, rfl, _⟩ := h; rfl
  obtain ⟨z, r, S, rfl, ⟨ok, sp, hlen, tss, e1, e2, e3, e4, e5⟩, q⟩ := h
  refine ⟨_, (pss_one (ps_ret (pe_meth0 (pe_make Mk_Parser G_Parser (hr.mono (by first | decide | omega)) (by rfl) mC_Parser b_Parser .nil pass0 (pa_cons (pe_call G_tokenize (hr.mono (by first | decide | omega)) (by rfl) m_tokenize kp_tokenize b_tokenize .nil pass0 (pa_cons (pv 0) pa_nil)) pa_nil)) cl_Parser me_parse_rota G_parse_rota (hr.mono (by first | decide | omega)) b_parse_rota .nil pass0))), ?_⟩
  refine ⟨_, rfl, z, tss, rfl, hlen, e1, e2, e3, e4, fun p L H1 w1 hT hL => ?_⟩
  intro x dx hx hd ne
  have w2 := w1.make CP hx hd ne
  have hT2 : Tks CT (upd (upd H1 dx (.own x)) x (.ins CP dx [])) L := (hT.new hd).new (by rw [upd_ne ne.symm]; exact hx)
  refine ⟨x, dx, p, L, rfl, upd_same, w2.get 2 rfl, hT2, cn, fun z H2 hz c2 hp hnl hal => ⟨rfl, ?_⟩⟩
  have hzx : z.x = x := hz
  have hob := hp.ob
  rw [hz] at hob
  have hnl0 : z.nl ≠ x := fun e => by rw [e, upd_same] at hnl; cases hnl
  refine ⟨x, _, _, rfl, hob, pf_none (by decide +kernel), z, L, r, S, by rw [hz]; rfl, hp, ok, sp, (show TkAt L 0 _ from (by unfold TkAt; rw [List.drop_zero]; exact hL.trans e5)), fun H3 a c3 hR => q H3 a ?_ hR⟩
  refine ⟨fun b o _ e => ?_, fun b xs e => c3.tups _ _ (c2.tups _ _ (w2.tups _ _ e)), fun _ h => (nomatch h), fun _ h => (nomatch h), List.nodup_nil, fun p e => w2.free p (c2.free p (c3.free p e))⟩
  have e1 := w1.base b o (by simp) e
  have e2' := w2.base b o (by simp) e
  have bx : b ≠ x := ne_of_none e1 hx
  have bn : b ≠ z.nl := ne_of_none e2' hnl
  have ba : b ≠ z.al := ne_of_none e2' hal
  refine c3.base b o ?_ (c2.base b o (by simpa using bx) e2')
  simp only [Pz.mut, List.mem_cons, List.not_mem_nil, or_false, not_or, hz]
  exact ⟨bx, bn, ba⟩
end
end Br

namespace Br
open PySem PySem.Spec PyProof.Rows L2
/-! ### the formatter -/
theorem lineS_head {w w' : Str} {ws : List Str} (hne : ws ≠ []) (hw : w' = w ++ " ") : w' ++ Txt.join " " ws ++ ";" = lineS (w :: ws) := by
  subst hw
  refine TL.ext_tl ?_
  unfold lineS
  rw [TL.join_eq, TL.join_eq, TL.tl_append, TL.tl_append, TL.tl_append, TL.tl_append, TL.tl_join, TL.tl_join]
  obtain ⟨x, xs, rfl⟩ := List.exists_cons_of_ne_nil hne
  rw [List.map_cons, List.map_cons, List.map_cons, TL.joinL]
  simp
theorem lineS_away (a b c : Str) : "away " ++ a ++ " " ++ b ++ " of " ++ c ++ ";" = lineS ["away", a, b, "of", c] := by
  refine TL.ext_tl ?_
  unfold lineS
  have e1 : TL.tl ("away " : Str) = TL.tl "away" ++ TL.tl " " := by decide +kernel
  have e2 : TL.tl (" of " : Str) = TL.tl " " ++ (TL.tl "of" ++ TL.tl " ") := by decide +kernel
  rw [TL.join_eq]
  simp only [TL.tl_append, TL.tl_join, List.map_cons, List.map_nil, TL.joinL, e1, e2, List.append_assoc]
theorem small2 {x y : Str} (h1 : x.length ≤ 1000) (h2 : y.length ≤ 1000) : x.length + y.length ≤ sizeLine := Nat.le_trans (m := 2000) (by omega) (by decide)
section
variable {P : Program} {w : World} {K : PySem.W.Frag} {mg : Str → Option Value} {base : Heap}
abbrev sformat_parsed : Stmt := topS 30
theorem scformat_parsed : FnScope ["parsed", "names", "turns", "weights", "aways", "makers", "lines", "person", "remainder", "modulus", "weight"] ["parsed"] (defScope sformat_parsed) := ⟨rfl, rfl, rfl, by decide +kernel, rfl, by decide +kernel, by decide +kernel⟩
theorem cal_format (D : DefAt K mg "format_parsed" sformat_parsed ["parsed"]) (T : Bi mg) : Cal P w K mg base 1 "format_parsed" ["parsed"] spText := D.cal fun f fd F => by
  have nd := scformat_parsed.nd
  refine F.ok scformat_parsed (fun vs H Q E h => ?_) (fun cdv A outer s H vs Q E hr h => ?_)
  · obtain ⟨a, r, rfl, _⟩ := h; rfl
  obtain ⟨a, r, rfl, ⟨an, at_, aw, aa, am, as, h1, h2, h3, h4, h5, h6, h7⟩, ok, k⟩ := h
  have hu := hr.units
  have keep : ∀ {H' : Hp} {l : List (Addr × HO)}, Wd [] H H' l → ∀ {b : Addr} {xs : List V}, H b = some (.tup xs) → SqT K H' b xs := fun w _ _ e => SqT.of (w.tups _ _ e)
  refine ⟨_, (pss_cons (ps_asg (pv 0) (pg_tupK (K := K) (n := 5) rfl rfl (pgs_cons (pg_name (i := 1) nd rfl (Or.inr rfl)) (pgs_cons (pg_name (i := 2) nd rfl (Or.inl rfl)) (pgs_cons (pg_name (i := 3) nd rfl (Or.inl rfl)) (pgs_cons (pg_name (i := 4) nd rfl (Or.inl rfl)) (pgs_cons (pg_name (i := 5) nd rfl (Or.inl rfl)) pgs_nil)))))))
 (pss_cons (ps_set (i := 6) nd rfl (Or.inl rfl) (pe_lst (pa_cons (pe_op op_add_str (pe_op op_add_str pe_str (pe_joinK (K := K) rfl pe_str (pv 1))) pe_str) (pa_cons (pe_op op_add_str (pe_op op_add_str pe_str (pe_joinK (K := K) rfl pe_str (pe_lc (own := [("person", 7)]) rfl nd (pi_tupK (K := K) rfl (pv 2)) (blkOk_by (N := ["parsed", "names", "turns", "weights", "aways", "makers", "lines", "person", "remainder", "modulus", "weight"]) (sc := defScope sformat_parsed) (by decide +kernel)) (fun _ _ _ _ _ => (pg_name (i := 7) nd rfl (Or.inl rfl))) (fun _ _ _ _ _ => pts_nil) (fun _ _ _ _ _ => (pe_ix (r := rIxT K) ix_tup (pv 1) (pv 7) (fun _ _ => rfl)))))) pe_str) pa_nil))))
 (C8.pss_cut (ps_if (pt_cmpR op_gt (pe_callB (r := rMaxT K) (cr_maxT rfl hu) (by rfl) T.max (by decide +kernel) (pa_cons (pv 3) pa_nil)) pe_int (nomark _))
 (pss_one (ps_expr (pe_bmK (K := K) rfl PySem.F.plainAttrs_list PySem.F.slot_list_append PySem.F.type_list_append mt_append (pv 6) (pa_cons (pe_op op_add_str (pe_op op_add_str pe_str (pe_joinK (K := K) rfl pe_str (pe_lc (own := [("weight", 10)]) rfl nd (pi_tupK (K := K) rfl (pv 3)) (blkOk_by (N := ["parsed", "names", "turns", "weights", "aways", "makers", "lines", "person", "remainder", "modulus", "weight"]) (sc := defScope sformat_parsed) (by decide +kernel)) (fun _ _ _ _ _ => (pg_name (i := 10) nd rfl (Or.inl rfl))) (fun _ _ _ _ _ => pts_nil) (fun _ _ _ _ _ => (pe_callTy call_str_int (by rfl) T.str (by decide +kernel) (pa_cons (pv 10) pa_nil)))))) pe_str) pa_nil))))
 pss_nil)
 (pss_cons (ps_for PassesOwn.never rfl (pi_tupK (K := K) rfl (pv 4)) (pg_tupK (K := K) (n := 3) rfl rfl (pgs_cons (pg_name (i := 7) nd rfl (Or.inl rfl)) (pgs_cons (pg_name (i := 8) nd rfl (Or.inl rfl)) (pgs_cons (pg_name (i := 9) nd rfl (Or.inl rfl)) pgs_nil))))
 (pss_one (ps_expr (pe_bmK (K := K) rfl PySem.F.plainAttrs_list PySem.F.slot_list_append PySem.F.type_list_append mt_append (pv 6) (pa_cons (pe_op op_add_str (pe_op op_add_str (pe_op op_add_str (pe_op op_add_str (pe_op op_add_str (pe_op op_add_str pe_str (pe_ix (r := rIxT K) ix_tup (pv 1) (pv 7) (fun _ _ => rfl))) pe_str) (pe_callTy call_str_int (by rfl) T.str (by decide +kernel) (pa_cons (pv 8) pa_nil))) pe_str) (pe_callTy call_str_int (by rfl) T.str (by decide +kernel) (pa_cons (pv 9) pa_nil))) pe_str) pa_nil)))))
 (C8.pss_cut (ps_if (pt_cmpR (r := rNeD K) (op_neD hu) (pv 5) (pe_tup pa_nil) (nomark _))
 (pss_one (ps_expr (pe_bmK (K := K) rfl PySem.F.plainAttrs_list PySem.F.slot_list_append PySem.F.type_list_append mt_append (pv 6) (pa_cons (pe_op op_add_str (pe_op op_add_str pe_str (pe_joinK (K := K) rfl pe_str (pe_lc (own := [("person", 7)]) rfl nd (pi_tupK (K := K) rfl (pv 5)) (blkOk_by (N := ["parsed", "names", "turns", "weights", "aways", "makers", "lines", "person", "remainder", "modulus", "weight"]) (sc := defScope sformat_parsed) (by decide +kernel)) (fun _ _ _ _ _ => (pg_name (i := 7) nd rfl (Or.inl rfl))) (fun _ _ _ _ _ => pts_nil) (fun _ _ _ _ _ => (pe_ix (r := rIxT K) ix_tup (pv 1) (pv 7) (fun _ _ => rfl)))))) pe_str) pa_nil))))
 pss_nil)
 (pss_one (ps_ret (pe_joinK (K := K) rfl pe_str (pv 6))))))))), ?_⟩
  have n1 := ok.n1
  have n6 := ok.n6
  have t12 := ok.t12
  have hnn : r.names ≠ [] := fun e => by rw [e] at n1; simp at n1
  have htn : r.turns ≠ [] := fun e => by have := ok.tall 0 (by omega); rw [e] at this; simp at this
  have hwn : r.weights ≠ [] := fun e => by have := ok.wl; rw [e] at this; simp at this; omega
  have l1 : ((" " : Str)).length = 1 := by decide
  -- sizes of joined words
  have jl : ∀ ws : List Str, ws.length ≤ 13 → (∀ x ∈ ws, x.length ≤ 8) → (Txt.join " " ws).length ≤ 200 ∧ (ws.map (·.length)).sum + ws.length * ((" " : Str)).length ≤ 16777216 := fun ws h1 h2 => by
    have hj := join_len " " ws 8 h2
    have hs := sum_le (fun s : Str => s.length) 8 ws h2
    rw [l1] at hj ⊢
    have : ws.length * (8 + 1) ≤ 13 * 9 := Nat.mul_le_mul h1 (by decide)
    constructor
    · omega
    · omega
  have nml : ∀ x ∈ r.names, x.length ≤ 8 := fun x hx => six_len _ (ok.six x hx)
  have nmi : ∀ (ks : List Int), (∀ k ∈ ks, 0 ≤ k ∧ k < r.names.length) → ∀ x ∈ ks.map (nm r), x.length ≤ 8 := fun ks h x hx => by
    obtain ⟨t, ht, rfl⟩ := List.mem_map.mp hx
    exact nm_len ok (h t ht).1 (h t ht).2
  refine ⟨_, rfl, a, _, rfl, SqT.of h1, rfl, _, _, rfl, _, _, rfl, _, _, rfl, _, _, rfl, _, _, rfl, rfl, ?_⟩
  -- people
  have j1 := jl r.names (by omega) nml
  refine ⟨⟨_, rfl⟩, _, rfl, _, an, r.names, rfl, rfl, .inr (SqT.of h2), j1.2, _, _, rfl, rfl, small2 (by decide) (by omega), _, _, rfl, rfl, small2 (by rw [app_len]; have : ("people " : Str).length = 7 := (by decide); omega) (by decide), ?_⟩
  rw [lineS_head (w := "people") hnn (by decide +kernel)]
  -- turns
  refine ⟨⟨_, rfl⟩, _, rfl, at_, rfl, ⟨_, SqT.of h3⟩, fun D1 hD1 => ?_⟩
  refine lc_tupF (K := K) (a := at_) (xs := r.turns.map V.int) (fun _ => true) (fun v => match v with | .int i => V.str (nm r i) | v => v) (Wd.refl H) hD1 (fun H' c w => keep w h3) (by rw [List.length_map]; omega) (fun H' ⟨c, w⟩ i x hx R S hR _ => ?_) (fun H' w5 => ?_)
  · obtain ⟨t, ht, rfl⟩ := int_of_map hx
    have h0 := ok.t0 t (List.mem_of_getElem? ht)
    refine ⟨rfl, _, rfl, _, rfl, an, _, _, _, rfl, rfl, keep w h2, ?_, hR rfl⟩
    exact at_of (j := t.toNat) (by omega) (by rw [List.getElem?_map, nm_mem h0.1 h0.2]; rfl)
  have e5 : (r.turns.map V.int).map (fun v => match v with | .int i => V.str (nm r i) | v => v) = (r.turns.map (nm r)).map V.str := by rw [List.map_map, List.map_map]; rfl
  rw [filter_yes, e5] at w5
  have j2 := jl (r.turns.map (nm r)) (by rw [List.length_map]; omega) (nmi _ ok.t0)
  refine ⟨_, D1, r.turns.map (nm r), rfl, rfl, .inl (SqL.of (w5.get 0 rfl)), j2.2, _, _, rfl, rfl, small2 (by decide) (by omega), _, _, rfl, rfl, small2 (by rw [app_len]; have : ("turns " : Str).length = 6 := (by decide); omega) (by decide), ?_⟩
  rw [lineS_head (w := "turns") (by simpa using htn) (by decide +kernel)]
  refine ⟨(by show 2 ≤ sizeLine; decide), fun ll hll => ?_⟩
  have w7 := (w5.new (.lst (((lines2 r).map lineS).map V.str)) hll).sub (l' := [(ll, .lst (((lines2 r).map lineS).map V.str))]) (by walk_at "sub")
  -- weights
  refine ⟨fun σ H' => σ = [some (.ref a), some (.ref an), some (.ref at_), some (.ref aw), some (.ref aa), some (.ref am), some (.ref ll), none, none, none, none] ∧ Wd [] H H' [(ll, .lst (((lines2 r ++ linesW r).map lineS).map V.str))], ?_, ?_⟩
  · have hw0 : 0 < r.weights.length := by have := ok.wl; omega
    refine ⟨_, rfl, aw, r.weights, rfl, keep w7 h4, hw0, fun m hm hmax => ?_⟩
    refine ⟨_, _, rfl, rfl, _, rfl, ?_⟩
    refine ite2 (fun hc => ?_) (fun hc => ?_)
    · have hh : heavy r = true := List.any_eq_true.mpr ⟨m, hm, hc⟩
      refine ⟨_, rfl, .inl ⟨rfl, _, SqL.of (w7.get 0 rfl)⟩, ⟨_, rfl⟩, _, rfl, aw, rfl, ⟨_, keep w7 h4⟩, fun D hD => ?_⟩
      refine lc_tupF (K := K) (a := aw) (xs := r.weights.map V.int) (fun _ => true) (fun v => match v with | .int i => V.str (num i) | v => v) w7 hD (fun H' c w => keep w h4) (by rw [List.length_map, ok.wl]; omega) (fun H' ⟨c, w⟩ i x hx R S hR _ => ?_) (fun H' w9 => ?_)
      · obtain ⟨t, ht, rfl⟩ := int_of_map hx
        have h0 := ok.w0 t (List.mem_of_getElem? ht)
        exact ⟨rfl, _, rfl, t, rfl, Nat.lt_of_le_of_lt (Nat.log2_le_self _) (by omega), hR rfl⟩
      have e9 : (r.weights.map V.int).map (fun v => match v with | .int i => V.str (num i) | v => v) = (r.weights.map num).map V.str := by rw [List.map_map, List.map_map]; rfl
      rw [filter_yes, e9] at w9
      have j3 := jl (r.weights.map num) (by rw [List.length_map, ok.wl]; omega) (fun x hx => by
        obtain ⟨v, hv, rfl⟩ := List.mem_map.mp hx
        have := ok.w0 v hv
        exact Nat.le_trans (num_len' (by omega) (by omega)) (by decide))
      refine ⟨_, D, r.weights.map num, rfl, rfl, .inl (SqL.of (w9.get 0 rfl)), j3.2, _, _, rfl, rfl, small2 (by decide) (by omega), _, _, rfl, rfl, small2 (by rw [app_len]; have : ("weights " : Str).length = 8 := (by decide); omega) (by decide), ?_⟩
      rw [lineS_head (w := "weights") (by simpa using hwn) (by decide +kernel)]
      refine ⟨ll, _, _, rfl, rfl, w9.get 1 rfl, (by show 2 < sizeLine; decide), rfl, ?_⟩
      have w10 := (w9.put 1 (.lst (((lines2 r).map lineS).map V.str ++ [V.str (lineS ("weights" :: r.weights.map num))])) rfl (fun _ q => by cases q)).sub (l' := [(ll, .lst (((lines2 r).map lineS).map V.str ++ [V.str (lineS ("weights" :: r.weights.map num))]))]) (by walk_at "sub")
      rw [linesW, if_pos hh, List.map_append, List.map_append]
      exact w10
    · refine ⟨rfl, ?_⟩
      have hh : heavy r = false := by
        rw [Bool.eq_false_iff]
        intro hh
        obtain ⟨v, hv, hv1⟩ := List.any_eq_true.mp hh
        have := hmax v hv
        have := of_decide_eq_true hv1
        exact hc (decide_eq_true (by omega))
      rw [linesW, if_neg (by rw [hh]; decide), List.append_nil]
      exact w7
  rintro σ H1 ⟨rfl, w8⟩
  have hLl : (lines2 r ++ linesW r).length ≤ 3 := by
    have h2 : (linesW r).length ≤ 1 := by unfold linesW; split <;> simp
    rw [List.length_append]
    simp only [lines2, List.length_cons, List.length_nil]
    omega
  have a6 := ok.a6
  -- the absences
  refine ⟨_, rfl, aa, rfl, ⟨_, keep w8 h5⟩, ?_⟩
  refine for_it (walk_tup (xs := as.map V.ref)) (fun i σ H' => (∃ b c d, σ = [some (.ref a), some (.ref an), some (.ref at_), some (.ref aw), some (.ref aa), some (.ref am), some (.ref ll), b, c, d, none]) ∧ Wd [] H H' [(ll, .lst (((lines2 r ++ linesW r ++ (r.aways.take i).map (awW r)).map lineS).map V.str))]) ?_ ?_ ?_ ?_
  · exact ⟨⟨_, _, _, rfl⟩, by rw [List.take_zero, List.map_nil, List.append_nil]; exact w8⟩
  · rintro i σ H' _ ⟨_, w⟩
    exact keep w h5
  · rintro i x σ H2 H2' hi ⟨⟨b, c, d, rfl⟩, w9⟩ ⟨rfl, hx⟩
    obtain ⟨b1, hb, rfl⟩ : ∃ b, as[i]? = some b ∧ x = V.ref b := by
      rw [List.getElem?_map] at hx
      cases e : as[i]? with
      | none => rw [e] at hx; cases hx
      | some b => rw [e] at hx; exact ⟨b, rfl, (Option.some.inj hx).symm⟩
    obtain ⟨t, ht, hbt⟩ := h6.at hb
    obtain ⟨g1, g2, g3, g4, g5⟩ := ok.a0 t (List.mem_of_getElem? ht)
    have g6 : t.2.2 ≤ 12 := by simp at g5; omega
    have hi6 := (List.getElem?_eq_some_iff.mp ht).1
    have l1 := nm_len ok g1 g2
    have l2 := num_len' g3 (by omega)
    have l3 := num_len' (i := t.2.2) (by omega) (by omega)
    have c1 : ("away " : Str).length = 5 := by decide
    have c2 : (" " : Str).length = 1 := by decide
    have c3 : (" of " : Str).length = 4 := by decide
    have c4 : (";" : Str).length = 1 := by decide
    refine ⟨b1, tri t, rfl, keep w9 hbt, rfl, _, _, rfl, _, _, rfl, _, _, rfl, rfl, ?_⟩
    refine ⟨_, rfl, .inl ⟨rfl, _, SqL.of (w9.get 0 rfl)⟩, _, rfl, _, rfl, an, _, _, _, rfl, rfl, keep w9 h2, at_of (j := t.1.toNat) (by omega) (by rw [List.getElem?_map, nm_mem g1 g2]; rfl), ?_⟩
    refine ⟨_, _, rfl, rfl, small2 (by omega) (by omega), ?_⟩
    refine ⟨_, _, rfl, rfl, small2 (by simp only [app_len]; omega) (by omega), ?_⟩
    refine ⟨_, rfl, t.2.1, rfl, Nat.lt_of_le_of_lt (Nat.log2_le_self _) (by omega), ?_⟩
    refine ⟨_, _, rfl, rfl, small2 (y := num t.2.1) (by simp only [app_len]; omega) (by omega), ?_⟩
    refine ⟨_, _, rfl, rfl, small2 (x := _ ++ num t.2.1) (by simp only [app_len]; omega) (by omega), ?_⟩
    refine ⟨_, rfl, t.2.2, rfl, Nat.lt_of_le_of_lt (Nat.log2_le_self _) (by omega), ?_⟩
    refine ⟨_, _, rfl, rfl, small2 (x := _ ++ num t.2.1 ++ _) (y := num t.2.2) (by simp only [app_len]; omega) (by omega), ?_⟩
    refine ⟨_, _, rfl, rfl, small2 (x := _ ++ num t.2.1 ++ _ ++ num t.2.2) (by simp only [app_len]; omega) (by omega), ?_⟩
    have e1 := lineS_away (nm r t.1) (num t.2.1) (num t.2.2)
    refine ⟨ll, _, _, rfl, rfl, w9.get 0 rfl, ?_, ⟨_, _, _, rfl⟩, ?_⟩
    · rw [List.length_map, List.length_map, List.length_append, List.length_map, List.length_take]; exact Nat.lt_of_le_of_lt (m := 100) (by omega) (by decide)
    · have e3 : ((lines2 r ++ linesW r ++ (r.aways.take (i + 1)).map (awW r)).map lineS).map V.str = ((lines2 r ++ linesW r ++ (r.aways.take i).map (awW r)).map lineS).map V.str ++ [V.str ("away " ++ nm r t.1 ++ " " ++ num t.2.1 ++ " of " ++ num t.2.2 ++ ";")] := by
        rw [take_more ht, List.map_append (l₂ := [t]), ← List.append_assoc, List.map_append (l₂ := List.map (awW r) [t]), List.map_append (l₂ := List.map lineS (List.map (awW r) [t])), e1]
        rfl
      rw [e3]
      exact w9.put 0 (.lst (((lines2 r ++ linesW r ++ (r.aways.take i).map (awW r)).map lineS).map V.str ++ [V.str ("away " ++ nm r t.1 ++ " " ++ num t.2.1 ++ " of " ++ num t.2.2 ++ ";")])) rfl (fun _ q => by cases q)
  · rintro σ H2 ⟨⟨b, c, d, rfl⟩, w9⟩
    rw [List.length_map, h6.length, List.take_length] at w9
    have hL2 : (lines2 r ++ linesW r ++ r.aways.map (awW r)).length ≤ 9 := by rw [List.length_append, List.length_map]; omega
    refine ⟨fun σ H' => (∃ b c d, σ = [some (.ref a), some (.ref an), some (.ref at_), some (.ref aw), some (.ref aa), some (.ref am), some (.ref ll), b, c, d, none]) ∧ Wd [] H H' [(ll, .lst (((lineWords r).map lineS).map V.str))], ?_, ?_⟩
    · refine ⟨_, rfl, (by show 0 ≤ sizeLine; decide), fun e he => ?_⟩
      have w12 := w9.new (.tup []) he
      have hms : ∀ v ∈ r.makers.map V.int, IS v := fun v hv => by
        obtain ⟨z, _, rfl⟩ := List.mem_map.mp hv
        trivial
      refine ⟨.tuple ((r.makers.map V.int).map dataOf), .tuple [], .tup (keep w12 h7) (dp_all hms), .tup (SqT.of (w12.get 0 rfl)) .nil, shaped_tup hms, rfl, _, rfl, ?_⟩
      rw [eqv_nilT]
      have hie : ((r.makers.map V.int).map dataOf).isEmpty = r.makers.isEmpty := by cases r.makers <;> rfl
      rw [hie]
      have mlen : r.makers.length ≤ 6 := by
        have := asc_len ok.masc (n := r.names.length) ok.m0
        omega
      cases hm : r.makers.isEmpty with
      | true =>
        refine ⟨⟨_, _, _, rfl⟩, ?_⟩
        rw [lineWords, linesM, if_pos hm, List.append_nil]
        exact w12.sub (List.Sublist.cons _ (List.Sublist.refl _))
      | false =>
        have hmn : r.makers ≠ [] := fun e => by rw [e] at hm; cases hm
        refine ⟨_, rfl, .inl ⟨rfl, _, SqL.of (w12.get 1 rfl)⟩, ⟨_, rfl⟩, _, rfl, am, rfl, ⟨_, keep w12 h7⟩, fun D hD => ?_⟩
        refine lc_tupF (K := K) (a := am) (xs := r.makers.map V.int) (fun _ => true) (fun v => match v with | .int i => V.str (nm r i) | v => v) w12 hD (fun H' c w => keep w h7) (by rw [List.length_map]; omega) (fun H' ⟨c, w⟩ i x hx R S hR _ => ?_) (fun H' w14 => ?_)
        · obtain ⟨t, ht, rfl⟩ := int_of_map hx
          have h0 := ok.m0 t (List.mem_of_getElem? ht)
          refine ⟨rfl, _, rfl, _, rfl, an, _, _, _, rfl, rfl, keep w h2, ?_, hR rfl⟩
          exact at_of (j := t.toNat) (by omega) (by rw [List.getElem?_map, nm_mem h0.1 h0.2]; rfl)
        have e14 : (r.makers.map V.int).map (fun v => match v with | .int i => V.str (nm r i) | v => v) = (r.makers.map (nm r)).map V.str := by rw [List.map_map, List.map_map]; rfl
        rw [filter_yes, e14] at w14
        have j3 := jl (r.makers.map (nm r)) (by rw [List.length_map]; omega) (nmi _ ok.m0)
        refine ⟨_, D, r.makers.map (nm r), rfl, rfl, .inl (SqL.of (w14.get 0 rfl)), j3.2, _, _, rfl, rfl, small2 (by decide) (by omega), _, _, rfl, rfl, small2 (by rw [app_len]; have : ("makeup " : Str).length = 7 := (by decide); omega) (by decide), ?_⟩
        rw [lineS_head (w := "makeup") (by simpa using hmn) (by decide +kernel)]
        refine ⟨ll, _, _, rfl, rfl, w14.get 2 rfl, (by rw [List.length_map, List.length_map]; exact Nat.lt_of_le_of_lt (m := 100) (by omega) (by decide)), ⟨_, _, _, rfl⟩, ?_⟩
        have w15 := (w14.put 2 (.lst (((lines2 r ++ linesW r ++ r.aways.map (awW r)).map lineS).map V.str ++ [V.str (lineS ("makeup" :: r.makers.map (nm r)))])) rfl (fun _ q => by cases q)).sub (l' := [(ll, .lst (((lines2 r ++ linesW r ++ r.aways.map (awW r)).map lineS).map V.str ++ [V.str (lineS ("makeup" :: r.makers.map (nm r)))]))]) (by walk_at "sub")
        rw [lineWords, linesM, if_neg (by rw [hm]; decide), List.map_append (l₂ := [_]), List.map_append (l₂ := List.map lineS [_])]
        exact w15
    rintro σ H3 ⟨⟨b, c, d, rfl⟩, w13⟩
    refine ⟨⟨_, rfl⟩, _, rfl, _, ll, (lineWords r).map lineS, rfl, rfl, .inl (SqL.of (w13.get 0 rfl)), ?_, ?_⟩
    · have h8 := sum_le (fun s : Str => s.length) 200 ((lineWords r).map lineS) fun s hs => by
        obtain ⟨ws, hws, rfl⟩ := List.mem_map.mp hs
        have := words_len ok ws hws
        exact lineS_len this.1 this.2
      have := lines_few ok
      have e1 : (("\n" : Str)).length = 1 := by decide
      rw [e1]
      rw [List.length_map] at h8 ⊢
      omega
    · exact k _ (w13.sub (List.nil_sublist _))
end
end Br

namespace Br
open PySem PySem.Spec PyProof.Rows L2
/-! ### what the law calls -/
/-- the same texts, in lists of lists -/
inductive SameV (H : Hp) : Nat → V → V → Prop
  | str (n : Nat) (z : Str) : SameV H n (.str z) (.str z)
  | lst {n : Nat} {a b : Addr} {xs ys : List V} (ha : H a = some (.lst xs)) (hb : H b = some (.lst ys)) (hl : xs.length = ys.length) (hz : ys.length ≤ 1000) (he : ∀ (i : Nat) x y, xs[i]? = some x → ys[i]? = some y → SameV H n x y) : SameV H (n + 1) (.ref a) (.ref b)
theorem SameV.keep {H H' : Hp} {l : List (Addr × HO)} (w : Wd [] H H' l) : ∀ {n : Nat} {x y : V}, SameV H n x y → SameV H' n x y := by
  intro n x y h
  induction h with
  | str n z => exact .str n z
  | lst ha hb hl hz he ih => exact .lst (w.old ha (by simp)) (w.old hb (by simp)) hl hz ih
section
variable {P : Program} {w : World} {K : PySem.W.Frag} {mg : Str → Option Value} {base : Heap}
abbrev sformat_rota : Stmt := topS 31
theorem scformat_rota : FnScope ["rota"] ["rota"] (defScope sformat_rota) := ⟨rfl, rfl, rfl, by decide +kernel, rfl, by decide +kernel, by decide +kernel⟩
def spFormat : Sp := fun vs H Q _ => ∃ (z : Str) (r : Rota) (S : List Stm), vs = [.str z] ∧ Says z r S ∧ ∀ H', Wd [] H H' [] → Q (.str (textOf r)) H'
theorem cal_format_rota (D : DefAt K mg "format_rota" sformat_rota ["rota"]) (C1 : Cal P w K mg base 6 "load" ["rota"] spLoad) (C2 : Cal P w K mg base 1 "format_parsed" ["parsed"] spText) : Cal P w K mg base 7 "format_rota" ["rota"] spFormat := D.cal fun f fd F => by
  have nd := scformat_rota.nd
  obtain ⟨f1, fd1, m_load, kp_load, b_load, G_load⟩ := C1.ex
  obtain ⟨f2, fd2, m_format_parsed, kp_format_parsed, b_format_parsed, G_format_parsed⟩ := C2.ex
  refine F.ok scformat_rota (fun vs H Q E h => ?_) (fun cdv A outer s H vs Q E hr h => ?_)
  · obtain ⟨z, r, S, rfl, _⟩ := h; rfl
  obtain ⟨z, r, S, rfl, hz, q⟩ := h
  refine ⟨_, (pss_one (ps_ret (pe_call G_format_parsed (hr.mono (by first | decide | omega)) (by rfl) m_format_parsed kp_format_parsed b_format_parsed .nil pass0 (pa_cons (pe_call G_load (hr.mono (by first | decide | omega)) (by rfl) m_load kp_load b_load .nil pass0 (pa_cons (pv 0) pa_nil)) pa_nil)))), ?_⟩
  exact ⟨_, rfl, z, r, S, rfl, hz, fun H1 a c1 hR => ⟨a, r, rfl, hR, hz.ok, fun H2 c2 => q H2 (c1.fgo c2)⟩⟩
abbrev speople : Stmt := topS 32
theorem scpeople : FnScope ["rota"] ["rota"] (defScope speople) := ⟨rfl, rfl, rfl, by decide +kernel, rfl, by decide +kernel, by decide +kernel⟩
def spPeopleF : Sp := fun vs H Q _ => ∃ (z : Str) (r : Rota) (S : List Stm), vs = [.str z] ∧ Says z r S ∧ ∀ H' p, Wd [] H H' [(p, .lst (r.names.map V.str))] → Q (.ref p) H'
theorem cal_people (D : DefAt K mg "people" speople ["rota"]) (T : Bi mg) (C1 : Cal P w K mg base 6 "load" ["rota"] spLoad) : Cal P w K mg base 7 "people" ["rota"] spPeopleF := D.cal fun f fd F => by
  have nd := scpeople.nd
  obtain ⟨f1, fd1, m_load, kp_load, b_load, G_load⟩ := C1.ex
  refine F.ok scpeople (fun vs H Q E h => ?_) (fun cdv A outer s H vs Q E hr h => ?_)
  · obtain ⟨z, r, S, rfl, _⟩ := h; rfl
  obtain ⟨z, r, S, rfl, hz, q⟩ := h
  refine ⟨_, (pss_one (ps_ret (pe_callTy (r := rListOf K) call_list_of (by rfl) T.list (by decide +kernel) (pa_cons (pe_ix (r := rIxT K) ix_tup (pe_call G_load (hr.mono (by first | decide | omega)) (by rfl) m_load kp_load b_load .nil pass0 (pa_cons (pv 0) pa_nil)) pe_int (fun _ _ => rfl)) pa_nil)))), ?_⟩
  refine ⟨_, rfl, z, r, S, rfl, hz, fun H1 a c1 hR => ?_⟩
  obtain ⟨an, at_, aw, aa, am, as, h1, h2, _⟩ := hR
  exact ⟨a, _, _, _, rfl, rfl, SqT.of h1, rfl, an, _, rfl, .inr (SqT.of h2), fun p hp => q _ p (c1.new _ hp)⟩
abbrev s_law_equal : Stmt := topS 39
theorem sc_law_equal : FnScope ["_law_actual", "_law_expected", "_law_k"] ["_law_actual", "_law_expected"] (defScope s_law_equal) := ⟨rfl, rfl, rfl, by decide +kernel, rfl, by decide +kernel, by decide +kernel⟩
def spEqual (n : Nat) : Sp := fun vs H Q _ => ∃ x y : V, vs = [x, y] ∧ SameV H n x y ∧ ∀ H', Wd [] H H' [] → Q (.bl true) H'
theorem cal_equal (D : DefAt K mg "_law_equal" s_law_equal ["_law_actual", "_law_expected"]) (T : Bi mg) : ∀ n : Nat, Cal P w K mg base (n + 1) "_law_equal" ["_law_actual", "_law_expected"] (spEqual n)
  | 0 => D.cal fun f fd F => by
    have nd := sc_law_equal.nd
    refine F.ok sc_law_equal (fun vs H Q E h => ?_) (fun cdv A outer s H vs Q E hr h => ?_)
    · obtain ⟨x, y, rfl, _⟩ := h; rfl
    obtain ⟨x, y, rfl, hs, q⟩ := h
    refine ⟨_, (pss_cons (ps_if (pt_cmpR op_isN (pv 1) pe_non (nomark _))
 pss_never
 pss_nil)
 (pss_cons (ps_if (pt_val (pe_callB call_isi (by rfl) T.isinstance (by decide +kernel) (pa_cons (pv 1) (pa_cons (pe_bltn (v := .ty "bool") (by rfl) T.bool (by decide +kernel) rfl) pa_nil))))
 pss_never
 pss_nil)
 (pss_cons (ps_if (pt_val (pe_callB call_isi (by rfl) T.isinstance (by decide +kernel) (pa_cons (pv 1) (pa_cons (pe_bltn (v := .ty "int") (by rfl) T.int (by decide +kernel) rfl) pa_nil))))
 pss_never
 pss_nil)
 (pss_cons (ps_if (pt_val (pe_callB call_isi (by rfl) T.isinstance (by decide +kernel) (pa_cons (pv 1) (pa_cons (pe_bltn (v := .ty "str") (by rfl) T.str (by decide +kernel) rfl) pa_nil))))
 (pss_one (ps_ret (pe_and (pe_callB call_isi (by rfl) T.isinstance (by decide +kernel) (pa_cons (pv 0) (pa_cons (pe_bltn (v := .ty "str") (by rfl) T.str (by decide +kernel) rfl) pa_nil))) (pe_one (pe_cmpR op_eq (pv 0) (pv 1) (nomark _))))))
 pss_nil)
 pss_never)))), ?_⟩
    obtain ⟨z, rfl, rfl⟩ : ∃ z, x = .str z ∧ y = .str z := by cases hs with | str n z => exact ⟨z, rfl, rfl⟩
    refine ⟨_, rfl, rfl, _, rfl, ite2 (fun h => absurd (of_decide_eq_true h) (by simp)) (fun _ => ?_)⟩
    refine ⟨_, rfl, _, _, .type "str", .type "bool", false, rfl, .ty "bool", .base (.str _), rfl, _, rfl, ite2 (fun h => absurd h (by decide)) (fun _ => ?_)⟩
    refine ⟨_, rfl, _, _, .type "str", .type "int", false, rfl, .ty "int", .base (.str _), rfl, _, rfl, ite2 (fun h => absurd h (by decide)) (fun _ => ?_)⟩
    refine ⟨_, rfl, _, _, .type "str", .type "str", true, rfl, .ty "str", .base (.str _), rfl, _, rfl, ite2 (fun _ => ?_) (fun h => absurd rfl h)⟩
    refine ⟨_, rfl, _, _, .type "str", .type "str", true, rfl, .ty "str", .base (.str _), rfl, _, rfl, ?_⟩
    refine ite2 (fun _ => ?_) (fun h => absurd rfl h)
    refine ⟨_, rfl, _, rfl, rfl, ?_⟩
    rw [decide_eq_true rfl]
    exact q _ (Wd.refl H)
  | n + 1 => D.cal fun f fd F => by
    obtain ⟨f1, fd1, m__law_equal, kp__law_equal, b__law_equal, G__law_equal⟩ := (cal_equal D T n).ex
    have nd := sc_law_equal.nd
    refine F.ok sc_law_equal (fun vs H Q E h => ?_) (fun cdv A outer s H vs Q E hr h => ?_)
    · obtain ⟨x, y, rfl, _⟩ := h; rfl
    obtain ⟨x, y, rfl, hs, q⟩ := h
    refine ⟨_, (pss_cons (ps_if (pt_cmpR op_isN (pv 1) pe_non (nomark _))
 pss_never
 pss_nil)
 (pss_cons (ps_if (pt_val (pe_callB call_isi (by rfl) T.isinstance (by decide +kernel) (pa_cons (pv 1) (pa_cons (pe_bltn (v := .ty "bool") (by rfl) T.bool (by decide +kernel) rfl) pa_nil))))
 pss_never
 pss_nil)
 (pss_cons (ps_if (pt_val (pe_callB call_isi (by rfl) T.isinstance (by decide +kernel) (pa_cons (pv 1) (pa_cons (pe_bltn (v := .ty "int") (by rfl) T.int (by decide +kernel) rfl) pa_nil))))
 pss_never
 pss_nil)
 (pss_cons (ps_if (pt_val (pe_callB call_isi (by rfl) T.isinstance (by decide +kernel) (pa_cons (pv 1) (pa_cons (pe_bltn (v := .ty "str") (by rfl) T.str (by decide +kernel) rfl) pa_nil))))
 (pss_one (ps_ret (pe_and (pe_callB call_isi (by rfl) T.isinstance (by decide +kernel) (pa_cons (pv 0) (pa_cons (pe_bltn (v := .ty "str") (by rfl) T.str (by decide +kernel) rfl) pa_nil))) (pe_one (pe_cmpR op_eq (pv 0) (pv 1) (nomark _))))))
 pss_nil)
 (pss_cons (ps_if (pt_cmpR op_ne (pe_callB call_isi (by rfl) T.isinstance (by decide +kernel) (pa_cons (pv 1) (pa_cons (pe_bltn (v := .ty "tuple") (by rfl) T.tuple (by decide +kernel) rfl) pa_nil))) (pe_callB call_isi (by rfl) T.isinstance (by decide +kernel) (pa_cons (pv 0) (pa_cons (pe_bltn (v := .ty "tuple") (by rfl) T.tuple (by decide +kernel) rfl) pa_nil))) (nomark _))
 pss_never
 pss_nil)
 (pss_cons (ps_if (pt_cmpR op_ne (pe_callB call_isi (by rfl) T.isinstance (by decide +kernel) (pa_cons (pv 1) (pa_cons (pe_bltn (v := .ty "list") (by rfl) T.list (by decide +kernel) rfl) pa_nil))) (pe_callB call_isi (by rfl) T.isinstance (by decide +kernel) (pa_cons (pv 0) (pa_cons (pe_bltn (v := .ty "list") (by rfl) T.list (by decide +kernel) rfl) pa_nil))) (nomark _))
 pss_never
 pss_nil)
 (pss_cons (ps_if (pt_cmpR op_ne (pe_callB (r := rLenS K) call_len_seq (by rfl) T.len PySem.boot_len (pa_cons (pv 0) pa_nil)) (pe_callB (r := rLenS K) call_len_seq (by rfl) T.len PySem.boot_len (pa_cons (pv 1) pa_nil)) (nomark _))
 pss_never
 pss_nil)
 (pss_one (ps_ret (pe_callB (r := rAll K) (cr_all rfl) (by rfl) T.all (by decide +kernel) (pa_cons (pe_lc (own := [("_law_k", 2)]) rfl nd (pi_range1 (by rfl) T.range (pa_cons (pe_callB (r := rLenS K) call_len_seq (by rfl) T.len PySem.boot_len (pa_cons (pv 1) pa_nil)) pa_nil)) (blkOk_by (N := ["_law_actual", "_law_expected", "_law_k"]) (sc := defScope s_law_equal) (by decide +kernel)) (fun _ _ _ _ _ => (pg_name (i := 2) nd rfl (Or.inl rfl))) (fun _ _ _ _ _ => pts_nil) (fun _ _ _ _ _ => (pe_call G__law_equal (hr.mono (by first | decide | omega)) (by rfl) m__law_equal kp__law_equal b__law_equal .nil pass0 (pa_cons (pe_ix (r := rIxL K) ix_list (pv 0) (pv 2) (fun _ _ => rfl)) (pa_cons (pe_ix (r := rIxL K) ix_list (pv 1) (pv 2) (fun _ _ => rfl)) pa_nil))))) pa_nil))))))))))), ?_⟩
    cases hs with
    | str n z =>
      refine ⟨_, rfl, rfl, _, rfl, ite2 (fun h => absurd (of_decide_eq_true h) (by simp)) (fun _ => ?_)⟩
      refine ⟨_, rfl, _, _, .type "str", .type "bool", false, rfl, .ty "bool", .base (.str _), rfl, _, rfl, ite2 (fun h => absurd h (by decide)) (fun _ => ?_)⟩
      refine ⟨_, rfl, _, _, .type "str", .type "int", false, rfl, .ty "int", .base (.str _), rfl, _, rfl, ite2 (fun h => absurd h (by decide)) (fun _ => ?_)⟩
      refine ⟨_, rfl, _, _, .type "str", .type "str", true, rfl, .ty "str", .base (.str _), rfl, _, rfl, ite2 (fun _ => ?_) (fun h => absurd rfl h)⟩
      refine ⟨_, rfl, _, _, .type "str", .type "str", true, rfl, .ty "str", .base (.str _), rfl, _, rfl, ?_⟩
      refine ite2 (fun _ => ?_) (fun h => absurd rfl h)
      refine ⟨_, rfl, _, rfl, rfl, ?_⟩
      rw [decide_eq_true rfl]
      exact q _ (Wd.refl H)
    | @lst _ a b xs ys ha hb hl hz he =>
      have T1 : TyX K H (.ref a) (.type "list") := .base (.lst ha)
      have T2 : TyX K H (.ref b) (.type "list") := .base (.lst hb)
      refine ⟨_, rfl, rfl, _, rfl, ite2 (fun h => absurd (of_decide_eq_true h) (by simp)) (fun _ => ?_)⟩
      refine ⟨_, rfl, _, _, .type "list", .type "bool", false, rfl, .ty "bool", T2, rfl, _, rfl, ite2 (fun h => absurd h (by decide)) (fun _ => ?_)⟩
      refine ⟨_, rfl, _, _, .type "list", .type "int", false, rfl, .ty "int", T2, rfl, _, rfl, ite2 (fun h => absurd h (by decide)) (fun _ => ?_)⟩
      refine ⟨_, rfl, _, _, .type "list", .type "str", false, rfl, .ty "str", T2, rfl, _, rfl, ite2 (fun h => absurd h (by decide)) (fun _ => ?_)⟩
      refine ⟨_, rfl, _, _, .type "list", .type "tuple", false, rfl, .ty "tuple", T2, rfl, _, rfl, _, _, .type "list", .type "tuple", false, rfl, .ty "tuple", T1, rfl, rfl, _, rfl, ite2 (fun h => absurd h (by simp)) (fun _ => ?_)⟩
      refine ⟨_, rfl, _, _, .type "list", .type "list", true, rfl, .ty "list", T2, rfl, _, rfl, _, _, .type "list", .type "list", true, rfl, .ty "list", T1, rfl, rfl, _, rfl, ite2 (fun h => absurd h (by simp)) (fun _ => ?_)⟩
      refine ⟨_, rfl, a, _, rfl, .inl (SqL.of ha), _, rfl, b, _, rfl, .inl (SqL.of hb), rfl, _, rfl, ite2 (fun h => absurd h (by rw [hl]; simp)) (fun _ => ?_)⟩
      refine ⟨_, rfl, b, ys, rfl, .inl (SqL.of hb), _, rfl, by omega, by omega, fun D hD => ?_⟩
      have w0 := (Wd.refl H).new (.lst []) hD
      rw [Int.toNat_natCast]
      refine lc_range (lo := 0) (n := ys.length) (fun i H2 => Wd [] H H2 [(D, .lst ((List.replicate i true).map V.bl))]) w0 ?_ ?_
      · rintro i H5 hi w5
        obtain ⟨x, hx⟩ : ∃ x, xs[i]? = some x := ⟨_, List.getElem?_eq_getElem (by omega)⟩
        obtain ⟨y, hy⟩ : ∃ y, ys[i]? = some y := ⟨_, List.getElem?_eq_getElem hi⟩
        refine ⟨rfl, _, rfl, _, rfl, a, xs, _, x, rfl, rfl, SqL.of (w5.old ha (by simp)), at_of (j := i) (by omega) hx, _, rfl, _, rfl, b, ys, _, y, rfl, rfl, SqL.of (w5.old hb (by simp)), at_of (j := i) (by omega) hy, ?_⟩
        refine ⟨x, y, rfl, (he i x y hx hy).keep w5, fun H6 c6 => ⟨_, (w5.call0 c6).get 0 rfl, ?_, ?_⟩⟩
        · rw [List.length_map, List.length_replicate]; exact Nat.lt_of_lt_of_le (m := 1001) (by omega) (by decide)
        · have := (w5.call0 c6).put 0 (.lst ((List.replicate i true).map V.bl ++ [V.bl true])) rfl (fun _ q => by cases q)
          rw [List.replicate_succ', List.map_append]
          exact this
      · intro H5 w5
        refine ⟨D, _, rfl, SqL.of (w5.get 0 rfl), ?_⟩
        have ea : (List.replicate ys.length true).all id = true := by
          rw [List.all_eq_true]
          intro x hx
          rw [(List.mem_replicate.mp hx).2]; rfl
        rw [ea]
        exact q _ (w5.sub (List.nil_sublist _))
end
end Br

namespace Br
open PySem PySem.Spec PyProof.Rows L2
/-! ### texts and their tokens -/
/-- no letter, no digit ahead -/
def Stop (y : List Nat) : Prop := ∀ c r, y = c :: r → dig c = false ∧ ltr c = false
theorem Stop.nil : Stop [] := fun _ _ h => nomatch h
theorem Stop.cons {c : Nat} {r : List Nat} (h : c = 32 ∨ c = 10 ∨ c = 59) : Stop (c :: r) := fun c' r' e => by
  cases e
  rcases h with rfl | rfl | rfl <;> decide
theorem tw_full {p : Nat → Bool} {w y : List Nat} (hw : ∀ c ∈ w, p c = true) (hy : ∀ c r, y = c :: r → p c = false) : (w ++ y).takeWhile p = w := by
  induction w with
  | nil =>
    cases y with
    | nil => rfl
    | cons c r => rw [List.nil_append, List.takeWhile_cons, hy c r rfl]; rfl
  | cons c w ih =>
    rw [List.cons_append, List.takeWhile_cons, hw c List.mem_cons_self, if_pos rfl, ih fun x hx => hw x (List.mem_cons_of_mem _ hx)]
theorem tw_all {p : Nat → Bool} {l : List Nat} : ∀ c ∈ l.takeWhile p, p c = true := by
  induction l with
  | nil => intro c h; cases h
  | cons a l ih =>
    intro c h
    rw [List.takeWhile_cons] at h
    split at h
    · rename_i ha
      rcases List.mem_cons.mp h with rfl | h
      · exact ha
      · exact ih c h
    · cases h
/-- the three kinds of tokens -/
theorem tok_cases {l : List Nat} {k t : Str} (h : tokAt l = some (k, t)) : (k = "sign" ∧ t = ";" ∧ ∃ r, l = 59 :: r) ∨ (∃ (p : Nat → Bool) (y : List Nat), (p = dig ∨ p = ltr) ∧ l = TL.tl t ++ y ∧ (∀ c ∈ TL.tl t, p c = true) ∧ (∀ c r, y = c :: r → p c = false) ∧ TL.tl t ≠ [] ∧
    ∀ y', (∀ c r, y' = c :: r → p c = false) → tokAt (TL.tl t ++ y') = some (k, t)) := by
  cases l with
  | nil => cases h
  | cons c r =>
    have sp : ∀ p : Nat → Bool, (c :: r) = (c :: r).takeWhile p ++ (c :: r).dropWhile p := fun p => List.takeWhile_append_dropWhile.symm
    have hd : ∀ p : Nat → Bool, ∀ x y, (c :: r).dropWhile p = x :: y → p x = false := fun p x y e => by
      have := List.head?_dropWhile_not p (c :: r)
      rw [e] at this
      simpa using this
    by_cases h1 : c = 59
    · subst h1
      simp only [tokAt, if_pos] at h
      cases h
      exact .inl ⟨rfl, rfl, r, rfl⟩
    simp only [tokAt, if_neg h1] at h
    refine .inr ?_
    by_cases h2 : dig c = true
    · rw [if_pos h2] at h
      by_cases h3 : ((c :: r).takeWhile dig).length > 2 ∨ (((c :: r).takeWhile dig).length > 1 ∧ c = 48)
      · rw [if_pos h3] at h; cases h
      rw [if_neg h3] at h
      cases h
      have et : TL.tl ⟨((c :: r).takeWhile dig).toArray⟩ = (c :: r).takeWhile dig := rfl
      refine ⟨dig, (c :: r).dropWhile dig, .inl rfl, by rw [et]; exact sp dig, by rw [et]; exact tw_all, hd dig, by rw [et, List.takeWhile_cons, if_pos h2]; simp, fun y' hy' => ?_⟩
      rw [et]
      have ew : (c :: r).takeWhile dig = c :: r.takeWhile dig := by rw [List.takeWhile_cons, if_pos h2]
      have hfull := tw_full (p := dig) (w := (c :: r).takeWhile dig) tw_all hy'
      rw [ew] at hfull h3 ⊢
      rw [List.cons_append] at hfull ⊢
      simp only [tokAt, if_neg h1, if_pos h2]
      rw [hfull, if_neg h3]
    · rw [if_neg h2] at h
      have hl : ltr c = true := by
        by_cases hl : ltr c = true
        · exact hl
        · have e0 : (c :: r).takeWhile ltr = [] := by rw [List.takeWhile_cons, if_neg hl]
          rw [e0] at h
          rw [if_neg (by decide +kernel), if_neg (by simp)] at h
          cases h
      have et : TL.tl ⟨((c :: r).takeWhile ltr).toArray⟩ = (c :: r).takeWhile ltr := rfl
      have ht : t = ⟨((c :: r).takeWhile ltr).toArray⟩ := by
        split at h
        · cases h; rfl
        · split at h
          · cases h; rfl
          · cases h
      have hh := h
      subst ht
      refine ⟨ltr, (c :: r).dropWhile ltr, .inr rfl, by rw [et]; exact sp ltr, by rw [et]; exact tw_all, hd ltr, by rw [et, List.takeWhile_cons, if_pos hl]; simp, fun y' hy' => ?_⟩
      rw [et]
      have ew : (c :: r).takeWhile ltr = c :: r.takeWhile ltr := by rw [List.takeWhile_cons, if_pos hl]
      have hfull := tw_full (p := ltr) (w := (c :: r).takeWhile ltr) tw_all hy'
      rw [ew] at hfull hh ⊢
      rw [List.cons_append] at hfull ⊢
      simp only [tokAt, if_neg h1, if_neg h2]
      rw [hfull]
      exact hh
/-- a word that is a token -/
def Wk (k w : Str) : Prop := tokAt (TL.tl w) = some (k, w)
theorem Wk.ahead {k w : Str} (h : Wk k w) {y : List Nat} (hy : Stop y) : tokAt (TL.tl w ++ y) = some (k, w) := by
  rcases tok_cases h with ⟨rfl, rfl, _⟩ | ⟨p, y0, hp, e, h1, h2, h3, h4⟩
  · have : TL.tl (";" : Str) = [59] := by decide +kernel
    rw [this]; rfl
  · refine h4 y fun c r e => ?_
    have := hy c r e
    rcases hp with rfl | rfl
    · exact this.1
    · exact this.2
theorem tok_head {l : List Nat} {k t : Str} (h : tokAt l = some (k, t)) : ∃ c r, l = c :: r ∧ ¬ (c = 32 ∨ c = 10) ∧ l = TL.tl t ++ l.drop t.length ∧ 10 ∉ TL.tl t := by
  rcases tok_cases h with ⟨rfl, rfl, r, rfl⟩ | ⟨p, y, hp, e, h1, h2, h3, h4⟩
  · exact ⟨59, r, rfl, by decide, rfl, by decide +kernel⟩
  · obtain ⟨c, w, hw⟩ := List.exists_cons_of_ne_nil h3
    have hc := h1 c (by rw [hw]; exact List.mem_cons_self)
    refine ⟨c, w ++ y, by rw [e, hw]; rfl, ?_, ?_, fun hm => ?_⟩
    · rintro (rfl | rfl) <;> (rcases hp with rfl | rfl <;> exact absurd hc (by decide))
    · rw [e, TL.len_tl, List.drop_left]
    · have := h1 _ hm
      rcases hp with rfl | rfl <;> exact absurd this (by decide)
theorem LexR.word {k w : Str} {y : List Nat} {ts : List (Str × Str)} (h : Wk k w) (hy : Stop y) (ht : LexR y ts) : LexR (TL.tl w ++ y) ((k, w) :: ts) := by
  have h1 := h.ahead hy
  obtain ⟨c, r, e, hc, e2, _⟩ := tok_head h1
  rw [e] at h1 e2 ⊢
  refine .tok hc h1 ?_
  have : (c :: r).drop w.length = y := by rw [← e, TL.len_tl, List.drop_left]
  rw [this]; exact ht
theorem LexR.gap {g y : List Nat} {ts : List (Str × Str)} (hg : ∀ c ∈ g, c = 32 ∨ c = 10) (h : LexR y ts) : LexR (g ++ y) ts := by
  induction g with
  | nil => exact h
  | cons c g ih => exact .space (hg c List.mem_cons_self) (ih fun x hx => hg x (List.mem_cons_of_mem _ hx))
/-! ### rows -/
def rowsOf : List Nat → List Nat × List (List Nat)
  | [] => ([], [])
  | c :: r => if c = 10 then ([], (rowsOf r).1 :: (rowsOf r).2) else (c :: (rowsOf r).1, (rowsOf r).2)
theorem spl_rows : ∀ (l acc : List Nat), TL.spl [10] 0 acc l = (acc ++ (rowsOf l).1) :: (rowsOf l).2
  | [], acc => by rw [TL.spl_nil]; simp [rowsOf]
  | c :: r, acc => by
    by_cases h : c = 10
    · subst h
      rw [TL.spl_hit (by rfl)]
      show acc :: TL.spl [10] 0 [] r = _
      rw [spl_rows r []]
      simp [rowsOf]
    · rw [TL.spl_miss (TL.pre_of_head [] r h), spl_rows r (acc ++ [c])]
      simp [rowsOf, h]
theorem rows_app {p l : List Nat} (h : 10 ∉ p) : rowsOf (p ++ l) = (p ++ (rowsOf l).1, (rowsOf l).2) := by
  induction p with
  | nil => rfl
  | cons c p ih =>
    have hc : c ≠ 10 := fun e => h (by rw [e]; exact List.mem_cons_self)
    have := ih fun hm => h (List.mem_cons_of_mem _ hm)
    simp [rowsOf, hc, this]
theorem rows_head (l : List Nat) : (rowsOf l).1 = [] ∨ ∃ c r r', l = c :: r ∧ (rowsOf l).1 = c :: r' := by
  cases l with
  | nil => exact .inl rfl
  | cons c r =>
    by_cases h : c = 10
    · subst h; exact .inl (by simp [rowsOf])
    · exact .inr ⟨c, r, (rowsOf r).1, rfl, by simp [rowsOf, h]⟩
theorem tok_cut {l : List Nat} {k t : Str} (h : tokAt l = some (k, t)) : tokAt (TL.tl t ++ (rowsOf (l.drop t.length)).1) = some (k, t) := by
  rcases tok_cases h with ⟨rfl, rfl, r, rfl⟩ | ⟨p, y, hp, e, h1, h2, h3, h4⟩
  · have : TL.tl (";" : Str) = [59] := by decide +kernel
    rw [this]; rfl
  · have ey : l.drop t.length = y := by rw [e, TL.len_tl, List.drop_left]
    rw [ey]
    refine h4 _ fun c r e2 => ?_
    rcases rows_head y with h0 | ⟨c', r', r'', e3, e4⟩
    · rw [h0] at e2; cases e2
    · rw [e4] at e2
      cases e2
      exact h2 _ _ e3
theorem lex_rows {l : List Nat} {ts : List (Str × Str)} (h : LexR l ts) : ∃ t0 tss, LexR (rowsOf l).1 t0 ∧ Paired LexR (rowsOf l).2 tss ∧ t0 ++ tss.flatten = ts := by
  induction h with
  | nil => exact ⟨[], [], .nil, .nil, rfl⟩
  | @space c r ts hc _ ih =>
    obtain ⟨t0, tss, h1, h2, h3⟩ := ih
    rcases hc with rfl | rfl
    · refine ⟨t0, tss, ?_, ?_, h3⟩
      · simp only [rowsOf]; exact .space (.inl rfl) h1
      · simp only [rowsOf]; exact h2
    · refine ⟨[], t0 :: tss, ?_, ?_, by simpa using h3⟩
      · simp only [rowsOf]; exact .nil
      · simp only [rowsOf]; exact .cons h1 h2
  | @tok c r k t ts hc ht _ ih =>
    obtain ⟨t0, tss, h1, h2, h3⟩ := ih
    obtain ⟨_, _, _, _, e2, h10⟩ := tok_head ht
    have hcut := tok_cut ht
    rw [e2, rows_app h10]
    refine ⟨(k, t) :: t0, tss, ?_, h2, by rw [← h3]; rfl⟩
    obtain ⟨c', r', e3, hc', _, _⟩ := tok_head hcut
    show LexR (TL.tl t ++ (rowsOf ((c :: r).drop t.length)).1) _
    rw [e3] at hcut ⊢
    refine .tok hc' hcut ?_
    have : (c' :: r').drop t.length = (rowsOf ((c :: r).drop t.length)).1 := by rw [← e3, TL.len_tl, List.drop_left]
    rw [this]; exact h1
theorem Paired.get {α β : Type} {R : α → β → Prop} : ∀ {as : List α} {bs : List β}, Paired R as bs → as.length = bs.length ∧ ∀ (i : Nat) a b, as[i]? = some a → bs[i]? = some b → R a b
  | _, _, .nil => ⟨rfl, fun i a b h => by simp at h⟩
  | _, _, .cons h t => by
    obtain ⟨h1, h2⟩ := Paired.get t
    refine ⟨by rw [List.length_cons, List.length_cons, h1], fun i a b ha hb => ?_⟩
    cases i with
    | zero => cases ha; cases hb; exact h
    | succ i => exact h2 i a b (by simpa using ha) (by simpa using hb)
/-- a text whose whole lexes -/
theorem says_of {z : Str} {r : Rota} {S : List Stm} {ts : List (Str × Str)} (ok : ROk r) (sp : Spell r S) (hz : z.length ≤ 10000) (hl : LexR (TL.tl z) ts) (hts : ts ++ [(("end" : Str), ("" : Str))] = rotaToks r S) (hfew : ts.length < 1000) : Says z r S := by
  obtain ⟨t0, tss, h1, h2, h3⟩ := lex_rows hl
  have hsz : 10002 ≤ sizeLine := by decide
  have hy : TL.tl ("\n" : Str) = [10] := by decide +kernel
  have hsp := TL.split_spl z "\n" (by rw [hy]; simp) (TL.kind_ok (by decide +kernel))
  rw [hy, spl_rows, List.nil_append] at hsp
  have hP : Paired LexR ((Txt.split z "\n").map TL.tl) (t0 :: tss) := by rw [hsp]; exact .cons h1 h2
  obtain ⟨g1, g2⟩ := Paired.get hP
  rw [List.length_map] at g1
  -- each row is part of the text
  have hrl : ∀ l : List Nat, (rowsOf l).1.length ≤ l.length ∧ (∀ x ∈ (rowsOf l).2, x.length ≤ l.length) ∧ (rowsOf l).2.length ≤ l.length := fun l => by
    induction l with
    | nil => simp [rowsOf]
    | cons c l ih =>
      obtain ⟨i1, i2, i3⟩ := ih
      by_cases h : c = 10
      · simp only [rowsOf, h, if_pos, List.length_cons, List.length_nil]
        refine ⟨by omega, fun x hx => ?_, by omega⟩
        rcases List.mem_cons.mp hx with rfl | hx
        · omega
        · have := i2 x hx; omega
      · simp only [rowsOf, h, if_false, List.length_cons]
        refine ⟨by omega, fun x hx => ?_, by omega⟩
        have := i2 x hx; omega
  obtain ⟨i1, i2, i3⟩ := hrl (TL.tl z)
  rw [← TL.len_tl] at i1 i2 i3
  refine ⟨ok, sp, by omega, t0 :: tss, g1, fun i row t hi ht => ⟨?_, ?_⟩, ?_, ?_, ?_⟩
  · have hm : TL.tl row ∈ (rowsOf (TL.tl z)).1 :: (rowsOf (TL.tl z)).2 := by rw [← hsp]; exact List.mem_map.mpr ⟨row, List.mem_of_getElem? hi, rfl⟩
    rw [TL.len_tl]
    rcases List.mem_cons.mp hm with e | hm
    · rw [e]; omega
    · have := i2 _ hm; omega
  · exact g2 i _ _ (by rw [List.getElem?_map, hi]; rfl) ht
  · rw [List.flatten_cons, h3]; exact hfew
  · have := congrArg List.length hsp
    rw [List.length_map, List.length_cons] at this
    omega
  · rw [List.flatten_cons, h3]; exact hts
end Br

namespace Br
open PySem PySem.Spec PyProof.Rows L2
/-! ### words of a rota's text -/
def kindOf (w : Str) : Str := match tokAt (TL.tl w) with
  | some (k, _) => k
  | none => ""
def tokOf (w : Str) : Str × Str := (kindOf w, w)
theorem Wk.kind {k w : Str} (h : Wk k w) : tokOf w = (k, w) := by
  unfold tokOf kindOf
  rw [show tokAt (TL.tl w) = some (k, w) from h]
/-- a word of letters or of digits -/
def Wd0 (w : Str) : Prop := ∃ k, Wk k w ∧ k ≠ "sign"
theorem Wd0.wk {w : Str} (h : Wd0 w) : Wk (kindOf w) w := by
  obtain ⟨k, h, _⟩ := h
  have := congrArg Prod.fst h.kind
  show tokAt (TL.tl w) = some (kindOf w, w)
  rw [show kindOf w = k from this]; exact h
theorem dig_plain {c : Nat} (h : dig c = true) : Unicode.isSpace c = false ∧ c ≠ 59 ∧ c ≠ 10 := by
  have : ∀ c ∈ TL.tl "0123456789", Unicode.isSpace c = false ∧ c ≠ 59 ∧ c ≠ 10 := by decide +kernel
  exact this c (of_decide_eq_true h)
theorem ltr_plain {c : Nat} (h : ltr c = true) : Unicode.isSpace c = false ∧ c ≠ 59 ∧ c ≠ 10 := by
  have : ∀ c ∈ TL.tl "abcdefghijklmnopqrstuvwxyz", Unicode.isSpace c = false ∧ c ≠ 59 ∧ c ≠ 10 := by decide +kernel
  exact this c (of_decide_eq_true h)
theorem Wd0.plain {w : Str} (h : Wd0 w) : TL.tl w ≠ [] ∧ ∀ c ∈ TL.tl w, Unicode.isSpace c = false ∧ c ≠ 59 ∧ c ≠ 10 := by
  obtain ⟨k, h, hk⟩ := h
  rcases tok_cases h with ⟨rfl, _⟩ | ⟨p, y, hp, e, h1, h2, h3, h4⟩
  · exact absurd rfl hk
  · refine ⟨h3, fun c hc => ?_⟩
    rcases hp with rfl | rfl
    · exact dig_plain (h1 c hc)
    · exact ltr_plain (h1 c hc)
theorem wk_key : ∀ w ∈ kws, Wk "keyword" w := by unfold Wk; decide +kernel
theorem wk_name : ∀ w ∈ six, Wk "name" w := by unfold Wk; decide +kernel
theorem wk_num {i : Int} (h0 : 0 ≤ i) (h : i < 100) : Wk "number" (num i) := by
  obtain ⟨n, rfl⟩ := Int.eq_ofNat_of_zero_le h0
  have : ∀ n : Nat, n < 100 → tokAt (TL.numL n) = some (("number" : Str), (⟨(TL.numL n).toArray⟩ : Str)) := by decide +kernel
  have h1 := this n (by omega)
  have e : TL.tl (num n) = TL.numL n := TL.tl_num n
  unfold Wk
  rw [e, h1, ← e, TL.mk_tl]
theorem w0_key {w : Str} (h : w ∈ kws) : Wd0 w := ⟨_, wk_key w h, by decide +kernel⟩
theorem w0_name {w : Str} (h : w ∈ six) : Wd0 w := ⟨_, wk_name w h, by decide +kernel⟩
theorem w0_num {i : Int} (h0 : 0 ≤ i) (h : i < 100) : Wd0 (num i) := ⟨_, wk_num h0 h, by decide +kernel⟩
def stmWords (r : Rota) : Stm → List Str
  | .w => "weights" :: r.weights.map num
  | .aw t => awW r t
  | .mk ks => "makeup" :: ks.map (nm r)
/-- a statement fit for the rota -/
def StmOk (r : Rota) : Stm → Prop
  | .w => True
  | .aw t => t ∈ r.aways
  | .mk ks => ks.length ≤ 12 ∧ ∀ k ∈ ks, 0 ≤ k ∧ k < r.names.length
def allWords (r : Rota) (S : List Stm) : List (List Str) := lines2 r ++ S.map (stmWords r)
def lineToks (ws : List Str) : List (Str × Str) := ws.map tokOf ++ [(("sign" : Str), (";" : Str))]
section
variable {r : Rota}
theorem nm_six (ok : ROk r) {k : Int} (h : 0 ≤ k ∧ k < r.names.length) : nm r k ∈ six := ok.six _ (List.mem_of_getElem? (nm_mem h.1 h.2))
theorem words0 (ok : ROk r) {S : List Stm} (hS : ∀ s ∈ S, StmOk r s) : ∀ ws ∈ allWords r S, ws ≠ [] ∧ ws.length ≤ 13 ∧ ∀ x ∈ ws, Wd0 x ∧ x.length ≤ 8 := by
  have l6 : ∀ w ∈ kws, w.length ≤ 8 := by decide +kernel
  have key : ∀ {w : Str}, w ∈ kws → Wd0 w ∧ w.length ≤ 8 := fun h => ⟨w0_key h, l6 _ h⟩
  have nam : ∀ {k : Int}, 0 ≤ k ∧ k < r.names.length → Wd0 (nm r k) ∧ (nm r k).length ≤ 8 := fun h => ⟨w0_name (nm_six ok h), six_len _ (nm_six ok h)⟩
  have nu : ∀ {i : Int}, 0 ≤ i → i < 100 → Wd0 (num i) ∧ (num i).length ≤ 8 := fun h0 h => ⟨w0_num h0 h, Nat.le_trans (num_len' h0 (by omega)) (by decide)⟩
  intro ws hws
  rcases List.mem_append.mp hws with h | h
  · simp only [lines2, List.mem_cons, List.not_mem_nil, or_false] at h
    rcases h with rfl | rfl
    · refine ⟨by simp, by rw [List.length_cons]; have := ok.n6; omega, fun x hx => ?_⟩
      rcases List.mem_cons.mp hx with rfl | hx
      · exact key (by decide +kernel)
      · exact ⟨w0_name (ok.six x hx), six_len _ (ok.six x hx)⟩
    · refine ⟨by simp, by rw [List.length_cons, List.length_map]; have := ok.t12; omega, fun x hx => ?_⟩
      rcases List.mem_cons.mp hx with rfl | hx
      · exact key (by decide +kernel)
      · obtain ⟨t, ht, rfl⟩ := List.mem_map.mp hx
        exact nam (ok.t0 t ht)
  · obtain ⟨s, hs, rfl⟩ := List.mem_map.mp h
    have hso := hS s hs
    cases s with
    | w =>
      refine ⟨by simp [stmWords], by simp only [stmWords, List.length_cons, List.length_map, ok.wl]; have := ok.n6; omega, fun x hx => ?_⟩
      rcases List.mem_cons.mp hx with rfl | hx
      · exact key (by decide +kernel)
      · obtain ⟨v, hv, rfl⟩ := List.mem_map.mp hx
        have := ok.w0 v hv
        exact nu (by omega) (by omega)
    | aw t =>
      obtain ⟨h1, h2, h3, h4, h5⟩ := ok.a0 t hso
      have h6 : t.2.2 ≤ 12 := by simp at h5; omega
      refine ⟨by simp [stmWords, awW], by show 5 ≤ 13; decide, fun x hx => ?_⟩
      simp only [stmWords, awW, List.mem_cons, List.not_mem_nil, or_false] at hx
      rcases hx with rfl | rfl | rfl | rfl | rfl
      · exact key (by decide +kernel)
      · exact nam ⟨h1, h2⟩
      · exact nu h3 (by omega)
      · exact key (by decide +kernel)
      · exact nu (by omega) (by omega)
    | mk ks =>
      obtain ⟨g1, g2⟩ := hso
      refine ⟨by simp [stmWords], by simp only [stmWords, List.length_cons, List.length_map]; omega, fun x hx => ?_⟩
      rcases List.mem_cons.mp hx with rfl | hx
      · exact key (by decide +kernel)
      · obtain ⟨t, ht, rfl⟩ := List.mem_map.mp hx
        exact nam (g2 t ht)
theorem tokOf_key {w : Str} (h : w ∈ kws) : tokOf w = (("keyword" : Str), w) := (wk_key w h).kind
theorem toks_stm (ok : ROk r) {s : Stm} (hs : StmOk r s) : lineToks (stmWords r s) = stmToks r s := by
  have nam : ∀ {k : Int}, 0 ≤ k ∧ k < r.names.length → tokOf (nm r k) = (("name" : Str), nm r k) := fun h => (wk_name _ (nm_six ok h)).kind
  cases s with
  | w =>
    simp only [lineToks, stmWords, stmToks, List.map_cons, List.map_map, List.cons_append]
    rw [tokOf_key (by decide +kernel)]
    refine congrArg (_ :: ·) (congrArg (· ++ _) (List.map_congr_left fun v hv => ?_))
    have := ok.w0 v hv
    exact (wk_num (by omega) (by omega)).kind
  | aw t =>
    obtain ⟨h1, h2, h3, h4, h5⟩ := ok.a0 t hs
    have h6 : t.2.2 ≤ 12 := by simp at h5; omega
    simp only [lineToks, stmWords, stmToks, awToks, awW, List.map_cons, List.map_nil, List.cons_append, List.nil_append]
    rw [tokOf_key (by decide +kernel), nam ⟨h1, h2⟩, (wk_num h3 (by omega)).kind, tokOf_key (by decide +kernel), (wk_num (by omega) (by omega)).kind]
    rfl
  | mk ks =>
    simp only [lineToks, stmWords, stmToks, List.map_cons, List.map_map, List.cons_append]
    rw [tokOf_key (by decide +kernel)]
    refine congrArg (_ :: ·) (congrArg (· ++ _) (List.map_congr_left fun v hv => ?_))
    exact nam (hs.2 v hv)
theorem toks_rota (ok : ROk r) {S : List Stm} (hS : ∀ s ∈ S, StmOk r s) : (allWords r S).flatMap lineToks ++ [(("end" : Str), ("" : Str))] = rotaToks r S := by
  have e1 : (S.map (stmWords r)).flatMap lineToks = S.flatMap (stmToks r) := by
    induction S with
    | nil => rfl
    | cons s S ih =>
      rw [List.map_cons, List.flatMap_cons, List.flatMap_cons, ih fun x hx => hS x (List.mem_cons_of_mem _ hx), toks_stm ok (hS s List.mem_cons_self)]
  have e2 : lineToks ("people" :: r.names) = (("keyword" : Str), ("people" : Str)) :: (r.names.map (fun t => (("name" : Str), t)) ++ [(("sign" : Str), (";" : Str))]) := by
    simp only [lineToks, List.map_cons, List.cons_append]
    rw [tokOf_key (by decide +kernel)]
    exact congrArg (_ :: ·) (congrArg (· ++ _) (List.map_congr_left fun v hv => (wk_name _ (ok.six v hv)).kind))
  have e3 : lineToks ("turns" :: r.turns.map (nm r)) = (("keyword" : Str), ("turns" : Str)) :: ((r.turns.map (nmL r.names)).map (fun t => (("name" : Str), t)) ++ [(("sign" : Str), (";" : Str))]) := by
    simp only [lineToks, List.map_cons, List.cons_append, List.map_map]
    rw [tokOf_key (by decide +kernel)]
    exact congrArg (_ :: ·) (congrArg (· ++ _) (List.map_congr_left fun v hv => (wk_name _ (nm_six ok (ok.t0 v hv))).kind))
  unfold allWords lines2 rotaToks
  rw [List.flatMap_append, e1, List.flatMap_cons, List.flatMap_cons, List.flatMap_nil, e2, e3]
  simp [List.append_assoc]
end
/-! ### the canonical text -/
theorem lex_words : ∀ (ws : List Str) (rest : List Nat) (ts : List (Str × Str)), ws ≠ [] → (∀ x ∈ ws, Wd0 x) → LexR rest ts → LexR (TL.joinL [32] (ws.map TL.tl) ++ (59 :: rest)) (lineToks ws ++ ts)
  | [], _, _, h, _, _ => absurd rfl h
  | [w], rest, ts, _, h, hr => by
    have h1 := (h w List.mem_cons_self).wk
    refine LexR.word h1 (Stop.cons (.inr (.inr rfl))) ?_
    exact LexR.tok (by decide) (by rfl) hr
  | w :: v :: ws, rest, ts, _, h, hr => by
    have h1 := (h w List.mem_cons_self).wk
    have ih := lex_words (v :: ws) rest ts (by simp) (fun x hx => h x (List.mem_cons_of_mem _ hx)) hr
    have e : TL.joinL [32] ((w :: v :: ws).map TL.tl) ++ (59 :: rest) = TL.tl w ++ (32 :: (TL.joinL [32] ((v :: ws).map TL.tl) ++ (59 :: rest))) := by
      simp [TL.joinL]
    rw [e]
    exact LexR.word h1 (Stop.cons (.inl rfl)) (.space (.inl rfl) ih)
theorem tl_line (ws : List Str) : TL.tl (lineS ws) = TL.joinL [32] (ws.map TL.tl) ++ [59] := by
  unfold lineS
  rw [TL.tl_append, TL.join_eq, TL.tl_join]
  rfl
theorem lex_lines : ∀ (W : List (List Str)), (∀ ws ∈ W, ws ≠ [] ∧ ∀ x ∈ ws, Wd0 x) → LexR (TL.joinL [10] ((W.map lineS).map TL.tl)) (W.flatMap lineToks)
  | [], _ => .nil
  | [ws], h => by
    obtain ⟨h1, h2⟩ := h ws List.mem_cons_self
    have := lex_words ws [] [] h1 h2 .nil
    rw [← tl_line, List.append_nil] at this
    rw [List.flatMap_cons, List.flatMap_nil, List.append_nil]
    exact this
  | ws :: vs :: W, h => by
    obtain ⟨h1, h2⟩ := h ws List.mem_cons_self
    have ih := lex_lines (vs :: W) fun x hx => h x (List.mem_cons_of_mem _ hx)
    have := lex_words ws (10 :: TL.joinL [10] (((vs :: W).map lineS).map TL.tl)) _ h1 h2 (.space (.inr rfl) ih)
    have e : TL.joinL [10] (((ws :: vs :: W).map lineS).map TL.tl) = TL.joinL [32] (ws.map TL.tl) ++ 59 :: (10 :: TL.joinL [10] (((vs :: W).map lineS).map TL.tl)) := by
      simp only [List.map_cons, TL.joinL, tl_line, List.append_assoc]; rfl
    rw [e, List.flatMap_cons]
    exact this
def canonS (r : Rota) : List Stm := (if heavy r = true then [Stm.w] else []) ++ r.aways.map Stm.aw ++ (if r.makers.isEmpty = true then [] else [Stm.mk r.makers])
theorem canon_words (r : Rota) : allWords r (canonS r) = lineWords r := by
  unfold allWords canonS lineWords linesW linesM
  rw [List.map_append, List.map_append, List.map_map, ← List.append_assoc, ← List.append_assoc]
  have e1 : (if heavy r = true then [Stm.w] else []).map (stmWords r) = if heavy r = true then [("weights" : Str) :: r.weights.map num] else [] := by split <;> rfl
  have e2 : (if r.makers.isEmpty = true then [] else [Stm.mk r.makers]).map (stmWords r) = if r.makers.isEmpty = true then [] else [("makeup" : Str) :: r.makers.map (nm r)] := by split <;> rfl
  rw [e1, e2]; rfl
theorem canon_ok {r : Rota} (ok : ROk r) : ∀ s ∈ canonS r, StmOk r s := by
  intro s hs
  rcases List.mem_append.mp hs with hs | hs
  · rcases List.mem_append.mp hs with hs | hs
    · split at hs
      · rw [List.mem_singleton.mp hs]; exact True.intro
      · cases hs
    · obtain ⟨t, ht, rfl⟩ := List.mem_map.mp hs; exact ht
  · split at hs
    · cases hs
    · rw [List.mem_singleton.mp hs]
      have := asc_len ok.masc (n := r.names.length) ok.m0
      have := ok.n6
      exact ⟨by omega, ok.m0⟩
theorem w_ones {r : Rota} (ok : ROk r) (h : heavy r = false) : r.weights = List.replicate r.names.length 1 := by
  rw [← ok.wl, List.eq_replicate_iff]
  refine ⟨rfl, fun x hx => ?_⟩
  have h1 := ok.w0 x hx
  have h2 : ¬ (1 < x) := fun h3 => by
    unfold heavy at h
    have : r.weights.any (fun v => decide (1 < v)) = true := List.any_eq_true.mpr ⟨x, hx, decide_eq_true h3⟩
    rw [this] at h; cases h
  omega
theorem canon_aw (r : Rota) : (canonS r).filterMap Stm.aw? = r.aways := by
  unfold canonS
  rw [List.filterMap_append, List.filterMap_append]
  have e1 : (if heavy r = true then [Stm.w] else []).filterMap Stm.aw? = [] := by split <;> rfl
  have e2 : (if r.makers.isEmpty = true then [] else [Stm.mk r.makers]).filterMap Stm.aw? = [] := by split <;> rfl
  have e3 : (r.aways.map Stm.aw).filterMap Stm.aw? = r.aways := by
    rw [List.filterMap_map]; exact List.filterMap_some ..
  rw [e1, e2, e3, List.nil_append, List.append_nil]
theorem canon_w (r : Rota) : (canonS r).filter Stm.isW = if heavy r = true then [Stm.w] else [] := by
  unfold canonS
  rw [List.filter_append, List.filter_append]
  have e1 : (if heavy r = true then [Stm.w] else []).filter Stm.isW = if heavy r = true then [Stm.w] else [] := by split <;> rfl
  have e2 : (if r.makers.isEmpty = true then [] else [Stm.mk r.makers]).filter Stm.isW = [] := by split <;> rfl
  have e3 : (r.aways.map Stm.aw).filter Stm.isW = [] := by
    rw [List.filter_eq_nil_iff]; intro s hs
    obtain ⟨t, _, rfl⟩ := List.mem_map.mp hs; simp [Stm.isW]
  rw [e1, e2, e3, List.append_nil, List.append_nil]
theorem canon_m (r : Rota) : (canonS r).filterMap Stm.mk? = if r.makers.isEmpty = true then [] else [r.makers] := by
  unfold canonS
  rw [List.filterMap_append, List.filterMap_append]
  have e1 : (if heavy r = true then [Stm.w] else []).filterMap Stm.mk? = [] := by split <;> rfl
  have e2 : (if r.makers.isEmpty = true then [] else [Stm.mk r.makers]).filterMap Stm.mk? = if r.makers.isEmpty = true then [] else [r.makers] := by split <;> rfl
  have e3 : (r.aways.map Stm.aw).filterMap Stm.mk? = [] := by
    rw [List.filterMap_eq_nil_iff]; intro s hs
    obtain ⟨t, _, rfl⟩ := List.mem_map.mp hs; rfl
  rw [e1, e2, e3]; rfl
theorem canon_spell {r : Rota} (ok : ROk r) : Spell r (canonS r) := by
  have ml := asc_len ok.masc (n := r.names.length) ok.m0
  have n6 := ok.n6
  refine ⟨?_, fun h => ?_, fun t => by rw [canon_aw], by rw [canon_aw]; have := ok.a6; omega, ?_, fun ks h => ?_, fun h => ?_⟩
  · rw [canon_w]; split <;> simp
  · rw [canon_w] at h
    refine w_ones ok ?_
    cases hh : heavy r
    · rfl
    · rw [hh, if_pos rfl] at h; cases h
  · rw [canon_m]; split <;> simp
  · rw [canon_m] at h
    split at h
    · cases h
    · rename_i hm
      rw [List.mem_singleton.mp h]
      refine ⟨fun e => hm (by rw [e]; rfl), by omega, fun k => Iff.rfl⟩
  · rw [canon_m] at h
    split at h
    · rename_i hm; exact List.isEmpty_iff.mp hm
    · cases h
theorem text_len {r : Rota} (ok : ROk r) : (textOf r).length ≤ 10000 := by
  have h1 := join_len "\n" ((lineWords r).map lineS) 200 fun s hs => by
    obtain ⟨ws, hws, rfl⟩ := List.mem_map.mp hs
    have := words_len ok ws hws
    exact lineS_len this.1 this.2
  have h2 := lines_few ok
  have e1 : (("\n" : Str)).length = 1 := by decide
  rw [e1, List.length_map] at h1
  unfold textOf
  have : (lineWords r).length * (200 + 1) ≤ 10 * 201 := Nat.mul_le_mul (by omega) (by decide)
  omega
theorem says_text {r : Rota} (ok : ROk r) : Says (textOf r) r (canonS r) := by
  have hw := words0 ok (canon_ok ok)
  have hl := lex_lines (lineWords r) fun ws hws => by
    rw [← canon_words] at hws
    exact ⟨(hw ws hws).1, fun x hx => ((hw ws hws).2.2 x hx).1⟩
  have e : TL.tl (textOf r) = TL.joinL [10] (((lineWords r).map lineS).map TL.tl) := by
    unfold textOf
    rw [TL.join_eq, TL.tl_join]
    have : TL.tl ("\n" : Str) = [10] := by decide +kernel
    rw [this]
  rw [← e] at hl
  refine says_of ok (canon_spell ok) (text_len ok) hl ?_ ?_
  · rw [← canon_words]; exact toks_rota ok (canon_ok ok)
  · have h2 := lines_few ok
    rw [List.length_flatMap]
    have := sum_le (fun ws => (lineToks ws).length) 14 (lineWords r) fun ws hws => by
      have := (words_len ok ws hws).1
      unfold lineToks
      rw [List.length_append, List.length_map, List.length_singleton]; omega
    have h3 : (lineWords r).length * 14 ≤ 10 * 14 := Nat.mul_le_mul (by omega) (by decide)
    omega
end Br

namespace Br
open PySem PySem.Spec PyProof.Rows L2
/-! ### replace, words -/
theorem replace_tl (x y z : Str) (hy : TL.tl y ≠ []) (hk : ¬ Builtin.Str.strKind x < Builtin.Str.strKind y) : TL.tl (Txt.replace x y z) = TL.joinL (TL.tl z) (TL.spl (TL.tl y) 0 [] (TL.tl x)) := by
  have hs := TL.split_spl x y hy hk
  rw [← hs]
  have hyl : (y.length == 0) = false := by
    rw [beq_eq_false_iff_ne]
    exact fun e => hy ((TL.len0_tl y).mp e)
  unfold Txt.replace Txt.split
  by_cases ho : (Builtin.Str.occurrences x y 0 x.length (x.length + 1)).isEmpty = true
  · rw [if_pos (by rw [ho]; rfl)]
    split
    · rfl
    · rfl
  · have ho' : (Builtin.Str.occurrences x y 0 x.length (x.length + 1)).isEmpty = false := by simpa using ho
    rw [if_neg (by rw [ho', hyl]; simp)]
    have h1 : ¬ (decide (x.length < y.length) || decide (Builtin.Str.strKind x < Builtin.Str.strKind y)) = true := by
      intro h
      have hlt : x.length < y.length := by
        simp only [Bool.or_eq_true, decide_eq_true_eq] at h
        exact h.resolve_right hk
      obtain ⟨f, g, hn⟩ := PySem.StrLaws.occ_tight x y (TL.len1 hy)
      cases hc : Builtin.Str.occurrences x y 0 x.length (x.length + 1) with
      | nil => rw [hc] at ho; exact ho rfl
      | cons c r =>
        rw [hc] at g
        have hc : c + y.length ≤ x.length := g.2.1.1
        omega
    rw [if_neg h1, if_neg ho]
    exact (congrArg TL.tl (TL.join_eq z _)).trans (TL.tl_join z _)
theorem spl_ne (S : List Nat) : ∀ (l acc : List Nat), TL.spl [59] 0 acc l ≠ []
  | [], acc => by rw [TL.spl_nil]; simp
  | c :: r, acc => by
    by_cases h : c = 59
    · subst h; rw [TL.spl_hit (by rfl)]; simp
    · rw [TL.spl_miss (TL.pre_of_head [] r h)]; exact spl_ne S r _
def wide (c : Nat) : List Nat := if c = 59 then [32, 59, 32] else [c]
theorem wide_join : ∀ (l acc : List Nat), TL.joinL [32, 59, 32] (TL.spl [59] 0 acc l) = acc ++ l.flatMap wide
  | [], acc => by rw [TL.spl_nil]; simp [TL.joinL]
  | c :: r, acc => by
    by_cases h : c = 59
    · subst h
      rw [TL.spl_hit (by rfl)]
      show TL.joinL [32, 59, 32] (acc :: TL.spl [59] 0 [] r) = _
      have ih := wide_join r []
      obtain ⟨q, rr, e⟩ := List.exists_cons_of_ne_nil (spl_ne [] r [])
      rw [e] at ih ⊢
      rw [TL.joinL, ih]
      simp [wide]
    · rw [TL.spl_miss (TL.pre_of_head [] r h), wide_join r (acc ++ [c])]
      simp [wide, h]
theorem wide_free {b : List Nat} (h : 59 ∉ b) : b.flatMap wide = b := by
  induction b with
  | nil => rfl
  | cons c b ih =>
    have hc : c ≠ 59 := fun e => h (by rw [e]; exact List.mem_cons_self)
    rw [List.flatMap_cons, ih fun hm => h (List.mem_cons_of_mem _ hm)]
    simp [wide, hc]
theorem wfold_pre : ∀ (l : List Nat) (w0 ws : List (List Nat)) (u : List Nat), l.foldl TL.wstep (w0 ++ ws, u) = (w0 ++ (l.foldl TL.wstep (ws, u)).1, (l.foldl TL.wstep (ws, u)).2)
  | [], w0, ws, u => rfl
  | c :: l, w0, ws, u => by
    rw [List.foldl_cons, List.foldl_cons]
    have e : TL.wstep (w0 ++ ws, u) c = (w0 ++ (TL.wstep (ws, u) c).1, (TL.wstep (ws, u) c).2) := by
      unfold TL.wstep
      by_cases h : Unicode.isSpace c = true
      · rw [if_pos h, if_pos h]
        by_cases hu : u = []
        · simp [hu]
        · simp [hu]
      · rw [if_neg h, if_neg h]
    rw [e]
    exact wfold_pre l w0 _ _
theorem w32 (ws : List (List Nat)) (u : List Nat) : TL.wstep (ws, u) 32 = (if u = [] then (ws, u) else (ws ++ [u], [])) := if_pos (by decide +kernel)
theorem w10 (ws : List (List Nat)) : TL.wstep (ws, []) 10 = (ws, []) := by
  have h : Unicode.isSpace 10 = true := by decide +kernel
  unfold TL.wstep; rw [if_pos h]; rfl
theorem w59 (ws : List (List Nat)) : TL.wstep (ws, []) 59 = (ws, [59]) := by
  have h : ¬ Unicode.isSpace 59 = true := by decide +kernel
  unfold TL.wstep; rw [if_neg h]; rfl
/-- a line and its words -/
def Lw (u : Str) (ws : List Str) : Prop := ∃ b, TL.tl u = b ++ [59] ∧ 59 ∉ b ∧ (b ++ [32]).foldl TL.wstep ([], []) = (ws.map TL.tl, [])
theorem lw_fold {u : Str} {ws : List Str} (h : Lw u ws) (w0 : List (List Nat)) : ((TL.tl u).flatMap wide).foldl TL.wstep (w0, []) = (w0 ++ (ws ++ [(";" : Str)]).map TL.tl, []) := by
  obtain ⟨b, e, h59, hf⟩ := h
  have e1 : (TL.tl u).flatMap wide = (b ++ [32]) ++ [59, 32] := by
    rw [e, List.flatMap_append, wide_free h59]; simp [wide]
  have hp := wfold_pre (b ++ [32]) w0 [] []
  rw [List.append_nil, hf] at hp
  rw [e1, List.foldl_append, hp, List.foldl_cons, w59, List.foldl_cons, w32, if_neg (by simp), List.foldl_nil]
  simp only [List.map_append, List.append_assoc]
  rfl
theorem lines_fold : ∀ (L : List (Str × List Str)), (∀ q ∈ L, Lw q.1 q.2) → ∀ w0, ((TL.joinL [10] (L.map fun q => TL.tl q.1)).flatMap wide).foldl TL.wstep (w0, []) = (w0 ++ (L.flatMap fun q => q.2 ++ [(";" : Str)]).map TL.tl, [])
  | [], _, w0 => by simp [TL.joinL]
  | [q], h, w0 => by
    have := lw_fold (h q List.mem_cons_self) w0
    simpa [TL.joinL] using this
  | q :: q2 :: L, h, w0 => by
    have h1 := lw_fold (h q List.mem_cons_self) w0
    have ih := lines_fold (q2 :: L) (fun x hx => h x (List.mem_cons_of_mem _ hx)) (w0 ++ (q.2 ++ [(";" : Str)]).map TL.tl)
    have e : (TL.joinL [10] ((q :: q2 :: L).map fun q => TL.tl q.1)).flatMap wide = (TL.tl q.1).flatMap wide ++ (10 :: (TL.joinL [10] ((q2 :: L).map fun q => TL.tl q.1)).flatMap wide) := by
      simp only [List.map_cons, TL.joinL, List.flatMap_append]
      rfl
    rw [e, List.foldl_append, h1, List.foldl_cons, w10, ih, List.flatMap_cons (x := q), List.map_append (l₁ := q.2 ++ [(";" : Str)]), List.append_assoc]
theorem parts_of (L : List (Str × List Str)) (h : ∀ q ∈ L, Lw q.1 q.2) : Txt.words (Txt.replace (Txt.join "\n" (L.map (·.1))) ";" " ; ") = L.flatMap fun q => q.2 ++ [(";" : Str)] := by
  refine TL.map_tl_inj ?_
  rw [TL.words_tl, replace_tl _ _ _ (by decide +kernel) (TL.kind_ok (by decide +kernel))]
  have e1 : TL.tl (";" : Str) = [59] := by decide +kernel
  have e2 : TL.tl (" ; " : Str) = [32, 59, 32] := by decide +kernel
  have e3 : TL.tl ("\n" : Str) = [10] := by decide +kernel
  rw [e1, e2, wide_join, List.nil_append, TL.join_eq, TL.tl_join, e3, List.map_map]
  have := lines_fold L h []
  show TL.wfin (((TL.joinL [10] (L.map fun q => TL.tl q.1)).flatMap wide).foldl TL.wstep ([], [])) = _
  rw [this]; rfl
/-! ### the lines -/
theorem joinL_fold : ∀ (ps : List (List Nat)) (ws : List (List Nat)), ps ≠ [] → (∀ p ∈ ps, p ≠ [] ∧ ∀ c ∈ p, Unicode.isSpace c = false) → (TL.joinL [32] ps ++ [32]).foldl TL.wstep (ws, []) = (ws ++ ps, [])
  | [], _, h, _ => absurd rfl h
  | [p], ws, _, h => by
    obtain ⟨h1, h2⟩ := h p (List.mem_singleton.mpr rfl)
    show (p ++ [32]).foldl TL.wstep (ws, []) = _
    rw [List.foldl_append, TL.wfold_word p ws [] h2, List.nil_append, List.foldl_cons, w32, if_neg h1]; rfl
  | p :: q :: r, ws, _, h => by
    obtain ⟨h1, h2⟩ := h p (List.mem_cons_self ..)
    have ih := joinL_fold (q :: r) (ws ++ [p]) (by simp) fun x hx => h x (List.mem_cons_of_mem _ hx)
    have e : TL.joinL [32] (p :: q :: r) ++ [32] = p ++ (32 :: (TL.joinL [32] (q :: r) ++ [32])) := by simp [TL.joinL]
    rw [e, List.foldl_append, TL.wfold_word p ws [] h2, List.nil_append, List.foldl_cons, w32, if_neg h1, ih, List.append_assoc]; rfl
theorem joinL_mem {c : Nat} : ∀ {ps : List (List Nat)}, c ∈ TL.joinL [32] ps → c = 32 ∨ ∃ p ∈ ps, c ∈ p
  | [], h => by cases h
  | [p], h => .inr ⟨p, List.mem_cons_self, h⟩
  | p :: q :: r, h => by
    rw [TL.joinL] at h
    rcases List.mem_append.mp h with h | h
    · exact .inr ⟨p, List.mem_cons_self, h⟩
    · rcases List.mem_append.mp h with h | h
      · exact .inl (List.mem_singleton.mp h)
      · rcases joinL_mem h with h | ⟨x, hx, hc⟩
        · exact .inl h
        · exact .inr ⟨x, List.mem_cons_of_mem _ hx, hc⟩
theorem lw_line {ws : List Str} (hne : ws ≠ []) (h : ∀ x ∈ ws, Wd0 x) : Lw (lineS ws) ws := by
  refine ⟨_, tl_line ws, fun hm => ?_, ?_⟩
  · rcases joinL_mem hm with e | ⟨p, hp, hc⟩
    · cases e
    · obtain ⟨x, hx, rfl⟩ := List.mem_map.mp hp
      exact ((h x hx).plain.2 _ hc).2.1 rfl
  · have := joinL_fold (ws.map TL.tl) [] (by simpa using hne) fun p hp => by
      obtain ⟨x, hx, rfl⟩ := List.mem_map.mp hp
      exact ⟨(h x hx).plain.1, fun c hc => ((h x hx).plain.2 c hc).1⟩
    exact this
theorem line_no10 {ws : List Str} (h : ∀ x ∈ ws, Wd0 x) : 10 ∉ TL.tl (lineS ws) := by
  rw [tl_line]
  intro hm
  rcases List.mem_append.mp hm with hm | hm
  · rcases joinL_mem hm with e | ⟨p, hp, hc⟩
    · cases e
    · obtain ⟨x, hx, rfl⟩ := List.mem_map.mp hp
      exact ((h x hx).plain.2 _ hc).2.2 rfl
  · simp at hm
/-- the line of ones -/
theorem lw_ones (n : Nat) : Lw ("weights " ++ repS "1 " n ++ ";") ("weights" :: (List.replicate n (1 : Int)).map num) := by
  have e1 : TL.tl ("1 " : Str) = [49, 32] := by decide +kernel
  have e2 : TL.tl (num 1) = [49] := by decide +kernel
  have hr : TL.tl (repS "1 " n) = (List.replicate n [49, 32]).flatten := by
    have := repS_list "1 " n
    exact this.trans (by rw [show ("1 " : Str).cps.toList = [49, 32] from e1])
  refine ⟨TL.tl "weights " ++ TL.tl (repS "1 " n), by rw [TL.tl_append, TL.tl_append]; rfl, fun hm => ?_, ?_⟩
  · rcases List.mem_append.mp hm with hm | hm
    · revert hm; decide +kernel
    · rw [hr] at hm
      obtain ⟨l, hl, hc⟩ := List.mem_flatten.mp hm
      rw [(List.mem_replicate.mp hl).2] at hc
      revert hc; decide
  · have hw : (TL.tl ("weights " : Str)).foldl TL.wstep ([], []) = ([TL.tl ("weights" : Str)], []) := by decide +kernel
    have key : ∀ (n : Nat) (ws : List (List Nat)), ((List.replicate n [49, 32]).flatten ++ [32]).foldl TL.wstep (ws, []) = (ws ++ List.replicate n [49], []) := by
      intro n
      induction n with
      | zero => intro ws; show TL.wstep (ws, []) 32 = _; rw [w32, if_pos rfl]; simp
      | succ n ih =>
        intro ws
        have h49 : TL.wstep (ws, []) 49 = (ws, [49]) := by
          have h : ¬ Unicode.isSpace 49 = true := by decide +kernel
          unfold TL.wstep; rw [if_neg h]; rfl
        rw [List.replicate_succ, List.flatten_cons, List.append_assoc]
        show ((List.replicate n [49, 32]).flatten ++ [32]).foldl TL.wstep (TL.wstep (TL.wstep (ws, []) 49) 32) = _
        rw [h49, w32, if_neg (by simp), ih, List.replicate_succ, List.append_assoc]; rfl
    rw [List.append_assoc, List.foldl_append, hw, hr, key]
    rw [List.map_cons, List.map_map, List.map_replicate]
    show _ = (_ :: List.replicate n (TL.tl (num 1)), _)
    rw [e2]; rfl
/-! ### the loose text -/
theorem lex_gaps : ∀ (L : List (List Nat × Str)), (∀ q ∈ L, q.1 ≠ [] ∧ (∀ c ∈ q.1, c = 32 ∨ c = 10) ∧ Wk (kindOf q.2) q.2) → LexR (L.flatMap fun q => q.1 ++ TL.tl q.2) (L.map fun q => tokOf q.2) ∧ Stop (L.flatMap fun q => q.1 ++ TL.tl q.2)
  | [], _ => ⟨.nil, Stop.nil⟩
  | q :: L, h => by
    obtain ⟨h1, h2, h3⟩ := h q List.mem_cons_self
    obtain ⟨i1, i2⟩ := lex_gaps L fun x hx => h x (List.mem_cons_of_mem _ hx)
    rw [List.flatMap_cons, List.append_assoc]
    refine ⟨LexR.gap h2 (LexR.word h3 i2 i1), ?_⟩
    obtain ⟨c, g, e⟩ := List.exists_cons_of_ne_nil h1
    rw [e]
    have := h2 c (by rw [e]; exact List.mem_cons_self)
    exact Stop.cons (by rcases this with h | h <;> simp [h])
end Br

namespace Br
open PySem PySem.Spec PyProof.Rows L2
/-! ### loose lines -/
def fc : Stm → Nat
  | .w => 119
  | .aw _ => 97
  | .mk _ => 109
theorem strOk_of {z : Str} (h : ∀ c ∈ TL.tl z, c < 128) : PySem.PyData.strOk z = true := by
  unfold PySem.PyData.strOk
  rw [← Array.all_toList, List.all_eq_true]
  intro c hc
  exact decide_eq_true (Nat.lt_trans (h c hc) (by decide))
theorem Wd0.small {w : Str} (h : Wd0 w) : ∀ c ∈ TL.tl w, c < 128 := by
  obtain ⟨k, h, hk⟩ := h
  rcases tok_cases h with ⟨rfl, _⟩ | ⟨p, y, hp, e, h1, h2, h3, h4⟩
  · exact absurd rfl hk
  · intro c hc
    have a1 : ∀ c ∈ TL.tl "0123456789", c < 128 := by decide +kernel
    have a2 : ∀ c ∈ TL.tl "abcdefghijklmnopqrstuvwxyz", c < 128 := by decide +kernel
    rcases hp with rfl | rfl
    · exact a1 c (of_decide_eq_true (h1 c hc))
    · exact a2 c (of_decide_eq_true (h1 c hc))
theorem line_small {ws : List Str} (h : ∀ x ∈ ws, Wd0 x) : ∀ c ∈ TL.tl (lineS ws), c < 128 := by
  rw [tl_line]
  intro c hm
  rcases List.mem_append.mp hm with hm | hm
  · rcases joinL_mem hm with rfl | ⟨p, hp, hc⟩
    · decide
    · obtain ⟨x, hx, rfl⟩ := List.mem_map.mp hp
      exact (h x hx).small c hc
  · rw [List.mem_singleton.mp hm]; decide
theorem ones_small (n : Nat) : ∀ c ∈ TL.tl ("weights " ++ repS "1 " n ++ ";"), c < 128 := by
  rw [TL.tl_append, TL.tl_append]
  intro c hm
  rcases List.mem_append.mp hm with hm | hm
  · rcases List.mem_append.mp hm with hm | hm
    · have : ∀ c ∈ TL.tl ("weights " : Str), c < 128 := by decide +kernel
      exact this c hm
    · have hr : TL.tl (repS "1 " n) = (List.replicate n (TL.tl ("1 " : Str))).flatten := repS_list "1 " n
      rw [hr] at hm
      obtain ⟨l, hl, hc⟩ := List.mem_flatten.mp hm
      rw [(List.mem_replicate.mp hl).2] at hc
      have : ∀ c ∈ TL.tl ("1 " : Str), c < 128 := by decide +kernel
      exact this c hc
  · have : ∀ c ∈ TL.tl (";" : Str), c < 128 := by decide +kernel
    exact this c hm
/-- a line of a statement -/
def LnOk (r : Rota) (q : Str × Stm) : Prop := Lw q.1 (stmWords r q.2) ∧ (∃ rest, TL.tl q.1 = fc q.2 :: rest) ∧ StmOk r q.2 ∧ q.1.length ≤ 200 ∧ PySem.PyData.strOk q.1 = true
structure LoOk (r : Rota) (L : List (Str × Stm)) : Prop where
  ln : ∀ q ∈ L, LnOk r q
  sp : Spell r (L.map Prod.snd)
  few : L.length ≤ 20
theorem Spell.perm {r : Rota} {S S' : List Stm} (h : Spell r S) (p : S'.Perm S) : Spell r S' := by
  have pf := p.filter Stm.isW
  have pa := p.filterMap Stm.aw?
  have pm := p.filterMap Stm.mk?
  refine ⟨by rw [pf.length_eq]; exact h.w1, fun e => h.w0 ?_, fun t => (pa.mem_iff).trans (h.aw t), by rw [pa.length_eq]; exact h.aw20, by rw [pm.length_eq]; exact h.m1, fun ks hk => h.mks ks (pm.mem_iff.mp hk), fun e => h.m0 ?_⟩
  · rw [e] at pf; exact (List.nil_perm.mp pf)
  · rw [e] at pm; exact (List.nil_perm.mp pm)
theorem LoOk.perm {r : Rota} {L L' : List (Str × Stm)} (h : LoOk r L) (p : L'.Perm L) : LoOk r L' :=
  ⟨fun q hq => h.ln q (p.mem_iff.mp hq), h.sp.perm (p.map _), by rw [p.length_eq]; exact h.few⟩
theorem fc_line {r : Rota} (ok : ROk r) {s : Stm} (hs : StmOk r s) : LnOk r (lineS (stmWords r s), s) := by
  have hm : stmWords r s ∈ allWords r [s] := by
    unfold allWords
    exact List.mem_append_right _ (List.mem_map.mpr ⟨s, List.mem_cons_self, rfl⟩)
  obtain ⟨h1, h2, h3⟩ := words0 ok (S := [s]) (fun x hx => by rw [List.mem_singleton.mp hx]; exact hs) _ hm
  refine ⟨lw_line h1 fun x hx => (h3 x hx).1, ?_, hs, lineS_len h2 fun x hx => (h3 x hx).2, strOk_of (line_small fun x hx => (h3 x hx).1)⟩
  have key : ∀ (w : Str) (c : Nat) (rr : List Nat) (ws : List Str), TL.tl w = c :: rr → ∃ rest, TL.tl (lineS (w :: ws)) = c :: rest := fun w c rr ws e => by
    rw [tl_line]
    cases ws with
    | nil => exact ⟨rr ++ [59], by simp [TL.joinL, e]⟩
    | cons v vs => exact ⟨_, by rw [List.map_cons, List.map_cons, TL.joinL, e]; rfl⟩
  cases s with
  | w => exact key "weights" 119 _ _ (by rfl)
  | aw t => exact key "away" 97 _ _ (by rfl)
  | mk ks => exact key "makeup" 109 _ _ (by rfl)
def onesL (r : Rota) : Str × Stm := ("weights " ++ repS "1 " r.names.length ++ ";", .w)
def loose0 (r : Rota) : List (Str × Stm) := (canonS r).map (fun s => (lineS (stmWords r s), s)) ++ (if heavy r = true then [] else [onesL r])
theorem loose_ok {r : Rota} (ok : ROk r) {D : List (Int × Int × Int)} (hD : ∀ t ∈ D, t ∈ r.aways) (hl : D.length ≤ 8) : LoOk r (loose0 r ++ D.map fun t => (lineS (awW r t), .aw t)) := by
  have n6 := ok.n6
  have a6 := ok.a6
  have hc := canon_ok ok
  have hsp := canon_spell ok
  have ecan : ((canonS r).map (fun s => (lineS (stmWords r s), s))).map Prod.snd = canonS r := by rw [List.map_map]; exact List.map_id' _
  have eD : (D.map fun t => (lineS (awW r t), Stm.aw t)).map Prod.snd = D.map Stm.aw := by rw [List.map_map]; rfl
  have e1 : (D.map Stm.aw).filter Stm.isW = [] := by
    rw [List.filter_eq_nil_iff]; intro s hs
    obtain ⟨t, _, rfl⟩ := List.mem_map.mp hs; simp [Stm.isW]
  have e2 : (D.map Stm.aw).filterMap Stm.mk? = [] := by
    rw [List.filterMap_eq_nil_iff]; intro s hs
    obtain ⟨t, _, rfl⟩ := List.mem_map.mp hs; rfl
  have e3 : (D.map Stm.aw).filterMap Stm.aw? = D := by
    rw [List.filterMap_map]; exact List.filterMap_some ..
  have hclen : (canonS r).length ≤ 8 := by
    unfold canonS
    rw [List.length_append, List.length_append, List.length_map]
    split <;> split <;> simp <;> omega
  have hln : ∀ q ∈ loose0 r ++ D.map (fun t => (lineS (awW r t), Stm.aw t)), LnOk r q := by
    intro q hq
    rcases List.mem_append.mp hq with hq | hq
    · rcases List.mem_append.mp hq with hq | hq
      · obtain ⟨s, hs, rfl⟩ := List.mem_map.mp hq
        exact fc_line ok (hc s hs)
      · split at hq
        · cases hq
        · rename_i hh
          rw [List.mem_singleton.mp hq]
          have hw : r.weights = List.replicate r.names.length 1 := w_ones ok (by simpa using hh)
          refine ⟨?_, ⟨_, by unfold onesL; rw [TL.tl_append, TL.tl_append]; rfl⟩, True.intro, ?_, strOk_of (ones_small _)⟩
          · show Lw _ ("weights" :: r.weights.map num)
            rw [hw]; exact lw_ones _
          · show ("weights " ++ repS "1 " r.names.length ++ ";").length ≤ 200
            have l1 : ("weights " : Str).length = 8 := by decide
            have l2 : ("1 " : Str).length = 2 := by decide
            rw [app_len, app_len, repS_length, l2]
            have l3 : (";" : Str).length = 1 := by decide
            omega
    · obtain ⟨t, ht, rfl⟩ := List.mem_map.mp hq
      exact fc_line ok (s := .aw t) (hD t ht)
  refine ⟨hln, ?_, ?_⟩
  · have eS : (loose0 r ++ D.map fun t => (lineS (awW r t), Stm.aw t)).map Prod.snd = canonS r ++ (if heavy r = true then [] else [Stm.w]) ++ D.map Stm.aw := by
      rw [List.map_append, eD]
      unfold loose0
      rw [List.map_append, ecan]
      split <;> rfl
    rw [eS]
    have o1 : (if heavy r = true then [] else [Stm.w]).filter Stm.isW = if heavy r = true then [] else [Stm.w] := by split <;> rfl
    have o2 : (if heavy r = true then [] else [Stm.w]).filterMap Stm.aw? = [] := by split <;> rfl
    have o3 : (if heavy r = true then [] else [Stm.w]).filterMap Stm.mk? = [] := by split <;> rfl
    have f1 : (canonS r ++ (if heavy r = true then [] else [Stm.w]) ++ D.map Stm.aw).filter Stm.isW = [Stm.w] := by
      rw [List.filter_append, List.filter_append, e1, o1, canon_w]
      split <;> rfl
    have f2 : (canonS r ++ (if heavy r = true then [] else [Stm.w]) ++ D.map Stm.aw).filterMap Stm.aw? = r.aways ++ D := by
      rw [List.filterMap_append, List.filterMap_append, e3, o2, canon_aw, List.append_nil]
    have f3 : (canonS r ++ (if heavy r = true then [] else [Stm.w]) ++ D.map Stm.aw).filterMap Stm.mk? = (canonS r).filterMap Stm.mk? := by
      rw [List.filterMap_append, List.filterMap_append, e2, o3, List.append_nil, List.append_nil]
    refine ⟨by rw [f1]; decide, fun h => (by rw [f1] at h; cases h), fun t => ?_, by rw [f2, List.length_append]; omega, by rw [f3]; exact hsp.m1, fun ks hk => hsp.mks ks (by rw [f3] at hk; exact hk), fun h => hsp.m0 (by rw [f3] at h; exact h)⟩
    rw [f2, List.mem_append]
    exact ⟨fun h => h.elim id (hD t), .inl⟩
  · rw [List.length_append, List.length_map]
    unfold loose0
    rw [List.length_append, List.length_map]
    split <;> simp <;> omega
/-- the makers' line changed -/
theorem LoOk.mk' {r : Rota} (ok : ROk r) {L L' : List (Str × Stm)} {ks : List Int} {u : Str} (h : LoOk r L) (hk : ∀ k : Int, k ∈ ks ↔ k ∈ r.makers) (hne : ks ≠ []) (hl : ks.length ≤ 12) (hu : u = lineS ("makeup" :: ks.map (nm r)))
    (p : Paired (fun q q' => q' = q ∨ ((∃ m, q.2 = Stm.mk m) ∧ q' = (u, .mk ks))) L L') : LoOk r L' := by
  have hok : StmOk r (.mk ks) := ⟨hl, fun k hk' => ok.m0 k ((hk k).mp hk')⟩
  have hlen : L'.length = L.length := (Paired.get p).1.symm
  have hpl : ∀ {A B : List (Str × Stm)}, Paired (fun q q' => q' = q ∨ ((∃ m, q.2 = Stm.mk m) ∧ q' = (u, .mk ks))) A B →
      (B.map Prod.snd).filter Stm.isW = (A.map Prod.snd).filter Stm.isW ∧ (B.map Prod.snd).filterMap Stm.aw? = (A.map Prod.snd).filterMap Stm.aw? ∧ ((B.map Prod.snd).filterMap Stm.mk?).length = ((A.map Prod.snd).filterMap Stm.mk?).length ∧
      (∀ m ∈ (B.map Prod.snd).filterMap Stm.mk?, m = ks ∨ m ∈ (A.map Prod.snd).filterMap Stm.mk?) ∧ (∀ q ∈ B, q ∈ A ∨ q = (u, .mk ks)) := by
    intro A B p
    induction p with
    | nil => exact ⟨rfl, rfl, rfl, fun m h => (by cases h), fun q h => (by cases h)⟩
    | @cons a b as bs hab t ih =>
      obtain ⟨i1, i2, i3, i4, i5⟩ := ih
      have hmem : ∀ q ∈ b :: bs, q ∈ a :: as ∨ q = (u, .mk ks) := fun q hq => by
        rcases List.mem_cons.mp hq with rfl | hq
        · rcases hab with rfl | ⟨_, e⟩
          · exact .inl List.mem_cons_self
          · exact .inr e
        · exact (i5 q hq).imp (List.mem_cons_of_mem _) id
      refine ⟨?_, ?_, ?_, ?_, hmem⟩
      all_goals
        rcases hab with rfl | ⟨⟨m, hm⟩, rfl⟩
      · rw [List.map_cons, List.map_cons, List.filter_cons, List.filter_cons, i1]
      · rw [List.map_cons, List.map_cons, hm]; exact i1
      · rw [List.map_cons, List.map_cons, List.filterMap_cons, List.filterMap_cons, i2]
      · rw [List.map_cons, List.map_cons, hm]; exact i2
      · rw [List.map_cons, List.map_cons, List.filterMap_cons, List.filterMap_cons]
        cases Stm.mk? b.2 with
        | none => exact i3
        | some y => exact congrArg (· + 1) i3
      · rw [List.map_cons, List.map_cons, hm]; exact congrArg (· + 1) i3
      · intro x hx
        rw [List.map_cons, List.filterMap_cons] at hx ⊢
        revert hx
        cases Stm.mk? b.2 with
        | none => exact i4 x
        | some y =>
          intro hx
          rcases List.mem_cons.mp hx with rfl | hx
          · exact .inr List.mem_cons_self
          · exact (i4 x hx).imp id (List.mem_cons_of_mem _)
      · intro x hx
        rw [List.map_cons, mk_cons] at hx
        rw [List.map_cons, hm, mk_cons]
        rcases List.mem_cons.mp hx with rfl | hx
        · exact .inl rfl
        · exact (i4 x hx).imp id (List.mem_cons_of_mem _)
  obtain ⟨g1, g2, g3, g4, g5⟩ := hpl p
  refine ⟨fun q hq => ?_, ?_, by rw [hlen]; exact h.few⟩
  · rcases g5 q hq with h1 | rfl
    · exact h.ln q h1
    · rw [hu]; exact fc_line ok (s := .mk ks) hok
  · have hs := h.sp
    refine ⟨by rw [g1]; exact hs.w1, fun e => hs.w0 (by rw [← g1]; exact e), fun t => by rw [g2]; exact hs.aw t, by rw [g2]; exact hs.aw20, by rw [g3]; exact hs.m1, fun m hm => ?_, fun e => hs.m0 ?_⟩
    · rcases g4 m hm with rfl | hm
      · exact ⟨hne, hl, hk⟩
      · exact hs.mks m hm
    · have := congrArg List.length e
      rw [g3] at this
      exact List.length_eq_zero_iff.mp this
/-- the loose text says the rota -/
theorem says_other {r : Rota} (ok : ROk r) {L : List (Str × Stm)} (h : LoOk r L) {G : List (List Nat × Str)} (hG : ∀ q ∈ G, q.1 ≠ [] ∧ q.1.length ≤ 2 ∧ ∀ c ∈ q.1, c = 32 ∨ c = 10) {z : Str} (hz : TL.tl z = G.flatMap fun q => q.1 ++ TL.tl q.2)
    (hp : G.map Prod.snd = (allWords r (L.map Prod.snd)).flatMap fun ws => ws ++ [(";" : Str)]) : Says z r (L.map Prod.snd) := by
  have hS : ∀ s ∈ L.map Prod.snd, StmOk r s := fun s hs => by
    obtain ⟨q, hq, rfl⟩ := List.mem_map.mp hs
    exact (h.ln q hq).2.2.1
  have hw := words0 ok hS
  have hsemi : Wk "sign" ";" := by unfold Wk; decide +kernel
  have hword : ∀ w ∈ G.map Prod.snd, Wk (kindOf w) w ∧ w.length ≤ 8 := by
    rw [hp]
    intro w hw1
    obtain ⟨ws, hws, hm⟩ := List.mem_flatMap.mp hw1
    rcases List.mem_append.mp hm with hm | hm
    · exact ⟨((hw ws hws).2.2 w hm).1.wk, ((hw ws hws).2.2 w hm).2⟩
    · rw [List.mem_singleton.mp hm]; exact ⟨by unfold Wk kindOf; decide +kernel, by decide⟩
  obtain ⟨hl, _⟩ := lex_gaps G fun q hq => ⟨(hG q hq).1, (hG q hq).2.2, (hword q.2 (List.mem_map.mpr ⟨q, hq, rfl⟩)).1⟩
  rw [← hz] at hl
  have et : (G.map fun q => tokOf q.2) = (allWords r (L.map Prod.snd)).flatMap lineToks := by
    have : (G.map fun q => tokOf q.2) = (G.map Prod.snd).map tokOf := by rw [List.map_map]; rfl
    rw [this, hp, List.map_flatMap]
    refine congrArg (fun f => List.flatMap f _) (funext fun ws => ?_)
    unfold lineToks
    rw [List.map_append]
    exact congrArg (_ ++ ·) (congrArg (fun x => [x]) hsemi.kind)
  have hlen : G.length ≤ 308 := by
    have h1 := congrArg List.length hp
    rw [List.length_map, List.length_flatMap] at h1
    have h2 := sum_le (fun ws : List Str => (ws ++ [(";" : Str)]).length) 14 (allWords r (L.map Prod.snd)) fun ws hws => by
      have := (hw ws hws).2.1
      rw [List.length_append, List.length_singleton]; omega
    have h3 : (allWords r (L.map Prod.snd)).length ≤ 22 := by
      unfold allWords lines2
      have := h.few
      simp; omega
    have h4 := Nat.mul_le_mul_right 14 h3
    omega
  refine says_of ok h.sp ?_ hl ?_ ?_
  · have h1 := congrArg List.length hz
    rw [← TL.len_tl, List.length_flatMap] at h1
    have h2 := sum_le (fun q : List Nat × Str => (q.1 ++ TL.tl q.2).length) 10 G fun q hq => by
      have g1 := (hG q hq).2.1
      have g2 := (hword q.2 (List.mem_map.mpr ⟨q, hq, rfl⟩)).2
      rw [List.length_append, ← TL.len_tl]; omega
    have h4 := Nat.mul_le_mul_right 10 hlen
    omega
  · rw [et]; exact toks_rota ok hS
  · rw [List.length_map]; omega
end Br

namespace Br
open PySem PySem.Spec PyProof.Rows L2
/-- a written text's join, then replace by written texts -/
def tJR (K : PySem.W.Frag) (c y z : Str) (te : TE) : TE := fun σ H Q => te σ H fun x H1 => rJoin K (.str c) [x] H1 fun v H2 => ∃ u, v = .str u ∧ u.length + (u.length + 1) * z.length ≤ 16777216 ∧ Q (.str (Txt.replace u y z)) H2
section
variable {X : Cx} {K : PySem.W.Frag}
theorem pe_joinRepl (hK : X.K = K) {e : Expr} {te : TE} {c y z : Str} {j0 j1 j2 : Nat} {p0 ap pj c0 c1 apos pos : Pos} (he : PE X e te) (hyz : (y == z) = false := by decide)
    (hs1 : starEach [e] X.env = [(false, eval e X.env)] := by rfl) (hbase1 : attributeBase (.Constant (.str c) j0 p0) "join" X.env (eval (.Constant (.str c) j0 p0) X.env) = eval (.Constant (.str c) j0 p0) X.env := by rfl) (hline1 : (ap.endLine == pj.line) = true := by rfl)
    (hst : starEach [.Constant (.str y) j1 c0, .Constant (.str z) j2 c1] X.env = [(false, eval (.Constant (.str y) j1 c0) X.env), (false, eval (.Constant (.str z) j2 c1) X.env)] := by rfl)
    (hbase : attributeBase (.Call (.Attribute (.Constant (.str c) j0 p0) "join" ap) [e] [] pj) "replace" X.env (eval (.Call (.Attribute (.Constant (.str c) j0 p0) "join" ap) [e] [] pj) X.env) = eval (.Call (.Attribute (.Constant (.str c) j0 p0) "join" ap) [e] [] pj) X.env := by rfl) (hline : (apos.endLine == pos.line) = true := by rfl) :
    PE X (.Call (.Attribute (.Call (.Attribute (.Constant (.str c) j0 p0) "join" ap) [e] [] pj) "replace" apos) [.Constant (.str y) j1 c0, .Constant (.str z) j2 c1] [] pos) (tJR K c y z te) := by
  subst hK
  refine ⟨fun pins s σ H Q I h => ?_⟩
  refine PySem.Call_method2 hbase hst hline (PySem.Call_method1 hbase1 hs1 hline1 (Calls.Constant_str ?_))
  have I1 := I.tok (s.toks + 1)
  refine ⟨"str", _, PySem.F.plainAttrs_str, PySem.F.slot_str_join, PySem.F.type_str_join, typeIs_str _ _ _, (fun _ e => nomatch e), Calls.callWith_builtin rfl (Calls.evalArgs_plain (Calls.spliced_cons ?_))⟩
  refine wpAny_mono (PySem.wpAny_toks_of (n := 1) (by show 1 ≤ s.toks + 1; omega) (he.run pins _ σ H _ I1 h)) (fun u s2 q => ?_) fun _ _ z => z.2
  obtain ⟨hk, x, H1, I2, r2, q⟩ := q
  refine Calls.spliced_nil ?_
  refine wpAny_mono (PySem.wpAny_toks_of (n := 1) hk (mt_join pins s2 σ H1 (.str c) [x] (.str c s.toks) [u] (fun v H2 => ∃ u, v = .str u ∧ u.length + (u.length + 1) * z.length ≤ 16777216 ∧ Q (.str (Txt.replace u y z)) H2) I2 ⟨_, rfl⟩ (.cons r2 .nil) q)) (fun v s3 q => ?_) fun _ _ z => z.2
  obtain ⟨hk3, v', H2, I3, r3, w, e1, hb, q⟩ := q
  subst e1
  obtain ⟨tx, e2⟩ := r3
  subst e2
  refine ⟨"str", _, PySem.F.plainAttrs_str, PySem.F.slot_str_replace, PySem.F.type_str_replace, typeIs_str _ _ _, (fun _ e => nomatch e), Calls.callWith_builtin rfl (Calls.evalArgs_plain (Calls.spliced_cons ?_))⟩
  refine Calls.Constant_str (Calls.spliced_cons (Calls.Constant_str (Calls.spliced_nil ?_)))
  exact PySem.SC.replace (by show s3.toks ≠ 0; omega) (by show s3.toks + 1 ≠ 0; omega) (by show s3.toks ≠ s3.toks + 1; omega) hyz hb fun t' k => ⟨.str (Txt.replace w y z), H2, I3.tok k, ⟨t', rfl⟩, q⟩
end
end Br

namespace Br
open PySem PySem.Spec PyProof.Rows L2
/-! ### the law -/
section
variable {P : Program} {w : World} {K : PySem.W.Frag} {mg : Str → Option Value} {base : Heap}
theorem split_text {r : Rota} (ok : ROk r) : Txt.split (textOf r) "\n" = (lineWords r).map lineS := by
  unfold textOf
  refine TL.split_join (s := 10) (S := []) (by rfl) (by decide +kernel) ?_ fun p hp => ?_
  · simp [lineWords, lines2]
  · obtain ⟨ws, hws, rfl⟩ := List.mem_map.mp hp
    rw [← canon_words] at hws
    exact line_no10 fun x hx => ((words0 ok (canon_ok ok) ws hws).2.2 x hx).1
theorem tl_cut (z : Str) {k : Int} (h : 0 ≤ k) : TL.tl (cutS z none (some k)) = (TL.tl z).take k.toNat := by
  rw [C8.cutS_slice]
  have := SX.slice_to (a := TL.tl z) h
  have e : SX.S (TL.tl z) = z := SX.S_tl z
  rw [e] at this
  exact congrArg TL.tl this
theorem cut_first {z : Str} {k : Int} (h : 0 ≤ k) {w : Str} {a : Nat} {r : List Nat} (hw : TL.tl w = a :: r) (e : V.str (cutS z none (some k)) = V.str w) : ∃ rest, TL.tl z = a :: rest := by
  injection e with e
  have := tl_cut z h
  rw [e, hw] at this
  cases hz : TL.tl z with
  | nil => rw [hz] at this; simp at this
  | cons c rest =>
    rw [hz] at this
    cases hk : k.toNat with
    | zero => rw [hk] at this; simp at this
    | succ n => rw [hk, List.take_succ_cons] at this; cases this; exact ⟨rest, rfl⟩
theorem Paired.app {α β : Type} {R : α → β → Prop} : ∀ {a c : List α} {b e : List β}, Paired R a b → Paired R c e → Paired R (a ++ c) (b ++ e)
  | _, _, _, _, .nil, h => h
  | _, _, _, _, .cons h t, h' => .cons h (Paired.app t h')
theorem Paired.split {α β : Type} {R : α → β → Prop} : ∀ {a c : List α} {o : List β}, Paired R (a ++ c) o → ∃ o1 o2, o = o1 ++ o2 ∧ Paired R a o1 ∧ Paired R c o2
  | [], c, o, h => ⟨[], o, rfl, .nil, h⟩
  | x :: a, c, _, .cons h t => by
    obtain ⟨o1, o2, rfl, h1, h2⟩ := Paired.split t
    exact ⟨_ :: o1, o2, rfl, .cons h h1, h2⟩
/-- the makers' lines changed, the rest kept -/
def Ch (new u v : Str) : Prop := v = u ∨ ((∃ rest, TL.tl u = 109 :: rest) ∧ v = new)
theorem ch_lines {r : Rota} {new : Str} {ks : List Int} : ∀ {L : List (Str × Stm)} {o : List Str}, (∀ q ∈ L, LnOk r q) → Paired (Ch new) (L.map Prod.fst) o → ∃ L', o = L'.map Prod.fst ∧ Paired (fun q q' => q' = q ∨ ((∃ m, q.2 = Stm.mk m) ∧ q' = (new, .mk ks))) L L'
  | [], _, _, .nil => ⟨[], rfl, .nil⟩
  | q :: L, _, hL, .cons (b := b) h t => by
    obtain ⟨L', rfl, h2⟩ := ch_lines (fun x hx => hL x (List.mem_cons_of_mem _ hx)) t
    rcases h with e | ⟨⟨rest, e1⟩, e2⟩
    · exact ⟨q :: L', by rw [e]; rfl, .cons (.inl rfl) h2⟩
    · refine ⟨(new, .mk ks) :: L', by rw [e2]; rfl, .cons (.inr ⟨?_, rfl⟩) h2⟩
      obtain ⟨_, ⟨rest2, e3⟩, _⟩ := hL q List.mem_cons_self
      have e4 : TL.tl q.1 = 109 :: rest := e1
      rw [e4] at e3
      cases hq : q.2 with
      | w => rw [hq] at e3; cases e3
      | aw t => rw [hq] at e3; cases e3
      | mk m => exact ⟨m, rfl⟩
theorem ch_two {r : Rota} {new : Str} {o : List Str} (h : Paired (Ch new) ((lines2 r).map lineS) o) : o = (lines2 r).map lineS := by
  have key : ∀ (w : Str) (c : Nat) (rr : List Nat) (ws : List Str), TL.tl w = c :: rr → ∃ rest, TL.tl (lineS (w :: ws)) = c :: rest := fun w c rr ws e => by
    rw [tl_line]
    cases ws with
    | nil => exact ⟨rr ++ [59], by simp [TL.joinL, e]⟩
    | cons v vs => exact ⟨_, by rw [List.map_cons, List.map_cons, TL.joinL, e]; rfl⟩
  have h' : Paired (Ch new) [lineS ("people" :: r.names), lineS ("turns" :: r.turns.map (nm r))] o := h
  cases h' with
  | cons h1 t =>
    cases t with
    | cons h2 t =>
      cases t with
      | nil =>
        have a1 := h1.resolve_right (fun ⟨⟨rest, e⟩, _⟩ => by
          obtain ⟨rest2, e2⟩ := key "people" 112 _ r.names (by rfl)
          rw [e] at e2; cases e2)
        have a2 := h2.resolve_right (fun ⟨⟨rest, e⟩, _⟩ => by
          obtain ⟨rest2, e2⟩ := key "turns" 116 _ (r.turns.map (nm r)) (by rfl)
          rw [e] at e2; cases e2)
        rw [a1, a2]; rfl
def spLaw (K : PySem.W.Frag) : Sp := fun vs H Q _ => ∃ (a : Addr) (ns : List Int), vs = [.ref a] ∧ SqL K H a (ns.map V.int) ∧ ns.length ≤ 63 ∧ ∀ H', Q (.bl true) H'
abbrev slaw : Stmt := topS 40
theorem sclaw : FnScope ["_law_script", "_law_d", "_law_step", "_law_rota_here", "_law_text_here", "_law_names", "_law_lines", "_law_loose", "_law_persons", "_law_parts", "_law_other", "_law_part", "_law_found", "_law_line", "_law_k"] ["_law_script"] (defScope slaw) := ⟨rfl, rfl, rfl, by decide +kernel, rfl, by decide +kernel, by decide +kernel⟩
theorem law_ok {f : Addr} {fd : FuncData} (F : Fun K "law" "law" slaw f fd) (T : Bi mg) (C1 : Cal P w K mg base 1 "_law_random" ["_law_script", "_law_salt"] (spRandom K)) (C2 : Cal P w K mg base 3 "_law_rota" ["_law_d", "_law_most"] (spRota K)) (C3 : Cal P w K mg base 1 "_law_text" ["_law_rota_here"] spText)
    (C4 : Cal P w K mg base 1 "_law_below" ["_law_d", "_law_limit"] spBelow) (C5 : Cal P w K mg base 2 "_law_shuffled" ["_law_d", "_law_items"] (spShuffled K)) (C6 : Cal P w K mg base 7 "people" ["rota"] spPeopleF) (C7 : Cal P w K mg base 7 "format_rota" ["rota"] spFormat)
    (CE : Cal P w K mg base 3 "_law_equal" ["_law_actual", "_law_expected"] (spEqual 2)) : FnOk P w K mg base CX0 8 f fd ["_law_script"] (spLaw K) := by
  have nd := sclaw.nd
  obtain ⟨f1, fd1, m__law_random, kp__law_random, b__law_random, G__law_random⟩ := C1.ex
  obtain ⟨f2, fd2, m__law_rota, kp__law_rota, b__law_rota, G__law_rota⟩ := C2.ex
  obtain ⟨f3, fd3, m__law_text, kp__law_text, b__law_text, G__law_text⟩ := C3.ex
  obtain ⟨f4, fd4, m__law_below, kp__law_below, b__law_below, G__law_below⟩ := C4.ex
  obtain ⟨f5, fd5, m__law_shuffled, kp__law_shuffled, b__law_shuffled, G__law_shuffled⟩ := C5.ex
  obtain ⟨f6, fd6, m_people, kp_people, b_people, G_people⟩ := C6.ex
  obtain ⟨f7, fd7, m_format_rota, kp_format_rota, b_format_rota, G_format_rota⟩ := C7.ex
  obtain ⟨f8, fd8, m__law_equal, kp__law_equal, b__law_equal, G__law_equal⟩ := CE.ex
  refine F.ok sclaw (fun vs H Q E h => ?_) (fun cdv A outer s H vs Q E hr h => ?_)
  · obtain ⟨a, ns, rfl, _⟩ := h; rfl
  obtain ⟨a, ns, rfl, ha, hn, q⟩ := h
  have hu := hr.units
  refine ⟨_, (pss_cons (ps_set (i := 1) nd rfl (Or.inr rfl) (pe_call G__law_random (hr.mono (by first | decide | omega)) (by rfl) m__law_random kp__law_random b__law_random .nil pass0 (pa_cons (pv 0) (pa_cons pe_int pa_nil))))
 (pss_cons (ps_for PassesOwn.never rfl (pi_range1 (by rfl) T.range (pa_cons pe_int pa_nil)) (pg_name (i := 2) nd rfl (Or.inl rfl))
 (pss_cons (ps_set (i := 3) nd rfl (Or.inl rfl) (pe_call G__law_rota (hr.mono (by first | decide | omega)) (by rfl) m__law_rota kp__law_rota b__law_rota .nil pass0 (pa_cons (pv 1) (pa_cons pe_int pa_nil))))
 (pss_cons (ps_asg (pe_tup (pa_cons (pe_call G__law_text (hr.mono (by first | decide | omega)) (by rfl) m__law_text kp__law_text b__law_text .nil pass0 (pa_cons (pv 3) pa_nil)) (pa_cons (pe_callTy (r := rListOf K) call_list_of (by rfl) T.list (by decide +kernel) (pa_cons (pe_ix (r := rIxT K) ix_tup (pv 3) pe_int (fun _ _ => rfl)) pa_nil)) pa_nil))) (pg_tupK (K := K) (n := 2) rfl rfl (pgs_cons (pg_name (i := 4) nd rfl (Or.inl rfl)) (pgs_cons (pg_name (i := 5) nd rfl (Or.inr rfl)) pgs_nil))))
 (pss_cons (ps_set (i := 6) nd rfl (Or.inl rfl) (pe_split (pv 4) pe_str))
 (pss_cons (ps_set (i := 7) nd rfl (Or.inl rfl) (pe_op op_cat (pe_slice (r := rSlL K) sl_list (pv 6) (po_some pe_int) po_none) (pe_op op_rep (pe_lst (pa_cons (pe_op op_add_str (pe_op op_add_str pe_str (pe_op op_repS pe_str (pe_callB (r := rLenS K) call_len_seq (by rfl) T.len PySem.boot_len (pa_cons (pv 5) pa_nil)))) pe_str) pa_nil)) (pe_callTy call_int1 (by rfl) T.int (by decide +kernel) (pa_cons (pe_cmpR op_eq (pe_callB (r := rMaxT K) (cr_maxT rfl hu) (by rfl) T.max (by decide +kernel) (pa_cons (pe_ix (r := rIxT K) ix_tup (pv 3) pe_int (fun _ _ => rfl)) pa_nil)) pe_int (nomark _)) pa_nil)))))
 (pss_cons (ps_set (i := 7) nd rfl (Or.inl rfl) (pe_op op_cat (pv 7) (pe_lc (own := [("_law_line", 13)]) rfl nd (pi_listK (K := K) rfl (pe_slice (r := rSlL K) sl_list (pv 6) (po_some pe_int) po_none)) (blkOk_by (N := ["_law_script", "_law_d", "_law_step", "_law_rota_here", "_law_text_here", "_law_names", "_law_lines", "_law_loose", "_law_persons", "_law_parts", "_law_other", "_law_part", "_law_found", "_law_line", "_law_k"]) (sc := defScope slaw) (by decide +kernel)) (fun _ _ _ _ _ => (pg_name (i := 13) nd rfl (Or.inl rfl))) (fun _ _ _ _ _ => (pts_one (PW.pt (pw_and (pt_cmpR op_eq (pe_slice sl_str (pv 13) po_none (po_some pe_int)) pe_str (nomark _)) (pw_and1 (pt_cmpR op_eq (pe_call G__law_below (hr.mono (by first | decide | omega)) (by rfl) m__law_below kp__law_below b__law_below .nil pass0 (pa_cons (pv 1) (pa_cons pe_int pa_nil))) pe_int (nomark _))))))) (fun _ _ _ _ _ => (pv 13)))))
 (pss_cons (ps_set (i := 7) nd rfl (Or.inl rfl) (pe_op op_cat (pe_slice (r := rSlL K) sl_list (pv 6) po_none (po_some pe_int)) (pe_call G__law_shuffled (hr.mono (by first | decide | omega)) (by rfl) m__law_shuffled kp__law_shuffled b__law_shuffled .nil pass0 (pa_cons (pv 1) (pa_cons (pv 7) pa_nil)))))
 (C8.pss_cut (ps_if (pt_cmpR (r := rNeD K) (op_neD hu) (pe_ix (r := rIxT K) ix_tup (pv 3) pe_int (fun _ _ => rfl)) (pe_tup pa_nil) (nomark _))
 (pss_cons (ps_set (i := 8) nd rfl (Or.inr rfl) (pe_joinK (K := K) rfl pe_str (pe_call G__law_shuffled (hr.mono (by first | decide | omega)) (by rfl) m__law_shuffled kp__law_shuffled b__law_shuffled .nil pass0 (pa_cons (pv 1) (pa_cons (pe_op op_cat (pe_lc (own := [("_law_k", 14)]) rfl nd (pi_tupK (K := K) rfl (pe_ix (r := rIxT K) ix_tup (pv 3) pe_int (fun _ _ => rfl))) (blkOk_by (N := ["_law_script", "_law_d", "_law_step", "_law_rota_here", "_law_text_here", "_law_names", "_law_lines", "_law_loose", "_law_persons", "_law_parts", "_law_other", "_law_part", "_law_found", "_law_line", "_law_k"]) (sc := defScope slaw) (by decide +kernel)) (fun _ _ _ _ _ => (pg_name (i := 14) nd rfl (Or.inl rfl))) (fun _ _ _ _ _ => pts_nil) (fun _ _ _ _ _ => (pe_ix (r := rIxL K) ix_list (pv 5) (pv 14) (fun _ _ => rfl)))) (pe_lst (pa_cons (pe_ix (r := rIxL K) ix_list (pv 5) (pe_ix (r := rIxT K) ix_tup (pe_ix (r := rIxT K) ix_tup (pv 3) pe_int (fun _ _ => rfl)) pe_int (fun _ _ => rfl)) (fun _ _ => rfl)) pa_nil))) pa_nil)))))
 (pss_one (ps_setLc (i := 7) (own := [("_law_line", 13)]) rfl nd rfl rfl (sw_true rfl rfl rfl (by decide +kernel)) (pi_listK (K := K) rfl (pv 7)) (blkOk_by (N := ["_law_script", "_law_d", "_law_step", "_law_rota_here", "_law_text_here", "_law_names", "_law_lines", "_law_loose", "_law_persons", "_law_parts", "_law_other", "_law_part", "_law_found", "_law_line", "_law_k"]) (sc := defScope slaw) (by decide +kernel)) (fun _ _ _ _ _ => (pg_name (i := 13) nd rfl (Or.inl rfl))) (fun _ _ _ _ _ => pts_nil) (fun _ _ _ _ _ => (pe_ifExp (pt_cmpR op_eq (pe_slice sl_str (pv 13) po_none (po_some pe_int)) pe_str (nomark _)) (pe_op op_add_str (pe_op op_add_str pe_str (pv 8)) pe_str) (pv 13))))))
 pss_nil)
 (pss_cons (ps_set (i := 9) nd rfl (Or.inl rfl) (pe_words (pe_joinRepl (K := K) rfl (pv 7) (by decide +kernel))))
 (pss_cons (ps_set (i := 10) nd rfl (Or.inl rfl) pe_str)
 (pss_cons (ps_for PassesOwn.never rfl (pi_listK (K := K) rfl (pv 9)) (pg_name (i := 11) nd rfl (Or.inl rfl))
 (pss_one (ps_set (i := 10) nd rfl (Or.inl rfl) (pe_op op_add_str (pe_op op_add_str (pv 10) (pe_ix (r := rIxL K) ix_list (pe_lst (pa_cons pe_str (pa_cons pe_str (pa_cons pe_str (pa_cons pe_str pa_nil))))) (pe_call G__law_below (hr.mono (by first | decide | omega)) (by rfl) m__law_below kp__law_below b__law_below .nil pass0 (pa_cons (pv 1) (pa_cons pe_int pa_nil))) (fun _ _ => rfl))) (pv 11)))))
 (pss_cons (ps_set (i := 12) nd rfl (Or.inl rfl) (pe_call G_people (hr.mono (by first | decide | omega)) (by rfl) m_people kp_people b_people .nil pass0 (pa_cons (pv 10) pa_nil)))
 (pss_cons (ps_if (pt_not (pt_val (pe_call G__law_equal (hr.mono (by first | decide | omega)) (by rfl) m__law_equal kp__law_equal b__law_equal .nil pass0 (pa_cons (pe_lst (pa_cons (pe_call G_format_rota (hr.mono (by first | decide | omega)) (by rfl) m_format_rota kp_format_rota b_format_rota .nil pass0 (pa_cons (pv 4) pa_nil)) (pa_cons (pe_call G_format_rota (hr.mono (by first | decide | omega)) (by rfl) m_format_rota kp_format_rota b_format_rota .nil pass0 (pa_cons (pv 10) pa_nil)) (pa_cons (pv 12) pa_nil)))) (pa_cons (pe_lst (pa_cons (pv 4) (pa_cons (pv 4) (pa_cons (pv 5) pa_nil)))) pa_nil)))))
 (pss_one (ps_ret pe_bl))
 pss_nil)
 (pss_cons (ps_expr (pe_bmK (K := K) rfl PySem.F.plainAttrs_list PySem.F.slot_list_append PySem.F.type_list_append mt_append (pv 12) (pa_cons pe_int pa_nil)))
 (pss_one (ps_if (pt_cmpR (r := rNeD K) (op_neD hu) (pe_call G_people (hr.mono (by first | decide | omega)) (by rfl) m_people kp_people b_people .nil pass0 (pa_cons (pv 4) pa_nil)) (pv 5) (nomark _))
 (pss_one (ps_ret pe_bl))
 pss_nil))))))))))))))))
 (pss_one (ps_ret pe_bl)))), ?_⟩
  refine ⟨_, rfl, a, ns, 3, rfl, by decide, ha, hn, fun d x0 y0 r0 H1 c1 ok0 => ?_⟩
  refine ⟨4, rfl, by decide, by decide, ?_⟩
  refine for_it (walk_range (lo := 0) (n := 4)) (fun i σ H' => ∃ (s2 s3 s4 s5 s6 s7 s8 s9 s10 s11 s12 : Option V) (x y : Int) (l : List Int), σ = [some (.ref a), some (.ref d), s2, s3, s4, s5, s6, s7, s8, s9, s10, s11, s12, none, none] ∧ H' d = some (dl x y l) ∧ DOk x y l) ?_ ?_ ?_ ?_
  · exact ⟨_, _, _, _, _, _, _, _, _, _, _, x0, y0, r0, rfl, c1.get 0 rfl, ok0⟩
  · intro _ _ _ _ _; trivial
  · rintro i v σ H2 H2' hi ⟨s2, s3, s4, s5, s6, s7, s8, s9, s10, s11, s12, x, y, l, rfl, hd, ok1⟩ ⟨rfl, rfl⟩
    refine ⟨_, rfl, d, 6, x, y, l, rfl, by decide, by decide, hd, ok1, fun ro ra x y l H3 c3 ok1 hR ok hnl => ?_⟩
    obtain ⟨an, at_, aw, aa, am, as, h1, h2, h3, h4, h5, h6, h7⟩ := hR
    have n1 := ok.n1
    have n6 := ok.n6
    have hd3 := c3.get 0 rfl
    have w0 := Wd.start1 hd3
    refine ⟨_, rfl, ra, ro, rfl, ⟨an, at_, aw, aa, am, as, h1, h2, h3, h4, h5, h6, h7⟩, ok, fun H4 c4 => ?_⟩
    have w1 := w0.call0 c4
    have keep : ∀ {H' : Hp} {l : List (Addr × HO)}, Wd [d] H3 H' l → ∀ {b : Addr} {xs : List V}, H3 b = some (.tup xs) → SqT K H' b xs := fun w _ _ e => SqT.of (w.tups _ _ e)
    refine ⟨_, rfl, ra, _, 0, _, rfl, rfl, keep w1 h1, rfl, an, _, rfl, .inr (keep w1 h2), fun nl hnlp => ?_⟩
    have w2 := w1.new1 (.lst (ro.names.map V.str)) hnlp
    refine ⟨(by show 2 ≤ sizeLine; decide), fun tp htp => ?_⟩
    have w3 := w2.new1 (.tup [.str (textOf ro), .ref nl]) htp
    refine ⟨tp, _, rfl, SqT.of (w3.get 1 rfl), rfl, _, _, rfl, _, _, rfl, rfl, ?_⟩
    have htl := text_len ok
    refine ⟨_, rfl, ⟨_, rfl⟩, textOf ro, "\n", rfl, rfl, rfl, Nat.le_trans (m := 10002) (by omega) (by decide), ?_⟩
    rw [split_text ok]
    intro ln hln
    have w4 := (w3.new1 (.lst (((lineWords ro).map lineS).map V.str)) hln).sub (l' := [(d, dl x y l), (ln, .lst (((lineWords ro).map lineS).map V.str)), (nl, .lst (ro.names.map V.str))]) (by walk_at "sub")
    refine ⟨_, rfl, _, rfl, ln, _, rfl, SqL.of (w4.get 1 rfl), fun p1 hp1 => ?_⟩
    have eC : ((lineWords ro).map lineS).drop 2 = (canonS ro).map fun s => lineS (stmWords ro s) := by
      rw [← canon_words, ← List.map_drop]
      show ((canonS ro).map (stmWords ro)).map lineS = _
      rw [List.map_map]; rfl
    have eT : ((lineWords ro).map lineS).take 2 = (lines2 ro).map lineS := by
      rw [← canon_words, ← List.map_take]; rfl
    rw [cut_drop _ (by decide), ← List.map_drop, show (2 : Int).toNat = 2 from rfl, eC]
    have w5 := w4.new1 (.lst (((canonS ro).map fun s => lineS (stmWords ro s)).map V.str)) hp1
    have lw8 : ("weights " : Str).length = 8 := by decide
    have l1_ : ("1 " : Str).length = 2 := by decide
    have lsc : (";" : Str).length = 1 := by decide
    refine ⟨_, rfl, nl, _, rfl, .inl (SqL.of (w5.get 3 rfl)), _, _, rfl, rfl, by rw [List.length_map]; omega, by rw [List.length_map]; omega, by rw [l1_]; decide, by rw [l1_]; decide, ?_⟩
    have enl : (((ro.names.map V.str).length : Nat) : Int).toNat = ro.names.length := by rw [List.length_map]; omega
    rw [enl]
    refine ⟨_, _, rfl, rfl, small2 (by rw [lw8]; decide) (by rw [repS_length, l1_]; omega), _, _, rfl, rfl, small2 (by rw [app_len, lw8, repS_length, l1_]; omega) (by rw [lsc]; decide), ?_⟩
    refine ⟨(by show 1 ≤ sizeLine; decide), fun p2 hp2 => ?_⟩
    have w6 := w5.new1 (.lst [V.str (onesL ro).1]) hp2
    refine ⟨_, rfl, ra, _, 2, _, rfl, rfl, keep w6 h1, rfl, aw, ro.weights, rfl, keep w6 h4, by have := ok.wl; omega, fun m hm hmax => ?_⟩
    refine ⟨rfl, .inr ⟨_, rfl, ?_⟩⟩
    have hheavy : decide (V.int m = V.int 1) = !heavy ro := by
      have h1m := ok.w0 m hm
      cases hh : heavy ro with
      | true =>
        obtain ⟨v, hv, hv1⟩ := List.any_eq_true.mp hh
        have := hmax v hv
        have := of_decide_eq_true hv1
        exact decide_eq_false (fun e => by injection e with e; omega)
      | false =>
        have hw1 := w_ones ok hh
        rw [hw1] at hm
        rw [(List.mem_replicate.mp hm).2]; rfl
    rw [hheavy]
    refine ⟨p2, _, _, rfl, rfl, w6.get 1 rfl, ?_, ?_, ?_, fun p3 hp3 => ?_⟩
    · split <;> decide
    · split <;> decide
    · split <;> simp <;> decide
    have e3 : (List.replicate (if (!heavy ro) = true then (1 : Int) else 0).toNat [V.str (onesL ro).1]).flatten = ((if heavy ro = true then [] else [onesL ro]).map Prod.fst).map V.str := by
      cases heavy ro <;> rfl
    rw [e3]
    have w7 := w6.new1 (.lst (((if heavy ro = true then [] else [onesL ro]).map Prod.fst).map V.str)) hp3
    have lc8 : (canonS ro).length ≤ 8 := by
      have := congrArg List.length (canon_words ro)
      have h2 := lines_few ok
      unfold allWords lines2 at this
      rw [List.length_append, List.length_map] at this
      simp at this
      omega
    have le1 : (if heavy ro = true then [] else [onesL ro]).length ≤ 1 := by split <;> simp
    refine ⟨p1, p3, _, _, rfl, rfl, w7.get 3 rfl, w7.get 1 rfl, ?_, fun p4 hp4 => ?_⟩
    · rw [List.length_map, List.length_map, List.length_map, List.length_map]; exact Nat.le_trans (m := 100) (by omega) (by decide)
    have e4 : ((canonS ro).map fun s => lineS (stmWords ro s)).map V.str ++ ((if heavy ro = true then [] else [onesL ro]).map Prod.fst).map V.str = ((loose0 ro).map Prod.fst).map V.str := by
      unfold loose0
      rw [List.map_append, List.map_append, List.map_map (g := Prod.fst)]; rfl
    rw [e4]
    have w8 := (w7.new1 (.lst (((loose0 ro).map Prod.fst).map V.str)) hp4).sub (l' := [(d, dl x y l), (p4, .lst (((loose0 ro).map Prod.fst).map V.str)), (ln, .lst (((lineWords ro).map lineS).map V.str)), (nl, .lst (ro.names.map V.str))]) (by walk_at "sub")
    refine ⟨_, rfl, _, rfl, _, rfl, ln, _, rfl, SqL.of (w8.get 2 rfl), fun q1 hq1 => ?_⟩
    rw [cut_drop _ (by decide), ← List.map_drop, show (2 : Int).toNat = 2 from rfl, eC]
    have w9 := w8.new1 (.lst (((canonS ro).map fun s => lineS (stmWords ro s)).map V.str)) hq1
    refine ⟨q1, rfl, ⟨_, SqL.of (w9.get 1 rfl)⟩, fun D5 hD5 => ?_⟩
    have w10 := w9.new1 (.lst []) hD5
    refine lc_list (K := K) (a := q1) (xs := ((canonS ro).map fun s => lineS (stmWords ro s)).map V.str) (fun i H' => ∃ (x y : Int) (l : List Int) (C : List (Int × Int × Int)),
        Wd [d] H3 H' [(d, dl x y l), (D5, .lst ((C.map fun t => lineS (awW ro t)).map V.str)), (q1, .lst (((canonS ro).map fun s => lineS (stmWords ro s)).map V.str)), (p4, .lst (((loose0 ro).map Prod.fst).map V.str)), (ln, .lst (((lineWords ro).map lineS).map V.str)), (nl, .lst (ro.names.map V.str))] ∧
        DOk x y l ∧ (∀ t ∈ C, t ∈ ro.aways) ∧ C.length ≤ i)
      ⟨x, y, l, [], w10, ok1, by simp, Nat.le_refl _⟩ (fun i H' _ ⟨_, _, _, _, w, _⟩ => SqL.of (w.get 2 rfl)) ?_ ?_
    · rintro i v H5 hv ⟨x, y, l, C, w11, ok2, hC, hCl⟩
      obtain ⟨s, hs, rfl⟩ : ∃ s, (canonS ro)[i]? = some s ∧ v = V.str (lineS (stmWords ro s)) := by
        rw [List.getElem?_map, List.getElem?_map] at hv
        cases e : (canonS ro)[i]? with
        | none => rw [e] at hv; cases hv
        | some s => rw [e] at hv; exact ⟨s, rfl, (Option.some.inj hv).symm⟩
      have hi8 := (List.getElem?_eq_some_iff.mp hs).1
      obtain ⟨_, ⟨rest, hrest⟩, hso, hlen, _⟩ := fc_line ok (canon_ok ok s (List.mem_of_getElem? hs))
      refine ⟨rfl, _, rfl, _, rfl, _, rfl, Nat.le_trans hlen (by decide), rfl, _, rfl, ?_⟩
      refine ite2 (fun h => ?_) (fun h => ?_)
      · obtain ⟨rest2, hr2⟩ := cut_first (by decide) (w := "away") (by rfl) (of_decide_eq_true h)
        rw [hr2] at hrest
        obtain ⟨t, rfl⟩ : ∃ t, s = .aw t := by
          cases s with
          | w => cases hrest
          | aw t => exact ⟨t, rfl⟩
          | mk ks => cases hrest
        refine ⟨_, rfl, d, 2, x, y, l, rfl, by decide, by decide, w11.get 0 rfl, ok2, fun k x y l H6 c6 ok2 hk0 hk1 => ?_⟩
        have w12 := w11.call1 (fun xs q => by cases q) c6
        refine ⟨rfl, _, rfl, ?_⟩
        refine ite2 (fun h => ?_) (fun h => ?_)
        · refine ⟨_, rfl, _, w12.get 1 rfl, ?_, x, y, l, C ++ [t], ?_, ok2, ?_, ?_⟩
          · rw [List.length_map, List.length_map]; exact Nat.lt_of_le_of_lt (m := 100) (by omega) (by decide)
          · have w13 := w12.put 1 (.lst ((C.map fun t => lineS (awW ro t)).map V.str ++ [V.str (lineS (awW ro t))])) rfl (fun _ q => by cases q)
            rw [List.map_append, List.map_append]
            exact w13
          · intro u hu
            rcases List.mem_append.mp hu with hu | hu
            · exact hC u hu
            · rw [List.mem_singleton.mp hu]; exact hso
          · rw [List.length_append, List.length_singleton]; omega
        · exact ⟨x, y, l, C, w12, ok2, hC, by omega⟩
      · exact ⟨x, y, l, C, w11, ok2, hC, by omega⟩
    · rintro H5 ⟨x, y, l, C, w11, ok2, hC, hCl⟩
      rw [List.length_map, List.length_map] at hCl
      have hL0 : (loose0 ro).length ≤ 9 := by unfold loose0; rw [List.length_append, List.length_map]; omega
      refine ⟨p4, D5, _, _, rfl, rfl, w11.get 3 rfl, w11.get 1 rfl, ?_, fun p5 hp5 => ?_⟩
      · rw [List.length_map, List.length_map, List.length_map, List.length_map]; exact Nat.le_trans (m := 100) (by omega) (by decide)
      have hlo := loose_ok ok hC (by omega)
      have e5 : ((loose0 ro).map Prod.fst).map V.str ++ (C.map fun t => lineS (awW ro t)).map V.str = ((loose0 ro ++ C.map fun t => (lineS (awW ro t), Stm.aw t)).map Prod.fst).map V.str := by
        rw [List.map_append, List.map_append, List.map_map (g := Prod.fst)]; rfl
      rw [e5]
      generalize (loose0 ro ++ C.map fun t => (lineS (awW ro t), Stm.aw t)) = L1 at *
      have w12 := (w11.new1 (.lst ((L1.map Prod.fst).map V.str)) hp5).sub (l' := [(d, dl x y l), (p5, .lst ((L1.map Prod.fst).map V.str)), (ln, .lst (((lineWords ro).map lineS).map V.str)), (nl, .lst (ro.names.map V.str))]) (by walk_at "sub")
      refine ⟨_, rfl, _, rfl, ln, _, rfl, SqL.of (w12.get 2 rfl), fun q2 hq2 => ?_⟩
      rw [cut_take _ (by decide), ← List.map_take, show (2 : Int).toNat = 2 from rfl, eT]
      have w13 := w12.new1 (.lst (((lines2 ro).map lineS).map V.str)) hq2
      have hL1l := hlo.few
      refine ⟨_, rfl, _, rfl, d, p5, x, y, l, _, rfl, .inl (SqL.of (w13.get 2 rfl)), w13.get 0 rfl, ok2, fun v hv => ?_, by rw [List.length_map, List.length_map]; omega, fun ys p6 x y l H6 c6 ok3 hperm => ?_⟩
      · obtain ⟨u, hu1, rfl⟩ := List.mem_map.mp hv
        obtain ⟨q3, hq3, rfl⟩ := List.mem_map.mp hu1
        exact (hlo.ln q3 hq3).2.2.2.2
      rw [List.map_map] at hperm
      obtain ⟨L2, rfl, hL2⟩ := perm_of_map _ hperm
      have hlo2 := hlo.perm hL2
      have hL2l := hlo2.few
      have w14 := w13.call1 (fun xs q => by cases q) c6
      have e6 : L2.map (V.str ∘ Prod.fst) = (L2.map Prod.fst).map V.str := by rw [List.map_map]
      rw [e6] at w14
      refine ⟨q2, p6, _, _, rfl, rfl, w14.get 2 rfl, w14.get 1 rfl, ?_, fun p7 hp7 => ?_⟩
      · rw [List.length_map, List.length_map, List.length_map, List.length_map]; exact Nat.le_trans (m := 100) (by show 2 + _ ≤ 100; omega) (by decide)
      have e7 : ((lines2 ro).map lineS).map V.str ++ (L2.map Prod.fst).map V.str = ((lines2 ro).map lineS ++ L2.map Prod.fst).map V.str := by rw [List.map_append]
      rw [e7]
      have w15 := (w14.new1 (.lst (((lines2 ro).map lineS ++ L2.map Prod.fst).map V.str)) hp7).sub (l' := [(d, dl x y l), (p7, .lst (((lines2 ro).map lineS ++ L2.map Prod.fst).map V.str)), (nl, .lst (ro.names.map V.str))]) (by walk_at "sub")
      refine ⟨fun σ H' => ∃ (s2 s8 : Option V) (p7 : Addr) (x y : Int) (l : List Int) (L : List (Str × Stm)), σ = [some (.ref a), some (.ref d), s2, some (.ref ra), some (.str (textOf ro)), some (.ref nl), some (.ref ln), some (.ref p7), s8, s9, s10, s11, s12, none, none] ∧
        Wd [d] H3 H' [(d, dl x y l), (p7, .lst (((lines2 ro).map lineS ++ L.map Prod.fst).map V.str)), (nl, .lst (ro.names.map V.str))] ∧ DOk x y l ∧ LoOk ro L, ?_, ?_⟩
      · refine ⟨_, rfl, ra, _, 4, _, rfl, rfl, keep w15 h1, rfl, (by show 0 ≤ sizeLine; decide), fun e he => ?_⟩
        have w16 := w15.new1 (.tup []) he
        have hms : ∀ v ∈ ro.makers.map V.int, IS v := fun v hv => by
          obtain ⟨z, _, rfl⟩ := List.mem_map.mp hv
          trivial
        refine ⟨.tuple ((ro.makers.map V.int).map dataOf), .tuple [], .tup (keep w16 h7) (dp_all hms), .tup (SqT.of (w16.get 1 rfl)) .nil, shaped_tup hms, rfl, _, rfl, ?_⟩
        rw [eqv_nilT]
        have hie : ((ro.makers.map V.int).map dataOf).isEmpty = ro.makers.isEmpty := by cases ro.makers <;> rfl
        rw [hie]
        have mlen : ro.makers.length ≤ 6 := by
          have := asc_len ok.masc (n := ro.names.length) ok.m0
          omega
        have w17 := w16.sub (l' := [(d, dl x y l), (p7, .lst (((lines2 ro).map lineS ++ L2.map Prod.fst).map V.str)), (nl, .lst (ro.names.map V.str))]) (by walk_at "sub")
        cases hm : ro.makers with
        | nil =>
          exact ⟨_, s8, p7, x, y, l, L2, rfl, w17, ok3, hlo2⟩
        | cons m0 mr =>
          have h7' : H3 am = some (.tup ((m0 :: mr).map V.int)) := by rw [← hm]; exact h7
          have hm0 := ok.m0 m0 (by rw [hm]; exact List.mem_cons_self)
          refine ⟨⟨_, rfl⟩, _, rfl, _, rfl, ra, _, 4, _, rfl, rfl, keep w17 h1, rfl, am, rfl, ⟨_, keep w17 h7⟩, fun D7 hD7 => ?_⟩
          refine lc_tupF (K := K) (a := am) (xs := ro.makers.map V.int) (fun _ => true) (fun v => match v with | .int i => V.str (nm ro i) | v => v) w17 hD7 (fun H' c w => keep w h7) (by rw [List.length_map]; omega) (fun H' ⟨c, w⟩ i x hx R S hR _ => ?_) (fun H8 w18 => ?_)
          · obtain ⟨t, ht, rfl⟩ := int_of_map hx
            have h0 := ok.m0 t (List.mem_of_getElem? ht)
            refine ⟨rfl, _, rfl, _, rfl, nl, _, _, _, rfl, rfl, SqL.of (w.get 3 rfl), ?_, hR rfl⟩
            exact at_of (j := t.toNat) (by omega) (by rw [List.getElem?_map, nm_mem h0.1 h0.2]; rfl)
          have e14 : (ro.makers.map V.int).map (fun v => match v with | .int i => V.str (nm ro i) | v => v) = (ro.makers.map (nm ro)).map V.str := by rw [List.map_map, List.map_map]; rfl
          rw [filter_yes, e14] at w18
          refine ⟨_, rfl, _, rfl, ra, _, 4, _, rfl, rfl, keep w18 h1, rfl, am, _, 0, _, rfl, rfl, keep w18 h7', at_of (j := 0) (by rfl) (by rfl), nl, _, m0, _, rfl, rfl, SqL.of (w18.get 3 rfl), at_of (j := m0.toNat) (Int.toNat_of_nonneg hm0.1).symm (by rw [List.getElem?_map, nm_mem hm0.1 hm0.2]; rfl), (by show 1 ≤ sizeLine; decide), fun pl hpl => ?_⟩
          have w19 := (w18.perm (List.Perm.swap _ _ _)).new1 (.lst [V.str (nm ro m0)]) hpl
          refine ⟨D7, pl, _, _, rfl, rfl, w19.get 2 rfl, w19.get 1 rfl, (by rw [List.length_map, List.length_map]; exact Nat.le_trans (m := 100) (by show _ + 1 ≤ 100; omega) (by decide)), fun p8 hp8 => ?_⟩
          have e20 : (ro.makers.map (nm ro)).map V.str ++ [V.str (nm ro m0)] = (ro.makers ++ [m0]).map (V.str ∘ nm ro) := by rw [List.map_append, List.map_map]; rfl
          rw [e20]
          have w20 := w19.new1 (.lst ((ro.makers ++ [m0]).map (V.str ∘ nm ro))) hp8
          have hk0 : ∀ k ∈ ro.makers ++ [m0], 0 ≤ k ∧ k < ro.names.length := fun k hk => by
            rcases List.mem_append.mp hk with hk | hk
            · exact ok.m0 k hk
            · rw [List.mem_singleton.mp hk]; exact hm0
          have six_ok : ∀ s ∈ six, PySem.PyData.strOk s = true := by decide +kernel
          refine ⟨d, p8, x, y, l, _, rfl, .inl (SqL.of (w20.get 1 rfl)), w20.get 0 rfl, ok3, fun v hv => ?_, by rw [List.length_map, List.length_append, List.length_singleton]; omega, fun ys p9 x y l H9 c9 ok3 hperm9 => ?_⟩
          · obtain ⟨k, hk, rfl⟩ := List.mem_map.mp hv
            exact six_ok _ (nm_six ok (hk0 k hk))
          obtain ⟨ks, rfl, hks⟩ := perm_of_map _ hperm9
          have w21 := w20.call1 (fun xs q => by cases q) c9
          have e21 : ks.map (V.str ∘ nm ro) = (ks.map (nm ro)).map V.str := by rw [List.map_map]
          rw [e21] at w21
          have hkl : ks.length ≤ 7 := by rw [hks.length_eq, List.length_append, List.length_singleton]; omega
          have hkne : ks ≠ [] := fun e => by
            have := hks.length_eq
            rw [e, List.length_append] at this; simp at this
          have hkm : ∀ k : Int, k ∈ ks ↔ k ∈ ro.makers := fun k => by
            rw [hks.mem_iff, List.mem_append, List.mem_singleton]
            exact ⟨fun h => h.elim id (fun e => by rw [e, hm]; exact List.mem_cons_self), .inl⟩
          have hnl8 : ∀ u ∈ ks.map (nm ro), u.length ≤ 8 := fun u hu1 => by
            obtain ⟨k, hk, rfl⟩ := List.mem_map.mp hu1
            have := ok.m0 k ((hkm k).mp hk)
            exact nm_len ok this.1 this.2
          have l1s : (" " : Str).length = 1 := by decide
          have hjl := join_len " " (ks.map (nm ro)) 8 hnl8
          have hsl := sum_le (fun s : Str => s.length) 8 (ks.map (nm ro)) hnl8
          rw [l1s, List.length_map] at hjl
          rw [List.length_map] at hsl
          refine ⟨_, p9, ks.map (nm ro), rfl, rfl, .inl (SqL.of (w21.get 1 rfl)), by rw [l1s, List.length_map]; omega, ?_⟩
          have w22 := w21.sub (l' := [(d, dl x y l), (p7, .lst (((lines2 ro).map lineS ++ L2.map Prod.fst).map V.str)), (nl, .lst (ro.names.map V.str))]) (by walk_at "sub")
          have hnew : "makeup " ++ Txt.join " " (ks.map (nm ro)) ++ ";" = lineS ("makeup" :: ks.map (nm ro)) := lineS_head (w := "makeup") (by simpa using hkne) (by decide +kernel)
          have hll : ((lines2 ro).map lineS ++ L2.map Prod.fst).length ≤ 22 := by
            rw [List.length_append, List.length_map, List.length_map]; show 2 + _ ≤ 22; omega
          have hlz : ∀ u ∈ (lines2 ro).map lineS ++ L2.map Prod.fst, u.length ≤ 200 := fun u hu1 => by
            rcases List.mem_append.mp hu1 with hu1 | hu1
            · obtain ⟨ws, hws, rfl⟩ := List.mem_map.mp hu1
              have := words_len ok ws (by unfold lineWords; exact List.mem_append_left _ (List.mem_append_left _ (List.mem_append_left _ hws)))
              exact lineS_len this.1 this.2
            · obtain ⟨q3, hq3, rfl⟩ := List.mem_map.mp hu1
              exact (hlo2.ln q3 hq3).2.2.2.1
          refine ⟨_, rfl, p7, rfl, ⟨_, SqL.of (w22.get 1 rfl)⟩, fun D9 hD9 => ?_⟩
          have w23 := w22.new1 (.lst []) hD9
          generalize hLN : (lines2 ro).map lineS ++ L2.map Prod.fst = LN at *
          refine lc_list (K := K) (a := p7) (xs := LN.map V.str) (fun i H' => ∃ out : List Str, Wd [d] H3 H' [(d, dl x y l), (D9, .lst (out.map V.str)), (p7, .lst (LN.map V.str)), (nl, .lst (ro.names.map V.str))] ∧ Paired (Ch ("makeup " ++ Txt.join " " (ks.map (nm ro)) ++ ";")) (LN.take i) out)
            ⟨[], w23, by rw [List.take_zero]; exact .nil⟩ (fun i H' _ ⟨_, w, _⟩ => SqL.of (w.get 2 rfl)) ?_ ?_
          · rintro i v H10 hv ⟨out, w24, hP⟩
            obtain ⟨u, hu1, rfl⟩ : ∃ u, LN[i]? = some u ∧ v = V.str u := by
              rw [List.getElem?_map] at hv
              cases e : LN[i]? with
              | none => rw [e] at hv; cases hv
              | some u => rw [e] at hv; exact ⟨u, rfl, (Option.some.inj hv).symm⟩
            have hul := hlz u (List.mem_of_getElem? hu1)
            have hol : out.length ≤ 22 := by
              have := (Paired.get hP).1
              rw [List.length_take] at this; omega
            have hfin : ∀ v2, Ch ("makeup " ++ Txt.join " " (ks.map (nm ro)) ++ ";") u v2 → ∃ acc, H10 D9 = some (.lst acc) ∧ acc.length < sizeLine ∧ ∃ out : List Str, Wd [d] H3 (upd H10 D9 (.lst (acc ++ [V.str v2]))) [(d, dl x y l), (D9, .lst (out.map V.str)), (p7, .lst (LN.map V.str)), (nl, .lst (ro.names.map V.str))] ∧ Paired (Ch ("makeup " ++ Txt.join " " (ks.map (nm ro)) ++ ";")) (LN.take (i + 1)) out := fun v2 hc2 => by
              refine ⟨_, w24.get 1 rfl, ?_, out ++ [v2], ?_, ?_⟩
              · rw [List.length_map]; exact Nat.lt_of_le_of_lt (m := 100) (by omega) (by decide)
              · rw [List.map_append]
                exact w24.put 1 (.lst (out.map V.str ++ [V.str v2])) rfl (fun _ q => by cases q)
              · rw [take_more hu1]
                exact Paired.app hP (.cons hc2 .nil)
            refine ⟨rfl, _, rfl, _, rfl, _, rfl, Nat.le_trans hul (by decide), rfl, _, rfl, ?_⟩
            have l7 : ("makeup " : Str).length = 7 := by decide
            refine ite2 (fun h => ?_) (fun h => ?_)
            · refine ⟨_, rfl, _, _, rfl, rfl, small2 (by rw [l7]; decide) (by omega), _, _, rfl, rfl, small2 (by rw [app_len, l7]; omega) (by decide), hfin _ (.inr ⟨cut_first (by decide) (w := "makeup") (by rfl) (of_decide_eq_true h), rfl⟩)⟩
            · exact ⟨_, rfl, hfin _ (.inl rfl)⟩
          · rintro H10 ⟨out, w24, hP⟩
            rw [List.length_map, List.take_length, ← hLN] at hP
            obtain ⟨o1, o2, rfl, hP1, hP2⟩ := Paired.split hP
            have e1 := ch_two hP1
            subst e1
            obtain ⟨L', rfl, hP3⟩ := ch_lines (ks := ks) hlo2.ln hP2
            have w25 := w24.sub (l' := [(d, dl x y l), (D9, .lst (((lines2 ro).map lineS ++ L'.map Prod.fst).map V.str)), (nl, .lst (ro.names.map V.str))]) (by walk_at "sub")
            exact ⟨_, _, D9, x, y, l, L', rfl, w25, ok3, hlo2.mk' ok hkm hkne (by omega) hnew hP3⟩
      · rintro σ H7 ⟨s2, s8, p7, x, y, l, L, rfl, w15, ok3, hlo3⟩
        have hS : ∀ s ∈ L.map Prod.snd, StmOk ro s := fun s hs => by
          obtain ⟨q3, hq3, rfl⟩ := List.mem_map.mp hs
          exact (hlo3.ln q3 hq3).2.2.1
        have hw0 := words0 ok hS
        have hLl := hlo3.few
        have hLLf : ((lines2 ro).map (fun ws => (lineS ws, ws)) ++ L.map (fun q => (q.1, stmWords ro q.2))).map Prod.fst = (lines2 ro).map lineS ++ L.map Prod.fst := by
          rw [List.map_append, List.map_map, List.map_map]; rfl
        have hLLok : ∀ q ∈ (lines2 ro).map (fun ws => (lineS ws, ws)) ++ L.map (fun q => (q.1, stmWords ro q.2)), Lw q.1 q.2 := fun q hq => by
          rcases List.mem_append.mp hq with hq | hq
          · obtain ⟨ws, hws, rfl⟩ := List.mem_map.mp hq
            have := hw0 ws (List.mem_append_left _ hws)
            exact lw_line this.1 fun x hx => (this.2.2 x hx).1
          · obtain ⟨q3, hq3, rfl⟩ := List.mem_map.mp hq
            exact (hlo3.ln q3 hq3).1
        have hpo := parts_of _ hLLok
        rw [hLLf] at hpo
        have hWW : ((lines2 ro).map (fun ws => (lineS ws, ws)) ++ L.map (fun q => (q.1, stmWords ro q.2))).flatMap (fun q => q.2 ++ [(";" : Str)]) = (allWords ro (L.map Prod.snd)).flatMap fun ws => ws ++ [(";" : Str)] := by
          unfold allWords
          rw [List.flatMap_append, List.flatMap_append, List.flatMap_map, List.flatMap_map, List.flatMap_map, List.flatMap_map]
        rw [hWW] at hpo
        have hlz : ∀ u ∈ (lines2 ro).map lineS ++ L.map Prod.fst, u.length ≤ 200 := fun u hu1 => by
          rcases List.mem_append.mp hu1 with hu1 | hu1
          · obtain ⟨ws, hws, rfl⟩ := List.mem_map.mp hu1
            have := words_len ok ws (by unfold lineWords; exact List.mem_append_left _ (List.mem_append_left _ (List.mem_append_left _ hws)))
            exact lineS_len this.1 this.2
          · obtain ⟨q3, hq3, rfl⟩ := List.mem_map.mp hu1
            exact (hlo3.ln q3 hq3).2.2.2.1
        have hll : ((lines2 ro).map lineS ++ L.map Prod.fst).length ≤ 22 := by
          rw [List.length_append, List.length_map, List.length_map]; show 2 + _ ≤ 22; omega
        have l1n : ("\n" : Str).length = 1 := by decide
        have hjl := join_len "\n" _ 200 hlz
        have hsl := sum_le (fun s : Str => s.length) 200 _ hlz
        rw [l1n] at hjl
        have l3 : (" ; " : Str).length = 3 := by decide
        refine ⟨_, rfl, _, p7, _, rfl, rfl, .inl (SqL.of (w15.get 1 rfl)), by rw [l1n]; omega, _, rfl, by rw [l3]; omega, ⟨_, rfl⟩, _, rfl, rfl, ?_, ?_⟩
        · have := TK.replace_len (Txt.join "\n" ((lines2 ro).map lineS ++ L.map Prod.fst)) ";" " ; "
          rw [l3] at this
          exact Nat.le_trans (m := 20000) (by omega) (by decide)
        rw [hpo]
        have hWl : ((allWords ro (L.map Prod.snd)).flatMap fun ws => ws ++ [(";" : Str)]).length ≤ 308 := by
          rw [List.length_flatMap]
          have h2 := sum_le (fun ws : List Str => (ws ++ [(";" : Str)]).length) 14 (allWords ro (L.map Prod.snd)) fun ws hws => by
            have := (hw0 ws hws).2.1
            rw [List.length_append, List.length_singleton]; omega
          have h3 : (allWords ro (L.map Prod.snd)).length ≤ 22 := by
            unfold allWords lines2
            simp; omega
          have h4 := Nat.mul_le_mul_right 14 h3
          omega
        have hWw : ∀ w ∈ (allWords ro (L.map Prod.snd)).flatMap (fun ws => ws ++ [(";" : Str)]), w.length ≤ 8 := fun w hw1 => by
          obtain ⟨ws, hws, hm⟩ := List.mem_flatMap.mp hw1
          rcases List.mem_append.mp hm with hm | hm
          · exact ((hw0 ws hws).2.2 w hm).2
          · rw [List.mem_singleton.mp hm]; decide
        generalize hWd : (allWords ro (L.map Prod.snd)).flatMap (fun ws => ws ++ [(";" : Str)]) = W at *
        intro pp hpp
        have w16 := (w15.new1 (.lst (W.map V.str)) hpp).sub (l' := [(d, dl x y l), (pp, .lst (W.map V.str)), (nl, .lst (ro.names.map V.str))]) (by walk_at "sub")
        refine ⟨_, rfl, pp, rfl, ⟨_, SqL.of (w16.get 1 rfl)⟩, ?_⟩
        refine for_it (walk_list (xs := W.map V.str)) (fun i σ H' => ∃ (s11 : Option V) (x y : Int) (l : List Int) (z : Str) (G : List (List Nat × Str)), σ = [some (.ref a), some (.ref d), s2, some (.ref ra), some (.str (textOf ro)), some (.ref nl), some (.ref ln), some (.ref p7), s8, some (.ref pp), some (.str z), s11, s12, none, none] ∧
          Wd [d] H3 H' [(d, dl x y l), (pp, .lst (W.map V.str)), (nl, .lst (ro.names.map V.str))] ∧ DOk x y l ∧ G.map Prod.snd = W.take i ∧ (∀ q ∈ G, q.1 ≠ [] ∧ q.1.length ≤ 2 ∧ ∀ c ∈ q.1, c = 32 ∨ c = 10) ∧ TL.tl z = G.flatMap fun q => q.1 ++ TL.tl q.2) ?_ ?_ ?_ ?_
        · exact ⟨_, x, y, l, "", [], rfl, w16, ok3, by simp, by simp, by rfl⟩
        · rintro i σ H' _ ⟨_, _, _, _, _, _, _, w, _⟩
          exact SqL.of (w.get 1 rfl)
        · rintro i v σ H8 H8' hi ⟨s11, x, y, l, z, G, rfl, w17, ok3, hG1, hG2, hz⟩ ⟨rfl, hv⟩
          obtain ⟨u, hu1, rfl⟩ : ∃ u, W[i]? = some u ∧ v = V.str u := by
            rw [List.getElem?_map] at hv
            cases e : W[i]? with
            | none => rw [e] at hv; cases hv
            | some u => rw [e] at hv; exact ⟨u, rfl, (Option.some.inj hv).symm⟩
          have hul := hWw u (List.mem_of_getElem? hu1)
          have hi3 := (List.getElem?_eq_some_iff.mp hu1).1
          have hGl : G.length ≤ 308 := by
            have := congrArg List.length hG1
            rw [List.length_map, List.length_take] at this; omega
          have hzl : z.length ≤ 3080 := by
            have h1 := congrArg List.length hz
            rw [← TL.len_tl, List.length_flatMap] at h1
            have h2 := sum_le (fun q : List Nat × Str => (q.1 ++ TL.tl q.2).length) 10 G fun q hq => by
              have g1 := (hG2 q hq).2.1
              have g2 := hWw q.2 (by
                have : q.2 ∈ W.take i := by rw [← hG1]; exact List.mem_map.mpr ⟨q, hq, rfl⟩
                exact List.mem_of_mem_take this)
              rw [List.length_append, ← TL.len_tl]; omega
            have h4 := Nat.mul_le_mul_right 10 hGl
            omega
          refine ⟨_, rfl, (by show 4 ≤ sizeLine; decide), fun gp hgp => ?_⟩
          have w18 := w17.new1 (.lst [V.str " ", V.str "  ", V.str "\n", V.str "\n "]) hgp
          refine ⟨_, rfl, d, 4, x, y, l, rfl, by decide, by decide, w18.get 0 rfl, ok3, fun k x y l H9 c9 ok3 hk0 hk4 => ?_⟩
          have w19 := w18.call1 (fun xs q => by cases q) c9
          obtain ⟨g, hg1, hg2, hg3, hg4⟩ : ∃ g : Str, atI [V.str " ", V.str "  ", V.str "\n", V.str "\n "] k = some (V.str g) ∧ TL.tl g ≠ [] ∧ (TL.tl g).length ≤ 2 ∧ ∀ c ∈ TL.tl g, c = 32 ∨ c = 10 := by
            have hk : k = 0 ∨ k = 1 ∨ k = 2 ∨ k = 3 := by omega
            rcases hk with rfl | rfl | rfl | rfl
            · exact ⟨" ", at_of (j := 0) (by rfl) (by rfl), by decide +kernel, by decide +kernel, by decide +kernel⟩
            · exact ⟨"  ", at_of (j := 1) (by rfl) (by rfl), by decide +kernel, by decide +kernel, by decide +kernel⟩
            · exact ⟨"\n", at_of (j := 2) (by rfl) (by rfl), by decide +kernel, by decide +kernel, by decide +kernel⟩
            · exact ⟨"\n ", at_of (j := 3) (by rfl) (by rfl), by decide +kernel, by decide +kernel, by decide +kernel⟩
          have hgl : g.length ≤ 2 := by rw [TL.len_tl]; exact hg3
          have big : ∀ n : Nat, n ≤ 4000 → n ≤ sizeLine := fun n h => Nat.le_trans h (by decide)
          refine ⟨gp, _, k, V.str g, rfl, rfl, SqL.of (w19.get 1 rfl), hg1, _, _, rfl, rfl, big _ (by omega), _, rfl, _, _, rfl, rfl, big _ (by rw [app_len]; omega), ?_⟩
          refine ⟨_, x, y, l, z ++ g ++ u, G ++ [(TL.tl g, u)], rfl, w19.sub (by walk_at "sub"), ok3, ?_, ?_, ?_⟩
          · rw [List.map_append, hG1, take_more hu1]; rfl
          · intro q hq
            rcases List.mem_append.mp hq with hq | hq
            · exact hG2 q hq
            · rw [List.mem_singleton.mp hq]; exact ⟨hg2, hg3, hg4⟩
          · rw [TL.tl_append, TL.tl_append, hz, List.flatMap_append]
            simp
        · rintro σ H8 ⟨s11, x, y, l, z, G, rfl, w17, ok3, hG1, hG2, hz⟩
          rw [List.length_map, List.take_length] at hG1
          have hsay := says_other ok hlo3 hG2 hz (by rw [hG1, hWd])
          have hst := says_text ok
          refine ⟨_, rfl, z, ro, _, rfl, hsay, fun H9 fp c9 => ?_⟩
          have w18 := w17.call0 c9
          refine ⟨_, rfl, textOf ro, ro, _, rfl, hst, fun H10 c10 => ?_⟩
          have w19 := w18.call0 c10
          refine ⟨_, rfl, z, ro, _, rfl, hsay, fun H11 c11 => ?_⟩
          have w20 := (w19.call0 c11).sub (l' := [(fp, .lst (ro.names.map V.str)), (d, dl x y l), (nl, .lst (ro.names.map V.str))]) (by walk_at "sub")
          refine ⟨_, rfl, (by show 3 ≤ sizeLine; decide), fun e1 he1 => ?_⟩
          have w21 := w20.new (.lst [V.str (textOf ro), V.str (textOf ro), V.ref fp]) he1
          refine ⟨_, rfl, _, rfl, _, rfl, (by show 3 ≤ sizeLine; decide), fun e2 he2 => ?_⟩
          have w22 := w21.new (.lst [V.str (textOf ro), V.str (textOf ro), V.ref nl]) he2
          have hsn : SameV (upd (upd H11 e1 (.lst [V.str (textOf ro), V.str (textOf ro), V.ref fp])) e2 (.lst [V.str (textOf ro), V.str (textOf ro), V.ref nl])) 1 (.ref fp) (.ref nl) :=
            .lst (w22.get 2 rfl) (w22.get 4 rfl) rfl (by rw [List.length_map]; omega) fun i x y hx hy => by
              rw [hx] at hy
              cases hy
              rw [List.getElem?_map] at hx
              cases e : ro.names[i]? with
              | none => rw [e] at hx; cases hx
              | some u => rw [e] at hx; cases hx; exact .str 0 u
          refine ⟨.ref e1, .ref e2, rfl, .lst (w22.get 1 rfl) (w22.get 0 rfl) rfl (by show 3 ≤ 1000; decide) (fun i x y hx hy => ?_), fun H12 c12 => ?_⟩
          · match i, hx, hy with
            | 0, hx, hy => cases hx; cases hy; exact .str 1 _
            | 1, hx, hy => cases hx; cases hy; exact .str 1 _
            | 2, hx, hy => cases hx; cases hy; exact hsn
            | i + 3, hx, hy => cases hx
          have w23 := (w22.call0 c12).sub (l' := [(fp, .lst (ro.names.map V.str)), (d, dl x y l), (nl, .lst (ro.names.map V.str))]) (by walk_at "sub")
          refine ⟨_, rfl, ?_⟩
          refine ite2 (fun h => absurd h (by decide)) (fun _ => ?_)
          refine ⟨_, rfl, .inl ⟨rfl, _, SqL.of (w23.get 0 rfl)⟩, fp, _, _, rfl, rfl, w23.get 0 rfl, (by rw [List.length_map]; exact Nat.lt_of_le_of_lt (m := 100) (by omega) (by decide)), ?_⟩
          have w24 := (w23.put 0 (.lst (ro.names.map V.str ++ [V.int 0])) rfl (fun _ q => by cases q)).sub (l' := [(d, dl x y l), (nl, .lst (ro.names.map V.str))]) (by walk_at "sub")
          refine ⟨_, rfl, textOf ro, ro, _, rfl, hst, fun H13 p13 c13 => ?_⟩
          have w25 := w24.call0 c13
          have six_ok : ∀ s ∈ six, PySem.PyData.strOk s = true := by decide +kernel
          have hIS : ∀ v ∈ ro.names.map V.str, IS v := fun v hv => by
            obtain ⟨u, hu1, rfl⟩ := List.mem_map.mp hv
            exact six_ok u (ok.six u hu1)
          refine ⟨_, rfl, .list ((ro.names.map V.str).map dataOf), .list ((ro.names.map V.str).map dataOf), .lst (SqL.of (w25.get 0 rfl)) (dp_all hIS), .lst (SqL.of (w25.get 2 rfl)) (dp_all hIS), shaped_list hIS, shaped_list hIS, _, rfl, ?_⟩
          have hcl : (PyData.list ((ro.names.map V.str).map dataOf)).canLay0 = true := by
            rw [PyData.canLay0]; exact lay_all hIS
          rw [PySem.SeqAt.eqv_refl _ hcl]
          refine ite2 (fun h => absurd h (by decide)) (fun _ => ?_)
          exact ⟨_, _, _, _, _, _, _, _, _, _, _, x, y, l, rfl, w25.get 1 rfl, ok3⟩
  · rintro σ H2 _
    exact q _
end
end Br

namespace Br
open PySem PySem.Spec PyProof.Rows L2
/-! ### what the top has written, the head -/
theorem all_mk {l : PySem.W.OpenLaw} {w : World} {K : PySem.W.Frag} {h : Heap} {mg : Str → Option Value} {fa CT CP aKW aMO : Addr} (X : K.In h) (G : h.Ns mainGlobals mg) (hfa : mg "law" = some (.ref fa))
    {f1 f2 f3 f4 f5 f6 f7 f8 f9 f10 f11 f12 f13 f14 f15 f16 f17 f18 f19 f20 f21 f22 f23 f24 f25 f26 f27 : Addr} {od1 od2 od3 od4 od5 od6 od7 od8 od9 od10 od11 od12 od13 od14 od15 od16 od17 od18 od19 od20 od21 od22 od23 od24 od25 od26 od27 an1 an2 an3 an4 an5 an6 an7 an8 an9 an10 an11 an12 an13 an14 an15 an16 an17 an18 an19 an20 an21 an22 an23 an24 an25 an26 an27 dKW dMO : Option Addr} {sl1 sl2 sl3 sl4 sl5 sl6 sl7 sl8 sl9 sl10 sl11 sl12 sl13 sl14 sl15 sl16 sl17 sl18 sl19 sl20 sl21 sl22 sl23 sl24 sl25 sl26 sl27 slKW slMO : Array (Option Value)} {oc1 oc2 oc3 oc4 oc5 oc6 oc7 oc8 oc9 oc10 oc11 oc12 oc13 oc14 oc15 oc16 oc17 oc18 oc19 oc20 oc21 oc22 oc23 oc24 oc25 oc26 oc27 kV1 kV2 kV3 kV4 kV5 kV6 kV7 kV8 kV9 kV10 kV11 kV12 kV13 kV14 kV15 kV16 kV17 kV18 kV19 kV20 kV21 kV22 kV23 kV24 kV25 kV26 kV27 dc1 dc2 dc3 dc4 dc5 dc6 dc7 dc8 dc9 dc10 dc11 dc12 dc13 dc14 dc15 dc16 dc17 dc18 dc19 dc20 dc21 dc22 dc23 dc24 dc25 dc26 dc27 pm1 pm2 pm3 pm4 pm5 pm6 pm7 pm8 pm9 pm10 pm11 pm12 pm13 pm14 pm15 pm16 pm17 pm18 pm19 pm20 pm21 pm22 pm23 pm24 pm25 pm26 pm27 cd1 cd2 cd3 cd4 cd5 cd6 cd7 cd8 cd9 cd10 cd11 cd12 cd13 cd14 cd15 cd16 cd17 cd18 cd19 cd20 cd21 cd22 cd23 cd24 cd25 cd26 cd27 ct1 ct2 ct3 ct4 ct5 ct6 ct7 ct8 ct9 ct10 ct11 ct12 ct13 ct14 ct15 ct16 ct17 ct18 ct19 ct20 ct21 ct22 ct23 ct24 ct25 ct26 ct27 : Value}
    {nKW nMO : Nat} {t_END_SIGN t_SIGN t_DIGITS t_NUMBER t_LETTERS t_KEYWORD t_NAME t_END t_SPACES t_MAX_DIGITS t_MAX_LETTERS t_MAX_PEOPLE t_MAX_TURNS t_MAX_WEIGHT t_MAX_AWAYS tk0 tk1 tk2 tk3 tk4 tk5 tm0 tm1 tm2 tm3 tm4 tm5 : Tok}
    (aCT : PySem.W.nsIn K mainGlobals "Token" = some (some (.ref CT)))
    (aCP : PySem.W.nsIn K mainGlobals "Parser" = some (some (.ref CP)))
    (pgCT : PySem.W.plainGet K CT Str.empty = true)
    (hdCT : PySem.W.hasDictIn K CT = true)
    (poCT : PySem.W.plainOver K CT = true)
    (saCT : PySem.W.findIn K (.ref CT) "__setattr__" = some (some (.builtin "object.__setattr__")))
    (mkCT : PySem.W.makesIn K CT = true)
    (kcCT : PySem.W.keepIn K (.ref CT) = true)
    (pgCP : PySem.W.plainGet K CP Str.empty = true)
    (hdCP : PySem.W.hasDictIn K CP = true)
    (poCP : PySem.W.plainOver K CP = true)
    (saCP : PySem.W.findIn K (.ref CP) "__setattr__" = some (some (.builtin "object.__setattr__")))
    (mkCP : PySem.W.makesIn K CP = true)
    (kcCP : PySem.W.keepIn K (.ref CP) = true)
    (nTkind : PySem.W.findIn K (.ref CT) "kind" = some none)
    (nTtext : PySem.W.findIn K (.ref CT) "text" = some none)
    (nTline : PySem.W.findIn K (.ref CT) "line" = some none)
    (nTcolumn : PySem.W.findIn K (.ref CT) "column" = some none)
    (nPtokens : PySem.W.findIn K (.ref CP) "tokens" = some none)
    (nPat : PySem.W.findIn K (.ref CP) "at" = some none)
    (nPfaults : PySem.W.findIn K (.ref CP) "faults" = some none)
    (nPnames : PySem.W.findIn K (.ref CP) "names" = some none)
    (nPweights : PySem.W.findIn K (.ref CP) "weights" = some none)
    (nPmakers : PySem.W.findIn K (.ref CP) "makers" = some none)
    (nPaways : PySem.W.findIn K (.ref CP) "aways" = some none)
    (a1 : PySem.W.nsIn K mainGlobals "_law_below" = some (some (.ref f1)))
    (l1 : K.lookup f1 = some ⟨oc1, od1, .func (PySem.W.fnOf "_law_below" "_law_below" (defArgs s_law_below) (defBody s_law_below) (defScope s_law_below) .none kV1 dc1 pm1 an1 cd1 ct1), sl1⟩)
    (c1 : PySem.W.codeIn K cd1 "_law_below" = true)
    (k1 : PySem.W.keepIn K (.ref f1) = true)
    (a2 : PySem.W.nsIn K mainGlobals "_law_random" = some (some (.ref f2)))
    (l2 : K.lookup f2 = some ⟨oc2, od2, .func (PySem.W.fnOf "_law_random" "_law_random" (defArgs s_law_random) (defBody s_law_random) (defScope s_law_random) .none kV2 dc2 pm2 an2 cd2 ct2), sl2⟩)
    (c2 : PySem.W.codeIn K cd2 "_law_random" = true)
    (k2 : PySem.W.keepIn K (.ref f2) = true)
    (a3 : PySem.W.nsIn K mainGlobals "_law_shuffled" = some (some (.ref f3)))
    (l3 : K.lookup f3 = some ⟨oc3, od3, .func (PySem.W.fnOf "_law_shuffled" "_law_shuffled" (defArgs s_law_shuffled) (defBody s_law_shuffled) (defScope s_law_shuffled) .none kV3 dc3 pm3 an3 cd3 ct3), sl3⟩)
    (c3 : PySem.W.codeIn K cd3 "_law_shuffled" = true)
    (k3 : PySem.W.keepIn K (.ref f3) = true)
    (a4 : PySem.W.nsIn K mainGlobals "_law_rota" = some (some (.ref f4)))
    (l4 : K.lookup f4 = some ⟨oc4, od4, .func (PySem.W.fnOf "_law_rota" "_law_rota" (defArgs s_law_rota) (defBody s_law_rota) (defScope s_law_rota) .none kV4 dc4 pm4 an4 cd4 ct4), sl4⟩)
    (c4 : PySem.W.codeIn K cd4 "_law_rota" = true)
    (k4 : PySem.W.keepIn K (.ref f4) = true)
    (a5 : PySem.W.nsIn K mainGlobals "_law_text" = some (some (.ref f5)))
    (l5 : K.lookup f5 = some ⟨oc5, od5, .func (PySem.W.fnOf "_law_text" "_law_text" (defArgs s_law_text) (defBody s_law_text) (defScope s_law_text) .none kV5 dc5 pm5 an5 cd5 ct5), sl5⟩)
    (c5 : PySem.W.codeIn K cd5 "_law_text" = true)
    (k5 : PySem.W.keepIn K (.ref f5) = true)
    (a6 : PySem.W.nsIn K mainGlobals "_law_equal" = some (some (.ref f6)))
    (l6 : K.lookup f6 = some ⟨oc6, od6, .func (PySem.W.fnOf "_law_equal" "_law_equal" (defArgs s_law_equal) (defBody s_law_equal) (defScope s_law_equal) .none kV6 dc6 pm6 an6 cd6 ct6), sl6⟩)
    (c6 : PySem.W.codeIn K cd6 "_law_equal" = true)
    (k6 : PySem.W.keepIn K (.ref f6) = true)
    (a7 : PySem.W.nsIn K mainGlobals "law" = some (some (.ref f7)))
    (l7 : K.lookup f7 = some ⟨oc7, od7, .func (PySem.W.fnOf "law" "law" (defArgs slaw) (defBody slaw) (defScope slaw) .none kV7 dc7 pm7 an7 cd7 ct7), sl7⟩)
    (c7 : PySem.W.codeIn K cd7 "law" = true)
    (k7 : PySem.W.keepIn K (.ref f7) = true)
    (a8 : PySem.W.nsIn K mainGlobals "run_end" = some (some (.ref f8)))
    (l8 : K.lookup f8 = some ⟨oc8, od8, .func (PySem.W.fnOf "run_end" "run_end" (defArgs srun_end) (defBody srun_end) (defScope srun_end) .none kV8 dc8 pm8 an8 cd8 ct8), sl8⟩)
    (c8 : PySem.W.codeIn K cd8 "run_end" = true)
    (k8 : PySem.W.keepIn K (.ref f8) = true)
    (a9 : PySem.W.nsIn K mainGlobals "read_token" = some (some (.ref f9)))
    (l9 : K.lookup f9 = some ⟨oc9, od9, .func (PySem.W.fnOf "read_token" "read_token" (defArgs sread_token) (defBody sread_token) (defScope sread_token) .none kV9 dc9 pm9 an9 cd9 ct9), sl9⟩)
    (c9 : PySem.W.codeIn K cd9 "read_token" = true)
    (k9 : PySem.W.keepIn K (.ref f9) = true)
    (a10 : PySem.W.nsIn K mainGlobals "tokenize" = some (some (.ref f10)))
    (l10 : K.lookup f10 = some ⟨oc10, od10, .func (PySem.W.fnOf "tokenize" "tokenize" (defArgs stokenize) (defBody stokenize) (defScope stokenize) .none kV10 dc10 pm10 an10 cd10 ct10), sl10⟩)
    (c10 : PySem.W.codeIn K cd10 "tokenize" = true)
    (k10 : PySem.W.keepIn K (.ref f10) = true)
    (a11 : PySem.W.nsIn K mainGlobals "load" = some (some (.ref f11)))
    (l11 : K.lookup f11 = some ⟨oc11, od11, .func (PySem.W.fnOf "load" "load" (defArgs sload) (defBody sload) (defScope sload) .none kV11 dc11 pm11 an11 cd11 ct11), sl11⟩)
    (c11 : PySem.W.codeIn K cd11 "load" = true)
    (k11 : PySem.W.keepIn K (.ref f11) = true)
    (a12 : PySem.W.nsIn K mainGlobals "format_parsed" = some (some (.ref f12)))
    (l12 : K.lookup f12 = some ⟨oc12, od12, .func (PySem.W.fnOf "format_parsed" "format_parsed" (defArgs sformat_parsed) (defBody sformat_parsed) (defScope sformat_parsed) .none kV12 dc12 pm12 an12 cd12 ct12), sl12⟩)
    (c12 : PySem.W.codeIn K cd12 "format_parsed" = true)
    (k12 : PySem.W.keepIn K (.ref f12) = true)
    (a13 : PySem.W.nsIn K mainGlobals "format_rota" = some (some (.ref f13)))
    (l13 : K.lookup f13 = some ⟨oc13, od13, .func (PySem.W.fnOf "format_rota" "format_rota" (defArgs sformat_rota) (defBody sformat_rota) (defScope sformat_rota) .none kV13 dc13 pm13 an13 cd13 ct13), sl13⟩)
    (c13 : PySem.W.codeIn K cd13 "format_rota" = true)
    (k13 : PySem.W.keepIn K (.ref f13) = true)
    (a14 : PySem.W.nsIn K mainGlobals "people" = some (some (.ref f14)))
    (l14 : K.lookup f14 = some ⟨oc14, od14, .func (PySem.W.fnOf "people" "people" (defArgs speople) (defBody speople) (defScope speople) .none kV14 dc14 pm14 an14 cd14 ct14), sl14⟩)
    (c14 : PySem.W.codeIn K cd14 "people" = true)
    (k14 : PySem.W.keepIn K (.ref f14) = true)
    (a15 : PySem.W.findIn K (.ref CT) "__init__" = some (some (.ref f15)))
    (i15 : PySem.W.isFn K (.ref f15) = true)
    (l15 : K.lookup f15 = some ⟨oc15, od15, .func (PySem.W.fnOf "__init__" "Token.__init__" (defArgs sToken___init__) (defBody sToken___init__) (defScope sToken___init__) .none kV15 dc15 pm15 an15 cd15 ct15), sl15⟩)
    (c15 : PySem.W.codeIn K cd15 "Token.__init__" = true)
    (k15 : PySem.W.keepIn K (.ref f15) = true)
    (a16 : PySem.W.findIn K (.ref CP) "__init__" = some (some (.ref f16)))
    (i16 : PySem.W.isFn K (.ref f16) = true)
    (l16 : K.lookup f16 = some ⟨oc16, od16, .func (PySem.W.fnOf "__init__" "Parser.__init__" (defArgs sParser___init__) (defBody sParser___init__) (defScope sParser___init__) .none kV16 dc16 pm16 an16 cd16 ct16), sl16⟩)
    (c16 : PySem.W.codeIn K cd16 "Parser.__init__" = true)
    (k16 : PySem.W.keepIn K (.ref f16) = true)
    (a17 : PySem.W.findIn K (.ref CP) "peek" = some (some (.ref f17)))
    (i17 : PySem.W.isFn K (.ref f17) = true)
    (l17 : K.lookup f17 = some ⟨oc17, od17, .func (PySem.W.fnOf "peek" "Parser.peek" (defArgs sParser_peek) (defBody sParser_peek) (defScope sParser_peek) .none kV17 dc17 pm17 an17 cd17 ct17), sl17⟩)
    (c17 : PySem.W.codeIn K cd17 "Parser.peek" = true)
    (k17 : PySem.W.keepIn K (.ref f17) = true)
    (a18 : PySem.W.findIn K (.ref CP) "take" = some (some (.ref f18)))
    (i18 : PySem.W.isFn K (.ref f18) = true)
    (l18 : K.lookup f18 = some ⟨oc18, od18, .func (PySem.W.fnOf "take" "Parser.take" (defArgs sParser_take) (defBody sParser_take) (defScope sParser_take) .none kV18 dc18 pm18 an18 cd18 ct18), sl18⟩)
    (c18 : PySem.W.codeIn K cd18 "Parser.take" = true)
    (k18 : PySem.W.keepIn K (.ref f18) = true)
    (a19 : PySem.W.findIn K (.ref CP) "take_word" = some (some (.ref f19)))
    (i19 : PySem.W.isFn K (.ref f19) = true)
    (l19 : K.lookup f19 = some ⟨oc19, od19, .func (PySem.W.fnOf "take_word" "Parser.take_word" (defArgs sParser_take_word) (defBody sParser_take_word) (defScope sParser_take_word) .none kV19 dc19 pm19 an19 cd19 ct19), sl19⟩)
    (c19 : PySem.W.codeIn K cd19 "Parser.take_word" = true)
    (k19 : PySem.W.keepIn K (.ref f19) = true)
    (a20 : PySem.W.findIn K (.ref CP) "take_all" = some (some (.ref f20)))
    (i20 : PySem.W.isFn K (.ref f20) = true)
    (l20 : K.lookup f20 = some ⟨oc20, od20, .func (PySem.W.fnOf "take_all" "Parser.take_all" (defArgs sParser_take_all) (defBody sParser_take_all) (defScope sParser_take_all) .none kV20 dc20 pm20 an20 cd20 ct20), sl20⟩)
    (c20 : PySem.W.codeIn K cd20 "Parser.take_all" = true)
    (k20 : PySem.W.keepIn K (.ref f20) = true)
    (a21 : PySem.W.findIn K (.ref CP) "person" = some (some (.ref f21)))
    (i21 : PySem.W.isFn K (.ref f21) = true)
    (l21 : K.lookup f21 = some ⟨oc21, od21, .func (PySem.W.fnOf "person" "Parser.person" (defArgs sParser_person) (defBody sParser_person) (defScope sParser_person) .none kV21 dc21 pm21 an21 cd21 ct21), sl21⟩)
    (c21 : PySem.W.codeIn K cd21 "Parser.person" = true)
    (k21 : PySem.W.keepIn K (.ref f21) = true)
    (a22 : PySem.W.findIn K (.ref CP) "parse_people" = some (some (.ref f22)))
    (i22 : PySem.W.isFn K (.ref f22) = true)
    (l22 : K.lookup f22 = some ⟨oc22, od22, .func (PySem.W.fnOf "parse_people" "Parser.parse_people" (defArgs sParser_parse_people) (defBody sParser_parse_people) (defScope sParser_parse_people) .none kV22 dc22 pm22 an22 cd22 ct22), sl22⟩)
    (c22 : PySem.W.codeIn K cd22 "Parser.parse_people" = true)
    (k22 : PySem.W.keepIn K (.ref f22) = true)
    (a23 : PySem.W.findIn K (.ref CP) "parse_turns" = some (some (.ref f23)))
    (i23 : PySem.W.isFn K (.ref f23) = true)
    (l23 : K.lookup f23 = some ⟨oc23, od23, .func (PySem.W.fnOf "parse_turns" "Parser.parse_turns" (defArgs sParser_parse_turns) (defBody sParser_parse_turns) (defScope sParser_parse_turns) .none kV23 dc23 pm23 an23 cd23 ct23), sl23⟩)
    (c23 : PySem.W.codeIn K cd23 "Parser.parse_turns" = true)
    (k23 : PySem.W.keepIn K (.ref f23) = true)
    (a24 : PySem.W.findIn K (.ref CP) "parse_weights" = some (some (.ref f24)))
    (i24 : PySem.W.isFn K (.ref f24) = true)
    (l24 : K.lookup f24 = some ⟨oc24, od24, .func (PySem.W.fnOf "parse_weights" "Parser.parse_weights" (defArgs sParser_parse_weights) (defBody sParser_parse_weights) (defScope sParser_parse_weights) .none kV24 dc24 pm24 an24 cd24 ct24), sl24⟩)
    (c24 : PySem.W.codeIn K cd24 "Parser.parse_weights" = true)
    (k24 : PySem.W.keepIn K (.ref f24) = true)
    (a25 : PySem.W.findIn K (.ref CP) "parse_away" = some (some (.ref f25)))
    (i25 : PySem.W.isFn K (.ref f25) = true)
    (l25 : K.lookup f25 = some ⟨oc25, od25, .func (PySem.W.fnOf "parse_away" "Parser.parse_away" (defArgs sParser_parse_away) (defBody sParser_parse_away) (defScope sParser_parse_away) .none kV25 dc25 pm25 an25 cd25 ct25), sl25⟩)
    (c25 : PySem.W.codeIn K cd25 "Parser.parse_away" = true)
    (k25 : PySem.W.keepIn K (.ref f25) = true)
    (a26 : PySem.W.findIn K (.ref CP) "parse_makeup" = some (some (.ref f26)))
    (i26 : PySem.W.isFn K (.ref f26) = true)
    (l26 : K.lookup f26 = some ⟨oc26, od26, .func (PySem.W.fnOf "parse_makeup" "Parser.parse_makeup" (defArgs sParser_parse_makeup) (defBody sParser_parse_makeup) (defScope sParser_parse_makeup) .none kV26 dc26 pm26 an26 cd26 ct26), sl26⟩)
    (c26 : PySem.W.codeIn K cd26 "Parser.parse_makeup" = true)
    (k26 : PySem.W.keepIn K (.ref f26) = true)
    (a27 : PySem.W.findIn K (.ref CP) "parse_rota" = some (some (.ref f27)))
    (i27 : PySem.W.isFn K (.ref f27) = true)
    (l27 : K.lookup f27 = some ⟨oc27, od27, .func (PySem.W.fnOf "parse_rota" "Parser.parse_rota" (defArgs sParser_parse_rota) (defBody sParser_parse_rota) (defScope sParser_parse_rota) .none kV27 dc27 pm27 an27 cd27 ct27), sl27⟩)
    (c27 : PySem.W.codeIn K cd27 "Parser.parse_rota" = true)
    (k27 : PySem.W.keepIn K (.ref f27) = true)
    (s_END_SIGN : PySem.W.nsIn K mainGlobals "END_SIGN" = some (some (.str ";" t_END_SIGN)))
    (s_SIGN : PySem.W.nsIn K mainGlobals "SIGN" = some (some (.str "sign" t_SIGN)))
    (s_DIGITS : PySem.W.nsIn K mainGlobals "DIGITS" = some (some (.str "0123456789" t_DIGITS)))
    (s_NUMBER : PySem.W.nsIn K mainGlobals "NUMBER" = some (some (.str "number" t_NUMBER)))
    (s_LETTERS : PySem.W.nsIn K mainGlobals "LETTERS" = some (some (.str "abcdefghijklmnopqrstuvwxyz" t_LETTERS)))
    (s_KEYWORD : PySem.W.nsIn K mainGlobals "KEYWORD" = some (some (.str "keyword" t_KEYWORD)))
    (s_NAME : PySem.W.nsIn K mainGlobals "NAME" = some (some (.str "name" t_NAME)))
    (s_END : PySem.W.nsIn K mainGlobals "END" = some (some (.str "end" t_END)))
    (s_SPACES : PySem.W.nsIn K mainGlobals "SPACES" = some (some (.str " \n" t_SPACES)))
    (s_MAX_DIGITS : PySem.W.nsIn K mainGlobals "MAX_DIGITS" = some (some (.int 2 t_MAX_DIGITS)))
    (s_MAX_LETTERS : PySem.W.nsIn K mainGlobals "MAX_LETTERS" = some (some (.int 8 t_MAX_LETTERS)))
    (s_MAX_PEOPLE : PySem.W.nsIn K mainGlobals "MAX_PEOPLE" = some (some (.int 6 t_MAX_PEOPLE)))
    (s_MAX_TURNS : PySem.W.nsIn K mainGlobals "MAX_TURNS" = some (some (.int 12 t_MAX_TURNS)))
    (s_MAX_WEIGHT : PySem.W.nsIn K mainGlobals "MAX_WEIGHT" = some (some (.int 9 t_MAX_WEIGHT)))
    (s_MAX_AWAYS : PySem.W.nsIn K mainGlobals "MAX_AWAYS" = some (some (.int 20 t_MAX_AWAYS)))
    (s_KEYWORDS : PySem.W.nsIn K mainGlobals "KEYWORDS" = some (some (.ref aKW)))
    (u_KEYWORDS : K.lookup aKW = some ⟨.type "tuple", dKW, .seq #[.str "people" tk0, .str "turns" tk1, .str "weights" tk2, .str "away" tk3, .str "of" tk4, .str "makeup" tk5] nKW, slKW⟩)
    (s_MODULI : PySem.W.nsIn K mainGlobals "MODULI" = some (some (.ref aMO)))
    (u_MODULI : K.lookup aMO = some ⟨.type "tuple", dMO, .seq #[.int 2 tm0, .int 3 tm1, .int 4 tm2, .int 6 tm3, .int 8 tm4, .int 12 tm5] nMO, slMO⟩)
    (z_len : PySem.W.nsIn K mainGlobals "len" = some none)
    (z_range : PySem.W.nsIn K mainGlobals "range" = some none)
    (z_list : PySem.W.nsIn K mainGlobals "list" = some none)
    (z_tuple : PySem.W.nsIn K mainGlobals "tuple" = some none)
    (z_int : PySem.W.nsIn K mainGlobals "int" = some none)
    (z_str : PySem.W.nsIn K mainGlobals "str" = some none)
    (z_abs : PySem.W.nsIn K mainGlobals "abs" = some none)
    (z_max : PySem.W.nsIn K mainGlobals "max" = some none)
    (z_sorted : PySem.W.nsIn K mainGlobals "sorted" = some none)
    (z_set : PySem.W.nsIn K mainGlobals "set" = some none)
    (z_any : PySem.W.nsIn K mainGlobals "any" = some none)
    (z_all : PySem.W.nsIn K mainGlobals "all" = some none)
    (z_enumerate : PySem.W.nsIn K mainGlobals "enumerate" = some none)
    (z_isinstance : PySem.W.nsIn K mainGlobals "isinstance" = some none)
    (z_bool : PySem.W.nsIn K mainGlobals "bool" = some none)
    (cn : CT ≠ CP)
    : ∃ fd : FuncData, (∀ (s : Shared) (v : Value), BindsTo s fd ⟨[v], []⟩ [("_law_script", v)]) ∧ ∀ base : Heap, K.In base → base.Ns mainGlobals mg → FnOk l.prog w K mg base CX0 8 fa fd ["_law_script"] (spLaw K) := by
  have e := hfa.symm.trans (PySem.W.mg_of X G a7)
  cases e
  have F1 := fun_mk (st := s_law_below) l1 c1 k1
  have D__law_below : DefAt K mg "_law_below" s_law_below ["_law_d", "_law_limit"] := ⟨⟨f1, _, PySem.W.mg_of X G a1, F1, (F1.binds fun _ _ _ _ _ _ us hl => match us, hl with | [_, _], _ => rfl)⟩⟩
  have F2 := fun_mk (st := s_law_random) l2 c2 k2
  have D__law_random : DefAt K mg "_law_random" s_law_random ["_law_script", "_law_salt"] := ⟨⟨f2, _, PySem.W.mg_of X G a2, F2, (F2.binds fun _ _ _ _ _ _ us hl => match us, hl with | [_, _], _ => rfl)⟩⟩
  have F3 := fun_mk (st := s_law_shuffled) l3 c3 k3
  have D__law_shuffled : DefAt K mg "_law_shuffled" s_law_shuffled ["_law_d", "_law_items"] := ⟨⟨f3, _, PySem.W.mg_of X G a3, F3, (F3.binds fun _ _ _ _ _ _ us hl => match us, hl with | [_, _], _ => rfl)⟩⟩
  have F4 := fun_mk (st := s_law_rota) l4 c4 k4
  have D__law_rota : DefAt K mg "_law_rota" s_law_rota ["_law_d", "_law_most"] := ⟨⟨f4, _, PySem.W.mg_of X G a4, F4, (F4.binds fun _ _ _ _ _ _ us hl => match us, hl with | [_, _], _ => rfl)⟩⟩
  have F5 := fun_mk (st := s_law_text) l5 c5 k5
  have D__law_text : DefAt K mg "_law_text" s_law_text ["_law_rota_here"] := ⟨⟨f5, _, PySem.W.mg_of X G a5, F5, (F5.binds fun _ _ _ _ _ _ us hl => match us, hl with | [_], _ => rfl)⟩⟩
  have F6 := fun_mk (st := s_law_equal) l6 c6 k6
  have D__law_equal : DefAt K mg "_law_equal" s_law_equal ["_law_actual", "_law_expected"] := ⟨⟨f6, _, PySem.W.mg_of X G a6, F6, (F6.binds fun _ _ _ _ _ _ us hl => match us, hl with | [_, _], _ => rfl)⟩⟩
  have F7 := fun_mk (st := slaw) l7 c7 k7
  have F8 := fun_mk (st := srun_end) l8 c8 k8
  have D_run_end : DefAt K mg "run_end" srun_end ["row", "start", "letters"] := ⟨⟨f8, _, PySem.W.mg_of X G a8, F8, (F8.binds fun _ _ _ _ _ _ us hl => match us, hl with | [_, _, _], _ => rfl)⟩⟩
  have F9 := fun_mk (st := sread_token) l9 c9 k9
  have D_read_token : DefAt K mg "read_token" sread_token ["row", "line", "column"] := ⟨⟨f9, _, PySem.W.mg_of X G a9, F9, (F9.binds fun _ _ _ _ _ _ us hl => match us, hl with | [_, _, _], _ => rfl)⟩⟩
  have F10 := fun_mk (st := stokenize) l10 c10 k10
  have D_tokenize : DefAt K mg "tokenize" stokenize ["source"] := ⟨⟨f10, _, PySem.W.mg_of X G a10, F10, (F10.binds fun _ _ _ _ _ _ us hl => match us, hl with | [_], _ => rfl)⟩⟩
  have F11 := fun_mk (st := sload) l11 c11 k11
  have D_load : DefAt K mg "load" sload ["rota"] := ⟨⟨f11, _, PySem.W.mg_of X G a11, F11, (F11.binds fun _ _ _ _ _ _ us hl => match us, hl with | [_], _ => rfl)⟩⟩
  have F12 := fun_mk (st := sformat_parsed) l12 c12 k12
  have D_format_parsed : DefAt K mg "format_parsed" sformat_parsed ["parsed"] := ⟨⟨f12, _, PySem.W.mg_of X G a12, F12, (F12.binds fun _ _ _ _ _ _ us hl => match us, hl with | [_], _ => rfl)⟩⟩
  have F13 := fun_mk (st := sformat_rota) l13 c13 k13
  have D_format_rota : DefAt K mg "format_rota" sformat_rota ["rota"] := ⟨⟨f13, _, PySem.W.mg_of X G a13, F13, (F13.binds fun _ _ _ _ _ _ us hl => match us, hl with | [_], _ => rfl)⟩⟩
  have F14 := fun_mk (st := speople) l14 c14 k14
  have D_people : DefAt K mg "people" speople ["rota"] := ⟨⟨f14, _, PySem.W.mg_of X G a14, F14, (F14.binds fun _ _ _ _ _ _ us hl => match us, hl with | [_], _ => rfl)⟩⟩
  have F15 := fun_mk (st := sToken___init__) l15 c15 k15
  have D_Token : InitAt K mg "Token" "Token.__init__" CT sToken___init__ ["self", "kind", "text", "line", "column"] := ⟨⟨f15, _, PySem.W.mg_of X G aCT, ⟨mkCT, a15, i15, kcCT⟩, F15, (F15.binds fun _ _ _ _ _ _ us hl => match us, hl with | [_, _, _, _, _], _ => rfl)⟩⟩
  have F16 := fun_mk (st := sParser___init__) l16 c16 k16
  have D_Parser : InitAt K mg "Parser" "Parser.__init__" CP sParser___init__ ["self", "tokens"] := ⟨⟨f16, _, PySem.W.mg_of X G aCP, ⟨mkCP, a16, i16, kcCP⟩, F16, (F16.binds fun _ _ _ _ _ _ us hl => match us, hl with | [_, _], _ => rfl)⟩⟩
  have F17 := fun_mk (st := sParser_peek) l17 c17 k17
  have D_peek : MethAt K CP "peek" "Parser.peek" sParser_peek ["self"] := ⟨⟨f17, _, ⟨a17, i17, k17⟩, F17, (F17.binds fun _ _ _ _ _ _ us hl => match us, hl with | [_], _ => rfl)⟩⟩
  have F18 := fun_mk (st := sParser_take) l18 c18 k18
  have D_take : MethAt K CP "take" "Parser.take" sParser_take ["self", "kind"] := ⟨⟨f18, _, ⟨a18, i18, k18⟩, F18, (F18.binds fun _ _ _ _ _ _ us hl => match us, hl with | [_, _], _ => rfl)⟩⟩
  have F19 := fun_mk (st := sParser_take_word) l19 c19 k19
  have D_take_word : MethAt K CP "take_word" "Parser.take_word" sParser_take_word ["self", "word"] := ⟨⟨f19, _, ⟨a19, i19, k19⟩, F19, (F19.binds fun _ _ _ _ _ _ us hl => match us, hl with | [_, _], _ => rfl)⟩⟩
  have F20 := fun_mk (st := sParser_take_all) l20 c20 k20
  have D_take_all : MethAt K CP "take_all" "Parser.take_all" sParser_take_all ["self", "kind"] := ⟨⟨f20, _, ⟨a20, i20, k20⟩, F20, (F20.binds fun _ _ _ _ _ _ us hl => match us, hl with | [_, _], _ => rfl)⟩⟩
  have F21 := fun_mk (st := sParser_person) l21 c21 k21
  have D_person : MethAt K CP "person" "Parser.person" sParser_person ["self", "token"] := ⟨⟨f21, _, ⟨a21, i21, k21⟩, F21, (F21.binds fun _ _ _ _ _ _ us hl => match us, hl with | [_, _], _ => rfl)⟩⟩
  have F22 := fun_mk (st := sParser_parse_people) l22 c22 k22
  have D_parse_people : MethAt K CP "parse_people" "Parser.parse_people" sParser_parse_people ["self"] := ⟨⟨f22, _, ⟨a22, i22, k22⟩, F22, (F22.binds fun _ _ _ _ _ _ us hl => match us, hl with | [_], _ => rfl)⟩⟩
  have F23 := fun_mk (st := sParser_parse_turns) l23 c23 k23
  have D_parse_turns : MethAt K CP "parse_turns" "Parser.parse_turns" sParser_parse_turns ["self"] := ⟨⟨f23, _, ⟨a23, i23, k23⟩, F23, (F23.binds fun _ _ _ _ _ _ us hl => match us, hl with | [_], _ => rfl)⟩⟩
  have F24 := fun_mk (st := sParser_parse_weights) l24 c24 k24
  have D_parse_weights : MethAt K CP "parse_weights" "Parser.parse_weights" sParser_parse_weights ["self"] := ⟨⟨f24, _, ⟨a24, i24, k24⟩, F24, (F24.binds fun _ _ _ _ _ _ us hl => match us, hl with | [_], _ => rfl)⟩⟩
  have F25 := fun_mk (st := sParser_parse_away) l25 c25 k25
  have D_parse_away : MethAt K CP "parse_away" "Parser.parse_away" sParser_parse_away ["self"] := ⟨⟨f25, _, ⟨a25, i25, k25⟩, F25, (F25.binds fun _ _ _ _ _ _ us hl => match us, hl with | [_], _ => rfl)⟩⟩
  have F26 := fun_mk (st := sParser_parse_makeup) l26 c26 k26
  have D_parse_makeup : MethAt K CP "parse_makeup" "Parser.parse_makeup" sParser_parse_makeup ["self"] := ⟨⟨f26, _, ⟨a26, i26, k26⟩, F26, (F26.binds fun _ _ _ _ _ _ us hl => match us, hl with | [_], _ => rfl)⟩⟩
  have F27 := fun_mk (st := sParser_parse_rota) l27 c27 k27
  have D_parse_rota : MethAt K CP "parse_rota" "Parser.parse_rota" sParser_parse_rota ["self"] := ⟨⟨f27, _, ⟨a27, i27, k27⟩, F27, (F27.binds fun _ _ _ _ _ _ us hl => match us, hl with | [_], _ => rfl)⟩⟩
  have T : Bi mg := ⟨PySem.W.mg_none_of X G z_len, PySem.W.mg_none_of X G z_range, PySem.W.mg_none_of X G z_list, PySem.W.mg_none_of X G z_tuple, PySem.W.mg_none_of X G z_int, PySem.W.mg_none_of X G z_str, PySem.W.mg_none_of X G z_abs, PySem.W.mg_none_of X G z_max, PySem.W.mg_none_of X G z_sorted, PySem.W.mg_none_of X G z_set, PySem.W.mg_none_of X G z_any, PySem.W.mg_none_of X G z_all, PySem.W.mg_none_of X G z_enumerate, PySem.W.mg_none_of X G z_isinstance, PySem.W.mg_none_of X G z_bool⟩
  have TC : TokCls K CT := ⟨⟨pgCT, hdCT, poCT, saCT⟩, nTkind, nTtext, nTline, nTcolumn⟩
  have PC : ParCls K CP := ⟨⟨pgCP, hdCP, poCP, saCP⟩, nPtokens, nPat, nPfaults, nPnames, nPweights, nPmakers, nPaways⟩
  have hKW : ∀ H : Hp, SqT K H aKW (kws.map V.str) := fun H => .inr ⟨_, _, _, u_KEYWORDS, rfl, rfl, by show 6 ≤ sizeLine; decide, .cons ⟨_, rfl⟩ (.cons ⟨_, rfl⟩ (.cons ⟨_, rfl⟩ (.cons ⟨_, rfl⟩ (.cons ⟨_, rfl⟩ (.cons ⟨_, rfl⟩ (.nil))))))⟩
  have hMO : ∀ H : Hp, SqT K H aMO (([2, 3, 4, 6, 8, 12] : List Int).map V.int) := fun H => .inr ⟨_, _, _, u_MODULI, rfl, rfl, by show 6 ≤ sizeLine; decide, .cons ⟨_, rfl⟩ (.cons ⟨_, rfl⟩ (.cons ⟨_, rfl⟩ (.cons ⟨_, rfl⟩ (.cons ⟨_, rfl⟩ (.cons ⟨_, rfl⟩ (.nil))))))⟩
  have LC : LexC K mg := ⟨⟨_, PySem.W.mg_of X G s_END_SIGN⟩, ⟨_, PySem.W.mg_of X G s_SIGN⟩, ⟨_, PySem.W.mg_of X G s_DIGITS⟩, ⟨_, PySem.W.mg_of X G s_MAX_DIGITS⟩, ⟨_, PySem.W.mg_of X G s_NUMBER⟩, ⟨_, PySem.W.mg_of X G s_LETTERS⟩, ⟨aKW, PySem.W.mg_of X G s_KEYWORDS, hKW⟩, ⟨_, PySem.W.mg_of X G s_KEYWORD⟩, ⟨_, PySem.W.mg_of X G s_MAX_LETTERS⟩, ⟨_, PySem.W.mg_of X G s_NAME⟩, ⟨_, PySem.W.mg_of X G s_END⟩, ⟨_, PySem.W.mg_of X G s_SPACES⟩⟩
  refine ⟨PySem.W.fnOf "law" "law" (defArgs slaw) (defBody slaw) (defScope slaw) .none kV7 dc7 pm7 an7 cd7 ct7, fun s v => .of_eq rfl, fun base _ _ => ?_⟩
  have c_below := cal_below (P := l.prog) (w := w) (base := base) D__law_below T
  have c_random := cal_random (P := l.prog) (w := w) (base := base) D__law_random T
  have c_shuf := cal_shuffled D__law_shuffled T c_below
  have c_rota := cal_rota D__law_rota T c_below c_shuf
  have c_text := cal_text (P := l.prog) (w := w) (base := base) D__law_text T
  have c_mkt := mk_token (P := l.prog) (w := w) (base := base) D_Token TC
  have c_run := cal_run_end (P := l.prog) (w := w) (base := base) D_run_end T
  have c_read := cal_read_token D_read_token T LC c_run c_mkt
  have c_tok := cal_tokenize D_tokenize T LC TC c_read c_mkt
  have c_mkp := mk_parser (P := l.prog) (w := w) (base := base) (CT := CT) D_Parser PC
  have c_peek := me_peek (P := l.prog) (w := w) (mg := mg) (base := base) (CT := CT) D_peek PC
  have c_take := me_take D_take PC TC c_peek
  have c_word := me_take_word D_take_word PC TC c_peek
  have c_all := me_take_all D_take_all PC TC LC c_peek c_take c_word
  have c_per := me_person (P := l.prog) (w := w) (mg := mg) (base := base) (CT := CT) D_person PC TC
  have c_peo := me_people D_parse_people T PC TC LC ⟨_, PySem.W.mg_of X G s_MAX_PEOPLE⟩ c_word c_all
  have c_tur := me_turns D_parse_turns T PC TC LC ⟨_, PySem.W.mg_of X G s_MAX_TURNS⟩ c_peek c_word c_all c_per
  have c_wei := me_weights D_parse_weights T PC TC LC ⟨_, PySem.W.mg_of X G s_MAX_WEIGHT⟩ c_peek c_word c_all
  have c_awa := me_away D_parse_away T PC TC LC ⟨_, PySem.W.mg_of X G s_MAX_AWAYS⟩ ⟨aMO, PySem.W.mg_of X G s_MODULI, hMO⟩ c_peek c_word c_take c_per
  have c_mak := me_makeup D_parse_makeup T PC TC LC c_peek c_word c_all c_per
  have c_prs := me_rota D_parse_rota T PC TC LC c_peek c_peo c_tur c_wei c_awa c_mak
  have c_load := cal_load D_load PC cn c_tok c_mkp c_prs
  have c_fmt := cal_format (P := l.prog) (w := w) (base := base) D_format_parsed T
  have c_fr := cal_format_rota D_format_rota c_load c_fmt
  have c_ppl := cal_people D_people T c_load
  have c_eq := cal_equal (P := l.prog) (w := w) (base := base) D__law_equal T 2
  exact law_ok F7 T c_random c_rota c_text c_below c_shuf c_ppl c_fr c_eq
end Br

namespace Br
open PySem PySem.Spec PyProof.Rows L2
theorem walk {l : PySem.W.OpenLaw} {q : Program} {loose : List Str} {XP : (Str → Option Value) → Heap → Prop} {YP : World → Heap → Prop} {d : DefRec} {K : Params → PySem.W.Frag} (hn : l.most = some 63) (hdf : d.params.defaults = [])
    (hY : ∀ (w : World) (h : Heap), YP w h → (K w.params).In h)
    (F : ∀ (w : World) (mg : Str → Option Value) (fa : Addr) (h : Heap), (K w.params).In h → h.Ns mainGlobals mg → mg d.name = some (.ref fa) →
      ∃ fd : FuncData, (∀ (s : Shared) (u : Value), BindsTo s fd ⟨[u], []⟩ [("_law_script", u)]) ∧ ∀ base : Heap, (K w.params).In base → base.Ns mainGlobals mg → FnOk l.prog w (K w.params) mg base CX0 8 fa fd ["_law_script"] (spLaw (K w.params))) :
    PySem.W.WalkO q loose XP YP l.row.toRowW d [] (fun f vs => PySem.call f vs) :=
  L2.walk_of (n := 63) (k := 8) (x := "_law_script") (CX := fun _ => CX0) (sp := fun w => spLaw (K w.params)) hn (by decide) hdf ⟨rfl, by decide, by decide⟩ hY F (fun _ _ a ns hl _ hS => ⟨a, ns, rfl, hS, hl, fun _ => rfl⟩) fun _ _ _ _ _ z => z
end Br
open PySem PySem.W PyProof.Rows in
set_option maxHeartbeats 0 in
theorem PySem.Challenge.cw_breadrota_k03_canonical_rotas_holds : PySem.Challenge.rw_breadrota_k03_canonical_rotas.Holds := by
  w_on; o_law; k_head; (case hw => w_witness2)
  k_fill
  refine Br.walk (l := PySem.Challenge.rw_breadrota_k03_canonical_rotas) rfl rfl (fun w h Y => PySem.W.kIn_of Y) ?F
  case F =>
    intro w mg fa h KX G hmg
    refine' Br.all_mk KX G hmg ?aCT ?aCP ?pgCT ?hdCT ?poCT ?saCT ?mkCT ?kcCT ?pgCP ?hdCP ?poCP ?saCP ?mkCP ?kcCP ?nTkind ?nTtext ?nTline ?nTcolumn ?nPtokens ?nPat ?nPfaults ?nPnames ?nPweights ?nPmakers ?nPaways ?a1 ?l1 ?c1 ?k1 ?a2 ?l2 ?c2 ?k2 ?a3 ?l3 ?c3 ?k3 ?a4 ?l4 ?c4 ?k4 ?a5 ?l5 ?c5 ?k5 ?a6 ?l6 ?c6 ?k6 ?a7 ?l7 ?c7 ?k7 ?a8 ?l8 ?c8 ?k8 ?a9 ?l9 ?c9 ?k9 ?a10 ?l10 ?c10 ?k10 ?a11 ?l11 ?c11 ?k11 ?a12 ?l12 ?c12 ?k12 ?a13 ?l13 ?c13 ?k13 ?a14 ?l14 ?c14 ?k14 ?a15 ?i15 ?l15 ?c15 ?k15 ?a16 ?i16 ?l16 ?c16 ?k16 ?a17 ?i17 ?l17 ?c17 ?k17 ?a18 ?i18 ?l18 ?c18 ?k18 ?a19 ?i19 ?l19 ?c19 ?k19 ?a20 ?i20 ?l20 ?c20 ?k20 ?a21 ?i21 ?l21 ?c21 ?k21 ?a22 ?i22 ?l22 ?c22 ?k22 ?a23 ?i23 ?l23 ?c23 ?k23 ?a24 ?i24 ?l24 ?c24 ?k24 ?a25 ?i25 ?l25 ?c25 ?k25 ?a26 ?i26 ?l26 ?c26 ?k26 ?a27 ?i27 ?l27 ?c27 ?k27 ?s_END_SIGN ?s_SIGN ?s_DIGITS ?s_NUMBER ?s_LETTERS ?s_KEYWORD ?s_NAME ?s_END ?s_SPACES ?s_MAX_DIGITS ?s_MAX_LETTERS ?s_MAX_PEOPLE ?s_MAX_TURNS ?s_MAX_WEIGHT ?s_MAX_AWAYS ?s_KEYWORDS ?u_KEYWORDS ?s_MODULI ?u_MODULI ?z_len ?z_range ?z_list ?z_tuple ?z_int ?z_str ?z_abs ?z_max ?z_sorted ?z_set ?z_any ?z_all ?z_enumerate ?z_isinstance ?z_bool ?cn
    (case aCT => k_is)
    (case aCP => k_is)
    (case pgCT => k_is)
    (case hdCT => k_is)
    (case poCT => k_is)
    (case saCT => k_is)
    (case mkCT => k_is)
    (case kcCT => k_is)
    (case pgCP => k_is)
    (case hdCP => k_is)
    (case poCP => k_is)
    (case saCP => k_is)
    (case mkCP => k_is)
    (case kcCP => k_is)
    (case nTkind => k_is)
    (case nTtext => k_is)
    (case nTline => k_is)
    (case nTcolumn => k_is)
    (case nPtokens => k_is)
    (case nPat => k_is)
    (case nPfaults => k_is)
    (case nPnames => k_is)
    (case nPweights => k_is)
    (case nPmakers => k_is)
    (case nPaways => k_is)
    (case a1 => k_is)
    (case l1 => k_is)
    (case c1 => k_is)
    (case k1 => k_is)
    (case a2 => k_is)
    (case l2 => k_is)
    (case c2 => k_is)
    (case k2 => k_is)
    (case a3 => k_is)
    (case l3 => k_is)
    (case c3 => k_is)
    (case k3 => k_is)
    (case a4 => k_is)
    (case l4 => k_is)
    (case c4 => k_is)
    (case k4 => k_is)
    (case a5 => k_is)
    (case l5 => k_is)
    (case c5 => k_is)
    (case k5 => k_is)
    (case a6 => k_is)
    (case l6 => k_is)
    (case c6 => k_is)
    (case k6 => k_is)
    (case a7 => k_is)
    (case l7 => k_is)
    (case c7 => k_is)
    (case k7 => k_is)
    (case a8 => k_is)
    (case l8 => k_is)
    (case c8 => k_is)
    (case k8 => k_is)
    (case a9 => k_is)
    (case l9 => k_is)
    (case c9 => k_is)
    (case k9 => k_is)
    (case a10 => k_is)
    (case l10 => k_is)
    (case c10 => k_is)
    (case k10 => k_is)
    (case a11 => k_is)
    (case l11 => k_is)
    (case c11 => k_is)
    (case k11 => k_is)
    (case a12 => k_is)
    (case l12 => k_is)
    (case c12 => k_is)
    (case k12 => k_is)
    (case a13 => k_is)
    (case l13 => k_is)
    (case c13 => k_is)
    (case k13 => k_is)
    (case a14 => k_is)
    (case l14 => k_is)
    (case c14 => k_is)
    (case k14 => k_is)
    (case a15 => k_is)
    (case i15 => k_is)
    (case l15 => k_is)
    (case c15 => k_is)
    (case k15 => k_is)
    (case a16 => k_is)
    (case i16 => k_is)
    (case l16 => k_is)
    (case c16 => k_is)
    (case k16 => k_is)
    (case a17 => k_is)
    (case i17 => k_is)
    (case l17 => k_is)
    (case c17 => k_is)
    (case k17 => k_is)
    (case a18 => k_is)
    (case i18 => k_is)
    (case l18 => k_is)
    (case c18 => k_is)
    (case k18 => k_is)
    (case a19 => k_is)
    (case i19 => k_is)
    (case l19 => k_is)
    (case c19 => k_is)
    (case k19 => k_is)
    (case a20 => k_is)
    (case i20 => k_is)
    (case l20 => k_is)
    (case c20 => k_is)
    (case k20 => k_is)
    (case a21 => k_is)
    (case i21 => k_is)
    (case l21 => k_is)
    (case c21 => k_is)
    (case k21 => k_is)
    (case a22 => k_is)
    (case i22 => k_is)
    (case l22 => k_is)
    (case c22 => k_is)
    (case k22 => k_is)
    (case a23 => k_is)
    (case i23 => k_is)
    (case l23 => k_is)
    (case c23 => k_is)
    (case k23 => k_is)
    (case a24 => k_is)
    (case i24 => k_is)
    (case l24 => k_is)
    (case c24 => k_is)
    (case k24 => k_is)
    (case a25 => k_is)
    (case i25 => k_is)
    (case l25 => k_is)
    (case c25 => k_is)
    (case k25 => k_is)
    (case a26 => k_is)
    (case i26 => k_is)
    (case l26 => k_is)
    (case c26 => k_is)
    (case k26 => k_is)
    (case a27 => k_is)
    (case i27 => k_is)
    (case l27 => k_is)
    (case c27 => k_is)
    (case k27 => k_is)
    (case s_END_SIGN => k_is)
    (case s_SIGN => k_is)
    (case s_DIGITS => k_is)
    (case s_NUMBER => k_is)
    (case s_LETTERS => k_is)
    (case s_KEYWORD => k_is)
    (case s_NAME => k_is)
    (case s_END => k_is)
    (case s_SPACES => k_is)
    (case s_MAX_DIGITS => k_is)
    (case s_MAX_LETTERS => k_is)
    (case s_MAX_PEOPLE => k_is)
    (case s_MAX_TURNS => k_is)
    (case s_MAX_WEIGHT => k_is)
    (case s_MAX_AWAYS => k_is)
    (case s_KEYWORDS => k_is)
    (case u_KEYWORDS => k_is)
    (case s_MODULI => k_is)
    (case u_MODULI => k_is)
    (case z_len => k_is)
    (case z_range => k_is)
    (case z_list => k_is)
    (case z_tuple => k_is)
    (case z_int => k_is)
    (case z_str => k_is)
    (case z_abs => k_is)
    (case z_max => k_is)
    (case z_sorted => k_is)
    (case z_set => k_is)
    (case z_any => k_is)
    (case z_all => k_is)
    (case z_enumerate => k_is)
    (case z_isinstance => k_is)
    (case z_bool => k_is)
    (case cn => decide)
