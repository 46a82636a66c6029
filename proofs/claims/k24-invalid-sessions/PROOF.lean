import PyProof.Rows.All
import Wide.All
import OpenK.AllK
import Wide.FinOn
import HandS.Base
import HandS.Call
import HandS.List
import HandS.Comp
import HandS.Ends
import HandS.Dict
import HandS.Iter
import HandS.Text
import HandS.Words
import HandS.WordsList
import HandS.Codes
import HandS.TupMul
import HandS.TupAny
import HandS.TupSets
import HandS.SetFor
import HandS.Strs
import HandS.Deep
import HandS.Conv
import KE.DatumOrd
import PyProof.StrOps2
import PyProof.EqAt
import HandS.Small
import HandS.Walk
import HandS.Zip
import HandS.Star
import HandS.Replace
import HandS.IsInst
import HandS.Exc
import HandS.Hot
import HandS.ExcInit
import HandS.ExcOwn
import HandS.ExcField
import HandS.WordsExc
import HandS.Property
import HandS.ListItems
import KE.KDictZip
import HandS.TryOnly
import PyProof.Rows.MatchSeqLen
import HandS.WrittenGet
import HandS.ClsMeth
import HandS.ExcCtx
import HandS.SuiteRaise
import HandS.HotCalls
import HandS.RaiseFrom
import HandS.ExcInitHot
import HandS.Lambda
import HandS.EndTab
import KE.KExcIs
import PyProof.MinMaxWalk
import HandS.TupLe
import PyProof.NeKinds
import HandS.RaiseMore
import HandS.Style
import KE.KNestM
import KE.KLam
import PySem.Challenge.RW_breadrota_k24_invalid_sessions
set_option Elab.async false
set_option linter.all false
set_option maxRecDepth 100000
set_option maxHeartbeats 3900000
local macro_rules | `(tactic| walk_at "sub") => `(tactic| repeat (first | exact List.Sublist.refl _ | exact List.nil_sublist _ | refine List.Sublist.cons₂ _ ?_ | refine List.Sublist.cons _ ?_))
/-! The common kit: what a call leaves of the heap (Wd), a callee's contract (Cal). -/
namespace Br
open PySem PySem.Spec PyProof.Rows L2

/-- from H0 to H: all outside M is kept, tuples are kept, the domain grows; l is known now: new objects and those of M -/
structure Wd (M : List Addr) (H0 H : Hp) (l : List (Addr × HO)) : Prop where
  base : ∀ b o, b ∉ M → H0 b = some o → H b = some o
  tups : ∀ b xs, H0 b = some (.tup xs) → H b = some (.tup xs)
  own : ∀ q ∈ l, H0 q.1 = none ∨ q.1 ∈ M
  at_ : ∀ q ∈ l, H q.1 = some q.2
  nd : (l.map Prod.fst).Nodup
  free : ∀ p, H p = none → H0 p = none

theorem Wd.refl (H : Hp) : Wd [] H H [] := ⟨fun _ _ _ h => h, fun _ _ h => h, fun _ h => (nomatch h), fun _ h => (nomatch h), List.nodup_nil, fun _ h => h⟩
theorem Wd.start1 {H : Hp} {d : Addr} {o : HO} (h : H d = some o) : Wd [d] H H [(d, o)] :=
  ⟨fun _ _ _ h => h, fun _ _ h => h, fun q hq => by rw [List.mem_singleton.mp hq]; exact .inr List.mem_cons_self, fun q hq => by rw [List.mem_singleton.mp hq]; exact h, by simp, fun _ h => h⟩
theorem Wd.mono {M M' : List Addr} {H0 H : Hp} {l : List (Addr × HO)} (w : Wd M H0 H l) (h : ∀ a ∈ M, a ∈ M') : Wd M' H0 H l :=
  ⟨fun b o hb e => w.base b o (fun z => hb (h b z)) e, w.tups, fun q hq => (w.own q hq).imp id (h _), w.at_, w.nd, w.free⟩
theorem Wd.get {M : List Addr} {H0 H : Hp} {l : List (Addr × HO)} (w : Wd M H0 H l) (i : Nat) {a : Addr} {o : HO} (h : l[i]? = some (a, o)) : H a = some o :=
  w.at_ (a, o) (List.mem_of_getElem? h)
theorem Wd.old {M : List Addr} {H0 H : Hp} {l : List (Addr × HO)} (w : Wd M H0 H l) {a : Addr} {o : HO} (h : H0 a = some o) (hm : a ∉ M) : H a = some o := w.base a o hm h
/-- a new object -/
theorem Wd.new {M : List Addr} {H0 H : Hp} {l : List (Addr × HO)} (w : Wd M H0 H l) {p : Addr} (o : HO) (hp : H p = none) : Wd M H0 (upd H p o) ((p, o) :: l) where
  base := fun b u hb e => by rw [upd_ne (ne_of_none (w.base b u hb e) hp)]; exact w.base b u hb e
  tups := fun b u e => by rw [upd_ne (ne_of_none (w.tups b u e) hp)]; exact w.tups b u e
  own := fun q hq => by
    rcases List.mem_cons.mp hq with rfl | hq
    · exact .inl (w.free _ hp)
    · exact w.own q hq
  at_ := fun q hq => by
    rcases List.mem_cons.mp hq with rfl | hq
    · exact upd_same
    · rw [upd_ne (ne_of_none (w.at_ q hq) hp)]; exact w.at_ q hq
  nd := by
    rw [List.map_cons, List.nodup_cons]
    refine ⟨fun hm => ?_, w.nd⟩
    obtain ⟨q, hq, e⟩ := List.mem_map.mp hm
    have := w.at_ q hq
    rw [e, hp] at this; cases this
  free := fun b e => w.free b (by
    by_cases hb : b = p
    · rw [hb]; exact hp
    · rw [upd_ne hb] at e; exact e)
theorem mem_set {α : Type} {l : List α} {i : Nat} {x y : α} (h : y ∈ l.set i x) : y = x ∨ y ∈ l := (List.mem_or_eq_of_mem_set h).symm
/-- an object of the ledger is changed -/
theorem Wd.put {M : List Addr} {H0 H : Hp} {l : List (Addr × HO)} (w : Wd M H0 H l) (i : Nat) {a : Addr} {o : HO} (o' : HO) (h : l[i]? = some (a, o)) (hn : ∀ xs, o ≠ .tup xs) : Wd M H0 (upd H a o') (l.set i (a, o')) where
  base := fun b u hb e => by
    have ha := List.mem_of_getElem? h
    have : b ≠ a := fun z => by
      subst z
      rcases w.own _ ha with q | q
      · rw [show H0 b = none from q] at e; cases e
      · exact hb q
    rw [upd_ne this]; exact w.base b u hb e
  tups := fun b u e => by
    have ha := w.at_ _ (List.mem_of_getElem? h)
    have : b ≠ a := fun z => by
      subst z
      have e2 := w.tups b u e
      rw [show H b = some o from ha] at e2
      exact hn u (Option.some.inj e2)
    rw [upd_ne this]; exact w.tups b u e
  own := fun q hq => by
    rcases mem_set hq with rfl | hq
    · exact w.own (a, o) (List.mem_of_getElem? h)
    · exact w.own q hq
  at_ := fun q hq => by
    obtain ⟨j, hj⟩ := List.mem_iff_getElem?.mp hq
    by_cases e : i = j
    · subst e
      have hi : i < l.length := (List.getElem?_eq_some_iff.mp h).1
      rw [List.getElem?_set_self hi] at hj
      cases hj
      exact upd_same
    · rw [List.getElem?_set_ne e] at hj
      have hq' := w.at_ q (List.mem_of_getElem? hj)
      have : q.1 ≠ a := fun z => by
        have h1 : (l.map Prod.fst)[i]? = some a := by rw [List.getElem?_map, h]; rfl
        have h2 : (l.map Prod.fst)[j]? = some a := by rw [List.getElem?_map, hj, ← z]; rfl
        exact e (nd_ix w.nd h1 h2)
      rw [upd_ne this]; exact hq'
  nd := by
    have e : (l.set i (a, o')).map Prod.fst = l.map Prod.fst := by
      rw [List.map_set]
      refine List.ext_getElem? fun j => ?_
      by_cases e : i = j
      · subst e
        have hi : i < l.length := (List.getElem?_eq_some_iff.mp h).1
        rw [List.getElem?_set_self (by rw [List.length_map]; exact hi), List.getElem?_map, h]; rfl
      · rw [List.getElem?_set_ne e]
    rw [e]; exact w.nd
  free := fun b e => w.free b (by
    by_cases hb : b = a
    · subst hb; rw [upd_same] at e; cases e
    · rw [upd_ne hb] at e; exact e)
/-- a callee that changed nothing old -/
theorem Wd.call0 {M : List Addr} {H0 H H' : Hp} {l l' : List (Addr × HO)} (w : Wd M H0 H l) (c : Wd [] H H' l') : Wd M H0 H' (l' ++ l) where
  base := fun b u hb e => c.base b u (by simp) (w.base b u hb e)
  tups := fun b u e => c.tups b u (w.tups b u e)
  own := fun q hq => by
    rcases List.mem_append.mp hq with hq | hq
    · rcases c.own q hq with z | z
      · exact .inl (w.free _ z)
      · cases z
    · exact w.own q hq
  at_ := fun q hq => by
    rcases List.mem_append.mp hq with hq | hq
    · exact c.at_ q hq
    · exact c.base _ _ (by simp) (w.at_ q hq)
  nd := by
    rw [List.map_append, List.nodup_append]
    refine ⟨c.nd, w.nd, fun a ha b hb e => ?_⟩
    obtain ⟨q, hq, e1⟩ := List.mem_map.mp ha
    obtain ⟨r, hr, e2⟩ := List.mem_map.mp hb
    have h1 := w.at_ r hr
    rcases c.own q hq with z | z
    · rw [e1, e, ← e2, h1] at z; cases z
    · cases z
  free := fun b e => w.free b (c.free b e)
/-- a callee that changed the ledger's first object alone -/
theorem Wd.call1 {M : List Addr} {H0 H H' : Hp} {l l' : List (Addr × HO)} {d : Addr} {o o' : HO} (w : Wd M H0 H ((d, o) :: l)) (ho : ∀ xs, o ≠ .tup xs) (c : Wd [d] H H' ((d, o') :: l')) : Wd M H0 H' ((d, o') :: (l' ++ l)) where
  base := fun b u hb e => by
    have hd : b ≠ d := fun z => by
      subst z
      rcases w.own _ List.mem_cons_self with q | q
      · rw [show H0 b = none from q] at e; cases e
      · exact hb q
    exact c.base b u (by simpa using hd) (w.base b u hb e)
  tups := fun b u e => c.tups b u (w.tups b u e)
  own := fun q hq => by
    rcases List.mem_cons.mp hq with rfl | hq
    · exact w.own (d, o) List.mem_cons_self
    · rcases List.mem_append.mp hq with hq | hq
      · rcases c.own q (List.mem_cons_of_mem _ hq) with z | z
        · exact .inl (w.free _ z)
        · have hn := c.nd
          rw [List.map_cons, List.nodup_cons] at hn
          have : q.1 = d := by simpa using z
          exact absurd (List.mem_map.mpr ⟨q, hq, this⟩) hn.1
      · exact w.own q (List.mem_cons_of_mem _ hq)
  at_ := fun q hq => by
    rcases List.mem_cons.mp hq with rfl | hq
    · exact c.at_ _ List.mem_cons_self
    · rcases List.mem_append.mp hq with hq | hq
      · exact c.at_ q (List.mem_cons_of_mem _ hq)
      · have hn := w.nd
        rw [List.map_cons, List.nodup_cons] at hn
        have hd : q.1 ≠ d := fun z => hn.1 (List.mem_map.mpr ⟨q, hq, z⟩)
        exact c.base _ _ (by simpa using hd) (w.at_ q (List.mem_cons_of_mem _ hq))
  nd := by
    have hn := w.nd
    have hn' := c.nd
    rw [List.map_cons, List.nodup_cons] at hn hn'
    rw [List.map_cons, List.map_append, List.nodup_cons, List.nodup_append]
    refine ⟨fun hm => ?_, hn'.2, hn.2, fun a ha b hb e => ?_⟩
    · rcases List.mem_append.mp hm with h | h
      · exact hn'.1 h
      · exact hn.1 h
    · obtain ⟨q, hq, e1⟩ := List.mem_map.mp ha
      obtain ⟨r, hr, e2⟩ := List.mem_map.mp hb
      have h1 := w.at_ r (List.mem_cons_of_mem _ hr)
      rcases c.own q (List.mem_cons_of_mem _ hq) with z | z
      · rw [e1, e, ← e2, h1] at z; cases z
      · have : q.1 = d := by simpa using z
        exact hn'.1 (List.mem_map.mpr ⟨q, hq, this⟩)
  free := fun b e => w.free b (c.free b e)
/-- forget -/
theorem Wd.sub {M : List Addr} {H0 H : Hp} {l l' : List (Addr × HO)} (w : Wd M H0 H l) (h : List.Sublist l' l) : Wd M H0 H l' :=
  ⟨w.base, w.tups, fun q hq => w.own q (h.subset hq), fun q hq => w.at_ q (h.subset hq), (h.map Prod.fst).nodup w.nd, w.free⟩
theorem Wd.perm {M : List Addr} {H0 H : Hp} {l l' : List (Addr × HO)} (w : Wd M H0 H l) (h : List.Perm l l') : Wd M H0 H l' :=
  ⟨w.base, w.tups, fun q hq => w.own q (h.mem_iff.mpr hq), fun q hq => w.at_ q (h.mem_iff.mpr hq), (h.map Prod.fst).nodup_iff.mp w.nd, w.free⟩
/-- a new object behind the first -/
theorem Wd.new1 {M : List Addr} {H0 H : Hp} {l : List (Addr × HO)} {e : Addr × HO} (w : Wd M H0 H (e :: l)) {p : Addr} (o : HO) (hp : H p = none) : Wd M H0 (upd H p o) (e :: (p, o) :: l) :=
  (w.new o hp).perm (.swap _ _ _)

/-- tuples are kept -/
def KT (H H' : Hp) : Prop := ∀ b xs, H b = some (.tup xs) → H' b = some (.tup xs)
/-- a def of the module and its contract -/
structure Cal (P : Program) (w : World) (K : PySem.W.Frag) (mg : Str → Option Value) (base : Heap) (k : Nat) (x : Str) (ps : List Str) (sp : Sp) : Prop where
  ex : ∃ (f : Addr) (fd : FuncData), mg x = some (.ref f) ∧ PySem.W.keepIn K (.ref f) = true ∧ Binds K fd ps [] ∧ FnOk P w K mg base CX0 k f fd ps sp
/-- a def of the module as the top left it -/
structure DefAt (K : PySem.W.Frag) (mg : Str → Option Value) (x : Str) (st : Stmt) (ps : List Str) : Prop where
  ex : ∃ (f : Addr) (fd : FuncData), mg x = some (.ref f) ∧ Fun K x x st f fd ∧ Binds K fd ps []
theorem DefAt.cal {P : Program} {w : World} {K : PySem.W.Frag} {mg : Str → Option Value} {base : Heap} {k : Nat} {x : Str} {st : Stmt} {ps : List Str} {sp : Sp} (D : DefAt K mg x st ps)
    (h : ∀ f fd, Fun K x x st f fd → FnOk P w K mg base CX0 k f fd ps sp) : Cal P w K mg base k x ps sp := by
  obtain ⟨f, fd, m, F, b⟩ := D.ex
  exact ⟨f, fd, m, F.kp, b, h f fd F⟩
/-- the names of built-ins that the module leaves as they are -/
structure Bi (mg : Str → Option Value) : Prop where
  len : mg "len" = none
  range : mg "range" = none
  list : mg "list" = none
  tuple : mg "tuple" = none
  int : mg "int" = none
  str : mg "str" = none
  abs : mg "abs" = none
  max : mg "max" = none
  sorted : mg "sorted" = none
  set : mg "set" = none
  any : mg "any" = none
  all : mg "all" = none
  enumerate : mg "enumerate" = none
  isinstance : mg "isinstance" = none
  bool : mg "bool" = none
  sum : mg "sum" = none
  zip : mg "zip" = none
  min : mg "min" = none
  dict : mg "dict" = none
  divmod : mg "divmod" = none
  ValueError : mg "ValueError" = none
end Br

/-! Rules that the layer lacks. -/
namespace Br
open PySem PySem.Spec PyProof.Rows L2
section
variable {X : Cx}
/-! ### max of a tuple of ints -/
def rMaxT (K : PySem.W.Frag) : List V → Hp → VK → Prop := fun vs H Q => ∃ (a : Addr) (ns : List Int), vs = [V.ref a] ∧ SqT K H a (ns.map V.int) ∧ 0 < ns.length ∧ ∀ m, m ∈ ns → (∀ y, y ∈ ns → y ≤ m) → Q (.int m) H
/-! ### a match over texts -/
structure PCs (X : Cx) (cs : List MatchCase) (t : Str → TS) : Prop where
  run : ∀ (pins : List (Addr × Obj)) (s : Shared) (σ : L2.St) (H : Hp) (D : Ends) (z : Str) (tk : Tok) (first : Bool), Inv X pins σ H s → t z D σ H → wpAny (model X.prog X.w) X.A (matchCases cs X.env (.str z tk) first) (SP X pins D) X.xe s
def tMatch (te : TE) (tc : Str → TS) : TS := fun D σ H => te σ H fun x H1 => ∃ z, x = .str z ∧ tc z D σ H1
theorem ps_match {e : Expr} {te : TE} {cs : List MatchCase} {tc : Str → TS} {pos : Pos} (he : PE X e te) (hc : PCs X cs tc) : PS X (.Match e cs pos) (tMatch te tc) := by
  refine ⟨fun pins s σ H D I h => ?_⟩
  show wpAny _ _ (do standAt pos; let v ← eval e X.env; matchCases cs X.env v true) _ _ _
  refine wpAny_bind (wpAny_standAt (wpAny_bind (thn (he.run pins s σ H _ I h) fun v s1 ⟨x, H1, I1, r1, z, hz, q⟩ => ?_)))
  subst hz
  obtain ⟨tk, rfl⟩ := r1
  exact hc.run pins s1 σ H1 D z tk true I1 q
theorem pcs_str {c : Str} {j cpos pos} {body : List Stmt} {rest : List MatchCase} {tb : TS} {tr : Str → TS} (hb : PSs X body tb) (hr : PCs X rest tr) :
    PCs X (⟨.MatchValue (.Constant (.str c) j cpos) pos, none, body⟩ :: rest) (fun z D σ H => if z = c then tb D σ H else tr z D σ H) := by
  refine ⟨fun pins s σ H D z tk first I h => ?_⟩
  unfold matchCases
  refine wpAny_bind (wpAny_holding ?_)
  unfold matchPattern
  refine wpAny_bind (Calls.Constant_str (wpAny_bind (wpAny_standAt (wpAny_bind (eq_str (wpAny_bind (wpAny_truthy_bool ?_)))))))
  have I1 := I.tok (s.toks + 1)
  by_cases e : z = c
  · rw [if_pos e] at h
    subst e
    rw [beq_self_eq_true]
    refine wpAny_pure ?_
    dsimp only
    refine wpAny_bind (wpAny_holding ?_)
    refine wpAny_pure (wpAny_bind (wpAny_pure ?_))
    exact hb.run pins _ σ H D I1 h
  · rw [if_neg e] at h
    rw [show (z == c) = false from beq_eq_false_iff_ne.mpr e]
    refine wpAny_pure ?_
    exact hr.run pins _ σ H D z tk false I1 h
theorem pcs_any {pos} {body : List Stmt} {tb : TS} (hb : PSs X body tb) : PCs X [⟨.MatchAs none none pos, none, body⟩] (fun _ D σ H => tb D σ H) := by
  refine ⟨fun pins s σ H D z tk first I h => ?_⟩
  unfold matchCases
  refine wpAny_bind (wpAny_holding ?_)
  unfold matchPattern
  refine wpAny_pure ?_
  dsimp only
  refine wpAny_bind (wpAny_holding ?_)
  refine wpAny_pure (wpAny_bind (wpAny_pure ?_))
  exact hb.run pins _ σ H D I h
/-! ### tuple * int, str * int -/
theorem tup_mul1 (l : Addr) (items : Array Value) (n : Nat) (dd : Option Addr) (sl : Array (Option Value)) (u : Tok) :
    Meets (Builtin.«tuple.__mul__» ⟨[.ref l, .int 1 u], []⟩) (fun _ R s => s.heap.get? l = some { cls := .type "tuple", dict := dd, data := .seq items n, slots := sl } ∧ R (.ok (.ret (Value.ref l))) s) :=
  .of_wp fun prog w A R s h => by
    obtain ⟨hp, g, d, tk, os⟩ := s
    obtain ⟨hl, h⟩ := h
    have f1 := AutoSeq1.idx_int
    have c1 : (items.isEmpty || (1 : Int) == 1) = true := by simp
    wp_walk using wpAny_loadPart' hl
    exact ⟨_, rfl, h⟩
def rRepA (K : PySem.W.Frag) : R2 := fun x y H Q => ∃ l k xs, x = .ref l ∧ y = .int k ∧ SqT K H l xs ∧ xs ≠ [] ∧ 1 ≤ k ∧ k ≤ 1000 ∧ xs.length ≤ 1000 ∧ (k = 1 → Q (.ref l) H) ∧ (2 ≤ k → ∀ p, H p = none → Q (.ref p) (upd H p (.tup (List.replicate k.toNat xs).flatten)))
theorem op_repA : OpR X (binaryOp .Mult) (rRepA X.K) := by
  intro pins s σ H x y v u Q I rx ry h
  obtain ⟨l, k, xs, rfl, rfl, hT, hne, h1, h2, hz, q1, q2⟩ := h
  by_cases hk : k = 1
  · subst hk
    cases rx
    obtain ⟨t, rfl⟩ := ry
    obtain ⟨its, r, ⟨⟨cls, dd, data, sl⟩, ho, hc, n, hd⟩, hs⟩ := I.tuple hT
    simp only at hc hd
    subst hc hd
    exact wpAny_binaryOp_repeat_ref (T := "tuple") (U := "int") (by decide) ⟨_, ho, rfl⟩ (fun s' => typeIs_int s' 1 t) noFill_tuple_mul F.fills_int_mul F.slot_int_rmul repeat_tuple F.slot_int_index.lookup
      (call_meets F.slot_int_rmul (typeIs_int s 1 t) F.entry_int_rmul (F.args_int_rmul_2 _ _) (int_rmul_tuple 1 t l its.toArray n dd sl)
        ⟨ho, rfl, ⟨_, ho, rfl⟩, call_meets F.slot_tuple_mul ⟨_, ho, rfl⟩ F.entry_tuple_mul (F.args_tuple_mul_2 _ _) (tup_mul1 l its.toArray n dd sl t) ⟨ho, ⟨.ref l, H, I, rfl, q1 rfl⟩⟩⟩)
  · exact op_repT pins s σ H (.ref l) (.int k) v u Q I rx ry ⟨l, k, xs, rfl, rfl, hT, hne, by omega, h2, hz, q2 (by omega)⟩
def repS (z : Str) (k : Nat) : Str := ⟨(List.replicate k z.cps).foldl (· ++ ·) #[]⟩
def rRepS : R2 := fun x y H Q => ∃ z k, x = .str z ∧ y = .int k ∧ 1 ≤ k ∧ k ≤ 1000 ∧ 0 < z.length ∧ z.length ≤ 1000 ∧ Q (.str (repS z k.toNat)) H
/-! ### the layer's rules with the written part named -/
abbrev rLenS (K : PySem.W.Frag) : List V → Hp → VK → Prop := fun xs H Q => ∃ p ys, xs = [.ref p] ∧ (SqL K H p ys ∨ SqT K H p ys) ∧ Q (.int ys.length) H
abbrev rListOf (K : PySem.W.Frag) : List V → Hp → VK → Prop := fun xs H Q => ∃ p ys, xs = [.ref p] ∧ (SqL K H p ys ∨ SqT K H p ys) ∧ ∀ l, H l = none → Q (.ref l) (upd H l (.lst ys))
abbrev rTupOf (K : PySem.W.Frag) : List V → Hp → VK → Prop := fun xs H Q => ∃ p ys, xs = [.ref p] ∧ ((SqL K H p ys ∧ ∀ l, H l = none → Q (.ref l) (upd H l (.tup ys))) ∨ (SqT K H p ys ∧ Q (.ref p) H))
abbrev rJoin (K : PySem.W.Frag) : V → List V → Hp → VK → Prop := fun x xs H Q => ∃ a p, ∃ ys : List Str, x = .str a ∧ xs = [.ref p] ∧ (SqL K H p (ys.map V.str) ∨ SqT K H p (ys.map V.str)) ∧ (ys.map (·.length)).sum + ys.length * a.length ≤ 16777216 ∧ Q (.str (Txt.join a ys)) H
variable {K : PySem.W.Frag}
theorem pe_fldK (hK : X.K = K) {e : Expr} {ta : TE} {f : Str} {pos : Pos} (he : PE X e ta) (hb : attributeBase e f X.env (eval e X.env) = eval e X.env) : PE X (.Attribute e f pos) (tFld K ta f) := by
  subst hK; exact pe_fld he hb
theorem pe_bmK (hK : X.K = K) {T id : String} {name : Str} {r : V → List V → Hp → VK → Prop} {o e : Expr} {es : List Expr} {to : TE} {t : TA} {apos cpos : Pos} (pa : PlainAttrs T) (slot : Slot T name id) (hty : typeOf (.builtin id) = pure (.type "method_descriptor")) (hm : MtR X id r) (ho : PE X o to) (ha : PA X (e :: es) t)
    (hbase : attributeBase o name X.env (eval o X.env) = eval o X.env := by rfl)
    (hfew : ((backTo cpos (starEach (e :: es) X.env)).all (fun x => !x.1) && (backToKw cpos (keywordEach [] X.env)).all (fun x => x.1.isSome) && decide ((e :: es).length + ([] : List Keyword).length + (if ([] : List Keyword).isEmpty then 0 else 1) < 30)) = true := by rfl)
    (hline : (apos.endLine == cpos.line) = true := by rfl) (hs : starEach (e :: es) X.env = (false, eval e X.env) :: starEach es X.env := by rfl) (hplain : (backTo cpos (starEach es X.env)).any (·.1) = false := by rfl) :
    PE X (.Call (.Attribute o name apos) (e :: es) [] cpos) (tBM K T r to t) := by
  subst hK; exact pe_bm pa slot hty hm ho ha hbase hfew hline hs hplain
theorem pe_joinK (hK : X.K = K) {o e : Expr} {to te : TE} {apos pos : Pos} (ho : PE X o to) (he : PE X e te) (hs : starEach [e] X.env = [(false, eval e X.env)] := by rfl) (hbase : attributeBase o "join" X.env (eval o X.env) = eval o X.env := by rfl) (hline : (apos.endLine == pos.line) = true := by rfl) :
    PE X (.Call (.Attribute o "join" apos) [e] [] pos) (tM1 (rJoin K) to te) := by
  subst hK; exact pe_join ho he hs hbase hline
theorem pi_listK (hK : X.K = K) {tg l : Expr} {tl : TE} (hl : PE X l tl) : PI X tg l (iList K tl) := by subst hK; exact pi_list hl
theorem pi_tupK (hK : X.K = K) {tg l : Expr} {tl : TE} (hl : PE X l tl) : PI X tg l (iTup K tl) := by subst hK; exact pi_tup hl
theorem pg_tupK (hK : X.K = K) {es : List Expr} {k : Nat} {t : TGs} {n : Nat} {pos : Pos} (hc : X.calm = true) (h : PGs X es t)
    (hn : (assignEach es X.env).length = n := by rfl) (hst : (assignEach es X.env).findIdx? (·.1) = none := by rfl) : PG X (.Tuple es k pos) (gTup K n t) := by
  subst hK; exact pg_tup hc h hn hst
end
end Br

namespace Br
open PySem PySem.Spec PyProof.Rows L2
def topS (i : Nat) : Stmt := PySem.Challenge.pw_breadrota_k24_invalid_sessions.main.body.getD i (.Pass ⟨0, 0, 0, 0⟩)
/-- the source of numbers: the seed, the digits left of the present cell, the cells to come -/
def dl (a b : Int) (r : List Int) : HO := .lst (V.int a :: V.int b :: r.map V.int)
structure DOk (a b : Int) (r : List Int) : Prop where
  a0 : 0 ≤ a
  b0 : 0 ≤ b
  r0 : ∀ x ∈ r, 0 ≤ x
section
variable {P : Program} {w : World} {K : PySem.W.Frag} {mg : Str → Option Value} {base : Heap}
def spBelow : Sp := fun vs H Q _ => ∃ (d : Addr) (n a b : Int) (r : List Int), vs = [.ref d, .int n] ∧ 0 < n ∧ n < 1073741824 ∧ H d = some (dl a b r) ∧ DOk a b r ∧
  ∀ (k a' b' : Int) (r' : List Int) (H' : Hp), Wd [d] H H' [(d, dl a' b' r')] → DOk a' b' r' → 0 ≤ k → k < n → Q (.int k) H'
abbrev s_law_below : Stmt := topS 71
theorem sc_law_below : FnScope ["_law_d", "_law_limit", "_law_result"] ["_law_d", "_law_limit"] (defScope s_law_below) := ⟨rfl, rfl, rfl, by decide +kernel, rfl, by decide +kernel, by decide +kernel⟩
theorem put0 {H0 H : Hp} {d : Addr} {a b : Int} {r : List Int} (w : Wd [d] H0 H [(d, dl a b r)]) (a' b' : Int) (r' : List Int) : Wd [d] H0 (upd H d (dl a' b' r')) [(d, dl a' b' r')] :=
  w.put 0 (dl a' b' r') rfl (fun xs q => by cases q)
theorem cal_below (D : DefAt K mg "_law_below" s_law_below ["_law_d", "_law_limit"]) (T : Bi mg) : Cal P w K mg base 1 "_law_below" ["_law_d", "_law_limit"] spBelow := D.cal fun f fd F => by
  have nd := sc_law_below.nd
  refine F.ok sc_law_below (fun vs H Q E h => ?_) (fun cdv A outer s H vs Q E hr h => ?_)
  · obtain ⟨d, n, a, b, r, rfl, _⟩ := h; rfl
  obtain ⟨d, n, a, b, r, rfl, n0, n1, hd, ok, k⟩ := h
  refine ⟨_, (C8.pss_cut (ps_if (PW.pt (pw_and (pt_cmpR op_eq (pe_ix (r := rIxL K) ix_list (pv 0) pe_int (fun _ _ => rfl)) pe_int (nomark _)) (pw_and1 (pt_cmpR op_gt (pe_callB (r := rLenS K) call_len_seq (by rfl) T.len PySem.boot_len (pa_cons (pv 0) pa_nil)) pe_int (nomark _)))))
 (pss_one (ps_asg (pe_bmK (K := K) rfl PySem.F.plainAttrs_list PySem.F.slot_list_pop PySem.F.type_list_pop mt_popAt (pv 0) (pa_cons pe_int pa_nil)) (pg_sub (pv 0) pe_int set_list)))
 pss_nil)
 (pss_cons (ps_if (pt_cmpR op_gt (pe_ix (r := rIxL K) ix_list (pv 0) pe_int (fun _ _ => rfl)) pe_int (nomark _))
 (pss_cons (ps_set (i := 2) nd rfl (Or.inl rfl) (pe_op op_modN (pe_ix (r := rIxL K) ix_list (pv 0) pe_int (fun _ _ => rfl)) (pv 1)))
 (pss_cons (ps_asg (pe_op op_fdivN (pe_ix (r := rIxL K) ix_list (pv 0) pe_int (fun _ _ => rfl)) (pv 1)) (pg_sub (pv 0) pe_int set_list))
 (pss_one (ps_ret (pv 2)))))
 pss_nil)
 (pss_cons (ps_asg (pe_op op_mod (pe_op op_add (pe_op op_mul (pe_ix (r := rIxL K) ix_list (pv 0) pe_int (fun _ _ => rfl)) pe_int) pe_int) pe_int) (pg_sub (pv 0) pe_int set_list))
 (pss_one (ps_ret (pe_op op_modN (pe_op op_fdiv (pe_ix (r := rIxL K) ix_list (pv 0) pe_int (fun _ _ => rfl)) pe_int) (pv 1))))))), ?_⟩
  refine ⟨fun σ H1 => σ = [some (.ref d), some (.int n), none] ∧ ∃ a b r, Wd [d] H H1 [(d, dl a b r)] ∧ DOk a b r, ?_, ?_⟩
  · -- if _law_d[1] == 0 and len(_law_d) > 2: _law_d[1] = _law_d.pop(2)
    refine ⟨_, rfl, _, _, _, _, rfl, rfl, SqL.of hd, atI_nat (j := 1) rfl, rfl, _, rfl, ?_⟩
    refine ite2 (fun _ => ?_) (fun _ => ⟨rfl, a, b, r, Wd.start1 hd, ok⟩)
    refine ⟨_, rfl, d, _, rfl, .inl (SqL.of hd), _, _, rfl, rfl, _, rfl, ?_⟩
    refine ite2 (fun h2 => ?_) (fun _ => ⟨rfl, a, b, r, Wd.start1 hd, ok⟩)
    cases r with
    | nil => simp at h2
    | cons x r =>
      refine ⟨_, rfl, .inl ⟨rfl, _, SqL.of hd⟩, d, _, 2, 2, V.int x, rfl, rfl, hd, by decide, by decide, ?_, rfl, ?_⟩
      · simp [seqIndex?]; omega
      refine ⟨_, rfl, d, _, 1, 1, rfl, rfl, upd_same, ?_, ?_⟩
      · simp [ixN, seqIndex?]; omega
      rw [upd_upd]
      exact ⟨rfl, a, x, r, put0 (Wd.start1 hd) a x r, ⟨ok.a0, ok.r0 x List.mem_cons_self, fun y hy => ok.r0 y (List.mem_cons_of_mem _ hy)⟩⟩
  · rintro σ H1 ⟨rfl, a, b, r, w1, ok⟩
    have hd := w1.get 0 rfl
    -- if _law_d[1] > 0: ..
    refine ⟨_, rfl, _, _, _, _, rfl, rfl, SqL.of hd, atI_nat (j := 1) rfl, _, _, rfl, rfl, _, rfl, ?_⟩
    refine ite2 (fun hb => ?_) (fun hb => ?_)
    · have hb' : 0 < b := of_decide_eq_true hb
      refine ⟨_, rfl, _, _, _, _, rfl, rfl, SqL.of hd, atI_nat (j := 1) rfl, _, rfl, _, _, rfl, rfl, (by omega), ?_⟩
      refine ⟨_, rfl, _, _, _, _, rfl, rfl, SqL.of hd, atI_nat (j := 1) rfl, _, rfl, _, _, rfl, rfl, ⟨by omega, by omega⟩, ?_⟩
      refine ⟨_, rfl, d, _, 1, 1, rfl, rfl, hd, ?_, ?_⟩
      · simp [ixN, seqIndex?]; omega
      refine ⟨_, rfl, ?_⟩
      refine k _ _ _ _ _ (put0 w1 a (b.fdiv n) r) ⟨ok.a0, Int.fdiv_nonneg ok.b0 (by omega), ok.r0⟩ (Int.fmod_nonneg_of_pos _ n0) (Int.fmod_lt_of_pos _ n0)
    · refine ⟨_, rfl, _, _, _, _, rfl, rfl, SqL.of hd, atI_nat (j := 0) rfl, _, _, rfl, rfl, .inr ⟨by decide, by decide⟩, _, _, rfl, rfl, _, _, rfl, rfl, (by show (0 : Int) < 2147483647; decide), ?_⟩
      refine ⟨_, rfl, d, _, 0, 0, rfl, rfl, hd, ?_, ?_⟩
      · simp [ixN, seqIndex?]; omega
      have w2 := put0 w1 ((a * 48271 + 11) % 2147483647) b r
      have h0 : (0 : Int) ≤ (a * 48271 + 11) % 2147483647 := Int.emod_nonneg _ (by decide)
      refine ⟨_, rfl, _, _, _, _, rfl, rfl, SqL.of (w2.get 0 rfl), atI_nat (j := 0) rfl, _, _, rfl, rfl, ⟨by decide, by decide⟩, _, rfl, _, _, rfl, rfl, (by omega), ?_⟩
      exact k _ _ _ _ _ w2 ⟨h0, ok.b0, ok.r0⟩ (Int.fmod_nonneg_of_pos _ n0) (Int.fmod_lt_of_pos _ n0)
end
end Br

namespace Br
open PySem PySem.Spec PyProof.Rows L2
section
variable {P : Program} {w : World} {K : PySem.W.Frag} {mg : Str → Option Value} {base : Heap}
theorem int_of_map {ns : List Int} {i : Nat} {y : V} (h : (ns.map V.int)[i]? = some y) : ∃ z, ns[i]? = some z ∧ y = V.int z := by
  rw [List.getElem?_map] at h
  cases e : ns[i]? with
  | none => rw [e] at h; cases h
  | some z => rw [e] at h; exact ⟨z, rfl, (Option.some.inj h).symm⟩
/-- a list that is read stands still -/
theorem Wd.seq {M : List Addr} {H0 H : Hp} {l : List (Addr × HO)} (w : Wd M H0 H l) {a : Addr} {xs : List V} (h : SqL K H0 a xs) (hm : a ∉ M) : SqL K H a xs := by
  rcases h with (h | ⟨o, h⟩) | h
  · exact .inl (.inl (w.base _ _ hm h))
  · exact .inl (.inr ⟨o, w.base _ _ hm h⟩)
  · exact .inr h
def spRandom (K : PySem.W.Frag) : Sp := fun vs H Q _ => ∃ (a : Addr) (ns : List Int) (salt : Int), vs = [.ref a, .int salt] ∧ 0 ≤ salt ∧ SqL K H a (ns.map V.int) ∧ ns.length ≤ 63 ∧
  ∀ (d : Addr) (x y : Int) (r : List Int) (H' : Hp), Wd [] H H' [(d, dl x y r)] → DOk x y r → Q (.ref d) H'
abbrev s_law_random : Stmt := topS 70
theorem sc_law_random : FnScope ["_law_script", "_law_salt", "_law_seed", "_law_cell"] ["_law_script", "_law_salt"] (defScope s_law_random) := ⟨rfl, rfl, rfl, by decide +kernel, rfl, by decide +kernel, by decide +kernel⟩
theorem cal_random (D : DefAt K mg "_law_random" s_law_random ["_law_script", "_law_salt"]) (T : Bi mg) : Cal P w K mg base 1 "_law_random" ["_law_script", "_law_salt"] (spRandom K) := D.cal fun f fd F => by
  have nd := sc_law_random.nd
  refine F.ok sc_law_random (fun vs H Q E h => ?_) (fun cdv A outer s H vs Q E hr h => ?_)
  · obtain ⟨a, ns, salt, rfl, _⟩ := h; rfl
  obtain ⟨a, ns, salt, rfl, hsalt, hS, hl, k⟩ := h
  refine ⟨_, (pss_cons (ps_set (i := 2) nd rfl (Or.inl rfl) (pv 1))
 (pss_cons (ps_for PassesOwn.never rfl (pi_listK (K := K) rfl (pv 0)) (pg_name (i := 3) nd rfl (Or.inl rfl))
 (pss_one (ps_set (i := 2) nd rfl (Or.inl rfl) (pe_op op_mod (pe_op op_add (pe_op op_mul (pv 2) pe_int) (pe_callB call_abs (by rfl) T.abs (by decide +kernel) (pa_cons (pv 3) pa_nil))) pe_int))))
 (pss_one (ps_ret (pe_op op_cat (pe_lst (pa_cons (pv 2) (pa_cons pe_int pa_nil))) (pe_lc (own := [("_law_cell", 3)]) rfl nd (pi_listK (K := K) rfl (pv 0)) (blkOk_by (N := ["_law_script", "_law_salt", "_law_seed", "_law_cell"]) (sc := defScope s_law_random) (by decide +kernel)) (fun _ _ _ _ _ => (pg_name (i := 3) nd rfl (Or.inl rfl))) (fun _ _ _ _ _ => (pts_one (pt_cmpR op_ge (pv 3) (pe_op op_pow pe_int pe_int) (nomark _)))) (fun _ _ _ _ _ => (pv 3)))))))), ?_⟩
  refine ⟨_, rfl, _, rfl, a, rfl, ⟨_, hS⟩, for_list (K := K) (a := a) (xs := ns.map V.int) (fun i σ H' => H' = H ∧ ∃ s v, 0 ≤ s ∧ σ = [some (.ref a), some (.int salt), some (.int s), v])
    ⟨rfl, salt, none, hsalt, rfl⟩ (fun i σ H' _ ⟨e, _⟩ => e ▸ hS) ?_ ?_⟩
  · rintro i y σ H' hi ⟨rfl, s, v, hs, rfl⟩
    obtain ⟨z, _, rfl⟩ := int_of_map hi
    refine ⟨_, rfl, _, _, rfl, rfl, .inr ⟨by decide, by decide⟩, _, rfl, _, rfl, _, _, rfl, rfl, _, _, rfl, rfl, (by show (0 : Int) < 2147483647; decide), ?_⟩
    exact ⟨rfl, _, _, Int.emod_nonneg _ (by decide), rfl⟩
  · rintro σ H' ⟨rfl, s, v, hs, rfl⟩
    refine ⟨_, rfl, (by show 2 ≤ sizeLine; decide), fun p hp => ?_⟩
    have w1 := (Wd.refl H').new (.lst [V.int s, V.int 0]) hp
    refine ⟨_, rfl, a, rfl, ⟨_, w1.seq hS (by simp)⟩, fun D hD => ?_⟩
    have w2 := w1.new (.lst []) hD
    refine lc_list (K := K) (a := a) (xs := ns.map V.int) (fun i H2 => ∃ r : List Int, Wd [] H' H2 [(D, .lst (r.map V.int)), (p, .lst [V.int s, V.int 0])] ∧ (∀ x ∈ r, 0 ≤ x) ∧ r.length ≤ i)
      ⟨[], w2, by simp, by simp⟩ (fun i H2 _ ⟨r, w3, _⟩ => w3.seq hS (by simp)) ?_ ?_
    · rintro i y H2 hi ⟨r, w3, hr0, hrl⟩
      obtain ⟨z, hz, rfl⟩ := int_of_map hi
      have hi63 := (List.getElem?_eq_some_iff.mp hz).1
      refine ⟨rfl, _, rfl, _, _, rfl, rfl, ⟨by decide, by decide, by decide⟩, _, _, rfl, rfl, _, rfl, ?_⟩
      refine ite2 (fun hc => ?_) (fun _ => ⟨r, w3, hr0, by omega⟩)
      have hc' : (10 : Int) ^ (18 : Int).toNat ≤ z := of_decide_eq_true hc
      have z0 : 0 ≤ z := Int.le_trans (by decide) hc'
      refine ⟨_, rfl, _, w3.get 0 rfl, (by rw [List.length_map]; show r.length < sizeLine; exact Nat.lt_of_le_of_lt hrl (Nat.lt_of_lt_of_le hi63 (Nat.le_trans hl (by decide)))), r ++ [z], ?_, ?_, ?_⟩
      · have := w3.put 0 (.lst ((r ++ [z]).map V.int)) rfl (fun xs q => by cases q)
        rw [List.map_append] at this ⊢
        exact this
      · intro x hx
        rcases List.mem_append.mp hx with hx | hx
        · exact hr0 x hx
        · rw [List.mem_singleton.mp hx]; exact z0
      · simp; omega
    · rintro H2 ⟨r, w3, hr0, hrl⟩
      have hrl' : r.length ≤ 63 := by rw [List.length_map] at hrl; omega
      refine ⟨p, D, _, _, rfl, rfl, w3.get 1 rfl, w3.get 0 rfl, (by rw [List.length_map]; exact Nat.le_trans (Nat.add_le_add_left hrl' 2) (by decide)), fun q hq => ?_⟩
      refine k q s 0 r _ ?_ ⟨hs, by omega, hr0⟩
      exact (w3.new (dl s 0 r) hq).sub (by simp)
end
end Br

namespace Br
open PySem PySem.Spec PyProof.Rows L2
section
variable {P : Program} {w : World} {K : PySem.W.Frag} {mg : Str → Option Value} {base : Heap}
def listLen (H : Hp) : Option (Option V) → Nat
  | some (some (.ref p)) => match H p with
    | some (.lst l) => l.length
    | _ => 0
  | _ => 0
/-- an int or a text -/
def IS : V → Prop
  | .int _ => True
  | .str s => PySem.PyData.strOk s = true
  | _ => False
def spShuffled (K : PySem.W.Frag) : Sp := fun vs H Q _ => ∃ (d a : Addr) (x y : Int) (r : List Int) (xs : List V), vs = [.ref d, .ref a] ∧ (SqL K H a xs ∨ SqT K H a xs) ∧ H d = some (dl x y r) ∧ DOk x y r ∧ (∀ v ∈ xs, IS v) ∧ xs.length ≤ 1000 ∧
  ∀ (ys : List V) (p : Addr) (x' y' : Int) (r' : List Int) (H' : Hp), Wd [d] H H' [(d, dl x' y' r'), (p, .lst ys)] → DOk x' y' r' → ys.Perm xs → Q (.ref p) H'
def dataOf : V → PyData
  | .int i => .int i
  | .str s => .str s
  | _ => .none
theorem lay_all : ∀ {xs : List V}, (∀ v ∈ xs, IS v) → PyData.canLayAll0 (xs.map dataOf) = true
  | [], _ => rfl
  | v :: vs, h => by
    have h1 := h v List.mem_cons_self
    have h2 := lay_all (xs := vs) fun u hu => h u (List.mem_cons_of_mem _ hu)
    rw [List.map_cons, PyData.canLayAll0, h2, Bool.and_true]
    cases v <;> first | rfl | exact h1 | exact False.elim h1
theorem depth_all : ∀ {xs : List V}, PyData.depthAll (xs.map dataOf) = 0
  | [] => rfl
  | v :: vs => by
    rw [List.map_cons, PyData.depthAll, depth_all (xs := vs)]
    cases v <;> rfl
theorem eqv_nil (ds : List PyData) : PyData.eqv (.list ds) (.list []) = ds.isEmpty := by
  rw [PyData.eqv]; cases ds <;> rfl
end
end Br

/-! x == [] for a list of any things. -/
namespace Br
open PySem PySem.Spec PyProof.Rows L2
section
variable {X : Cx}
def rEqN (K : PySem.W.Frag) : R2 := fun x y H Q => ∃ a b xs, x = .ref a ∧ y = .ref b ∧ SqL K H a xs ∧ SqL K H b [] ∧ Q (.bl xs.isEmpty) H
theorem op_eqNil (hu : X.A.units < cLine) : OpR X (compareOp .Eq) (rEqN X.K) := by
  intro pins s σ H x y v u Q I rx ry h
  obtain ⟨a, b, xs, rfl, rfl, ha, hb, q⟩ := h
  cases rx
  cases ry
  obtain ⟨its, r1, ⟨o1, n1, p1, c1, d1, e1⟩, z1⟩ := I.list ha
  obtain ⟨jts, r2, ⟨o2, n2, p2, c2, d2, e2⟩, z2⟩ := I.list hb
  cases r2
  have hl : s.heap.IsList a its.toArray := ⟨o1, p1, c1, n1, e1⟩
  have hb' : s.heap.IsList b (([] : List Value).toArray) := ⟨o2, p2, c2, n2, e2⟩
  cases r1 with
  | nil =>
    refine PySem.SeqAt.eq_listAt (e := fun _ => true) hl hb' rfl hu (fun j h1 => ?_) ⟨.bl true, H, I, rfl, q⟩
    simp at h1
  | cons h t =>
    refine PySem.SeqAt.eq_list_lengthsAt hl hb' (by simp) hu ⟨.bl false, H, I, rfl, q⟩
theorem op_eqNil2 (hu : X.A.units + 64 < cLine) : OpR X (compareOp .Eq) (rEqN X.K) := op_eqNil (by omega)
abbrev rTIndex (K : PySem.W.Frag) : V → List V → Hp → VK → Prop := fun x xs H Q => ∃ p, ∃ ys : List Str, ∃ z j, x = .ref p ∧ xs = [.str z] ∧ SqT K H p (ys.map V.str) ∧ ys[j]? = some z ∧ (∀ m, m < j → ys[m]? ≠ some z) ∧ Q (.int (j : Nat)) H
end
end Br

/-! tuple(xs) told to be without a dict of its own; t.index(z) of such a tuple. -/
namespace Br
open PySem PySem.Spec PyProof.Rows L2
section
variable {X : Cx}
/-- tuple(a list): a new tuple, locked, of which it is known that it has no dict -/
abbrev rTupOfF (K : PySem.W.Frag) : List V → Hp → VK → Prop := fun xs H Q => ∃ p ys, xs = [.ref p] ∧ SqL K H p ys ∧ ∀ l o, o.dict = none → H l = none → Q (.ref l) (upd H l (.frz o (.tup ys)))
theorem call_tuple_ofF : CallR X (.type "tuple") (rTupOfF X.K) := by
  intro pins s σ H xs us Q I r h
  obtain ⟨p, ys, rfl, hq, q⟩ := h
  obtain ⟨u, rfl, rx⟩ := vals1 r
  cases rx
  obtain ⟨its, r', pl, hz⟩ := I.list hq
  have hlen := r'.length
  refine call_tuple_list pl.isList (fun h2 kp => ?_) (by simp only [List.size_toArray] <;> omega)
  have I1 : Inv X pins σ H { s with heap := h2 } := I.kept (t' := s.toks) kp
  have hpush := Heap.get?_push_size h2 (o := { cls := .type "tuple", data := .seq its.toArray }) rfl
  have I2 : Inv X pins σ (upd H h2.objs.size (.frz { cls := .type "tuple", data := .seq its.toArray } (.tup ys))) { s with heap := h2.push { cls := .type "tuple", data := .seq its.toArray } } :=
    I1.laid (t' := s.toks) (fun b o e => Heap.get?_push_of_some _ e) (Nat.le_refl _) (show ObjOk X.prog X.w _ _ _ (.frz _ (.tup ys)) from ⟨hpush, hz, its, r', IsTup.new _ _⟩)
  exact ⟨.ref h2.objs.size, _, I2, rfl, q _ _ rfl (I1.hok.fresh (Nat.le_refl _))⟩
/-- the receiver is such a tuple -/
def tBMF (r : V → List V → Hp → VK → Prop) (to : TE) (t : TA) : TE := fun σ H Q => to σ H fun x H1 => (∃ a o xs, x = .ref a ∧ o.dict = none ∧ H1 a = some (.frz o (.tup xs))) ∧ t σ H1 fun xs H2 => r x xs H2 Q
variable {o e : Expr} {es : List Expr} {to : TE} {t : TA} {name : Str} {apos cpos : Pos} {id : String} {r : V → List V → Hp → VK → Prop}
theorem pe_bmF (slot : Slot "tuple" name id) (hty : typeOf (.builtin id) = pure (.type "method_descriptor")) (hm : MtR X id r) (ho : PE X o to) (ha : PA X (e :: es) t)
    (hb : attributeBase o name X.env (eval o X.env) = eval o X.env := by rfl)
    (hf : ((backTo cpos (starEach (e :: es) X.env)).all (fun x => !x.1) && (backToKw cpos (keywordEach [] X.env)).all (fun x => x.1.isSome) && decide ((e :: es).length + ([] : List Keyword).length + (if ([] : List Keyword).isEmpty then 0 else 1) < 30)) = true := by rfl)
    (hn : (apos.endLine == cpos.line) = true := by rfl) (hs : starEach (e :: es) X.env = (false, eval e X.env) :: starEach es X.env := by rfl) (hp : (backTo cpos (starEach es X.env)).any (·.1) = false := by rfl) :
    PE X (.Call (.Attribute o name apos) (e :: es) [] cpos) (tBMF r to t) := by
  refine ⟨fun pins s σ H Q I h => ?_⟩
  refine wpAny_Call_method_late hb hf hn rfl (thn (ho.run pins s σ H _ I h) fun v s1 ⟨x, H1, I1, r1, ⟨a, ob, xs, ex, hd, hfz⟩, q1⟩ => ?_)
  subst ex
  cases r1
  obtain ⟨g1, _, its, _, ⟨o2, p2, c2, n2, d2⟩⟩ := I1.hok a _ hfz
  refine ⟨"tuple", id, PySem.F.plainAttrs_tuple, slot, hty, ⟨o2, p2, c2⟩, fun b eb => ?_, ?_⟩
  · cases eb; exact ⟨ob, g1, hd⟩
  · have hA := ha.run cpos pins s1 σ H1 _ I1 q1
    rw [hs] at hA ⊢
    refine Calls.callWith_builtin (by show (false || (backTo cpos (starEach es X.env)).any (·.1)) = false; rw [hp]; rfl) (Calls.evalArgs_plain ?_)
    exact thn hA fun us s2 ⟨vs, H2, I2, r2, q2⟩ => hm pins s2 σ H2 (.ref a) vs (.ref a) us Q I2 rfl r2 q2
end
end Br

/-! set(xs) of a list of ints; sorted of such a set is the layer's own. -/
namespace Br
open PySem PySem.Spec PyProof.Rows L2
section
variable {P : Program} {w : World} {A : Around} {E : Value → Shared → Prop} {s : Shared}
abbrev emp (w : World) : Obj := { cls := .type "set", dict := none, data := .set #[] 0 (.fresh 0 0 (!w.params.followText "set-order")) }
abbrev itO (l : Addr) : Obj := { cls := .type "list_iterator", data := .fields #[.ref l, .int 0 0] }
theorem call_set_ints {l : Addr} {vs : Array Value} (ns : List Int) {Q : Value → Shared → Prop} (calm : A.handled = none) (hl : s.heap.IsList l vs) (hv : IntsAre vs.toList ns) (room : ns.length + 1 < scanBound)
    (out : ∀ (h' : Heap) (tk c : Nat), SetR w h' s.heap.objs.size (fun j => decide (j ∈ ns)) c → c ≤ ns.length → (∀ b o, s.heap.get? b = some o → h'.get? b = some o) → Q (.ref s.heap.objs.size) { s with heap := h', toks := tk }) :
    wpAny (model P w) A (call (.type "set") [.ref l]) Q E s := by
  have size : vs.size = ns.length := by simpa using IntsAre.length hv
  have ⟨c, tl, mro1⟩ := F.called_set.mro
  have k1 := F.called_set.made; have k2 := F.called_set.sub
  apply wpAny_call; apply codeAny_of_tree
  change wpAny _ _ (callAny (.type "set") _) _ _ _
  apply wpAny_pure
  refine ⟨Code.quiet_builtin _ (by decide +kernel), codeAny_builtin F.entry_type_call ?_⟩
  rw [Around.under_plain (weight_type_call_type "set" [.ref l] []) rfl]
  have k3 := F.called_set.notType; have k4 := F.called_set.canCreate
  have k5 := F.typeCall_set_1 (.ref l)
  repeat (any_goals (first | assumption | wp_step))
  apply codeAny_mono (code_set_led1 (.ref l) (E := E) (Q₁ := fun v t => v = .ref s.heap.objs.size ∧ t = { s with heap := s.heap.push (emp w) }) ⟨rfl, rfl⟩)
  intro r t hr
  cases r with
  | error e => exact hr
  | ok fl =>
  cases fl with
  | ret v =>
    obtain ⟨rfl, rfl⟩ := hr
    have at1 : (s.heap.push (emp w)).get? s.heap.objs.size = some (emp w) := Heap.get?_push_size _ rfl
    have ty1 : Shared.TypeIs { s with heap := s.heap.push (emp w) } (.ref s.heap.objs.size) "set" := ⟨_, at1, rfl⟩
    have i1 := F.called_set.init.lookup; have i2 := F.called_set.init.bind (.ref s.heap.objs.size)
    repeat (any_goals (first | assumption | wp_step))
    refine codeAny_mono (codeAny_call_builtin (R := wants (fun r t => r = .none ∧ ∃ h' tk c, t = { s with heap := h', toks := tk } ∧ SetR w h' s.heap.objs.size (fun j => decide (j ∈ ns)) c ∧ c ≤ ns.length ∧ (∀ b o, s.heap.get? b = some o → h'.get? b = some o)) E)
      F.called_set.init.plain F.entry_set_init (check_set_init_1 ty1 ?_)) fun r2 t2 hr2 => ?_
    · obtain ⟨⟨q1, q2, q3, q4⟩, hob, hcl, m, hda⟩ := hl
      simp only at hcl hda
      subst hcl hda
      have hob2 : (s.heap.push (emp w)).get? l = some { cls := .type "list", dict := q2, data := .seq vs m, slots := q4 } := Heap.get?_push_of_some _ hob
      have u1 := F.sub_list_set; have u2 := F.sub_list_frozenset
      have u3 : (Value.type "list" == Value.type "dict") = false := by decide
      have li : (s.heap.push (emp w)).IsList l vs := ⟨_, hob2, rfl, m, rfl⟩
      unfold Builtin.«set.__init__» noKeywords Builtin.Frozenset.updateFrom
      generalize hPI : pyIter = PI
      wp_walk
      subst hPI
      apply wpAny_pyIter_list li
      apply wpAny_bind; apply wpAny_runValue
      have lt1 : l < s.heap.objs.size := Heap.lt_size hob
      have calm3 : A.in1.in1.in1.handled = none := by simp [calm]
      have ne1 : l ≠ (s.heap.push (emp w)).objs.size := by
        rw [Heap.size_push]; exact Nat.ne_of_lt (Nat.lt_succ_of_lt lt1)
      have no1 : s.heap.objs.size ∉ [(s.heap.push (emp w)).objs.size, l] := by
        rw [Heap.size_push]
        intro z
        rcases List.mem_cons.mp z with z | z
        · exact absurd z (Nat.ne_of_lt (Nat.lt_succ_self _))
        · exact absurd (List.mem_singleton.mp z) (Nat.ne_of_gt lt1)
      have items : ∀ (i : Nat) (v : Value), vs[i]? = some v → ∃ k t, ns[i]? = some k ∧ v = .int k t := fun i v h => by
        have hi : i < ns.length := by rw [← size]; exact (Array.getElem?_eq_some_iff.mp h).1
        obtain ⟨t, e⟩ := PyProof.Rows.IntsAre.int_at hv i v (by rw [Array.getElem?_toList]; exact h)
        refine ⟨ns[i], t, List.getElem?_eq_getElem hi, ?_⟩
        rw [e, List.getD_eq_getElem?_getD, List.getElem?_eq_getElem hi]; rfl
      refine set_update_ints ((Walks.list calm3 _ l ne1 vs).toS) s.heap.objs.size no1 ns size room items (vs.size - 0) 0 _ (by omega) (Nat.zero_le _)
        ⟨⟨_, Heap.get?_push_size _ rfl, rfl, rfl⟩, (li.push _)⟩ ?first ?last
      case first =>
        have : ((s.heap.push (emp w)).push (itO l)).get? s.heap.objs.size = some (emp w) := Heap.get?_push_of_some _ at1
        exact ⟨0, Nat.le_refl 0, setR_new_at this⟩
      case last =>
        rintro ⟨h', g2, d2, tk2, o2⟩ c2 mv hc2 R2
        have e1 : g2 = s.gens := mv.gens
        have e2 : d2 = s.drawn := mv.drawn
        have e3 : o2 = s.os := mv.os
        subst e1 e2 e3
        change wpAny _ _ _ _ _ _
        apply wpAny_pure
        change wpAny _ _ (ret Value.none) _ _ _
        rw [size] at hc2
        refine wpAny_pure ⟨rfl, h', tk2, c2, rfl, R2, hc2, fun b o e => ?_⟩
        have b0 : b < s.heap.objs.size := Heap.lt_size e
        refine mv.heap b o (fun z => ?_) (Heap.get?_push_of_some _ (Heap.get?_push_of_some _ e))
        rcases List.mem_cons.mp z with z | z
        · exact absurd z (Nat.ne_of_lt b0)
        · rw [List.mem_singleton.mp z, Heap.size_push] at b0
          exact absurd (Nat.lt_of_succ_lt b0) (Nat.lt_irrefl _)
    · cases r2 with
      | error e => exact hr2
      | ok f2 =>
        cases f2 with
        | ret v2 =>
          obtain ⟨rfl, h', tk, c2, rfl, R2, hc2, kp⟩ := hr2
          repeat (any_goals (first | assumption | wp_step))
          exact out _ _ _ R2 hc2 kp
        | _ => exact hr2.elim
  | _ => exact hr.elim
end
section
variable {X : Cx}
def rSetI (K : PySem.W.Frag) (w : World) : List V → Hp → VK → Prop := fun xs H Q => ∃ (l : Addr) (ns : List Int), xs = [V.ref l] ∧ SqL K H l (ns.map V.int) ∧ ns.length ≤ 1000 ∧
  ∀ (a : Addr) (c : Nat), H a = none → c ≤ ns.length → Q (.ref a) (upd H a (SetO w a (fun j => decide (j ∈ ns)) c))
theorem cr_setI (hc : X.calm = true) : CallR X (.type "set") (rSetI X.K X.w) := by
  intro pins s σ H xs us Q I r h
  obtain ⟨l, ns, rfl, hl, hn, q⟩ := h
  rw [Vals.ref1 r]
  obtain ⟨its, rv, pl, hz⟩ := I.list hl
  refine call_set_ints ns (I.ok.hd hc) pl.isList (by simpa using rv.ints) (by unfold scanBound; omega) fun h' tk c R hcn k => ?_
  have hf : H s.heap.objs.size = none := I.hok.fresh (Nat.le_refl _)
  exact ⟨.ref _, upd H s.heap.objs.size (SetO X.w s.heap.objs.size (fun j => decide (j ∈ ns)) c), I.laid (t' := tk) k (Nat.le_refl _) (setO_new R), rfl, q _ c hf hcn⟩
end
end Br

namespace Br
open PySem PySem.Spec PyProof.Rows L2
/-- a rota, as plain data -/
structure Rota where
  names : List Str
  turns : List Int
  weights : List Int
  aways : List (Int × Int × Int)
  makers : List Int
def tri (t : Int × Int × Int) : List V := [.int t.1, .int t.2.1, .int t.2.2]
/-- tuples of three ints -/
def AwAt (H : Hp) : List Addr → List (Int × Int × Int) → Prop := Paired fun a t => H a = some (.tup (tri t))
/-- the names: a tuple that is known to have no dict -/
def NmT (H : Hp) (a : Addr) (ns : List Str) : Prop := ∃ o : Obj, o.dict = none ∧ H a = some (.frz o (.tup (ns.map V.str)))
def Le (H H' : Hp) : Prop := ∀ b o, H b = some o → H' b = some o
theorem Wd.le {H H' : Hp} {l : List (Addr × HO)} (w : Wd [] H H' l) : Le H H' := fun b o e => w.base b o (by simp) e
theorem NmT.sq {K : PySem.W.Frag} {H : Hp} {a : Addr} {ns : List Str} (h : NmT H a ns) : SqT K H a (ns.map V.str) := by
  obtain ⟨o, _, e⟩ := h; exact .inl (.inr ⟨o, e⟩)
theorem NmT.le {H H' : Hp} (k : Le H H') {a : Addr} {ns : List Str} (h : NmT H a ns) : NmT H' a ns := by
  obtain ⟨o, d, e⟩ := h; exact ⟨o, d, k _ _ e⟩
def RotaAt (H : Hp) (a : Addr) (r : Rota) : Prop := ∃ (an at_ aw aa am : Addr) (as : List Addr), H a = some (.tup [.ref an, .ref at_, .ref aw, .ref aa, .ref am]) ∧ NmT H an r.names ∧
  H at_ = some (.tup (r.turns.map V.int)) ∧ H aw = some (.tup (r.weights.map V.int)) ∧ H aa = some (.tup (as.map V.ref)) ∧ AwAt H as r.aways ∧ H am = some (.tup (r.makers.map V.int))
def six : List Str := ["a", "b", "cc", "longname", "x", "zed"]
/-- what may be a name -/
def NmF (z : Str) : Prop := (∀ c ∈ z.cps.toList, c ∈ ("abcdefghijklmnopqrstuvwxyz" : Str).cps.toList) ∧ 1 ≤ z.length ∧ z.length ≤ 8 ∧ z ∉ (["people", "turns", "weights", "away", "of", "makeup"] : List Str)
def lexLt (s t : Int × Int × Int) : Prop := s.1 < t.1 ∨ s.1 = t.1 ∧ (s.2.1 < t.2.1 ∨ s.2.1 = t.2.1 ∧ s.2.2 < t.2.2)
def AwOk (n : Int) (t : Int × Int × Int) : Prop := 0 ≤ t.1 ∧ t.1 < n ∧ 0 ≤ t.2.1 ∧ t.2.1 < t.2.2 ∧ t.2.2 ∈ ([2, 3, 4, 6, 8, 12] : List Int)
/-- a rota of the laws' make -/
structure ROk (r : Rota) : Prop where
  n1 : 1 ≤ r.names.length
  n6 : r.names.length ≤ 6
  nd : r.names.Nodup
  six : ∀ x ∈ r.names, NmF x
  t0 : ∀ t ∈ r.turns, 0 ≤ t ∧ t < r.names.length
  tall : ∀ k : Nat, k < r.names.length → (k : Int) ∈ r.turns
  t12 : r.turns.length ≤ 12
  wl : r.weights.length = r.names.length
  w0 : ∀ x ∈ r.weights, 1 ≤ x ∧ x ≤ 9
  asc : r.aways.Pairwise lexLt
  a6 : r.aways.length ≤ 20
  a0 : ∀ t ∈ r.aways, AwOk r.names.length t
  masc : r.makers.Pairwise (· < ·)
  m0 : ∀ k ∈ r.makers, 0 ≤ k ∧ k < r.names.length
theorem AwAt.keep {H H' : Hp} (k : ∀ b xs, H b = some (.tup xs) → H' b = some (.tup xs)) : ∀ {as : List Addr} {ts : List (Int × Int × Int)}, AwAt H as ts → AwAt H' as ts
  | _, _, .nil => .nil
  | _, _, .cons h t => .cons (k _ _ h) (AwAt.keep k t)
theorem RotaAt.le {H H' : Hp} (k : Le H H') {a : Addr} {r : Rota} (h : RotaAt H a r) : RotaAt H' a r := by
  obtain ⟨an, at_, aw, aa, am, as, h1, h2, h3, h4, h5, h6, h7⟩ := h
  exact ⟨an, at_, aw, aa, am, as, k _ _ h1, h2.le k, k _ _ h3, k _ _ h4, k _ _ h5, h6.keep fun b xs => k b _, k _ _ h7⟩
theorem AwAt.length {H : Hp} : ∀ {as : List Addr} {ts : List (Int × Int × Int)}, AwAt H as ts → as.length = ts.length
  | _, _, .nil => rfl
  | _, _, .cons _ t => by rw [List.length_cons, List.length_cons, AwAt.length t]
theorem AwAt.append {H : Hp} : ∀ {as bs : List Addr} {ts us : List (Int × Int × Int)}, AwAt H as ts → AwAt H bs us → AwAt H (as ++ bs) (ts ++ us)
  | _, _, _, _, .nil, h => h
  | _, _, _, _, .cons h t, h' => .cons h (AwAt.append t h')
theorem cut_take (xs : List V) {k : Int} (h : 0 ≤ k) : cutV xs none (some k) = xs.take k.toNat := by
  obtain ⟨j, rfl⟩ : ∃ j : Nat, k = j := ⟨k.toNat, by omega⟩
  unfold cutV
  rw [HT.sIx_none, HT.sIx_nat, List.drop_zero, Nat.sub_zero, Int.toNat_natCast]
  by_cases c : j ≤ xs.length
  · rw [Nat.min_eq_left c]
  · rw [Nat.min_eq_right (by omega), List.take_of_length_le (Nat.le_refl _), List.take_of_length_le (by omega)]
theorem cut_drop (xs : List V) {k : Int} (h : 0 ≤ k) : cutV xs (some k) none = xs.drop k.toNat := by
  obtain ⟨j, rfl⟩ : ∃ j : Nat, k = j := ⟨k.toNat, by omega⟩
  unfold cutV
  rw [HT.sIx_none, HT.sIx_nat, Int.toNat_natCast]
  by_cases c : j ≤ xs.length
  · rw [Nat.min_eq_left c]
    exact List.take_of_length_le (by rw [List.length_drop]; omega)
  · rw [Nat.min_eq_right (by omega), List.drop_eq_nil_of_le (Nat.le_refl _), List.drop_eq_nil_of_le (by omega), List.take_nil]
def dataT (t : Int × Int × Int) : PyData := .tuple [.int t.1, .int t.2.1, .int t.2.2]
theorem AwAt.zip {H : Hp} : ∀ {as : List Addr} {ts : List (Int × Int × Int)}, AwAt H as ts → ∃ L : List (Addr × Int × Int × Int), as = L.map (·.1) ∧ ts = L.map (·.2) ∧ ∀ q ∈ L, H q.1 = some (.tup (tri q.2))
  | _, _, .nil => ⟨[], rfl, rfl, by simp⟩
  | _, _, .cons (a := a) (b := b) h t => by
    obtain ⟨L, e1, e2, h2⟩ := AwAt.zip t
    refine ⟨(a, b) :: L, by rw [List.map_cons, ← e1], by rw [List.map_cons, ← e2], fun q hq => ?_⟩
    rcases List.mem_cons.mp hq with rfl | hq
    · exact h
    · exact h2 q hq
theorem AwAt.of {H : Hp} : ∀ {L : List (Addr × Int × Int × Int)}, (∀ q ∈ L, H q.1 = some (.tup (tri q.2))) → AwAt H (L.map (·.1)) (L.map (·.2))
  | [], _ => .nil
  | q :: L, h => .cons (h q List.mem_cons_self) (AwAt.of fun r hr => h r (List.mem_cons_of_mem _ hr))
theorem code3 (a b c : Int) : TS.code 13 [a, b, c] = a * 169 + b * 13 + c := by
  have e2 : (13 : Int) ^ 2 = 169 := by decide
  have e1 : (13 : Int) ^ 1 = 13 := by decide
  have e0 : (13 : Int) ^ 0 = 1 := by decide
  show a * 13 ^ 2 + (b * 13 ^ 1 + (c * 13 ^ 0 + 0)) = _
  rw [e2, e1, e0]; omega
theorem lex_of_code {n : Int} (hn : n ≤ 13) {s t : Int × Int × Int} (hs : AwOk n s) (ht : AwOk n t) (h : TS.code 13 [s.1, s.2.1, s.2.2] ≤ TS.code 13 [t.1, t.2.1, t.2.2]) (ne : s ≠ t) : lexLt s t := by
  rw [code3, code3] at h
  obtain ⟨a, b, c⟩ := s
  obtain ⟨a', b', c'⟩ := t
  obtain ⟨h1, h2, h3, h4, h5⟩ := hs
  obtain ⟨g1, g2, g3, g4, g5⟩ := ht
  simp only at *
  have h6 : c ≤ 12 := by simp at h5; omega
  have g6 : c' ≤ 12 := by simp at g5; omega
  have : ¬ (a = a' ∧ b = b' ∧ c = c') := fun ⟨x, y, z⟩ => ne (by rw [x, y, z])
  unfold lexLt
  simp only
  omega
section
variable {P : Program} {w : World} {K : PySem.W.Frag} {mg : Str → Option Value} {base : Heap}
def spRota (K : PySem.W.Frag) : Sp := fun vs H Q _ => ∃ (d : Addr) (n x y : Int) (r : List Int), vs = [.ref d, .int n] ∧ 1 ≤ n ∧ n ≤ 6 ∧ H d = some (dl x y r) ∧ DOk x y r ∧
  ∀ (ro : Rota) (a : Addr) (x' y' : Int) (r' : List Int) (H' : Hp), Wd [d] H H' [(d, dl x' y' r')] → DOk x' y' r' → RotaAt H' a ro → ROk ro → ro.names.length ≤ n.toNat → Q (.ref a) H'
end
end Br

/-! Comprehensions whose element changes nothing: the list is (xs.filter p).map f. -/
namespace Br
open PySem PySem.Spec PyProof.Rows L2
section
variable {K : PySem.W.Frag} {a : Addr} {xs : List V} {g : TG} {tt : TT} {te : TE} {vs : List Nat} {σ : L2.St} {H1 H0 : Hp} {D : Addr} {Qd : Hp → Prop} {M : List Addr} {l : List (Addr × HO)}
theorem take_more {α : Type} {l : List α} {i : Nat} {x : α} (h : l[i]? = some x) : l.take (i + 1) = l.take i ++ [x] := by
  rw [List.take_add_one, h]; rfl
/-- what one turn gives -/
def LcEl (g : TG) (tt : TT) (te : TE) (vs : List Nat) (σ : L2.St) (p : V → Bool) (f : V → V) (x : V) (H : Hp) : Prop :=
  ∀ (R : V → Hp → Prop) (S : Hp → Prop), (p x = true → R (f x) H) → (p x = false → S H) → g x (wipe σ vs) H fun σ2 H2 => wipe σ2 vs = wipe σ vs ∧ tt σ2 H2 fun b H3 => if b = true then te σ2 H3 R else S H3
end
end Br

namespace Br
open PySem PySem.Spec PyProof.Rows L2
/-! ### the canonical text of a rota, as a function -/
def num (i : Int) : Str := (toString i : String)
def nm (r : Rota) (k : Int) : Str := r.names.getD k.toNat Str.empty
def awW (r : Rota) (t : Int × Int × Int) : List Str := ["away", nm r t.1, num t.2.1, "of", num t.2.2]
def heavy (r : Rota) : Bool := r.weights.any fun v => decide (1 < v)
def lines2 (r : Rota) : List (List Str) := ["people" :: r.names, "turns" :: r.turns.map (nm r)]
def linesW (r : Rota) : List (List Str) := if heavy r = true then ["weights" :: r.weights.map num] else []
def linesM (r : Rota) : List (List Str) := if r.makers.isEmpty = true then [] else ["makeup" :: r.makers.map (nm r)]
def lineWords (r : Rota) : List (List Str) := lines2 r ++ linesW r ++ r.aways.map (awW r) ++ linesM r
def lineS (ws : List Str) : Str := Txt.join " " ws ++ ";"
def textOf (r : Rota) : Str := Txt.join "\n" ((lineWords r).map lineS)
/-! ### sizes -/
theorem joinL_len (S : List Nat) : ∀ ps : List (List Nat), (TL.joinL S ps).length ≤ (ps.map fun p => p.length + S.length).sum
  | [] => Nat.zero_le _
  | [p] => by simp [TL.joinL]
  | p :: q :: r => by
    have := joinL_len S (q :: r)
    rw [TL.joinL, List.length_append, List.length_append, List.map_cons, List.sum_cons]
    omega
theorem sum_le {α : Type} (f : α → Nat) (b : Nat) : ∀ l : List α, (∀ x ∈ l, f x ≤ b) → (l.map f).sum ≤ l.length * b
  | [], _ => by simp
  | x :: l, h => by
    have h1 := h x List.mem_cons_self
    have h2 := sum_le f b l fun y hy => h y (List.mem_cons_of_mem _ hy)
    rw [List.map_cons, List.sum_cons, List.length_cons, Nat.succ_mul]
    omega
theorem join_len (y : Str) (ps : List Str) (b : Nat) (h : ∀ p ∈ ps, p.length ≤ b) : (Txt.join y ps).length ≤ ps.length * (b + y.length) := by
  rw [TL.join_eq, TL.len_tl, TL.tl_join]
  refine Nat.le_trans (joinL_len _ _) ?_
  rw [List.map_map]
  refine sum_le _ _ _ fun p hp => ?_
  have h1 := h p hp
  rw [TL.len_tl] at h1
  show (TL.tl p).length + (TL.tl y).length ≤ b + y.length
  rw [← TL.len_tl y]; omega
theorem nm_mem {r : Rota} {k : Int} (h0 : 0 ≤ k) (h : k < r.names.length) : r.names[k.toNat]? = some (nm r k) := by
  unfold nm
  rw [List.getD_eq_getElem?_getD, List.getElem?_eq_getElem (by omega)]; rfl
/-- the lines' lists on the heap -/
def TL1 (L : List (Addr × List Str)) : List (Addr × HO) := L.map fun q => (q.1, HO.lst (q.2.map V.str))
def refs (L : List (Addr × List Str)) : List V := L.map fun q => V.ref q.1
section
variable {P : Program} {w : World} {K : PySem.W.Frag} {mg : Str → Option Value} {base : Heap}
theorem AwAt.at {H : Hp} : ∀ {as : List Addr} {ts : List (Int × Int × Int)} {i : Nat} {a : Addr}, AwAt H as ts → as[i]? = some a → ∃ t, ts[i]? = some t ∧ H a = some (.tup (tri t))
  | _, _, i, a, .nil, h => by simp at h
  | _, _, 0, a, .cons h _, e => by simp at e; subst e; exact ⟨_, rfl, h⟩
  | _, _, i + 1, a, .cons _ t, e => by simpa using AwAt.at t (i := i) (by simpa using e)
def spText : Sp := fun vs H Q _ => ∃ (a : Addr) (r : Rota), vs = [.ref a] ∧ RotaAt H a r ∧ ROk r ∧ ∀ H' : Hp, Wd [] H H' [] → Q (.str (textOf r)) H'
end
end Br

/-! Plain: who is at home, a tick, the book's operations. -/
namespace Br
open PySem PySem.Spec PyProof.Rows L2
/-! ### a tick, as functions -/
def isHome (r : Rota) (t p : Int) : Bool := ((r.aways.filter fun a => decide (a.1 = p)).map fun a => !decide (t.fmod a.2.2 = a.2.1)).all id
def persons (r : Rota) : List Int := (List.range r.names.length).map fun i : Nat => (i : Int)
def homes (r : Rota) (t : Int) : List Int := (persons r).filter (isHome r t)
def owes (o : List Int) (p : Int) : Int := o.getD p.toNat 0
def chg (o : List Int) (p a : Int) : List Int := o.set p.toNat (if owes o p + a < 9 then owes o p + a else 9)
def turnAt (r : Rota) (s : Nat) : Int := r.turns.getD s 0
def passT (r : Rota) (s : Nat) (o : List Int) : List Int := if turnAt r s ∈ r.makers then chg o (turnAt r s) 1 else o
def nextS (r : Rota) (s : Nat) : Nat := (s + 1) % r.turns.length
def spin (r : Rota) (hs : List Int) : Nat → Nat → List Int → Nat × List Int
  | 0, s, o => (s, o)
  | k + 1, s, o => if turnAt r s ∈ hs then (s, o) else spin r hs k (nextS r s) (passT r s o)
def maxL : List Int → Int
  | [] => 0
  | [x] => x
  | x :: y :: l => max x (maxL (y :: l))
def debtor (hs : List Int) (o : List Int) : Option Int := hs.find? fun p => decide (owes o p = maxL (hs.map (owes o)))
def tickF (r : Rota) (s : Nat) (o : List Int) (t : Int) : Nat × List Int × Option Int :=
  let hs := homes r t
  if hs = [] then (s, o, none)
  else if 0 < maxL (hs.map (owes o)) then
    match debtor hs o with
    | some p => (s, chg o p (-1), some p)
    | none => (s, o, none)
  else
    let q := spin r hs r.turns.length s o
    (nextS r q.1, q.2, some (turnAt r q.1))
structure OwOk (r : Rota) (o : List Int) : Prop where
  len : o.length = r.names.length
  rng : ∀ v ∈ o, 0 ≤ v ∧ v ≤ 9
section
variable {r : Rota} {o : List Int} {s : Nat} {hs : List Int} {t p : Int}
theorem mem_persons : p ∈ persons r ↔ 0 ≤ p ∧ p < r.names.length := by
  unfold persons
  rw [List.mem_map]
  constructor
  · rintro ⟨i, hi, rfl⟩; have := List.mem_range.mp hi; omega
  · rintro ⟨h1, h2⟩; exact ⟨p.toNat, List.mem_range.mpr (by omega), by omega⟩
theorem homes_in (h : p ∈ homes r t) : 0 ≤ p ∧ p < r.names.length := mem_persons.mp (List.mem_filter.mp h).1
theorem owes_at (h0 : 0 ≤ p) (h : p.toNat < o.length) : o[p.toNat]? = some (owes o p) := by
  unfold owes; rw [List.getD_eq_getElem?_getD, List.getElem?_eq_getElem h]; rfl
theorem OwOk.at_ (k : OwOk r o) (h0 : 0 ≤ p) (h : p < r.names.length) : 0 ≤ owes o p ∧ owes o p ≤ 9 :=
  k.rng _ (List.mem_of_getElem? (owes_at h0 (by have := k.len; omega)))
theorem OwOk.chg (k : OwOk r o) {a : Int} (ha : 0 ≤ owes o p + a) : OwOk r (chg o p a) := by
  refine ⟨by unfold Br.chg; rw [List.length_set]; exact k.len, fun v hv => ?_⟩
  unfold Br.chg at hv
  rcases List.mem_or_eq_of_mem_set hv with h | h
  · exact k.rng v h
  · subst h; split <;> omega
theorem maxL_mem : ∀ {l : List Int}, l ≠ [] → maxL l ∈ l ∧ ∀ y ∈ l, y ≤ maxL l
  | [], h => absurd rfl h
  | [x], _ => ⟨by simp [maxL], by simp [maxL]⟩
  | x :: y :: l, _ => by
    obtain ⟨h1, h2⟩ := maxL_mem (l := y :: l) (by simp)
    have e : maxL (x :: y :: l) = max x (maxL (y :: l)) := rfl
    rw [e]
    refine ⟨?_, fun z hz => ?_⟩
    · by_cases c : x ≤ maxL (y :: l)
      · rw [Int.max_eq_right c]; exact List.mem_cons_of_mem _ h1
      · rw [Int.max_eq_left (by omega)]; exact List.mem_cons_self
    · rcases List.mem_cons.mp hz with rfl | hz
      · omega
      · have := h2 z hz; omega
theorem debtor_some (h : hs ≠ []) : ∃ p, debtor hs o = some p ∧ p ∈ hs ∧ owes o p = maxL (hs.map (owes o)) := by
  have hm := (maxL_mem (l := hs.map (owes o)) (by simpa using h)).1
  obtain ⟨p, hp, e⟩ := List.mem_map.mp hm
  cases hd : debtor hs o with
  | none =>
    have := List.find?_eq_none.mp hd p hp
    simp [e] at this
  | some q => exact ⟨q, rfl, List.mem_of_find?_eq_some hd, by simpa using List.find?_some hd⟩
theorem nextS_lt (h : 0 < r.turns.length) : nextS r s < r.turns.length := Nat.mod_lt _ h
theorem turnAt_at (h : s < r.turns.length) : r.turns[s]? = some (turnAt r s) := by
  unfold turnAt; rw [List.getD_eq_getElem?_getD, List.getElem?_eq_getElem h]; rfl
theorem turnAt_in (ok : ROk r) (h : s < r.turns.length) : 0 ≤ turnAt r s ∧ turnAt r s < r.names.length := ok.t0 _ (List.mem_of_getElem? (turnAt_at h))
theorem OwOk.pass (k : OwOk r o) (ok : ROk r) (h : s < r.turns.length) : OwOk r (passT r s o) := by
  unfold passT
  split
  · have h1 := turnAt_in ok h
    exact k.chg (by have := (k.at_ h1.1 h1.2).1; omega)
  · exact k
theorem turns_pos (ok : ROk r) : 0 < r.turns.length := by
  have := ok.tall 0 (by have := ok.n1; omega)
  exact List.length_pos_of_mem this
/-- so many steps ahead somebody at home has the turn -/
def Near (r : Rota) (hs : List Int) (k s : Nat) : Prop := ∃ j, j < k ∧ turnAt r ((s + j) % r.turns.length) ∈ hs
theorem near_start (ok : ROk r) (hne : hs ≠ []) (hin : ∀ p ∈ hs, 0 ≤ p ∧ p < r.names.length) (h : s < r.turns.length) : Near r hs r.turns.length s := by
  obtain ⟨p, hp⟩ := List.exists_mem_of_ne_nil hs hne
  have h1 := hin p hp
  have h2 := ok.tall p.toNat (by omega)
  rw [show ((p.toNat : Nat) : Int) = p by omega] at h2
  obtain ⟨i, hi, e⟩ := List.getElem_of_mem h2
  refine ⟨(i + (r.turns.length - s)) % r.turns.length, Nat.mod_lt _ (by omega), ?_⟩
  have e2 : (s + (i + (r.turns.length - s)) % r.turns.length) % r.turns.length = i := by
    rw [Nat.add_mod, Nat.mod_mod, ← Nat.add_mod, show s + (i + (r.turns.length - s)) = i + r.turns.length by omega, Nat.add_mod_right, Nat.mod_eq_of_lt hi]
  rw [e2]
  have := turnAt_at hi
  rw [List.getElem?_eq_getElem hi, e] at this
  rw [← Option.some.inj this]; exact hp
theorem near_step {k : Nat} (h : s < r.turns.length) (n : Near r hs (k + 1) s) (hn : turnAt r s ∉ hs) : Near r hs k (nextS r s) := by
  obtain ⟨j, hj, e⟩ := n
  cases j with
  | zero => rw [Nat.add_zero, Nat.mod_eq_of_lt h] at e; exact absurd e hn
  | succ j =>
    refine ⟨j, by omega, ?_⟩
    unfold nextS
    rw [show s + (j + 1) = s + 1 + j by omega] at e
    rw [Nat.add_mod, Nat.mod_mod, ← Nat.add_mod]
    exact e
theorem spin_ok (ok : ROk r) : ∀ (k s : Nat) (o : List Int), s < r.turns.length → OwOk r o → Near r hs k s → (spin r hs k s o).1 < r.turns.length ∧ OwOk r (spin r hs k s o).2 ∧ turnAt r (spin r hs k s o).1 ∈ hs
  | 0, s, o, _, _, ⟨j, hj, _⟩ => absurd hj (Nat.not_lt_zero _)
  | k + 1, s, o, h, w, n => by
    unfold spin
    by_cases c : turnAt r s ∈ hs
    · rw [if_pos c]; exact ⟨h, w, c⟩
    · rw [if_neg c]
      exact spin_ok ok k _ _ (nextS_lt (by omega)) (w.pass ok h) (near_step h n c)
/-- a tick keeps what holds -/
theorem tick_ok (ok : ROk r) (h : s < r.turns.length) (k : OwOk r o) : (tickF r s o t).1 < r.turns.length ∧ OwOk r (tickF r s o t).2.1 ∧ ∀ p, (tickF r s o t).2.2 = some p → 0 ≤ p ∧ p < r.names.length := by
  unfold tickF
  simp only
  by_cases c : homes r t = []
  · rw [if_pos c]; exact ⟨h, k, fun p e => by cases e⟩
  rw [if_neg c]
  by_cases c2 : 0 < maxL ((homes r t).map (owes o))
  · rw [if_pos c2]
    obtain ⟨p, hp, hm, e⟩ := debtor_some (o := o) c
    rw [hp]
    refine ⟨h, k.chg (by omega), fun q hq => ?_⟩
    cases hq
    exact homes_in hm
  · rw [if_neg c2]
    obtain ⟨h1, h2, h3⟩ := spin_ok ok _ _ _ h k (near_start ok c (fun p hp => homes_in hp) h)
    refine ⟨nextS_lt (by omega), h2, fun q hq => ?_⟩
    cases hq
    exact turnAt_in ok h1
end
/-! ### the state of a book -/
structure Now where
  s : Nat
  o : List Int
  t : Nat
  d : List (Option Int)
structure NowOk (r : Rota) (n : Now) : Prop where
  s : n.s < r.turns.length
  o : OwOk r n.o
  d : ∀ p, some p ∈ n.d → 0 ≤ p ∧ p < r.names.length
def now0 (r : Rota) : Now := ⟨0, List.replicate r.names.length 0, 0, []⟩
theorem now0_ok {r : Rota} (ok : ROk r) : NowOk r (now0 r) :=
  ⟨turns_pos ok, ⟨List.length_replicate .., fun v hv => by rw [(List.mem_replicate.mp hv).2]; decide⟩, fun p hp => by cases hp⟩
/-- k ticks from a state: the state behind them and who does it -/
def ticksF (r : Rota) : Nat → Nat → List Int → Nat → Nat × List Int × List (Option Int)
  | 0, s, o, _ => (s, o, [])
  | k + 1, s, o, t => let q := tickF r s o t
    let z := ticksF r k q.1 q.2.1 (t + 1)
    (z.1, z.2.1, q.2.2 :: z.2.2)
theorem ticksF_len {r : Rota} : ∀ (k s : Nat) (o : List Int) (t : Nat), (ticksF r k s o t).2.2.length = k
  | 0, _, _, _ => rfl
  | k + 1, s, o, t => by unfold ticksF; simp only [List.length_cons]; rw [ticksF_len]
/-- one more at the end -/
theorem ticksF_more {r : Rota} : ∀ (k s : Nat) (o : List Int) (t : Nat), ticksF r (k + 1) s o t = let z := ticksF r k s o t
    let q := tickF r z.1 z.2.1 ((t + k : Nat) : Int)
    (q.1, q.2.1, z.2.2 ++ [q.2.2])
  | 0, s, o, t => rfl
  | k + 1, s, o, t => by
    have ih := ticksF_more (r := r) k (tickF r s o t).1 (tickF r s o t).2.1 (t + 1)
    rw [ticksF]
    simp only
    rw [ih]
    simp only
    rw [show t + 1 + k = t + (k + 1) by omega]
    conv => rhs; rw [ticksF]
    rfl
theorem ticks_ok {r : Rota} (ok : ROk r) : ∀ (k s : Nat) (o : List Int) (t : Nat), s < r.turns.length → OwOk r o →
    (ticksF r k s o t).1 < r.turns.length ∧ OwOk r (ticksF r k s o t).2.1 ∧ ∀ p, some p ∈ (ticksF r k s o t).2.2 → 0 ≤ p ∧ p < r.names.length
  | 0, s, o, t, h, w => ⟨h, w, fun p hp => by cases hp⟩
  | k + 1, s, o, t, h, w => by
    obtain ⟨h1, h2, h3⟩ := tick_ok (t := t) ok h w
    obtain ⟨g1, g2, g3⟩ := ticks_ok ok k _ _ (t + 1) h1 h2
    unfold ticksF
    refine ⟨g1, g2, fun p hp => ?_⟩
    rcases List.mem_cons.mp hp with e | hp
    · exact h3 p e.symm
    · exact g3 p hp
def stepN (r : Rota) (k : Nat) (n : Now) : Now := let z := ticksF r k n.s n.o n.t
  ⟨z.1, z.2.1, n.t + k, n.d ++ z.2.2⟩
def found (r : Rota) (k : Nat) (n : Now) : List (Option Int) := (ticksF r k n.s n.o n.t).2.2
theorem stepN_ok {r : Rota} (ok : ROk r) {k : Nat} {n : Now} (h : NowOk r n) : NowOk r (stepN r k n) := by
  obtain ⟨g1, g2, g3⟩ := ticks_ok ok k _ _ n.t h.s h.o
  refine ⟨g1, g2, fun p hp => ?_⟩
  rcases List.mem_append.mp hp with hp | hp
  · exact h.d p hp
  · exact g3 p hp
def less (v : Int) : Int := if v - 1 > 0 then v - 1 else 0
def giftN (p : Int) (n : Now) : Now := ⟨n.s, n.o.set p.toNat (less (owes n.o p)), n.t + 1, n.d ++ [some p]⟩
def forgiveN (p : Int) (n : Now) : Now := ⟨n.s, n.o.set p.toNat 0, n.t, n.d⟩
theorem giftN_ok {r : Rota} {p : Int} {n : Now} (h0 : 0 ≤ p) (h1 : p < r.names.length) (h : NowOk r n) : NowOk r (giftN p n) := by
  have hp := h.o.at_ h0 h1
  refine ⟨h.s, ⟨by show (n.o.set _ _).length = _; rw [List.length_set]; exact h.o.len, fun v hv => ?_⟩, fun q hq => ?_⟩
  · rcases List.mem_or_eq_of_mem_set hv with hv | rfl
    · exact h.o.rng v hv
    · unfold less; split <;> omega
  · rcases List.mem_append.mp hq with hq | hq
    · exact h.d q hq
    · cases List.mem_singleton.mp hq; exact ⟨h0, h1⟩
theorem forgiveN_ok {r : Rota} {p : Int} {n : Now} (h : NowOk r n) : NowOk r (forgiveN p n) := by
  refine ⟨h.s, ⟨by show (n.o.set _ _).length = _; rw [List.length_set]; exact h.o.len, fun v hv => ?_⟩, h.d⟩
  rcases List.mem_or_eq_of_mem_set hv with hv | rfl
  · exact h.o.rng v hv
  · omega
/-- what is done of a book and what is undone of it -/
structure Bst where
  now : Now
  past : List (Str × Now)
  und : List ((Str × Now) × Now)
def ents : List (Str × Now) → Now → List (Str × Now × Now)
  | [], _ => []
  | [(w, b)], n => [(w, b, n)]
  | (w, b) :: (w', b') :: l, n => (w, b, b') :: ents ((w', b') :: l) n
theorem ents_more : ∀ (l : List (Str × Now)) (w : Str) (b n : Now), ents (l ++ [(w, b)]) n = ents l b ++ [(w, b, n)]
  | [], _, _, _ => rfl
  | [(w, b)], _, _, _ => rfl
  | (w, b) :: (w', b') :: l, w2, b2, n => by
    have := ents_more ((w', b') :: l) w2 b2 n
    show (w, b, b') :: ents ((w', b') :: l ++ [(w2, b2)]) n = _
    rw [this]; rfl
theorem ents_len : ∀ (l : List (Str × Now)) (n : Now), (ents l n).length = l.length
  | [], _ => rfl
  | [(w, b)], _ => rfl
  | (w, b) :: (w', b') :: l, n => by
    show (ents ((w', b') :: l) n).length + 1 = _
    rw [ents_len]; rfl
/-- what was undone begins where the book stands; the last one first -/
def UCh : List ((Str × Now) × Now) → Now → Prop
  | [], _ => True
  | ((_, b), a) :: u, n => b = n ∧ UCh u a
structure BOk (r : Rota) (b : Bst) : Prop where
  now : NowOk r b.now
  past : ∀ e ∈ b.past, NowOk r e.2
  und : ∀ e ∈ b.und, NowOk r e.1.2 ∧ NowOk r e.2
  ch : UCh b.und.reverse b.now
def recB (w : Str) (b : Bst) (n : Now) : Bst := ⟨n, b.past ++ [(w, b.now)], []⟩
theorem recB_ok {r : Rota} {b : Bst} {w : Str} {n : Now} (k : BOk r b) (h : NowOk r n) : BOk r (recB w b n) :=
  ⟨h, fun e he => by
    rcases List.mem_append.mp he with he | he
    · exact k.past e he
    · rw [List.mem_singleton.mp he]; exact k.now, fun e he => (nomatch he), trivial⟩
def undoB (b : Bst) : Option Bst := match b.past.getLast? with
  | none => none
  | some e => some ⟨e.2, b.past.dropLast, b.und ++ [(e, b.now)]⟩
def redoB (b : Bst) : Option Bst := match b.und.getLast? with
  | none => none
  | some e => some ⟨e.2, b.past ++ [e.1], b.und.dropLast⟩
theorem undoB_ok {r : Rota} {b b' : Bst} (k : BOk r b) (h : undoB b = some b') : BOk r b' := by
  unfold undoB at h
  cases e : b.past.getLast? with
  | none => rw [e] at h; cases h
  | some x =>
    rw [e] at h
    cases h
    have hx : x ∈ b.past := List.mem_of_getLast? e
    refine ⟨k.past x hx, fun y hy => k.past y ((List.dropLast_sublist _).subset hy), fun y hy => ?_, ?_⟩
    · rcases List.mem_append.mp hy with hy | hy
      · exact k.und y hy
      · rw [List.mem_singleton.mp hy]; exact ⟨k.past x hx, k.now⟩
    · show UCh (b.und ++ [(x, b.now)]).reverse _
      rw [List.reverse_append]
      exact ⟨rfl, k.ch⟩
theorem redoB_ok {r : Rota} {b b' : Bst} (k : BOk r b) (h : redoB b = some b') : BOk r b' := by
  unfold redoB at h
  cases e : b.und.getLast? with
  | none => rw [e] at h; cases h
  | some x =>
    rw [e] at h
    cases h
    have hx : x ∈ b.und := List.mem_of_getLast? e
    have ex : b.und = b.und.dropLast ++ [x] := by
      obtain ⟨l, hl⟩ := List.getLast?_eq_some_iff.mp e
      rw [hl, List.dropLast_concat]
    have ch := k.ch
    rw [ex, List.reverse_append] at ch
    refine ⟨(k.und x hx).2, fun y hy => ?_, fun y hy => k.und y ((List.dropLast_sublist _).subset hy), ch.2⟩
    rcases List.mem_append.mp hy with hy | hy
    · exact k.past y hy
    · rw [List.mem_singleton.mp hy]; exact (k.und x hx).1
end Br

/-! Comprehensions that fill a list told ahead; isinstance of flat things. -/
namespace Br
open PySem PySem.Spec PyProof.Rows L2
section
variable {J : It} {n : Nat} {G : Hp → Prop} {Y : Nat → Hp → V → Hp → Prop}
/-- a comprehension without a test that makes ys; the ledger behind the new list may change from turn to turn -/
theorem lc_put (w : Walk J n G Y) {g : TG} {te : TE} {vs : List Nat} {σ : L2.St} {H0 H1 : Hp} {D : Addr} {Qd : Hp → Prop} {M : List Addr} {l : Nat → List (Addr × HO)} (ys : List V) (hy : ys.length = n) (hn : n ≤ 1000)
    (wd : Wd M H0 H1 (l 0)) (hD : H1 D = none) (hG : ∀ i H, i ≤ n → Wd M H0 H ((D, .lst (ys.take i)) :: l i) → G H)
    (hs : ∀ i x H H' (R : V → Hp → Prop), i < n → Wd M H0 H ((D, .lst (ys.take i)) :: l i) → Y i H x H' → (∀ y H4, ys[i]? = some y → Wd M H0 H4 ((D, .lst (ys.take i)) :: l (i + 1)) → R y H4) → g x (wipe σ vs) H' fun σ2 H2 => wipe σ2 vs = wipe σ vs ∧ te σ2 H2 R)
    (hd : ∀ H, Wd M H0 H ((D, .lst ys) :: l n) → Qd H) :
    ∃ W : Nat → Nat → Hp → Prop, (∃ m, W 0 m (upd H1 D (.lst []))) ∧ ∀ i m H, W i m H →
      (J.stop i H ∧ Qd H) ∨ (J.go i H ∧ ∃ Nx : Hp → Prop, (∀ H', Nx H' → ∃ m', m' < m ∧ W (i + 1) m' H') ∧ ∀ x H', J.yld i H x H' → g x (wipe σ vs) H' fun σ2 H2 => wipe σ2 vs = wipe σ vs ∧ tYes σ2 H2 fun b H3 =>
        if b = true then te σ2 H3 fun y H4 => ∃ acc, H4 D = some (.lst acc) ∧ acc.length < sizeLine ∧ Nx (upd H4 D (.lst (acc ++ [y]))) else Nx H3) := by
  refine ⟨fun i m H => m = n - i ∧ i ≤ n ∧ Wd M H0 H ((D, .lst (ys.take i)) :: l i), ⟨n, by simp, Nat.zero_le _, ?_⟩, ?_⟩
  · rw [List.take_zero]; exact wd.new _ hD
  rintro i m H ⟨rfl, hi, p⟩
  have q := hG i H hi p
  by_cases hlt : i < n
  · refine .inr ⟨w.goes i H hlt q, fun H' => Wd M H0 H' ((D, .lst (ys.take (i + 1))) :: l (i + 1)), fun H' p' => ⟨n - (i + 1), by omega, rfl, hlt, p'⟩, fun x H' y => ?_⟩
    refine hs i x H H' _ hlt p (w.yields i H x H' hlt q y) fun y H4 hy4 w4 => ⟨_, w4.get 0 rfl, ?_, ?_⟩
    · rw [List.length_take]
      exact Nat.lt_of_le_of_lt (m := 1000) (by omega) (by decide)
    · have := w4.put 0 (.lst (ys.take i ++ [y])) rfl (fun xs q => by cases q)
      rw [take_more hy4]
      exact this
  · have e : i = n := by omega
    subst e
    refine .inl ⟨w.stops H q, hd H ?_⟩
    rw [← hy, List.take_length] at p
    rw [← hy]; exact p
/-! ### flat things and isinstance -/
/-- a value and its class, as isinstance asks -/
inductive Ky (H : Hp) : V → String → Prop
  | non : Ky H .non "NoneType"
  | bl (b : Bool) : Ky H (.bl b) "bool"
  | int (i : Int) : Ky H (.int i) "int"
  | str (z : Str) : Ky H (.str z) "str"
  | lst {a : Addr} {xs : List V} (h : H a = some (.lst xs)) : Ky H (.ref a) "list"
  | tup {a : Addr} {xs : List V} (h : H a = some (.tup xs)) : Ky H (.ref a) "tuple"
theorem Ky.ty {K : PySem.W.Frag} {H : Hp} {x : V} {t : String} (h : Ky H x t) : TyX K H x (.type t) := by
  cases h with
  | non => exact .base .non
  | bl b => exact .base (.bl b)
  | int i => exact .base (.int i)
  | str z => exact .base (.str z)
  | lst h => exact .base (.lst h)
  | tup h => exact .base (.tup h)
/-- isinstance(x, T) of such things, T one of the six -/
def isA (t T : String) : Bool := t == T || (t == "bool" && T == "int")
theorem kit_is {K : PySem.W.Frag} {t T : String} (h : t ∈ ["NoneType", "bool", "int", "str", "list", "tuple"]) (h' : T ∈ ["bool", "int", "str", "list", "tuple"]) : PySem.W.kitOne K (.type t) (.type T) = some (isA t T) := by
  simp only [List.mem_cons, List.not_mem_nil, or_false] at h h'
  rcases h with rfl | rfl | rfl | rfl | rfl | rfl <;> rcases h' with rfl | rfl | rfl | rfl | rfl <;> rfl
theorem Ky.mem {H : Hp} {x : V} {t : String} (h : Ky H x t) : t ∈ ["NoneType", "bool", "int", "str", "list", "tuple"] := by
  cases h <;> decide
def intIn (lo hi : Int) : V → Bool
  | .int i => decide (lo ≤ i) && decide (i ≤ hi)
  | _ => false
abbrev rSIndex : V → List V → Hp → VK → Prop := fun x xs H Q => ∃ a b i rest, x = .str a ∧ xs = [.str b] ∧ Builtin.Str.occurrences a b 0 a.length 1 = i :: rest ∧ Q (.int (i : Nat)) H
end
end Br

namespace Br
open PySem PySem.Spec PyProof.Rows L2
theorem Wd.app0 {M : List Addr} {H0 H : Hp} {D : Addr} {ys : List V} {l : List (Addr × HO)} (w : Wd M H0 H ((D, .lst ys) :: l)) (y : V) : Wd M H0 (upd H D (.lst (ys ++ [y]))) ((D, .lst (ys ++ [y])) :: l) :=
  w.put 0 (.lst (ys ++ [y])) rfl (fun _ q => by cases q)
section
variable {P : Program} {w : World} {K : PySem.W.Frag} {mg : Str → Option Value} {base : Heap}
abbrev sis_home : Stmt := topS 46
theorem scis_home : FnScope ["parsed", "person", "tick", "other", "remainder", "modulus"] ["parsed", "person", "tick"] (defScope sis_home) := ⟨rfl, rfl, rfl, by decide +kernel, rfl, by decide +kernel, by decide +kernel⟩
def spHome : Sp := fun vs H Q _ => ∃ (a : Addr) (r : Rota) (p t : Int), vs = [.ref a, .int p, .int t] ∧ RotaAt H a r ∧ ROk r ∧ ∀ H', Wd [] H H' [] → Q (.bl (isHome r t p)) H'
theorem cal_home (D : DefAt K mg "is_home" sis_home ["parsed", "person", "tick"]) (T : Bi mg) : Cal P w K mg base 1 "is_home" ["parsed", "person", "tick"] spHome := D.cal fun f fd F => by
  have nd := scis_home.nd
  refine F.ok scis_home (fun vs H Q E h => ?_) (fun cdv A outer s H vs Q E hr h => ?_)
  · obtain ⟨a, r, p, t, rfl, _⟩ := h; rfl
  obtain ⟨a, r, p, t, rfl, hR, ok, q⟩ := h
  obtain ⟨an, at_, aw, aa, am, as, h1, h2, h3, h4, h5, h6, h7⟩ := hR
  refine ⟨_, (pss_one (ps_ret (pe_callB (r := L2.rAll K) (cr_all rfl) (by rfl) T.all (by decide +kernel) (pa_cons (pe_lc (own := [("other", 3), ("remainder", 4), ("modulus", 5)]) rfl nd (pi_tupK (K := K) rfl (pe_ix (r := rIxT K) ix_tup (pv 0) pe_int (fun _ _ => rfl))) (blkOk_by (N := ["parsed", "person", "tick", "other", "remainder", "modulus"]) (sc := defScope sis_home) (by decide +kernel)) (fun _ _ _ _ _ => (pg_tupK (K := K) (n := 3) rfl rfl (pgs_cons (pg_name (i := 3) nd rfl (Or.inl rfl)) (pgs_cons (pg_name (i := 4) nd rfl (Or.inl rfl)) (pgs_cons (pg_name (i := 5) nd rfl (Or.inl rfl)) pgs_nil))))) (fun _ _ _ _ _ => (pts_one (pt_cmpR op_eq (pv 3) (pv 1) (nomark _)))) (fun _ _ _ _ _ => (pe_cmpR op_ne (pe_op op_modN (pv 2) (pv 5)) (pv 4) (nomark _)))) pa_nil)))), ?_⟩
  have has : as.length = r.aways.length := h6.length
  have a6 := ok.a6
  refine ⟨_, rfl, a, _, 3, _, rfl, rfl, SqT.of h1, rfl, aa, rfl, ⟨_, SqT.of h5⟩, fun D hD => ?_⟩
  refine lc_tup (xs := as.map V.ref) (fun i H2 => Wd [] H H2 [(D, .lst ((((r.aways.take i).filter fun a => decide (a.1 = p)).map fun a => !decide (t.fmod a.2.2 = a.2.1)).map V.bl))]) ((Wd.refl H).new _ hD) (fun i H2 _ w2 => SqT.of (w2.old h5 (by simp))) (fun i x H2 hx w2 => ?_) (fun H2 w2 => ?_)
  · rw [List.getElem?_map] at hx
    obtain ⟨b1, hb, rfl⟩ := Option.map_eq_some_iff.mp hx
    obtain ⟨z, hz, hbz⟩ := h6.at hb
    have hmod : z.2.2 ≠ 0 := by
      obtain ⟨g1, g2, g3, g4, g5⟩ := ok.a0 z (List.mem_of_getElem? hz)
      intro e; rw [e] at g5; simp at g5
    rw [take_more hz, List.filter_append, List.map_append]
    refine ⟨b1, tri z, rfl, SqT.of (w2.old hbz (by simp)), rfl, _, _, rfl, _, _, rfl, _, _, rfl, rfl, rfl, _, rfl, _, rfl, rfl, _, rfl, ?_⟩
    refine ite2 (fun hh => ?_) (fun hh => ?_)
    · have c : z.1 = p := by have := of_decide_eq_true hh; injection this
      refine ⟨_, rfl, _, rfl, _, _, rfl, rfl, hmod, _, rfl, ?_⟩
      refine ⟨rfl, _, w2.get 0 rfl, ?_, ?_⟩
      · rw [List.length_map, List.length_map]
        have h1 := List.length_filter_le (fun a : Int × Int × Int => decide (a.1 = p)) (r.aways.take i)
        rw [List.length_take] at h1
        exact Nat.lt_of_le_of_lt (m := 100) (by omega) (by decide)
      · rw [List.filter_cons_of_pos (by simpa using c), List.filter_nil]
        have e : (!decide (V.int (t.fmod z.2.2) = V.int z.2.1)) = !decide (t.fmod z.2.2 = z.2.1) := by simp
        have := w2.app0 (V.bl (!decide (V.int (t.fmod z.2.2) = V.int z.2.1)))
        rw [e] at this
        simpa using this
    · have c : ¬ z.1 = p := fun e => hh (decide_eq_true (by rw [e]))
      rw [List.filter_cons_of_neg (by simpa using c), List.filter_nil, List.map_nil, List.append_nil]
      exact w2
  · rw [List.length_map, has, List.take_length] at w2
    exact ⟨D, _, rfl, SqL.of (w2.get 0 rfl), q _ (w2.sub (List.nil_sublist _))⟩
abbrev shome_people : Stmt := topS 47
theorem schome_people : FnScope ["parsed", "tick", "person"] ["parsed", "tick"] (defScope shome_people) := ⟨rfl, rfl, rfl, by decide +kernel, rfl, by decide +kernel, by decide +kernel⟩
def spHomes : Sp := fun vs H Q _ => ∃ (a : Addr) (r : Rota) (t : Int), vs = [.ref a, .int t] ∧ RotaAt H a r ∧ ROk r ∧ ∀ H' p, Wd [] H H' [(p, .lst ((homes r t).map V.int))] → Q (.ref p) H'
theorem persons_len (r : Rota) : (persons r).length = r.names.length := by unfold persons; rw [List.length_map, List.length_range]
theorem persons_at {r : Rota} {i : Nat} (h : i < r.names.length) : (persons r)[i]? = some (i : Int) := by
  unfold persons; rw [List.getElem?_map, List.getElem?_range h]; rfl
theorem cal_homes (D : DefAt K mg "home_people" shome_people ["parsed", "tick"]) (T : Bi mg) (C1 : Cal P w K mg base 1 "is_home" ["parsed", "person", "tick"] spHome) : Cal P w K mg base 2 "home_people" ["parsed", "tick"] spHomes := D.cal fun f fd F => by
  have nd := schome_people.nd
  obtain ⟨f1, fd1, m_is_home, kp_is_home, b_is_home, G_is_home⟩ := C1.ex
  refine F.ok schome_people (fun vs H Q E h => ?_) (fun cdv A outer s H vs Q E hr h => ?_)
  · obtain ⟨a, r, t, rfl, _⟩ := h; rfl
  obtain ⟨a, r, t, rfl, hR, ok, q⟩ := h
  obtain ⟨an, at_, aw, aa, am, as, h1, h2, h3, h4, h5, h6, h7⟩ := id hR
  refine ⟨_, (pss_one (ps_ret (pe_lc (own := [("person", 2)]) rfl nd (pi_range1 (by rfl) T.range (pa_cons (pe_callB (r := rLenS K) call_len_seq (by rfl) T.len PySem.boot_len (pa_cons (pe_ix (r := rIxT K) ix_tup (pv 0) pe_int (fun _ _ => rfl)) pa_nil)) pa_nil)) (blkOk_by (N := ["parsed", "tick", "person"]) (sc := defScope shome_people) (by decide +kernel)) (fun _ _ _ _ _ => (pg_name (i := 2) nd rfl (Or.inl rfl))) (fun _ _ _ _ _ => (pts_one (pt_val (pe_call G_is_home (hr.mono (by first | decide | omega)) (by rfl) m_is_home kp_is_home b_is_home .nil pass0 (pa_cons (pv 0) (pa_cons (pv 2) (pa_cons (pv 1) pa_nil))))))) (fun _ _ _ _ _ => (pv 2))))), ?_⟩
  have n6 := ok.n6
  refine ⟨_, rfl, a, _, 0, _, rfl, rfl, SqT.of h1, rfl, an, _, rfl, .inr h2.sq, _, rfl, by rw [List.length_map]; omega, by rw [List.length_map]; omega, fun D hD => ?_⟩
  have en : (((r.names.map V.str).length : Nat) : Int).toNat = r.names.length := by rw [List.length_map]; omega
  rw [en]
  refine lc_range (lo := 0) (n := r.names.length) (fun i H2 => Wd [] H H2 [(D, .lst ((((persons r).take i).filter (isHome r t)).map V.int))]) ((Wd.refl H).new _ hD) ?_ ?_
  · rintro i H2 hi w2
    refine ⟨rfl, _, rfl, _, rfl, _, rfl, a, r, _, t, rfl, hR.le w2.le, ok, fun H3 w3 => ⟨_, rfl, ?_⟩⟩
    have w4 := w2.call0 w3
    rw [take_more (persons_at hi), List.filter_append, Int.zero_add]
    refine ite2 (fun c => ?_) (fun c => ?_)
    · rw [List.filter_cons_of_pos c, List.filter_nil, List.map_append]
      refine ⟨_, rfl, _, w4.get 0 rfl, ?_, w4.app0 _⟩
      rw [List.length_map]
      have h1 := List.length_filter_le (isHome r t) ((persons r).take i)
      rw [List.length_take] at h1
      exact Nat.lt_of_le_of_lt (m := 100) (by omega) (by decide)
    · rw [List.filter_cons_of_neg c, List.filter_nil, List.append_nil]
      exact w4
  · rintro H2 w2
    rw [show (persons r).take r.names.length = persons r by rw [← persons_len r, List.take_length]] at w2
    exact q _ _ w2
abbrev sfirst_state : Stmt := topS 48
theorem scfirst_state : FnScope ["parsed"] ["parsed"] (defScope sfirst_state) := ⟨rfl, rfl, rfl, by decide +kernel, rfl, by decide +kernel, by decide +kernel⟩
def spFirst : Sp := fun vs H Q _ => ∃ (a : Addr) (r : Rota), vs = [.ref a] ∧ RotaAt H a r ∧ ROk r ∧ ∀ H' p o, Wd [] H H' [] → H' p = some (.tup [.int 0, .ref o]) → H' o = some (.tup ((List.replicate r.names.length 0).map V.int)) → Q (.ref p) H'
theorem cal_first (D : DefAt K mg "first_state" sfirst_state ["parsed"]) (T : Bi mg) : Cal P w K mg base 1 "first_state" ["parsed"] spFirst := D.cal fun f fd F => by
  have nd := scfirst_state.nd
  refine F.ok scfirst_state (fun vs H Q E h => ?_) (fun cdv A outer s H vs Q E hr h => ?_)
  · obtain ⟨a, r, rfl, _⟩ := h; rfl
  obtain ⟨a, r, rfl, hR, ok, q⟩ := h
  obtain ⟨an, at_, aw, aa, am, as, h1, h2, h3, h4, h5, h6, h7⟩ := id hR
  refine ⟨_, (pss_one (ps_ret (pe_tup (pa_cons pe_int (pa_cons (pe_op (r := rRepA K) op_repA (pe_tup (pa_cons pe_int pa_nil)) (pe_callB (r := rLenS K) call_len_seq (by rfl) T.len PySem.boot_len (pa_cons (pe_ix (r := rIxT K) ix_tup (pv 0) pe_int (fun _ _ => rfl)) pa_nil))) pa_nil))))), ?_⟩
  have n6 := ok.n6
  have n1 := ok.n1
  refine ⟨(by show 1 ≤ sizeLine; decide), fun p hp => ?_⟩
  have w1 := (Wd.refl H).new (.tup [V.int 0]) hp
  refine ⟨_, rfl, a, _, 0, _, rfl, rfl, SqT.of (w1.old h1 (by simp)), rfl, an, _, rfl, .inr ((h2.le w1.le).sq), p, _, _, rfl, rfl, SqT.of (w1.get 0 rfl), by simp, by rw [List.length_map]; omega, by rw [List.length_map]; omega, by show 1 ≤ 1000; decide, fun e => ?_, fun e o ho => ?_⟩
  · rw [List.length_map] at e
    refine ⟨(by show 2 ≤ sizeLine; decide), fun p2 hp2 => ?_⟩
    have w2 := w1.new (.tup [V.int 0, V.ref p]) hp2
    refine q _ p2 p (w2.sub (List.nil_sublist _)) (w2.get 0 rfl) ?_
    rw [show r.names.length = 1 by omega]
    exact w2.get 1 rfl
  · have w2 := w1.new (.tup (List.replicate (((r.names.map V.str).length : Nat) : Int).toNat [V.int 0]).flatten) ho
    refine ⟨(by show 2 ≤ sizeLine; decide), fun p2 hp2 => ?_⟩
    have w3 := w2.new (.tup [V.int 0, V.ref o]) hp2
    refine q _ p2 o (w3.sub (List.nil_sublist _)) (w3.get 0 rfl) ?_
    have hrep : ∀ k : Nat, (List.replicate k [V.int 0]).flatten = (List.replicate k (0 : Int)).map V.int := fun k => by
      induction k with
      | zero => rfl
      | succ k ih => rw [List.replicate_succ, List.flatten_cons, ih, List.replicate_succ]; rfl
    refine (w3.get 1 rfl).trans ?_
    rw [hrep, List.length_map, Int.toNat_natCast]
/-! ### slices and sums of tuples, the address left open -/
theorem slA_any {H : Hp} {a : Addr} {xs : List V} {lo hi : Option Int} {Q : VK} (h : H a = some (.tup xs)) (q : ∀ H' p, Wd [] H H' [] → H' p = some (.tup (cutV xs lo hi)) → Q (.ref p) H') : rSlA K (.ref a) lo hi H Q := by
  refine ⟨a, xs, rfl, SqT.of h, fun e => q H a (Wd.refl H) ?_, fun _ p hp => q _ p (((Wd.refl H).new _ hp).sub (List.nil_sublist _)) upd_same⟩
  unfold cutV
  rw [e.1, e.2, List.drop_zero, Nat.sub_zero, List.take_length]; exact h
theorem catA_any {H : Hp} {a b : Addr} {xs ys : List V} {Q : VK} (h : H a = some (.tup xs)) (h' : H b = some (.tup ys)) (hz : xs.length + ys.length ≤ 100000) (q : ∀ H' p, Wd [] H H' [] → H' p = some (.tup (xs ++ ys)) → Q (.ref p) H') : rCatA K (.ref a) (.ref b) H Q := by
  refine ⟨a, b, xs, ys, rfl, rfl, SqT.of h, SqT.of h', Nat.le_trans hz (by decide), fun e => q H b (Wd.refl H) ?_, fun _ e => q H a (Wd.refl H) ?_, fun _ _ p hp => q _ p (((Wd.refl H).new _ hp).sub (List.nil_sublist _)) upd_same⟩
  · rw [e]; exact h'
  · rw [e, List.append_nil]; exact h
abbrev schanged : Stmt := topS 50
theorem scchanged : FnScope ["owed", "person", "amount"] ["owed", "person", "amount"] (defScope schanged) := ⟨rfl, rfl, rfl, by decide +kernel, rfl, by decide +kernel, by decide +kernel⟩
def spChanged : Sp := fun vs H Q _ => ∃ (a : Addr) (o : List Int) (p x : Int), vs = [.ref a, .int p, .int x] ∧ H a = some (.tup (o.map V.int)) ∧ 0 ≤ p ∧ p < o.length ∧ o.length ≤ 6 ∧ ∀ H' b, Wd [] H H' [] → H' b = some (.tup ((chg o p x).map V.int)) → Q (.ref b) H'
theorem set_split {α : Type} {l : List α} {i : Nat} {x : α} (h : i < l.length) : l.take i ++ [x] ++ l.drop (i + 1) = l.set i x := by
  rw [List.set_eq_take_append_cons_drop, if_pos h, List.append_assoc]; rfl
theorem cal_changed (D : DefAt K mg "changed" schanged ["owed", "person", "amount"]) (T : Bi mg) (c9 : ∃ t, mg "MAX_OWED" = some (.int 9 t)) : Cal P w K mg base 1 "changed" ["owed", "person", "amount"] spChanged := D.cal fun f fd F => by
  have nd := scchanged.nd
  obtain ⟨t9, c_MAX_OWED⟩ := c9
  refine F.ok scchanged (fun vs H Q E h => ?_) (fun cdv A outer s H vs Q E hr h => ?_)
  · obtain ⟨a, o, p, x, rfl, _⟩ := h; rfl
  obtain ⟨a, o, p, x, rfl, ho, hp0, hp1, h6, q⟩ := h
  refine ⟨_, (pss_one (ps_ret (pe_op (r := rCatA K) op_catA (pe_op (r := rCatA K) op_catA (pe_slice (r := rSlA K) sl_tupA (pv 0) po_none (po_some (pv 1))) (pe_tup (pa_cons (pe_callB (call_min2 rfl) (by rfl) T.min (by decide +kernel) (pa_cons (pe_glob (v := .int 9) (by rfl) c_MAX_OWED ⟨_, rfl⟩) (pa_cons (pe_op op_add (pe_ix (r := rIxT K) ix_tup (pv 0) (pv 1) (fun _ _ => rfl)) (pv 2)) pa_nil))) pa_nil))) (pe_slice (r := rSlA K) sl_tupA (pv 0) (po_some (pe_op op_add (pv 1) pe_int)) po_none)))), ?_⟩
  have eo : atI (o.map V.int) p = some (.int (owes o p)) := by
    have e : p = ((p.toNat : Nat) : Int) := by omega
    rw [e]
    refine atI_nat ?_
    rw [List.getElem?_map, ← e, owes_at hp0 (by omega)]; rfl
  have hlo : (o.map V.int).length = o.length := List.length_map ..
  refine ⟨_, rfl, _, rfl, _, rfl, slA_any ho fun H1 p1 w1 g1 => ?_⟩
  rw [cut_take _ hp0] at g1
  refine ⟨_, rfl, _, rfl, a, _, p, _, rfl, rfl, SqT.of (w1.tups _ _ ho), eo, _, rfl, _, _, rfl, rfl, _, _, rfl, (by show 1 ≤ sizeLine; decide), fun p2 hp2 => ?_⟩
  have w2 := w1.new (.tup [V.int (if owes o p + x < 9 then owes o p + x else 9)]) hp2
  have v2 := (Wd.refl H1).new (.tup [V.int (if owes o p + x < 9 then owes o p + x else 9)]) hp2
  refine catA_any (v2.tups _ _ g1) (w2.get 0 rfl) (by rw [List.length_take]; simp only [List.length_cons, List.length_nil]; omega) fun H3 p3 w3 g3 => ?_
  have w4 := w2.call0 w3
  refine ⟨_, rfl, _, rfl, _, _, rfl, rfl, _, rfl, ?_⟩
  dsimp only [tNoPart]
  refine slA_any (w4.tups _ _ ho) fun H4 p4 w5 g4 => ?_
  rw [cut_drop _ (by omega)] at g4
  have w6 := w4.call0 w5
  refine catA_any (w5.tups _ _ g3) g4 (by rw [List.length_append, List.length_take, List.length_drop]; simp only [List.length_cons, List.length_nil]; omega) fun H5 p5 w7 g5 => ?_
  refine q _ _ ((w6.call0 w7).sub (List.nil_sublist _)) ?_
  rw [g5]
  have e : (p + 1).toNat = p.toNat + 1 := by omega
  rw [e, set_split (by omega)]
  unfold chg
  rw [List.map_set]
end
end Br

namespace Br
open PySem PySem.Spec PyProof.Rows L2
/-! ### the lexer -/
/-- a class's __init__ and its contract; a method's -/
structure MkAt (P : Program) (w : World) (K : PySem.W.Frag) (mg : Str → Option Value) (base : Heap) (k : Nat) (x : Str) (C : Addr) (ps : List Str) (sp : Sp) : Prop where
  ex : ∃ (f : Addr) (fd : FuncData), mg x = some (.ref C) ∧ Mk K C f ∧ Binds K fd ps [] ∧ FnOk P w K mg base CX0 k f fd ps sp
structure MeAt (P : Program) (w : World) (K : PySem.W.Frag) (mg : Str → Option Value) (base : Heap) (k : Nat) (C : Addr) (m : Str) (ps : List Str) (sp : Sp) : Prop where
  ex : ∃ (f : Addr) (fd : FuncData), Meth K C m f ∧ Binds K fd ps [] ∧ FnOk P w K mg base CX0 k f fd ps sp
structure InitAt (K : PySem.W.Frag) (mg : Str → Option Value) (x q : Str) (C : Addr) (st : Stmt) (ps : List Str) : Prop where
  ex : ∃ (f : Addr) (fd : FuncData), mg x = some (.ref C) ∧ Mk K C f ∧ Fun K "__init__" q st f fd ∧ Binds K fd ps []
structure MethAt (K : PySem.W.Frag) (C : Addr) (m q : Str) (st : Stmt) (ps : List Str) : Prop where
  ex : ∃ (f : Addr) (fd : FuncData), Meth K C m f ∧ Fun K m q st f fd ∧ Binds K fd ps []
theorem InitAt.mk' {P : Program} {w : World} {K : PySem.W.Frag} {mg : Str → Option Value} {base : Heap} {k : Nat} {x q : Str} {C : Addr} {st : Stmt} {ps : List Str} {sp : Sp} (D : InitAt K mg x q C st ps)
    (h : ∀ f fd, Fun K "__init__" q st f fd → FnOk P w K mg base CX0 k f fd ps sp) : MkAt P w K mg base k x C ps sp := by
  obtain ⟨f, fd, m, M, F, b⟩ := D.ex
  exact ⟨f, fd, m, M, b, h f fd F⟩
theorem MethAt.me {P : Program} {w : World} {K : PySem.W.Frag} {mg : Str → Option Value} {base : Heap} {k : Nat} {m q : Str} {C : Addr} {st : Stmt} {ps : List Str} {sp : Sp} (D : MethAt K C m q st ps)
    (h : ∀ f fd, Fun K m q st f fd → FnOk P w K mg base CX0 k f fd ps sp) : MeAt P w K mg base k C m ps sp := by
  obtain ⟨f, fd, M, F, b⟩ := D.ex
  exact ⟨f, fd, M, b, h f fd F⟩
/-- a new instance -/
theorem Wd.make {M : List Addr} {H0 H : Hp} {l : List (Addr × HO)} (w : Wd M H0 H l) {x dx : Addr} (C : Addr) (hx : H x = none) (hd : H dx = none) (ne : dx ≠ x) :
    Wd M H0 (upd (upd H dx (.own x)) x (.ins C dx [])) ((x, .ins C dx []) :: (dx, .own x) :: l) :=
  (w.new (.own x) hd).new (.ins C dx []) (by rw [upd_ne ne.symm]; exact hx)
def slotI (σ : L2.St) (i : Nat) : Int := match σ[i]? with
  | some (some (V.int e)) => e
  | _ => 0
structure TokCls (K : PySem.W.Frag) (CT : Addr) : Prop where
  cl : Cls K CT
  nk : NoAttr K CT "kind"
  nt : NoAttr K CT "text"
  nl : NoAttr K CT "line"
  nc : NoAttr K CT "column"
def tkF (k t : Str) (l c : Int) : List (Str × V) := [("kind", .str k), ("text", .str t), ("line", .int l), ("column", .int c)]
theorem putF_ne {f g : Str} {v x : V} {r : List (Str × V)} (h : ¬ g = f) : putF f v ((g, x) :: r) = (g, x) :: putF f v r := if_neg h
theorem tkF_new (k t : Str) (l c : Int) : putF "column" (.int c) (putF "line" (.int l) (putF "text" (.str t) (putF "kind" (.str k) []))) = tkF k t l c := by
  have e1 : putF "text" (.str t) (putF "kind" (.str k) []) = [(("kind" : Str), V.str k), ("text", V.str t)] := putF_ne (by decide +kernel)
  have e2 : putF "line" (.int l) [(("kind" : Str), V.str k), ("text", V.str t)] = [(("kind" : Str), V.str k), ("text", V.str t), ("line", V.int l)] := by
    rw [putF_ne (by decide +kernel), putF_ne (by decide +kernel)]; rfl
  rw [e1, e2, putF_ne (by decide +kernel), putF_ne (by decide +kernel), putF_ne (by decide +kernel)]
  rfl
theorem look_ne {f g : Str} {x : V} {r : List (Str × V)} (h : (f == g) = false) : List.lookup f ((g, x) :: r) = List.lookup f r := by
  simp only [List.lookup, h]
theorem look_eq {f : Str} {x : V} {r : List (Str × V)} : List.lookup f ((f, x) :: r) = some x := by
  simp only [List.lookup, beq_self_eq_true]
theorem tk_kind (k t : Str) (l c : Int) : (tkF k t l c).lookup ("kind" : Str) = some (.str k) := look_eq
theorem tk_text (k t : Str) (l c : Int) : (tkF k t l c).lookup ("text" : Str) = some (.str t) := (look_ne (by decide +kernel)).trans look_eq
theorem tk_line (k t : Str) (l c : Int) : (tkF k t l c).lookup ("line" : Str) = some (.int l) := (look_ne (by decide +kernel)).trans ((look_ne (by decide +kernel)).trans look_eq)
theorem tk_column (k t : Str) (l c : Int) : (tkF k t l c).lookup ("column" : Str) = some (.int c) := (look_ne (by decide +kernel)).trans ((look_ne (by decide +kernel)).trans ((look_ne (by decide +kernel)).trans look_eq))
/-- what stands at the head of a row's rest, as the lexer reads it: the kind, the text -/
def dig (c : Nat) : Bool := decide (c ∈ TL.tl "0123456789")
def ltr (c : Nat) : Bool := decide (c ∈ TL.tl "abcdefghijklmnopqrstuvwxyz")
def kws : List Str := ["people", "turns", "weights", "away", "of", "makeup"]
def tokAt : List Nat → Option (Str × Str)
  | [] => none
  | c :: r => if c = 59 then some ("sign", ";")
    else if dig c = true then (let w := (c :: r).takeWhile dig; if w.length > 2 ∨ (w.length > 1 ∧ c = 48) then none else some ("number", ⟨w.toArray⟩))
    else (let w := (c :: r).takeWhile ltr; if (⟨w.toArray⟩ : Str) ∈ kws then some ("keyword", ⟨w.toArray⟩) else if 1 ≤ w.length ∧ w.length ≤ 8 then some ("name", ⟨w.toArray⟩) else none)
theorem at_iN {α : Type} {xs : List α} {z : Int} {j : Nat} {v : α} (e : z = (j : Int)) (h : xs[j]? = some v) : atI xs z = some v := by
  rw [e]; exact atI_nat h
theorem run_le (p : Nat → Bool) (l : List Nat) : (l.takeWhile p).length ≤ l.length := (List.takeWhile_sublist p).length_le
theorem take_run (p : Nat → Bool) : ∀ l : List Nat, l.take (l.takeWhile p).length = l.takeWhile p
  | [] => rfl
  | c :: r => by
    rw [List.takeWhile_cons]
    split
    · rw [List.length_cons, List.take_succ_cons, take_run p r]
    · rfl
theorem cut_run (z : Str) (i : Nat) (p : Nat → Bool) (h : i ≤ z.length) : cutS z (some (i : Int)) (some ((i : Int) + (((TL.tl z).drop i).takeWhile p).length)) = ⟨(((TL.tl z).drop i).takeWhile p).toArray⟩ := by
  have hl : ((TL.tl z).drop i).length = z.length - i := by rw [List.length_drop, ← TL.len_tl]
  have hw := run_le p ((TL.tl z).drop i)
  unfold cutS
  have e : (i : Int) + (((TL.tl z).drop i).takeWhile p).length = ((i + (((TL.tl z).drop i).takeWhile p).length : Nat) : Int) := by omega
  rw [e, HT.sIx_nat, HT.sIx_nat, Nat.min_eq_left h, Nat.min_eq_left (by omega), Nat.add_sub_cancel_left]
  show (⟨(List.take _ ((TL.tl z).drop i)).toArray⟩ : Str) = _
  rw [take_run]
section
variable {P : Program} {w : World} {K : PySem.W.Frag} {mg : Str → Option Value} {base : Heap} {CT : Addr}
def spTokI (CT : Addr) : Sp := fun vs H Q _ => ∃ (x dx : Addr) (k t : Str) (l c : Int), vs = [.ref x, .str k, .str t, .int l, .int c] ∧ H x = some (.ins CT dx []) ∧
  ∀ H' : Hp, Wd [x] H H' [(x, .ins CT dx (tkF k t l c))] → Q .non H'
abbrev sToken___init__ : Stmt := inClass (topS 30) 0
theorem scToken___init__ : FnScope ["self", "kind", "text", "line", "column"] ["self", "kind", "text", "line", "column"] (defScope sToken___init__) := ⟨rfl, rfl, rfl, by decide +kernel, rfl, by decide +kernel, by decide +kernel⟩
theorem mk_token (D : InitAt K mg "Token" "Token.__init__" CT sToken___init__ ["self", "kind", "text", "line", "column"]) (TC : TokCls K CT) : MkAt P w K mg base 1 "Token" CT ["self", "kind", "text", "line", "column"] (spTokI CT) := D.mk' fun f fd F => by
  have nd := scToken___init__.nd
  refine F.ok scToken___init__ (fun vs H Q E h => ?_) (fun cdv A outer s H vs Q E hr h => ?_)
  · obtain ⟨x, dx, k, t, l, c, rfl, _⟩ := h; rfl
  obtain ⟨x, dx, k, t, l, c, rfl, hx, q⟩ := h
  refine ⟨_, (pss_cons (ps_fld (pv 0) (pv 1) rfl)
 (pss_cons (ps_fld (pv 0) (pv 2) rfl)
 (pss_cons (ps_fld (pv 0) (pv 3) rfl)
 (pss_one (ps_fld (pv 0) (pv 4) rfl))))), ?_⟩
  have w0 := Wd.start1 hx
  refine ⟨_, rfl, _, rfl, x, CT, dx, [], rfl, hx, TC.cl, TC.nk, (by show 0 < 1000; decide), ?_⟩
  refine ⟨_, rfl, _, rfl, x, CT, dx, _, rfl, upd_same, TC.cl, TC.nt, (by show 1 < 1000; decide), ?_⟩
  have e1 : putF "text" (.str t) (putF "kind" (.str k) []) = [(("kind" : Str), V.str k), ("text", V.str t)] := putF_ne (by decide +kernel)
  refine ⟨_, rfl, _, rfl, x, CT, dx, _, rfl, upd_same, TC.cl, TC.nl, (by rw [e1]; show 2 < 1000; decide), ?_⟩
  have e2 : putF "line" (.int l) (putF "text" (.str t) (putF "kind" (.str k) [])) = [(("kind" : Str), V.str k), ("text", V.str t), ("line", V.int l)] := by
    rw [e1, putF_ne (by decide +kernel), putF_ne (by decide +kernel)]; rfl
  refine ⟨_, rfl, _, rfl, x, CT, dx, _, rfl, upd_same, TC.cl, TC.nc, (by rw [e2]; show 3 < 1000; decide), ?_⟩
  rw [tkF_new, upd_upd, upd_upd, upd_upd]
  exact q _ (w0.put 0 (.ins CT dx (tkF k t l c)) rfl (fun xs q => by cases q))
/-! run_end -/
def spRunEnd : Sp := fun vs H Q _ => ∃ (z ls : Str) (i : Nat), vs = [.str z, .int i, .str ls] ∧ i ≤ z.length ∧ z.length ≤ sizeLine ∧ Q (.int ((i : Int) + (((TL.tl z).drop i).takeWhile fun c => decide (c ∈ TL.tl ls)).length)) H
abbrev srun_end : Stmt := topS 31
theorem scrun_end : FnScope ["row", "start", "letters", "end"] ["row", "start", "letters"] (defScope srun_end) := ⟨rfl, rfl, rfl, by decide +kernel, rfl, by decide +kernel, by decide +kernel⟩
theorem cal_run_end (D : DefAt K mg "run_end" srun_end ["row", "start", "letters"]) (T : Bi mg) : Cal P w K mg base 1 "run_end" ["row", "start", "letters"] spRunEnd := D.cal fun f fd F => by
  have nd := scrun_end.nd
  refine F.ok scrun_end (fun vs H Q E h => ?_) (fun cdv A outer s H vs Q E hr h => ?_)
  · obtain ⟨z, ls, i, rfl, _⟩ := h; rfl
  obtain ⟨z, ls, i, rfl, hi, hz, q⟩ := h
  refine ⟨_, (pss_cons (ps_set (i := 3) nd rfl (Or.inl rfl) (pv 1))
 (pss_cons (ps_while PassesOwn.never (PW.pt (pw_and (pt_cmpR op_lt (pv 3) (pe_callB call_len_str (by rfl) T.len PySem.boot_len (pa_cons (pv 0) pa_nil)) (nomark _)) (pw_and1 (pt_cmpR op_in_sign (pe_ix ix_str (pv 0) (pv 3) (fun _ _ => rfl)) (pv 2) (by rfl)))))
 (pss_one (ps_aug (i := 3) nd rfl (Or.inl rfl) pe_int ip_add)))
 (pss_one (ps_ret (pv 3))))), ?_⟩
  have hl : ((TL.tl z).drop i).length = z.length - i := by rw [List.length_drop, ← TL.len_tl]
  generalize hp : (fun c => decide (c ∈ TL.tl ls)) = p at q
  have hw := run_le p ((TL.tl z).drop i)
  have hget : ∀ j : Nat, ((TL.tl z).drop i)[j]? = (TL.tl z)[i + j]? := fun j => List.getElem?_drop
  have hrun : ∀ (l : List Nat) (j : Nat), j ≤ (l.takeWhile p).length → ∀ c, l[j]? = some c → (p c = true ↔ j < (l.takeWhile p).length) := by
    intro l
    induction l with
    | nil => intro j _ c h; simp at h
    | cons a l ih =>
      intro j hj c hc
      rw [List.takeWhile_cons] at hj ⊢
      by_cases ha : p a = true
      · rw [if_pos ha, List.length_cons] at hj ⊢
        cases j with
        | zero => simp at hc; subst hc; simp [ha]
        | succ j =>
          have := ih j (by omega) c (by simpa using hc)
          exact this.trans ⟨fun h => by omega, fun h => by omega⟩
      · rw [if_neg ha] at hj ⊢
        have : j = 0 := by simpa using hj
        subst this
        simp at hc; subst hc
        simp [ha]
  generalize hn : (((TL.tl z).drop i).takeWhile p).length = n at q hw
  refine ⟨_, rfl, while_by (fun σ H' => H' = H ∧ ∃ j : Nat, j ≤ n ∧ σ = [some (.str z), some (.int i), some (.str ls), some (.int ((i : Int) + j))]) (fun σ _ => z.length - (slotI σ 3).toNat)
    ⟨rfl, 0, Nat.zero_le _, by simp; rfl⟩ ?_ ?_⟩
  · rintro σ H1 ⟨rfl, j, hj, rfl⟩
    refine ⟨_, rfl, _, rfl, z, rfl, hz, _, _, rfl, rfl, _, rfl, ?_⟩
    refine ite2 (fun hc => ?_) (fun hc => ?_)
    · have hlt : i + j < z.length := by have := of_decide_eq_true hc; omega
      have hlt' : i + j < (TL.tl z).length := by rw [← TL.len_tl]; exact hlt
      refine ⟨_, rfl, _, rfl, z, _, (TL.tl z)[i + j], rfl, rfl, hz, at_iN (j := i + j) (by omega) (List.getElem?_eq_getElem hlt'), _, rfl, _, ls, rfl, rfl, _, rfl, ?_⟩
      have hr := hrun ((TL.tl z).drop i) j (by rw [hn]; exact hj) (TL.tl z)[i + j] (by rw [hget]; exact List.getElem?_eq_getElem hlt')
      rw [hn] at hr
      refine ite2 (fun hc2 => ?_) (fun hc2 => ?_)
      · have hjn : j < n := hr.mp (by rw [← hp]; exact hc2)
        refine ⟨_, rfl, _, _, rfl, rfl, ⟨rfl, j + 1, hjn, ?_⟩, ?_⟩
        · show [_, _, _, some (V.int ((i : Int) + j + 1))] = _
          rw [show (i : Int) + j + 1 = (i : Int) + (j + 1 : Nat) by omega]
        · show z.length - ((i : Int) + j + 1).toNat < z.length - ((i : Int) + j).toNat
          omega
      · have hjn : j = n := by
          have : ¬ j < n := fun h => hc2 (by rw [← hp] at hr; exact hr.mpr h)
          omega
        subst hjn
        exact ⟨_, rfl, q⟩
    · have hjn : j = n := by
        have : ¬ (i : Int) + j < z.length := fun h => hc (decide_eq_true h)
        omega
      subst hjn
      exact ⟨_, rfl, q⟩
  · intro σ H Q Q' h hc
    obtain ⟨v3, e3, v0, e0, z, ez, hz, i, j, ei, ej, c, ec, hc⟩ := hc
    refine ⟨v3, e3, v0, e0, z, ez, hz, i, j, ei, ej, c, ec, ?_⟩
    cases c with
    | false => exact h _ _ hc
    | true =>
      obtain ⟨a1, a2, a3, a4, a5, a6, a7, a8, a9, b1, b2, b3, b4, b5, b6, b7, b8, b9, c1, c2⟩ := hc
      exact ⟨a1, a2, a3, a4, a5, a6, a7, a8, a9, b1, b2, b3, b4, b5, b6, b7, b8, b9, c1, h _ _ c2⟩
end
end Br

namespace Br
open PySem PySem.Spec PyProof.Rows L2
/-- the lexer's constants -/
structure LexC (K : PySem.W.Frag) (mg : Str → Option Value) : Prop where
  END_SIGN : ∃ t, mg "END_SIGN" = some (.str ";" t)
  SIGN : ∃ t, mg "SIGN" = some (.str "sign" t)
  DIGITS : ∃ t, mg "DIGITS" = some (.str "0123456789" t)
  MAX_DIGITS : ∃ t, mg "MAX_DIGITS_lexer" = some (.int 2 t)
  NUMBER : ∃ t, mg "NUMBER" = some (.str "number" t)
  LETTERS : ∃ t, mg "LETTERS" = some (.str "abcdefghijklmnopqrstuvwxyz" t)
  KEYWORDS : ∃ kw, mg "KEYWORDS" = some (.ref kw) ∧ ∀ H : Hp, SqT K H kw (kws.map V.str)
  KEYWORD : ∃ t, mg "KEYWORD" = some (.str "keyword" t)
  MAX_LETTERS : ∃ t, mg "MAX_LETTERS" = some (.int 8 t)
  NAME : ∃ t, mg "NAME" = some (.str "name" t)
  END : ∃ t, mg "END" = some (.str "end" t)
  SPACES : ∃ t, mg "SPACES" = some (.str " \n" t)
theorem inV_strs (x : Str) : ∀ l : List Str, inV (.str x) (l.map V.str) = decide (x ∈ l)
  | [] => by simp [inV]
  | y :: l => by
    have ih := inV_strs x l
    unfold inV at ih ⊢
    rw [List.map_cons, List.any_cons, ih, Bool.eq_iff_iff, Bool.or_eq_true, decide_eq_true_eq, decide_eq_true_eq, List.mem_cons]
    exact or_congr ⟨fun h => (eq_of_beq (show (y == x) = true from h)).symm, fun h => (show (y == x) = true from beq_iff_eq.mpr h.symm)⟩ Iff.rfl
theorem flat_strs' (l : List Str) : (l.map V.str).all flatV = true := by
  rw [List.all_eq_true]
  intro v hv
  obtain ⟨s, _, rfl⟩ := List.mem_map.mp hv
  rfl
section
variable {P : Program} {w : World} {K : PySem.W.Frag} {mg : Str → Option Value} {base : Heap} {CT : Addr}
def spReadTok (CT : Addr) : Sp := fun vs H Q _ => ∃ (z k t : Str) (line : Int) (col : Nat), vs = [.str z, .int line, .int col] ∧ z.length ≤ sizeLine ∧ tokAt ((TL.tl z).drop col) = some (k, t) ∧
  ∀ (x dx : Addr) (H' : Hp), Wd [] H H' [(x, .ins CT dx (tkF k t line col)), (dx, .own x)] → Q (.ref x) H'
theorem tok_fin {H H' : Hp} {x dx : Addr} {fs : List (Str × V)} (hx : H x = none) (hd : H dx = none) (ne : dx ≠ x) (c : Wd [x] (upd (upd H dx (.own x)) x (.ins CT dx [])) H' [(x, .ins CT dx fs)]) : Wd [] H H' [(x, .ins CT dx fs), (dx, .own x)] :=
  ((Wd.refl H).make CT hx hd ne).call1 (fun xs q => by cases q) c
abbrev sread_token : Stmt := topS 32
theorem scread_token : FnScope ["row", "line", "column", "first", "word"] ["row", "line", "column"] (defScope sread_token) := ⟨rfl, rfl, rfl, by decide +kernel, rfl, by decide +kernel, by decide +kernel⟩
end
end Br

namespace Br
open PySem PySem.Spec PyProof.Rows L2
/-! ### the whole lexer -/
/-- the tokens of a row -/
inductive LexR : List Nat → List (Str × Str) → Prop
  | nil : LexR [] []
  | space {c r ts} : c = 32 ∨ c = 10 → LexR r ts → LexR (c :: r) ts
  | tok {c r k t ts} : ¬ (c = 32 ∨ c = 10) → tokAt (c :: r) = some (k, t) → LexR ((c :: r).drop t.length) ts → LexR (c :: r) ((k, t) :: ts)
theorem tokAt_pos {l : List Nat} {k t : Str} (h : tokAt l = some (k, t)) : 1 ≤ t.length := by
  cases l with
  | nil => cases h
  | cons c r =>
    simp only [tokAt] at h
    split at h
    · cases h; decide
    · split at h
      · rename_i hd
        split at h
        · cases h
        · cases h
          show 1 ≤ ((c :: r).takeWhile dig).toArray.size
          rw [List.takeWhile_cons, if_pos hd]; simp
      · split at h
        · rename_i hk
          cases h
          have : ∀ s ∈ kws, 1 ≤ s.length := by decide
          exact this _ hk
        · split at h
          · rename_i hk
            cases h
            exact hk.1
          · cases h
theorem tokAt_len {l : List Nat} {k t : Str} {n : Nat} (h : tokAt l = some (k, t)) (hn : l.length ≤ n) : t.length ≤ n := by
  cases l with
  | nil => cases h
  | cons c r =>
    have hp : ∀ p : Nat → Bool, ((c :: r).takeWhile p).length ≤ n := fun p => Nat.le_trans (run_le p _) hn
    simp only [tokAt] at h
    split at h
    · cases h
      exact Nat.le_trans (show 1 ≤ (c :: r).length by simp) hn
    · split at h
      · split at h
        · cases h
        · cases h; exact hp dig
      · split at h
        · cases h; exact hp ltr
        · split at h
          · cases h; exact hp ltr
          · cases h
def Tks (CT : Addr) (H : Hp) (L : List (Addr × (Str × Str))) : Prop := ∀ q ∈ L, ∃ dx l c, H q.1 = some (.ins CT dx (tkF q.2.1 q.2.2 l c))
def trefs (L : List (Addr × (Str × Str))) : List V := L.map fun q => V.ref q.1
section
variable {P : Program} {w : World} {K : PySem.W.Frag} {mg : Str → Option Value} {base : Heap} {CT : Addr}
def spTokenize (CT : Addr) : Sp := fun vs H Q _ => ∃ (z : Str) (tss : List (List (Str × Str))), vs = [.str z] ∧ z.length + 2 ≤ sizeLine ∧ (Txt.split z "\n").length = tss.length ∧
  (∀ (i : Nat) row ts, (Txt.split z "\n")[i]? = some row → tss[i]? = some ts → row.length ≤ sizeLine ∧ LexR (TL.tl row) ts) ∧ tss.flatten.length < 1000 ∧ (Txt.split z "\n").length ≤ sizeLine ∧
  ∀ (p : Addr) (L : List (Addr × (Str × Str))) (H' : Hp), Wd [] H H' [(p, .lst (trefs L))] → Tks CT H' L → L.map (·.2) = tss.flatten ++ [(("end" : Str), ("" : Str))] → Q (.ref p) H'
abbrev stokenize : Stmt := topS 33
theorem sctokenize : FnScope ["source", "tokens", "rows", "line", "row", "column", "token"] ["source"] (defScope stokenize) := ⟨rfl, rfl, rfl, by decide +kernel, rfl, by decide +kernel, by decide +kernel⟩
end
end Br

namespace Br
open PySem PySem.Spec PyProof.Rows L2
/-! ### the parser: frames -/
theorem Wd.fput {M : List Addr} {H0 H : Hp} {p : Addr} {u : HO} (c : Wd M H0 H []) (o : HO) (hp : H0 p = none ∨ p ∈ M) (hH : H p = some u) (hn : ∀ xs, u ≠ .tup xs) : Wd M H0 (upd H p o) [] :=
  ⟨fun b v hb e => by
    have : b ≠ p := fun z => by
      subst z
      rcases hp with q | q
      · rw [q] at e; cases e
      · exact hb q
    rw [upd_ne this]; exact c.base b v hb e,
   fun b v e => by
    have : b ≠ p := fun z => by
      subst z
      have := c.tups b v e
      rw [hH] at this
      exact hn v (Option.some.inj this)
    rw [upd_ne this]; exact c.tups b v e,
   fun _ h => (nomatch h), fun _ h => (nomatch h), List.nodup_nil, fun b e => c.free b (by
    by_cases hb : b = p
    · subst hb; rw [upd_same] at e; cases e
    · rw [upd_ne hb] at e; exact e)⟩
theorem Wd.fnew {M : List Addr} {H0 H : Hp} (c : Wd M H0 H []) {p : Addr} (o : HO) (hp : H p = none) : Wd M H0 (upd H p o) [] := (c.new o hp).sub (List.nil_sublist _)
theorem Wd.fgo {M : List Addr} {H0 H H' : Hp} (c : Wd M H0 H []) (d : Wd M H H' []) : Wd M H0 H' [] :=
  ⟨fun b o hb e => d.base b o hb (c.base b o hb e), fun b xs e => d.tups b xs (c.tups b xs e), fun _ h => (nomatch h), fun _ h => (nomatch h), List.nodup_nil, fun p e => c.free p (d.free p e)⟩
theorem Wd.frefl (M : List Addr) (H : Hp) : Wd M H H [] := (Wd.refl H).mono fun _ h => nomatch h
structure Pz where
  x : Addr
  dx : Addr
  tk : Addr
  fl : Addr
  nl : Addr
  al : Addr
structure Pv where
  n : Nat
  names : List Str
  aws : List (Addr × (Int × Int × Int))
  W : Option (Addr × List Int)
  M : Option (Addr × List Int)
def oV : Option (Addr × List Int) → V
  | none => .non
  | some p => .ref p.1
def pF (z : Pz) (s : Pv) : List (Str × V) := [("tokens", .ref z.tk), ("at", .int s.n), ("faults", .ref z.fl), ("names", .ref z.nl), ("weights", oV s.W), ("makers", oV s.M), ("aways", .ref z.al)]
def Pz.mut (z : Pz) : List Addr := [z.x, z.nl, z.al]
def arefs (l : List (Addr × (Int × Int × Int))) : List V := l.map fun q => V.ref q.1
section
variable {z : Pz} {s : Pv}
end
structure PAt (CP CT : Addr) (z : Pz) (L : List (Addr × (Str × Str))) (s : Pv) (H : Hp) : Prop where
  ob : H z.x = some (.ins CP z.dx (pF z s))
  tk : H z.tk = some (.lst (trefs L))
  ts : Tks CT H L
  fl : H z.fl = some (.lst [])
  nl : H z.nl = some (.lst (s.names.map V.str))
  al : H z.al = some (.lst (arefs s.aws))
  aw : ∀ q ∈ s.aws, H q.1 = some (.tup (tri q.2))
  w : ∀ p, s.W = some p → H p.1 = some (.tup (p.2.map V.int))
  m : ∀ p, s.M = some p → H p.1 = some (.tup (p.2.map V.int))
  ne : [z.x, z.tk, z.fl, z.nl, z.al].Nodup
  cn : CT ≠ CP
section
variable {CP CT : Addr} {z : Pz} {L : List (Addr × (Str × Str))} {s : Pv} {H : Hp}
/-- what follows at the n-th token -/
def TkAt (L : List (Addr × (Str × Str))) (n : Nat) (ts : List (Str × Str)) : Prop := (L.map Prod.snd).drop n = ts
end
structure ParCls (K : PySem.W.Frag) (CP : Addr) : Prop where
  cl : Cls K CP
  n1 : NoAttr K CP "tokens"
  n2 : NoAttr K CP "at"
  n3 : NoAttr K CP "faults"
  n4 : NoAttr K CP "names"
  n5 : NoAttr K CP "weights"
  n6 : NoAttr K CP "makers"
  n7 : NoAttr K CP "aways"
section
variable {P : Program} {w : World} {K : PySem.W.Frag} {mg : Str → Option Value} {base : Heap} {CT CP : Addr}
abbrev sParser___init__ : Stmt := inClass (topS 40) 0
theorem scParser___init__ : FnScope ["self", "tokens"] ["self", "tokens"] (defScope sParser___init__) := ⟨rfl, rfl, rfl, by decide +kernel, rfl, by decide +kernel, by decide +kernel⟩
def spParI (CP CT : Addr) : Sp := fun vs H Q _ => ∃ (x dx tk : Addr) (L : List (Addr × (Str × Str))), vs = [.ref x, .ref tk] ∧ H x = some (.ins CP dx []) ∧ H tk = some (.lst (trefs L)) ∧ Tks CT H L ∧ CT ≠ CP ∧
  ∀ (z : Pz) (H' : Hp), z.x = x → Wd [x] H H' [] → PAt CP CT z L ⟨0, [], [], none, none⟩ H' → H z.nl = none → H z.al = none → Q .non H'
abbrev sParser_peek : Stmt := inClass (topS 40) 1
theorem scParser_peek : FnScope ["self"] ["self"] (defScope sParser_peek) := ⟨rfl, rfl, rfl, by decide +kernel, rfl, by decide +kernel, by decide +kernel⟩
def spPeek (CP CT : Addr) : Sp := fun vs H Q _ => ∃ (z : Pz) (L : List (Addr × (Str × Str))) (s : Pv) (a : Addr) (t : Str × Str), vs = [.ref z.x] ∧ PAt CP CT z L s H ∧ L[s.n]? = some (a, t) ∧ Q (.ref a) H
/-- a token taken -/
def spTake (CP CT : Addr) : Sp := fun vs H Q _ => ∃ (z : Pz) (L : List (Addr × (Str × Str))) (s : Pv) (a : Addr) (k t : Str), vs = [.ref z.x, .str k] ∧ PAt CP CT z L s H ∧ L[s.n]? = some (a, (k, t)) ∧
  ∀ H', Wd z.mut H H' [] → PAt CP CT z L { s with n := s.n + 1 } H' → Q (.ref a) H'
abbrev sParser_take : Stmt := inClass (topS 40) 4
theorem scParser_take : FnScope ["self", "kind", "token"] ["self", "kind"] (defScope sParser_take) := ⟨rfl, rfl, rfl, by decide +kernel, rfl, by decide +kernel, by decide +kernel⟩
abbrev sParser_take_word : Stmt := inClass (topS 40) 5
theorem scParser_take_word : FnScope ["self", "word"] ["self", "word"] (defScope sParser_take_word) := ⟨rfl, rfl, rfl, by decide +kernel, rfl, by decide +kernel, by decide +kernel⟩
/-- a word taken -/
def spTakeW (CP CT : Addr) : Sp := fun vs H Q _ => ∃ (z : Pz) (L : List (Addr × (Str × Str))) (s : Pv) (a : Addr) (k t : Str), vs = [.ref z.x, .str t] ∧ PAt CP CT z L s H ∧ L[s.n]? = some (a, (k, t)) ∧
  ∀ H', Wd z.mut H H' [] → PAt CP CT z L { s with n := s.n + 1 } H' → Q .non H'
abbrev sParser_take_all : Stmt := inClass (topS 40) 6
theorem scParser_take_all : FnScope ["self", "kind", "tokens"] ["self", "kind"] (defScope sParser_take_all) := ⟨rfl, rfl, rfl, by decide +kernel, rfl, by decide +kernel, by decide +kernel⟩
/-- all of a kind, and the sign -/
def spTakeA (CP CT : Addr) : Sp := fun vs H Q _ => ∃ (z : Pz) (L : List (Addr × (Str × Str))) (s : Pv) (k : Str) (ks : List Str) (rest : List (Str × Str)), vs = [.ref z.x, .str k] ∧ PAt CP CT z L s H ∧ k ≠ "sign" ∧ ks ≠ [] ∧ ks.length ≤ 1000 ∧
  TkAt L s.n (ks.map (fun t => (k, t)) ++ (("sign" : Str), (";" : Str)) :: rest) ∧
  ∀ H' p sub, Wd z.mut H H' [] → PAt CP CT z L { s with n := s.n + ks.length + 1 } H' → H p = none → H' p = some (.lst (trefs sub)) → sub.map Prod.snd = ks.map (fun t => (k, t)) → (∀ q ∈ sub, q ∈ L) → Q (.ref p) H'
end
end Br

namespace Br
open PySem PySem.Spec PyProof.Rows L2
theorem eqV_str (a b : Str) : eqV (.str a) (.str b) = decide (a = b) := by
  rw [Bool.eq_iff_iff, decide_eq_true_eq]
  exact ⟨fun h => eq_of_beq (show (a == b) = true from h), fun h => (show (a == b) = true from beq_iff_eq.mpr h)⟩
section
variable {P : Program} {w : World} {K : PySem.W.Frag} {mg : Str → Option Value} {base : Heap} {CT CP : Addr}
def spPerson (CP CT : Addr) : Sp := fun vs H Q _ => ∃ (z : Pz) (L : List (Addr × (Str × Str))) (s : Pv) (a : Addr) (k t : Str) (j : Nat), vs = [.ref z.x, .ref a] ∧ PAt CP CT z L s H ∧ (a, (k, t)) ∈ L ∧ s.names.Nodup ∧ s.names[j]? = some t ∧ Q (.int j) H
abbrev sParser_person : Stmt := inClass (topS 40) 7
theorem scParser_person : FnScope ["self", "token"] ["self", "token"] (defScope sParser_person) := ⟨rfl, rfl, rfl, by decide +kernel, rfl, by decide +kernel, by decide +kernel⟩
/-- the people -/
def spPeople (CP CT : Addr) : Sp := fun vs H Q _ => ∃ (z : Pz) (L : List (Addr × (Str × Str))) (s : Pv) (ns : List Str) (rest : List (Str × Str)), vs = [.ref z.x] ∧ PAt CP CT z L s H ∧ s.names = [] ∧ ns ≠ [] ∧ ns.length ≤ 6 ∧ ns.Nodup ∧
  TkAt L s.n ((("keyword" : Str), ("people" : Str)) :: (ns.map (fun t => (("name" : Str), t)) ++ (("sign" : Str), (";" : Str)) :: rest)) ∧
  ∀ H', Wd z.mut H H' [] → PAt CP CT z L { s with n := s.n + 1 + ns.length + 1, names := ns } H' → Q .non H'
abbrev sParser_parse_people : Stmt := inClass (topS 40) 8
theorem scParser_parse_people : FnScope ["self", "token"] ["self"] (defScope sParser_parse_people) := ⟨rfl, rfl, rfl, by decide +kernel, rfl, by decide +kernel, by decide +kernel⟩
end
end Br

namespace Br
open PySem PySem.Spec PyProof.Rows L2
theorem eqV_int (a b : Int) : eqV (.int a) (.int b) = decide (a = b) := by
  rw [Bool.eq_iff_iff, decide_eq_true_eq]
  exact ⟨fun h => eq_of_beq (show (a == b) = true from h), fun h => (show (a == b) = true from beq_iff_eq.mpr h)⟩
theorem inV_ints (x : Int) : ∀ l : List Int, inV (.int x) (l.map V.int) = decide (x ∈ l)
  | [] => by simp [inV]
  | y :: l => by
    have ih := inV_ints x l
    unfold inV at ih ⊢
    rw [List.map_cons, List.any_cons, ih, eqV_int, Bool.eq_iff_iff, Bool.or_eq_true, decide_eq_true_eq, decide_eq_true_eq, decide_eq_true_eq, List.mem_cons]
    exact or_congr ⟨fun h => h.symm, fun h => h.symm⟩ Iff.rfl
theorem flat_ints (l : List Int) : (l.map V.int).all flatV = true := by
  rw [List.all_eq_true]
  intro v hv
  obtain ⟨s, _, rfl⟩ := List.mem_map.mp hv
  rfl
/-- the name of the k-th -/
def nmL (ns : List Str) (k : Int) : Str := ns.getD k.toNat Str.empty
section
variable {P : Program} {w : World} {K : PySem.W.Frag} {mg : Str → Option Value} {base : Heap} {CT CP : Addr}
/-- the turns -/
def spTurns (CP CT : Addr) : Sp := fun vs H Q _ => ∃ (z : Pz) (L : List (Addr × (Str × Str))) (s : Pv) (ts : List Int) (rest : List (Str × Str)), vs = [.ref z.x] ∧ PAt CP CT z L s H ∧ s.names.Nodup ∧ s.names.length ≤ 6 ∧ ts ≠ [] ∧ ts.length ≤ 12 ∧
  (∀ t ∈ ts, 0 ≤ t ∧ t < s.names.length) ∧ (∀ k : Nat, k < s.names.length → (k : Int) ∈ ts) ∧
  TkAt L s.n ((("keyword" : Str), ("turns" : Str)) :: ((ts.map (nmL s.names)).map (fun t => (("name" : Str), t)) ++ (("sign" : Str), (";" : Str)) :: rest)) ∧
  ∀ H' r, Wd z.mut H H' [] → PAt CP CT z L { s with n := s.n + 1 + ts.length + 1 } H' → H' r = some (.tup (ts.map V.int)) → Q (.ref r) H'
abbrev sParser_parse_turns : Stmt := inClass (topS 40) 9
theorem scParser_parse_turns : FnScope ["self", "start", "turns", "index", "token", "person"] ["self"] (defScope sParser_parse_turns) := ⟨rfl, rfl, rfl, by decide +kernel, rfl, by decide +kernel, by decide +kernel⟩
/-! ### the weights -/
def ntok (i : Int) : Str × Str := (("number" : Str), num i)
theorem int_num' {i : Int} (h0 : 0 ≤ i) (h1 : i ≤ 99) : intText? (num i) = some i ∧ (num i).length ≤ 640 := by
  obtain ⟨n, rfl⟩ := Int.eq_ofNat_of_zero_le h0
  have hl := TL.tl_num n
  have h2 : (TL.numL n).length ≤ 2 := by
    have : ∀ m : Nat, m < 100 → (TL.numL m).length ≤ 2 := by decide +kernel
    exact this n (by omega)
  refine ⟨TL.int_num (by omega), ?_⟩
  have : (num (n : Int)).length = (TL.numL n).length := by rw [TL.len_tl]; exact congrArg List.length hl
  omega
def spWeights (CP CT : Addr) : Sp := fun vs H Q _ => ∃ (z : Pz) (L : List (Addr × (Str × Str))) (s : Pv) (ws : List Int) (rest : List (Str × Str)), vs = [.ref z.x] ∧ PAt CP CT z L s H ∧ s.W = none ∧ ws.length = s.names.length ∧ s.names.length ≤ 6 ∧ ws ≠ [] ∧
  (∀ t ∈ ws, 1 ≤ t ∧ t ≤ 9) ∧
  TkAt L s.n ((("keyword" : Str), ("weights" : Str)) :: ((ws.map num).map (fun t => (("number" : Str), t)) ++ (("sign" : Str), (";" : Str)) :: rest)) ∧
  ∀ H' b, Wd z.mut H H' [] → PAt CP CT z L { s with n := s.n + 1 + ws.length + 1, W := some (b, ws) } H' → Q .non H'
abbrev sParser_parse_weights : Stmt := inClass (topS 40) 10
theorem scParser_parse_weights : FnScope ["self", "start", "tokens", "index", "token"] ["self"] (defScope sParser_parse_weights) := ⟨rfl, rfl, rfl, by decide +kernel, rfl, by decide +kernel, by decide +kernel⟩
end
end Br

namespace Br
open PySem PySem.Spec PyProof.Rows L2
/-- a state of the rota: the next turn and what everybody owes -/
def StT (H : Hp) (a : Addr) (s : Nat) (o : List Int) : Prop := ∃ b : Addr, H a = some (.tup [.int (s : Int), .ref b]) ∧ H b = some (.tup (o.map V.int))
def dV : Option Int → V
  | none => .non
  | some p => .int p
theorem StT.keep {H H' : Hp} (k : ∀ b xs, H b = some (.tup xs) → H' b = some (.tup xs)) {a : Addr} {s : Nat} {o : List Int} (h : StT H a s o) : StT H' a s o := by
  obtain ⟨b, h1, h2⟩ := h; exact ⟨b, k _ _ h1, k _ _ h2⟩
theorem owes_V {o : List Int} {p : Int} (h0 : 0 ≤ p) (h1 : p < o.length) : atI (o.map V.int) p = some (.int (owes o p)) := by
  have e : p = ((p.toNat : Nat) : Int) := by omega
  rw [e]
  refine atI_nat ?_
  rw [List.getElem?_map, ← e, owes_at h0 (by omega)]; rfl
theorem turn_V {r : Rota} {s : Nat} (h : s < r.turns.length) : atI (r.turns.map V.int) (s : Int) = some (.int (turnAt r s)) :=
  atI_nat (by rw [List.getElem?_map, turnAt_at h]; rfl)
theorem max_unique {m : Int} {l : List Int} (hm : m ∈ l) (h : ∀ y ∈ l, y ≤ m) : m = maxL l := by
  obtain ⟨h1, h2⟩ := maxL_mem (l := l) (by rintro rfl; cases hm)
  have := h _ h1
  have := h2 _ hm
  omega
section
variable {r : Rota} {s : Nat} {o : List Int} {t p : Int}
theorem tick_debt (h : homes r t ≠ []) (c : 0 < maxL ((homes r t).map (owes o))) (hd : debtor (homes r t) o = some p) : tickF r s o t = (s, chg o p (-1), some p) := by
  unfold tickF; simp only; rw [if_neg h, if_pos c, hd]
theorem tick_turn (h : homes r t ≠ []) (c : ¬ 0 < maxL ((homes r t).map (owes o))) : tickF r s o t = (nextS r (spin r (homes r t) r.turns.length s o).1, (spin r (homes r t) r.turns.length s o).2, some (turnAt r (spin r (homes r t) r.turns.length s o).1)) := by
  unfold tickF; simp only; rw [if_neg h, if_neg c]
def topOf (hs o : List Int) : Int → Bool := fun p => decide (owes o p = maxL (hs.map (owes o)))
theorem fmod_nat (a b : Nat) : (a : Int).fmod (b : Int) = ((a % b : Nat) : Int) := by
  rw [Int.fmod_eq_emod_of_nonneg _ (by omega)]; rfl
end
section
variable {P : Program} {w : World} {K : PySem.W.Frag} {mg : Str → Option Value} {base : Heap}
theorem dp_ints {H : Hp} : ∀ l : List Int, DpAll K H (l.map V.int) (l.map PyData.int)
  | [] => .nil
  | x :: l => .cons (.int x) (dp_ints l)
theorem lay_ints : ∀ l : List Int, PyData.canLayAll0 (l.map PyData.int) = true ∧ PyData.depthAll (l.map PyData.int) = 0
  | [] => ⟨rfl, rfl⟩
  | x :: l => by
    obtain ⟨h1, h2⟩ := lay_ints l
    exact ⟨by rw [List.map_cons, PyData.canLayAll0, h1, Bool.and_true]; rfl, by rw [List.map_cons, PyData.depthAll, h2]; rfl⟩
theorem shaped_ints (l : List Int) : SeqAt.shaped (.list (l.map PyData.int)) = true := by
  unfold SeqAt.shaped
  obtain ⟨h1, h2⟩ := lay_ints l
  rw [PyData.canLay0, h1, PyData.depth, h2]; decide
abbrev safter_tick : Stmt := topS 49
theorem scafter_tick : FnScope ["parsed", "state", "tick", "spot", "owed", "at_home", "most", "person", "turns"] ["parsed", "state", "tick"] (defScope safter_tick) := ⟨rfl, rfl, rfl, by decide +kernel, rfl, by decide +kernel, by decide +kernel⟩
def spAfter : Sp := fun vs H Q _ => ∃ (a st : Addr) (r : Rota) (s : Nat) (o : List Int) (t : Int), vs = [.ref a, .ref st, .int t] ∧ RotaAt H a r ∧ ROk r ∧ StT H st s o ∧ s < r.turns.length ∧ OwOk r o ∧
  ∀ H' p st', Wd [] H H' [] → H' p = some (.tup [.ref st', dV (tickF r s o t).2.2]) → StT H' st' (tickF r s o t).1 (tickF r s o t).2.1 → Q (.ref p) H'
theorem cal_after (D : DefAt K mg "after_tick" safter_tick ["parsed", "state", "tick"]) (T : Bi mg) (C1 : Cal P w K mg base 2 "home_people" ["parsed", "tick"] spHomes) (C2 : Cal P w K mg base 1 "changed" ["owed", "person", "amount"] spChanged) : Cal P w K mg base 3 "after_tick" ["parsed", "state", "tick"] spAfter := D.cal fun f fd F => by
  have nd := scafter_tick.nd
  obtain ⟨f1, fd1, m_home_people, kp_home_people, b_home_people, G_home_people⟩ := C1.ex
  obtain ⟨f2, fd2, m_changed, kp_changed, b_changed, G_changed⟩ := C2.ex
  refine F.ok scafter_tick (fun vs H Q E h => ?_) (fun cdv A outer s H vs Q E hr h => ?_)
  · obtain ⟨a, st, r, s, o, t, rfl, _⟩ := h; rfl
  obtain ⟨a, st, r, s, o, t, rfl, hR, ok, hS, hs, hO, q⟩ := h
  obtain ⟨an, at_, aw, aa, am, as, h1, h2, h3, h4, h5, h6, h7⟩ := id hR
  have hu := hr.units
  refine ⟨_, (pss_cons (ps_asg (pv 1) (pg_tupK (K := K) (n := 2) rfl rfl (pgs_cons (pg_name (i := 3) nd rfl (Or.inl rfl)) (pgs_cons (pg_name (i := 4) nd rfl (Or.inr rfl)) pgs_nil))))
 (pss_cons (ps_set (i := 5) nd rfl (Or.inl rfl) (pe_call G_home_people (hr.mono (by first | decide | omega)) (by rfl) m_home_people kp_home_people b_home_people .nil pass0 (pa_cons (pv 0) (pa_cons (pv 2) pa_nil))))
 (pss_cons (ps_if (pt_cmpR (r := rEqD K) (op_eqD hu) (pv 5) (pe_lst pa_nil) (nomark _))
 (pss_one (ps_ret (pe_tup (pa_cons (pv 1) (pa_cons pe_non pa_nil)))))
 pss_nil)
 (pss_cons (ps_set (i := 6) nd rfl (Or.inr rfl) (pe_callB (r := L2.rMax K) (cr_max rfl) (by rfl) T.max (by decide +kernel) (pa_cons (pe_lc (own := [("person", 7)]) rfl nd (pi_listK (K := K) rfl (pv 5)) (blkOk_by (N := ["parsed", "state", "tick", "spot", "owed", "at_home", "most", "person", "turns"]) (sc := defScope safter_tick) (by decide +kernel)) (fun _ _ _ _ _ => (pg_name (i := 7) nd rfl (Or.inl rfl))) (fun _ _ _ _ _ => pts_nil) (fun _ _ _ _ _ => (pe_ix (r := rIxT K) ix_tup (pv 4) (pv 7) (fun _ _ => rfl)))) pa_nil)))
 (pss_cons (ps_if (pt_cmpR op_gt (pv 6) pe_int (nomark _))
 (pss_cons (ps_set (i := 7) nd rfl (Or.inl rfl) (pe_ix (r := rIxL K) ix_list (pe_lc (own := [("person", 7)]) rfl nd (pi_listK (K := K) rfl (pv 5)) (blkOk_by (N := ["parsed", "state", "tick", "spot", "owed", "at_home", "most", "person", "turns"]) (sc := defScope safter_tick) (by decide +kernel)) (fun _ _ _ _ _ => (pg_name (i := 7) nd rfl (Or.inl rfl))) (fun _ _ _ _ _ => (pts_one (pt_cmpR op_eq (pe_ix (r := rIxT K) ix_tup (pv 4) (pv 7) (fun _ _ => rfl)) (pv 6) (nomark _)))) (fun _ _ _ _ _ => (pv 7))) pe_int (fun _ _ => rfl)))
 (pss_one (ps_ret (pe_tup (pa_cons (pe_tup (pa_cons (pv 3) (pa_cons (pe_call G_changed (hr.mono (by first | decide | omega)) (by rfl) m_changed kp_changed b_changed .nil pass0 (pa_cons (pv 4) (pa_cons (pv 7) (pa_cons (pe_un un_neg pe_int) pa_nil)))) pa_nil))) (pa_cons (pv 7) pa_nil))))))
 pss_nil)
 (pss_cons (ps_set (i := 8) nd rfl (Or.inl rfl) (pe_ix (r := rIxT K) ix_tup (pv 0) pe_int (fun _ _ => rfl)))
 (pss_cons (ps_while PassesOwn.never (pt_cmpR (r := rIn K true) op_notIn_seq (pe_ix (r := rIxT K) ix_tup (pv 8) (pv 3) (fun _ _ => rfl)) (pv 5) (by rfl))
 (C8.pss_cut (ps_if (pt_cmpR (r := rIn K false) op_in_seq (pe_ix (r := rIxT K) ix_tup (pv 8) (pv 3) (fun _ _ => rfl)) (pe_ix (r := rIxT K) ix_tup (pv 0) pe_int (fun _ _ => rfl)) (by rfl))
 (pss_one (ps_set (i := 4) nd rfl (Or.inr rfl) (pe_call G_changed (hr.mono (by first | decide | omega)) (by rfl) m_changed kp_changed b_changed .nil pass0 (pa_cons (pv 4) (pa_cons (pe_ix (r := rIxT K) ix_tup (pv 8) (pv 3) (fun _ _ => rfl)) (pa_cons pe_int pa_nil))))))
 pss_nil)
 (pss_one (ps_set (i := 3) nd rfl (Or.inl rfl) (pe_op op_modN (pe_callTy call_int1 (by rfl) T.int (by decide +kernel) (pa_cons (pe_op op_add (pv 3) pe_int) pa_nil)) (pe_callB (r := rLenS K) call_len_seq (by rfl) T.len PySem.boot_len (pa_cons (pv 8) pa_nil)))))))
 (pss_one (ps_ret (pe_tup (pa_cons (pe_tup (pa_cons (pe_op op_modN (pe_callTy call_int1 (by rfl) T.int (by decide +kernel) (pa_cons (pe_op op_add (pv 3) pe_int) pa_nil)) (pe_callB (r := rLenS K) call_len_seq (by rfl) T.len PySem.boot_len (pa_cons (pv 8) pa_nil))) (pa_cons (pv 4) pa_nil))) (pa_cons (pe_ix (r := rIxT K) ix_tup (pv 8) (pv 3) (fun _ _ => rfl)) pa_nil)))))))))))), ?_⟩
  obtain ⟨ob, hst, hob⟩ := id hS
  have n6 := ok.n6
  have ol := hO.len
  refine ⟨_, rfl, st, _, rfl, SqT.of hst, rfl, _, _, rfl, _, _, rfl, rfl, ?_⟩
  refine ⟨_, rfl, _, rfl, a, r, t, rfl, hR, ok, fun H1 hp w1 => ?_⟩
  refine ⟨_, rfl, Nat.zero_le _, fun e he => ?_⟩
  have w2 := w1.new (.lst []) he
  refine ⟨.list ((homes r t).map PyData.int), .list [], .lst (SqL.of (w2.get 1 rfl)) (dp_ints _), .lst (SqL.of (w2.get 0 rfl)) .nil, shaped_ints _, rfl, _, rfl, ?_⟩
  rw [eqv_nil]
  by_cases hne : homes r t = []
  · rw [hne]
    refine iteT ⟨_, rfl, (by show 2 ≤ sizeLine; decide), fun p hp2 => ?_⟩
    have w3 := w2.new (.tup [V.ref st, V.non]) hp2
    have et : tickF r s o t = (s, o, none) := by unfold tickF; simp only; rw [if_pos hne]
    rw [et] at q
    exact q _ p st (w3.sub (List.nil_sublist _)) (w3.get 0 rfl) (hS.keep w3.tups)
  have e0 : ((homes r t).map PyData.int).isEmpty = false := by
    cases hh : homes r t with
    | nil => exact absurd hh hne
    | cons x l => rfl
  rw [e0]
  refine iteF ?_
  have hlen : (homes r t).length ≤ 6 := by
    have h1 := List.length_filter_le (isHome r t) (persons r)
    rw [persons_len] at h1
    unfold homes; omega
  have w3 := w2.sub (l' := [(hp, .lst ((homes r t).map V.int))]) (by walk_at "sub")
  generalize upd H1 e (.lst []) = H2 at w3
  refine ⟨_, rfl, hp, rfl, ⟨_, SqL.of (w3.get 0 rfl)⟩, fun D hD => ?_⟩
  have hin : ∀ p ∈ homes r t, 0 ≤ p ∧ p < o.length := fun p hp => by rw [ol]; exact homes_in hp
  refine lc_list (xs := (homes r t).map V.int) (fun i H3 => Wd [] H H3 [(D, .lst ((((homes r t).take i).map (owes o)).map V.int)), (hp, .lst ((homes r t).map V.int))]) (w3.new _ hD) (fun i H3 _ w4 => SqL.of (w4.get 1 rfl)) (fun i x H3 hx w4 => ?_) (fun H3 w4 => ?_)
  · rw [List.getElem?_map] at hx
    obtain ⟨p, hpi, rfl⟩ := Option.map_eq_some_iff.mp hx
    have hpm := hin p (List.mem_of_getElem? hpi)
    refine ⟨rfl, _, rfl, _, rfl, ob, _, p, _, rfl, rfl, SqT.of (w4.tups _ _ hob), owes_V hpm.1 hpm.2, _, w4.get 0 rfl, ?_, ?_⟩
    · rw [List.length_map, List.length_map, List.length_take]
      exact Nat.lt_of_le_of_lt (m := 100) (by omega) (by decide)
    · rw [take_more hpi, List.map_append, List.map_append]
      exact w4.app0 _
  rw [List.length_map, List.take_length] at w4
  have hpos : 0 < ((homes r t).map (owes o)).length := by rw [List.length_map]; exact List.length_pos_iff.mpr hne
  refine ⟨D, (homes r t).map (owes o), rfl, SqL.of (w4.get 0 rfl), hpos, fun m hm1 hm2 => ?_⟩
  obtain rfl := max_unique hm1 hm2
  have w5 := w4.sub (l' := [(hp, .lst ((homes r t).map V.int))]) (by walk_at "sub")
  refine ⟨_, rfl, _, _, rfl, rfl, _, rfl, ?_⟩
  refine ite2 (fun c => ?_) (fun c => ?_)
  · have c1 : 0 < maxL ((homes r t).map (owes o)) := of_decide_eq_true c
    obtain ⟨p, hd, hpm, hpe⟩ := debtor_some (o := o) hne
    have et := tick_debt (s := s) hne c1 hd
    have hp2 := hin p hpm
    refine ⟨_, rfl, hp, rfl, ⟨_, SqL.of (w5.get 0 rfl)⟩, fun D2 hD2 => ?_⟩
    refine lc_list (xs := (homes r t).map V.int) (fun i H3 => Wd [] H H3 [(D2, .lst ((((homes r t).take i).filter (topOf (homes r t) o)).map V.int)), (hp, .lst ((homes r t).map V.int))]) (w5.new _ hD2) (fun i H3 _ w6 => SqL.of (w6.get 1 rfl)) (fun i x H3 hx w6 => ?_) (fun H3 w6 => ?_)
    · rw [List.getElem?_map] at hx
      obtain ⟨p, hpi, rfl⟩ := Option.map_eq_some_iff.mp hx
      have hpm := hin p (List.mem_of_getElem? hpi)
      refine ⟨rfl, _, rfl, _, rfl, ob, _, p, _, rfl, rfl, SqT.of (w6.tups _ _ hob), owes_V hpm.1 hpm.2, _, rfl, rfl, _, rfl, ?_⟩
      rw [take_more hpi, List.filter_append]
      refine ite2 (fun c => ?_) (fun c => ?_)
      · have c2 : owes o p = maxL ((homes r t).map (owes o)) := by have := of_decide_eq_true c; injection this
        rw [List.filter_cons_of_pos (p := topOf (homes r t) o) (decide_eq_true c2), List.filter_nil, List.map_append]
        refine ⟨_, rfl, _, w6.get 0 rfl, ?_, w6.app0 _⟩
        rw [List.length_map]
        have h1 := List.length_filter_le (topOf (homes r t) o) ((homes r t).take i)
        rw [List.length_take] at h1
        exact Nat.lt_of_le_of_lt (m := 100) (by omega) (by decide)
      · have c2 : ¬ owes o p = maxL ((homes r t).map (owes o)) := fun e => c (decide_eq_true (by rw [e]))
        rw [List.filter_cons_of_neg (p := topOf (homes r t) o) (by unfold topOf; simpa using c2), List.filter_nil, List.append_nil]
        exact w6
    rw [List.length_map, List.take_length] at w6
    have hh : ((homes r t).filter (topOf (homes r t) o)).head? = some p := by rw [List.head?_filter]; exact hd
    have ha : atI (((homes r t).filter (topOf (homes r t) o)).map V.int) 0 = some (.int p) := by
      refine atI_nat (j := 0) ?_
      rw [List.getElem?_map, ← List.head?_eq_getElem?, hh]; rfl
    refine ⟨D2, _, 0, _, rfl, rfl, SqL.of (w6.get 0 rfl), ha, ?_⟩
    refine ⟨_, rfl, _, rfl, _, rfl, _, rfl, ob, o, p, -1, rfl, w6.tups _ _ hob, hp2.1, hp2.2, by omega, fun H4 b w7 g7 => ?_⟩
    have w8 := w6.call0 w7
    refine ⟨(by show 2 ≤ sizeLine; decide), fun p1 hp1 => ⟨_, rfl, (by show 2 ≤ sizeLine; decide), fun p3 hp3 => ?_⟩⟩
    have w9 := w8.new (.tup [V.int (s : Int), V.ref b]) hp1
    have w10 := w9.new (.tup [V.ref p1, V.int p]) hp3
    rw [et] at q
    have v1 := ((Wd.refl H4).new (.tup [V.int (s : Int), V.ref b]) hp1).new (.tup [V.ref p1, V.int p]) hp3
    exact q _ p3 p1 (w10.sub (List.nil_sublist _)) (w10.get 0 rfl) ⟨b, w10.get 1 rfl, v1.tups _ _ g7⟩
  · have c1 : ¬ 0 < maxL ((homes r t).map (owes o)) := fun e => c (decide_eq_true e)
    have et := tick_turn (s := s) hne c1
    refine ⟨_, rfl, a, _, 1, _, rfl, rfl, SqT.of (w5.tups _ _ h1), rfl, ?_⟩
    have hnp := turns_pos ok
    have t12 := ok.t12
    generalize hz : spin r (homes r t) r.turns.length s o = z at et
    refine ⟨fun m σ H' => ∃ (s' : Nat) (o' : List Int) (ob' : Addr), σ = [some (.ref a), some (.ref st), some (.int t), some (.int (s' : Int)), some (.ref ob'), some (.ref hp), some (.int (maxL ((homes r t).map (owes o)))), none, some (.ref at_)] ∧ Wd [] H H' [(hp, .lst ((homes r t).map V.int))] ∧ H' ob' = some (.tup (o'.map V.int)) ∧ s' < r.turns.length ∧ OwOk r o' ∧ Near r (homes r t) m s' ∧ spin r (homes r t) m s' o' = z,
      ⟨r.turns.length, s, o, ob, rfl, w5, w5.tups _ _ hob, hs, hO, near_start ok hne (fun p hp => homes_in hp) hs, hz⟩, ?_⟩
    rintro m σ H6 ⟨s', o', ob', rfl, w6, hob', hs', hO', near, hsp⟩
    have ht := turnAt_in ok hs'
    refine ⟨_, rfl, _, rfl, at_, _, _, _, rfl, rfl, SqT.of (w6.tups _ _ h3), turn_V hs', _, rfl, hp, _, rfl, .inl (SqL.of (w6.get 0 rfl)), rfl, flat_ints _, _, rfl, ?_⟩
    rw [if_pos rfl, inV_ints]
    cases m with
    | zero => obtain ⟨j, hj, _⟩ := near; exact absurd hj (Nat.not_lt_zero _)
    | succ m =>
    unfold spin at hsp
    by_cases c2 : turnAt r s' ∈ homes r t
    · rw [decide_eq_true c2]
      refine iteF ?_
      rw [if_pos c2] at hsp
      rw [← hsp] at et
      dsimp only at et
      rw [et] at q
      refine ⟨_, rfl, _, _, rfl, rfl, .inl ⟨_, rfl, _, rfl, at_, _, rfl, .inr (SqT.of (w6.tups _ _ h3)), _, _, rfl, rfl, by rw [List.length_map]; omega, _, rfl, (by show 2 ≤ sizeLine; decide), fun p1 hp1 => ?_⟩⟩
      have en : ((s' : Int) + 1).fmod (((r.turns.map V.int).length : Nat) : Int) = ((nextS r s' : Nat) : Int) := by
        rw [List.length_map]; exact fmod_nat (s' + 1) _
      dsimp only
      rw [en]
      have w7 := w6.new (.tup [V.int ((nextS r s' : Nat) : Int), V.ref ob']) hp1
      refine ⟨_, rfl, _, rfl, at_, _, _, _, rfl, rfl, SqT.of (w7.tups _ _ h3), turn_V hs', (by show 2 ≤ sizeLine; decide), fun p2 hp2 => ?_⟩
      have w8 := w7.new (.tup [V.ref p1, V.int (turnAt r s')]) hp2
      have v8 := ((Wd.refl H6).new (.tup [V.int ((nextS r s' : Nat) : Int), V.ref ob']) hp1).new (.tup [V.ref p1, V.int (turnAt r s')]) hp2
      exact q _ p2 p1 (w8.sub (List.nil_sublist _)) (w8.get 0 rfl) ⟨ob', w8.get 1 rfl, v8.tups _ _ hob'⟩
    · rw [decide_eq_false c2]
      rw [if_neg c2] at hsp
      refine iteT ?_
      have Mid : ∃ Mid : L2.St → Hp → Prop, Mid = fun σ H' => ∃ ob2 : Addr, σ = [some (.ref a), some (.ref st), some (.int t), some (.int (s' : Int)), some (.ref ob2), some (.ref hp), some (.int (maxL ((homes r t).map (owes o)))), none, some (.ref at_)] ∧ Wd [] H H' [(hp, .lst ((homes r t).map V.int))] ∧ H' ob2 = some (.tup ((passT r s' o').map V.int)) := ⟨_, rfl⟩
      obtain ⟨Mid, hMid⟩ := Mid
      refine ⟨fun σ H' => ∃ m', m' < m + 1 ∧ ∃ (s' : Nat) (o' : List Int) (ob' : Addr), σ = [some (.ref a), some (.ref st), some (.int t), some (.int (s' : Int)), some (.ref ob'), some (.ref hp), some (.int (maxL ((homes r t).map (owes o)))), none, some (.ref at_)] ∧ Wd [] H H' [(hp, .lst ((homes r t).map V.int))] ∧ H' ob' = some (.tup (o'.map V.int)) ∧ s' < r.turns.length ∧ OwOk r o' ∧ Near r (homes r t) m' s' ∧ spin r (homes r t) m' s' o' = z, fun σ' H' h => h, Mid, ?_, ?_⟩
      · refine ⟨_, rfl, _, rfl, at_, _, _, _, rfl, rfl, SqT.of (w6.tups _ _ h3), turn_V hs', _, rfl, a, _, 4, _, rfl, rfl, SqT.of (w6.tups _ _ h1), rfl, am, _, rfl, .inr (SqT.of (w6.tups _ _ h7)), rfl, flat_ints _, _, rfl, ?_⟩
        rw [if_neg (by decide), inV_ints]
        have ep : passT r s' o' = if turnAt r s' ∈ r.makers then chg o' (turnAt r s') 1 else o' := rfl
        refine ite2 (fun c => ?_) (fun c => ?_)
        · rw [if_pos (of_decide_eq_true c)] at ep
          refine ⟨_, rfl, _, rfl, _, rfl, at_, _, _, _, rfl, rfl, SqT.of (w6.tups _ _ h3), turn_V hs', ob', o', _, 1, rfl, hob', ht.1, by rw [hO'.len]; exact ht.2, by rw [hO'.len]; exact n6, fun H7 b w7 g7 => ?_⟩
          show Mid _ _
          rw [hMid]
          exact ⟨b, rfl, w6.call0 w7, by rw [ep]; exact g7⟩
        · rw [if_neg (fun e => c (decide_eq_true e))] at ep
          show Mid _ _
          rw [hMid]
          exact ⟨ob', rfl, w6, by rw [ep]; exact hob'⟩
      · intro σ H7 hmid
        rw [hMid] at hmid
        obtain ⟨ob2, rfl, w7, g7⟩ := hmid
        refine ⟨_, rfl, _, _, rfl, rfl, .inl ⟨_, rfl, _, rfl, at_, _, rfl, .inr (SqT.of (w7.tups _ _ h3)), _, _, rfl, rfl, by rw [List.length_map]; omega, ?_⟩⟩
        have en : ((s' : Int) + 1).fmod (((r.turns.map V.int).length : Nat) : Int) = ((nextS r s' : Nat) : Int) := by
          rw [List.length_map]; exact fmod_nat (s' + 1) _
        refine ⟨m, Nat.lt_succ_self m, nextS r s', passT r s' o', ob2, ?_, w7, g7, nextS_lt hnp, hO'.pass ok hs', near_step hs' near c2, hsp⟩
        dsimp only
        rw [en]; rfl
end
end Br

/-! A comprehension whose element may raise: the exception leaves the block and flies on in the def. -/
namespace Br
open PySem PySem.Spec PySem.Calls PyProof.Rows L2
section
variable {M : Model} {A : Around} {E : Value → Shared → Prop} {s : Shared} {env : Env}
/-- the block's end, its own environment named -/
def cPost (M : Model) (A : Around) (E : Value → Shared → Prop) (Qz : Value → Shared → Prop) (acc : Value) (ce : Env) (r : Result) (z : Shared) : Prop :=
  match r with
  | .ok _ => ∃ m, z.heap.Ns ce.locals m ∧ ∀ hz, Heap.SameBut ce.locals z.heap hz → Qz acc { z with heap := hz }
  | .error x => ∃ m, z.heap.Ns ce.locals m ∧ ∀ hz, Heap.SameBut ce.locals z.heap hz → wpAny M A (PySem.passOn "comprehension.variables-let-go" x ce : Sem Value) (fun _ _ => False) E { z with heap := hz }
end
section
variable {X : Cx} {W : WX} {pins : List (Addr × Obj)} {σ : L2.St} {H3 : Hp} {s3 : Shared} {scope : Scope} {cl : List (Str × Addr)} {fp : List Addr} {Qz : Value → Shared → Prop} {D : Addr}
/-- what an element's exception meets -/
def blkE (X : Cx) (Qz : Value → Shared → Prop) (D : Addr) (ce : Env) : Value → Shared → Prop :=
  notedBy (model X.prog X.w) X.A ce fun e z => cPost (model X.prog X.w) X.A X.xe Qz (.ref D) ce (.error e) z
end
section
variable {X : Cx} {W : WX}
end
end Br

/-! The program's exception classes: made by their own __init__ that calls the base's, raised, told by the ledger. -/
namespace Br
open PySem PySem.Spec PyProof.Rows L2
/-- the base class at CR: RotaError.__init__ is ValueError's -/
structure BaseX (K : PySem.W.Frag) (mg : Str → Option Value) (CR : Addr) : Prop where
  g : mg "RotaError" = some (.ref CR)
  rd : PySem.W.readsIn K CR (.type "type") = true
  ga : PySem.W.specialIn K (.ref CR) "__getattribute__" = some (some (.builtin "type.__getattribute__"))
  at_ : PySem.W.findCls K (.ref CR) (.type "type") "__init__" = some (.val (.builtin "ValueError.__init__"))
section
variable {X : Cx} {e : Expr} {es : List Expr} {ta : TA} {p1 p2 pos : Pos} {CR : Addr}
theorem pe_rinit {pl : Sem Bool} (B : BaseX X.K X.mg CR) (hg : Gl X "RotaError") (ha : PA X (e :: es) ta)
    (he : starEach (e :: es) X.env = (false, eval e X.env) :: starEach es X.env := by rfl) (hpl : (backTo pos (starEach es X.env)).any (·.1) = false := by rfl)
    (hc : eval (.Call (.Attribute (.Name "RotaError" p1) "__init__" p2) (e :: es) [] pos) X.env = (do
      let ov ← eval (.Name "RotaError" p1) X.env
      standAt p2.atName
      let (f, first) ← holding [ov] (getMethod ov "__init__" pl)
      callWith pos f first (backTo pos (starEach (e :: es) X.env)) (backToKw pos (keywordEach [] X.env))) := by rfl) :
    PE X (.Call (.Attribute (.Name "RotaError" p1) "__init__" p2) (e :: es) [] pos) (tVeI X.K ta) := by
  refine ⟨fun pins y σ H Q I h => ?_⟩
  refine PySem.W.methodCall_KW (ld_glob I hg B.g ?_ (by decide)) hc
  refine PySem.W.method_cls I.kIn B.ga (PySem.W.cls_value I.kIn B.rd B.at_ (by decide +kernel) ?_)
  refine PyProof.Rows.callWith_method1 (thn (ha.run pos pins _ σ H _ (I.tok _) h) fun us y1 ⟨vs, H1, I1, r1, a, C, ws, ev, hl, T, ea, q⟩ => ?_) he hpl
  subst ev
  cases r1 with
  | @cons _ u0 _ ur ra rw2 =>
    obtain rfl : u0 = Value.ref a := ra
    exact oinit_ok T I1 ea (by rw [← Paired.length rw2, sizeLine_eq]; omega) fun z J => ⟨.non, H1, J, rfl, q⟩
end
/-- an error as it lies behind a call: of the class at C, its dict d holds fs; nothing old is changed -/
def spEx (C : Addr) (fs : List Str) : Sp := fun vs H Q _ => ∃ (a : Addr) (ws : List V), vs = .ref a :: ws ∧ ws.length = fs.length ∧ H a = some (exo a C none) ∧
  ∀ (dx : Addr) (H' : Hp), H dx = none → dx ≠ a → (∀ b, b ≠ dx → b ≠ a → H' b = H b) → H' a = some (exo a C (some dx)) → H' dx = some (exd dx (fs.zip ws).reverse) → Q .non H'
/-- an own exception class with an __init__, ready to be raised -/
structure ExAt (P : Program) (w : World) (K : PySem.W.Frag) (mg : Str → Option Value) (base : Heap) (x : Str) (C : Addr) (fs : List Str) : Prop where
  T : OexC K C
  gC : mg x = some (.ref C)
  ex : ∃ (fI : Addr) (fd : FuncData) (ps : List Str), PySem.W.findIn K (.ref C) "__init__" = some (some (.ref fI)) ∧ PySem.W.typeIn K (.ref fI) = some (.type "function") ∧ FnOk P w K mg base CX0 1 fI fd ps (spEx C fs) ∧ Binds K fd ps []
theorem del_wd {H H2 : Hp} {a d : Addr} {C : Addr} {fs : List (Str × V)} (ha : H a = none) (hd : H d = none) (ne : d ≠ a) (k : ∀ b, b ≠ d → b ≠ a → H2 b = upd H a (exo a C none) b) : Wd [] H (upd (del H2 a) d (.xd fs)) [(d, .xd fs)] where
  base := fun b o _ e => by
    have h1 := ne_of_none e hd
    have h2 := ne_of_none e ha
    rw [upd_ne h1, del_ne h2, k b h1 h2, upd_ne h2]; exact e
  tups := fun b xs e => by
    have h1 := ne_of_none e hd
    have h2 := ne_of_none e ha
    rw [upd_ne h1, del_ne h2, k b h1 h2, upd_ne h2]; exact e
  own := fun q hq => by rw [List.mem_singleton.mp hq]; exact .inl hd
  at_ := fun q hq => by rw [List.mem_singleton.mp hq]; exact upd_same
  nd := by simp
  free := fun b e => by
    by_cases h1 : b = d
    · rw [h1]; exact hd
    by_cases h2 : b = a
    · rw [h2]; exact ha
    rw [upd_ne h1, del_ne h2, k b h1 h2, upd_ne h2] at e; exact e
section
variable {X : Cx} {e : Expr} {es : List Expr} {ta : TA} {p pos : Pos} {C : Addr} {x : Str} {fs : List Str}
def tUp (t : TA) : TA := fun σ H Q => ∃ R : List V → Hp → Prop, t σ H R ∧ ∀ vs H1, R vs H1 → Q vs H1
theorem pa_up (h : PA X es ta) : PA X es (tUp ta) := ⟨fun pos pins y σ H Q I ⟨R, h1, h2⟩ => thn (h.run pos pins y σ H R I h1) fun us z ⟨vs, H1, I1, r1, q⟩ => ⟨vs, H1, I1, r1, h2 _ _ q⟩⟩
def tMkE (C : Addr) (fs : List Str) (ta : TA) : L2.St → Hp → XK → Prop := fun σ H Q => ta σ H fun ws H1 => ws.length = fs.length ∧ ∀ d H', Wd [] H1 H' [(d, .xd (fs.zip ws).reverse)] → Q (.ref C) (some d) H'
theorem pmk_ex (D : ExAt X.prog X.w X.K X.mg X.base x C fs) (hr : Room 2 X.A) (hg : Gl X x) (ha : PA X (e :: es) ta) (hz : fs.length ≤ 1000) (hdb : (x == ("__debug__" : Str)) = false := by decide)
    (he : starEach (e :: es) X.env = (false, eval e X.env) :: starEach es X.env := by rfl) (hpl : (backTo pos (starEach es X.env)).any (·.1) = false := by rfl) :
    PMk X (.Call (.Name x p) (e :: es) [] pos) (tMkE C fs ta) := by
  obtain ⟨fI, fd, ps, iC, tI, F1, b⟩ := D.ex
  have h := pmk_oex (X := X) (dvs := []) (p := p) (pos := pos) D.T iC tI F1 hr b .nil (fun _ _ _ _ _ _ _ z => False.elim z) hg D.gC (pa_up ha) hdb he hpl
  intro pins y σ H Q I q
  refine h pins y σ H Q I ⟨_, q, fun ws H1 ⟨hl, k⟩ => ⟨by omega, fun a ha0 => ⟨a, ws, by rw [List.append_nil], hl, upd_same, fun dx H' hd ne hk h1 h2 => ⟨rfl, dx, _, h1, h2, ?_, ?_⟩⟩⟩⟩
  · rw [upd_ne ne] at hd; exact hd
  · exact k dx _ (del_wd ha0 (by rw [upd_ne ne] at hd; exact hd) ne hk)
end
/-- the class as the top left it: its __init__ is st, in order self and the fields -/
structure ExTxt (K : PySem.W.Frag) (mg : Str → Option Value) (x q : Str) (C : Addr) (st : Stmt) (ps fs : List Str) : Prop where
  T : OexC K C
  gC : mg x = some (.ref C)
  no : ∀ f ∈ fs, PySem.W.findIn K (.ref C) f = some none
  ex : ∃ (fI : Addr) (fd : FuncData), PySem.W.findIn K (.ref C) "__init__" = some (some (.ref fI)) ∧ PySem.W.typeIn K (.ref fI) = some (.type "function") ∧ Fun K "__init__" q st fI fd ∧ Binds K fd ps []
theorem ExTxt.at_ {P : Program} {w : World} {K : PySem.W.Frag} {mg : Str → Option Value} {base : Heap} {x q : Str} {C : Addr} {st : Stmt} {ps fs : List Str} (D : ExTxt K mg x q C st ps fs)
    (h : ∀ fI fd, Fun K "__init__" q st fI fd → FnOk P w K mg base CX0 1 fI fd ps (spEx C fs)) : ExAt P w K mg base x C fs := by
  obtain ⟨fI, fd, h1, h2, F, b⟩ := D.ex
  exact ⟨D.T, D.gC, fI, fd, ps, h1, h2, h fI fd F, b⟩
end Br

/-! Contracts of defs and methods that may raise. -/
namespace Br
open PySem PySem.Spec PyProof.Rows L2
structure CalX (P : Program) (w : World) (K : PySem.W.Frag) (mg : Str → Option Value) (base : Heap) (k : Nat) (x : Str) (ps : List Str) (sp : Sp) : Prop where
  ex : ∃ (f : Addr) (fd : FuncData), mg x = some (.ref f) ∧ PySem.W.keepIn K (.ref f) = true ∧ Binds K fd ps [] ∧ FnOk P w K mg base (L2.CX P w) k f fd ps sp
structure MeX (P : Program) (w : World) (K : PySem.W.Frag) (mg : Str → Option Value) (base : Heap) (k : Nat) (C : Addr) (m : Str) (ps : List Str) (sp : Sp) : Prop where
  ex : ∃ (f : Addr) (fd : FuncData), Meth K C m f ∧ Binds K fd ps [] ∧ FnOk P w K mg base (L2.CX P w) k f fd ps sp
section
variable {P : Program} {w : World} {K : PySem.W.Frag} {mg : Str → Option Value} {base : Heap} {k : Nat} {x m q : Str} {C : Addr} {st : Stmt} {ps : List Str} {sp : Sp}
theorem DefAt.calX (D : DefAt K mg x st ps) (h : ∀ f fd, Fun K x x st f fd → FnOk P w K mg base (L2.CX P w) k f fd ps sp) : CalX P w K mg base k x ps sp := by
  obtain ⟨f, fd, m, F, b⟩ := D.ex
  exact ⟨f, fd, m, F.kp, b, h f fd F⟩
theorem MethAt.meX (D : MethAt K C m q st ps) (h : ∀ f fd, Fun K m q st f fd → FnOk P w K mg base (L2.CX P w) k f fd ps sp) : MeX P w K mg base k C m ps sp := by
  obtain ⟨f, fd, M, F, b⟩ := D.ex
  exact ⟨f, fd, M, b, h f fd F⟩
end
end Br

namespace Br
open PySem PySem.Spec PyProof.Rows L2
section
variable {P : Program} {w : World} {K : PySem.W.Frag} {mg : Str → Option Value} {base : Heap} {CT CP : Addr}
def awToks (ns : List Str) (t : Int × Int × Int) : List (Str × Str) := [("keyword", "away"), ("name", nmL ns t.1), ("number", num t.2.1), ("keyword", "of"), ("number", num t.2.2), ("sign", ";")]
def spAway (CP CT : Addr) : Sp := fun vs H Q _ => ∃ (z : Pz) (L : List (Addr × (Str × Str))) (s : Pv) (t : Int × Int × Int) (rest : List (Str × Str)), vs = [.ref z.x] ∧ PAt CP CT z L s H ∧ s.names.Nodup ∧ s.names.length ≤ 6 ∧ AwOk s.names.length t ∧ s.aws.length < 20 ∧
  TkAt L s.n (awToks s.names t ++ rest) ∧
  ∀ H' b, Wd z.mut H H' [] → PAt CP CT z L { s with n := s.n + 6, aws := s.aws ++ [(b, t)] } H' → Q .non H'
abbrev sParser_parse_away : Stmt := inClass (topS 40) 11
theorem scParser_parse_away : FnScope ["self", "start", "person", "remainder", "modulus"] ["self"] (defScope sParser_parse_away) := ⟨rfl, rfl, rfl, by decide +kernel, rfl, by decide +kernel, by decide +kernel⟩
/-! ### who makes up -/
def spMakeup (CP CT : Addr) : Sp := fun vs H Q _ => ∃ (z : Pz) (L : List (Addr × (Str × Str))) (s : Pv) (ks : List Int) (rest : List (Str × Str)), vs = [.ref z.x] ∧ PAt CP CT z L s H ∧ s.M = none ∧ s.names.Nodup ∧ s.names.length ≤ 6 ∧ ks ≠ [] ∧ ks.length ≤ 12 ∧
  (∀ k ∈ ks, 0 ≤ k ∧ k < s.names.length) ∧
  TkAt L s.n ((("keyword" : Str), ("makeup" : Str)) :: ((ks.map (nmL s.names)).map (fun t => (("name" : Str), t)) ++ (("sign" : Str), (";" : Str)) :: rest)) ∧
  ∀ H' b ms, Wd z.mut H H' [] → ms.Pairwise (· < ·) → (∀ k : Int, k ∈ ms ↔ k ∈ ks) → PAt CP CT z L { s with n := s.n + 1 + ks.length + 1, M := some (b, ms) } H' → Q .non H'
abbrev sParser_parse_makeup : Stmt := inClass (topS 40) 12
theorem scParser_parse_makeup : FnScope ["self", "start", "persons", "token"] ["self"] (defScope sParser_parse_makeup) := ⟨rfl, rfl, rfl, by decide +kernel, rfl, by decide +kernel, by decide +kernel⟩
end
end Br

namespace Br
open PySem PySem.Spec PyProof.Rows L2
theorem asc_unique {α : Type} {R : α → α → Prop} (irr : ∀ a b, R a b → R b a → False) : ∀ {l l' : List α}, l.Pairwise R → l'.Pairwise R → (∀ x, x ∈ l ↔ x ∈ l') → l = l'
  | [], [], _, _, _ => rfl
  | [], b :: l', _, _, h => absurd ((h b).mpr List.mem_cons_self) (by simp)
  | a :: l, [], _, _, h => absurd ((h a).mp List.mem_cons_self) (by simp)
  | a :: l, b :: l', p, p', h => by
    rw [List.pairwise_cons] at p p'
    have e : a = b := by
      by_cases e : a = b
      · exact e
      · have h1 : a ∈ l' := (List.mem_cons.mp ((h a).mp List.mem_cons_self)).resolve_left e
        have h2 : b ∈ l := (List.mem_cons.mp ((h b).mpr List.mem_cons_self)).resolve_left (Ne.symm e)
        exact (irr _ _ (p.1 b h2) (p'.1 a h1)).elim
    subst e
    refine congrArg (a :: ·) (asc_unique irr p.2 p'.2 fun x => ⟨fun hx => ?_, fun hx => ?_⟩)
    · refine (List.mem_cons.mp ((h x).mp (List.mem_cons_of_mem _ hx))).resolve_left fun e => ?_
      subst e
      exact irr _ _ (p.1 _ hx) (p.1 _ hx)
    · refine (List.mem_cons.mp ((h x).mpr (List.mem_cons_of_mem _ hx))).resolve_left fun e => ?_
      subst e
      exact irr _ _ (p'.1 _ hx) (p'.1 _ hx)
theorem lexLt_irr (s t : Int × Int × Int) (h : lexLt s t) (h' : lexLt t s) : False := by
  unfold lexLt at h h'; omega
/-! ### a text's statements -/
inductive Stm where
  | w
  | aw (t : Int × Int × Int)
  | mk (ks : List Int)
def Stm.isW : Stm → Bool
  | .w => true
  | _ => false
def Stm.aw? : Stm → Option (Int × Int × Int)
  | .aw t => some t
  | _ => none
def Stm.mk? : Stm → Option (List Int)
  | .mk ks => some ks
  | _ => none
def stmToks (r : Rota) : Stm → List (Str × Str)
  | .w => ("keyword", "weights") :: ((r.weights.map num).map (fun t => (("number" : Str), t)) ++ [(("sign" : Str), (";" : Str))])
  | .aw t => awToks r.names t
  | .mk ks => ("keyword", "makeup") :: ((ks.map (nmL r.names)).map (fun t => (("name" : Str), t)) ++ [(("sign" : Str), (";" : Str))])
structure Spell (r : Rota) (S : List Stm) : Prop where
  w1 : (S.filter Stm.isW).length ≤ 1
  w0 : S.filter Stm.isW = [] → r.weights = List.replicate r.names.length 1
  aw : ∀ t, t ∈ S.filterMap Stm.aw? ↔ t ∈ r.aways
  aw20 : (S.filterMap Stm.aw?).length ≤ 20
  m1 : (S.filterMap Stm.mk?).length ≤ 1
  mks : ∀ ks ∈ S.filterMap Stm.mk?, ks ≠ [] ∧ ks.length ≤ 12 ∧ ∀ k : Int, k ∈ ks ↔ k ∈ r.makers
  m0 : S.filterMap Stm.mk? = [] → r.makers = []
def rotaToks (r : Rota) (S : List Stm) : List (Str × Str) := (("keyword" : Str), ("people" : Str)) :: (r.names.map (fun t => (("name" : Str), t)) ++ (("sign" : Str), (";" : Str)) ::
  ((("keyword" : Str), ("turns" : Str)) :: ((r.turns.map (nmL r.names)).map (fun t => (("name" : Str), t)) ++ (("sign" : Str), (";" : Str)) :: (S.flatMap (stmToks r) ++ [(("end" : Str), ("" : Str))]))))
def l3 (t : Int × Int × Int) : List Int := [t.1, t.2.1, t.2.2]
def tr3 (l : List Int) : Int × Int × Int := (l.getD 0 0, l.getD 1 0, l.getD 2 0)
def atOf (o : Option HO) : Nat := match o with
  | some (.ins _ _ fs) => match fs.lookup ("at" : Str) with
    | some (.int i) => i.toNat
    | _ => 0
  | _ => 0
section
variable {P : Program} {w : World} {K : PySem.W.Frag} {mg : Str → Option Value} {base : Heap} {CT CP : Addr}
def spParse (CP CT : Addr) : Sp := fun vs H Q _ => ∃ (z : Pz) (L : List (Addr × (Str × Str))) (r : Rota) (S : List Stm), vs = [.ref z.x] ∧ PAt CP CT z L ⟨0, [], [], none, none⟩ H ∧ ROk r ∧ Spell r S ∧ TkAt L 0 (rotaToks r S) ∧
  ∀ H' a, Wd z.mut H H' [] → RotaAt H' a r → Q (.ref a) H'
abbrev sParser_parse_rota : Stmt := inClass (topS 40) 13
theorem scParser_parse_rota : FnScope ["self", "turns", "line", "column", "number", "reason", "weights", "makers"] ["self"] (defScope sParser_parse_rota) := ⟨rfl, rfl, rfl, by decide +kernel, rfl, by decide +kernel, by decide +kernel⟩
/-! ### load -/
/-- a text that spells a rota -/
structure Says (z : Str) (r : Rota) (S : List Stm) : Prop where
  ok : ROk r
  sp : Spell r S
  len : z.length + 2 ≤ sizeLine
  lex : ∃ tss : List (List (Str × Str)), (Txt.split z "\n").length = tss.length ∧ (∀ (i : Nat) row ts, (Txt.split z "\n")[i]? = some row → tss[i]? = some ts → row.length ≤ sizeLine ∧ LexR (TL.tl row) ts) ∧ tss.flatten.length < 1000 ∧ (Txt.split z "\n").length ≤ sizeLine ∧
    tss.flatten ++ [(("end" : Str), ("" : Str))] = rotaToks r S
def spLoad : Sp := fun vs H Q _ => ∃ (z : Str) (r : Rota) (S : List Stm), vs = [.str z] ∧ Says z r S ∧ ∀ H' a, Wd [] H H' [] → RotaAt H' a r → Q (.ref a) H'
abbrev sload : Stmt := topS 41
theorem scload : FnScope ["rota"] ["rota"] (defScope sload) := ⟨rfl, rfl, rfl, by decide +kernel, rfl, by decide +kernel, by decide +kernel⟩
end
end Br

namespace Br
open PySem PySem.Spec PyProof.Rows L2
theorem lt_line {n : Nat} (h : n ≤ 100000) : n < sizeLine := Nat.lt_of_le_of_lt h (by decide)
theorem le_line {n : Nat} (h : n ≤ 100000) : n ≤ sizeLine := Nat.le_trans h (by decide)
/-- what a frame changes are no tuples -/
def Mu (H : Hp) (M : List Addr) : Prop := ∀ a ∈ M, (∀ xs, H a ≠ some (.tup xs)) ∧ ∀ o xs, H a ≠ some (.frz o (.tup xs))
theorem Mu.nil {H : Hp} : Mu H [] := fun _ h => nomatch h
theorem RotaAt.keepM {M : List Addr} {H H' : Hp} {l : List (Addr × HO)} (w : Wd M H H' l) (mu : Mu H M) {a : Addr} {r : Rota} (h : RotaAt H a r) : RotaAt H' a r := by
  obtain ⟨an, at_, aw, aa, am, as, h1, ⟨o, d, h2⟩, h3, h4, h5, h6, h7⟩ := h
  exact ⟨an, at_, aw, aa, am, as, w.tups _ _ h1, ⟨o, d, w.base _ _ (fun hm => (mu _ hm).2 _ _ h2) h2⟩, w.tups _ _ h3, w.tups _ _ h4, w.tups _ _ h5, h6.keep w.tups, w.tups _ _ h7⟩
/-! ### a book on the heap -/
theorem Wd.startL {H : Hp} : ∀ (l : List (Addr × HO)), (∀ q ∈ l, H q.1 = some q.2) → (l.map Prod.fst).Nodup → Wd (l.map Prod.fst) H H l := fun l h n =>
  ⟨fun _ _ _ e => e, fun _ _ e => e, fun q hq => .inr (List.mem_map.mpr ⟨q, hq, rfl⟩), h, n, fun _ e => e⟩
def NowT (H : Hp) (a : Addr) (n : Now) : Prop := ∃ st d : Addr, H a = some (.tup [.ref st, .int (n.t : Int), .ref d]) ∧ StT H st n.s n.o ∧ H d = some (.tup (n.d.map dV))
def EntT (H : Hp) (a : Addr) (e : Str × Now × Now) : Prop := ∃ b c : Addr, H a = some (.tup [.str e.1, .ref b, .ref c]) ∧ NowT H b e.2.1 ∧ NowT H c e.2.2
theorem NowT.keep {H H' : Hp} (k : ∀ b xs, H b = some (.tup xs) → H' b = some (.tup xs)) {a : Addr} {n : Now} (h : NowT H a n) : NowT H' a n := by
  obtain ⟨st, d, h1, h2, h3⟩ := h; exact ⟨st, d, k _ _ h1, h2.keep k, k _ _ h3⟩
theorem EntT.keep {H H' : Hp} (k : ∀ b xs, H b = some (.tup xs) → H' b = some (.tup xs)) {a : Addr} {e : Str × Now × Now} (h : EntT H a e) : EntT H' a e := by
  obtain ⟨b, c, h1, h2, h3⟩ := h; exact ⟨b, c, k _ _ h1, h2.keep k, h3.keep k⟩
theorem paired_imp {α β : Type} {F G : α → β → Prop} (h : ∀ a b, F a b → G a b) : ∀ {xs : List α} {ys : List β}, Paired F xs ys → Paired G xs ys
  | _, _, .nil => .nil
  | _, _, .cons x t => .cons (h _ _ x) (paired_imp h t)
theorem paired_at {α β : Type} {F : α → β → Prop} : ∀ {xs : List α} {ys : List β} {i : Nat} {x : α}, Paired F xs ys → xs[i]? = some x → ∃ y, ys[i]? = some y ∧ F x y
  | _, _, 0, _, .cons r _, h => ⟨_, rfl, by cases h; exact r⟩
  | _, _, i + 1, _, .cons _ t, h => paired_at (i := i) t h
theorem Paired.app {α β : Type} {F : α → β → Prop} : ∀ {xs xs' : List α} {ys ys' : List β}, Paired F xs ys → Paired F xs' ys' → Paired F (xs ++ xs') (ys ++ ys')
  | _, _, _, _, .nil, h => h
  | _, _, _, _, .cons x t, h => .cons x (Paired.app t h)
theorem Paired.init {α β : Type} {F : α → β → Prop} : ∀ {xs : List α} {ys : List β} {y : β}, Paired F xs (ys ++ [y]) → ∃ (xs' : List α) (x : α), xs = xs' ++ [x] ∧ Paired F xs' ys ∧ F x y
  | _, [], _, .cons x .nil => ⟨[], _, rfl, .nil, x⟩
  | _, _ :: _, _, .cons x t => by
    obtain ⟨xs', z, e, h1, h2⟩ := Paired.init t
    exact ⟨_ :: xs', z, by rw [e]; rfl, .cons x h1, h2⟩
abbrev unds (b : Bst) : List (Str × Now × Now) := b.und.map fun e => (e.1.1, e.1.2, e.2)
structure Bz where
  x : Addr
  dx : Addr
  p : Addr
  sv : Addr
  pl : Addr
  ul : Addr
  sn : List Addr
def Bz.own (z : Bz) : List Addr := z.x :: z.pl :: z.ul :: z.sv :: z.sn
def bkF (z : Bz) (na : Addr) : List (Str × V) := [("parsed", .ref z.p), ("now", .ref na), ("past", .ref z.pl), ("undone", .ref z.ul), ("saved", .ref z.sv)]
/-- the lists of a book's state -/
structure LsT (H : Hp) (na pl ul : Addr) (b : Bst) : Prop where
  now : NowT H na b.now
  pl : ∃ as : List Addr, H pl = some (.lst (as.map V.ref)) ∧ Paired (EntT H) as (ents b.past b.now)
  ul : ∃ as : List Addr, H ul = some (.lst (as.map V.ref)) ∧ Paired (EntT H) as (unds b)
/-- a snapshot -/
def SnapT (H : Hp) (z : Bz) (kv : Key × V) (e : Str × Bst) : Prop := kv.1 = .inr e.1 ∧ ∃ a na p u : Addr, kv.2 = .ref a ∧ H a = some (.tup [.ref na, .ref p, .ref u]) ∧ LsT H na p u e.2 ∧ p ∈ z.sn ∧ u ∈ z.sn
structure BkAt (CB : Addr) (z : Bz) (r : Rota) (b : Bst) (S : List (Str × Bst)) (H : Hp) : Prop where
  na : ∃ na, H z.x = some (.ins CB z.dx (bkF z na)) ∧ LsT H na z.pl z.ul b
  ro : RotaAt H z.p r
  sv : ∃ kvs : List (Key × V), H z.sv = some (.dK kvs) ∧ Paired (SnapT H z) kvs S
  ne : z.pl ≠ z.ul
  nn : z.pl ∉ z.sn ∧ z.ul ∉ z.sn
  al : ∀ a ∈ z.own, H a ≠ none
  xn : z.x ∉ z.sn
  sl : ∀ a ∈ z.sn, ∃ xs, H a = some (.lst xs)
theorem LsT.keep {H H' : Hp} {na pl ul : Addr} {b : Bst} (h : LsT H na pl ul b) (k : ∀ b xs, H b = some (.tup xs) → H' b = some (.tup xs)) (h1 : H' pl = H pl) (h2 : H' ul = H ul) : LsT H' na pl ul b := by
  obtain ⟨n, ⟨as, p1, p2⟩, us, u1, u2⟩ := h
  exact ⟨n.keep k, ⟨as, h1.trans p1, paired_imp (fun _ _ e => e.keep k) p2⟩, us, h2.trans u1, paired_imp (fun _ _ e => e.keep k) u2⟩
theorem SnapT.keep {H H' : Hp} {z z' : Bz} {kv : Key × V} {e : Str × Bst} (h : SnapT H z kv e) (k : ∀ b xs, H b = some (.tup xs) → H' b = some (.tup xs)) (hs : ∀ a ∈ z.sn, a ∈ z'.sn) (he : ∀ a ∈ z.sn, H' a = H a) : SnapT H' z' kv e := by
  obtain ⟨h1, a, na, p, u, h2, h3, h4, h5, h6⟩ := h
  exact ⟨h1, a, na, p, u, h2, k _ _ h3, h4.keep k (he _ h5) (he _ h6), hs _ h5, hs _ h6⟩
/-- what does not touch the book -/
theorem Wd.same {M : List Addr} {H H' : Hp} {l : List (Addr × HO)} (w : Wd M H H' l) {a : Addr} (ha : H a ≠ none) (hm : a ∉ M) : H' a = H a := by
  cases e : H a with
  | none => exact absurd e ha
  | some o => exact w.base a o hm e
theorem BkAt.keep {CB : Addr} {z : Bz} {r : Rota} {b : Bst} {S : List (Str × Bst)} {H H' : Hp} {M : List Addr} {l : List (Addr × HO)} (h : BkAt CB z r b S H) (w : Wd M H H' l) (d : ∀ a ∈ M, a ∉ z.own) (mu : Mu H M) : BkAt CB z r b S H' := by
  have sm : ∀ a ∈ z.own, H' a = H a := fun a ha => w.same (h.al a ha) (fun hm => d a hm ha)
  obtain ⟨na, h1, h2⟩ := h.na
  obtain ⟨kvs, s1, s2⟩ := h.sv
  exact ⟨⟨na, (sm _ (by simp [Bz.own])).trans h1, h2.keep w.tups (sm _ (by simp [Bz.own])) (sm _ (by simp [Bz.own]))⟩, h.ro.keepM w mu,
    ⟨kvs, (sm _ (by simp [Bz.own])).trans s1, paired_imp (fun _ _ e => e.keep w.tups (fun _ h => h) fun a ha => sm a (by simp [Bz.own, ha])) s2⟩, h.ne, h.nn, fun a ha => by rw [sm a ha]; exact h.al a ha, h.xn, fun a ha => by rw [sm a (by simp [Bz.own, ha])]; exact h.sl a ha⟩
/-- the book's next state -/
def BStep (CB : Addr) (z : Bz) (r : Rota) (b' : Bst) (S' : List (Str × Bst)) (H H' : Hp) : Prop := ∃ z' : Bz, z'.x = z.x ∧ Wd z.own H H' [] ∧ (∀ a ∈ z'.own, a ∈ z.own ∨ H a = none) ∧ BkAt CB z' r b' S' H'
structure BkCls (K : PySem.W.Frag) (CB : Addr) : Prop where
  cl : Cls K CB
  n1 : NoAttr K CB "parsed"
  n2 : NoAttr K CB "now"
  n3 : NoAttr K CB "past"
  n4 : NoAttr K CB "undone"
  n5 : NoAttr K CB "saved"
section
variable {z : Bz} {na : Addr}
theorem bk_parsed : (bkF z na).lookup ("parsed" : Str) = some (.ref z.p) := look_eq
theorem bk_now : (bkF z na).lookup ("now" : Str) = some (.ref na) := (look_ne (by decide +kernel)).trans look_eq
theorem bk_past : (bkF z na).lookup ("past" : Str) = some (.ref z.pl) := (look_ne (by decide +kernel)).trans ((look_ne (by decide +kernel)).trans look_eq)
theorem bk_undone : (bkF z na).lookup ("undone" : Str) = some (.ref z.ul) := (look_ne (by decide +kernel)).trans ((look_ne (by decide +kernel)).trans ((look_ne (by decide +kernel)).trans look_eq))
theorem bk_putNow (nb : Addr) : putF "now" (.ref nb) (bkF z na) = bkF z nb := by
  unfold bkF; rw [putF_ne (by decide +kernel)]; rfl
theorem bk_putUnd (nb : Addr) : putF "undone" (.ref nb) (bkF z na) = bkF { z with ul := nb } na := by
  unfold bkF; rw [putF_ne (by decide +kernel), putF_ne (by decide +kernel), putF_ne (by decide +kernel)]; rfl
theorem bk_none {m : Str} (h : ∀ f ∈ (["parsed", "now", "past", "undone", "saved"] : List Str), (m == f) = false) : (bkF z na).lookup m = none := by
  unfold bkF
  rw [look_ne (h _ (by simp)), look_ne (h _ (by simp)), look_ne (h _ (by simp)), look_ne (h _ (by simp)), look_ne (h _ (by simp))]
  rfl
end
end Br

namespace Br
open PySem PySem.Spec PyProof.Rows L2
section
variable {CB : Addr} {z : Bz} {r : Rota} {b b' : Bst} {S : List (Str × Bst)} {H H' : Hp}
theorem Wd.sure {M : List Addr} {H H' : Hp} {l : List (Addr × HO)} (w : Wd M H H' l) {a : Addr} (h : H a ≠ none) : H' a ≠ none := fun e => h (w.free a e)
theorem BkAt.step (hb : BkAt CB z r b S H) (pl ul nb : Addr) (w : Wd [z.x, z.pl, z.ul] H H' []) (hx : H' z.x = some (.ins CB z.dx (bkF { z with pl := pl, ul := ul } nb))) (lt : LsT H' nb pl ul b') (hp : pl = z.pl ∨ H pl = none) (hu : ul = z.ul ∨ H ul = none) (ne : pl ≠ ul) : BStep CB z r b' S H H' := by
  have al : ∀ a ∈ ([z.x, z.pl, z.ul] : List Addr), a ∈ z.own := fun a ha => by simp [Bz.own] at ha ⊢; rcases ha with h | h | h <;> simp [h]
  have fr : ∀ a, H a = none → a ∉ z.own := fun a h hm => hb.al a hm h
  have svx : H' z.sv = H z.sv ∧ ∀ a ∈ z.sn, H' a = H a := by
    obtain ⟨na, h1, h2⟩ := hb.na
    obtain ⟨kvs, s1, s2⟩ := hb.sv
    obtain ⟨nw, ⟨as, p1, p2⟩, us, u1, u2⟩ := h2
    refine ⟨w.same (hb.al _ (by simp [Bz.own])) ?_, fun a ha => ?_⟩
    · simp only [List.mem_cons, List.not_mem_nil, or_false, not_or]
      exact ⟨ne_of s1 h1 (by intro z; cases z), ne_of s1 p1 (by intro z; cases z), ne_of s1 u1 (by intro z; cases z)⟩
    · refine w.same (hb.al _ (by simp [Bz.own, ha])) ?_
      simp only [List.mem_cons, List.not_mem_nil, or_false, not_or]
      refine ⟨fun e => ?_, fun e => hb.nn.1 (e ▸ ha), fun e => hb.nn.2 (e ▸ ha)⟩
      have hm : z.x ∈ z.sn := e ▸ ha
      exact hb.xn hm
  refine ⟨{ z with pl := pl, ul := ul }, rfl, w.mono al, fun a ha => ?_, ?_⟩
  · simp only [Bz.own, List.mem_cons] at ha ⊢
    rcases ha with h | h | h | h | h
    · simp [h]
    · rcases hp with e | e
      · simp [h, e]
      · rw [h]; exact .inr e
    · rcases hu with e | e
      · simp [h, e]
      · rw [h]; exact .inr e
    · simp [h]
    · simp [h]
  · obtain ⟨kvs, s1, s2⟩ := hb.sv
    have mu : Mu H [z.x, z.pl, z.ul] := by
      obtain ⟨na, h1, _, ⟨as, p1, _⟩, us, u1, _⟩ := hb.na
      intro a ha
      simp only [List.mem_cons, List.not_mem_nil, or_false] at ha
      rcases ha with rfl | rfl | rfl
      · rw [h1]; exact ⟨fun _ => by simp, fun _ _ => by simp⟩
      · rw [p1]; exact ⟨fun _ => by simp, fun _ _ => by simp⟩
      · rw [u1]; exact ⟨fun _ => by simp, fun _ _ => by simp⟩
    refine ⟨⟨nb, hx, lt⟩, hb.ro.keepM w mu, ⟨kvs, svx.1.trans s1, paired_imp (fun _ _ e => e.keep w.tups (fun _ h => h) svx.2) s2⟩, ne, ⟨?_, ?_⟩, fun a ha => ?_, hb.xn, fun a ha => by rw [svx.2 a ha]; exact hb.sl a ha⟩
    · rcases hp with e | e
      · rw [e]; exact hb.nn.1
      · exact fun hm => fr pl e (by simp [Bz.own, hm])
    · rcases hu with e | e
      · rw [e]; exact hb.nn.2
      · exact fun hm => fr ul e (by simp [Bz.own, hm])
    · simp only [Bz.own, List.mem_cons] at ha
      obtain ⟨_, ⟨as, p1, _⟩, us, u1, _⟩ := lt
      rcases ha with h | h | h | h | h
      · rw [h, hx]; simp
      · rw [h, p1]; simp
      · rw [h, u1]; simp
      · rw [h]; exact w.sure (hb.al _ (by simp [Bz.own]))
      · exact w.sure (hb.al _ (by simp [Bz.own, h]))
/-- the ledger of a book's own three -/
theorem BkAt.start {na : Addr} {as us : List Addr} (hb : BkAt CB z r b S H) (h1 : H z.x = some (.ins CB z.dx (bkF z na))) (p1 : H z.pl = some (.lst (as.map V.ref))) (u1 : H z.ul = some (.lst (us.map V.ref))) :
    Wd [z.x, z.pl, z.ul] H H [(z.x, .ins CB z.dx (bkF z na)), (z.pl, .lst (as.map V.ref)), (z.ul, .lst (us.map V.ref))] := by
  refine Wd.startL [(z.x, .ins CB z.dx (bkF z na)), (z.pl, .lst (as.map V.ref)), (z.ul, .lst (us.map V.ref))] (fun q hq => ?_) ?_
  · simp only [List.mem_cons, List.not_mem_nil, or_false] at hq
    rcases hq with rfl | rfl | rfl
    · exact h1
    · exact p1
    · exact u1
  · have e1 : z.x ≠ z.pl := ne_of h1 p1 (by intro z; cases z)
    have e2 : z.x ≠ z.ul := ne_of h1 u1 (by intro z; cases z)
    simp [e1, e2, hb.ne]
end
section
variable {P : Program} {w : World} {K : PySem.W.Frag} {mg : Str → Option Value} {base : Heap} {CB : Addr}
abbrev sBook_record : Stmt := inClass (topS 61) 2
theorem scBook_record : FnScope ["self", "word", "now"] ["self", "word", "now"] (defScope sBook_record) := ⟨rfl, rfl, rfl, by decide +kernel, rfl, by decide +kernel, by decide +kernel⟩
def spRecord (CB : Addr) : Sp := fun vs H Q _ => ∃ (z : Bz) (r : Rota) (b : Bst) (S : List (Str × Bst)) (x : Str) (nb : Addr) (n : Now), vs = [.ref z.x, .str x, .ref nb] ∧ BkAt CB z r b S H ∧ NowT H nb n ∧ b.past.length ≤ 1000 ∧ ∀ H', BStep CB z r (recB x b n) S H H' → Q .non H'
theorem me_record (D : MethAt K CB "record" "Book.record" sBook_record ["self", "word", "now"]) (BC : BkCls K CB) : MeAt P w K mg base 1 CB "record" ["self", "word", "now"] (spRecord CB) := D.me fun f fd F => by
  have nd := scBook_record.nd
  refine F.ok scBook_record (fun vs H Q E h => ?_) (fun cdv A outer s H vs Q E hr h => ?_)
  · obtain ⟨z, r, b, S, x, nb, n, rfl, _⟩ := h; rfl
  obtain ⟨z, r, b, S, x, nb, n, rfl, hb, hn, hl, q⟩ := h
  refine ⟨_, (pss_cons (ps_expr (pe_bmK (K := K) rfl PySem.F.plainAttrs_list PySem.F.slot_list_append PySem.F.type_list_append mt_append (pe_fldK (K := K) rfl (pv 0) rfl) (pa_cons (pe_tup (pa_cons (pv 1) (pa_cons (pe_fldK (K := K) rfl (pv 0) rfl) (pa_cons (pv 2) pa_nil)))) pa_nil)))
 (pss_cons (ps_fld (pv 0) (pe_lst pa_nil) rfl)
 (pss_one (ps_fld (pv 0) (pv 2) rfl)))), ?_⟩
  obtain ⟨na, hx, lt⟩ := id hb.na
  obtain ⟨nw, ⟨as, p1, p2⟩, us, u1, u2⟩ := lt
  have w0 := hb.start hx p1 u1
  have lp : as.length = b.past.length := by have := p2.length; rw [ents_len] at this; exact this
  refine ⟨_, rfl, z.x, CB, z.dx, _, _, rfl, hx, BC.cl, BC.n3, bk_past, .inl ⟨rfl, _, SqL.of p1⟩, _, rfl, _, rfl, z.x, CB, z.dx, _, _, rfl, hx, BC.cl, BC.n2, bk_now, _, rfl, (by show 3 ≤ sizeLine; decide), fun t ht => ?_⟩
  have w1 := w0.new (.tup [V.str x, V.ref na, V.ref nb]) ht
  refine ⟨z.pl, _, _, rfl, rfl, w1.get 2 rfl, by rw [List.length_map]; exact lt_line (by omega), ?_⟩
  have w2 := w1.put 2 (.lst (as.map V.ref ++ [V.ref t])) rfl (fun _ q => by cases q)
  refine ⟨Nat.zero_le _, fun u hu => ?_⟩
  have w3 := w2.new (.lst []) hu
  refine ⟨_, rfl, z.x, CB, z.dx, _, rfl, w3.get 2 rfl, BC.cl, BC.n4, (by show 5 < 1000; decide), ?_⟩
  rw [bk_putUnd]
  have w4 := w3.put 2 (.ins CB z.dx (bkF { z with ul := u } na)) rfl (fun _ q => by cases q)
  refine ⟨_, rfl, _, rfl, z.x, CB, z.dx, _, rfl, w4.get 2 rfl, BC.cl, BC.n2, (by show 5 < 1000; decide), ?_⟩
  rw [bk_putNow]
  have w5 := w4.put 2 (.ins CB z.dx (bkF { z with ul := u } nb)) rfl (fun _ q => by cases q)
  refine q _ (hb.step z.pl u nb (w5.sub (List.nil_sublist _)) (w5.get 2 rfl) ⟨hn.keep w5.tups, ⟨as ++ [t], by rw [List.map_append]; exact w5.get 3 rfl, ?_⟩, [], w5.get 0 rfl, .nil⟩ (.inl rfl) (.inr (w2.free _ hu)) ?_)
  · show Paired (EntT _) (as ++ [t]) (ents (b.past ++ [(x, b.now)]) n)
    rw [ents_more]
    exact Paired.app (paired_imp (fun _ _ e => e.keep w5.tups) p2) (.cons ⟨na, nb, w5.get 1 rfl, nw.keep w5.tups, hn.keep w5.tups⟩ .nil)
  · exact ne_of_none (w2.get 2 rfl) hu
abbrev sBook_named : Stmt := inClass (topS 61) 3
theorem scBook_named : FnScope ["self", "person"] ["self", "person"] (defScope sBook_named) := ⟨rfl, rfl, rfl, by decide +kernel, rfl, by decide +kernel, by decide +kernel⟩
def nameV (r : Rota) : Option Int → V
  | none => .non
  | some p => .str (nm r p)
def spNamed (CB : Addr) : Sp := fun vs H Q _ => ∃ (z : Bz) (r : Rota) (b : Bst) (S : List (Str × Bst)) (d : Option Int), vs = [.ref z.x, dV d] ∧ BkAt CB z r b S H ∧ (∀ p, d = some p → 0 ≤ p ∧ p < r.names.length) ∧ Q (nameV r d) H
theorem me_named (D : MethAt K CB "named" "Book.named" sBook_named ["self", "person"]) (BC : BkCls K CB) : MeAt P w K mg base 1 CB "named" ["self", "person"] (spNamed CB) := D.me fun f fd F => by
  have nd := scBook_named.nd
  refine F.ok scBook_named (fun vs H Q E h => ?_) (fun cdv A outer s H vs Q E hr h => ?_)
  · obtain ⟨z, r, b, S, d, rfl, _⟩ := h; rfl
  obtain ⟨z, r, b, S, d, rfl, hb, hd, q⟩ := h
  refine ⟨_, (pss_one (ps_ret (pe_ifExp (pt_cmpR op_isN (pv 1) pe_non (nomark _)) pe_non (pe_ix (r := rIxT K) ix_tup (pe_ix (r := rIxT K) ix_tup (pe_fldK (K := K) rfl (pv 0) rfl) pe_int (fun _ _ => rfl)) (pv 1) (fun _ _ => rfl))))), ?_⟩
  obtain ⟨na, hx, lt⟩ := id hb.na
  obtain ⟨an, at_, aw, aa, am, as, h1, h2, h3, h4, h5, h6, h7⟩ := id hb.ro
  refine ⟨_, rfl, rfl, _, rfl, ?_⟩
  cases d with
  | none => exact iteT q
  | some p =>
    have hp := hd p rfl
    refine ite2 (fun h => absurd (of_decide_eq_true h) (by intro z; cases z)) (fun _ => ?_)
    refine ⟨_, rfl, z.x, CB, z.dx, _, _, rfl, hx, BC.cl, BC.n1, bk_parsed, z.p, _, 0, _, rfl, rfl, SqT.of h1, rfl, _, rfl, an, _, p, _, rfl, rfl, h2.sq, ?_, q⟩
    have e : p = ((p.toNat : Nat) : Int) := by omega
    rw [e]
    refine atI_nat ?_
    rw [List.getElem?_map, nm_mem hp.1 hp.2, ← e]; rfl
end
end Br

namespace Br
open PySem PySem.Spec PyProof.Rows L2
section
variable {P : Program} {w : World} {K : PySem.W.Frag} {mg : Str → Option Value} {base : Heap} {CB : Addr}
abbrev sBook_reset : Stmt := inClass (topS 61) 7
theorem scBook_reset : FnScope ["self"] ["self"] (defScope sBook_reset) := ⟨rfl, rfl, rfl, by decide +kernel, rfl, by decide +kernel, by decide +kernel⟩
def spReset (CB : Addr) : Sp := fun vs H Q _ => ∃ (z : Bz) (r : Rota) (b : Bst) (S : List (Str × Bst)), vs = [.ref z.x] ∧ ROk r ∧ BkAt CB z r b S H ∧ b.past.length ≤ 1000 ∧ ∀ H', BStep CB z r (recB "reset" b (now0 r)) S H H' → Q .non H'
theorem BStep.after {CB : Addr} {z : Bz} {r : Rota} {b' : Bst} {S : List (Str × Bst)} {H H1 H2 : Hp} (w : Wd [] H H1 []) (h : BStep CB z r b' S H1 H2) : BStep CB z r b' S H H2 := by
  obtain ⟨z', e, w2, o, k⟩ := h
  exact ⟨z', e, (w.mono fun _ h => nomatch h).fgo w2, fun a ha => (o a ha).imp id (w.free a), k⟩
theorem BkAt.keep0 {CB : Addr} {z : Bz} {r : Rota} {b : Bst} {S : List (Str × Bst)} {H H' : Hp} {l : List (Addr × HO)} (h : BkAt CB z r b S H) (w : Wd [] H H' l) : BkAt CB z r b S H' := h.keep w (fun _ h => nomatch h) Mu.nil
theorem me_reset (D : MethAt K CB "reset" "Book.reset" sBook_reset ["self"]) (BC : BkCls K CB) (cR : ∃ t, mg "RESET" = some (.str "reset" t)) (C1 : Cal P w K mg base 1 "first_state" ["parsed"] spFirst)
    (C2 : MeAt P w K mg base 1 CB "record" ["self", "word", "now"] (spRecord CB)) : MeAt P w K mg base 2 CB "reset" ["self"] (spReset CB) := D.me fun f fd F => by
  have nd := scBook_reset.nd
  have cl_Book := BC.cl
  obtain ⟨tR, c_RESET⟩ := cR
  obtain ⟨f1, fd1, m_first_state, kp_first_state, b_first_state, G_first_state⟩ := C1.ex
  obtain ⟨f2, fd2, me_record, b_record, G_record⟩ := C2.ex
  refine F.ok scBook_reset (fun vs H Q E h => ?_) (fun cdv A outer s H vs Q E hr h => ?_)
  · obtain ⟨z, r, b, S, rfl, _⟩ := h; rfl
  obtain ⟨z, r, b, S, rfl, ok, hb, hl, q⟩ := h
  refine ⟨_, (pss_one (ps_expr (pe_meth (pv 0) cl_Book me_record G_record (hr.mono (by first | decide | omega)) b_record .nil pass0 (pa_cons (pe_glob (v := .str "reset") (by rfl) c_RESET ⟨_, rfl⟩) (pa_cons (pe_tup (pa_cons (pe_call G_first_state (hr.mono (by first | decide | omega)) (by rfl) m_first_state kp_first_state b_first_state .nil pass0 (pa_cons (pe_fldK (K := K) rfl (pv 0) rfl) pa_nil)) (pa_cons pe_int (pa_cons (pe_tup pa_nil) pa_nil)))) pa_nil))))), ?_⟩
  obtain ⟨na, hx, lt⟩ := id hb.na
  refine ⟨_, rfl, z.x, z.dx, _, rfl, hx, bk_none (by decide +kernel), _, rfl, z.x, CB, z.dx, _, _, rfl, hx, BC.cl, BC.n1, bk_parsed, z.p, r, rfl, hb.ro, ok, fun H1 st o w1 h1 h2 => ?_⟩
  refine ⟨Nat.zero_le _, fun e he => ⟨(by show 3 ≤ sizeLine; decide), fun nb hnb => ?_⟩⟩
  have w2 := (w1.new (.tup []) he).new (.tup [V.ref st, V.int 0, V.ref e]) hnb
  have v2 := ((Wd.refl H1).new (.tup []) he).new (.tup [V.ref st, V.int 0, V.ref e]) hnb
  refine ⟨z, r, b, S, "reset", nb, now0 r, rfl, hb.keep0 w2, ⟨st, e, w2.get 0 rfl, ⟨o, v2.tups _ _ h1, v2.tups _ _ h2⟩, w2.get 1 rfl⟩, hl, fun H3 k => ?_⟩
  exact q _ (k.after (w2.sub (List.nil_sublist _)))
abbrev sBook_undo : Stmt := inClass (topS 61) 8
theorem scBook_undo : FnScope ["self", "entry"] ["self"] (defScope sBook_undo) := ⟨rfl, rfl, rfl, by decide +kernel, rfl, by decide +kernel, by decide +kernel⟩
def spUndo (CB : Addr) : Sp := fun vs H Q _ => ∃ (z : Bz) (r : Rota) (b : Bst) (S : List (Str × Bst)), vs = [.ref z.x] ∧ BOk r b ∧ BkAt CB z r b S H ∧ b.past.length ≤ 1000 ∧ b.und.length ≤ 1000 ∧
  match undoB b with
  | none => ∀ H', BStep CB z r b S H H' → Q (.bl false) H'
  | some b' => ∀ H', BStep CB z r b' S H H' → Q (.bl true) H'
theorem BStep.refl {CB : Addr} {z : Bz} {r : Rota} {b : Bst} {S : List (Str × Bst)} {H H' : Hp} (hb : BkAt CB z r b S H) (w : Wd [] H H' []) : BStep CB z r b S H H' :=
  ⟨z, rfl, w.mono (fun _ h => nomatch h), fun _ h => Or.inl h, hb.keep0 w⟩
theorem me_undo (D : MethAt K CB "undo" "Book.undo" sBook_undo ["self"]) (BC : BkCls K CB) : MeAt P w K mg base 1 CB "undo" ["self"] (spUndo CB) := D.me fun f fd F => by
  have nd := scBook_undo.nd
  refine F.ok scBook_undo (fun vs H Q E h => ?_) (fun cdv A outer s H vs Q E hr h => ?_)
  · obtain ⟨z, r, b, S, rfl, _⟩ := h; rfl
  obtain ⟨z, r, b, S, rfl, bo, hb, hl, hl2, q⟩ := h
  have hu := hr.units
  refine ⟨_, (pss_cons (ps_if (pt_cmpR (r := rEqN K) (op_eqNil2 hu) (pe_fldK (K := K) rfl (pv 0) rfl) (pe_lst pa_nil) (nomark _))
 (pss_one (ps_ret pe_bl))
 pss_nil)
 (pss_cons (ps_set (i := 1) nd rfl (Or.inl rfl) (pe_bm0 PySem.F.plainAttrs_list PySem.F.slot_list_pop PySem.F.type_list_pop mt_pop (pe_fldK (K := K) rfl (pv 0) rfl)))
 (pss_cons (ps_expr (pe_bmK (K := K) rfl PySem.F.plainAttrs_list PySem.F.slot_list_append PySem.F.type_list_append mt_append (pe_fldK (K := K) rfl (pv 0) rfl) (pa_cons (pv 1) pa_nil)))
 (pss_cons (ps_fld (pv 0) (pe_ix (r := rIxT K) ix_tup (pv 1) pe_int (fun _ _ => rfl)) rfl)
 (pss_one (ps_ret pe_bl)))))), ?_⟩
  obtain ⟨na, hx, lt⟩ := id hb.na
  obtain ⟨nw, ⟨as, p1, p2⟩, us, u1, u2⟩ := lt
  refine ⟨_, rfl, z.x, CB, z.dx, _, _, rfl, hx, BC.cl, BC.n3, bk_past, Nat.zero_le _, fun e he => ?_⟩
  have v1 := (Wd.refl H).new (.lst []) he
  have hb1 := hb.keep0 v1
  refine ⟨z.pl, e, _, rfl, rfl, SqL.of (v1.old p1 (by simp)), SqL.of (v1.get 0 rfl), _, rfl, ?_⟩
  unfold undoB at q
  cases hp : b.past.getLast? with
  | none =>
    rw [hp] at q
    have e0 : b.past = [] := List.getLast?_eq_none_iff.mp hp
    rw [e0] at p2
    cases p2
    exact iteT (q _ (BStep.refl hb (v1.sub (List.nil_sublist _))))
  | some y =>
    rw [hp] at q
    obtain ⟨l, hl3⟩ := List.getLast?_eq_some_iff.mp hp
    obtain ⟨yw, yb⟩ := y
    rw [hl3, ents_more] at p2
    obtain ⟨as', t, rfl, p3, b1, c1, t1, t2, t3⟩ := Paired.init p2
    have e0 : ((as' ++ [t]).map V.ref).isEmpty = false := by simp
    rw [e0]
    refine iteF ?_
    generalize upd H e (.lst []) = H1 at v1 hb1 ⊢
    have w0 := hb1.start (v1.old hx (by simp)) (v1.old p1 (by simp)) (v1.old u1 (by simp))
    have lp : as'.length = l.length := by have := p3.length; rw [ents_len] at this; exact this
    have lu : us.length = b.und.length := by have := u2.length; rw [List.length_map] at this; exact this
    have lb : b.past.length = l.length + 1 := by rw [hl3, List.length_append]; rfl
    refine ⟨_, rfl, z.x, CB, z.dx, _, _, rfl, w0.get 0 rfl, BC.cl, BC.n3, bk_past, .inl ⟨rfl, _, SqL.of (w0.get 1 rfl)⟩, z.pl, _, .ref t, rfl, rfl, w0.get 1 rfl, ?_, ?_⟩
    · rw [List.map_append, List.length_append, List.length_map]
      show (as'.map V.ref ++ [V.ref t])[as'.length + 1 - 1]? = _
      rw [Nat.add_sub_cancel, List.getElem?_append_right (by rw [List.length_map]; exact Nat.le_refl _), List.length_map, Nat.sub_self]; rfl
    have ed : ((as' ++ [t]).map V.ref).dropLast = as'.map V.ref := by rw [List.map_append]; exact List.dropLast_concat
    rw [ed]
    have w1 := w0.put 1 (.lst (as'.map V.ref)) rfl (fun _ q => by cases q)
    refine ⟨_, rfl, z.x, CB, z.dx, _, _, rfl, w1.get 0 rfl, BC.cl, BC.n4, bk_undone, .inl ⟨rfl, _, SqL.of (w1.get 2 rfl)⟩, _, rfl, z.ul, _, _, rfl, rfl, w1.get 2 rfl, by rw [List.length_map]; exact lt_line (by omega), ?_⟩
    have w2 := w1.put 2 (.lst (us.map V.ref ++ [V.ref t])) rfl (fun _ q => by cases q)
    refine ⟨_, rfl, t, _, 1, _, rfl, rfl, SqT.of (w2.tups _ _ (v1.tups _ _ t1)), rfl, _, rfl, z.x, CB, z.dx, _, rfl, w2.get 0 rfl, BC.cl, BC.n2, (by show 5 < 1000; decide), ?_⟩
    rw [bk_putNow]
    have w3 := w2.put 0 (.ins CB z.dx (bkF z b1)) rfl (fun _ q => by cases q)
    have kt : ∀ b xs, H b = some (.tup xs) → _ = some (HO.tup xs) := fun b xs h => w3.tups b xs (v1.tups b xs h)
    refine q _ ((hb1.step (b' := ⟨yb, b.past.dropLast, b.und ++ [((yw, yb), b.now)]⟩) z.pl z.ul b1 (w3.sub (List.nil_sublist _)) (w3.get 0 rfl) ⟨t2.keep kt, ⟨as', w3.get 1 rfl, ?_⟩, us ++ [t], by rw [List.map_append]; exact w3.get 2 rfl, ?_⟩ (.inl rfl) (.inl rfl) hb.ne).after (v1.sub (List.nil_sublist _)))
    · show Paired _ as' (ents b.past.dropLast yb)
      rw [hl3, List.dropLast_concat]
      exact paired_imp (fun _ _ e => e.keep kt) p3
    · show Paired _ (us ++ [t]) ((b.und ++ [((yw, yb), b.now)]).map fun e => (e.1.1, e.1.2, e.2))
      rw [List.map_append]
      exact Paired.app (paired_imp (fun _ _ e => e.keep kt) u2) (.cons ⟨b1, c1, kt _ _ t1, t2.keep kt, t3.keep kt⟩ .nil)
abbrev sBook_redo : Stmt := inClass (topS 61) 9
theorem scBook_redo : FnScope ["self", "entry"] ["self"] (defScope sBook_redo) := ⟨rfl, rfl, rfl, by decide +kernel, rfl, by decide +kernel, by decide +kernel⟩
def spRedo (CB : Addr) : Sp := fun vs H Q _ => ∃ (z : Bz) (r : Rota) (b : Bst) (S : List (Str × Bst)), vs = [.ref z.x] ∧ BOk r b ∧ BkAt CB z r b S H ∧ b.past.length ≤ 1000 ∧ b.und.length ≤ 1000 ∧
  match redoB b with
  | none => ∀ H', BStep CB z r b S H H' → Q (.bl false) H'
  | some b' => ∀ H', BStep CB z r b' S H H' → Q (.bl true) H'
theorem me_redo (D : MethAt K CB "redo" "Book.redo" sBook_redo ["self"]) (BC : BkCls K CB) : MeAt P w K mg base 1 CB "redo" ["self"] (spRedo CB) := D.me fun f fd F => by
  have nd := scBook_redo.nd
  refine F.ok scBook_redo (fun vs H Q E h => ?_) (fun cdv A outer s H vs Q E hr h => ?_)
  · obtain ⟨z, r, b, S, rfl, _⟩ := h; rfl
  obtain ⟨z, r, b, S, rfl, bo, hb, hl, hl2, q⟩ := h
  have hu := hr.units
  refine ⟨_, (pss_cons (ps_if (pt_cmpR (r := rEqN K) (op_eqNil2 hu) (pe_fldK (K := K) rfl (pv 0) rfl) (pe_lst pa_nil) (nomark _))
 (pss_one (ps_ret pe_bl))
 pss_nil)
 (pss_cons (ps_set (i := 1) nd rfl (Or.inl rfl) (pe_bm0 PySem.F.plainAttrs_list PySem.F.slot_list_pop PySem.F.type_list_pop mt_pop (pe_fldK (K := K) rfl (pv 0) rfl)))
 (pss_cons (ps_expr (pe_bmK (K := K) rfl PySem.F.plainAttrs_list PySem.F.slot_list_append PySem.F.type_list_append mt_append (pe_fldK (K := K) rfl (pv 0) rfl) (pa_cons (pv 1) pa_nil)))
 (pss_cons (ps_fld (pv 0) (pe_ix (r := rIxT K) ix_tup (pv 1) pe_int (fun _ _ => rfl)) rfl)
 (pss_one (ps_ret pe_bl)))))), ?_⟩
  obtain ⟨na, hx, lt⟩ := id hb.na
  obtain ⟨nw, ⟨as, p1, p2⟩, us, u1, u2⟩ := lt
  refine ⟨_, rfl, z.x, CB, z.dx, _, _, rfl, hx, BC.cl, BC.n4, bk_undone, Nat.zero_le _, fun e he => ?_⟩
  have v1 := (Wd.refl H).new (.lst []) he
  have hb1 := hb.keep0 v1
  refine ⟨z.ul, e, _, rfl, rfl, SqL.of (v1.old u1 (by simp)), SqL.of (v1.get 0 rfl), _, rfl, ?_⟩
  unfold redoB at q
  cases hp : b.und.getLast? with
  | none =>
    rw [hp] at q
    have e0 : b.und = [] := List.getLast?_eq_none_iff.mp hp
    unfold unds at u2
    rw [e0] at u2
    cases u2
    exact iteT (q _ (BStep.refl hb (v1.sub (List.nil_sublist _))))
  | some y =>
    rw [hp] at q
    obtain ⟨l, hl3⟩ := List.getLast?_eq_some_iff.mp hp
    obtain ⟨⟨yw, yb⟩, ya⟩ := y
    have eyb : yb = b.now := by
      have := bo.ch
      rw [hl3, List.reverse_append] at this
      exact this.1
    subst eyb
    unfold unds at u2
    rw [hl3, List.map_append] at u2
    obtain ⟨us', t, rfl, u3, b1, c1, t1, t2, t3⟩ := Paired.init u2
    have e0 : ((us' ++ [t]).map V.ref).isEmpty = false := by simp
    rw [e0]
    refine iteF ?_
    generalize upd H e (.lst []) = H1 at v1 hb1 ⊢
    have w0 := hb1.start (v1.old hx (by simp)) (v1.old p1 (by simp)) (v1.old u1 (by simp))
    have lp : as.length = b.past.length := by have := p2.length; rw [ents_len] at this; exact this
    refine ⟨_, rfl, z.x, CB, z.dx, _, _, rfl, w0.get 0 rfl, BC.cl, BC.n4, bk_undone, .inl ⟨rfl, _, SqL.of (w0.get 2 rfl)⟩, z.ul, _, .ref t, rfl, rfl, w0.get 2 rfl, ?_, ?_⟩
    · rw [List.map_append, List.length_append, List.length_map]
      show (us'.map V.ref ++ [V.ref t])[us'.length + 1 - 1]? = _
      rw [Nat.add_sub_cancel, List.getElem?_append_right (by rw [List.length_map]; exact Nat.le_refl _), List.length_map, Nat.sub_self]; rfl
    have ed : ((us' ++ [t]).map V.ref).dropLast = us'.map V.ref := by rw [List.map_append]; exact List.dropLast_concat
    rw [ed]
    have w1 := w0.put 2 (.lst (us'.map V.ref)) rfl (fun _ q => by cases q)
    refine ⟨_, rfl, z.x, CB, z.dx, _, _, rfl, w1.get 0 rfl, BC.cl, BC.n3, bk_past, .inl ⟨rfl, _, SqL.of (w1.get 1 rfl)⟩, _, rfl, z.pl, _, _, rfl, rfl, w1.get 1 rfl, by rw [List.length_map]; exact lt_line (by omega), ?_⟩
    have w2 := w1.put 1 (.lst (as.map V.ref ++ [V.ref t])) rfl (fun _ q => by cases q)
    refine ⟨_, rfl, t, _, 2, _, rfl, rfl, SqT.of (w2.tups _ _ (v1.tups _ _ t1)), rfl, _, rfl, z.x, CB, z.dx, _, rfl, w2.get 0 rfl, BC.cl, BC.n2, (by show 5 < 1000; decide), ?_⟩
    rw [bk_putNow]
    have w3 := w2.put 0 (.ins CB z.dx (bkF z c1)) rfl (fun _ q => by cases q)
    have kt : ∀ b xs, H b = some (.tup xs) → _ = some (HO.tup xs) := fun b xs h => w3.tups b xs (v1.tups b xs h)
    refine q _ ((hb1.step (b' := ⟨ya, b.past ++ [(yw, b.now)], b.und.dropLast⟩) z.pl z.ul c1 (w3.sub (List.nil_sublist _)) (w3.get 0 rfl) ⟨t3.keep kt, ⟨as ++ [t], by rw [List.map_append]; exact w3.get 1 rfl, ?_⟩, us', w3.get 2 rfl, ?_⟩ (.inl rfl) (.inl rfl) hb.ne).after (v1.sub (List.nil_sublist _)))
    · show Paired _ (as ++ [t]) (ents (b.past ++ [(yw, b.now)]) ya)
      rw [ents_more]
      exact Paired.app (paired_imp (fun _ _ e => e.keep kt) p2) (.cons ⟨b1, c1, kt _ _ t1, t2.keep kt, t3.keep kt⟩ .nil)
    · show Paired _ us' (b.und.dropLast.map fun e => (e.1.1, e.1.2, e.2))
      rw [hl3, List.dropLast_concat]
      exact paired_imp (fun _ _ e => e.keep kt) u3
end
end Br

namespace Br
open PySem PySem.Spec PyProof.Rows L2
/-! ### is_int_in; a plain own exception -/
/-- an own exception class without an __init__, ready to be raised -/
structure ExPl (K : PySem.W.Frag) (mg : Str → Option Value) (x : Str) (C : Addr) : Prop where
  q : PySem.W.excIn K C [.type "ValueError", .type "Exception", .type "BaseException", .type "object"] "ValueError.__new__" = true
  g : mg x = some (.ref C)
  k : PySem.W.keepIn K (.ref C) = true
  b : PySem.W.subIn K (.ref C) (.type "BaseException") = some true
  t : PySem.W.typeIn K (.ref C) = some (.type "type")
theorem ExPl.r {X : Cx} {x : Str} {C : Addr} (E : ExPl X.K X.mg x C) : Raises X (.ref C) := raises_own E.b E.t
section
variable {P : Program} {w : World} {K : PySem.W.Frag} {mg : Str → Option Value} {base : Heap}
abbrev sis_int_in : Stmt := topS 44
theorem scis_int_in : FnScope ["value", "low", "high"] ["value", "low", "high"] (defScope sis_int_in) := ⟨rfl, rfl, rfl, by decide +kernel, rfl, by decide +kernel, by decide +kernel⟩
theorem intIn_int (lo hi i : Int) : intIn lo hi (.int i) = (decide (lo ≤ i) && decide (i ≤ hi)) := rfl
def spIntIn : Sp := fun vs H Q _ => ∃ (x : V) (t : String) (lo hi : Int), vs = [x, .int lo, .int hi] ∧ Ky H x t ∧ Q (.bl (intIn lo hi x)) H
theorem cal_intIn (D : DefAt K mg "is_int_in" sis_int_in ["value", "low", "high"]) (T : Bi mg) : Cal P w K mg base 1 "is_int_in" ["value", "low", "high"] spIntIn := D.cal fun f fd F => by
  have nd := scis_int_in.nd
  refine F.ok scis_int_in (fun vs H Q E h => ?_) (fun cdv A outer s H vs Q E hr h => ?_)
  · obtain ⟨x, t, lo, hi, rfl, _⟩ := h; rfl
  obtain ⟨x, t, lo, hi, rfl, hk, q⟩ := h
  refine ⟨_, (pss_one (ps_ret (pe_and (pe_callB call_isi (by rfl) T.isinstance (by decide +kernel) (pa_cons (pv 0) (pa_cons (pe_bltn (v := .ty "int") (by rfl) T.int (by decide +kernel) rfl) pa_nil))) (pe_and (pe_not (pe_callB call_isi (by rfl) T.isinstance (by decide +kernel) (pa_cons (pv 0) (pa_cons (pe_bltn (v := .ty "bool") (by rfl) T.bool (by decide +kernel) rfl) pa_nil)))) (pe_one (pe_chain op_le op_le (pv 1) (pv 0) (pv 2))))))), ?_⟩
  have k1 := kit_is (K := K) hk.mem (T := "int") (by decide)
  have k2 := kit_is (K := K) hk.mem (T := "bool") (by decide)
  refine ⟨_, rfl, _, _, _, .type "int", _, rfl, .ty "int", hk.ty, k1, _, rfl, ite2 (fun h1 => ?_) (fun h1 => ?_)⟩
  · refine ⟨_, rfl, _, _, _, .type "bool", _, rfl, .ty "bool", hk.ty, k2, _, rfl, _, rfl, ite2 (fun h2 => ?_) (fun h2 => ?_)⟩
    · cases hk with
      | int i =>
        refine ⟨_, rfl, _, rfl, _, _, rfl, rfl, _, rfl, ite2 (fun h3 => ?_) (fun h3 => ?_)⟩
        · refine ⟨_, rfl, _, _, rfl, rfl, ?_⟩
          have e : intIn lo hi (.int i) = decide (i ≤ hi) := by rw [intIn_int, h3, Bool.true_and]
          rw [e] at q; exact q
        · have e : intIn lo hi (.int i) = false := by rw [intIn_int, Bool.eq_false_iff.mpr h3]; rfl
          rw [e] at q; exact q
      | bl b => exact absurd h2 (by decide)
      | non => exact absurd h1 (by decide)
      | str z => exact absurd h1 (by decide)
      | lst h => exact absurd h1 (by decide)
      | tup h => exact absurd h1 (by decide)
    · cases hk with
      | bl b => exact q
      | int i => exact absurd rfl h2
      | non => exact q
      | str z => exact q
      | lst h => exact q
      | tup h => exact q
  · cases hk with
    | bl b => exact absurd rfl h1
    | int i => exact absurd rfl h1
    | non => exact q
    | str z => exact q
    | lst h => exact q
    | tup h => exact q
end
end Br

namespace Br
open PySem PySem.Spec PyProof.Rows L2
/-! ### the person of a name -/
def personOf (r : Rota) : V → Option Int
  | .str z => (r.names.findIdx? fun y => decide (y = z)).map Int.ofNat
  | _ => none
theorem personOf_in {r : Rota} {v : V} {p : Int} (h : personOf r v = some p) : 0 ≤ p ∧ p < r.names.length ∧ v = .str (nm r p) := by
  cases v with
  | str z =>
    unfold personOf at h
    obtain ⟨i, hi, rfl⟩ := Option.map_eq_some_iff.mp h
    obtain ⟨h1, h2, _⟩ := List.findIdx?_eq_some_iff_getElem.mp hi
    refine ⟨by simp, by simp [h1], ?_⟩
    have e := of_decide_eq_true h2
    have := nm_mem (r := r) (k := Int.ofNat i) (by simp) (by simp [h1])
    rw [show (Int.ofNat i).toNat = i from rfl, List.getElem?_eq_getElem h1, e] at this
    rw [Option.some.inj this]
  | _ => cases h
theorem personOf_nm {r : Rota} (ok : ROk r) {p : Int} (h0 : 0 ≤ p) (h1 : p < r.names.length) : personOf r (.str (nm r p)) = some p := by
  have hm := nm_mem (r := r) h0 h1
  have hl : p.toNat < r.names.length := by omega
  have : (r.names.findIdx? fun y => decide (y = nm r p)) = some p.toNat := by
    refine List.findIdx?_eq_some_iff_getElem.mpr ⟨hl, ?_, fun j hj => ?_⟩
    · rw [List.getElem?_eq_getElem hl] at hm
      exact decide_eq_true (Option.some.inj hm)
    · have hjl : j < r.names.length := by omega
      rw [List.getElem?_eq_getElem hl] at hm
      have e := Option.some.inj hm
      simp only [Bool.not_eq_true, decide_eq_false_iff_not]
      intro e2
      have := (List.getElem_inj ok.nd (h₀ := hjl) (h₁ := hl)).mp (e2.trans e.symm)
      omega
  show (r.names.findIdx? fun y => decide (y = nm r p)).map Int.ofNat = some p
  rw [this]
  show some ((p.toNat : Nat) : Int) = some p
  rw [Int.toNat_of_nonneg h0]
section
variable {P : Program} {w : World} {K : PySem.W.Frag} {mg : Str → Option Value} {base : Heap} {CB CU CC CN : Addr}
abbrev sperson_number : Stmt := topS 45
theorem scperson_number : FnScope ["parsed", "name"] ["parsed", "name"] (defScope sperson_number) := ⟨rfl, rfl, rfl, by decide +kernel, rfl, by decide +kernel, by decide +kernel⟩
def spPersonN (CU : Addr) : Sp := fun vs H Q E => ∃ (a : Addr) (r : Rota) (v : V) (t : String), vs = [.ref a, v] ∧ RotaAt H a r ∧ ROk r ∧ Ky H v t ∧ match personOf r v with
  | some p => ∀ H', Wd [] H H' [] → Q (.int p) H'
  | none => ∀ H', Wd [] H H' [] → E (.ref CU) none H'
end
end Br

namespace Br
open PySem PySem.Spec PyProof.Rows L2
/-- the book's next state, and a new object of the caller's own -/
def BStepN (CB : Addr) (z : Bz) (r : Rota) (b' : Bst) (S' : List (Str × Bst)) (H H' : Hp) (p : Addr) (o : HO) : Prop :=
  ∃ z' : Bz, z'.x = z.x ∧ Wd z.own H H' [(p, o)] ∧ (∀ a ∈ z'.own, a ∈ z.own ∨ H a = none) ∧ H p = none ∧ p ∉ z'.own ∧ BkAt CB z' r b' S' H'
/-- intIn, said back -/
theorem intIn_ex {lo hi : Int} {v : V} (h : intIn lo hi v = true) : ∃ i, v = .int i ∧ lo ≤ i ∧ i ≤ hi := by
  cases v with
  | int i =>
    have := h
    unfold intIn at this
    rw [Bool.and_eq_true] at this
    exact ⟨i, rfl, of_decide_eq_true this.1, of_decide_eq_true this.2⟩
  | _ => cases h
theorem Wd.put0L {H : Hp} {a : Addr} {xs ys : List V} (w : Wd [] H H []) (h : H a = some (.lst xs)) : Wd [a] H (upd H a (.lst ys)) [] :=
  ((Wd.start1 h).put 0 (.lst ys) rfl (fun _ q => by cases q)).sub (List.nil_sublist _)
theorem Wd.callN {M : List Addr} {H0 H H' : Hp} {l : List (Addr × HO)} (w : Wd M H0 H []) (c : Wd [] H H' l) : Wd M H0 H' l := by
  have := w.call0 c
  rwa [List.append_nil] at this
section
variable {P : Program} {w : World} {K : PySem.W.Frag} {mg : Str → Option Value} {base : Heap} {CB CU CC CN : Addr}
abbrev sBook_step : Stmt := inClass (topS 61) 4
theorem scBook_step : FnScope ["self", "count", "state", "tick", "doers", "found", "turn", "person"] ["self", "count"] (defScope sBook_step) := ⟨rfl, rfl, rfl, by decide +kernel, rfl, by decide +kernel, by decide +kernel⟩
def spStep (CB CC : Addr) : Sp := fun vs H Q E => ∃ (z : Bz) (r : Rota) (b : Bst) (S : List (Str × Bst)) (v : V) (t : String), vs = [.ref z.x, v] ∧ ROk r ∧ BOk r b ∧ BkAt CB z r b S H ∧ Ky H v t ∧ b.past.length ≤ 1000 ∧ b.now.d.length ≤ 50000 ∧
  (intIn 0 500 v = false → ∀ H', Wd [] H H' [] → E (.ref CC) none H') ∧
  ∀ k : Nat, v = .int (k : Int) → k ≤ 500 → ∀ H' p, BStepN CB z r (recB "step" b (stepN r k b.now)) S H H' p (.lst ((found r k b.now).map (nameV r))) → Q (.ref p) H'
end
end Br

namespace Br
open PySem PySem.Spec PyProof.Rows L2
section
variable {P : Program} {w : World} {K : PySem.W.Frag} {mg : Str → Option Value} {base : Heap} {CB CU CC CN : Addr}
theorem owes_set {o : List Int} {p x : Int} (h0 : 0 ≤ p) (h1 : p.toNat < o.length) : owes (o.set p.toNat x) p = x := by
  unfold owes
  rw [List.getD_eq_getElem?_getD, List.getElem?_set_self h1]; rfl
abbrev sBook_gift : Stmt := inClass (topS 61) 5
theorem scBook_gift : FnScope ["self", "name", "person", "spot", "owed", "tick", "doers"] ["self", "name"] (defScope sBook_gift) := ⟨rfl, rfl, rfl, by decide +kernel, rfl, by decide +kernel, by decide +kernel⟩
def spGift (CB CU CN : Addr) : Sp := fun vs H Q E => ∃ (z : Bz) (r : Rota) (b : Bst) (S : List (Str × Bst)) (v : V) (t : String), vs = [.ref z.x, v] ∧ ROk r ∧ BOk r b ∧ BkAt CB z r b S H ∧ Ky H v t ∧ b.past.length ≤ 1000 ∧ b.now.d.length ≤ 50000 ∧
  match personOf r v with
  | none => ∀ H', Wd [] H H' [] → E (.ref CU) none H'
  | some p => (p ∉ homes r b.now.t → ∀ H', Wd [] H H' [] → E (.ref CN) none H') ∧ (p ∈ homes r b.now.t → ∀ H', BStep CB z r (recB "gift" b (giftN p b.now)) S H H' → Q (.int (less (owes b.now.o p))) H')
abbrev sBook_forgive : Stmt := inClass (topS 61) 6
theorem scBook_forgive : FnScope ["self", "name", "person", "spot", "owed", "tick", "doers", "left"] ["self", "name"] (defScope sBook_forgive) := ⟨rfl, rfl, rfl, by decide +kernel, rfl, by decide +kernel, by decide +kernel⟩
def spForgive (CB CU : Addr) : Sp := fun vs H Q E => ∃ (z : Bz) (r : Rota) (b : Bst) (S : List (Str × Bst)) (v : V) (t : String), vs = [.ref z.x, v] ∧ ROk r ∧ BOk r b ∧ BkAt CB z r b S H ∧ Ky H v t ∧ b.past.length ≤ 1000 ∧
  match personOf r v with
  | none => ∀ H', Wd [] H H' [] → E (.ref CU) none H'
  | some p => ∀ H', BStep CB z r (recB "forgive" b (forgiveN p b.now)) S H H' → Q (.int (owes b.now.o p)) H'
end
end Br

namespace Br
open PySem PySem.Spec PyProof.Rows L2
def bst0 (r : Rota) : Bst := ⟨now0 r, [], []⟩
theorem bst0_ok {r : Rota} (ok : ROk r) : BOk r (bst0 r) := ⟨now0_ok ok, fun _ h => (nomatch h), fun _ h => (nomatch h), trivial⟩
section
variable {P : Program} {w : World} {K : PySem.W.Frag} {mg : Str → Option Value} {base : Heap} {CB CU CC CN : Addr}
abbrev sBook___init__ : Stmt := inClass (topS 61) 0
theorem scBook___init__ : FnScope ["self", "rota"] ["self", "rota"] (defScope sBook___init__) := ⟨rfl, rfl, rfl, by decide +kernel, rfl, by decide +kernel, by decide +kernel⟩
def spBookI (CB : Addr) : Sp := fun vs H Q _ => ∃ (x dx : Addr) (z : Str) (r : Rota) (S : List Stm), vs = [.ref x, .str z] ∧ H x = some (.ins CB dx []) ∧ Says z r S ∧
  ∀ (zb : Bz) (H' : Hp), zb.x = x → Wd [x] H H' [] → (∀ a ∈ zb.own, a = x ∨ H a = none) → BkAt CB zb r (bst0 r) [] H' → Q .non H'
abbrev sBook_ticks : Stmt := inClass (topS 61) 10
structure PrAt (P : Program) (w : World) (K : PySem.W.Frag) (mg : Str → Option Value) (base : Heap) (k : Nat) (C : Addr) (m : Str) (sp : Sp) : Prop where
  ex : ∃ (p g : Addr) (fd : FuncData), PropOf K C m p g ∧ FnOk P w K mg base CX0 k g fd ["self"] sp ∧ Binds K fd ["self"] []
structure PropAt (K : PySem.W.Frag) (C : Addr) (m q : Str) (st : Stmt) : Prop where
  ex : ∃ (p g : Addr) (fd : FuncData), PropOf K C m p g ∧ Fun K m q st g fd ∧ Binds K fd ["self"] []
def spTicks (CB : Addr) : Sp := fun vs H Q _ => ∃ (z : Bz) (r : Rota) (b : Bst) (S : List (Str × Bst)), vs = [.ref z.x] ∧ BkAt CB z r b S H ∧ Q (.int (b.now.t : Int)) H
def spEntries (CB : Addr) : Sp := fun vs H Q _ => ∃ (z : Bz) (r : Rota) (b : Bst) (S : List (Str × Bst)), vs = [.ref z.x] ∧ BOk r b ∧ BkAt CB z r b S H ∧ b.now.d.length ≤ 1000 ∧ ∀ H' p, Wd [] H H' [(p, .lst (b.now.d.map (nameV r)))] → Q (.ref p) H'
abbrev sBook_operations : Stmt := inClass (topS 61) 13
def spOps (CB : Addr) : Sp := fun vs H Q _ => ∃ (z : Bz) (r : Rota) (b : Bst) (S : List (Str × Bst)), vs = [.ref z.x] ∧ BkAt CB z r b S H ∧ b.past.length ≤ 1000 ∧ ∀ H' p, Wd [] H H' [(p, .lst (b.past.map fun e => V.str e.1))] → Q (.ref p) H'
end
end Br

/-! dict(zip(t, u)) of two tuples. -/
namespace Br
open PySem PySem.Spec PyProof.Rows L2
section
variable {prog : Program} {w : World} {A : Around} {E : Value → Shared → Prop} {s : Shared}
end
section
variable {prog : Program} {w : World}
/-- what the pairs' walk keeps -/
def ZtSt (z TI TO i j a b d : Addr) (xs ys : Array Value) (k : Nat) (h : Heap) : Prop := IsPair h TI (.ref i) (.ref j) ∧ h.IsTupleIter i a k ∧ h.IsTupleIter j b k ∧ h.IsTuple a xs ∧ h.IsTuple b ys ∧
  ((IsZip h z TI TO .none ∧ ∃ u v, IsPair h TO u v) ∨ ∃ T f oT, IsZipHeld h z TI TO T f ∧ h.get? T = some oT ∧ T ≠ z ∧ T ≠ i ∧ T ≠ j ∧ T ≠ d)
end
section
variable {X : Cx} {e1 e2 : Expr} {ta : TA} {p p2 pos pos2 : Pos}
abbrev strKeys (ks : List Str) : List Key := ks.map fun k => (Sum.inr k : Key)
/-- dict(zip(t, u)): t a tuple of texts, u a tuple of as many things -/
def tDictZip (K : PySem.W.Frag) (ta : TA) : TE := fun σ H Q => ta σ H fun vs H1 => ∃ (a b : Addr) (ks : List Str) (us : List V), vs = [.ref a, .ref b] ∧ SqT K H1 a (ks.map V.str) ∧ SqT K H1 b us ∧ ks.length = us.length ∧
  ∀ d, H1 d = none → Q (.ref d) (upd H1 d (.dK (mergeK [] ((strKeys ks).zip us))))
end
end Br

namespace Br
open PySem PySem.Spec PyProof.Rows L2
/-- what everybody owes, as the dict's pairs -/
def dbt (r : Rota) (o : List Int) : List (Key × V) := (strKeys r.names).zip (o.map V.int)
section
variable {P : Program} {w : World} {K : PySem.W.Frag} {mg : Str → Option Value} {base : Heap} {CB : Addr}
def spDebts (CB : Addr) : Sp := fun vs H Q _ => ∃ (z : Bz) (r : Rota) (b : Bst) (S : List (Str × Bst)), vs = [.ref z.x] ∧ ROk r ∧ BOk r b ∧ BkAt CB z r b S H ∧ ∀ d, H d = none → Q (.ref d) (upd H d (.dK (dbt r b.now.o)))
end
end Br

namespace Br
open PySem PySem.Spec PyProof.Rows L2
/-! ### the law's own book: lists that nobody changes, outside of M -/
def Msk (M : List Addr) (H : Hp) : Hp := fun a => if a ∈ M then none else H a
def Al (M : List Addr) (H : Hp) : Prop := ∀ a ∈ M, H a ≠ none
theorem Msk.mk {M : List Addr} {H : Hp} {a : Addr} {o : HO} (h : a ∉ M) (e : H a = some o) : Msk M H a = some o := by
  unfold Msk; rw [if_neg h]; exact e
def LStT (G : Hp) (a : Addr) (s : Nat) (o : List Int) : Prop := ∃ b : Addr, G a = some (.tup [.int (s : Int), .ref b]) ∧ G b = some (.lst (o.map V.int))
def LNow (G : Hp) (r : Rota) (a : Addr) (n : Now) : Prop := ∃ st d : Addr, G a = some (.tup [.ref st, .int (n.t : Int), .ref d]) ∧ LStT G st n.s n.o ∧ G d = some (.lst (n.d.map (nameV r)))
def LEnt (G : Hp) (r : Rota) (a : Addr) (e : Str × Now) : Prop := ∃ b : Addr, G a = some (.tup [.str e.1, .ref b]) ∧ LNow G r b e.2
def LUnd (G : Hp) (r : Rota) (a : Addr) (e : (Str × Now) × Now) : Prop := ∃ b c : Addr, G a = some (.tup [.ref b, .ref c]) ∧ LEnt G r b e.1 ∧ LNow G r c e.2
structure LW (G : Hp) (r : Rota) (a : Addr) (b : Bst) : Prop where
  ex : ∃ (ra na pl ul : Addr) (as us : List Addr), G a = some (.lst [.ref ra, .ref na, .ref pl, .ref ul]) ∧ RotaAt G ra r ∧ LNow G r na b.now ∧ G pl = some (.lst (as.map V.ref)) ∧ Paired (LEnt G r) as b.past ∧ G ul = some (.lst (us.map V.ref)) ∧ Paired (LUnd G r) us b.und
section
variable {G G' : Hp} {r : Rota} {a : Addr}
end
/-! ### who is at home, twice -/
def awayL (r : Rota) (t : Int) : List Int := (r.aways.filter fun a => decide (t.fmod a.2.2 = a.2.1)).map fun a => a.1
section
variable {P : Program} {w : World} {K : PySem.W.Frag} {mg : Str → Option Value} {base : Heap}
def spLNamed : Sp := fun vs H Q _ => ∃ (a : Addr) (r : Rota) (d : Option Int), vs = [.ref a, dV d] ∧ RotaAt H a r ∧ (∀ p, d = some p → 0 ≤ p ∧ p < r.names.length) ∧ Q (nameV r d) H
end
end Br

namespace Br
open PySem PySem.Spec PyProof.Rows L2
section
variable {P : Program} {w : World} {K : PySem.W.Frag} {mg : Str → Option Value} {base : Heap}
def spLTick : Sp := fun vs H Q _ => ∃ (a st : Addr) (r : Rota) (s : Nat) (o : List Int) (t : Int) (M : List Addr), vs = [.ref a, .ref st, .int t] ∧ Al M H ∧ RotaAt H a r ∧ ROk r ∧ LStT H st s o ∧ s < r.turns.length ∧ OwOk r o ∧
  ∀ H' p st', Wd [] H H' [] → H' p = some (.tup [.ref st', dV (tickF r s o t).2.2]) → LStT (Msk M H') st' (tickF r s o t).1 (tickF r s o t).2.1 → Q (.ref p) H'
end
end Br

namespace Br
open PySem PySem.Spec PyProof.Rows L2
/-! ### operations -/
inductive Op where
  | step (k : Nat)
  | gift (z : Str)
  | forgive (z : Str)
  | reset
  | undo
  | redo
def opL : Op → List V
  | .step k => [.str "step", .int (k : Int)]
  | .gift z => [.str "gift", .str z]
  | .forgive z => [.str "forgive", .str z]
  | .reset => [.str "reset"]
  | .undo => [.str "undo"]
  | .redo => [.str "redo"]
def OpOk (r : Rota) : Op → Prop
  | .step k => k ≤ 999
  | .gift z => NmF z
  | .forgive z => NmF z
  | _ => True
inductive Res where
  | non
  | bl (b : Bool)
  | int (i : Int)
  | nms (l : List (Option Int))
def giftR (r : Rota) (n : Now) : Option Int → Except Str (Res × Now)
  | none => .error "person"
  | some p => if p ∈ homes r n.t then .ok (.int (less (owes n.o p)), giftN p n) else .error "nobody"
def forgiveR (n : Now) : Option Int → Except Str (Res × Now)
  | none => .error "person"
  | some p => .ok (.int (owes n.o p), forgiveN p n)
/-- a step, a gift, a forgiving or a return: its error or its result and the new state -/
def workOn (r : Rota) (n : Now) : Op → Except Str (Res × Now)
  | .step k => if 500 < k then .error "count" else .ok (.nms (found r k n), stepN r k n)
  | .gift z => giftR r n (personOf r (.str z))
  | .forgive z => forgiveR n (personOf r (.str z))
  | .reset => .ok (.non, now0 r)
  | .undo => .error "other"
  | .redo => .error "other"
def ResT (G : Hp) (r : Rota) : Res → V → Prop
  | .non, v => v = .non
  | .bl b, v => v = .bl b
  | .int i, v => v = .int i
  | .nms l, v => ∃ p : Addr, v = .ref p ∧ G p = some (.lst (l.map (nameV r)))
section
variable {P : Program} {w : World} {K : PySem.W.Frag} {mg : Str → Option Value} {base : Heap}
def spLWorkOn : Sp := fun vs H Q _ => ∃ (a na oa : Addr) (r : Rota) (n : Now) (op : Op) (M : List Addr), vs = [.ref a, .ref na, .ref oa] ∧ Al M H ∧ RotaAt H a r ∧ ROk r ∧ LNow (Msk M H) r na n ∧ NowOk r n ∧ H oa = some (.tup (opL op)) ∧ OpOk r op ∧ op ≠ .undo ∧ op ≠ .redo ∧ n.d.length ≤ 1000 ∧
  match workOn r n op with
  | .error e => ∀ H' p nb, Wd [] H H' [] → H' p = some (.tup [.str e, .int 0, .ref nb]) → Q (.ref p) H'
  | .ok (x, n') => ∀ H' p v nb, Wd [] H H' [] → H' p = some (.tup [.str "", v, .ref nb]) → ResT (Msk M H') r x v → LNow (Msk M H') r nb n' → Q (.ref p) H'
end
end Br

namespace Br
open PySem PySem.Spec PyProof.Rows L2
def opWord : Op → Str
  | .step _ => "step"
  | .gift _ => "gift"
  | .forgive _ => "forgive"
  | .reset => "reset"
  | .undo => "undo"
  | .redo => "redo"
/-- an operation's error, or its result and the new state -/
def undoR (b : Bst) : Option Bst → Except Str (Res × Bst)
  | none => .ok (.bl false, b)
  | some b' => .ok (.bl true, b')
def recR (w : Str) (b : Bst) : Except Str (Res × Now) → Except Str (Res × Bst)
  | .error e => .error e
  | .ok (x, n) => .ok (x, recB w b n)
def doOp (r : Rota) (b : Bst) : Op → Except Str (Res × Bst)
  | .undo => undoR b (undoB b)
  | .redo => undoR b (redoB b)
  | op => recR (opWord op) b (workOn r b.now op)
theorem atI_last {α : Type} {l : List α} {x : α} : atI (l ++ [x]) (-1) = some x := by
  unfold atI ixN
  rw [if_neg (by decide), List.length_append]
  rw [if_pos (by simp only [List.length_cons, List.length_nil]; omega)]
  show (l ++ [x])[(-1 + ((l.length + [x].length : Nat) : Int)).toNat]? = some x
  rw [show (-1 + ((l.length + [x].length : Nat) : Int)).toNat = l.length by simp only [List.length_cons, List.length_nil]; omega, List.getElem?_append_right (Nat.le_refl _), Nat.sub_self]; rfl
section
variable {P : Program} {w : World} {K : PySem.W.Frag} {mg : Str → Option Value} {base : Heap}
def spLWorked : Sp := fun vs H Q _ => ∃ (wa oa : Addr) (r : Rota) (b : Bst) (op : Op) (M : List Addr), vs = [.ref wa, .ref oa] ∧ Al M H ∧ ROk r ∧ LW (Msk M H) r wa b ∧ BOk r b ∧ H oa = some (.tup (opL op)) ∧ OpOk r op ∧ b.now.d.length ≤ 1000 ∧ b.past.length ≤ 1000 ∧ b.und.length ≤ 1000 ∧
  match doOp r b op with
  | .error e => ∀ H' p, Wd [] H H' [] → H' p = some (.tup [.str e, .int 0]) → Q (.ref p) H'
  | .ok (x, b') => ∀ H' p v wb, Wd [] H H' [] → H' p = some (.tup [.str "", v, .ref wb]) → ResT (Msk M H') r x v → LW (Msk M H') r wb b' → Q (.ref p) H'
end
end Br

namespace Br
open PySem PySem.Spec PyProof.Rows L2
section
variable {P : Program} {w : World} {K : PySem.W.Frag} {mg : Str → Option Value} {base : Heap}
def spLNew : Sp := fun vs H Q _ => ∃ (d : Addr) (x y : Int) (l : List Int), vs = [.ref d] ∧ H d = some (dl x y l) ∧ DOk x y l ∧
  ∀ (r : Rota) (wa : Addr) (x' y' : Int) (l' : List Int) (H' : Hp), Wd [d] H H' [(d, dl x' y' l')] → DOk x' y' l' → ROk r → LW (Msk [d] H') r wa (bst0 r) → Q (.ref wa) H'
def spLOp : Sp := fun vs H Q _ => ∃ (d a : Addr) (r : Rota) (x y : Int) (l : List Int), vs = [.ref d, .ref a] ∧ H d = some (dl x y l) ∧ DOk x y l ∧ RotaAt H a r ∧ ROk r ∧
  ∀ (op : Op) (p : Addr) (x' y' : Int) (l' : List Int) (H' : Hp), Wd [d] H H' [(d, dl x' y' l')] → DOk x' y' l' → OpOk r op → H' p = some (.tup (opL op)) → Q (.ref p) H'
end
end Br

namespace Br
open PySem PySem.Spec PyProof.Rows L2
def resV : Res → V
  | .non => .non
  | .bl b => .bl b
  | .int i => .int i
  | .nms _ => .non
/-- what an operation on the book hands back -/
def BRes (CB : Addr) (z : Bz) (r : Rota) (b' : Bst) (S : List (Str × Bst)) (H H' : Hp) : Res → V → Prop
  | .nms l, v => ∃ p : Addr, v = .ref p ∧ BStepN CB z r b' S H H' p (.lst (l.map (nameV r)))
  | x, v => v = resV x ∧ BStep CB z r b' S H H'
/-- the class of an operation's error -/
def errC (CC CU CN : Addr) (e : Str) : Addr := if e = "count" then CC else if e = "person" then CU else CN
def DoR (CB CC CU CN : Addr) (z : Bz) (r : Rota) (S : List (Str × Bst)) (H : Hp) (Q : VK) (E : XK) : Except Str (Res × Bst) → Prop
  | .error e => ∀ H', Wd [] H H' [] → E (.ref (errC CC CU CN e)) none H'
  | .ok (x, b') => ∀ H' v, BRes CB z r b' S H H' x v → Q v H'
section
variable {P : Program} {w : World} {K : PySem.W.Frag} {mg : Str → Option Value} {base : Heap} {CB CC CU CN : Addr}
def spLDo (CB CC CU CN : Addr) : Sp := fun vs H Q E => ∃ (z : Bz) (oa : Addr) (r : Rota) (b : Bst) (S : List (Str × Bst)) (op : Op), vs = [.ref z.x, .ref oa] ∧ ROk r ∧ BOk r b ∧ BkAt CB z r b S H ∧ H oa = some (.tup (opL op)) ∧ OpOk r op ∧ b.past.length ≤ 1000 ∧ b.und.length ≤ 1000 ∧ b.now.d.length ≤ 40000 ∧
  DoR CB CC CU CN z r S H Q E (doOp r b op)
end
end Br

/-! A match over a tuple: case [word], case [word, name]. -/
namespace Br
open PySem PySem.Spec PyProof.Rows L2
section
variable {X : Cx}
structure PCt (X : Cx) (cs : List MatchCase) (t : List V → TS) : Prop where
  run : ∀ (pins : List (Addr × Obj)) (s : Shared) (σ : L2.St) (H : Hp) (D : Ends) (a : Addr) (vs : List V) (first : Bool), Inv X pins σ H s → H a = some (.tup vs) → t vs D σ H → wpAny (model X.prog X.w) X.A (matchCases cs X.env (.ref a) first) (SP X pins D) X.xe s
def tMatchT (te : TE) (tc : List V → TS) : TS := fun D σ H => te σ H fun x H1 => ∃ a vs, x = .ref a ∧ H1 a = some (.tup vs) ∧ tc vs D σ H1
theorem ps_matchT {e : Expr} {te : TE} {cs : List MatchCase} {tc : List V → TS} {pos : Pos} (he : PE X e te) (hc : PCt X cs tc) : PS X (.Match e cs pos) (tMatchT te tc) := by
  refine ⟨fun pins s σ H D I h => ?_⟩
  show wpAny _ _ (do standAt pos; let v ← eval e X.env; matchCases cs X.env v true) _ _ _
  refine wpAny_bind (wpAny_standAt (wpAny_bind (thn (he.run pins s σ H _ I h) fun v s1 ⟨x, H1, I1, r1, a, vs, hx, ha, q⟩ => ?_)))
  subst hx
  obtain rfl : v = Value.ref a := r1
  exact hc.run pins s1 σ H1 D a vs true I1 ha q
theorem unpack_n {prog : Program} {w : World} {A : Around} {E : Value → Shared → Prop} {s : Shared} {t : Addr} {items : Array Value} {n : Nat} {Q : List Value → Shared → Prop} (hn : n = items.size) (hh : A.handled = none) (ht : IsTup s.heap t items)
    (hQ : ∀ h', Heap.ExtBut s.heap.objs.size s.heap h' → Q items.toList { s with heap := h' }) : wpAny (model prog w) A (unpackItems (.ref t) n none) Q E s := by
  subst hn; exact unpackItems_tuple hh ht hQ
theorem pct_nil : PCt X [] (fun _ D σ H => D.nx σ H) := ⟨fun pins s σ H D z tk first I h q => wpAny_pure ⟨σ, H, I, q⟩⟩
/-- case [word] -/
def tOne (c : Str) (tb : TS) (tr : List V → TS) : List V → TS := fun vs D σ H => (∀ x, vs = [x] → ∃ z, x = .str z ∧ (z = c → tb D σ H) ∧ (z ≠ c → tr vs D σ H)) ∧ (vs.length ≠ 1 → tr vs D σ H)
/-- case [word, name] -/
def tTwo (c : Str) (i : Nat) (tb : TS) (tr : List V → TS) : List V → TS := fun vs D σ H => (∀ x y, vs = [x, y] → ∃ z, x = .str z ∧ (z = c → tb D (σ.set i (some y)) H) ∧ (z ≠ c → tr vs D σ H)) ∧ (vs.length ≠ 2 → tr vs D σ H)
theorem pct_one {c : Str} {j cpos vpos pos} {body : List Stmt} {rest : List MatchCase} {tb : TS} {tr : List V → TS} (hc : X.calm = true) (hb : PSs X body tb) (hr : PCt X rest tr) :
    PCt X (⟨.MatchSequence [.MatchValue (.Constant (.str c) j cpos) vpos] pos, none, body⟩ :: rest) (tOne c tb tr) := by
  refine ⟨fun pins s σ H D a vs first I e h => ?_⟩
  obtain ⟨h1, h2⟩ := h
  obtain ⟨its, rv, ht, hz⟩ := I.tuple (SqT.of (K := X.K) e)
  have hfit : ((its.toArray.size : Nat) : Int) < 2 ^ 63 := by
    rw [List.size_toArray]
    have h0 := rv.length
    rw [sizeLine_eq] at hz
    omega
  refine wpAny_matchCases_cons ?_
  by_cases hl : its.length = 1
  · obtain ⟨u, rfl⟩ := List.length_eq_one_iff.mp hl
    · obtain ⟨x, rfl, rx⟩ : ∃ x, vs = [x] ∧ RelV x u := by cases rv with | cons r t => cases t; exact ⟨_, rfl, r⟩
      obtain ⟨z, rfl, q1, q2⟩ := h1 x rfl
      obtain ⟨tk, rfl⟩ := (show ∃ tk, u = Value.str z tk from rx)
      refine matchSeq_tuple_hit ht hfit rfl ?_
      refine unpack_n rfl (I.ok.hd hc) ht fun h' hx' => ?_
      refine wpAny_matchEach_cons (wpAny_matchPattern_Value (Calls.Constant_str (eq_str (wpAny_truthy_bool ?_))))
      have I1 : Inv X pins σ H { s with heap := h', toks := s.toks + 1 + 1 + 1 } := I.kept fun b o e => hx' b o (Nat.ne_of_lt (Heap.lt_size e)) e
      by_cases ez : z = c
      · subst ez
        rw [beq_self_eq_true]
        refine wpAny_matchEach_nil ?_
        exact wpAny_pure (hb.run pins _ σ H D I1 (q1 rfl))
      · rw [show (z == c) = false from beq_eq_false_iff_ne.mpr ez]
        exact hr.run pins _ σ H D a _ false I1 e (q2 ez)
  · have hv : vs.length ≠ 1 := fun q => hl (by rw [← rv.length]; exact q)
    refine matchSeq_tuple_miss ht hfit (by simpa using hl) ?_
    exact hr.run pins _ σ H D a vs false (I.tok _) e (h2 hv)
theorem pct_two {c n : Str} {i : Nat} {j cpos vpos apos pos} {body : List Stmt} {rest : List MatchCase} {tb : TS} {tr : List V → TS} (hc : X.calm = true) (hN : X.N.Nodup) (hi : X.N[i]? = some n) (hx : Loc X.env.scope n) (hb : PSs X body tb) (hr : PCt X rest tr)
    (hf : X.fn n = true ∨ X.env.scope.names.lookup n = some .local := by first | exact .inl rfl | exact .inr rfl | assumption) :
    PCt X (⟨.MatchSequence [.MatchValue (.Constant (.str c) j cpos) vpos, .MatchAs none (some n) apos] pos, none, body⟩ :: rest) (tTwo c i tb tr) := by
  refine ⟨fun pins s σ H D a vs first I e h => ?_⟩
  obtain ⟨h1, h2⟩ := h
  obtain ⟨its, rv, ht, hz⟩ := I.tuple (SqT.of (K := X.K) e)
  have hfit : ((its.toArray.size : Nat) : Int) < 2 ^ 63 := by
    rw [List.size_toArray]
    have h0 := rv.length
    rw [sizeLine_eq] at hz
    omega
  refine wpAny_matchCases_cons ?_
  by_cases hl : its.length = 2
  · obtain ⟨u, w, rfl⟩ : ∃ u w, its = [u, w] := by
      cases its with
      | nil => simp at hl
      | cons u t => cases t with
        | nil => simp at hl
        | cons w t => cases t with
          | nil => exact ⟨_, _, rfl⟩
          | cons _ _ => simp at hl
    · obtain ⟨x, y, rfl, rx, ry⟩ : ∃ x y, vs = [x, y] ∧ RelV x u ∧ RelV y w := by cases rv with | cons r t => cases t with | cons r2 t => cases t; exact ⟨_, _, rfl, r, r2⟩
      obtain ⟨z, rfl, q1, q2⟩ := h1 x y rfl
      obtain ⟨tk, rfl⟩ := (show ∃ tk, u = Value.str z tk from rx)
      refine matchSeq_tuple_hit ht hfit rfl ?_
      refine unpack_n rfl (I.ok.hd hc) ht fun h' hx' => ?_
      refine wpAny_matchEach_cons (wpAny_matchPattern_Value (Calls.Constant_str (eq_str (wpAny_truthy_bool ?_))))
      have I1 : Inv X pins σ H { s with heap := h', toks := s.toks + 1 + 1 + 1 } := I.kept fun b o e => hx' b o (Nat.ne_of_lt (Heap.lt_size e)) e
      by_cases ez : z = c
      · subst ez
        rw [beq_self_eq_true]
        refine wpAny_matchEach_cons (wpAny_matchPattern_Capture (wpAny_matchEach_nil ?_))
        show wpAny _ _ (assignInOrder [fun v => bindName X.env n v] [w]) _ _ _
        refine wpAny_assignInOrder_more (wpAny_bindName (store_ok I1 hN hi hx ry (fun s' I' => wpAny_assignInOrder_none ?_) hf))
        exact hb.run pins _ _ H D I' (q1 rfl)
      · rw [show (z == c) = false from beq_eq_false_iff_ne.mpr ez]
        exact hr.run pins _ σ H D a _ false I1 e (q2 ez)
  · have hv : vs.length ≠ 2 := fun q => hl (by rw [← rv.length]; exact q)
    refine matchSeq_tuple_miss ht hfit (by simpa using hl) ?_
    exact hr.run pins _ σ H D a vs false (I.tok _) e (h2 hv)
end
end Br

/-! d.get(k, x), d a dict of the module, the key there. -/
namespace Br
open PySem PySem.Spec PyProof.Rows L2
section
variable {X : Cx} {o e f : Expr} {apos cpos : Pos} {td ty tx : TE}
def tKGet (K : PySem.W.Frag) (w : World) (td ty tx : TE) : TE := fun σ H Q => td σ H fun x H1 => ∃ p es n, x = .ref p ∧ K.lookup p = some ⟨.type "dict", none, .dict es n, #[]⟩ ∧ PySem.W.KeysLit w.params es.toList ∧ (p == sysModules) = false ∧
  ty σ H1 fun y H2 => ∃ z v u, y = .str z ∧ PySem.W.nsIn K p z = some (some u) ∧ RelV v u ∧ tx σ H2 fun _ H3 => Q v H3
theorem pe_kget {K : PySem.W.Frag} {w : World} (hK : K = X.K) (hw : w = X.w) (ho : PE X o td) (he : PE X e ty) (hf : PE X f tx) (m : M2 X o "get" apos e f cpos) : PE X (.Call (.Attribute o "get" apos) [e, f] [] cpos) (tKGet K w td ty tx) := by
  subst hK hw
  refine ⟨fun pins s σ H Q I h => ?_⟩
  refine wpAny_Call_method m.base m.few m.line PySem.F.plainAttrs_dict PySem.F.slot_dict_get PySem.F.type_dict_get (thn (ho.run pins s σ H _ I h) fun u s1 ⟨x, H1, I1, rx, p, es, n, ex, hl, hk, hd, q1⟩ => ?_)
  subst ex
  obtain rfl : u = Value.ref p := rx
  have hm := PySem.W.mapOf_K (prog := X.prog) (w := X.w) I1.kIn hl hk
  refine ⟨hm.typeIs, fun b q => ?_, ?_⟩
  · cases q
    exact ⟨_, I1.kIn _ _ hl, rfl⟩
  rw [m.trees]
  refine Calls.callWith_builtin rfl (Calls.evalArgs_plain (Calls.spliced_cons (thn (he.run pins s1 σ H1 _ I1 q1) fun iv s2 ⟨y, H2, I2, ry, z, v, r, ey, hz, rv, q2⟩ =>
    Calls.spliced_cons (thn (hf.run pins s2 σ H2 _ I2 q2) fun fv s3 ⟨d, H3, I3, rd, q3⟩ => Calls.spliced_nil ?_))))
  subst ey
  obtain ⟨t, rfl⟩ := (show ∃ t, iv = Value.str z t from ry)
  have hm3 := PySem.W.mapOf_K (prog := X.prog) (w := X.w) I3.kIn hl hk
  refine call_meetsIn PySem.F.slot_dict_get hm3.typeIs PySem.F.entry_dict_get (PySem.F.args_dict_get_3 _ _ _) (meets_dict_get_default (strKind X.prog X.w) p (strKind_is X.prog X.w z t) hd fv) ⟨_, hm3, ⟨v, H3, I3.tok _, ?_, q3⟩⟩
  rw [PySem.W.find_K hl hz]
  exact rv
end
end Br

namespace Br
open PySem PySem.Spec PyProof.Rows L2
section
variable {P : Program} {w : World} {K : PySem.W.Frag} {mg : Str → Option Value} {base : Heap} {CB CC CU CN : Addr}
theorem two_miss {c : Str} {i : Nat} {tb : TS} {tr : List V → TS} {x : V} {D : Ends} {σ : L2.St} {H : Hp} (h : tr [x] D σ H) : tTwo c i tb tr [x] D σ H := ⟨fun _ _ e => by simp at e, fun _ => h⟩
theorem one_no {c z : Str} {tb : TS} {tr : List V → TS} {D : Ends} {σ : L2.St} {H : Hp} (n : z ≠ c) (h : tr [.str z] D σ H) : tOne c tb tr [.str z] D σ H :=
  ⟨fun x e => by cases e; exact ⟨z, rfl, fun q => absurd q n, fun _ => h⟩, fun q => absurd rfl q⟩
theorem one_yes {c : Str} {tb : TS} {tr : List V → TS} {D : Ends} {σ : L2.St} {H : Hp} (h : tb D σ H) : tOne c tb tr [.str c] D σ H :=
  ⟨fun x e => by cases e; exact ⟨c, rfl, fun _ => h, fun q => absurd rfl q⟩, fun q => absurd rfl q⟩
theorem two_no {c z : Str} {i : Nat} {y : V} {tb : TS} {tr : List V → TS} {D : Ends} {σ : L2.St} {H : Hp} (n : z ≠ c) (h : tr [.str z, y] D σ H) : tTwo c i tb tr [.str z, y] D σ H :=
  ⟨fun x u e => by cases e; exact ⟨z, rfl, fun q => absurd q n, fun _ => h⟩, fun q => absurd rfl q⟩
theorem two_yes {c : Str} {i : Nat} {y : V} {tb : TS} {tr : List V → TS} {D : Ends} {σ : L2.St} {H : Hp} (h : tb D (σ.set i (some y)) H) : tTwo c i tb tr [.str c, y] D σ H :=
  ⟨fun x u e => by cases e; exact ⟨c, rfl, fun _ => h, fun q => absurd rfl q⟩, fun q => absurd rfl q⟩
abbrev sBook_execute : Stmt := inClass (topS 61) 16
theorem scBook_execute : FnScope ["self", "operation", "count", "name"] ["self", "operation"] (defScope sBook_execute) := ⟨rfl, rfl, rfl, by decide +kernel, rfl, by decide +kernel, by decide +kernel⟩
def opD : Op → PyData
  | .step k => .tuple [.str "step", .int (k : Int)]
  | .gift z => .tuple [.str "gift", .str z]
  | .forgive z => .tuple [.str "forgive", .str z]
  | .reset => .tuple [.str "reset"]
  | .undo => .tuple [.str "undo"]
  | .redo => .tuple [.str "redo"]
theorem opD_dp {H : Hp} {oa : Addr} {op : Op} (h : H oa = some (.tup (opL op))) : Dp K H (.ref oa) (opD op) := by
  cases op with
  | step k => exact .tup (SqT.of h) (.cons (.str _) (.cons (.int _) .nil))
  | gift z => exact .tup (SqT.of h) (.cons (.str _) (.cons (.str _) .nil))
  | forgive z => exact .tup (SqT.of h) (.cons (.str _) (.cons (.str _) .nil))
  | reset => exact .tup (SqT.of h) (.cons (.str _) .nil)
  | undo => exact .tup (SqT.of h) (.cons (.str _) .nil)
  | redo => exact .tup (SqT.of h) (.cons (.str _) .nil)
theorem opD_eq (op : Op) : opD op = .tuple ((opL op).map dataOf) := by cases op <;> rfl
theorem ltr_low : ∀ c ∈ ("abcdefghijklmnopqrstuvwxyz" : Str).cps.toList, c < 1114112 := by decide +kernel
theorem nmf_str {z : Str} (h : NmF z) : PyData.strOk z = true := by
  unfold PyData.strOk
  rw [← Array.all_toList]
  exact List.all_eq_true.mpr fun c hc => decide_eq_true (ltr_low c (h.1 c hc))
theorem name_is {z : Str} (h : NmF z) : IS (V.str z) := nmf_str h
theorem opL_is {r : Rota} (ok : ROk r) {op : Op} (hop : OpOk r op) : ∀ v ∈ opL op, IS v := by
  have w : ∀ z ∈ (["step", "gift", "forgive", "reset", "undo", "redo"] : List Str), PyData.strOk z = true := by decide +kernel
  intro v hv
  cases op with
  | step k =>
    simp only [opL, List.mem_cons, List.not_mem_nil, or_false] at hv
    rcases hv with rfl | rfl
    · exact w _ (by simp)
    · trivial
  | gift z =>
    simp only [opL, List.mem_cons, List.not_mem_nil, or_false] at hv
    rcases hv with rfl | rfl
    · exact w _ (by simp)
    · exact name_is hop
  | forgive z =>
    simp only [opL, List.mem_cons, List.not_mem_nil, or_false] at hv
    rcases hv with rfl | rfl
    · exact w _ (by simp)
    · exact name_is hop
  | reset => rw [List.mem_singleton.mp hv]; exact w _ (by simp)
  | undo => rw [List.mem_singleton.mp hv]; exact w _ (by simp)
  | redo => rw [List.mem_singleton.mp hv]; exact w _ (by simp)
theorem shaped_tuple {xs : List V} (h : ∀ v ∈ xs, IS v) : SeqAt.shaped (.tuple (xs.map dataOf)) = true := by
  unfold SeqAt.shaped
  rw [PyData.canLay0, lay_all h, PyData.depth, depth_all]; rfl
theorem opD_sh {r : Rota} (ok : ROk r) {op : Op} (hop : OpOk r op) : SeqAt.shaped (opD op) = true := by rw [opD_eq]; exact shaped_tuple (opL_is ok hop)
theorem opD_ne (op : Op) : PyData.eqv (opD op) (.tuple []) = false := by cases op <;> rfl
abbrev sis_operation : Stmt := topS 60
theorem scis_operation : FnScope ["value"] ["value"] (defScope sis_operation) := ⟨rfl, rfl, rfl, by decide +kernel, rfl, by decide +kernel, by decide +kernel⟩
/-- the module's table of lengths -/
def LenD (K : PySem.W.Frag) (w : World) (mg : Str → Option Value) (p : Addr) : Prop := mg "LENGTHS" = some (.ref p) ∧ ∃ es n, K.lookup p = some ⟨.type "dict", none, .dict es n, #[]⟩ ∧ PySem.W.KeysLit w.params es.toList ∧ (p == sysModules) = false ∧
  ∀ op : Op, ∃ t, PySem.W.nsIn K p (opWord op) = some (some (.int (opL op).length t))
def spIsOp : Sp := fun vs H Q _ => ∃ (oa : Addr) (r : Rota) (op : Op), vs = [.ref oa] ∧ ROk r ∧ OpOk r op ∧ H oa = some (.tup (opL op)) ∧ ∀ H', Wd [] H H' [] → Q (.bl true) H'
theorem cal_isOp {a_LENGTHS : Addr} (D : DefAt K mg "is_operation" sis_operation ["value"]) (T : Bi mg) (LD : LenD K w mg a_LENGTHS) : Cal P w K mg base 1 "is_operation" ["value"] spIsOp := D.cal fun f fd F => by
  have nd := scis_operation.nd
  obtain ⟨c_LENGTHS, es, n, hl, hk, hs, hv⟩ := LD
  refine F.ok scis_operation (fun vs H Q E h => ?_) (fun cdv A outer s H vs Q E hr h => ?_)
  · obtain ⟨oa, r, op, rfl, _⟩ := h; rfl
  obtain ⟨oa, r, op, rfl, ok, hop, ho, q⟩ := h
  have hu := hr.units
  refine ⟨_, (pss_cons (ps_if (PW.pt (pw_or (pt_not (pt_val (pe_callB call_isi (by rfl) T.isinstance (by decide +kernel) (pa_cons (pv 0) (pa_cons (pe_bltn (v := .ty "tuple") (by rfl) T.tuple (by decide +kernel) rfl) pa_nil))))) (pw_or (pt_cmpR (r := rEqD K) (op_eqD hu) (pv 0) (pe_tup pa_nil) (nomark _)) (pw_or1 (pt_not (pt_val (pe_callB call_isi (by rfl) T.isinstance (by decide +kernel) (pa_cons (pe_ix (r := rIxT K) ix_tup (pv 0) pe_int (fun _ _ => rfl)) (pa_cons (pe_bltn (v := .ty "str") (by rfl) T.str (by decide +kernel) rfl) pa_nil)))))))))
 (pss_one (ps_ret pe_bl))
 pss_nil)
 (pss_one (ps_ret (pe_cmpR op_eq (pe_kget rfl rfl (pe_glob (v := .ref a_LENGTHS) (by rfl) c_LENGTHS rfl) (pe_ix (r := rIxT K) ix_tup (pv 0) pe_int (fun _ _ => rfl)) pe_int ⟨rfl, by rfl, rfl, rfl⟩) (pe_callB (r := rLenS K) call_len_seq (by rfl) T.len PySem.boot_len (pa_cons (pv 0) pa_nil)) (nomark _))))), ?_⟩
  have o0 : atI (opL op) 0 = some (.str (opWord op)) := by cases op <;> rfl
  refine ⟨_, rfl, _, _, _, .type "tuple", _, rfl, .ty "tuple", (Ky.tup ho).ty, kit_is (K := K) (Ky.tup ho).mem (T := "tuple") (by decide), _, rfl, iteF ?_⟩
  refine ⟨_, rfl, Nat.zero_le _, fun e he => ?_⟩
  have w1 := (Wd.refl H).new (.tup []) he
  have ho1 := w1.tups _ _ ho
  refine ⟨opD op, .tuple [], opD_dp ho1, .tup (SqT.of (w1.get 0 rfl)) .nil, opD_sh ok hop, rfl, ?_⟩
  rw [opD_ne op]
  refine ⟨_, rfl, iteF ?_⟩
  refine ⟨_, rfl, oa, _, 0, _, rfl, rfl, SqT.of ho1, o0, ?_⟩
  have k1 := kit_is (K := K) (Ky.mem (H := upd H e (.tup [])) (.str (opWord op))) (T := "str") (by decide)
  refine ⟨_, _, _, .type "str", _, rfl, .ty "str", (Ky.str (H := upd H e (.tup [])) (opWord op)).ty, k1, _, rfl, iteF ?_⟩
  obtain ⟨t, ht⟩ := hv op
  refine ⟨_, es, n, rfl, hl, hk, hs, _, rfl, oa, _, 0, _, rfl, rfl, SqT.of ho1, o0, _, .int ((opL op).length : Int), _, rfl, ht, ⟨_, rfl⟩, ?_⟩
  refine ⟨_, rfl, oa, _, rfl, .inr (SqT.of ho1), rfl, ?_⟩
  show Q (V.bl (decide (V.int ((opL op).length : Int) = V.int ((opL op).length : Int)))) _
  rw [decide_eq_true rfl]
  exact q _ (w1.sub (List.nil_sublist _))
end
end Br

/-! cls(..) in a classmethod: an instance of the class that a name holds. -/
namespace Br
open PySem PySem.Spec PyProof.Rows L2
section
variable {X : Cx} {CX : CXT} {k i : Nat} {C f : Addr} {fd : FuncData} {x : Str} {p pos : Pos} {e : Expr} {es : List Expr} {ps : List Str} {ds : List Value} {dvs : List V} {sp : Sp} {E : XK} {t : TA}
def tMakeL (i : Nat) (C : Addr) (sp : Sp) (dvs : List V) (E : XK) (t : TA) : TE := fun σ H Q => σ[i]? = some (some (.ref C)) ∧ tMake C sp dvs E t σ H Q
theorem pe_makeL (hn : PE X (.Name x p) (tVar i)) (M : Mk X.K C f) (F : FnOk X.prog X.w X.K X.mg X.base CX k f fd ps sp) (hr : Room (k + 1) X.A) (hb : Binds X.K fd ps ds) (hd : Vals dvs ds) (hx : Passes CX X E)
    (ha : PA X (e :: es) t) (he : starEach (e :: es) X.env = (false, eval e X.env) :: starEach es X.env := by rfl) (hpl : (backTo pos (starEach es X.env)).any (·.1) = false := by rfl) :
    PE X (.Call (.Name x p) (e :: es) [] pos) (tMakeL i C sp dvs E t) := by
  refine ⟨fun pins s σ H Q I h => ?_⟩
  obtain ⟨h0, h⟩ := h
  refine wpAny_Call_Name_kw (thn (hn.run pins s σ H (fun y H1 => y = .ref C ∧ tMake C sp dvs E t σ H1 Q) I ⟨_, h0, rfl, h⟩) fun u s1 ⟨y, H1, I1, r1, ey, h1⟩ => ?_)
  subst ey
  obtain rfl : u = Value.ref C := r1
  refine PySem.W.callWith_K (h₀ := X.base) I1.ok.mod.kin M.kp (thn (ha.run pos pins s1 σ H1 _ I1 h1) fun us s2 ⟨vs, H2, I2, r, q⟩ => ⟨I2.kIn, ?_⟩) he hpl
  exact run_make M F hr hb hd hx I2 r q
end
end Br

namespace Br
open PySem PySem.Spec PyProof.Rows L2
/-! ### named snapshots -/
def getS (w : Str) (S : List (Str × Bst)) : Option Bst := (S.find? fun e => decide (e.1 = w)).map (·.2)
def putS (w : Str) (b : Bst) (S : List (Str × Bst)) : List (Str × Bst) :=
  if (S.any fun e => decide (e.1 = w)) = true then S.map (fun e => if e.1 = w then (e.1, b) else e) else S ++ [(w, b)]
section
variable {F : Key × V → Str × Bst → Prop}
end
end Br

namespace Br
open PySem PySem.Spec PyProof.Rows L2
/-! ### several operations, none of which fails -/
def andThen (x : Res) : Option (List Res × Bst) → Option (List Res × Bst)
  | none => none
  | some (xs, c) => some (x :: xs, c)
def stepOps (f : Bst → Option (List Res × Bst)) : Except Str (Res × Bst) → Option (List Res × Bst)
  | .error _ => none
  | .ok (x, b') => andThen x (f b')
def doOps (r : Rota) : List Op → Bst → Option (List Res × Bst)
  | [], b => some ([], b)
  | op :: t, b => stepOps (doOps r t) (doOp r b op)
theorem doOps_app {r : Rota} : ∀ {ops opt : List Op} {b c b' : Bst} {ys zs : List Res}, doOps r ops b = some (ys, c) → doOps r opt c = some (zs, b') → doOps r (ops ++ opt) b = some (ys ++ zs, b')
  | [], _, _, _, _, _, _, h, k => by cases h; exact k
  | op :: t, opt, b, c, b', ys, zs, h, k => by
    have h2 : stepOps (doOps r t) (doOp r b op) = some (ys, c) := h
    show stepOps (doOps r (t ++ opt)) (doOp r b op) = _
    cases hd : doOp r b op with
    | error e => rw [hd] at h2; cases h2
    | ok xb =>
      obtain ⟨x, b1⟩ := xb
      rw [hd] at h2
      have h3 : andThen x (doOps r t b1) = some (ys, c) := h2
      cases ht : doOps r t b1 with
      | none => rw [ht] at h3; cases h3
      | some yc =>
        rw [ht] at h3
        obtain ⟨ys0, c0⟩ := yc
        cases h3
        show andThen x (doOps r (t ++ opt) b1) = _
        rw [doOps_app ht k]; rfl
theorem doOps_one {r : Rota} {b b' : Bst} {op : Op} {x : Res} (h : doOp r b op = .ok (x, b')) : doOps r [op] b = some ([x], b') := by
  show stepOps (doOps r []) (doOp r b op) = _
  rw [h]; rfl
end Br

namespace Br
open PySem PySem.Spec PyProof.Rows L2
/-! ### the law's comparison, of like things -/
inductive EqV (H : Hp) : Nat → V → V → Prop
  | non (n : Nat) : EqV H n .non .non
  | bl (n : Nat) (b : Bool) : EqV H n (.bl b) (.bl b)
  | int (n : Nat) (i : Int) : EqV H n (.int i) (.int i)
  | str (n : Nat) (z : Str) : EqV H n (.str z) (.str z)
  | lst {n : Nat} {a b : Addr} {xs ys : List V} (ha : H a = some (.lst xs)) (hb : H b = some (.lst ys)) (hl : xs.length = ys.length) (hz : ys.length ≤ 1000) (he : ∀ (i : Nat) x y, xs[i]? = some x → ys[i]? = some y → EqV H n x y) : EqV H (n + 1) (.ref a) (.ref b)
  | tup {n : Nat} {a b : Addr} {xs ys : List V} (ha : H a = some (.tup xs)) (hb : H b = some (.tup ys)) (hl : xs.length = ys.length) (hz : ys.length ≤ 1000) (he : ∀ (i : Nat) x y, xs[i]? = some x → ys[i]? = some y → EqV H n x y) : EqV H (n + 1) (.ref a) (.ref b)
theorem EqV.keep {H H' : Hp} {l : List (Addr × HO)} (w : Wd [] H H' l) : ∀ {n : Nat} {x y : V}, EqV H n x y → EqV H' n x y := by
  intro n x y h
  induction h with
  | non n => exact .non n
  | bl n b => exact .bl n b
  | int n i => exact .int n i
  | str n z => exact .str n z
  | lst ha hb hl hz he ih => exact .lst (w.old ha (by simp)) (w.old hb (by simp)) hl hz ih
  | tup ha hb hl hz he ih => exact .tup (w.old ha (by simp)) (w.old hb (by simp)) hl hz ih
section
variable {P : Program} {w : World} {K : PySem.W.Frag} {mg : Str → Option Value} {base : Heap}
abbrev s_law_equal : Stmt := topS 75
theorem sc_law_equal : FnScope ["_law_actual", "_law_expected", "_law_k"] ["_law_actual", "_law_expected"] (defScope s_law_equal) := ⟨rfl, rfl, rfl, by decide +kernel, rfl, by decide +kernel, by decide +kernel⟩
def spEq (n : Nat) : Sp := fun vs H Q _ => ∃ x y : V, vs = [x, y] ∧ EqV H n x y ∧ ∀ H', Wd [] H H' [] → Q (.bl true) H'
/-- the first ways out: of what is no list and no tuple -/
theorem eq_flat {H : Hp} {n : Nat} {x y : V} (h : EqV H n x y) : (∃ b, x = .bl b ∧ y = .bl b) ∨ (∃ i, x = .int i ∧ y = .int i) ∨ (∃ z, x = .str z ∧ y = .str z) ∨ (x = .non ∧ y = .non) ∨ 0 < n := by
  cases h with
  | non n => exact .inr (.inr (.inr (.inl ⟨rfl, rfl⟩)))
  | bl n b => exact .inl ⟨b, rfl, rfl⟩
  | int n i => exact .inr (.inl ⟨i, rfl, rfl⟩)
  | str n z => exact .inr (.inr (.inl ⟨z, rfl, rfl⟩))
  | lst => exact .inr (.inr (.inr (.inr (Nat.succ_pos _))))
  | tup => exact .inr (.inr (.inr (.inr (Nat.succ_pos _))))
theorem cal_eq (D : DefAt K mg "_law_equal" s_law_equal ["_law_actual", "_law_expected"]) (T : Bi mg) : ∀ n : Nat, Cal P w K mg base (n + 1) "_law_equal" ["_law_actual", "_law_expected"] (spEq n)
  | 0 => D.cal fun f fd F => by
    have nd := sc_law_equal.nd
    refine F.ok sc_law_equal (fun vs H Q E h => ?_) (fun cdv A outer s H vs Q E hr h => ?_)
    · obtain ⟨x, y, rfl, _⟩ := h; rfl
    obtain ⟨x, y, rfl, hs, q⟩ := h
    refine ⟨_, (pss_cons (ps_if (pt_cmpR op_isN (pv 1) pe_non (nomark _))
 (pss_one (ps_ret (pe_cmpR op_isN (pv 0) pe_non (nomark _))))
 pss_nil)
 (pss_cons (ps_if (pt_val (pe_callB call_isi (by rfl) T.isinstance (by decide +kernel) (pa_cons (pv 1) (pa_cons (pe_bltn (v := .ty "bool") (by rfl) T.bool (by decide +kernel) rfl) pa_nil))))
 (pss_one (ps_ret (pe_and (pe_callB call_isi (by rfl) T.isinstance (by decide +kernel) (pa_cons (pv 0) (pa_cons (pe_bltn (v := .ty "bool") (by rfl) T.bool (by decide +kernel) rfl) pa_nil))) (pe_one (pe_cmpR op_eq (pv 0) (pv 1) (nomark _))))))
 pss_nil)
 (pss_cons (ps_if (pt_val (pe_callB call_isi (by rfl) T.isinstance (by decide +kernel) (pa_cons (pv 1) (pa_cons (pe_bltn (v := .ty "int") (by rfl) T.int (by decide +kernel) rfl) pa_nil))))
 (pss_one (ps_ret (pe_and (pe_callB call_isi (by rfl) T.isinstance (by decide +kernel) (pa_cons (pv 0) (pa_cons (pe_bltn (v := .ty "int") (by rfl) T.int (by decide +kernel) rfl) pa_nil))) (pe_and (pe_not (pe_callB call_isi (by rfl) T.isinstance (by decide +kernel) (pa_cons (pv 0) (pa_cons (pe_bltn (v := .ty "bool") (by rfl) T.bool (by decide +kernel) rfl) pa_nil)))) (pe_one (pe_cmpR op_eq (pv 0) (pv 1) (nomark _)))))))
 pss_nil)
 (pss_cons (ps_if (pt_val (pe_callB call_isi (by rfl) T.isinstance (by decide +kernel) (pa_cons (pv 1) (pa_cons (pe_bltn (v := .ty "str") (by rfl) T.str (by decide +kernel) rfl) pa_nil))))
 (pss_one (ps_ret (pe_and (pe_callB call_isi (by rfl) T.isinstance (by decide +kernel) (pa_cons (pv 0) (pa_cons (pe_bltn (v := .ty "str") (by rfl) T.str (by decide +kernel) rfl) pa_nil))) (pe_one (pe_cmpR op_eq (pv 0) (pv 1) (nomark _))))))
 pss_nil)
 pss_never)))), ?_⟩
    rcases eq_flat hs with ⟨b, rfl, rfl⟩ | ⟨i, rfl, rfl⟩ | ⟨z, rfl, rfl⟩ | ⟨rfl, rfl⟩ | h0
    · refine ⟨_, rfl, rfl, _, rfl, ite2 (fun h => absurd (of_decide_eq_true h) (by simp)) (fun _ => ?_)⟩
      refine ⟨_, rfl, _, _, .type "bool", .type "bool", true, rfl, .ty "bool", (Ky.bl b).ty, rfl, _, rfl, iteT ?_⟩
      refine ⟨_, rfl, _, _, .type "bool", .type "bool", true, rfl, .ty "bool", (Ky.bl b).ty, rfl, _, rfl, iteT ?_⟩
      refine ⟨_, rfl, _, rfl, rfl, ?_⟩
      rw [decide_eq_true rfl]; exact q _ (Wd.refl H)
    · refine ⟨_, rfl, rfl, _, rfl, ite2 (fun h => absurd (of_decide_eq_true h) (by simp)) (fun _ => ?_)⟩
      refine ⟨_, rfl, _, _, .type "int", .type "bool", false, rfl, .ty "bool", (Ky.int i).ty, rfl, _, rfl, iteF ?_⟩
      refine ⟨_, rfl, _, _, .type "int", .type "int", true, rfl, .ty "int", (Ky.int i).ty, rfl, _, rfl, iteT ?_⟩
      refine ⟨_, rfl, _, _, .type "int", .type "int", true, rfl, .ty "int", (Ky.int i).ty, rfl, _, rfl, iteT ?_⟩
      refine ⟨_, rfl, _, _, .type "int", .type "bool", false, rfl, .ty "bool", (Ky.int i).ty, rfl, _, rfl, _, rfl, iteT ?_⟩
      refine ⟨_, rfl, _, rfl, rfl, ?_⟩
      rw [decide_eq_true rfl]; exact q _ (Wd.refl H)
    · refine ⟨_, rfl, rfl, _, rfl, ite2 (fun h => absurd (of_decide_eq_true h) (by simp)) (fun _ => ?_)⟩
      refine ⟨_, rfl, _, _, .type "str", .type "bool", false, rfl, .ty "bool", (Ky.str z).ty, rfl, _, rfl, iteF ?_⟩
      refine ⟨_, rfl, _, _, .type "str", .type "int", false, rfl, .ty "int", (Ky.str z).ty, rfl, _, rfl, iteF ?_⟩
      refine ⟨_, rfl, _, _, .type "str", .type "str", true, rfl, .ty "str", (Ky.str z).ty, rfl, _, rfl, iteT ?_⟩
      refine ⟨_, rfl, _, _, .type "str", .type "str", true, rfl, .ty "str", (Ky.str z).ty, rfl, _, rfl, iteT ?_⟩
      refine ⟨_, rfl, _, rfl, rfl, ?_⟩
      rw [decide_eq_true rfl]; exact q _ (Wd.refl H)
    · refine ⟨_, rfl, rfl, _, rfl, iteT ?_⟩
      refine ⟨_, rfl, rfl, ?_⟩
      exact q _ (Wd.refl H)
    · exact absurd h0 (Nat.lt_irrefl _)
  | n + 1 => D.cal fun f fd F => by
    obtain ⟨f1, fd1, m__law_equal, kp__law_equal, b__law_equal, G__law_equal⟩ := (cal_eq D T n).ex
    have nd := sc_law_equal.nd
    refine F.ok sc_law_equal (fun vs H Q E h => ?_) (fun cdv A outer s H vs Q E hr h => ?_)
    · obtain ⟨x, y, rfl, _⟩ := h; rfl
    obtain ⟨x, y, rfl, hs, q⟩ := h
    refine ⟨_, (pss_cons (ps_if (pt_cmpR op_isN (pv 1) pe_non (nomark _))
 (pss_one (ps_ret (pe_cmpR op_isN (pv 0) pe_non (nomark _))))
 pss_nil)
 (pss_cons (ps_if (pt_val (pe_callB call_isi (by rfl) T.isinstance (by decide +kernel) (pa_cons (pv 1) (pa_cons (pe_bltn (v := .ty "bool") (by rfl) T.bool (by decide +kernel) rfl) pa_nil))))
 (pss_one (ps_ret (pe_and (pe_callB call_isi (by rfl) T.isinstance (by decide +kernel) (pa_cons (pv 0) (pa_cons (pe_bltn (v := .ty "bool") (by rfl) T.bool (by decide +kernel) rfl) pa_nil))) (pe_one (pe_cmpR op_eq (pv 0) (pv 1) (nomark _))))))
 pss_nil)
 (pss_cons (ps_if (pt_val (pe_callB call_isi (by rfl) T.isinstance (by decide +kernel) (pa_cons (pv 1) (pa_cons (pe_bltn (v := .ty "int") (by rfl) T.int (by decide +kernel) rfl) pa_nil))))
 (pss_one (ps_ret (pe_and (pe_callB call_isi (by rfl) T.isinstance (by decide +kernel) (pa_cons (pv 0) (pa_cons (pe_bltn (v := .ty "int") (by rfl) T.int (by decide +kernel) rfl) pa_nil))) (pe_and (pe_not (pe_callB call_isi (by rfl) T.isinstance (by decide +kernel) (pa_cons (pv 0) (pa_cons (pe_bltn (v := .ty "bool") (by rfl) T.bool (by decide +kernel) rfl) pa_nil)))) (pe_one (pe_cmpR op_eq (pv 0) (pv 1) (nomark _)))))))
 pss_nil)
 (pss_cons (ps_if (pt_val (pe_callB call_isi (by rfl) T.isinstance (by decide +kernel) (pa_cons (pv 1) (pa_cons (pe_bltn (v := .ty "str") (by rfl) T.str (by decide +kernel) rfl) pa_nil))))
 (pss_one (ps_ret (pe_and (pe_callB call_isi (by rfl) T.isinstance (by decide +kernel) (pa_cons (pv 0) (pa_cons (pe_bltn (v := .ty "str") (by rfl) T.str (by decide +kernel) rfl) pa_nil))) (pe_one (pe_cmpR op_eq (pv 0) (pv 1) (nomark _))))))
 pss_nil)
 (pss_cons (ps_if (pt_cmpR op_ne (pe_callB call_isi (by rfl) T.isinstance (by decide +kernel) (pa_cons (pv 1) (pa_cons (pe_bltn (v := .ty "tuple") (by rfl) T.tuple (by decide +kernel) rfl) pa_nil))) (pe_callB call_isi (by rfl) T.isinstance (by decide +kernel) (pa_cons (pv 0) (pa_cons (pe_bltn (v := .ty "tuple") (by rfl) T.tuple (by decide +kernel) rfl) pa_nil))) (nomark _))
 (pss_one (ps_ret pe_bl))
 pss_nil)
 (pss_cons (ps_if (pt_cmpR op_ne (pe_callB call_isi (by rfl) T.isinstance (by decide +kernel) (pa_cons (pv 1) (pa_cons (pe_bltn (v := .ty "list") (by rfl) T.list (by decide +kernel) rfl) pa_nil))) (pe_callB call_isi (by rfl) T.isinstance (by decide +kernel) (pa_cons (pv 0) (pa_cons (pe_bltn (v := .ty "list") (by rfl) T.list (by decide +kernel) rfl) pa_nil))) (nomark _))
 (pss_one (ps_ret pe_bl))
 pss_nil)
 (pss_cons (ps_if (pt_cmpR op_ne (pe_callB (r := rLenS K) call_len_seq (by rfl) T.len PySem.boot_len (pa_cons (pv 0) pa_nil)) (pe_callB (r := rLenS K) call_len_seq (by rfl) T.len PySem.boot_len (pa_cons (pv 1) pa_nil)) (nomark _))
 (pss_one (ps_ret pe_bl))
 pss_nil)
 (pss_one (ps_ret (pe_callB (r := L2.rAll K) (cr_all rfl) (by rfl) T.all (by decide +kernel) (pa_cons (pe_lc (own := [("_law_k", 2)]) rfl nd (pi_range1 (by rfl) T.range (pa_cons (pe_callB (r := rLenS K) call_len_seq (by rfl) T.len PySem.boot_len (pa_cons (pv 1) pa_nil)) pa_nil)) (blkOk_by (N := ["_law_actual", "_law_expected", "_law_k"]) (sc := defScope s_law_equal) (by decide +kernel)) (fun _ _ _ _ _ => (pg_name (i := 2) nd rfl (Or.inl rfl))) (fun _ _ _ _ _ => pts_nil) (fun _ _ _ _ _ => (pe_call G__law_equal (hr.mono (by first | decide | omega)) (by rfl) m__law_equal kp__law_equal b__law_equal .nil pass0 (pa_cons (pe_ix (r := rIx K) ix_seq (pv 0) (pv 2) (fun _ _ => rfl)) (pa_cons (pe_ix (r := rIx K) ix_seq (pv 1) (pv 2) (fun _ _ => rfl)) pa_nil))))) pa_nil))))))))))), ?_⟩
    cases hs with
    | bl n b =>
      refine ⟨_, rfl, rfl, _, rfl, ite2 (fun h => absurd (of_decide_eq_true h) (by simp)) (fun _ => ?_)⟩
      refine ⟨_, rfl, _, _, .type "bool", .type "bool", true, rfl, .ty "bool", (Ky.bl b).ty, rfl, _, rfl, iteT ?_⟩
      refine ⟨_, rfl, _, _, .type "bool", .type "bool", true, rfl, .ty "bool", (Ky.bl b).ty, rfl, _, rfl, iteT ?_⟩
      refine ⟨_, rfl, _, rfl, rfl, ?_⟩
      rw [decide_eq_true rfl]; exact q _ (Wd.refl H)
    | int n i =>
      refine ⟨_, rfl, rfl, _, rfl, ite2 (fun h => absurd (of_decide_eq_true h) (by simp)) (fun _ => ?_)⟩
      refine ⟨_, rfl, _, _, .type "int", .type "bool", false, rfl, .ty "bool", (Ky.int i).ty, rfl, _, rfl, iteF ?_⟩
      refine ⟨_, rfl, _, _, .type "int", .type "int", true, rfl, .ty "int", (Ky.int i).ty, rfl, _, rfl, iteT ?_⟩
      refine ⟨_, rfl, _, _, .type "int", .type "int", true, rfl, .ty "int", (Ky.int i).ty, rfl, _, rfl, iteT ?_⟩
      refine ⟨_, rfl, _, _, .type "int", .type "bool", false, rfl, .ty "bool", (Ky.int i).ty, rfl, _, rfl, _, rfl, iteT ?_⟩
      refine ⟨_, rfl, _, rfl, rfl, ?_⟩
      rw [decide_eq_true rfl]; exact q _ (Wd.refl H)
    | str n z =>
      refine ⟨_, rfl, rfl, _, rfl, ite2 (fun h => absurd (of_decide_eq_true h) (by simp)) (fun _ => ?_)⟩
      refine ⟨_, rfl, _, _, .type "str", .type "bool", false, rfl, .ty "bool", (Ky.str z).ty, rfl, _, rfl, iteF ?_⟩
      refine ⟨_, rfl, _, _, .type "str", .type "int", false, rfl, .ty "int", (Ky.str z).ty, rfl, _, rfl, iteF ?_⟩
      refine ⟨_, rfl, _, _, .type "str", .type "str", true, rfl, .ty "str", (Ky.str z).ty, rfl, _, rfl, iteT ?_⟩
      refine ⟨_, rfl, _, _, .type "str", .type "str", true, rfl, .ty "str", (Ky.str z).ty, rfl, _, rfl, iteT ?_⟩
      refine ⟨_, rfl, _, rfl, rfl, ?_⟩
      rw [decide_eq_true rfl]; exact q _ (Wd.refl H)
    | non n =>
      refine ⟨_, rfl, rfl, _, rfl, iteT ?_⟩
      exact ⟨_, rfl, rfl, q _ (Wd.refl H)⟩
    | @lst _ a b xs ys ha hb hl hz he =>
      have T1 : TyX K H (.ref a) (.type "list") := (Ky.lst ha).ty
      have T2 : TyX K H (.ref b) (.type "list") := (Ky.lst hb).ty
      refine ⟨_, rfl, rfl, _, rfl, ite2 (fun h => absurd (of_decide_eq_true h) (by simp)) (fun _ => ?_)⟩
      refine ⟨_, rfl, _, _, .type "list", .type "bool", false, rfl, .ty "bool", T2, rfl, _, rfl, iteF ?_⟩
      refine ⟨_, rfl, _, _, .type "list", .type "int", false, rfl, .ty "int", T2, rfl, _, rfl, iteF ?_⟩
      refine ⟨_, rfl, _, _, .type "list", .type "str", false, rfl, .ty "str", T2, rfl, _, rfl, iteF ?_⟩
      refine ⟨_, rfl, _, _, .type "list", .type "tuple", false, rfl, .ty "tuple", T2, rfl, _, rfl, _, _, .type "list", .type "tuple", false, rfl, .ty "tuple", T1, rfl, rfl, _, rfl, ite2 (fun h => absurd h (by simp)) (fun _ => ?_)⟩
      refine ⟨_, rfl, _, _, .type "list", .type "list", true, rfl, .ty "list", T2, rfl, _, rfl, _, _, .type "list", .type "list", true, rfl, .ty "list", T1, rfl, rfl, _, rfl, ite2 (fun h => absurd h (by simp)) (fun _ => ?_)⟩
      refine ⟨_, rfl, a, _, rfl, .inl (SqL.of ha), _, rfl, b, _, rfl, .inl (SqL.of hb), rfl, _, rfl, ite2 (fun h => absurd h (by rw [hl]; simp)) (fun _ => ?_)⟩
      refine ⟨_, rfl, b, ys, rfl, .inl (SqL.of hb), _, rfl, by omega, by omega, fun D hD => ?_⟩
      rw [Int.toNat_natCast]
      refine lc_put (walk_range (lo := 0) (n := ys.length)) (l := fun _ => []) ((List.replicate ys.length true).map V.bl) (by simp) hz (Wd.refl H) hD (fun _ _ _ _ => trivial) (fun i v H4 H4' R hi w5 hy hR => ?_) (fun H4 w5 => ?_)
      · obtain ⟨rfl, rfl⟩ := hy
        obtain ⟨x, hx⟩ : ∃ x, xs[i]? = some x := ⟨_, List.getElem?_eq_getElem (by omega)⟩
        obtain ⟨y, hy⟩ : ∃ y, ys[i]? = some y := ⟨_, List.getElem?_eq_getElem hi⟩
        refine ⟨rfl, _, rfl, _, rfl, .inl ⟨a, xs, _, x, rfl, rfl, SqL.of (w5.old ha (by simp)), at_of (j := i) (by omega) hx, ?_⟩⟩
        refine ⟨_, rfl, _, rfl, .inl ⟨b, ys, _, y, rfl, rfl, SqL.of (w5.old hb (by simp)), at_of (j := i) (by omega) hy, ?_⟩⟩
        refine ⟨x, y, rfl, (he i x y hx hy).keep w5, fun H6 c6 => hR _ _ ?_ (w5.call0 c6)⟩
        rw [List.getElem?_map, List.getElem?_replicate, if_pos hi]; rfl
      · refine ⟨D, _, rfl, SqL.of (w5.get 0 rfl), ?_⟩
        have ea : (List.replicate ys.length true).all id = true := by
          rw [List.all_eq_true]; intro x hx; rw [(List.mem_replicate.mp hx).2]; rfl
        rw [ea]
        exact q _ (w5.sub (List.nil_sublist _))
    | @tup _ a b xs ys ha hb hl hz he =>
      have T1 : TyX K H (.ref a) (.type "tuple") := (Ky.tup ha).ty
      have T2 : TyX K H (.ref b) (.type "tuple") := (Ky.tup hb).ty
      refine ⟨_, rfl, rfl, _, rfl, ite2 (fun h => absurd (of_decide_eq_true h) (by simp)) (fun _ => ?_)⟩
      refine ⟨_, rfl, _, _, .type "tuple", .type "bool", false, rfl, .ty "bool", T2, rfl, _, rfl, iteF ?_⟩
      refine ⟨_, rfl, _, _, .type "tuple", .type "int", false, rfl, .ty "int", T2, rfl, _, rfl, iteF ?_⟩
      refine ⟨_, rfl, _, _, .type "tuple", .type "str", false, rfl, .ty "str", T2, rfl, _, rfl, iteF ?_⟩
      refine ⟨_, rfl, _, _, .type "tuple", .type "tuple", true, rfl, .ty "tuple", T2, rfl, _, rfl, _, _, .type "tuple", .type "tuple", true, rfl, .ty "tuple", T1, rfl, rfl, _, rfl, ite2 (fun h => absurd h (by simp)) (fun _ => ?_)⟩
      refine ⟨_, rfl, _, _, .type "tuple", .type "list", false, rfl, .ty "list", T2, rfl, _, rfl, _, _, .type "tuple", .type "list", false, rfl, .ty "list", T1, rfl, rfl, _, rfl, ite2 (fun h => absurd h (by simp)) (fun _ => ?_)⟩
      refine ⟨_, rfl, a, _, rfl, .inr (SqT.of ha), _, rfl, b, _, rfl, .inr (SqT.of hb), rfl, _, rfl, ite2 (fun h => absurd h (by rw [hl]; simp)) (fun _ => ?_)⟩
      refine ⟨_, rfl, b, ys, rfl, .inr (SqT.of hb), _, rfl, by omega, by omega, fun D hD => ?_⟩
      rw [Int.toNat_natCast]
      refine lc_put (walk_range (lo := 0) (n := ys.length)) (l := fun _ => []) ((List.replicate ys.length true).map V.bl) (by simp) hz (Wd.refl H) hD (fun _ _ _ _ => trivial) (fun i v H4 H4' R hi w5 hy hR => ?_) (fun H4 w5 => ?_)
      · obtain ⟨rfl, rfl⟩ := hy
        obtain ⟨x, hx⟩ : ∃ x, xs[i]? = some x := ⟨_, List.getElem?_eq_getElem (by omega)⟩
        obtain ⟨y, hy⟩ : ∃ y, ys[i]? = some y := ⟨_, List.getElem?_eq_getElem hi⟩
        refine ⟨rfl, _, rfl, _, rfl, .inr (.inl ⟨a, xs, _, x, rfl, rfl, SqT.of (w5.old ha (by simp)), at_of (j := i) (by omega) hx, ?_⟩)⟩
        refine ⟨_, rfl, _, rfl, .inr (.inl ⟨b, ys, _, y, rfl, rfl, SqT.of (w5.old hb (by simp)), at_of (j := i) (by omega) hy, ?_⟩)⟩
        refine ⟨x, y, rfl, (he i x y hx hy).keep w5, fun H6 c6 => hR _ _ ?_ (w5.call0 c6)⟩
        rw [List.getElem?_map, List.getElem?_replicate, if_pos hi]; rfl
      · refine ⟨D, _, rfl, SqL.of (w5.get 0 rfl), ?_⟩
        have ea : (List.replicate ys.length true).all id = true := by
          rw [List.all_eq_true]; intro x hx; rw [(List.mem_replicate.mp hx).2]; rfl
        rw [ea]
        exact q _ (w5.sub (List.nil_sublist _))
end
end Br

namespace Br
open PySem PySem.Spec PyProof.Rows L2
def FlatV : V → Prop
  | .non => True
  | .bl _ => True
  | .int _ => True
  | .str _ => True
  | _ => False
theorem eqv_flat {H : Hp} (n : Nat) : ∀ {x : V}, FlatV x → EqV H n x x
  | .non, _ => .non n
  | .bl b, _ => .bl n b
  | .int i, _ => .int n i
  | .str z, _ => .str n z
theorem eqv_flats {H : Hp} (n : Nat) {l : List V} (hf : ∀ v ∈ l, FlatV v) : ∀ (i : Nat) x y, l[i]? = some x → l[i]? = some y → EqV H n x y := fun i x y hx hy => by
  rw [hx] at hy; cases hy
  exact eqv_flat n (hf x (List.mem_of_getElem? hx))
section
variable {P : Program} {w : World} {K : PySem.W.Frag} {mg : Str → Option Value} {base : Heap} {CB CC CU CN : Addr}
def spStands (CB : Addr) : Sp := fun vs H Q _ => ∃ (z : Bz) (wa : Addr) (r : Rota) (b : Bst) (S : List (Str × Bst)), vs = [.ref z.x, .ref wa] ∧ ROk r ∧ BOk r b ∧ BkAt CB z r b S H ∧ LW H r wa b ∧ b.past.length ≤ 1000 ∧ b.now.d.length ≤ 1000 ∧ ∀ H', Wd [] H H' [] → Q (.bl true) H'
end
end Br

namespace Br
open PySem PySem.Spec PyProof.Rows L2
/-! ### sizes -/
structure BSz (m : Nat) (b : Bst) : Prop where
  len : b.past.length + b.und.length ≤ m
  now : b.now.d.length ≤ 500 * m
  past : ∀ e ∈ b.past, e.2.d.length ≤ 500 * m
  und : ∀ e ∈ b.und, e.1.2.d.length ≤ 500 * m ∧ e.2.d.length ≤ 500 * m
theorem BSz.zero (r : Rota) : BSz 0 (bst0 r) := ⟨Nat.le_refl _, Nat.le_refl _, fun _ h => (nomatch h), fun _ h => (nomatch h)⟩
theorem BSz.mono {m n : Nat} {b : Bst} (h : BSz m b) (k : m ≤ n) : BSz n b :=
  ⟨Nat.le_trans h.len k, by have := h.now; omega, fun e he => by have := h.past e he; omega, fun e he => by have := h.und e he; omega⟩
theorem BSz.recd {m : Nat} {b : Bst} {w : Str} {n : Now} (h : BSz m b) (hn : n.d.length ≤ 500 * (m + 1)) : BSz (m + 1) (recB w b n) := by
  refine ⟨?_, hn, fun e he => ?_, fun _ h => nomatch h⟩
  · show (b.past ++ [(w, b.now)]).length + 0 ≤ _
    have := h.len
    rw [List.length_append]; simp only [List.length_cons, List.length_nil]; omega
  · rcases List.mem_append.mp he with he | he
    · have := h.past e he; omega
    · rw [List.mem_singleton.mp he]; have := h.now; show b.now.d.length ≤ _; omega
theorem BSz.undo {m : Nat} {b b' : Bst} (h : BSz m b) (e : undoB b = some b') : BSz m b' := by
  unfold undoB at e
  cases hp : b.past.getLast? with
  | none => rw [hp] at e; cases e
  | some x =>
    rw [hp] at e
    cases e
    have hx : x ∈ b.past := List.mem_of_getLast? hp
    have hl : 0 < b.past.length := List.length_pos_of_mem hx
    refine ⟨?_, h.past x hx, fun y hy => h.past y ((List.dropLast_sublist _).subset hy), fun y hy => ?_⟩
    · show b.past.dropLast.length + (b.und ++ [(x, b.now)]).length ≤ m
      have := h.len
      rw [List.length_dropLast, List.length_append]; simp only [List.length_cons, List.length_nil]; omega
    · rcases List.mem_append.mp hy with hy | hy
      · exact h.und y hy
      · rw [List.mem_singleton.mp hy]; exact ⟨h.past x hx, h.now⟩
theorem BSz.redo {m : Nat} {b b' : Bst} (h : BSz m b) (e : redoB b = some b') : BSz m b' := by
  unfold redoB at e
  cases hp : b.und.getLast? with
  | none => rw [hp] at e; cases e
  | some x =>
    rw [hp] at e
    cases e
    have hx : x ∈ b.und := List.mem_of_getLast? hp
    have hl : 0 < b.und.length := List.length_pos_of_mem hx
    refine ⟨?_, (h.und x hx).2, fun y hy => ?_, fun y hy => h.und y ((List.dropLast_sublist _).subset hy)⟩
    · show (b.past ++ [x.1]).length + b.und.dropLast.length ≤ m
      have := h.len
      rw [List.length_dropLast, List.length_append]; simp only [List.length_cons, List.length_nil]; omega
    · rcases List.mem_append.mp hy with hy | hy
      · exact h.past y hy
      · rw [List.mem_singleton.mp hy]; exact (h.und x hx).1
/-- what an operation that works keeps -/
theorem doOp_keep {r : Rota} {b b' : Bst} {op : Op} {x : Res} {m : Nat} (ok : ROk r) (hop : OpOk r op) (bo : BOk r b) (bs : BSz m b) (h : doOp r b op = .ok (x, b')) : BOk r b' ∧ BSz (m + 1) b' ∧ ∀ l, x = .nms l → l.length ≤ 500 := by
  have und : ∀ {ob : Option Bst}, undoR b ob = .ok (x, b') → (∀ c, ob = some c → BOk r c ∧ BSz m c) → BOk r b' ∧ BSz (m + 1) b' ∧ ∀ l, x = .nms l → l.length ≤ 500 := fun {ob} e k => by
    cases ob with
    | none => cases e; exact ⟨bo, bs.mono (Nat.le_succ m), fun l h => nomatch h⟩
    | some c => cases e; obtain ⟨k1, k2⟩ := k _ rfl; exact ⟨k1, k2.mono (Nat.le_succ m), fun l h => nomatch h⟩
  have recK : ∀ {w : Str} {e : Except Str (Res × Now)}, recR w b e = .ok (x, b') → (∀ y n, e = .ok (y, n) → NowOk r n ∧ n.d.length ≤ 500 * (m + 1) ∧ ∀ l, y = .nms l → l.length ≤ 500) → BOk r b' ∧ BSz (m + 1) b' ∧ ∀ l, x = .nms l → l.length ≤ 500 := fun {w e} h k => by
    cases e with
    | error z => cases h
    | ok z =>
      obtain ⟨y, n⟩ := z
      obtain ⟨k1, k2, k3⟩ := k y n rfl
      cases h
      exact ⟨recB_ok bo k1, bs.recd k2, k3⟩
  cases op with
  | undo => exact und (show undoR b (undoB b) = _ from h) fun c e => ⟨undoB_ok bo e, bs.undo e⟩
  | redo => exact und (show undoR b (redoB b) = _ from h) fun c e => ⟨redoB_ok bo e, bs.redo e⟩
  | reset =>
    refine recK (show recR "reset" b (.ok (.non, now0 r)) = _ from h) fun y n e => ?_
    cases e
    exact ⟨now0_ok ok, Nat.zero_le _, fun l h => nomatch h⟩
  | step k =>
    refine recK (show recR "step" b (if 500 < k then .error "count" else .ok (.nms (found r k b.now), stepN r k b.now)) = _ from h) fun y n e => ?_
    by_cases c : 500 < k
    · rw [if_pos c] at e; cases e
    · rw [if_neg c] at e
      cases e
      have h6 : k ≤ 500 := by omega
      have := bs.now
      have l1 := ticksF_len (r := r) k b.now.s b.now.o b.now.t
      refine ⟨stepN_ok ok bo.now, ?_, fun l e => ?_⟩
      · show (b.now.d ++ (ticksF r k b.now.s b.now.o b.now.t).2.2).length ≤ _
        rw [List.length_append, l1]; omega
      · cases e
        show (ticksF r k b.now.s b.now.o b.now.t).2.2.length ≤ _
        rw [l1]; omega
  | gift z =>
    refine recK (show recR "gift" b (giftR r b.now (personOf r (.str z))) = _ from h) fun y n e => ?_
    cases hp : personOf r (.str z) with
    | none => rw [hp] at e; cases e
    | some p =>
      rw [hp] at e
      have e2 : (if p ∈ homes r b.now.t then Except.ok (Res.int (less (owes b.now.o p)), giftN p b.now) else .error ("nobody" : Str)) = .ok (y, n) := e
      obtain ⟨p0, p1, _⟩ := personOf_in hp
      split at e2 <;> cases e2
      have := bs.now
      refine ⟨giftN_ok p0 p1 bo.now, ?_, fun l e => nomatch e⟩
      show (b.now.d ++ [some p]).length ≤ _
      rw [List.length_append]; simp only [List.length_cons, List.length_nil]; omega
  | forgive z =>
    refine recK (show recR "forgive" b (forgiveR b.now (personOf r (.str z))) = _ from h) fun y n e => ?_
    cases hp : personOf r (.str z) with
    | none => rw [hp] at e; cases e
    | some p =>
      rw [hp] at e
      cases e
      have := bs.now
      exact ⟨forgiveN_ok bo.now, by show b.now.d.length ≤ _; omega, fun l e => nomatch e⟩
end Br

namespace Br
open PySem PySem.Spec PyProof.Rows L2
/-- what an operation leaves on the heap: the book's next state, its result -/
def Went (CB : Addr) (z : Bz) (r : Rota) (b' : Bst) (S : List (Str × Bst)) (H H' : Hp) (x : Res) (v : V) : Prop := ∃ z' : Bz, z'.x = z.x ∧ Wd z.own H H' [] ∧ (∀ a ∈ z'.own, a ∈ z.own ∨ H a = none) ∧ BkAt CB z' r b' S H' ∧ ResT (Msk z'.own H') r x v ∧ ∀ p, v = .ref p → H p = none
theorem BRes.went {CB : Addr} {z : Bz} {r : Rota} {b' : Bst} {S : List (Str × Bst)} {H H' : Hp} {x : Res} {v : V} (h : BRes CB z r b' S H H' x v) : Went CB z r b' S H H' x v := by
  cases x with
  | nms l =>
    obtain ⟨p, rfl, z', ez, w, oz, hp, hpz, bk⟩ := h
    exact ⟨z', ez, w.sub (List.nil_sublist _), oz, bk, ⟨p, rfl, Msk.mk hpz (w.get 0 rfl)⟩, fun p' e => by cases e; exact hp⟩
  | _ =>
    obtain ⟨hv, z', ez, w, oz, bk⟩ := h
    exact ⟨z', ez, w, oz, bk, hv, fun p e => by rw [hv] at e; cases e⟩
theorem Wd.goX {M M' : List Addr} {H0 H H' : Hp} {l : List (Addr × HO)} (c : Wd M H0 H l) (d : Wd M' H H' []) (hm : ∀ a ∈ M', a ∈ M ∨ H0 a = none) (hl : ∀ q ∈ l, q.1 ∉ M') : Wd M H0 H' l := by
  obtain ⟨b1, b2, b3, b4, b5, b6⟩ := c
  exact ⟨fun b o hb e => d.base b o (fun z => (hm b z).elim hb fun n => by rw [n] at e; cases e) (b1 b o hb e), fun b xs e => d.tups b xs (b2 b xs e), b3, fun q hq => d.base _ _ (hl q hq) (b4 q hq), b5, fun p e => b6 p (d.free p e)⟩
def OpsT (H : Hp) (oas : List Addr) (ops : List Op) : Prop := Paired (fun oa op => H oa = some (.tup (opL op))) oas ops
theorem OpsT.keep {H H' : Hp} {oas : List Addr} {ops : List Op} (h : OpsT H oas ops) (k : ∀ b xs, H b = some (.tup xs) → H' b = some (.tup xs)) : OpsT H' oas ops := paired_imp (fun _ _ e => k _ _ e) h
section
variable {P : Program} {w : World} {K : PySem.W.Frag} {mg : Str → Option Value} {base : Heap} {CB CC CU CN : Addr}
/-- a batch that works -/
def spBatch (CB : Addr) : Sp := fun vs H Q _ => ∃ (z : Bz) (la : Addr) (oas : List Addr) (ops : List Op) (r : Rota) (b b' : Bst) (S : List (Str × Bst)) (m : Nat) (xs : List Res), vs = [.ref z.x, .ref la] ∧ ROk r ∧ BOk r b ∧ BSz m b ∧ m ≤ 100 ∧ BkAt CB z r b S H ∧ H la = some (.lst (oas.map V.ref)) ∧ la ∉ z.own ∧ OpsT H oas ops ∧ (∀ op ∈ ops, OpOk r op) ∧ ops.length ≤ 60 ∧
  doOps r ops b = some (xs, b') ∧ ∀ (H' : Hp) (p : Addr) (vs' : List V) (z' : Bz), z'.x = z.x → Wd z.own H H' [(p, .lst vs')] → (∀ a ∈ z'.own, a ∈ z.own ∨ H a = none) → H p = none → p ∉ z'.own → BkAt CB z' r b' S H' → BOk r b' → BSz (m + ops.length) b' → Paired (ResT (Msk z'.own H') r) xs vs' → Q (.ref p) H'
end
end Br

namespace Br
open PySem PySem.Spec PyProof.Rows L2
section
variable {P : Program} {w : World} {K : PySem.W.Frag} {mg : Str → Option Value} {base : Heap} {CB CC CU CN : Addr}
structure ClAt (P : Program) (w : World) (K : PySem.W.Frag) (mg : Str → Option Value) (base : Heap) (k : Nat) (C : Addr) (m : Str) (ps : List Str) (sp : Sp) : Prop where
  ex : ∃ (mc : Value) (p g : Addr) (fd : FuncData), ClX.CRead K C mc ∧ ClX.CMet K C mc m p g ∧ FnOk P w K mg base CX0 k g fd ps sp ∧ Binds K fd ps []
structure ClMeth (K : PySem.W.Frag) (C : Addr) (m q : Str) (st : Stmt) (ps : List Str) : Prop where
  ex : ∃ (mc : Value) (p g : Addr) (fd : FuncData), ClX.CRead K C mc ∧ ClX.CMet K C mc m p g ∧ Fun K m q st g fd ∧ Binds K fd ps []
abbrev sBook_replay : Stmt := inClass (topS 61) 1
theorem scBook_replay : FnScope ["cls", "rota", "operations", "book", "place", "operation", "e"] ["cls", "rota", "operations"] (defScope sBook_replay) := ⟨rfl, rfl, rfl, by decide +kernel, rfl, by decide +kernel, by decide +kernel⟩
/-- a book made of a text and operations that work -/
def spReplay (CB : Addr) : Sp := fun vs H Q _ => ∃ (src : Str) (la : Addr) (oas : List Addr) (ops : List Op) (r : Rota) (St : List Stm) (b' : Bst) (xs : List Res), vs = [.ref CB, .str src, .ref la] ∧ Says src r St ∧ ROk r ∧ H la = some (.lst (oas.map V.ref)) ∧ OpsT H oas ops ∧ (∀ op ∈ ops, OpOk r op) ∧ ops.length ≤ 60 ∧
  doOps r ops (bst0 r) = some (xs, b') ∧ ∀ (H' : Hp) (z : Bz), Wd [] H H' [] → (∀ a ∈ z.own, H a = none) → BkAt CB z r b' [] H' → BOk r b' → BSz ops.length b' → Q (.ref z.x) H'
end
end Br

/-! Contracts of defs and methods that raise exceptions without a context (so that an except suite may go on with them). -/
namespace Br
open PySem PySem.Spec PyProof.Rows L2
structure CalN (P : Program) (w : World) (K : PySem.W.Frag) (mg : Str → Option Value) (base : Heap) (k : Nat) (x : Str) (ps : List Str) (sp : Sp) : Prop where
  ex : ∃ (f : Addr) (fd : FuncData), mg x = some (.ref f) ∧ PySem.W.keepIn K (.ref f) = true ∧ Binds K fd ps [] ∧ FnOk P w K mg base (L2N.CX P w) k f fd ps sp
structure MeN (P : Program) (w : World) (K : PySem.W.Frag) (mg : Str → Option Value) (base : Heap) (k : Nat) (C : Addr) (m : Str) (ps : List Str) (sp : Sp) : Prop where
  ex : ∃ (f : Addr) (fd : FuncData), Meth K C m f ∧ Binds K fd ps [] ∧ FnOk P w K mg base (L2N.CX P w) k f fd ps sp
section
variable {P : Program} {w : World} {K : PySem.W.Frag} {mg : Str → Option Value} {base : Heap} {k : Nat} {x m q : Str} {C : Addr} {st : Stmt} {ps : List Str} {sp : Sp}
theorem DefAt.calN (D : DefAt K mg x st ps) (h : ∀ f fd, Fun K x x st f fd → FnOk P w K mg base (L2N.CX P w) k f fd ps sp) : CalN P w K mg base k x ps sp := by
  obtain ⟨f, fd, m, F, b⟩ := D.ex
  exact ⟨f, fd, m, F.kp, b, h f fd F⟩
theorem MethAt.meN (D : MethAt K C m q st ps) (h : ∀ f fd, Fun K m q st f fd → FnOk P w K mg base (L2N.CX P w) k f fd ps sp) : MeN P w K mg base k C m ps sp := by
  obtain ⟨f, fd, M, F, b⟩ := D.ex
  exact ⟨f, fd, M, b, h f fd F⟩
end
end Br
namespace L2
open PySem PySem.Spec PyProof.Rows
section
variable {P : Program} {w : World} {K : PySem.W.Frag} {mg : Str → Option Value} {base : Heap}
theorem Fun.okN {x qual : Str} {st : Stmt} {f : Addr} {fd : FuncData} {N ps : List Str} {k : Nat} {sp : Sp} (F : Fun K x qual st f fd) (S : FnScope N ps (defScope st)) (len : ∀ vs H Q E, sp vs H Q E → vs.length = ps.length)
    (hbody : ∀ (cdv : Value) (A : Around) (outer : List Env) (s : Shared) (H : Hp) (vs : List V) (Q : VK) (E : XK), Room k (A.deeper (envOfC qual (defScope st) s.heap.objs.size f cdv)) → sp vs H Q E →
      ∃ t, PSs (cxOf (L2N.CX P w) P w K mg base N qual (defScope st) f cdv A outer s H E) (defBody st) t ∧ t { nx := fun _ H' => Q .non H', rt := Q } (start N vs) H) : FnOk P w K mg base (L2N.CX P w) (k + 1) f fd ps sp := by
  obtain ⟨oc, od, kV, doc, pm, an, cdv, ct, osl, rfl, lk, hcd⟩ := F.ex
  exact fn_of lk hcd S len fun A outer s H vs Q E hr hsp => hbody cdv A outer s H vs Q E hr hsp
end
end L2
namespace Br
open PySem PySem.Spec PyProof.Rows L2
section
variable {P : Program} {w : World} {K : PySem.W.Frag} {mg : Str → Option Value} {base : Heap} {k : Nat} {x m q : Str} {C : Addr} {st : Stmt} {ps : List Str} {sp : Sp}
end
end Br

namespace Br
open PySem PySem.Spec PyProof.Rows L2
section
variable {P : Program} {w : World} {K : PySem.W.Frag} {mg : Str → Option Value} {base : Heap} {CB CU CC CN : Addr}
theorem cal_personNN (D : DefAt K mg "person_number" sperson_number ["parsed", "name"]) (T : Bi mg) (EP_UnknownPerson : ExPl K mg "UnknownPerson" CU) : CalN P w K mg base 1 "person_number" ["parsed", "name"] (spPersonN CU) := D.calN fun f fd F => by
  have nd := scperson_number.nd
  refine F.okN scperson_number (fun vs H Q E h => ?_) (fun cdv A outer s H vs Q E hr h => ?_)
  · obtain ⟨a, r, v, t, rfl, _⟩ := h; rfl
  obtain ⟨a, r, v, t, rfl, hR, ok, kv, q⟩ := h
  obtain ⟨an, at_, aw, aa, am, as, h1, h2, h3, h4, h5, h6, h7⟩ := id hR
  refine ⟨_, (pss_cons (ps_if (PW.pt (pw_or (pt_not (pt_val (pe_callB call_isi (by rfl) T.isinstance (by decide +kernel) (pa_cons (pv 1) (pa_cons (pe_bltn (v := .ty "str") (by rfl) T.str (by decide +kernel) rfl) pa_nil))))) (pw_or1 (pt_cmpR (r := rIn K true) op_notIn_seq (pv 1) (pe_ix (r := rIxT K) ix_tup (pv 0) pe_int (fun _ _ => rfl)) (by rfl)))))
 (pss_one (L2N.ps_raise rfl (L2N.takes_of rfl rfl rfl rfl) (L2N.pmk_own PySem.F.excBase_ValueError EP_UnknownPerson.q EP_UnknownPerson.g EP_UnknownPerson.k EP_UnknownPerson.r (by rfl))))
 pss_nil)
 (pss_one (ps_ret (pe_bmF (r := rTIndex K) PySem.F.slot_tuple_index PySem.F.type_tuple_index mt_tup_index (pe_ix (r := rIxT K) ix_tup (pv 0) pe_int (fun _ _ => rfl)) (pa_cons (pv 1) pa_nil))))), ?_⟩
  have k1 := kit_is (K := K) kv.mem (T := "str") (by decide)
  refine ⟨_, rfl, _, _, _, .type "str", _, rfl, .ty "str", kv.ty, k1, _, rfl, ?_⟩
  have no : personOf r v = none → ∀ H', Wd [] H H' [] → E (.ref CU) none H' := fun e => by rw [e] at q; exact q
  refine ite2 (fun c => ?_) (fun c => ?_)
  · refine iteT ?_
    refine no ?_ _ (Wd.refl H)
    cases v with
    | str z => cases kv; exact absurd c (by decide)
    | _ => rfl
  · have hv : ∃ z, v = .str z := by
      cases kv with
      | str z => exact ⟨z, rfl⟩
      | non => exact absurd rfl c
      | bl b => exact absurd rfl c
      | int i => exact absurd rfl c
      | lst h => exact absurd rfl c
      | tup h => exact absurd rfl c
    obtain ⟨x, rfl⟩ := hv
    refine ⟨_, rfl, _, rfl, a, _, 0, _, rfl, rfl, SqT.of h1, rfl, an, _, rfl, .inr h2.sq, rfl, flat_strs _, _, rfl, ?_⟩
    rw [if_pos rfl, inV_strs]
    by_cases hm : x ∈ r.names
    · rw [decide_eq_true hm]
      refine iteF ?_
      obtain ⟨i, hi, e⟩ := List.getElem_of_mem hm
      cases hp : personOf r (.str x) with
      | none =>
        have e2 := personOf_nm ok (p := (i : Int)) (by omega) (by omega)
        have e3 : nm r (i : Int) = x := by
          have := nm_mem (r := r) (k := (i : Int)) (by omega) (by omega)
          rw [Int.toNat_natCast, List.getElem?_eq_getElem hi, e] at this
          exact (Option.some.inj this).symm
        rw [e3, hp] at e2; cases e2
      | some p =>
        rw [hp] at q
        obtain ⟨g1, g2, g3⟩ := personOf_in hp
        cases g3
        have hl : p.toNat < r.names.length := by omega
        refine ⟨_, rfl, a, _, 0, _, rfl, rfl, SqT.of h1, rfl, ?_⟩
        obtain ⟨on, hon, hfz⟩ := id h2
        refine ⟨⟨an, on, _, rfl, hon, hfz⟩, _, rfl, an, r.names, nm r p, p.toNat, rfl, rfl, h2.sq, nm_mem g1 g2, fun m hm e => ?_, ?_⟩
        · have hml : m < r.names.length := by omega
          have e1 := nm_mem (r := r) g1 g2
          rw [List.getElem?_eq_getElem hl] at e1
          rw [List.getElem?_eq_getElem hml] at e
          have := (List.getElem_inj ok.nd (h₀ := hml) (h₁ := hl)).mp ((Option.some.inj e).trans (Option.some.inj e1).symm)
          omega
        · rw [Int.toNat_of_nonneg g1]; exact q _ (Wd.refl H)
    · rw [decide_eq_false hm]
      refine iteT ?_
      refine no ?_ _ (Wd.refl H)
      cases hp : personOf r (.str x) with
      | none => rfl
      | some p =>
        obtain ⟨g1, g2, g3⟩ := personOf_in hp
        cases g3
        exact absurd (List.mem_of_getElem? (nm_mem g1 g2)) hm
end
end Br

namespace Br
open PySem PySem.Spec PyProof.Rows L2
section
variable {P : Program} {w : World} {K : PySem.W.Frag} {mg : Str → Option Value} {base : Heap} {CB CU CC CN : Addr}
theorem me_stepN (D : MethAt K CB "step" "Book.step" sBook_step ["self", "count"]) (T : Bi mg) (BC : BkCls K CB) (cS : ∃ t, mg "STEP" = some (.str "step" t)) (cM : ∃ t, mg "MAX_STEPS" = some (.int 500 t)) (EP_InvalidCount : ExPl K mg "InvalidCount" CC)
    (C1 : Cal P w K mg base 1 "is_int_in" ["value", "low", "high"] spIntIn) (C2 : Cal P w K mg base 3 "after_tick" ["parsed", "state", "tick"] spAfter) (C3 : MeAt P w K mg base 1 CB "record" ["self", "word", "now"] (spRecord CB)) (C4 : MeAt P w K mg base 1 CB "named" ["self", "person"] (spNamed CB)) :
    MeN P w K mg base 4 CB "step" ["self", "count"] (spStep CB CC) := D.meN fun f fd F => by
  have nd := scBook_step.nd
  have cl_Book := BC.cl
  obtain ⟨tS, c_STEP⟩ := cS
  obtain ⟨tM, c_MAX_STEPS⟩ := cM
  obtain ⟨f1, fd1, m_is_int_in, kp_is_int_in, b_is_int_in, G_is_int_in⟩ := C1.ex
  obtain ⟨f2, fd2, m_after_tick, kp_after_tick, b_after_tick, G_after_tick⟩ := C2.ex
  obtain ⟨f3, fd3, me_record, b_record, G_record⟩ := C3.ex
  obtain ⟨f4, fd4, me_named, b_named, G_named⟩ := C4.ex
  refine F.okN scBook_step (fun vs H Q E h => ?_) (fun cdv A outer s H vs Q E hr h => ?_)
  · obtain ⟨z, r, b, S, v, t, rfl, _⟩ := h; rfl
  obtain ⟨z, r, b, S, v, t, rfl, ok, bo, hb, kv, hl, hl2, hE, q⟩ := h
  refine ⟨_, (pss_cons (ps_if (pt_not (pt_val (pe_call G_is_int_in (hr.mono (by first | decide | omega)) (by rfl) m_is_int_in kp_is_int_in b_is_int_in .nil pass0 (pa_cons (pv 1) (pa_cons pe_int (pa_cons (pe_glob (v := .int 500) (by rfl) c_MAX_STEPS ⟨_, rfl⟩) pa_nil))))))
 (pss_one (L2N.ps_raise rfl (L2N.takes_of rfl rfl rfl rfl) (L2N.pmk_own PySem.F.excBase_ValueError EP_InvalidCount.q EP_InvalidCount.g EP_InvalidCount.k EP_InvalidCount.r (by rfl))))
 pss_nil)
 (pss_cons (ps_asg (pe_fldK (K := K) rfl (pv 0) rfl) (pg_tupK (K := K) (n := 3) rfl rfl (pgs_cons (pg_name (i := 2) nd rfl (Or.inl rfl)) (pgs_cons (pg_name (i := 3) nd rfl (Or.inl rfl)) (pgs_cons (pg_name (i := 4) nd rfl (Or.inl rfl)) pgs_nil)))))
 (pss_cons (ps_set (i := 5) nd rfl (Or.inl rfl) (pe_lst pa_nil))
 (pss_cons (ps_for (passes_of rfl) rfl (pi_range1 (by rfl) T.range (pa_cons (pv 1) pa_nil)) (pg_name (i := 6) nd rfl (Or.inl rfl))
 (pss_cons (ps_asg (pe_call G_after_tick (hr.mono (by first | decide | omega)) (by rfl) m_after_tick kp_after_tick b_after_tick .nil pass0 (pa_cons (pe_fldK (K := K) rfl (pv 0) rfl) (pa_cons (pv 2) (pa_cons (pe_op op_add (pv 3) (pv 6)) pa_nil)))) (pg_tupK (K := K) (n := 2) rfl rfl (pgs_cons (pg_name (i := 2) nd rfl (Or.inl rfl)) (pgs_cons (pg_name (i := 7) nd rfl (Or.inl rfl)) pgs_nil))))
 (pss_one (ps_expr (pe_bmK (K := K) rfl PySem.F.plainAttrs_list PySem.F.slot_list_append PySem.F.type_list_append mt_append (pv 5) (pa_cons (pv 7) pa_nil))))))
 (pss_cons (ps_expr (pe_meth (pv 0) cl_Book me_record G_record (hr.mono (by first | decide | omega)) b_record .nil pass0 (pa_cons (pe_glob (v := .str "step") (by rfl) c_STEP ⟨_, rfl⟩) (pa_cons (pe_tup (pa_cons (pv 2) (pa_cons (pe_op op_add (pv 3) (pv 1)) (pa_cons (pe_op (r := rCatA K) op_catA (pv 4) (pe_callTy (r := rTupOf K) call_tuple_of (by rfl) T.tuple (by decide +kernel) (pa_cons (pv 5) pa_nil))) pa_nil)))) pa_nil))))
 (pss_one (ps_ret (pe_lc (own := [("person", 7)]) rfl nd (pi_listK (K := K) rfl (pv 5)) (blkOk_by (N := ["self", "count", "state", "tick", "doers", "found", "turn", "person"]) (sc := defScope sBook_step) (by decide +kernel)) (fun _ _ _ _ _ => (pg_name (i := 7) nd rfl (Or.inl rfl))) (fun _ _ _ _ _ => pts_nil) (fun _ _ _ _ _ => (pe_meth (pv 0) cl_Book me_named G_named (hr.mono (by first | decide | omega)) b_named .nil pass0 (pa_cons (pv 7) pa_nil))))))))))), ?_⟩
  refine ⟨_, rfl, v, t, 0, 500, rfl, kv, _, rfl, ?_⟩
  cases hin : intIn 0 500 v with
  | false => exact iteT (hE hin _ (Wd.refl H))
  | true =>
  refine iteF ?_
  obtain ⟨i, rfl, i1, i2⟩ := intIn_ex hin
  obtain ⟨k, rfl⟩ : ∃ k : Nat, i = k := ⟨i.toNat, by omega⟩
  have hk : k ≤ 500 := by omega
  obtain ⟨na, hx, lt⟩ := id hb.na
  obtain ⟨st, dd, n1, n2, n3⟩ := lt.now
  refine ⟨_, rfl, z.x, CB, z.dx, _, _, rfl, hx, BC.cl, BC.n2, bk_now, na, _, rfl, SqT.of n1, rfl, _, _, rfl, _, _, rfl, _, _, rfl, rfl, ?_⟩
  refine ⟨Nat.zero_le _, fun fl hfl => ?_⟩
  have w1 := (Wd.refl H).new (.lst []) hfl
  refine ⟨_, rfl, _, rfl, by omega, by omega, ?_⟩
  rw [Int.toNat_natCast]
  have nowk := bo.now
  refine for_range (lo := 0) (n := k) (fun i σ H' => ∃ (st' : Addr) (s6 s7 : Option V), σ = [some (.ref z.x), some (.int (k : Int)), some (.ref st'), some (.int (b.now.t : Int)), some (.ref dd), some (.ref fl), s6, s7] ∧ Wd [] H H' [(fl, .lst ((ticksF r i b.now.s b.now.o b.now.t).2.2.map dV))] ∧
    StT H' st' (ticksF r i b.now.s b.now.o b.now.t).1 (ticksF r i b.now.s b.now.o b.now.t).2.1) ⟨st, _, _, rfl, w1, n2.keep w1.tups⟩ ?_ ?_
  · rintro i σ H2 hi ⟨st', s6, s7, rfl, w2, hst⟩
    have hb2 := hb.keep0 w2
    obtain ⟨g1, g2, g3⟩ := ticks_ok ok i _ _ b.now.t nowk.s nowk.o
    have hm := ticksF_more (r := r) i b.now.s b.now.o b.now.t
    refine ⟨_, rfl, z.x, CB, z.dx, _, _, rfl, w2.old hx (by simp), BC.cl, BC.n1, bk_parsed, _, rfl, _, rfl, _, rfl, _, _, rfl, rfl, z.p, st', r, _, _, _, rfl, hb2.ro, ok, hst, g1, g2, fun H3 p st2 w3 h3 h4 => ?_⟩
    have et : ((b.now.t : Int) + (0 + (i : Int))) = ((b.now.t + i : Nat) : Int) := by omega
    rw [et] at h3 h4
    have w4 := w2.call0 w3
    refine ⟨p, _, rfl, SqT.of h3, rfl, _, _, rfl, _, _, rfl, rfl, ?_⟩
    refine ⟨_, rfl, .inl ⟨rfl, _, SqL.of (w4.get 0 rfl)⟩, _, rfl, fl, _, _, rfl, rfl, w4.get 0 rfl, ?_, st2, _, _, rfl, ?_, ?_⟩
    · rw [List.length_map, ticksF_len]; exact lt_line (by omega)
    · rw [hm]
      have w5 := w4.app0 (dV (tickF r (ticksF r i b.now.s b.now.o b.now.t).1 (ticksF r i b.now.s b.now.o b.now.t).2.1 ((b.now.t + i : Nat) : Int)).2.2)
      dsimp only
      rw [List.map_append]
      exact w5
    · rw [hm]
      exact h4.keep ((Wd.refl H3).put0L (w4.get 0 rfl)).tups
  · rintro σ H2 ⟨st', s6, s7, rfl, w2, hst⟩
    have hb2 := hb.keep0 w2
    have hlen := ticksF_len (r := r) k b.now.s b.now.o b.now.t
    have ow2 := w2.get 0 rfl
    refine ⟨_, rfl, z.x, z.dx, _, rfl, w2.old hx (by simp), bk_none (by decide +kernel), _, rfl, _, rfl, _, rfl, _, _, rfl, rfl, _, rfl, _, rfl, fl, _, rfl, .inl ⟨SqL.of (w2.get 0 rfl), fun ft hft => ?_⟩⟩
    have w3 := w2.new (.tup ((ticksF r k b.now.s b.now.o b.now.t).2.2.map dV)) hft
    refine catA_any (w3.tups _ _ n3) (w3.get 0 rfl) (by rw [List.length_map, List.length_map, hlen]; omega) fun H4 dn w4 h4 => ?_
    have w5 := w3.call0 w4
    refine ⟨(by show 3 ≤ sizeLine; decide), fun nb hnb => ?_⟩
    have w6 := w5.new (.tup [V.ref st', V.int ((b.now.t : Int) + (k : Int)), V.ref dn]) hnb
    have v6 := (((Wd.refl H2).new (.tup ((ticksF r k b.now.s b.now.o b.now.t).2.2.map dV)) hft).call0 w4).new (.tup [V.ref st', V.int ((b.now.t : Int) + (k : Int)), V.ref dn]) hnb
    have u6 := (Wd.refl H4).new (.tup [V.ref st', V.int ((b.now.t : Int) + (k : Int)), V.ref dn]) hnb
    have hn6 : NowT _ nb (stepN r k b.now) := ⟨st', dn, w6.get 0 rfl, hst.keep v6.tups, by rw [u6.tups _ _ h4]; show _ = some (HO.tup ((b.now.d ++ _).map dV)); rw [List.map_append]⟩
    refine ⟨z, r, b, S, "step", nb, stepN r k b.now, rfl, hb.keep0 w6, hn6, hl, fun H7 bs => ?_⟩
    obtain ⟨z', ez, w7, oz, hb7⟩ := bs
    have fo : ∀ a ∈ z.own, H a ≠ none := hb.al
    have flz : fl ∉ z.own := fun hm => fo fl hm hfl
    have w6' := w6.get 2 rfl
    have hfl7 : H7 fl = some (.lst ((ticksF r k b.now.s b.now.o b.now.t).2.2.map dV)) := w7.base _ _ flz w6'
    refine ⟨_, rfl, fl, rfl, ⟨_, SqL.of hfl7⟩, fun D hD => ?_⟩
    have w8 : Wd z.own H H7 [] := ((w6.sub (List.nil_sublist _)).mono (fun _ h => nomatch h)).fgo w7
    obtain ⟨na', hx7, lt7⟩ := id hb7.na
    rw [ez] at hx7
    obtain ⟨t1, t2, t3⟩ := ticks_ok ok k _ _ b.now.t nowk.s nowk.o
    refine lc_list (xs := (ticksF r k b.now.s b.now.o b.now.t).2.2.map dV) (fun i H8 => Wd [] H7 H8 [(D, .lst (((found r k b.now).take i).map (nameV r)))]) ((Wd.refl H7).new _ hD) (fun i H8 _ w9 => SqL.of (w9.old hfl7 (by simp))) (fun i x H8 hx8 w9 => ?_) (fun H8 w9 => ?_)
    · rw [List.getElem?_map] at hx8
      obtain ⟨d, hd, rfl⟩ := Option.map_eq_some_iff.mp hx8
      have hb8 := hb7.keep0 w9
      refine ⟨rfl, _, rfl, z.x, z'.dx, _, rfl, w9.old hx7 (by simp), bk_none (by decide +kernel), _, rfl, z', r, _, S, d, by rw [ez]; rfl, hb8, fun p e => t3 p (e ▸ List.mem_of_getElem? hd), _, w9.get 0 rfl, ?_, ?_⟩
      · rw [List.length_map, List.length_take]; exact lt_line (by unfold found; rw [hlen]; omega)
      · rw [take_more (show (found r k b.now)[i]? = some d from hd), List.map_append]
        exact w9.app0 _
    · rw [List.length_map, hlen] at w9
      have e9 : (found r k b.now).take k = found r k b.now := List.take_of_length_le (by unfold found; rw [hlen]; exact Nat.le_refl _)
      rw [e9] at w9
      refine q k rfl hk _ D ⟨z', ez, ?_, fun a ha => (oz a ha).imp id (w6.free a), w8.free _ hD, fun hm => hb7.al D hm hD, hb7.keep0 w9⟩
      exact w8.callN w9
end
end Br

namespace Br
open PySem PySem.Spec PyProof.Rows L2
section
variable {P : Program} {w : World} {K : PySem.W.Frag} {mg : Str → Option Value} {base : Heap} {CB CU CC CN : Addr}
theorem me_giftN (D : MethAt K CB "gift" "Book.gift" sBook_gift ["self", "name"]) (T : Bi mg) (BC : BkCls K CB) (cG : ∃ t, mg "GIFT" = some (.str "gift" t)) (EP_NobodyHome : ExPl K mg "NobodyHome" CN)
    (C1 : CalN P w K mg base 1 "person_number" ["parsed", "name"] (spPersonN CU)) (C2 : Cal P w K mg base 2 "home_people" ["parsed", "tick"] spHomes) (C3 : MeAt P w K mg base 1 CB "record" ["self", "word", "now"] (spRecord CB)) :
    MeN P w K mg base 3 CB "gift" ["self", "name"] (spGift CB CU CN) := D.meN fun f fd F => by
  have nd := scBook_gift.nd
  have cl_Book := BC.cl
  obtain ⟨tG, c_GIFT⟩ := cG
  obtain ⟨f1, fd1, m_person_number, kp_person_number, b_person_number, G_person_number⟩ := C1.ex
  obtain ⟨f2, fd2, m_home_people, kp_home_people, b_home_people, G_home_people⟩ := C2.ex
  obtain ⟨f3, fd3, me_record, b_record, G_record⟩ := C3.ex
  refine F.okN scBook_gift (fun vs H Q E h => ?_) (fun cdv A outer s H vs Q E hr h => ?_)
  · obtain ⟨z, r, b, S, v, t, rfl, _⟩ := h; rfl
  obtain ⟨z, r, b, S, v, t, rfl, ok, bo, hb, kv, hl, hl2, q⟩ := h
  refine ⟨_, (pss_cons (ps_set (i := 2) nd rfl (Or.inl rfl) (pe_call G_person_number (hr.mono (by first | decide | omega)) (by rfl) m_person_number kp_person_number b_person_number .nil (L2N.passes_call (L2N.takes_of rfl rfl rfl rfl) (fun _ _ _ _ h => h)) (pa_cons (pe_fldK (K := K) rfl (pv 0) rfl) (pa_cons (pv 1) pa_nil))))
 (pss_cons (ps_asg (pe_fldK (K := K) rfl (pv 0) rfl) (pg_tupK (K := K) (n := 3) rfl rfl (pgs_cons (pg_tupK (K := K) (n := 2) rfl rfl (pgs_cons (pg_name (i := 3) nd rfl (Or.inl rfl)) (pgs_cons (pg_name (i := 4) nd rfl (Or.inl rfl)) pgs_nil))) (pgs_cons (pg_name (i := 5) nd rfl (Or.inl rfl)) (pgs_cons (pg_name (i := 6) nd rfl (Or.inl rfl)) pgs_nil)))))
 (pss_cons (ps_if (pt_cmpR (r := rIn K true) op_notIn_seq (pv 2) (pe_call G_home_people (hr.mono (by first | decide | omega)) (by rfl) m_home_people kp_home_people b_home_people .nil pass0 (pa_cons (pe_fldK (K := K) rfl (pv 0) rfl) (pa_cons (pv 5) pa_nil))) (by rfl))
 (pss_one (L2N.ps_raise rfl (L2N.takes_of rfl rfl rfl rfl) (L2N.pmk_own PySem.F.excBase_ValueError EP_NobodyHome.q EP_NobodyHome.g EP_NobodyHome.k EP_NobodyHome.r (by rfl))))
 pss_nil)
 (pss_cons (ps_set (i := 4) nd rfl (Or.inl rfl) (pe_op (r := rCatA K) op_catA (pe_op (r := rCatA K) op_catA (pe_slice (r := rSlA K) sl_tupA (pv 4) po_none (po_some (pv 2))) (pe_tup (pa_cons (pe_callB (call_max2 rfl) (by rfl) T.max (by decide +kernel) (pa_cons pe_int (pa_cons (pe_op op_sub (pe_ix (r := rIxT K) ix_tup (pv 4) (pv 2) (fun _ _ => rfl)) pe_int) pa_nil))) pa_nil))) (pe_slice (r := rSlA K) sl_tupA (pv 4) (po_some (pe_op op_add (pv 2) pe_int)) po_none)))
 (pss_cons (ps_expr (pe_meth (pv 0) cl_Book me_record G_record (hr.mono (by first | decide | omega)) b_record .nil pass0 (pa_cons (pe_glob (v := .str "gift") (by rfl) c_GIFT ⟨_, rfl⟩) (pa_cons (pe_tup (pa_cons (pe_tup (pa_cons (pv 3) (pa_cons (pv 4) pa_nil))) (pa_cons (pe_op op_add (pv 5) pe_int) (pa_cons (pe_op (r := rCatA K) op_catA (pv 6) (pe_tup (pa_cons (pv 2) pa_nil))) pa_nil)))) pa_nil))))
 (pss_one (ps_ret (pe_ix (r := rIxT K) ix_tup (pv 4) (pv 2) (fun _ _ => rfl))))))))), ?_⟩
  obtain ⟨na, hx, lt⟩ := id hb.na
  obtain ⟨st, dd, n1, ⟨ob, n2, n2'⟩, n3⟩ := lt.now
  refine ⟨_, rfl, z.x, CB, z.dx, _, _, rfl, hx, BC.cl, BC.n1, bk_parsed, _, rfl, z.p, r, v, t, rfl, hb.ro, ok, kv, ?_⟩
  cases hp : personOf r v with
  | none => rw [hp] at q; exact q
  | some p =>
  rw [hp] at q
  obtain ⟨q1, q2⟩ := q
  obtain ⟨hp0, hp1, _⟩ := personOf_in hp
  have ol := bo.now.o.len
  intro H1 w1
  refine ⟨_, rfl, z.x, CB, z.dx, _, _, rfl, w1.old hx (by simp), BC.cl, BC.n2, bk_now, na, _, rfl, SqT.of (w1.tups _ _ n1), rfl, _, _, rfl, ?_⟩
  refine ⟨st, _, rfl, SqT.of (w1.tups _ _ n2), rfl, _, _, rfl, _, _, rfl, rfl, _, _, rfl, _, _, rfl, rfl, ?_⟩
  have hb1 := hb.keep0 w1
  refine ⟨_, rfl, _, rfl, z.x, CB, z.dx, _, _, rfl, w1.old hx (by simp), BC.cl, BC.n1, bk_parsed, _, rfl, z.p, r, _, rfl, hb1.ro, ok, fun H2 hs w2 => ?_⟩
  have w3 := w1.call0 w2
  refine ⟨hs, _, rfl, .inl (SqL.of (w3.get 0 rfl)), rfl, flat_ints _, _, rfl, ?_⟩
  rw [if_pos rfl, inV_ints]
  by_cases hm : p ∈ homes r b.now.t
  · rw [decide_eq_true hm]
    refine iteF ?_
    have w4 := w3.sub (List.nil_sublist _)
    have eo : atI (b.now.o.map V.int) p = some (.int (owes b.now.o p)) := owes_V hp0 (by omega)
    refine ⟨_, rfl, _, rfl, _, rfl, slA_any (w4.tups _ _ n2') fun H3 p1 w5 g1 => ?_⟩
    rw [cut_take _ hp0] at g1
    refine ⟨_, rfl, _, rfl, ob, _, p, _, rfl, rfl, SqT.of (w5.tups _ _ (w4.tups _ _ n2')), eo, _, _, rfl, rfl, _, _, rfl, (by show 1 ≤ sizeLine; decide), fun p2 hp2 => ?_⟩
    have w6 := w4.call0 w5
    have w7 := w6.new (.tup [V.int (less (owes b.now.o p))]) hp2
    have v7 := (Wd.refl H3).new (.tup [V.int (less (owes b.now.o p))]) hp2
    refine catA_any (v7.tups _ _ g1) (w7.get 0 rfl) (by rw [List.length_take, List.length_map]; simp only [List.length_cons, List.length_nil]; have := ok.n6; omega) fun H4 p3 w8 g3 => ?_
    have w9 := w7.call0 w8
    refine ⟨_, rfl, _, rfl, _, _, rfl, rfl, _, rfl, ?_⟩
    dsimp only [tNoPart]
    refine slA_any (w9.tups _ _ n2') fun H5 p4 w10 g4 => ?_
    rw [cut_drop _ (by omega)] at g4
    have w11 := w9.call0 w10
    refine catA_any (w10.tups _ _ g3) g4 (by rw [List.length_append, List.length_take, List.length_drop, List.length_map]; simp only [List.length_cons, List.length_nil]; have := ok.n6; omega) fun H6 p5 w12 g5 => ?_
    have w13 := w11.call0 w12
    rw [show (p + 1).toNat = p.toNat + 1 by omega, set_split (by rw [List.length_map]; omega), ← List.map_set] at g5
    -- record
    refine ⟨_, rfl, z.x, z.dx, _, rfl, w13.old hx (by simp), bk_none (by decide +kernel), _, rfl, _, rfl, (by show 2 ≤ sizeLine; decide), fun a1 ha1 => ?_⟩
    have w14 := w13.new (.tup [V.int (b.now.s : Int), V.ref p5]) ha1
    refine ⟨_, rfl, _, _, rfl, rfl, _, rfl, _, rfl, (by show 1 ≤ sizeLine; decide), fun a2 ha2 => ?_⟩
    have w15 := w14.new (.tup [V.int p]) ha2
    refine catA_any (w15.tups _ _ n3) (w15.get 0 rfl) (by rw [List.length_map]; simp only [List.length_cons, List.length_nil]; omega) fun H7 dn w16 g7 => ?_
    have w17 := w15.call0 w16
    refine ⟨(by show 3 ≤ sizeLine; decide), fun nb hnb => ?_⟩
    have w18 := w17.new (.tup [V.ref a1, V.int ((b.now.t : Int) + 1), V.ref dn]) hnb
    have v18 := ((((Wd.refl H6).new (.tup [V.int (b.now.s : Int), V.ref p5]) ha1).new (.tup [V.int p]) ha2).call0 w16).new (.tup [V.ref a1, V.int ((b.now.t : Int) + 1), V.ref dn]) hnb
    have u18 := (Wd.refl H7).new (.tup [V.ref a1, V.int ((b.now.t : Int) + 1), V.ref dn]) hnb
    have hn : NowT _ nb (giftN p b.now) := ⟨a1, dn, w18.get 0 rfl, ⟨p5, w18.get 2 rfl, v18.tups _ _ g5⟩, by rw [u18.tups _ _ g7]; show _ = some (HO.tup ((b.now.d ++ [some p]).map dV)); rw [List.map_append]; rfl⟩
    refine ⟨z, r, b, S, "gift", nb, giftN p b.now, rfl, hb.keep0 w18, hn, hl, fun H8 bs => ?_⟩
    have g8 : H8 p5 = some (.tup ((b.now.o.set p.toNat (less (owes b.now.o p))).map V.int)) := by
      obtain ⟨z', _, w19, _⟩ := bs
      exact w19.tups _ _ (v18.tups _ _ g5)
    refine ⟨_, rfl, _, rfl, p5, _, p, _, rfl, rfl, SqT.of g8, owes_V hp0 (by rw [List.length_set]; omega), ?_⟩
    rw [owes_set hp0 (by omega)]
    exact q2 hm _ (bs.after (w18.sub (List.nil_sublist _)))
  · rw [decide_eq_false hm]
    exact iteT (q1 hm _ (w3.sub (List.nil_sublist _)))
theorem me_forgiveN (D : MethAt K CB "forgive" "Book.forgive" sBook_forgive ["self", "name"]) (T : Bi mg) (BC : BkCls K CB) (cG : ∃ t, mg "FORGIVE" = some (.str "forgive" t))
    (C1 : CalN P w K mg base 1 "person_number" ["parsed", "name"] (spPersonN CU)) (C3 : MeAt P w K mg base 1 CB "record" ["self", "word", "now"] (spRecord CB)) :
    MeN P w K mg base 3 CB "forgive" ["self", "name"] (spForgive CB CU) := D.meN fun f fd F => by
  have nd := scBook_forgive.nd
  have cl_Book := BC.cl
  obtain ⟨tG, c_FORGIVE⟩ := cG
  obtain ⟨f1, fd1, m_person_number, kp_person_number, b_person_number, G_person_number⟩ := C1.ex
  obtain ⟨f3, fd3, me_record, b_record, G_record⟩ := C3.ex
  refine F.okN scBook_forgive (fun vs H Q E h => ?_) (fun cdv A outer s H vs Q E hr h => ?_)
  · obtain ⟨z, r, b, S, v, t, rfl, _⟩ := h; rfl
  obtain ⟨z, r, b, S, v, t, rfl, ok, bo, hb, kv, hl, q⟩ := h
  refine ⟨_, (pss_cons (ps_set (i := 2) nd rfl (Or.inl rfl) (pe_call G_person_number (hr.mono (by first | decide | omega)) (by rfl) m_person_number kp_person_number b_person_number .nil (L2N.passes_call (L2N.takes_of rfl rfl rfl rfl) (fun _ _ _ _ h => h)) (pa_cons (pe_fldK (K := K) rfl (pv 0) rfl) (pa_cons (pv 1) pa_nil))))
 (pss_cons (ps_asg (pe_fldK (K := K) rfl (pv 0) rfl) (pg_tupK (K := K) (n := 3) rfl rfl (pgs_cons (pg_tupK (K := K) (n := 2) rfl rfl (pgs_cons (pg_name (i := 3) nd rfl (Or.inl rfl)) (pgs_cons (pg_name (i := 4) nd rfl (Or.inl rfl)) pgs_nil))) (pgs_cons (pg_name (i := 5) nd rfl (Or.inl rfl)) (pgs_cons (pg_name (i := 6) nd rfl (Or.inl rfl)) pgs_nil)))))
 (pss_cons (ps_set (i := 7) nd rfl (Or.inl rfl) (pe_op (r := rCatA K) op_catA (pe_op (r := rCatA K) op_catA (pe_slice (r := rSlA K) sl_tupA (pv 4) po_none (po_some (pv 2))) (pe_tup (pa_cons pe_int pa_nil))) (pe_slice (r := rSlA K) sl_tupA (pv 4) (po_some (pe_op op_add (pv 2) pe_int)) po_none)))
 (pss_cons (ps_expr (pe_meth (pv 0) cl_Book me_record G_record (hr.mono (by first | decide | omega)) b_record .nil pass0 (pa_cons (pe_glob (v := .str "forgive") (by rfl) c_FORGIVE ⟨_, rfl⟩) (pa_cons (pe_tup (pa_cons (pe_tup (pa_cons (pv 3) (pa_cons (pv 7) pa_nil))) (pa_cons (pv 5) (pa_cons (pv 6) pa_nil)))) pa_nil))))
 (pss_one (ps_ret (pe_ix (r := rIxT K) ix_tup (pv 4) (pv 2) (fun _ _ => rfl)))))))), ?_⟩
  obtain ⟨na, hx, lt⟩ := id hb.na
  obtain ⟨st, dd, n1, ⟨ob, n2, n2'⟩, n3⟩ := lt.now
  refine ⟨_, rfl, z.x, CB, z.dx, _, _, rfl, hx, BC.cl, BC.n1, bk_parsed, _, rfl, z.p, r, v, t, rfl, hb.ro, ok, kv, ?_⟩
  cases hp : personOf r v with
  | none => rw [hp] at q; exact q
  | some p =>
  rw [hp] at q
  obtain ⟨hp0, hp1, _⟩ := personOf_in hp
  have ol := bo.now.o.len
  have n6 := ok.n6
  intro H1 w1
  refine ⟨_, rfl, z.x, CB, z.dx, _, _, rfl, w1.old hx (by simp), BC.cl, BC.n2, bk_now, na, _, rfl, SqT.of (w1.tups _ _ n1), rfl, _, _, rfl, ?_⟩
  refine ⟨st, _, rfl, SqT.of (w1.tups _ _ n2), rfl, _, _, rfl, _, _, rfl, rfl, _, _, rfl, _, _, rfl, rfl, ?_⟩
  refine ⟨_, rfl, _, rfl, _, rfl, slA_any (w1.tups _ _ n2') fun H3 p1 w5 g1 => ?_⟩
  rw [cut_take _ hp0] at g1
  refine ⟨(by show 1 ≤ sizeLine; decide), fun p2 hp2 => ?_⟩
  have w6 := w1.call0 w5
  have w7 := w6.new (.tup [V.int 0]) hp2
  have v7 := (Wd.refl H3).new (.tup [V.int 0]) hp2
  refine catA_any (v7.tups _ _ g1) (w7.get 0 rfl) (by rw [List.length_take, List.length_map]; simp only [List.length_cons, List.length_nil]; omega) fun H4 p3 w8 g3 => ?_
  have w9 := w7.call0 w8
  refine ⟨_, rfl, _, rfl, _, _, rfl, rfl, _, rfl, ?_⟩
  dsimp only [tNoPart]
  refine slA_any (w9.tups _ _ n2') fun H5 p4 w10 g4 => ?_
  rw [cut_drop _ (by omega)] at g4
  have w11 := w9.call0 w10
  refine catA_any (w10.tups _ _ g3) g4 (by rw [List.length_append, List.length_take, List.length_drop, List.length_map]; simp only [List.length_cons, List.length_nil]; omega) fun H6 p5 w12 g5 => ?_
  have w13 := w11.call0 w12
  rw [show (p + 1).toNat = p.toNat + 1 by omega, set_split (by rw [List.length_map]; omega), ← List.map_set] at g5
  refine ⟨_, rfl, z.x, z.dx, _, rfl, w13.old hx (by simp), bk_none (by decide +kernel), _, rfl, _, rfl, (by show 2 ≤ sizeLine; decide), fun a1 ha1 => ?_⟩
  have w14 := w13.new (.tup [V.int (b.now.s : Int), V.ref p5]) ha1
  refine ⟨_, rfl, _, rfl, (by show 3 ≤ sizeLine; decide), fun nb hnb => ?_⟩
  have w18 := w14.new (.tup [V.ref a1, V.int (b.now.t : Int), V.ref dd]) hnb
  have v18 := ((Wd.refl H6).new (.tup [V.int (b.now.s : Int), V.ref p5]) ha1).new (.tup [V.ref a1, V.int (b.now.t : Int), V.ref dd]) hnb
  have hn : NowT _ nb (forgiveN p b.now) := ⟨a1, dd, w18.get 0 rfl, ⟨p5, w18.get 1 rfl, v18.tups _ _ g5⟩, w18.tups _ _ n3⟩
  refine ⟨z, r, b, S, "forgive", nb, forgiveN p b.now, rfl, hb.keep0 w18, hn, hl, fun H8 bs => ?_⟩
  have g8 : H8 ob = some (.tup (b.now.o.map V.int)) := by
    obtain ⟨z', _, w19, _⟩ := bs
    exact w19.tups _ _ (w18.tups _ _ n2')
  refine ⟨_, rfl, _, rfl, ob, _, p, _, rfl, rfl, SqT.of g8, owes_V hp0 (by omega), ?_⟩
  exact q _ (bs.after (w18.sub (List.nil_sublist _)))
end
end Br

namespace Br
open PySem PySem.Spec PyProof.Rows L2
section
variable {P : Program} {w : World} {K : PySem.W.Frag} {mg : Str → Option Value} {base : Heap} {CB CC CU CN : Addr}
theorem me_executeN (D : MethAt K CB "execute" "Book.execute" sBook_execute ["self", "operation"]) (BC : BkCls K CB) (C1 : MeN P w K mg base 4 CB "step" ["self", "count"] (spStep CB CC)) (C2 : MeN P w K mg base 3 CB "gift" ["self", "name"] (spGift CB CU CN)) (C3 : MeN P w K mg base 3 CB "forgive" ["self", "name"] (spForgive CB CU))
    (C4 : MeAt P w K mg base 2 CB "reset" ["self"] (spReset CB)) (C5 : MeAt P w K mg base 1 CB "undo" ["self"] (spUndo CB)) (C6 : MeAt P w K mg base 1 CB "redo" ["self"] (spRedo CB)) :
    MeN P w K mg base 5 CB "execute" ["self", "operation"] (spLDo CB CC CU CN) := D.meN fun f fd F => by
  have nd := scBook_execute.nd
  have cl_Book := BC.cl
  obtain ⟨f1, fd1, me_step, b_step, G_step⟩ := C1.ex
  obtain ⟨f2, fd2, me_gift, b_gift, G_gift⟩ := C2.ex
  obtain ⟨f3, fd3, me_forgive, b_forgive, G_forgive⟩ := C3.ex
  obtain ⟨f4, fd4, me_reset, b_reset, G_reset⟩ := C4.ex
  obtain ⟨f5, fd5, me_undo, b_undo, G_undo⟩ := C5.ex
  obtain ⟨f6, fd6, me_redo, b_redo, G_redo⟩ := C6.ex
  refine F.okN scBook_execute (fun vs H Q E h => ?_) (fun cdv A outer s H vs Q E hr h => ?_)
  · obtain ⟨z, oa, r, b, S, op, rfl, _⟩ := h; rfl
  obtain ⟨z, oa, r, b, S, op, rfl, ok, bo, hb, ho, hop, hz1, hz2, hz3, q⟩ := h
  refine ⟨_, (pss_cons (ps_matchT (pv 1) (pct_two (i := 2) (by rfl) nd rfl (Or.inl rfl) (pss_one (ps_ret (pe_meth (pv 0) cl_Book me_step G_step (hr.mono (by first | decide | omega)) b_step .nil (L2N.passes_call (L2N.takes_of rfl rfl rfl rfl) (fun _ _ _ _ h => h)) (pa_cons (pv 2) pa_nil)))) (pct_two (i := 3) (by rfl) nd rfl (Or.inl rfl) (pss_one (ps_ret (pe_meth (pv 0) cl_Book me_gift G_gift (hr.mono (by first | decide | omega)) b_gift .nil (L2N.passes_call (L2N.takes_of rfl rfl rfl rfl) (fun _ _ _ _ h => h)) (pa_cons (pv 3) pa_nil)))) (pct_two (i := 3) (by rfl) nd rfl (Or.inl rfl) (pss_one (ps_ret (pe_meth (pv 0) cl_Book me_forgive G_forgive (hr.mono (by first | decide | omega)) b_forgive .nil (L2N.passes_call (L2N.takes_of rfl rfl rfl rfl) (fun _ _ _ _ h => h)) (pa_cons (pv 3) pa_nil)))) (pct_one (by rfl) (pss_one (ps_ret (pe_meth0 (pv 0) cl_Book me_reset G_reset (hr.mono (by first | decide | omega)) b_reset .nil pass0))) (pct_one (by rfl) (pss_one (ps_ret (pe_meth0 (pv 0) cl_Book me_undo G_undo (hr.mono (by first | decide | omega)) b_undo .nil pass0))) pct_nil))))))
 (pss_one (ps_ret (pe_meth0 (pv 0) cl_Book me_redo G_redo (hr.mono (by first | decide | omega)) b_redo .nil pass0)))), ?_⟩
  obtain ⟨na, hx, lt⟩ := id hb.na
  refine ⟨_, rfl, oa, _, rfl, ho, ?_⟩
  cases op with
  | step k =>
    refine two_yes ?_
    refine ⟨_, rfl, z.x, z.dx, _, rfl, hx, bk_none (by decide +kernel), _, rfl, z, r, b, S, _, "int", rfl, ok, bo, hb, .int _, hz1, by omega, fun hi H' w' => ?_, fun k' e hk H' p bs => ?_⟩
    · have c : 500 < k := by
        have h2 : (decide ((0 : Int) ≤ (k : Int)) && decide ((k : Int) ≤ 500)) = false := hi
        rw [decide_eq_true (by omega), Bool.true_and] at h2
        have := of_decide_eq_false h2
        omega
      have qd : doOp r b (.step k) = .error "count" := by
        show recR "step" b (if 500 < k then .error "count" else _) = _
        rw [if_pos c]; rfl
      rw [qd] at q
      exact q H' w'
    · have ek : k' = k := by injection e with e; omega
      subst ek
      have qd : doOp r b (.step k') = .ok (.nms (found r k' b.now), recB "step" b (stepN r k' b.now)) := by
        show recR "step" b (if 500 < k' then .error "count" else .ok (.nms (found r k' b.now), stepN r k' b.now)) = _
        rw [if_neg (by omega)]; rfl
      rw [qd] at q
      exact q H' _ ⟨p, rfl, bs⟩
  | gift nm =>
    refine two_no (by show ("gift" : Str) ≠ "step"; decide +kernel) (two_yes ?_)
    refine ⟨_, rfl, z.x, z.dx, _, rfl, hx, bk_none (by decide +kernel), _, rfl, z, r, b, S, _, "str", rfl, ok, bo, hb, .str _, hz1, by omega, ?_⟩
    have qd : doOp r b (.gift nm) = recR "gift" b (giftR r b.now (personOf r (.str nm))) := rfl
    rw [qd] at q
    cases hp : personOf r (.str nm) with
    | none =>
      rw [hp] at q
      exact fun H' w' => q H' w'
    | some p =>
      rw [hp] at q
      refine ⟨fun hm H' w' => ?_, fun hm H' bs => ?_⟩
      · have qd2 : recR "gift" b (giftR r b.now (some p)) = .error "nobody" := by
          show recR "gift" b (if p ∈ homes r b.now.t then .ok (Res.int (less (owes b.now.o p)), giftN p b.now) else .error "nobody") = _
          rw [if_neg hm]; rfl
        rw [qd2] at q
        exact q H' w'
      · have qd2 : recR "gift" b (giftR r b.now (some p)) = .ok (.int (less (owes b.now.o p)), recB "gift" b (giftN p b.now)) := by
          show recR "gift" b (if p ∈ homes r b.now.t then .ok (Res.int (less (owes b.now.o p)), giftN p b.now) else .error "nobody") = _
          rw [if_pos hm]; rfl
        rw [qd2] at q
        exact q H' _ ⟨rfl, bs⟩
  | forgive nm =>
    refine two_no (by show ("forgive" : Str) ≠ "step"; decide +kernel) (two_no (by show ("forgive" : Str) ≠ "gift"; decide +kernel) (two_yes ?_))
    refine ⟨_, rfl, z.x, z.dx, _, rfl, hx, bk_none (by decide +kernel), _, rfl, z, r, b, S, _, "str", rfl, ok, bo, hb, .str _, hz1, ?_⟩
    have qd : doOp r b (.forgive nm) = recR "forgive" b (forgiveR b.now (personOf r (.str nm))) := rfl
    rw [qd] at q
    cases hp : personOf r (.str nm) with
    | none =>
      rw [hp] at q
      exact fun H' w' => q H' w'
    | some p =>
      rw [hp] at q
      exact fun H' bs => q H' _ ⟨rfl, bs⟩
  | reset =>
    refine two_miss (two_miss (two_miss (one_yes ?_)))
    exact ⟨_, rfl, z.x, z.dx, _, rfl, hx, bk_none (by decide +kernel), z, r, b, S, rfl, ok, hb, hz1, fun H' bs => q H' _ ⟨rfl, bs⟩⟩
  | undo =>
    refine two_miss (two_miss (two_miss (one_no (by decide +kernel) (one_yes ?_))))
    refine ⟨_, rfl, z.x, z.dx, _, rfl, hx, bk_none (by decide +kernel), z, r, b, S, rfl, bo, hb, hz1, hz2, ?_⟩
    have qd : doOp r b .undo = undoR b (undoB b) := rfl
    rw [qd] at q
    cases hu : undoB b with
    | none => rw [hu] at q; exact fun H' bs => q H' _ ⟨rfl, bs⟩
    | some b' => rw [hu] at q; exact fun H' bs => q H' _ ⟨rfl, bs⟩
  | redo =>
    refine two_miss (two_miss (two_miss (one_no (by decide +kernel) (one_no (by decide +kernel) ?_))))
    refine ⟨_, rfl, z.x, z.dx, _, rfl, hx, bk_none (by decide +kernel), z, r, b, S, rfl, bo, hb, hz1, hz2, ?_⟩
    have qd : doOp r b .redo = undoR b (redoB b) := rfl
    rw [qd] at q
    cases hu : redoB b with
    | none => rw [hu] at q; exact fun H' bs => q H' _ ⟨rfl, bs⟩
    | some b' => rw [hu] at q; exact fun H' bs => q H' _ ⟨rfl, bs⟩
end
end Br

/-! try .. except X: suite; raise: the same exception raised again. -/
namespace Br
open PySem PySem.Spec PyProof.Rows L2 L2H
/-- Inv is kept where objects that nobody tracks are taken away -/
theorem inv_cut {X : Cx} {pins : List (Addr × Obj)} {σ : L2.St} {H : Hp} {s : Shared} (I : Inv X pins σ H s) (hx : X.ex = []) (l : List Addr)
    (hl : ∀ a ∈ l, H a = none ∧ X.s_0.heap.get? a = none ∧ a ≠ X.env.locals ∧ (∀ x c, X.env.cells.lookup x = some c → c ≠ a) ∧ ∀ p ∈ X.pn ++ pins, p.1 ≠ a) :
    ∃ G : Heap, (∀ b o, G.get? b = some o → s.heap.get? b = some o) ∧ (∀ a ∈ l, G.get? a = none) ∧ Inv X pins σ H { s with heap := G } := by
  obtain ⟨G, g1, g2⟩ := restrict s.heap fun b => !decide (b ∈ l)
  have gk : ∀ b o, b ∉ l → s.heap.get? b = some o → G.get? b = some o := fun b o hb e => by
    rw [g1 b (by simp [hb])]; exact e
  have ga : ∀ a ∈ l, G.get? a = none := fun a ha => g2 a (by simp [ha])
  have gs : ∀ b o, G.get? b = some o → s.heap.get? b = some o := fun b o e => by
    by_cases hb : b ∈ l
    · rw [ga b hb] at e; cases e
    · rw [← g1 b (by simp [hb])]; exact e
  have ne0 : ∀ b o, X.s_0.heap.get? b = some o → b ∉ l := fun b o e hb => by rw [(hl b hb).2.1] at e; cases e
  have neH : ∀ b o, H b = some o → b ∉ l := fun b o e hb => by rw [(hl b hb).1] at e; cases e
  have hex : ∀ b, b ∉ X.ex := fun b hb => by rw [hx] at hb; cases hb
  have cellK : ∀ x c, X.env.cells.lookup x = some c → ∀ v, s.heap.IsCell c v → G.IsCell c v := fun x c e v ⟨o, ho, hd⟩ => ⟨o, gk c o (fun hm => (hl c hm).2.2.2.1 x c e rfl) ho, hd⟩
  refine ⟨G, gs, ga, I.ok, I.os, I.bare, ⟨fun b o e n hb hq => gk b o (ne0 b o e) (I.base.keep b o e n hb hq), fun b o e n hb hq => ?_, I.base.free, fun b o e hq => ?_, I.base.tups, I.base.frzs, I.base.tbls⟩, ?_, fun x c e => ?_, I.free, I.freeC, fun p hp => ?_, fun b u e => ?_, I.len⟩
  · obtain ⟨sl, q⟩ := I.base.slot b o e n hb hq
    exact ⟨sl, gk b _ (ne0 b o e) q⟩
  · obtain ⟨o', q⟩ := I.base.there b o e hq
    exact ⟨o', gk b o' (ne0 b o e) q⟩
  · obtain ⟨m, ⟨o, es, ep, ho, r⟩, hlk⟩ := I.loc
    refine ⟨m, ⟨o, es, ep, gk _ _ (fun hm => (hl _ hm).2.2.1 rfl) ho, r⟩, fun i x v e1 e2 e3 => ?_⟩
    obtain ⟨u, r', k⟩ := hlk i x v e1 e2 e3
    refine ⟨u, r', ?_⟩
    rcases k with k | ⟨k, c, ec, z⟩
    · exact .inl k
    · exact .inr ⟨k, c, ec, cellK x c ec _ z⟩
  · obtain ⟨v, z⟩ := I.cell x c e
    exact ⟨v, cellK x c e v z⟩
  · obtain ⟨e, n, ne, nf, d⟩ := I.pin p hp
    exact ⟨gk _ _ (fun hm => (hl _ hm).2.2.2.2 p hp rfl) e, n, ne, nf, d⟩
  · refine (I.hok b u e).stay (fun c v hc q => gk c v ?_ q) (fun _ q => q) fun _ _ q => q
    rcases hc with z | z
    · rw [z]; exact neH b u e
    · exact neH _ _ z
/-- the suite may raise what it handles once more -/
def ReOk (X : Cx) (a : Addr) (pn : List (Addr × Obj)) (cls : Value) (d : Option Addr) (Wout : WX) : Prop :=
  ∀ (pn' : List (Addr × Obj)) (σ : L2.St) (H : Hp) (s : Shared) (Q : Flow → Shared → Prop), Inv (suiteX X a pn) pn' σ H s → Wout cls d σ H → wpAny (model X.prog X.w) (X.A.mark (some (.ref a))) (raiseStmt X.env none none) Q X.xe s
section
variable {X : Cx} {x : Str} {c : Value} {body suite : List Stmt} {b₀ : Stmt} {np pos pos' : Pos} {tb : WX → TS} {ts : Addr → Value → Option Addr → TS} {Wout : WX}
end
end Br

/-! try .. except X as e: raise Y(..) from e. -/
namespace Br
open PySem PySem.Spec PyProof.Rows L2 L2H HotX
/-- the heap behind «from v»: field 3 is v, field 4 is True -/
def causeIn (h : Heap) (a : Addr) (v : Value) : Heap := (h.update a (Obj.mapFields (·.setIfInBounds 3 v))).update a (Obj.mapFields (·.setIfInBounds 4 (.bool true)))
theorem cause_at {h : Heap} {a : Addr} {v : Value} {oe : Obj} {vs : Array Value} (ha : h.get? a = some oe) (hd : oe.data = .fields vs) :
    (causeIn h a v).get? a = some ((oe.mapFields (·.setIfInBounds 3 v)).mapFields (·.setIfInBounds 4 (.bool true))) ∧ ((oe.mapFields (·.setIfInBounds 3 v)).mapFields (·.setIfInBounds 4 (.bool true))).data = .fields ((vs.setIfInBounds 3 v).setIfInBounds 4 (.bool true)) := by
  have d3 := Obj.data_mapFields hd (·.setIfInBounds 3 v)
  have a3 := Heap.get?_update_self (Obj.mapFields (·.setIfInBounds 3 v)) ha (Obj.isFreed_of_fields d3)
  have d4 := Obj.data_mapFields d3 (·.setIfInBounds 4 (.bool true))
  exact ⟨Heap.get?_update_self (Obj.mapFields (·.setIfInBounds 4 (.bool true))) a3 (Obj.isFreed_of_fields d4), d4⟩
theorem cause_other {h : Heap} {a b : Addr} {v : Value} (hne : a ≠ b) : (causeIn h a v).get? b = h.get? b := by
  unfold causeIn
  rw [Heap.get?_update_other _ _ hne, Heap.get?_update_other _ _ hne]
/-- an object with a record is no class -/
theorem not_type {prog : Program} {w : World} {A : Around} {E : Value → Shared → Prop} {s : Shared} {a : Addr} {o : Obj} {vs : Array Value} (ha : s.heap.get? a = some o) (hd : o.data = .fields vs) {Q : Bool → Shared → Prop} (hq : Q false s) : wpAny (model prog w) A (isType (.ref a)) Q E s := by
  simp only [isType, loadHead]
  refine wpAny_bind (wpAny_loadPart ha ?_)
  rw [hd]; exact wpAny_pure hq
theorem raise_made_hotC {prog : Program} {w : World} {A : Around} {E : Value → Shared → Prop} {env : Env} {s : Shared} {x c : Sem Value} {Q : Flow → Shared → Prop} {x1 : Addr}
    (h : wpAny (model prog w) A x (fun v s₁ => ∃ a oe vs cls o1 vs1 cls1, v = .ref a ∧ s₁.heap.get? a = some oe ∧ oe.cls = cls ∧ oe.data = .fields vs ∧ vs[1]? = some .none ∧ 4 < vs.size ∧ x1 ≠ a ∧ HotAt A x1 s₁.heap ∧
      s₁.heap.get? x1 = some o1 ∧ o1.data = .fields vs1 ∧ o1.cls = cls1 ∧
      PySem.W.Looks (model prog w) s₁.heap (isSubtype cls (.type "BaseException")) true ∧ PySem.W.Looks (model prog w) s₁.heap (isSubtype cls1 (.type "BaseException")) true ∧ PySem.W.Looks (model prog w) (causeIn s₁.heap a (.ref x1)) (typeOf cls) (.type "type") ∧
      (∀ Q' : Value → Shared → Prop, Q' (.ref x1) s₁ → wpAny (model prog w) A c Q' E s₁) ∧
      E (.ref a) { s₁ with heap := (causeIn s₁.heap a (.ref x1)).update a (Obj.mapFields (·.setIfInBounds 2 (.ref x1))) }) E s) :
    wpAny (model prog w) A (raiseStmt env (some x) (some c)) Q E s := by
  unfold raiseStmt
  dsimp only
  refine wpAny_bind (wpAny_mono h (fun v s₁ h₁ => ?_) fun _ _ x => x)
  obtain ⟨a, oe, vs, cls, o1, vs1, cls1, rfl, ha, hcls, hd, h1, hi, hne, hot, hx1, hd1, hc1, L1, LB, L3, hcs, hE⟩ := h₁
  have LT : PySem.W.Looks (model prog w) s₁.heap (typeOf (.ref a)) cls := fun A Q E s k q => wpAny_typeOf_ref (k _ _ ha) (by rw [hcls]; exact q)
  have LI : PySem.W.Looks (model prog w) s₁.heap (isInstance (.ref a) (.type "BaseException")) true := LT.andThen L1
  have LT1 : PySem.W.Looks (model prog w) s₁.heap (typeOf (.ref x1)) cls1 := fun A Q E s k q => wpAny_typeOf_ref (k _ _ hx1) (by rw [hc1]; exact q)
  have LI1 : PySem.W.Looks (model prog w) s₁.heap (isInstance (.ref x1) (.type "BaseException")) true := LT1.andThen LB
  have hd3 := Obj.data_mapFields hd (·.setIfInBounds 3 (.ref x1))
  have ha3 := Heap.get?_update_self (Obj.mapFields (·.setIfInBounds 3 (.ref x1))) ha (Obj.isFreed_of_fields hd3)
  obtain ⟨ha4, hd4⟩ := cause_at (v := .ref x1) ha hd
  have s3 : 3 < vs.size := by omega
  have s4 : 4 < (vs.setIfInBounds 3 (Value.ref x1)).size := by rw [set_size]; exact hi
  have s2 : 2 < ((vs.setIfInBounds 3 (Value.ref x1)).setIfInBounds 4 (Value.bool true)).size := by rw [set_size, set_size]; omega
  have h14 : ((vs.setIfInBounds 3 (Value.ref x1)).setIfInBounds 4 (Value.bool true))[1]? = some Value.none := set_other (by decide) (set_other (by decide) h1)
  have hcls4 : ((oe.mapFields (·.setIfInBounds 3 (.ref x1))).mapFields (·.setIfInBounds 4 (.bool true))).cls = cls := by rw [Obj.cls_mapFields, Obj.cls_mapFields]; exact hcls
  have LT4 : PySem.W.Looks (model prog w) (causeIn s₁.heap a (.ref x1)) (typeOf (.ref a)) cls := fun A Q E s k q => wpAny_typeOf_ref (k _ _ ha4) (by rw [hcls4]; exact q)
  have hot4 : HotAt A x1 (causeIn s₁.heap a (.ref x1)) := by
    obtain ⟨q1, o, vs', q2, q3, q4⟩ := hot
    exact ⟨q1, o, vs', by rw [cause_other (Ne.symm hne)]; exact q2, q3, q4⟩
  have rest : wpAny (model prog w) A (do
      let b ← isType (.ref a)
      if b = true then do
        let e ← holding [.ref a] (raisedFor (.ref a) (.ref a))
        setFlight e none
        raiseNew e
      else do
        let e ← raisedInstance (.ref a)
        setFlight e none
        raiseNew e : Sem Flow) Q E { s₁ with heap := causeIn s₁.heap a (.ref x1) } := by
    refine wpAny_bind (not_type ha4 hd4 ?_)
    simp only [Bool.false_eq_true, if_false]
    unfold raisedInstance
    refine wpAny_bind (wpAny_bind (LT4.here (wpAny_bind (L3.here ?_))))
    rw [if_pos (beq_self_eq_true _)]
    refine wpAny_pure ?_
    unfold setFlight
    refine wpAny_bind (wpAny_bind (wpAny_field ha4 hd4 h14 ?_))
    rw [if_neg (by decide)]
    refine wpAny_pure ?_
    exact raiseNew_hot hot4 hne ha4 hd4 s2 hE
  refine wpAny_bind (wpAny_holding (hcs _ (wpAny_bind (wpAny_pure ?_))))
  dsimp only
  refine wpAny_bind (wpAny_holding ?_)
  unfold excFromValue isExcClass
  refine wpAny_bind (wpAny_bind (not_type ha hd ?_))
  simp only [Bool.false_eq_true, if_false]
  refine wpAny_pure ?_
  simp only [Bool.false_eq_true, if_false]
  refine wpAny_bind (LI.here ?_)
  simp only [if_true]
  refine wpAny_pure ?_
  rw [if_neg (show ¬ ((Value.ref x1 == Value.none) = true) from by simp)]
  refine wpAny_bind (wpAny_holding ?_)
  refine wpAny_bind (wpAny_bind (not_type hx1 hd1 ?_))
  simp only [Bool.false_eq_true, if_false]
  refine wpAny_pure ?_
  simp only [Bool.false_eq_true, if_false]
  refine wpAny_bind (LI1.here ?_)
  simp only [if_true]
  refine wpAny_pure ?_
  refine wpAny_bind (wpAny_setField ha hd s3 (wpAny_bind (wpAny_setField ha3 hd3 s4 ?_)))
  exact rest
/-- raise X(..) from e, e the exception that is handled -/
theorem ps_raiseHC {X : Cx} {W : WX} {e : Expr} {t : L2.St → Hp → XK → Prop} {i : Nat} {n : Str} {p : Addr × Obj} {cls1 : Value} {cpos pos : Pos} (hot : Hot1 X.A p) (hp : p ∈ X.pn) (hcls : p.2.cls = cls1) (tk : L2.Takes X W) (he : PMk5 X e t) (hN : X.N[i]? = some n) (hv : Vis X.env.scope n)
    (hdb : (n == ("__debug__" : Str)) = false := by decide) (hcd : (n == ("__classdict__" : Str)) = false := by decide) :
    PS X (.Raise (some e) (some (.Name n cpos)) pos) (fun _ σ H => σ[i]? = some (some (.ref p.1)) ∧ Raises X cls1 ∧ t σ H fun cls d H' => W cls d σ H') := by
  refine ⟨fun pins s σ H D I h => ?_⟩
  obtain ⟨hσ, R1, h⟩ := h
  obtain ⟨hh, v1, e1, c1⟩ := hot
  show wpAny _ _ (do standAt pos; raiseStmt X.env (some (do let v ← eval e X.env; standAt pos; pure v)) (some (do let v ← eval (.Name n cpos) X.env; standAt pos; pure v))) _ _ _
  refine wpAny_bind (wpAny_standAt (raise_made_hotC (x1 := p.1) (wpAny_bind (wpAny_mono (he pins s σ H _ I h) (fun u s1 hu => wpAny_bind (wpAny_standAt (wpAny_pure ?_))) fun _ _ x => x))))
  obtain ⟨⟨a, oe, vs, sI, H', cls, d, rfl, J, k, hne, ha, hz, hd, h1, na, os, ag, r, q⟩, h5⟩ := hu
  have hi : 4 < vs.size := h5 a oe vs rfl ha hd
  have k4 : ∀ b u, sI.heap.get? b = some u → (causeIn s1.heap a (.ref p.1)).get? b = some u := fun b u z => by
    have nab : a ≠ b := fun y => by rw [← y, hne] at z; cases z
    rw [cause_other nab]
    exact k b u z
  obtain ⟨r1, _⟩ := r (model X.prog X.w) s1.heap (J.kIn.keeps k)
  obtain ⟨_, r2⟩ := r (model X.prog X.w) (causeIn s1.heap a (.ref p.1)) (J.kIn.keeps k4)
  obtain ⟨rB, _⟩ := R1 (model X.prog X.w) s1.heap (J.kIn.keeps k)
  have P1 := (J.pin p (List.mem_append_left _ hp)).1
  have nap : p.1 ≠ a := fun z => by rw [z, hne] at P1; cases P1
  obtain ⟨ha4, hd4⟩ := cause_at (v := .ref p.1) ha hd
  have h12 : (((vs.setIfInBounds 3 (Value.ref p.1)).setIfInBounds 4 (Value.bool true)).setIfInBounds 2 (Value.ref p.1))[1]? = some Value.none := set_other (by decide) (set_other (by decide) (set_other (by decide) h1))
  have J2 := J.kept (h' := s1.heap) (t' := s1.toks) k
  have J1 : Inv X pins σ H' s1 := ⟨J2.ok, os.trans J.os, ag, J2.base, J2.loc, J2.cell, J2.free, J2.freeC, J2.pin, J2.hok, J2.len⟩
  refine ⟨a, oe, vs, cls, p.2, v1, cls1, rfl, ha, hz.1, hd, h1, hi, nap, ⟨hh, p.2, v1, k _ _ P1, e1, c1⟩, k _ _ P1, e1, hcls, r1, rB, r2, fun Q' hQ' => wpAny_bind (raw_name hN hv J1 hσ (fun u ru => ?_) hdb hcd), tk _ _ (XE.new J (fun b u z => ?_) hne (Heap.get?_update_self _ ha4 (Obj.isFreed_of_fields (Obj.data_mapFields hd4 _)))
    ⟨by rw [Obj.cls_mapFields, Obj.cls_mapFields, Obj.cls_mapFields]; exact hz.1, by rw [HandSPX.dict_mapFields, HandSPX.dict_mapFields, HandSPX.dict_mapFields]; exact hz.2.1⟩ (Obj.data_mapFields hd4 _) h12 na os ag q)⟩
  · obtain rfl : u = Value.ref p.1 := ru
    exact wpAny_bind (wpAny_standAt (wpAny_pure hQ'))
  · have nab : a ≠ b := fun y => by rw [← y, hne] at z; cases z
    show ((causeIn s1.heap a (.ref p.1)).update a (Obj.mapFields (·.setIfInBounds 2 (.ref p.1)))).get? b = some u
    rw [Heap.get?_update_other _ _ nab]
    exact k4 b u z
/-- the frame notes what is in the air -/
theorem sky_noted {M : Model} {A : Around} {E : Value → Shared → Prop} {env : Env} {outer : List Env} {L a : Addr} {Z : Obj → Prop} {B : Heap} {s : Shared} {Q : Unit → Shared → Prop} (hZ : HandSPX.Steady Z) (hfr : A.frames = some (env :: outer)) (hf : env.frame = some L)
    (x : L2.Sky B (env :: outer) a Z L s.heap) (hQ : ∀ h', HandSPX.HeldZ B (env :: outer) a Z L h' → s.heap.UpToSlots h' → Q () { s with heap := h' }) : wpAny M A (noteFrame (.ref a) env) Q E s := by
  rcases x with ⟨hB, hn, hl, oe, vs, he, hz, hd, h1⟩ | fl | hh
  · exact HandSPX.look_newZ hZ hfr hl hf he hB hn hd h1 hz hQ
  · exact HandSPX.looks_onZ hZ hfr hf fl hQ
  · exact HandSPX.againZ hf hh.2.2.2 (hQ s.heap hh (Heap.UpToSlots.refl _))
section
variable {X : Cx} {n : Str} {i : Nat} {pos' : Pos} {Wout : WX}
/-- an exception leaves a suite that has a name: it is noted, the name goes, it flies on -/
theorem as_raised {pins : List (Addr × Obj)} {A' : Around} {E : Value → Shared → Prop} {a : Addr} {B : Heap} {sI s6 : Shared} {σ : L2.St} {H : Hp} {cls : Value} {d : Option Addr} (hs : X.stack = X.env :: X.outer) (hf : X.env.frame = some X.env.locals) (hx : X.ex = []) (ok : X.Ok)
    (hN : X.N.Nodup) (hi : X.N[i]? = some n) (hln : X.env.kindOf n = some .local) (hA : A'.frames = some (X.env :: X.outer))
    (J : Inv X pins σ H sI) (nb : ∀ b o, sI.heap.get? b = some o → b ∉ frs X.stack → B.get? b = some o) (up : sI.heap.UpToSlots s6.heap)
    (sky : L2.Sky B (X.env :: X.outer) a (Zc cls d) X.env.locals s6.heap) (na : H a = none) (os : s6.os = sI.os) (ag : AllBare s6.gens) (hE : ∀ s', XE X (fun cls' d' σ' H' => cls' = cls ∧ d' = d ∧ σ' = σ.set i none ∧ H' = H) (.ref a) s' → E (.ref a) s') :
    AsSuiteRaised (model X.prog X.w) A' X.env n pos' E (.ref a) s6 := by
  have notFr : ∀ {B h : Heap} {a : Addr} {o : Obj} {vs : Array Value}, h.FunFrames B (X.env :: X.outer) → h.get? a = some o → o.data = .fields vs → a ∉ frs (X.env :: X.outer) := fun {B h a o vs} ff e dd hm => by
    obtain ⟨_, o', e', hnf⟩ := ff.mem hm
    rw [e] at e'; cases e'
    exact hnf _ dd
  have hex : ∀ b, b ∉ X.ex := fun b hb => by rw [hx] at hb; cases hb
  have inL : ∀ b, b ∉ frs (X.env :: X.outer) → b ≠ X.env.locals ∧ b ∉ X.fs := fun b hb => ⟨fun z => hb (List.mem_filterMap.mpr ⟨X.env, List.mem_cons_self, by rw [hf, z]⟩), fun hm => by
    obtain ⟨e, he, q⟩ := List.mem_filterMap.mp hm
    exact hb (List.mem_filterMap.mpr ⟨e, List.mem_cons_of_mem _ he, q⟩)⟩
  refine sky_noted Zc.steady hA hf sky fun h3 hh3 up3 => ?_
  obtain ⟨k1, k2, k3, oe, vs, T, oT, ts, he, hz, hd, h1, hnT, hTa, hT, hdT, h33⟩ := id hh3
  have J3 : Inv X pins σ H { s6 with heap := h3 } := J.landed nb k1 (up.trans up3) os ag
  have nfr : a ∉ frs (X.env :: X.outer) := notFr k3 he hd
  have nfT : T ∉ frs (X.env :: X.outer) := notFr k3 hT hdT
  obtain ⟨nL, nF⟩ := inL a nfr
  obtain ⟨nLT, nFT⟩ := inL T nfT
  have nT : H T = none := (J.inGround nb).gone hnT
  have noI : ∀ b, B.get? b = none → b ∉ frs (X.env :: X.outer) → sI.heap.get? b = none := fun b hB hfb => by
    cases q : sI.heap.get? b with
    | none => rfl
    | some o => have z := nb b o q (by rw [hs]; exact hfb); rw [hB] at z; cases z
  have no0 : ∀ b, sI.heap.get? b = none → X.s_0.heap.get? b = none := fun b hb => by
    cases q : X.s_0.heap.get? b with
    | none => rfl
    | some o => obtain ⟨o', z⟩ := J.base.there b o q (hex b); rw [hb] at z; cases z
  have nIa := noI a k2 nfr
  have nIT := noI T hnT nfT
  have np : ∀ p ∈ X.pn ++ pins, p.1 ≠ a ∧ p.1 ≠ T := fun p hp => by
    have e := (J.pin p hp).1
    exact ⟨fun z => (by rw [z, nIa] at e; cases e), fun z => (by rw [z, nIT] at e; cases e)⟩
  have S : Inv X ((a, oe) :: (T, oT) :: pins) σ H { s6 with heap := h3 } := by
    refine ⟨ok, J3.os, J3.bare, J3.base, J3.loc, J3.cell, J3.free, J3.freeC, fun p hp => ?_, J3.hok, J3.len⟩
    rcases List.mem_append.mp hp with hp | hp
    · exact J3.pin p (List.mem_append_left _ hp)
    rcases List.mem_cons.mp hp with e | hp
    · rw [e]; exact ⟨he, na, nL, nF, fun v z => by have z' : oe.data = .cell v := z; rw [hd] at z'; cases z'⟩
    rcases List.mem_cons.mp hp with e | hp
    · rw [e]; exact ⟨hT, nT, nLT, nFT, fun v z => by have z' : oT.data = .cell v := z; rw [hdT] at z'; cases z'⟩
    · exact J3.pin p (List.mem_append_right _ hp)
  refine gone_ok S hN hi hln fun s8 S8 => ?_
  have pa := (S8.pin (a, oe) (List.mem_append_right _ List.mem_cons_self)).1
  have pT := (S8.pin (T, oT) (List.mem_append_right _ (List.mem_cons_of_mem _ List.mem_cons_self))).1
  have J8 : Inv X pins (σ.set i none) H s8 := ⟨ok, S8.os, S8.bare, S8.base, S8.loc, S8.cell, S8.free, S8.freeC, fun p hp => by
    rcases List.mem_append.mp hp with hp | hp
    · exact S8.pin p (List.mem_append_left _ hp)
    · exact S8.pin p (List.mem_append_right _ (List.mem_cons_of_mem _ (List.mem_cons_of_mem _ hp))), S8.hok, S8.len⟩
  have notc : ∀ {b : Addr} {o : Obj} {ws : Array Value}, s8.heap.get? b = some o → o.data = .fields ws → ∀ x c, X.env.cells.lookup x = some c → c ≠ b := fun {b o ws} e q x c hc z => by
    obtain ⟨v, o', e', q'⟩ := J8.cell x c hc
    rw [z, e] at e'; cases e'
    rw [q] at q'; cases q'
  obtain ⟨G, gs, ga, JG⟩ := inv_cut J8 hx [a, T] (fun b hb => by
    simp only [List.mem_cons, List.not_mem_nil, or_false] at hb
    rcases hb with rfl | rfl
    · exact ⟨na, no0 _ nIa, nL, notc pa hd, fun p hp => (np p hp).1⟩
    · exact ⟨nT, no0 _ nIT, nLT, notc pT hdT, fun p hp => (np p hp).2⟩)
  have held : HandSPX.HeldZ (PySem.W.hideAll G (frs X.stack)) (X.env :: X.outer) a (Zc cls d) X.env.locals s8.heap := by
    refine ⟨fun b o e => gs b o (PySem.W.of_hideAll _ e), ?_, ?_, oe, vs, T, oT, ts, pa, hz, hd, h1, ?_, hTa, pT, hdT, h33⟩
    · cases q : (PySem.W.hideAll G (frs X.stack)).get? a with
      | none => rfl
      | some o => have z := PySem.W.of_hideAll _ q; rw [ga a (by simp)] at z; cases z
    · rw [← hs]; exact funFrames_none J8.stack fun b hb => PySem.W.hideAll_none _ hb
    · cases q : (PySem.W.hideAll G (frs X.stack)).get? T with
      | none => rfl
      | some o => have z := PySem.W.of_hideAll _ q; rw [ga T (by simp)] at z; cases z
  show wpAny _ _ _ _ _ _
  unfold PySem.passOn
  refine wpAny_bind (wpAny_field pa hd h1 ?_)
  rw [if_neg (show ¬ ((Value.ref T == Value.none) = true) from by simp)]
  have fin : wpAny (model X.prog X.w) A' (setFlight (.ref a) X.env.frame) (fun _ s4 => wpAny (model X.prog X.w) A' (throw (.ref a) : Sem Flow) (fun _ _ => False) E s4) E s8 := by
    rw [hf]
    refine HandSPX.setFlight_onZ held fun h4 hh4 up4 => wpAny_throw (hE _ ?_)
    exact ⟨a, PySem.W.hideAll G (frs X.stack), { s8 with heap := G }, pins, σ.set i none, H, cls, d, rfl, JG, fun b o e hb => PySem.W.hideAll_get _ e hb, (Heap.UpToSlots.of_keeps gs).trans up4, .inr (.inr (by have z := hh4; rw [← hs] at z; exact z)), na, rfl, J8.bare, rfl, rfl, rfl, rfl⟩
  first
    | exact wpAny_bind (wpAny_pure (wpAny_bind fin))
    | exact wpAny_bind fin
end
section
variable {X : Cx} {x n : Str} {c : Value} {i : Nat} {body suite : List Stmt} {b₀ : Stmt} {np pos pos' : Pos} {tb : WX → TS} {ts : Addr → Value → Option Addr → TS} {Wout : WX}
/-- try .. except X as n, where the suite may raise -/
theorem ps_try_asF (hs : X.stack = X.env :: X.outer) (hf : X.env.frame = some X.env.locals) (hx : X.ex = []) (hN : X.N.Nodup) (hi : X.N[i]? = some n) (hln : X.env.kindOf n = some .local) (hc : Names X x c)
    (hpa : ∀ hd : Option Value, PassesOwnAt (model X.prog X.w) (X.A.mark hd) X.A X.env X.xe) (tk : L2.Takes X Wout)
    (hb : ∀ (W : WX) (pn : List (Addr × Obj)) (xe : Value → Shared → Prop), L2N.Takes (X.tr pn xe) W → PassesOwn (model X.prog X.w) X.A X.env xe → PSs (X.tr pn xe) body (tb W))
    (hsu : ∀ (a : Addr) (oe : Obj) (cls : Value) (d : Option Addr) (pn : List (Addr × Obj)) (xe : Value → Shared → Prop), L2N.Zn cls d oe → (∃ vs, oe.data = .fields vs) → L2.Takes ((suiteX X a ((a, oe) :: pn)).wish xe) (fun cls d σ H => Wout cls d (σ.set i none) H) →
      Hot1 (X.A.mark (some (.ref a))) (a, oe) → PSs ((suiteX X a ((a, oe) :: pn)).wish xe) (b₀ :: suite) (ts a cls d)) :
    PS X (.Try body [.ExceptHandler (some (.Name x np)) (some n) (b₀ :: suite) pos'] [] [] pos) (fun D σ H => tb (wAs X.K c i ts Wout D) D σ H) := by
  refine ⟨fun pins s σ H D I h => ?_⟩
  have ok := I.ok
  have hfr : X.A.frames = some (X.env :: X.outer) := by rw [ok.frames, hs]
  have hloc : Loc X.env.scope n := .inl hln
  refine wpAny_Try_except ?_
  refine wpAny_mono ((hb (wAs X.K c i ts Wout D) (X.pn ++ pins) (fun e s₁ => wpAny (model X.prog X.w) X.A (noteFrame e X.env) (fun _ s₂ => wpAny (model X.prog X.w) X.A (setFlight e none) (fun _ s₃ =>
    wpAny (model X.prog X.w) X.A (handleBy e X.env [.ExceptHandler (some (.Name x np)) (some n) (b₀ :: suite) pos']) (SP X pins D) X.xe s₃) X.xe s₂) X.xe s₁) (fun u s' xx => ?_) PassesOwn.looking).run [] s σ H D (I.toTry _) h) (fun f s1 hsp => ?_) (fun e s1 he => he)
  · obtain ⟨a, B, sI, pins', σ', H', cls, d, rfl, J', nb, up, sky, na, os, ag, b, hb1, hyes, hno⟩ := xx
    have J : Inv X pins σ' H' sI := J'.ofTry ok
    have sky' : L2.Sky B (X.env :: X.outer) a (L2N.Zn cls d) X.env.locals s'.heap := by rw [← hs]; exact sky
    show wpAny (model X.prog X.w) X.A (noteFrame (.ref a) X.env) _ _ _
    refine L2N.Sky.land L2N.Zn.steady hfr hf sky' fun h3 fl3 up3 => ?_
    have J3 : Inv X pins σ' H' { s' with heap := h3 } := J.landed nb fl3.1 (up.trans up3) os ag
    obtain ⟨oe3, vs3, he3, hz3, hd3⟩ := fl3.there
    have nfr : a ∉ frs (X.env :: X.outer) := fun hm => by
      obtain ⟨_, o', e', hnf⟩ := fl3.2.2.1.mem hm
      rw [he3] at e'; cases e'
      exact hnf _ hd3
    have nL : a ≠ X.env.locals := fun z => nfr (List.mem_filterMap.mpr ⟨X.env, List.mem_cons_self, by rw [hf, z]⟩)
    have nF : a ∉ X.fs := fun hm => by
      obtain ⟨e, he, q⟩ := List.mem_filterMap.mp hm
      exact nfr (List.mem_filterMap.mpr ⟨e, List.mem_cons_of_mem _ he, q⟩)
    have S3 := J3.suite he3 hd3 na nL nF
    refine wpAny_handleBy_cons (codeAny_handlers_test ?_) (by intro q; cases q)
    have LT : PySem.W.Looks (model X.prog X.w) h3 (typeOf (.ref a)) cls := fun A Q E s k q => wpAny_typeOf_ref (k _ _ he3) (by rw [hz3.1]; exact q)
    have LM := PySem.W.exm_one (M := model X.prog X.w) (J3.kIn) LT hb1
    have test : ∀ {Q : Value → Shared → Prop} {E : Value → Shared → Prop}, Q c { s' with heap := h3 } → wpAny (model X.prog X.w) (X.A.mark (some (.ref a))) (eval (.Name x np) X.env) Q E { s' with heap := h3 } := fun {Q E} q => by
      obtain ⟨hg, hdbg, hm | ⟨hm, hv, hnn⟩⟩ := hc
      · exact ld_glob (X := X.suite a ((a, oe3) :: (X.pn ++ pins))) S3 hg hm q hdbg
      · exact ld_blt (X := X.suite a ((a, oe3) :: (X.pn ++ pins))) S3 hg hm hv q hnn hdbg
    refine test (LM.here ?_)
    cases b with
    | true =>
      refine codeAny_handlers_suite_as ?_
      refine HandSPX.lands_againZ fl3 fun h4 fl4 up4 => ?_
      have J4 : Inv X pins σ' H' { s' with heap := h4 } := J.landed nb fl4.1 ((up.trans up3).trans up4) os ag
      obtain ⟨oe4, vs4, he4, hz4, hd4⟩ := fl4.there
      have S4 := J4.suite he4 hd4 na nL nF
      refine store_ok (X := X.suite a ((a, oe4) :: (X.pn ++ pins))) (v := .ref a) S4 hN hi hloc rfl (fun s5 S5 => ?_) (.inr hln)
      have hot : Hot1 (X.A.mark (some (.ref a))) (a, oe4) := ⟨rfl, vs4, hd4, hz4.2.2 vs4 hd4⟩
      have un : ∀ {xe : Value → Shared → Prop} {pn' : List (Addr × Obj)} {σ6 : L2.St} {H6 : Hp} {s6 : Shared}, Inv ((suiteX X a ((a, oe4) :: (X.pn ++ pins))).wish xe) pn' σ6 H6 s6 → Inv X pins σ6 H6 s6 := fun {xe pn' σ6 H6 s6} I6 =>
        ⟨ok, I6.os, I6.bare, I6.base, I6.loc, I6.cell, I6.free, I6.freeC, fun p hp => I6.pin p (List.mem_append_left _ (List.mem_cons_of_mem _ hp)), I6.hok, I6.len⟩
      refine wpAny_mono ((hsu a oe4 cls d (X.pn ++ pins) (fun e6 s6 => AsSuiteRaised (model X.prog X.w) (X.A.mark (some (.ref a))) X.env n pos' (notedBy (model X.prog X.w) (X.A.mark (some (.ref a))) X.env (cameBackBy (model X.prog X.w) X.A X.env X.xe)) e6 s6) hz4 ⟨_, hd4⟩ (fun u6 s6 x6 => ?_) hot).run [] s5 _ H' _ ((suiteX_of S5).wish _) (hyes rfl a na)) (fun f s6 hsp => ?_) (fun e6 s6 z => z)
      · obtain ⟨a2, B2, sI2, pn2, σ2, H2, cls2, d2, rfl, I2, nb2, up2, sky2, na2, os2, ag2, w2⟩ := x6
        refine as_raised hs hf hx ok hN hi hln hfr (un I2) nb2 up2 (by have z := sky2; rw [show ((suiteX X a ((a, oe4) :: (X.pn ++ pins))).wish _).stack = X.env :: X.outer from hs] at z; exact z) na2 os2 ag2 fun s9 x9 => hpa (some (.ref a)) _ _ (tk _ _ ?_)
        obtain ⟨a3, B3, sI3, pn3, σ3, H3, cls3, d3, e3, I3, nb3, up3, sky3, na3, os3, ag3, rfl, rfl, rfl, rfl⟩ := x9
        exact ⟨a3, B3, sI3, pn3, _, _, _, _, e3, I3, nb3, up3, sky3, na3, os3, ag3, w2⟩
      have end_ : ∀ {xe : Value → Shared → Prop} {pn' : List (Addr × Obj)} {σ6 : L2.St} {H6 : Hp} {Q : Shared → Prop}, Inv ((suiteX X a ((a, oe4) :: (X.pn ++ pins))).wish xe) pn' σ6 H6 s6 → (∀ s7, Inv X pins (σ6.set i none) H6 s7 → Q s7) →
          wpAny (model X.prog X.w) X.A (do bindName X.env n .none; unbindBehindTheSuite X.env n pos') (fun _ s7 => Q s7) X.xe s6 := fun {xe pn' σ6 H6 Q} S6 hq => gone_ok (un S6) hN hi hln hq
      cases f with
      | next => obtain ⟨σ6, H6, S6, q6⟩ := hsp; exact end_ S6 fun s7 J7 => ⟨_, _, J7, q6⟩
      | brk => obtain ⟨σ6, H6, S6, q6⟩ := hsp; exact end_ S6 fun s7 J7 => ⟨_, _, J7, q6⟩
      | cont => obtain ⟨σ6, H6, S6, q6⟩ := hsp; exact end_ S6 fun s7 J7 => ⟨_, _, J7, q6⟩
      | ret u => obtain ⟨v6, σ6, H6, S6, r6, q6⟩ := hsp; exact end_ S6 fun s7 J7 => ⟨_, _, _, J7, r6, q6⟩
    | false =>
      show wpAny _ X.A (handleBy (.ref a) X.env []) _ _ _
      refine wpAny_handleBy_nil ?_
      obtain ⟨k1, k2, k3, oe, vs, T, oT, ts', he, hz, hd, h1, hr⟩ := id fl3
      unfold PySem.passOn
      refine wpAny_bind (wpAny_field he hd h1 ?_)
      rw [if_neg (show ¬ ((Value.ref T == Value.none) = true) from by simp)]
      have fin : wpAny (model X.prog X.w) X.A (setFlight (.ref a) X.env.frame) (fun _ s4 => wpAny (model X.prog X.w) X.A (throw (.ref a) : Sem Flow) (SP X pins D) X.xe s4) X.xe { s' with heap := h3 } := by
        rw [hf]
        refine HandSPX.setFlight_upZ (flyingZ_imp (fun o z => L2N.Zn.zc z) fl3) fun h4 hh4 up4 => wpAny_throw (tk _ _ ?_)
        exact ⟨a, B, sI, pins, σ', H', cls, d, rfl, J, nb, (up.trans up3).trans up4, .inr (.inr (by rw [hs]; exact hh4)), na, os, ag, hno rfl⟩
      first
        | exact wpAny_bind (wpAny_pure (wpAny_bind fin))
        | exact wpAny_bind fin
  · cases f with
    | next => obtain ⟨σ', H', J', q⟩ := hsp; exact wpAny_execs_nil ⟨σ', H', J'.ofTry ok, q⟩
    | brk => obtain ⟨σ', H', J', q⟩ := hsp; exact ⟨σ', H', J'.ofTry ok, q⟩
    | cont => obtain ⟨σ', H', J', q⟩ := hsp; exact ⟨σ', H', J'.ofTry ok, q⟩
    | ret u => obtain ⟨v, σ', H', J', r, q⟩ := hsp; exact ⟨v, σ', H', J'.ofTry ok, r, q⟩
end
end Br

/-! an own exception made while another is handled; a method called whose errors are told at the slots. -/
namespace Br
open PySem PySem.Spec PyProof.Rows L2 L2H HotX
section
variable {X : Cx} {CX : CXT} {k : Nat} {f C : Addr} {fd : FuncData} {ps : List Str} {sp : Sp} {E : L2.St → XK} {m : Str} {pos apos : Pos} {e o : Expr} {es : List Expr} {ta : TE} {t : TA}
theorem pe_methS {pl : Sem Bool} (he : PE X o ta) (c : Cls X.K C) (hm : Meth X.K C m f) (F : FnOk X.prog X.w X.K X.mg X.base CX k f fd ps sp) (hr : Room k X.A) (hb : Binds X.K fd ps []) (hx : ∀ σ, PassesAt CX X σ (E σ)) (ha : PA X (e :: es) t)
    (hst : starEach (e :: es) X.env = (false, eval e X.env) :: starEach es X.env := by rfl) (hpl : (backTo pos (starEach es X.env)).any (·.1) = false := by rfl)
    (ht : eval (.Call (.Attribute o m apos) (e :: es) [] pos) X.env = (do
      let ov ← eval o X.env
      standAt apos.atName
      let (f, first) ← holding [ov] (getMethod ov m pl)
      callWith pos f first (backTo pos (starEach (e :: es) X.env)) (backToKw pos (keywordEach [] X.env))) := by rfl) :
    PE X (.Call (.Attribute o m apos) (e :: es) [] pos) (tMethH C m sp E ta t) := by
  refine ⟨fun pins s σ H Q I h => ?_⟩
  refine PySem.W.methodCall_KW (pl := pl) (thn (he.run pins s σ H _ I h) fun u s1 ⟨x, H1, I1, rx, a, dx, fs, ex, ea, l, q⟩ => ?_) ht
  subst ex
  obtain rfl : u = Value.ref a := rx
  refine getmeth_ok I1 ea c hm l ?_
  refine PySem.W.callWith_K (first := [.ref a]) (h₀ := X.base) I.ok.mod.kin hm.kp (thn (ha.run pos pins s1 σ H1 _ I1 q) fun us s2 ⟨vs, H2, I2, r, q2⟩ => ⟨I2.kIn, ?_⟩) hst hpl
  exact run_fnS (us := .ref a :: us) (vs := .ref a :: vs) F hr hb (hx σ) I2 (.cons rfl r) q2
end
/-- an own exception class with an __init__, ready to be raised while another is handled -/
structure ExAtH (P : Program) (w : World) (K : PySem.W.Frag) (mg : Str → Option Value) (base : Heap) (x : Str) (C : Addr) (fs : List Str) : Prop where
  T : OexC K C
  gC : mg x = some (.ref C)
  ex : ∃ (fI : Addr) (fd : FuncData) (ps : List Str), PySem.W.findIn K (.ref C) "__init__" = some (some (.ref fI)) ∧ PySem.W.typeIn K (.ref fI) = some (.type "function") ∧ FnH P w K mg base CX0 1 fI fd ps (spEx C fs) ∧ Binds K fd ps []
theorem ExTxt.atH {P : Program} {w : World} {K : PySem.W.Frag} {mg : Str → Option Value} {base : Heap} {x q : Str} {C : Addr} {st : Stmt} {ps fs : List Str} (D : ExTxt K mg x q C st ps fs)
    (h : ∀ fI fd, Fun K "__init__" q st fI fd → FnH P w K mg base CX0 1 fI fd ps (spEx C fs)) : ExAtH P w K mg base x C fs := by
  obtain ⟨fI, fd, h1, h2, F, b⟩ := D.ex
  exact ⟨D.T, D.gC, fI, fd, ps, h1, h2, h fI fd F, b⟩
theorem Fun.okH {P : Program} {w : World} {K : PySem.W.Frag} {mg : Str → Option Value} {base : Heap} {x qual : Str} {st : Stmt} {f : Addr} {fd : FuncData} {N ps : List Str} {k : Nat} {sp : Sp} (F : Fun K x qual st f fd) (S : FnScope N ps (defScope st)) (len : ∀ vs H Q E, sp vs H Q E → vs.length = ps.length)
    (hbody : ∀ (cdv : Value) (A : Around) (outer : List Env) (s : Shared) (H : Hp) (vs : List V) (Q : VK) (E : XK) (p : Addr × Obj), RoomH k (A.deeper (envOfC qual (defScope st) s.heap.objs.size f cdv)) → sp vs H Q E →
      ∃ t, PSs (cxH CX0 P w K mg base N qual (defScope st) f cdv A outer s H E p) (defBody st) t ∧ t { nx := fun _ H' => Q .non H', rt := Q } (L2.start N vs) H) : FnH P w K mg base CX0 (k + 1) f fd ps sp := by
  obtain ⟨oc, od, kV, doc, pm, an, cdv, ct, osl, rfl, lk, hcd⟩ := F.ex
  exact fn_ofH lk hcd S len fun A outer s H vs Q E p _ hr hsp => hbody cdv A outer s H vs Q E p hr hsp
section
variable {X : Cx} {e : Expr} {es : List Expr} {ta : TA} {p pos : Pos} {C : Addr} {x : Str} {fs : List Str}
theorem pmk5_exH (D : ExAtH X.prog X.w X.K X.mg X.base x C fs) (hr : RoomH 2 X.A) (hc : HotC X) (hg : Gl X x) (ha : PA X (e :: es) ta) (hz : fs.length ≤ 1000) (hdb : (x == ("__debug__" : Str)) = false := by decide)
    (he : starEach (e :: es) X.env = (false, eval e X.env) :: starEach es X.env := by rfl) (hpl : (backTo pos (starEach es X.env)).any (·.1) = false := by rfl) :
    PMk5 X (.Call (.Name x p) (e :: es) [] pos) (tMkE C fs ta) := by
  obtain ⟨fI, fd, ps, iC, tI, F1, b⟩ := D.ex
  have h := pmk5_oexH (X := X) (p := p) (pos := pos) D.T iC tI F1 hr hc b (fun _ _ _ _ _ _ _ z => False.elim z) hg D.gC (pa_up ha) hdb he hpl
  intro pins y σ H Q I q
  refine h pins y σ H Q I ⟨_, q, fun ws H1 ⟨hl, k⟩ => ⟨by omega, fun a ha0 => ⟨a, ws, by rw [List.append_nil], hl, upd_same, fun dx H' hd ne hk h1 h2 => ⟨rfl, dx, _, h1, h2, ?_, ?_⟩⟩⟩⟩
  · rw [upd_ne ne] at hd; exact hd
  · exact k dx _ (del_wd ha0 (by rw [upd_ne ne] at hd; exact hd) ne hk)
end
end Br

/-! isinstance of a caught error of an own class, with or without a dict; list.count of flat things. -/
namespace Br
open PySem PySem.Spec PyProof.Rows L2
/-- what a class must say, that isinstance asks its caught instances rightly -/
structure IsX (K : PySem.W.Frag) (C : Addr) : Prop where
  cl : PySem.W.isClsIn K C = true
  ga : PySem.W.findIn K (.ref C) "__getattribute__" = some (some (.builtin "BaseException.__getattribute__"))
  gg : PySem.W.findIn K (.ref C) "__getattr__" = some none
  sb : PySem.W.subIn K (.ref C) (.type "BaseException") = some true
  ca : PySem.W.findIn K (.ref C) "__class__" = some (some (.builtin "object.__class__"))
  cg : PySem.W.specialIn K (.builtin "object.__class__") "__get__" = some (some (.builtin "getset_descriptor.__get__"))
  tk : PySem.W.takesIn K (.builtin "object.__class__") = some true
  mo : PySem.W.mroIn K C (.type "object") = some true
/-- the error at a: of the class at C; its dict, if any, is told -/
def DOk' (H : Hp) (d : Option Addr) : Prop := ∀ dd, d = some dd → ∃ fs, H dd = some (.xd fs)
def rIsX (K : PySem.W.Frag) (a : Addr) (cls : Value) (d : Option Addr) : List V → Hp → VK → Prop := fun xs H Q => ∃ (C : Addr) (c : V) (cv : Value) (b : Bool), cls = .ref C ∧ IsX K C ∧ DOk' H d ∧ xs = [.ref a, c] ∧ (∀ u, RelV c u → u = cv) ∧ PySem.W.kitOne K (.ref C) cv = some b ∧ Q (.bl b) H
theorem call_isX {X : Cx} {a : Addr} {oe : Obj} {cls : Value} {d : Option Addr} {pn : List (Addr × Obj)} (hz : Zc cls d oe) (hf : ∃ vs, oe.data = .fields vs) : CallR (X.suite a ((a, oe) :: pn)) (.builtin "isinstance") (rIsX X.K a cls d) := by
  intro pins y σ H xs us Q I r h
  obtain ⟨C, c, cv, b, rfl, T, hd, rfl, hcv, e, q⟩ := h
  cases r with
  | cons rx rr => cases rr with
    | cons rt r0 =>
      cases r0
      cases rx
      have ec := hcv _ rt
      subst ec
      obtain ⟨hget, _⟩ := I.pin (a, oe) (List.mem_append.mpr (.inl List.mem_cons_self))
      obtain ⟨vs, hv⟩ := hf
      have J : ∃ od, PySem.W.InstAt y.heap a oe C od := by
        cases hd0 : d with
        | none => exact ⟨none, hget, hz.1, by unfold PySem.W.notCls; rw [hv] <;> rfl, by rw [hz.2, hd0]; trivial⟩
        | some dd =>
          obtain ⟨fs, ea⟩ := hd dd hd0
          have hx : ObjOk X.prog X.w H y.heap dd (.xd fs) := I.hok dd _ ea
          obtain ⟨mA, hns, _⟩ := hx
          obtain ⟨od, ho, _⟩ := lookIn_ns hns
          exact ⟨some od, hget, hz.1, by unfold PySem.W.notCls; rw [hv] <;> rfl, by rw [hz.2, hd0]; exact ho⟩
      obtain ⟨od, J⟩ := J
      exact PySem.W.kia_one (PySem.W.kitx_exc (od := od) T.cl T.ga T.gg T.sb T.ca T.cg T.tk T.mo) I.kIn J e (fun z => nomatch z) fun tk => ⟨.bl b, H, I.kept (t' := tk) fun _ _ z => z, rfl, q⟩
/-! ### list.count of flat things -/
section
variable {X : Cx}
def rCntF (K : PySem.W.Frag) : V → List V → Hp → VK → Prop := fun x xs H Q => ∃ (p : Addr) (ys : List V) (y : V), x = .ref p ∧ xs = [y] ∧ SqL K H p ys ∧ flatV y = true ∧ ys.all flatV = true ∧ Q (.int ((ys.countP fun z => eqV z y : Nat))) H
theorem count_flat {y : V} : ∀ {ys : List V} {us : List Value}, Vals ys us → ys.all flatV = true → us.countP (eqU y) = ys.countP fun z => eqV z y
  | [], _, .nil, _ => rfl
  | z :: ys, _, .cons r rr, h => by
    rw [List.all_cons, Bool.and_eq_true] at h
    rw [List.countP_cons, List.countP_cons, count_flat rr h.2, eqU_of r h.1]
theorem mt_countF : MtR X "list.count" (rCntF X.K) := by
  intro pins s σ H x xs v us Q I rx rxs h
  obtain ⟨p, ys, y, rfl, rfl, hs, fy, fys, q⟩ := h
  cases rx
  cases rxs with
  | cons ry rt =>
    rename_i uy ut
    cases rt
    obtain ⟨its, rv, ⟨⟨cls, dd, data, sl⟩, n, ho, hc, hdn, hd⟩, hlen⟩ := I.list hs
    simp only at hc hd
    subst hc hd
    refine call_meets PySem.F.slot_list_count ⟨_, ho, rfl⟩ PySem.F.entry_list_count (PySem.F.args_list_count_2 _ _)
      (SeqAt.list_countAt p its.toArray n dd sl uy (eqU y)) ⟨ho, fun u' hu' => mem_eqAt ry fy rv fys u' (by simpa using hu'), ?_⟩
    refine ⟨.int ((ys.countP fun z => eqV z y : Nat)), H, I.tok _, ⟨s.toks, ?_⟩, q⟩
    show Value.int ((its.toArray.toList.countP (eqU y) : Nat) : Int) s.toks = _
    rw [show its.toArray.toList = its from rfl, count_flat rv fys]
end
end Br

/-! SyntaxFault and CheckFault are made. -/
namespace Br
open PySem PySem.Spec PyProof.Rows L2
section
variable {P : Program} {w : World} {K : PySem.W.Frag} {mg : Str → Option Value} {base : Heap} {C CR : Addr}
abbrev sSyntaxFault___init__ : Stmt := inClass (topS 3) 0
theorem scSyntaxFault___init__ : FnScope ["self", "line", "column"] ["self", "line", "column"] (defScope sSyntaxFault___init__) := ⟨rfl, rfl, rfl, by decide +kernel, rfl, by decide +kernel, by decide +kernel⟩
theorem ex_SyntaxFault (D : ExTxt K mg "SyntaxFault" "SyntaxFault.__init__" C sSyntaxFault___init__ ["self", "line", "column"] ["line", "column"]) (BX : BaseX K mg CR) : ExAt P w K mg base "SyntaxFault" C ["line", "column"] := D.at_ fun fI fd F => by
  have nd := scSyntaxFault___init__.nd
  have T := D.T
  have no := D.no
  refine F.ok scSyntaxFault___init__ (fun vs H Q E h => ?_) (fun cdv A outer s H vs Q E hr h => ?_)
  · obtain ⟨a, ws, rfl, hl, _⟩ := h
    show ws.length + 1 = 3
    rw [hl]; rfl
  obtain ⟨a, ws, rfl, hl, ha, k⟩ := h
  match ws, hl with
  | [v1, v2], _ =>
  refine ⟨_, (pss_cons (ps_expr (pe_rinit BX (by rfl) (pa_cons (pv 0) (pa_cons (pv 1) (pa_cons (pv 2) pa_nil)))))
 (pss_cons (ps_ost (pv 0) (pv 1))
 (pss_one (ps_ost (pv 0) (pv 2))))), ?_⟩
  refine ⟨_, rfl, _, rfl, _, rfl, a, C, _, rfl, (by show 2 ≤ 1000; decide), T, ha, ?_⟩
  refine ⟨_, rfl, _, rfl, a, C, rfl, T, no _ (by simp), .inl ⟨ha, fun dx hd ne => ?_⟩⟩
  have ua : upd (upd H dx (exd dx [(("line" : Str), v1)])) a (exo a C (some dx)) dx = some (exd dx [(("line" : Str), v1)]) := by rw [upd_ne ne, upd_same]
  refine ⟨_, rfl, _, rfl, a, C, rfl, T, no _ (by simp), .inr ⟨dx, _, upd_same, ua, (by show 1 ≤ 900; decide), ?_⟩⟩
  exact k dx _ hd ne (fun b h1 h2 => by rw [upd_ne h1, upd_ne h2, upd_ne h1]) (by rw [upd_ne (Ne.symm ne), upd_same]) (by rw [upd_same]; rfl)
abbrev sCheckFault___init__ : Stmt := inClass (topS 4) 0
theorem scCheckFault___init__ : FnScope ["self", "reason", "line", "column"] ["self", "reason", "line", "column"] (defScope sCheckFault___init__) := ⟨rfl, rfl, rfl, by decide +kernel, rfl, by decide +kernel, by decide +kernel⟩
theorem ex_CheckFault (D : ExTxt K mg "CheckFault" "CheckFault.__init__" C sCheckFault___init__ ["self", "reason", "line", "column"] ["reason", "line", "column"]) (BX : BaseX K mg CR) : ExAt P w K mg base "CheckFault" C ["reason", "line", "column"] := D.at_ fun fI fd F => by
  have nd := scCheckFault___init__.nd
  have T := D.T
  have no := D.no
  refine F.ok scCheckFault___init__ (fun vs H Q E h => ?_) (fun cdv A outer s H vs Q E hr h => ?_)
  · obtain ⟨a, ws, rfl, hl, _⟩ := h
    show ws.length + 1 = 4
    rw [hl]; rfl
  obtain ⟨a, ws, rfl, hl, ha, k⟩ := h
  match ws, hl with
  | [v1, v2, v3], _ =>
  refine ⟨_, (pss_cons (ps_expr (pe_rinit BX (by rfl) (pa_cons (pv 0) (pa_cons (pv 1) (pa_cons (pv 2) (pa_cons (pv 3) pa_nil))))))
 (pss_cons (ps_ost (pv 0) (pv 1))
 (pss_cons (ps_ost (pv 0) (pv 2))
 (pss_one (ps_ost (pv 0) (pv 3)))))), ?_⟩
  refine ⟨_, rfl, _, rfl, _, rfl, _, rfl, a, C, _, rfl, (by show 3 ≤ 1000; decide), T, ha, ?_⟩
  refine ⟨_, rfl, _, rfl, a, C, rfl, T, no _ (by simp), .inl ⟨ha, fun dx hd ne => ?_⟩⟩
  have ua : upd (upd H dx (exd dx [(("reason" : Str), v1)])) a (exo a C (some dx)) dx = some (exd dx [(("reason" : Str), v1)]) := by rw [upd_ne ne, upd_same]
  have ub : upd (upd H dx (exd dx [(("reason" : Str), v1)])) a (exo a C (some dx)) a = some (exo a C (some dx)) := upd_same
  refine ⟨_, rfl, _, rfl, a, C, rfl, T, no _ (by simp), .inr ⟨dx, _, ub, ua, (by show 1 ≤ 900; decide), ?_⟩⟩
  refine ⟨_, rfl, _, rfl, a, C, rfl, T, no _ (by simp), .inr ⟨dx, _, (upd_ne (Ne.symm ne)).trans ub, upd_same, (by show 2 ≤ 900; decide), ?_⟩⟩
  exact k dx _ hd ne (fun b h1 h2 => by rw [upd_ne h1, upd_ne h1, upd_ne h2, upd_ne h1]) (by rw [upd_ne (Ne.symm ne), upd_ne (Ne.symm ne), upd_same]) (by rw [upd_same]; rfl)
end
end Br

namespace Br
open PySem PySem.Spec PyProof.Rows L2
/-! read_token, any text -/
/-- what SyntaxFault carries -/
def synD (l c : Int) : HO := .xd [("column", .int c), ("line", .int l)]
section
variable {P : Program} {w : World} {K : PySem.W.Frag} {mg : Str → Option Value} {base : Heap} {CT CF : Addr}
def spReadG (CT CF : Addr) : Sp := fun vs H Q E => ∃ (z : Str) (line : Int) (col : Nat), vs = [.str z, .int line, .int col] ∧ z.length ≤ sizeLine ∧ col < z.length ∧
  match tokAt ((TL.tl z).drop col) with
  | some (k, t) => ∀ (x dx : Addr) (H' : Hp), Wd [] H H' [(x, .ins CT dx (tkF k t line col)), (dx, .own x)] → Q (.ref x) H'
  | none => ∀ (d : Addr) (H' : Hp), Wd [] H H' [(d, synD line col)] → E (.ref CF) (some d) H'
theorem cal_readG (D : DefAt K mg "read_token" sread_token ["row", "line", "column"]) (T : Bi mg) (C : LexC K mg) (C1 : Cal P w K mg base 1 "run_end" ["row", "start", "letters"] spRunEnd) (CM : MkAt P w K mg base 1 "Token" CT ["self", "kind", "text", "line", "column"] (spTokI CT)) (EX_SyntaxFault : ExAt P w K mg base "SyntaxFault" CF ["line", "column"]) :
    CalX P w K mg base 3 "read_token" ["row", "line", "column"] (spReadG CT CF) := D.calX fun f fd F => by
  have nd := scread_token.nd
  obtain ⟨t1, c_END_SIGN⟩ := C.END_SIGN
  obtain ⟨t2, c_SIGN⟩ := C.SIGN
  obtain ⟨t3, c_DIGITS⟩ := C.DIGITS
  obtain ⟨t4, c_MAX_DIGITS_lexer⟩ := C.MAX_DIGITS
  obtain ⟨t5, c_NUMBER⟩ := C.NUMBER
  obtain ⟨t6, c_LETTERS⟩ := C.LETTERS
  obtain ⟨a_KEYWORDS, c_KEYWORDS, hkw⟩ := C.KEYWORDS
  obtain ⟨t7, c_KEYWORD⟩ := C.KEYWORD
  obtain ⟨t8, c_MAX_LETTERS⟩ := C.MAX_LETTERS
  obtain ⟨t9, c_NAME⟩ := C.NAME
  obtain ⟨f1, fd1, m_run_end, kp_run_end, b_run_end, G_run_end⟩ := C1.ex
  obtain ⟨f2, fd2, mC_Token, Mk_Token, b_Token, G_Token⟩ := CM.ex
  refine F.okX scread_token (fun vs H Q E h => ?_) (fun cdv A outer s H vs Q E hr h => ?_)
  · obtain ⟨z, line, col, rfl, _⟩ := h; rfl
  obtain ⟨z, line, col, rfl, hz, hcz, q⟩ := h
  refine ⟨_, (pss_cons (ps_set (i := 3) nd rfl (Or.inl rfl) (pe_ix ix_str (pv 0) (pv 2) (fun _ _ => rfl)))
 (pss_cons (ps_if (pt_cmpR op_eq (pv 3) (pe_glob (v := .str ";") (by rfl) c_END_SIGN ⟨_, rfl⟩) (nomark _))
 (pss_one (ps_ret (pe_make Mk_Token G_Token (hr.mono (by first | decide | omega)) (by rfl) mC_Token b_Token .nil pass0 (pa_cons (pe_glob (v := .str "sign") (by rfl) c_SIGN ⟨_, rfl⟩) (pa_cons (pv 3) (pa_cons (pv 1) (pa_cons (pv 2) pa_nil)))))))
 pss_nil)
 (pss_cons (ps_if (pt_cmpR op_in_sign (pv 3) (pe_glob (v := .str "0123456789") (by rfl) c_DIGITS ⟨_, rfl⟩) (by rfl))
 (pss_cons (ps_set (i := 4) nd rfl (Or.inl rfl) (pe_slice sl_str (pv 0) (po_some (pv 2)) (po_some (pe_call G_run_end (hr.mono (by first | decide | omega)) (by rfl) m_run_end kp_run_end b_run_end .nil pass0 (pa_cons (pv 0) (pa_cons (pv 2) (pa_cons (pe_glob (v := .str "0123456789") (by rfl) c_DIGITS ⟨_, rfl⟩) pa_nil)))))))
 (pss_cons (ps_if (PW.pt (pw_or (pt_cmpR op_gt (pe_callB call_len_str (by rfl) T.len PySem.boot_len (pa_cons (pv 4) pa_nil)) (pe_glob (v := .int 2) (by rfl) c_MAX_DIGITS_lexer ⟨_, rfl⟩) (nomark _)) (pw_or1 (PW.pt (pw_and (pt_cmpR op_gt (pe_callB call_len_str (by rfl) T.len PySem.boot_len (pa_cons (pv 4) pa_nil)) pe_int (nomark _)) (pw_and1 (pt_cmpR op_eq (pv 3) pe_str (nomark _))))))))
 (pss_one (ps_raise rfl (takes_of rfl rfl rfl rfl) (pmk_ex EX_SyntaxFault (hr.mono (by first | decide | omega)) (by rfl) (pa_cons (pv 1) (pa_cons (pv 2) pa_nil)) (by decide))))
 pss_nil)
 (pss_one (ps_ret (pe_make Mk_Token G_Token (hr.mono (by first | decide | omega)) (by rfl) mC_Token b_Token .nil pass0 (pa_cons (pe_glob (v := .str "number") (by rfl) c_NUMBER ⟨_, rfl⟩) (pa_cons (pv 4) (pa_cons (pv 1) (pa_cons (pv 2) pa_nil)))))))))
 pss_nil)
 (pss_cons (ps_set (i := 4) nd rfl (Or.inl rfl) (pe_slice sl_str (pv 0) (po_some (pv 2)) (po_some (pe_call G_run_end (hr.mono (by first | decide | omega)) (by rfl) m_run_end kp_run_end b_run_end .nil pass0 (pa_cons (pv 0) (pa_cons (pv 2) (pa_cons (pe_glob (v := .str "abcdefghijklmnopqrstuvwxyz") (by rfl) c_LETTERS ⟨_, rfl⟩) pa_nil)))))))
 (pss_cons (ps_if (pt_cmpR (r := rIn K false) op_in_seq (pv 4) (pe_glob (v := .ref a_KEYWORDS) (by rfl) c_KEYWORDS rfl) (by rfl))
 (pss_one (ps_ret (pe_make Mk_Token G_Token (hr.mono (by first | decide | omega)) (by rfl) mC_Token b_Token .nil pass0 (pa_cons (pe_glob (v := .str "keyword") (by rfl) c_KEYWORD ⟨_, rfl⟩) (pa_cons (pv 4) (pa_cons (pv 1) (pa_cons (pv 2) pa_nil)))))))
 pss_nil)
 (pss_cons (ps_if (pt_not (pt_chain op_le op_le pe_int (pe_callB call_len_str (by rfl) T.len PySem.boot_len (pa_cons (pv 4) pa_nil)) (pe_glob (v := .int 8) (by rfl) c_MAX_LETTERS ⟨_, rfl⟩)))
 (pss_one (ps_raise rfl (takes_of rfl rfl rfl rfl) (pmk_ex EX_SyntaxFault (hr.mono (by first | decide | omega)) (by rfl) (pa_cons (pv 1) (pa_cons (pv 2) pa_nil)) (by decide))))
 pss_nil)
 (pss_one (ps_ret (pe_make Mk_Token G_Token (hr.mono (by first | decide | omega)) (by rfl) mC_Token b_Token .nil pass0 (pa_cons (pe_glob (v := .str "name") (by rfl) c_NAME ⟨_, rfl⟩) (pa_cons (pv 4) (pa_cons (pv 1) (pa_cons (pv 2) pa_nil))))))))))))), ?_⟩
  have hcol : col < (TL.tl z).length := by rw [← TL.len_tl]; exact hcz
  have hcol' : col ≤ z.length := by rw [TL.len_tl]; omega
  obtain ⟨c, r, hcr⟩ : ∃ c r, (TL.tl z).drop col = c :: r := ⟨_, _, List.drop_eq_getElem_cons hcol⟩
  have hc : (TL.tl z)[col]? = some c := by
    have := congrArg (fun l => l[0]?) hcr
    simpa [List.getElem?_drop] using this
  have cutd : ∀ p : Nat → Bool, cutS z (some (col : Int)) (some ((col : Int) + (((TL.tl z).drop col).takeWhile p).length)) = ⟨((c :: r).takeWhile p).toArray⟩ := fun p => by
    rw [cut_run z col p hcol', hcr]
  have wl : ∀ p : Nat → Bool, (⟨((c :: r).takeWhile p).toArray⟩ : Str).length = ((c :: r).takeWhile p).length := fun p => by simp [Str.length]
  have hlen : (c :: r).length ≤ sizeLine := by
    have h2 := congrArg List.length hcr
    rw [List.length_drop, ← TL.len_tl] at h2
    exact Nat.le_trans (by omega) hz
  have wz : ∀ p : Nat → Bool, ((c :: r).takeWhile p).length ≤ sizeLine := fun p => Nat.le_trans (run_le p (c :: r)) hlen
  rw [hcr] at q
  refine ⟨_, rfl, _, rfl, z, _, c, rfl, rfl, hz, atI_nat hc, ?_⟩
  have fs : decide (V.str ⟨#[c]⟩ = V.str ";") = decide (c = 59) := by
    rw [decide_eq_decide]
    constructor
    · intro h
      have := congrArg (fun v => match v with | V.str s => TL.tl s | _ => []) h
      have e : TL.tl (";" : Str) = [59] := by decide +kernel
      simp only [e] at this
      simpa [TL.tl] using this
    · rintro rfl; rfl
  refine ⟨_, rfl, rfl, _, rfl, ?_⟩
  rw [fs]
  simp only [tokAt] at q
  by_cases h1 : c = 59
  · rw [if_pos h1] at q
    dsimp only at q
    subst h1
    refine ite2 (fun _ => ?_) (fun h => absurd (decide_eq_true rfl) h)
    refine ⟨_, rfl, _, rfl, _, rfl, fun x dx hx hd ne => ?_⟩
    exact ⟨x, dx, _, _, _, _, rfl, upd_same, fun H' c => ⟨rfl, q x dx H' (tok_fin hx hd ne c)⟩⟩
  rw [if_neg h1] at q
  refine ite2 (fun h => absurd (of_decide_eq_true h) h1) (fun _ => ?_)
  refine ⟨_, rfl, c, "0123456789", rfl, rfl, _, rfl, ?_⟩
  have fd : decide (c ∈ ("0123456789" : Str).cps.toList) = dig c := rfl
  rw [fd]
  by_cases h2 : dig c = true
  · rw [if_pos h2] at q
    refine ite2 (fun _ => ?_) (fun h => absurd h2 h)
    refine ⟨_, rfl, _, rfl, _, rfl, _, rfl, _, rfl, z, "0123456789", col, rfl, hcol', hz, _, rfl, z, rfl, hz, ?_⟩
    have e1 : cutS z (some (col : Int)) (some ((col : Int) + ((List.drop col (TL.tl z)).takeWhile fun c => decide (c ∈ TL.tl "0123456789")).length)) = ⟨((c :: r).takeWhile dig).toArray⟩ := cutd dig
    rw [e1]
    have h3 := wl dig
    have h4 := wz dig
    generalize hw : (c :: r).takeWhile dig = wd at *
    have f0 : decide (V.str ⟨#[c]⟩ = V.str "0") = decide (c = 48) := by
      rw [decide_eq_decide]
      constructor
      · intro h
        have := congrArg (fun v => match v with | V.str s => TL.tl s | _ => []) h
        have e : TL.tl ("0" : Str) = [48] := by decide +kernel
        simp only [e] at this
        simpa [TL.tl] using this
      · rintro rfl; rfl
    by_cases h5 : wd.length > 2 ∨ (wd.length > 1 ∧ c = 48)
    · rw [if_pos h5] at q
      dsimp only at q
      refine ⟨_, rfl, _, rfl, by rw [h3]; exact h4, _, _, rfl, rfl, _, rfl, ?_⟩
      refine ite2 (fun _ => ?_) (fun n1 => ?_)
      · exact iteT ⟨_, rfl, _, rfl, rfl, fun d H' w => q d H' w⟩
      have n2 : ¬ wd.length > 2 := fun h => n1 (decide_eq_true (by rw [h3]; omega))
      have h6 := h5.resolve_left n2
      refine ⟨_, rfl, _, rfl, by rw [h3]; exact h4, _, _, rfl, rfl, _, rfl, ?_⟩
      refine ite2 (fun _ => ?_) (fun h => absurd (decide_eq_true (by rw [h3]; omega)) h)
      refine ⟨_, rfl, rfl, _, rfl, ?_⟩
      rw [f0, decide_eq_true h6.2]
      exact iteT ⟨_, rfl, _, rfl, rfl, fun d H' w => q d H' w⟩
    rw [if_neg h5] at q
    dsimp only at q
    refine ⟨_, rfl, _, rfl, by rw [h3]; exact h4, _, _, rfl, rfl, _, rfl, ?_⟩
    refine ite2 (fun h => absurd (of_decide_eq_true h) (by rw [h3]; omega)) (fun _ => ?_)
    have fin : ∀ x dx, H x = none → H dx = none → dx ≠ x → spTokI CT (.ref x :: ([V.str "number", V.str ⟨wd.toArray⟩, V.int line, V.int col] ++ [])) (upd (upd H dx (.own x)) x (.ins CT dx [])) (fun v H2 => v = .non ∧ Q (.ref x) H2) E0 := fun x dx hx hd ne =>
      ⟨x, dx, _, _, _, _, rfl, upd_same, fun H' c => ⟨rfl, q x dx H' (tok_fin hx hd ne c)⟩⟩
    refine ⟨_, rfl, _, rfl, by rw [h3]; exact h4, _, _, rfl, rfl, _, rfl, ?_⟩
    refine ite2 (fun h6 => ?_) (fun _ => ⟨_, rfl, _, rfl, _, rfl, fin⟩)
    refine ⟨_, rfl, rfl, _, rfl, ?_⟩
    rw [f0]
    have h7 := of_decide_eq_true h6
    refine ite2 (fun h8 => absurd (of_decide_eq_true h8) (by rw [h3] at h7; omega)) (fun _ => ⟨_, rfl, _, rfl, _, rfl, fin⟩)
  rw [if_neg h2] at q
  refine ite2 (fun h => absurd h h2) (fun _ => ?_)
  refine ⟨_, rfl, _, rfl, _, rfl, _, rfl, _, rfl, z, "abcdefghijklmnopqrstuvwxyz", col, rfl, hcol', hz, _, rfl, z, rfl, hz, ?_⟩
  have e1 : cutS z (some (col : Int)) (some ((col : Int) + ((List.drop col (TL.tl z)).takeWhile fun c => decide (c ∈ TL.tl "abcdefghijklmnopqrstuvwxyz")).length)) = ⟨((c :: r).takeWhile ltr).toArray⟩ := cutd ltr
  rw [e1]
  have h3 := wl ltr
  have h4 := wz ltr
  generalize hw : (c :: r).takeWhile ltr = wd at *
  have fin : ∀ k : Str, (∀ (x dx : Addr) (H' : Hp), Wd [] H H' [(x, .ins CT dx (tkF k ⟨wd.toArray⟩ line col)), (dx, .own x)] → Q (.ref x) H') → ∀ x dx, H x = none → H dx = none → dx ≠ x → spTokI CT (.ref x :: ([V.str k, V.str ⟨wd.toArray⟩, V.int line, V.int col] ++ [])) (upd (upd H dx (.own x)) x (.ins CT dx [])) (fun v H2 => v = .non ∧ Q (.ref x) H2) E0 := fun k q x dx hx hd ne =>
    ⟨x, dx, _, _, _, _, rfl, upd_same, fun H' c => ⟨rfl, q x dx H' (tok_fin hx hd ne c)⟩⟩
  refine ⟨_, rfl, a_KEYWORDS, kws.map V.str, rfl, .inr (hkw _), rfl, flat_strs' _, _, rfl, ?_⟩
  rw [if_neg Bool.false_ne_true, inV_strs]
  by_cases h5 : (⟨wd.toArray⟩ : Str) ∈ kws
  · rw [if_pos h5] at q
    dsimp only at q
    refine ite2 (fun _ => ?_) (fun h => absurd (decide_eq_true h5) h)
    exact ⟨_, rfl, _, rfl, _, rfl, fin _ q⟩
  rw [if_neg h5] at q
  refine ite2 (fun h => absurd (of_decide_eq_true h) h5) (fun _ => ?_)
  by_cases h6 : 1 ≤ wd.length ∧ wd.length ≤ 8
  · rw [if_pos h6] at q
    dsimp only at q
    refine ⟨_, rfl, _, rfl, by rw [h3]; exact h4, _, _, rfl, rfl, _, rfl, ?_⟩
    refine ite2 (fun _ => ?_) (fun h => absurd (decide_eq_true (by rw [h3]; omega)) h)
    refine ⟨_, _, rfl, rfl, _, rfl, ?_⟩
    refine ite2 (fun h => ?_) (fun _ => ?_)
    · rw [show decide ((((⟨wd.toArray⟩ : Str).length : Nat) : Int) ≤ 8) = true from decide_eq_true (by rw [h3]; omega)] at h
      cases h
    · exact ⟨_, rfl, _, rfl, _, rfl, fin _ q⟩
  · rw [if_neg h6] at q
    dsimp only at q
    refine ⟨_, rfl, _, rfl, by rw [h3]; exact h4, _, _, rfl, rfl, _, rfl, ?_⟩
    refine ite2 (fun h7 => ?_) (fun _ => ?_)
    · have h8 := of_decide_eq_true h7
      rw [h3] at h8
      refine ⟨_, _, rfl, rfl, _, rfl, ?_⟩
      rw [show decide ((((⟨wd.toArray⟩ : Str).length : Nat) : Int) ≤ 8) = false from decide_eq_false (by rw [h3]; omega)]
      exact iteT ⟨_, rfl, _, rfl, rfl, fun d H' w => q d H' w⟩
    · exact ⟨_, rfl, iteT ⟨_, rfl, _, rfl, rfl, fun d H' w => q d H' w⟩⟩
end
end Br

namespace Br
open PySem PySem.Spec PyProof.Rows L2
/-! ### texts and their tokens -/
/-- no letter, no digit ahead -/
def Stop (y : List Nat) : Prop := ∀ c r, y = c :: r → dig c = false ∧ ltr c = false
/-- a word that is a token -/
def Wk (k w : Str) : Prop := tokAt (TL.tl w) = some (k, w)
/-! ### rows -/
def rowsOf : List Nat → List Nat × List (List Nat)
  | [] => ([], [])
  | c :: r => if c = 10 then ([], (rowsOf r).1 :: (rowsOf r).2) else (c :: (rowsOf r).1, (rowsOf r).2)
theorem spl_rows : ∀ (l acc : List Nat), TL.spl [10] 0 acc l = (acc ++ (rowsOf l).1) :: (rowsOf l).2
  | [], acc => by rw [TL.spl_nil]; simp [rowsOf]
  | c :: r, acc => by
    by_cases h : c = 10
    · subst h
      rw [TL.spl_hit (by rfl)]
      show acc :: TL.spl [10] 0 [] r = _
      rw [spl_rows r []]
      simp [rowsOf]
    · rw [TL.spl_miss (TL.pre_of_head [] r h), spl_rows r (acc ++ [c])]
      simp [rowsOf, h]
end Br

namespace Br
open PySem PySem.Spec PyProof.Rows L2
/-! ### the lexer as a function -/
/-- a token with its place -/
structure Tk where
  k : Str
  t : Str
  l : Nat
  c : Nat
  deriving DecidableEq
def preE (ts : List Tk) : Except (Nat × Nat) (List Tk) → Except (Nat × Nat) (List Tk)
  | .error e => .error e
  | .ok us => .ok (ts ++ us)
def appE : Except (Nat × Nat) (List Tk) → Except (Nat × Nat) (List Tk) → Except (Nat × Nat) (List Tk)
  | .error e, _ => .error e
  | .ok ts, r => preE ts r
/-- a row from a column on, with fuel -/
def lexG : Nat → Nat → Nat → List Nat → Except (Nat × Nat) (List Tk)
  | _, _, _, [] => .ok []
  | 0, _, _, _ :: _ => .ok []
  | n + 1, ln, col, c :: r => if c = 32 ∨ c = 10 then lexG n ln (col + 1) r else
    match tokAt (c :: r) with
    | none => .error (ln, col)
    | some kt => preE [⟨kt.1, kt.2, ln, col⟩] (lexG n ln (col + kt.2.length) ((c :: r).drop kt.2.length))
def lexRow (ln col : Nat) (l : List Nat) : Except (Nat × Nat) (List Tk) := lexG l.length ln col l
def lexRows : Nat → List (List Nat) → Except (Nat × Nat) (List Tk)
  | _, [] => .ok []
  | ln, row :: rs => appE (lexRow ln 0 row) (lexRows (ln + 1) rs)
def endE (n : Nat) : Except (Nat × Nat) (List Tk) → Except (Nat × Nat) (List Tk)
  | .error e => .error e
  | .ok ts => .ok (ts ++ [⟨"end", "", n, 0⟩])
def rowsL (z : Str) : List (List Nat) := (Txt.split z "\n").map TL.tl
/-- the tokens of a text, or the place of the first invalid one -/
def lexF (z : Str) : Except (Nat × Nat) (List Tk) := endE (rowsL z).length (lexRows 0 (rowsL z))
theorem preE_nil (e : Except (Nat × Nat) (List Tk)) : preE [] e = e := by cases e <;> rfl
theorem preE_pre (a b : List Tk) (e : Except (Nat × Nat) (List Tk)) : preE a (preE b e) = preE (a ++ b) e := by
  cases e with
  | error x => rfl
  | ok us => show Except.ok (a ++ (b ++ us)) = Except.ok ((a ++ b) ++ us); rw [List.append_assoc]
theorem appE_pre (a : List Tk) (e f : Except (Nat × Nat) (List Tk)) : appE (preE a e) f = preE a (appE e f) := by
  cases e with
  | error x => rfl
  | ok us => show preE (a ++ us) f = preE a (preE us f); rw [preE_pre]
theorem lexG_fuel : ∀ (n m ln col : Nat) (l : List Nat), l.length ≤ n → l.length ≤ m → lexG n ln col l = lexG m ln col l
  | n, m, ln, col, [], _, _ => by cases n <;> cases m <;> rfl
  | 0, _, _, _, _ :: _, h, _ => by simp at h
  | _ + 1, 0, _, _, _ :: _, _, h => by simp at h
  | n + 1, m + 1, ln, col, c :: r, h1, h2 => by
    have g1 : r.length ≤ n := by simpa using h1
    have g2 : r.length ≤ m := by simpa using h2
    rw [lexG, lexG]
    by_cases hc : c = 32 ∨ c = 10
    · rw [if_pos hc, if_pos hc]; exact lexG_fuel n m ln (col + 1) r g1 g2
    · rw [if_neg hc, if_neg hc]
      cases ht : tokAt (c :: r) with
      | none => rfl
      | some kt =>
        have hp : 1 ≤ kt.2.length := tokAt_pos (k := kt.1) ht
        have hd : ((c :: r).drop kt.2.length).length ≤ r.length := by rw [List.length_drop, List.length_cons]; omega
        dsimp only
        rw [lexG_fuel n m ln (col + kt.2.length) ((c :: r).drop kt.2.length) (Nat.le_trans hd g1) (Nat.le_trans hd g2)]
theorem lexRow_space {ln col c : Nat} {r : List Nat} (h : c = 32 ∨ c = 10) : lexRow ln col (c :: r) = lexRow ln (col + 1) r := by
  unfold lexRow
  rw [List.length_cons, lexG, if_pos h]
theorem lexRow_tok {ln col c : Nat} {r : List Nat} {k t : Str} (h : ¬ (c = 32 ∨ c = 10)) (ht : tokAt (c :: r) = some (k, t)) : lexRow ln col (c :: r) = preE [⟨k, t, ln, col⟩] (lexRow ln (col + t.length) ((c :: r).drop t.length)) := by
  have hp : 1 ≤ t.length := tokAt_pos ht
  unfold lexRow
  rw [List.length_cons, lexG, if_neg h, ht]
  dsimp only
  rw [lexG_fuel r.length ((c :: r).drop t.length).length _ _ _ (by rw [List.length_drop, List.length_cons]; omega) (Nat.le_refl _)]
theorem lexRow_bad {ln col c : Nat} {r : List Nat} (h : ¬ (c = 32 ∨ c = 10)) (ht : tokAt (c :: r) = none) : lexRow ln col (c :: r) = .error (ln, col) := by
  unfold lexRow
  rw [List.length_cons, lexG, if_neg h, ht]
theorem rows_small (z : Str) : (Txt.split z "\n").length ≤ z.length + 1 ∧ ∀ row ∈ Txt.split z "\n", row.length ≤ z.length := by
  have hy : TL.tl ("\n" : Str) = [10] := by decide +kernel
  have hsp := TL.split_spl z "\n" (by rw [hy]; simp) (TL.kind_ok (by decide +kernel))
  rw [hy, spl_rows, List.nil_append] at hsp
  have hrl : ∀ l : List Nat, (rowsOf l).1.length ≤ l.length ∧ (∀ x ∈ (rowsOf l).2, x.length ≤ l.length) ∧ (rowsOf l).2.length ≤ l.length := fun l => by
    induction l with
    | nil => simp [rowsOf]
    | cons c l ih =>
      obtain ⟨i1, i2, i3⟩ := ih
      by_cases h : c = 10
      · simp only [rowsOf, h, if_pos, List.length_cons, List.length_nil]
        refine ⟨by omega, fun x hx => ?_, by omega⟩
        rcases List.mem_cons.mp hx with rfl | hx
        · omega
        · have := i2 x hx; omega
      · simp only [rowsOf, h, if_false, List.length_cons]
        refine ⟨by omega, fun x hx => ?_, by omega⟩
        have := i2 x hx; omega
  obtain ⟨i1, i2, i3⟩ := hrl (TL.tl z)
  rw [← TL.len_tl] at i1 i2 i3
  have hl := congrArg List.length hsp
  rw [List.length_map, List.length_cons] at hl
  refine ⟨by omega, fun row hrow => ?_⟩
  have hm : TL.tl row ∈ (Txt.split z "\n").map TL.tl := List.mem_map_of_mem hrow
  rw [hsp] at hm
  rw [TL.len_tl]
  rcases List.mem_cons.mp hm with e | hm
  · rw [e]; exact i1
  · exact i2 _ hm
theorem tokAt_le {l : List Nat} {k t : Str} (h : tokAt l = some (k, t)) : t.length ≤ l.length := tokAt_len h (Nat.le_refl _)
theorem Wd.callG {H0 H H' : Hp} {l l' : List (Addr × HO)} (w : Wd [] H0 H l) (c : Wd [] H H' l') : Wd [] H0 H' l' := (w.call0 c).sub (List.sublist_append_left _ _)
/-- tokens on the heap -/
def TksP (CT : Addr) (H : Hp) (L : List (Addr × Tk)) : Prop := ∀ q ∈ L, ∃ dx, H q.1 = some (.ins CT dx (tkF q.2.k q.2.t q.2.l q.2.c))
def prefs (L : List (Addr × Tk)) : List V := L.map fun q => V.ref q.1
theorem prefs_len (L : List (Addr × Tk)) : (prefs L).length = L.length := List.length_map ..
theorem TksP.nil {CT : Addr} {H : Hp} : TksP CT H [] := fun q h => nomatch h
theorem TksP.new {CT : Addr} {H : Hp} {L : List (Addr × Tk)} (h : TksP CT H L) {p : Addr} {o : HO} (hp : H p = none) : TksP CT (upd H p o) L := fun q hq => by
  obtain ⟨dx, e⟩ := h q hq
  exact ⟨dx, by rw [upd_ne (ne_of_none e hp)]; exact e⟩
theorem TksP.put {CT : Addr} {H : Hp} {L : List (Addr × Tk)} (h : TksP CT H L) {p : Addr} {o u : HO} (hp : H p = some u) (hu : ∀ dx fs, u ≠ .ins CT dx fs) : TksP CT (upd H p o) L := fun q hq => by
  obtain ⟨dx, e⟩ := h q hq
  exact ⟨dx, by rw [upd_ne (ne_of e hp (fun z => hu _ _ z.symm))]; exact e⟩
theorem TksP.call {CT : Addr} {H H' : Hp} {L : List (Addr × Tk)} {l : List (Addr × HO)} (h : TksP CT H L) (c : Wd [] H H' l) : TksP CT H' L := fun q hq => by
  obtain ⟨dx, e⟩ := h q hq
  exact ⟨dx, c.base _ _ (by simp) e⟩
theorem TksP.snoc {CT : Addr} {H : Hp} {L : List (Addr × Tk)} (h : TksP CT H L) {x dx : Addr} {t : Tk} (e : H x = some (.ins CT dx (tkF t.k t.t t.l t.c))) : TksP CT H (L ++ [(x, t)]) := fun q hq => by
  rcases List.mem_append.mp hq with hq | hq
  · exact h q hq
  · rw [List.mem_singleton.mp hq]; exact ⟨dx, e⟩
section
variable {P : Program} {w : World} {K : PySem.W.Frag} {mg : Str → Option Value} {base : Heap} {CT CF : Addr}
def spTokG (CT CF : Addr) : Sp := fun vs H Q E => ∃ z : Str, vs = [.str z] ∧ z.length ≤ 3000 ∧
  match lexF z with
  | .ok ts => ∀ (p : Addr) (L : List (Addr × Tk)) (H' : Hp), Wd [] H H' [(p, .lst (prefs L))] → TksP CT H' L → L.map (·.2) = ts → L.length ≤ 10000000 → Q (.ref p) H'
  | .error e => ∀ (d : Addr) (H' : Hp), Wd [] H H' [(d, synD e.1 e.2)] → E (.ref CF) (some d) H'
theorem cal_tokG (D : DefAt K mg "tokenize" stokenize ["source"]) (T : Bi mg) (C : LexC K mg) (TC : TokCls K CT) (C1 : CalX P w K mg base 3 "read_token" ["row", "line", "column"] (spReadG CT CF)) (CM : MkAt P w K mg base 1 "Token" CT ["self", "kind", "text", "line", "column"] (spTokI CT)) :
    CalX P w K mg base 4 "tokenize" ["source"] (spTokG CT CF) := D.calX fun f fd F => by
  have nd := sctokenize.nd
  obtain ⟨t1, c_SPACES⟩ := C.SPACES
  obtain ⟨t2, c_END⟩ := C.END
  obtain ⟨f1, fd1, m_read_token, kp_read_token, b_read_token, G_read_token⟩ := C1.ex
  obtain ⟨f2, fd2, mC_Token, Mk_Token, b_Token, G_Token⟩ := CM.ex
  refine F.okX sctokenize (fun vs H Q E h => ?_) (fun cdv A outer s H vs Q E hr h => ?_)
  · obtain ⟨z, rfl, _⟩ := h; rfl
  obtain ⟨z, rfl, hz, q⟩ := h
  obtain ⟨sm1, sm2⟩ := rows_small z
  refine ⟨_, (pss_cons (ps_set (i := 1) nd rfl (Or.inl rfl) (pe_lst pa_nil))
 (pss_cons (ps_set (i := 2) nd rfl (Or.inl rfl) (pe_split (pv 0) pe_str))
 (pss_cons (ps_for (passes_of rfl) rfl (pi_enum (by rfl) T.enumerate (pa_cons (pv 2) pa_nil)) (pg_tupK (K := K) (n := 2) rfl rfl (pgs_cons (pg_name (i := 3) nd rfl (Or.inl rfl)) (pgs_cons (pg_name (i := 4) nd rfl (Or.inl rfl)) pgs_nil)))
 (pss_cons (ps_set (i := 5) nd rfl (Or.inl rfl) pe_int)
 (pss_one (ps_while (passes_of rfl) (pt_cmpR op_lt (pv 5) (pe_callB call_len_str (by rfl) T.len PySem.boot_len (pa_cons (pv 4) pa_nil)) (nomark _))
 (pss_one (ps_if (pt_cmpR op_in_sign (pe_ix ix_str (pv 4) (pv 5) (fun _ _ => rfl)) (pe_glob (v := .str " \n") (by rfl) c_SPACES ⟨_, rfl⟩) (by rfl))
 (pss_one (ps_aug (i := 5) nd rfl (Or.inl rfl) pe_int ip_add))
 (pss_cons (ps_set (i := 6) nd rfl (Or.inl rfl) (pe_call G_read_token (hr.mono (by first | decide | omega)) (by rfl) m_read_token kp_read_token b_read_token .nil (passes_call (takes_of rfl rfl rfl rfl) (fun _ _ _ _ h => h)) (pa_cons (pv 4) (pa_cons (pv 3) (pa_cons (pv 5) pa_nil)))))
 (pss_cons (ps_expr (pe_bmK (K := K) rfl PySem.F.plainAttrs_list PySem.F.slot_list_append PySem.F.type_list_append mt_append (pv 1) (pa_cons (pv 6) pa_nil)))
 (pss_one (ps_aug (i := 5) nd rfl (Or.inl rfl) (pe_callB call_len_str (by rfl) T.len PySem.boot_len (pa_cons (pe_fldK (K := K) rfl (pv 6) rfl) pa_nil)) ip_add))))))))))
 (pss_one (ps_ret (pe_op op_cat (pv 1) (pe_lst (pa_cons (pe_make Mk_Token G_Token (hr.mono (by first | decide | omega)) (by rfl) mC_Token b_Token .nil pass0 (pa_cons (pe_glob (v := .str "end") (by rfl) c_END ⟨_, rfl⟩) (pa_cons pe_str (pa_cons (pe_callB (r := rLenS K) call_len_seq (by rfl) T.len PySem.boot_len (pa_cons (pv 2) pa_nil)) (pa_cons pe_int pa_nil))))) pa_nil)))))))), ?_⟩
  refine ⟨(by show 0 ≤ sizeLine; decide), fun p hp => ?_⟩
  have w1 := (Wd.refl H).new (.lst []) hp
  refine ⟨_, rfl, ⟨_, rfl⟩, z, "\n", rfl, rfl, rfl, Nat.le_trans (m := 3002) (by omega) (by decide), fun rr hrr => ?_⟩
  have q : match endE (rowsL z).length (lexRows 0 (rowsL z)) with
    | .ok ts => ∀ (p : Addr) (L : List (Addr × Tk)) (H' : Hp), Wd [] H H' [(p, .lst (prefs L))] → TksP CT H' L → L.map (·.2) = ts → L.length ≤ 10000000 → Q (.ref p) H'
    | .error e => ∀ (d : Addr) (H' : Hp), Wd [] H H' [(d, synD e.1 e.2)] → E (.ref CF) (some d) H' := q
  have hRL : rowsL z = (Txt.split z "\n").map TL.tl := rfl
  generalize rowsL z = RL at *
  generalize hR : Txt.split z "\n" = rows at *
  have lRL : RL.length = rows.length := by rw [hRL, List.length_map]
  have w2 := w1.new1 (.lst (rows.map V.str)) hrr
  have w2s := w2
  refine ⟨_, rfl, rr, rows.map V.str, rfl, SqL.of (w2.get 1 rfl), ?_⟩
  refine for_it (walk_enum (xs := rows.map V.str)) (fun i σ H1 => ∃ (L : List (Addr × Tk)) (a b c d : Option V), σ = [some (.str z), some (.ref p), some (.ref rr), a, b, c, d] ∧
    Wd [] H H1 [(p, .lst (prefs L)), (rr, .lst (rows.map V.str))] ∧ TksP CT H1 L ∧ L.length ≤ i * 3000 ∧ lexRows 0 RL = preE (L.map (·.2)) (lexRows i (RL.drop i))) ?_ ?_ ?_ ?_
  · exact ⟨[], _, _, _, _, rfl, w2, TksP.nil, Nat.zero_le _, by rw [List.drop_zero]; exact (preE_nil _).symm⟩
  · rintro i σ H1 _ ⟨L, a, b, c, d, rfl, w, _⟩
    exact SqL.of (w.get 1 rfl)
  · rintro i x σ H1 H1' hi ⟨L, a, b, c, d, rfl, w3, hT, hn, hL⟩ ⟨T0, x1, x2, rfl, hT0, rfl, e1, e2⟩
    cases e1
    obtain ⟨row, hrow, rfl⟩ : ∃ row, rows[i]? = some row ∧ x2 = V.str row := by
      have e3 : (rows.map V.str)[i]? = some x2 := e2
      rw [List.getElem?_map] at e3
      cases e : rows[i]? with
      | none => rw [e] at e3; cases e3
      | some b => rw [e] at e3; exact ⟨b, rfl, (Option.some.inj e3).symm⟩
    have hil : i < rows.length := (List.getElem?_eq_some_iff.mp hrow).1
    have hr3 : row.length ≤ 3000 := Nat.le_trans (sm2 row (List.mem_of_getElem? hrow)) hz
    have hrl : row.length ≤ sizeLine := Nat.le_trans hr3 (by decide)
    have hRi : RL[i]? = some (TL.tl row) := by rw [hRL, List.getElem?_map, hrow]; rfl
    have hdR : RL.drop i = TL.tl row :: RL.drop (i + 1) := by
      rw [List.drop_eq_getElem_cons (by omega)]
      congr 1
      exact (List.getElem?_eq_some_iff.mp hRi).2
    rw [hdR, lexRows] at hL
    have i3 : i ≤ 3000 := by omega
    have w4 := (w3.new (.tup [.int (i : Nat), .str row]) hT0)
    refine ⟨T0, _, rfl, SqT.of (w4.get 0 rfl), rfl, _, _, rfl, _, _, rfl, rfl, ?_⟩
    refine while_by (fun σ H' => ∃ (L : List (Addr × Tk)) (col : Nat) (d : Option V), σ = [some (.str z), some (.ref p), some (.ref rr), some (.int (i : Nat)), some (.str row), some (.int col), d] ∧
      Wd [] H H' [(p, .lst (prefs L)), (rr, .lst (rows.map V.str))] ∧ TksP CT H' L ∧ col ≤ row.length ∧ L.length ≤ i * 3000 + col ∧ lexRows 0 RL = preE (L.map (·.2)) (appE (lexRow i col ((TL.tl row).drop col)) (lexRows (i + 1) (RL.drop (i + 1))))) (fun σ _ => row.length - (slotI σ 5).toNat)
      ⟨L, 0, d, rfl, w4.sub (by walk_at "sub"), hT.new hT0, Nat.zero_le _, by omega, by rw [List.drop_zero]; exact hL⟩ ?_ ?_
    · rintro σ H2 ⟨L2, col, d2, rfl, w5, hT2, hcr, hn2, hL2⟩
      refine ⟨_, rfl, _, rfl, row, rfl, hrl, _, _, rfl, rfl, _, rfl, ?_⟩
      refine ite2 (fun hc => ?_) (fun hc => ?_)
      · have hlt : col < row.length := by have := of_decide_eq_true hc; omega
        have hlt' : col < (TL.tl row).length := by rw [← TL.len_tl]; exact hlt
        have hdr := List.drop_eq_getElem_cons hlt'
        have hget := List.getElem?_eq_getElem hlt'
        generalize (TL.tl row)[col] = c0 at hdr hget
        refine ⟨_, rfl, _, rfl, row, _, c0, rfl, rfl, hrl, atI_nat hget, c0, " \n", rfl, rfl, _, rfl, ?_⟩
        have fsp : decide (c0 ∈ (" \n" : Str).cps.toList) = decide (c0 = 32 ∨ c0 = 10) := by
          have e : (" \n" : Str).cps.toList = [32, 10] := by decide +kernel
          rw [e]; simp
        rw [fsp]
        rw [hdr] at hL2
        refine ite2 (fun hs => ?_) (fun hs => ?_)
        · have hs := of_decide_eq_true hs
          refine ⟨_, rfl, _, _, rfl, rfl, ⟨L2, col + 1, d2, ?_, w5, hT2, hlt, by omega, ?_⟩, ?_⟩
          · show [_, _, _, _, _, some (V.int ((col : Int) + 1)), _] = _
            rw [show (col : Int) + 1 = ((col + 1 : Nat) : Int) by omega]
          · rw [hL2, lexRow_space hs]
          · show row.length - ((col : Int) + 1).toNat < row.length - ((col : Int)).toNat
            omega
        · have hs : ¬ (c0 = 32 ∨ c0 = 10) := fun h => hs (decide_eq_true h)
          refine ⟨_, rfl, _, rfl, _, rfl, row, (i : Nat), col, rfl, hrl, hlt, ?_⟩
          rw [hdr]
          cases ht : tokAt (c0 :: (TL.tl row).drop (col + 1)) with
          | none =>
            rw [lexRow_bad hs ht] at hL2
            rw [hL2] at q
            exact fun dd H3 c => q dd H3 (w5.callG c)
          | some kt =>
          obtain ⟨k, t⟩ := kt
          intro x dx H3 c
          have hpos := tokAt_pos ht
          have htd : t.length ≤ row.length - col := by
            have h1 := tokAt_le ht
            have h2 := congrArg List.length hdr
            rw [List.length_drop, ← TL.len_tl] at h2
            omega
          rw [lexRow_tok hs ht, appE_pre, preE_pre] at hL2
          have w6 := w5.call0 c
          have hT3 := (hT2.call c).snoc (t := ⟨k, t, i, col⟩) (w6.get 0 rfl)
          refine ⟨_, rfl, .inl ⟨rfl, _, SqL.of (w6.get 2 rfl)⟩, _, rfl, ?_⟩
          refine ⟨p, _, _, rfl, rfl, w6.get 2 rfl, ?_, ?_⟩
          · rw [prefs_len]
            exact Nat.lt_of_le_of_lt (m := 3000 * 3000 + 3000) (by have : i * 3000 ≤ 3000 * 3000 := Nat.mul_le_mul_right _ i3; omega) (by decide)
          have w7 := w6.put 2 (.lst (prefs L2 ++ [.ref x])) rfl (fun xs q => by cases q)
          have hT4 := hT3.put (p := p) (o := .lst (prefs L2 ++ [.ref x])) (w6.get 2 rfl) (fun _ _ q => by cases q)
          have hTx := hT4 (x, ⟨k, t, i, col⟩) (by simp)
          obtain ⟨dx2, hTx⟩ := hTx
          have htl : t.length ≤ sizeLine := Nat.le_trans (by omega) hrl
          refine ⟨_, rfl, _, rfl, x, CT, dx2, _, _, rfl, hTx, TC.cl, TC.nt, tk_text k t _ _, t, rfl, htl, _, _, rfl, rfl, ⟨L2 ++ [(x, ⟨k, t, i, col⟩)], col + t.length, some (.ref x), ?_, ?_, hT4, by omega, ?_, ?_⟩, ?_⟩
          · show [_, _, _, _, _, some (V.int ((col : Int) + t.length)), _] = _
            rw [show (col : Int) + t.length = ((col + t.length : Nat) : Int) by omega]
          · have w8 := w7.sub (l' := [(p, HO.lst (prefs L2 ++ [.ref x])), (rr, .lst (rows.map V.str))]) (by walk_at "sub")
            have e : prefs (L2 ++ [(x, ⟨k, t, i, col⟩)]) = prefs L2 ++ [.ref x] := by simp [prefs]
            rw [e]; exact w8
          · rw [List.length_append]; simp only [List.length_cons, List.length_nil]; omega
          · rw [hL2, ← hdr, List.drop_drop, List.map_append]; rfl
          · show row.length - ((col : Int) + t.length).toNat < row.length - ((col : Int)).toNat
            omega
      · have hge : (TL.tl row).drop col = [] := List.drop_eq_nil_of_le (by
          rw [← TL.len_tl]
          have : ¬ (col : Int) < row.length := fun h => hc (decide_eq_true h)
          omega)
        rw [hge] at hL2
        refine ⟨L2, _, _, _, _, rfl, w5, hT2, by rw [Nat.succ_mul]; omega, ?_⟩
        rw [hL2]
        show preE _ (preE [] _) = _
        rw [preE_nil]
    · intro σ H Q Q' h hc
      obtain ⟨v5, e5, v4, e4, zz, ez, hzz, i1, i2, ei1, ei2, hc⟩ := hc
      refine ⟨v5, e5, v4, e4, zz, ez, hzz, i1, i2, ei1, ei2, ?_⟩
      obtain ⟨b, hb, hc⟩ := hc
      exact ⟨b, hb, h _ _ hc⟩
  · rintro σ H1 ⟨L, a, b, c, d, rfl, w3, hT, hn, hL⟩
    rw [List.length_map] at hn hL
    rw [List.drop_eq_nil_of_le (by omega), lexRows] at hL
    have hL : lexRows 0 RL = .ok (L.map (·.2) ++ []) := hL
    rw [hL, List.append_nil, lRL] at q
    refine ⟨_, rfl, _, rfl, rr, _, rfl, .inl (SqL.of (w3.get 1 rfl)), fun x dx hx hd ne => ?_⟩
    refine ⟨x, dx, _, _, _, _, rfl, upd_same, fun H2 c2 => ⟨rfl, (by show 1 ≤ sizeLine; decide), fun pl hpl => ?_⟩⟩
    have w4 := w3.call0 (tok_fin hx hd ne c2)
    have hT2 := (hT.call (tok_fin hx hd ne c2)).snoc (t := ⟨"end", "", rows.length, 0⟩) (by have := w4.get 0 rfl; rw [List.length_map] at this; exact this)
    have w5 := w4.new (.lst [V.ref x]) hpl
    have hT3 := hT2.new (o := .lst [V.ref x]) hpl
    have hb : L.length ≤ 3001 * 3000 := Nat.le_trans hn (Nat.mul_le_mul_right _ (by omega))
    refine ⟨p, pl, _, _, rfl, rfl, w5.get 3 rfl, w5.get 0 rfl, ?_, fun p2 hp2 => ?_⟩
    · rw [prefs_len]
      exact Nat.le_trans (m := 3001 * 3000 + 1) (by show _ + 1 ≤ _; omega) (by decide)
    · refine q p2 (L ++ [(x, ⟨"end", "", rows.length, 0⟩)]) _ ?_ (hT3.new hp2) (by rw [List.map_append]; rfl) (by rw [List.length_append]; simp only [List.length_cons, List.length_nil]; omega)
      have e : prefs (L ++ [(x, ⟨"end", "", rows.length, 0⟩)]) = prefs L ++ [.ref x] := by simp [prefs]
      rw [e]
      exact (w5.new (.lst (prefs L ++ [.ref x])) hp2).sub (.cons₂ _ (List.nil_sublist _))
end
end Br

namespace Br
open PySem PySem.Spec PyProof.Rows L2
/-! ### the parser on any tokens: its state -/
/-- a fault: place and reason -/
structure Flt where
  l : Nat
  c : Nat
  why : Str
  deriving DecidableEq
structure Ps where
  names : List Str
  aws : List (Int × Int × Int)
  W : Option (List Int)
  M : Option (List Int)
  fs : List Flt
  deriving DecidableEq
def Ps.zero : Ps := ⟨[], [], none, none, []⟩
def Ps.bad (s : Ps) (t : Tk) (why : Str) : Ps := { s with fs := s.fs ++ [⟨t.l, t.c, why⟩] }
/-- where its things lie -/
structure Pa where
  as : List Addr
  wa : Addr
  ma : Addr
  fa : List Addr
def oA : Option (List Int) → Addr → V
  | none, _ => .non
  | some _, a => .ref a
def gF (z : Pz) (n : Nat) (s : Ps) (A : Pa) : List (Str × V) := [("tokens", .ref z.tk), ("at", .int n), ("faults", .ref z.fl), ("names", .ref z.nl), ("weights", oA s.W A.wa), ("makers", oA s.M A.ma), ("aways", .ref z.al)]
def Pz.mu (z : Pz) : List Addr := [z.x, z.fl, z.nl, z.al]
theorem gf_none {z : Pz} {n : Nat} {s : Ps} {A : Pa} {m : Str} (h : ∀ f ∈ (["tokens", "at", "faults", "names", "weights", "makers", "aways"] : List Str), (m == f) = false) : (gF z n s A).lookup m = none := by
  unfold gF
  rw [look_ne (h _ (by simp)), look_ne (h _ (by simp)), look_ne (h _ (by simp)), look_ne (h _ (by simp)), look_ne (h _ (by simp)), look_ne (h _ (by simp)), look_ne (h _ (by simp))]
  rfl
section
variable {z : Pz} {n : Nat} {s : Ps} {A : Pa}
theorem gf_tokens : (gF z n s A).lookup ("tokens" : Str) = some (.ref z.tk) := look_eq
theorem gf_at : (gF z n s A).lookup ("at" : Str) = some (.int n) := (look_ne (by decide +kernel)).trans look_eq
theorem gf_faults : (gF z n s A).lookup ("faults" : Str) = some (.ref z.fl) := (look_ne (by decide +kernel)).trans ((look_ne (by decide +kernel)).trans look_eq)
theorem gf_names : (gF z n s A).lookup ("names" : Str) = some (.ref z.nl) := (look_ne (by decide +kernel)).trans ((look_ne (by decide +kernel)).trans ((look_ne (by decide +kernel)).trans look_eq))
theorem gf_weights : (gF z n s A).lookup ("weights" : Str) = some (oA s.W A.wa) := (look_ne (by decide +kernel)).trans ((look_ne (by decide +kernel)).trans ((look_ne (by decide +kernel)).trans ((look_ne (by decide +kernel)).trans look_eq)))
theorem gf_makers : (gF z n s A).lookup ("makers" : Str) = some (oA s.M A.ma) := (look_ne (by decide +kernel)).trans ((look_ne (by decide +kernel)).trans ((look_ne (by decide +kernel)).trans ((look_ne (by decide +kernel)).trans ((look_ne (by decide +kernel)).trans look_eq))))
theorem gf_aways : (gF z n s A).lookup ("aways" : Str) = some (.ref z.al) := (look_ne (by decide +kernel)).trans ((look_ne (by decide +kernel)).trans ((look_ne (by decide +kernel)).trans ((look_ne (by decide +kernel)).trans ((look_ne (by decide +kernel)).trans ((look_ne (by decide +kernel)).trans look_eq)))))
theorem gf_putAt (m : Nat) : putF "at" (.int m) (gF z n s A) = gF z m s A := by
  unfold gF
  rw [putF_ne (by decide +kernel)]; rfl
theorem gf_putW (p : Addr) (l : List Int) : putF "weights" (.ref p) (gF z n s A) = gF z n { s with W := some l } { A with wa := p } := by
  unfold gF
  rw [putF_ne (by decide +kernel), putF_ne (by decide +kernel), putF_ne (by decide +kernel), putF_ne (by decide +kernel)]; rfl
theorem gf_putM (p : Addr) (l : List Int) : putF "makers" (.ref p) (gF z n s A) = gF z n { s with M := some l } { A with ma := p } := by
  unfold gF
  rw [putF_ne (by decide +kernel), putF_ne (by decide +kernel), putF_ne (by decide +kernel), putF_ne (by decide +kernel), putF_ne (by decide +kernel)]; rfl
end
def fT (i : Nat) (f : Flt) : List V := [.int f.l, .int f.c, .int i, .str f.why]
/-- the parser at z, its next token the n-th of L -/
structure PGa (CP CT : Addr) (z : Pz) (L : List (Addr × Tk)) (n : Nat) (s : Ps) (A : Pa) (H : Hp) : Prop where
  ob : H z.x = some (.ins CP z.dx (gF z n s A))
  tk : H z.tk = some (.lst (prefs L))
  ts : TksP CT H L
  fl : H z.fl = some (.lst (A.fa.map V.ref))
  fn : A.fa.length = s.fs.length
  ft : ∀ (i : Nat) a f, A.fa[i]? = some a → s.fs[i]? = some f → H a = some (.tup (fT i f))
  nl : H z.nl = some (.lst (s.names.map V.str))
  al : H z.al = some (.lst (A.as.map V.ref))
  aw : AwAt H A.as s.aws
  w : ∀ l, s.W = some l → H A.wa = some (.tup (l.map V.int))
  m : ∀ l, s.M = some l → H A.ma = some (.tup (l.map V.int))
  ne : [z.x, z.tk, z.fl, z.nl, z.al].Nodup
  cn : CT ≠ CP
def PG (CP CT : Addr) (z : Pz) (L : List (Addr × Tk)) (n : Nat) (s : Ps) (H : Hp) : Prop := ∃ A, PGa CP CT z L n s A H
section
variable {CP CT : Addr} {z : Pz} {L : List (Addr × Tk)} {n : Nat} {s : Ps} {A : Pa} {H H' : Hp}
/-- what is kept: all but lists of others -/
theorem PGa.keep (h : PGa CP CT z L n s A H) (k : ∀ b o, H b = some o → (∀ xs, o = .lst xs → b ∈ [z.tk, z.fl, z.nl, z.al]) → H' b = some o) : PGa CP CT z L n s A H' := by
  have nl : ∀ {b : Addr} {o : HO}, H b = some o → (∀ xs, o ≠ .lst xs) → H' b = some o := fun e n => k _ _ e fun xs q => absurd q (n xs)
  refine ⟨nl h.ob (fun _ q => by cases q), k _ _ h.tk (fun _ _ => by simp), fun q hq => ?_, k _ _ h.fl (fun _ _ => by simp), h.fn, fun i a f e1 e2 => nl (h.ft i a f e1 e2) (fun _ q => by cases q), k _ _ h.nl (fun _ _ => by simp), k _ _ h.al (fun _ _ => by simp), h.aw.keep fun b xs e => nl e (fun _ q => by cases q),
    fun l e => nl (h.w l e) (fun _ q => by cases q), fun l e => nl (h.m l e) (fun _ q => by cases q), h.ne, h.cn⟩
  obtain ⟨dx, e⟩ := h.ts q hq
  exact ⟨dx, nl e (fun _ q => by cases q)⟩
theorem PGa.wd0 (h : PGa CP CT z L n s A H) {l : List (Addr × HO)} (w : Wd [] H H' l) : PGa CP CT z L n s A H' := h.keep fun b o e _ => w.base b o (by simp) e
theorem PG.wd0 (h : PG CP CT z L n s H) {l : List (Addr × HO)} (w : Wd [] H H' l) : PG CP CT z L n s H' := by
  obtain ⟨A, h⟩ := h; exact ⟨A, h.wd0 w⟩
/-- a list of ours is written -/
theorem PG.putL (h : PG CP CT z L n s H) {p : Addr} {l : List V} {o : HO} (hp : H p = some (.lst l)) (hm : p ∉ [z.tk, z.fl, z.nl, z.al]) : PG CP CT z L n s (upd H p o) := by
  obtain ⟨A, h⟩ := h
  refine ⟨A, h.keep fun b u e hl => ?_⟩
  by_cases hb : b = p
  · subst hb; rw [hp] at e; cases e; exact absurd (hl _ rfl) hm
  · rw [upd_ne hb]; exact e
/-- the object itself -/
theorem PGa.setX (h : PGa CP CT z L n s A H) (m : Nat) (s' : Ps) (A' : Pa) (e1 : s'.names = s.names) (e2 : s'.aws = s.aws) (e3 : s'.fs = s.fs) (e4 : A'.as = A.as) (e5 : A'.fa = A.fa) (hw : ∀ l, s'.W = some l → H A'.wa = some (.tup (l.map V.int))) (hm : ∀ l, s'.M = some l → H A'.ma = some (.tup (l.map V.int))) :
    PGa CP CT z L m s' A' (upd H z.x (.ins CP z.dx (gF z m s' A'))) := by
  have k : ∀ {b : Addr} {u : HO}, H b = some u → (∀ dx fs, u ≠ .ins CP dx fs) → upd H z.x (.ins CP z.dx (gF z m s' A')) b = some u := fun e n => by rw [upd_ne (ne_of e h.ob (n _ _))]; exact e
  refine ⟨upd_same, k h.tk (fun _ _ q => by cases q), fun q hq => ?_, k (by rw [e5]; exact h.fl) (fun _ _ q => by cases q), by rw [e5, e3]; exact h.fn, fun i a f g1 g2 => k (h.ft i a f (by rw [← e5]; exact g1) (by rw [← e3]; exact g2)) (fun _ _ q => by cases q),
    k (by rw [e1]; exact h.nl) (fun _ _ q => by cases q), k (by rw [e4]; exact h.al) (fun _ _ q => by cases q), ?_, fun l e => k (hw l e) (fun _ _ q => by cases q), fun l e => k (hm l e) (fun _ _ q => by cases q), h.ne, h.cn⟩
  · obtain ⟨dx, e⟩ := h.ts q hq
    exact ⟨dx, k e (fun _ _ q => by injection q with q1; exact h.cn q1)⟩
  · rw [e4, e2]; exact h.aw.keep fun b xs e => k e (fun _ _ q => by cases q)
theorem PG.setAt (h : PG CP CT z L n s H) : ∃ fs, H z.x = some (.ins CP z.dx fs) ∧ fs.lookup ("at" : Str) = some (.int n) ∧ fs.length = 7 ∧ ∀ m : Nat, PG CP CT z L m s (upd H z.x (.ins CP z.dx (putF "at" (.int m) fs))) := by
  obtain ⟨A, h⟩ := h
  exact ⟨_, h.ob, gf_at, rfl, fun m => ⟨A, by rw [gf_putAt]; exact h.setX m s A rfl rfl rfl rfl rfl h.w h.m⟩⟩
/-- one more fault -/
theorem PG.setF (h : PG CP CT z L n s H) (t : Tk) (why : Str) : ∃ fa : List Addr, H z.fl = some (.lst (fa.map V.ref)) ∧ fa.length = s.fs.length ∧ ∀ a, H a = some (.tup [.int t.l, .int t.c, .int (s.fs.length : Nat), .str why]) → PG CP CT z L n (s.bad t why) (upd H z.fl (.lst ((fa ++ [a]).map V.ref))) := by
  obtain ⟨A, h⟩ := h
  refine ⟨A.fa, h.fl, h.fn, fun a ha => ⟨{ A with fa := A.fa ++ [a] }, ?_⟩⟩
  have hn := h.ne
  simp only [List.nodup_cons, List.mem_cons, List.not_mem_nil, or_false, not_or] at hn
  have k : ∀ {b : Addr} {u : HO}, H b = some u → b ≠ z.fl → upd H z.fl (.lst ((A.fa ++ [a]).map V.ref)) b = some u := fun e n => by rw [upd_ne n]; exact e
  have k2 : ∀ {b : Addr} {u : HO}, H b = some u → (∀ xs, u ≠ .lst xs) → upd H z.fl (.lst ((A.fa ++ [a]).map V.ref)) b = some u := fun e n => k e (ne_of e h.fl (n _))
  refine ⟨k2 h.ob (fun _ q => by cases q), k h.tk hn.2.1.1, fun q hq => ?_, upd_same, ?_, fun i b f g1 g2 => ?_, k h.nl (Ne.symm hn.2.2.1.1), k h.al (Ne.symm hn.2.2.1.2), h.aw.keep fun b xs e => k2 e (fun _ q => by cases q), fun l e => k2 (h.w l e) (fun _ q => by cases q), fun l e => k2 (h.m l e) (fun _ q => by cases q), h.ne, h.cn⟩
  · obtain ⟨dx, e⟩ := h.ts q hq
    exact ⟨dx, k2 e (fun _ q => by cases q)⟩
  · show (A.fa ++ [a]).length = (s.fs ++ [_]).length
    rw [List.length_append, List.length_append, h.fn]; rfl
  · have g1 : (A.fa ++ [a])[i]? = some b := g1
    have g2 : (s.fs ++ [(⟨t.l, t.c, why⟩ : Flt)])[i]? = some f := g2
    by_cases c : i < A.fa.length
    · rw [List.getElem?_append_left c] at g1
      rw [List.getElem?_append_left (by rw [← h.fn]; exact c)] at g2
      exact k2 (h.ft i b f g1 g2) (fun _ q => by cases q)
    · rw [List.getElem?_append_right (by omega)] at g1
      rw [List.getElem?_append_right (by rw [← h.fn]; omega)] at g2
      have hi : i - A.fa.length = 0 := by
        have := (List.getElem?_eq_some_iff.mp g1).1
        simp only [List.length_cons, List.length_nil] at this
        omega
      rw [hi] at g1
      rw [← h.fn, hi] at g2
      cases g1; cases g2
      have e : i = s.fs.length := by rw [← h.fn]; omega
      subst e
      exact k2 ha (fun _ q => by cases q)
end
end Br

namespace Br
open PySem PySem.Spec PyProof.Rows L2
section
variable {P : Program} {w : World} {K : PySem.W.Frag} {mg : Str → Option Value} {base : Heap} {CT CP CF : Addr}
theorem prefs_at {L : List (Addr × Tk)} {n : Nat} {a : Addr} {t : Tk} (h : L[n]? = some (a, t)) : atI (prefs L) (n : Int) = some (.ref a) := by
  refine atI_nat ?_
  unfold prefs
  rw [List.getElem?_map, h]; rfl
def spPeekG (CP CT : Addr) : Sp := fun vs H Q _ => ∃ (z : Pz) (L : List (Addr × Tk)) (n : Nat) (s : Ps) (a : Addr) (t : Tk), vs = [.ref z.x] ∧ PG CP CT z L n s H ∧ L[n]? = some (a, t) ∧ Q (.ref a) H
theorem me_peekG (D : MethAt K CP "peek" "Parser.peek" sParser_peek ["self"]) (PC : ParCls K CP) : MeAt P w K mg base 1 CP "peek" ["self"] (spPeekG CP CT) := D.me fun f fd F => by
  have nd := scParser_peek.nd
  refine F.ok scParser_peek (fun vs H Q E h => ?_) (fun cdv A outer s H vs Q E hr h => ?_)
  · obtain ⟨z, L, n, s, a, t, rfl, _⟩ := h; rfl
  obtain ⟨z, L, n, sv, a, t, rfl, ⟨Aa, hp⟩, ht, q⟩ := h
  refine ⟨_, (pss_one (ps_ret (pe_ix (r := rIxL K) ix_list (pe_fldK (K := K) rfl (pv 0) rfl) (pe_fldK (K := K) rfl (pv 0) rfl) (fun _ _ => rfl)))), ?_⟩
  exact ⟨_, rfl, z.x, CP, z.dx, _, _, rfl, hp.ob, PC.cl, PC.n1, gf_tokens, _, rfl, z.x, CP, z.dx, _, _, rfl, hp.ob, PC.cl, PC.n2, gf_at, z.tk, _, _, _, rfl, rfl, SqL.of hp.tk, prefs_at ht, q⟩
abbrev sParser_fail : Stmt := inClass (topS 40) 2
theorem scParser_fail : FnScope ["self", "token"] ["self"] (defScope sParser_fail) := ⟨rfl, rfl, rfl, by decide +kernel, rfl, by decide +kernel, by decide +kernel⟩
def spFailG (CP CT CF : Addr) : Sp := fun vs H _ E => ∃ (z : Pz) (L : List (Addr × Tk)) (n : Nat) (s : Ps) (a : Addr) (t : Tk), vs = [.ref z.x] ∧ PG CP CT z L n s H ∧ L[n]? = some (a, t) ∧ ∀ (d : Addr) (H' : Hp), Wd [] H H' [(d, synD t.l t.c)] → E (.ref CF) (some d) H'
theorem me_failG (D : MethAt K CP "fail" "Parser.fail" sParser_fail ["self"]) (PC : ParCls K CP) (TC : TokCls K CT) (EX_SyntaxFault : ExAt P w K mg base "SyntaxFault" CF ["line", "column"]) (C1 : MeAt P w K mg base 1 CP "peek" ["self"] (spPeekG CP CT)) : MeX P w K mg base 3 CP "fail" ["self"] (spFailG CP CT CF) := D.meX fun f fd F => by
  have nd := scParser_fail.nd
  have cl_Parser := PC.cl
  obtain ⟨f1, fd1, me_peek, b_peek, G_peek⟩ := C1.ex
  refine F.okX scParser_fail (fun vs H Q E h => ?_) (fun cdv A outer s H vs Q E hr h => ?_)
  · obtain ⟨z, L, n, s, a, t, rfl, _⟩ := h; rfl
  obtain ⟨z, L, n, sv, a, t, rfl, ⟨Aa, hp⟩, ht, q⟩ := h
  refine ⟨_, (pss_cons (ps_set (i := 1) nd rfl (Or.inl rfl) (pe_meth0 (pv 0) cl_Parser me_peek G_peek (hr.mono (by first | decide | omega)) b_peek .nil pass0))
 (pss_one (ps_raise rfl (takes_of rfl rfl rfl rfl) (pmk_ex EX_SyntaxFault (hr.mono (by first | decide | omega)) (by rfl) (pa_cons (pe_fldK (K := K) rfl (pv 1) rfl) (pa_cons (pe_fldK (K := K) rfl (pv 1) rfl) pa_nil)) (by decide))))), ?_⟩
  obtain ⟨tdx, hta⟩ := hp.ts _ (List.mem_of_getElem? ht)
  refine ⟨_, rfl, z.x, z.dx, _, rfl, hp.ob, gf_none (by decide +kernel), z, L, n, sv, a, t, rfl, ⟨Aa, hp⟩, ht, ?_⟩
  exact ⟨_, rfl, a, CT, tdx, _, _, rfl, hta, TC.cl, TC.nl, tk_line _ _ _ _, _, rfl, a, CT, tdx, _, _, rfl, hta, TC.cl, TC.nc, tk_column _ _ _ _, rfl, fun d H' w => q d H' w⟩
abbrev sParser_found : Stmt := inClass (topS 40) 3
theorem scParser_found : FnScope ["self", "reason", "token"] ["self", "reason", "token"] (defScope sParser_found) := ⟨rfl, rfl, rfl, by decide +kernel, rfl, by decide +kernel, by decide +kernel⟩
def spFoundG (CP CT : Addr) : Sp := fun vs H Q _ => ∃ (z : Pz) (L : List (Addr × Tk)) (n : Nat) (s : Ps) (a : Addr) (t : Tk) (why : Str), vs = [.ref z.x, .str why, .ref a] ∧ PG CP CT z L n s H ∧ (a, t) ∈ L ∧ s.fs.length ≤ 10000000 ∧ ∀ H', Wd z.mu H H' [] → PG CP CT z L n (s.bad t why) H' → Q .non H'
theorem me_foundG (D : MethAt K CP "found" "Parser.found" sParser_found ["self", "reason", "token"]) (T : Bi mg) (PC : ParCls K CP) (TC : TokCls K CT) : MeAt P w K mg base 1 CP "found" ["self", "reason", "token"] (spFoundG CP CT) := D.me fun f fd F => by
  have nd := scParser_found.nd
  refine F.ok scParser_found (fun vs H Q E h => ?_) (fun cdv A outer s H vs Q E hr h => ?_)
  · obtain ⟨z, L, n, s, a, t, why, rfl, _⟩ := h; rfl
  obtain ⟨z, L, n, sv, a, t, why, rfl, hp0, ht, hf, q⟩ := h
  obtain ⟨Aa, hp⟩ := id hp0
  refine ⟨_, (pss_one (ps_expr (pe_bmK (K := K) rfl PySem.F.plainAttrs_list PySem.F.slot_list_append PySem.F.type_list_append mt_append (pe_fldK (K := K) rfl (pv 0) rfl) (pa_cons (pe_tup (pa_cons (pe_fldK (K := K) rfl (pv 2) rfl) (pa_cons (pe_fldK (K := K) rfl (pv 2) rfl) (pa_cons (pe_callB (r := rLenS K) call_len_seq (by rfl) T.len PySem.boot_len (pa_cons (pe_fldK (K := K) rfl (pv 0) rfl) pa_nil)) (pa_cons (pv 1) pa_nil))))) pa_nil)))), ?_⟩
  obtain ⟨tdx, hta⟩ := hp.ts _ ht
  obtain ⟨fa, g1, g2, g3⟩ := hp0.setF t why
  refine ⟨_, rfl, z.x, CP, z.dx, _, _, rfl, hp.ob, PC.cl, PC.n3, gf_faults, .inl ⟨rfl, _, SqL.of g1⟩, ?_⟩
  refine ⟨_, rfl, a, CT, tdx, _, _, rfl, hta, TC.cl, TC.nl, tk_line _ _ _ _, _, rfl, a, CT, tdx, _, _, rfl, hta, TC.cl, TC.nc, tk_column _ _ _ _, ?_⟩
  refine ⟨_, rfl, z.x, CP, z.dx, _, _, rfl, hp.ob, PC.cl, PC.n3, gf_faults, z.fl, _, rfl, .inl (SqL.of g1), _, rfl, by show 4 ≤ sizeLine; decide, fun p hpn => ?_⟩
  have w1 := (Wd.refl H).new (.tup [.int t.l, .int t.c, .int ((fa.map V.ref).length : Nat), .str why]) hpn
  have g1' := w1.base _ _ (by simp) g1
  have hp1 := hp0.wd0 w1
  obtain ⟨fa', h1, h2, h3⟩ := hp1.setF t why
  have ef : fa' = fa := by
    rw [g1'] at h1
    injection h1 with h1
    injection h1 with h1
    exact (List.map_inj_right (fun _ _ e => by injection e)).mp h1.symm
  subst ef
  have hl : (fa'.map V.ref).length = sv.fs.length := by rw [List.length_map]; exact h2
  rw [hl] at w1 g1' h3 ⊢
  have h4 := h3 p (w1.get 0 rfl)
  rw [List.map_append] at h4
  refine ⟨z.fl, _, _, rfl, rfl, g1', by rw [hl]; exact Nat.lt_of_le_of_lt hf (by decide), ?_⟩
  refine q _ ?_ h4
  exact ((w1.sub (l' := []) (List.nil_sublist _)).mono (fun _ h => nomatch h)).fput (M := z.mu) _ (.inr (by simp [Pz.mu])) g1' (fun _ q => by cases q)
def spTakeG (CP CT CF : Addr) : Sp := fun vs H Q E => ∃ (z : Pz) (L : List (Addr × Tk)) (n : Nat) (s : Ps) (a : Addr) (t : Tk) (k : Str), vs = [.ref z.x, .str k] ∧ PG CP CT z L n s H ∧ L[n]? = some (a, t) ∧
  (t.k = k → ∀ H', Wd z.mu H H' [] → PG CP CT z L (n + 1) s H' → Q (.ref a) H') ∧ (t.k ≠ k → ∀ (d : Addr) (H' : Hp), Wd [] H H' [(d, synD t.l t.c)] → E (.ref CF) (some d) H')
theorem me_takeG (D : MethAt K CP "take" "Parser.take" sParser_take ["self", "kind"]) (PC : ParCls K CP) (TC : TokCls K CT) (C1 : MeAt P w K mg base 1 CP "peek" ["self"] (spPeekG CP CT)) (C2 : MeX P w K mg base 3 CP "fail" ["self"] (spFailG CP CT CF)) :
    MeX P w K mg base 4 CP "take" ["self", "kind"] (spTakeG CP CT CF) := D.meX fun f fd F => by
  have nd := scParser_take.nd
  have cl_Parser := PC.cl
  obtain ⟨f1, fd1, me_peek, b_peek, G_peek⟩ := C1.ex
  obtain ⟨f2, fd2, me_fail, b_fail, G_fail⟩ := C2.ex
  refine F.okX scParser_take (fun vs H Q E h => ?_) (fun cdv A outer s H vs Q E hr h => ?_)
  · obtain ⟨z, L, n, s, a, t, k, rfl, _⟩ := h; rfl
  obtain ⟨z, L, n, sv, a, t, k, rfl, hp0, ht, q1, q2⟩ := h
  obtain ⟨Aa, hp⟩ := id hp0
  refine ⟨_, (pss_cons (ps_set (i := 2) nd rfl (Or.inl rfl) (pe_meth0 (pv 0) cl_Parser me_peek G_peek (hr.mono (by first | decide | omega)) b_peek .nil pass0))
 (pss_cons (ps_if (pt_cmpR op_ne (pe_fldK (K := K) rfl (pv 2) rfl) (pv 1) (nomark _))
 (pss_one (ps_expr (pe_meth0 (pv 0) cl_Parser me_fail G_fail (hr.mono (by first | decide | omega)) b_fail .nil (passes_call (takes_of rfl rfl rfl rfl) (fun _ _ _ _ h => h)))))
 pss_nil)
 (pss_cons (ps_fldaug (pv 0) pe_int in_add)
 (pss_one (ps_ret (pv 2)))))), ?_⟩
  obtain ⟨tdx, hta⟩ := hp.ts _ (List.mem_of_getElem? ht)
  refine ⟨_, rfl, z.x, z.dx, _, rfl, hp.ob, gf_none (by decide +kernel), z, L, n, sv, a, t, rfl, hp0, ht, ?_⟩
  refine ⟨_, rfl, a, CT, tdx, _, _, rfl, hta, TC.cl, TC.nk, tk_kind _ _ _ _, _, rfl, rfl, _, rfl, ?_⟩
  by_cases hk : t.k = k
  · subst hk
    refine ite2 (fun h => absurd h (by simp)) (fun _ => ?_)
    obtain ⟨fs, f1, f2, f3, f4⟩ := hp0.setAt
    refine ⟨_, rfl, z.x, CP, z.dx, _, _, rfl, f1, PC.cl, PC.n2, f2, _, _, rfl, rfl, _, _, f1, (by rw [f3]; decide), ?_⟩
    rw [show (n : Int) + 1 = ((n + 1 : Nat) : Int) by omega]
    exact ⟨_, rfl, q1 rfl _ ((Wd.frefl _ _).fput _ (.inr (by simp [Pz.mu])) f1 (fun _ q => by cases q)) (f4 (n + 1))⟩
  · refine ite2 (fun _ => ?_) (fun h => absurd (by rw [decide_eq_false (fun e => hk (by injection e))]; rfl) h)
    exact ⟨_, rfl, z.x, z.dx, _, rfl, hp.ob, gf_none (by decide +kernel), z, L, n, sv, a, t, rfl, hp0, ht, q2 hk⟩
def spTakeWG (CP CT CF : Addr) : Sp := fun vs H Q E => ∃ (z : Pz) (L : List (Addr × Tk)) (n : Nat) (s : Ps) (a : Addr) (t : Tk) (k : Str), vs = [.ref z.x, .str k] ∧ PG CP CT z L n s H ∧ L[n]? = some (a, t) ∧
  (t.t = k → ∀ H', Wd z.mu H H' [] → PG CP CT z L (n + 1) s H' → Q .non H') ∧ (t.t ≠ k → ∀ (d : Addr) (H' : Hp), Wd [] H H' [(d, synD t.l t.c)] → E (.ref CF) (some d) H')
theorem me_takeWG (D : MethAt K CP "take_word" "Parser.take_word" sParser_take_word ["self", "word"]) (PC : ParCls K CP) (TC : TokCls K CT) (C1 : MeAt P w K mg base 1 CP "peek" ["self"] (spPeekG CP CT)) (C2 : MeX P w K mg base 3 CP "fail" ["self"] (spFailG CP CT CF)) :
    MeX P w K mg base 4 CP "take_word" ["self", "word"] (spTakeWG CP CT CF) := D.meX fun f fd F => by
  have nd := scParser_take_word.nd
  have cl_Parser := PC.cl
  obtain ⟨f1, fd1, me_peek, b_peek, G_peek⟩ := C1.ex
  obtain ⟨f2, fd2, me_fail, b_fail, G_fail⟩ := C2.ex
  refine F.okX scParser_take_word (fun vs H Q E h => ?_) (fun cdv A outer s H vs Q E hr h => ?_)
  · obtain ⟨z, L, n, s, a, t, k, rfl, _⟩ := h; rfl
  obtain ⟨z, L, n, sv, a, t, k, rfl, hp0, ht, q1, q2⟩ := h
  obtain ⟨Aa, hp⟩ := id hp0
  refine ⟨_, (pss_cons (ps_if (pt_cmpR op_ne (pe_fldK (K := K) rfl (pe_meth0 (pv 0) cl_Parser me_peek G_peek (hr.mono (by first | decide | omega)) b_peek .nil pass0) rfl) (pv 1) (nomark _))
 (pss_one (ps_expr (pe_meth0 (pv 0) cl_Parser me_fail G_fail (hr.mono (by first | decide | omega)) b_fail .nil (passes_call (takes_of rfl rfl rfl rfl) (fun _ _ _ _ h => h)))))
 pss_nil)
 (pss_one (ps_fldaug (pv 0) pe_int in_add))), ?_⟩
  obtain ⟨tdx, hta⟩ := hp.ts _ (List.mem_of_getElem? ht)
  refine ⟨_, rfl, z.x, z.dx, _, rfl, hp.ob, gf_none (by decide +kernel), z, L, n, sv, a, t, rfl, hp0, ht, ?_⟩
  refine ⟨a, CT, tdx, _, _, rfl, hta, TC.cl, TC.nt, tk_text _ _ _ _, _, rfl, rfl, _, rfl, ?_⟩
  by_cases hk : t.t = k
  · subst hk
    refine ite2 (fun h => absurd h (by simp)) (fun _ => ?_)
    obtain ⟨fs, f1, f2, f3, f4⟩ := hp0.setAt
    refine ⟨_, rfl, z.x, CP, z.dx, _, _, rfl, f1, PC.cl, PC.n2, f2, _, _, rfl, rfl, _, _, f1, (by rw [f3]; decide), ?_⟩
    rw [show (n : Int) + 1 = ((n + 1 : Nat) : Int) by omega]
    exact q1 rfl _ ((Wd.frefl _ _).fput _ (.inr (by simp [Pz.mu])) f1 (fun _ q => by cases q)) (f4 (n + 1))
  · refine ite2 (fun _ => ?_) (fun h => absurd (by rw [decide_eq_false (fun e => hk (by injection e))]; rfl) h)
    exact ⟨_, rfl, z.x, z.dx, _, rfl, hp.ob, gf_none (by decide +kernel), z, L, n, sv, a, t, rfl, hp0, ht, q2 hk⟩
end
end Br

namespace Br
open PySem PySem.Spec PyProof.Rows L2
/-! ### the grammar's pieces, as functions of what is left of the tokens -/
/-- what is left: it ends by the one end token -/
def EndOk (ts : List Tk) : Prop := ∃ (i : List Tk) (e : Tk), ts = i ++ [e] ∧ e.k = "end" ∧ e.t = ""
theorem EndOk.ne {ts : List Tk} (h : EndOk ts) : ∃ t r, ts = t :: r := by
  obtain ⟨i, e, rfl, _⟩ := h
  cases i with
  | nil => exact ⟨_, _, rfl⟩
  | cons a i => exact ⟨_, _, rfl⟩
theorem EndOk.tail {t : Tk} {r : List Tk} (h : EndOk (t :: r)) (n : t.k ≠ "end" ∨ t.t ≠ "") : EndOk r := by
  obtain ⟨i, e, h1, h2, h3⟩ := h
  cases i with
  | nil =>
    cases h1
    rcases n with n | n
    · exact absurd h2 n
    · exact absurd h3 n
  | cons a i => cases h1; exact ⟨i, e, rfl, h2, h3⟩
def wordF (w : Str) : List Tk → Except (Nat × Nat) (List Tk)
  | [] => .error (0, 0)
  | t :: r => if t.t = w then .ok r else .error (t.l, t.c)
def takeF (k : Str) : List Tk → Except (Nat × Nat) (Tk × List Tk)
  | [] => .error (0, 0)
  | t :: r => if t.k = k then .ok (t, r) else .error (t.l, t.c)
def withE (ts : List Tk) : Except (Nat × Nat) (List Tk) → Except (Nat × Nat) (List Tk × List Tk)
  | .error e => .error e
  | .ok r => .ok (ts, r)
def isK (k : Str) (t : Tk) : Bool := decide (t.k = k)
def allF (k : Str) : List Tk → Except (Nat × Nat) (List Tk × List Tk)
  | [] => .error (0, 0)
  | t :: r => if t.k = k then withE (t :: r.takeWhile (isK k)) (wordF ";" (r.dropWhile (isK k))) else .error (t.l, t.c)
/-- the n-th token on -/
def Rm (L : List (Addr × Tk)) (n : Nat) (ts : List Tk) : Prop := (L.map Prod.snd).drop n = ts
theorem Rm.cons {L : List (Addr × Tk)} {n : Nat} {t : Tk} {ts : List Tk} (h : Rm L n (t :: ts)) : (∃ a, L[n]? = some (a, t)) ∧ Rm L (n + 1) ts := by
  unfold Rm at h ⊢
  have e : (L.map Prod.snd)[n]? = some t := by
    have := congrArg (fun l => l[0]?) h
    simpa [List.getElem?_drop] using this
  rw [List.getElem?_map] at e
  refine ⟨?_, ?_⟩
  · cases hL : L[n]? with
    | none => rw [hL] at e; cases e
    | some q =>
      rw [hL] at e
      obtain ⟨a, b⟩ := q
      exact ⟨a, by cases e; rfl⟩
  · rw [← List.drop_drop, h]; rfl
theorem span_all {k : Str} {a : List Tk} {b : Tk} {c : List Tk} (ha : ∀ t ∈ a, t.k = k) (hb : b.k ≠ k) : (a ++ b :: c).takeWhile (isK k) = a ∧ (a ++ b :: c).dropWhile (isK k) = b :: c := by
  induction a with
  | nil => exact ⟨by rw [List.nil_append, List.takeWhile_cons, if_neg (by unfold isK; simpa using hb)], by rw [List.nil_append, List.dropWhile_cons, if_neg (by unfold isK; simpa using hb)]⟩
  | cons x a ih =>
    obtain ⟨i1, i2⟩ := ih fun t ht => ha t (List.mem_cons_of_mem _ ht)
    have hx : isK k x = true := decide_eq_true (ha x List.mem_cons_self)
    exact ⟨by rw [List.cons_append, List.takeWhile_cons, if_pos hx, i1], by rw [List.cons_append, List.dropWhile_cons, if_pos hx, i2]⟩
theorem Wd.pg {M : List Addr} {H0 H H' : Hp} (c : Wd M H0 H []) {d : Addr} {o : HO} (w : Wd [] H H' [(d, o)]) : Wd M H0 H' [(d, o)] := by
  have := c.call0 w
  rwa [List.append_nil] at this
section
variable {P : Program} {w : World} {K : PySem.W.Frag} {mg : Str → Option Value} {base : Heap} {CT CP CF : Addr}
def spAllG (CP CT CF : Addr) : Sp := fun vs H Q E => ∃ (z : Pz) (L : List (Addr × Tk)) (n : Nat) (s : Ps) (k : Str) (ts : List Tk), vs = [.ref z.x, .str k] ∧ PG CP CT z L n s H ∧ k ≠ "end" ∧ L.length ≤ 10000000 ∧ Rm L n ts ∧ EndOk ts ∧
  match allF k ts with
  | .ok (tk, rest) => ∀ H' p sub n', Wd z.mu H H' [] → PG CP CT z L n' s H' → Rm L n' rest → EndOk rest → H p = none → H' p = some (.lst (prefs sub)) → sub.map Prod.snd = tk → (∀ q ∈ sub, q ∈ L) → Q (.ref p) H'
  | .error e => ∀ (d : Addr) (H' : Hp), Wd z.mu H H' [(d, synD e.1 e.2)] → E (.ref CF) (some d) H'
theorem me_allG (D : MethAt K CP "take_all" "Parser.take_all" sParser_take_all ["self", "kind"]) (PC : ParCls K CP) (TC : TokCls K CT) (LC : LexC K mg) (C1 : MeAt P w K mg base 1 CP "peek" ["self"] (spPeekG CP CT))
    (C2 : MeX P w K mg base 4 CP "take" ["self", "kind"] (spTakeG CP CT CF)) (C3 : MeX P w K mg base 4 CP "take_word" ["self", "word"] (spTakeWG CP CT CF)) : MeX P w K mg base 5 CP "take_all" ["self", "kind"] (spAllG CP CT CF) := D.meX fun f fd F => by
  have nd := scParser_take_all.nd
  have cl_Parser := PC.cl
  obtain ⟨t1, c_END_SIGN⟩ := LC.END_SIGN
  obtain ⟨f1, fd1, me_peek, b_peek, G_peek⟩ := C1.ex
  obtain ⟨f2, fd2, me_take, b_take, G_take⟩ := C2.ex
  obtain ⟨f3, fd3, me_take_word, b_take_word, G_take_word⟩ := C3.ex
  refine F.okX scParser_take_all (fun vs H Q E h => ?_) (fun cdv A outer s H vs Q E hr h => ?_)
  · obtain ⟨z, L, n, s, k, ts, rfl, _⟩ := h; rfl
  obtain ⟨z, L, n, sv, k, ts, rfl, hp, hk, hll, hts, he, q⟩ := h
  refine ⟨_, (pss_cons (ps_set (i := 2) nd rfl (Or.inl rfl) (pe_lst (pa_cons (pe_meth (pv 0) cl_Parser me_take G_take (hr.mono (by first | decide | omega)) b_take .nil (passes_call (takes_of rfl rfl rfl rfl) (fun _ _ _ _ h => h)) (pa_cons (pv 1) pa_nil)) pa_nil)))
 (pss_cons (ps_while (passes_of rfl) (pt_cmpR op_eq (pe_fldK (K := K) rfl (pe_meth0 (pv 0) cl_Parser me_peek G_peek (hr.mono (by first | decide | omega)) b_peek .nil pass0) rfl) (pv 1) (nomark _))
 (pss_one (ps_expr (pe_bmK (K := K) rfl PySem.F.plainAttrs_list PySem.F.slot_list_append PySem.F.type_list_append mt_append (pv 2) (pa_cons (pe_meth (pv 0) cl_Parser me_take G_take (hr.mono (by first | decide | omega)) b_take .nil (passes_call (takes_of rfl rfl rfl rfl) (fun _ _ _ _ h => h)) (pa_cons (pv 1) pa_nil)) pa_nil)))))
 (pss_cons (ps_expr (pe_meth (pv 0) cl_Parser me_take_word G_take_word (hr.mono (by first | decide | omega)) b_take_word .nil (passes_call (takes_of rfl rfl rfl rfl) (fun _ _ _ _ h => h)) (pa_cons (pe_glob (v := .str ";") (by rfl) c_END_SIGN ⟨_, rfl⟩) pa_nil)))
 (pss_one (ps_ret (pv 2)))))), ?_⟩
  obtain ⟨t0, r0, rfl⟩ := he.ne
  obtain ⟨⟨a0, h0⟩, hts1⟩ := hts.cons
  have ob : ∀ {H' : Hp} {n' : Nat}, PG CP CT z L n' sv H' → ∃ fs, H' z.x = some (.ins CP z.dx fs) ∧ (∀ m : Str, (∀ f ∈ (["tokens", "at", "faults", "names", "weights", "makers", "aways"] : List Str), (m == f) = false) → fs.lookup m = none) := fun ⟨A, h⟩ => ⟨_, h.ob, fun m hm => gf_none hm⟩
  obtain ⟨fs, o1, o2⟩ := ob hp
  refine ⟨_, rfl, z.x, z.dx, _, rfl, o1, o2 _ (by decide +kernel), _, rfl, z, L, n, sv, a0, t0, k, rfl, hp, h0, fun hk0 H1 c1 hp1 => ?_, fun hk0 d H' w => ?_⟩
  rotate_left
  · have e : allF k (t0 :: r0) = .error (t0.l, t0.c) := if_neg hk0
    rw [e] at q
    exact q d H' (w.mono fun _ h => nomatch h)
  have hall : allF k (t0 :: r0) = withE (t0 :: r0.takeWhile (isK k)) (wordF ";" (r0.dropWhile (isK k))) := if_pos hk0
  rw [hall] at q
  have he1 := he.tail (.inl (by rw [hk0]; exact hk))
  refine ⟨(by show 1 ≤ sizeLine; decide), fun p hpn => ?_⟩
  have hpn0 := c1.free _ hpn
  refine while_by (fun σ H' => σ = [some (.ref z.x), some (.str k), some (.ref p)] ∧ ∃ (sub : List (Addr × Tk)) (n1 : Nat) (r1 : List Tk), Wd z.mu H H' [] ∧ PG CP CT z L n1 sv H' ∧ H' p = some (.lst (prefs sub)) ∧
      Rm L n1 r1 ∧ EndOk r1 ∧ sub.map Prod.snd ++ r1 = t0 :: r0 ∧ (∀ q ∈ sub, q.2.k = k) ∧ (∀ q ∈ sub, q ∈ L) ∧ sub ≠ []) (fun _ H' => r0.length + 1 - (match H' p with | some (.lst l) => l.length | _ => 0))
    ⟨rfl, [(a0, t0)], n + 1, r0, c1.fnew _ hpn, hp1.wd0 ((Wd.refl H1).new (.lst [V.ref a0]) hpn), upd_same, hts1, he1, rfl, (by intro q hq; rw [List.mem_singleton.mp hq]; exact hk0), (by intro q hq; rw [List.mem_singleton.mp hq]; exact List.mem_of_getElem? h0), by simp⟩ ?_ ?_
  · rintro σ H2 ⟨rfl, sub, n1, r1, c2, hp2, hsub, hr1, he2, hcat, hkk, hmem, hsn⟩
    have hpm : p ∉ z.mu ∧ p ≠ z.tk := by
      obtain ⟨A, hA⟩ := hp
      have nn : ∀ {b : Addr} {o : HO}, H b = some o → p ≠ b := fun e h => by rw [← h, hpn0] at e; cases e
      refine ⟨fun hm => ?_, nn hA.tk⟩
      simp only [Pz.mu, List.mem_cons, List.not_mem_nil, or_false] at hm
      rcases hm with h | h | h | h
      · exact nn hA.ob h
      · exact nn hA.fl h
      · exact nn hA.nl h
      · exact nn hA.al h
    have hl := congrArg List.length hcat
    rw [List.length_append, List.length_map, List.length_cons] at hl
    obtain ⟨t2, r2, rfl⟩ := he2.ne
    rw [List.length_cons] at hl
    obtain ⟨⟨a2, h2⟩, hr2⟩ := hr1.cons
    obtain ⟨A2, hA2⟩ := id hp2
    obtain ⟨tdx, hta⟩ := hA2.ts _ (List.mem_of_getElem? h2)
    refine ⟨_, rfl, z.x, z.dx, _, rfl, hA2.ob, gf_none (by decide +kernel), z, L, n1, sv, a2, t2, rfl, hp2, h2, a2, CT, tdx, _, _, rfl, hta, TC.cl, TC.nk, tk_kind _ _ _ _, _, rfl, rfl, _, rfl, ?_⟩
    by_cases hk2 : t2.k = k
    · refine ite2 (fun _ => ?_) (fun h => absurd (decide_eq_true (by rw [hk2])) h)
      refine ⟨_, rfl, .inl ⟨rfl, _, SqL.of hsub⟩, _, rfl, z.x, z.dx, _, rfl, hA2.ob, gf_none (by decide +kernel), _, rfl, z, L, n1, sv, a2, t2, k, rfl, hp2, h2, fun _ H3 c3 hp3 => ?_, fun h => absurd hk2 h⟩
      have hsub3 := c3.base _ _ hpm.1 hsub
      have hmu : p ∉ [z.tk, z.fl, z.nl, z.al] := by
        have := hpm.1
        simp only [Pz.mu, List.mem_cons, List.not_mem_nil, or_false, not_or] at this ⊢
        exact ⟨hpm.2, this.2.1, this.2.2.1, this.2.2.2⟩
      have hsl : sub.length + 1 ≤ 10000000 := by
        have hLl := congrArg List.length hts
        rw [List.length_drop, List.length_map, List.length_cons] at hLl
        omega
      refine ⟨p, _, _, rfl, rfl, hsub3, ?_, ⟨rfl, sub ++ [(a2, t2)], n1 + 1, r2, ?_, hp3.putL hsub3 hmu, ?_, hr2, he2.tail (.inl (by rw [hk2]; exact hk)), ?_, ?_, ?_, by simp⟩, ?_⟩
      · rw [prefs_len]; exact Nat.lt_of_lt_of_le (m := 10000001) (by omega) (by decide)
      · exact (c2.fgo c3).fput _ (.inl hpn0) hsub3 (fun _ q => by cases q)
      · have e : prefs (sub ++ [(a2, t2)]) = prefs sub ++ [.ref a2] := by simp [prefs]
        rw [upd_same, e]
      · rw [← hcat]; simp
      · intro q hq
        rcases List.mem_append.mp hq with hq | hq
        · exact hkk q hq
        · rw [List.mem_singleton.mp hq]; exact hk2
      · intro q hq
        rcases List.mem_append.mp hq with hq | hq
        · exact hmem q hq
        · rw [List.mem_singleton.mp hq]; exact List.mem_of_getElem? h2
      · show r0.length + 1 - (match upd H3 p _ p with | some (.lst l) => l.length | _ => 0) < _
        rw [upd_same, hsub]
        show r0.length + 1 - (prefs sub ++ [V.ref a2]).length < r0.length + 1 - (prefs sub).length
        rw [List.length_append, prefs_len]
        simp only [List.length_cons, List.length_nil]
        omega
    · refine ite2 (fun h => absurd (of_decide_eq_true h) (fun e => hk2 (by injection e))) (fun _ => ?_)
      obtain ⟨sub0, subr, rfl⟩ := List.exists_cons_of_ne_nil hsn
      have hc0 : sub0.2 = t0 ∧ subr.map Prod.snd ++ t2 :: r2 = r0 := by
        rw [List.map_cons, List.cons_append] at hcat
        injection hcat with e1 e2
        exact ⟨e1, e2⟩
      obtain ⟨sp1, sp2⟩ := span_all (k := k) (a := subr.map Prod.snd) (b := t2) (c := r2) (fun t ht => by
        obtain ⟨q, hq, rfl⟩ := List.mem_map.mp ht
        exact hkk q (List.mem_cons_of_mem _ hq)) hk2
      rw [← hc0.2, sp1, sp2] at q
      refine ⟨_, rfl, z.x, z.dx, _, rfl, hA2.ob, gf_none (by decide +kernel), z, L, n1, sv, a2, t2, ";", rfl, hp2, h2, fun hw H3 c3 hp3 => ?_, fun hw d H3 w3 => ?_⟩
      · have e : wordF ";" (t2 :: r2) = .ok r2 := if_pos hw
        rw [e] at q
        exact ⟨_, rfl, q H3 p (sub0 :: subr) (n1 + 1) (c2.fgo c3) hp3 hr2 (he2.tail (.inr (by rw [hw]; decide +kernel))) hpn0 (c3.base _ _ hpm.1 hsub) (by rw [List.map_cons, hc0.1]) hmem⟩
      · have e : wordF ";" (t2 :: r2) = .error (t2.l, t2.c) := if_neg hw
        rw [e] at q
        exact q d H3 (c2.pg w3)
  · intro σ H2 Q1 Q2 hm hc
    obtain ⟨v0, e0, a, dx', fs, ea, eo, en, z', L', n', s', a', t', e1, e2, e3, a'', C'', dx'', fs'', v'', g1, g2, g3, g4, g5, v1, e4, e5, b, hb, hc⟩ := hc
    exact ⟨v0, e0, a, dx', fs, ea, eo, en, z', L', n', s', a', t', e1, e2, e3, a'', C'', dx'', fs'', v'', g1, g2, g3, g4, g5, v1, e4, e5, b, hb, hm _ _ hc⟩
end
end Br

namespace Br
open PySem PySem.Spec PyProof.Rows L2
/-! ### persons, people -/
def ixOf (ns : List Str) (t : Str) : Nat := ns.findIdx fun y => decide (y = t)
def personF (s : Ps) (t : Tk) : Nat × Ps := if t.t ∈ s.names then (ixOf s.names t.t, s) else (0, s.bad t "unknown")
def peopleS (s : Ps) (t : Tk) : Ps := if t.t ∈ s.names then s.bad t "duplicate" else if s.names.length = 6 then s.bad t "people" else { s with names := s.names ++ [t.t] }
abbrev PR := Except (Nat × Nat) (Ps × List Tk)
def bindE {α β : Type} (f : α → Except (Nat × Nat) β) : Except (Nat × Nat) α → Except (Nat × Nat) β
  | .error e => .error e
  | .ok a => f a
def peopleF (s : Ps) (ts : List Tk) : PR := bindE (fun ts1 => bindE (fun p => .ok (p.1.foldl peopleS s, p.2)) (allF "name" ts1)) (wordF "people" ts)
/-- few faults, few tokens -/
def Few (s : Ps) (ts : List Tk) : Prop := s.fs.length + 3 * ts.length ≤ 30000
theorem ixOf_at {ns : List Str} {t : Str} (h : t ∈ ns) : ns[ixOf ns t]? = some t ∧ ∀ m, m < ixOf ns t → ns[m]? ≠ some t := by
  have hl : ixOf ns t < ns.length := List.findIdx_lt_length_of_exists ⟨t, h, decide_eq_true rfl⟩
  have e := List.findIdx_getElem (w := hl)
  have e2 : ns[ixOf ns t] = t := of_decide_eq_true e
  refine ⟨by rw [List.getElem?_eq_getElem hl, e2], fun m hm e3 => ?_⟩
  have hml : m < ns.length := by omega
  rw [List.getElem?_eq_getElem hml] at e3
  have := List.not_of_lt_findIdx (p := fun y => decide (y = t)) (xs := ns) (i := m) hm
  exact of_decide_eq_false this (Option.some.inj e3)
theorem wordF_no {w : Str} {t : Tk} {r : List Tk} (h : t.t ≠ w) : wordF w (t :: r) = .error (t.l, t.c) := if_neg h
theorem wordF_yes {w : Str} {t : Tk} {r : List Tk} (h : t.t = w) : wordF w (t :: r) = .ok r := if_pos h
theorem Wd.go2 {M : List Addr} {H0 H1 H2 : Hp} {l : List (Addr × HO)} (c : Wd M H0 H1 []) (w : Wd M H1 H2 l) : Wd M H0 H2 l :=
  ⟨fun b o hb e => w.base b o hb (c.base b o hb e), fun b xs e => w.tups b xs (c.tups b xs e), fun q hq => (w.own q hq).imp (c.free _) id, w.at_, w.nd, fun p e => c.free p (w.free p e)⟩
theorem PG.setN {CP CT : Addr} {z : Pz} {L : List (Addr × Tk)} {n : Nat} {s : Ps} {H : Hp} (h : PG CP CT z L n s H) (ns : List Str) : PG CP CT z L n { s with names := ns } (upd H z.nl (.lst (ns.map V.str))) := by
  obtain ⟨A, h⟩ := h
  refine ⟨A, ?_⟩
  have hn := h.ne
  simp only [List.nodup_cons, List.mem_cons, List.not_mem_nil, or_false, not_or] at hn
  have k : ∀ {b : Addr} {u : HO}, H b = some u → b ≠ z.nl → upd H z.nl (.lst (ns.map V.str)) b = some u := fun e n => by rw [upd_ne n]; exact e
  have k2 : ∀ {b : Addr} {u : HO}, H b = some u → (∀ xs, u ≠ .lst xs) → upd H z.nl (.lst (ns.map V.str)) b = some u := fun e n => k e (ne_of e h.nl (n _))
  refine ⟨k2 h.ob (fun _ q => by cases q), k h.tk hn.2.1.2.1, fun q hq => ?_, k h.fl hn.2.2.1.1, h.fn, fun i a f e1 e2 => k2 (h.ft i a f e1 e2) (fun _ q => by cases q), upd_same, k h.al (Ne.symm hn.2.2.2.1), h.aw.keep fun b xs e => k2 e (fun _ q => by cases q), fun l e => k2 (h.w l e) (fun _ q => by cases q), fun l e => k2 (h.m l e) (fun _ q => by cases q), h.ne, h.cn⟩
  obtain ⟨dx, e⟩ := h.ts q hq
  exact ⟨dx, k2 e (fun _ q => by cases q)⟩
/-- a new list is none of the parser's -/
theorem PG.out {CP CT : Addr} {z : Pz} {L : List (Addr × Tk)} {n : Nat} {s : Ps} {H : Hp} (h : PG CP CT z L n s H) {p : Addr} (hp : H p = none) : p ∉ z.mu ∧ p ∉ [z.tk, z.fl, z.nl, z.al] := by
  obtain ⟨A, hA⟩ := h
  have nn : ∀ {b : Addr} {o : HO}, H b = some o → p ≠ b := fun e h => by rw [← h, hp] at e; cases e
  refine ⟨fun hm => ?_, fun hm => ?_⟩
  · simp only [Pz.mu, List.mem_cons, List.not_mem_nil, or_false] at hm
    rcases hm with h | h | h | h
    · exact nn hA.ob h
    · exact nn hA.fl h
    · exact nn hA.nl h
    · exact nn hA.al h
  · simp only [List.mem_cons, List.not_mem_nil, or_false] at hm
    rcases hm with h | h | h | h
    · exact nn hA.tk h
    · exact nn hA.fl h
    · exact nn hA.nl h
    · exact nn hA.al h
theorem peopleS_few (s : Ps) (t : Tk) : (peopleS s t).fs.length ≤ s.fs.length + 1 ∧ (s.names.length ≤ 6 → (peopleS s t).names.length ≤ 6) := by
  unfold peopleS
  split
  · exact ⟨by show (s.fs ++ [_]).length ≤ _; rw [List.length_append]; exact Nat.le_refl _, id⟩
  · split
    · exact ⟨by show (s.fs ++ [_]).length ≤ _; rw [List.length_append]; exact Nat.le_refl _, id⟩
    · rename_i h
      exact ⟨Nat.le_succ _, fun h6 => by show (s.names ++ [t.t]).length ≤ 6; rw [List.length_append]; simp only [List.length_cons, List.length_nil]; omega⟩
theorem people_few : ∀ (ts : List Tk) (s : Ps), (ts.foldl peopleS s).fs.length ≤ s.fs.length + ts.length ∧ (s.names.length ≤ 6 → (ts.foldl peopleS s).names.length ≤ 6)
  | [], s => ⟨Nat.le_refl _, id⟩
  | t :: ts, s => by
    obtain ⟨h1, h2⟩ := people_few ts (peopleS s t)
    obtain ⟨g1, g2⟩ := peopleS_few s t
    refine ⟨?_, fun h => h2 (g2 h)⟩
    rw [List.foldl_cons, List.length_cons]; omega
theorem allF_len {k : Str} {ts tk rest : List Tk} (h : allF k ts = .ok (tk, rest)) : tk.length + rest.length + 1 = ts.length := by
  cases ts with
  | nil => cases h
  | cons t r =>
    have h : (if t.k = k then withE (t :: r.takeWhile (isK k)) (wordF ";" (r.dropWhile (isK k))) else .error (t.l, t.c)) = .ok (tk, rest) := h
    split at h
    · have e : r.takeWhile (isK k) ++ r.dropWhile (isK k) = r := List.takeWhile_append_dropWhile
      cases hd : r.dropWhile (isK k) with
      | nil => rw [hd] at h; cases h
      | cons u v =>
        rw [hd] at h
        by_cases hu : u.t = ";"
        · rw [wordF_yes hu] at h
          cases h
          have := congrArg List.length e
          rw [List.length_append, hd] at this
          simp only [List.length_cons] at this ⊢
          omega
        · rw [wordF_no hu] at h; cases h
    · cases h
section
variable {P : Program} {w : World} {K : PySem.W.Frag} {mg : Str → Option Value} {base : Heap} {CT CP CF : Addr}
def spPersonG (CP CT : Addr) : Sp := fun vs H Q _ => ∃ (z : Pz) (L : List (Addr × Tk)) (n : Nat) (s : Ps) (a : Addr) (t : Tk), vs = [.ref z.x, .ref a] ∧ PG CP CT z L n s H ∧ (a, t) ∈ L ∧ s.fs.length ≤ 100000 ∧
  ∀ H', Wd z.mu H H' [] → PG CP CT z L n (personF s t).2 H' → Q (.int ((personF s t).1 : Nat)) H'
theorem me_personG (D : MethAt K CP "person" "Parser.person" sParser_person ["self", "token"]) (PC : ParCls K CP) (TC : TokCls K CT) (C1 : MeAt P w K mg base 1 CP "found" ["self", "reason", "token"] (spFoundG CP CT)) : MeAt P w K mg base 2 CP "person" ["self", "token"] (spPersonG CP CT) := D.me fun f fd F => by
  have nd := scParser_person.nd
  have cl_Parser := PC.cl
  obtain ⟨f1, fd1, me_found, b_found, G_found⟩ := C1.ex
  refine F.ok scParser_person (fun vs H Q E h => ?_) (fun cdv A outer s H vs Q E hr h => ?_)
  · obtain ⟨z, L, n, s, a, t, rfl, _⟩ := h; rfl
  obtain ⟨z, L, n, sv, a, t, rfl, hp0, ht, hf, q⟩ := h
  obtain ⟨Aa, hp⟩ := id hp0
  refine ⟨_, (pss_cons (ps_if (pt_cmpR (r := rIn K false) op_in_seq (pe_fldK (K := K) rfl (pv 1) rfl) (pe_fldK (K := K) rfl (pv 0) rfl) (by rfl))
 (pss_one (ps_ret (pe_bmK (K := K) rfl PySem.F.plainAttrs_list PySem.F.slot_list_index PySem.F.type_list_index mt_index (pe_fldK (K := K) rfl (pv 0) rfl) (pa_cons (pe_fldK (K := K) rfl (pv 1) rfl) pa_nil))))
 pss_nil)
 (pss_cons (ps_expr (pe_meth (pv 0) cl_Parser me_found G_found (hr.mono (by first | decide | omega)) b_found .nil pass0 (pa_cons pe_str (pa_cons (pv 1) pa_nil))))
 (pss_one (ps_ret pe_int)))), ?_⟩
  obtain ⟨tdx, hta⟩ := hp.ts _ ht
  refine ⟨_, rfl, a, CT, tdx, _, _, rfl, hta, TC.cl, TC.nt, tk_text _ _ _ _, _, rfl, z.x, CP, z.dx, _, _, rfl, hp.ob, PC.cl, PC.n4, gf_names, z.nl, sv.names.map V.str, rfl, .inl (SqL.of hp.nl), rfl, flat_strs' _, _, rfl, ?_⟩
  rw [if_neg Bool.false_ne_true, inV_strs]
  by_cases hm : t.t ∈ sv.names
  · have e : personF sv t = (ixOf sv.names t.t, sv) := if_pos hm
    rw [e] at q
    refine ite2 (fun _ => ?_) (fun h => absurd (decide_eq_true hm) h)
    obtain ⟨i1, i2⟩ := ixOf_at hm
    refine ⟨_, rfl, z.x, CP, z.dx, _, _, rfl, hp.ob, PC.cl, PC.n4, gf_names, .inl ⟨rfl, _, SqL.of hp.nl⟩, _, rfl, a, CT, tdx, _, _, rfl, hta, TC.cl, TC.nt, tk_text _ _ _ _, ?_⟩
    refine ⟨z.nl, sv.names.map V.str, .str t.t, ixOf sv.names t.t, .str t.t, rfl, rfl, SqL.of hp.nl, rfl, flat_strs' _, by rw [List.getElem?_map, i1]; rfl, by rw [eqV_str]; exact decide_eq_true rfl, fun m z' hm hz' => ?_, q _ (Wd.frefl _ _) hp0⟩
    rw [List.getElem?_map] at hz'
    cases e : sv.names[m]? with
    | none => rw [e] at hz'; cases hz'
    | some y =>
      rw [e] at hz'
      cases hz'
      rw [eqV_str, decide_eq_false_iff_not]
      rintro rfl
      exact i2 m hm e
  · have e : personF sv t = (0, sv.bad t "unknown") := if_neg hm
    rw [e] at q
    refine ite2 (fun h => absurd (of_decide_eq_true h) hm) (fun _ => ?_)
    exact ⟨_, rfl, z.x, z.dx, _, rfl, hp.ob, gf_none (by decide +kernel), _, rfl, z, L, n, sv, a, t, "unknown", rfl, hp0, ht, Nat.le_trans hf (by decide), fun H' w' hp' => q H' w' hp'⟩
def spPeopleG (CP CT CF : Addr) : Sp := fun vs H Q E => ∃ (z : Pz) (L : List (Addr × Tk)) (n : Nat) (s : Ps) (ts : List Tk), vs = [.ref z.x] ∧ PG CP CT z L n s H ∧ L.length ≤ 10000 ∧ Rm L n ts ∧ EndOk ts ∧ Few s ts ∧ s.names.length ≤ 6 ∧
  match peopleF s ts with
  | .ok (s', rest) => ∀ H' n', Wd z.mu H H' [] → PG CP CT z L n' s' H' → Rm L n' rest → EndOk rest → Q .non H'
  | .error e => ∀ (d : Addr) (H' : Hp), Wd z.mu H H' [(d, synD e.1 e.2)] → E (.ref CF) (some d) H'
theorem me_peopleG (D : MethAt K CP "parse_people" "Parser.parse_people" sParser_parse_people ["self"]) (T : Bi mg) (PC : ParCls K CP) (TC : TokCls K CT) (LC : LexC K mg) (hMP : ∃ t, mg "MAX_PEOPLE" = some (.int 6 t)) (C1 : MeX P w K mg base 4 CP "take_word" ["self", "word"] (spTakeWG CP CT CF))
    (C2 : MeX P w K mg base 5 CP "take_all" ["self", "kind"] (spAllG CP CT CF)) (C3 : MeAt P w K mg base 1 CP "found" ["self", "reason", "token"] (spFoundG CP CT)) : MeX P w K mg base 6 CP "parse_people" ["self"] (spPeopleG CP CT CF) := D.meX fun f fd F => by
  have nd := scParser_parse_people.nd
  have cl_Parser := PC.cl
  obtain ⟨t1, c_NAME⟩ := LC.NAME
  obtain ⟨t2, c_MAX_PEOPLE⟩ := hMP
  obtain ⟨f1, fd1, me_take_word, b_take_word, G_take_word⟩ := C1.ex
  obtain ⟨f2, fd2, me_take_all, b_take_all, G_take_all⟩ := C2.ex
  obtain ⟨f3, fd3, me_found, b_found, G_found⟩ := C3.ex
  refine F.okX scParser_parse_people (fun vs H Q E h => ?_) (fun cdv A outer s H vs Q E hr h => ?_)
  · obtain ⟨z, L, n, s, ts, rfl, _⟩ := h; rfl
  obtain ⟨z, L, n, sv, ts, rfl, hp, hll, hts, he, hfew, hn6, q⟩ := h
  refine ⟨_, (pss_cons (ps_expr (pe_meth (pv 0) cl_Parser me_take_word G_take_word (hr.mono (by first | decide | omega)) b_take_word .nil (passes_call (takes_of rfl rfl rfl rfl) (fun _ _ _ _ h => h)) (pa_cons pe_str pa_nil)))
 (pss_one (ps_for (passes_of rfl) rfl (pi_listK (K := K) rfl (pe_meth (pv 0) cl_Parser me_take_all G_take_all (hr.mono (by first | decide | omega)) b_take_all .nil (passes_call (takes_of rfl rfl rfl rfl) (fun _ _ _ _ h => h)) (pa_cons (pe_glob (v := .str "name") (by rfl) c_NAME ⟨_, rfl⟩) pa_nil))) (pg_name (i := 1) nd rfl (Or.inl rfl))
 (pss_one (ps_if (pt_cmpR (r := rIn K false) op_in_seq (pe_fldK (K := K) rfl (pv 1) rfl) (pe_fldK (K := K) rfl (pv 0) rfl) (by rfl))
 (pss_one (ps_expr (pe_meth (pv 0) cl_Parser me_found G_found (hr.mono (by first | decide | omega)) b_found .nil pass0 (pa_cons pe_str (pa_cons (pv 1) pa_nil)))))
 (pss_one (ps_if (pt_cmpR op_eq (pe_callB (r := rLenS K) call_len_seq (by rfl) T.len PySem.boot_len (pa_cons (pe_fldK (K := K) rfl (pv 0) rfl) pa_nil)) (pe_glob (v := .int 6) (by rfl) c_MAX_PEOPLE ⟨_, rfl⟩) (nomark _))
 (pss_one (ps_expr (pe_meth (pv 0) cl_Parser me_found G_found (hr.mono (by first | decide | omega)) b_found .nil pass0 (pa_cons pe_str (pa_cons (pv 1) pa_nil)))))
 (pss_one (ps_expr (pe_bmK (K := K) rfl PySem.F.plainAttrs_list PySem.F.slot_list_append PySem.F.type_list_append mt_append (pe_fldK (K := K) rfl (pv 0) rfl) (pa_cons (pe_fldK (K := K) rfl (pv 1) rfl) pa_nil))))))))))), ?_⟩
  obtain ⟨t0, r0, rfl⟩ := he.ne
  obtain ⟨⟨a0, h0⟩, hts1⟩ := hts.cons
  obtain ⟨A0, hA0⟩ := id hp
  refine ⟨_, rfl, z.x, z.dx, _, rfl, hA0.ob, gf_none (by decide +kernel), z, L, n, sv, a0, t0, "people", rfl, hp, h0, fun hw H1 c1 hp1 => ?_, fun hw d H1 w1 => ?_⟩
  rotate_left
  · have e : peopleF sv (t0 :: r0) = .error (t0.l, t0.c) := by
      unfold peopleF
      rw [wordF_no hw]; rfl
    rw [e] at q
    exact q d H1 (w1.mono fun _ h => nomatch h)
  have e0 : peopleF sv (t0 :: r0) = bindE (fun p => .ok (p.1.foldl peopleS sv, p.2)) (allF "name" r0) := by
    unfold peopleF
    rw [wordF_yes hw]; rfl
  rw [e0] at q
  have he1 := he.tail (.inr (by rw [hw]; decide +kernel))
  obtain ⟨A1, hA1⟩ := id hp1
  refine ⟨_, rfl, z.x, z.dx, _, rfl, hA1.ob, gf_none (by decide +kernel), z, L, n + 1, sv, "name", r0, rfl, hp1, by decide +kernel, Nat.le_trans hll (by decide), hts1, he1, ?_⟩
  cases hal : allF "name" r0 with
  | error e =>
    rw [hal] at q
    exact fun d H2 w2 => q d H2 (c1.go2 w2)
  | ok pr =>
  obtain ⟨tk, rest⟩ := pr
  rw [hal] at q
  intro H2 p sub n2 c2 hp2 hr2 he2 hpn hsub hmap hmem
  have hlen := allF_len hal
  have hfew' : sv.fs.length + 3 * (r0.length + 1) ≤ 30000 := hfew
  obtain ⟨po1, po2⟩ := hp1.out hpn
  have hsl : (prefs sub).length = tk.length := by rw [prefs_len, ← hmap, List.length_map]
  refine ⟨p, rfl, ⟨_, SqL.of hsub⟩, ?_⟩
  refine for_it (walk_list (xs := prefs sub)) (fun i σ H' => (∃ b, σ = [some (.ref z.x), b]) ∧ Wd z.mu H H' [] ∧ PG CP CT z L n2 ((tk.take i).foldl peopleS sv) H' ∧ H' p = some (.lst (prefs sub))) ?_ ?_ ?_ ?_
  · exact ⟨⟨_, rfl⟩, c1.fgo c2, hp2, hsub⟩
  · rintro i σ H' _ ⟨_, _, _, h⟩
    exact SqL.of h
  · rintro i x σ H3 H3' hi ⟨⟨b, rfl⟩, c3, hp3, hs3⟩ ⟨rfl, hx⟩
    obtain ⟨a, t, rfl, ht, hm⟩ : ∃ a t, x = V.ref a ∧ tk[i]? = some t ∧ (a, t) ∈ sub := by
      unfold prefs at hx
      rw [List.getElem?_map] at hx
      obtain ⟨⟨a, t⟩, h1, h2⟩ := Option.map_eq_some_iff.mp hx
      exact ⟨a, t, h2.symm, by rw [← hmap, List.getElem?_map, h1]; rfl, List.mem_of_getElem? h1⟩
    have hil : i < tk.length := (List.getElem?_eq_some_iff.mp ht).1
    have hstep : (tk.take (i + 1)).foldl peopleS sv = peopleS ((tk.take i).foldl peopleS sv) t := by rw [take_more ht, List.foldl_append]; rfl
    obtain ⟨k1, k2⟩ := people_few (tk.take i) sv
    have k1' : ((tk.take i).foldl peopleS sv).fs.length ≤ 30000 := by
      rw [List.length_take] at k1; omega
    have k6 := k2 hn6
    generalize (tk.take i).foldl peopleS sv = si at hp3 hstep k1' k6
    obtain ⟨A3, hA3⟩ := id hp3
    obtain ⟨tdx, hta⟩ := hA3.ts _ (hmem _ hm)
    refine ⟨_, rfl, a, CT, tdx, _, _, rfl, hta, TC.cl, TC.nt, tk_text _ _ _ _, _, rfl, z.x, CP, z.dx, _, _, rfl, hA3.ob, PC.cl, PC.n4, gf_names, z.nl, si.names.map V.str, rfl, .inl (SqL.of hA3.nl), rfl, flat_strs' _, _, rfl, ?_⟩
    rw [if_neg Bool.false_ne_true, inV_strs]
    have fin : ∀ why : Str, peopleS si t = si.bad t why → ∀ H4, Wd z.mu H3' H4 [] → PG CP CT z L n2 (si.bad t why) H4 → (∃ b, [some (V.ref z.x), some (V.ref a)] = [some (V.ref z.x), b]) ∧ Wd z.mu H H4 [] ∧ PG CP CT z L n2 ((tk.take (i + 1)).foldl peopleS sv) H4 ∧ H4 p = some (.lst (prefs sub)) := fun why e H4 w4 hp4 =>
      ⟨⟨_, rfl⟩, c3.fgo w4, by rw [hstep, e]; exact hp4, w4.base _ _ po1 hs3⟩
    by_cases hmm : t.t ∈ si.names
    · have e : peopleS si t = si.bad t "duplicate" := if_pos hmm
      refine ite2 (fun _ => ?_) (fun h => absurd (decide_eq_true hmm) h)
      exact ⟨_, rfl, z.x, z.dx, _, rfl, hA3.ob, gf_none (by decide +kernel), _, rfl, z, L, n2, si, a, t, "duplicate", rfl, hp3, hmem _ hm, Nat.le_trans k1' (by decide), fun H4 w4 hp4 => fin _ e H4 w4 hp4⟩
    refine ite2 (fun h => absurd (of_decide_eq_true h) hmm) (fun _ => ?_)
    refine ⟨_, rfl, z.x, CP, z.dx, _, _, rfl, hA3.ob, PC.cl, PC.n4, gf_names, z.nl, _, rfl, .inl (SqL.of hA3.nl), rfl, _, rfl, ?_⟩
    by_cases h6 : si.names.length = 6
    · have e : peopleS si t = si.bad t "people" := by unfold peopleS; rw [if_neg hmm, if_pos h6]
      refine ite2 (fun _ => ?_) (fun h => absurd (decide_eq_true (by rw [List.length_map, h6]; rfl)) h)
      exact ⟨_, rfl, z.x, z.dx, _, rfl, hA3.ob, gf_none (by decide +kernel), _, rfl, z, L, n2, si, a, t, "people", rfl, hp3, hmem _ hm, Nat.le_trans k1' (by decide), fun H4 w4 hp4 => fin _ e H4 w4 hp4⟩
    · have e : peopleS si t = { si with names := si.names ++ [t.t] } := by unfold peopleS; rw [if_neg hmm, if_neg h6]
      refine ite2 (fun h => absurd (of_decide_eq_true h) (fun e => h6 (by rw [List.length_map] at e; injection e with e; omega))) (fun _ => ?_)
      refine ⟨_, rfl, z.x, CP, z.dx, _, _, rfl, hA3.ob, PC.cl, PC.n4, gf_names, .inl ⟨rfl, _, SqL.of hA3.nl⟩, _, rfl, a, CT, tdx, _, _, rfl, hta, TC.cl, TC.nt, tk_text _ _ _ _, ?_⟩
      have en : si.names.map V.str ++ [V.str t.t] = (si.names ++ [t.t]).map V.str := by rw [List.map_append]; rfl
      refine ⟨z.nl, _, _, rfl, rfl, hA3.nl, ?_, ⟨_, rfl⟩, ?_, ?_, ?_⟩
      · rw [List.length_map]; exact Nat.lt_of_lt_of_le (m := 100) (by omega) (by decide)
      · exact c3.fput _ (.inr (by simp [Pz.mu])) hA3.nl (fun _ q => by cases q)
      · rw [hstep, e, en]; exact hp3.setN _
      · have hne : p ≠ z.nl := fun e => po1 (by rw [e]; simp [Pz.mu])
        rw [upd_ne hne]; exact hs3
  · rintro σ H3 ⟨⟨b, rfl⟩, c3, hp3, hs3⟩
    rw [hsl, List.take_length] at hp3
    exact q H3 n2 c3 hp3 hr2 he2
end
end Br

namespace Br
open PySem PySem.Spec PyProof.Rows L2
/-! ### the turns -/
def turnS (p : Ps × List Nat) (t : Tk) : Ps × List Nat := (if p.2.length = 12 then (personF p.1 t).2.bad t "turns" else (personF p.1 t).2, p.2 ++ [(personF p.1 t).1])
def missF (start : Tk) (p : Ps × List Nat) : Ps := if (List.range p.1.names.length).any (fun k => !decide (k ∈ p.2)) then p.1.bad start "missing" else p.1
def turnsF (s : Ps) (ts : List Tk) : Except (Nat × Nat) ((Ps × List Nat) × List Tk) :=
  match ts with
  | [] => .error (0, 0)
  | st :: _ => bindE (fun ts1 => bindE (fun p => .ok ((missF st (p.1.foldl turnS (s, [])), (p.1.foldl turnS (s, [])).2), p.2)) (allF "name" ts1)) (wordF "turns" ts)
theorem personF_few (s : Ps) (t : Tk) : (personF s t).2.fs.length ≤ s.fs.length + 1 ∧ (personF s t).2.names = s.names ∧ (s.names ≠ [] → (personF s t).1 < s.names.length) := by
  unfold personF
  split
  · rename_i h
    exact ⟨Nat.le_succ _, rfl, fun _ => (List.getElem?_eq_some_iff.mp (ixOf_at h).1).1⟩
  · refine ⟨by show (s.fs ++ [_]).length ≤ _; rw [List.length_append]; exact Nat.le_refl _, rfl, fun h => ?_⟩
    cases hn : s.names with
    | nil => exact absurd hn h
    | cons a l => exact Nat.succ_pos _
theorem bad_len (s : Ps) (t : Tk) (w : Str) : (s.bad t w).fs.length = s.fs.length + 1 := by
  show (s.fs ++ [_]).length = _
  rw [List.length_append]; rfl
theorem turnS_few (p : Ps × List Nat) (t : Tk) : (turnS p t).1.fs.length ≤ p.1.fs.length + 2 ∧ (turnS p t).1.names = p.1.names ∧ (turnS p t).2.length = p.2.length + 1 := by
  obtain ⟨h1, h2, _⟩ := personF_few p.1 t
  unfold turnS
  refine ⟨?_, ?_, by rw [List.length_append]; rfl⟩
  · dsimp only
    split
    · rw [bad_len]; omega
    · omega
  · dsimp only
    split
    · exact h2
    · exact h2
theorem turn_few : ∀ (ts : List Tk) (p : Ps × List Nat), (ts.foldl turnS p).1.fs.length ≤ p.1.fs.length + 2 * ts.length ∧ (ts.foldl turnS p).1.names = p.1.names ∧ (ts.foldl turnS p).2.length = p.2.length + ts.length
  | [], p => ⟨Nat.le_refl _, rfl, rfl⟩
  | t :: ts, p => by
    obtain ⟨h1, h2, h3⟩ := turn_few ts (turnS p t)
    obtain ⟨g1, g2, g3⟩ := turnS_few p t
    refine ⟨?_, h2.trans g2, ?_⟩
    · rw [List.foldl_cons, List.length_cons]; omega
    · rw [List.foldl_cons, List.length_cons]; omega
section
variable {P : Program} {w : World} {K : PySem.W.Frag} {mg : Str → Option Value} {base : Heap} {CT CP CF : Addr}
def spTurnsG (CP CT CF : Addr) : Sp := fun vs H Q E => ∃ (z : Pz) (L : List (Addr × Tk)) (n : Nat) (s : Ps) (ts : List Tk), vs = [.ref z.x] ∧ PG CP CT z L n s H ∧ L.length ≤ 10000 ∧ Rm L n ts ∧ EndOk ts ∧ Few s ts ∧ s.names.length ≤ 6 ∧
  match turnsF s ts with
  | .ok ((s', js), rest) => ∀ H' n' r, Wd z.mu H H' [] → PG CP CT z L n' s' H' → Rm L n' rest → EndOk rest → H' r = some (.tup (js.map fun j : Nat => V.int j)) → Q (.ref r) H'
  | .error e => ∀ (d : Addr) (H' : Hp), Wd z.mu H H' [(d, synD e.1 e.2)] → E (.ref CF) (some d) H'
theorem me_turnsG (D : MethAt K CP "parse_turns" "Parser.parse_turns" sParser_parse_turns ["self"]) (T : Bi mg) (PC : ParCls K CP) (TC : TokCls K CT) (LC : LexC K mg) (hMP : ∃ t, mg "MAX_TURNS" = some (.int 12 t))
    (C0 : MeAt P w K mg base 1 CP "peek" ["self"] (spPeekG CP CT)) (C1 : MeX P w K mg base 4 CP "take_word" ["self", "word"] (spTakeWG CP CT CF)) (C2 : MeX P w K mg base 5 CP "take_all" ["self", "kind"] (spAllG CP CT CF))
    (C3 : MeAt P w K mg base 2 CP "person" ["self", "token"] (spPersonG CP CT)) (C4 : MeAt P w K mg base 1 CP "found" ["self", "reason", "token"] (spFoundG CP CT)) : MeX P w K mg base 6 CP "parse_turns" ["self"] (spTurnsG CP CT CF) := D.meX fun f fd F => by
  have nd := scParser_parse_turns.nd
  have cl_Parser := PC.cl
  obtain ⟨t1, c_NAME⟩ := LC.NAME
  obtain ⟨t2, c_MAX_TURNS⟩ := hMP
  obtain ⟨f0, fd0, me_peek, b_peek, G_peek⟩ := C0.ex
  obtain ⟨f1, fd1, me_take_word, b_take_word, G_take_word⟩ := C1.ex
  obtain ⟨f2, fd2, me_take_all, b_take_all, G_take_all⟩ := C2.ex
  obtain ⟨f3, fd3, me_person, b_person, G_person⟩ := C3.ex
  obtain ⟨f4, fd4, me_found, b_found, G_found⟩ := C4.ex
  refine F.okX scParser_parse_turns (fun vs H Q E h => ?_) (fun cdv A outer s H vs Q E hr h => ?_)
  · obtain ⟨z, L, n, s, ts, rfl, _⟩ := h; rfl
  obtain ⟨z, L, n, sv, ts, rfl, hp, hll, hts, he, hfew, hn6, q⟩ := h
  refine ⟨_, (pss_cons (ps_set (i := 1) nd rfl (Or.inl rfl) (pe_meth0 (pv 0) cl_Parser me_peek G_peek (hr.mono (by first | decide | omega)) b_peek .nil pass0))
 (pss_cons (ps_expr (pe_meth (pv 0) cl_Parser me_take_word G_take_word (hr.mono (by first | decide | omega)) b_take_word .nil (passes_call (takes_of rfl rfl rfl rfl) (fun _ _ _ _ h => h)) (pa_cons pe_str pa_nil)))
 (pss_cons (ps_set (i := 2) nd rfl (Or.inr rfl) (pe_lst pa_nil))
 (pss_cons (ps_for (passes_of rfl) rfl (pi_enum (by rfl) T.enumerate (pa_cons (pe_meth (pv 0) cl_Parser me_take_all G_take_all (hr.mono (by first | decide | omega)) b_take_all .nil (passes_call (takes_of rfl rfl rfl rfl) (fun _ _ _ _ h => h)) (pa_cons (pe_glob (v := .str "name") (by rfl) c_NAME ⟨_, rfl⟩) pa_nil)) pa_nil)) (pg_tupK (K := K) (n := 2) rfl rfl (pgs_cons (pg_name (i := 3) nd rfl (Or.inl rfl)) (pgs_cons (pg_name (i := 4) nd rfl (Or.inl rfl)) pgs_nil)))
 (pss_cons (ps_expr (pe_bmK (K := K) rfl PySem.F.plainAttrs_list PySem.F.slot_list_append PySem.F.type_list_append mt_append (pv 2) (pa_cons (pe_meth (pv 0) cl_Parser me_person G_person (hr.mono (by first | decide | omega)) b_person .nil pass0 (pa_cons (pv 4) pa_nil)) pa_nil)))
 (pss_one (ps_if (pt_cmpR op_eq (pv 3) (pe_glob (v := .int 12) (by rfl) c_MAX_TURNS ⟨_, rfl⟩) (nomark _))
 (pss_one (ps_expr (pe_meth (pv 0) cl_Parser me_found G_found (hr.mono (by first | decide | omega)) b_found .nil pass0 (pa_cons pe_str (pa_cons (pv 4) pa_nil)))))
 pss_nil))))
 (C8.pss_cut (ps_if (pt_val (pe_callB (r := L2.rAny K) (cr_any rfl) (by rfl) T.any (by decide +kernel) (pa_cons (pe_lc (own := [("person", 5)]) rfl nd (pi_range1 (by rfl) T.range (pa_cons (pe_callB (r := rLenS K) call_len_seq (by rfl) T.len PySem.boot_len (pa_cons (pe_fldK (K := K) rfl (pv 0) rfl) pa_nil)) pa_nil)) (blkOk_by (N := ["self", "start", "turns", "index", "token", "person"]) (sc := defScope sParser_parse_turns) (by decide +kernel)) (fun _ _ _ _ _ => (pg_name (i := 5) nd rfl (Or.inl rfl))) (fun _ _ _ _ _ => pts_nil) (fun _ _ _ _ _ => (pe_cmpR (r := rIn K true) op_notIn_seq (pv 5) (pv 2) (by rfl)))) pa_nil)))
 (pss_one (ps_expr (pe_meth (pv 0) cl_Parser me_found G_found (hr.mono (by first | decide | omega)) b_found .nil pass0 (pa_cons pe_str (pa_cons (pv 1) pa_nil)))))
 pss_nil)
 (pss_one (ps_ret (pe_callTy (r := rTupOf K) call_tuple_of (by rfl) T.tuple (by decide +kernel) (pa_cons (pv 2) pa_nil))))))))), ?_⟩
  obtain ⟨t0, r0, rfl⟩ := he.ne
  obtain ⟨⟨a0, h0⟩, hts1⟩ := hts.cons
  obtain ⟨A0, hA0⟩ := id hp
  refine ⟨_, rfl, z.x, z.dx, _, rfl, hA0.ob, gf_none (by decide +kernel), z, L, n, sv, a0, t0, rfl, hp, h0, ?_⟩
  refine ⟨_, rfl, z.x, z.dx, _, rfl, hA0.ob, gf_none (by decide +kernel), z, L, n, sv, a0, t0, "turns", rfl, hp, h0, fun hw H1 c1 hp1 => ?_, fun hw d H1 w1 => ?_⟩
  rotate_left
  · have e : turnsF sv (t0 :: r0) = .error (t0.l, t0.c) := by
      unfold turnsF
      dsimp only
      rw [wordF_no hw]; rfl
    rw [e] at q
    exact q d H1 (w1.mono fun _ h => nomatch h)
  have e0 : turnsF sv (t0 :: r0) = bindE (fun p => .ok ((missF t0 (p.1.foldl turnS (sv, [])), (p.1.foldl turnS (sv, [])).2), p.2)) (allF "name" r0) := by
    unfold turnsF
    dsimp only
    rw [wordF_yes hw]; rfl
  rw [e0] at q
  have he1 := he.tail (.inr (by rw [hw]; decide +kernel))
  refine ⟨(by show 0 ≤ sizeLine; decide), fun tq htq => ?_⟩
  have htqN := c1.free _ htq
  have htq0 := hp1.out htq
  have c1 := c1.fnew (.lst []) htq
  have hp1 := hp1.wd0 ((Wd.refl H1).new (.lst []) htq)
  have htq1 : upd H1 tq (.lst []) tq = some (.lst (([] : List Nat).map fun j : Nat => V.int j)) := upd_same
  generalize upd H1 tq (.lst []) = H1 at *
  obtain ⟨A1, hA1⟩ := id hp1
  refine ⟨_, rfl, z.x, z.dx, _, rfl, hA1.ob, gf_none (by decide +kernel), z, L, n + 1, sv, "name", r0, rfl, hp1, by decide +kernel, Nat.le_trans hll (by decide), hts1, he1, ?_⟩
  cases hal : allF "name" r0 with
  | error e =>
    rw [hal] at q
    exact fun d H2 w2 => q d H2 (c1.go2 w2)
  | ok pr =>
  obtain ⟨tk, rest⟩ := pr
  rw [hal] at q
  intro H2 p sub n2 c2 hp2 hr2 he2 hpn hsub hmap hmem
  have hlen := allF_len hal
  have hfew' : sv.fs.length + 3 * (r0.length + 1) ≤ 30000 := hfew
  obtain ⟨po1, po2⟩ := hp1.out hpn
  have hpt : p ≠ tq := (ne_of_none htq1 hpn).symm
  have htq2 := c2.base _ _ htq0.1 htq1
  have hsl : (prefs sub).length = tk.length := by rw [prefs_len, ← hmap, List.length_map]
  have tkl : tk.length ≤ 10000 := by omega
  refine ⟨p, _, rfl, SqL.of hsub, ?_⟩
  refine for_it (walk_enum (xs := prefs sub)) (fun i σ H' => (∃ b c d, σ = [some (.ref z.x), some (.ref a0), some (.ref tq), b, c, d]) ∧ Wd z.mu H H' [] ∧ PG CP CT z L n2 ((tk.take i).foldl turnS (sv, [])).1 H' ∧ H' p = some (.lst (prefs sub)) ∧ H' tq = some (.lst (((tk.take i).foldl turnS (sv, [])).2.map fun j : Nat => V.int j))) ?_ ?_ ?_ ?_
  · exact ⟨⟨_, _, _, rfl⟩, c1.fgo c2, hp2, hsub, htq2⟩
  · rintro i σ H' _ ⟨_, _, _, h, _⟩
    exact SqL.of h
  · rintro i x σ H3 H3' hi ⟨⟨b, c, d, rfl⟩, c3, hp3, hs3, hq3⟩ ⟨T0, x1, x2, rfl, hT0, rfl, e1, e2⟩
    cases e1
    obtain ⟨a, t, rfl, ht, hm⟩ : ∃ a t, x2 = V.ref a ∧ tk[i]? = some t ∧ (a, t) ∈ sub := by
      have e2 : (prefs sub)[i]? = some x2 := e2
      unfold prefs at e2
      rw [List.getElem?_map] at e2
      obtain ⟨⟨a, t⟩, h1, h2⟩ := Option.map_eq_some_iff.mp e2
      exact ⟨a, t, h2.symm, by rw [← hmap, List.getElem?_map, h1]; rfl, List.mem_of_getElem? h1⟩
    have hil : i < tk.length := (List.getElem?_eq_some_iff.mp ht).1
    have hstep : (tk.take (i + 1)).foldl turnS (sv, []) = turnS ((tk.take i).foldl turnS (sv, [])) t := by rw [take_more ht, List.foldl_append]; rfl
    obtain ⟨k1, k2, k3⟩ := turn_few (tk.take i) (sv, [])
    rw [List.length_take, Nat.min_eq_left (Nat.le_of_lt hil)] at k1 k3
    have k1' : ((tk.take i).foldl turnS (sv, [])).1.fs.length ≤ 30000 := by
      have : (sv, ([] : List Nat)).1.fs.length = sv.fs.length := rfl
      omega
    have k3' : ((tk.take i).foldl turnS (sv, [])).2.length = i := by rw [k3]; exact Nat.zero_add _
    generalize (tk.take i).foldl turnS (sv, []) = pi at hp3 hq3 hstep k1' k3'
    obtain ⟨si, ji⟩ := pi
    have hpT := ne_of_none hs3 hT0
    have hqT := ne_of_none hq3 hT0
    have c4 := c3.fnew (.tup [.int (i : Nat), .ref a]) hT0
    have w4 := (Wd.refl H3).new (.tup [.int (i : Nat), .ref a]) hT0
    have hp4 := hp3.wd0 w4
    have hT4 := w4.get 0 rfl
    have hs4 := w4.old hs3 (by simp)
    have hq4 := w4.old hq3 (by simp)
    generalize upd H3 T0 (.tup [.int (i : Nat), .ref a]) = H4 at *
    obtain ⟨A4, hA4⟩ := id hp4
    refine ⟨T0, _, rfl, SqT.of hT4, rfl, _, _, rfl, _, _, rfl, rfl, ?_⟩
    refine ⟨_, rfl, .inl ⟨rfl, _, SqL.of hq4⟩, _, rfl, z.x, z.dx, _, rfl, hA4.ob, gf_none (by decide +kernel), _, rfl, z, L, n2, si, a, t, rfl, hp4, hmem _ hm, Nat.le_trans k1' (by decide), fun H5 c5 hp5 => ?_⟩
    have hq5 := c5.base _ _ htq0.1 hq4
    have hs5 := c5.base _ _ po1 hs4
    have c45 := c4.fgo c5
    obtain ⟨pf1, _⟩ := personF_few si t
    have e6 : (ji.map fun j : Nat => V.int j) ++ [V.int ((personF si t).1 : Nat)] = ((ji ++ [(personF si t).1]).map fun j : Nat => V.int j) := by rw [List.map_append]; rfl
    have hji : ji.length = i := k3'
    have k1'' : si.fs.length ≤ 30000 := k1'
    refine ⟨tq, _, _, rfl, rfl, hq5, (by rw [List.length_map, hji]; exact Nat.lt_of_lt_of_le (m := 100000) (by omega) (by decide)), ?_⟩
    rw [e6]
    have c6 := c45.fput (.lst ((ji ++ [(personF si t).1]).map fun j : Nat => V.int j)) (.inl htqN) hq5 (fun _ q => by cases q)
    have hp6 := hp5.putL (o := .lst ((ji ++ [(personF si t).1]).map fun j : Nat => V.int j)) hq5 htq0.2
    have hs6 : upd H5 tq (.lst ((ji ++ [(personF si t).1]).map fun j : Nat => V.int j)) p = some (.lst (prefs sub)) := (upd_ne hpt).trans hs5
    have hq6 : upd H5 tq (.lst ((ji ++ [(personF si t).1]).map fun j : Nat => V.int j)) tq = some (.lst ((ji ++ [(personF si t).1]).map fun j : Nat => V.int j)) := upd_same
    generalize upd H5 tq (.lst ((ji ++ [(personF si t).1]).map fun j : Nat => V.int j)) = H6 at *
    refine ⟨_, rfl, rfl, _, rfl, ?_⟩
    by_cases h12 : i = 12
    · have e : turnS (si, ji) t = ((personF si t).2.bad t "turns", ji ++ [(personF si t).1]) := by unfold turnS; dsimp only; rw [if_pos (hji.trans h12)]
      rw [e] at hstep
      refine ite2 (fun _ => ?_) (fun h => absurd (decide_eq_true (by rw [h12]; rfl)) h)
      obtain ⟨A6, hA6⟩ := id hp6
      refine ⟨_, rfl, z.x, z.dx, _, rfl, hA6.ob, gf_none (by decide +kernel), _, rfl, z, L, n2, _, a, t, "turns", rfl, hp6, hmem _ hm, Nat.le_trans (by omega : _ ≤ 30001) (by decide), fun H7 c7 hp7 => ?_⟩
      exact ⟨⟨_, _, _, rfl⟩, c6.fgo c7, by rw [hstep]; exact hp7, c7.base _ _ po1 hs6, by rw [hstep]; exact c7.base _ _ htq0.1 hq6⟩
    · have e : turnS (si, ji) t = ((personF si t).2, ji ++ [(personF si t).1]) := by unfold turnS; dsimp only; rw [if_neg (fun h => h12 (hji.symm.trans h))]
      rw [e] at hstep
      refine ite2 (fun h => absurd (of_decide_eq_true h) (fun e => h12 (by injection e with e; omega))) (fun _ => ?_)
      exact ⟨⟨_, _, _, rfl⟩, c6, by rw [hstep]; exact hp6, hs6, by rw [hstep]; exact hq6⟩
  · rintro σ H3 ⟨⟨b, c, d, rfl⟩, c3, hp3, hs3, hq3⟩
    rw [hsl, List.take_length] at hp3 hq3
    obtain ⟨k1, k2, k3⟩ := turn_few tk (sv, [])
    have k2' : (tk.foldl turnS (sv, [])).1.names.length ≤ 6 := by rw [k2]; exact hn6
    have k1' : (tk.foldl turnS (sv, [])).1.fs.length ≤ 30000 := by
      have : (sv, ([] : List Nat)).1.fs.length = sv.fs.length := rfl
      omega
    have q : ∀ H' n' r, Wd z.mu H H' [] → PG CP CT z L n' (missF t0 (tk.foldl turnS (sv, []))) H' → Rm L n' rest → EndOk rest → H' r = some (.tup ((tk.foldl turnS (sv, [])).2.map fun j : Nat => V.int j)) → Q (.ref r) H' := q
    have k3' : (tk.foldl turnS (sv, [])).2.length ≤ 10000 := by rw [k3]; show 0 + tk.length ≤ _; omega
    generalize tk.foldl turnS (sv, []) = pe at hp3 hq3 q k1' k2' k3'
    obtain ⟨se, je⟩ := pe
    have hp3 : PG CP CT z L n2 se H3 := hp3
    have hq3 : H3 tq = some (.lst (je.map fun j : Nat => V.int j)) := hq3
    have k2' : se.names.length ≤ 6 := k2'
    have k1' : se.fs.length ≤ 30000 := k1'
    obtain ⟨A3, hA3⟩ := id hp3
    refine ⟨fun σ' H' => (∃ e, σ' = [some (.ref z.x), some (.ref a0), some (.ref tq), b, c, e]) ∧ Wd z.mu H H' [] ∧ PG CP CT z L n2 (missF t0 (se, je)) H' ∧ H' tq = some (.lst (je.map fun j : Nat => V.int j)), ?_, ?_⟩
    rotate_left
    · rintro σ6 H6 ⟨⟨e6, rfl⟩, c6, hp6, hq6⟩
      refine ⟨_, rfl, tq, _, rfl, .inl ⟨SqL.of hq6, fun l hl => ?_⟩⟩
      exact q _ n2 l (c6.fnew _ hl) (hp6.wd0 ((Wd.refl H6).new _ hl)) hr2 he2 upd_same
    refine ⟨_, rfl, z.x, CP, z.dx, _, _, rfl, hA3.ob, PC.cl, PC.n4, gf_names, z.nl, se.names.map V.str, rfl, .inl (SqL.of hA3.nl), _, rfl, by rw [List.length_map]; omega, by rw [List.length_map]; omega, fun D hD => ?_⟩
    have w4 := (Wd.refl H3).new (.lst []) hD
    have en : (((se.names.map V.str).length : Nat) : Int).toNat = se.names.length := by rw [List.length_map]; omega
    rw [en]
    refine lc_range (lo := 0) (n := se.names.length) (fun i H2 => Wd [] H3 H2 [(D, .lst (((List.range i).map fun k => !decide (k ∈ je)).map V.bl))]) w4 ?_ ?_
    · rintro i H5 hi w5
      have ej : (je.map fun j : Nat => V.int j) = (je.map fun j : Nat => (j : Int)).map V.int := by rw [List.map_map]; rfl
      refine ⟨rfl, _, rfl, _, rfl, tq, _, rfl, .inl (SqL.of (w5.old hq3 (by simp))), rfl, by rw [ej]; exact flat_ints _, _, w5.get 0 rfl, ?_, ?_⟩
      · rw [List.length_map, List.length_map, List.length_range]; exact Nat.lt_of_lt_of_le (m := 100) (by omega) (by decide)
      · rw [if_pos rfl, ej, inV_ints]
        have ed : decide ((0 : Int) + (i : Nat) ∈ je.map fun j : Nat => (j : Int)) = decide (i ∈ je) := by
          rw [decide_eq_decide, Int.zero_add, List.mem_map]
          exact ⟨fun ⟨a, h1, h2⟩ => by have : a = i := by omega
                                       rw [← this]; exact h1, fun h => ⟨i, h, rfl⟩⟩
        rw [ed]
        have := w5.put 0 (.lst (((List.range i).map fun k => !decide (k ∈ je)).map V.bl ++ [V.bl (!decide (i ∈ je))])) rfl (fun _ q => by cases q)
        rw [List.range_succ, List.map_append, List.map_append]
        exact this
    · intro H5 w5
      refine ⟨D, _, rfl, SqL.of (w5.get 0 rfl), _, rfl, ?_⟩
      have ea : ((List.range se.names.length).map fun k => !decide (k ∈ je)).any id = (List.range se.names.length).any fun k => !decide (k ∈ je) := by rw [List.any_map]; rfl
      rw [ea]
      have c5 : Wd z.mu H H5 [] := c3.fgo ((w5.sub (List.nil_sublist _)).mono fun _ h => nomatch h)
      have hp5 := hp3.wd0 w5
      have hq5 := w5.old hq3 (by simp)
      cases hm : (List.range se.names.length).any fun k => !decide (k ∈ je) with
      | true =>
        have e : missF t0 (se, je) = se.bad t0 "missing" := by unfold missF; dsimp only; rw [hm]; rfl
        refine iteT ?_
        obtain ⟨A5, hA5⟩ := id hp5
        refine ⟨_, rfl, z.x, z.dx, _, rfl, hA5.ob, gf_none (by decide +kernel), _, rfl, z, L, n2, se, a0, t0, "missing", rfl, hp5, List.mem_of_getElem? h0, Nat.le_trans k1' (by decide), fun H6 c6 hp6 => ?_⟩
        exact ⟨⟨_, rfl⟩, c5.fgo c6, by rw [e]; exact hp6, c6.base _ _ htq0.1 hq5⟩
      | false =>
        have e : missF t0 (se, je) = se := by unfold missF; dsimp only; rw [hm]; rfl
        refine iteF ?_
        exact ⟨⟨_, rfl⟩, c5, by rw [e]; exact hp5, hq5⟩
end
end Br

namespace Br
open PySem PySem.Spec PyProof.Rows L2
/-! ### the weights -/
/-- the number tokens are numbers -/
def NumOk (L : List (Addr × Tk)) : Prop := ∀ q ∈ L, q.2.k = "number" → ∃ v : Nat, v ≤ 99 ∧ q.2.t = num v
def valT (t : Str) : Int := (intText? t).getD 0
theorem valT_ok {t : Str} {v : Nat} (h : v ≤ 99) (e : t = num v) : intText? t = some (valT t) ∧ t.length ≤ 640 ∧ valT t = v := by
  obtain ⟨h1, h2⟩ := int_num' (i := (v : Int)) (by omega) (by omega)
  rw [← e] at h1 h2
  have : valT t = v := by unfold valT; rw [h1]; rfl
  exact ⟨by rw [this]; exact h1, h2, this⟩
def wS (p : Ps × Nat) (t : Tk) : Ps × Nat := (if p.2 = p.1.names.length ∨ ¬ (1 ≤ valT t.t ∧ valT t.t ≤ 9) then p.1.bad t "weights" else p.1, p.2 + 1)
def twiceF (b : Bool) (st : Tk) (s : Ps) : Ps := if b = true then s.bad st "twice" else s
def shortF (st : Tk) (m : Nat) (s : Ps) : Ps := if m < s.names.length then s.bad st "weights" else s
def weightsF (s : Ps) (ts : List Tk) : PR :=
  match ts with
  | [] => .error (0, 0)
  | st :: _ => bindE (fun ts1 => bindE (fun p => .ok ({ shortF st p.1.length (p.1.foldl wS (twiceF s.W.isSome st s, 0)).1 with W := some (p.1.map fun t => valT t.t) }, p.2)) (allF "number" ts1)) (wordF "weights" ts)
theorem wS_few (p : Ps × Nat) (t : Tk) : (wS p t).1.fs.length ≤ p.1.fs.length + 1 ∧ (wS p t).1.names = p.1.names ∧ (wS p t).2 = p.2 + 1 := by
  unfold wS
  refine ⟨?_, ?_, rfl⟩
  · dsimp only
    split
    · rw [bad_len]; exact Nat.le_refl _
    · exact Nat.le_succ _
  · dsimp only
    split
    · rfl
    · rfl
theorem w_few : ∀ (ts : List Tk) (p : Ps × Nat), (ts.foldl wS p).1.fs.length ≤ p.1.fs.length + ts.length ∧ (ts.foldl wS p).1.names = p.1.names ∧ (ts.foldl wS p).2 = p.2 + ts.length
  | [], p => ⟨Nat.le_refl _, rfl, rfl⟩
  | t :: ts, p => by
    obtain ⟨h1, h2, h3⟩ := w_few ts (wS p t)
    obtain ⟨g1, g2, g3⟩ := wS_few p t
    refine ⟨?_, h2.trans g2, ?_⟩
    · rw [List.foldl_cons, List.length_cons]; omega
    · rw [List.foldl_cons, List.length_cons]; omega
theorem twice_few (b : Bool) (st : Tk) (s : Ps) : (twiceF b st s).fs.length ≤ s.fs.length + 1 ∧ (twiceF b st s).names = s.names := by
  unfold twiceF
  split
  · exact ⟨by rw [bad_len]; exact Nat.le_refl _, rfl⟩
  · exact ⟨Nat.le_succ _, rfl⟩
theorem allF_kind {k : Str} {ts tk rest : List Tk} (h : allF k ts = .ok (tk, rest)) : ∀ t ∈ tk, t.k = k := by
  cases ts with
  | nil => cases h
  | cons t r =>
    have h : (if t.k = k then withE (t :: r.takeWhile (isK k)) (wordF ";" (r.dropWhile (isK k))) else .error (t.l, t.c)) = .ok (tk, rest) := h
    split at h
    · rename_i hk
      cases hd : wordF ";" (r.dropWhile (isK k)) with
      | error e => rw [hd] at h; cases h
      | ok v =>
        rw [hd] at h
        cases h
        intro x hx
        rcases List.mem_cons.mp hx with rfl | hx
        · exact hk
        · exact of_decide_eq_true (List.all_eq_true.mp List.all_takeWhile x hx)
    · cases h
section
variable {P : Program} {w : World} {K : PySem.W.Frag} {mg : Str → Option Value} {base : Heap} {CT CP CF : Addr}
def spWeightsG (CP CT CF : Addr) : Sp := fun vs H Q E => ∃ (z : Pz) (L : List (Addr × Tk)) (n : Nat) (s : Ps) (ts : List Tk), vs = [.ref z.x] ∧ PG CP CT z L n s H ∧ L.length ≤ 10000 ∧ NumOk L ∧ Rm L n ts ∧ EndOk ts ∧ Few s ts ∧ s.names.length ≤ 6 ∧
  match weightsF s ts with
  | .ok (s', rest) => ∀ H' n', Wd z.mu H H' [] → PG CP CT z L n' s' H' → Rm L n' rest → EndOk rest → Q .non H'
  | .error e => ∀ (d : Addr) (H' : Hp), Wd z.mu H H' [(d, synD e.1 e.2)] → E (.ref CF) (some d) H'
theorem me_weightsG (D : MethAt K CP "parse_weights" "Parser.parse_weights" sParser_parse_weights ["self"]) (T : Bi mg) (PC : ParCls K CP) (TC : TokCls K CT) (LC : LexC K mg) (hMP : ∃ t, mg "MAX_WEIGHT" = some (.int 9 t))
    (C0 : MeAt P w K mg base 1 CP "peek" ["self"] (spPeekG CP CT)) (C1 : MeX P w K mg base 4 CP "take_word" ["self", "word"] (spTakeWG CP CT CF)) (C2 : MeX P w K mg base 5 CP "take_all" ["self", "kind"] (spAllG CP CT CF))
    (C4 : MeAt P w K mg base 1 CP "found" ["self", "reason", "token"] (spFoundG CP CT)) : MeX P w K mg base 6 CP "parse_weights" ["self"] (spWeightsG CP CT CF) := D.meX fun f fd F => by
  have nd := scParser_parse_weights.nd
  have cl_Parser := PC.cl
  obtain ⟨t1, c_NUMBER⟩ := LC.NUMBER
  obtain ⟨t2, c_MAX_WEIGHT⟩ := hMP
  obtain ⟨f0, fd0, me_peek, b_peek, G_peek⟩ := C0.ex
  obtain ⟨f1, fd1, me_take_word, b_take_word, G_take_word⟩ := C1.ex
  obtain ⟨f2, fd2, me_take_all, b_take_all, G_take_all⟩ := C2.ex
  obtain ⟨f4, fd4, me_found, b_found, G_found⟩ := C4.ex
  refine F.okX scParser_parse_weights (fun vs H Q E h => ?_) (fun cdv A outer s H vs Q E hr h => ?_)
  · obtain ⟨z, L, n, s, ts, rfl, _⟩ := h; rfl
  obtain ⟨z, L, n, sv, ts, rfl, hp, hll, hnum, hts, he, hfew, hn6, q⟩ := h
  refine ⟨_, (pss_cons (ps_set (i := 1) nd rfl (Or.inl rfl) (pe_meth0 (pv 0) cl_Parser me_peek G_peek (hr.mono (by first | decide | omega)) b_peek .nil pass0))
 (pss_cons (ps_expr (pe_meth (pv 0) cl_Parser me_take_word G_take_word (hr.mono (by first | decide | omega)) b_take_word .nil (passes_call (takes_of rfl rfl rfl rfl) (fun _ _ _ _ h => h)) (pa_cons pe_str pa_nil)))
 (pss_cons (ps_set (i := 2) nd rfl (Or.inl rfl) (pe_meth (pv 0) cl_Parser me_take_all G_take_all (hr.mono (by first | decide | omega)) b_take_all .nil (passes_call (takes_of rfl rfl rfl rfl) (fun _ _ _ _ h => h)) (pa_cons (pe_glob (v := .str "number") (by rfl) c_NUMBER ⟨_, rfl⟩) pa_nil)))
 (C8.pss_cut (ps_if (pt_cmpR op_notN (pe_fldK (K := K) rfl (pv 0) rfl) pe_non (nomark _))
 (pss_one (ps_expr (pe_meth (pv 0) cl_Parser me_found G_found (hr.mono (by first | decide | omega)) b_found .nil pass0 (pa_cons pe_str (pa_cons (pv 1) pa_nil)))))
 pss_nil)
 (pss_cons (ps_for (passes_of rfl) rfl (pi_enum (by rfl) T.enumerate (pa_cons (pv 2) pa_nil)) (pg_tupK (K := K) (n := 2) rfl rfl (pgs_cons (pg_name (i := 3) nd rfl (Or.inl rfl)) (pgs_cons (pg_name (i := 4) nd rfl (Or.inl rfl)) pgs_nil)))
 (pss_one (ps_if (PW.pt (pw_or (pt_cmpR op_eq (pv 3) (pe_callB (r := rLenS K) call_len_seq (by rfl) T.len PySem.boot_len (pa_cons (pe_fldK (K := K) rfl (pv 0) rfl) pa_nil)) (nomark _)) (pw_or1 (pt_not (pt_chain op_le op_le pe_int (pe_callTy call_int_str (by rfl) T.int (by decide +kernel) (pa_cons (pe_fldK (K := K) rfl (pv 4) rfl) pa_nil)) (pe_glob (v := .int 9) (by rfl) c_MAX_WEIGHT ⟨_, rfl⟩))))))
 (pss_one (ps_expr (pe_meth (pv 0) cl_Parser me_found G_found (hr.mono (by first | decide | omega)) b_found .nil pass0 (pa_cons pe_str (pa_cons (pv 4) pa_nil)))))
 pss_nil)))
 (C8.pss_cut (ps_if (pt_cmpR op_lt (pe_callB (r := rLenS K) call_len_seq (by rfl) T.len PySem.boot_len (pa_cons (pv 2) pa_nil)) (pe_callB (r := rLenS K) call_len_seq (by rfl) T.len PySem.boot_len (pa_cons (pe_fldK (K := K) rfl (pv 0) rfl) pa_nil)) (nomark _))
 (pss_one (ps_expr (pe_meth (pv 0) cl_Parser me_found G_found (hr.mono (by first | decide | omega)) b_found .nil pass0 (pa_cons pe_str (pa_cons (pv 1) pa_nil)))))
 pss_nil)
 (pss_one (ps_fld (pv 0) (pe_callTy (r := rTupOf K) call_tuple_of (by rfl) T.tuple (by decide +kernel) (pa_cons (pe_lc (own := [("token", 4)]) rfl nd (pi_listK (K := K) rfl (pv 2)) (blkOk_by (N := ["self", "start", "tokens", "index", "token"]) (sc := defScope sParser_parse_weights) (by decide +kernel)) (fun _ _ _ _ _ => (pg_name (i := 4) nd rfl (Or.inl rfl))) (fun _ _ _ _ _ => pts_nil) (fun _ _ _ _ _ => (pe_callTy call_int_str (by rfl) T.int (by decide +kernel) (pa_cons (pe_fldK (K := K) rfl (pv 4) rfl) pa_nil)))) pa_nil)) rfl)))))))), ?_⟩
  obtain ⟨t0, r0, rfl⟩ := he.ne
  obtain ⟨⟨a0, h0⟩, hts1⟩ := hts.cons
  obtain ⟨A0, hA0⟩ := id hp
  refine ⟨_, rfl, z.x, z.dx, _, rfl, hA0.ob, gf_none (by decide +kernel), z, L, n, sv, a0, t0, rfl, hp, h0, ?_⟩
  refine ⟨_, rfl, z.x, z.dx, _, rfl, hA0.ob, gf_none (by decide +kernel), z, L, n, sv, a0, t0, "weights", rfl, hp, h0, fun hw H1 c1 hp1 => ?_, fun hw d H1 w1 => ?_⟩
  rotate_left
  · have e : weightsF sv (t0 :: r0) = .error (t0.l, t0.c) := by
      unfold weightsF
      dsimp only
      rw [wordF_no hw]; rfl
    rw [e] at q
    exact q d H1 (w1.mono fun _ h => nomatch h)
  have e0 : weightsF sv (t0 :: r0) = bindE (fun p => .ok ({ shortF t0 p.1.length (p.1.foldl wS (twiceF sv.W.isSome t0 sv, 0)).1 with W := some (p.1.map fun t => valT t.t) }, p.2)) (allF "number" r0) := by
    unfold weightsF
    dsimp only
    rw [wordF_yes hw]; rfl
  rw [e0] at q
  have he1 := he.tail (.inr (by rw [hw]; decide +kernel))
  obtain ⟨A1, hA1⟩ := id hp1
  refine ⟨_, rfl, z.x, z.dx, _, rfl, hA1.ob, gf_none (by decide +kernel), z, L, n + 1, sv, "number", r0, rfl, hp1, by decide +kernel, Nat.le_trans hll (by decide), hts1, he1, ?_⟩
  cases hal : allF "number" r0 with
  | error e =>
    rw [hal] at q
    exact fun d H2 w2 => q d H2 (c1.go2 w2)
  | ok pr =>
  obtain ⟨tk, rest⟩ := pr
  rw [hal] at q
  intro H2 p sub n2 c2 hp2 hr2 he2 hpn hsub hmap hmem
  have hlen := allF_len hal
  have hfew' : sv.fs.length + 3 * (r0.length + 1) ≤ 30000 := hfew
  obtain ⟨po1, po2⟩ := hp1.out hpn
  have hsl : (prefs sub).length = tk.length := by rw [prefs_len, ← hmap, List.length_map]
  have tkl : tk.length ≤ 10000 := by omega
  have hkk := allF_kind hal
  have tokv : ∀ (i : Nat) (x : V), (prefs sub)[i]? = some x → ∃ a t, x = .ref a ∧ tk[i]? = some t ∧ (a, t) ∈ L ∧ intText? t.t = some (valT t.t) ∧ t.t.length ≤ 640 := fun i x hx => by
    unfold prefs at hx
    rw [List.getElem?_map] at hx
    obtain ⟨⟨a, t⟩, h1, h2⟩ := Option.map_eq_some_iff.mp hx
    have ht : tk[i]? = some t := by rw [← hmap, List.getElem?_map, h1]; rfl
    have hm := hmem _ (List.mem_of_getElem? h1)
    obtain ⟨v, hv, e⟩ := hnum _ hm (hkk t (List.mem_of_getElem? ht))
    obtain ⟨g1, g2, _⟩ := valT_ok hv e
    exact ⟨a, t, h2.symm, ht, hm, g1, g2⟩
  have c2' := c1.fgo c2
  obtain ⟨A2, hA2⟩ := id hp2
  -- twice
  refine ⟨fun σ' H' => σ' = [some (.ref z.x), some (.ref a0), some (.ref p), none, none] ∧ Wd z.mu H H' [] ∧ PG CP CT z L n2 (twiceF sv.W.isSome t0 sv) H' ∧ H' p = some (.lst (prefs sub)), ?_, ?_⟩
  · refine ⟨_, rfl, z.x, CP, z.dx, _, _, rfl, hA2.ob, PC.cl, PC.n5, gf_weights, ?_⟩
    refine ⟨rfl, _, rfl, ?_⟩
    cases hW : sv.W with
    | none =>
      refine iteF ?_
      exact ⟨rfl, c2', hp2, hsub⟩
    | some l =>
      refine iteT ?_
      refine ⟨_, rfl, z.x, z.dx, _, rfl, hA2.ob, gf_none (by decide +kernel), _, rfl, z, L, n2, sv, a0, t0, "twice", rfl, hp2, List.mem_of_getElem? h0, by omega, fun H3 c3 hp3 => ?_⟩
      exact ⟨rfl, c2'.fgo c3, hp3, c3.base _ _ po1 hsub⟩
  rintro σ3 H3 ⟨rfl, c3, hp3, hs3⟩
  obtain ⟨tw1, tw2⟩ := twice_few sv.W.isSome t0 sv
  generalize twiceF sv.W.isSome t0 sv = sT at hp3 q tw1 tw2
  -- the numbers
  refine ⟨_, rfl, p, _, rfl, SqL.of hs3, ?_⟩
  refine for_it (walk_enum (xs := prefs sub)) (fun i σ H' => (∃ c d, σ = [some (.ref z.x), some (.ref a0), some (.ref p), c, d]) ∧ Wd z.mu H H' [] ∧ PG CP CT z L n2 ((tk.take i).foldl wS (sT, 0)).1 H' ∧ H' p = some (.lst (prefs sub))) ?_ ?_ ?_ ?_
  · exact ⟨⟨_, _, rfl⟩, c3, hp3, hs3⟩
  · rintro i σ H' _ ⟨_, _, _, h⟩
    exact SqL.of h
  · rintro i x σ H4 H4' hi ⟨⟨c, d, rfl⟩, c4, hp4, hs4⟩ ⟨T0, x1, x2, rfl, hT0, rfl, e1, e2⟩
    cases e1
    obtain ⟨a, t, rfl, ht, hm, hn1, hn2⟩ := tokv i _ e2
    have hil : i < tk.length := (List.getElem?_eq_some_iff.mp ht).1
    have hstep : (tk.take (i + 1)).foldl wS (sT, 0) = wS ((tk.take i).foldl wS (sT, 0)) t := by rw [take_more ht, List.foldl_append]; rfl
    obtain ⟨k1, k2, k3⟩ := w_few (tk.take i) (sT, 0)
    rw [List.length_take, Nat.min_eq_left (Nat.le_of_lt hil)] at k1 k3
    have k1' : ((tk.take i).foldl wS (sT, 0)).1.fs.length ≤ 30000 := by
      have : (sT, 0).1.fs.length = sT.fs.length := rfl
      omega
    have k2' : ((tk.take i).foldl wS (sT, 0)).1.names = sv.names := k2.trans tw2
    have k3' : ((tk.take i).foldl wS (sT, 0)).2 = i := by rw [k3]; exact Nat.zero_add _
    generalize (tk.take i).foldl wS (sT, 0) = pi at hp4 hstep k1' k2' k3'
    obtain ⟨si, ji⟩ := pi
    have k1'' : si.fs.length ≤ 30000 := k1'
    have k2'' : si.names = sv.names := k2'
    have k3'' : ji = i := k3'
    subst k3''
    have c5 := c4.fnew (.tup [.int (ji : Nat), .ref a]) hT0
    have w5 := (Wd.refl H4).new (.tup [.int (ji : Nat), .ref a]) hT0
    have hp5 : PG CP CT z L n2 si _ := hp4.wd0 w5
    have hT5 := w5.get 0 rfl
    have hs5 := w5.old hs4 (by simp)
    generalize upd H4 T0 (.tup [.int (ji : Nat), .ref a]) = H5 at *
    obtain ⟨A5, hA5⟩ := id hp5
    obtain ⟨tdx, hta⟩ := hA5.ts _ hm
    refine ⟨T0, _, rfl, SqT.of hT5, rfl, _, _, rfl, _, _, rfl, rfl, ?_⟩
    have fnd : wS (si, ji) t = (si.bad t "weights", ji + 1) → _ := fun (e : wS (si, ji) t = (si.bad t "weights", ji + 1)) => (⟨_, rfl, z.x, z.dx, _, rfl, hA5.ob, gf_none (by decide +kernel), _, rfl, z, L, n2, si, a, t, "weights", rfl, hp5, hm, Nat.le_trans k1'' (by decide), fun H6 c6 hp6 =>
      ⟨⟨_, _, rfl⟩, c5.fgo c6, by rw [hstep, e]; exact hp6, c6.base _ _ po1 hs5⟩⟩ : tDrop (tMeth CP "found" (spFoundG CP CT) [] E0 (tVar 0) (tCons (tC (.str "weights")) (tCons (tVar 4) tNil))) { nx := fun σ H' => (∃ c d, σ = [some (.ref z.x), some (.ref a0), some (.ref p), c, d]) ∧ Wd z.mu H H' [] ∧ PG CP CT z L n2 ((tk.take (ji + 1)).foldl wS (sT, 0)).1 H' ∧ H' p = some (.lst (prefs sub)), rt := Q } [some (.ref z.x), some (.ref a0), some (.ref p), some (.int (ji : Nat)), some (.ref a)] H5)
    refine ⟨_, rfl, _, rfl, z.x, CP, z.dx, _, _, rfl, hA5.ob, PC.cl, PC.n4, gf_names, z.nl, _, rfl, .inl (SqL.of hA5.nl), rfl, _, rfl, ?_⟩
    by_cases hE : ji = sv.names.length
    · have e : wS (si, ji) t = (si.bad t "weights", ji + 1) := by unfold wS; dsimp only; rw [if_pos (.inl (by rw [k2'']; exact hE))]
      exact ite2 (fun _ => iteT (fnd e)) (fun h => absurd (decide_eq_true (by rw [List.length_map, k2'', hE])) h)
    refine ite2 (fun h => absurd (of_decide_eq_true h) (fun e => hE (by injection e with e; rw [List.length_map, k2''] at e; omega))) (fun _ => ?_)
    refine ⟨_, rfl, a, CT, tdx, _, _, rfl, hta, TC.cl, TC.nt, tk_text _ _ _ _, _, valT t.t, rfl, hn1, hn2, _, _, rfl, rfl, _, rfl, ?_⟩
    by_cases h1 : 1 ≤ valT t.t
    · refine ite2 (fun _ => ?_) (fun h => absurd (decide_eq_true h1) h)
      refine ⟨_, _, rfl, rfl, _, rfl, ?_⟩
      by_cases h9 : valT t.t ≤ 9
      · have e : wS (si, ji) t = (si, ji + 1) := by unfold wS; dsimp only; rw [if_neg (by rintro (h | h); exact hE (by rw [← k2'']; exact h); exact h ⟨h1, h9⟩)]
        rw [decide_eq_true h9]
        refine iteF ?_
        exact ⟨⟨_, _, rfl⟩, c5, by rw [hstep, e]; exact hp5, hs5⟩
      · have e : wS (si, ji) t = (si.bad t "weights", ji + 1) := by unfold wS; dsimp only; rw [if_pos (.inr (fun h => h9 h.2))]
        rw [decide_eq_false h9]
        exact iteT (fnd e)
    · have e : wS (si, ji) t = (si.bad t "weights", ji + 1) := by unfold wS; dsimp only; rw [if_pos (.inr (fun h => h1 h.1))]
      refine ite2 (fun h => absurd (of_decide_eq_true h) h1) (fun _ => ?_)
      exact ⟨_, rfl, iteT (fnd e)⟩
  · rintro σ H4 ⟨⟨c, d, rfl⟩, c4, hp4, hs4⟩
    rw [hsl, List.take_length] at hp4
    obtain ⟨k1, k2, _⟩ := w_few tk (sT, 0)
    have k1' : (tk.foldl wS (sT, 0)).1.fs.length ≤ 30000 := by
      have : (sT, 0).1.fs.length = sT.fs.length := rfl
      omega
    have k2' : (tk.foldl wS (sT, 0)).1.names = sv.names := k2.trans tw2
    have q : ∀ H' n', Wd z.mu H H' [] → PG CP CT z L n' { shortF t0 tk.length (tk.foldl wS (sT, 0)).1 with W := some (tk.map fun t => valT t.t) } H' → Rm L n' rest → EndOk rest → Q .non H' := q
    generalize (tk.foldl wS (sT, 0)).1 = se at hp4 q k1' k2'
    obtain ⟨A4, hA4⟩ := id hp4
    refine ⟨fun σ' H' => (∃ c d, σ' = [some (.ref z.x), some (.ref a0), some (.ref p), c, d]) ∧ Wd z.mu H H' [] ∧ PG CP CT z L n2 (shortF t0 tk.length se) H' ∧ H' p = some (.lst (prefs sub)), ?_, ?_⟩
    · refine ⟨_, rfl, p, _, rfl, .inl (SqL.of hs4), _, rfl, z.x, CP, z.dx, _, _, rfl, hA4.ob, PC.cl, PC.n4, gf_names, z.nl, _, rfl, .inl (SqL.of hA4.nl), _, _, rfl, rfl, _, rfl, ?_⟩
      by_cases hs : tk.length < se.names.length
      · have e : shortF t0 tk.length se = se.bad t0 "weights" := if_pos hs
        refine ite2 (fun _ => ?_) (fun h => absurd (decide_eq_true (by rw [List.length_map, hsl]; omega)) h)
        refine ⟨_, rfl, z.x, z.dx, _, rfl, hA4.ob, gf_none (by decide +kernel), _, rfl, z, L, n2, se, a0, t0, "weights", rfl, hp4, List.mem_of_getElem? h0, Nat.le_trans k1' (by decide), fun H5 c5 hp5 => ?_⟩
        exact ⟨⟨_, _, rfl⟩, c4.fgo c5, by rw [e]; exact hp5, c5.base _ _ po1 hs4⟩
      · have e : shortF t0 tk.length se = se := if_neg hs
        refine ite2 (fun h => absurd (of_decide_eq_true h) (by rw [List.length_map, hsl]; omega)) (fun _ => ?_)
        exact ⟨⟨_, _, rfl⟩, c4, by rw [e]; exact hp4, hs4⟩
    · rintro σ5 H5 ⟨⟨c, d, rfl⟩, c5, hp5, hs5⟩
      refine ⟨_, rfl, p, rfl, ⟨_, SqL.of hs5⟩, fun D hD => ?_⟩
      have w0 := (Wd.refl H5).new (.lst []) hD
      refine lc_list (K := K) (a := p) (xs := prefs sub) (fun i H2 => Wd [] H5 H2 [(D, .lst (((tk.take i).map fun t => valT t.t).map V.int))]) w0 (fun i H2 _ w => SqL.of (w.old hs5 (by simp))) ?_ ?_
      · rintro i x H6 hx w6
        obtain ⟨a, t, rfl, ht, hm, hn1, hn2⟩ := tokv i _ hx
        have hil : i < tk.length := (List.getElem?_eq_some_iff.mp ht).1
        obtain ⟨A6, hA6⟩ := hp5.wd0 w6
        obtain ⟨tdx, hta⟩ := hA6.ts _ hm
        refine ⟨rfl, _, rfl, a, CT, tdx, _, _, rfl, hta, TC.cl, TC.nt, tk_text _ _ _ _, _, valT t.t, rfl, hn1, hn2, _, w6.get 0 rfl, ?_, ?_⟩
        · rw [List.length_map, List.length_map, List.length_take]; exact Nat.lt_of_lt_of_le (m := 100000) (by omega) (by decide)
        · rw [take_more ht, List.map_append, List.map_append]
          exact w6.put 0 (.lst (((tk.take i).map fun t => valT t.t).map V.int ++ [V.int (valT t.t)])) rfl (fun _ q => by cases q)
      · intro H6 w6
        rw [hsl, List.take_length] at w6
        refine ⟨D, _, rfl, .inl ⟨SqL.of (w6.get 0 rfl), fun b hb => ?_⟩⟩
        have c6 : Wd z.mu H H6 [] := c5.fgo ((w6.sub (List.nil_sublist _)).mono fun _ h => nomatch h)
        have c7 := c6.fnew (.tup ((tk.map fun t => valT t.t).map V.int)) hb
        have hp7 := (hp5.wd0 w6).wd0 ((Wd.refl H6).new (.tup ((tk.map fun t => valT t.t).map V.int)) hb)
        obtain ⟨A7, hA7⟩ := id hp7
        refine ⟨_, rfl, z.x, CP, z.dx, _, rfl, hA7.ob, PC.cl, PC.n5, (by show 7 < 1000; decide), ?_⟩
        rw [gf_putW b (tk.map fun t => valT t.t)]
        refine q _ n2 (c7.fput _ (.inr (by simp [Pz.mu])) hA7.ob (fun _ q => by cases q)) ⟨_, hA7.setX n2 _ _ rfl rfl rfl rfl rfl (fun l hl => ?_) hA7.m⟩ hr2 he2
        cases hl
        exact upd_same
end
end Br

namespace Br
open PySem PySem.Spec PyProof.Rows L2
/-! ### an absence -/
def mods : List Int := [2, 3, 4, 6, 8, 12]
def awayB (st : Tk) (s : Ps) (tr tm : Tk) : Ps := if valT tm.t ∉ mods then s.bad tm "away" else if valT tm.t ≤ valT tr.t then s.bad tr "away" else if s.aws.length = 20 then s.bad st "away" else s
def awayEnd (st : Tk) (p : Nat × Ps) (tr tm : Tk) : Ps := { awayB st p.2 tr tm with aws := (awayB st p.2 tr tm).aws ++ [((p.1 : Int), valT tr.t, valT tm.t)] }
def awayF (s : Ps) (ts : List Tk) : PR :=
  match ts with
  | [] => .error (0, 0)
  | st :: _ => bindE (fun t1 => bindE (fun p1 => bindE (fun p2 => bindE (fun t4 => bindE (fun p3 => bindE (fun t6 => .ok (awayEnd st (personF s p1.1) p2.1 p3.1, t6)) (wordF ";" p3.2)) (takeF "number" t4)) (wordF "of" p2.2)) (takeF "number" p1.2)) (takeF "name" t1)) (wordF "away" ts)
theorem takeF_no {w : Str} {t : Tk} {r : List Tk} (h : t.k ≠ w) : takeF w (t :: r) = .error (t.l, t.c) := if_neg h
theorem takeF_yes {w : Str} {t : Tk} {r : List Tk} (h : t.k = w) : takeF w (t :: r) = .ok (t, r) := if_pos h
theorem bindE_ok {α β : Type} (f : α → Except (Nat × Nat) β) (a : α) : bindE f (.ok a) = f a := rfl
theorem bindE_er {α β : Type} (f : α → Except (Nat × Nat) β) (e : Nat × Nat) : bindE f (.error e) = .error e := rfl
theorem PG.setA {CP CT : Addr} {z : Pz} {L : List (Addr × Tk)} {n : Nat} {s : Ps} {H : Hp} (h : PG CP CT z L n s H) (t : Int × Int × Int) : ∃ as : List Addr, H z.al = some (.lst (as.map V.ref)) ∧ as.length = s.aws.length ∧ ∀ b, H b = some (.tup (tri t)) → PG CP CT z L n { s with aws := s.aws ++ [t] } (upd H z.al (.lst ((as ++ [b]).map V.ref))) := by
  obtain ⟨A, h⟩ := h
  refine ⟨A.as, h.al, h.aw.length, fun b hb => ⟨{ A with as := A.as ++ [b] }, ?_⟩⟩
  have hn := h.ne
  simp only [List.nodup_cons, List.mem_cons, List.not_mem_nil, or_false, not_or] at hn
  have k : ∀ {c : Addr} {u : HO}, H c = some u → c ≠ z.al → upd H z.al (.lst ((A.as ++ [b]).map V.ref)) c = some u := fun e n => by rw [upd_ne n]; exact e
  have k2 : ∀ {c : Addr} {u : HO}, H c = some u → (∀ xs, u ≠ .lst xs) → upd H z.al (.lst ((A.as ++ [b]).map V.ref)) c = some u := fun e n => k e (ne_of e h.al (n _))
  refine ⟨k2 h.ob (fun _ q => by cases q), k h.tk hn.2.1.2.2, fun q hq => ?_, k h.fl hn.2.2.1.2, h.fn, fun i a f e1 e2 => k2 (h.ft i a f e1 e2) (fun _ q => by cases q), k h.nl hn.2.2.2.1, upd_same, ?_, fun l e => k2 (h.w l e) (fun _ q => by cases q), fun l e => k2 (h.m l e) (fun _ q => by cases q), h.ne, h.cn⟩
  · obtain ⟨dx, e⟩ := h.ts q hq
    exact ⟨dx, k2 e (fun _ q => by cases q)⟩
  · exact (h.aw.keep fun b xs e => k2 e (fun _ q => by cases q)).append (.cons (k2 hb (fun _ q => by cases q)) .nil)
section
variable {P : Program} {w : World} {K : PySem.W.Frag} {mg : Str → Option Value} {base : Heap} {CT CP CF : Addr}
def spAwayG (CP CT CF : Addr) : Sp := fun vs H Q E => ∃ (z : Pz) (L : List (Addr × Tk)) (n : Nat) (s : Ps) (ts : List Tk), vs = [.ref z.x] ∧ PG CP CT z L n s H ∧ L.length ≤ 10000 ∧ NumOk L ∧ Rm L n ts ∧ EndOk ts ∧ Few s ts ∧ s.aws.length ≤ 10000 ∧
  match awayF s ts with
  | .ok (s', rest) => ∀ H' n', Wd z.mu H H' [] → PG CP CT z L n' s' H' → Rm L n' rest → EndOk rest → Q .non H'
  | .error e => ∀ (d : Addr) (H' : Hp), Wd z.mu H H' [(d, synD e.1 e.2)] → E (.ref CF) (some d) H'
theorem me_awayG (D : MethAt K CP "parse_away" "Parser.parse_away" sParser_parse_away ["self"]) (T : Bi mg) (PC : ParCls K CP) (TC : TokCls K CT) (LC : LexC K mg) (hMA : ∃ t, mg "MAX_AWAYS" = some (.int 20 t))
    (hMO : ∃ a, mg "MODULI" = some (.ref a) ∧ ∀ H : Hp, SqT K H a (([2, 3, 4, 6, 8, 12] : List Int).map V.int))
    (C0 : MeAt P w K mg base 1 CP "peek" ["self"] (spPeekG CP CT)) (C1 : MeX P w K mg base 4 CP "take_word" ["self", "word"] (spTakeWG CP CT CF)) (C2 : MeX P w K mg base 4 CP "take" ["self", "kind"] (spTakeG CP CT CF))
    (C3 : MeAt P w K mg base 2 CP "person" ["self", "token"] (spPersonG CP CT)) (C4 : MeAt P w K mg base 1 CP "found" ["self", "reason", "token"] (spFoundG CP CT)) : MeX P w K mg base 5 CP "parse_away" ["self"] (spAwayG CP CT CF) := D.meX fun f fd F => by
  have nd := scParser_parse_away.nd
  have cl_Parser := PC.cl
  obtain ⟨t1, c_NAME⟩ := LC.NAME
  obtain ⟨t3, c_NUMBER⟩ := LC.NUMBER
  obtain ⟨t4, c_END_SIGN⟩ := LC.END_SIGN
  obtain ⟨t2, c_MAX_AWAYS⟩ := hMA
  obtain ⟨a_MODULI, c_MODULI, hmo⟩ := hMO
  obtain ⟨f0, fd0, me_peek, b_peek, G_peek⟩ := C0.ex
  obtain ⟨f1, fd1, me_take_word, b_take_word, G_take_word⟩ := C1.ex
  obtain ⟨f2, fd2, me_take, b_take, G_take⟩ := C2.ex
  obtain ⟨f3, fd3, me_person, b_person, G_person⟩ := C3.ex
  obtain ⟨f4, fd4, me_found, b_found, G_found⟩ := C4.ex
  refine F.okX scParser_parse_away (fun vs H Q E h => ?_) (fun cdv A outer s H vs Q E hr h => ?_)
  · obtain ⟨z, L, n, s, ts, rfl, _⟩ := h; rfl
  obtain ⟨z, L, n, sv, ts, rfl, hp, hll, hnum, hts, he, hfew, haw, q⟩ := h
  refine ⟨_, (pss_cons (ps_set (i := 1) nd rfl (Or.inl rfl) (pe_meth0 (pv 0) cl_Parser me_peek G_peek (hr.mono (by first | decide | omega)) b_peek .nil pass0))
 (pss_cons (ps_expr (pe_meth (pv 0) cl_Parser me_take_word G_take_word (hr.mono (by first | decide | omega)) b_take_word .nil (passes_call (takes_of rfl rfl rfl rfl) (fun _ _ _ _ h => h)) (pa_cons pe_str pa_nil)))
 (pss_cons (ps_set (i := 2) nd rfl (Or.inl rfl) (pe_meth (pv 0) cl_Parser me_person G_person (hr.mono (by first | decide | omega)) b_person .nil pass0 (pa_cons (pe_meth (pv 0) cl_Parser me_take G_take (hr.mono (by first | decide | omega)) b_take .nil (passes_call (takes_of rfl rfl rfl rfl) (fun _ _ _ _ h => h)) (pa_cons (pe_glob (v := .str "name") (by rfl) c_NAME ⟨_, rfl⟩) pa_nil)) pa_nil)))
 (pss_cons (ps_set (i := 3) nd rfl (Or.inl rfl) (pe_meth (pv 0) cl_Parser me_take G_take (hr.mono (by first | decide | omega)) b_take .nil (passes_call (takes_of rfl rfl rfl rfl) (fun _ _ _ _ h => h)) (pa_cons (pe_glob (v := .str "number") (by rfl) c_NUMBER ⟨_, rfl⟩) pa_nil)))
 (pss_cons (ps_expr (pe_meth (pv 0) cl_Parser me_take_word G_take_word (hr.mono (by first | decide | omega)) b_take_word .nil (passes_call (takes_of rfl rfl rfl rfl) (fun _ _ _ _ h => h)) (pa_cons pe_str pa_nil)))
 (pss_cons (ps_set (i := 4) nd rfl (Or.inl rfl) (pe_meth (pv 0) cl_Parser me_take G_take (hr.mono (by first | decide | omega)) b_take .nil (passes_call (takes_of rfl rfl rfl rfl) (fun _ _ _ _ h => h)) (pa_cons (pe_glob (v := .str "number") (by rfl) c_NUMBER ⟨_, rfl⟩) pa_nil)))
 (pss_cons (ps_expr (pe_meth (pv 0) cl_Parser me_take_word G_take_word (hr.mono (by first | decide | omega)) b_take_word .nil (passes_call (takes_of rfl rfl rfl rfl) (fun _ _ _ _ h => h)) (pa_cons (pe_glob (v := .str ";") (by rfl) c_END_SIGN ⟨_, rfl⟩) pa_nil)))
 (C8.pss_cut (ps_if (pt_cmpR (r := rIn K true) op_notIn_seq (pe_callTy call_int_str (by rfl) T.int (by decide +kernel) (pa_cons (pe_fldK (K := K) rfl (pv 4) rfl) pa_nil)) (pe_glob (v := .ref a_MODULI) (by rfl) c_MODULI rfl) (by rfl))
 (pss_one (ps_expr (pe_meth (pv 0) cl_Parser me_found G_found (hr.mono (by first | decide | omega)) b_found .nil pass0 (pa_cons pe_str (pa_cons (pv 4) pa_nil)))))
 (pss_one (ps_if (pt_cmpR op_ge (pe_callTy call_int_str (by rfl) T.int (by decide +kernel) (pa_cons (pe_fldK (K := K) rfl (pv 3) rfl) pa_nil)) (pe_callTy call_int_str (by rfl) T.int (by decide +kernel) (pa_cons (pe_fldK (K := K) rfl (pv 4) rfl) pa_nil)) (nomark _))
 (pss_one (ps_expr (pe_meth (pv 0) cl_Parser me_found G_found (hr.mono (by first | decide | omega)) b_found .nil pass0 (pa_cons pe_str (pa_cons (pv 3) pa_nil)))))
 (pss_one (ps_if (pt_cmpR op_eq (pe_callB (r := rLenS K) call_len_seq (by rfl) T.len PySem.boot_len (pa_cons (pe_fldK (K := K) rfl (pv 0) rfl) pa_nil)) (pe_glob (v := .int 20) (by rfl) c_MAX_AWAYS ⟨_, rfl⟩) (nomark _))
 (pss_one (ps_expr (pe_meth (pv 0) cl_Parser me_found G_found (hr.mono (by first | decide | omega)) b_found .nil pass0 (pa_cons pe_str (pa_cons (pv 1) pa_nil)))))
 pss_nil)))))
 (pss_one (ps_expr (pe_bmK (K := K) rfl PySem.F.plainAttrs_list PySem.F.slot_list_append PySem.F.type_list_append mt_append (pe_fldK (K := K) rfl (pv 0) rfl) (pa_cons (pe_tup (pa_cons (pv 2) (pa_cons (pe_callTy call_int_str (by rfl) T.int (by decide +kernel) (pa_cons (pe_fldK (K := K) rfl (pv 3) rfl) pa_nil)) (pa_cons (pe_callTy call_int_str (by rfl) T.int (by decide +kernel) (pa_cons (pe_fldK (K := K) rfl (pv 4) rfl) pa_nil)) pa_nil)))) pa_nil)))))))))))), ?_⟩
  have ob : ∀ {H' : Hp} {n' : Nat} {s' : Ps}, PG CP CT z L n' s' H' → ∃ fs, H' z.x = some (.ins CP z.dx fs) ∧ (∀ m : Str, (∀ f ∈ (["tokens", "at", "faults", "names", "weights", "makers", "aways"] : List Str), (m == f) = false) → fs.lookup m = none) := fun ⟨A, h⟩ => ⟨_, h.ob, fun m hm => gf_none hm⟩
  have numv : ∀ {a : Addr} {t : Tk}, (a, t) ∈ L → t.k = "number" → intText? t.t = some (valT t.t) ∧ t.t.length ≤ 640 := fun hm hk => by
    obtain ⟨v, hv, e⟩ := hnum _ hm hk
    obtain ⟨g1, g2, _⟩ := valT_ok hv e
    exact ⟨g1, g2⟩
  obtain ⟨t0, r0, rfl⟩ := he.ne
  obtain ⟨⟨a0, h0⟩, hts1⟩ := hts.cons
  have hfew' : sv.fs.length + 3 * (r0.length + 1) ≤ 30000 := hfew
  obtain ⟨b0, o0, n0⟩ := ob hp
  refine ⟨_, rfl, z.x, z.dx, _, rfl, o0, n0 _ (by decide +kernel), z, L, n, sv, a0, t0, rfl, hp, h0, ?_⟩
  unfold awayF at q
  dsimp only at q
  refine ⟨_, rfl, z.x, z.dx, _, rfl, o0, n0 _ (by decide +kernel), z, L, n, sv, a0, t0, "away", rfl, hp, h0, fun hw H1 c1 hp1 => ?_, fun hw d H1 w1 => ?_⟩
  rotate_left
  · rw [wordF_no hw, bindE_er] at q
    exact q d H1 (w1.mono fun _ h => nomatch h)
  rw [wordF_yes hw, bindE_ok] at q
  have he1 := he.tail (.inr (by rw [hw]; decide +kernel))
  obtain ⟨u1, r1, rfl⟩ := he1.ne
  obtain ⟨⟨a1, h1⟩, hts2⟩ := hts1.cons
  obtain ⟨b1, o1, n1⟩ := ob hp1
  refine ⟨_, rfl, z.x, z.dx, _, rfl, o1, n1 _ (by decide +kernel), _, rfl, z.x, z.dx, _, rfl, o1, n1 _ (by decide +kernel), z, L, n + 1, sv, a1, u1, "name", rfl, hp1, h1, fun hk1 H2 c2 hp2 => ?_, fun hk1 d H2 w2 => ?_⟩
  rotate_left
  · rw [takeF_no hk1, bindE_er] at q
    exact q d H2 (c1.go2 (w2.mono fun _ h => nomatch h))
  rw [takeF_yes hk1, bindE_ok] at q
  have he2 := he1.tail (.inl (by rw [hk1]; decide +kernel))
  refine ⟨z, L, n + 1 + 1, sv, a1, u1, rfl, hp2, List.mem_of_getElem? h1, by omega, fun H3 c3 hp3 => ?_⟩
  obtain ⟨pf1, _, _⟩ := personF_few sv u1
  have paw : (personF sv u1).2.aws = sv.aws := by unfold personF; split <;> rfl
  generalize personF sv u1 = pk at hp3 q pf1 paw
  obtain ⟨pk, sp⟩ := pk
  have hp3 : PG CP CT z L (n + 1 + 1) sp H3 := hp3
  have pf1 : sp.fs.length ≤ sv.fs.length + 1 := pf1
  have paw : sp.aws = sv.aws := paw
  have c03 := (c1.fgo c2).fgo c3
  -- the remainder
  obtain ⟨u2, r2, rfl⟩ := he2.ne
  obtain ⟨⟨a2, h2⟩, hts3⟩ := hts2.cons
  obtain ⟨b3, o3, n3⟩ := ob hp3
  refine ⟨_, rfl, z.x, z.dx, _, rfl, o3, n3 _ (by decide +kernel), z, L, n + 1 + 1, sp, a2, u2, "number", rfl, hp3, h2, fun hk2 H4 c4 hp4 => ?_, fun hk2 d H4 w4 => ?_⟩
  rotate_left
  · rw [takeF_no hk2, bindE_er] at q
    exact q d H4 (c03.go2 (w4.mono fun _ h => nomatch h))
  rw [takeF_yes hk2, bindE_ok] at q
  have he3 := he2.tail (.inl (by rw [hk2]; decide +kernel))
  have c04 := c03.fgo c4
  -- of
  obtain ⟨u3, r3, rfl⟩ := he3.ne
  obtain ⟨⟨a3, h3⟩, hts4⟩ := hts3.cons
  obtain ⟨b4, o4, n4⟩ := ob hp4
  refine ⟨_, rfl, z.x, z.dx, _, rfl, o4, n4 _ (by decide +kernel), z, L, n + 1 + 1 + 1, sp, a3, u3, "of", rfl, hp4, h3, fun hk3 H5 c5 hp5 => ?_, fun hk3 d H5 w5 => ?_⟩
  rotate_left
  · rw [wordF_no hk3, bindE_er] at q
    exact q d H5 (c04.go2 (w5.mono fun _ h => nomatch h))
  rw [wordF_yes hk3, bindE_ok] at q
  have he4 := he3.tail (.inr (by rw [hk3]; decide +kernel))
  have c05 := c04.fgo c5
  -- the modulus
  obtain ⟨u4, r4, rfl⟩ := he4.ne
  obtain ⟨⟨a4, h4⟩, hts5⟩ := hts4.cons
  obtain ⟨b5, o5, n5⟩ := ob hp5
  refine ⟨_, rfl, z.x, z.dx, _, rfl, o5, n5 _ (by decide +kernel), z, L, n + 1 + 1 + 1 + 1, sp, a4, u4, "number", rfl, hp5, h4, fun hk4 H6 c6 hp6 => ?_, fun hk4 d H6 w6 => ?_⟩
  rotate_left
  · rw [takeF_no hk4, bindE_er] at q
    exact q d H6 (c05.go2 (w6.mono fun _ h => nomatch h))
  rw [takeF_yes hk4, bindE_ok] at q
  have he5 := he4.tail (.inl (by rw [hk4]; decide +kernel))
  have c06 := c05.fgo c6
  -- the sign
  obtain ⟨u5, r5, rfl⟩ := he5.ne
  obtain ⟨⟨a5, h5⟩, hts6⟩ := hts5.cons
  obtain ⟨b6, o6, n6⟩ := ob hp6
  refine ⟨_, rfl, z.x, z.dx, _, rfl, o6, n6 _ (by decide +kernel), z, L, n + 1 + 1 + 1 + 1 + 1, sp, a5, u5, ";", rfl, hp6, h5, fun hk5 H7 c7 hp7 => ?_, fun hk5 d H7 w7 => ?_⟩
  rotate_left
  · rw [wordF_no hk5, bindE_er] at q
    exact q d H7 (c06.go2 (w7.mono fun _ h => nomatch h))
  rw [wordF_yes hk5, bindE_ok] at q
  have he6 := he5.tail (.inr (by rw [hk5]; decide +kernel))
  have c07 := c06.fgo c7
  have q : ∀ H' n', Wd z.mu H H' [] → PG CP CT z L n' (awayEnd t0 (pk, sp) u2 u4) H' → Rm L n' r5 → EndOk r5 → Q .non H' := q
  obtain ⟨hr1, hr2⟩ := numv (List.mem_of_getElem? h2) hk2
  obtain ⟨hm1, hm2⟩ := numv (List.mem_of_getElem? h4) hk4
  obtain ⟨A7, hA7⟩ := id hp7
  obtain ⟨ndx, hta2⟩ := hA7.ts _ (List.mem_of_getElem? h2)
  obtain ⟨mdx, hta4⟩ := hA7.ts _ (List.mem_of_getElem? h4)
  refine ⟨fun σ' H' => σ' = [some (.ref z.x), some (.ref a0), some (.int (pk : Nat)), some (.ref a2), some (.ref a4)] ∧ Wd z.mu H H' [] ∧ PG CP CT z L (n + 1 + 1 + 1 + 1 + 1 + 1) (awayB t0 sp u2 u4) H', ?_, ?_⟩
  · have sp7 : sp.fs.length ≤ 10000000 := by omega
    refine ⟨_, rfl, a4, CT, mdx, _, _, rfl, hta4, TC.cl, TC.nt, tk_text _ _ _ _, _, _, rfl, hm1, hm2, a_MODULI, _, rfl, .inr (hmo _), rfl, flat_ints _, _, rfl, ?_⟩
    rw [if_pos rfl, inV_ints]
    by_cases g1 : valT u4.t ∈ mods
    · rw [decide_eq_true (show valT u4.t ∈ ([2, 3, 4, 6, 8, 12] : List Int) from g1)]
      refine ite2 (fun h => absurd h (by decide)) (fun _ => ?_)
      refine ⟨_, rfl, a2, CT, ndx, _, _, rfl, hta2, TC.cl, TC.nt, tk_text _ _ _ _, _, _, rfl, hr1, hr2, _, rfl, a4, CT, mdx, _, _, rfl, hta4, TC.cl, TC.nt, tk_text _ _ _ _, _, _, rfl, hm1, hm2, _, _, rfl, rfl, _, rfl, ?_⟩
      by_cases g2 : valT u4.t ≤ valT u2.t
      · have e : awayB t0 sp u2 u4 = sp.bad u2 "away" := by unfold awayB; rw [if_neg (by simpa using g1), if_pos g2]
        refine ite2 (fun _ => ?_) (fun h => absurd (decide_eq_true g2) h)
        refine ⟨_, rfl, z.x, z.dx, _, rfl, hA7.ob, gf_none (by decide +kernel), _, rfl, z, L, _, sp, a2, u2, "away", rfl, hp7, List.mem_of_getElem? h2, sp7, fun H8 c8 hp8 => ⟨rfl, c07.fgo c8, by rw [e]; exact hp8⟩⟩
      · refine ite2 (fun h => absurd (of_decide_eq_true h) g2) (fun _ => ?_)
        refine ⟨_, rfl, z.x, CP, z.dx, _, _, rfl, hA7.ob, PC.cl, PC.n7, gf_aways, z.al, _, rfl, .inl (SqL.of hA7.al), rfl, _, rfl, ?_⟩
        have el : (A7.as.map V.ref).length = sp.aws.length := by rw [List.length_map]; exact hA7.aw.length
        by_cases g3 : sp.aws.length = 20
        · have e : awayB t0 sp u2 u4 = sp.bad t0 "away" := by unfold awayB; rw [if_neg (by simpa using g1), if_neg g2, if_pos g3]
          refine ite2 (fun _ => ?_) (fun h => absurd (decide_eq_true (by rw [el, g3]; rfl)) h)
          refine ⟨_, rfl, z.x, z.dx, _, rfl, hA7.ob, gf_none (by decide +kernel), _, rfl, z, L, _, sp, a0, t0, "away", rfl, hp7, List.mem_of_getElem? h0, sp7, fun H8 c8 hp8 => ⟨rfl, c07.fgo c8, by rw [e]; exact hp8⟩⟩
        · have e : awayB t0 sp u2 u4 = sp := by unfold awayB; rw [if_neg (by simpa using g1), if_neg g2, if_neg g3]
          refine ite2 (fun h => absurd (of_decide_eq_true h) (fun e => g3 (by injection e with e; rw [el] at e; omega))) (fun _ => ?_)
          exact ⟨rfl, c07, by rw [e]; exact hp7⟩
    · rw [decide_eq_false (show ¬ valT u4.t ∈ ([2, 3, 4, 6, 8, 12] : List Int) from g1)]
      have e : awayB t0 sp u2 u4 = sp.bad u4 "away" := by unfold awayB; rw [if_pos g1]
      refine iteT ?_
      refine ⟨_, rfl, z.x, z.dx, _, rfl, hA7.ob, gf_none (by decide +kernel), _, rfl, z, L, _, sp, a4, u4, "away", rfl, hp7, List.mem_of_getElem? h4, sp7, fun H8 c8 hp8 => ⟨rfl, c07.fgo c8, by rw [e]; exact hp8⟩⟩
  · rintro σ8 H8 ⟨rfl, c8, hp8⟩
    have baw : (awayB t0 sp u2 u4).aws = sv.aws := by
      rw [← paw]
      unfold awayB
      split
      · rfl
      · split
        · rfl
        · split <;> rfl
    obtain ⟨A8, hA8⟩ := id hp8
    obtain ⟨ndx8, hta28⟩ := hA8.ts _ (List.mem_of_getElem? h2)
    obtain ⟨mdx8, hta48⟩ := hA8.ts _ (List.mem_of_getElem? h4)
    refine ⟨_, rfl, z.x, CP, z.dx, _, _, rfl, hA8.ob, PC.cl, PC.n7, gf_aways, .inl ⟨rfl, _, SqL.of hA8.al⟩, _, rfl, _, rfl, a2, CT, ndx8, _, _, rfl, hta28, TC.cl, TC.nt, tk_text _ _ _ _, _, _, rfl, hr1, hr2, _, rfl, a4, CT, mdx8, _, _, rfl, hta48, TC.cl, TC.nt, tk_text _ _ _ _, _, _, rfl, hm1, hm2, (by show 3 ≤ sizeLine; decide), fun b hb => ?_⟩
    have w9 := (Wd.refl H8).new (.tup (tri ((pk : Int), valT u2.t, valT u4.t))) hb
    have c9 := c8.fnew (.tup (tri ((pk : Int), valT u2.t, valT u4.t))) hb
    have hp9 := hp8.wd0 w9
    have hbt := w9.get 0 rfl
    obtain ⟨as, s1, s2, s3⟩ := hp9.setA ((pk : Int), valT u2.t, valT u4.t)
    show ∃ a xs, _
    refine ⟨z.al, as.map V.ref, _, rfl, rfl, s1, ?_, ?_⟩
    · rw [List.length_map, s2, baw]; exact Nat.lt_of_le_of_lt haw (by decide)
    have s4 := s3 b hbt
    rw [List.map_append] at s4
    exact q _ _ (c9.fput _ (.inr (by simp [Pz.mu])) s1 (fun _ q => by cases q)) s4 hts6 he6
end
end Br

namespace Br
open PySem PySem.Spec PyProof.Rows L2
/-! ### who makes up -/
def mkS (p : Ps × List Nat) (t : Tk) : Ps × List Nat := ((personF p.1 t).2, p.2 ++ [(personF p.1 t).1])
/-- the different ones below seven, ascending -/
def sortU (js : List Nat) : List Int := ((List.range 7).filter fun k => decide (k ∈ js)).map fun k : Nat => (k : Int)
def makeupF (s : Ps) (ts : List Tk) : PR :=
  match ts with
  | [] => .error (0, 0)
  | st :: _ => bindE (fun t1 => bindE (fun p => .ok ({ twiceF s.M.isSome st (p.1.foldl mkS (s, [])).1 with M := some (sortU (p.1.foldl mkS (s, [])).2) }, p.2)) (allF "name" t1)) (wordF "makeup" ts)
theorem asc_one : ∀ {l m : List Int}, l.Pairwise (· < ·) → m.Pairwise (· < ·) → (∀ k, k ∈ l ↔ k ∈ m) → l = m
  | [], [], _, _, _ => rfl
  | [], b :: m, _, _, h => absurd ((h b).mpr List.mem_cons_self) (by simp)
  | a :: l, [], _, _, h => absurd ((h a).mp List.mem_cons_self) (by simp)
  | a :: l, b :: m, h1, h2, h => by
    obtain ⟨a1, a2⟩ := List.pairwise_cons.mp h1
    obtain ⟨b1, b2⟩ := List.pairwise_cons.mp h2
    have e : a = b := by
      have ha := (h a).mp List.mem_cons_self
      have hb := (h b).mpr List.mem_cons_self
      rcases List.mem_cons.mp ha with e | ha
      · exact e
      · rcases List.mem_cons.mp hb with e | hb
        · exact e.symm
        · have := b1 a ha; have := a1 b hb; omega
    subst e
    congr 1
    refine asc_one a2 b2 fun k => ⟨fun hk => ?_, fun hk => ?_⟩
    · rcases List.mem_cons.mp ((h k).mp (List.mem_cons_of_mem _ hk)) with e | e
      · have := a1 k hk; omega
      · exact e
    · rcases List.mem_cons.mp ((h k).mpr (List.mem_cons_of_mem _ hk)) with e | e
      · have := b1 k hk; omega
      · exact e
theorem sortU_asc (js : List Nat) : (sortU js).Pairwise (· < ·) := by
  unfold sortU
  refine List.pairwise_map.mpr (List.Pairwise.imp (R := fun a b : Nat => a < b) (fun h => by omega) ?_)
  exact (List.pairwise_lt_range (n := 7)).filter _
theorem sortU_mem {js : List Nat} (h : ∀ j ∈ js, j < 7) (k : Int) : k ∈ sortU js ↔ k ∈ js.map fun j : Nat => (j : Int) := by
  unfold sortU
  simp only [List.mem_map, List.mem_filter, List.mem_range, decide_eq_true_eq]
  exact ⟨fun ⟨a, ⟨_, h1⟩, h2⟩ => ⟨a, h1, h2⟩, fun ⟨a, h1, h2⟩ => ⟨a, ⟨h a h1, h1⟩, h2⟩⟩
/-- how many names are left -/
def namesN (ts : List Tk) : Nat := (ts.filter (isK "name")).length
theorem allF_names {ts tk rest : List Tk} (h : allF "name" ts = .ok (tk, rest)) : tk.length ≤ namesN ts := by
  have hk := allF_kind h
  have hs : tk.Sublist ts := by
    cases ts with
    | nil => cases h
    | cons t r =>
      have h : (if t.k = "name" then withE (t :: r.takeWhile (isK "name")) (wordF ";" (r.dropWhile (isK "name"))) else .error (t.l, t.c)) = .ok (tk, rest) := h
      split at h
      · cases hd : wordF ";" (r.dropWhile (isK "name")) with
        | error e => rw [hd] at h; cases h
        | ok v =>
          rw [hd] at h
          cases h
          exact (List.takeWhile_sublist _).cons₂ _
      · cases h
  have hf := hs.filter (isK "name")
  have e : tk.filter (isK "name") = tk := List.filter_eq_self.mpr (fun t ht => decide_eq_true (hk t ht))
  rw [e] at hf
  exact hf.length_le
theorem personF_lt (s : Ps) (t : Tk) (h : s.names.length ≤ 6) : (personF s t).1 < 7 := by
  unfold personF
  split
  · rename_i h2
    have := (List.getElem?_eq_some_iff.mp (ixOf_at h2).1).1
    omega
  · exact Nat.succ_pos _
theorem mk_few : ∀ (ts : List Tk) (p : Ps × List Nat), p.1.names.length ≤ 6 → (∀ j ∈ p.2, j < 7) → (ts.foldl mkS p).1.fs.length ≤ p.1.fs.length + ts.length ∧ (ts.foldl mkS p).1.names = p.1.names ∧ (ts.foldl mkS p).2.length = p.2.length + ts.length ∧ (∀ j ∈ (ts.foldl mkS p).2, j < 7) ∧ (ts.foldl mkS p).1.M = p.1.M
  | [], p, _, h => ⟨Nat.le_refl _, rfl, rfl, h, rfl⟩
  | t :: ts, p, h6, h => by
    obtain ⟨g1, g2, _⟩ := personF_few p.1 t
    have gM : (personF p.1 t).2.M = p.1.M := by unfold personF; split <;> rfl
    obtain ⟨h1, h2, h3, h4, h5⟩ := mk_few ts (mkS p t) (by show (personF p.1 t).2.names.length ≤ 6; rw [g2]; exact h6) (fun j hj => by
      rcases List.mem_append.mp (show j ∈ p.2 ++ [(personF p.1 t).1] from hj) with hj | hj
      · exact h j hj
      · rw [List.mem_singleton.mp hj]; exact personF_lt _ _ h6)
    have e1 : (mkS p t).1 = (personF p.1 t).2 := rfl
    have e2 : (mkS p t).2.length = p.2.length + 1 := by show (p.2 ++ [_]).length = _; rw [List.length_append]; rfl
    refine ⟨?_, ?_, ?_, h4, ?_⟩
    · rw [List.foldl_cons, List.length_cons]; rw [e1] at h1; omega
    · rw [List.foldl_cons, h2, e1, g2]
    · rw [List.foldl_cons, List.length_cons]; omega
    · rw [List.foldl_cons, h5, e1, gM]
section
variable {P : Program} {w : World} {K : PySem.W.Frag} {mg : Str → Option Value} {base : Heap} {CT CP CF : Addr}
def spMakeG (CP CT CF : Addr) : Sp := fun vs H Q E => ∃ (z : Pz) (L : List (Addr × Tk)) (n : Nat) (s : Ps) (ts : List Tk), vs = [.ref z.x] ∧ PG CP CT z L n s H ∧ L.length ≤ 10000 ∧ Rm L n ts ∧ EndOk ts ∧ Few s ts ∧ s.names.length ≤ 6 ∧ namesN ts ≤ 60 ∧
  match makeupF s ts with
  | .ok (s', rest) => ∀ H' n', Wd z.mu H H' [] → PG CP CT z L n' s' H' → Rm L n' rest → EndOk rest → Q .non H'
  | .error e => ∀ (d : Addr) (H' : Hp), Wd z.mu H H' [(d, synD e.1 e.2)] → E (.ref CF) (some d) H'
theorem me_makeG (D : MethAt K CP "parse_makeup" "Parser.parse_makeup" sParser_parse_makeup ["self"]) (T : Bi mg) (PC : ParCls K CP) (TC : TokCls K CT) (LC : LexC K mg)
    (C0 : MeAt P w K mg base 1 CP "peek" ["self"] (spPeekG CP CT)) (C1 : MeX P w K mg base 4 CP "take_word" ["self", "word"] (spTakeWG CP CT CF)) (C2 : MeX P w K mg base 5 CP "take_all" ["self", "kind"] (spAllG CP CT CF))
    (C3 : MeAt P w K mg base 2 CP "person" ["self", "token"] (spPersonG CP CT)) (C4 : MeAt P w K mg base 1 CP "found" ["self", "reason", "token"] (spFoundG CP CT)) : MeX P w K mg base 6 CP "parse_makeup" ["self"] (spMakeG CP CT CF) := D.meX fun f fd F => by
  have nd := scParser_parse_makeup.nd
  have cl_Parser := PC.cl
  obtain ⟨t1, c_NAME⟩ := LC.NAME
  obtain ⟨f0, fd0, me_peek, b_peek, G_peek⟩ := C0.ex
  obtain ⟨f1, fd1, me_take_word, b_take_word, G_take_word⟩ := C1.ex
  obtain ⟨f2, fd2, me_take_all, b_take_all, G_take_all⟩ := C2.ex
  obtain ⟨f3, fd3, me_person, b_person, G_person⟩ := C3.ex
  obtain ⟨f4, fd4, me_found, b_found, G_found⟩ := C4.ex
  refine F.okX scParser_parse_makeup (fun vs H Q E h => ?_) (fun cdv A outer s H vs Q E hr h => ?_)
  · obtain ⟨z, L, n, s, ts, rfl, _⟩ := h; rfl
  obtain ⟨z, L, n, sv, ts, rfl, hp, hll, hts, he, hfew, hn6, hnn, q⟩ := h
  refine ⟨_, (pss_cons (ps_set (i := 1) nd rfl (Or.inl rfl) (pe_meth0 (pv 0) cl_Parser me_peek G_peek (hr.mono (by first | decide | omega)) b_peek .nil pass0))
 (pss_cons (ps_expr (pe_meth (pv 0) cl_Parser me_take_word G_take_word (hr.mono (by first | decide | omega)) b_take_word .nil (passes_call (takes_of rfl rfl rfl rfl) (fun _ _ _ _ h => h)) (pa_cons pe_str pa_nil)))
 (pss_cons (ps_setLc (i := 2) (own := [("token", 3)]) rfl nd rfl rfl (sw_true rfl rfl rfl (by decide +kernel)) (pi_listK (K := K) rfl (pe_meth (pv 0) cl_Parser me_take_all G_take_all (hr.mono (by first | decide | omega)) b_take_all .nil (passes_call (takes_of rfl rfl rfl rfl) (fun _ _ _ _ h => h)) (pa_cons (pe_glob (v := .str "name") (by rfl) c_NAME ⟨_, rfl⟩) pa_nil))) (blkOk_by (N := ["self", "start", "persons", "token"]) (sc := defScope sParser_parse_makeup) (by decide +kernel)) (fun _ _ _ _ _ => (pg_name (i := 3) nd rfl (Or.inl rfl))) (fun _ _ _ _ _ => pts_nil) (fun _ _ _ _ _ => (pe_meth (pv 0) cl_Parser me_person G_person (hr.mono (by first | decide | omega)) b_person .nil pass0 (pa_cons (pv 3) pa_nil))))
 (C8.pss_cut (ps_if (pt_cmpR op_notN (pe_fldK (K := K) rfl (pv 0) rfl) pe_non (nomark _))
 (pss_one (ps_expr (pe_meth (pv 0) cl_Parser me_found G_found (hr.mono (by first | decide | omega)) b_found .nil pass0 (pa_cons pe_str (pa_cons (pv 1) pa_nil)))))
 pss_nil)
 (pss_one (ps_fld (pv 0) (pe_callTy (r := rTupOf K) call_tuple_of (by rfl) T.tuple (by decide +kernel) (pa_cons (pe_callB (r := rSortedSet w) (cr_sortedSet rfl) (by rfl) T.sorted (by decide +kernel) (pa_cons (pe_callTy (r := rSetI K w) (cr_setI rfl) (by rfl) T.set (by decide +kernel) (pa_cons (pv 2) pa_nil)) pa_nil)) pa_nil)) rfl)))))), ?_⟩
  obtain ⟨t0, r0, rfl⟩ := he.ne
  obtain ⟨⟨a0, h0⟩, hts1⟩ := hts.cons
  obtain ⟨A0, hA0⟩ := id hp
  refine ⟨_, rfl, z.x, z.dx, _, rfl, hA0.ob, gf_none (by decide +kernel), z, L, n, sv, a0, t0, rfl, hp, h0, ?_⟩
  unfold makeupF at q
  dsimp only at q
  refine ⟨_, rfl, z.x, z.dx, _, rfl, hA0.ob, gf_none (by decide +kernel), z, L, n, sv, a0, t0, "makeup", rfl, hp, h0, fun hw H1 c1 hp1 => ?_, fun hw d H1 w1 => ?_⟩
  rotate_left
  · rw [wordF_no hw, bindE_er] at q
    exact q d H1 (w1.mono fun _ h => nomatch h)
  rw [wordF_yes hw, bindE_ok] at q
  have he1 := he.tail (.inr (by rw [hw]; decide +kernel))
  obtain ⟨A1, hA1⟩ := id hp1
  refine ⟨_, rfl, z.x, z.dx, _, rfl, hA1.ob, gf_none (by decide +kernel), z, L, n + 1, sv, "name", r0, rfl, hp1, by decide +kernel, Nat.le_trans hll (by decide), hts1, he1, ?_⟩
  cases hal : allF "name" r0 with
  | error e =>
    rw [hal, bindE_er] at q
    exact fun d H2 w2 => q d H2 (c1.go2 w2)
  | ok pr =>
  obtain ⟨tk, rest⟩ := pr
  rw [hal, bindE_ok] at q
  intro H2 p sub n2 c2 hp2 hr2 he2 hpn hsub hmap hmem
  have hlen := allF_len hal
  have hfew' : sv.fs.length + 3 * (r0.length + 1) ≤ 30000 := hfew
  obtain ⟨po1, po2⟩ := hp1.out hpn
  have hsl : (prefs sub).length = tk.length := by rw [prefs_len, ← hmap, List.length_map]
  have hn0 : namesN r0 ≤ namesN (t0 :: r0) := (((List.Sublist.refl r0).cons t0).filter (isK "name")).length_le
  have tk60 : tk.length ≤ 60 := Nat.le_trans (allF_names hal) (Nat.le_trans hn0 hnn)
  have tkl : tk.length ≤ 10000 := by omega
  have c3 := c1.fgo c2
  refine ⟨p, rfl, ⟨_, SqL.of hsub⟩, fun D hD => ?_⟩
  obtain ⟨do1, do2⟩ := hp2.out hD
  have hDN := c3.free _ hD
  have hpD : p ≠ D := ne_of_none hsub hD
  refine lc_list (K := K) (a := p) (xs := prefs sub) (fun i H3 => Wd z.mu H H3 [] ∧ PG CP CT z L n2 ((tk.take i).foldl mkS (sv, [])).1 H3 ∧ H3 p = some (.lst (prefs sub)) ∧ H3 D = some (.lst (((tk.take i).foldl mkS (sv, [])).2.map fun j : Nat => V.int j))) ⟨c3.fnew _ hD, hp2.wd0 ((Wd.refl H2).new (.lst []) hD), (upd_ne hpD).trans hsub, upd_same⟩ (fun i H3 _ w => SqL.of w.2.2.1) ?_ ?_
  · rintro i x H4 hx ⟨c4, hp4, hs4, hD4⟩
    obtain ⟨a, t, rfl, ht, hm⟩ : ∃ a t, x = V.ref a ∧ tk[i]? = some t ∧ (a, t) ∈ sub := by
      unfold prefs at hx
      rw [List.getElem?_map] at hx
      obtain ⟨⟨a, t⟩, h1, h2⟩ := Option.map_eq_some_iff.mp hx
      exact ⟨a, t, h2.symm, by rw [← hmap, List.getElem?_map, h1]; rfl, List.mem_of_getElem? h1⟩
    have hil : i < tk.length := (List.getElem?_eq_some_iff.mp ht).1
    have hstep : (tk.take (i + 1)).foldl mkS (sv, []) = mkS ((tk.take i).foldl mkS (sv, [])) t := by rw [take_more ht, List.foldl_append]; rfl
    obtain ⟨k1, k2, k3, _, _⟩ := mk_few (tk.take i) (sv, []) hn6 (fun _ h => nomatch h)
    rw [List.length_take, Nat.min_eq_left (Nat.le_of_lt hil)] at k1 k3
    have k1' : ((tk.take i).foldl mkS (sv, [])).1.fs.length ≤ 30000 := by
      have : (sv, ([] : List Nat)).1.fs.length = sv.fs.length := rfl
      omega
    have k3' : ((tk.take i).foldl mkS (sv, [])).2.length = i := by rw [k3]; exact Nat.zero_add _
    generalize (tk.take i).foldl mkS (sv, []) = pi at hp4 hD4 hstep k1' k3'
    obtain ⟨si, ji⟩ := pi
    obtain ⟨A4, hA4⟩ := id hp4
    refine ⟨rfl, _, rfl, z.x, z.dx, _, rfl, hA4.ob, gf_none (by decide +kernel), _, rfl, z, L, n2, si, a, t, rfl, hp4, hmem _ hm, Nat.le_trans k1' (by decide), fun H5 c5 hp5 => ?_⟩
    have hD5 := c5.base _ _ do1 hD4
    have hs5 := c5.base _ _ po1 hs4
    have hji : ji.length = i := k3'
    have e6 : (ji.map fun j : Nat => V.int j) ++ [V.int ((personF si t).1 : Nat)] = ((ji ++ [(personF si t).1]).map fun j : Nat => V.int j) := by rw [List.map_append]; rfl
    refine ⟨_, hD5, (by rw [List.length_map, hji]; exact Nat.lt_of_lt_of_le (m := 100000) (by omega) (by decide)), (c4.fgo c5).fput _ (.inl hDN) hD5 (fun _ q => by cases q), ?_, (upd_ne hpD).trans hs5, ?_⟩
    · rw [hstep]; exact hp5.putL hD5 do2
    · rw [hstep, e6]; exact upd_same
  · rintro H4 ⟨c4, hp4, hs4, hD4⟩
    rw [hsl, List.take_length] at hp4 hD4
    obtain ⟨k1, k2, k3, k4, k5⟩ := mk_few tk (sv, []) hn6 (fun _ h => nomatch h)
    have k1' : (tk.foldl mkS (sv, [])).1.fs.length ≤ 30000 := by
      have : (sv, ([] : List Nat)).1.fs.length = sv.fs.length := rfl
      omega
    have k3' : (tk.foldl mkS (sv, [])).2.length ≤ 60 := by rw [k3]; show 0 + tk.length ≤ _; omega
    have q : ∀ H' n', Wd z.mu H H' [] → PG CP CT z L n' { twiceF sv.M.isSome t0 (tk.foldl mkS (sv, [])).1 with M := some (sortU (tk.foldl mkS (sv, [])).2) } H' → Rm L n' rest → EndOk rest → Q .non H' := q
    have k5 : (tk.foldl mkS (sv, [])).1.M = sv.M := k5
    generalize tk.foldl mkS (sv, []) = pe at hp4 hD4 q k1' k3' k4 k5
    obtain ⟨se, je⟩ := pe
    have hp4 : PG CP CT z L n2 se H4 := hp4
    have hD4 : H4 D = some (.lst (je.map fun j : Nat => V.int j)) := hD4
    have k5 : se.M = sv.M := k5
    have k4 : ∀ j ∈ je, j < 7 := k4
    have k3' : je.length ≤ 60 := k3'
    obtain ⟨A4, hA4⟩ := id hp4
    refine ⟨fun σ' H' => (∃ e, σ' = [some (.ref z.x), some (.ref a0), some (.ref D), e]) ∧ Wd z.mu H H' [] ∧ PG CP CT z L n2 (twiceF sv.M.isSome t0 se) H' ∧ H' D = some (.lst (je.map fun j : Nat => V.int j)), ?_, ?_⟩
    · refine ⟨_, rfl, z.x, CP, z.dx, _, _, rfl, hA4.ob, PC.cl, PC.n6, gf_makers, rfl, _, rfl, ?_⟩
      rw [k5]
      cases hM : sv.M with
      | none =>
        refine iteF ?_
        exact ⟨⟨_, rfl⟩, c4, hp4, hD4⟩
      | some l =>
        refine iteT ?_
        refine ⟨_, rfl, z.x, z.dx, _, rfl, hA4.ob, gf_none (by decide +kernel), _, rfl, z, L, n2, se, a0, t0, "twice", rfl, hp4, List.mem_of_getElem? h0, Nat.le_trans k1' (by decide), fun H5 c5 hp5 => ?_⟩
        exact ⟨⟨_, rfl⟩, c4.fgo c5, hp5, c5.base _ _ do1 hD4⟩
    · rintro σ5 H5 ⟨⟨e5, rfl⟩, c5, hp5, hD5⟩
      have ej : (je.map fun j : Nat => V.int j) = (je.map fun j : Nat => (j : Int)).map V.int := by rw [List.map_map]; rfl
      rw [ej] at hD5
      have jl : (je.map fun j : Nat => (j : Int)).length ≤ 60 := by rw [List.length_map]; exact k3'
      refine ⟨_, rfl, D, je.map fun j : Nat => (j : Int), rfl, SqL.of hD5, by omega, fun sa m hsa hm => ?_⟩
      have c6 := c5.fnew (SetO w sa (fun j => decide (j ∈ je.map fun j : Nat => (j : Int))) m) hsa
      have hp6 := hp5.wd0 ((Wd.refl H5).new (SetO w sa (fun j => decide (j ∈ je.map fun j : Nat => (j : Int))) m) hsa)
      refine ⟨sa, _, m, rfl, upd_same, by omega, fun ms lp hpw hms hl hlp => ?_⟩
      have ems : ms = sortU je := asc_one hpw (sortU_asc je) fun k => ((hms k).trans ⟨of_decide_eq_true, decide_eq_true⟩).trans (sortU_mem k4 k).symm
      subst ems
      have c7 := c6.fnew (.lst ((sortU je).map V.int)) hlp
      have hp7 := hp6.wd0 ((Wd.refl _).new (.lst ((sortU je).map V.int)) hlp)
      refine ⟨lp, _, rfl, .inl ⟨SqL.of upd_same, fun b hb => ?_⟩⟩
      have c8 := c7.fnew (.tup ((sortU je).map V.int)) hb
      obtain ⟨A8, hA8⟩ := hp7.wd0 ((Wd.refl _).new (.tup ((sortU je).map V.int)) hb)
      refine ⟨_, rfl, z.x, CP, z.dx, _, rfl, hA8.ob, PC.cl, PC.n6, (by show 7 < 1000; decide), ?_⟩
      rw [gf_putM b (sortU je)]
      refine q _ n2 (c8.fput _ (.inr (by simp [Pz.mu])) hA8.ob (fun _ q => by cases q)) ⟨_, hA8.setX n2 _ _ rfl rfl rfl rfl rfl hA8.w (fun l hl => ?_)⟩ hr2 he2
      cases hl
      exact upd_same
end
end Br

namespace Br
open PySem PySem.Spec PyProof.Rows L2
section
variable {P : Program} {w : World} {K : PySem.W.Frag} {mg : Str → Option Value} {base : Heap} {CT CP CF : Addr}
def spParIG (CP CT : Addr) : Sp := fun vs H Q _ => ∃ (x dx tk : Addr) (L : List (Addr × Tk)), vs = [.ref x, .ref tk] ∧ H x = some (.ins CP dx []) ∧ H tk = some (.lst (prefs L)) ∧ TksP CT H L ∧ CT ≠ CP ∧
  ∀ (z : Pz) (H' : Hp), z.x = x → Wd [x] H H' [] → PG CP CT z L 0 Ps.zero H' → (∀ a ∈ z.mu, a = x ∨ H a = none) → Q .non H'
theorem mk_parserG (D : InitAt K mg "Parser" "Parser.__init__" CP sParser___init__ ["self", "tokens"]) (PC : ParCls K CP) : MkAt P w K mg base 1 "Parser" CP ["self", "tokens"] (spParIG CP CT) := D.mk' fun f fd F => by
  have nd := scParser___init__.nd
  refine F.ok scParser___init__ (fun vs H Q E h => ?_) (fun cdv A outer s H vs Q E hr h => ?_)
  · obtain ⟨x, dx, tk, L, rfl, _⟩ := h; rfl
  obtain ⟨x, dx, tk, L, rfl, hx, htk, hT, cn, q⟩ := h
  refine ⟨_, (pss_cons (ps_fld (pv 0) (pv 1) rfl)
 (pss_cons (ps_fld (pv 0) pe_int rfl)
 (pss_cons (ps_fld (pv 0) (pe_lst pa_nil) rfl)
 (pss_cons (ps_fld (pv 0) (pe_lst pa_nil) rfl)
 (pss_cons (ps_fld (pv 0) pe_non rfl)
 (pss_cons (ps_fld (pv 0) pe_non rfl)
 (pss_one (ps_fld (pv 0) (pe_lst pa_nil) rfl)))))))), ?_⟩
  have hxt : x ≠ tk := ne_of hx htk (by simp)
  have c0 := Wd.frefl [x] H
  have e1 : putF "tokens" (.ref tk) [] = [(("tokens" : Str), V.ref tk)] := rfl
  have e2 : putF "at" (.int 0) [(("tokens" : Str), V.ref tk)] = [(("tokens" : Str), V.ref tk), ("at", .int 0)] := by rw [putF_ne (by decide +kernel)]; rfl
  refine ⟨_, rfl, _, rfl, x, CP, dx, [], rfl, hx, PC.cl, PC.n1, (by show 0 < 1000; decide), ?_⟩
  refine ⟨_, rfl, x, CP, dx, _, rfl, upd_same, PC.cl, PC.n2, (by show 1 < 1000; decide), ?_⟩
  rw [e1, e2, upd_upd]
  have c1 := c0.fput (.ins CP dx [(("tokens" : Str), V.ref tk), ("at", .int 0)]) (.inr (by simp)) hx (fun _ q => by cases q)
  refine ⟨(by show 0 ≤ sizeLine; decide), fun fl hfl => ?_⟩
  have c2 := c1.fnew (.lst []) hfl
  have ld0 : Wd [x] H (upd H x (.ins CP dx [(("tokens" : Str), V.ref tk), ("at", .int 0)])) [(x, .ins CP dx [(("tokens" : Str), V.ref tk), ("at", .int 0)])] :=
    (Wd.start1 hx).put 0 _ rfl (fun _ q => by cases q)
  have ld1 := ld0.new1 (.lst []) hfl
  refine ⟨_, rfl, x, CP, dx, _, rfl, ld1.get 0 rfl, PC.cl, PC.n3, (by show 2 < 1000; decide), ?_⟩
  have e3 : putF "faults" (.ref fl) [(("tokens" : Str), V.ref tk), ("at", .int 0)] = [(("tokens" : Str), V.ref tk), ("at", .int 0), ("faults", .ref fl)] := by rw [putF_ne (by decide +kernel), putF_ne (by decide +kernel)]; rfl
  rw [e3]
  have ld2 := ld1.put 0 (.ins CP dx [(("tokens" : Str), V.ref tk), ("at", .int 0), ("faults", .ref fl)]) rfl (fun _ q => by cases q)
  refine ⟨(by show 0 ≤ sizeLine; decide), fun nl hnl => ?_⟩
  have ld3 := ld2.new1 (.lst []) hnl
  refine ⟨_, rfl, x, CP, dx, _, rfl, ld3.get 0 rfl, PC.cl, PC.n4, (by show 3 < 1000; decide), ?_⟩
  have e4 : putF "names" (.ref nl) [(("tokens" : Str), V.ref tk), ("at", .int 0), ("faults", .ref fl)] = [(("tokens" : Str), V.ref tk), ("at", .int 0), ("faults", .ref fl), ("names", .ref nl)] := by rw [putF_ne (by decide +kernel), putF_ne (by decide +kernel), putF_ne (by decide +kernel)]; rfl
  rw [e4]
  have ld4 := ld3.put 0 (.ins CP dx [(("tokens" : Str), V.ref tk), ("at", .int 0), ("faults", .ref fl), ("names", .ref nl)]) rfl (fun _ q => by cases q)
  refine ⟨_, rfl, x, CP, dx, _, rfl, ld4.get 0 rfl, PC.cl, PC.n5, (by show 4 < 1000; decide), ?_⟩
  have e5 : putF "weights" .non [(("tokens" : Str), V.ref tk), ("at", .int 0), ("faults", .ref fl), ("names", .ref nl)] = [(("tokens" : Str), V.ref tk), ("at", .int 0), ("faults", .ref fl), ("names", .ref nl), ("weights", .non)] := by
    rw [putF_ne (by decide +kernel), putF_ne (by decide +kernel), putF_ne (by decide +kernel), putF_ne (by decide +kernel)]; rfl
  rw [e5]
  have ld5 := ld4.put 0 (.ins CP dx [(("tokens" : Str), V.ref tk), ("at", .int 0), ("faults", .ref fl), ("names", .ref nl), ("weights", .non)]) rfl (fun _ q => by cases q)
  refine ⟨_, rfl, x, CP, dx, _, rfl, ld5.get 0 rfl, PC.cl, PC.n6, (by show 5 < 1000; decide), ?_⟩
  have e6 : putF "makers" .non [(("tokens" : Str), V.ref tk), ("at", .int 0), ("faults", .ref fl), ("names", .ref nl), ("weights", .non)] = [(("tokens" : Str), V.ref tk), ("at", .int 0), ("faults", .ref fl), ("names", .ref nl), ("weights", .non), ("makers", .non)] := by
    rw [putF_ne (by decide +kernel), putF_ne (by decide +kernel), putF_ne (by decide +kernel), putF_ne (by decide +kernel), putF_ne (by decide +kernel)]; rfl
  rw [e6]
  have ld6 := ld5.put 0 (.ins CP dx [(("tokens" : Str), V.ref tk), ("at", .int 0), ("faults", .ref fl), ("names", .ref nl), ("weights", .non), ("makers", .non)]) rfl (fun _ q => by cases q)
  refine ⟨(by show 0 ≤ sizeLine; decide), fun al hal => ?_⟩
  have ld7 := ld6.new1 (.lst []) hal
  refine ⟨_, rfl, x, CP, dx, _, rfl, ld7.get 0 rfl, PC.cl, PC.n7, (by show 6 < 1000; decide), ?_⟩
  have e7 : putF "aways" (.ref al) [(("tokens" : Str), V.ref tk), ("at", .int 0), ("faults", .ref fl), ("names", .ref nl), ("weights", .non), ("makers", .non)] = gF ⟨x, dx, tk, fl, nl, al⟩ 0 Ps.zero ⟨[], 0, 0, []⟩ := by
    rw [putF_ne (by decide +kernel), putF_ne (by decide +kernel), putF_ne (by decide +kernel), putF_ne (by decide +kernel), putF_ne (by decide +kernel), putF_ne (by decide +kernel)]; rfl
  rw [e7]
  have ld8 := ld7.put 0 (.ins CP dx (gF ⟨x, dx, tk, fl, nl, al⟩ 0 Ps.zero ⟨[], 0, 0, []⟩)) rfl (fun _ q => by cases q)
  have hal0 := ld6.free _ hal
  have hnl0 := ld2.free _ hnl
  have hfl0 := ld0.free _ hfl
  have ndl := ld8.nd
  have hkt := ne_of_none htk hal0
  have hkn := ne_of_none htk hnl0
  have hkf := ne_of_none htk hfl0
  have htx : tk ∉ [x] := by simpa using hxt.symm
  refine q ⟨x, dx, tk, fl, nl, al⟩ _ rfl (ld8.sub (List.nil_sublist _)) ⟨⟨[], 0, 0, []⟩, ld8.get 0 rfl, ld8.old htk htx, fun t ht => ?_, ld8.get 3 rfl, rfl, fun i a f e1 _ => (by cases e1), ld8.get 2 rfl, ld8.get 1 rfl, .nil, fun _ h => (by cases h), fun _ h => (by cases h), ?_, cn⟩ (fun a ha => ?_)
  · obtain ⟨tdx, e⟩ := hT t ht
    refine ⟨tdx, ld8.old e ?_⟩
    have : t.1 ≠ x := ne_of e hx (fun q => by injection q with q1; exact cn q1)
    simpa using this
  · simp only [List.set, List.map_cons, List.map_nil, List.nodup_cons, List.mem_cons, List.not_mem_nil, or_false, not_or] at ndl ⊢
    obtain ⟨⟨n1, n2, n3⟩, ⟨n4, n5⟩, n6, n7⟩ := ndl
    exact ⟨⟨hxt, n3, n2, n1⟩, ⟨hkf, hkn, hkt⟩, ⟨Ne.symm n6, Ne.symm n5⟩, Ne.symm n4, n7⟩
  · simp only [Pz.mu, List.mem_cons, List.not_mem_nil, or_false] at ha
    rcases ha with h | h | h | h
    · exact .inl h
    · rw [h]; exact .inr hfl0
    · rw [h]; exact .inr hnl0
    · rw [h]; exact .inr hal0
end
end Br

namespace Br
open PySem PySem.Spec PyProof.Rows L2
/-! ### what the lexer's tokens are -/
theorem dig_one : ∀ c ∈ TL.tl ("0123456789" : Str), c - 48 ≤ 9 ∧ (⟨#[c]⟩ : Str) = num ((c - 48 : Nat) : Int) := by decide +kernel
theorem dig_two : ∀ c ∈ TL.tl ("0123456789" : Str), c ≠ 48 → ∀ d ∈ TL.tl ("0123456789" : Str), (c - 48) * 10 + (d - 48) ≤ 99 ∧ (⟨#[c, d]⟩ : Str) = num (((c - 48) * 10 + (d - 48) : Nat) : Int) := by decide +kernel
theorem tok_num {l : List Nat} {t : Str} (h : tokAt l = some (("number" : Str), t)) : ∃ v : Nat, v ≤ 99 ∧ t = num v := by
  cases l with
  | nil => cases h
  | cons c r =>
    simp only [tokAt] at h
    split at h
    · injection h with h; injection h with h1 h2; exact absurd h1 (by decide +kernel)
    · split at h
      · rename_i hd
        have hw : (c :: r).takeWhile dig = c :: r.takeWhile dig := by rw [List.takeWhile_cons, if_pos hd]
        have hall : ∀ x ∈ r.takeWhile dig, x ∈ TL.tl ("0123456789" : Str) := fun x hx => of_decide_eq_true (List.all_eq_true.mp List.all_takeWhile x hx)
        have hc : c ∈ TL.tl ("0123456789" : Str) := of_decide_eq_true hd
        rw [hw] at h
        generalize r.takeWhile dig = u at h hall
        split at h
        · cases h
        · rename_i hn
          injection h with h; injection h with h1 h2
          subst h2
          cases u with
          | nil => obtain ⟨g1, g2⟩ := dig_one c hc; exact ⟨c - 48, by omega, g2⟩
          | cons d u =>
            cases u with
            | nil =>
              have c48 : c ≠ 48 := fun e => hn (.inr ⟨by simp, e⟩)
              obtain ⟨g1, g2⟩ := dig_two c hc c48 d (hall d (by simp))
              exact ⟨_, g1, g2⟩
            | cons e u => exact absurd (.inl (by simp only [List.length_cons]; omega)) hn
      · split at h
        · injection h with h; injection h with h1 h2; exact absurd h1 (by decide +kernel)
        · split at h
          · injection h with h; injection h with h1 h2; exact absurd h1 (by decide +kernel)
          · cases h
def TkNum (t : Tk) : Prop := t.k = "number" → ∃ v : Nat, v ≤ 99 ∧ t.t = num v
theorem lexG_num : ∀ (n ln col : Nat) (l : List Nat) (ts : List Tk), lexG n ln col l = .ok ts → ∀ t ∈ ts, TkNum t
  | n, _, _, [], ts, h => by
    have h : (Except.ok ([] : List Tk) : Except (Nat × Nat) (List Tk)) = Except.ok ts := by cases n <;> exact h
    cases h
    exact fun t ht => nomatch ht
  | 0, _, _, _ :: _, ts, h => by cases h; exact fun t ht => nomatch ht
  | n + 1, ln, col, c :: r, ts, h => by
    rw [lexG] at h
    by_cases hc : c = 32 ∨ c = 10
    · rw [if_pos hc] at h; exact lexG_num n ln (col + 1) r ts h
    · rw [if_neg hc] at h
      cases ht : tokAt (c :: r) with
      | none => rw [ht] at h; cases h
      | some kt =>
        obtain ⟨k, t⟩ := kt
        rw [ht] at h
        dsimp only at h
        cases hr : lexG n ln (col + t.length) ((c :: r).drop t.length) with
        | error e => rw [hr] at h; cases h
        | ok us =>
          rw [hr] at h
          cases h
          intro x hx
          rcases List.mem_append.mp hx with hx | hx
          · rw [List.mem_singleton.mp hx]
            intro hk
            have hk : k = "number" := hk
            exact tok_num (by rw [ht, hk])
          · exact lexG_num n ln _ _ us hr x hx
theorem lexRows_num : ∀ (rs : List (List Nat)) (ln : Nat) (ts : List Tk), lexRows ln rs = .ok ts → ∀ t ∈ ts, TkNum t
  | [], _, ts, h => by cases h; exact fun t ht => nomatch ht
  | row :: rs, ln, ts, h => by
    have h : appE (lexRow ln 0 row) (lexRows (ln + 1) rs) = .ok ts := h
    cases h1 : lexRow ln 0 row with
    | error e => rw [h1] at h; cases h
    | ok us =>
      rw [h1] at h
      cases h2 : lexRows (ln + 1) rs with
      | error e => rw [h2] at h; cases h
      | ok vs =>
        rw [h2] at h
        cases h
        intro x hx
        rcases List.mem_append.mp hx with hx | hx
        · exact lexG_num _ _ _ _ us h1 x hx
        · exact lexRows_num rs (ln + 1) vs h2 x hx
theorem lexF_ok {z : Str} {ts : List Tk} (h : lexF z = .ok ts) : EndOk ts ∧ ∀ t ∈ ts, TkNum t := by
  unfold lexF at h
  cases h1 : lexRows 0 (rowsL z) with
  | error e => rw [h1] at h; cases h
  | ok us =>
    rw [h1] at h
    cases h
    refine ⟨⟨us, _, rfl, rfl, rfl⟩, fun x hx => ?_⟩
    rcases List.mem_append.mp hx with hx | hx
    · exact lexRows_num _ _ us h1 x hx
    · rw [List.mem_singleton.mp hx]
      exact fun hk => absurd (show ("end" : Str) = "number" from hk) (by decide +kernel)
end Br

/-! min of a list of things that lie on the heap: the comparison leans on a property of the heap that the loop keeps. -/
namespace Br
open PySem PySem.Spec PyProof.Rows L2
def CmpAt (prog : Program) (w : World) (A : Around) (op : CmpOp) (P : Nat → Value → Prop) (bt : Nat → Nat → Bool) (J : Heap → Prop) : Prop :=
  ∀ i j vi vj (s : Shared) (Q : Value → Shared → Prop) (E : Value → Shared → Prop), J s.heap → P i vi → P j vj → Q (.bool (bt i j)) s → wpAny (model prog w) A (richCompare op vi vj) Q E s
section
variable {prog : Program} {w : World} {A : Around} {R : Result → Shared → Prop} {I : Addr} {fp wr : List Addr} {n : Nat} {P : Nat → Value → Prop} {St : Nat → Heap → Prop} {J : Heap → Prop}
theorem min_loopJ (W : Walks prog w A.in1 I fp wr n P St) (bt : Nat → Nat → Bool) (S : Addr) (hSf : S ∉ fp) (hcmp : CmpAt prog w A.in1 .Lt P bt J) (hJ : ∀ h h' : Heap, J h → (∀ b o, b ∉ wr → b ≠ S → h.get? b = some o → h'.get? b = some o) → J h') :
    ∀ (k j : Nat) (s : Shared) (vb : Value) (c : Nat), n - (j + 1) = k → j + 1 ≤ n → J s.heap → St (j + 1) s.heap → P (argBest bt j) vb →
    s.heap.get? S = some { cls := .type "list", dict := none, data := .seq #[vb, vb] c, slots := #[] } →
    (∀ v h' tk, P (argBest bt (n - 1)) v → (∀ b o, b ∉ wr → b ≠ S → s.heap.get? b = some o → h'.get? b = some o) → R (.ok (.ret v)) { s with heap := h', toks := tk }) →
    codeAny (model prog w) A (.builtin "min.loop" ⟨[.ref I, .none, .ref S], []⟩) R s := by
  have hSw : S ∉ wr := fun h => hSf (W.sub _ h)
  have hname : (toString "min" ++ toString ".loop" : String) = "min.loop" := by decide
  intro k
  induction k with
  | zero =>
    intro j s vb c hk hj j0 hst hPb hS hR
    have hin : j + 1 = n := by omega
    refine codeAny_builtin F.entry_min_loop ?_
    rw [Around.under_plainId F.plain_min_loop _]
    show wpAny _ A.in1 (seqItems? (.ref S) >>= _) _ _ s
    refine wpAny_bind (wpAny_seqItems hS rfl ?_)
    show wpAny _ A.in1 (tryCatch (pyNext (.ref I)) _ >>= _) _ _ s
    refine wpAny_bind (wpAny_tryCatch (W.done s _ _ (hin ▸ hst) fun h' tk hk' => ?_))
    have hS' := hk' S _ hSw hS
    show wpAny _ A.in1 (updateSeq S (fun _ => #[]) >>= _) _ _ _
    refine wpAny_bind ?_
    refine wpAny_updateSeq hS' rfl (wpAny_bind (wpAny_letGo (wpAny_pure ?_)))
    refine hR vb _ tk (by rw [← hin]; exact hPb) fun b o hbw hbS e => (Heap.get?_update_other _ _ (Ne.symm hbS)).trans (hk' b o hbw e)
  | succ k ih =>
    intro j s vb c hk hj j0 hst hPb hS hR
    have hlt : j + 1 < n := by omega
    refine codeAny_builtin F.entry_min_loop ?_
    rw [Around.under_plainId F.plain_min_loop _]
    show wpAny _ A.in1 (seqItems? (.ref S) >>= _) _ _ s
    refine wpAny_bind (wpAny_seqItems hS rfl ?_)
    show wpAny _ A.in1 (tryCatch (pyNext (.ref I)) _ >>= _) _ _ s
    refine wpAny_bind (wpAny_tryCatch (W.item (j + 1) s _ _ hlt hst fun v h' tk hP hst' hk' => ?_))
    have hS' := hk' S _ hSw hS
    have j1 : J h' := hJ _ _ j0 fun b o h1 _ e => hk' b o h1 e
    show wpAny _ A.in1 (tryCatch (holding [v, v] (richCompare .Lt v vb >>= _)) _ >>= _) _ _ _
    refine wpAny_bind (wpAny_tryCatch (wpAny_holding (wpAny_bind (hcmp (j + 1) (argBest bt j) v vb _ _ _ j1 hP hPb ?_))))
    refine wpAny_bind (wpAny_holding (wpAny_truthy_bool ?_))
    refine wpAny_bind (wpAny_letGo (wpAny_pure ?_))
    cases hb : bt (j + 1) (argBest bt j) with
    | true =>
      simp only [if_true]
      refine wpAny_bind ?_
      refine wpAny_updateSeq hS' rfl (wpAny_bind (wpAny_letGo ?_))
      rw [hname]
      refine wpAny_pure ⟨plainId_quiet F.plain_min_loop _, ih (j + 1) _ v _ (by omega) hlt (hJ _ _ j1 fun b o _ h2 e => (Heap.get?_update_other _ _ (Ne.symm h2)).trans e) (W.frame _ _ _ hst' fun b hbf o e => ?_) (by simp only [argBest, hb, if_true]; exact hP) (Heap.get?_update_self _ hS' rfl)
        fun v' h'' tk'' hP' hk'' => ?_⟩
      · exact (Heap.get?_update_other _ _ (fun h : S = b => hSf (by rw [h]; exact hbf))).trans e
      · exact hR v' h'' tk'' hP' fun b o hbw hbS e => hk'' b o hbw hbS ((Heap.get?_update_other _ _ (Ne.symm hbS)).trans (hk' b o hbw e))
    | false =>
      simp only [Bool.false_eq_true, if_false]
      refine wpAny_bind (wpAny_letGo ?_)
      rw [hname]
      refine wpAny_pure ⟨plainId_quiet F.plain_min_loop _, ih (j + 1) _ vb c (by omega) hlt j1 hst' (by simp only [argBest, hb, Bool.false_eq_true, if_false]; exact hPb) hS' fun v' h'' tk'' hP' hk'' => ?_⟩
      exact hR v' h'' tk'' hP' fun b o hbw hbS e => hk'' b o hbw hbS (hk' b o hbw e)
theorem min_firstJ (W : Walks prog w A.in1 I fp wr n P St) (bt : Nat → Nat → Bool) (S : Addr) (hSf : S ∉ fp) (hcmp : CmpAt prog w A.in1 .Lt P bt J) (hJ : ∀ h h' : Heap, J h → (∀ b o, b ∉ wr → b ≠ S → h.get? b = some o → h'.get? b = some o) → J h') (hn : 0 < n) {s : Shared} {c : Nat} (j0 : J s.heap) (hst : St 0 s.heap)
    (hS : s.heap.get? S = some { cls := .type "list", dict := none, data := .seq #[] c, slots := #[] })
    (hR : ∀ v h' tk, P (argBest bt (n - 1)) v → (∀ b o, b ∉ wr → b ≠ S → s.heap.get? b = some o → h'.get? b = some o) → R (.ok (.ret v)) { s with heap := h', toks := tk }) :
    codeAny (model prog w) A (.builtin "min.loop" ⟨[.ref I, .none, .ref S], []⟩) R s := by
  have hSw : S ∉ wr := fun h => hSf (W.sub _ h)
  have hname : (toString "min" ++ toString ".loop" : String) = "min.loop" := by decide
  refine codeAny_builtin F.entry_min_loop ?_
  rw [Around.under_plainId F.plain_min_loop _]
  show wpAny _ A.in1 (seqItems? (.ref S) >>= _) _ _ s
  refine wpAny_bind (wpAny_seqItems hS rfl ?_)
  show wpAny _ A.in1 (tryCatch (pyNext (.ref I)) _ >>= _) _ _ s
  refine wpAny_bind (wpAny_tryCatch (W.item 0 s _ _ hn hst fun v h' tk hP hst' hk' => ?_))
  have hS' := hk' S _ hSw hS
  have j1 : J h' := hJ _ _ j0 fun b o h1 _ e => hk' b o h1 e
  show wpAny _ A.in1 (updateSeq S (fun _ => #[v, v]) >>= _) _ _ _
  refine wpAny_bind ?_
  refine wpAny_updateSeq hS' rfl ?_
  rw [hname]
  refine wpAny_pure ⟨plainId_quiet F.plain_min_loop _, min_loopJ W bt S hSf hcmp hJ _ 0 _ v _ rfl hn (hJ _ _ j1 fun b o _ h2 e => (Heap.get?_update_other _ _ (Ne.symm h2)).trans e) (W.frame _ _ _ hst' fun b hbf o e => ?_) hP (Heap.get?_update_self _ hS' rfl) fun v' h'' tk'' hP' hk'' => ?_⟩
  · exact (Heap.get?_update_other _ _ (fun h : S = b => hSf (by rw [h]; exact hbf))).trans e
  · exact hR v' h'' tk'' hP' fun b o hbw hbS e => hk'' b o hbw hbS ((Heap.get?_update_other _ _ (Ne.symm hbS)).trans (hk' b o hbw e))
theorem call_minJ {x : Value} {Q : Value → Shared → Prop} {E : Value → Shared → Prop} {s : Shared}
    (h : wpAny (model prog w) A.in1 (pyIter x) (fun it s₂ => ∃ I fp wr n P St bt J, it = .ref I ∧ Walks prog w A.in1 I fp wr n P St ∧ St 0 s₂.heap ∧ (∀ b ∈ fp, b < s₂.heap.objs.size) ∧ 0 < n ∧ CmpAt prog w A.in1 .Lt P bt J ∧ J s₂.heap ∧
      (∀ (S : Addr) (h h' : Heap), s₂.heap.objs.size ≤ S → J h → (∀ b o, b ∉ wr → b ≠ S → h.get? b = some o → h'.get? b = some o) → J h') ∧
      ∀ v h' tk, P (argBest bt (n - 1)) v → (∀ b o, b ∉ wr → s₂.heap.get? b = some o → h'.get? b = some o) → Q v { s₂ with heap := h', toks := tk }) E s) :
    wpAny (model prog w) A (call (.builtin "min") [x]) Q E s := by
  have hname : (toString "min" ++ toString ".loop" : String) = "min.loop" := by decide
  refine call_function_tree F.kind_min F.plain_min F.entry_min (F.args_min1 _) ?_
  show wpAny _ A.in1 (Builtin.Builtins.bindParams "min" ["key", "default"] 0 ⟨[], []⟩ >>= _) _ _ s
  refine wpAny_bind (wpAny_of_eq (show Builtin.Builtins.bindParams "min" ["key", "default"] 0 ⟨[], []⟩ = pure [none, none] from rfl) ?_)
  refine wpAny_bind (wpAny_pure ?_)
  refine wpAny_bind (wpAny_mono h (fun it s₂ h₂ => ?_) fun _ _ e => e)
  obtain ⟨I, fp, wr, n, P, St, bt, J, rfl, W, hst, hfp, hn, hcmp, j0, hJ, hQ⟩ := h₂
  refine wpAny_bind (wpAny_newObj_type ?_)
  have hSf : s₂.heap.objs.size ∉ fp := fun hm => Nat.lt_irrefl _ (hfp _ hm)
  rw [hname]
  refine wpAny_pure ⟨plainId_quiet F.plain_min_loop _, min_firstJ W bt s₂.heap.objs.size hSf hcmp (hJ _ · · (Nat.le_refl _)) hn (hJ _ _ _ (Nat.le_refl _) j0 fun b _ _ _ e => Heap.get?_push_of_some _ e) (W.frame _ _ _ hst fun b _ o e => Heap.get?_push_of_some _ e) (Heap.get?_push_size _ rfl) fun v h' tk hP hk => ?_⟩
  exact hQ v h' tk hP fun b o hbw e => hk b o hbw (Nat.ne_of_lt (Heap.lt_size e)) (Heap.get?_push_of_some _ e)
/-- min(l) -/
theorem min_list {l : Addr} {items : Array Value} {Q : Value → Shared → Prop} {E : Value → Shared → Prop} {s : Shared} (hh : A.handled = none) (hl : s.heap.IsList l items) (hne : 0 < items.size) (bt : Nat → Nat → Bool)
    (hcmp : CmpAt prog w A.in1 .Lt (fun i v => items[i]? = some v) bt J) (j0 : J s.heap) (hJ : ∀ (X : List Addr) (h h' : Heap), (∀ b ∈ X, s.heap.objs.size ≤ b) → J h → (∀ b o, b ∉ X → h.get? b = some o → h'.get? b = some o) → J h')
    (h : ∀ v h' tk, items[argBest bt (items.size - 1)]? = some v → (∀ b o, s.heap.get? b = some o → h'.get? b = some o) → Q v { s with heap := h', toks := tk }) : wpAny (model prog w) A (call (.builtin "min") [.ref l]) Q E s := by
  have hlt : l < s.heap.objs.size := by obtain ⟨_, e, _⟩ := hl; exact Heap.lt_size e
  refine call_minJ (wpAny_pyIter_list hl ?_)
  have hsz : ∀ b ∈ [s.heap.objs.size, l], b < (s.heap.push { cls := .type "list_iterator", data := .fields #[.ref l, .int 0 0] }).objs.size := fun b hb => by
    rw [Heap.size_push]
    rcases List.mem_cons.mp hb with rfl | hb
    · exact Nat.lt_succ_self _
    · rw [List.mem_singleton.mp hb]; exact Nat.lt_succ_of_lt hlt
  refine ⟨_, _, _, _, _, _, bt, J, rfl, Walks.list (A := A.in1) hh _ l (Nat.ne_of_lt hlt) items, ⟨⟨_, Heap.get?_push_size _ rfl, rfl, rfl⟩, hl.push _⟩, hsz, hne, hcmp, ?_, fun S g g' hS jg k => ?_, fun v h' tk hP hk => ?_⟩
  · exact hJ [] _ _ (fun _ h => nomatch h) j0 fun b o _ e => Heap.get?_push_of_some _ e
  · have hS' : s.heap.objs.size + 1 ≤ S := by rw [← Heap.size_push]; exact hS
    refine hJ [s.heap.objs.size, S] g g' (fun b hb => ?_) jg fun b o hb e => k b o (fun h => hb (by simp at h; simp [h])) (fun h => hb (by simp [h])) e
    rcases List.mem_cons.mp hb with rfl | hb
    · exact Nat.le_refl _
    · rw [List.mem_singleton.mp hb]; omega
  · refine h v h' tk hP fun b o e => hk b o (fun hb => ?_) (Heap.get?_push_of_some _ e)
    rw [List.mem_singleton.mp hb] at e
    exact absurd (Heap.lt_size e) (Nat.lt_irrefl _)
end
end Br

namespace Br
open PySem PySem.Spec PyProof.Rows L2
/-! ### the least fault -/
def ltT (i : Nat) (f : Flt) (j : Nat) (g : Flt) : Bool := if f.l = g.l then (if f.c = g.c then (if i = j then (if f.why = g.why then false else decide (f.why.cps.toList < g.why.cps.toList)) else decide (i < j)) else decide (f.c < g.c)) else decide (f.l < g.l)
def FtAt (h : Heap) (a : Addr) (i : Nat) (f : Flt) : Prop := ∃ its : List Value, Vals (fT i f) its ∧ IsTup h a its.toArray
theorem four_vals {i : Nat} {f : Flt} {its : List Value} (h : Vals (fT i f) its) : ∃ t0 t1 t2 t3, its = [.int f.l t0, .int f.c t1, .int i t2, .str f.why t3] := by
  unfold fT at h
  cases h with
  | cons h0 h =>
    cases h with
    | cons h1 h =>
      cases h with
      | cons h2 h =>
        cases h with
        | cons h3 h =>
          cases h
          obtain ⟨t0, rfl⟩ := h0
          obtain ⟨t1, rfl⟩ := h1
          obtain ⟨t2, rfl⟩ := h2
          obtain ⟨t3, rfl⟩ := h3
          exact ⟨t0, t1, t2, t3, rfl⟩
theorem rc_fault {A : Around} {s : Shared} {a b : Addr} {f g : Flt} {i j : Nat} (ha : FtAt s.heap a i f) (hb : FtAt s.heap b j g) (hu : A.units < cLine) : Ob.RcOp .Lt A s (.ref a) (.ref b) (ltT i f j g) := by
  obtain ⟨its, v1, p1⟩ := ha
  obtain ⟨jts, v2, p2⟩ := hb
  obtain ⟨t0, t1, t2, t3, rfl⟩ := four_vals v1
  obtain ⟨u0, u1, u2, u3, rfl⟩ := four_vals v2
  let e : Nat → Bool := fun k => match k with
    | 0 => ((f.l : Int) == g.l)
    | 1 => ((f.c : Int) == g.c)
    | 2 => ((i : Int) == j)
    | _ => (f.why == g.why)
  let r : Nat → Bool := fun k => match k with
    | 0 => decide ((f.l : Int) < g.l)
    | 1 => decide ((f.c : Int) < g.c)
    | 2 => decide ((i : Int) < j)
    | _ => decide (f.why.cps.toList < g.why.cps.toList)
  have h := Ob.RcOp.tuples_lt (A := A) (s := s) (e := e) (r := r) p1 p2 hu (fun k h1 h2 => ?_) (fun k h1 h2 _ => ?_)
  · have hv : Ob.lexAt e r (decide ((4 : Nat) < 4)) 0 (min 4 4) = ltT i f j g := by
      show (if ((f.l : Int) == g.l) = true then (if ((f.c : Int) == g.c) = true then (if ((i : Int) == j) = true then (if (f.why == g.why) = true then false else decide (f.why.cps.toList < g.why.cps.toList)) else decide ((i : Int) < j)) else decide ((f.c : Int) < g.c)) else decide ((f.l : Int) < g.l)) = _
      unfold ltT
      simp only [beq_iff_eq, Int.ofNat_inj, Int.ofNat_lt]
    rw [← hv]
    exact h
  · match k, h1, h2 with
    | 0, _, _ => exact SeqAt.EqAt.int_int _ _ _ _
    | 1, _, _ => exact SeqAt.EqAt.int_int _ _ _ _
    | 2, _, _ => exact SeqAt.EqAt.int_int _ _ _ _
    | 3, _, _ => exact SeqAt.EqAt.str_str _ _ _ _
    | k + 4, h1, _ => exact absurd h1 (by show ¬ k + 4 < 4; omega)
  · match k, h1, h2 with
    | 0, _, _ => exact Ob.RcOp.lt_int _ _ _ _
    | 1, _, _ => exact Ob.RcOp.lt_int _ _ _ _
    | 2, _, _ => exact Ob.RcOp.lt_int _ _ _ _
    | 3, _, _ => exact fun _ _ _ _ q => PyProof.Rows.lt_str q
    | k + 4, h1, _ => exact absurd h1 (by show ¬ k + 4 < 4; omega)
end Br

namespace Br
open PySem PySem.Spec PyProof.Rows L2
section
variable {X : Cx}
/-- x != [] for a list of any things -/
def rNeN (K : PySem.W.Frag) : R2 := fun x y H Q => ∃ a b xs, x = .ref a ∧ y = .ref b ∧ SqL K H a xs ∧ SqL K H b [] ∧ Q (.bl !xs.isEmpty) H
theorem op_neNil (hu : X.A.units < cLine) : OpR X (compareOp .NotEq) (rNeN X.K) := by
  intro pins s σ H x y v u Q I rx ry h
  obtain ⟨a, b, xs, rfl, rfl, ha, hb, q⟩ := h
  cases rx
  cases ry
  obtain ⟨its, r1, ⟨o1, n1, p1, c1, d1, e1⟩, z1⟩ := I.list ha
  obtain ⟨jts, r2, ⟨o2, n2, p2, c2, d2, e2⟩, z2⟩ := I.list hb
  cases r2
  have hl : s.heap.IsList a its.toArray := ⟨o1, p1, c1, n1, e1⟩
  have hb' : s.heap.IsList b (([] : List Value).toArray) := ⟨o2, p2, c2, n2, e2⟩
  cases r1 with
  | nil =>
    refine PySem.SeqAt.RcNeAt.lists (e := fun _ => true) hl hb' rfl hu (fun j h1 => ?_) _ _ _ _ ⟨.bl false, H, I, rfl, q⟩
    simp at h1
  | cons h t => exact PySem.SeqAt.RcNeAt.lists_lengths hl hb' rfl hu _ _ _ _ ⟨.bl true, H, I, rfl, q⟩
/-- min of a list of faults -/
def bestF (fs : List Flt) (i j : Nat) : Bool := match fs[i]?, fs[j]? with
  | some f, some g => ltT i f j g
  | _, _ => false
def rMinF (K : PySem.W.Frag) : List V → Hp → VK → Prop := fun vs H Q => ∃ (a : Addr) (as : List Addr) (fs : List Flt), vs = [V.ref a] ∧ SqL K H a (as.map V.ref) ∧ 0 < fs.length ∧ as.length = fs.length ∧ (∀ i c f, as[i]? = some c → fs[i]? = some f → SqT K H c (fT i f)) ∧
  ∀ c f, as[argBest (bestF fs) (fs.length - 1)]? = some c → fs[argBest (bestF fs) (fs.length - 1)]? = some f → Q (.ref c) H
theorem vals_refs : ∀ {as : List Addr} {its : List Value}, Vals (as.map V.ref) its → its = as.map Value.ref
  | [], _, .nil => rfl
  | a :: as, _, .cons h t => by rw [vals_refs t]; cases h; rfl
theorem FtAt.keeps {h h' : Heap} {a : Addr} {i : Nat} {f : Flt} (x : FtAt h a i f) (hk : ∀ o, h.get? a = some o → h'.get? a = some o) : FtAt h' a i f := let ⟨its, v, o, ho, r⟩ := x; ⟨its, v, o, hk o ho, r⟩
theorem cr_minF (hc : X.calm = true) (hu : X.A.units + 64 < cLine) : CallR X (.builtin "min") (rMinF X.K) := by
  intro pins s σ H vs us Q I r h
  obtain ⟨a, as, fs, rfl, hs, hne, hlen, hf, q⟩ := h
  obtain ⟨its, rv, hl, _⟩ := I.list hs
  rw [Vals.ref1 r]
  have e := vals_refs rv
  subst e
  have hat : ∀ i c f, as[i]? = some c → fs[i]? = some f → FtAt s.heap c i f := fun i c f h1 h2 => by
    obtain ⟨its, v, p, _⟩ := I.tuple (hf i c f h1 h2)
    exact ⟨its, v, p⟩
  let J : Heap → Prop := fun h => ∀ i c f, as[i]? = some c → fs[i]? = some f → FtAt h c i f ∧ c < s.heap.objs.size
  have hsz : ((as.map Value.ref).toArray).size = fs.length := by simp [hlen]
  refine min_list (J := J) (I.ok.hd hc) hl.isList (by rw [hsz]; exact hne) (bestF fs) ?_ (fun i c f h1 h2 => ⟨hat i c f h1 h2, ?_⟩) ?_ ?_
  · intro i j vi vj s' Q' E' hJ hi hj hq
    simp only [List.getElem?_toArray, List.getElem?_map, Option.map_eq_some_iff] at hi hj
    obtain ⟨c, hc1, rfl⟩ := hi
    obtain ⟨d, hd1, rfl⟩ := hj
    have i1 : i < fs.length := by rw [← hlen]; exact (List.getElem?_eq_some_iff.mp hc1).1
    have j1 : j < fs.length := by rw [← hlen]; exact (List.getElem?_eq_some_iff.mp hd1).1
    have e1 := List.getElem?_eq_getElem i1
    have e2 := List.getElem?_eq_getElem j1
    have hb : bestF fs i j = ltT i fs[i] j fs[j] := by unfold bestF; rw [e1, e2]
    rw [hb] at hq
    exact rc_fault (hJ i c _ hc1 e1).1 (hJ j d _ hd1 e2).1 (by show _ + 1 < _; omega) _ _ _ _ hq
  · obtain ⟨_, _, o, ho, _⟩ := hat i c f h1 h2
    exact Heap.lt_size ho
  · intro Y h h' hY hJ hk
    intro i c f h1 h2
    obtain ⟨p, lt⟩ := hJ i c f h1 h2
    exact ⟨p.keeps fun o ho => hk c o (fun hb => absurd (hY c hb) (Nat.not_le_of_lt lt)) ho, lt⟩
  · intro v h' tk hv hk
    rw [hsz] at hv
    simp only [List.getElem?_toArray, List.getElem?_map, Option.map_eq_some_iff] at hv
    obtain ⟨c, hc1, rfl⟩ := hv
    have i1 : argBest (bestF fs) (fs.length - 1) < fs.length := Nat.lt_of_lt_of_eq (List.getElem?_eq_some_iff.mp hc1).1 hlen
    exact ⟨.ref c, H, I.kept hk, rfl, q c _ hc1 (List.getElem?_eq_getElem i1)⟩
end
end Br

namespace Br
open PySem PySem.Spec PyProof.Rows L2
/-! ### the statements of a text, one after the other; what a text loads to -/
def stmF (s : Ps) (ts : List Tk) : PR :=
  match ts with
  | [] => .error (0, 0)
  | t :: _ => if t.t = "weights" then weightsF s ts else if t.t = "away" then awayF s ts else if t.t = "makeup" then makeupF s ts else .error (t.l, t.c)
def atEnd (ts : List Tk) : Bool := match ts with
  | [] => true
  | t :: _ => decide (t.k = "end")
def loopF : Nat → Ps → List Tk → Except (Nat × Nat) Ps
  | 0, s, _ => .ok s
  | k + 1, s, ts => if atEnd ts = true then .ok s else bindE (fun p => loopF k p.1 p.2) (stmF s ts)
inductive Ld where
  | rota (r : Rota)
  | syn (l c : Nat)
  | chk (why : Str) (l c : Nat)
def leastF (fs : List Flt) : Flt := (fs[argBest (bestF fs) (fs.length - 1)]?).getD ⟨0, 0, ""⟩
def insA (t : Int × Int × Int) : List (Int × Int × Int) → List (Int × Int × Int)
  | [] => [t]
  | u :: us => if t = u then u :: us else if t.1 < u.1 ∨ (t.1 = u.1 ∧ (t.2.1 < u.2.1 ∨ (t.2.1 = u.2.1 ∧ t.2.2 < u.2.2))) then t :: u :: us else u :: insA t us
def doneF (s : Ps) (js : List Nat) : Ld :=
  if s.fs = [] then .rota ⟨s.names, js.map fun j : Nat => (j : Int), s.W.getD (List.replicate s.names.length 1), s.aws.foldr insA [], s.M.getD []⟩ else .chk (leastF s.fs).why (leastF s.fs).l (leastF s.fs).c
def rotaF (ts : List Tk) : Ld :=
  match bindE (fun p => bindE (fun q => bindE (fun s => .ok (s, q.1.2)) (loopF q.2.length q.1.1 q.2)) (turnsF p.1 p.2)) (peopleF Ps.zero ts) with
  | .error e => .syn e.1 e.2
  | .ok (s, js) => doneF s js
def loadF (z : Str) : Ld := match lexF z with
  | .error e => .syn e.1 e.2
  | .ok ts => rotaF ts
/-! ### the bounds go on -/
theorem bind_inv {α β : Type} {f : α → Except (Nat × Nat) β} {e : Except (Nat × Nat) α} {b : β} (h : bindE f e = .ok b) : ∃ a, e = .ok a ∧ f a = .ok b := by
  cases e with
  | error x => cases h
  | ok a => exact ⟨a, rfl, h⟩
theorem wordF_len {w : Str} {ts r : List Tk} (h : wordF w ts = .ok r) : r.length + 1 = ts.length := by
  cases ts with
  | nil => cases h
  | cons t r' =>
    have h : (if t.t = w then Except.ok r' else .error (t.l, t.c)) = .ok r := h
    split at h
    · cases h; rfl
    · cases h
theorem takeF_len {k : Str} {ts : List Tk} {p : Tk × List Tk} (h : takeF k ts = .ok p) : p.2.length + 1 = ts.length := by
  cases ts with
  | nil => cases h
  | cons t r' =>
    have h : (if t.k = k then Except.ok (t, r') else .error (t.l, t.c)) = .ok p := h
    split at h
    · cases h; rfl
    · cases h
/-- after a statement: few faults still, the same people, fewer tokens -/
def Goes (s : Ps) (ts : List Tk) (s' : Ps) (rest : List Tk) : Prop := (Few s ts → Few s' rest) ∧ s'.names = s.names ∧ rest.length < ts.length ∧ s'.aws.length ≤ s.aws.length + 1
theorem wS_aws (p : Ps × Nat) (t : Tk) : (wS p t).1.aws = p.1.aws := by
  unfold wS; dsimp only; split <;> rfl
theorem w_aws : ∀ (ts : List Tk) (p : Ps × Nat), (ts.foldl wS p).1.aws = p.1.aws
  | [], _ => rfl
  | t :: ts, p => (w_aws ts (wS p t)).trans (wS_aws p t)
theorem twice_aws (b : Bool) (st : Tk) (s : Ps) : (twiceF b st s).aws = s.aws := by unfold twiceF; split <;> rfl
theorem short_few (st : Tk) (m : Nat) (s : Ps) : (shortF st m s).fs.length ≤ s.fs.length + 1 ∧ (shortF st m s).names = s.names ∧ (shortF st m s).aws = s.aws := by
  unfold shortF
  split
  · exact ⟨by rw [bad_len]; exact Nat.le_refl _, rfl, rfl⟩
  · exact ⟨Nat.le_succ _, rfl, rfl⟩
theorem weights_goes {s s' : Ps} {ts rest : List Tk} (h : weightsF s ts = .ok (s', rest)) : Goes s ts s' rest := by
  cases ts with
  | nil => cases h
  | cons st r =>
    obtain ⟨t1, e1, h⟩ := bind_inv h
    obtain ⟨p, e2, h⟩ := bind_inv h
    cases h
    have l1 := wordF_len e1
    have l2 := allF_len (tk := p.1) (rest := p.2) e2
    obtain ⟨a1, a2, _⟩ := w_few p.1 (twiceF s.W.isSome st s, 0)
    obtain ⟨b1, b2⟩ := twice_few s.W.isSome st s
    obtain ⟨c1, c2, c3⟩ := short_few st p.1.length (p.1.foldl wS (twiceF s.W.isSome st s, 0)).1
    refine ⟨fun hf => ?_, c2.trans (a2.trans b2), by omega, ?_⟩
    · have a1 : (p.1.foldl wS (twiceF s.W.isSome st s, 0)).1.fs.length ≤ (twiceF s.W.isSome st s).fs.length + p.1.length := a1
      show (shortF st p.1.length (p.1.foldl wS (twiceF s.W.isSome st s, 0)).1).fs.length + 3 * p.2.length ≤ 30000
      have hf : s.fs.length + 3 * (st :: r).length ≤ 30000 := hf
      omega
    · show (shortF st p.1.length (p.1.foldl wS (twiceF s.W.isSome st s, 0)).1).aws.length ≤ _
      rw [c3, w_aws, twice_aws]; exact Nat.le_succ _
end Br

namespace Br
open PySem PySem.Spec PyProof.Rows L2
theorem person_aws (s : Ps) (t : Tk) : (personF s t).2.aws = s.aws := by unfold personF; split <;> rfl
theorem mk_aws : ∀ (ts : List Tk) (p : Ps × List Nat), (ts.foldl mkS p).1.aws = p.1.aws
  | [], _ => rfl
  | t :: ts, p => (mk_aws ts (mkS p t)).trans (person_aws p.1 t)
theorem makeup_goes {s s' : Ps} {ts rest : List Tk} (h6 : s.names.length ≤ 6) (h : makeupF s ts = .ok (s', rest)) : Goes s ts s' rest := by
  cases ts with
  | nil => cases h
  | cons st r =>
    obtain ⟨t1, e1, h⟩ := bind_inv h
    obtain ⟨p, e2, h⟩ := bind_inv h
    cases h
    have l1 := wordF_len e1
    have l2 := allF_len (tk := p.1) (rest := p.2) e2
    obtain ⟨a1, a2, _⟩ := mk_few p.1 (s, []) h6 (fun j hj => nomatch hj)
    have a3 := mk_aws p.1 (s, [])
    generalize (p.1.foldl mkS (s, [])).1 = sp at *
    obtain ⟨b1, b2⟩ := twice_few s.M.isSome st sp
    refine ⟨fun hf => ?_, b2.trans a2, by omega, ?_⟩
    · have a1 : sp.fs.length ≤ s.fs.length + p.1.length := a1
      show (twiceF s.M.isSome st sp).fs.length + 3 * p.2.length ≤ 30000
      have hf : s.fs.length + 3 * (st :: r).length ≤ 30000 := hf
      omega
    · show (twiceF s.M.isSome st sp).aws.length ≤ _
      rw [twice_aws, a3]; exact Nat.le_succ _
theorem awayB_few (st : Tk) (s : Ps) (tr tm : Tk) : (awayB st s tr tm).fs.length ≤ s.fs.length + 1 ∧ (awayB st s tr tm).names = s.names ∧ (awayB st s tr tm).aws = s.aws := by
  unfold awayB
  split
  · exact ⟨by rw [bad_len]; exact Nat.le_refl _, rfl, rfl⟩
  · split
    · exact ⟨by rw [bad_len]; exact Nat.le_refl _, rfl, rfl⟩
    · split
      · exact ⟨by rw [bad_len]; exact Nat.le_refl _, rfl, rfl⟩
      · exact ⟨Nat.le_succ _, rfl, rfl⟩
theorem away_goes {s s' : Ps} {ts rest : List Tk} (h : awayF s ts = .ok (s', rest)) : Goes s ts s' rest := by
  cases ts with
  | nil => cases h
  | cons st r =>
    obtain ⟨t1, e1, h⟩ := bind_inv h
    obtain ⟨p1, e2, h⟩ := bind_inv h
    obtain ⟨p2, e3, h⟩ := bind_inv h
    obtain ⟨t4, e4, h⟩ := bind_inv h
    obtain ⟨p3, e5, h⟩ := bind_inv h
    obtain ⟨t6, e6, h⟩ := bind_inv h
    cases h
    have l1 := wordF_len e1
    have l2 := takeF_len e2
    have l3 := takeF_len e3
    have l4 := wordF_len e4
    have l5 := takeF_len e5
    have l6 := wordF_len e6
    obtain ⟨a1, a2, _⟩ := personF_few s p1.1
    have a3 := person_aws s p1.1
    unfold awayEnd
    generalize (personF s p1.1).1 = k at *
    generalize (personF s p1.1).2 = sp at *
    obtain ⟨b1, b2, b3⟩ := awayB_few st sp p2.1 p3.1
    refine ⟨fun hf => ?_, b2.trans a2, by omega, ?_⟩
    · show (awayB st sp p2.1 p3.1).fs.length + 3 * rest.length ≤ 30000
      have hf : s.fs.length + 3 * (st :: r).length ≤ 30000 := hf
      omega
    · show ((awayB st sp p2.1 p3.1).aws ++ [_]).length ≤ _
      rw [List.length_append, b3, a3]; exact Nat.le_refl _
theorem stm_goes {s s' : Ps} {ts rest : List Tk} (h6 : s.names.length ≤ 6) (h : stmF s ts = .ok (s', rest)) : Goes s ts s' rest := by
  cases ts with
  | nil => cases h
  | cons t r =>
    have h : (if t.t = "weights" then weightsF s (t :: r) else if t.t = "away" then awayF s (t :: r) else if t.t = "makeup" then makeupF s (t :: r) else .error (t.l, t.c)) = .ok (s', rest) := h
    split at h
    · exact weights_goes h
    · split at h
      · exact away_goes h
      · split at h
        · exact makeup_goes h6 h
        · cases h
theorem miss_few (st : Tk) (p : Ps × List Nat) : (missF st p).fs.length ≤ p.1.fs.length + 1 ∧ (missF st p).names = p.1.names := by
  unfold missF
  split
  · exact ⟨by rw [bad_len]; exact Nat.le_refl _, rfl⟩
  · exact ⟨Nat.le_succ _, rfl⟩
theorem turns_goes {s s' : Ps} {ts rest : List Tk} {js : List Nat} (h : turnsF s ts = .ok ((s', js), rest)) : (Few s ts → Few s' rest) ∧ s'.names = s.names ∧ rest.length < ts.length := by
  cases ts with
  | nil => cases h
  | cons st r =>
    obtain ⟨t1, e1, h⟩ := bind_inv h
    obtain ⟨p, e2, h⟩ := bind_inv h
    cases h
    have l1 := wordF_len e1
    have l2 := allF_len (tk := p.1) (rest := p.2) e2
    obtain ⟨a1, a2, _⟩ := turn_few p.1 (s, [])
    obtain ⟨b1, b2⟩ := miss_few st (p.1.foldl turnS (s, []))
    refine ⟨fun hf => ?_, b2.trans a2, by omega⟩
    have a1 : (p.1.foldl turnS (s, [])).1.fs.length ≤ s.fs.length + 2 * p.1.length := a1
    show (missF st (p.1.foldl turnS (s, []))).fs.length + 3 * p.2.length ≤ 30000
    have hf : s.fs.length + 3 * (st :: r).length ≤ 30000 := hf
    omega
theorem people_goes {s s' : Ps} {ts rest : List Tk} (h6 : s.names.length ≤ 6) (h : peopleF s ts = .ok (s', rest)) : (Few s ts → Few s' rest) ∧ s'.names.length ≤ 6 ∧ rest.length < ts.length := by
  obtain ⟨t1, e1, h⟩ := bind_inv h
  obtain ⟨p, e2, h⟩ := bind_inv h
  cases h
  have l1 := wordF_len e1
  have l2 := allF_len (tk := p.1) (rest := p.2) e2
  obtain ⟨a1, a2⟩ := people_few p.1 s
  refine ⟨fun hf => ?_, a2 h6, by omega⟩
  show (p.1.foldl peopleS s).fs.length + 3 * p.2.length ≤ 30000
  have hf : s.fs.length + 3 * ts.length ≤ 30000 := hf
  omega
end Br

namespace Br
open PySem PySem.Spec PyProof.Rows L2
/-- without a fault the absences are few and small -/
def FsAw (s : Ps) : Prop := s.fs = [] → s.aws.length ≤ 20 ∧ ∀ t ∈ s.aws, 0 ≤ t.1 ∧ t.1 < 7 ∧ t.2.1 < t.2.2 ∧ t.2.2 ∈ mods
/-- the faults stay -/
def Grow (s s' : Ps) : Prop := s'.fs = [] → s.fs = []
theorem FsAw.same {s s' : Ps} (h : FsAw s) (g : Grow s s') (e : s'.aws = s.aws) : FsAw s' := fun hf => by rw [e]; exact h (g hf)
theorem bad_ne (s : Ps) (t : Tk) (w : Str) : (s.bad t w).fs ≠ [] := fun h => by
  have := congrArg List.length h
  rw [bad_len] at this; cases this
theorem grow_bad (s : Ps) (t : Tk) (w : Str) : Grow s (s.bad t w) := fun h => absurd h (bad_ne s t w)
theorem person_grow (s : Ps) (t : Tk) : Grow s (personF s t).2 := by
  unfold personF
  split
  · exact fun h => h
  · exact grow_bad s t _
theorem wS_grow (p : Ps × Nat) (t : Tk) : Grow p.1 (wS p t).1 := by
  unfold wS; dsimp only; split
  · exact grow_bad _ _ _
  · exact fun h => h
theorem w_grow : ∀ (ts : List Tk) (p : Ps × Nat), Grow p.1 (ts.foldl wS p).1
  | [], _ => fun h => h
  | t :: ts, p => fun h => wS_grow p t (w_grow ts (wS p t) h)
theorem mk_grow : ∀ (ts : List Tk) (p : Ps × List Nat), Grow p.1 (ts.foldl mkS p).1
  | [], _ => fun h => h
  | t :: ts, p => fun h => person_grow p.1 t (mk_grow ts (mkS p t) h)
theorem twice_grow (b : Bool) (st : Tk) (s : Ps) : Grow s (twiceF b st s) := by
  unfold twiceF; split
  · exact grow_bad _ _ _
  · exact fun h => h
theorem short_grow (st : Tk) (m : Nat) (s : Ps) : Grow s (shortF st m s) := by
  unfold shortF; split
  · exact grow_bad _ _ _
  · exact fun h => h
theorem weights_aw {s s' : Ps} {ts rest : List Tk} (o : FsAw s) (h : weightsF s ts = .ok (s', rest)) : FsAw s' := by
  cases ts with
  | nil => cases h
  | cons st r =>
    obtain ⟨t1, e1, h⟩ := bind_inv h
    obtain ⟨p, e2, h⟩ := bind_inv h
    cases h
    refine o.same (fun hf => twice_grow _ st s (w_grow p.1 (twiceF s.W.isSome st s, 0) (short_grow st _ _ hf))) ?_
    show (shortF st p.1.length (p.1.foldl wS (twiceF s.W.isSome st s, 0)).1).aws = _
    rw [(short_few _ _ _).2.2, w_aws, twice_aws]
theorem makeup_aw {s s' : Ps} {ts rest : List Tk} (o : FsAw s) (h : makeupF s ts = .ok (s', rest)) : FsAw s' := by
  cases ts with
  | nil => cases h
  | cons st r =>
    obtain ⟨t1, e1, h⟩ := bind_inv h
    obtain ⟨p, e2, h⟩ := bind_inv h
    cases h
    refine o.same (fun hf => mk_grow p.1 (s, []) (twice_grow _ st _ hf)) ?_
    show (twiceF s.M.isSome st (p.1.foldl mkS (s, [])).1).aws = _
    rw [twice_aws, mk_aws]
theorem awayB_ok {st : Tk} {s : Ps} {tr tm : Tk} (h : (awayB st s tr tm).fs = []) : s.fs = [] ∧ valT tm.t ∈ mods ∧ valT tr.t < valT tm.t ∧ s.aws.length ≠ 20 := by
  unfold awayB at h
  split at h
  · exact absurd h (bad_ne _ _ _)
  · rename_i h1
    split at h
    · exact absurd h (bad_ne _ _ _)
    · rename_i h2
      split at h
      · exact absurd h (bad_ne _ _ _)
      · rename_i h3
        exact ⟨h, Classical.not_not.mp h1, by omega, h3⟩
theorem away_aw {s s' : Ps} {ts rest : List Tk} (h6 : s.names.length ≤ 6) (o : FsAw s) (h : awayF s ts = .ok (s', rest)) : FsAw s' := by
  cases ts with
  | nil => cases h
  | cons st r =>
    obtain ⟨t1, e1, h⟩ := bind_inv h
    obtain ⟨p1, e2, h⟩ := bind_inv h
    obtain ⟨p2, e3, h⟩ := bind_inv h
    obtain ⟨t4, e4, h⟩ := bind_inv h
    obtain ⟨p3, e5, h⟩ := bind_inv h
    obtain ⟨t6, e6, h⟩ := bind_inv h
    cases h
    intro hf
    obtain ⟨g1, g2, g3, g4⟩ := awayB_ok (show (awayB st (personF s p1.1).2 p2.1 p3.1).fs = [] from hf)
    obtain ⟨o1, o2⟩ := o (person_grow s p1.1 g1)
    rw [person_aws] at g4
    show ((awayB st (personF s p1.1).2 p2.1 p3.1).aws ++ [_]).length ≤ 20 ∧ ∀ t ∈ (awayB st (personF s p1.1).2 p2.1 p3.1).aws ++ [_], _
    rw [(awayB_few _ _ _ _).2.2, person_aws]
    refine ⟨by rw [List.length_append]; show s.aws.length + 1 ≤ 20; omega, fun t ht => ?_⟩
    rcases List.mem_append.mp ht with ht | ht
    · exact o2 t ht
    · rw [List.mem_singleton.mp ht]
      have := personF_lt s p1.1 h6
      exact ⟨Int.natCast_nonneg _, by show ((personF s p1.1).1 : Int) < 7; omega, g3, g2⟩
theorem stm_aw {s s' : Ps} {ts rest : List Tk} (h6 : s.names.length ≤ 6) (o : FsAw s) (h : stmF s ts = .ok (s', rest)) : FsAw s' := by
  cases ts with
  | nil => cases h
  | cons t r =>
    have h : (if t.t = "weights" then weightsF s (t :: r) else if t.t = "away" then awayF s (t :: r) else if t.t = "makeup" then makeupF s (t :: r) else .error (t.l, t.c)) = .ok (s', rest) := h
    split at h
    · exact weights_aw o h
    · split at h
      · exact away_aw h6 o h
      · split at h
        · exact makeup_aw o h
        · cases h
end Br

namespace Br
open PySem PySem.Spec PyProof.Rows L2
theorem loop_end {s : Ps} {ts : List Tk} (h : atEnd ts = true) : ∀ k, loopF k s ts = .ok s
  | 0 => rfl
  | k + 1 => if_pos h
theorem loop_step {s : Ps} {ts : List Tk} (h : ¬ atEnd ts = true) (k : Nat) : loopF (k + 1) s ts = bindE (fun p => loopF k p.1 p.2) (stmF s ts) := if_neg h
/-- fuel enough is enough -/
theorem loop_fuel : ∀ (m k : Nat) (s : Ps) (ts : List Tk), s.names.length ≤ 6 → ts.length ≤ m → m ≤ k → loopF k s ts = loopF m s ts
  | m, k, s, ts, h6, hm, hk => by
    by_cases he : atEnd ts = true
    · rw [loop_end he, loop_end he]
    cases m with
    | zero =>
      cases ts with
      | nil => exact absurd rfl he
      | cons t r => exact absurd hm (by rw [List.length_cons]; omega)
    | succ m =>
      cases k with
      | zero => omega
      | succ k =>
        rw [loop_step he, loop_step he]
        cases hs : stmF s ts with
        | error e => rfl
        | ok p =>
          obtain ⟨s', rest⟩ := p
          rw [bindE_ok, bindE_ok]
          obtain ⟨_, g2, g3, _⟩ := stm_goes h6 hs
          exact loop_fuel m k s' rest (by rw [g2]; exact h6) (by omega) (by omega)
/-- one statement on -/
theorem loop_on {s s' : Ps} {ts rest : List Tk} (h6 : s.names.length ≤ 6) (he : ¬ atEnd ts = true) (hs : stmF s ts = .ok (s', rest)) : loopF ts.length s ts = loopF rest.length s' rest := by
  obtain ⟨_, g2, g3, _⟩ := stm_goes h6 hs
  cases hl : ts.length with
  | zero => omega
  | succ m =>
    rw [loop_step he, hs, bindE_ok]
    exact loop_fuel rest.length m s' rest (by rw [g2]; exact h6) (Nat.le_refl _) (by omega)
theorem loop_bad {s : Ps} {ts : List Tk} {e : Nat × Nat} (h6 : s.names.length ≤ 6) (he : ¬ atEnd ts = true) (hs : stmF s ts = .error e) : loopF ts.length s ts = .error e := by
  cases hl : ts.length with
  | zero =>
    cases ts with
    | nil => exact absurd rfl he
    | cons t r => cases hl
  | succ m => rw [loop_step he, hs, bindE_er]
end Br

namespace Br
open PySem PySem.Spec PyProof.Rows L2
/-! ### the absences, each once, ascending -/
theorem insA_mem (t : Int × Int × Int) : ∀ (us : List (Int × Int × Int)) (x : Int × Int × Int), x ∈ insA t us ↔ x = t ∨ x ∈ us
  | [], x => by show x ∈ [t] ↔ _; simp
  | u :: us, x => by
    show x ∈ (if t = u then u :: us else if t.1 < u.1 ∨ (t.1 = u.1 ∧ (t.2.1 < u.2.1 ∨ (t.2.1 = u.2.1 ∧ t.2.2 < u.2.2))) then t :: u :: us else u :: insA t us) ↔ _
    split
    · rename_i h; subst h; simp
    · split
      · simp
      · rw [List.mem_cons, insA_mem t us x, List.mem_cons]
        constructor
        · rintro (h | h | h)
          · exact .inr (.inl h)
          · exact .inl h
          · exact .inr (.inr h)
        · rintro (h | h | h)
          · exact .inr (.inl h)
          · exact .inl h
          · exact .inr (.inr h)
theorem lexLt_tr {a b c : Int × Int × Int} (h : lexLt a b) (h' : lexLt b c) : lexLt a c := by
  unfold lexLt at *; omega
theorem lexLt_or {a b : Int × Int × Int} (h : ¬ lexLt a b) (hn : a ≠ b) : lexLt b a := by
  obtain ⟨a1, a2, a3⟩ := a
  obtain ⟨b1, b2, b3⟩ := b
  have hn : ¬ (a1 = b1 ∧ a2 = b2 ∧ a3 = b3) := fun ⟨x, y, z⟩ => hn (by rw [x, y, z])
  unfold lexLt at *
  dsimp only at *
  omega
theorem insA_asc (t : Int × Int × Int) : ∀ {us : List (Int × Int × Int)}, us.Pairwise lexLt → (insA t us).Pairwise lexLt
  | [], _ => by show [t].Pairwise lexLt; simp
  | u :: us, h => by
    show (if t = u then u :: us else if t.1 < u.1 ∨ (t.1 = u.1 ∧ (t.2.1 < u.2.1 ∨ (t.2.1 = u.2.1 ∧ t.2.2 < u.2.2))) then t :: u :: us else u :: insA t us).Pairwise lexLt
    split
    · exact h
    · rename_i hne
      split
      · rename_i hl
        refine List.pairwise_cons.mpr ⟨fun x hx => ?_, h⟩
        rcases List.mem_cons.mp hx with rfl | hx
        · exact hl
        · exact lexLt_tr hl ((List.pairwise_cons.mp h).1 x hx)
      · rename_i hl
        refine List.pairwise_cons.mpr ⟨fun x hx => ?_, insA_asc t (List.pairwise_cons.mp h).2⟩
        rcases (insA_mem t us x).mp hx with rfl | hx
        · exact lexLt_or hl hne
        · exact (List.pairwise_cons.mp h).1 x hx
theorem sortA_asc : ∀ (us : List (Int × Int × Int)), (us.foldr insA []).Pairwise lexLt
  | [] => List.Pairwise.nil
  | u :: us => insA_asc u (sortA_asc us)
theorem sortA_mem : ∀ (us : List (Int × Int × Int)) (x : Int × Int × Int), x ∈ us.foldr insA [] ↔ x ∈ us
  | [], x => Iff.rfl
  | u :: us, x => by
    show x ∈ insA u (us.foldr insA []) ↔ _
    rw [insA_mem, sortA_mem us x, List.mem_cons]
/-- the sorted different ones are these -/
theorem sortA_is {us vs : List (Int × Int × Int)} (p : vs.Pairwise lexLt) (h : ∀ x, x ∈ vs ↔ x ∈ us) : vs = us.foldr insA [] := asc_unique lexLt_irr p (sortA_asc us) fun x => (h x).trans (sortA_mem us x).symm
end Br

namespace Br
open PySem PySem.Spec PyProof.Rows L2
/-! ### remainders are not negative -/
def NumT (ts : List Tk) : Prop := ∀ t ∈ ts, t.k = "number" → ∃ v : Nat, v ≤ 99 ∧ t.t = num v
def RemOk (s : Ps) : Prop := ∀ t ∈ s.aws, 0 ≤ t.2.1
theorem wordF_is {w : Str} {ts r : List Tk} (h : wordF w ts = .ok r) : ∃ t, ts = t :: r := by
  cases ts with
  | nil => cases h
  | cons t r' =>
    have h : (if t.t = w then Except.ok r' else .error (t.l, t.c)) = .ok r := h
    split at h
    · cases h; exact ⟨t, rfl⟩
    · cases h
theorem takeF_is {k : Str} {ts : List Tk} {p : Tk × List Tk} (h : takeF k ts = .ok p) : ts = p.1 :: p.2 ∧ p.1.k = k := by
  cases ts with
  | nil => cases h
  | cons t r' =>
    have h : (if t.k = k then Except.ok (t, r') else .error (t.l, t.c)) = .ok p := h
    split at h
    · rename_i e; cases h; exact ⟨rfl, e⟩
    · cases h
theorem away_rem {s s' : Ps} {ts rest : List Tk} (hn : NumT ts) (o : RemOk s) (h : awayF s ts = .ok (s', rest)) : RemOk s' := by
  cases ts with
  | nil => cases h
  | cons st r =>
    obtain ⟨t1, e1, h⟩ := bind_inv h
    obtain ⟨p1, e2, h⟩ := bind_inv h
    obtain ⟨p2, e3, h⟩ := bind_inv h
    obtain ⟨t4, e4, h⟩ := bind_inv h
    obtain ⟨p3, e5, h⟩ := bind_inv h
    obtain ⟨t6, e6, h⟩ := bind_inv h
    cases h
    obtain ⟨t0, d0⟩ := wordF_is e1
    obtain ⟨d1, _⟩ := takeF_is e2
    obtain ⟨d2, k2⟩ := takeF_is e3
    have hm : p2.1 ∈ st :: r := by rw [d0, d1, d2]; simp
    obtain ⟨v, hv, hs⟩ := hn _ hm k2
    obtain ⟨_, _, hval⟩ := valT_ok hv hs
    intro t ht
    have ht : t ∈ (awayB st (personF s p1.1).2 p2.1 p3.1).aws ++ [(((personF s p1.1).1 : Int), valT p2.1.t, valT p3.1.t)] := ht
    rw [(awayB_few _ _ _ _).2.2, person_aws] at ht
    rcases List.mem_append.mp ht with ht | ht
    · exact o t ht
    · rw [List.mem_singleton.mp ht]
      show 0 ≤ valT p2.1.t
      rw [hval]; exact Int.natCast_nonneg _
theorem stm_rem {s s' : Ps} {ts rest : List Tk} (hn : NumT ts) (o : RemOk s) (h : stmF s ts = .ok (s', rest)) : RemOk s' := by
  cases ts with
  | nil => cases h
  | cons t r =>
    have h : (if t.t = "weights" then weightsF s (t :: r) else if t.t = "away" then awayF s (t :: r) else if t.t = "makeup" then makeupF s (t :: r) else .error (t.l, t.c)) = .ok (s', rest) := h
    split at h
    · obtain ⟨t1, e1, h⟩ := bind_inv h
      obtain ⟨p, e2, h⟩ := bind_inv h
      cases h
      intro x hx
      have hx : x ∈ (shortF t p.1.length (p.1.foldl wS (twiceF s.W.isSome t s, 0)).1).aws := hx
      rw [(short_few _ _ _).2.2, w_aws, twice_aws] at hx
      exact o x hx
    · split at h
      · exact away_rem hn o h
      · split at h
        · obtain ⟨t1, e1, h⟩ := bind_inv h
          obtain ⟨p, e2, h⟩ := bind_inv h
          cases h
          intro x hx
          have hx : x ∈ (twiceF s.M.isSome t (p.1.foldl mkS (s, [])).1).aws := hx
          rw [twice_aws, mk_aws] at hx
          exact o x hx
        · cases h
/-- without a fault every absence fits -/
theorem aw_fits {s : Ps} (f : FsAw s) (o : RemOk s) (h : s.fs = []) : s.aws.length ≤ 20 ∧ ∀ t ∈ s.aws, AwOk 7 t := by
  obtain ⟨h1, h2⟩ := f h
  refine ⟨h1, fun t ht => ?_⟩
  obtain ⟨a, b, c, d⟩ := h2 t ht
  exact ⟨a, b, o t ht, c, d⟩
end Br

namespace Br
open PySem PySem.Spec PyProof.Rows L2
def chkD (why : Str) (l c : Int) : HO := .xd [("column", .int c), ("line", .int l), ("reason", .str why)]
theorem peopleS_aws (s : Ps) (t : Tk) : (peopleS s t).aws = s.aws ∧ s.names.length ≤ (peopleS s t).names.length := by
  unfold peopleS
  split
  · exact ⟨rfl, Nat.le_refl _⟩
  · split
    · exact ⟨rfl, Nat.le_refl _⟩
    · exact ⟨rfl, by show _ ≤ (s.names ++ [t.t]).length; rw [List.length_append]; exact Nat.le_succ _⟩
theorem people_aws : ∀ (ts : List Tk) (s : Ps), (ts.foldl peopleS s).aws = s.aws ∧ s.names.length ≤ (ts.foldl peopleS s).names.length
  | [], _ => ⟨rfl, Nat.le_refl _⟩
  | t :: ts, s => ⟨(people_aws ts (peopleS s t)).1.trans (peopleS_aws s t).1, Nat.le_trans (peopleS_aws s t).2 (people_aws ts (peopleS s t)).2⟩
theorem allF_one {k : Str} {ts tk rest : List Tk} (h : allF k ts = .ok (tk, rest)) : ∃ t r, tk = t :: r := by
  cases ts with
  | nil => cases h
  | cons t r =>
    have h : (if t.k = k then withE (t :: r.takeWhile (isK k)) (wordF ";" (r.dropWhile (isK k))) else .error (t.l, t.c)) = .ok (tk, rest) := h
    split at h
    · cases hd : wordF ";" (r.dropWhile (isK k)) with
      | error e => rw [hd] at h; cases h
      | ok v => rw [hd] at h; cases h; exact ⟨_, _, rfl⟩
    · cases h
theorem people_zero {ts rest : List Tk} {s' : Ps} (h : peopleF Ps.zero ts = .ok (s', rest)) : s'.aws = [] ∧ 1 ≤ s'.names.length := by
  obtain ⟨t1, e1, h⟩ := bind_inv h
  obtain ⟨p, e2, h⟩ := bind_inv h
  cases h
  obtain ⟨t, r, e3⟩ := allF_one (tk := p.1) (rest := p.2) e2
  refine ⟨(people_aws _ _).1, ?_⟩
  rw [e3, List.foldl_cons]
  exact Nat.le_trans (by show 1 ≤ 1; exact Nat.le_refl _) (people_aws r (peopleS Ps.zero t)).2
theorem turnS_aws (p : Ps × List Nat) (t : Tk) : (turnS p t).1.aws = p.1.aws := by
  unfold turnS
  dsimp only
  split
  · exact person_aws p.1 t
  · exact person_aws p.1 t
theorem turn_aws : ∀ (ts : List Tk) (p : Ps × List Nat), (ts.foldl turnS p).1.aws = p.1.aws
  | [], _ => rfl
  | t :: ts, p => (turn_aws ts (turnS p t)).trans (turnS_aws p t)
theorem turns_aws {s s' : Ps} {ts rest : List Tk} {js : List Nat} (h : turnsF s ts = .ok ((s', js), rest)) : s'.aws = s.aws := by
  cases ts with
  | nil => cases h
  | cons st r =>
    obtain ⟨t1, e1, h⟩ := bind_inv h
    obtain ⟨p, e2, h⟩ := bind_inv h
    cases h
    show (missF st (p.1.foldl turnS (s, []))).aws = s.aws
    rw [← turn_aws p.1 (s, [])]
    unfold missF; split <;> rfl
theorem rotaF_e1 {ts : List Tk} {e : Nat × Nat} (h : peopleF Ps.zero ts = .error e) : rotaF ts = .syn e.1 e.2 := by
  unfold rotaF; rw [h, bindE_er]
theorem rotaF_e2 {ts r1 : List Tk} {s1 : Ps} {e : Nat × Nat} (h : peopleF Ps.zero ts = .ok (s1, r1)) (h2 : turnsF s1 r1 = .error e) : rotaF ts = .syn e.1 e.2 := by
  unfold rotaF; rw [h, bindE_ok]; dsimp only; rw [h2, bindE_er]
theorem rotaF_e3 {ts r1 r2 : List Tk} {s1 s2 : Ps} {js : List Nat} {e : Nat × Nat} (h : peopleF Ps.zero ts = .ok (s1, r1)) (h2 : turnsF s1 r1 = .ok ((s2, js), r2)) (h3 : loopF r2.length s2 r2 = .error e) : rotaF ts = .syn e.1 e.2 := by
  unfold rotaF; rw [h, bindE_ok]; dsimp only; rw [h2, bindE_ok]; dsimp only; rw [h3, bindE_er]
theorem rotaF_ok {ts r1 r2 : List Tk} {s1 s2 s3 : Ps} {js : List Nat} (h : peopleF Ps.zero ts = .ok (s1, r1)) (h2 : turnsF s1 r1 = .ok ((s2, js), r2)) (h3 : loopF r2.length s2 r2 = .ok s3) : rotaF ts = doneF s3 js := by
  unfold rotaF; rw [h, bindE_ok]; dsimp only; rw [h2, bindE_ok]; dsimp only; rw [h3, bindE_ok]
theorem Rm.len {L : List (Addr × Tk)} {n : Nat} {ts : List Tk} (h : Rm L n ts) : ts.length = L.length - n := by
  unfold Rm at h; rw [← h, List.length_drop, List.length_map]
theorem Rm.names {L : List (Addr × Tk)} {n : Nat} {ts : List Tk} (h : Rm L n ts) : namesN ts ≤ namesN (L.map Prod.snd) := by
  unfold Rm at h; rw [← h]
  exact ((List.drop_sublist n (L.map Prod.snd)).filter (isK "name")).length_le
theorem Rm.num {L : List (Addr × Tk)} {n : Nat} {ts : List Tk} (h : Rm L n ts) (o : NumOk L) : NumT ts := fun t ht hk => by
  unfold Rm at h; rw [← h] at ht
  obtain ⟨q, hq, rfl⟩ := List.mem_map.mp (List.mem_of_mem_drop ht)
  exact o q hq hk
theorem PG.atOf {CP CT : Addr} {z : Pz} {L : List (Addr × Tk)} {n : Nat} {s : Ps} {H : Hp} (h : PG CP CT z L n s H) : atOf (H z.x) = n := by
  obtain ⟨A, h⟩ := h
  rw [h.ob]
  unfold Br.atOf
  simp only [gf_at]; rfl
theorem least_is {fs : List Flt} {f : Flt} (h : fs[argBest (bestF fs) (fs.length - 1)]? = some f) : leastF fs = f := by
  unfold leastF; rw [h]; rfl
section
variable {P : Program} {w : World} {K : PySem.W.Frag} {mg : Str → Option Value} {base : Heap} {CT CP CF CK : Addr}
def spRotaG (CP CT CF CK : Addr) : Sp := fun vs H Q E => ∃ (z : Pz) (L : List (Addr × Tk)), vs = [.ref z.x] ∧ PG CP CT z L 0 Ps.zero H ∧ L.length ≤ 10000 ∧ NumOk L ∧ EndOk (L.map Prod.snd) ∧ namesN (L.map Prod.snd) ≤ 60 ∧
  match rotaF (L.map Prod.snd) with
  | .rota r => ∀ H' a, Wd z.mu H H' [] → RotaAt H' a r → Q (.ref a) H'
  | .syn l c => ∀ (d : Addr) (H' : Hp), Wd z.mu H H' [(d, synD l c)] → E (.ref CF) (some d) H'
  | .chk why l c => ∀ (d : Addr) (H' : Hp), Wd z.mu H H' [(d, chkD why l c)] → E (.ref CK) (some d) H'
theorem me_rotaG (D : MethAt K CP "parse_rota" "Parser.parse_rota" sParser_parse_rota ["self"]) (T : Bi mg) (PC : ParCls K CP) (TC : TokCls K CT) (LC : LexC K mg) (EX_CheckFault : ExAt P w K mg base "CheckFault" CK ["reason", "line", "column"])
    (C0 : MeAt P w K mg base 1 CP "peek" ["self"] (spPeekG CP CT)) (C1 : MeX P w K mg base 6 CP "parse_people" ["self"] (spPeopleG CP CT CF))
    (C2 : MeX P w K mg base 6 CP "parse_turns" ["self"] (spTurnsG CP CT CF)) (C3 : MeX P w K mg base 6 CP "parse_weights" ["self"] (spWeightsG CP CT CF))
    (C4 : MeX P w K mg base 5 CP "parse_away" ["self"] (spAwayG CP CT CF)) (C5 : MeX P w K mg base 6 CP "parse_makeup" ["self"] (spMakeG CP CT CF)) (C6 : MeX P w K mg base 3 CP "fail" ["self"] (spFailG CP CT CF)) :
    MeX P w K mg base 7 CP "parse_rota" ["self"] (spRotaG CP CT CF CK) := D.meX fun f fd F => by
  have nd := scParser_parse_rota.nd
  have cl_Parser := PC.cl
  obtain ⟨t1, c_END⟩ := LC.END
  obtain ⟨f0, fd0, me_peek, b_peek, G_peek⟩ := C0.ex
  obtain ⟨f1, fd1, me_parse_people, b_parse_people, G_parse_people⟩ := C1.ex
  obtain ⟨f2, fd2, me_parse_turns, b_parse_turns, G_parse_turns⟩ := C2.ex
  obtain ⟨f3, fd3, me_parse_weights, b_parse_weights, G_parse_weights⟩ := C3.ex
  obtain ⟨f4, fd4, me_parse_away, b_parse_away, G_parse_away⟩ := C4.ex
  obtain ⟨f5, fd5, me_parse_makeup, b_parse_makeup, G_parse_makeup⟩ := C5.ex
  obtain ⟨f6, fd6, me_fail, b_fail, G_fail⟩ := C6.ex
  refine F.okX scParser_parse_rota (fun vs H Q E h => ?_) (fun cdv A outer s H vs Q E hr h => ?_)
  · obtain ⟨z, L, rfl, _⟩ := h; rfl
  obtain ⟨z, L, rfl, hp, hll, hnum, hend, hnn, q⟩ := h
  have hu := hr.units
  refine ⟨_, (pss_cons (ps_expr (pe_meth0 (pv 0) cl_Parser me_parse_people G_parse_people (hr.mono (by first | decide | omega)) b_parse_people .nil (passes_call (takes_of rfl rfl rfl rfl) (fun _ _ _ _ h => h))))
 (pss_cons (ps_set (i := 1) nd rfl (Or.inl rfl) (pe_meth0 (pv 0) cl_Parser me_parse_turns G_parse_turns (hr.mono (by first | decide | omega)) b_parse_turns .nil (passes_call (takes_of rfl rfl rfl rfl) (fun _ _ _ _ h => h))))
 (pss_cons (ps_while (passes_of rfl) (pt_cmpR op_ne (pe_fldK (K := K) rfl (pe_meth0 (pv 0) cl_Parser me_peek G_peek (hr.mono (by first | decide | omega)) b_peek .nil pass0) rfl) (pe_glob (v := .str "end") (by rfl) c_END ⟨_, rfl⟩) (nomark _))
 (pss_one (ps_match (pe_fldK (K := K) rfl (pe_meth0 (pv 0) cl_Parser me_peek G_peek (hr.mono (by first | decide | omega)) b_peek .nil pass0) rfl) (pcs_str (pss_one (ps_expr (pe_meth0 (pv 0) cl_Parser me_parse_weights G_parse_weights (hr.mono (by first | decide | omega)) b_parse_weights .nil (passes_call (takes_of rfl rfl rfl rfl) (fun _ _ _ _ h => h))))) (pcs_str (pss_one (ps_expr (pe_meth0 (pv 0) cl_Parser me_parse_away G_parse_away (hr.mono (by first | decide | omega)) b_parse_away .nil (passes_call (takes_of rfl rfl rfl rfl) (fun _ _ _ _ h => h))))) (pcs_str (pss_one (ps_expr (pe_meth0 (pv 0) cl_Parser me_parse_makeup G_parse_makeup (hr.mono (by first | decide | omega)) b_parse_makeup .nil (passes_call (takes_of rfl rfl rfl rfl) (fun _ _ _ _ h => h))))) (pcs_any (pss_one (ps_expr (pe_meth0 (pv 0) cl_Parser me_fail G_fail (hr.mono (by first | decide | omega)) b_fail .nil (passes_call (takes_of rfl rfl rfl rfl) (fun _ _ _ _ h => h))))))))))))
 (pss_cons (ps_if (pt_cmpR (r := rNeN K) (op_neNil (Nat.lt_of_le_of_lt (Nat.le_add_right _ 64) hu)) (pe_fldK (K := K) rfl (pv 0) rfl) (pe_lst pa_nil) (nomark _))
 (pss_cons (ps_asg (pe_callB (r := rMinF K) (cr_minF rfl hu) (by rfl) T.min (by decide +kernel) (pa_cons (pe_fldK (K := K) rfl (pv 0) rfl) pa_nil)) (pg_tupK (K := K) (n := 4) rfl rfl (pgs_cons (pg_name (i := 2) nd rfl (Or.inl rfl)) (pgs_cons (pg_name (i := 3) nd rfl (Or.inl rfl)) (pgs_cons (pg_name (i := 4) nd rfl (Or.inl rfl)) (pgs_cons (pg_name (i := 5) nd rfl (Or.inl rfl)) pgs_nil))))))
 (pss_one (ps_raise rfl (takes_of rfl rfl rfl rfl) (pmk_ex EX_CheckFault (hr.mono (by first | decide | omega)) (by rfl) (pa_cons (pv 5) (pa_cons (pv 2) (pa_cons (pv 3) pa_nil))) (by decide)))))
 pss_nil)
 (C8.pss_cut (ps_set (i := 6) nd rfl (Or.inl rfl) (pe_ifExp (pt_cmpR op_notN (pe_fldK (K := K) rfl (pv 0) rfl) pe_non (nomark _)) (pe_fldK (K := K) rfl (pv 0) rfl) (pe_op (r := rRepA K) op_repA (pe_tup (pa_cons pe_int pa_nil)) (pe_callB (r := rLenS K) call_len_seq (by rfl) T.len PySem.boot_len (pa_cons (pe_fldK (K := K) rfl (pv 0) rfl) pa_nil)))))
 (C8.pss_cut (ps_set (i := 7) nd rfl (Or.inl rfl) (pe_ifExp (pt_cmpR op_notN (pe_fldK (K := K) rfl (pv 0) rfl) pe_non (nomark _)) (pe_fldK (K := K) rfl (pv 0) rfl) (pe_tup pa_nil)))
 (pss_one (ps_ret (pe_tup (pa_cons (pe_callTy (r := rTupOfF K) call_tuple_ofF (by rfl) T.tuple (by decide +kernel) (pa_cons (pe_fldK (K := K) rfl (pv 0) rfl) pa_nil)) (pa_cons (pv 1) (pa_cons (pv 6) (pa_cons (pe_callTy (r := rTupOf K) call_tuple_of (by rfl) T.tuple (by decide +kernel) (pa_cons (pe_callB (r := rSortedT K P w) (cr_sortedT rfl) (by rfl) T.sorted (by decide +kernel) (pa_cons (pe_callTy (r := rSetOfT K P w) (cr_setOfT rfl hu) (by rfl) T.set (by decide +kernel) (pa_cons (pe_fldK (K := K) rfl (pv 0) rfl) pa_nil)) pa_nil)) pa_nil)) (pa_cons (pv 7) pa_nil)))))))))))))), ?_⟩
  have ob : ∀ {H' : Hp} {n' : Nat} {s' : Ps}, PG CP CT z L n' s' H' → ∃ fs, H' z.x = some (.ins CP z.dx fs) ∧ (∀ m : Str, (∀ f ∈ (["tokens", "at", "faults", "names", "weights", "makers", "aways"] : List Str), (m == f) = false) → fs.lookup m = none) := fun ⟨A, h⟩ => ⟨_, h.ob, fun m hm => gf_none hm⟩
  have hfew0 : Few Ps.zero (L.map Prod.snd) := by show 0 + 3 * (L.map Prod.snd).length ≤ 30000; rw [List.length_map]; omega
  have hrm0 : Rm L 0 (L.map Prod.snd) := List.drop_zero
  obtain ⟨b0, o0, n0⟩ := ob hp
  refine ⟨_, rfl, z.x, z.dx, _, rfl, o0, n0 _ (by decide +kernel), z, L, 0, Ps.zero, _, rfl, hp, hll, hrm0, hend, hfew0, (by show 0 ≤ 6; decide), ?_⟩
  cases hpe : peopleF Ps.zero (L.map Prod.snd) with
  | error e =>
    rw [rotaF_e1 hpe] at q
    exact q
  | ok p1 =>
  obtain ⟨s1, r1⟩ := p1
  intro H1 n1 c1 hp1 hr1 he1
  obtain ⟨g1, g2, g3⟩ := people_goes (by show 0 ≤ 6; decide) hpe
  obtain ⟨ga, gn⟩ := people_zero hpe
  obtain ⟨b1, o1, m1⟩ := ob hp1
  refine ⟨_, rfl, z.x, z.dx, _, rfl, o1, m1 _ (by decide +kernel), z, L, n1, s1, _, rfl, hp1, hll, hr1, he1, g1 hfew0, g2, ?_⟩
  cases htu : turnsF s1 r1 with
  | error e =>
    rw [rotaF_e2 hpe htu] at q
    exact fun d H2 w2 => q d H2 (c1.go2 w2)
  | ok p2 =>
  obtain ⟨⟨s2, js⟩, r2⟩ := p2
  intro H2 n2 tn c2 hp2 hr2 he2 htn
  obtain ⟨k1, k2, k3⟩ := turns_goes htu
  have ka := turns_aws htu
  have htn' : H2 tn = some (.tup ((js.map fun j : Nat => (j : Int)).map V.int)) := by rw [List.map_map]; exact htn
  have hq1 : ∀ e, loopF r2.length s2 r2 = .error e → ∀ (d : Addr) (H' : Hp), Wd z.mu H H' [(d, synD e.1 e.2)] → E (.ref CF) (some d) H' := fun e he => by rw [rotaF_e3 hpe htu he] at q; exact q
  have hq2 : ∀ s3, loopF r2.length s2 r2 = .ok s3 → (match doneF s3 js with
    | .rota r => ∀ H' a, Wd z.mu H H' [] → RotaAt H' a r → Q (.ref a) H'
    | .syn l c => ∀ (d : Addr) (H' : Hp), Wd z.mu H H' [(d, synD l c)] → E (.ref CF) (some d) H'
    | .chk why l c => ∀ (d : Addr) (H' : Hp), Wd z.mu H H' [(d, chkD why l c)] → E (.ref CK) (some d) H') := fun s3 he => by rw [rotaF_ok hpe htu he] at q; exact q
  clear q
  refine while_by (fun σ H' => σ = [some (.ref z.x), some (.ref tn), none, none, none, none, none, none] ∧ ∃ (n : Nat) (s : Ps) (ts : List Tk), Wd z.mu H H' [] ∧ PG CP CT z L n s H' ∧ H' tn = some (.tup ((js.map fun j : Nat => (j : Int)).map V.int)) ∧ Rm L n ts ∧ EndOk ts ∧ Few s ts ∧
      s.names.length ≤ 6 ∧ 1 ≤ s.names.length ∧ FsAw s ∧ RemOk s ∧ s.aws.length + ts.length ≤ 10000 ∧ loopF ts.length s ts = loopF r2.length s2 r2) (fun _ H' => L.length - atOf (H' z.x))
    ⟨rfl, n2, s2, r2, c1.fgo c2, hp2, htn', hr2, he2, k1 (g1 hfew0), by rw [k2]; exact g2, by rw [k2]; exact gn, fun _ => by rw [ka, ga]; exact ⟨Nat.zero_le _, fun t ht => nomatch ht⟩, fun t ht => (by rw [ka, ga] at ht; exact nomatch ht), (by rw [ka, ga]; have := hr2.len; show 0 + r2.length ≤ 10000; omega), rfl⟩ ?_ ?_
  · rintro σ H3 ⟨rfl, n, sv, ts, c3, hp3, htn3, hr3, he3, hfew, h6, h1n, hfa, hre, haw, hlo⟩
    obtain ⟨t0, r0, rfl⟩ := he3.ne
    obtain ⟨⟨a0, h0⟩, hr4⟩ := hr3.cons
    obtain ⟨A3, hA3⟩ := id hp3
    obtain ⟨b3, o3, m3⟩ := ob hp3
    obtain ⟨tdx, hta⟩ := hA3.ts _ (List.mem_of_getElem? h0)
    have hat := hp3.atOf
    refine ⟨_, rfl, z.x, z.dx, _, rfl, o3, m3 _ (by decide +kernel), z, L, n, sv, a0, t0, rfl, hp3, h0, a0, CT, tdx, _, _, rfl, hta, TC.cl, TC.nk, tk_kind _ _ _ _, rfl, _, rfl, ?_⟩
    by_cases hk : t0.k = "end"
    · refine ite2 (fun h => absurd h (by rw [hk]; simp)) (fun _ => ?_)
      rw [loop_end (ts := t0 :: r0) (decide_eq_true hk)] at hlo
      have hd := hq2 sv hlo.symm
      refine ⟨_, rfl, z.x, CP, z.dx, _, _, rfl, hA3.ob, PC.cl, PC.n3, gf_faults, (by show 0 ≤ sizeLine; decide), fun e he => ?_⟩
      have w4 := (Wd.refl H3).new (.lst []) he
      have c4 := c3.fnew (.lst []) he
      have hp4 := hp3.wd0 w4
      have htn4 := w4.tups _ _ htn3
      have hee : upd H3 e (.lst []) e = some (.lst []) := upd_same
      generalize upd H3 e (.lst []) = H4 at *
      obtain ⟨A4, hA4⟩ := id hp4
      refine ⟨z.fl, e, A4.fa.map V.ref, rfl, rfl, SqL.of hA4.fl, SqL.of hee, _, rfl, ?_⟩
      by_cases hf : sv.fs = []
      · have e1 : A4.fa = [] := List.length_eq_zero_iff.mp (by rw [hA4.fn, hf]; rfl)
        rw [e1]
        refine ite2 (fun h => absurd h (by decide)) (fun _ => ?_)
        rw [show doneF sv js = _ from if_pos hf] at hd
        have hd : ∀ H' a, Wd z.mu H H' [] → RotaAt H' a ⟨sv.names, js.map fun j : Nat => (j : Int), sv.W.getD (List.replicate sv.names.length 1), sv.aws.foldr insA [], sv.M.getD []⟩ → Q (.ref a) H' := hd
        obtain ⟨haw20, haok⟩ := aw_fits hfa hre hf
        refine ⟨fun σ H' => ∃ aw, σ = [some (.ref z.x), some (.ref tn), none, none, none, none, some (.ref aw), none] ∧ Wd z.mu H H' [] ∧ PG CP CT z L n sv H' ∧ H' tn = some (.tup ((js.map fun j : Nat => (j : Int)).map V.int)) ∧ H' aw = some (.tup ((sv.W.getD (List.replicate sv.names.length 1)).map V.int)), ?_, ?_⟩
        · refine ⟨_, rfl, z.x, CP, z.dx, _, _, rfl, hA4.ob, PC.cl, PC.n5, gf_weights, rfl, _, rfl, ?_⟩
          cases hW : sv.W with
          | none =>
            refine iteF ?_
            refine ⟨(by show 1 ≤ sizeLine; decide), fun tp htp => ?_⟩
            have w5 := (Wd.refl H4).new (.tup [V.int 1]) htp
            have hp5 := hp4.wd0 w5
            have c5 := c4.fnew (.tup [V.int 1]) htp
            have htn5 := w5.tups _ _ htn4
            obtain ⟨A5, hA5⟩ := id hp5
            refine ⟨_, rfl, z.x, CP, z.dx, _, _, rfl, hA5.ob, PC.cl, PC.n4, gf_names, z.nl, _, rfl, .inl (SqL.of hA5.nl), tp, _, [V.int 1], rfl, rfl, SqT.of upd_same, by simp, ?_, ?_, by simp, fun hk => ?_, fun hk p hpn => ?_⟩
            · rw [List.length_map]; omega
            · rw [List.length_map]; omega
            · rw [List.length_map] at hk
              refine ⟨tp, rfl, c5, hp5, htn5, ?_⟩
              rw [show sv.names.length = 1 by omega]
              exact upd_same
            · have w6 := (Wd.refl _).new (.tup (List.replicate (((sv.names.map V.str).length : Nat) : Int).toNat [V.int 1]).flatten) hpn
              refine ⟨p, rfl, c5.fnew _ hpn, hp5.wd0 w6, w6.tups _ _ htn5, ?_⟩
              rw [upd_same, List.length_map, Int.toNat_natCast]
              have e5 : ∀ n : Nat, (List.replicate n [V.int 1]).flatten = (List.replicate n (1 : Int)).map V.int := fun n => by
                induction n with
                | zero => rfl
                | succ n ih => rw [List.replicate_succ, List.flatten_cons, ih, List.replicate_succ]; rfl
              rw [e5]; rfl
          | some wl =>
            refine iteT ?_
            refine ⟨_, rfl, z.x, CP, z.dx, _, _, rfl, hA4.ob, PC.cl, PC.n5, gf_weights, ?_⟩
            exact ⟨A4.wa, by rw [hW]; rfl, c4, hp4, htn4, hA4.w _ hW⟩
        · rintro σ H5 ⟨aw, rfl, c5, hp5, htn5, haw5⟩
          obtain ⟨A5, hA5⟩ := id hp5
          refine ⟨fun σ H' => ∃ am, σ = [some (.ref z.x), some (.ref tn), none, none, none, none, some (.ref aw), some (.ref am)] ∧ Wd z.mu H H' [] ∧ PG CP CT z L n sv H' ∧ H' tn = some (.tup ((js.map fun j : Nat => (j : Int)).map V.int)) ∧ H' aw = some (.tup ((sv.W.getD (List.replicate sv.names.length 1)).map V.int)) ∧ H' am = some (.tup ((sv.M.getD []).map V.int)), ?_, ?_⟩
          · refine ⟨_, rfl, z.x, CP, z.dx, _, _, rfl, hA5.ob, PC.cl, PC.n6, gf_makers, rfl, _, rfl, ?_⟩
            cases hM : sv.M with
            | none =>
              refine iteF ?_
              refine ⟨(by show 0 ≤ sizeLine; decide), fun tp htp => ?_⟩
              have w6 := (Wd.refl H5).new (.tup []) htp
              exact ⟨tp, rfl, c5.fnew _ htp, hp5.wd0 w6, w6.tups _ _ htn5, w6.tups _ _ haw5, upd_same⟩
            | some ml =>
              refine iteT ?_
              refine ⟨_, rfl, z.x, CP, z.dx, _, _, rfl, hA5.ob, PC.cl, PC.n6, gf_makers, ?_⟩
              exact ⟨A5.ma, by rw [hM]; rfl, c5, hp5, htn5, haw5, hA5.m _ hM⟩
          · rintro σ H6 ⟨am, rfl, c6, hp6, htn6, haw6, ham6⟩
            obtain ⟨A6, hA6⟩ := id hp6
            obtain ⟨ps, ps1, ps2, ps3⟩ := hA6.aw.zip
            refine ⟨_, rfl, z.x, CP, z.dx, _, _, rfl, hA6.ob, PC.cl, PC.n4, gf_names, z.nl, _, rfl, SqL.of hA6.nl, fun an ono hono han => ?_⟩
            have w1 := (Wd.refl H6).new (.frz ono (.tup (sv.names.map V.str))) han
            have hA7 := hA6.wd0 w1
            have psl : ps.length ≤ 20 := by have h2 := congrArg List.length ps2; rw [List.length_map] at h2; omega
            refine ⟨_, rfl, _, rfl, _, rfl, z.x, CP, z.dx, _, _, rfl, hA7.ob, PC.cl, PC.n7, gf_aways, z.al, ps.map (fun q => (q.1, l3 q.2)), rfl, ?_, ?_, ?_, fun sa L1 hsa hsub hcov => ?_⟩
            · have e : (ps.map (fun q => (q.1, l3 q.2))).map (fun p => V.ref p.1) = A6.as.map V.ref := by rw [List.map_map, ps1, List.map_map]; rfl
              rw [e]; exact SqL.of hA7.al
            · intro p hp
              obtain ⟨g, hg, rfl⟩ := List.mem_map.mp hp
              exact SqT.of (w1.tups _ _ (ps3 g hg))
            · rw [List.length_map]; omega
            have w2 := w1.new (SetTO P w sa L1) hsa
            have hL1 : ∀ p ∈ L1, ∃ g ∈ ps, p = (g.1, l3 g.2) := fun p hp => by
              obtain ⟨g, hg, e⟩ := List.mem_map.mp (hsub p hp)
              exact ⟨g, hg, e.symm⟩
            have hin : ∀ g ∈ ps, g.2 ∈ sv.aws := fun g hg => by rw [ps2]; exact List.mem_map.mpr ⟨g, hg, rfl⟩
            refine ⟨sa, L1, 3, 13, rfl, w2.get 0 rfl, ?_, by decide, ?_, fun L2 lp hperm hnd _ hpw hlp => ?_⟩
            · intro p hp
              obtain ⟨g, hg, rfl⟩ := hL1 p hp
              exact SqT.of (w2.tups _ _ (ps3 g hg))
            · intro p hp
              obtain ⟨g, hg, rfl⟩ := hL1 p hp
              refine ⟨rfl, fun x hx => ?_⟩
              obtain ⟨g1, g2, g3, g4, g5⟩ := haok _ (hin g hg)
              have g6 : g.2.2.2 ≤ 12 := by simp at g5; omega
              simp only [l3, List.mem_cons, List.not_mem_nil, or_false] at hx
              rcases hx with rfl | rfl | rfl <;> omega
            have w3 := w2.new (.lst (L2.map fun q => V.ref q.1)) hlp
            have hL2 : ∀ p ∈ L2, ∃ g ∈ ps, p = (g.1, l3 g.2) := fun p hp => hL1 p (hperm.mem_iff.mp hp)
            refine ⟨lp, _, rfl, .inl ⟨SqL.of (w3.get 0 rfl), fun aa haa => ?_⟩⟩
            have w4 := w3.new (.tup (L2.map fun q => V.ref q.1)) haa
            refine ⟨_, rfl, (by show 5 ≤ sizeLine; decide), fun a ha => ?_⟩
            have w5 := w4.new (.tup [V.ref an, V.ref tn, V.ref aw, V.ref aa, V.ref am]) ha
            have c7 : Wd z.mu H _ [] := c6.fgo ((w5.sub (List.nil_sublist _)).mono fun _ h => nomatch h)
            have hsrt : L2.map (fun q => tr3 q.2) = sv.aws.foldr insA [] := by
              refine sortA_is ?_ fun t => ?_
              · rw [List.pairwise_map]
                have hnd2 : (L2.map (·.2)).Nodup := hnd
                have hnd3 : L2.Pairwise fun p q => p.2 ≠ q.2 := List.pairwise_map.mp hnd2
                refine (hpw.and hnd3).imp_of_mem fun {p q} hp hq ⟨h, ne⟩ => ?_
                obtain ⟨g, hg, rfl⟩ := hL2 p hp
                obtain ⟨k, hk, rfl⟩ := hL2 q hq
                exact lex_of_code (n := 7) (by decide) (haok _ (hin g hg)) (haok _ (hin k hk)) h (fun e => ne (congrArg l3 e))
              · constructor
                · intro ht
                  obtain ⟨p, hp, rfl⟩ := List.mem_map.mp ht
                  obtain ⟨g, hg, rfl⟩ := hL2 p hp
                  exact hin g hg
                · intro ht
                  rw [ps2] at ht
                  obtain ⟨g, hg, rfl⟩ := List.mem_map.mp ht
                  obtain ⟨p, hp, e⟩ := List.mem_map.mp (hcov (g.1, l3 g.2) (List.mem_map.mpr ⟨g, hg, rfl⟩))
                  exact List.mem_map.mpr ⟨p, hperm.mem_iff.mpr hp, by rw [e]; rfl⟩
            refine hd _ a c7 ⟨an, tn, aw, aa, am, L2.map (·.1), w5.get 0 rfl, ⟨ono, hono, w5.get 4 rfl⟩, w5.tups _ _ htn6, w5.tups _ _ haw6, ?_, ?_, w5.tups _ _ ham6⟩
            · rw [List.map_map]; exact w5.get 1 rfl
            · show AwAt _ _ (sv.aws.foldr insA [])
              rw [← hsrt]
              have e1 : L2.map (·.1) = (L2.map (fun q => (q.1, tr3 q.2))).map (·.1) := by rw [List.map_map]; rfl
              have e2 : L2.map (fun q => tr3 q.2) = (L2.map (fun q => (q.1, tr3 q.2))).map (·.2) := by rw [List.map_map]; rfl
              rw [e1, e2]
              refine AwAt.of fun p hp => ?_
              obtain ⟨p', hp', rfl⟩ := List.mem_map.mp hp
              obtain ⟨g, hg, rfl⟩ := hL2 p' hp'
              exact w5.tups _ _ (ps3 g hg)
      · have e1 : (A4.fa.map V.ref).isEmpty = false := by
          cases hfa4 : A4.fa with
          | nil => exact absurd (List.length_eq_zero_iff.mp (by rw [← hA4.fn, hfa4]; rfl)) hf
          | cons a l => rfl
        rw [e1]
        refine ite2 (fun _ => ?_) (fun h => absurd rfl h)
        rw [show doneF sv js = _ from if_neg hf] at hd
        refine ⟨_, rfl, z.x, CP, z.dx, _, _, rfl, hA4.ob, PC.cl, PC.n3, gf_faults, z.fl, A4.fa, sv.fs, rfl, SqL.of hA4.fl, List.length_pos_iff.mpr hf, hA4.fn, fun i c f h1 h2 => SqT.of (hA4.ft i c f h1 h2), fun c f hc1 hf1 => ?_⟩
        rw [least_is hf1] at hd
        have hft := hA4.ft _ c f hc1 hf1
        refine ⟨c, fT _ f, rfl, SqT.of hft, rfl, ?_⟩
        exact ⟨_, _, rfl, _, _, rfl, _, _, rfl, _, _, rfl, rfl, _, rfl, _, rfl, _, rfl, rfl, fun d H' w => hd d H' (c4.go2 (w.mono fun _ h => nomatch h))⟩
    · refine ite2 (fun _ => ?_) (fun h => absurd (by simpa using hk) h)
      have hne : ¬ atEnd (t0 :: r0) = true := fun h => hk (of_decide_eq_true h)
      have on : ∀ {s' : Ps} {rest : List Tk} {H4 : Hp} {n' : Nat}, stmF sv (t0 :: r0) = .ok (s', rest) → Wd z.mu H3 H4 [] → PG CP CT z L n' s' H4 → Rm L n' rest → EndOk rest →
          ((([some (.ref z.x), some (.ref tn), none, none, none, none, none, none] : List (Option V)) = [some (.ref z.x), some (.ref tn), none, none, none, none, none, none] ∧ ∃ (n : Nat) (s : Ps) (ts : List Tk), Wd z.mu H H4 [] ∧ PG CP CT z L n s H4 ∧ H4 tn = some (.tup ((js.map fun j : Nat => (j : Int)).map V.int)) ∧ Rm L n ts ∧ EndOk ts ∧ Few s ts ∧
      s.names.length ≤ 6 ∧ 1 ≤ s.names.length ∧ FsAw s ∧ RemOk s ∧ s.aws.length + ts.length ≤ 10000 ∧ loopF ts.length s ts = loopF r2.length s2 r2) ∧ L.length - atOf (H4 z.x) < L.length - atOf (H3 z.x)) := fun {s' rest H4 n'} hs c4 hp4 hr5 he5 => by
        obtain ⟨q1, q2, q3, q4⟩ := stm_goes h6 hs
        refine ⟨⟨rfl, n', s', rest, c3.fgo c4, hp4, c4.tups _ _ htn3, hr5, he5, q1 hfew, by rw [q2]; exact h6, by rw [q2]; exact h1n, stm_aw h6 hfa hs, stm_rem (hr3.num hnum) hre hs, by omega, ?_⟩, ?_⟩
        · rw [← hlo]; exact (loop_on h6 hne hs).symm
        · rw [hp4.atOf, hat]
          have l1 := hr5.len
          have l2 := hr3.len
          omega
      have bad : ∀ {e : Nat × Nat} {d : Addr} {H4 : Hp}, stmF sv (t0 :: r0) = .error e → Wd z.mu H3 H4 [(d, synD e.1 e.2)] → E (.ref CF) (some d) H4 := fun {e d H4} hs w4 => hq1 e (hlo.symm.trans (loop_bad h6 hne hs)) d H4 (c3.go2 w4)
      refine ⟨_, rfl, z.x, z.dx, _, rfl, o3, m3 _ (by decide +kernel), z, L, n, sv, a0, t0, rfl, hp3, h0, a0, CT, tdx, _, _, rfl, hta, TC.cl, TC.nt, tk_text _ _ _ _, _, rfl, ?_⟩
      dsimp only
      by_cases hw : t0.t = "weights"
      · have es : stmF sv (t0 :: r0) = weightsF sv (t0 :: r0) := if_pos hw
        rw [if_pos hw]
        refine ⟨_, rfl, z.x, z.dx, _, rfl, o3, m3 _ (by decide +kernel), z, L, n, sv, _, rfl, hp3, hll, hnum, hr3, he3, hfew, h6, ?_⟩
        cases hs : weightsF sv (t0 :: r0) with
        | error e => exact fun d H4 w4 => bad (es.trans hs) w4
        | ok p => obtain ⟨s', rest⟩ := p; exact fun H4 n' c4 hp4 hr5 he5 => on (es.trans hs) c4 hp4 hr5 he5
      rw [if_neg hw]
      by_cases ha : t0.t = "away"
      · have es : stmF sv (t0 :: r0) = awayF sv (t0 :: r0) := (if_neg hw).trans (if_pos ha)
        rw [if_pos ha]
        refine ⟨_, rfl, z.x, z.dx, _, rfl, o3, m3 _ (by decide +kernel), z, L, n, sv, _, rfl, hp3, hll, hnum, hr3, he3, hfew, by omega, ?_⟩
        cases hs : awayF sv (t0 :: r0) with
        | error e => exact fun d H4 w4 => bad (es.trans hs) w4
        | ok p => obtain ⟨s', rest⟩ := p; exact fun H4 n' c4 hp4 hr5 he5 => on (es.trans hs) c4 hp4 hr5 he5
      rw [if_neg ha]
      by_cases hm : t0.t = "makeup"
      · have es : stmF sv (t0 :: r0) = makeupF sv (t0 :: r0) := (if_neg hw).trans ((if_neg ha).trans (if_pos hm))
        rw [if_pos hm]
        refine ⟨_, rfl, z.x, z.dx, _, rfl, o3, m3 _ (by decide +kernel), z, L, n, sv, _, rfl, hp3, hll, hr3, he3, hfew, h6, Nat.le_trans hr3.names hnn, ?_⟩
        cases hs : makeupF sv (t0 :: r0) with
        | error e => exact fun d H4 w4 => bad (es.trans hs) w4
        | ok p => obtain ⟨s', rest⟩ := p; exact fun H4 n' c4 hp4 hr5 he5 => on (es.trans hs) c4 hp4 hr5 he5
      rw [if_neg hm]
      have es : stmF sv (t0 :: r0) = .error (t0.l, t0.c) := (if_neg hw).trans ((if_neg ha).trans (if_neg hm))
      exact ⟨_, rfl, z.x, z.dx, _, rfl, o3, m3 _ (by decide +kernel), z, L, n, sv, a0, t0, rfl, hp3, h0, fun d H4 w4 => bad es (w4.mono fun _ h => nomatch h)⟩
  · intro σ H2 Q1 Q2 hm hc
    obtain ⟨v0, e0, a, dx', fs, ea, eo, en, z', L', n', s', a', t', e1, e2, e3, a'', C'', dx'', fs'', v'', g1, g2, g3, g4, g5, e5, b, hb, hc⟩ := hc
    exact ⟨v0, e0, a, dx', fs, ea, eo, en, z', L', n', s', a', t', e1, e2, e3, a'', C'', dx'', fs'', v'', g1, g2, g3, g4, g5, e5, b, hb, hm _ _ hc⟩
end
end Br

namespace Br
open PySem PySem.Spec PyProof.Rows L2
/-- a text of no great size -/
def Small (z : Str) : Prop := z.length ≤ 3000 ∧ ∀ ts, lexF z = .ok ts → ts.length ≤ 10000 ∧ namesN ts ≤ 60
theorem Wd.hid {M : List Addr} {H H1 H3 : Hp} {l : List (Addr × HO)} (hm : ∀ a ∈ M, H a = none) (c1 : Wd [] H H1 []) (c : Wd M H1 H3 l) : Wd [] H H3 l :=
  ⟨fun b o _ e => c.base b o (fun hb => by rw [hm b hb] at e; cases e) (c1.base b o (by simp) e), fun b xs e => c.tups _ _ (c1.tups _ _ e), fun q hq => (c.own q hq).elim (fun h => .inl (c1.free _ h)) (fun h => .inl (hm _ h)), c.at_, c.nd, fun p e => c1.free p (c.free p e)⟩
section
variable {P : Program} {w : World} {K : PySem.W.Frag} {mg : Str → Option Value} {base : Heap} {CT CP CF CK : Addr}
def spLoadG (CF CK : Addr) : Sp := fun vs H Q E => ∃ z : Str, vs = [.str z] ∧ Small z ∧
  match loadF z with
  | .rota r => ∀ H' a, Wd [] H H' [] → RotaAt H' a r → Q (.ref a) H'
  | .syn l c => ∀ (d : Addr) (H' : Hp), Wd [] H H' [(d, synD l c)] → E (.ref CF) (some d) H'
  | .chk why l c => ∀ (d : Addr) (H' : Hp), Wd [] H H' [(d, chkD why l c)] → E (.ref CK) (some d) H'
theorem cal_loadG (D : DefAt K mg "load" sload ["rota"]) (PC : ParCls K CP) (cn : CT ≠ CP) (C1 : CalX P w K mg base 4 "tokenize" ["source"] (spTokG CT CF)) (CM : MkAt P w K mg base 1 "Parser" CP ["self", "tokens"] (spParIG CP CT))
    (C2 : MeX P w K mg base 7 CP "parse_rota" ["self"] (spRotaG CP CT CF CK)) : CalX P w K mg base 8 "load" ["rota"] (spLoadG CF CK) := D.calX fun f fd F => by
  have nd := scload.nd
  have cl_Parser := PC.cl
  obtain ⟨f1, fd1, m_tokenize, kp_tokenize, b_tokenize, G_tokenize⟩ := C1.ex
  obtain ⟨f2, fd2, mC_Parser, Mk_Parser, b_Parser, G_Parser⟩ := CM.ex
  obtain ⟨f3, fd3, me_parse_rota, b_parse_rota, G_parse_rota⟩ := C2.ex
  refine F.okX scload (fun vs H Q E h => ?_) (fun cdv A outer s H vs Q E hr h => ?_)
  · obtain ⟨z, rfl, _⟩ := h; rfl
  obtain ⟨z, rfl, ⟨hlen, hsm⟩, q⟩ := h
  refine ⟨_, (pss_one (ps_ret (pe_meth0 (pe_make Mk_Parser G_Parser (hr.mono (by first | decide | omega)) (by rfl) mC_Parser b_Parser .nil pass0 (pa_cons (pe_call G_tokenize (hr.mono (by first | decide | omega)) (by rfl) m_tokenize kp_tokenize b_tokenize .nil (passes_call (takes_of rfl rfl rfl rfl) (fun _ _ _ _ h => h)) (pa_cons (pv 0) pa_nil)) pa_nil)) cl_Parser me_parse_rota G_parse_rota (hr.mono (by first | decide | omega)) b_parse_rota .nil (passes_call (takes_of rfl rfl rfl rfl) (fun _ _ _ _ h => h))))), ?_⟩
  refine ⟨_, rfl, z, rfl, hlen, ?_⟩
  cases hlx : lexF z with
  | error e =>
    rw [show loadF z = .syn e.1 e.2 from by unfold loadF; rw [hlx]] at q
    exact q
  | ok ts =>
  rw [show loadF z = rotaF ts from by unfold loadF; rw [hlx]] at q
  obtain ⟨hs1, hs2⟩ := hsm ts hlx
  obtain ⟨hx1, hx2⟩ := lexF_ok hlx
  intro p L H1 w1 hT hL _
  intro x dx hx hd ne
  have w2 := w1.make CP hx hd ne
  have hT2 : TksP CT (upd (upd H1 dx (.own x)) x (.ins CP dx [])) L := (hT.new hd).new (by rw [upd_ne ne.symm]; exact hx)
  refine ⟨x, dx, p, L, rfl, upd_same, w2.get 2 rfl, hT2, cn, fun z' H2 hz c2 hp hmu => ⟨rfl, ?_⟩⟩
  obtain ⟨A2, hA2⟩ := id hp
  have hob := hA2.ob
  rw [hz] at hob
  subst hL
  refine ⟨x, _, _, rfl, hob, gf_none (by decide +kernel), z', L, by rw [hz]; rfl, hp, by rw [← List.length_map (f := Prod.snd)]; exact hs1, fun q hq => hx2 _ (List.mem_map.mpr ⟨q, hq, rfl⟩), hx1, hs2, ?_⟩
  have hfr : ∀ a ∈ z'.mu, H a = none := fun a ha => by
    rcases hmu a ha with h | h
    · rw [h]; exact w1.free x hx
    · exact w2.free a h
  have hcx : ∀ {l : List (Addr × HO)} {H3 : Hp}, Wd z'.mu H2 H3 l → Wd [] H H3 l := fun {l H3} c3 => Wd.hid hfr (w2.sub (List.nil_sublist _)) (Wd.go2 (c2.mono fun a ha => by rw [List.mem_singleton.mp ha, ← hz]; simp [Pz.mu]) c3)
  cases hr : rotaF (L.map Prod.snd) with
  | rota r => rw [hr] at q; exact fun H3 a c3 hR => q H3 a (hcx c3) hR
  | syn l c => rw [hr] at q; exact fun d H3 c3 => q d H3 (hcx c3)
  | chk y l c => rw [hr] at q; exact fun d H3 c3 => q d H3 (hcx c3)
end
end Br

namespace Br
open PySem PySem.Spec PyProof.Rows L2
/-! ### d.get(k, x), d a dict of the module, the key there or not -/
section
variable {X : Cx} {o e f : Expr} {apos cpos : Pos} {td ty tx : TE}
def tKGetO (K : PySem.W.Frag) (w : World) (td ty tx : TE) : TE := fun σ H Q => td σ H fun x H1 => ∃ p es n, x = .ref p ∧ K.lookup p = some ⟨.type "dict", none, .dict es n, #[]⟩ ∧ PySem.W.KeysLit w.params es.toList ∧ (p == sysModules) = false ∧
  ty σ H1 fun y H2 => ∃ z, y = .str z ∧ ((∃ v u, PySem.W.nsIn K p z = some (some u) ∧ RelV v u ∧ tx σ H2 fun _ H3 => Q v H3) ∨ (PySem.W.nsIn K p z = some none ∧ tx σ H2 fun d H3 => Q d H3))
end
/-! ### what is no operation -/
def lenW (z : Str) : Nat := if z ∈ (["step", "gift", "forgive"] : List Str) then 2 else if z ∈ (["reset", "undo", "redo"] : List Str) then 1 else 0
def BadT (xs : List V) : Prop := xs = [] ∨ (∃ i rest, xs = .int i :: rest) ∨ (∃ z rest, xs = .str z :: rest ∧ z ∈ (["step", "gift", "forgive", "reset", "undo", "redo", "save"] : List Str) ∧ lenW z ≠ xs.length)
def BadV (K : PySem.W.Frag) (H : Hp) (v : V) : Prop := (∃ t, Ky H v t ∧ t ≠ "tuple") ∨ (∃ a xs ds, v = .ref a ∧ H a = some (.tup xs) ∧ (∀ H', H' a = some (.tup xs) → DpAll K H' xs ds) ∧ SeqAt.shaped (.tuple ds) = true ∧ BadT xs)
section
variable {P : Program} {w : World} {K : PySem.W.Frag} {mg : Str → Option Value} {base : Heap} {CB CC CU CN CI CF CK CR : Addr}
def spIsOpG (K : PySem.W.Frag) : Sp := fun vs H Q _ => ∃ v : V, vs = [v] ∧ ((∃ (oa : Addr) (r : Rota) (op : Op), v = .ref oa ∧ ROk r ∧ OpOk r op ∧ H oa = some (.tup (opL op)) ∧ ∀ H', Wd [] H H' [] → Q (.bl true) H') ∨ (BadV K H v ∧ ∀ H', Wd [] H H' [] → Q (.bl false) H'))
end
end Br

namespace Br
open PySem PySem.Spec PyProof.Rows L2
structure MkX (P : Program) (w : World) (K : PySem.W.Frag) (mg : Str → Option Value) (base : Heap) (k : Nat) (x : Str) (C : Addr) (ps : List Str) (sp : Sp) : Prop where
  ex : ∃ (f : Addr) (fd : FuncData), mg x = some (.ref C) ∧ Mk K C f ∧ Binds K fd ps [] ∧ FnOk P w K mg base (L2.CX P w) k f fd ps sp
theorem InitAt.mkX {P : Program} {w : World} {K : PySem.W.Frag} {mg : Str → Option Value} {base : Heap} {k : Nat} {x q : Str} {C : Addr} {st : Stmt} {ps : List Str} {sp : Sp} (D : InitAt K mg x q C st ps)
    (h : ∀ f fd, Fun K "__init__" q st f fd → FnOk P w K mg base (L2.CX P w) k f fd ps sp) : MkX P w K mg base k x C ps sp := by
  obtain ⟨f, fd, m, M, F, b⟩ := D.ex
  exact ⟨f, fd, m, M, b, h f fd F⟩
structure ClX' (P : Program) (w : World) (K : PySem.W.Frag) (mg : Str → Option Value) (base : Heap) (k : Nat) (C : Addr) (m : Str) (ps : List Str) (sp : Sp) : Prop where
  ex : ∃ (mc : Value) (p g : Addr) (fd : FuncData), ClX.CRead K C mc ∧ ClX.CMet K C mc m p g ∧ FnOk P w K mg base (L2.CX P w) k g fd ps sp ∧ Binds K fd ps []
theorem ClMeth.clX {P : Program} {w : World} {K : PySem.W.Frag} {mg : Str → Option Value} {base : Heap} {k : Nat} {C : Addr} {m q : Str} {st : Stmt} {ps : List Str} {sp : Sp} (D : ClMeth K C m q st ps) (h : ∀ f fd, Fun K m q st f fd → FnOk P w K mg base (L2.CX P w) k f fd ps sp) : ClX' P w K mg base k C m ps sp := by
  obtain ⟨mc, p, g, fd, r, c, F, b⟩ := D.ex
  exact ⟨mc, p, g, fd, r, c, h g fd F, b⟩
section
variable {P : Program} {w : World} {K : PySem.W.Frag} {mg : Str → Option Value} {base : Heap} {CB CC CU CN CI CF CK CR : Addr}
/-! ### InvalidOperation is made -/
def opX (n : Nat) : HO := .xd [("place", .int n)]
abbrev sInvalidOperation___init__ : Stmt := inClass (topS 15) 0
theorem scInvalidOperation___init__ : FnScope ["self", "place"] ["self", "place"] (defScope sInvalidOperation___init__) := ⟨rfl, rfl, rfl, by decide +kernel, rfl, by decide +kernel, by decide +kernel⟩
/-! ### a book of any text -/
def spBookG (CB CF CK : Addr) : Sp := fun vs H Q E => ∃ (x dx : Addr) (z : Str), vs = [.ref x, .str z] ∧ H x = some (.ins CB dx []) ∧ Small z ∧
  match loadF z with
  | .rota r => ROk r ∧ ∀ (zb : Bz) (H' : Hp), zb.x = x → Wd [x] H H' [] → (∀ a ∈ zb.own, a = x ∨ H a = none) → BkAt CB zb r (bst0 r) [] H' → Q .non H'
  | .syn l c => ∀ (d : Addr) (H' : Hp), Wd [] H H' [(d, synD l c)] → E (.ref CF) (some d) H'
  | .chk why l c => ∀ (d : Addr) (H' : Hp), Wd [] H H' [(d, chkD why l c)] → E (.ref CK) (some d) H'
theorem mk_bookG (D : InitAt K mg "Book" "Book.__init__" CB sBook___init__ ["self", "rota"]) (BC : BkCls K CB) (C1 : CalX P w K mg base 8 "load" ["rota"] (spLoadG CF CK)) (C2 : Cal P w K mg base 1 "first_state" ["parsed"] spFirst) :
    MkX P w K mg base 9 "Book" CB ["self", "rota"] (spBookG CB CF CK) := D.mkX fun f fd F => by
  have nd := scBook___init__.nd
  obtain ⟨f1, fd1, m_load, kp_load, b_load, G_load⟩ := C1.ex
  obtain ⟨f2, fd2, m_first_state, kp_first_state, b_first_state, G_first_state⟩ := C2.ex
  refine F.okX scBook___init__ (fun vs H Q E h => ?_) (fun cdv A outer s H vs Q E hr h => ?_)
  · obtain ⟨x, dx, z, rfl, _⟩ := h; rfl
  obtain ⟨x, dx, z, rfl, hx, hz, q⟩ := h
  refine ⟨_, (pss_cons (ps_fld (pv 0) (pe_call G_load (hr.mono (by first | decide | omega)) (by rfl) m_load kp_load b_load .nil (passes_call (takes_of rfl rfl rfl rfl) (fun _ _ _ _ h => h)) (pa_cons (pv 1) pa_nil)) rfl)
 (pss_cons (ps_fld (pv 0) (pe_tup (pa_cons (pe_call G_first_state (hr.mono (by first | decide | omega)) (by rfl) m_first_state kp_first_state b_first_state .nil pass0 (pa_cons (pe_fldK (K := K) rfl (pv 0) rfl) pa_nil)) (pa_cons pe_int (pa_cons (pe_tup pa_nil) pa_nil)))) rfl)
 (pss_cons (ps_fld (pv 0) (pe_lst pa_nil) rfl)
 (pss_cons (ps_fld (pv 0) (pe_lst pa_nil) rfl)
 (pss_one (ps_fld (pv 0) pe_dnewK rfl)))))), ?_⟩
  have w0 := Wd.start1 hx
  refine ⟨_, rfl, z, rfl, hz, ?_⟩
  cases hld : loadF z with
  | syn l c => rw [hld] at q; exact q
  | chk y l c => rw [hld] at q; exact q
  | rota r =>
  rw [hld] at q
  obtain ⟨ok, q⟩ := q
  intro H1 pa c1 hR
  have w1 := w0.call0 c1
  refine ⟨_, rfl, x, CB, dx, _, rfl, w1.get 0 rfl, BC.cl, BC.n1, (by show 0 < 1000; decide), ?_⟩
  have e1 : putF "parsed" (.ref pa) [] = [(("parsed" : Str), V.ref pa)] := rfl
  rw [e1]
  have w2 := w1.put 0 (.ins CB dx [(("parsed" : Str), V.ref pa)]) rfl (fun _ q => by cases q)
  have mux : ∀ {H' : Hp} {C d : Addr} {fs : List (Str × V)}, H' x = some (.ins C d fs) → Mu H' [x] := fun e a ha => by
    rw [List.mem_singleton.mp ha, e]; exact ⟨fun _ => by simp, fun _ _ => by simp⟩
  have v2 := ((Wd.start1 (w1.get 0 rfl)).put 0 (.ins CB dx [(("parsed" : Str), V.ref pa)]) rfl (fun _ q => by cases q))
  have hR2 := hR.keepM v2 (mux (w1.get 0 rfl))
  refine ⟨_, rfl, x, CB, dx, _, _, rfl, w2.get 0 rfl, BC.cl, BC.n1, look_eq, pa, r, rfl, hR2, ok, fun H3 st o c3 g1 g2 => ?_⟩
  have w3 := w2.call0 c3
  have hR3 := hR2.le c3.le
  refine ⟨Nat.zero_le _, fun e he => ⟨(by show 3 ≤ sizeLine; decide), fun na hna => ?_⟩⟩
  have w4 := (w3.new (.tup []) he).new (.tup [V.ref st, V.int 0, V.ref e]) hna
  have v4 := ((Wd.refl H3).new (.tup []) he).new (.tup [V.ref st, V.int 0, V.ref e]) hna
  have hR4 := hR3.le v4.le
  refine ⟨_, rfl, x, CB, dx, _, rfl, w4.get 2 rfl, BC.cl, BC.n2, (by show 1 < 1000; decide), ?_⟩
  have e2 : putF "now" (.ref na) [(("parsed" : Str), V.ref pa)] = [(("parsed" : Str), V.ref pa), ("now", .ref na)] := by rw [putF_ne (by decide +kernel)]; rfl
  rw [e2]
  have hn4 : NowT _ na (now0 r) := ⟨st, e, w4.get 0 rfl, ⟨o, v4.tups _ _ g1, v4.tups _ _ g2⟩, w4.get 1 rfl⟩
  have w5 := w4.put 2 (.ins CB dx [(("parsed" : Str), V.ref pa), ("now", .ref na)]) rfl (fun _ q => by cases q)
  have v5 := ((Wd.start1 (w4.get 2 rfl)).put 0 (.ins CB dx [(("parsed" : Str), V.ref pa), ("now", .ref na)]) rfl (fun _ q => by cases q))
  have hR5 := hR4.keepM v5 (mux (w4.get 2 rfl))
  have hn5 := hn4.keep v5.tups
  have w5' := w5.sub (l' := [(x, .ins CB dx [(("parsed" : Str), V.ref pa), ("now", .ref na)])]) (by walk_at "sub")
  generalize upd (upd (upd H3 e (.tup [])) na (.tup [V.ref st, V.int 0, V.ref e])) x (.ins CB dx [(("parsed" : Str), V.ref pa), ("now", .ref na)]) = H5 at w5' hR5 hn5 ⊢
  have wH : Wd [x] H5 H5 [(x, .ins CB dx [(("parsed" : Str), V.ref pa), ("now", .ref na)])] := Wd.start1 (w5'.get 0 rfl)
  have hx5 := w5'.get 0 rfl
  refine ⟨Nat.zero_le _, fun pl hpl => ?_⟩
  have a1 := wH.new (.lst []) hpl
  refine ⟨_, rfl, x, CB, dx, _, rfl, a1.get 1 rfl, BC.cl, BC.n3, (by show 2 < 1000; decide), ?_⟩
  have e3 : putF "past" (.ref pl) [(("parsed" : Str), V.ref pa), ("now", .ref na)] = [(("parsed" : Str), V.ref pa), ("now", .ref na), ("past", .ref pl)] := by rw [putF_ne (by decide +kernel), putF_ne (by decide +kernel)]; rfl
  rw [e3]
  have a2 := a1.put 1 (.ins CB dx [(("parsed" : Str), V.ref pa), ("now", .ref na), ("past", .ref pl)]) rfl (fun _ q => by cases q)
  refine ⟨Nat.zero_le _, fun ul hul => ?_⟩
  have a3 := a2.new (.lst []) hul
  refine ⟨_, rfl, x, CB, dx, _, rfl, a3.get 2 rfl, BC.cl, BC.n4, (by show 3 < 1000; decide), ?_⟩
  have e4 : putF "undone" (.ref ul) [(("parsed" : Str), V.ref pa), ("now", .ref na), ("past", .ref pl)] = [(("parsed" : Str), V.ref pa), ("now", .ref na), ("past", .ref pl), ("undone", .ref ul)] := by rw [putF_ne (by decide +kernel), putF_ne (by decide +kernel), putF_ne (by decide +kernel)]; rfl
  rw [e4]
  have a4 := a3.put 2 (.ins CB dx [(("parsed" : Str), V.ref pa), ("now", .ref na), ("past", .ref pl), ("undone", .ref ul)]) rfl (fun _ q => by cases q)
  intro sv hsv
  have a5 := a4.new (.dK []) hsv
  refine ⟨_, rfl, x, CB, dx, _, rfl, a5.get 3 rfl, BC.cl, BC.n5, (by show 4 < 1000; decide), ?_⟩
  let zb : Bz := ⟨x, dx, pa, sv, pl, ul, []⟩
  have e5 : putF "saved" (.ref sv) [(("parsed" : Str), V.ref pa), ("now", .ref na), ("past", .ref pl), ("undone", .ref ul)] = bkF zb na := by rw [putF_ne (by decide +kernel), putF_ne (by decide +kernel), putF_ne (by decide +kernel), putF_ne (by decide +kernel)]; rfl
  rw [e5]
  have a6 := a5.put 3 (.ins CB dx (bkF zb na)) rfl (fun _ q => by cases q)
  have nx : pl ≠ ul := ne_of_none (a2.get 0 rfl) hul
  have fr5 : ∀ {a : Addr}, H5 a = none → H a = none := fun h => w5'.free _ h
  refine q zb _ rfl ((w5'.sub (List.nil_sublist _)).fgo (a6.sub (List.nil_sublist _))) (fun a ha => ?_) ⟨⟨na, a6.get 3 rfl, hn5.keep a6.tups, ⟨[], a6.get 2 rfl, .nil⟩, [], a6.get 1 rfl, .nil⟩, hR5.keepM (a6.sub (List.nil_sublist _)) (mux hx5), ⟨[], a6.get 0 rfl, .nil⟩, nx, ⟨by simp [zb], by simp [zb]⟩, fun a ha => ?_, by simp [zb], fun a ha => by simp [zb] at ha⟩
  · simp only [Bz.own, zb, List.mem_cons, List.not_mem_nil, or_false] at ha
    rcases ha with rfl | rfl | rfl | rfl
    · exact .inl rfl
    · exact .inr (fr5 hpl)
    · exact .inr (fr5 (a2.free _ hul))
    · exact .inr (fr5 (a4.free _ hsv))
  · simp only [Bz.own, zb, List.mem_cons, List.not_mem_nil, or_false] at ha
    rcases ha with rfl | rfl | rfl | rfl
    · rw [a6.get 3 rfl]; simp
    · rw [a6.get 2 rfl]; simp
    · rw [a6.get 1 rfl]; simp
    · rw [a6.get 0 rfl]; simp
end
end Br

/-! a text that loads gives a rota in order. -/
namespace Br
open PySem PySem.Spec PyProof.Rows L2
/-! ### the names -/
theorem tok_name {l : List Nat} {t : Str} (h : tokAt l = some (("name" : Str), t)) : NmF t := by
  cases l with
  | nil => cases h
  | cons c r =>
    have tk : tokAt (c :: r) = if c = 59 then some (("sign" : Str), (";" : Str)) else if dig c = true then (let w := (c :: r).takeWhile dig; if w.length > 2 ∨ (w.length > 1 ∧ c = 48) then none else some (("number" : Str), (⟨w.toArray⟩ : Str))) else (let w := (c :: r).takeWhile ltr; if (⟨w.toArray⟩ : Str) ∈ kws then some (("keyword" : Str), (⟨w.toArray⟩ : Str)) else if 1 ≤ w.length ∧ w.length ≤ 8 then some (("name" : Str), (⟨w.toArray⟩ : Str)) else none) := rfl
    rw [tk] at h
    split at h
    · injection h with h; injection h with h1 h2; exact absurd h1 (by decide +kernel)
    · split at h
      · dsimp only at h
        split at h
        · cases h
        · injection h with h; injection h with h1 h2; exact absurd h1 (by decide +kernel)
      · dsimp only at h
        split at h
        · injection h with h; injection h with h1 h2; exact absurd h1 (by decide +kernel)
        · rename_i hk
          split at h
          · rename_i hl
            injection h with h; injection h with h1 h2
            subst h2
            have e : (⟨((c :: r).takeWhile ltr).toArray⟩ : Str).length = ((c :: r).takeWhile ltr).length := by
              show ((c :: r).takeWhile ltr).toArray.size = _
              simp
            refine ⟨fun x hx => ?_, by rw [e]; exact hl.1, by rw [e]; exact hl.2, hk⟩
            have hx : x ∈ (c :: r).takeWhile ltr := by simpa using hx
            exact of_decide_eq_true (List.all_eq_true.mp List.all_takeWhile x hx)
          · cases h
def TkNm (t : Tk) : Prop := t.k = "name" → NmF t.t
theorem lexG_nm : ∀ (n ln col : Nat) (l : List Nat) (ts : List Tk), lexG n ln col l = .ok ts → ∀ t ∈ ts, TkNm t
  | n, _, _, [], ts, h => by
    have h : (Except.ok ([] : List Tk) : Except (Nat × Nat) (List Tk)) = Except.ok ts := by cases n <;> exact h
    cases h
    exact fun t ht => nomatch ht
  | 0, _, _, _ :: _, ts, h => by cases h; exact fun t ht => nomatch ht
  | n + 1, ln, col, c :: r, ts, h => by
    rw [lexG] at h
    by_cases hc : c = 32 ∨ c = 10
    · rw [if_pos hc] at h; exact lexG_nm n ln (col + 1) r ts h
    · rw [if_neg hc] at h
      cases ht : tokAt (c :: r) with
      | none => rw [ht] at h; cases h
      | some kt =>
        obtain ⟨k, t⟩ := kt
        rw [ht] at h
        dsimp only at h
        cases hr : lexG n ln (col + t.length) ((c :: r).drop t.length) with
        | error e => rw [hr] at h; cases h
        | ok us =>
          rw [hr] at h
          cases h
          intro x hx
          rcases List.mem_append.mp hx with hx | hx
          · rw [List.mem_singleton.mp hx]
            intro hk
            have hk : k = "name" := hk
            exact tok_name (by rw [ht, hk])
          · exact lexG_nm n ln _ _ us hr x hx
theorem lexRows_nm : ∀ (rs : List (List Nat)) (ln : Nat) (ts : List Tk), lexRows ln rs = .ok ts → ∀ t ∈ ts, TkNm t
  | [], _, ts, h => by cases h; exact fun t ht => nomatch ht
  | row :: rs, ln, ts, h => by
    have h : appE (lexRow ln 0 row) (lexRows (ln + 1) rs) = .ok ts := h
    cases h1 : lexRow ln 0 row with
    | error e => rw [h1] at h; cases h
    | ok us =>
      rw [h1] at h
      cases h2 : lexRows (ln + 1) rs with
      | error e => rw [h2] at h; cases h
      | ok vs =>
        rw [h2] at h
        cases h
        intro x hx
        rcases List.mem_append.mp hx with hx | hx
        · exact lexG_nm _ _ _ _ us h1 x hx
        · exact lexRows_nm rs (ln + 1) vs h2 x hx
theorem lexF_nm {z : Str} {ts : List Tk} (h : lexF z = .ok ts) : ∀ t ∈ ts, TkNm t := by
  unfold lexF at h
  cases h1 : lexRows 0 (rowsL z) with
  | error e => rw [h1] at h; cases h
  | ok us =>
    rw [h1] at h
    cases h
    intro x hx
    rcases List.mem_append.mp hx with hx | hx
    · exact lexRows_nm _ _ us h1 x hx
    · rw [List.mem_singleton.mp hx]
      exact fun hk => absurd (show ("end" : Str) = "name" from hk) (by decide +kernel)
/-- what is taken is of the tokens -/
theorem allF_sub {k : Str} {ts tk rest : List Tk} (h : allF k ts = .ok (tk, rest)) : (∀ t ∈ tk, t ∈ ts ∧ t.k = k) ∧ (∀ t ∈ rest, t ∈ ts) ∧ tk ≠ [] := by
  cases ts with
  | nil => cases h
  | cons t r =>
    have h : (if t.k = k then withE (t :: r.takeWhile (isK k)) (wordF ";" (r.dropWhile (isK k))) else .error (t.l, t.c)) = .ok (tk, rest) := h
    split at h
    · rename_i hk
      cases hw : wordF ";" (r.dropWhile (isK k)) with
      | error e => rw [hw] at h; cases h
      | ok us =>
        rw [hw] at h
        cases h
        obtain ⟨x, hx⟩ := wordF_is hw
        refine ⟨fun y hy => ?_, fun y hy => ?_, by simp⟩
        · rcases List.mem_cons.mp hy with rfl | hy
          · exact ⟨List.mem_cons_self, hk⟩
          · exact ⟨List.mem_cons_of_mem _ ((List.takeWhile_sublist _).subset hy), of_decide_eq_true (List.all_eq_true.mp List.all_takeWhile y hy)⟩
        · refine List.mem_cons_of_mem _ ((List.dropWhile_sublist (isK k)).subset ?_)
          rw [hx]; exact List.mem_cons_of_mem _ hy
    · cases h
/-- the people: different names of the tokens, one to six -/
theorem people_in : ∀ (ts : List Tk) (s : Ps), s.names.Nodup → s.names.length ≤ 6 → (ts.foldl peopleS s).names.Nodup ∧ (ts.foldl peopleS s).names.length ≤ 6 ∧ (∀ x ∈ (ts.foldl peopleS s).names, x ∈ s.names ∨ ∃ t ∈ ts, t.t = x) ∧ s.names.length ≤ (ts.foldl peopleS s).names.length
  | [], s, h1, h2 => ⟨h1, h2, fun x hx => .inl hx, Nat.le_refl _⟩
  | t :: ts, s, h1, h2 => by
    have st : (peopleS s t).names.Nodup ∧ (peopleS s t).names.length ≤ 6 ∧ (∀ x ∈ (peopleS s t).names, x ∈ s.names ∨ t.t = x) ∧ s.names.length ≤ (peopleS s t).names.length := by
      unfold peopleS
      split
      · exact ⟨h1, h2, fun x hx => .inl hx, Nat.le_refl _⟩
      · rename_i hn
        split
        · exact ⟨h1, h2, fun x hx => .inl hx, Nat.le_refl _⟩
        · rename_i h6
          refine ⟨List.nodup_append.mpr ⟨h1, by simp, fun a ha b hb => by rw [List.mem_singleton.mp hb]; exact fun e => hn (e ▸ ha)⟩, ?_, fun x hx => ?_, ?_⟩
          · show (s.names ++ [t.t]).length ≤ 6
            rw [List.length_append, List.length_singleton]; omega
          · rcases List.mem_append.mp (show x ∈ s.names ++ [t.t] from hx) with hx | hx
            · exact .inl hx
            · exact .inr (List.mem_singleton.mp hx).symm
          · show s.names.length ≤ (s.names ++ [t.t]).length
            rw [List.length_append]; omega
    obtain ⟨a1, a2, a3, a4⟩ := people_in ts (peopleS s t) st.1 st.2.1
    refine ⟨a1, a2, fun x hx => ?_, Nat.le_trans st.2.2.2 a4⟩
    rcases a3 x hx with h | ⟨u, hu, e⟩
    · rcases st.2.2.1 x h with h | h
      · exact .inl h
      · exact .inr ⟨t, List.mem_cons_self, h⟩
    · exact .inr ⟨u, List.mem_cons_of_mem _ hu, e⟩
theorem people_keep : ∀ (ts : List Tk) (s : Ps), (ts.foldl peopleS s).aws = s.aws ∧ (ts.foldl peopleS s).W = s.W ∧ (ts.foldl peopleS s).M = s.M
  | [], s => ⟨rfl, rfl, rfl⟩
  | t :: ts, s => by
    have st : (peopleS s t).aws = s.aws ∧ (peopleS s t).W = s.W ∧ (peopleS s t).M = s.M := by
      unfold peopleS
      split
      · exact ⟨rfl, rfl, rfl⟩
      · split <;> exact ⟨rfl, rfl, rfl⟩
    obtain ⟨a1, a2, a3⟩ := people_keep ts (peopleS s t)
    exact ⟨a1.trans st.1, a2.trans st.2.1, a3.trans st.2.2⟩
/-! ### weights, makers, absences -/
def Same (s s' : Ps) : Prop := s'.names = s.names ∧ s'.aws = s.aws ∧ s'.W = s.W ∧ s'.M = s.M
theorem Same.refl (s : Ps) : Same s s := ⟨rfl, rfl, rfl, rfl⟩
theorem Same.trans {a b c : Ps} (h : Same a b) (k : Same b c) : Same a c := ⟨k.1.trans h.1, k.2.1.trans h.2.1, k.2.2.1.trans h.2.2.1, k.2.2.2.trans h.2.2.2⟩
theorem same_bad (s : Ps) (t : Tk) (y : Str) : Same s (s.bad t y) := ⟨rfl, rfl, rfl, rfl⟩
theorem same_person (s : Ps) (t : Tk) : Same s (personF s t).2 := by unfold personF; split; exact Same.refl s; exact same_bad _ _ _
theorem same_wS (p : Ps × Nat) (t : Tk) : Same p.1 (wS p t).1 := by unfold wS; dsimp only; split; exact same_bad _ _ _; exact Same.refl _
theorem same_w : ∀ (ts : List Tk) (p : Ps × Nat), Same p.1 (ts.foldl wS p).1
  | [], p => Same.refl _
  | t :: ts, p => (same_wS p t).trans (same_w ts (wS p t))
theorem same_twice (b : Bool) (st : Tk) (s : Ps) : Same s (twiceF b st s) := by unfold twiceF; split; exact same_bad _ _ _; exact Same.refl _
theorem same_short (st : Tk) (m : Nat) (s : Ps) : Same s (shortF st m s) := by unfold shortF; split; exact same_bad _ _ _; exact Same.refl _
theorem same_mk : ∀ (ts : List Tk) (p : Ps × List Nat), Same p.1 (ts.foldl mkS p).1
  | [], p => Same.refl _
  | t :: ts, p => (same_person p.1 t).trans (same_mk ts (mkS p t))
theorem same_turn : ∀ (ts : List Tk) (p : Ps × List Nat), Same p.1 (ts.foldl turnS p).1
  | [], p => Same.refl _
  | t :: ts, p => by
    refine Same.trans ?_ (same_turn ts (turnS p t))
    unfold turnS; dsimp only
    split
    · exact (same_person p.1 t).trans (same_bad _ _ _)
    · exact same_person p.1 t
theorem same_miss (st : Tk) (p : Ps × List Nat) : Same p.1 (missF st p) := by unfold missF; split; exact same_bad _ _ _; exact Same.refl _
theorem same_awayB (st : Tk) (s : Ps) (tr tm : Tk) : Same s (awayB st s tr tm) := by
  unfold awayB
  split
  · exact same_bad _ _ _
  · split
    · exact same_bad _ _ _
    · split
      · exact same_bad _ _ _
      · exact Same.refl _
theorem w_ok : ∀ (ts : List Tk) (p : Ps × Nat), (ts.foldl wS p).1.fs = [] → p.2 ≤ p.1.names.length → p.2 + ts.length ≤ p.1.names.length ∧ ∀ t ∈ ts, 1 ≤ valT t.t ∧ valT t.t ≤ 9
  | [], p, _, h2 => ⟨h2, fun _ h => nomatch h⟩
  | t :: ts, p, h, h2 => by
    have g := w_grow ts (wS p t) h
    have ok : ¬ (p.2 = p.1.names.length ∨ ¬ (1 ≤ valT t.t ∧ valT t.t ≤ 9)) := fun c => by
      have e : (wS p t).1 = p.1.bad t "weights" := by unfold wS; dsimp only; rw [if_pos c]
      rw [e] at g; exact bad_ne _ _ _ g
    have e1 : (wS p t).1 = p.1 := by unfold wS; dsimp only; rw [if_neg ok]
    have e2 : (wS p t).2 = p.2 + 1 := rfl
    have n1 : p.2 ≠ p.1.names.length := fun e => ok (.inl e)
    have n2 : 1 ≤ valT t.t ∧ valT t.t ≤ 9 := Classical.byContradiction fun c => ok (.inr c)
    obtain ⟨a1, a2⟩ := w_ok ts (wS p t) h (by rw [e1, e2]; omega)
    rw [e1, e2] at a1
    refine ⟨by rw [List.length_cons]; omega, fun u hu => ?_⟩
    rcases List.mem_cons.mp hu with rfl | hu
    · exact n2
    · exact a2 u hu
theorem mk_in : ∀ (ts : List Tk) (p : Ps × List Nat), p.1.names ≠ [] → (∀ j ∈ p.2, j < p.1.names.length) → ∀ j ∈ (ts.foldl mkS p).2, j < p.1.names.length
  | [], p, _, h => h
  | t :: ts, p, hn, h => by
    have e : (mkS p t).1.names = p.1.names := (same_person p.1 t).1
    have := mk_in ts (mkS p t) (by rw [e]; exact hn) (fun j hj => by
      rw [e]
      rcases List.mem_append.mp (show j ∈ p.2 ++ [(personF p.1 t).1] from hj) with hj | hj
      · exact h j hj
      · rw [List.mem_singleton.mp hj]; exact (personF_few p.1 t).2.2 hn)
    rw [e] at this
    exact this
theorem turn_in : ∀ (ts : List Tk) (p : Ps × List Nat), p.1.names ≠ [] → (∀ j ∈ p.2, j < p.1.names.length) → p.2.length ≤ 12 → (∀ j ∈ (ts.foldl turnS p).2, j < p.1.names.length) ∧ ((ts.foldl turnS p).1.fs = [] → (ts.foldl turnS p).2.length ≤ 12 ∧ p.1.fs = [])
  | [], p, _, h, h12 => ⟨h, fun hf => ⟨h12, hf⟩⟩
  | t :: ts, p, hn, h, h12 => by
    have e : (turnS p t).1.names = p.1.names := (turnS_few p t).2.1
    have hj1 : ∀ j ∈ (turnS p t).2, j < (turnS p t).1.names.length := fun j hj => by
      rw [e]
      rcases List.mem_append.mp (show j ∈ p.2 ++ [(personF p.1 t).1] from hj) with hj | hj
      · exact h j hj
      · rw [List.mem_singleton.mp hj]; exact (personF_few p.1 t).2.2 hn
    by_cases c : p.2.length = 12
    · -- one too many: a fault stays
      have hb : (turnS p t).1.fs ≠ [] := by unfold turnS; dsimp only; rw [if_pos c]; exact bad_ne _ _ _
      refine ⟨?_, fun hf => ?_⟩
      · have := turn_all ts (turnS p t) (by rw [e]; exact hn) hj1
        rw [e] at this; exact this
      · exact absurd (turn_grow ts (turnS p t) hf) hb
    · have hl : (turnS p t).2.length ≤ 12 := by rw [(turnS_few p t).2.2]; omega
      obtain ⟨a1, a2⟩ := turn_in ts (turnS p t) (by rw [e]; exact hn) hj1 hl
      rw [e] at a1
      refine ⟨a1, fun hf => ⟨(a2 hf).1, ?_⟩⟩
      have := (a2 hf).2
      have e2 : (turnS p t).1 = (personF p.1 t).2 := by unfold turnS; dsimp only; rw [if_neg c]
      rw [e2] at this
      exact person_grow p.1 t this
where
  turn_all : ∀ (ts : List Tk) (p : Ps × List Nat), p.1.names ≠ [] → (∀ j ∈ p.2, j < p.1.names.length) → ∀ j ∈ (ts.foldl turnS p).2, j < p.1.names.length
  | [], p, _, h => h
  | t :: ts, p, hn, h => by
    have e : (turnS p t).1.names = p.1.names := (turnS_few p t).2.1
    have := turn_all ts (turnS p t) (by rw [e]; exact hn) (fun j hj => by
      rw [e]
      rcases List.mem_append.mp (show j ∈ p.2 ++ [(personF p.1 t).1] from hj) with hj | hj
      · exact h j hj
      · rw [List.mem_singleton.mp hj]; exact (personF_few p.1 t).2.2 hn)
    rw [e] at this
    exact this
  turn_grow : ∀ (ts : List Tk) (p : Ps × List Nat), Grow p.1 (ts.foldl turnS p).1
  | [], p => fun h => h
  | t :: ts, p => fun h => by
    have := turn_grow ts (turnS p t) h
    unfold turnS at this; dsimp only at this
    split at this
    · exact absurd this (bad_ne _ _ _)
    · exact person_grow p.1 t this
/-- what is in order where no fault was found -/
def FsX (s : Ps) : Prop := s.fs = [] → (∀ t ∈ s.aws, t.1 < s.names.length) ∧ (∀ w, s.W = some w → w.length = s.names.length ∧ ∀ x ∈ w, 1 ≤ x ∧ x ≤ 9) ∧ (∀ m, s.M = some m → m.Pairwise (· < ·) ∧ ∀ k ∈ m, 0 ≤ k ∧ k < s.names.length)
theorem weights_x {s s' : Ps} {ts rest : List Tk} (o : FsX s) (h : weightsF s ts = .ok (s', rest)) : FsX s' ∧ ∀ t ∈ rest, t ∈ ts := by
  cases ts with
  | nil => cases h
  | cons st r =>
    obtain ⟨t1, e1, h⟩ := bind_inv h
    obtain ⟨p, e2, h⟩ := bind_inv h
    cases h
    obtain ⟨u, hu⟩ := wordF_is e1
    obtain ⟨s1, s2, s3⟩ := allF_sub (tk := p.1) (rest := p.2) e2
    have sm := ((same_twice s.W.isSome st s).trans (same_w p.1 (twiceF s.W.isSome st s, 0))).trans (same_short st p.1.length (p.1.foldl wS (twiceF s.W.isSome st s, 0)).1)
    refine ⟨fun hf => ?_, fun t ht => by rw [hu]; exact List.mem_cons_of_mem _ (s2 t ht)⟩
    have hf : (shortF st p.1.length (p.1.foldl wS (twiceF s.W.isSome st s, 0)).1).fs = [] := hf
    have f1 := short_grow _ _ _ hf
    have f2 := w_grow p.1 (twiceF s.W.isSome st s, 0) f1
    have f3 := twice_grow _ _ _ f2
    obtain ⟨o1, o2, o3⟩ := o f3
    have nm : (shortF st p.1.length (p.1.foldl wS (twiceF s.W.isSome st s, 0)).1).names = s.names := sm.1
    have nf : (p.1.foldl wS (twiceF s.W.isSome st s, 0)).1.names = s.names := ((same_twice s.W.isSome st s).trans (same_w p.1 (twiceF s.W.isSome st s, 0))).1
    obtain ⟨w1, w2⟩ := w_ok p.1 (twiceF s.W.isSome st s, 0) f1 (Nat.zero_le _)
    have nt : (twiceF s.W.isSome st s).names = s.names := (same_twice _ _ _).1
    have w1 : 0 + p.1.length ≤ (twiceF s.W.isSome st s).names.length := w1
    rw [nt] at w1
    have w3 : ¬ p.1.length < s.names.length := fun c => by
      unfold shortF at hf
      rw [nf, if_pos c] at hf
      exact bad_ne _ _ _ hf
    refine ⟨fun t ht => ?_, fun w hw => ?_, fun m hm => ?_⟩
    · show t.1 < (shortF _ _ _).names.length
      rw [nm]
      have ht : t ∈ (shortF st p.1.length (p.1.foldl wS (twiceF s.W.isSome st s, 0)).1).aws := ht
      rw [sm.2.1] at ht
      exact o1 t ht
    · have hw : some (p.1.map fun t => valT t.t) = some w := hw
      cases hw
      refine ⟨?_, fun x hx => ?_⟩
      · show _ = (shortF _ _ _).names.length
        rw [nm, List.length_map]; omega
      · obtain ⟨t, ht, rfl⟩ := List.mem_map.mp hx
        exact w2 t ht
    · have hm : (shortF st p.1.length (p.1.foldl wS (twiceF s.W.isSome st s, 0)).1).M = some m := hm
      rw [sm.2.2.2] at hm
      obtain ⟨m1, m2⟩ := o3 m hm
      refine ⟨m1, fun k hk => ?_⟩
      show 0 ≤ k ∧ k < ((shortF _ _ _).names.length : Int)
      rw [nm]; exact m2 k hk
theorem makeup_x {s s' : Ps} {ts rest : List Tk} (hn : s.names ≠ []) (h6 : s.names.length ≤ 6) (o : FsX s) (h : makeupF s ts = .ok (s', rest)) : FsX s' ∧ ∀ t ∈ rest, t ∈ ts := by
  cases ts with
  | nil => cases h
  | cons st r =>
    obtain ⟨t1, e1, h⟩ := bind_inv h
    obtain ⟨p, e2, h⟩ := bind_inv h
    cases h
    obtain ⟨u, hu⟩ := wordF_is e1
    obtain ⟨s1, s2, s3⟩ := allF_sub (tk := p.1) (rest := p.2) e2
    have sm := (same_mk p.1 (s, [])).trans (same_twice s.M.isSome st (p.1.foldl mkS (s, [])).1)
    refine ⟨fun hf => ?_, fun t ht => by rw [hu]; exact List.mem_cons_of_mem _ (s2 t ht)⟩
    have hf : (twiceF s.M.isSome st (p.1.foldl mkS (s, [])).1).fs = [] := hf
    have f2 := mk_grow p.1 (s, []) (twice_grow _ _ _ hf)
    obtain ⟨o1, o2, o3⟩ := o f2
    have nm : (twiceF s.M.isSome st (p.1.foldl mkS (s, [])).1).names = s.names := sm.1
    have hi := mk_in p.1 (s, []) hn (fun _ h => nomatch h)
    refine ⟨fun t ht => ?_, fun w hw => ?_, fun m hm => ?_⟩
    · show t.1 < (twiceF _ _ _).names.length
      rw [nm]
      have ht : t ∈ (twiceF s.M.isSome st (p.1.foldl mkS (s, [])).1).aws := ht
      rw [sm.2.1] at ht
      exact o1 t ht
    · have hw : (twiceF s.M.isSome st (p.1.foldl mkS (s, [])).1).W = some w := hw
      rw [sm.2.2.1] at hw
      obtain ⟨w1, w2⟩ := o2 w hw
      exact ⟨by show _ = (twiceF _ _ _).names.length; rw [nm]; exact w1, w2⟩
    · have hm : some (sortU (p.1.foldl mkS (s, [])).2) = some m := hm
      cases hm
      refine ⟨sortU_asc _, fun k hk => ?_⟩
      obtain ⟨j, hj, rfl⟩ := List.mem_map.mp ((sortU_mem (fun j hj => by have := hi j hj; have : j < s.names.length := this; omega) k).mp hk)
      have := hi j hj
      have : j < s.names.length := this
      show (0 : Int) ≤ (j : Int) ∧ (j : Int) < ((twiceF _ _ _).names.length : Int)
      rw [nm]; omega
theorem away_x {s s' : Ps} {ts rest : List Tk} (hn : s.names ≠ []) (o : FsX s) (h : awayF s ts = .ok (s', rest)) : FsX s' ∧ ∀ t ∈ rest, t ∈ ts := by
  cases ts with
  | nil => cases h
  | cons st r =>
    obtain ⟨t1, e1, h⟩ := bind_inv h
    obtain ⟨p1, e2, h⟩ := bind_inv h
    obtain ⟨p2, e3, h⟩ := bind_inv h
    obtain ⟨t4, e4, h⟩ := bind_inv h
    obtain ⟨p3, e5, h⟩ := bind_inv h
    obtain ⟨t6, e6, h⟩ := bind_inv h
    cases h
    obtain ⟨u1, h1⟩ := wordF_is e1
    obtain ⟨h2, _⟩ := takeF_is e2
    obtain ⟨h3, _⟩ := takeF_is e3
    obtain ⟨u4, h4⟩ := wordF_is e4
    obtain ⟨h5, _⟩ := takeF_is e5
    obtain ⟨u6, h6⟩ := wordF_is e6
    have sm := (same_person s p1.1).trans (same_awayB st (personF s p1.1).2 p2.1 p3.1)
    refine ⟨fun hf => ?_, fun t ht => ?_⟩
    · have hf : (awayB st (personF s p1.1).2 p2.1 p3.1).fs = [] := hf
      obtain ⟨f1, _⟩ := awayB_ok hf
      obtain ⟨o1, o2, o3⟩ := o (person_grow s p1.1 f1)
      have nm : (awayB st (personF s p1.1).2 p2.1 p3.1).names = s.names := sm.1
      refine ⟨fun t ht => ?_, fun w hw => ?_, fun m hm => ?_⟩
      · show t.1 < ((awayB _ _ _ _).names.length : Int)
        rw [nm]
        have ht : t ∈ (awayB st (personF s p1.1).2 p2.1 p3.1).aws ++ [(((personF s p1.1).1 : Int), valT p2.1.t, valT p3.1.t)] := ht
        rcases List.mem_append.mp ht with ht | ht
        · rw [sm.2.1] at ht; exact o1 t ht
        · rw [List.mem_singleton.mp ht]
          have := (personF_few s p1.1).2.2 hn
          show ((personF s p1.1).1 : Int) < _
          omega
      · have hw : (awayB st (personF s p1.1).2 p2.1 p3.1).W = some w := hw
        rw [sm.2.2.1] at hw
        obtain ⟨w1, w2⟩ := o2 w hw
        exact ⟨by show _ = (awayB _ _ _ _).names.length; rw [nm]; exact w1, w2⟩
      · have hm : (awayB st (personF s p1.1).2 p2.1 p3.1).M = some m := hm
        rw [sm.2.2.2] at hm
        obtain ⟨m1, m2⟩ := o3 m hm
        refine ⟨m1, fun k hk => ?_⟩
        show 0 ≤ k ∧ k < ((awayB _ _ _ _).names.length : Int)
        rw [nm]; exact m2 k hk
    · rw [h1, h2, h3, h4, h5, h6]
      simp only [List.mem_cons]
      exact .inr (.inr (.inr (.inr (.inr (.inr ht)))))
theorem stm_x {s s' : Ps} {ts rest : List Tk} (hn : s.names ≠ []) (h6 : s.names.length ≤ 6) (o : FsX s) (h : stmF s ts = .ok (s', rest)) : FsX s' ∧ ∀ t ∈ rest, t ∈ ts := by
  cases ts with
  | nil => cases h
  | cons t r =>
    have h : (if t.t = "weights" then weightsF s (t :: r) else if t.t = "away" then awayF s (t :: r) else if t.t = "makeup" then makeupF s (t :: r) else .error (t.l, t.c)) = .ok (s', rest) := h
    split at h
    · exact weights_x o h
    · split at h
      · exact away_x hn o h
      · split at h
        · exact makeup_x hn h6 o h
        · cases h
theorem stm_grow {s s' : Ps} {ts rest : List Tk} (h6 : s.names.length ≤ 6) (h : stmF s ts = .ok (s', rest)) : Grow s s' := by
  cases ts with
  | nil => cases h
  | cons st r =>
    have h : (if st.t = "weights" then weightsF s (st :: r) else if st.t = "away" then awayF s (st :: r) else if st.t = "makeup" then makeupF s (st :: r) else .error (st.l, st.c)) = .ok (s', rest) := h
    split at h
    · obtain ⟨t1, e1, h⟩ := bind_inv h
      obtain ⟨p, e2, h⟩ := bind_inv h
      cases h
      exact fun hf => twice_grow _ _ _ (w_grow p.1 (twiceF s.W.isSome st s, 0) (short_grow _ _ _ hf))
    · split at h
      · obtain ⟨t1, e1, h⟩ := bind_inv h
        obtain ⟨p1, e2, h⟩ := bind_inv h
        obtain ⟨p2, e3, h⟩ := bind_inv h
        obtain ⟨t4, e4, h⟩ := bind_inv h
        obtain ⟨p3, e5, h⟩ := bind_inv h
        obtain ⟨t6, e6, h⟩ := bind_inv h
        cases h
        exact fun hf => person_grow s p1.1 (awayB_ok (st := st) (tr := p2.1) (tm := p3.1) hf).1
      · split at h
        · obtain ⟨t1, e1, h⟩ := bind_inv h
          obtain ⟨p, e2, h⟩ := bind_inv h
          cases h
          exact fun hf => mk_grow p.1 (s, []) (twice_grow _ _ _ hf)
        · cases h
theorem loop_grow : ∀ (k : Nat) (s : Ps) (ts : List Tk) (s' : Ps), s.names.length ≤ 6 → loopF k s ts = .ok s' → Grow s s'
  | 0, s, ts, s', _, h => by cases h; exact fun h => h
  | k + 1, s, ts, s', h6, h => by
    have h : (if atEnd ts = true then Except.ok s else bindE (fun p => loopF k p.1 p.2) (stmF s ts)) = .ok s' := h
    split at h
    · cases h; exact fun h => h
    · obtain ⟨p, e, h⟩ := bind_inv h
      obtain ⟨s1, rest⟩ := p
      have nm : s1.names = s.names := (stm_goes h6 e).2.1
      exact fun hf => stm_grow h6 e (loop_grow k s1 rest s' (by rw [nm]; exact h6) h hf)
/-- the loop keeps what is in order -/
theorem loop_x : ∀ (k : Nat) (s : Ps) (ts : List Tk) (s' : Ps), NumT ts → s.names ≠ [] → s.names.length ≤ 6 → FsAw s → RemOk s → FsX s → loopF k s ts = .ok s' → s'.names = s.names ∧ FsAw s' ∧ RemOk s' ∧ FsX s'
  | 0, s, ts, s', _, _, _, a, b, c, h => by cases h; exact ⟨rfl, a, b, c⟩
  | k + 1, s, ts, s', hn, h1, h6, a, b, c, h => by
    have h : (if atEnd ts = true then Except.ok s else bindE (fun p => loopF k p.1 p.2) (stmF s ts)) = .ok s' := h
    split at h
    · cases h; exact ⟨rfl, a, b, c⟩
    · obtain ⟨p, e, h⟩ := bind_inv h
      obtain ⟨s1, rest⟩ := p
      have nm : s1.names = s.names := (stm_goes h6 e).2.1
      obtain ⟨x1, x2⟩ := stm_x h1 h6 c e
      obtain ⟨g1, g2⟩ := loop_x k s1 rest s' (fun t ht hk => hn t (x2 t ht) hk) (by rw [nm]; exact h1) (by rw [nm]; exact h6) (stm_aw h6 a e) (stm_rem hn b e) x1 h
      exact ⟨g1.trans nm, g2⟩
theorem insA_len (t : Int × Int × Int) : ∀ us : List (Int × Int × Int), (insA t us).length ≤ us.length + 1
  | [] => Nat.le_refl _
  | u :: us => by
    unfold insA
    split
    · exact Nat.le_succ _
    · split
      · exact Nat.le_refl _
      · have := insA_len t us
        simp only [List.length_cons]; omega
theorem sortA_len : ∀ us : List (Int × Int × Int), (us.foldr insA []).length ≤ us.length
  | [] => Nat.le_refl _
  | u :: us => by
    have h1 := insA_len u (us.foldr insA [])
    have h2 := sortA_len us
    show (insA u (us.foldr insA [])).length ≤ us.length + 1
    omega
/-- what loads is in order -/
theorem load_ok {z : Str} {r : Rota} (h : loadF z = .rota r) : ROk r := by
  unfold loadF at h
  cases hl : lexF z with
  | error e => rw [hl] at h; cases h
  | ok ts =>
  rw [hl] at h
  have hnm := lexF_nm hl
  have hnum : NumT ts := fun t ht hk => (lexF_ok hl).2 t ht hk
  have h : rotaF ts = .rota r := h
  unfold rotaF at h
  cases hb : bindE (fun p => bindE (fun q => bindE (fun s => .ok (s, q.1.2)) (loopF q.2.length q.1.1 q.2)) (turnsF p.1 p.2)) (peopleF Ps.zero ts) with
  | error e => rw [hb] at h; cases h
  | ok sj =>
  rw [hb] at h
  obtain ⟨s, js⟩ := sj
  have h : doneF s js = .rota r := h
  obtain ⟨p, e1, h2⟩ := bind_inv hb
  obtain ⟨q, e2, h3⟩ := bind_inv h2
  obtain ⟨s', e3, h4⟩ := bind_inv h3
  cases h4
  -- the people
  obtain ⟨t1, p1, e1⟩ := bind_inv e1
  obtain ⟨pp, p2, e1⟩ := bind_inv e1
  cases e1
  obtain ⟨u1, hu1⟩ := wordF_is p1
  obtain ⟨a1, a2, a3⟩ := allF_sub (tk := pp.1) (rest := pp.2) p2
  obtain ⟨n1, n2, n3, _⟩ := people_in pp.1 Ps.zero List.nodup_nil (Nat.zero_le _)
  obtain ⟨k1, k2, k3⟩ := people_keep pp.1 Ps.zero
  have nne : (pp.1.foldl peopleS Ps.zero).names ≠ [] := by
    cases ht : pp.1 with
    | nil => exact absurd ht a3
    | cons t tl =>
      have e : peopleS Ps.zero t = { Ps.zero with names := [t.t] } := by unfold peopleS; rw [if_neg (by intro c; cases c), if_neg (by show ¬ (0 = 6); decide)]; rfl
      have := (people_in tl (peopleS Ps.zero t) (by rw [e]; simp) (by rw [e]; show 1 ≤ 6; decide)).2.2.2
      rw [e] at this
      intro c
      have c : (tl.foldl peopleS (peopleS Ps.zero t)).names = [] := c
      rw [e] at c
      rw [c] at this
      exact absurd (show 1 ≤ 0 from this) (by decide)
  have nall : ∀ x ∈ (pp.1.foldl peopleS Ps.zero).names, NmF x := fun x hx => by
    rcases n3 x hx with h | ⟨t, ht, rfl⟩
    · cases h
    · exact hnm t (by rw [hu1]; exact List.mem_cons_of_mem _ (a1 t ht).1) (a1 t ht).2
  generalize hS : pp.1.foldl peopleS Ps.zero = S at n1 n2 nne nall k1 k2 k3 e2
  have hR2 : ∀ t ∈ pp.2, t ∈ ts := fun t ht => by rw [hu1]; exact List.mem_cons_of_mem _ (a2 t ht)
  -- the turns
  have e2 : turnsF S pp.2 = .ok q := e2
  obtain ⟨st, r2, hpp⟩ : ∃ st r2, pp.2 = st :: r2 := by
    cases hq : pp.2 with
    | nil => rw [hq] at e2; cases e2
    | cons a b => exact ⟨a, b, rfl⟩
  rw [hpp] at e2 hR2
  obtain ⟨t2, q1, e2⟩ := bind_inv e2
  obtain ⟨qq, q2, e2⟩ := bind_inv e2
  cases e2
  obtain ⟨u2, hu2⟩ := wordF_is q1
  obtain ⟨b1, b2, b3⟩ := allF_sub (tk := qq.1) (rest := qq.2) q2
  have hR3 : ∀ t ∈ qq.2, t ∈ ts := fun t ht => hR2 t (by rw [hu2]; exact List.mem_cons_of_mem _ (b2 t ht))
  obtain ⟨c1, c2⟩ := turn_in qq.1 (S, []) nne (fun _ h => nomatch h) (Nat.zero_le _)
  have smS := (same_turn qq.1 (S, [])).trans (same_miss st (qq.1.foldl turnS (S, [])))
  generalize hT : qq.1.foldl turnS (S, []) = T at c1 c2 smS e3 h
  have nT : (missF st T).names = S.names := smS.1
  have awT : (missF st T).aws = [] := smS.2.1.trans k1
  -- the loop
  obtain ⟨l1, l2, l3, l4⟩ := loop_x _ (missF st T) qq.2 s (fun t ht hk => hnum t (hR3 t ht) hk) (by rw [nT]; exact nne) (by rw [nT]; exact n2) (fun _ => by rw [awT]; exact ⟨Nat.zero_le _, fun _ h => nomatch h⟩) (fun t ht => by rw [awT] at ht; cases ht)
    (fun _ => ⟨fun t ht => (by rw [awT] at ht; cases ht), fun w hw => (by rw [smS.2.2.1, k2] at hw; cases hw), fun m hm => (by rw [smS.2.2.2, k3] at hm; cases hm)⟩) e3
  have gl : s.fs = [] → (missF st T).fs = [] := loop_grow _ _ _ _ (by rw [nT]; exact n2) e3
  rw [nT] at l1
  unfold doneF at h
  split at h
  · rename_i hf
    cases h
    obtain ⟨x1, x2, x3⟩ := l4 hf
    obtain ⟨y1, y2⟩ := aw_fits l2 l3 hf
    have fm := gl hf
    have hany : ¬ ((List.range T.1.names.length).any (fun k => !decide (k ∈ T.2))) = true := fun c => by
      unfold missF at fm
      rw [if_pos c] at fm
      exact bad_ne _ _ _ fm
    have em : missF st T = T.1 := by unfold missF; rw [if_neg hany]
    rw [em] at fm nT
    obtain ⟨z1, _⟩ := c2 fm
    have len1 : 1 ≤ S.names.length := by cases hS' : S.names with
      | nil => exact absurd hS' nne
      | cons a b => exact Nat.succ_pos _
    refine ⟨by rw [l1]; exact len1, by rw [l1]; exact n2, by rw [l1]; exact n1, by rw [l1]; exact nall, fun t ht => ?_, fun k hk => ?_, ?_, ?_, fun x hx => ?_, sortA_asc _, Nat.le_trans (sortA_len _) y1, fun t ht => ?_, ?_, fun k hk => ?_⟩
    · obtain ⟨j, hj, rfl⟩ := List.mem_map.mp ht
      have : j < S.names.length := c1 j hj
      show (0 : Int) ≤ (j : Int) ∧ (j : Int) < (s.names.length : Int)
      rw [l1]; omega
    · have hk : k < s.names.length := hk
      refine List.mem_map.mpr ⟨k, Classical.byContradiction fun c => hany (List.any_eq_true.mpr ⟨k, List.mem_range.mpr (by rw [nT, ← l1]; exact hk), ?_⟩), rfl⟩
      rw [decide_eq_false c]; rfl
    · show (T.2.map fun j : Nat => (j : Int)).length ≤ 12
      rw [List.length_map]; exact z1
    · show (s.W.getD (List.replicate s.names.length 1)).length = s.names.length
      cases hW : s.W with
      | none => exact List.length_replicate ..
      | some w => exact (x2 w hW).1
    · have hx : x ∈ s.W.getD (List.replicate s.names.length 1) := hx
      cases hW : s.W with
      | none => rw [hW] at hx; rw [(List.mem_replicate.mp hx).2]; exact ⟨by decide, by decide⟩
      | some w => rw [hW] at hx; exact (x2 w hW).2 x hx
    · have ht' := (sortA_mem s.aws t).mp ht
      obtain ⟨o1, o2, o3, o4, o5⟩ := y2 t ht'
      exact ⟨o1, x1 t ht', o3, o4, o5⟩
    · show (s.M.getD []).Pairwise (· < ·)
      cases hM : s.M with
      | none => exact .nil
      | some m => exact (x3 m hM).1
    · have hk : k ∈ s.M.getD [] := hk
      cases hM : s.M with
      | none => rw [hM] at hk; cases hk
      | some m => rw [hM] at hk; exact (x3 m hM).2 k hk
  · cases h
end Br

namespace Br
open PySem PySem.Spec PyProof.Rows L2
/-- which operation fails first -/
def failN (r : Rota) : List Op → Bst → Option Nat
  | [], _ => none
  | op :: t, b => match doOp r b op with
    | .error _ => some 0
    | .ok (_, b') => (failN r t b').map (· + 1)
theorem failN_ok {r : Rota} : ∀ {ops : List Op} {b b' : Bst} {xs : List Res}, doOps r ops b = some (xs, b') → failN r ops b = none
  | [], _, _, _, _ => rfl
  | op :: t, b, b', xs, h => by
    have h2 : stepOps (doOps r t) (doOp r b op) = some (xs, b') := h
    unfold failN
    cases hd : doOp r b op with
    | error e => rw [hd] at h2; cases h2
    | ok xb =>
      obtain ⟨x, b1⟩ := xb
      rw [hd] at h2
      have h3 : andThen x (doOps r t b1) = some (xs, b') := h2
      cases ht : doOps r t b1 with
      | none => rw [ht] at h3; cases h3
      | some yc => show (failN r t b1).map _ = none; rw [failN_ok (b' := yc.2) (xs := yc.1) ht]; rfl
theorem failN_at {r : Rota} {op : Op} {e : Str} {c : Bst} : ∀ {i : Nat} {ops : List Op} {b : Bst} {ys : List Res}, doOps r (ops.take i) b = some (ys, c) → ops[i]? = some op → doOp r c op = .error e → failN r ops b = some i
  | _, [], _, _, _, h, _ => by cases h
  | 0, o :: t, b, ys, h, ho, hd => by
    cases h; cases ho
    unfold failN
    rw [hd]
  | i + 1, o :: t, b, ys, h, ho, hd => by
    have h2 : stepOps (doOps r (t.take i)) (doOp r b o) = some (ys, c) := h
    unfold failN
    cases h1 : doOp r b o with
    | error e => rw [h1] at h2; cases h2
    | ok xb =>
      obtain ⟨x, b1⟩ := xb
      rw [h1] at h2
      have h3 : andThen x (doOps r (t.take i) b1) = some (ys, c) := h2
      cases ht : doOps r (t.take i) b1 with
      | none => rw [ht] at h3; cases h3
      | some yc =>
        obtain ⟨y0, c0⟩ := yc
        rw [ht] at h3
        cases h3
        show (failN r t b1).map _ = _
        rw [failN_at ht (by simpa using ho) hd]; rfl
theorem doOps_snoc {r : Rota} {ops : List Op} {b c c' : Bst} {ys : List Res} {i : Nat} {op : Op} {x : Res} (h : doOps r (ops.take i) b = some (ys, c)) (ho : ops[i]? = some op) (hd : doOp r c op = .ok (x, c')) : doOps r (ops.take (i + 1)) b = some (ys ++ [x], c') := by
  rw [List.take_succ, ho]
  exact doOps_app h (doOps_one hd)
/-- Raises, the table alone -/
def RaisesK (K : PySem.W.Frag) (cls : Value) : Prop := ∀ (M : Model) (h : Heap), K.In h → PySem.W.Looks M h (isSubtype cls (.type "BaseException")) true ∧ PySem.W.Looks M h (typeOf cls) (.type "type")
theorem raisesK_of {K : PySem.W.Frag} {cls : Value} (h : PySem.W.subIn K cls (.type "BaseException") = some true ∧ PySem.W.typeIn K cls = some (.type "type")) : RaisesK K cls := fun _ _ k => ⟨PySem.W.looks_subIn k h.1, PySem.W.looks_typeIn k h.2⟩
section
variable {P : Program} {w : World} {K : PySem.W.Frag} {mg : Str → Option Value} {base : Heap} {CB CC CU CN CI CR CF CK : Addr}
/-! ### InvalidOperation is made -/
theorem exH_InvalidOperation {C : Addr} (D : ExTxt K mg "InvalidOperation" "InvalidOperation.__init__" C sInvalidOperation___init__ ["self", "place"] ["place"]) (BX : BaseX K mg CR) : ExAtH P w K mg base "InvalidOperation" C ["place"] := D.atH fun fI fd F => by
  have nd := scInvalidOperation___init__.nd
  have T := D.T
  have no := D.no
  refine Br.Fun.okH F scInvalidOperation___init__ (fun vs H Q E h => ?_) (fun cdv A outer s H vs Q E p hr h => ?_)
  · obtain ⟨a, ws, rfl, hl, _⟩ := h
    obtain ⟨v, rfl⟩ := List.length_eq_one_iff.mp hl; rfl
  obtain ⟨a, ws, rfl, hl, ha, k⟩ := h
  obtain ⟨v, rfl⟩ := List.length_eq_one_iff.mp hl
  refine ⟨_, (pss_cons (ps_expr (pe_rinit BX (by rfl) (pa_cons (pv 0) (pa_cons (pv 1) pa_nil))))
 (pss_one (ps_ost (pv 0) (pv 1)))), ?_⟩
  refine ⟨_, rfl, _, rfl, a, C, _, rfl, (by show 1 ≤ 1000; decide), T, ha, ?_⟩
  refine ⟨_, rfl, _, rfl, a, C, rfl, T, no _ (by simp), .inl ⟨ha, fun dx hd ne => ?_⟩⟩
  exact k dx _ hd ne (fun b h1 h2 => by rw [upd_ne h2, upd_ne h1]) upd_same (by rw [upd_ne ne, upd_same]; rfl)
/-! ### replay of any text and operations -/
inductive Rep where
  | syn (l c : Nat)
  | chk (why : Str) (l c : Nat)
  | op (n : Nat)
  | ok
def repF (src : Str) (ops : List Op) : Rep := match loadF src with
  | .syn l c => .syn l c
  | .chk y l c => .chk y l c
  | .rota r => match failN r ops (bst0 r) with
    | some n => .op n
    | none => .ok
/-- what a replay's outcome is for its caller -/
def RepO (CF CK CI : Addr) (H : Hp) (E : XK) (good : Prop) : Rep → Prop
  | .syn l c => ∀ (d : Addr) (H' : Hp), Wd [] H H' [(d, synD l c)] → E (.ref CF) (some d) H'
  | .chk y l c => ∀ (d : Addr) (H' : Hp), Wd [] H H' [(d, chkD y l c)] → E (.ref CK) (some d) H'
  | .op n => ∀ (d : Addr) (H' : Hp), Wd [] H H' [(d, opX n)] → E (.ref CI) (some d) H'
  | .ok => good
def OpAny (op : Op) : Prop := ∀ r : Rota, OpOk r op
def spReplayA (CB CF CK CI : Addr) : Sp := fun vs H Q E => ∃ (src : Str) (la : Addr) (oas : List Addr) (ops : List Op), vs = [.ref CB, .str src, .ref la] ∧ Small src ∧ H la = some (.lst (oas.map V.ref)) ∧ OpsT H oas ops ∧ (∀ op ∈ ops, OpAny op) ∧ ops.length ≤ 60 ∧
  RepO CF CK CI H E (∀ (x : Addr) (H' : Hp), Wd [] H H' [] → Q (.ref x) H') (repF src ops)
theorem me_replayA (D : ClMeth K CB "replay" "Book.replay" sBook_replay ["cls", "rota", "operations"]) (T : Bi mg) (BC : BkCls K CB) (gR : mg "RotaError" = some (.ref CR)) (eX : ∀ e : Str, PySem.W.exmOne K (.ref (errC CC CU CN e)) (.ref CR) = some true)
    (rX : ∀ e : Str, PySem.W.subIn K (.ref (errC CC CU CN e)) (.type "BaseException") = some true ∧ PySem.W.typeIn K (.ref (errC CC CU CN e)) = some (.type "type")) (XH : ExAtH P w K mg base "InvalidOperation" CI ["place"])
    (CM : MkX P w K mg base 9 "Book" CB ["self", "rota"] (spBookG CB CF CK)) (C1 : Cal P w K mg base 1 "is_operation" ["value"] spIsOp) (C2 : MeN P w K mg base 5 CB "execute" ["self", "operation"] (spLDo CB CC CU CN)) : ClX' P w K mg base 11 CB "replay" ["cls", "rota", "operations"] (spReplayA CB CF CK CI) := D.clX fun f fd F => by
  have nd := scBook_replay.nd
  have cl_Book := BC.cl
  obtain ⟨f0, fd0, mC_Book, Mk_Book, b_Book, G_Book⟩ := CM.ex
  obtain ⟨f1, fd1, m_is_operation, kp_is_operation, b_is_operation, G_is_operation⟩ := C1.ex
  obtain ⟨f2, fd2, me_execute, b_execute, G_execute⟩ := C2.ex
  refine F.okX scBook_replay (fun vs H Q E h => ?_) (fun cdv A outer s H vs Q E hr h => ?_)
  · obtain ⟨src, la, oas, ops, rfl, _⟩ := h; rfl
  obtain ⟨src, la, oas, ops, rfl, hsm, hla, ho, hopA, hol, hq⟩ := h
  refine ⟨_, (pss_cons (ps_set (i := 3) nd rfl (Or.inl rfl) (pe_makeL (pv 0) Mk_Book G_Book (hr.mono (by first | decide | omega)) b_Book .nil (passes_call (takes_of rfl rfl rfl rfl) (fun _ _ _ _ h => h)) (pa_cons (pv 1) pa_nil)))
 (pss_cons (ps_if (pt_not (pt_val (pe_callB call_isi (by rfl) T.isinstance (by decide +kernel) (pa_cons (pv 2) (pa_cons (pe_bltn (v := .ty "list") (by rfl) T.list (by decide +kernel) rfl) pa_nil)))))
 pss_never
 pss_nil)
 (pss_cons (ps_for (passes_of rfl) rfl (pi_enum (by rfl) T.enumerate (pa_cons (pv 2) pa_nil)) (pg_tupK (K := K) (n := 2) rfl rfl (pgs_cons (pg_name (i := 4) nd rfl (Or.inl rfl)) (pgs_cons (pg_name (i := 5) nd rfl (Or.inl rfl)) pgs_nil)))
 (pss_cons (ps_if (pt_not (pt_val (pe_call G_is_operation (hr.mono (by first | decide | omega)) (by rfl) m_is_operation kp_is_operation b_is_operation .nil pass0 (pa_cons (pv 5) pa_nil))))
 pss_never
 pss_nil)
 (pss_one (ps_try_asF (i := 6) (ts := fun a cls d _ σ H => σ[6]? = some (some (V.ref a)) ∧ RaisesK K cls ∧ tMkE CI ["place"] (tCons (tVar 4) tNil) σ H fun cls d H' => E cls d H') rfl rfl rfl nd rfl rfl ⟨by rfl, by decide, .inl gR⟩ (fun hd => L2H.passesAt_of rfl hd) (takes_of rfl rfl rfl rfl) (fun W pn xe tk _ => pss_one (ps_expr (pe_methS (pv 3) cl_Book me_execute G_execute (hr.mono (by first | decide | omega)) b_execute (L2N.passAt tk) (pa_cons (pv 5) pa_nil)))) (fun a oe cls d pn xe hz hf tk hot => pss_one (ps_raiseHC (i := 6) hot List.mem_cons_self hz.1 tk (pmk5_exH XH (L2H.roomH_mark (hr.mono (by first | decide | omega)) _) ⟨_, hot, List.mem_cons_self⟩ (by rfl) (pa_cons (pv 4) pa_nil) (by decide)) rfl (Or.inl rfl)))))))
 (pss_one (ps_ret (pv 3)))))), ?_⟩
  have lo : oas.length = ops.length := ho.length
  refine ⟨rfl, _, rfl, fun xb dx hx hdx nex => ⟨xb, dx, src, rfl, upd_same, hsm, ?_⟩⟩
  have m4 := (Wd.refl H).make CB hx hdx nex
  have m40 : Wd [] H _ [] := m4.sub (List.nil_sublist _)
  unfold repF at hq
  cases hld : loadF src with
  | syn l c => rw [hld] at hq; exact fun d H' w' => hq d H' (m40.callN w')
  | chk y l c => rw [hld] at hq; exact fun d H' w' => hq d H' (m40.callN w')
  | rota r =>
  rw [hld] at hq
  dsimp only at hq
  have ok := load_ok hld
  have hop : ∀ op ∈ ops, OpOk r op := fun op h => hopA op h r
  have qe : ∀ n, failN r ops (bst0 r) = some n → ∀ (d : Addr) (H' : Hp), Wd [] H H' [(d, opX n)] → E (.ref CI) (some d) H' := fun n e => by rw [e] at hq; exact hq
  have q : failN r ops (bst0 r) = none → ∀ (x : Addr) (H' : Hp), Wd [] H H' [] → Q (.ref x) H' := fun e => by rw [e] at hq; exact hq
  refine ⟨ok, fun zb H1 hzx c1 ho1 bk1 => ⟨rfl, ?_⟩⟩
  have w1 : Wd [] H H1 [] := m40.goX c1 (fun a ha => .inr (by rw [List.mem_singleton.mp ha]; exact hx)) (fun _ h => nomatch h)
  have own1 : ∀ a ∈ zb.own, H a = none := fun a ha => (ho1 a ha).elim (fun e => by rw [e]; exact hx) (m4.free a)
  have la1 := w1.base _ _ (by simp) hla
  subst hzx
  refine ⟨_, rfl, _, _, _, .type "list", _, rfl, .ty "list", (Ky.lst la1).ty, kit_is (K := K) (Ky.lst la1).mem (T := "list") (by decide), _, rfl, iteF ?_⟩
  refine ⟨_, rfl, la, _, rfl, SqL.of la1, ?_⟩
  refine for_it (walk_enum (xs := oas.map V.ref)) (fun i σ H' => (∃ a b c d, σ = [some (.ref CB), some (.str src), some (.ref la), some (.ref zb.x), a, b, c] ∧ d = c) ∧ Wd [] H H' [] ∧ ∃ (ys : List Res) (c : Bst) (z' : Bz), doOps r (ops.take i) (bst0 r) = some (ys, c) ∧ z'.x = zb.x ∧ (∀ a ∈ z'.own, H a = none) ∧ BkAt CB z' r c [] H' ∧ BOk r c ∧ BSz i c)
    ⟨⟨_, _, _, _, rfl, rfl⟩, w1, [], bst0 r, zb, rfl, rfl, own1, bk1, bst0_ok ok, BSz.zero r⟩ (fun i σ H' _ h => SqL.of (h.2.1.base _ _ (by simp) hla)) ?_ ?_
  · rintro i x σ H3 H3' hi ⟨⟨a3, b3, c3, d3, rfl, rfl⟩, w3, ys, c, z', k1, ez, oz, bk3, bo3, bs3⟩ ⟨T0, x1, x2, rfl, hT0, rfl, e1, e2⟩
    cases e1
    have e2 : (oas.map V.ref)[i]? = some x2 := e2
    rw [List.getElem?_map] at e2
    obtain ⟨oa, hoa, rfl⟩ := Option.map_eq_some_iff.mp e2
    obtain ⟨op, hop1, hop2⟩ := paired_at ho hoa
    have hopk := hop op (List.mem_of_getElem? hop1)
    have hi2 := (List.getElem?_eq_some_iff.mp hop1).1
    have q1 := bs3.len
    have q2 := bs3.now
    have w4 := w3.new (.tup [.int (i : Nat), .ref oa]) hT0
    have n4 := (Wd.refl H3).new (.tup [.int (i : Nat), .ref oa]) hT0
    refine ⟨T0, _, rfl, SqT.of (w4.get 0 rfl), rfl, _, _, rfl, _, _, rfl, rfl, ?_⟩
    refine ⟨_, rfl, oa, r, op, rfl, ok, hopk, w4.tups _ _ hop2, fun H5 w5 => ⟨_, rfl, iteF ?_⟩⟩
    have n5 := (n4.sub (List.nil_sublist _)).callN w5
    have bk5 := bk3.keep0 n5
    have w05 : Wd [] H H5 [] := (w4.sub (List.nil_sublist _)).callN w5
    obtain ⟨na5, zx, _⟩ := id bk5.na
    refine ⟨_, rfl, zb.x, z'.dx, _, rfl, by rw [← ez]; exact zx, bk_none (by decide +kernel), _, rfl, z', oa, r, c, [], op, by rw [ez], ok, bo3, bk5, w05.tups _ _ hop2, hopk, by omega, by omega, by omega, ?_⟩
    cases hd : doOp r c op with
    | ok xb =>
      obtain ⟨x, c'⟩ := xb
      intro H8 v hres
      obtain ⟨bo8, bs8, hl8⟩ := doOp_keep ok hopk bo3 bs3 hd
      obtain ⟨z2, ez2, w8, oz8, bk8, _, _⟩ := hres.went
      exact ⟨⟨_, _, _, _, rfl, rfl⟩, w05.goX w8 (fun a ha => .inr (oz a ha)) (fun _ h => nomatch h), ys ++ [x], c', z2, doOps_snoc k1 hop1 hd, ez2.trans ez, fun a ha => (oz8 a ha).elim (oz a) (w05.free a), bk8, bo8, bs8⟩
    | error e =>
      intro H8 w8
      refine ⟨true, eX e, fun _ a ha => ?_, fun z => nomatch z⟩
      refine ⟨rfl, raisesK_of (rX e), ?_⟩
      refine ⟨_, rfl, rfl, fun d H' w' => qe i (failN_at k1 hop1 hd) d H' (w05.callN w8 |>.callN w')⟩
  · rintro σ H3 ⟨⟨a3, b3, c3, d3, rfl, rfl⟩, w3, ys, c, z', k1, ez, oz, bk3, bo3, bs3⟩
    rw [List.length_map, lo, List.take_length] at k1
    rw [List.length_map, lo] at bs3
    refine ⟨_, rfl, ?_⟩
    rw [← ez]
    exact q (failN_ok k1) z'.x H3 w3
end
end Br

namespace Br
open PySem PySem.Spec PyProof.Rows L2
/-! ### the formatter -/
section
variable {P : Program} {w : World} {K : PySem.W.Frag} {mg : Str → Option Value} {base : Heap}
end
end Br

namespace Br
open PySem PySem.Spec PyProof.Rows L2
section
variable {P : Program} {w : World} {K : PySem.W.Frag} {mg : Str → Option Value} {base : Heap}
def spFormat : Sp := fun vs H Q _ => ∃ (z : Str) (r : Rota) (S : List Stm), vs = [.str z] ∧ Says z r S ∧ ∀ H', Wd [] H H' [] → Q (.str (textOf r)) H'
end
end Br

/-! str(x) of a number or a text; a match over a list of texts: case [word | .. as name], case [word, name]. -/
namespace Br
open PySem PySem.Spec PyProof.Rows L2
section
variable {X : Cx}
def rStrA : List V → Hp → VK → Prop := fun xs H Q => (∃ i, xs = [.int i] ∧ i.natAbs.log2 < 1920 ∧ Q (.str (toString i)) H) ∨ ∃ a, xs = [.str a] ∧ Q (.str a) H
/-- a part of a sequence pattern, asked of a text -/
structure PIt (X : Cx) (p : Pattern) (hit : Str → Bool) (nm : Option Str) : Prop where
  star : p.isStar = false
  wild : (p.isWildcard || (p.isStar && p.names.isEmpty)) = false
  run : ∀ (s : Shared) (z : Str) (tk : Tok) (Q : Option (List (Str × Value)) → Shared → Prop), (∀ t', Q (if hit z = true then some (nm.map (·, Value.str z tk)).toList else none) { s with toks := t' }) → wpAny (model X.prog X.w) X.A (matchPattern p X.env (.str z tk)) Q X.xe s
theorem pit_val {c : Str} {j cpos vpos} : PIt X (.MatchValue (.Constant (.str c) j cpos) vpos) (fun z => z == c) none := by
  refine ⟨rfl, rfl, fun s z tk Q h => ?_⟩
  refine wpAny_matchPattern_Value (Calls.Constant_str (eq_str (wpAny_truthy_bool ?_)))
  have := h (s.toks + 1)
  cases e : (z == c) with
  | true => rw [e] at this; exact this
  | false => rw [e] at this; exact this
theorem pit_cap {n : Str} {apos} : PIt X (.MatchAs none (some n) apos) (fun _ => true) (some n) := ⟨rfl, rfl, fun s z tk Q h => wpAny_matchPattern_Capture (h s.toks)⟩
/-- the alternatives of a pattern -/
structure PFst (X : Cx) (ps : List Pattern) (cs : List Str) : Prop where
  run : ∀ (s : Shared) (z : Str) (tk : Tok) (Q : Option (List (Str × Value)) → Shared → Prop), (∀ t', Q (if z ∈ cs then some [] else none) { s with toks := t' }) → wpAny (model X.prog X.w) X.A (matchFirst ps X.env (.str z tk)) Q X.xe s
theorem pfst_nil : PFst X [] [] := ⟨fun s z tk Q h => wpAny_matchFirst_nil (by have := h s.toks; simpa using this)⟩
theorem pfst_cons {c : Str} {j cpos vpos} {ps : List Pattern} {cs : List Str} (h : PFst X ps cs) : PFst X (.MatchValue (.Constant (.str c) j cpos) vpos :: ps) (c :: cs) := by
  refine ⟨fun s z tk Q q => wpAny_matchFirst_cons ((pit_val (X := X) (c := c) (j := j) (cpos := cpos) (vpos := vpos)).run s z tk _ fun t' => ?_)⟩
  by_cases e : z = c
  · subst e
    rw [if_pos (beq_self_eq_true z)]
    have := q t'
    rw [if_pos List.mem_cons_self] at this
    exact this
  · rw [if_neg (by rw [beq_iff_eq]; exact e)]
    refine h.run _ z tk Q fun t2 => ?_
    have := q t2
    by_cases m : z ∈ cs
    · rw [if_pos (List.mem_cons_of_mem _ m)] at this; rw [if_pos m]; exact this
    · rw [if_neg (fun k => (List.mem_cons.mp k).elim e m)] at this; rw [if_neg m]; exact this
theorem pit_orAs {ps : List Pattern} {cs : List Str} {n : Str} {opos apos} (h : PFst X ps cs) (h0 : namesOfAll (ps.take 1) = [] := by rfl) : PIt X (.MatchAs (some (.MatchOr ps opos)) (some n) apos) (fun z => decide (z ∈ cs)) (some n) := by
  refine ⟨rfl, rfl, fun s z tk Q q => wpAny_matchPattern_As (wpAny_matchPattern_Or (h.run s z tk _ fun t' => ?_))⟩
  have := q t'
  by_cases m : z ∈ cs
  · rw [if_pos m]
    rw [if_pos (decide_eq_true m)] at this
    rw [h0]
    exact this
  · rw [if_neg m]
    rw [if_neg (fun k => m (of_decide_eq_true k))] at this
    exact this
/-! ### a match over a list of texts -/
structure PCl (X : Cx) (cs : List MatchCase) (t : List Str → TS) : Prop where
  run : ∀ (pins : List (Addr × Obj)) (s : Shared) (σ : L2.St) (H : Hp) (D : Ends) (a : Addr) (zs : List Str) (first : Bool), Inv X pins σ H s → H a = some (.lst (zs.map V.str)) → t zs D σ H → wpAny (model X.prog X.w) X.A (matchCases cs X.env (.ref a) first) (SP X pins D) X.xe s
def tMatchL (te : TE) (tc : List Str → TS) : TS := fun D σ H => te σ H fun x H1 => ∃ a zs, x = .ref a ∧ H1 a = some (.lst (zs.map V.str)) ∧ tc zs D σ H1
theorem ps_matchL {e : Expr} {te : TE} {cs : List MatchCase} {tc : List Str → TS} {pos : Pos} (he : PE X e te) (hc : PCl X cs tc) : PS X (.Match e cs pos) (tMatchL te tc) := by
  refine ⟨fun pins s σ H D I h => ?_⟩
  show wpAny _ _ (do standAt pos; let v ← eval e X.env; matchCases cs X.env v true) _ _ _
  refine wpAny_bind (wpAny_standAt (wpAny_bind (thn (he.run pins s σ H _ I h) fun v s1 ⟨x, H1, I1, r1, a, zs, hx, ha, q⟩ => ?_)))
  subst hx
  obtain rfl : v = Value.ref a := r1
  exact hc.run pins s1 σ H1 D a zs true I1 ha q
theorem pcl_nil : PCl X [] (fun _ D σ H => D.nx σ H) := ⟨fun pins s σ H D z tk first I h q => wpAny_pure ⟨σ, H, I, q⟩⟩
/-- the slot that a part binds -/
structure Slot (X : Cx) (nm : Option Str) (i : Option Nat) : Prop where
  ok : (nm = none ∧ i = none) ∨ ∃ n k, nm = some n ∧ i = some k ∧ X.N[k]? = some n ∧ Loc X.env.scope n ∧ (X.fn n = true ∨ X.env.scope.names.lookup n = some .local)
theorem slot_none : Slot X none none := ⟨.inl ⟨rfl, rfl⟩⟩
theorem slot_some {n : Str} {k : Nat} (hi : X.N[k]? = some n) (hx : Loc X.env.scope n) (hf : X.fn n = true ∨ X.env.scope.names.lookup n = some .local := by first | exact .inl rfl | exact .inr rfl | assumption) : Slot X (some n) (some k) := ⟨.inr ⟨n, k, rfl, rfl, hi, hx, hf⟩⟩
def setO (σ : L2.St) (z : Str) : Option Nat → L2.St
  | none => σ
  | some k => σ.set k (some (.str z))
theorem bind_slot {pins : List (Addr × Obj)} {s : Shared} {σ : L2.St} {H : Hp} {nm : Option Str} {i : Option Nat} {z : Str} {tk : Tok} {Q : Unit → Shared → Prop} {ts : List (Value → Sem Unit)} {vs : List Value} (hN : X.N.Nodup) (sl : Slot X nm i) (I : Inv X pins σ H s)
    (h : ∀ s', Inv X pins (setO σ z i) H s' → wpAny (model X.prog X.w) X.A (assignInOrder ts vs) Q X.xe s') :
    wpAny (model X.prog X.w) X.A (assignInOrder ((nm.map (·, Value.str z tk)).toList.map (fun (n, _) => bindName X.env n) ++ ts) ((nm.map (·, Value.str z tk)).toList.map (·.2) ++ vs)) Q X.xe s := by
  rcases sl.ok with ⟨rfl, rfl⟩ | ⟨n, k, rfl, rfl, hi, hx, hf⟩
  · exact h s I
  · exact wpAny_assignInOrder_more (wpAny_bindName (store_ok (v := .str z) I hN hi hx ⟨tk, rfl⟩ (fun s' I' => h s' I') hf))
def tL1 (hit : Str → Bool) (i : Option Nat) (tb : TS) (tr : List Str → TS) : List Str → TS := fun zs D σ H => (∀ z, zs = [z] → if hit z = true then tb D (setO σ z i) H else tr zs D σ H) ∧ (zs.length ≠ 1 → tr zs D σ H)
def tL2 (hit hit2 : Str → Bool) (i j : Option Nat) (tb : TS) (tr : List Str → TS) : List Str → TS := fun zs D σ H => (∀ y z, zs = [y, z] → if hit y = true ∧ hit2 z = true then tb D (setO (setO σ y i) z j) H else tr zs D σ H) ∧ (zs.length ≠ 2 → tr zs D σ H)
theorem vals_strs : ∀ {zs : List Str} {its : List Value}, Vals (zs.map V.str) its → its.length = zs.length := fun {zs its} r => by
  have := r.length
  rw [List.length_map] at this
  exact this.symm
theorem unpack_l {prog : Program} {w : World} {A : Around} {E : Value → Shared → Prop} {s : Shared} {t : Addr} {items : Array Value} {n : Nat} {Q : List Value → Shared → Prop} (hn : n = items.size) (hh : A.handled = none) (ht : s.heap.IsList t items)
    (hQ : ∀ h', Heap.ExtBut s.heap.objs.size s.heap h' → Q items.toList { s with heap := h' }) : wpAny (model prog w) A (unpackItems (.ref t) n none) Q E s := by
  subst hn; exact PySem.W.kun_itemsOf hh ht hQ
theorem pcl_one {p : Pattern} {hit : Str → Bool} {nm : Option Str} {i : Option Nat} {pos} {body : List Stmt} {rest : List MatchCase} {tb : TS} {tr : List Str → TS} (hc : X.calm = true) (hN : X.N.Nodup) (hp : PIt X p hit nm) (sl : Slot X nm i) (hb : PSs X body tb) (hr : PCl X rest tr) :
    PCl X (⟨.MatchSequence [p] pos, none, body⟩ :: rest) (tL1 hit i tb tr) := by
  refine ⟨fun pins s σ H D a zs first I e h => ?_⟩
  obtain ⟨h1, h2⟩ := h
  obtain ⟨its, rv, ht, hz⟩ := I.list (SqL.of (K := X.K) e)
  have hl0 := vals_strs rv
  have hfit : ((its.toArray.size : Nat) : Int) < 2 ^ 63 := by
    rw [List.size_toArray]
    have h0 := rv.length
    rw [sizeLine_eq] at hz
    omega
  have hst : ([p] : List Pattern).findIdx? (·.isStar) = none := by simp [List.findIdx?_cons, hp.star]
  have hwl : (([p] : List Pattern).all fun p => p.isWildcard || (p.isStar && p.names.isEmpty)) = false := by simp only [List.all_cons, hp.wild, Bool.false_and]
  refine wpAny_matchCases_cons ?_
  by_cases hl : zs.length = 1
  · obtain ⟨z, rfl⟩ := List.length_eq_one_iff.mp hl
    obtain ⟨u, rfl⟩ := List.length_eq_one_iff.mp (hl0.trans hl)
    have rx : RelV (.str z) u := by cases rv with | cons r t => exact r
    obtain ⟨tk, rfl⟩ := (show ∃ tk, u = Value.str z tk from rx)
    have q1 := h1 z rfl
    refine matchSeq_list_hit ht.isList hfit rfl ?_ hst hwl
    refine unpack_l rfl (I.ok.hd hc) ht.isList fun h' hx' => ?_
    refine wpAny_matchEach_cons (hp.run _ z tk _ fun t' => ?_) hp.star
    have I1 : Inv X pins σ H { s with heap := h', toks := t' } := I.kept fun b o e => hx' b o (Nat.ne_of_lt (Heap.lt_size e)) e
    cases hz2 : hit z with
    | false =>
      rw [hz2] at q1
      exact hr.run pins _ σ H D a _ false I1 e q1
    | true =>
      rw [hz2] at q1
      refine wpAny_matchEach_nil ?_
      have := bind_slot (ts := []) (vs := []) (tk := tk) (Q := fun _ s₂ => wpAny (model X.prog X.w) X.A (execs body X.env) (SP X pins D) X.xe s₂) hN sl I1 (z := z) fun s' I' => wpAny_assignInOrder_none (hb.run pins _ _ H D I' q1)
      simpa using this
  · refine matchSeq_list_miss ht.isList hfit (by simpa [hl0] using hl) ?_ hst hwl
    exact hr.run pins _ σ H D a zs false (I.tok _) e (h2 hl)
theorem pcl_two {p p2 : Pattern} {hit hit2 : Str → Bool} {nm nm2 : Option Str} {i j : Option Nat} {pos} {body : List Stmt} {rest : List MatchCase} {tb : TS} {tr : List Str → TS} (hc : X.calm = true) (hN : X.N.Nodup) (hp : PIt X p hit nm) (hp2 : PIt X p2 hit2 nm2) (sl : Slot X nm i) (sl2 : Slot X nm2 j) (hb : PSs X body tb) (hr : PCl X rest tr) :
    PCl X (⟨.MatchSequence [p, p2] pos, none, body⟩ :: rest) (tL2 hit hit2 i j tb tr) := by
  refine ⟨fun pins s σ H D a zs first I e h => ?_⟩
  obtain ⟨h1, h2⟩ := h
  obtain ⟨its, rv, ht, hz⟩ := I.list (SqL.of (K := X.K) e)
  have hl0 := vals_strs rv
  have hfit : ((its.toArray.size : Nat) : Int) < 2 ^ 63 := by
    rw [List.size_toArray]
    have h0 := rv.length
    rw [sizeLine_eq] at hz
    omega
  have hst : ([p, p2] : List Pattern).findIdx? (·.isStar) = none := by simp [List.findIdx?_cons, hp.star, hp2.star]
  have hwl : (([p, p2] : List Pattern).all fun p => p.isWildcard || (p.isStar && p.names.isEmpty)) = false := by simp only [List.all_cons, hp.wild, Bool.false_and]
  refine wpAny_matchCases_cons ?_
  by_cases hl : zs.length = 2
  · obtain ⟨y, z, rfl⟩ : ∃ y z, zs = [y, z] := by
      cases zs with
      | nil => simp at hl
      | cons u t => cases t with
        | nil => simp at hl
        | cons w t => cases t with
          | nil => exact ⟨_, _, rfl⟩
          | cons _ _ => simp at hl
    obtain ⟨u, w, rfl⟩ : ∃ u w, its = [u, w] := by
      cases its with
      | nil => simp at hl0
      | cons u t => cases t with
        | nil => simp at hl0
        | cons w t => cases t with
          | nil => exact ⟨_, _, rfl⟩
          | cons _ _ => simp at hl0
    obtain ⟨rx, ry⟩ : RelV (.str y) u ∧ RelV (.str z) w := by cases rv with | cons r t => cases t with | cons r2 t => exact ⟨r, r2⟩
    obtain ⟨tk, rfl⟩ := (show ∃ tk, u = Value.str y tk from rx)
    obtain ⟨tk2, rfl⟩ := (show ∃ tk, w = Value.str z tk from ry)
    have q1 := h1 y z rfl
    refine matchSeq_list_hit ht.isList hfit rfl ?_ hst hwl
    refine unpack_l rfl (I.ok.hd hc) ht.isList fun h' hx' => ?_
    refine wpAny_matchEach_cons (hp.run _ y tk _ fun t' => ?_) hp.star
    have I1 : ∀ t', Inv X pins σ H { s with heap := h', toks := t' } := fun t' => I.kept fun b o e => hx' b o (Nat.ne_of_lt (Heap.lt_size e)) e
    cases hy2 : hit y with
    | false =>
      rw [if_neg (by rw [hy2]; simp)] at q1
      exact hr.run pins _ σ H D a _ false (I1 t') e q1
    | true =>
      refine wpAny_matchEach_cons (hp2.run _ z tk2 _ fun t2 => ?_) hp2.star
      cases hz2 : hit2 z with
      | false =>
        rw [if_neg (by rw [hz2]; simp)] at q1
        exact hr.run pins _ σ H D a _ false (I1 t2) e q1
      | true =>
        rw [if_pos ⟨hy2, hz2⟩] at q1
        refine wpAny_matchEach_nil ?_
        have := bind_slot (tk := tk) (Q := fun _ s₂ => wpAny (model X.prog X.w) X.A (execs body X.env) (SP X pins D) X.xe s₂) hN sl (I1 t2) (z := y) fun s' I' =>
          bind_slot (ts := []) (vs := []) (tk := tk2) hN sl2 I' (z := z) fun s2 I2 => wpAny_assignInOrder_none (hb.run pins _ _ H D I2 q1)
        simpa using this
  · refine matchSeq_list_miss ht.isList hfit (by simpa [hl0] using hl) ?_ hst hwl
    exact hr.run pins _ σ H D a zs false (I.tok _) e (h2 hl)
end
end Br

/-! o.f as one of several targets. -/
namespace Br
open PySem PySem.Spec PyProof.Rows L2
section
variable {X : Cx} {o : Expr} {f : Str} {pos : Pos} {ta : TE}
def gFld (K : PySem.W.Frag) (ta : TE) (f : Str) : TG := fun v σ H Q => ta σ H fun x H1 => ∃ a C dx fs, x = .ref a ∧ H1 a = some (.ins C dx fs) ∧ Cls K C ∧ NoAttr K C f ∧ fs.length < 1000 ∧ Q σ (upd H1 a (.ins C dx (putF f v fs)))
section
variable {o i : Expr} {td ty : TE}
end
end
end Br

namespace Br
open PySem PySem.Spec PyProof.Rows L2
section
variable {P : Program} {w : World} {K : PySem.W.Frag} {mg : Str → Option Value} {base : Heap} {CB CX : Addr}
def spRestore (CB CX : Addr) : Sp := fun vs H Q E => ∃ (z : Bz) (r : Rota) (b : Bst) (S : List (Str × Bst)) (nm : Str), vs = [.ref z.x, .str nm] ∧ BkAt CB z r b S H ∧ (∀ e ∈ S, e.2.past.length ≤ 1000 ∧ e.2.und.length ≤ 1000) ∧
  match getS nm S with
  | none => ∀ H', Wd [] H H' [] → E (.ref CX) none H'
  | some b' => ∀ H', BStep CB z r b' S H H' → Q .non H'
end
end Br

namespace Br
open PySem PySem.Spec PyProof.Rows L2
theorem lc_str {x : Str} {g : TG} {tt : TT} {te : TE} {vs : List Nat} {σ : L2.St} {H1 : Hp} {D : Addr} {Qd : Hp → Prop} (Pv : Nat → Hp → Prop) (h0 : Pv 0 (upd H1 D (.lst [])))
    (hs : ∀ i c H, x.cps[i]? = some c → Pv i H → g (.str ⟨#[c]⟩) (wipe σ vs) H fun σ2 H2 => wipe σ2 vs = wipe σ vs ∧ tt σ2 H2 fun b H3 =>
      if b = true then te σ2 H3 fun y H4 => ∃ acc, H4 D = some (.lst acc) ∧ acc.length < sizeLine ∧ Pv (i + 1) (upd H4 D (.lst (acc ++ [y]))) else Pv (i + 1) H3) (hd : ∀ H, Pv x.cps.size H → Qd H) :
    ∃ W : Nat → Nat → Hp → Prop, (∃ m, W 0 m (upd H1 D (.lst []))) ∧ ∀ i m H, W i m H →
      ((Its x).stop i H ∧ Qd H) ∨ ((Its x).go i H ∧ ∃ Nx : Hp → Prop, (∀ H', Nx H' → ∃ m', m' < m ∧ W (i + 1) m' H') ∧ ∀ v H', (Its x).yld i H v H' → g v (wipe σ vs) H' fun σ2 H2 => wipe σ2 vs = wipe σ vs ∧ tt σ2 H2 fun b H3 =>
        if b = true then te σ2 H3 fun y H4 => ∃ acc, H4 D = some (.lst acc) ∧ acc.length < sizeLine ∧ Nx (upd H4 D (.lst (acc ++ [y]))) else Nx H3) := by
  refine ⟨fun i m H => m = x.cps.size - i ∧ i ≤ x.cps.size ∧ Pv i H, ⟨x.cps.size, by simp, Nat.zero_le _, h0⟩, ?_⟩
  rintro i m H ⟨rfl, hi, p⟩
  by_cases hlt : i < x.cps.size
  · refine .inr ⟨hlt, Pv (i + 1), fun H' p' => ⟨x.cps.size - (i + 1), by omega, rfl, hlt, p'⟩, fun v H' y => ?_⟩
    obtain ⟨e, c, hc, ev⟩ := y
    subst e
    subst ev
    exact hs i c H' hc p
  · have : i = x.cps.size := by omega
    subst this
    exact .inl ⟨Nat.le_refl _, hd H p⟩
section
variable {P : Program} {w : World} {K : PySem.W.Frag} {mg : Str → Option Value} {base : Heap} {CB CX : Addr}
def NmOk (nm : Str) : Prop := (∀ c ∈ nm.cps.toList, c ∈ ("abcdefghijklmnopqrstuvwxyz" : Str).cps.toList) ∧ 1 ≤ nm.length ∧ nm.length ≤ 8
def spSave (CB : Addr) : Sp := fun vs H Q E => ∃ (z : Bz) (r : Rota) (b : Bst) (S : List (Str × Bst)) (nm : Str), vs = [.ref z.x, .str nm] ∧ NmOk nm ∧ BkAt CB z r b S H ∧ b.past.length ≤ 1000 ∧ b.und.length ≤ 1000 ∧ S.length ≤ 1000 ∧ ∀ H', BStep CB z r b (putS nm b S) H H' → Q .non H'
end
end Br

namespace Br
open PySem PySem.Spec PyProof.Rows L2
/-- a text that says a number -/
structure NumP (z : Str) (k : Int) : Prop where
  l1 : 1 ≤ z.length
  l3 : z.length ≤ 3
  dig : ∀ c ∈ z.cps.toList, c ∈ ("0123456789" : Str).cps.toList
  lead : 1 < z.length → z.cps.toList[0]? ≠ some 48
  txt : PySem.intText? z = some k
section
variable {P : Program} {w : World} {K : PySem.W.Frag} {mg : Str → Option Value} {base : Heap}
abbrev sparse_number : Stmt := topS 65
theorem scparse_number : FnScope ["word", "digit"] ["word"] (defScope sparse_number) := ⟨rfl, rfl, rfl, by decide +kernel, rfl, by decide +kernel, by decide +kernel⟩
def spNumP : Sp := fun vs H Q _ => ∃ (z : Str) (k : Int), vs = [.str z] ∧ NumP z k ∧ ∀ H', Wd [] H H' [] → Q (.int k) H'
abbrev sis_name : Stmt := topS 66
theorem scis_name : FnScope ["word", "letter"] ["word"] (defScope sis_name) := ⟨rfl, rfl, rfl, by decide +kernel, rfl, by decide +kernel, by decide +kernel⟩
def spIsName : Sp := fun vs H Q _ => ∃ z : Str, vs = [.str z] ∧ NmOk z ∧ z ∉ kws ∧ ∀ H', Wd [] H H' [] → Q (.bl true) H'
end
end Br

namespace Br
open PySem PySem.Spec PyProof.Rows L2
/-! ### the number that a word tells -/
def numL : List Nat → Option Nat
  | [a] => if dig a = true then some (a - 48) else none
  | [a, b] => if a ≠ 48 ∧ dig a = true ∧ dig b = true then some ((a - 48) * 10 + (b - 48)) else none
  | [a, b, c] => if a ≠ 48 ∧ dig a = true ∧ dig b = true ∧ dig c = true then some ((a - 48) * 100 + (b - 48) * 10 + (c - 48)) else none
  | _ => none
theorem numL1 (a : Nat) : numL [a] = if dig a = true then some (a - 48) else none := rfl
theorem numL2 (a b : Nat) : numL [a, b] = if a ≠ 48 ∧ dig a = true ∧ dig b = true then some ((a - 48) * 10 + (b - 48)) else none := rfl
theorem numL3 (a b c : Nat) : numL [a, b, c] = if a ≠ 48 ∧ dig a = true ∧ dig b = true ∧ dig c = true then some ((a - 48) * 100 + (b - 48) * 10 + (c - 48)) else none := rfl
def numW (z : Str) : Option Nat := numL z.cps.toList
def oI : Option Nat → V
  | some k => .int k
  | none => .non
theorem dig_three : ∀ a ∈ TL.tl ("0123456789" : Str), a ≠ 48 → ∀ b ∈ TL.tl ("0123456789" : Str), ∀ c ∈ TL.tl ("0123456789" : Str), (⟨#[a, b, c]⟩ : Str) = num (((a - 48) * 100 + (b - 48) * 10 + (c - 48) : Nat) : Int) ∧ (a - 48) * 100 + (b - 48) * 10 + (c - 48) ≤ 999 := by decide +kernel
theorem intText_num {z : Str} {v : Nat} (h : z = num (v : Int)) (hv : v ≤ 999) : PySem.intText? z = some (v : Int) ∧ z.length ≤ 640 := by
  have k : ∀ v ∈ List.range 1000, PySem.intText? (num ((v : Nat) : Int)) = some ((v : Nat) : Int) ∧ (num ((v : Nat) : Int)).length ≤ 640 := by decide +kernel
  rw [h]
  exact k v (List.mem_range.mpr (by omega))
theorem str_of {z : Str} {l : List Nat} (h : z.cps.toList = l) : z = ⟨l.toArray⟩ := by
  cases z with
  | mk a => congr 1; rw [← h]
theorem numL_bad {l : List Nat} (h : l.any (fun c => !decide (c ∈ TL.tl ("0123456789" : Str))) = true) : numL l = none := by
  have hd : ∀ c, dig c = true → c ∈ TL.tl ("0123456789" : Str) := fun c hc => of_decide_eq_true hc
  obtain ⟨c, hc, hb⟩ := List.any_eq_true.mp h
  have hb : c ∉ TL.tl ("0123456789" : Str) := fun m => by rw [decide_eq_true m] at hb; cases hb
  match l, hc with
  | [a], hc =>
    rw [List.mem_singleton.mp hc] at hb
    rw [numL1, if_neg (fun e => hb (hd _ e))]
  | [a, b], hc =>
    rw [numL2, if_neg]
    rintro ⟨_, h1, h2⟩
    simp only [List.mem_cons, List.not_mem_nil, or_false] at hc
    rcases hc with rfl | rfl
    · exact hb (hd _ h1)
    · exact hb (hd _ h2)
  | [a, b, e], hc =>
    rw [numL3, if_neg]
    rintro ⟨_, h1, h2, h3⟩
    simp only [List.mem_cons, List.not_mem_nil, or_false] at hc
    rcases hc with rfl | rfl | rfl
    · exact hb (hd _ h1)
    · exact hb (hd _ h2)
    · exact hb (hd _ h3)
  | _ :: _ :: _ :: _ :: _, _ => rfl
theorem numL_len {l : List Nat} (h : ¬ (1 ≤ l.length ∧ l.length ≤ 3)) : numL l = none := by
  match l with
  | [] => rfl
  | [_] => exact absurd ⟨by show 1 ≤ 1; decide, by show 1 ≤ 3; decide⟩ h
  | [_, _] => exact absurd ⟨by show 1 ≤ 2; decide, by show 2 ≤ 3; decide⟩ h
  | [_, _, _] => exact absurd ⟨by show 1 ≤ 3; decide, by show 3 ≤ 3; decide⟩ h
  | _ :: _ :: _ :: _ :: _ => rfl
/-- digits only: the value, but for a leading zero -/
theorem numL_good {z : Str} {l : List Nat} (hz : z.cps.toList = l) (h1 : 1 ≤ l.length) (h3 : l.length ≤ 3) (hd : ∀ c ∈ l, c ∈ TL.tl ("0123456789" : Str)) :
    (1 < l.length ∧ l[0]? = some 48 ∧ numL l = none) ∨ (¬ (1 < l.length ∧ l[0]? = some 48) ∧ ∃ v : Nat, numL l = some v ∧ PySem.intText? z = some (v : Int) ∧ z.length ≤ 640) := by
  have dg : ∀ c, c ∈ TL.tl ("0123456789" : Str) → dig c = true := fun c hc => decide_eq_true hc
  have e := str_of hz
  match l, h1, h3, hd, e with
  | [a], _, _, hd, e =>
    have ha := hd a (by simp)
    obtain ⟨g1, g2⟩ := dig_one a ha
    refine .inr ⟨fun h => absurd h.1 (by show ¬ 1 < 1; decide), a - 48, by rw [numL1, if_pos (dg a ha)], intText_num (e.trans g2) (by omega)⟩
  | [a, b], _, _, hd, e =>
    have ha := hd a (by simp)
    have hb := hd b (by simp)
    by_cases h : a = 48
    · exact .inl ⟨by show 1 < 2; decide, by rw [h]; rfl, by rw [numL2, if_neg (fun c => c.1 h)]⟩
    · obtain ⟨g1, g2⟩ := dig_two a ha h b hb
      exact .inr ⟨fun c => h (Option.some.inj c.2), _, by rw [numL2, if_pos ⟨h, dg a ha, dg b hb⟩], intText_num (e.trans g2) (by omega)⟩
  | [a, b, c], _, _, hd, e =>
    have ha := hd a (by simp)
    have hb := hd b (by simp)
    have hc := hd c (by simp)
    by_cases h : a = 48
    · exact .inl ⟨by show 1 < 3; decide, by rw [h]; rfl, by rw [numL3, if_neg (fun c => c.1 h)]⟩
    · obtain ⟨g1, g2⟩ := dig_three a ha h b hb c hc
      exact .inr ⟨fun c => h (Option.some.inj c.2), _, by rw [numL3, if_pos ⟨h, dg a ha, dg b hb, dg c hc⟩], intText_num (e.trans g1) g2⟩
section
variable {P : Program} {w : World} {K : PySem.W.Frag} {mg : Str → Option Value} {base : Heap}
def spNumG : Sp := fun vs H Q _ => ∃ (z : Str), vs = [.str z] ∧ z.length ≤ 3000 ∧ ∀ H', Wd [] H H' [] → Q (oI (numW z)) H'
theorem cal_numG (D : DefAt K mg "parse_number" sparse_number ["word"]) (T : Bi mg) (cM : ∃ t, mg "MAX_DIGITS_session" = some (.int 3 t)) (cD : ∃ t, mg "DIGITS" = some (.str "0123456789" t)) : Cal P w K mg base 1 "parse_number" ["word"] spNumG := D.cal fun f fd F => by
  have nd := scparse_number.nd
  obtain ⟨t1, c_MAX_DIGITS_session⟩ := cM
  obtain ⟨t2, c_DIGITS⟩ := cD
  refine F.ok scparse_number (fun vs H Q E h => ?_) (fun cdv A outer s H vs Q E hr h => ?_)
  · obtain ⟨z, rfl, _⟩ := h; rfl
  obtain ⟨z, rfl, hz, q⟩ := h
  have ez : z.length = z.cps.toList.length := by rw [Array.length_toList]; rfl
  refine ⟨_, (pss_cons (ps_if (PW.pt (pw_or (pt_not (pt_chain op_le op_le pe_int (pe_callB call_len_str (by rfl) T.len PySem.boot_len (pa_cons (pv 0) pa_nil)) (pe_glob (v := .int 3) (by rfl) c_MAX_DIGITS_session ⟨_, rfl⟩))) (pw_or1 (pt_val (pe_callB (r := L2.rAny K) (cr_any rfl) (by rfl) T.any (by decide +kernel) (pa_cons (pe_lc (own := [("digit", 1)]) rfl nd (pi_str (pv 0)) (blkOk_by (N := ["word", "digit"]) (sc := defScope sparse_number) (by decide +kernel)) (fun _ _ _ _ _ => (pg_name (i := 1) nd rfl (Or.inl rfl))) (fun _ _ _ _ _ => pts_nil) (fun _ _ _ _ _ => (pe_cmpR op_notIn_sign (pv 1) (pe_glob (v := .str "0123456789") (by rfl) c_DIGITS ⟨_, rfl⟩) (by rfl)))) pa_nil))))))
 (pss_one (ps_ret pe_non))
 pss_nil)
 (pss_one (ps_ret (pe_ifExp (PW.pt (pw_and (pt_cmpR op_gt (pe_callB call_len_str (by rfl) T.len PySem.boot_len (pa_cons (pv 0) pa_nil)) pe_int (nomark _)) (pw_and1 (pt_cmpR op_eq (pe_ix ix_str (pv 0) pe_int (fun _ _ => rfl)) pe_str (nomark _))))) pe_non (pe_callTy call_int_str (by rfl) T.int (by decide +kernel) (pa_cons (pv 0) pa_nil)))))), ?_⟩
  refine ⟨_, rfl, z, rfl, le_line (by omega), _, _, rfl, rfl, _, rfl, ?_⟩
  by_cases h1 : 1 ≤ z.length
  case neg =>
    rw [decide_eq_false (show ¬ (1 : Int) ≤ (z.length : Int) by omega)]
    have e : numW z = none := numL_len (by omega)
    rw [e] at q
    exact iteF ⟨_, rfl, iteT (iteT (q _ (Wd.refl H)))⟩
  rw [decide_eq_true (show (1 : Int) ≤ (z.length : Int) by omega)]
  refine iteT ⟨_, _, rfl, rfl, _, rfl, ?_⟩
  by_cases h3 : z.length ≤ 3
  case neg =>
    rw [decide_eq_false (show ¬ (z.length : Int) ≤ 3 by omega)]
    have e : numW z = none := numL_len (by omega)
    rw [e] at q
    exact iteT (iteT (q _ (Wd.refl H)))
  rw [decide_eq_true (show (z.length : Int) ≤ 3 by omega)]
  refine iteF ?_
  refine ⟨_, rfl, z, rfl, fun D hD => ?_⟩
  refine lc_str (fun i H2 => Wd [] H H2 [(D, .lst (((z.cps.toList.take i).map fun c => !decide (c ∈ TL.tl ("0123456789" : Str))).map V.bl))]) ((Wd.refl H).new _ hD) ?_ ?_
  · rintro i c H2 hc w2
    have hi : i < z.cps.size := (Array.getElem?_eq_some_iff.mp hc).1
    have el : z.length = z.cps.size := rfl
    refine ⟨rfl, _, rfl, c, _, rfl, rfl, _, w2.get 0 rfl, ?_, ?_⟩
    · rw [List.length_map, List.length_map, List.length_take]; exact lt_line (by omega)
    · have hc' : z.cps.toList[i]? = some c := by rw [Array.getElem?_toList]; exact hc
      rw [take_more hc', List.map_append, List.map_append]
      exact w2.app0 _
  intro H2 w2
  have efull : z.cps.toList.take z.cps.size = z.cps.toList := by
    rw [← Array.length_toList]; exact List.take_length
  rw [efull] at w2
  refine ⟨D, _, rfl, SqL.of (w2.get 0 rfl), ?_⟩
  have eany : (z.cps.toList.map fun c => !decide (c ∈ TL.tl ("0123456789" : Str))).any id = z.cps.toList.any fun c => !decide (c ∈ TL.tl ("0123456789" : Str)) := by rw [List.any_map]; rfl
  cases hany : z.cps.toList.any fun c => !decide (c ∈ TL.tl ("0123456789" : Str)) with
  | true =>
    have e : numW z = none := numL_bad hany
    rw [e] at q
    rw [eany, hany]
    exact ⟨_, rfl, iteT (q _ (w2.sub (List.nil_sublist _)))⟩
  | false =>
    rw [eany, hany]
    refine ⟨_, rfl, iteF ?_⟩
    have hd : ∀ c ∈ z.cps.toList, c ∈ TL.tl ("0123456789" : Str) := fun c hc => Classical.byContradiction fun n => by
      have := List.any_eq_false.mp hany c hc
      rw [decide_eq_false n] at this
      exact this rfl
    refine ⟨_, rfl, z, rfl, le_line (by omega), _, _, rfl, rfl, _, rfl, ?_⟩
    rcases numL_good rfl (by omega) (by omega) hd with ⟨g1, g2, g3⟩ | ⟨g1, v, g2, g3, g4⟩
    · have e : numW z = none := g3
      rw [e] at q
      rw [decide_eq_true (show (1 : Int) < (z.length : Int) by omega)]
      refine iteT ?_
      refine ⟨_, rfl, z, _, 48, rfl, rfl, le_line (by omega), atI_nat (j := 0) g2, ?_⟩
      refine ⟨rfl, _, rfl, ?_⟩
      rw [decide_eq_true (show V.str ⟨#[48]⟩ = V.str ("0" : Str) by decide +kernel)]
      exact iteT (q _ (w2.sub (List.nil_sublist _)))
    · have e : numW z = some v := g2
      rw [e] at q
      have fin : (∃ a n, [V.str z] = [V.str a] ∧ PySem.intText? a = some n ∧ a.length ≤ 640 ∧ Q (.int n) H2) := ⟨z, v, rfl, g3, g4, q _ (w2.sub (List.nil_sublist _))⟩
      by_cases c1 : 1 < z.length
      · rw [decide_eq_true (show (1 : Int) < (z.length : Int) by omega)]
        refine iteT ?_
        have hsz : 0 < z.cps.toList.length := by omega
        have hc : z.cps.toList[0]? = some (z.cps.toList[0]) := List.getElem?_eq_getElem hsz
        refine ⟨_, rfl, z, _, z.cps.toList[0], rfl, rfl, le_line (by omega), atI_nat (j := 0) hc, ?_⟩
        refine ⟨rfl, _, rfl, ?_⟩
        have hn : ¬ (V.str ⟨#[z.cps.toList[0]]⟩ = V.str ("0" : Str)) := fun e => by
          have e1 : (⟨#[z.cps.toList[0]]⟩ : Str) = ("0" : Str) := by injection e
          have e2 := congrArg (fun s : Str => s.cps.toList) e1
          have e3 : ("0" : Str).cps.toList = [48] := by decide +kernel
          simp only [e3] at e2
          have e4 : z.cps.toList[0] = 48 := by injection e2
          exact g1 ⟨by omega, by rw [hc, e4]⟩
        rw [decide_eq_false hn]
        exact iteF ⟨_, rfl, fin⟩
      · rw [decide_eq_false (show ¬ (1 : Int) < (z.length : Int) by omega)]
        exact iteF (iteF ⟨_, rfl, fin⟩)
end
end Br

namespace Br
open PySem PySem.Spec PyProof.Rows L2
def lets (z : Str) : Bool := z.cps.toList.all fun c => decide (c ∈ TL.tl ("abcdefghijklmnopqrstuvwxyz" : Str))
def nameW (z : Str) : Bool := decide (1 ≤ z.length ∧ z.length ≤ 8) && (decide (z ∉ kws) && lets z)
theorem nameW_nmf {z : Str} (h : nameW z = true) : NmF z := by
  unfold nameW at h
  rw [Bool.and_eq_true, Bool.and_eq_true] at h
  obtain ⟨h1, h2, h3⟩ := h
  obtain ⟨a, b⟩ := of_decide_eq_true h1
  exact ⟨fun c hc => of_decide_eq_true (List.all_eq_true.mp h3 c hc), a, b, of_decide_eq_true h2⟩
section
variable {P : Program} {w : World} {K : PySem.W.Frag} {mg : Str → Option Value} {base : Heap}
def spIsNameG : Sp := fun vs H Q _ => ∃ z : Str, vs = [.str z] ∧ z.length ≤ 3000 ∧ ∀ H', Wd [] H H' [] → Q (.bl (nameW z)) H'
theorem cal_isNameG (D : DefAt K mg "is_name" sis_name ["word"]) (T : Bi mg) (cL : ∃ t, mg "LETTERS" = some (.str "abcdefghijklmnopqrstuvwxyz" t)) (cM : ∃ t, mg "MAX_LETTERS" = some (.int 8 t)) (cK : ∃ kw, mg "KEYWORDS" = some (.ref kw) ∧ ∀ H : Hp, SqT K H kw (kws.map V.str)) : Cal P w K mg base 1 "is_name" ["word"] spIsNameG := D.cal fun f fd F => by
  have nd := scis_name.nd
  obtain ⟨t1, c_LETTERS⟩ := cL
  obtain ⟨t2, c_MAX_LETTERS⟩ := cM
  obtain ⟨a_KEYWORDS, c_KEYWORDS, hkw⟩ := cK
  refine F.ok scis_name (fun vs H Q E h => ?_) (fun cdv A outer s H vs Q E hr h => ?_)
  · obtain ⟨z, rfl, _⟩ := h; rfl
  obtain ⟨nm, rfl, hz, q⟩ := h
  refine ⟨_, (pss_one (ps_ret (pe_and (pe_chain op_le op_le pe_int (pe_callB call_len_str (by rfl) T.len PySem.boot_len (pa_cons (pv 0) pa_nil)) (pe_glob (v := .int 8) (by rfl) c_MAX_LETTERS ⟨_, rfl⟩)) (pe_and (pe_cmpR (r := rIn K true) op_notIn_seq (pv 0) (pe_glob (v := .ref a_KEYWORDS) (by rfl) c_KEYWORDS rfl) (by rfl)) (pe_one (pe_callB (r := L2.rAll K) (cr_all rfl) (by rfl) T.all (by decide +kernel) (pa_cons (pe_lc (own := [("letter", 1)]) rfl nd (pi_str (pv 0)) (blkOk_by (N := ["word", "letter"]) (sc := defScope sis_name) (by decide +kernel)) (fun _ _ _ _ _ => (pg_name (i := 1) nd rfl (Or.inl rfl))) (fun _ _ _ _ _ => pts_nil) (fun _ _ _ _ _ => (pe_cmpR op_in_sign (pv 1) (pe_glob (v := .str "abcdefghijklmnopqrstuvwxyz") (by rfl) c_LETTERS ⟨_, rfl⟩) (by rfl)))) pa_nil))))))), ?_⟩
  refine ⟨_, rfl, nm, rfl, le_line (by omega), _, _, rfl, rfl, _, rfl, ?_⟩
  by_cases h1 : 1 ≤ nm.length
  case neg =>
    rw [decide_eq_false (show ¬ (1 : Int) ≤ (nm.length : Int) by omega)]
    have e : nameW nm = false := by unfold nameW; rw [decide_eq_false (fun c => h1 c.1)]; rfl
    rw [e] at q
    exact iteF ⟨_, rfl, iteF (q _ (Wd.refl H))⟩
  rw [decide_eq_true (show (1 : Int) ≤ (nm.length : Int) by omega)]
  refine iteT ⟨_, _, rfl, rfl, _, rfl, ?_⟩
  by_cases h8 : nm.length ≤ 8
  case neg =>
    rw [decide_eq_false (show ¬ (nm.length : Int) ≤ 8 by omega)]
    have e : nameW nm = false := by unfold nameW; rw [decide_eq_false (fun c => h8 c.2)]; rfl
    rw [e] at q
    exact iteF (q _ (Wd.refl H))
  rw [decide_eq_true (show (nm.length : Int) ≤ 8 by omega)]
  refine iteT ⟨_, rfl, a_KEYWORDS, kws.map V.str, rfl, .inr (hkw _), rfl, flat_strs' _, _, rfl, ?_⟩
  rw [if_pos rfl, inV_strs]
  by_cases hk : nm ∈ kws
  · have e : nameW nm = false := by unfold nameW; rw [decide_eq_false (fun c : nm ∉ kws => c hk), Bool.false_and, Bool.and_false]
    rw [e] at q
    rw [decide_eq_true hk]
    exact iteF (q _ (Wd.refl H))
  rw [decide_eq_false hk]
  have en : nameW nm = lets nm := by unfold nameW; rw [decide_eq_true ⟨h1, h8⟩, decide_eq_true hk]; rfl
  rw [en] at q
  refine iteT ⟨_, rfl, nm, rfl, fun D hD => ?_⟩
  refine lc_str (fun i H2 => Wd [] H H2 [(D, .lst (((nm.cps.toList.take i).map fun c => decide (c ∈ TL.tl ("abcdefghijklmnopqrstuvwxyz" : Str))).map V.bl))]) ((Wd.refl H).new _ hD) ?_ ?_
  · rintro i c H2 hc w2
    have hi : i < nm.cps.size := (Array.getElem?_eq_some_iff.mp hc).1
    have el : nm.length = nm.cps.size := rfl
    refine ⟨rfl, _, rfl, c, _, rfl, rfl, _, w2.get 0 rfl, ?_, ?_⟩
    · rw [List.length_map, List.length_map, List.length_take]; exact lt_line (by omega)
    · have hc' : nm.cps.toList[i]? = some c := by rw [Array.getElem?_toList]; exact hc
      rw [take_more hc', List.map_append, List.map_append]
      exact w2.app0 _
  intro H2 w2
  have efull : nm.cps.toList.take nm.cps.size = nm.cps.toList := by
    rw [← Array.length_toList]; exact List.take_length
  rw [efull] at w2
  refine ⟨D, _, rfl, SqL.of (w2.get 0 rfl), ?_⟩
  have eall : (nm.cps.toList.map fun c => decide (c ∈ TL.tl ("abcdefghijklmnopqrstuvwxyz" : Str))).all id = lets nm := by rw [List.all_map]; rfl
  rw [eall]
  exact q _ (w2.sub (List.nil_sublist _))
end
end Br

namespace Br
open PySem PySem.Spec PyProof.Rows L2
/-! ### the operation that a line tells -/
def stepW (z : Str) : Option Op := (numW z).map Op.step
def lineW : List Str → Option Op
  | [a] => if a = "reset" then some .reset else if a = "undo" then some .undo else if a = "redo" then some .redo else none
  | [a, b] => if a = "step" then stepW b else if a = "gift" then (if nameW b = true then some (.gift b) else none) else if a = "forgive" then (if nameW b = true then some (.forgive b) else none) else none
  | _ => none
def lineF (z : Str) : Option Op := lineW (Txt.split z " ")
theorem lineW1 (a : Str) : lineW [a] = if a = "reset" then some .reset else if a = "undo" then some .undo else if a = "redo" then some .redo else none := rfl
theorem lineW2 (a b : Str) : lineW [a, b] = if a = "step" then stepW b else if a = "gift" then (if nameW b = true then some (.gift b) else none) else if a = "forgive" then (if nameW b = true then some (.forgive b) else none) else none := rfl
theorem numL_le {l : List Nat} {v : Nat} (h : numL l = some v) : v ≤ 999 := by
  have dg : ∀ c, dig c = true → c - 48 ≤ 9 := fun c hc => (dig_one c (of_decide_eq_true hc)).1
  match l, h with
  | [a], h => rw [numL1] at h; split at h <;> cases h; rename_i k; have := dg a k; omega
  | [a, b], h => rw [numL2] at h; split at h <;> cases h; rename_i k; have := dg a k.2.1; have := dg b k.2.2; omega
  | [a, b, c], h => rw [numL3] at h; split at h <;> cases h; rename_i k; have := dg a k.2.1; have := dg b k.2.2.1; have := dg c k.2.2.2; omega
theorem lineW_ok {r : Rota} {ws : List Str} {op : Op} (h : lineW ws = some op) : OpOk r op := by
  match ws, h with
  | [a], h =>
    rw [lineW1] at h
    split at h
    · cases h; trivial
    · split at h
      · cases h; trivial
      · split at h
        · cases h; trivial
        · cases h
  | [a, b], h =>
    rw [lineW2] at h
    split at h
    · obtain ⟨v, hv, rfl⟩ := Option.map_eq_some_iff.mp h
      exact numL_le hv
    · split at h
      · split at h
        · rename_i hb; cases h; exact nameW_nmf hb
        · cases h
      · split at h
        · split at h
          · rename_i hb; cases h; exact nameW_nmf hb
          · cases h
        · cases h
/-- every part of a split text is at most as long -/
def Parts (ws : List Str) : Prop := ∀ x ∈ ws, x.length ≤ 3000
theorem l1_hit {hit : Str → Bool} {i : Option Nat} {tb : TS} {tr : List Str → TS} {z : Str} {D : Ends} {σ : L2.St} {H : Hp} (hz : hit z = true) (h : tb D (setO σ z i) H) : tL1 hit i tb tr [z] D σ H := ⟨fun y e => by cases e; rw [if_pos hz]; exact h, fun q => absurd rfl q⟩
theorem l1_miss {hit : Str → Bool} {i : Option Nat} {tb : TS} {tr : List Str → TS} {y z : Str} {D : Ends} {σ : L2.St} {H : Hp} (h : tr [y, z] D σ H) : tL1 hit i tb tr [y, z] D σ H := ⟨fun y e => by simp at e, fun _ => h⟩
theorem l2_hit {hit hit2 : Str → Bool} {i j : Option Nat} {tb : TS} {tr : List Str → TS} {y z : Str} {D : Ends} {σ : L2.St} {H : Hp} (hy : hit y = true) (hz : hit2 z = true) (h : tb D (setO (setO σ y i) z j) H) : tL2 hit hit2 i j tb tr [y, z] D σ H :=
  ⟨fun u v e => by cases e; rw [if_pos ⟨hy, hz⟩]; exact h, fun q => absurd rfl q⟩
theorem l2_no {hit hit2 : Str → Bool} {i j : Option Nat} {tb : TS} {tr : List Str → TS} {y z : Str} {D : Ends} {σ : L2.St} {H : Hp} (hy : hit y = false) (h : tr [y, z] D σ H) : tL2 hit hit2 i j tb tr [y, z] D σ H :=
  ⟨fun u v e => by cases e; rw [if_neg (fun q => by rw [hy] at q; cases q.1)]; exact h, fun q => absurd rfl q⟩
theorem l1_not {hit : Str → Bool} {i : Option Nat} {tb : TS} {tr : List Str → TS} {z : Str} {D : Ends} {σ : L2.St} {H : Hp} (hz : hit z = false) (h : tr [z] D σ H) : tL1 hit i tb tr [z] D σ H := ⟨fun y e => by cases e; rw [if_neg (by rw [hz]; exact Bool.false_ne_true)]; exact h, fun q => absurd rfl q⟩
theorem l1_len {hit : Str → Bool} {i : Option Nat} {tb : TS} {tr : List Str → TS} {zs : List Str} {D : Ends} {σ : L2.St} {H : Hp} (n : zs.length ≠ 1) (h : tr zs D σ H) : tL1 hit i tb tr zs D σ H := ⟨fun y e => absurd (by rw [e]; rfl) n, fun _ => h⟩
theorem l2_len {hit hit2 : Str → Bool} {i j : Option Nat} {tb : TS} {tr : List Str → TS} {zs : List Str} {D : Ends} {σ : L2.St} {H : Hp} (n : zs.length ≠ 2) (h : tr zs D σ H) : tL2 hit hit2 i j tb tr zs D σ H := ⟨fun y z e => absurd (by rw [e]; rfl) n, fun _ => h⟩
section
variable {P : Program} {w : World} {K : PySem.W.Frag} {mg : Str → Option Value} {base : Heap}
abbrev sparse_line : Stmt := topS 67
theorem scparse_line : FnScope ["line", "word", "number", "count", "name"] ["line"] (defScope sparse_line) := ⟨rfl, rfl, rfl, by decide +kernel, rfl, by decide +kernel, by decide +kernel⟩
def spPLineG : Sp := fun vs H Q _ => ∃ z : Str, vs = [.str z] ∧ z.length ≤ 3000 ∧ Parts (Txt.split z " ") ∧ (∀ op, lineF z = some op → ∀ H' p, Wd [] H H' [(p, .tup (opL op))] → Q (.ref p) H') ∧ (lineF z = none → ∀ H', Wd [] H H' [] → Q .non H')
theorem cal_pLineG (D : DefAt K mg "parse_line" sparse_line ["line"]) (T : Bi mg) (cS : ∃ t, mg "STEP" = some (.str "step" t)) (C1 : Cal P w K mg base 1 "parse_number" ["word"] spNumG) (C2 : Cal P w K mg base 1 "is_name" ["word"] spIsNameG) : Cal P w K mg base 2 "parse_line" ["line"] spPLineG := D.cal fun f fd F => by
  have nd := scparse_line.nd
  obtain ⟨t1, c_STEP⟩ := cS
  obtain ⟨f1, fd1, m_parse_number, kp_parse_number, b_parse_number, G_parse_number⟩ := C1.ex
  obtain ⟨f2, fd2, m_is_name, kp_is_name, b_is_name, G_is_name⟩ := C2.ex
  refine F.ok scparse_line (fun vs H Q E h => ?_) (fun cdv A outer s H vs Q E hr h => ?_)
  · obtain ⟨z, rfl, _⟩ := h; rfl
  obtain ⟨z, rfl, hz, hp, q1, q0⟩ := h
  refine ⟨_, (pss_cons (ps_matchL (pe_split (pv 0) pe_str) (pcl_one rfl nd (pit_orAs (pfst_cons (pfst_cons (pfst_cons pfst_nil)))) (slot_some (k := 1) rfl (Or.inl rfl)) (pss_one (ps_ret (pe_tup (pa_cons (pv 1) pa_nil)))) (pcl_two rfl nd pit_val pit_cap slot_none (slot_some (k := 2) rfl (Or.inl rfl)) (pss_cons (ps_set (i := 3) nd rfl (Or.inl rfl) (pe_call G_parse_number (hr.mono (by first | decide | omega)) (by rfl) m_parse_number kp_parse_number b_parse_number .nil pass0 (pa_cons (pv 2) pa_nil)))
 (pss_one (ps_ret (pe_ifExp (pt_cmpR op_isN (pv 3) pe_non (nomark _)) pe_non (pe_tup (pa_cons (pe_glob (v := .str "step") (by rfl) c_STEP ⟨_, rfl⟩) (pa_cons (pv 3) pa_nil))))))) (pcl_two rfl nd (pit_orAs (pfst_cons (pfst_cons pfst_nil))) pit_cap (slot_some (k := 1) rfl (Or.inl rfl)) (slot_some (k := 4) rfl (Or.inl rfl)) (pss_one (ps_ret (pe_ifExp (pt_val (pe_call G_is_name (hr.mono (by first | decide | omega)) (by rfl) m_is_name kp_is_name b_is_name .nil pass0 (pa_cons (pv 4) pa_nil))) (pe_tup (pa_cons (pv 1) (pa_cons (pv 4) pa_nil))) pe_non))) pcl_nil))))
 (pss_one (ps_ret pe_non))), ?_⟩
  refine ⟨_, rfl, ⟨_, rfl⟩, z, " ", rfl, rfl, rfl, Nat.le_trans (m := 10002) (by omega) (by decide), ?_⟩
  unfold lineF at q1 q0
  generalize Txt.split z " " = ws at hp q1 q0
  intro l hl
  have w1 := (Wd.refl H).new (.lst (ws.map V.str)) hl
  refine ⟨l, ws, rfl, w1.get 0 rfl, ?_⟩
  have w0 := w1.sub (l' := []) (List.nil_sublist _)
  have none_ : ∀ {H' : Hp}, lineW ws = none → Wd [] H H' [] → Q V.non H' := fun e w => q0 e _ w
  rcases ws with _ | ⟨a, _ | ⟨b, _ | ⟨c, tl⟩⟩⟩
  · exact l1_len (by decide) (l2_len (by decide) (l2_len (by decide) (none_ rfl w0)))
  · by_cases h : a ∈ (["reset", "undo", "redo"] : List Str)
    · refine l1_hit (decide_eq_true h) ?_
      refine ⟨_, rfl, (by show 1 ≤ sizeLine; decide), fun p hp => ?_⟩
      have fin : ∀ op : Op, lineW [a] = some op → opL op = [V.str a] → Q (.ref p) _ := fun op e e2 => q1 op e _ p (by rw [e2]; exact w0.new (.tup [V.str a]) hp)
      simp only [List.mem_cons, List.not_mem_nil, or_false] at h
      rcases h with rfl | rfl | rfl
      · exact fin .reset (by rw [lineW1, if_pos rfl]) rfl
      · exact fin .undo (by rw [lineW1, if_neg (by decide +kernel), if_pos rfl]) rfl
      · exact fin .redo (by rw [lineW1, if_neg (by decide +kernel), if_neg (by decide +kernel), if_pos rfl]) rfl
    · refine l1_not (decide_eq_false h) (l2_len (by show 1 ≠ 2; decide) (l2_len (by show 1 ≠ 2; decide) (none_ ?_ w0)))
      simp only [List.mem_cons, List.not_mem_nil, or_false, not_or] at h
      rw [lineW1, if_neg h.1, if_neg h.2.1, if_neg h.2.2]
  · have hb := hp b (by simp)
    refine l1_miss ?_
    by_cases h1 : a = "step"
    · refine l2_hit (by rw [h1]; rfl) rfl ?_
      have e : lineW [a, b] = stepW b := by rw [lineW2, if_pos h1]
      refine ⟨_, rfl, b, rfl, hb, fun H2 w2 => ?_⟩
      cases hn : numW b with
      | none =>
        refine ⟨_, rfl, rfl, _, rfl, ite2 (fun _ => ?_) (fun c => absurd (decide_eq_true rfl) c)⟩
        exact none_ (by rw [e]; unfold stepW; rw [hn]; rfl) (w0.callN w2)
      | some v =>
        refine ⟨_, rfl, rfl, _, rfl, iteF ?_⟩
        refine ⟨_, rfl, (by show 2 ≤ sizeLine; decide), fun p hp => ?_⟩
        exact q1 (.step v) (by rw [e]; unfold stepW; rw [hn]; rfl) _ p ((w0.callN w2).new (.tup [V.str "step", V.int (v : Int)]) hp)
    · refine l2_no (decide_eq_false h1) ?_
      by_cases h2 : a ∈ (["gift", "forgive"] : List Str)
      · refine l2_hit (decide_eq_true h2) rfl ?_
        refine ⟨_, rfl, b, rfl, hb, fun H2 w2 => ⟨_, rfl, ?_⟩⟩
        have two : lineW [a, b] = if nameW b = true then some (if a = "gift" then .gift b else .forgive b) else none := by
          simp only [List.mem_cons, List.not_mem_nil, or_false] at h2
          rw [lineW2, if_neg h1]
          rcases h2 with rfl | rfl
          · rw [if_pos rfl, if_pos rfl]
          · have ne : ¬ ("forgive" : Str) = "gift" := by decide +kernel
            rw [if_neg ne, if_pos rfl, if_neg ne]
        cases hn : nameW b with
        | false =>
          refine iteF ?_
          exact none_ (by rw [two, hn]; rfl) (w0.callN w2)
        | true =>
          refine iteT ⟨_, rfl, _, rfl, (by show 2 ≤ sizeLine; decide), fun p hp => ?_⟩
          refine q1 (if a = "gift" then .gift b else .forgive b) (by rw [two, hn]; rfl) _ p ?_
          have el : opL (if a = "gift" then .gift b else .forgive b) = [V.str a, V.str b] := by
            simp only [List.mem_cons, List.not_mem_nil, or_false] at h2
            rcases h2 with rfl | rfl
            · rw [if_pos rfl]; rfl
            · rw [if_neg (by decide +kernel)]; rfl
          rw [el]
          exact (w0.callN w2).new (.tup [V.str a, V.str b]) hp
      · refine l2_no (decide_eq_false h2) (none_ ?_ w0)
        simp only [List.mem_cons, List.not_mem_nil, or_false, not_or] at h2
        rw [lineW2, if_neg h1, if_neg h2.1, if_neg h2.2]
  · exact l1_len (by simp) (l2_len (by simp) (l2_len (by simp) (none_ rfl w0)))
end
end Br

namespace Br
open PySem PySem.Spec PyProof.Rows L2
section
variable {P : Program} {w : World} {K : PySem.W.Frag} {mg : Str → Option Value} {base : Heap}
/-! ### the law's own reading -/
abbrev s_law_is_number : Stmt := topS 72
theorem sc_law_is_number : FnScope ["_law_word", "_law_sign"] ["_law_word"] (defScope s_law_is_number) := ⟨rfl, rfl, rfl, by decide +kernel, rfl, by decide +kernel, by decide +kernel⟩
def spLIsNum : Sp := fun vs H Q _ => ∃ z : Str, vs = [.str z] ∧ z.length ≤ 3000 ∧ ∀ H', Wd [] H H' [] → Q (.bl (numW z).isSome) H'
theorem cal_lisNum (D : DefAt K mg "_law_is_number" s_law_is_number ["_law_word"]) (T : Bi mg) : Cal P w K mg base 1 "_law_is_number" ["_law_word"] spLIsNum := D.cal fun f fd F => by
  have nd := sc_law_is_number.nd
  refine F.ok sc_law_is_number (fun vs H Q E h => ?_) (fun cdv A outer s H vs Q E hr h => ?_)
  · obtain ⟨z, rfl, _⟩ := h; rfl
  obtain ⟨z, rfl, hz, q⟩ := h
  have hu := hr.units
  have hu0 : (A.deeper (envOfC "_law_is_number" (defScope s_law_is_number) s.heap.objs.size f cdv)).units < cLine := by omega
  have ez : z.length = z.cps.toList.length := by rw [Array.length_toList]; rfl
  refine ⟨_, (pss_cons (ps_if (PW.pt (pw_or (pt_not (pt_chain op_le op_le pe_int (pe_callB call_len_str (by rfl) T.len PySem.boot_len (pa_cons (pv 0) pa_nil)) pe_int)) (pw_or1 (pt_cmpR (r := rNeN K) (op_neNil hu0) (pe_lc (own := [("_law_sign", 1)]) rfl nd (pi_str (pv 0)) (blkOk_by (N := ["_law_word", "_law_sign"]) (sc := defScope s_law_is_number) (by decide +kernel)) (fun _ _ _ _ _ => (pg_name (i := 1) nd rfl (Or.inl rfl))) (fun _ _ _ _ _ => (pts_one (pt_cmpR op_notIn_sign (pv 1) pe_str (by rfl)))) (fun _ _ _ _ _ => (pv 1))) (pe_lst pa_nil) (nomark _)))))
 (pss_one (ps_ret pe_bl))
 pss_nil)
 (pss_one (ps_ret (pe_or (pe_cmpR op_eq (pv 0) pe_str (nomark _)) (pe_one (pe_cmpR op_ne (pe_ix ix_str (pv 0) pe_int (fun _ _ => rfl)) pe_str (nomark _))))))), ?_⟩
  refine ⟨_, rfl, z, rfl, le_line (by omega), _, _, rfl, rfl, _, rfl, ?_⟩
  by_cases h1 : 1 ≤ z.length
  case neg =>
    rw [decide_eq_false (show ¬ (1 : Int) ≤ (z.length : Int) by omega)]
    have e : numW z = none := numL_len (by omega)
    rw [e] at q
    exact iteF ⟨_, rfl, iteT (iteT (q _ (Wd.refl H)))⟩
  rw [decide_eq_true (show (1 : Int) ≤ (z.length : Int) by omega)]
  refine iteT ⟨_, _, rfl, rfl, _, rfl, ?_⟩
  by_cases h3 : z.length ≤ 3
  case neg =>
    rw [decide_eq_false (show ¬ (z.length : Int) ≤ 3 by omega)]
    have e : numW z = none := numL_len (by omega)
    rw [e] at q
    exact iteT (iteT (q _ (Wd.refl H)))
  rw [decide_eq_true (show (z.length : Int) ≤ 3 by omega)]
  refine iteF ?_
  refine ⟨_, rfl, z, rfl, fun D hD => ?_⟩
  refine lc_str (fun i H2 => Wd [] H H2 [(D, .lst (((z.cps.toList.take i).filter fun c => !decide (c ∈ TL.tl ("0123456789" : Str))).map fun c => V.str ⟨#[c]⟩))]) ((Wd.refl H).new _ hD) ?_ ?_
  · rintro i c H2 hc w2
    have hi : i < z.cps.size := (Array.getElem?_eq_some_iff.mp hc).1
    have hc' : z.cps.toList[i]? = some c := by rw [Array.getElem?_toList]; exact hc
    have el : z.length = z.cps.size := rfl
    refine ⟨rfl, _, rfl, c, _, rfl, rfl, _, rfl, ite2 (fun hb => ?_) (fun hb => ?_)⟩
    · refine ⟨_, rfl, _, w2.get 0 rfl, ?_, ?_⟩
      · have := List.length_filter_le (fun c => !decide (c ∈ TL.tl ("0123456789" : Str))) (z.cps.toList.take i)
        have h2 : (z.cps.toList.take i).length ≤ 3 := by rw [List.length_take]; omega
        rw [List.length_map]; exact lt_line (by omega)
      · have e : [c].filter (fun c => !decide (c ∈ TL.tl ("0123456789" : Str))) = [c] := List.filter_cons_of_pos hb
        rw [take_more hc', List.filter_append, e, List.map_append]
        exact w2.app0 _
    · have e : [c].filter (fun c => !decide (c ∈ TL.tl ("0123456789" : Str))) = [] := List.filter_cons_of_neg hb
      rw [take_more hc', List.filter_append, e, List.append_nil]
      exact w2
  intro H2 w2
  have efull : z.cps.toList.take z.cps.size = z.cps.toList := by
    rw [← Array.length_toList]; exact List.take_length
  rw [efull] at w2
  refine ⟨Nat.zero_le _, fun e he => ?_⟩
  have w3 := w2.new (.lst []) he
  refine ⟨D, e, _, rfl, rfl, SqL.of (w3.get 1 rfl), SqL.of (w3.get 0 rfl), _, rfl, ?_⟩
  have w0 := w3.sub (l' := []) (List.nil_sublist _)
  have eemp : ((z.cps.toList.filter fun c => !decide (c ∈ TL.tl ("0123456789" : Str))).map fun c => V.str ⟨#[c]⟩).isEmpty = !(z.cps.toList.any fun c => !decide (c ∈ TL.tl ("0123456789" : Str))) := by
    rw [List.isEmpty_map]
    induction z.cps.toList with
    | nil => rfl
    | cons c t ih =>
      rw [List.filter_cons, List.any_cons]
      split
      · rename_i h; rw [h]; rfl
      · rename_i h; rw [Bool.eq_false_iff.mpr h, Bool.false_or]; exact ih
  rw [eemp, Bool.not_not]
  cases hany : z.cps.toList.any fun c => !decide (c ∈ TL.tl ("0123456789" : Str)) with
  | true =>
    have e : numW z = none := numL_bad hany
    rw [e] at q
    exact iteT (q _ w0)
  | false =>
    refine iteF ?_
    have hd : ∀ c ∈ z.cps.toList, c ∈ TL.tl ("0123456789" : Str) := fun c hc => Classical.byContradiction fun n => by
      have := List.any_eq_false.mp hany c hc
      rw [decide_eq_false n] at this
      exact this rfl
    have hsz : 0 < z.cps.toList.length := by omega
    have hc : z.cps.toList[0]? = some (z.cps.toList[0]) := List.getElem?_eq_getElem hsz
    have z0 : ∀ {c : Nat}, V.str ⟨#[c]⟩ = V.str ("0" : Str) ↔ c = 48 := fun {c} => by
      constructor
      · intro h
        have e1 : (⟨#[c]⟩ : Str) = ("0" : Str) := by injection h
        have e2 := congrArg (fun s : Str => s.cps.toList) e1
        have e3 : ("0" : Str).cps.toList = [48] := by decide +kernel
        simp only [e3] at e2
        injection e2
      · rintro rfl; decide +kernel
    refine ⟨_, rfl, rfl, ?_⟩
    rcases numL_good rfl (by omega) (by omega) hd with ⟨g1, g2, g3⟩ | ⟨g1, v, g2, g3, g4⟩
    · have e : numW z = none := g3
      rw [e] at q
      have n0 : ¬ V.str z = V.str ("0" : Str) := fun h => by
        have e1 : z = ("0" : Str) := by injection h
        rw [e1] at g1
        exact absurd g1 (by decide +kernel)
      rw [decide_eq_false n0]
      refine ⟨_, rfl, iteF ?_⟩
      refine ⟨_, rfl, z, _, 48, rfl, rfl, le_line (by omega), atI_nat (j := 0) g2, rfl, ?_⟩
      rw [decide_eq_true (z0.mpr rfl)]
      exact q _ w0
    · have e : numW z = some v := g2
      rw [e] at q
      by_cases n0 : V.str z = V.str ("0" : Str)
      · rw [decide_eq_true n0]
        exact ⟨_, rfl, iteT (q _ w0)⟩
      · rw [decide_eq_false n0]
        refine ⟨_, rfl, iteF ?_⟩
        refine ⟨_, rfl, z, _, z.cps.toList[0], rfl, rfl, le_line (by omega), atI_nat (j := 0) hc, rfl, ?_⟩
        have n1 : ¬ V.str ⟨#[z.cps.toList[0]]⟩ = V.str ("0" : Str) := fun h => by
          have h48 := z0.mp h
          by_cases c1 : 1 < z.cps.toList.length
          · exact g1 ⟨c1, by rw [hc, h48]⟩
          · refine n0 (congrArg V.str ?_)
            have hl : z.cps.toList = [48] := by
              match hh : z.cps.toList, hsz, c1 with
              | [c], _, _ => 
                have : z.cps.toList[0]? = some 48 := by rw [hc, h48]
                rw [hh] at this
                injection this with this
                rw [this]
              | _ :: _ :: _, _, c1 => exact absurd (by show 1 < _ + 1 + 1; omega) c1
            exact (str_of hl).trans (by decide +kernel)
        rw [decide_eq_false n1]
        exact q _ w0
end
end Br

namespace Br
open PySem PySem.Spec PyProof.Rows L2
/-! ### words as data -/
theorem eqvAll_strs : ∀ as bs : List Str, PyData.eqvAll (as.map PyData.str) (bs.map PyData.str) = decide (as = bs)
  | [], [] => rfl
  | [], _ :: _ => rfl
  | _ :: _, [] => rfl
  | a :: as, b :: bs => by
    rw [List.map_cons, List.map_cons, PyData.eqvAll, eqvAll_strs as bs, PyData.eqv]
    by_cases h : a = b
    · subst h
      by_cases h2 : as = bs
      · subst h2; simp
      · rw [decide_eq_false h2, Bool.and_false, decide_eq_false (fun e => h2 (List.cons.inj e).2)]
    · rw [beq_eq_false_iff_ne.mpr h, Bool.false_and, decide_eq_false (fun e => h (List.cons.inj e).1)]
theorem eqv_strs (as bs : List Str) : PyData.eqv (.list (as.map PyData.str)) (.list (bs.map PyData.str)) = decide (as = bs) := by rw [PyData.eqv, eqvAll_strs]
theorem strs_dp {K : PySem.W.Frag} {H : Hp} : ∀ ws : List Str, DpAll K H (ws.map V.str) (ws.map PyData.str)
  | [] => .nil
  | w :: ws => .cons (.str w) (strs_dp ws)
theorem strs_lay : ∀ {ws : List Str}, (∀ x ∈ ws, PyData.strOk x = true) → PyData.canLayAll0 (ws.map PyData.str) = true ∧ PyData.depthAll (ws.map PyData.str) = 0
  | [], _ => ⟨rfl, rfl⟩
  | w :: ws, h => by
    obtain ⟨h1, h2⟩ := strs_lay fun x hx => h x (List.mem_cons_of_mem _ hx)
    rw [List.map_cons, PyData.canLayAll0, PyData.depthAll, h1, h2]
    exact ⟨by show (PyData.strOk w && true) = true; rw [h w List.mem_cons_self]; rfl, rfl⟩
theorem strs_shaped {ws : List Str} (h : ∀ x ∈ ws, PyData.strOk x = true) : SeqAt.shaped (.list (ws.map PyData.str)) = true := by
  obtain ⟨h1, h2⟩ := strs_lay h
  unfold SeqAt.shaped
  rw [PyData.canLay0, h1, PyData.depth, h2]; rfl
theorem numW_int {z : Str} {v : Nat} (h : numW z = some v) : PySem.intText? z = some (v : Int) ∧ z.length ≤ 640 := by
  have hl : 1 ≤ z.cps.toList.length ∧ z.cps.toList.length ≤ 3 := Classical.byContradiction fun c => by
    have : numW z = none := numL_len c
    rw [this] at h; cases h
  have hd : ∀ c ∈ z.cps.toList, c ∈ TL.tl ("0123456789" : Str) := fun c hc => Classical.byContradiction fun n => by
    have : numW z = none := numL_bad (List.any_eq_true.mpr ⟨c, hc, by rw [decide_eq_false n]; rfl⟩)
    rw [this] at h; cases h
  rcases numL_good rfl hl.1 hl.2 hd with ⟨_, _, g⟩ | ⟨_, u, g, g1, g2⟩
  · have : numW z = none := g
    rw [this] at h; cases h
  · have : numW z = some u := g
    rw [this] at h; cases h
    exact ⟨g1, g2⟩
section
variable {P : Program} {w : World} {K : PySem.W.Frag} {mg : Str → Option Value} {base : Heap}
abbrev s_law_parsed_line : Stmt := topS 74
theorem sc_law_parsed_line : FnScope ["_law_words", "_law_good", "_law_is_keyword", "_law_sign"] ["_law_words"] (defScope s_law_parsed_line) := ⟨rfl, rfl, rfl, by decide +kernel, rfl, by decide +kernel, by decide +kernel⟩
def spLLine : Sp := fun vs H Q _ => ∃ (wp : Addr) (ws : List Str), vs = [.ref wp] ∧ H wp = some (.lst (ws.map V.str)) ∧ Parts ws ∧ (∀ x ∈ ws, PyData.strOk x = true) ∧ ws.length ≤ 1000 ∧
  (∀ op, lineW ws = some op → ∀ H' p, Wd [] H H' [(p, .tup (opL op))] → Q (.ref p) H') ∧ (lineW ws = none → ∀ H', Wd [] H H' [] → Q .non H')
theorem cal_lline (D : DefAt K mg "_law_parsed_line" s_law_parsed_line ["_law_words"]) (T : Bi mg) (C1 : Cal P w K mg base 1 "_law_is_number" ["_law_word"] spLIsNum) : Cal P w K mg base 2 "_law_parsed_line" ["_law_words"] spLLine := D.cal fun f fd F => by
  have nd := sc_law_parsed_line.nd
  obtain ⟨f1, fd1, m__law_is_number, kp__law_is_number, b__law_is_number, G__law_is_number⟩ := C1.ex
  refine F.ok sc_law_parsed_line (fun vs H Q E h => ?_) (fun cdv A outer s H vs Q E hr h => ?_)
  · obtain ⟨wp, ws, rfl, _⟩ := h; rfl
  obtain ⟨wp, ws, rfl, hw, hp, hs, hl, q1, q0⟩ := h
  have hu := hr.units
  have hu0 : (A.deeper (envOfC "_law_parsed_line" (defScope s_law_parsed_line) s.heap.objs.size f cdv)).units < cLine := by omega
  have hu65 : (A.deeper (envOfC "_law_parsed_line" (defScope s_law_parsed_line) s.heap.objs.size f cdv)).units + 65 < cLine := by have := hr.un; omega
  refine ⟨_, (pss_cons (ps_if (pt_cmpR (r := rInD K) (op_inD hu65) (pv 0) (pe_lst (pa_cons (pe_lst (pa_cons pe_str pa_nil)) (pa_cons (pe_lst (pa_cons pe_str pa_nil)) (pa_cons (pe_lst (pa_cons pe_str pa_nil)) pa_nil)))) (by rfl))
 (pss_one (ps_ret (pe_tup (pa_cons (pe_ix (r := rIxL K) ix_list (pv 0) pe_int (fun _ _ => rfl)) pa_nil))))
 pss_nil)
 (pss_cons (ps_if (pt_cmpR op_ne (pe_callB (r := rLenS K) call_len_seq (by rfl) T.len PySem.boot_len (pa_cons (pv 0) pa_nil)) pe_int (nomark _))
 (pss_one (ps_ret pe_non))
 pss_nil)
 (pss_cons (ps_if (pt_cmpR op_eq (pe_ix (r := rIxL K) ix_list (pv 0) pe_int (fun _ _ => rfl)) pe_str (nomark _))
 (pss_one (ps_ret (pe_ifExp (pt_val (pe_call G__law_is_number (hr.mono (by first | decide | omega)) (by rfl) m__law_is_number kp__law_is_number b__law_is_number .nil pass0 (pa_cons (pe_ix (r := rIxL K) ix_list (pv 0) pe_int (fun _ _ => rfl)) pa_nil))) (pe_tup (pa_cons pe_str (pa_cons (pe_callTy call_int_str (by rfl) T.int (by decide +kernel) (pa_cons (pe_ix (r := rIxL K) ix_list (pv 0) pe_int (fun _ _ => rfl)) pa_nil)) pa_nil))) pe_non)))
 pss_nil)
 (pss_cons (ps_set (i := 1) nd rfl (Or.inl rfl) (pe_and (pe_cmpR (r := rEqN K) (op_eqNil hu0) (pe_lc (own := [("_law_sign", 3)]) rfl nd (pi_str (pe_ix (r := rIxL K) ix_list (pv 0) pe_int (fun _ _ => rfl))) (blkOk_by (N := ["_law_words", "_law_good", "_law_is_keyword", "_law_sign"]) (sc := defScope s_law_parsed_line) (by decide +kernel)) (fun _ _ _ _ _ => (pg_name (i := 3) nd rfl (Or.inl rfl))) (fun _ _ _ _ _ => (pts_one (pt_cmpR op_notIn_sign (pv 3) pe_str (by rfl)))) (fun _ _ _ _ _ => (pv 3))) (pe_lst pa_nil) (nomark _)) (pe_one (pe_chain op_le op_le pe_int (pe_callB call_len_str (by rfl) T.len PySem.boot_len (pa_cons (pe_ix (r := rIxL K) ix_list (pv 0) pe_int (fun _ _ => rfl)) pa_nil)) pe_int))))
 (pss_cons (ps_if (PW.pt (pw_or (pt_cmpR (r := rIn K true) op_notIn_seq (pe_ix (r := rIxL K) ix_list (pv 0) pe_int (fun _ _ => rfl)) (pe_lst (pa_cons pe_str (pa_cons pe_str pa_nil))) (by rfl)) (pw_or1 (pt_not (pt_val (pv 1))))))
 (pss_one (ps_ret pe_non))
 pss_nil)
 (pss_cons (ps_set (i := 2) nd rfl (Or.inl rfl) (pe_cmpR (r := rIn K false) op_in_seq (pe_ix (r := rIxL K) ix_list (pv 0) pe_int (fun _ _ => rfl)) (pe_lst (pa_cons pe_str (pa_cons pe_str (pa_cons pe_str (pa_cons pe_str (pa_cons pe_str (pa_cons pe_str pa_nil))))))) (by rfl)))
 (pss_one (ps_ret (pe_ifExp (pt_val (pv 2)) pe_non (pe_tup (pa_cons (pe_ix (r := rIxL K) ix_list (pv 0) pe_int (fun _ _ => rfl)) (pa_cons (pe_ix (r := rIxL K) ix_list (pv 0) pe_int (fun _ _ => rfl)) pa_nil)))))))))))), ?_⟩
  have sok : ∀ {z : Str}, PyData.strOk z = true → SeqAt.shaped (.list [.str z]) = true := fun {z} h => strs_shaped (ws := [z]) (fun x hx => by rw [List.mem_singleton.mp hx]; exact h)
  refine ⟨_, rfl, by show 1 ≤ sizeLine; decide, fun a ha => ⟨by show 1 ≤ sizeLine; decide, fun b hb => ⟨by show 1 ≤ sizeLine; decide, fun c hc => ⟨by show 3 ≤ sizeLine; decide, fun L hL => ?_⟩⟩⟩⟩
  have w1 := (((Wd.refl H).new (.lst [V.str "reset"]) ha).new (.lst [V.str "undo"]) hb).new (.lst [V.str "redo"]) hc
  have w2 := w1.new (.lst [V.ref a, V.ref b, V.ref c]) hL
  have w0 := w2.sub (l' := []) (List.nil_sublist _)
  have hw2 := w2.base _ _ (by simp) hw
  refine ⟨.list (ws.map PyData.str), [.list [.str "reset"], .list [.str "undo"], .list [.str "redo"]], .lst (SqL.of hw2) (strs_dp ws), .lst (SqL.of (w2.get 0 rfl)) (.cons (.lst (SqL.of (w2.get 3 rfl)) (.cons (.str _) .nil)) (.cons (.lst (SqL.of (w2.get 2 rfl)) (.cons (.str _) .nil)) (.cons (.lst (SqL.of (w2.get 1 rfl)) (.cons (.str _) .nil)) .nil))), strs_shaped hs, by decide +kernel, _, rfl, ?_⟩
  have eany : (([.list [.str "reset"], .list [.str "undo"], .list [.str "redo"]] : List PyData).any fun z => PyData.eqv z (.list (ws.map PyData.str))) = (decide ((["reset"] : List Str) = ws) || (decide ((["undo"] : List Str) = ws) || (decide ((["redo"] : List Str) = ws) || false))) := by
    rw [List.any_cons, List.any_cons, List.any_cons, List.any_nil]
    rw [← eqv_strs (["reset"] : List Str) ws, ← eqv_strs (["undo"] : List Str) ws, ← eqv_strs (["redo"] : List Str) ws]
    rfl
  rw [eany]
  generalize upd (upd (upd (upd H a (.lst [V.str "reset"])) b (.lst [V.str "undo"])) c (.lst [V.str "redo"])) L (.lst [V.ref a, V.ref b, V.ref c]) = H2 at w0 hw2 ⊢
  by_cases h : ws = (["reset"] : List Str) ∨ ws = (["undo"] : List Str) ∨ ws = (["redo"] : List Str)
  · have et : (decide ((["reset"] : List Str) = ws) || (decide ((["undo"] : List Str) = ws) || (decide ((["redo"] : List Str) = ws) || false))) = true := by
      rcases h with rfl | rfl | rfl
      · rfl
      · decide +kernel
      · decide +kernel
    rw [et]
    refine iteT ?_
    have fin : ∀ (op : Op) (z : Str), ws = [z] → lineW ws = some op → opL op = [V.str z] → tRet (tTup (tCons (tOp (rIxL K) (tVar 0) (tC (V.int 0))) tNil)) { nx := fun _ H' => Q .non H', rt := Q } (L2.start ["_law_words", "_law_good", "_law_is_keyword", "_law_sign"] [V.ref wp]) H2 := fun op z e1 e2 e3 => by
      subst e1
      refine ⟨_, rfl, wp, _, 0, V.str z, rfl, rfl, SqL.of hw2, rfl, by show 1 ≤ sizeLine; decide, fun p hp => ?_⟩
      exact q1 op e2 _ p (by rw [e3]; exact w0.new (.tup [V.str z]) hp)
    rcases h with h | h | h
    · exact fin .reset "reset" h (by rw [h]; rfl) rfl
    · exact fin .undo "undo" h (by rw [h, lineW1, if_neg (by decide +kernel), if_pos rfl]) rfl
    · exact fin .redo "redo" h (by rw [h, lineW1, if_neg (by decide +kernel), if_neg (by decide +kernel), if_pos rfl]) rfl
  have ef : (decide ((["reset"] : List Str) = ws) || (decide ((["undo"] : List Str) = ws) || (decide ((["redo"] : List Str) = ws) || false))) = false := by
    rw [decide_eq_false (fun e => h (.inl e.symm)), decide_eq_false (fun e => h (.inr (.inl e.symm))), decide_eq_false (fun e => h (.inr (.inr e.symm)))]; rfl
  rw [ef]
  refine iteF ?_
  refine ⟨_, rfl, wp, _, rfl, .inl (SqL.of hw2), rfl, _, rfl, ?_⟩
  rw [List.length_map]
  by_cases h2 : ws.length = 2
  case neg =>
    have el : lineW ws = none := by
      rcases ws with _ | ⟨a, _ | ⟨b, _ | ⟨c, tl⟩⟩⟩
      · rfl
      · rw [lineW1, if_neg (fun e => h (.inl (by rw [e]))), if_neg (fun e => h (.inr (.inl (by rw [e])))), if_neg (fun e => h (.inr (.inr (by rw [e]))))]
      · exact absurd rfl h2
      · rfl
    rw [decide_eq_false (fun e => h2 (by injection e with e; omega))]
    exact iteT (q0 el _ w0)
  obtain ⟨a1, b1, rfl⟩ : ∃ a b, ws = [a, b] := by
    rcases ws with _ | ⟨a, _ | ⟨b, _ | ⟨c, tl⟩⟩⟩
    · cases h2
    · cases h2
    · exact ⟨a, b, rfl⟩
    · simp at h2
  rw [show decide (V.int ((([a1, b1] : List Str).length : Nat) : Int) = V.int 2) = true from decide_eq_true rfl]
  refine iteF ?_
  have hb1 := hp b1 (by simp)
  refine ⟨_, rfl, wp, _, 0, V.str a1, rfl, rfl, SqL.of hw2, rfl, rfl, _, rfl, ite2 (fun c1 => ?_) (fun c1 => ?_)⟩
  · have e1 : a1 = "step" := by have := of_decide_eq_true c1; injection this
    have el : lineW [a1, b1] = stepW b1 := by rw [lineW2, if_pos e1]
    refine ⟨_, rfl, wp, _, 1, V.str b1, rfl, rfl, SqL.of hw2, rfl, b1, rfl, hb1, fun H3 w3 => ⟨_, rfl, ?_⟩⟩
    have w03 := w0.callN w3
    have hw3 := w3.base _ _ (by simp) hw2
    cases hn : numW b1 with
    | none => exact iteF (q0 (by rw [el]; unfold stepW; rw [hn]; rfl) _ w03)
    | some v =>
      obtain ⟨i1, i2⟩ := numW_int hn
      refine iteT ⟨_, rfl, wp, _, 1, V.str b1, rfl, rfl, SqL.of hw3, rfl, b1, v, rfl, i1, i2, by show 2 ≤ sizeLine; decide, fun p hp => ?_⟩
      exact q1 (.step v) (by rw [el]; unfold stepW; rw [hn]; rfl) _ p (w03.new (.tup [V.str "step", V.int (v : Int)]) hp)
  · have n1 : ¬ a1 = "step" := fun e => c1 (decide_eq_true (by rw [e]))
    refine ⟨_, rfl, wp, _, 1, V.str b1, rfl, rfl, SqL.of hw2, rfl, b1, rfl, fun D hD => ?_⟩
    have hs1 := hs b1 (by simp)
    refine lc_str (fun i H3 => Wd [] H H3 [(D, .lst (((b1.cps.toList.take i).filter fun c => !decide (c ∈ TL.tl ("abcdefghijklmnopqrstuvwxyz" : Str))).map fun c => V.str ⟨#[c]⟩))]) (w0.new _ hD) ?_ ?_
    · rintro i c H3 hc w3
      have hi : i < b1.cps.size := (Array.getElem?_eq_some_iff.mp hc).1
      have hc' : b1.cps.toList[i]? = some c := by rw [Array.getElem?_toList]; exact hc
      have el : b1.length = b1.cps.size := rfl
      refine ⟨rfl, _, rfl, c, _, rfl, rfl, _, rfl, ite2 (fun hb => ?_) (fun hb => ?_)⟩
      · refine ⟨_, rfl, _, w3.get 0 rfl, ?_, ?_⟩
        · have := List.length_filter_le (fun c => !decide (c ∈ TL.tl ("abcdefghijklmnopqrstuvwxyz" : Str))) (b1.cps.toList.take i)
          have h2 : (b1.cps.toList.take i).length ≤ 3000 := by rw [List.length_take]; omega
          rw [List.length_map]; exact lt_line (by omega)
        · have e : [c].filter (fun c => !decide (c ∈ TL.tl ("abcdefghijklmnopqrstuvwxyz" : Str))) = [c] := List.filter_cons_of_pos hb
          rw [take_more hc', List.filter_append, e, List.map_append]
          exact w3.app0 _
      · have e : [c].filter (fun c => !decide (c ∈ TL.tl ("abcdefghijklmnopqrstuvwxyz" : Str))) = [] := List.filter_cons_of_neg hb
        rw [take_more hc', List.filter_append, e, List.append_nil]
        exact w3
    intro H3 w3
    have efull : b1.cps.toList.take b1.cps.size = b1.cps.toList := by
      rw [← Array.length_toList]; exact List.take_length
    rw [efull] at w3
    refine ⟨Nat.zero_le _, fun e he => ?_⟩
    have w4 := w3.new (.lst []) he
    refine ⟨D, e, _, rfl, rfl, SqL.of (w4.get 1 rfl), SqL.of (w4.get 0 rfl), _, rfl, ?_⟩
    have w40 := w4.sub (l' := []) (List.nil_sublist _)
    have hw4 := w4.base _ _ (by simp) hw
    generalize upd H3 e (.lst []) = H4 at w40 hw4 ⊢
    have eemp : ((b1.cps.toList.filter fun c => !decide (c ∈ TL.tl ("abcdefghijklmnopqrstuvwxyz" : Str))).map fun c => V.str ⟨#[c]⟩).isEmpty = lets b1 := by
      unfold lets
      rw [List.isEmpty_map]
      induction b1.cps.toList with
      | nil => rfl
      | cons c t ih =>
        rw [List.filter_cons, List.all_cons]
        split
        · rename_i h
          have : decide (c ∈ TL.tl ("abcdefghijklmnopqrstuvwxyz" : Str)) = false := by simpa using h
          rw [this]; rfl
        · rename_i h
          have : decide (c ∈ TL.tl ("abcdefghijklmnopqrstuvwxyz" : Str)) = true := by simpa using h
          rw [this, Bool.true_and]; exact ih
    rw [eemp]
    have fin : ∀ (g : Bool), nameW b1 = (g && !decide (b1 ∈ kws)) → ∀ D' : Ends, D'.rt = Q → (tSeq (tIfS (tOr (tTest (tOp (rIn K true) (tOp (rIxL K) (tVar 0) (tC (V.int 0))) (tLst (tCons (tC (V.str "gift")) (tCons (tC (V.str "forgive")) tNil))))) (tNot (tB (tVar 1)))) (tRet (tC V.non)) tNext)
        (tSeq (tAsg (tOp (rIn K false) (tOp (rIxL K) (tVar 0) (tC (V.int 1))) (tLst (tCons (tC (V.str "people")) (tCons (tC (V.str "turns")) (tCons (tC (V.str "weights")) (tCons (tC (V.str "away")) (tCons (tC (V.str "of")) (tCons (tC (V.str "makeup")) tNil)))))))) (gName 2))
        (tRet (tIf (tB (tVar 2)) (tC V.non) (tTup (tCons (tOp (rIxL K) (tVar 0) (tC (V.int 0))) (tCons (tOp (rIxL K) (tVar 0) (tC (V.int 1))) tNil))))))) D' [some (.ref wp), some (.bl g), none, none] H4 := fun g hg D' hD' => by
      refine ⟨_, rfl, wp, _, 0, V.str a1, rfl, rfl, SqL.of hw4, rfl, (by show 2 ≤ sizeLine; decide), fun L hL => ?_⟩
      have w5 := w40.new (.lst [V.str "gift", V.str "forgive"]) hL
      have hw5 := w5.base _ _ (by simp) hw
      refine ⟨L, (["gift", "forgive"] : List Str).map V.str, rfl, .inl (SqL.of (w5.get 0 rfl)), rfl, flat_strs' _, ⟨_, rfl, ?_⟩⟩
      rw [if_pos rfl, inV_strs]
      have w50 := w5.sub (l' := []) (List.nil_sublist _)
      generalize upd H4 L (.lst [V.str "gift", V.str "forgive"]) = H5 at w50 hw5 ⊢
      by_cases hm : a1 ∈ (["gift", "forgive"] : List Str)
      case neg =>
        rw [decide_eq_false hm]
        have el : lineW [a1, b1] = none := by rw [lineW2, if_neg n1, if_neg (fun e => hm (by rw [e]; simp)), if_neg (fun e => hm (by rw [e]; simp))]
        refine iteT (iteT ?_)
        show D'.rt V.non H5
        rw [hD']; exact q0 el _ w50
      rw [decide_eq_true hm]
      refine iteF ?_
      have el : lineW [a1, b1] = if nameW b1 = true then some (if a1 = "gift" then .gift b1 else .forgive b1) else none := by
        rw [lineW2, if_neg n1]
        simp only [List.mem_cons, List.not_mem_nil, or_false] at hm
        rcases hm with e | e
        · rw [if_pos e, if_pos e]
        · have ng : ¬ a1 = ("gift" : Str) := by rw [e]; decide +kernel
          rw [if_neg ng, if_neg ng, if_pos e]
      refine ⟨_, rfl, g, rfl, ?_⟩
      cases g with
      | false =>
        rw [Bool.false_and] at hg
        refine iteT ?_
        show D'.rt V.non H5
        rw [hD']; exact q0 (by rw [el, hg]; exact if_neg (by decide)) _ w50
      | true =>
        rw [Bool.true_and] at hg
        refine iteF ⟨_, rfl, wp, _, 1, V.str b1, rfl, rfl, SqL.of hw5, rfl, (by show 6 ≤ sizeLine; decide), fun M hM => ?_⟩
        have w6 := w50.new (.lst (kws.map V.str)) hM
        have hw6 := w6.base _ _ (by simp) hw
        refine ⟨M, kws.map V.str, rfl, .inl (SqL.of (w6.get 0 rfl)), rfl, flat_strs' _, ?_⟩
        rw [if_neg (by decide), inV_strs]
        have w60 := w6.sub (l' := []) (List.nil_sublist _)
        have hmm : upd H5 M (.lst (kws.map V.str)) = upd H5 M (.lst [V.str "people", V.str "turns", V.str "weights", V.str "away", V.str "of", V.str "makeup"]) := rfl
        rw [hmm] at w60 hw6
        generalize upd H5 M (.lst [V.str "people", V.str "turns", V.str "weights", V.str "away", V.str "of", V.str "makeup"]) = H6 at w60 hw6 ⊢
        refine ⟨_, rfl, decide (b1 ∈ kws), rfl, ?_⟩
        by_cases hk : b1 ∈ kws
        · rw [decide_eq_true hk] at hg ⊢
          refine iteT ?_
          show D'.rt V.non H6
          rw [hD']; exact q0 (by rw [el, hg]; exact if_neg (by decide)) _ w60
        · rw [decide_eq_false hk] at hg ⊢
          refine iteF ⟨_, rfl, wp, _, 0, V.str a1, rfl, rfl, SqL.of hw6, rfl, _, rfl, wp, _, 1, V.str b1, rfl, rfl, SqL.of hw6, rfl, (by show 2 ≤ sizeLine; decide), fun p hp => ?_⟩
          show D'.rt (V.ref p) _
          rw [hD']
          refine q1 (if a1 = "gift" then .gift b1 else .forgive b1) (by rw [el, hg]; rfl) _ p ?_
          have eo : opL (if a1 = "gift" then .gift b1 else .forgive b1) = [V.str a1, V.str b1] := by
            simp only [List.mem_cons, List.not_mem_nil, or_false] at hm
            rcases hm with e | e
            · rw [if_pos e, e]; rfl
            · have ng : ¬ a1 = ("gift" : Str) := by rw [e]; decide +kernel
              rw [if_neg ng, e]; rfl
          rw [eo]
          exact w60.new (.tup [V.str a1, V.str b1]) hp
    have enw : nameW b1 = (decide (1 ≤ b1.length ∧ b1.length ≤ 8) && (!decide (b1 ∈ kws) && lets b1)) := by
      unfold nameW
      rw [show decide (b1 ∉ kws) = !decide (b1 ∈ kws) from decide_not]
    cases hlt : lets b1 with
    | false =>
      refine iteF (fin false ?_ _ rfl)
      rw [enw, hlt, Bool.and_false, Bool.and_false, Bool.false_and]
    | true =>
      rw [hlt, Bool.and_true] at enw
      refine iteT ⟨_, rfl, wp, _, 1, V.str b1, rfl, rfl, SqL.of hw4, rfl, b1, rfl, le_line (by omega), _, _, rfl, rfl, _, rfl, ?_⟩
      by_cases h1 : 1 ≤ b1.length
      case neg =>
        rw [decide_eq_false (fun e : 1 ≤ b1.length ∧ b1.length ≤ 8 => h1 e.1)] at enw
        rw [decide_eq_false (show ¬ (1 : Int) ≤ (b1.length : Int) by omega)]
        exact iteF (fin false enw _ rfl)
      rw [decide_eq_true (show (1 : Int) ≤ (b1.length : Int) by omega)]
      refine iteT ⟨_, _, rfl, rfl, ?_⟩
      refine fin (decide ((b1.length : Int) ≤ 8)) ?_ _ rfl
      rw [enw]
      congr 1
      exact decide_eq_decide.mpr ⟨fun e => by omega, fun e => ⟨h1, by omega⟩⟩
end
end Br

/-! Small by counting the runs of letters. -/
namespace Br
open PySem PySem.Spec PyProof.Rows L2
/-- how many runs of letters begin -/
def runsB : Bool → List Nat → Nat
  | _, [] => 0
  | b, c :: r => (if ltr c = true ∧ b = false then 1 else 0) + runsB (ltr c) r
theorem runsB_cons (b : Bool) (c : Nat) (r : List Nat) : runsB b (c :: r) = (if ltr c = true ∧ b = false then 1 else 0) + runsB (ltr c) r := rfl
theorem runsB_mono : ∀ l : List Nat, runsB true l ≤ runsB false l ∧ runsB false l ≤ runsB true l + 1
  | [] => ⟨Nat.le_refl _, Nat.zero_le _⟩
  | c :: r => by
    rw [runsB_cons, runsB_cons, if_neg (fun h => by cases h.2)]
    split <;> omega
theorem runsB_le (b : Bool) (l : List Nat) : runsB b l ≤ runsB false l := by
  cases b
  · exact Nat.le_refl _
  · exact (runsB_mono l).1
theorem runsB_app : ∀ (x y : List Nat) (b : Bool), runsB b (x ++ y) ≤ runsB b x + runsB false y
  | [], y, b => by rw [List.nil_append]; have := runsB_le b y; omega
  | c :: x, y, b => by
    have := runsB_app x y (ltr c)
    rw [List.cons_append, runsB_cons, runsB_cons]
    omega
/-- what stands behind has no more -/
theorem runsB_drop : ∀ (x y : List Nat) (b : Bool), runsB false y ≤ runsB b (x ++ y) + (if b = true then 1 else 0)
  | [], y, b => by
    rw [List.nil_append]
    cases b
    · rw [if_neg (by decide)]; exact Nat.le_refl _
    · rw [if_pos rfl]; exact (runsB_mono y).2
  | c :: x, y, b => by
    have h := runsB_drop x y (ltr c)
    rw [List.cons_append, runsB_cons]
    cases hc : ltr c with
    | false => rw [hc, if_neg (by decide)] at h; omega
    | true =>
      rw [hc, if_pos rfl] at h
      cases b
      · rw [if_pos ⟨rfl, rfl⟩, if_neg (by decide)]; omega
      · rw [if_neg (fun h => by cases h.2), if_pos rfl]; omega
/-- a whole run goes -/
theorem runsB_run : ∀ l : List Nat, runsB true l = runsB false (l.dropWhile ltr)
  | [] => rfl
  | c :: r => by
    rw [List.dropWhile_cons]
    cases hc : ltr c with
    | true => rw [if_pos rfl, ← runsB_run r, runsB_cons, hc, if_neg (fun h => by cases h.2)]; omega
    | false => rw [if_neg (by decide), runsB_cons, runsB_cons, hc, if_neg (fun h => by cases h.1), if_neg (fun h => by cases h.1)]
theorem drop_run (p : Nat → Bool) : ∀ l : List Nat, l.drop (l.takeWhile p).length = l.dropWhile p
  | [] => rfl
  | c :: r => by
    rw [List.takeWhile_cons, List.dropWhile_cons]
    cases p c with
    | true => rw [if_pos rfl, if_pos rfl, List.length_cons, List.drop_succ_cons, drop_run p r]
    | false => rw [if_neg (by decide), if_neg (by decide)]; rfl
/-- a token goes: a name takes a run away -/
theorem tok_runs {c : Nat} {r : List Nat} {k t : Str} (h : tokAt (c :: r) = some (k, t)) : (if k = "name" then 1 else 0) + runsB false ((c :: r).drop t.length) ≤ runsB false (c :: r) := by
  have any : runsB false ((c :: r).drop t.length) ≤ runsB false (c :: r) := by
    have := runsB_drop ((c :: r).take t.length) ((c :: r).drop t.length) false
    rw [List.take_append_drop] at this
    simpa using this
  have tk : tokAt (c :: r) = if c = 59 then some (("sign" : Str), (";" : Str)) else if dig c = true then (let w := (c :: r).takeWhile dig; if w.length > 2 ∨ (w.length > 1 ∧ c = 48) then none else some (("number" : Str), (⟨w.toArray⟩ : Str))) else (let w := (c :: r).takeWhile ltr; if (⟨w.toArray⟩ : Str) ∈ kws then some (("keyword" : Str), (⟨w.toArray⟩ : Str)) else if 1 ≤ w.length ∧ w.length ≤ 8 then some (("name" : Str), (⟨w.toArray⟩ : Str)) else none) := rfl
  rw [tk] at h
  dsimp only at h
  have nn : ∀ {q : Str}, q = k → q ≠ "name" → (if k = "name" then 1 else 0) + runsB false ((c :: r).drop t.length) ≤ runsB false (c :: r) := fun e n => by
    rw [← e, if_neg n, Nat.zero_add]; exact any
  split at h
  · cases h; exact nn rfl (by decide +kernel)
  · split at h
    · split at h
      · cases h
      · cases h; exact nn rfl (by decide +kernel)
    · split at h
      · cases h; exact nn rfl (by decide +kernel)
      · split at h
        · rename_i hw
          cases h
          have e : (⟨((c :: r).takeWhile ltr).toArray⟩ : Str).length = ((c :: r).takeWhile ltr).length := by show (((c :: r).takeWhile ltr).toArray).size = _; rw [List.size_toArray]
          rw [if_pos rfl, e, drop_run]
          cases hc : ltr c with
          | false => rw [List.takeWhile_cons, hc, if_neg (by decide)] at hw; exact absurd hw.1 (by show ¬ 1 ≤ 0; decide)
          | true =>
            rw [List.dropWhile_cons, hc, if_pos rfl, ← runsB_run r, runsB_cons, hc, if_pos ⟨rfl, rfl⟩]; exact Nat.le_refl _
        · cases h
theorem namesN_app (a b : List Tk) : namesN (a ++ b) = namesN a + namesN b := by unfold namesN; rw [List.filter_append, List.length_append]
theorem namesN_one (t : Tk) : namesN [t] = if t.k = "name" then 1 else 0 := by
  unfold namesN
  by_cases h : t.k = "name"
  · rw [if_pos h, List.filter_cons_of_pos (show isK "name" t = true from decide_eq_true h)]; rfl
  · rw [if_neg h, List.filter_cons_of_neg (show ¬ isK "name" t = true from fun e => h (of_decide_eq_true e))]; rfl
theorem pre_ok {ts us : List Tk} {e : Except (Nat × Nat) (List Tk)} (h : preE ts e = .ok us) : ∃ vs, e = .ok vs ∧ us = ts ++ vs := by
  cases e with
  | error x => cases h
  | ok vs => cases h; exact ⟨vs, rfl, rfl⟩
theorem lexG_few : ∀ (n ln col : Nat) (l : List Nat) (ts : List Tk), lexG n ln col l = .ok ts → ts.length ≤ l.length ∧ namesN ts ≤ runsB false l
  | n, ln, col, [], ts, h => by
    have h : (Except.ok [] : Except (Nat × Nat) (List Tk)) = Except.ok ts := by cases n <;> exact h
    cases h; exact ⟨Nat.le_refl _, Nat.le_refl _⟩
  | 0, _, _, c :: r, ts, h => by
    have h : (Except.ok [] : Except (Nat × Nat) (List Tk)) = Except.ok ts := h
    cases h; exact ⟨Nat.zero_le _, Nat.zero_le _⟩
  | n + 1, ln, col, c :: r, ts, h => by
    rw [lexG] at h
    split at h
    · obtain ⟨h1, h2⟩ := lexG_few n ln (col + 1) r ts h
      refine ⟨Nat.le_succ_of_le h1, Nat.le_trans h2 ?_⟩
      have := runsB_drop [c] r false
      simpa using this
    · cases ht : tokAt (c :: r) with
      | none => rw [ht] at h; cases h
      | some kt =>
        rw [ht] at h
        obtain ⟨vs, e, rfl⟩ := pre_ok h
        obtain ⟨h1, h2⟩ := lexG_few n ln (col + kt.2.length) ((c :: r).drop kt.2.length) vs e
        have hp : 1 ≤ kt.2.length := tokAt_pos (k := kt.1) ht
        have hr := tok_runs (k := kt.1) (t := kt.2) ht
        rw [List.length_drop] at h1
        have hl : (c :: r).length = r.length + 1 := rfl
        refine ⟨by rw [List.length_append]; show 1 + vs.length ≤ _; omega, ?_⟩
        rw [namesN_app, namesN_one]
        show (if kt.1 = "name" then 1 else 0) + namesN vs ≤ _
        omega
/-- runs of all rows, signs of all rows -/
def runsR (rs : List (List Nat)) : Nat := (rs.map (runsB false)).sum
theorem lexRows_few : ∀ (rs : List (List Nat)) (ln : Nat) (ts : List Tk), lexRows ln rs = .ok ts → ts.length ≤ (rs.map List.length).sum ∧ namesN ts ≤ runsR rs
  | [], ln, ts, h => by cases h; exact ⟨Nat.le_refl _, Nat.le_refl _⟩
  | row :: rs, ln, ts, h => by
    have h : appE (lexRow ln 0 row) (lexRows (ln + 1) rs) = .ok ts := h
    cases h1 : lexRow ln 0 row with
    | error e => rw [h1] at h; cases h
    | ok us =>
      rw [h1] at h
      obtain ⟨vs, e, rfl⟩ := pre_ok h
      obtain ⟨a1, a2⟩ := lexG_few _ _ _ _ _ h1
      obtain ⟨b1, b2⟩ := lexRows_few rs (ln + 1) vs e
      rw [List.length_append, namesN_app]
      unfold runsR at b2 ⊢
      rw [List.map_cons, List.sum_cons, List.map_cons, List.sum_cons]
      exact ⟨Nat.add_le_add a1 b1, Nat.add_le_add a2 b2⟩
theorem rowsOf_sum : ∀ l : List Nat, (rowsOf l).1.length + ((rowsOf l).2.map List.length).sum ≤ l.length
  | [] => Nat.le_refl _
  | c :: r => by
    have ih := rowsOf_sum r
    unfold rowsOf
    split
    · rw [List.map_cons, List.sum_cons, List.length_cons]; show 0 + _ ≤ _; omega
    · rw [List.length_cons, List.length_cons]
      show (rowsOf r).1.length + 1 + ((rowsOf r).2.map List.length).sum ≤ r.length + 1
      omega
theorem rowsL_of (z : Str) : rowsL z = (rowsOf (TL.tl z)).1 :: (rowsOf (TL.tl z)).2 := by
  have hsp : rowsL z = TL.spl [10] 0 [] (TL.tl z) := TL.split_spl z "\n" (by decide) (TL.kind_ok (by decide +kernel))
  rw [hsp, spl_rows]; rfl
theorem small_of {z : Str} (h1 : z.length ≤ 3000) (h2 : runsR (rowsL z) ≤ 59) : Small z := by
  refine ⟨h1, fun ts h => ?_⟩
  unfold lexF at h
  cases hl : lexRows 0 (rowsL z) with
  | error e => rw [hl] at h; cases h
  | ok us =>
    rw [hl] at h
    cases h
    obtain ⟨a1, a2⟩ := lexRows_few _ _ _ hl
    have hs : ((rowsL z).map List.length).sum ≤ z.length := by
      rw [rowsL_of, List.map_cons, List.sum_cons, TL.len_tl]; exact rowsOf_sum _
    have e1 : namesN [(⟨"end", "", (rowsL z).length, 0⟩ : Tk)] = 0 := by rw [namesN_one]; exact if_neg (show ¬ (("end" : Str) = "name") by decide +kernel)
    rw [List.length_append, namesN_app, e1]
    exact ⟨by show us.length + 1 ≤ _; omega, by omega⟩
/-- runs of words put together -/
theorem runs_join (sep : List Nat) (h : runsB false sep = 0) : ∀ ps : List (List Nat), runsB false (TL.joinL sep ps) ≤ (ps.map (runsB false)).sum
  | [] => Nat.le_refl _
  | [p] => by show runsB false p ≤ runsB false p + 0; omega
  | p :: q :: ps => by
    have ih := runs_join sep h (q :: ps)
    have a1 := runsB_app p (sep ++ TL.joinL sep (q :: ps)) false
    have a2 := runsB_app sep (TL.joinL sep (q :: ps)) false
    show runsB false (p ++ (sep ++ TL.joinL sep (q :: ps))) ≤ _
    rw [List.map_cons, List.sum_cons]
    omega
end Br

-- REN CB CB
namespace Br
open PySem PySem.Spec PyProof.Rows L2
/-! ### what the text of a session tells -/
def opsF : List Str → Except Nat (List Op)
  | [] => .ok []
  | l :: ls => match lineF l with
    | none => .error 0
    | some op => match opsF ls with
      | .error n => .error (n + 1)
      | .ok ops => .ok (op :: ops)
theorem opsF_bad : ∀ {i : Nat} {ls : List Str} {ops : List Op} {l : Str}, opsF (ls.take i) = .ok ops → ls[i]? = some l → lineF l = none → opsF ls = .error i
  | _, [], _, _, _, h, _ => by cases h
  | 0, a :: ls, _, l, _, h, hl => by
    cases h
    unfold opsF
    rw [hl]
  | i + 1, a :: ls, ops, l, h, h2, hl => by
    rw [List.take_succ_cons] at h
    unfold opsF at h ⊢
    cases ha : lineF a with
    | none => rw [ha] at h; cases h
    | some op =>
      rw [ha] at h
      cases ho : opsF (ls.take i) with
      | error n => rw [ho] at h; cases h
      | ok os =>
        have := opsF_bad ho (by simpa using h2) hl
        dsimp only
        rw [this]
theorem opsF_app : ∀ {xs ys : List Str} {a b : List Op}, opsF xs = .ok a → opsF ys = .ok b → opsF (xs ++ ys) = .ok (a ++ b)
  | [], ys, a, b, h, h2 => by cases h; exact h2
  | x :: xs, ys, a, b, h, h2 => by
    rw [List.cons_append]
    unfold opsF at h ⊢
    cases ha : lineF x with
    | none => rw [ha] at h; cases h
    | some op =>
      rw [ha] at h
      cases ho : opsF xs with
      | error n => rw [ho] at h; cases h
      | ok os =>
        rw [ho] at h
        cases h
        dsimp only
        rw [opsF_app ho h2]; rfl
theorem opsF_next {i : Nat} {ls : List Str} {ops : List Op} {l : Str} {op : Op} (h : opsF (ls.take i) = .ok ops) (h2 : ls[i]? = some l) (hl : lineF l = some op) : opsF (ls.take (i + 1)) = .ok (ops ++ [op]) := by
  rw [take_more h2]
  refine opsF_app h ?_
  unfold opsF
  rw [hl]; rfl
theorem opsF_len : ∀ {ls : List Str} {ops : List Op}, opsF ls = .ok ops → ops.length = ls.length
  | [], _, h => by cases h; rfl
  | x :: xs, ops, h => by
    unfold opsF at h
    cases ha : lineF x with
    | none => rw [ha] at h; cases h
    | some op =>
      rw [ha] at h
      cases ho : opsF xs with
      | error n => rw [ho] at h; cases h
      | ok os =>
        rw [ho] at h
        cases h
        rw [List.length_cons, List.length_cons, opsF_len ho]
theorem lineF_any {z : Str} {op : Op} (h : lineF z = some op) : OpAny op := fun r => lineW_ok h
theorem opsF_any : ∀ {ls : List Str} {ops : List Op}, opsF ls = .ok ops → ∀ op ∈ ops, OpAny op
  | [], _, h, _, hm => by cases h; cases hm
  | x :: xs, ops, h, op, hm => by
    unfold opsF at h
    cases ha : lineF x with
    | none => rw [ha] at h; cases h
    | some o =>
      rw [ha] at h
      cases ho : opsF xs with
      | error n => rw [ho] at h; cases h
      | ok os =>
        rw [ho] at h
        cases h
        rcases List.mem_cons.mp hm with rfl | hm
        · exact lineF_any ha
        · exact opsF_any ho op hm
/-- the number that the first line's words tell -/
def totW : List Str → Option Nat
  | [a, b] => if a = "rota" then numW b else none
  | _ => none
def headF (rows : List Str) : Option Nat := match totW (Txt.split (rows.headD "") " ") with
  | some t => if t = 0 ∨ rows.length ≤ t then none else some t
  | none => none
inductive Ses where
  | bad (n : Nat)
  | rep (src : Str) (ops : List Op)
def sesF (rows : List Str) : Ses := match headF rows with
  | none => .bad 0
  | some t => match opsF (rows.drop (t + 1)) with
    | .error n => .bad (t + 1 + n)
    | .ok ops => .rep (Txt.join "\n" ((rows.drop 1).take t)) ops
/-- a text of no great size -/
structure SesOk (z : Str) : Prop where
  len : z.length ≤ 3000
  few : (Txt.split z "\n").length ≤ 60
  small : ∀ t, Small (Txt.join "\n" (((Txt.split z "\n").drop 1).take t))
  row : ∀ x ∈ Txt.split z "\n", x.length ≤ 3000 ∧ Parts (Txt.split x " ")
theorem rows_ne (z : Str) : ∃ a t, Txt.split z "\n" = a :: t := by
  have h := rowsL_of z
  unfold rowsL at h
  cases hs : Txt.split z "\n" with
  | nil => rw [hs] at h; cases h
  | cons a t => exact ⟨a, t, rfl⟩
section
variable {P : Program} {w : World} {K : PySem.W.Frag} {mg : Str → Option Value} {base : Heap} {CB CI CF CK CR CS : Addr}
/-! ### InvalidSession is made -/
abbrev sInvalidSession___init__ : Stmt := inClass (topS 16) 0
theorem scInvalidSession___init__ : FnScope ["self", "place"] ["self", "place"] (defScope sInvalidSession___init__) := ⟨rfl, rfl, rfl, by decide +kernel, rfl, by decide +kernel, by decide +kernel⟩
theorem ex_InvalidSession {C : Addr} (D : ExTxt K mg "InvalidSession" "InvalidSession.__init__" C sInvalidSession___init__ ["self", "place"] ["place"]) (BX : BaseX K mg CR) : ExAt P w K mg base "InvalidSession" C ["place"] := D.at_ fun fI fd F => by
  have nd := scInvalidSession___init__.nd
  have T := D.T
  have no := D.no
  refine F.ok scInvalidSession___init__ (fun vs H Q E h => ?_) (fun cdv A outer s H vs Q E hr h => ?_)
  · obtain ⟨a, ws, rfl, hl, _⟩ := h
    obtain ⟨v, rfl⟩ := List.length_eq_one_iff.mp hl; rfl
  obtain ⟨a, ws, rfl, hl, ha, k⟩ := h
  obtain ⟨v, rfl⟩ := List.length_eq_one_iff.mp hl
  refine ⟨_, (pss_cons (ps_expr (pe_rinit BX (by rfl) (pa_cons (pv 0) (pa_cons (pv 1) pa_nil))))
 (pss_one (ps_ost (pv 0) (pv 1)))), ?_⟩
  refine ⟨_, rfl, _, rfl, a, C, _, rfl, (by show 1 ≤ 1000; decide), T, ha, ?_⟩
  refine ⟨_, rfl, _, rfl, a, C, rfl, T, no _ (by simp), .inl ⟨ha, fun dx hd ne => ?_⟩⟩
  exact k dx _ hd ne (fun b h1 h2 => by rw [upd_ne h2, upd_ne h1]) upd_same (by rw [upd_ne ne, upd_same]; rfl)
abbrev sparse_session : Stmt := topS 68
theorem scparse_session : FnScope ["text", "lines", "words", "total", "operations", "place", "rota"] ["text"] (defScope sparse_session) := ⟨rfl, rfl, rfl, by decide +kernel, rfl, by decide +kernel, by decide +kernel⟩
def SesO (CF CK CI CS : Addr) (H : Hp) (Q : VK) (E : XK) : Ses → Prop
  | .bad n => ∀ (d : Addr) (H' : Hp), Wd [] H H' [(d, opX n)] → E (.ref CS) (some d) H'
  | .rep src ops => RepO CF CK CI H E (∀ (H' : Hp) (p lp : Addr) (oas : List Addr), Wd [] H H' [(p, .tup [.str src, .ref lp]), (lp, .lst (oas.map V.ref))] → OpsT H' oas ops → Q (.ref p) H') (repF src ops)
def spPSessG (CF CK CI CS : Addr) : Sp := fun vs H Q E => ∃ z : Str, vs = [.str z] ∧ SesOk z ∧ SesO CF CK CI CS H Q E (sesF (Txt.split z "\n"))
theorem cal_pSessG (D : DefAt K mg "parse_session" sparse_session ["text"]) (T : Bi mg) (gB : mg "Book" = some (.ref CB)) (cR : ∃ t, mg "ROTA" = some (.str "rota" t)) (EX_InvalidSession : ExAt P w K mg base "InvalidSession" CS ["place"]) (C1 : ClX' P w K mg base 11 CB "replay" ["cls", "rota", "operations"] (spReplayA CB CF CK CI)) (C2 : Cal P w K mg base 1 "parse_number" ["word"] spNumG) (C3 : Cal P w K mg base 2 "parse_line" ["line"] spPLineG) : CalX P w K mg base 12 "parse_session" ["text"] (spPSessG CF CK CI CS) := D.calX fun f fd F => by
  have nd := scparse_session.nd
  have g_Book := gB
  obtain ⟨t1, c_ROTA⟩ := cR
  obtain ⟨mc, p1, g1, fd1, cr_Book, cm_replay, G_replay, b_replay⟩ := C1.ex
  obtain ⟨f2, fd2, m_parse_number, kp_parse_number, b_parse_number, G_parse_number⟩ := C2.ex
  obtain ⟨f3, fd3, m_parse_line, kp_parse_line, b_parse_line, G_parse_line⟩ := C3.ex
  refine F.okX scparse_session (fun vs H Q E h => ?_) (fun cdv A outer s H vs Q E hr h => ?_)
  · obtain ⟨z, rfl, _⟩ := h; rfl
  obtain ⟨z, rfl, ⟨hlen, hfew, hsm, hrow⟩, q⟩ := h
  refine ⟨_, (pss_cons (ps_set (i := 1) nd rfl (Or.inl rfl) (pe_split (pv 0) pe_str))
 (pss_cons (ps_set (i := 2) nd rfl (Or.inl rfl) (pe_split (pe_ix (r := rIxL K) ix_list (pv 1) pe_int (fun _ _ => rfl)) pe_str))
 (C8.pss_cut (ps_set (i := 3) nd rfl (Or.inl rfl) (pe_ifExp (PW.pt (pw_and (pt_cmpR op_eq (pe_callB (r := rLenS K) call_len_seq (by rfl) T.len PySem.boot_len (pa_cons (pv 2) pa_nil)) pe_int (nomark _)) (pw_and1 (pt_cmpR op_eq (pe_ix (r := rIxL K) ix_list (pv 2) pe_int (fun _ _ => rfl)) (pe_glob (v := .str "rota") (by rfl) c_ROTA ⟨_, rfl⟩) (nomark _))))) (pe_call G_parse_number (hr.mono (by first | decide | omega)) (by rfl) m_parse_number kp_parse_number b_parse_number .nil pass0 (pa_cons (pe_ix (r := rIxL K) ix_list (pv 2) pe_int (fun _ _ => rfl)) pa_nil)) pe_non))
 (pss_cons (ps_if (PW.pt (pw_or (pt_cmpR op_isN (pv 3) pe_non (nomark _)) (pw_or (pt_cmpR op_eq (pv 3) pe_int (nomark _)) (pw_or1 (pt_cmpR op_ge (pv 3) (pe_callB (r := rLenS K) call_len_seq (by rfl) T.len PySem.boot_len (pa_cons (pv 1) pa_nil)) (nomark _))))))
 (pss_one (ps_raise rfl (takes_of rfl rfl rfl rfl) (pmk_ex EX_InvalidSession (hr.mono (by first | decide | omega)) (by rfl) (pa_cons pe_int pa_nil) (by decide))))
 pss_nil)
 (pss_cons (ps_set (i := 4) nd rfl (Or.inl rfl) (pe_lst pa_nil))
 (pss_cons (ps_for (passes_of rfl) rfl (pi_range2 (by rfl) T.range (pa_cons (pe_op op_add (pv 3) pe_int) (pa_cons (pe_callB (r := rLenS K) call_len_seq (by rfl) T.len PySem.boot_len (pa_cons (pv 1) pa_nil)) pa_nil))) (pg_name (i := 5) nd rfl (Or.inl rfl))
 (pss_cons (ps_expr (pe_bmK (K := K) rfl PySem.F.plainAttrs_list PySem.F.slot_list_append PySem.F.type_list_append mt_append (pv 4) (pa_cons (pe_call G_parse_line (hr.mono (by first | decide | omega)) (by rfl) m_parse_line kp_parse_line b_parse_line .nil pass0 (pa_cons (pe_ix (r := rIxL K) ix_list (pv 1) (pv 5) (fun _ _ => rfl)) pa_nil)) pa_nil)))
 (pss_one (ps_if (pt_cmpR op_isN (pe_ix (r := rIxL K) ix_list (pv 4) (pe_un un_neg pe_int) (fun _ _ => rfl)) pe_non (nomark _))
 (pss_one (ps_raise rfl (takes_of rfl rfl rfl rfl) (pmk_ex EX_InvalidSession (hr.mono (by first | decide | omega)) (by rfl) (pa_cons (pv 5) pa_nil) (by decide))))
 pss_nil))))
 (pss_cons (ps_set (i := 6) nd rfl (Or.inl rfl) (pe_joinK (K := K) rfl pe_str (pe_slice (r := rSlL K) sl_list (pv 1) (po_some pe_int) (po_some (pe_op op_add (pv 3) pe_int)))))
 (pss_cons (ps_expr (ClX.pe_cmeth (pe_glob (v := .ref CB) (by rfl) g_Book rfl) cr_Book cm_replay (G_replay.raw b_replay .nil) (hr.mono (by first | decide | omega)) (passes_call (takes_of rfl rfl rfl rfl) (fun _ _ _ _ h => h)) (pa_cons (pv 6) (pa_cons (pv 4) pa_nil))))
 (pss_one (ps_ret (pe_tup (pa_cons (pv 6) (pa_cons (pv 4) pa_nil))))))))))))), ?_⟩
  refine ⟨_, rfl, ⟨_, rfl⟩, z, "\n", rfl, rfl, rfl, Nat.le_trans (m := 1000002) (by omega) (by decide), ?_⟩
  obtain ⟨r0, rt, er⟩ := rows_ne z
  generalize hrs : Txt.split z "\n" = rows at q hfew hsm hrow er
  intro lp hlp
  have w1 := (Wd.refl H).new (.lst (rows.map V.str)) hlp
  have hr0 : rows[0]? = some r0 := by rw [er]; rfl
  obtain ⟨r0l, r0p⟩ := hrow r0 (List.mem_of_getElem? hr0)
  refine ⟨_, rfl, lp, _, 0, V.str r0, rfl, rfl, SqL.of (w1.get 0 rfl), atI_nat (j := 0) (by rw [List.getElem?_map, hr0]; rfl), ⟨_, rfl⟩, _, " ", rfl, rfl, rfl, Nat.le_trans (m := 1000002) (by omega) (by decide), ?_⟩
  intro wp hwp
  have ehd : headF rows = match totW (Txt.split r0 " ") with | some t => if t = 0 ∨ rows.length ≤ t then none else some t | none => none := by rw [er]; rfl
  generalize Txt.split r0 " " = ws at r0p ehd
  have w2 := w1.new (.lst (ws.map V.str)) hwp
  refine ⟨fun σ H' => σ = [some (.str z), some (.ref lp), some (.ref wp), some (oI (totW ws)), none, none, none] ∧ Wd [] H H' [(lp, .lst (rows.map V.str))], ?_, ?_⟩
  · have w20 := w2.sub (l' := [(lp, .lst (rows.map V.str))]) (by walk_at "sub")
    refine ⟨_, rfl, wp, _, rfl, .inl (SqL.of (w2.get 0 rfl)), rfl, _, rfl, ?_⟩
    rw [List.length_map]
    by_cases h2 : ws.length = 2
    case neg =>
      have e : totW ws = none := by
        rcases ws with _ | ⟨a, _ | ⟨b, _ | ⟨c, tl⟩⟩⟩
        · rfl
        · rfl
        · exact absurd rfl h2
        · rfl
      rw [decide_eq_false (fun e => h2 (by injection e with e; omega)), e]
      exact iteF ⟨rfl, w20⟩
    obtain ⟨a1, b1, rfl⟩ : ∃ a b, ws = [a, b] := by
      rcases ws with _ | ⟨a, _ | ⟨b, _ | ⟨c, tl⟩⟩⟩
      · cases h2
      · cases h2
      · exact ⟨a, b, rfl⟩
      · simp at h2
    rw [show decide (V.int ((([a1, b1] : List Str).length : Nat) : Int) = V.int 2) = true from decide_eq_true rfl]
    refine iteT ⟨_, rfl, wp, _, 0, V.str a1, rfl, rfl, SqL.of (w2.get 0 rfl), rfl, rfl, _, rfl, ite2 (fun c1 => ?_) (fun c1 => ?_)⟩
    · have e1 : a1 = "rota" := by have := of_decide_eq_true c1; injection this
      refine ⟨_, rfl, wp, _, 1, V.str b1, rfl, rfl, SqL.of (w2.get 0 rfl), rfl, b1, rfl, r0p b1 (by simp), fun H4 w4 => ?_⟩
      have e : totW [a1, b1] = numW b1 := if_pos e1
      rw [e]
      exact ⟨rfl, w20.call0 w4⟩
    · have e : totW [a1, b1] = none := if_neg fun e => c1 (decide_eq_true (by rw [e]))
      rw [e]
      exact ⟨rfl, w20⟩
  rintro σ H3 ⟨rfl, w3⟩
  have w30 := w3.sub (l' := []) (List.nil_sublist _)
  have hl3 := w3.get 0 rfl
  unfold sesF at q
  rw [ehd] at q
  cases ht : totW ws with
  | none =>
    rw [ht] at q
    exact ⟨_, rfl, rfl, _, rfl, iteT ⟨rfl, fun d H' w' => q d H' (w30.callN w')⟩⟩
  | some t =>
  rw [ht] at q
  dsimp only at q
  rw [show oI (some t) = V.int (t : Int) from rfl]
  refine ⟨_, rfl, rfl, _, rfl, iteF ⟨_, rfl, rfl, _, rfl, ?_⟩⟩
  by_cases h0 : t = 0
  · rw [if_pos (.inl h0)] at q
    rw [decide_eq_true (show V.int (t : Int) = V.int 0 by rw [h0]; rfl)]
    exact iteT ⟨rfl, fun d H' w' => q d H' (w30.callN w')⟩
  rw [decide_eq_false (show ¬ V.int (t : Int) = V.int 0 from fun e => h0 (by injection e with e; omega))]
  refine iteF ⟨_, rfl, _, rfl, lp, _, rfl, .inl (SqL.of hl3), _, _, rfl, rfl, _, rfl, ?_⟩
  rw [List.length_map]
  by_cases hge : rows.length ≤ t
  · rw [if_pos (.inr hge)] at q
    rw [decide_eq_true (show (rows.length : Int) ≤ (t : Int) by omega)]
    exact iteT ⟨rfl, fun d H' w' => q d H' (w30.callN w')⟩
  rw [if_neg (fun h => h.elim h0 hge)] at q
  dsimp only at q
  rw [decide_eq_false (show ¬ (rows.length : Int) ≤ (t : Int) by omega)]
  refine iteF ⟨Nat.zero_le _, fun ol hol2 => ?_⟩
  have w5 := w3.new (.lst []) hol2
  have en : (((rows.length : Nat) : Int) - ((t : Int) + 1)).toNat = rows.length - (t + 1) := by omega
  refine ⟨_, rfl, _, _, rfl, rfl, _, rfl, lp, _, rfl, .inl (SqL.of (w5.get 1 rfl)), _, _, rfl, ⟨by omega, by omega, by omega, by rw [List.length_map]; omega⟩, ?_⟩
  rw [List.length_map, en]
  refine for_range (lo := (t : Int) + 1) (n := rows.length - (t + 1)) (fun i σ H' => (∃ s5 s6, σ = [some (.str z), some (.ref lp), some (.ref wp), some (.int (t : Int)), some (.ref ol), s5, s6]) ∧ ∃ (oas : List Addr) (ops : List Op), Wd [] H H' [(ol, .lst (oas.map V.ref)), (lp, .lst (rows.map V.str))] ∧ OpsT H' oas ops ∧ opsF ((rows.drop (t + 1)).take i) = .ok ops) ⟨⟨_, _, rfl⟩, [], [], w5, .nil, rfl⟩ ?_ ?_
  · rintro i σ H' hi ⟨⟨s5, s6, rfl⟩, oas, ops, w6, ho6, hf6⟩
    have hri : rows[t + 1 + i]? = some (rows[t + 1 + i]) := List.getElem?_eq_getElem (by omega)
    generalize rows[t + 1 + i] = row at hri
    obtain ⟨rl, rp⟩ := hrow row (List.mem_of_getElem? hri)
    have hdi : (rows.drop (t + 1))[i]? = some row := by rw [List.getElem?_drop]; exact hri
    have hat : atI (rows.map V.str) ((t : Int) + 1 + (i : Int)) = some (.str row) := by
      have e : (t : Int) + 1 + (i : Int) = ((t + 1 + i : Nat) : Int) := by omega
      rw [e]
      exact atI_nat (by rw [List.getElem?_map, hri]; rfl)
    have lo6 : oas.length = i := by
      have h1 := ho6.length
      have h2 := opsF_len hf6
      rw [List.length_take, List.length_drop] at h2; omega
    refine ⟨_, rfl, .inl ⟨rfl, _, SqL.of (w6.get 0 rfl)⟩, _, rfl, _, rfl, lp, _, _, _, rfl, rfl, SqL.of (w6.get 1 rfl), hat, row, rfl, rl, rp, fun op hop H7 p w7 => ?_, fun hno H7 w7 => ?_⟩
    · have w8 := w6.call0 w7
      refine ⟨ol, _, _, rfl, rfl, w8.get 1 rfl, by rw [List.length_map]; exact lt_line (by omega), ?_⟩
      have w9 := (w8.sub (l' := [(ol, .lst (oas.map V.ref)), (lp, .lst (rows.map V.str))]) (by walk_at "sub")).app0 (V.ref p)
      refine ⟨_, rfl, _, rfl, ol, _, -1, .ref p, rfl, rfl, SqL.of (w9.get 0 rfl), atI_last, rfl, _, rfl, ite2 (fun c => absurd (of_decide_eq_true c) (fun e => by cases e)) (fun _ => ?_)⟩
      refine ⟨⟨_, _, rfl⟩, oas ++ [p], ops ++ [op], by rw [List.map_append]; exact w9, ?_, opsF_next hf6 hdi hop⟩
      have k9 : ∀ b xs, H' b = some (.tup xs) → upd H7 ol (.lst (oas.map V.ref ++ [V.ref p])) b = some (.tup xs) := fun b xs e => by
        have hne : b ≠ ol := fun q => by rw [q, w6.get 0 rfl] at e; cases e
        rw [upd_ne hne]; exact w7.tups b xs e
      refine Paired.app (ho6.keep k9) (.cons ?_ .nil)
      have hpo : p ≠ ol := fun q => by
        have := w7.own _ List.mem_cons_self
        rcases this with h | h
        · have h : H' p = none := h
          rw [q, w6.get 0 rfl] at h; cases h
        · cases h
      rw [upd_ne hpo]
      exact w7.get 0 rfl
    · have w8 := w6.call0 w7
      refine ⟨ol, _, _, rfl, rfl, w8.get 0 rfl, by rw [List.length_map]; exact lt_line (by omega), ?_⟩
      have w9 := (w8.sub (l' := [(ol, .lst (oas.map V.ref)), (lp, .lst (rows.map V.str))]) (by walk_at "sub")).app0 V.non
      refine ⟨_, rfl, _, rfl, ol, _, -1, .non, rfl, rfl, SqL.of (w9.get 0 rfl), atI_last, rfl, _, rfl, iteT ?_⟩
      rw [opsF_bad hf6 hdi hno] at q
      refine ⟨_, rfl, rfl, fun d H8 w' => q d H8 ?_⟩
      have e : (t : Int) + 1 + (i : Int) = ((t + 1 + i : Nat) : Int) := by omega
      rw [e] at w'
      exact (w9.sub (List.nil_sublist _)).callN w'
  · rintro σ H' ⟨⟨s5, s6, rfl⟩, oas, ops, w6, ho6, hf6⟩
    have hdl : (rows.drop (t + 1)).length ≤ rows.length - (t + 1) := by rw [List.length_drop]; exact Nat.le_refl _
    rw [List.take_of_length_le hdl] at hf6
    rw [hf6] at q
    have hcut : cutV (rows.map V.str) (some 1) (some ((t : Int) + 1)) = ((rows.drop 1).take t).map V.str := by
      unfold cutV
      have lx : (rows.map V.str).length = rows.length := List.length_map ..
      have e1 : ∀ d : Nat, HT.sIx (rows.map V.str).length d (some 1) = 1 := fun d => by
        show (if (1 : Int) < 0 then ((1 : Int) + (((rows.map V.str).length : Nat) : Int)).toNat else min (1 : Int).toNat (rows.map V.str).length) = 1
        rw [if_neg (by decide), lx, show (1 : Int).toNat = 1 from rfl]
        omega
      have e2 : ∀ d : Nat, HT.sIx (rows.map V.str).length d (some ((t : Int) + 1)) = t + 1 := fun d => by
        show (if (t : Int) + 1 < 0 then (((t : Int) + 1) + (((rows.map V.str).length : Nat) : Int)).toNat else min ((t : Int) + 1).toNat (rows.map V.str).length) = _
        rw [if_neg (by omega), lx, show ((t : Int) + 1).toNat = t + 1 by omega]
        omega
      rw [e1, e2, List.map_take, List.map_drop, Nat.add_sub_cancel]
    refine ⟨⟨_, rfl⟩, _, rfl, _, rfl, _, rfl, _, _, rfl, rfl, _, rfl, lp, _, rfl, SqL.of (w6.get 1 rfl), fun cp hcp => ?_⟩
    rw [hcut]
    have w7 := w6.new (.lst (((rows.drop 1).take t).map V.str)) hcp
    have hsrc := hsm t
    have hlen8 := hsrc.1
    have e1 : (("\n" : Str)).length = 1 := by decide
    refine ⟨_, cp, (rows.drop 1).take t, rfl, rfl, .inl (SqL.of (w7.get 0 rfl)), ?_, ?_⟩
    · have h8 := sum_le (fun s : Str => s.length) 3000 ((rows.drop 1).take t) fun x hx => (hrow x (List.mem_of_mem_drop (List.mem_of_mem_take hx))).1
      have h9 : ((rows.drop 1).take t).length ≤ 60 := by rw [List.length_take, List.length_drop]; omega
      rw [e1]
      have h10 := Nat.mul_le_mul_left 3000 h9
      omega
    have lo : ops.length ≤ 60 := by rw [opsF_len hf6, List.length_drop]; omega
    have k7 : ∀ b xs, H' b = some (.tup xs) → _ := ((Wd.refl H').new (.lst (((rows.drop 1).take t).map V.str)) hcp).tups
    refine ⟨rfl, _, rfl, _, rfl, Txt.join "\n" ((rows.drop 1).take t), ol, oas, ops, rfl, hsrc, w7.get 1 rfl, ho6.keep k7, opsF_any hf6, lo, ?_⟩
    have w70 := w7.sub (l' := []) (List.nil_sublist _)
    have q : RepO CF CK CI H E _ (repF (Txt.join "\n" ((rows.drop 1).take t)) ops) := q
    revert q
    cases repF (Txt.join "\n" ((rows.drop 1).take t)) ops with
    | syn l c => exact fun q d H9 w9 => q d H9 (w70.callN w9)
    | chk y l c => exact fun q d H9 w9 => q d H9 (w70.callN w9)
    | op n => exact fun q d H9 w9 => q d H9 (w70.callN w9)
    | ok =>
      intro q x H9 w9
      refine ⟨_, rfl, _, rfl, (by show 2 ≤ sizeLine; decide), fun p hp => ?_⟩
      have w10 := (w7.call0 w9).new (.tup [V.str (Txt.join "\n" ((rows.drop 1).take t)), V.ref ol]) hp
      exact q _ p ol oas (w10.sub (by walk_at "sub")) (ho6.keep fun b xs e => (((((Wd.refl H').new (.lst (((rows.drop 1).take t).map V.str)) hcp).call0 w9).new (.tup [V.str (Txt.join "\n" ((rows.drop 1).take t)), V.ref ol]) hp).tups b xs e))
end
end Br

/-! The reasons of faults are texts as any. -/
namespace Br
open PySem PySem.Spec PyProof.Rows L2
def Wy (s : Ps) : Prop := ∀ f ∈ s.fs, PyData.strOk f.why = true
theorem Wy.bad {s : Ps} {w : Str} (h : Wy s) (t : Tk) (hw : PyData.strOk w = true) : Wy (s.bad t w) := fun f hf => by
  rcases List.mem_append.mp (show f ∈ s.fs ++ [⟨t.l, t.c, w⟩] from hf) with hf | hf
  · exact h f hf
  · rw [List.mem_singleton.mp hf]; exact hw
theorem wy_fold {α : Type} (g : α → Ps) (f : α → Tk → α) (h : ∀ a t, Wy (g a) → Wy (g (f a t))) : ∀ (ts : List Tk) (a : α), Wy (g a) → Wy (g (ts.foldl f a))
  | [], _, w => w
  | t :: ts, a, w => wy_fold g f h ts (f a t) (h a t w)
theorem person_wy {s : Ps} (t : Tk) (h : Wy s) : Wy (personF s t).2 := by
  unfold personF
  split
  · exact h
  · exact h.bad t (by decide +kernel)
theorem peopleS_wy (s : Ps) (t : Tk) (h : Wy s) : Wy (peopleS s t) := by
  unfold peopleS
  split
  · exact h.bad t (by decide +kernel)
  · split
    · exact h.bad t (by decide +kernel)
    · exact h
theorem turnS_wy (p : Ps × List Nat) (t : Tk) (h : Wy p.1) : Wy (turnS p t).1 := by
  unfold turnS
  dsimp only
  split
  · exact (person_wy t h).bad t (by decide +kernel)
  · exact person_wy t h
theorem miss_wy (st : Tk) (p : Ps × List Nat) (h : Wy p.1) : Wy (missF st p) := by
  unfold missF
  split
  · exact h.bad st (by decide +kernel)
  · exact h
theorem wS_wy (p : Ps × Nat) (t : Tk) (h : Wy p.1) : Wy (wS p t).1 := by
  unfold wS
  dsimp only
  split
  · exact h.bad t (by decide +kernel)
  · exact h
theorem twice_wy (b : Bool) (st : Tk) {s : Ps} (h : Wy s) : Wy (twiceF b st s) := by
  unfold twiceF
  split
  · exact h.bad st (by decide +kernel)
  · exact h
theorem short_wy (st : Tk) (m : Nat) {s : Ps} (h : Wy s) : Wy (shortF st m s) := by
  unfold shortF
  split
  · exact h.bad st (by decide +kernel)
  · exact h
theorem awayB_wy (st : Tk) {s : Ps} (tr tm : Tk) (h : Wy s) : Wy (awayB st s tr tm) := by
  unfold awayB
  split
  · exact h.bad tm (by decide +kernel)
  · split
    · exact h.bad tr (by decide +kernel)
    · split
      · exact h.bad st (by decide +kernel)
      · exact h
theorem mkS_wy (p : Ps × List Nat) (t : Tk) (h : Wy p.1) : Wy (mkS p t).1 := person_wy t h
theorem stm_wy {s s' : Ps} {ts rest : List Tk} (w : Wy s) (h : stmF s ts = .ok (s', rest)) : Wy s' := by
  cases ts with
  | nil => cases h
  | cons st r =>
    have h : (if st.t = "weights" then weightsF s (st :: r) else if st.t = "away" then awayF s (st :: r) else if st.t = "makeup" then makeupF s (st :: r) else .error (st.l, st.c)) = .ok (s', rest) := h
    split at h
    · obtain ⟨t1, e1, h⟩ := bind_inv h
      obtain ⟨p, e2, h⟩ := bind_inv h
      cases h
      exact short_wy st p.1.length (wy_fold (α := Ps × Nat) Prod.fst wS wS_wy p.1 _ (twice_wy _ st w))
    · split at h
      · obtain ⟨t1, e1, h⟩ := bind_inv h
        obtain ⟨p1, e2, h⟩ := bind_inv h
        obtain ⟨p2, e3, h⟩ := bind_inv h
        obtain ⟨t4, e4, h⟩ := bind_inv h
        obtain ⟨p3, e5, h⟩ := bind_inv h
        obtain ⟨t6, e6, h⟩ := bind_inv h
        cases h
        exact awayB_wy st p2.1 p3.1 (person_wy p1.1 w)
      · split at h
        · obtain ⟨t1, e1, h⟩ := bind_inv h
          obtain ⟨p, e2, h⟩ := bind_inv h
          cases h
          exact twice_wy s.M.isSome st (wy_fold (α := Ps × List Nat) Prod.fst mkS mkS_wy p.1 _ w)
        · cases h
theorem loop_wy : ∀ (k : Nat) (s : Ps) (ts : List Tk) (s' : Ps), Wy s → loopF k s ts = .ok s' → Wy s'
  | 0, s, ts, s', w, h => by cases h; exact w
  | k + 1, s, ts, s', w, h => by
    have h : (if atEnd ts = true then Except.ok s else bindE (fun p => loopF k p.1 p.2) (stmF s ts)) = .ok s' := h
    split at h
    · cases h; exact w
    · obtain ⟨p, e, h⟩ := bind_inv h
      obtain ⟨s1, rest⟩ := p
      exact loop_wy k s1 rest s' (stm_wy w e) h
theorem least_wy {fs : List Flt} (h : ∀ f ∈ fs, PyData.strOk f.why = true) : PyData.strOk (leastF fs).why = true := by
  unfold leastF
  cases hm : fs[argBest (bestF fs) (fs.length - 1)]? with
  | none => decide +kernel
  | some f => exact h f (List.mem_of_getElem? hm)
theorem load_why {z why : Str} {l c : Nat} (h : loadF z = .chk why l c) : PyData.strOk why = true := by
  unfold loadF at h
  cases hl : lexF z with
  | error e => rw [hl] at h; cases h
  | ok ts =>
  rw [hl] at h
  have h : rotaF ts = .chk why l c := h
  unfold rotaF at h
  cases hb : bindE (fun p => bindE (fun q => bindE (fun s => .ok (s, q.1.2)) (loopF q.2.length q.1.1 q.2)) (turnsF p.1 p.2)) (peopleF Ps.zero ts) with
  | error e => rw [hb] at h; cases h
  | ok sj =>
  rw [hb] at h
  obtain ⟨s, js⟩ := sj
  have h : doneF s js = .chk why l c := h
  obtain ⟨p, e1, h2⟩ := bind_inv hb
  obtain ⟨q, e2, h3⟩ := bind_inv h2
  obtain ⟨s', e3, h4⟩ := bind_inv h3
  cases h4
  obtain ⟨t1, p1, e1⟩ := bind_inv e1
  obtain ⟨pp, p2, e1⟩ := bind_inv e1
  cases e1
  have w1 : Wy (pp.1.foldl peopleS Ps.zero) := wy_fold (α := Ps) id peopleS peopleS_wy pp.1 Ps.zero (fun _ h => nomatch h)
  have w2 : Wy q.1.1 := by
    generalize pp.1.foldl peopleS Ps.zero = S at w1 e2
    have e2 : turnsF S pp.2 = .ok q := e2
    cases hpp : pp.2 with
    | nil => rw [hpp] at e2; cases e2
    | cons st r2 =>
      rw [hpp] at e2
      obtain ⟨t2, q1, e2⟩ := bind_inv e2
      obtain ⟨qq, q2, e2⟩ := bind_inv e2
      cases e2
      exact miss_wy st _ (wy_fold (α := Ps × List Nat) Prod.fst turnS turnS_wy qq.1 (S, []) w1)
  have w3 := loop_wy _ _ _ _ w2 e3
  unfold doneF at h
  split at h
  · cases h
  · cases h
    exact least_wy w3
end Br

namespace Br
open PySem PySem.Spec PyProof.Rows L2
/-! ### what the law tells of an error -/
def clsN : List Str := ["InvalidTick", "InvalidCount", "UnknownPerson", "TooLong", "DifferentPeople", "Contradiction", "NobodyHome", "InvalidName", "UnknownName", "SyntaxFault", "CheckFault", "InvalidCode", "InvalidOperation", "InvalidSession"]
def kindN : List Str := ["tick", "count", "person", "long", "different", "contradiction", "nobody", "name", "unknown", "syntax", "check", "code", "operation", "session"]
/-- the class at C is the j-th of the fourteen -/
structure ErK (K : PySem.W.Frag) (cs : Nat → Addr) (CR C : Addr) (j : Nat) : Prop where
  j14 : j < 14
  at_ : ∀ i, i < 14 → PySem.W.kitOne K (.ref C) (.ref (cs i)) = some (decide (i = j))
  ve : PySem.W.kitOne K (.ref C) (.type "ValueError") = some true
  ex : PySem.W.exmOne K (.ref C) (.ref CR) = some true
  is_ : IsX K C
  xf : XfC K C
/-- what the law's word of an error is: a kind's name, and what it carries -/
inductive Carry (K : PySem.W.Frag) (C : Addr) (H : Hp) (d : Option Addr) (Q : VK) : Nat → Prop
  | none {j : Nat} (hj : j < 9) (hd : d = none) (q : ∀ p H', Wd [] H H' [(p, .tup [.str (kindN.getD j ""), .int 0])] → Q (.ref p) H') : Carry K C H d Q j
  | place {j : Nat} {dd : Addr} {fs : List (Str × V)} {i : Int} (hj : 11 ≤ j) (hd : d = some dd) (ha : H dd = some (.xd fs)) (hl : fs.lookup ("place" : Str) = some (.int i)) (no : PySem.W.findIn K (.ref C) "place" = some none)
      (q : ∀ p H', Wd [] H H' [(p, .tup [.str (kindN.getD j ""), .int i])] → Q (.ref p) H') : Carry K C H d Q j
  | syn {dd : Addr} {fs : List (Str × V)} {l c : Int} (hd : d = some dd) (ha : H dd = some (.xd fs)) (h1 : fs.lookup ("line" : Str) = some (.int l)) (h2 : fs.lookup ("column" : Str) = some (.int c)) (n1 : PySem.W.findIn K (.ref C) "line" = some none) (n2 : PySem.W.findIn K (.ref C) "column" = some none)
      (q : ∀ p p2 H', Wd [] H H' [(p, .tup [.str "syntax", .ref p2]), (p2, .tup [.int l, .int c])] → Q (.ref p) H') : Carry K C H d Q 9
  | chk {dd : Addr} {fs : List (Str × V)} {r : Str} {l c : Int} (hd : d = some dd) (ha : H dd = some (.xd fs)) (h0 : fs.lookup ("reason" : Str) = some (.str r)) (h1 : fs.lookup ("line" : Str) = some (.int l)) (h2 : fs.lookup ("column" : Str) = some (.int c))
      (n0 : PySem.W.findIn K (.ref C) "reason" = some none) (n1 : PySem.W.findIn K (.ref C) "line" = some none) (n2 : PySem.W.findIn K (.ref C) "column" = some none)
      (q : ∀ p p2 H', Wd [] H H' [(p, .tup [.str "check", .ref p2]), (p2, .tup [.str r, .int l, .int c])] → Q (.ref p) H') : Carry K C H d Q 10
/-- the wish: what leaves the call is one of the fourteen, and the law's word of it is what the caller wants -/
def ErW (K : PySem.W.Frag) (cs : Nat → Addr) (CR : Addr) (Q : VK) : XK := fun cls d H => ∃ (C : Addr) (j : Nat), cls = .ref C ∧ ErK K cs CR C j ∧ DOk' H d ∧ Carry K C H d Q j
theorem kinds_count : ∀ j : Fin 14, ((List.range 14).map fun i => V.bl (decide (i = j.val))).countP (fun z => eqV z (.bl true)) = 1 := by decide
theorem kinds_at : ∀ j : Fin 14, ((List.range 14).map fun i => V.bl (decide (i = j.val)))[j.val]? = some (.bl true) := by decide
theorem kinds_no : ∀ j m : Fin 14, m.val < j.val → ((List.range 14).map fun i => V.bl (decide (i = j.val)))[m.val]? = some (.bl false) := by decide
theorem kinds_flat : ∀ j : Nat, ((List.range 14).map fun i => V.bl (decide (i = j))).all flatV = true := fun j => by
  rw [List.all_eq_true]
  intro v hv
  obtain ⟨i, _, rfl⟩ := List.mem_map.mp hv; rfl
theorem kind_get : ∀ j : Fin 14, (kindN.map V.str)[j.val]? = some (.str (kindN.getD j.val "")) := by decide +kernel
theorem kind_two : ∀ j : Fin 14, inV (.str (kindN.getD j.val "")) [.str "syntax", .str "check"] = decide (j.val = 9 ∨ j.val = 10) := by decide +kernel
theorem kind_three : ∀ j : Fin 14, inV (.str (kindN.getD j.val "")) [.str "code", .str "operation", .str "session"] = decide (11 ≤ j.val) := by decide +kernel
section
variable {X : Cx}
/-- e.f, e the exception that the suite holds -/
def tXfE (K : PySem.W.Frag) (a : Addr) (cls : Value) (d : Option Addr) (f : Str) (te : TE) : TE := fun σ H Q => te σ H fun x H1 => x = .ref a ∧ ∃ (C dd : Addr) (fs : List (Str × V)) (v : V), cls = .ref C ∧ XfC K C ∧ PySem.W.findIn K (.ref C) f = some none ∧ d = some dd ∧ H1 dd = some (.xd fs) ∧ fs.lookup f = some v ∧ Q v H1
theorem pe_xfE {a : Addr} {oe : Obj} {cls : Value} {d : Option Addr} {pn : List (Addr × Obj)} {e : Expr} {te : TE} {pos : Pos} {n : Str} (hz : Zc cls d oe) (hf : ∃ vs, oe.data = .fields vs) (he : PE (X.suite a ((a, oe) :: pn)) e te) (hb : attributeBase e n X.env (eval e X.env) = eval e X.env := by rfl) :
    PE (X.suite a ((a, oe) :: pn)) (.Attribute e n pos) (tXfE X.K a cls d n te) := by
  refine ⟨fun pins y σ H Q I h => ?_⟩
  refine attr_of hb (thn (he.run pins y σ H _ I h) fun u y1 ⟨x, H1, I1, rx, ex, C, dd, fs, v, ec, T, hno, ed, ea, l, q⟩ => ?_)
  subst ex ec ed
  obtain rfl : u = Value.ref a := rx
  obtain ⟨vs, hd⟩ := hf
  have hx : ObjOk X.prog X.w H1 y1.heap dd (.xd fs) := I1.hok dd _ ea
  obtain ⟨mA, hns, hr⟩ := hx
  obtain ⟨od, ho, hl⟩ := lookIn_ns hns
  obtain ⟨u1, hu1, ru⟩ := RelO.some_of (v := v) (o := mA n) (by rw [← l]; exact hr n)
  have J : PySem.W.InstAt y1.heap a oe C (some od) := ⟨(I1.pin (a, oe) (List.mem_append_left _ List.mem_cons_self)).1, hz.1, by unfold PySem.W.notCls; rw [hd] <;> rfl, by rw [hz.2]; exact ho⟩
  exact HandSPX.exc_get I1.kIn J T.ga T.gg T.exC (PySem.W.findObj_own T.hdC hno rfl (by rw [hl, hu1])) (handed_of ru) ⟨v, H1, I1.tok _, ru, q⟩
theorem takes_len {W : WX} (tk : Takes X W) : Takes X (fun c d σ H => σ.length = X.N.length → W c d σ H) := fun u z ⟨a, B, sI, pins, σ, H, cls, d, e, I, nb, up, sky, na, os, ag, w⟩ => tk u z ⟨a, B, sI, pins, σ, H, cls, d, e, I, nb, up, sky, na, os, ag, w I.len⟩
end
section
variable {P : Program} {w : World} {K : PySem.W.Frag} {mg : Str → Option Value} {base : Heap} {cs : Nat → Addr} {CR : Addr}
abbrev s_law_error_of : Stmt := topS 73
theorem sc_law_error_of : FnScope ["_law_call", "e", "_law_kinds", "_law_names", "_law_name"] ["_law_call"] (defScope s_law_error_of) := ⟨rfl, rfl, rfl, by decide +kernel, rfl, by decide +kernel, by decide +kernel⟩
/-- what the law's _law_error_of makes of a call's reading -/
def TTe (K : PySem.W.Frag) (cs : Nat → Addr) (CR : Addr) : (XK → Hp → VK → Prop) → Hp → VK → Prop := fun tl H Q => tl (ErW K cs CR Q) H (fun _ H' => Q .non H')
theorem five {σ : L2.St} (h : σ.length = 5) : ∃ a b c d e, σ = [a, b, c, d, e] := by
  match σ, h with
  | [a, b, c, d, e], _ => exact ⟨a, b, c, d, e, rfl⟩
abbrev erX (X : Cx) (g : Addr) (cdg : Value) (s : Shared) (H : Hp) (a : Addr) (oe : Obj) (pn : List (Addr × Obj)) : Cx := (cxOf C8.CX0 X.prog X.w X.K X.mg X.base ["_law_call", "e", "_law_kinds", "_law_names", "_law_name"] "_law_error_of" (defScope s_law_error_of) g cdg X.A X.stack s H C8.E0).nox.suite a ((a, oe) :: pn)
def suiteOf : List Stmt → List Stmt
  | .Try _ [.ExceptHandler _ _ b _] _ _ _ :: _ => b
  | _ => []
/-- the suite's reading -/
def erTs (K : PySem.W.Frag) (cs : Nat → Addr) (a : Addr) (cls : Value) (d : Option Addr) : TS :=  
  (tSeq (tAsg (tLst (tCons (tCB (rIsX K a cls d) (tCons (tVar 1) (tCons (tC (V.ref (cs 0))) tNil))) (tCons (tCB (rIsX K a cls d) (tCons (tVar 1) (tCons (tC (V.ref (cs 1))) tNil))) (tCons (tCB (rIsX K a cls d) (tCons (tVar 1) (tCons (tC (V.ref (cs 2))) tNil))) tNil)))) (gName 2)) 
  (tSeq (tAsg (tOp rCat (tVar 2) (tLst (tCons (tCB (rIsX K a cls d) (tCons (tVar 1) (tCons (tC (V.ref (cs 3))) tNil))) (tCons (tCB (rIsX K a cls d) (tCons (tVar 1) (tCons (tC (V.ref (cs 4))) tNil))) (tCons (tCB (rIsX K a cls d) (tCons (tVar 1) (tCons (tC (V.ref (cs 5))) tNil))) tNil))))) (gName 2)) 
  (tSeq (tAsg (tOp rCat (tVar 2) (tLst (tCons (tCB (rIsX K a cls d) (tCons (tVar 1) (tCons (tC (V.ref (cs 6))) tNil))) (tCons (tCB (rIsX K a cls d) (tCons (tVar 1) (tCons (tC (V.ref (cs 7))) tNil))) (tCons (tCB (rIsX K a cls d) (tCons (tVar 1) (tCons (tC (V.ref (cs 8))) tNil))) tNil))))) (gName 2)) 
  (tSeq (tAsg (tOp rCat (tVar 2) (tLst (tCons (tCB (rIsX K a cls d) (tCons (tVar 1) (tCons (tC (V.ref (cs 9))) tNil))) (tCons (tCB (rIsX K a cls d) (tCons (tVar 1) (tCons (tC (V.ref (cs 10))) tNil))) (tCons (tCB (rIsX K a cls d) (tCons (tVar 1) (tCons (tC (V.ref (cs 11))) tNil))) tNil))))) (gName 2)) 
  (tSeq (tAsg (tOp rCat (tVar 2) (tLst (tCons (tCB (rIsX K a cls d) (tCons (tVar 1) (tCons (tC (V.ref (cs 12))) tNil))) (tCons (tCB (rIsX K a cls d) (tCons (tVar 1) (tCons (tC (V.ref (cs 13))) tNil))) tNil)))) (gName 2)) 
  (tSeq (tIfS (tOr (tTest (tOp rNe (tBM K "list" (rCntF K) (tVar 2) (tCons (tC (V.bl true)) tNil)) (tC (V.int 1)))) (tNot (tB (tCB (rIsX K a cls d) (tCons (tVar 1) (tCons (tC (V.ty "ValueError")) tNil)))))) (tRet (tTup (tCons (tC (V.str "other")) (tCons (tC (V.int 0)) tNil)))) tNext) 
  (tSeq (tAsg (tLst (tCons (tC (V.str "tick")) (tCons (tC (V.str "count")) (tCons (tC (V.str "person")) (tCons (tC (V.str "long")) (tCons (tC (V.str "different")) (tCons (tC (V.str "contradiction")) (tCons (tC (V.str "nobody")) (tCons (tC (V.str "name")) (tCons (tC (V.str "unknown")) tNil)))))))))) (gName 3)) 
  (tSeq (tAsg (tOp (rIxL K) (tOp rCat (tVar 3) (tLst (tCons (tC (V.str "syntax")) (tCons (tC (V.str "check")) (tCons (tC (V.str "code")) (tCons (tC (V.str "operation")) (tCons (tC (V.str "session")) tNil))))))) (tBM K "list" (rIndex K) (tVar 2) (tCons (tC (V.bl true)) tNil))) (gName 4)) 
  (tSeq (tIfS (tTest (tOp (rIn K false) (tVar 4) (tLst (tCons (tC (V.str "syntax")) (tCons (tC (V.str "check")) tNil))))) (tRet (tTup (tCons (tVar 4) (tCons (tIf (tTest (tOp rEq (tVar 4) (tC (V.str "syntax")))) (tTup (tCons (tXfE K a cls d "line" (tVar 1)) (tCons (tXfE K a cls d "column" (tVar 1)) tNil))) (tTup (tCons (tXfE K a cls d "reason" (tVar 1)) (tCons (tXfE K a cls d "line" (tVar 1)) (tCons (tXfE K a cls d "column" (tVar 1)) tNil))))) tNil)))) tNext) (tRet (tTup (tCons (tVar 4) (tCons (tIf (tTest (tOp (rIn K false) (tVar 4) (tLst (tCons (tC (V.str "code")) (tCons (tC (V.str "operation")) (tCons (tC (V.str "session")) tNil)))))) (tXfE K a cls d "place" (tVar 1)) (tC (V.int 0))) tNil)))))))))))))
theorem er_suite {X : Cx} {g : Addr} {cdg : Value} {s : Shared} {H : Hp} {a : Addr} {oe : Obj} {cls : Value} {d : Option Addr} {pn : List (Addr × Obj)} (T : Bi X.mg) (nd : (["_law_call", "e", "_law_kinds", "_law_names", "_law_name"] : List Str).Nodup) (gc : ∀ i, i < 14 → X.mg (clsN.getD i "") = some (.ref (cs i))) (hz : Zc cls d oe) (hf : ∃ vs, oe.data = .fields vs) : PSs (erX X g cdg s H a oe pn) (suiteOf (defBody s_law_error_of)) (erTs X.K cs a cls d) := by
  have this : PSs (erX X g cdg s H a oe pn) (suiteOf (defBody s_law_error_of)) _ := (pss_cons (ps_set (i := 2) nd rfl (Or.inl rfl) (pe_lst (pa_cons (pe_callB (call_isX hz hf) (by rfl) T.isinstance (by decide +kernel) (pa_cons (pv 1) (pa_cons (pe_glob (v := .ref (cs 0)) (by rfl) (gc 0 (by decide)) rfl) pa_nil))) (pa_cons (pe_callB (call_isX hz hf) (by rfl) T.isinstance (by decide +kernel) (pa_cons (pv 1) (pa_cons (pe_glob (v := .ref (cs 1)) (by rfl) (gc 1 (by decide)) rfl) pa_nil))) (pa_cons (pe_callB (call_isX hz hf) (by rfl) T.isinstance (by decide +kernel) (pa_cons (pv 1) (pa_cons (pe_glob (v := .ref (cs 2)) (by rfl) (gc 2 (by decide)) rfl) pa_nil))) pa_nil)))))
 (pss_cons (ps_set (i := 2) nd rfl (Or.inl rfl) (pe_op op_cat (pv 2) (pe_lst (pa_cons (pe_callB (call_isX hz hf) (by rfl) T.isinstance (by decide +kernel) (pa_cons (pv 1) (pa_cons (pe_glob (v := .ref (cs 3)) (by rfl) (gc 3 (by decide)) rfl) pa_nil))) (pa_cons (pe_callB (call_isX hz hf) (by rfl) T.isinstance (by decide +kernel) (pa_cons (pv 1) (pa_cons (pe_glob (v := .ref (cs 4)) (by rfl) (gc 4 (by decide)) rfl) pa_nil))) (pa_cons (pe_callB (call_isX hz hf) (by rfl) T.isinstance (by decide +kernel) (pa_cons (pv 1) (pa_cons (pe_glob (v := .ref (cs 5)) (by rfl) (gc 5 (by decide)) rfl) pa_nil))) pa_nil))))))
 (pss_cons (ps_set (i := 2) nd rfl (Or.inl rfl) (pe_op op_cat (pv 2) (pe_lst (pa_cons (pe_callB (call_isX hz hf) (by rfl) T.isinstance (by decide +kernel) (pa_cons (pv 1) (pa_cons (pe_glob (v := .ref (cs 6)) (by rfl) (gc 6 (by decide)) rfl) pa_nil))) (pa_cons (pe_callB (call_isX hz hf) (by rfl) T.isinstance (by decide +kernel) (pa_cons (pv 1) (pa_cons (pe_glob (v := .ref (cs 7)) (by rfl) (gc 7 (by decide)) rfl) pa_nil))) (pa_cons (pe_callB (call_isX hz hf) (by rfl) T.isinstance (by decide +kernel) (pa_cons (pv 1) (pa_cons (pe_glob (v := .ref (cs 8)) (by rfl) (gc 8 (by decide)) rfl) pa_nil))) pa_nil))))))
 (pss_cons (ps_set (i := 2) nd rfl (Or.inl rfl) (pe_op op_cat (pv 2) (pe_lst (pa_cons (pe_callB (call_isX hz hf) (by rfl) T.isinstance (by decide +kernel) (pa_cons (pv 1) (pa_cons (pe_glob (v := .ref (cs 9)) (by rfl) (gc 9 (by decide)) rfl) pa_nil))) (pa_cons (pe_callB (call_isX hz hf) (by rfl) T.isinstance (by decide +kernel) (pa_cons (pv 1) (pa_cons (pe_glob (v := .ref (cs 10)) (by rfl) (gc 10 (by decide)) rfl) pa_nil))) (pa_cons (pe_callB (call_isX hz hf) (by rfl) T.isinstance (by decide +kernel) (pa_cons (pv 1) (pa_cons (pe_glob (v := .ref (cs 11)) (by rfl) (gc 11 (by decide)) rfl) pa_nil))) pa_nil))))))
 (pss_cons (ps_set (i := 2) nd rfl (Or.inl rfl) (pe_op op_cat (pv 2) (pe_lst (pa_cons (pe_callB (call_isX hz hf) (by rfl) T.isinstance (by decide +kernel) (pa_cons (pv 1) (pa_cons (pe_glob (v := .ref (cs 12)) (by rfl) (gc 12 (by decide)) rfl) pa_nil))) (pa_cons (pe_callB (call_isX hz hf) (by rfl) T.isinstance (by decide +kernel) (pa_cons (pv 1) (pa_cons (pe_glob (v := .ref (cs 13)) (by rfl) (gc 13 (by decide)) rfl) pa_nil))) pa_nil)))))
 (pss_cons (ps_if (PW.pt (pw_or (pt_cmpR op_ne (pe_bm (X := erX X g cdg s H a oe pn) PySem.F.plainAttrs_list PySem.F.slot_list_count PySem.F.type_list_count mt_countF (pv 2) (pa_cons pe_bl pa_nil)) pe_int (nomark _)) (pw_or1 (pt_not (pt_val (pe_callB (call_isX hz hf) (by rfl) T.isinstance (by decide +kernel) (pa_cons (pv 1) (pa_cons (pe_bltn (v := .ty "ValueError") (by rfl) T.ValueError (by decide +kernel) rfl) pa_nil))))))))
 (pss_one (ps_ret (pe_tup (pa_cons pe_str (pa_cons pe_int pa_nil)))))
 pss_nil)
 (pss_cons (ps_set (i := 3) nd rfl (Or.inl rfl) (pe_lst (pa_cons pe_str (pa_cons pe_str (pa_cons pe_str (pa_cons pe_str (pa_cons pe_str (pa_cons pe_str (pa_cons pe_str (pa_cons pe_str (pa_cons pe_str pa_nil)))))))))))
 (pss_cons (ps_set (i := 4) nd rfl (Or.inl rfl) (pe_ix ix_list (pe_op op_cat (pv 3) (pe_lst (pa_cons pe_str (pa_cons pe_str (pa_cons pe_str (pa_cons pe_str (pa_cons pe_str pa_nil))))))) (pe_bm (X := erX X g cdg s H a oe pn) PySem.F.plainAttrs_list PySem.F.slot_list_index PySem.F.type_list_index mt_index (pv 2) (pa_cons pe_bl pa_nil)) (fun _ _ => rfl)))
 (pss_cons (ps_if (pt_cmpR op_in_seq (pv 4) (pe_lst (pa_cons pe_str (pa_cons pe_str pa_nil))) (by rfl))
 (pss_one (ps_ret (pe_tup (pa_cons (pv 4) (pa_cons (pe_ifExp (pt_cmpR op_eq (pv 4) pe_str (nomark _)) (pe_tup (pa_cons (pe_xfE hz hf (pv 1)) (pa_cons (pe_xfE hz hf (pv 1)) pa_nil))) (pe_tup (pa_cons (pe_xfE hz hf (pv 1)) (pa_cons (pe_xfE hz hf (pv 1)) (pa_cons (pe_xfE hz hf (pv 1)) pa_nil))))) pa_nil)))))
 pss_nil)
 (pss_one (ps_ret (pe_tup (pa_cons (pv 4) (pa_cons (pe_ifExp (pt_cmpR op_in_seq (pv 4) (pe_lst (pa_cons pe_str (pa_cons pe_str (pa_cons pe_str pa_nil)))) (by rfl)) (pe_xfE hz hf (pv 1)) pe_int) pa_nil))))))))))))))
  exact this
theorem sz20 {n : Nat} (h : n ≤ 20) : n ≤ sizeLine := Nat.le_trans h (by decide)
theorem ite_no {b : Bool} {p q : Prop} (h : ¬ b = true) (hq : q) : if b = true then p else q := by rw [if_neg h]; exact hq
theorem ite_yes {b : Bool} {p q : Prop} (h : b = true) (hp : p) : if b = true then p else q := by rw [if_pos h]; exact hp
theorem er_read {a : Addr} {C : Addr} {d : Option Addr} {j : Nat} {H : Hp} {Q : VK} {D : Ends} {x0 x2 x3 x4 : Option V} (E : ErK K cs CR C j) (hd : DOk' H d) (cr : Carry K C H d Q j) (hD : D.rt = Q) :
    erTs K cs a (.ref C) d D [x0, some (.ref a), x2, x3, x4] H := by
  have le20 : ∀ {n m : Nat}, Nat.ble n m = true → n ≤ m := fun h => Nat.le_of_ble_eq_true h
  obtain ⟨j14, eat, eve, _, eis, exf⟩ := E
  have dk : ∀ {H' : Hp} {l : List (Addr × HO)}, Wd [] H H' l → DOk' H' d := fun w dd e => by
    obtain ⟨fs, h⟩ := hd dd e
    exact ⟨fs, w.old h (by simp)⟩
  have iz : ∀ (i : Nat), i < 14 → ∀ {σ : L2.St} {H' : Hp} {l : List (Addr × HO)} {R : VK}, σ[1]? = some (some (V.ref a)) → Wd [] H H' l → R (.bl (decide (i = j))) H' → tCB (rIsX K a (.ref C) d) (tCons (tVar 1) (tCons (tC (V.ref (cs i))) tNil)) σ H' R :=
    fun i hi σ H' l R e w q => ⟨_, e, C, _, _, _, rfl, eis, dk w, rfl, fun u r => r, eat i hi, q⟩
  have cat : ∀ {H' : Hp} {l : List (Addr × HO)} {p q : Addr} {xs zs : List V} {R : VK}, Wd [] H H' l → H' p = some (.lst xs) → H' q = some (.lst zs) → xs.length + zs.length ≤ 20 → (∀ r, H' r = none → R (.ref r) (upd H' r (.lst (xs ++ zs)))) → rCat (.ref p) (.ref q) H' R :=
    fun w h1 h2 h3 h4 => ⟨_, _, _, _, rfl, rfl, h1, h2, sz20 (by omega), h4⟩
  let b := fun i => V.bl (decide (i = j))
  have sz : ∀ n, n ≤ 20 → n ≤ sizeLine := fun n h => sz20 (by omega)
  have w0 := Wd.refl H
  refine iz 0 (by decide) rfl w0 <| iz 1 (by decide) rfl w0 <| iz 2 (by decide) rfl w0 ⟨sz _ (le20 rfl), fun p1 hp1 => ?_⟩
  have w1 := w0.new (.lst [b 0, b 1, b 2]) hp1
  refine ⟨_, rfl, ?_⟩
  refine iz 3 (by decide) rfl w1 <| iz 4 (by decide) rfl w1 <| iz 5 (by decide) rfl w1 ⟨sz _ (le20 rfl), fun p2 hp2 => ?_⟩
  have w2 := w1.new (.lst [b 3, b 4, b 5]) hp2
  refine cat w2 (w2.get 1 rfl) (w2.get 0 rfl) (le20 rfl) fun p3 hp3 => ?_
  have w3 := (w2.new (.lst [b 0, b 1, b 2, b 3, b 4, b 5]) hp3).sub (l' := [(p3, .lst [b 0, b 1, b 2, b 3, b 4, b 5])]) (by walk_at "sub")
  refine ⟨_, rfl, ?_⟩
  refine iz 6 (by decide) rfl w3 <| iz 7 (by decide) rfl w3 <| iz 8 (by decide) rfl w3 ⟨sz _ (le20 rfl), fun p4 hp4 => ?_⟩
  have w4 := w3.new (.lst [b 6, b 7, b 8]) hp4
  refine cat w4 (w4.get 1 rfl) (w4.get 0 rfl) (le20 rfl) fun p5 hp5 => ?_
  have w5 := (w4.new (.lst [b 0, b 1, b 2, b 3, b 4, b 5, b 6, b 7, b 8]) hp5).sub (l' := [(p5, .lst [b 0, b 1, b 2, b 3, b 4, b 5, b 6, b 7, b 8])]) (by walk_at "sub")
  refine ⟨_, rfl, ?_⟩
  refine iz 9 (by decide) rfl w5 <| iz 10 (by decide) rfl w5 <| iz 11 (by decide) rfl w5 ⟨sz _ (le20 rfl), fun p6 hp6 => ?_⟩
  have w6 := w5.new (.lst [b 9, b 10, b 11]) hp6
  refine cat w6 (w6.get 1 rfl) (w6.get 0 rfl) (le20 rfl) fun p7 hp7 => ?_
  have w7 := (w6.new (.lst [b 0, b 1, b 2, b 3, b 4, b 5, b 6, b 7, b 8, b 9, b 10, b 11]) hp7).sub (l' := [(p7, .lst [b 0, b 1, b 2, b 3, b 4, b 5, b 6, b 7, b 8, b 9, b 10, b 11])]) (by walk_at "sub")
  refine ⟨_, rfl, ?_⟩
  refine iz 12 (by decide) rfl w7 <| iz 13 (by decide) rfl w7 ⟨sz _ (le20 rfl), fun p8 hp8 => ?_⟩
  have w8 := w7.new (.lst [b 12, b 13]) hp8
  refine cat w8 (w8.get 1 rfl) (w8.get 0 rfl) (le20 rfl) fun p9 hp9 => ?_
  have w9 : Wd [] H (upd _ p9 (.lst ((List.range 14).map fun i => V.bl (decide (i = j))))) [(p9, .lst ((List.range 14).map fun i => V.bl (decide (i = j))))] := (w8.new _ hp9).sub (by walk_at "sub")
  have f9 := kinds_flat j
  -- the test
  refine ⟨_, rfl, .inl ⟨rfl, _, .inl (.inl (w9.get 0 rfl))⟩, p9, _, _, rfl, rfl, .inl (.inl (w9.get 0 rfl)), rfl, f9, ?_⟩
  refine ⟨rfl, _, rfl, ?_⟩
  have ec : (!decide (V.int (List.countP (fun z => eqV z (V.bl true)) ((List.range 14).map fun i => V.bl (decide (i = j))) : Nat) = V.int 1)) = false := by
    rw [kinds_count ⟨j, j14⟩]; rfl
  show if (!decide (V.int (List.countP (fun z => eqV z (V.bl true)) ((List.range 14).map fun i => V.bl (decide (i = j))) : Nat) = V.int 1)) = true then _ else _
  rw [ec, if_neg (by decide)]
  refine ⟨_, rfl, C, _, _, _, rfl, eis, dk w9, rfl, fun u r => r, eve, _, rfl, ?_⟩
  refine ⟨sz20 (le20 rfl), fun p10 hp10 => ?_⟩
  have w10 := w9.new (.lst (kindN.take 9 |>.map V.str)) hp10
  refine ⟨_, rfl, sz20 (le20 rfl), fun p11 hp11 => ?_⟩
  have w11 := w10.new (.lst (kindN.drop 9 |>.map V.str)) hp11
  refine cat w11 (w11.get 1 rfl) (w11.get 0 rfl) (le20 rfl) fun p12 hp12 => ?_
  have w12 : Wd [] H (upd _ p12 (.lst (kindN.map V.str))) ((p12, .lst (kindN.map V.str)) :: _) := w11.new _ hp12
  refine ⟨_, rfl, .inl ⟨rfl, _, .inl (.inl (w12.get 3 rfl))⟩, p9, _, _, j, _, rfl, rfl, .inl (.inl (w12.get 3 rfl)), rfl, f9, kinds_at ⟨j, j14⟩, rfl, fun m z' hm hz => ?_, ?_⟩
  · rw [kinds_no ⟨j, j14⟩ ⟨m, by omega⟩ hm] at hz
    cases hz; rfl
  have ek := kind_get ⟨j, j14⟩
  refine ⟨_, _, _, .str (kindN.getD j ""), rfl, rfl, .inl (.inl (w12.get 0 rfl)), at_of (j := j) rfl ek, ?_⟩
  refine ⟨_, rfl, sz20 (le20 rfl), fun p13 hp13 => ?_⟩
  have w13 := w12.new (.lst [.str "syntax", .str "check"]) hp13
  refine ⟨p13, [.str "syntax", .str "check"], rfl, .inl (.inl (.inl (w13.get 0 rfl))), rfl, rfl, decide (j = 9 ∨ j = 10), by rw [← kind_two ⟨j, j14⟩]; rfl, ?_⟩
  cases cr with
  | none hj hd q =>
    refine ite_no (b := _) (by rw [decide_eq_true_eq]; omega) ?_
    refine ⟨_, rfl, _, rfl, sz20 (le20 rfl), fun p14 hp14 => ?_⟩
    have w14 := w13.new (.lst [.str "code", .str "operation", .str "session"]) hp14
    refine ⟨p14, [.str "code", .str "operation", .str "session"], rfl, .inl (.inl (.inl (w14.get 0 rfl))), rfl, rfl, decide (11 ≤ j), by rw [← kind_three ⟨j, j14⟩]; rfl, ?_⟩
    refine ite_no (b := _) (by rw [decide_eq_true_eq]; omega) ?_
    refine ⟨sz20 (le20 rfl), fun p15 hp15 => ?_⟩
    rw [hD]
    exact q _ _ ((w14.new _ hp15).sub (by walk_at "sub"))
  | place hj hd ha hl no q =>
    refine ite_no (b := _) (by rw [decide_eq_true_eq]; omega) ?_
    refine ⟨_, rfl, _, rfl, sz20 (le20 rfl), fun p14 hp14 => ?_⟩
    have w14 := w13.new (.lst [.str "code", .str "operation", .str "session"]) hp14
    refine ⟨p14, [.str "code", .str "operation", .str "session"], rfl, .inl (.inl (.inl (w14.get 0 rfl))), rfl, rfl, decide (11 ≤ j), by rw [← kind_three ⟨j, j14⟩]; rfl, ?_⟩
    refine ite_yes (b := _) (by rw [decide_eq_true_eq]; omega) ?_
    refine ⟨_, rfl, rfl, C, _, _, _, rfl, exf, no, hd, w14.old ha (by simp), hl, sz20 (le20 rfl), fun p15 hp15 => ?_⟩
    rw [hD]
    exact q _ _ ((w14.new _ hp15).sub (by walk_at "sub"))
  | @syn dd fs l c hd ha h1 h2 n1 n2 q =>
    refine ite_yes (b := _) (by decide) ?_
    refine ⟨_, rfl, _, rfl, rfl, _, rfl, ?_⟩
    refine ite_yes (b := _) (by decide +kernel) ?_
    refine ⟨_, rfl, rfl, C, _, _, _, rfl, exf, n1, hd, w13.old ha (by simp), h1, _, rfl, rfl, C, _, _, _, rfl, exf, n2, hd, w13.old ha (by simp), h2, sz20 (le20 rfl), fun p14 hp14 => ?_⟩
    have w14 := w13.new (.tup [.int l, .int c]) hp14
    refine ⟨sz20 (le20 rfl), fun p15 hp15 => ?_⟩
    rw [hD]
    exact q _ _ _ ((w14.new _ hp15).sub (by walk_at "sub"))
  | @chk dd fs r l c hd ha h0 h1 h2 n0 n1 n2 q =>
    refine ite_yes (b := _) (by decide) ?_
    refine ⟨_, rfl, _, rfl, rfl, _, rfl, ?_⟩
    refine ite_no (b := _) (by decide +kernel) ?_
    refine ⟨_, rfl, rfl, C, _, _, _, rfl, exf, n0, hd, w13.old ha (by simp), h0, _, rfl, rfl, C, _, _, _, rfl, exf, n1, hd, w13.old ha (by simp), h1, _, rfl, rfl, C, _, _, _, rfl, exf, n2, hd, w13.old ha (by simp), h2, sz20 (le20 rfl), fun p14 hp14 => ?_⟩
    have w14 := w13.new (.tup [.str r, .int l, .int c]) hp14
    refine ⟨sz20 (le20 rfl), fun p15 hp15 => ?_⟩
    rw [hD]
    exact q _ _ _ ((w14.new _ hp15).sub (by walk_at "sub"))
theorem er_gives {X : Cx} {q : Str} {g : Addr} {cdg : Value} (T : Bi X.mg) (hR : X.mg "RotaError" = some (.ref CR)) (gc : ∀ i, i < 14 → X.mg (clsN.getD i "") = some (.ref (cs i))) :
    LamX.GivesTo X ["_law_call", "e", "_law_kinds", "_law_names", "_law_name"] "_law_error_of" (defScope s_law_error_of) g cdg (defBody s_law_error_of) "_law_call" q (TTe X.K cs CR) := by
  intro f c' s H Q tl act hc h
  have nd := sc_law_error_of.nd
  refine ⟨_, pss_cons (ps_try_as (i := 1) (c := .ref CR) (ts := erTs X.K cs) (Wout := fun _ _ _ _ => False)
      (tb := fun W D σ H => ∃ Ech : XK, (∀ cls d σ' H', Ech cls d H' → σ'.length = 5 → W cls d σ' H') ∧ σ[0]? = some (some (.ref f)) ∧ H c' = some (LamX.CodeO c' q) ∧ tl Ech H (fun _ H' => D.nx σ H'))
      rfl rfl nd rfl rfl ⟨by rfl, by decide, .inl hR⟩ takes0 (fun W pn xe tk _ => ?_) (fun a oe cls d pn hz hf => er_suite (g := g) (cdg := cdg) (s := s) (H := H) T nd gc hz hf)) (pss_one (ps_ret pe_non)), ?_⟩
  · refine ⟨fun pins s σ H D I ⟨Ech, hE, h0, hC, ht⟩ => ?_⟩
    exact (pss_one (ps_expr (act (fun c d σ H => σ.length = 5 → W c d σ H) pn xe Ech _ _ (takes_len tk) (fun cls d σ' H' e hl => hE cls d σ' H' e hl)))).run pins s σ H D I ⟨h0, hC, ht⟩
  · refine ⟨ErW X.K cs CR Q, fun cls d σ' H' ⟨C, j, ec, Ek, hd, cr⟩ hl => ?_, rfl, hc, h⟩
    subst ec
    obtain ⟨y0, y1, y2, y3, y4, rfl⟩ := five hl
    exact ⟨true, Ek.ex, fun _ a na => er_read Ek hd cr rfl, fun z => nomatch z⟩
end
end Br

/-! the law's _law_error_of(lambda: ..); a def whose code object is known. -/
namespace Br
open PySem PySem.Spec PyProof.Rows L2
/-- a def, its code object told -/
structure FunC (K : PySem.W.Frag) (x qual : Str) (st : Stmt) (f : Addr) (fd : FuncData) (c : Addr) : Prop where
  ex : ∃ (oc : Value) (od : Option Addr) (kV doc pm : Value) (an : Option Addr) (ct : Value) (osl : Array (Option Value)),
    fd = PySem.W.fnOf x qual (defArgs st) (defBody st) (defScope st) .none kV doc pm an (.ref c) ct ∧ K.lookup f = some ⟨oc, od, .func fd, osl⟩ ∧ PySem.W.codeIn K (.ref c) qual = true
section
variable {P : Program} {w : World} {K : PySem.W.Frag} {mg : Str → Option Value} {base : Heap}
theorem FunC.ok {x qual : Str} {st : Stmt} {f c : Addr} {fd : FuncData} {N ps : List Str} {k : Nat} {sp : Sp} (F : FunC K x qual st f fd c) (S : FnScope N ps (defScope st)) (len : ∀ vs H Q E, sp vs H Q E → vs.length = ps.length)
    (hbody : ∀ (A : Around) (outer : List Env) (s : Shared) (H : Hp) (vs : List V) (Q : VK) (E : XK), Room k (A.deeper (envOfC qual (defScope st) s.heap.objs.size f (.ref c))) → sp vs H Q E →
      ∃ t, PSs (cxOf CX0 P w K mg base N qual (defScope st) f (.ref c) A outer s H E).nox (defBody st) t ∧ t { nx := fun _ H' => Q .non H', rt := Q } (L2.start N vs) H) : FnOk P w K mg base CX0 (k + 1) f fd ps sp := by
  obtain ⟨oc, od, kV, doc, pm, an, ct, osl, rfl, lk, hcd⟩ := F.ex
  refine fn_of lk hcd S len fun A outer s H vs Q E hr hsp => ?_
  obtain ⟨t, h, q⟩ := hbody A outer s H vs Q E hr hsp
  exact ⟨t, h.nox, q⟩
theorem funC_mk {x qual : Str} {st : Stmt} {f c : Addr} {oc : Value} {od an : Option Addr} {osl : Array (Option Value)} {kV doc pm ct : Value} (l : K.lookup f = some ⟨oc, od, .func (PySem.W.fnOf x qual (defArgs st) (defBody st) (defScope st) .none kV doc pm an (.ref c) ct), osl⟩)
    (h : PySem.W.codeIn K (.ref c) qual = true) : FunC K x qual st f (PySem.W.fnOf x qual (defArgs st) (defBody st) (defScope st) .none kV doc pm an (.ref c) ct) c := ⟨oc, od, kV, doc, pm, an, ct, osl, rfl, l, h⟩
end
section
variable {X : Cx} {cs : Nat → Addr} {CR P' c : Addr} {k : Nat} {params : Arguments} {body : Expr} {scope : Scope} {t : XK → TE} {p lpos pos : Pos}
/-- _law_error_of(lambda: body) -/
theorem pe_erof (D : DefAt X.K X.mg "_law_error_of" s_law_error_of ["_law_call"]) (T : Bi X.mg) (hR : X.mg "RotaError" = some (.ref CR)) (gc : ∀ i, i < 14 → X.mg (clsN.getD i "") = some (.ref (cs i))) (TB : LamX.TabB X.base X.mg c P') (hg : Gl X "_law_error_of") (hcode : X.env.code = .ref c)
    (hr : Room (k + 2) X.A) (L : LamX.LamS X.env.scope scope) (hdef : defaultsOf params X.env = ([], []))
    (hbind : ∀ (q : Str) (cl : List (Str × Addr)) (pm cv ctv : Value), bindArgs (PySem.W.kla_fn "<lambda>" q params body scope cl pm cv ctv) ⟨[], []⟩ = pure [])
    (hbody : ∀ (A : Around) (outer : List Env) (s : Shared) (H : Hp) (E : XK) (f c' : Addr), Room k (A.deeper (LamX.lamEnv X scope s.heap.objs.size f c')) → PE (LamX.lamCx X A outer s H E scope f c') body (t E)) :
    PE X (.Call (.Name "_law_error_of" p) [.Lambda params body scope lpos] [] pos) (LamX.tLam [(P', X.env.qual ++ "<lambda>")] (TTe X.K cs CR) t) := by
  obtain ⟨f, fd, m, F, b⟩ := D.ex
  obtain ⟨oc, od, kV, doc, pm, an, cdv, ct, osl, rfl, lk, hcd⟩ := F.ex
  exact LamX.pe_lamcall hg m F.kp lk hcd b sc_law_error_of rfl (Or.inl rfl) (er_gives T hR gc) TB hcode (List.mem_singleton.mpr rfl) (fun p hp _ => by rw [List.mem_singleton.mp hp]) hr L hdef hbind hbody
end
/-! ### the tables are kept -/
theorem tabs_wd {T : List (Addr × Str)} {M : List Addr} {H H' : Hp} {l : List (Addr × HO)} (t : LamX.Tabs T H) (w : Wd M H H' l) (hM : ∀ a ∈ M, ∃ xs, H a = some (.lst xs)) : LamX.Tabs T H' := fun p hp => by
  obtain ⟨ps, h1, h2, h3⟩ := t p hp
  have ne : ∀ {b : Addr} {o : HO}, H b = some o → (∀ xs, o ≠ .lst xs) → b ∉ M := fun e n hb => by
    obtain ⟨xs, e2⟩ := hM _ hb
    rw [e] at e2
    exact n xs (Option.some.inj e2)
  refine ⟨ps, w.base _ _ (ne h1 fun xs z => by cases z) h1, h2, fun pos cv hc => ?_⟩
  obtain ⟨c, e, hk⟩ := h3 pos cv hc
  exact ⟨c, e, w.base _ _ (ne hk fun xs z => by unfold LamX.CodeO at z; cases z) hk⟩
theorem tabs_mut {T : List (Addr × Str)} {H : Hp} {a : Addr} {xs : List V} {o : HO} (t : LamX.Tabs T H) (h : H a = some (.lst xs)) : LamX.Tabs T (upd H a o) := fun p hp => by
  obtain ⟨ps, h1, h2, h3⟩ := t p hp
  have ne : ∀ {b : Addr} {o : HO}, H b = some o → (∀ xs, o ≠ .lst xs) → b ≠ a := fun e n z => by
    subst z
    rw [h] at e
    exact n xs (Option.some.inj e).symm
  refine ⟨ps, by rw [upd_ne (ne h1 fun xs z => by cases z)]; exact h1, h2, fun pos cv hc => ?_⟩
  obtain ⟨c, e, hk⟩ := h3 pos cv hc
  exact ⟨c, e, by rw [upd_ne (ne hk fun xs z => by unfold LamX.CodeO at z; cases z)]; exact hk⟩
end Br

namespace Br
open PySem PySem.Spec PyProof.Rows L2
/-! ### what a step of the law keeps -/
def Nt (H : Hp) : Hp := fun a => match H a with
  | some (.tbl _) => none
  | o => o
section
variable {G : Hp} {r : Rota} {a : Addr}
end
/-- what may be written: lists, instances, dicts -/
def MutO : HO → Prop
  | .lst _ => True
  | .ins _ _ _ => True
  | .dK _ => True
  | _ => False
def MuO (H : Hp) (M : List Addr) : Prop := ∀ a ∈ M, ∃ o, H a = some o ∧ MutO o
/-- the law's state: the tables, the numbers at d, the book, the law's own book -/
structure Jn (CB PT d : Addr) (qq : Str) (z : Bz) (r : Rota) (bl bb : Bst) (S : List (Str × Bst)) (wa : Addr) (H : Hp) : Prop where
  tabs : LamX.Tabs [(PT, qq)] H
  dr : ∃ x y l, H d = some (dl x y l) ∧ DOk x y l
  bk : BkAt CB z r bb S H
  lw : LW (Msk (PT :: d :: z.own) H) r wa bl
  nd : d ∉ z.own
section
variable {CB PT d : Addr} {qq : Str} {z : Bz} {r : Rota} {bl bb b' : Bst} {S S' : List (Str × Bst)} {wa : Addr} {H H' : Hp} {l : List (Addr × HO)}
end
end Br

namespace Br
open PySem PySem.Spec PyProof.Rows L2
/-! ### the words of the errors -/
def opW (n : Nat) : PyData := .tuple [.str "operation", .int n]
def sesW (n : Nat) : PyData := .tuple [.str "session", .int n]
def synW (l c : Nat) : PyData := .tuple [.str "syntax", .tuple [.int l, .int c]]
def chkW (why : Str) (l c : Int) : PyData := .tuple [.str "check", .tuple [.str why, .int l, .int c]]
theorem lay_op (n : Nat) : PyData.canLay0 (opW n) = true := by
  have e : PyData.strOk "operation" = true := by decide +kernel
  simp [opW, PyData.canLay0, PyData.canLayAll0, e]
theorem lay_ses (n : Nat) : PyData.canLay0 (sesW n) = true := by
  have e : PyData.strOk "session" = true := by decide +kernel
  simp [sesW, PyData.canLay0, PyData.canLayAll0, e]
theorem lay_syn (l c : Nat) : PyData.canLay0 (synW l c) = true := by
  have e : PyData.strOk "syntax" = true := by decide +kernel
  simp [synW, PyData.canLay0, PyData.canLayAll0, e]
theorem lay_chk {why : Str} {l c : Int} (h : PyData.strOk why = true) : PyData.canLay0 (chkW why l c) = true := by
  have e : PyData.strOk "check" = true := by decide +kernel
  simp [chkW, PyData.canLay0, PyData.canLayAll0, h, e]
theorem shaped_lay {d : PyData} (h : PyData.canLay0 d = true) (h2 : PyData.depth d ≤ 2) : SeqAt.shaped d = true := by
  unfold SeqAt.shaped
  rw [h, Bool.true_and]
  exact decide_eq_true (by omega)
def repW : Rep → PyData
  | .syn l c => synW l c
  | .chk y l c => chkW y l c
  | .op n => opW n
  | .ok => .none
theorem repF_why {src y : Str} {l c : Nat} {ops : List Op} (h : repF src ops = .chk y l c) : PyData.strOk y = true := by
  unfold repF at h
  cases hl : loadF src with
  | syn l c => rw [hl] at h; cases h
  | chk y' l' c' => rw [hl] at h; cases h; exact load_why hl
  | rota r =>
    rw [hl] at h
    dsimp only at h
    cases hf : failN r ops (bst0 r) with
    | none => rw [hf] at h; cases h
    | some n => rw [hf] at h; cases h
theorem rep_lay (src : Str) (ops : List Op) : PyData.canLay0 (repW (repF src ops)) = true ∧ SeqAt.shaped (repW (repF src ops)) = true := by
  have k : PyData.canLay0 (repW (repF src ops)) = true := by
    cases h : repF src ops with
    | syn l c => exact lay_syn l c
    | chk y l c => exact lay_chk (repF_why h)
    | op n => exact lay_op n
    | ok => rfl
  refine ⟨k, shaped_lay k ?_⟩
  cases repF src ops <;> simp [repW, opW, synW, chkW, PyData.depth, PyData.depthAll]
/-- the word lies at p -/
def RepT (H : Hp) (p : Addr) : Rep → Prop
  | .syn l c => ∃ p2, H p = some (.tup [.str "syntax", .ref p2]) ∧ H p2 = some (.tup [.int l, .int c])
  | .chk y l c => ∃ p2, H p = some (.tup [.str "check", .ref p2]) ∧ H p2 = some (.tup [.str y, .int l, .int c])
  | .op n => H p = some (.tup [.str "operation", .int n])
  | .ok => False
theorem RepT.keep {H H' : Hp} {p : Addr} {o : Rep} (h : RepT H p o) (k : ∀ b xs, H b = some (.tup xs) → H' b = some (.tup xs)) : RepT H' p o := by
  cases o with
  | syn l c => obtain ⟨p2, h1, h2⟩ := h; exact ⟨p2, k _ _ h1, k _ _ h2⟩
  | chk y l c => obtain ⟨p2, h1, h2⟩ := h; exact ⟨p2, k _ _ h1, k _ _ h2⟩
  | op n => exact k _ _ h
  | ok => exact h
theorem RepT.dp {K : PySem.W.Frag} {H : Hp} {p : Addr} {o : Rep} (h : RepT H p o) : Dp K H (.ref p) (repW o) := by
  cases o with
  | syn l c => obtain ⟨p2, h1, h2⟩ := h; exact .tup (SqT.of h1) (.cons (.str _) (.cons (.tup (SqT.of h2) (.cons (.int _) (.cons (.int _) .nil))) .nil))
  | chk y l c => obtain ⟨p2, h1, h2⟩ := h; exact .tup (SqT.of h1) (.cons (.str _) (.cons (.tup (SqT.of h2) (.cons (.str _) (.cons (.int _) (.cons (.int _) .nil)))) .nil))
  | op n => exact .tup (SqT.of h) (.cons (.str _) (.cons (.int _) .nil))
  | ok => exact h.elim
/-- the facts of the four classes -/
structure Er4 (K : PySem.W.Frag) (cs : Nat → Addr) (CR CF CK CI CS : Addr) : Prop where
  k9 : ErK K cs CR CF 9
  k10 : ErK K cs CR CK 10
  k12 : ErK K cs CR CI 12
  k13 : ErK K cs CR CS 13
  f1 : PySem.W.findIn K (.ref CF) "line" = some none
  f2 : PySem.W.findIn K (.ref CF) "column" = some none
  c0 : PySem.W.findIn K (.ref CK) "reason" = some none
  c1 : PySem.W.findIn K (.ref CK) "line" = some none
  c2 : PySem.W.findIn K (.ref CK) "column" = some none
  i1 : PySem.W.findIn K (.ref CI) "place" = some none
  s1 : PySem.W.findIn K (.ref CS) "place" = some none
section
variable {K : PySem.W.Frag} {cs : Nat → Addr} {CR CF CK CI CS : Addr}
/-- a replay under the law's _law_error_of -/
theorem er_rep (k : Er4 K cs CR CF CK CI CS) {o : Rep} {H : Hp} {Q : VK} {good : Prop} (hq : ∀ p H' l, o ≠ .ok → Wd [] H H' l → RepT H' p o → Q (.ref p) H') (hg : o = .ok → good) : RepO CF CK CI H (ErW K cs CR Q) good o := by
  cases o with
  | syn l c =>
    intro d H' w
    refine ⟨CF, 9, rfl, k.k9, fun dd e => (by cases e; exact ⟨_, w.get 0 rfl⟩), .syn rfl (w.get 0 rfl) ((look_ne (by decide +kernel)).trans look_eq) look_eq k.f1 k.f2 fun p p2 H2 w2 => ?_⟩
    exact hq p H2 _ (by intro e; cases e) (w.call0 w2) ⟨p2, w2.get 0 rfl, w2.get 1 rfl⟩
  | chk y l c =>
    intro d H' w
    refine ⟨CK, 10, rfl, k.k10, fun dd e => (by cases e; exact ⟨_, w.get 0 rfl⟩), .chk rfl (w.get 0 rfl) ((look_ne (by decide +kernel)).trans ((look_ne (by decide +kernel)).trans look_eq)) ((look_ne (by decide +kernel)).trans look_eq) look_eq k.c0 k.c1 k.c2 fun p p2 H2 w2 => ?_⟩
    exact hq p H2 _ (by intro e; cases e) (w.call0 w2) ⟨p2, w2.get 0 rfl, w2.get 1 rfl⟩
  | op n =>
    intro d H' w
    refine ⟨CI, 12, rfl, k.k12, fun dd e => (by cases e; exact ⟨_, w.get 0 rfl⟩), .place (by decide) rfl (w.get 0 rfl) look_eq k.i1 fun p H2 w2 => ?_⟩
    exact hq p H2 _ (by intro e; cases e) (w.call0 w2) (w2.get 0 rfl)
  | ok => exact hg rfl
/-- a line that is no operation -/
theorem er_ses (k : Er4 K cs CR CF CK CI CS) {n : Nat} {H : Hp} {Q : VK} (hq : ∀ p H' l, Wd [] H H' l → H' p = some (.tup [.str "session", .int n]) → Q (.ref p) H') : ∀ (d : Addr) (H' : Hp), Wd [] H H' [(d, opX n)] → ErW K cs CR Q (.ref CS) (some d) H' := fun d H' w => by
  refine ⟨CS, 13, rfl, k.k13, fun dd e => (by cases e; exact ⟨_, w.get 0 rfl⟩), .place (by decide) rfl (w.get 0 rfl) look_eq k.s1 fun p H2 w2 => ?_⟩
  exact hq p H2 _ (w.call0 w2) (w2.get 0 rfl)
/-- the word of a bad line, compared -/
theorem eq_ses {n : Nat} {v : Addr} {y : Addr} {H : Hp} {Q : VK} (h1 : H v = some (.tup [.str "session", .int n])) (h2 : H y = some (.tup [.str "session", .int n])) (hq : Q (.bl true) H) : rEqD K (.ref v) (.ref y) H Q := by
  refine ⟨sesW n, sesW n, .tup (SqT.of h1) (.cons (.str _) (.cons (.int _) .nil)), .tup (SqT.of h2) (.cons (.str _) (.cons (.int _) .nil)), shaped_lay (lay_ses n) (by simp [sesW, PyData.depth, PyData.depthAll]), shaped_lay (lay_ses n) (by simp [sesW, PyData.depth, PyData.depthAll]), ?_⟩
  rw [SeqAt.eqv_refl _ (lay_ses n)]
  exact hq
theorem eq_rep {src : Str} {ops : List Op} {v y : Addr} {H : Hp} {Q : VK} (h1 : RepT H v (repF src ops)) (h2 : RepT H y (repF src ops)) (hq : Q (.bl true) H) : rEqD K (.ref v) (.ref y) H Q := by
  obtain ⟨a, b⟩ := rep_lay src ops
  refine ⟨_, _, h1.dp, h2.dp, b, b, ?_⟩
  rw [SeqAt.eqv_refl _ a]
  exact hq
end
end Br

/-! what a law with lambdas keeps from step to step. -/
namespace Br
open PySem PySem.Spec PyProof.Rows L2
/-- from H0 to H: nothing but the numbers at d is changed, the tables are well, the numbers too -/
structure Run (T : List (Addr × Str)) (d : Addr) (H0 H : Hp) : Prop where
  keep : ∀ b o, b ≠ d → H0 b = some o → (∀ ps, o ≠ .tbl ps) → H b = some o
  tabs : LamX.Tabs T H
  dr : ∃ x y l, H d = some (dl x y l) ∧ DOk x y l
section
variable {T : List (Addr × Str)} {d : Addr} {H0 H H' : Hp}
theorem Run.wd {l : List (Addr × HO)} (r : Run T d H0 H) (w : Wd [] H H' l) : Run T d H0 H' := by
  obtain ⟨x, y, m, h, ok⟩ := r.dr
  exact ⟨fun b o n h t => w.base _ _ (by simp) (r.keep b o n h t), tabs_wd r.tabs w (fun _ h => nomatch h), x, y, m, w.base _ _ (by simp) h, ok⟩
theorem Run.new {p : Addr} (r : Run T d H0 H) (o : HO) (hp : H p = none) : Run T d H0 (upd H p o) := r.wd ((Wd.refl H).new o hp)
theorem Run.bel {x y : Int} {m : List Int} {l : List (Addr × HO)} (r : Run T d H0 H) (w : Wd [d] H H' l) (h : H' d = some (dl x y m)) (ok : DOk x y m) : Run T d H0 H' := by
  obtain ⟨x0, y0, m0, h0, _⟩ := r.dr
  exact ⟨fun b o n h t => w.base _ _ (by simpa using n) (r.keep b o n h t), tabs_wd r.tabs w (fun a ha => by rw [List.mem_singleton.mp ha]; exact ⟨_, h0⟩), x, y, m, h, ok⟩
theorem Run.ne {p : Addr} (r : Run T d H0 H) (hp : H p = none) : p ≠ d := by
  obtain ⟨x, y, m, h, _⟩ := r.dr
  exact fun z => by rw [z, h] at hp; cases hp
end
end Br

-- REN CB CB
namespace Br
open PySem PySem.Spec PyProof.Rows L2
/-- a text of no great size, for the law's own reader -/
structure SesL (z : Str) : Prop extends SesOk z where
  parts : ∀ x ∈ Txt.split z "\n", (Txt.split x " ").length ≤ 1000 ∧ ∀ y ∈ Txt.split x " ", PyData.strOk y = true
abbrev slaw : Stmt := topS 76
theorem sclaw : FnScope ["_law_script", "_law_d", "_law_rota", "_law_lines", "_law_k", "_law_some", "_law_words", "_law_change", "_law_kind", "_law_word", "_law_at", "_law_rest", "_law_line", "_law_text", "_law_rows", "_law_head", "_law_total", "_law_operations", "_law_source", "_law_error"] ["_law_script"] (defScope slaw) := ⟨rfl, rfl, rfl, by decide +kernel, rfl, by decide +kernel, by decide +kernel⟩
def rest24 (i : Nat) : List Stmt := (defBody slaw).drop i
structure K24 (P : Program) (w : World) (K : PySem.W.Frag) (mg : Str → Option Value) (base : Heap) (CB CF CK CI CS : Addr) : Prop where
  T : Bi mg
  gB : mg "Book" = some (.ref CB)
  c_random : Cal P w K mg base 1 "_law_random" ["_law_script", "_law_salt"] (spRandom K)
  c_below : Cal P w K mg base 1 "_law_below" ["_law_d", "_law_limit"] spBelow
  c_isn : Cal P w K mg base 1 "_law_is_number" ["_law_word"] spLIsNum
  c_pl : Cal P w K mg base 2 "_law_parsed_line" ["_law_words"] spLLine
  c_equal : Cal P w K mg base 4 "_law_equal" ["_law_actual", "_law_expected"] (spEq 3)
  c_replay : ClX' P w K mg base 11 CB "replay" ["cls", "rota", "operations"] (spReplayA CB CF CK CI)
  c_parse : CalX P w K mg base 12 "parse_session" ["text"] (spPSessG CF CK CI CS)
section
variable {P : Program} {w : World} {K : PySem.W.Frag} {mg : Str → Option Value} {base : Heap} {CB CF CK CI CS CR PT cT : Addr} {cs : Nat → Addr}
/-- a return of the law: the error of parse_session against the word of a bad line -/
theorem ret_bad (er : Er4 K cs CR CF CK CI CS) {TT : List (Addr × Str)} {σ : L2.St} {H : Hp} {R : VK} {n : Nat} {z : Str} {te : TE} (hz : σ[13]? = some (some (.str z))) (tb : LamX.Tabs TT H) (ok : SesOk z) (hb : sesF (Txt.split z "\n") = .bad n) (hq : ∀ H', R (.bl true) H')
    (hte : ∀ (H' : Hp) (Q' : VK), (∀ y, H' y = none → Q' (.ref y) (upd H' y (.tup [.str "session", .int n]))) → te σ H' Q') : LamX.tLam TT (TTe K cs CR) (fun x => tCall (spPSessG CF CK CI CS) [] x (tCons (tVar 13) tNil)) σ H (fun v H1 => te σ H1 fun y H2 => rEqD K v y H2 R) := by
  refine ⟨tb, fun H5 e5 t5 => ⟨_, hz, z, rfl, ok, ?_⟩⟩
  rw [hb]
  exact er_ses er fun p H6 l w6 hp => hte H6 _ fun y hy => eq_ses ((upd_ne (ne_of_none hp hy)).trans hp) upd_same (hq _)
/-- .. against the error of the replay -/
theorem ret_rep (er : Er4 K cs CR CF CK CI CS) {TT : List (Addr × Str)} {σ : L2.St} {H : Hp} {R : VK} {z src : Str} {ops : List Op} {y : Addr} (hz : σ[13]? = some (some (.str z))) (hy : σ[19]? = some (some (.ref y))) (tb : LamX.Tabs TT H) (ok : SesOk z) (hb : sesF (Txt.split z "\n") = .rep src ops) (hrep : RepT H y (repF src ops)) (hq : ∀ H', R (.bl true) H') :
    LamX.tLam TT (TTe K cs CR) (fun x => tCall (spPSessG CF CK CI CS) [] x (tCons (tVar 13) tNil)) σ H (fun v H1 => tVar 19 σ H1 fun y H2 => rEqD K v y H2 R) := by
  refine ⟨tb, fun H5 e5 t5 => ⟨_, hz, z, rfl, ok, ?_⟩⟩
  rw [hb]
  have h5 : RepT H5 y (repF src ops) := hrep.keep fun b xs e => e5 _ _ e (fun _ q => by cases q)
  exact er_rep er (fun p H6 l hne w6 hp => ⟨_, hy, eq_rep hp (h5.keep w6.tups) (hq _)⟩) fun e => by rw [e] at h5; exact h5.elim
theorem opL_flat' (op : Op) : ∀ v ∈ opL op, FlatV v := by
  intro v hv
  cases op <;> (simp only [opL, List.mem_cons, List.not_mem_nil, or_false] at hv; rcases hv with rfl | rfl <;> trivial)
theorem ops_eqv' {H : Hp} {oas oas' : List Addr} {ops : List Op} (h : OpsT H oas ops) (h' : OpsT H oas' ops) : ∀ (i : Nat) x y, (oas.map V.ref)[i]? = some x → (oas'.map V.ref)[i]? = some y → EqV H 1 x y := fun i x y hx hy => by
  rw [List.getElem?_map] at hx hy
  obtain ⟨a, ha, rfl⟩ := Option.map_eq_some_iff.mp hx
  obtain ⟨b, hb, rfl⟩ := Option.map_eq_some_iff.mp hy
  obtain ⟨op, h1, h2⟩ := paired_at h ha
  obtain ⟨op', h3, h4⟩ := paired_at h' hb
  rw [h1] at h3
  cases h3
  exact .tup h2 h4 rfl (Nat.le_trans (m := 2) (by cases op <;> simp [opL]) (by decide)) (eqv_flats 0 (opL_flat' op))
/-- the law's state behind the text: nothing of it but the tables is written -/
theorem q8 (k : K24 P w K mg base CB CF CK CI CS) (er : Er4 K cs CR CF CK CI CS) (hR : mg "RotaError" = some (.ref CR)) (gc : ∀ i, i < 14 → mg (clsN.getD i "") = some (.ref (cs i))) (TB : LamX.TabB base mg cT PT) (EO : DefAt K mg "_law_error_of" s_law_error_of ["_law_call"])
    (f : Addr) (A : Around) (outer : List Env) (s : Shared) (H0 : Hp) (E : XK) (hr : Room 15 (A.deeper (envOfC "law" (defScope slaw) s.heap.objs.size f (.ref cT)))) :
    ∃ t, PSs (cxOf CX0 P w K mg base ["_law_script", "_law_d", "_law_rota", "_law_lines", "_law_k", "_law_some", "_law_words", "_law_change", "_law_kind", "_law_word", "_law_at", "_law_rest", "_law_line", "_law_text", "_law_rows", "_law_head", "_law_total", "_law_operations", "_law_source", "_law_error"] "law" (defScope slaw) f (.ref cT) A outer s H0 E).nox (rest24 8) t ∧ ∀ (D : Ends) (z : Str) (s0 s1 s2 s3 s4 s5 s6 s7 s8 s9 s10 s11 s12 s14 s15 s16 s17 s18 s19 : Option V) (H : Hp), LamX.Tabs [(PT, (envOfC "law" (defScope slaw) s.heap.objs.size f (.ref cT)).qual ++ "<lambda>")] H → SesL z → (∀ H', D.rt (.bl true) H') →
      t D [s0, s1, s2, s3, s4, s5, s6, s7, s8, s9, s10, s11, s12, some (.str z), s14, s15, s16, s17, s18, s19] H := by
  have nd := sclaw.nd
  have T := k.T
  have g_Book := k.gB
  have hu := hr.units
  obtain ⟨f1, fd1, m__law_is_number, kp__law_is_number, b__law_is_number, G__law_is_number⟩ := k.c_isn.ex
  obtain ⟨f2, fd2, m__law_parsed_line, kp__law_parsed_line, b__law_parsed_line, G__law_parsed_line⟩ := k.c_pl.ex
  obtain ⟨f3, fd3, m__law_equal, kp__law_equal, b__law_equal, G__law_equal⟩ := k.c_equal.ex
  obtain ⟨f4, fd4, m_parse_session, kp_parse_session, b_parse_session, G_parse_session⟩ := k.c_parse.ex
  obtain ⟨mc, p, g, fd5, cr_Book, cm_replay, G_replay, b_replay⟩ := k.c_replay.ex
  refine ⟨_, (pss_cons (ps_set (i := 14) nd rfl (Or.inl rfl) (pe_split (pv 13) pe_str))
 (pss_cons (ps_set (i := 15) nd rfl (Or.inl rfl) (pe_split (pe_ix (r := rIxL K) ix_list (pv 14) pe_int (fun _ _ => rfl)) pe_str))
 (C8.pss_cut (ps_set (i := 16) nd rfl (Or.inl rfl) (pe_ifExp (PW.pt (pw_and (pt_cmpR op_eq (pe_callB (r := rLenS K) call_len_seq (by rfl) T.len PySem.boot_len (pa_cons (pv 15) pa_nil)) pe_int (nomark _)) (pw_and (pt_cmpR op_eq (pe_ix (r := rIxL K) ix_list (pv 15) pe_int (fun _ _ => rfl)) pe_str (nomark _)) (pw_and1 (pt_val (pe_call G__law_is_number (hr.mono (by first | decide | omega)) (by rfl) m__law_is_number kp__law_is_number b__law_is_number .nil pass0 (pa_cons (pe_ix (r := rIxL K) ix_list (pv 15) pe_int (fun _ _ => rfl)) pa_nil))))))) (pe_callTy call_int_str (by rfl) T.int (by decide +kernel) (pa_cons (pe_ix (r := rIxL K) ix_list (pv 15) pe_int (fun _ _ => rfl)) pa_nil)) pe_int))
 (pss_cons (ps_if (pt_not (pt_chain op_le op_lt pe_int (pv 16) (pe_callB (r := rLenS K) call_len_seq (by rfl) T.len PySem.boot_len (pa_cons (pv 14) pa_nil))))
 (pss_one (ps_ret (pe_cmpR (r := rEqD K) (op_eqD hu) (pe_erof (k := 12) EO T hR gc TB (by rfl) rfl (hr.mono (by decide)) (LamX.lamS_by (sc := defScope slaw) (by decide +kernel)) rfl (fun _ _ _ _ _ => rfl) (fun _ _ _ _ _ _ _ hr => (pe_call G_parse_session (hr.mono (by first | decide | omega)) (by rfl) m_parse_session kp_parse_session b_parse_session .nil (passes_call (takes_of rfl rfl rfl rfl) (fun _ _ _ _ h => h)) (pa_cons (pv 13) pa_nil)))) (pe_tup (pa_cons pe_str (pa_cons pe_int pa_nil))) (nomark _))))
 pss_nil)
 (pss_cons (ps_set (i := 17) nd rfl (Or.inr rfl) (pe_lst pa_nil))
 (pss_cons (ps_for PassesOwn.never rfl (pi_range2 (by rfl) T.range (pa_cons (pe_op op_add (pv 16) pe_int) (pa_cons (pe_callB (r := rLenS K) call_len_seq (by rfl) T.len PySem.boot_len (pa_cons (pv 14) pa_nil)) pa_nil))) (pg_name (i := 4) nd rfl (Or.inl rfl))
 (pss_cons (ps_expr (pe_bmK (K := K) rfl PySem.F.plainAttrs_list PySem.F.slot_list_append PySem.F.type_list_append mt_append (pv 17) (pa_cons (pe_call G__law_parsed_line (hr.mono (by first | decide | omega)) (by rfl) m__law_parsed_line kp__law_parsed_line b__law_parsed_line .nil pass0 (pa_cons (pe_split (pe_ix (r := rIxL K) ix_list (pv 14) (pv 4) (fun _ _ => rfl)) pe_str) pa_nil)) pa_nil)))
 (pss_one (ps_if (pt_cmpR op_isN (pe_ix (r := rIxL K) ix_list (pv 17) (pe_un un_neg pe_int) (fun _ _ => rfl)) pe_non (nomark _))
 (pss_one (ps_ret (pe_cmpR (r := rEqD K) (op_eqD hu) (pe_erof (k := 12) EO T hR gc TB (by rfl) rfl (hr.mono (by decide)) (LamX.lamS_by (sc := defScope slaw) (by decide +kernel)) rfl (fun _ _ _ _ _ => rfl) (fun _ _ _ _ _ _ _ hr => (pe_call G_parse_session (hr.mono (by first | decide | omega)) (by rfl) m_parse_session kp_parse_session b_parse_session .nil (passes_call (takes_of rfl rfl rfl rfl) (fun _ _ _ _ h => h)) (pa_cons (pv 13) pa_nil)))) (pe_tup (pa_cons pe_str (pa_cons (pv 4) pa_nil))) (nomark _))))
 pss_nil))))
 (pss_cons (ps_set (i := 18) nd rfl (Or.inr rfl) (pe_joinK (K := K) rfl pe_str (pe_slice (r := rSlL K) sl_list (pv 14) (po_some pe_int) (po_some (pe_op op_add (pv 16) pe_int)))))
 (C8.pss_cut (ps_set (i := 19) nd rfl (Or.inl rfl) (pe_erof (k := 12) EO T hR gc TB (by rfl) rfl (hr.mono (by decide)) (LamX.lamS_by (sc := defScope slaw) (by decide +kernel)) rfl (fun _ _ _ _ _ => rfl) (fun _ _ _ _ _ _ _ hr => (ClX.pe_cmeth (pe_glob (v := .ref CB) (by rfl) g_Book rfl) cr_Book cm_replay (G_replay.raw b_replay .nil) (hr.mono (by first | decide | omega)) (passes_call (takes_of rfl rfl rfl rfl) (fun _ _ _ _ h => h)) (pa_cons (pv 18) (pa_cons (pv 17) pa_nil))))))
 (pss_cons (ps_if (pt_cmpR op_notN (pv 19) pe_non (nomark _))
 (pss_one (ps_ret (pe_cmpR (r := rEqD K) (op_eqD hu) (pe_erof (k := 12) EO T hR gc TB (by rfl) rfl (hr.mono (by decide)) (LamX.lamS_by (sc := defScope slaw) (by decide +kernel)) rfl (fun _ _ _ _ _ => rfl) (fun _ _ _ _ _ _ _ hr => (pe_call G_parse_session (hr.mono (by first | decide | omega)) (by rfl) m_parse_session kp_parse_session b_parse_session .nil (passes_call (takes_of rfl rfl rfl rfl) (fun _ _ _ _ h => h)) (pa_cons (pv 13) pa_nil)))) (pv 19) (nomark _))))
 pss_nil)
 (pss_one (ps_ret (pe_call G__law_equal (hr.mono (by first | decide | omega)) (by rfl) m__law_equal kp__law_equal b__law_equal .nil pass0 (pa_cons (pe_call G_parse_session (hr.mono (by first | decide | omega)) (by rfl) m_parse_session kp_parse_session b_parse_session .nil passL (pa_cons (pv 13) pa_nil)) (pa_cons (pe_tup (pa_cons (pv 18) (pa_cons (pv 17) pa_nil))) pa_nil)))))))))))))), ?_⟩
  intro D z s0 s1 s2 s3 s4 s5 s6 s7 s8 s9 s10 s11 s12 s14 s15 s16 s17 s18 s19 H tb sl q
  obtain ⟨⟨hlen, hfew, hsm, hrow⟩, hpt⟩ := id sl
  refine ⟨_, rfl, ⟨_, rfl⟩, z, "\n", rfl, rfl, rfl, Nat.le_trans (m := 1000002) (by omega) (by decide), ?_⟩
  obtain ⟨r0, rt, er0⟩ := rows_ne z
  generalize hrs : Txt.split z "\n" = rows at hfew hsm hrow hpt er0
  intro lp hlp
  have w1 := (Wd.refl H).new (.lst (rows.map V.str)) hlp
  have hr0 : rows[0]? = some r0 := by rw [er0]; rfl
  obtain ⟨r0l, r0p⟩ := hrow r0 (List.mem_of_getElem? hr0)
  refine ⟨_, rfl, lp, _, 0, V.str r0, rfl, rfl, SqL.of (w1.get 0 rfl), atI_nat (j := 0) (by rw [List.getElem?_map, hr0]; rfl), ⟨_, rfl⟩, _, " ", rfl, rfl, rfl, Nat.le_trans (m := 1000002) (by omega) (by decide), ?_⟩
  intro wp hwp
  have ehd : headF rows = match totW (Txt.split r0 " ") with | some t => if t = 0 ∨ rows.length ≤ t then none else some t | none => none := by rw [er0]; rfl
  generalize Txt.split r0 " " = ws at r0p ehd
  have w2 := w1.new (.lst (ws.map V.str)) hwp
  let tot : Nat := (totW ws).getD 0
  refine ⟨fun σ H' => σ = [s0, s1, s2, s3, s4, s5, s6, s7, s8, s9, s10, s11, s12, some (.str z), some (.ref lp), some (.ref wp), some (.int (tot : Nat)), s17, s18, s19] ∧ Wd [] H H' [(lp, .lst (rows.map V.str))], ?_, ?_⟩
  · have w20 := w2.sub (l' := [(lp, .lst (rows.map V.str))]) (by walk_at "sub")
    refine ⟨_, rfl, wp, _, rfl, .inl (SqL.of (w2.get 0 rfl)), rfl, _, rfl, ?_⟩
    rw [List.length_map]
    by_cases h2 : ws.length = 2
    case neg =>
      have e : totW ws = none := by
        rcases ws with _ | ⟨a, _ | ⟨b, _ | ⟨c, tl⟩⟩⟩
        · rfl
        · rfl
        · exact absurd rfl h2
        · rfl
      rw [decide_eq_false (fun e => h2 (by injection e with e; omega))]
      refine iteF ⟨?_, w20⟩
      show _ = [s0, s1, s2, s3, s4, s5, s6, s7, s8, s9, s10, s11, s12, some (V.str z), some (V.ref lp), some (V.ref wp), some (V.int (((totW ws).getD 0 : Nat) : Int)), s17, s18, s19]
      rw [e]; rfl
    obtain ⟨a1, b1, rfl⟩ : ∃ a b, ws = [a, b] := by
      rcases ws with _ | ⟨a, _ | ⟨b, _ | ⟨c, tl⟩⟩⟩
      · cases h2
      · cases h2
      · exact ⟨a, b, rfl⟩
      · simp at h2
    rw [show decide (V.int ((([a1, b1] : List Str).length : Nat) : Int) = V.int 2) = true from decide_eq_true rfl]
    refine iteT ⟨_, rfl, wp, _, 0, V.str a1, rfl, rfl, SqL.of (w2.get 0 rfl), rfl, rfl, _, rfl, ite2 (fun c1 => ?_) (fun c1 => ?_)⟩
    · have e1 : a1 = "rota" := by have := of_decide_eq_true c1; injection this
      refine ⟨_, rfl, wp, _, 1, V.str b1, rfl, rfl, SqL.of (w2.get 0 rfl), rfl, b1, rfl, r0p b1 (by simp), fun H4 w4 => ?_⟩
      have e : totW [a1, b1] = numW b1 := if_pos e1
      have w24 := w2.call0 w4
      have hwp2 := w24.get 0 rfl
      have w240 := w24.sub (l' := [(lp, .lst (rows.map V.str))]) (by walk_at "sub")
      refine ⟨_, rfl, ?_⟩
      cases hn : numW b1 with
      | none =>
        refine iteF ⟨?_, w240⟩
        show _ = [s0, s1, s2, s3, s4, s5, s6, s7, s8, s9, s10, s11, s12, some (V.str z), some (V.ref lp), some (V.ref wp), some (V.int (((totW [a1, b1]).getD 0 : Nat) : Int)), s17, s18, s19]
        rw [e, hn]; rfl
      | some v =>
        obtain ⟨i1, i2⟩ := numW_int hn
        refine iteT ⟨_, rfl, wp, _, 1, V.str b1, rfl, rfl, SqL.of hwp2, rfl, b1, v, rfl, i1, i2, ?_, w240⟩
        show _ = [s0, s1, s2, s3, s4, s5, s6, s7, s8, s9, s10, s11, s12, some (V.str z), some (V.ref lp), some (V.ref wp), some (V.int (((totW [a1, b1]).getD 0 : Nat) : Int)), s17, s18, s19]
        rw [e, hn]; rfl
    · have e : totW [a1, b1] = none := if_neg fun e => c1 (decide_eq_true (by rw [e]))
      refine ⟨?_, w20⟩
      show _ = [s0, s1, s2, s3, s4, s5, s6, s7, s8, s9, s10, s11, s12, some (V.str z), some (V.ref lp), some (V.ref wp), some (V.int (((totW [a1, b1]).getD 0 : Nat) : Int)), s17, s18, s19]
      rw [e]; rfl
  rintro σ H3 ⟨rfl, w3⟩
  have hl3 := w3.get 0 rfl
  have w30 := w3.sub (l' := []) (List.nil_sublist _)
  have hbad : ¬ (1 ≤ tot ∧ tot < rows.length) → sesF rows = .bad 0 := fun h => by
    have e : headF rows = none := by
      rw [ehd]
      have h : ¬ (1 ≤ (totW ws).getD 0 ∧ (totW ws).getD 0 < rows.length) := h
      cases ht : totW ws with
      | none => rfl
      | some t =>
        rw [ht] at h
        have h : ¬ (1 ≤ t ∧ t < rows.length) := h
        exact if_pos (by omega)
    unfold sesF
    rw [e]
  have hgood : 1 ≤ tot ∧ tot < rows.length → sesF rows = match opsF (rows.drop (tot + 1)) with | .error n => .bad (tot + 1 + n) | .ok ops => .rep (Txt.join "\n" ((rows.drop 1).take tot)) ops := fun h => by
    have e : headF rows = some tot := by
      rw [ehd]
      have h : 1 ≤ (totW ws).getD 0 ∧ (totW ws).getD 0 < rows.length := h
      show _ = some ((totW ws).getD 0)
      cases ht : totW ws with
      | none => rw [ht] at h; exact absurd h.1 (by decide)
      | some t =>
        rw [ht] at h
        have h : 1 ≤ t ∧ t < rows.length := h
        exact if_neg (by omega)
    unfold sesF
    rw [e]; try rfl
  have tb3 := tabs_wd tb w3 (fun _ h => nomatch h)
  clear_value tot
  refine ⟨_, rfl, _, _, rfl, rfl, _, rfl, ?_⟩
  have esplit : sesF (Txt.split z "\n") = sesF rows := by rw [hrs]
  have two : 2 ≤ sizeLine := by decide
  by_cases h1 : 1 ≤ tot
  case neg =>
    rw [decide_eq_false (show ¬ (1 : Int) ≤ (tot : Int) by omega)]
    exact iteF ⟨_, rfl, iteT (ret_bad er rfl tb3 sl.toSesOk (esplit.trans (hbad fun h => h1 h.1)) q fun H' Q' h => ⟨two, h⟩)⟩
  rw [decide_eq_true (show (1 : Int) ≤ (tot : Int) by omega)]
  refine iteT ⟨_, rfl, lp, _, rfl, .inl (SqL.of hl3), _, _, rfl, rfl, _, rfl, ?_⟩
  rw [List.length_map]
  by_cases h2 : tot < rows.length
  case neg =>
    rw [decide_eq_false (show ¬ (tot : Int) < (rows.length : Int) by omega)]
    exact iteT (ret_bad er rfl tb3 sl.toSesOk (esplit.trans (hbad fun h => h2 h.2)) q fun H' Q' h => ⟨two, h⟩)
  rw [decide_eq_true (show (tot : Int) < (rows.length : Int) by omega)]
  replace hgood := hgood ⟨h1, h2⟩
  refine iteF ⟨Nat.zero_le _, fun ol hol2 => ?_⟩
  have w5 := w3.new (.lst []) hol2
  have en : (((rows.length : Nat) : Int) - ((tot : Int) + 1)).toNat = rows.length - (tot + 1) := by omega
  refine ⟨_, rfl, _, _, rfl, rfl, _, rfl, lp, _, rfl, .inl (SqL.of (w5.get 1 rfl)), _, _, rfl, ⟨by omega, by omega, by omega, by rw [List.length_map]; omega⟩, ?_⟩
  rw [List.length_map, en]
  refine for_range (lo := (tot : Int) + 1) (n := rows.length - (tot + 1)) (fun i σ H' => (∃ s4, σ = [s0, s1, s2, s3, s4, s5, s6, s7, s8, s9, s10, s11, s12, some (.str z), some (.ref lp), some (.ref wp), some (.int (tot : Nat)), some (.ref ol), s18, s19]) ∧ ∃ (oas : List Addr) (ops : List Op), Wd [] H H' [(ol, .lst (oas.map V.ref)), (lp, .lst (rows.map V.str))] ∧ OpsT H' oas ops ∧ opsF ((rows.drop (tot + 1)).take i) = .ok ops) ⟨⟨_, rfl⟩, [], [], w5, .nil, rfl⟩ ?_ ?_
  · rintro i σ H' hi ⟨⟨s4', rfl⟩, oas, ops, w6, ho6, hf6⟩
    have hri : rows[tot + 1 + i]? = some (rows[tot + 1 + i]) := List.getElem?_eq_getElem (by omega)
    generalize rows[tot + 1 + i] = row at hri
    obtain ⟨rl, rp⟩ := hrow row (List.mem_of_getElem? hri)
    obtain ⟨rq1, rq2⟩ := hpt row (List.mem_of_getElem? hri)
    have hdi : (rows.drop (tot + 1))[i]? = some row := by rw [List.getElem?_drop]; exact hri
    have hat : atI (rows.map V.str) ((tot : Int) + 1 + (i : Int)) = some (.str row) := by
      have e : (tot : Int) + 1 + (i : Int) = ((tot + 1 + i : Nat) : Int) := by omega
      rw [e]
      exact atI_nat (by rw [List.getElem?_map, hri]; rfl)
    have lo6 : oas.length = i := by
      have h1 := ho6.length
      have h2 := opsF_len hf6
      rw [List.length_take, List.length_drop] at h2; omega
    refine ⟨_, rfl, .inl ⟨rfl, _, SqL.of (w6.get 0 rfl)⟩, _, rfl, _, rfl, lp, _, _, _, rfl, rfl, SqL.of (w6.get 1 rfl), hat, ⟨_, rfl⟩, _, " ", rfl, rfl, rfl, Nat.le_trans (m := 1000002) (by omega) (by decide), ?_⟩
    intro xp hxp
    have w7 := w6.new (.lst ((Txt.split row " ").map V.str)) hxp
    refine ⟨xp, Txt.split row " ", rfl, w7.get 0 rfl, rp, rq2, rq1, fun op hop H7 p w8 => ?_, fun hno H7 w8 => ?_⟩
    · have w9 := w7.call0 w8
      refine ⟨ol, _, _, rfl, rfl, w9.get 2 rfl, by rw [List.length_map]; exact lt_line (by omega), ?_⟩
      have w10 := ((w9.sub (l' := [(ol, .lst (oas.map V.ref)), (lp, .lst (rows.map V.str))]) (by walk_at "sub"))).app0 (V.ref p)
      refine ⟨_, rfl, _, rfl, ol, _, -1, .ref p, rfl, rfl, SqL.of (w10.get 0 rfl), atI_last, rfl, _, rfl, ite2 (fun c => absurd (of_decide_eq_true c) (fun e => by cases e)) (fun _ => ?_)⟩
      refine ⟨⟨_, rfl⟩, oas ++ [p], ops ++ [op], by rw [List.map_append]; exact w10, ?_, opsF_next hf6 hdi hop⟩
      have w78 := ((Wd.refl H').new (.lst ((Txt.split row " ").map V.str)) hxp).call0 w8
      have hol : H' ol = some (.lst (oas.map V.ref)) := w6.get 0 rfl
      have k9 : ∀ b xs, H' b = some (.tup xs) → upd H7 ol (.lst (oas.map V.ref ++ [V.ref p])) b = some (.tup xs) := fun b xs e => by
        have hne : b ≠ ol := fun q => by rw [q, hol] at e; cases e
        rw [upd_ne hne]; exact w78.tups b xs e
      refine Paired.app (ho6.keep k9) (.cons ?_ .nil)
      have hpo : p ≠ ol := fun q => by
        rcases w78.own _ List.mem_cons_self with h | h
        · have h : H' p = none := h
          rw [q, hol] at h; cases h
        · cases h
      rw [upd_ne hpo]
      exact w8.get 0 rfl
    · have w9 := w7.call0 w8
      refine ⟨ol, _, _, rfl, rfl, w9.get 1 rfl, by rw [List.length_map]; exact lt_line (by omega), ?_⟩
      have w10 := ((w9.sub (l' := [(ol, .lst (oas.map V.ref)), (lp, .lst (rows.map V.str))]) (by walk_at "sub"))).app0 V.non
      refine ⟨_, rfl, _, rfl, ol, _, -1, .non, rfl, rfl, SqL.of (w10.get 0 rfl), atI_last, rfl, _, rfl, iteT ?_⟩
      rw [opsF_bad hf6 hdi hno] at hgood
      have e : (tot : Int) + 1 + (i : Int) = ((tot + 1 + i : Nat) : Int) := by omega
      rw [e]
      exact ret_bad er rfl (tabs_wd tb w10 (fun _ h => nomatch h)) sl.toSesOk (esplit.trans hgood) q fun H8 Q' h => ⟨_, rfl, two, h⟩
  · rintro σ H' ⟨⟨s4', rfl⟩, oas, ops, w6, ho6, hf6⟩
    have hdl : (rows.drop (tot + 1)).length ≤ rows.length - (tot + 1) := by rw [List.length_drop]; exact Nat.le_refl _
    rw [List.take_of_length_le hdl] at hf6
    rw [hf6] at hgood
    replace hgood : sesF rows = .rep (Txt.join "\n" ((rows.drop 1).take tot)) ops := hgood
    have hcut : cutV (rows.map V.str) (some 1) (some ((tot : Int) + 1)) = ((rows.drop 1).take tot).map V.str := by
      unfold cutV
      have lx : (rows.map V.str).length = rows.length := List.length_map ..
      have e1 : ∀ d : Nat, HT.sIx (rows.map V.str).length d (some 1) = 1 := fun d => by
        show (if (1 : Int) < 0 then ((1 : Int) + (((rows.map V.str).length : Nat) : Int)).toNat else min (1 : Int).toNat (rows.map V.str).length) = 1
        rw [if_neg (by decide), lx, show (1 : Int).toNat = 1 from rfl]
        omega
      have e2 : ∀ d : Nat, HT.sIx (rows.map V.str).length d (some ((tot : Int) + 1)) = tot + 1 := fun d => by
        show (if (tot : Int) + 1 < 0 then (((tot : Int) + 1) + (((rows.map V.str).length : Nat) : Int)).toNat else min ((tot : Int) + 1).toNat (rows.map V.str).length) = _
        rw [if_neg (by omega), lx, show ((tot : Int) + 1).toNat = tot + 1 by omega]
        omega
      rw [e1, e2, List.map_take, List.map_drop, Nat.add_sub_cancel]
    refine ⟨⟨_, rfl⟩, _, rfl, _, rfl, _, rfl, _, _, rfl, rfl, _, rfl, lp, _, rfl, SqL.of (w6.get 1 rfl), fun cp hcp => ?_⟩
    rw [hcut]
    have w7 := w6.new (.lst (((rows.drop 1).take tot).map V.str)) hcp
    have hsrc := hsm tot
    have e1 : (("\n" : Str)).length = 1 := by decide
    refine ⟨_, cp, (rows.drop 1).take tot, rfl, rfl, .inl (SqL.of (w7.get 0 rfl)), ?_, ?_⟩
    · have h8 := sum_le (fun s : Str => s.length) 3000 ((rows.drop 1).take tot) fun x hx => (hrow x (List.mem_of_mem_drop (List.mem_of_mem_take hx))).1
      have h9 : ((rows.drop 1).take tot).length ≤ 60 := by rw [List.length_take, List.length_drop]; omega
      rw [e1]
      have h10 := Nat.mul_le_mul_left 3000 h9
      omega
    have lo : ops.length ≤ 60 := by rw [opsF_len hf6, List.length_drop]; omega
    have k7 := ((Wd.refl H').new (.lst (((rows.drop 1).take tot).map V.str)) hcp)
    generalize hS : Txt.join "\n" ((rows.drop 1).take tot) = src at hgood hsrc
    have hany := opsF_any hf6
    have ho7 := ho6.keep k7.tups
    have tb7 := tabs_wd tb w7 (fun _ h => nomatch h)
    have hol7 := w7.get 1 rfl
    generalize upd H' cp (.lst (((rows.drop 1).take tot).map V.str)) = H7 at ho7 tb7 hol7
    refine ⟨fun σ H' => ∃ v, σ = [s0, s1, s2, s3, s4', s5, s6, s7, s8, s9, s10, s11, s12, some (.str z), some (.ref lp), some (.ref wp), some (.int (tot : Nat)), some (.ref ol), some (.str src), some v] ∧ ((repF src ops = .ok ∧ v = .non) ∨ ∃ y, v = .ref y ∧ RepT H' y (repF src ops)) ∧ LamX.Tabs [(PT, (envOfC "law" (defScope slaw) s.heap.objs.size f (.ref cT)).qual ++ "<lambda>")] H' ∧ H' ol = some (.lst (oas.map V.ref)) ∧ OpsT H' oas ops, ?_, ?_⟩
    · refine ⟨tb7, fun H8 e8 t8 => ?_⟩
      have hol8 := e8 _ _ hol7 (fun _ q => by cases q)
      have ho8 := ho7.keep fun b xs e => e8 _ _ e (fun _ q => by cases q)
      refine ⟨rfl, _, rfl, _, rfl, src, ol, oas, ops, rfl, hsrc, hol8, ho8, hany, lo, ?_⟩
      refine er_rep er (fun p H9 l hne w9 hp => ?_) fun hok x H9 w9 => ?_
      · exact ⟨_, rfl, .inr ⟨p, rfl, hp⟩, tabs_wd t8 w9 (fun _ h => nomatch h), w9.base _ _ (by simp) hol8, ho8.keep w9.tups⟩
      · exact ⟨_, rfl, .inl ⟨hok, rfl⟩, tabs_wd t8 w9 (fun _ h => nomatch h), w9.base _ _ (by simp) hol8, ho8.keep w9.tups⟩
    rintro σ H8 ⟨v, rfl, hv, tb8, hol8, ho8⟩
    refine ⟨_, rfl, rfl, _, rfl, ?_⟩
    rcases hv with ⟨hok, rfl⟩ | ⟨y, rfl, hy⟩
    · refine iteF ⟨_, rfl, z, rfl, sl.toSesOk, ?_⟩
      rw [esplit.trans hgood]
      show RepO CF CK CI H8 _ _ (repF src ops)
      rw [hok]
      intro H9 p lq oas' w9 ho9
      refine ⟨_, rfl, _, rfl, two, fun p2 hp2 => ⟨_, _, rfl, ?_, fun H10 _ => q _⟩⟩
      have w10 := w9.new (.tup [.str src, .ref ol]) hp2
      have n10 := (Wd.refl H9).new (.tup [.str src, .ref ol]) hp2
      have hol10 := w10.base _ _ (by simp) hol8
      have ho10 := ho8.keep w10.tups
      have ho9' := ho9.keep n10.tups
      have loa : oas.length = ops.length := ho8.length
      have lob : oas'.length = ops.length := ho9.length
      refine .tup (w10.get 1 rfl) (w10.get 0 rfl) rfl (by show 2 ≤ 1000; decide) fun i x y hx hy => ?_
      match i, hx, hy with
      | 0, hx, hy => cases hx; cases hy; exact .str _ _
      | 1, hx, hy =>
        cases hx; cases hy
        exact .lst (w10.get 2 rfl) hol10 (by rw [List.length_map, List.length_map, loa, lob]) (by rw [List.length_map, loa]; omega) (ops_eqv' ho9' ho10)
      | _ + 2, hx, _ => cases hx
    · exact iteT (ret_rep er rfl rfl tb8 sl.toSesOk (esplit.trans hgood) hy q)
end
end Br

namespace Br
open PySem PySem.Spec PyProof.Rows L2
/-! ### the law's words and lines -/
def ws24 : List Str := ["rota", "2", "3", "4", "people", "a", "bb;", "", "turns", "away", "bb", "0", "of", "2;", "step", "5", "gift", "forgive", "1", "reset", "undo", "redo", "A", "abcdefghi", "zz", "05", "500", "999", "1000", "x"]
theorem ws24_ok : ∀ w ∈ ws24, 10 ∉ TL.tl w ∧ 32 ∉ TL.tl w ∧ w.length ≤ 10 ∧ runsB false (TL.tl w) ≤ 1 ∧ PyData.strOk w = true := by decide +kernel
structure WdL (L : List (List Str)) (a b : Nat) : Prop where
  ne : L ≠ []
  len : L.length ≤ a
  cnt : (L.map List.length).sum ≤ b
  mem : ∀ ws ∈ L, ∀ w ∈ ws, w ∈ ws24
theorem joinL_mem24 {c : Nat} : ∀ {ps : List (List Nat)}, c ∈ TL.joinL [32] ps → c = 32 ∨ ∃ p ∈ ps, c ∈ p
  | [], h => by cases h
  | [p], h => .inr ⟨p, List.mem_cons_self, h⟩
  | p :: q :: r, h => by
    have h : c ∈ p ++ ([32] ++ TL.joinL [32] (q :: r)) := h
    rcases List.mem_append.mp h with h | h
    · exact .inr ⟨p, List.mem_cons_self, h⟩
    · rcases List.mem_append.mp h with h | h
      · exact .inl (List.mem_singleton.mp h)
      · rcases joinL_mem24 h with h | ⟨x, hx, hc⟩
        · exact .inl h
        · exact .inr ⟨x, List.mem_cons_of_mem _ hx, hc⟩
theorem sum_add1 {α : Type} (f : α → Nat) : ∀ l : List α, (l.map fun x => f x + 1).sum = (l.map f).sum + l.length
  | [] => rfl
  | x :: l => by rw [List.map_cons, List.sum_cons, sum_add1 f l, List.map_cons, List.sum_cons, List.length_cons]; omega
def rowW (ws : List Str) : Str := Txt.join " " ws
def textW (L : List (List Str)) : Str := Txt.join "\n" (L.map rowW)
theorem row_len24 {ws : List Str} (h : ∀ w ∈ ws, w ∈ ws24) : (rowW ws).length ≤ 11 * ws.length := by
  have := join_len " " ws 10 fun p hp => (ws24_ok p (h p hp)).2.2.1
  have e1 : (" " : Str).length = 1 := by decide
  rw [e1] at this
  show (Txt.join " " ws).length ≤ _
  omega
theorem row_no1024 {ws : List Str} (h : ∀ w ∈ ws, w ∈ ws24) : 10 ∉ TL.tl (rowW ws) := by
  show 10 ∉ TL.tl (Txt.join " " ws)
  rw [TL.join_eq, TL.tl_join]
  intro m
  rcases joinL_mem24 (c := 10) (ps := ws.map TL.tl) m with e | ⟨p, hp, hm⟩
  · exact absurd e (by decide)
  · obtain ⟨z, hz, rfl⟩ := List.mem_map.mp hp
    exact (ws24_ok z (h z hz)).1 hm
theorem row_split24 {ws : List Str} (h : ∀ w ∈ ws, w ∈ ws24) : Txt.split (rowW ws) " " = if ws = [] then ([""] : List Str) else ws := by
  split
  · rename_i e; subst e; decide +kernel
  · rename_i e
    exact TL.split_join (s := 32) (S := []) (by rfl) (by decide +kernel) e fun p hp => (ws24_ok p (h p hp)).2.1
theorem sum_one {α : Type} (f : α → Nat) : ∀ l : List α, (∀ x ∈ l, f x ≤ 1) → (l.map f).sum ≤ l.length
  | [], _ => Nat.le_refl _
  | x :: l, h => by
    have := sum_one f l fun y hy => h y (List.mem_cons_of_mem _ hy)
    have := h x List.mem_cons_self
    rw [List.map_cons, List.sum_cons, List.length_cons]; omega
theorem row_runs24 {ws : List Str} (h : ∀ w ∈ ws, w ∈ ws24) : runsB false (TL.tl (rowW ws)) ≤ ws.length := by
  show runsB false (TL.tl (Txt.join " " ws)) ≤ _
  rw [TL.join_eq, TL.tl_join]
  refine Nat.le_trans (runs_join _ (by decide +kernel) _) ?_
  rw [List.map_map]
  exact sum_one _ ws fun w hw => (ws24_ok w (h w hw)).2.2.2.1
theorem sum_mem : ∀ {l : List Nat} {x : Nat}, x ∈ l → x ≤ l.sum
  | y :: l, x, h => by
    rw [List.sum_cons]
    rcases List.mem_cons.mp h with rfl | h
    · omega
    · have := sum_mem h; omega
theorem sum_sub : ∀ {l m : List Nat}, l.Sublist m → l.sum ≤ m.sum
  | _, _, .slnil => Nat.le_refl _
  | _, _, .cons a h => by have := sum_sub h; rw [List.sum_cons]; omega
  | _, _, .cons₂ a h => by have := sum_sub h; rw [List.sum_cons, List.sum_cons]; omega
theorem row_one24 {L : List (List Str)} {a b : Nat} (h : WdL L a b) : ∀ ws ∈ L, ws.length ≤ b := fun ws hw => by
  have : ws.length ≤ (L.map List.length).sum := sum_mem (List.mem_map.mpr ⟨ws, hw, rfl⟩)
  exact Nat.le_trans this h.cnt
theorem rows_len24 : ∀ {L : List (List Str)}, (∀ ws ∈ L, ∀ w ∈ ws, w ∈ ws24) → ((L.map rowW).map (fun s : Str => s.length)).sum ≤ 11 * (L.map List.length).sum
  | [], _ => Nat.le_refl _
  | ws :: L, h => by
    have h1 := row_len24 (h ws List.mem_cons_self)
    have h2 := rows_len24 (L := L) fun x hx => h x (List.mem_cons_of_mem _ hx)
    simp only [List.map_cons, List.sum_cons]
    omega
theorem rows_runs24 : ∀ {L : List (List Str)}, (∀ ws ∈ L, ∀ w ∈ ws, w ∈ ws24) → runsR ((L.map rowW).map TL.tl) ≤ (L.map List.length).sum
  | [], _ => Nat.le_refl _
  | ws :: L, h => by
    have h1 := row_runs24 (h ws List.mem_cons_self)
    have h2 := rows_runs24 (L := L) fun x hx => h x (List.mem_cons_of_mem _ hx)
    unfold runsR at h2 ⊢
    simp only [List.map_cons, List.sum_cons]
    omega
theorem text_split24 {L : List (List Str)} (ne : L ≠ []) (h : ∀ ws ∈ L, ∀ w ∈ ws, w ∈ ws24) : Txt.split (textW L) "\n" = L.map rowW := by
  refine TL.split_join (s := 10) (S := []) (by rfl) (by decide +kernel) (by simpa using ne) fun p hp => ?_
  obtain ⟨ws, hws, rfl⟩ := List.mem_map.mp hp
  exact row_no1024 (h ws hws)
theorem text_len24 {L : List (List Str)} (h : ∀ ws ∈ L, ∀ w ∈ ws, w ∈ ws24) : (textW L).length ≤ 11 * (L.map List.length).sum + L.length := by
  have h1 := rows_len24 h
  have h2 := joinL_len (TL.tl "\n") ((L.map rowW).map TL.tl)
  have e1 : (TL.tl "\n").length = 1 := by decide
  rw [e1, sum_add1, List.length_map, List.length_map] at h2
  have e2 : ((L.map rowW).map TL.tl).map List.length = (L.map rowW).map (fun s : Str => s.length) := by
    rw [List.map_map]; exact List.map_congr_left fun x _ => (TL.len_tl x).symm
  rw [e2] at h2
  show (Txt.join "\n" (L.map rowW)).length ≤ _
  rw [TL.join_eq, TL.len_tl, TL.tl_join]
  omega
theorem text_small24 {L : List (List Str)} {a b : Nat} (h1 : L.length ≤ a) (h2 : (L.map List.length).sum ≤ b) (ha : a ≤ 50) (hb : b ≤ 50) (h : ∀ ws ∈ L, ∀ w ∈ ws, w ∈ ws24) : Small (textW L) := by
  have hl := text_len24 h
  by_cases ne : L = []
  · subst ne
    exact small_of (by decide) (by decide +kernel)
  · refine small_of (by omega) ?_
    unfold rowsL
    rw [text_split24 ne h]
    exact Nat.le_trans (rows_runs24 h) (by omega)
theorem text_ok24 {L : List (List Str)} {a b : Nat} (h : WdL L a b) (ha : a ≤ 50) (hb : b ≤ 50) : SesL (textW L) := by
  have hs := text_split24 h.ne h.mem
  have hl := text_len24 h.mem
  have h1 := h.len
  have h2 := h.cnt
  have rw1 : ∀ x ∈ L.map rowW, ∃ ws, x = rowW ws ∧ ws ∈ L := fun x hx => by
    obtain ⟨ws, hws, rfl⟩ := List.mem_map.mp hx; exact ⟨ws, rfl, hws⟩
  have parts : ∀ ws ∈ L, ∀ p ∈ Txt.split (rowW ws) " ", p ∈ ws24 := fun ws hws p hp => by
    rw [row_split24 (h.mem ws hws)] at hp
    split at hp
    · rw [List.mem_singleton.mp hp]; decide +kernel
    · exact h.mem ws hws p hp
  refine ⟨⟨by omega, by rw [hs, List.length_map]; omega, fun t => ?_, fun x hx => ?_⟩, fun x hx => ?_⟩
  · rw [hs, ← List.map_drop, ← List.map_take]
    have hsub : ((L.drop 1).take t).Sublist L := (List.take_sublist _ _).trans (List.drop_sublist _ _)
    exact text_small24 (a := a) (b := b) (Nat.le_trans hsub.length_le h1) (Nat.le_trans (sum_sub (hsub.map _)) h2) ha hb fun ws hws => h.mem ws (hsub.subset hws)
  · rw [hs] at hx
    obtain ⟨ws, rfl, hws⟩ := rw1 x hx
    have := row_len24 (h.mem ws hws)
    have := row_one24 h ws hws
    refine ⟨by omega, fun p hp => ?_⟩
    exact Nat.le_trans (ws24_ok p (parts ws hws p hp)).2.2.1 (by decide)
  · rw [hs] at hx
    obtain ⟨ws, rfl, hws⟩ := rw1 x hx
    have := row_one24 h ws hws
    refine ⟨?_, fun p hp => (ws24_ok p (parts ws hws p hp)).2.2.2.2⟩
    rw [row_split24 (h.mem ws hws)]
    split
    · exact by decide
    · omega
end Br

namespace Br
open PySem PySem.Spec PyProof.Rows L2
/-! ### lists of lists of texts -/
def LnT (H : Hp) : List Addr → List (List Str) → Prop
  | [], [] => True
  | a :: as, ws :: L => H a = some (.lst (ws.map V.str)) ∧ LnT H as L
  | _, _ => False
theorem LnT.keep {H H' : Hp} : ∀ {as : List Addr} {L : List (List Str)}, (∀ a ∈ as, H' a = H a) → LnT H as L → LnT H' as L
  | [], [], _, _ => trivial
  | a :: as, ws :: L, k, ⟨h1, h2⟩ => ⟨(k a List.mem_cons_self).trans h1, LnT.keep (fun b hb => k b (List.mem_cons_of_mem _ hb)) h2⟩
  | [], _ :: _, _, h => h.elim
  | _ :: _, [], _, h => h.elim
theorem LnT.old {M : List Addr} {H H' : Hp} {l : List (Addr × HO)} (w : Wd M H H' l) : ∀ {as : List Addr} {L : List (List Str)}, (∀ a ∈ as, a ∉ M) → LnT H as L → LnT H' as L
  | [], [], _, _ => trivial
  | a :: as, ws :: L, k, ⟨h1, h2⟩ => ⟨w.base _ _ (k a List.mem_cons_self) h1, LnT.old w (fun b hb => k b (List.mem_cons_of_mem _ hb)) h2⟩
  | [], _ :: _, _, h => h.elim
  | _ :: _, [], _, h => h.elim
theorem LnT.len {H : Hp} : ∀ {as : List Addr} {L : List (List Str)}, LnT H as L → as.length = L.length
  | [], [], _ => rfl
  | a :: as, ws :: L, ⟨_, h2⟩ => by rw [List.length_cons, List.length_cons, LnT.len h2]
  | [], _ :: _, h => h.elim
  | _ :: _, [], h => h.elim
theorem LnT.get {H : Hp} : ∀ {as : List Addr} {L : List (List Str)} {i : Nat} {a : Addr}, LnT H as L → as[i]? = some a → ∃ ws, L[i]? = some ws ∧ H a = some (.lst (ws.map V.str))
  | [], _, _, _, _, h => by cases h
  | a :: as, ws :: L, 0, b, ⟨h1, _⟩, h => by cases h; exact ⟨ws, rfl, h1⟩
  | a :: as, ws :: L, i + 1, b, ⟨_, h2⟩, h => LnT.get (as := as) (L := L) (i := i) h2 (by simpa using h)
  | _ :: _, [], _, _, h, _ => h.elim
theorem LnT.app {H : Hp} : ∀ {as bs : List Addr} {L M : List (List Str)}, LnT H as L → LnT H bs M → LnT H (as ++ bs) (L ++ M)
  | [], _, [], _, _, h => h
  | a :: as, bs, ws :: L, M, ⟨h1, h2⟩, h => ⟨h1, LnT.app h2 h⟩
  | [], _, _ :: _, _, h, _ => h.elim
  | _ :: _, _, [], _, h, _ => h.elim
theorem LnT.take {H : Hp} : ∀ {as : List Addr} {L : List (List Str)} (n : Nat), LnT H as L → LnT H (as.take n) (L.take n)
  | _, _, 0, _ => trivial
  | [], [], _ + 1, _ => trivial
  | a :: as, ws :: L, n + 1, ⟨h1, h2⟩ => ⟨h1, LnT.take n h2⟩
  | [], _ :: _, _ + 1, h => h.elim
  | _ :: _, [], _ + 1, h => h.elim
theorem LnT.drop {H : Hp} : ∀ {as : List Addr} {L : List (List Str)} (n : Nat), LnT H as L → LnT H (as.drop n) (L.drop n)
  | _, _, 0, h => h
  | [], [], _ + 1, _ => trivial
  | a :: as, ws :: L, n + 1, ⟨h1, h2⟩ => LnT.drop n h2
  | [], _ :: _, _ + 1, h => h.elim
  | _ :: _, [], _ + 1, h => h.elim
/-- the law's state while the lines are made -/
structure J24 (PT d : Addr) (qq : Str) (lp : Addr) (L : List (List Str)) (H : Hp) : Prop where
  tabs : LamX.Tabs [(PT, qq)] H
  dr : ∃ x y l, H d = some (dl x y l) ∧ DOk x y l
  ln : ∃ las : List Addr, H lp = some (.lst (las.map V.ref)) ∧ LnT H las L ∧ d ∉ las ∧ lp ∉ las
  nl : lp ≠ d
section
variable {PT d lp : Addr} {qq : Str} {L : List (List Str)} {H H' : Hp} {l : List (Addr × HO)}
theorem J24.wd0 (j : J24 PT d qq lp L H) (w : Wd [] H H' l) : J24 PT d qq lp L H' := by
  obtain ⟨x, y, r, h, ok⟩ := j.dr
  obtain ⟨las, h1, h2, h3, h4⟩ := j.ln
  exact ⟨tabs_wd j.tabs w (fun _ h => nomatch h), ⟨x, y, r, w.base _ _ (by simp) h, ok⟩, ⟨las, w.base _ _ (by simp) h1, h2.old w (fun _ _ h => nomatch h), h3, h4⟩, j.nl⟩
theorem J24.bel {x y : Int} {r : List Int} (j : J24 PT d qq lp L H) (w : Wd [d] H H' l) (h : H' d = some (dl x y r)) (ok : DOk x y r) : J24 PT d qq lp L H' := by
  obtain ⟨x0, y0, r0, h0, ok0⟩ := j.dr
  obtain ⟨las, h1, h2, h3, h4⟩ := j.ln
  exact ⟨tabs_wd j.tabs w (fun a ha => by rw [List.mem_singleton.mp ha]; exact ⟨_, h0⟩), ⟨x, y, r, h, ok⟩, ⟨las, w.base _ _ (by simpa using j.nl) h1, h2.old w (fun a ha hm => h3 (by rw [← List.mem_singleton.mp hm]; exact ha)), h3, h4⟩, j.nl⟩
/-- a line more -/
theorem J24.app {p : Addr} {ws : List Str} (j : J24 PT d qq lp L H) (hp : H p = some (.lst (ws.map V.str))) (nd : p ≠ d) (nl : p ≠ lp) : ∃ las : List Addr, H lp = some (.lst (las.map V.ref)) ∧ las.length = L.length ∧ J24 PT d qq lp (L ++ [ws]) (upd H lp (.lst (las.map V.ref ++ [V.ref p]))) := by
  obtain ⟨x, y, r, h, ok⟩ := j.dr
  obtain ⟨las, h1, h2, h3, h4⟩ := j.ln
  refine ⟨las, h1, h2.len, tabs_mut j.tabs h1, ⟨x, y, r, by rw [upd_ne j.nl.symm]; exact h, ok⟩, ⟨las ++ [p], by rw [List.map_append]; exact upd_same, ?_, ?_, ?_⟩, j.nl⟩
  · refine LnT.app (h2.keep fun a ha => upd_ne fun e => h4 (by rw [← e]; exact ha)) ⟨?_, trivial⟩
    rw [upd_ne nl]; exact hp
  · intro hm
    rcases List.mem_append.mp hm with hm | hm
    · exact h3 hm
    · exact nd (List.mem_singleton.mp hm).symm
  · intro hm
    rcases List.mem_append.mp hm with hm | hm
    · exact h4 hm
    · exact nl (List.mem_singleton.mp hm).symm
end
end Br

-- REN CB CB
namespace Br
open PySem PySem.Spec PyProof.Rows L2
def wl24 : List Str := ["5", "05", "0", "500", "999", "1000", "", "a", "bb", "step", "undo", "gift", "of", "x"]
theorem atI_mem {xs : List V} {k : Int} (h0 : 0 ≤ k) (h1 : k < xs.length) : ∃ (i : Nat) (v : V), k = (i : Int) ∧ xs[i]? = some v ∧ atI xs k = some v := by
  obtain ⟨i, rfl⟩ : ∃ i : Nat, k = (i : Int) := ⟨k.toNat, by omega⟩
  have hi : i < xs.length := by omega
  exact ⟨i, xs[i], rfl, List.getElem?_eq_getElem hi, atI_nat (List.getElem?_eq_getElem hi)⟩
theorem cut_to {xs : List V} {k : Nat} (h : k ≤ xs.length) : cutV xs none (some (k : Int)) = xs.take k := by
  unfold cutV
  rw [HT.sIx_nat, HT.sIx_none, Nat.min_eq_left h]; rfl
theorem cut_from {xs : List V} (k : Nat) : cutV xs (some (k : Int)) none = xs.drop k := by
  unfold cutV
  rw [HT.sIx_nat, HT.sIx_none]
  by_cases h : k ≤ xs.length
  · rw [Nat.min_eq_left h, ← List.length_drop, List.take_length]
  · rw [Nat.min_eq_right (by omega), Nat.sub_self, List.take_zero, List.drop_eq_nil_of_le (by omega)]
theorem LnT.fresh {H : Hp} {r : Addr} (hr : H r = none) : ∀ {as : List Addr} {L : List (List Str)}, LnT H as L → r ∉ as
  | [], _, _, h => by cases h
  | a :: as, ws :: L, ⟨h1, h2⟩, h => by
    rcases List.mem_cons.mp h with e | h
    · rw [← e, hr] at h1; cases h1
    · exact LnT.fresh hr h2 h
  | _ :: _, [], h, _ => h.elim
theorem J24.re {PT d lp r : Addr} {qq : Str} {L L' : List (List Str)} {H : Hp} {las' : List Addr} (j : J24 PT d qq lp L H) (hl : LnT H las' L') (hd : d ∉ las') (hr : H r = none) (nr : r ≠ d) : J24 PT d qq r L' (upd H r (.lst (las'.map V.ref))) := by
  have w := (Wd.refl H).new (.lst (las'.map V.ref)) hr
  have j2 := j.wd0 w
  exact ⟨j2.tabs, j2.dr, ⟨las', upd_same, hl.old w (fun _ _ h => nomatch h), hd, LnT.fresh hr hl⟩, nr⟩
theorem J24.ned {PT d lp p : Addr} {qq : Str} {L : List (List Str)} {H : Hp} (j : J24 PT d qq lp L H) (hp : H p = none) : p ≠ d := by
  obtain ⟨x, y, r, hd, _⟩ := j.dr
  exact fun e => by rw [e, hd] at hp; cases hp
theorem sum_cut (L : List Nat) (k : Nat) : (L.take k).sum + (L.drop k).sum = L.sum := by
  rw [← List.sum_append_nat, List.take_append_drop]
theorem WdL.ins {L : List (List Str)} {a b k : Nat} {z : Str} (h : WdL L a b) (hz : z ∈ ws24) : WdL (L.take k ++ [[z]] ++ L.drop k) (a + 1) (b + 1) := by
  have h1 := h.len
  have h2 := h.cnt
  refine ⟨by simp, ?_, ?_, ?_⟩
  · rw [List.length_append, List.length_append, List.length_take, List.length_drop]
    show min k L.length + 1 + (L.length - k) ≤ _
    omega
  · rw [List.map_append, List.map_append, List.sum_append_nat, List.sum_append_nat, List.map_take, List.map_drop]
    have := sum_cut (L.map List.length) k
    show _ + (1 + 0) + _ ≤ _
    omega
  · intro ws hws
    rcases List.mem_append.mp hws with hws | hws
    · rcases List.mem_append.mp hws with hws | hws
      · exact h.mem ws (List.mem_of_mem_take hws)
      · rw [List.mem_singleton.mp hws]
        intro w hw
        rw [List.mem_singleton.mp hw]; exact hz
    · exact h.mem ws (List.mem_of_mem_drop hws)
theorem WdL.chg {L : List (List Str)} {a b k : Nat} {ws ws' : List Str} (h : WdL L a b) (hk : L[k]? = some ws) (hl : ws'.length ≤ ws.length + 1) (hz : ∀ w ∈ ws', w ∈ ws24) : WdL (L.take k ++ [ws'] ++ L.drop (k + 1)) (a + 1) (b + 1) := by
  have h1 := h.len
  have h2 := h.cnt
  have hlt := (List.getElem?_eq_some_iff.mp hk).1
  refine ⟨by simp, ?_, ?_, ?_⟩
  · rw [List.length_append, List.length_append, List.length_take, List.length_drop]
    show min k L.length + 1 + (L.length - (k + 1)) ≤ _
    omega
  · rw [List.map_append, List.map_append, List.sum_append_nat, List.sum_append_nat, List.map_take, List.map_drop]
    have h3 := sum_cut (L.map List.length) k
    have h4 : (L.map List.length).drop k = ws.length :: (L.map List.length).drop (k + 1) := by
      have hlt2 : k < (L.map List.length).length := by rw [List.length_map]; exact hlt
      rw [List.drop_eq_getElem_cons hlt2, List.getElem_map, (List.getElem?_eq_some_iff.mp hk).2]
    rw [h4, List.sum_cons] at h3
    show _ + (ws'.length + 0) + _ ≤ _
    omega
  · intro x hx
    rcases List.mem_append.mp hx with hx | hx
    · rcases List.mem_append.mp hx with hx | hx
      · exact h.mem x (List.mem_of_mem_take hx)
      · rw [List.mem_singleton.mp hx]; exact hz
    · exact h.mem x (List.mem_of_mem_drop hx)
section
variable {P : Program} {w : World} {K : PySem.W.Frag} {mg : Str → Option Value} {base : Heap} {CB CF CK CI CS CR PT cT : Addr} {cs : Nat → Addr}
theorem q5 (k : K24 P w K mg base CB CF CK CI CS) (er : Er4 K cs CR CF CK CI CS) (hR : mg "RotaError" = some (.ref CR)) (gc : ∀ i, i < 14 → mg (clsN.getD i "") = some (.ref (cs i))) (TB : LamX.TabB base mg cT PT) (EO : DefAt K mg "_law_error_of" s_law_error_of ["_law_call"])
    (f : Addr) (A : Around) (outer : List Env) (s : Shared) (H0 : Hp) (E : XK) (hr : Room 15 (A.deeper (envOfC "law" (defScope slaw) s.heap.objs.size f (.ref cT)))) :
    ∃ t, PSs (cxOf CX0 P w K mg base ["_law_script", "_law_d", "_law_rota", "_law_lines", "_law_k", "_law_some", "_law_words", "_law_change", "_law_kind", "_law_word", "_law_at", "_law_rest", "_law_line", "_law_text", "_law_rows", "_law_head", "_law_total", "_law_operations", "_law_source", "_law_error"] "law" (defScope slaw) f (.ref cT) A outer s H0 E).nox (rest24 5) t ∧ ∀ (D : Ends) (d lp : Addr) (L : List (List Str)) (s0 s2 s4 s5 s6 s7 s8 s9 s10 s11 s12 s13 s14 s15 s16 s17 s18 s19 : Option V) (H : Hp), J24 PT d ((envOfC "law" (defScope slaw) s.heap.objs.size f (.ref cT)).qual ++ "<lambda>") lp L H → WdL L 10 26 → (∀ H', D.rt (.bl true) H') →
      t D [s0, some (.ref d), s2, some (.ref lp), s4, s5, s6, s7, s8, s9, s10, s11, s12, s13, s14, s15, s16, s17, s18, s19] H := by
  have nd := sclaw.nd
  have T := k.T
  obtain ⟨f1, fd1, m__law_below, kp__law_below, b__law_below, G__law_below⟩ := k.c_below.ex
  obtain ⟨t8, h8, r8⟩ := q8 k er hR gc TB EO f A outer s H0 E hr
  refine ⟨_, (pss_cons (ps_set (i := 6) nd rfl (Or.inl rfl) (pe_lst (pa_cons pe_str (pa_cons pe_str (pa_cons pe_str (pa_cons pe_str (pa_cons pe_str (pa_cons pe_str (pa_cons pe_str (pa_cons pe_str (pa_cons pe_str (pa_cons pe_str (pa_cons pe_str (pa_cons pe_str (pa_cons pe_str (pa_cons pe_str pa_nil))))))))))))))))
 (pss_cons (ps_for PassesOwn.never rfl (pi_range1 (by rfl) T.range (pa_cons (pe_call G__law_below (hr.mono (by first | decide | omega)) (by rfl) m__law_below kp__law_below b__law_below .nil pass0 (pa_cons (pv 1) (pa_cons pe_int pa_nil))) pa_nil)) (pg_name (i := 7) nd rfl (Or.inl rfl))
 (pss_cons (ps_par3 (i := 4) (j := 8) (l := 9) (by rfl) nd rfl rfl rfl (by decide) (by decide) (by decide) rfl rfl rfl (pa_cons (pe_call G__law_below (hr.mono (by first | decide | omega)) (by rfl) m__law_below kp__law_below b__law_below .nil pass0 (pa_cons (pv 1) (pa_cons (pe_callB (r := rLenS K) call_len_seq (by rfl) T.len PySem.boot_len (pa_cons (pv 3) pa_nil)) pa_nil))) (pa_cons (pe_call G__law_below (hr.mono (by first | decide | omega)) (by rfl) m__law_below kp__law_below b__law_below .nil pass0 (pa_cons (pv 1) (pa_cons pe_int pa_nil))) (pa_cons (pe_ix (r := rIxL K) ix_list (pv 6) (pe_call G__law_below (hr.mono (by first | decide | omega)) (by rfl) m__law_below kp__law_below b__law_below .nil pass0 (pa_cons (pv 1) (pa_cons pe_int pa_nil))) (fun _ _ => rfl)) pa_nil))) (by rfl))
 (pss_cons (ps_set (i := 10) nd rfl (Or.inl rfl) (pe_call G__law_below (hr.mono (by first | decide | omega)) (by rfl) m__law_below kp__law_below b__law_below .nil pass0 (pa_cons (pv 1) (pa_cons (pe_op op_add (pe_callB (r := rLenS K) call_len_seq (by rfl) T.len PySem.boot_len (pa_cons (pe_ix (r := rIxL K) ix_list (pv 3) (pv 4) (fun _ _ => rfl)) pa_nil)) pe_int) pa_nil))))
 (pss_one (ps_if (pt_cmpR op_eq (pv 8) pe_int (nomark _))
 (pss_one (ps_set (i := 3) nd rfl (Or.inl rfl) (pe_op op_cat (pe_op op_cat (pe_slice (r := rSlL K) sl_list (pv 3) po_none (po_some (pv 4))) (pe_lst (pa_cons (pe_lst (pa_cons (pv 9) pa_nil)) pa_nil))) (pe_slice (r := rSlL K) sl_list (pv 3) (po_some (pv 4)) po_none))))
 (pss_cons (ps_set (i := 11) nd rfl (Or.inl rfl) (pe_slice (r := rSlL K) sl_list (pe_ix (r := rIxL K) ix_list (pv 3) (pv 4) (fun _ _ => rfl)) (po_some (pe_op op_add (pv 10) (pe_op op_mod (pv 8) pe_int))) po_none))
 (pss_cons (ps_set (i := 12) nd rfl (Or.inl rfl) (pe_op op_cat (pe_op op_cat (pe_slice (r := rSlL K) sl_list (pe_ix (r := rIxL K) ix_list (pv 3) (pv 4) (fun _ _ => rfl)) po_none (po_some (pv 10))) (pe_op op_rep (pe_lst (pa_cons (pv 9) pa_nil)) (pe_op op_fdiv (pv 8) pe_int))) (pv 11)))
 (pss_one (ps_set (i := 3) nd rfl (Or.inl rfl) (pe_op op_cat (pe_op op_cat (pe_slice (r := rSlL K) sl_list (pv 3) po_none (po_some (pv 4))) (pe_lst (pa_cons (pv 12) pa_nil))) (pe_slice (r := rSlL K) sl_list (pv 3) (po_some (pe_op op_add (pv 4) pe_int)) po_none)))))))))))
 (pss_cons (ps_set (i := 13) nd rfl (Or.inr rfl) (pe_joinK (K := K) rfl pe_str (pe_lc (own := [("_law_line", 12)]) rfl nd (pi_listK (K := K) rfl (pv 3)) (blkOk_by (N := ["_law_script", "_law_d", "_law_rota", "_law_lines", "_law_k", "_law_some", "_law_words", "_law_change", "_law_kind", "_law_word", "_law_at", "_law_rest", "_law_line", "_law_text", "_law_rows", "_law_head", "_law_total", "_law_operations", "_law_source", "_law_error"]) (sc := defScope slaw) (by decide +kernel)) (fun _ _ _ _ _ => (pg_name (i := 12) nd rfl (Or.inl rfl))) (fun _ _ _ _ _ => pts_nil) (fun _ _ _ _ _ => (pe_joinK (K := K) rfl pe_str (pv 12))))))
 h8))), ?_⟩
  intro D d lp L s0 s2 s4 s5 s6 s7 s8 s9 s10 s11 s12 s13 s14 s15 s16 s17 s18 s19 H j wd q
  refine ⟨by show 14 ≤ sizeLine; decide, fun wl hwl => ?_⟩
  have nwd : wl ≠ d := by
    obtain ⟨x, y, r, hd, _⟩ := j.dr
    exact fun e => by rw [e, hd] at hwl; cases hwl
  have j1 := j.wd0 ((Wd.refl H).new (.lst (wl24.map V.str)) hwl)
  have h1 : upd H wl (.lst (wl24.map V.str)) wl = some (.lst (wl24.map V.str)) := upd_same
  have e1 : upd H wl (.lst [V.str "5", V.str "05", V.str "0", V.str "500", V.str "999", V.str "1000", V.str "", V.str "a", V.str "bb", V.str "step", V.str "undo", V.str "gift", V.str "of", V.str "x"]) = upd H wl (.lst (wl24.map V.str)) := rfl
  rw [e1]
  generalize upd H wl (.lst (wl24.map V.str)) = H1 at j1 h1 ⊢
  obtain ⟨x1, y1, r1, hd1, ok1⟩ := j1.dr
  refine ⟨_, rfl, d, _, x1, y1, r1, rfl, by decide, by decide, hd1, ok1, fun nn a1 b1 r1' H2 w2 ok2 n0 n4 => ?_⟩
  have j2 := j1.bel w2 (w2.get 0 rfl) ok2
  have h2 := w2.base _ _ (by simpa using nwd) h1
  let qq : Str := (envOfC "law" (defScope slaw) s.heap.objs.size f (.ref cT)).qual ++ "<lambda>"
  refine ⟨nn, rfl, by omega, by omega, ?_⟩
  refine for_range (lo := 0) (n := nn.toNat) (fun i σ H' => ∃ lp' L' e4 e7 e8 e9 e10 e11 e12, σ = [s0, some (.ref d), s2, some (.ref lp'), e4, s5, some (.ref wl), e7, e8, e9, e10, e11, e12, s13, s14, s15, s16, s17, s18, s19] ∧ J24 PT d qq lp' L' H' ∧ WdL L' (10 + i) (26 + i) ∧ H' wl = some (.lst (wl24.map V.str))) ⟨lp, L, _, _, _, _, _, _, _, rfl, j2, wd, h2⟩ ?_ ?_
  · rintro i σ H3 hi ⟨lp3, L3, e4, e7, e8, e9, e10, e11, e12, rfl, j3, wd3, h3⟩
    obtain ⟨x3, y3, r3, hd3, ok3⟩ := j3.dr
    obtain ⟨las, hlp3, hln3, hd3', hll3⟩ := j3.ln
    have ll3 := hln3.len
    have L1 : 1 ≤ L3.length := by cases hL : L3 with
      | nil => exact absurd hL wd3.ne
      | cons a b => exact Nat.succ_pos _
    have lb := wd3.len
    refine ⟨_, rfl, _, rfl, lp3, _, rfl, .inl (SqL.of hlp3), d, _, x3, y3, r3, rfl, by rw [List.length_map]; omega, by rw [List.length_map]; omega, hd3, ok3, fun kk a4 b4 r4' H4 w4 ok4 k0 k1 => ?_⟩
    rw [List.length_map, ll3] at k1
    have j4 := j3.bel w4 (w4.get 0 rfl) ok4
    have h4 := w4.base _ _ (by simpa using nwd) h3
    have hd4 := w4.get 0 rfl
    refine ⟨_, rfl, d, _, a4, b4, r4', rfl, by decide, by decide, hd4, ok4, fun kd a5 b5 r5' H5 w5 ok5 kd0 kd6 => ?_⟩
    have j5 := j4.bel w5 (w5.get 0 rfl) ok5
    have h5 := w5.base _ _ (by simpa using nwd) h4
    have hd5 := w5.get 0 rfl
    refine ⟨_, rfl, _, rfl, d, _, a5, b5, r5', rfl, by decide, by decide, hd5, ok5, fun kw a6 b6 r6' H6 w6 ok6 kw0 kw1 => ?_⟩
    have j6 := j5.bel w6 (w6.get 0 rfl) ok6
    have h6 := w6.base _ _ (by simpa using nwd) h5
    have hd6 := w6.get 0 rfl
    obtain ⟨iw, vw, ekw, hiw, hatw⟩ := atI_mem (xs := wl24.map V.str) kw0 (by rw [List.length_map]; exact kw1)
    rw [List.getElem?_map] at hiw
    obtain ⟨wd6, hwd6, rfl⟩ := Option.map_eq_some_iff.mp hiw
    have hww : wd6 ∈ ws24 := by
      have hm := List.mem_of_getElem? hwd6
      have al : ∀ z ∈ wl24, z ∈ ws24 := by decide +kernel
      exact al _ hm
    refine ⟨wl, _, kw, .str wd6, rfl, rfl, SqL.of h6, hatw, ?_⟩
    obtain ⟨las6, hlp6, hln6, hdn6, hlln6⟩ := j6.ln
    have ll6 := hln6.len
    obtain ⟨ik, vk, rfl, hik, hatk⟩ := atI_mem (xs := las6.map V.ref) k0 (by rw [List.length_map, ll6]; exact k1)
    rw [List.getElem?_map] at hik
    obtain ⟨la, hla, rfl⟩ := Option.map_eq_some_iff.mp hik
    obtain ⟨wsk, hLk, hHla⟩ := hln6.get hla
    have wc := row_one24 wd3 wsk (List.mem_of_getElem? hLk)
    refine ⟨_, _, _, rfl, _, rfl, _, rfl, _, rfl, lp3, _, (ik : Int), .ref la, rfl, rfl, SqL.of hlp6, hatk, la, _, rfl, .inl (SqL.of hHla), _, _, rfl, rfl, d, _, a6, b6, r6', rfl, by rw [List.length_map]; omega, by rw [List.length_map]; omega, hd6, ok6, fun ka a7 b7 r7' H7 w7 ok7 ka0 ka1 => ?_⟩
    rw [List.length_map] at ka1
    have j7 := j6.bel w7 (w7.get 0 rfl) ok7
    have h7 := w7.base _ _ (by simpa using nwd) h6
    clear j4 j5 j6 h4 h5 h6 hd4 hd5 hd6 w4 w5 w6 w7
    obtain ⟨las, hlp, hln, hdn, hlln⟩ := j7.ln
    clear hlp6 hln6 hdn6 hlln6 hla hHla hatk ll6
    have ll := hln.len
    have hkl : ik < L3.length := (List.getElem?_eq_some_iff.mp hLk).1
    obtain ⟨la, hla⟩ : ∃ a, las[ik]? = some a := ⟨_, List.getElem?_eq_getElem (by omega)⟩
    have hHla : H7 la = some (.lst (wsk.map V.str)) := by
      obtain ⟨ws', e1, e2⟩ := hln.get hla
      rw [hLk] at e1; cases e1; exact e2
    have hatk : atI (las.map V.ref) (ik : Int) = some (.ref la) := atI_nat (by rw [List.getElem?_map, hla]; rfl)
    have lm : (las.map V.ref).length = L3.length := by rw [List.length_map, ll]
    have szl : ∀ {n : Nat}, n ≤ 100 → n ≤ sizeLine := fun h => Nat.le_trans h (by decide)
    refine ⟨_, rfl, rfl, _, rfl, ite2 (fun c0 => ?_) (fun c0 => ?_)⟩
    · refine ⟨_, rfl, _, rfl, _, rfl, lp3, _, rfl, SqL.of hlp, fun c1 hc1 => ?_⟩
      rw [cut_to (by omega)]
      refine ⟨_, rfl, (by show 1 ≤ sizeLine; decide), fun b hb => ⟨(by show 1 ≤ sizeLine; decide), fun c hc => ?_⟩⟩
      have n1 := (((Wd.refl H7).new (.lst ((las.map V.ref).take ik)) hc1).new (.lst [.str wd6]) hb).new (.lst [.ref b]) hc
      refine ⟨_, _, _, _, rfl, rfl, n1.get 2 rfl, n1.get 0 rfl, szl (by rw [List.length_take]; show min _ _ + 1 ≤ _; omega), fun r1 hr1 => ?_⟩
      have n2 := n1.new (.lst ((las.map V.ref).take ik ++ [.ref b])) hr1
      refine ⟨_, rfl, _, rfl, _, rfl, lp3, _, rfl, SqL.of (n2.base _ _ (by simp) hlp), fun c2 hc2 => ?_⟩
      rw [cut_from]
      have n3 := n2.new (.lst ((las.map V.ref).drop ik)) hc2
      refine ⟨_, _, _, _, rfl, rfl, n3.get 1 rfl, n3.get 0 rfl, szl (by rw [List.length_append, List.length_take, List.length_drop]; show min _ _ + 1 + _ ≤ _; omega), fun r2 hr2 => ?_⟩
      have el : (las.map V.ref).take ik ++ [V.ref b] ++ (las.map V.ref).drop ik = (las.take ik ++ [b] ++ las.drop ik).map V.ref := by rw [List.map_append, List.map_append, List.map_take, List.map_drop]; rfl
      rw [el]
      have j8 := j7.wd0 n3
      have ln8 : LnT _ (las.take ik ++ [b] ++ las.drop ik) (L3.take ik ++ [[wd6]] ++ L3.drop ik) := ((LnT.app (LnT.take ik (hln.old n3 fun _ _ h => nomatch h)) (show LnT _ [b] [[wd6]] from ⟨n3.get 3 rfl, trivial⟩)).app (LnT.drop ik (hln.old n3 fun _ _ h => nomatch h)))
      have nb : b ≠ d := fun e => by
        obtain ⟨x, y, r, hd, _⟩ := j7.dr
        have h := ((Wd.refl H7).new (.lst ((las.map V.ref).take ik)) hc1).base _ _ (by simp) hd
        rw [← e, hb] at h; cases h
      have hd8 : d ∉ las.take ik ++ [b] ++ las.drop ik := fun hm => by
        rcases List.mem_append.mp hm with hm | hm
        · rcases List.mem_append.mp hm with hm | hm
          · exact hdn (List.mem_of_mem_take hm)
          · exact nb (List.mem_singleton.mp hm).symm
        · exact hdn (List.mem_of_mem_drop hm)
      have j9 := j8.re ln8 hd8 hr2 (j8.ned hr2)
      exact ⟨r2, _, _, _, _, _, _, _, _, rfl, j9, wd3.ins hww, (((Wd.refl _).new (.lst ((las.take ik ++ [b] ++ las.drop ik).map V.ref)) hr2).base _ _ (by simp) (n3.base _ _ (by simp) h7))⟩
    · have hka : ∃ m : Nat, ka = (m : Int) ∧ m ≤ wsk.length := ⟨ka.toNat, by omega, by omega⟩
      obtain ⟨m, rfl, hm⟩ := hka
      obtain ⟨kn, rfl, hkn⟩ : ∃ n : Nat, kd = (n : Int) ∧ n ≤ 5 := ⟨kd.toNat, by omega, by omega⟩
      refine ⟨_, rfl, _, rfl, lp3, _, (ik : Int), .ref la, rfl, rfl, SqL.of hlp, hatk, ?_⟩
      have nowH : ∀ {H' : Hp} {l : List (Addr × HO)}, Wd [] H7 H' l → H' lp3 = some (.lst (las.map V.ref)) ∧ H' la = some (.lst (wsk.map V.str)) := fun w => ⟨w.base _ _ (by simp) hlp, w.base _ _ (by simp) hHla⟩
      refine ⟨_, rfl, _, rfl, _, _, rfl, rfl, (by show (0 : Int) < 2; decide), _, _, rfl, rfl, _, rfl, la, _, rfl, SqL.of hHla, fun c1 hc1 => ?_⟩
      have e2 : ((m : Int) + (kn : Int) % 2) = ((m + kn % 2 : Nat) : Int) := by omega
      rw [e2, cut_from]
      have n1 := (Wd.refl H7).new (.lst ((wsk.map V.str).drop (m + kn % 2))) hc1
      refine ⟨_, rfl, _, rfl, lp3, _, (ik : Int), .ref la, rfl, rfl, SqL.of (nowH n1).1, hatk, _, rfl, _, rfl, la, _, rfl, SqL.of (nowH n1).2, fun c2 hc2 => ?_⟩
      rw [cut_to (by rw [List.length_map]; exact hm)]
      have n2 := n1.new (.lst ((wsk.map V.str).take m)) hc2
      refine ⟨_, rfl, (by show 1 ≤ sizeLine; decide), fun c3 hc3 => ?_⟩
      have n3 := n2.new (.lst [.str wd6]) hc3
      refine ⟨_, rfl, _, _, rfl, rfl, ⟨by decide, by decide⟩, ?_⟩
      have e3 : ((kn : Int) / 3).toNat = kn / 3 := by omega
      refine ⟨c3, _, _, rfl, rfl, n3.get 0 rfl, by omega, by omega, szl (by rw [e3]; show 1 * _ ≤ _; omega), fun c4 hc4 => ?_⟩
      rw [e3]
      have e4 : (List.replicate (kn / 3) [V.str wd6]).flatten = (List.replicate (kn / 3) wd6).map V.str := by rw [List.flatten_replicate_singleton, List.map_replicate]
      rw [e4]
      have n4 := n3.new (.lst ((List.replicate (kn / 3) wd6).map V.str)) hc4
      have ltk : ((wsk.map V.str).take m).length ≤ 45 := by rw [List.length_take, List.length_map]; omega
      have lrp : ((List.replicate (kn / 3) wd6).map V.str).length ≤ 1 := by rw [List.length_map, List.length_replicate]; omega
      have ldr : ((wsk.map V.str).drop (m + kn % 2)).length ≤ 45 := by rw [List.length_drop, List.length_map]; omega
      refine ⟨_, _, _, _, rfl, rfl, n4.get 2 rfl, n4.get 0 rfl, szl (by omega), fun c5 hc5 => ?_⟩
      have n5 := n4.new (.lst ((wsk.map V.str).take m ++ (List.replicate (kn / 3) wd6).map V.str)) hc5
      refine ⟨_, rfl, _, _, _, _, rfl, rfl, n5.get 0 rfl, n5.get 4 rfl, szl (by rw [List.length_append]; omega), fun c6 hc6 => ?_⟩
      let ws' : List Str := wsk.take m ++ List.replicate (kn / 3) wd6 ++ wsk.drop (m + kn % 2)
      have e5 : (wsk.map V.str).take m ++ (List.replicate (kn / 3) wd6).map V.str ++ (wsk.map V.str).drop (m + kn % 2) = ws'.map V.str := by
        show _ = (wsk.take m ++ List.replicate (kn / 3) wd6 ++ wsk.drop (m + kn % 2)).map V.str
        rw [List.map_append, List.map_append, List.map_take, List.map_drop]
      rw [e5]
      have hwl' : ws'.length ≤ wsk.length + 1 := by
        show (wsk.take m ++ List.replicate (kn / 3) wd6 ++ wsk.drop (m + kn % 2)).length ≤ _
        rw [List.length_append, List.length_append, List.length_take, List.length_replicate, List.length_drop]; omega
      have hwm' : ∀ w ∈ ws', w ∈ ws24 := fun w hw => by
        have hw : w ∈ wsk.take m ++ List.replicate (kn / 3) wd6 ++ wsk.drop (m + kn % 2) := hw
        have hk := wd3.mem wsk (List.mem_of_getElem? hLk)
        rcases List.mem_append.mp hw with hw | hw
        · rcases List.mem_append.mp hw with hw | hw
          · exact hk w (List.mem_of_mem_take hw)
          · rw [(List.mem_replicate.mp hw).2]; exact hww
        · exact hk w (List.mem_of_mem_drop hw)
      clear_value ws'
      have n6 := n5.new (.lst (ws'.map V.str)) hc6
      have n60 := n6.sub (l' := [(c6, .lst (ws'.map V.str))]) (by walk_at "sub")
      have nc6 : c6 ≠ d := fun e => by
        obtain ⟨x, y, r, hd, _⟩ := j7.dr
        have h := n5.base _ _ (by simp) hd
        rw [← e, hc6] at h; cases h
      generalize upd _ c6 (HO.lst (ws'.map V.str)) = H8 at n60 ⊢
      clear n1 n2 n3 n4 n5 n6
      refine ⟨_, rfl, _, rfl, _, rfl, lp3, _, rfl, SqL.of (nowH n60).1, fun c7 hc7 => ?_⟩
      rw [cut_to (by omega)]
      have n7 := n60.new (.lst ((las.map V.ref).take ik)) hc7
      refine ⟨_, rfl, (by show 1 ≤ sizeLine; decide), fun c8 hc8 => ?_⟩
      have n8 := n7.new (.lst [.ref c6]) hc8
      refine ⟨_, _, _, _, rfl, rfl, n8.get 1 rfl, n8.get 0 rfl, szl (by rw [List.length_take]; show min _ _ + 1 ≤ _; omega), fun c9 hc9 => ?_⟩
      have n9 := n8.new (.lst ((las.map V.ref).take ik ++ [.ref c6])) hc9
      refine ⟨_, rfl, _, rfl, _, _, rfl, rfl, _, rfl, lp3, _, rfl, SqL.of (nowH n9).1, fun c10 hc10 => ?_⟩
      have e6 : ((ik : Int) + 1) = ((ik + 1 : Nat) : Int) := by omega
      rw [e6, cut_from]
      have n10 := n9.new (.lst ((las.map V.ref).drop (ik + 1))) hc10
      refine ⟨_, _, _, _, rfl, rfl, n10.get 1 rfl, n10.get 0 rfl, szl (by rw [List.length_append, List.length_take, List.length_drop]; show min _ _ + 1 + _ ≤ _; omega), fun r2 hr2 => ?_⟩
      have el : (las.map V.ref).take ik ++ [V.ref c6] ++ (las.map V.ref).drop (ik + 1) = (las.take ik ++ [c6] ++ las.drop (ik + 1)).map V.ref := by rw [List.map_append, List.map_append, List.map_take, List.map_drop]; rfl
      rw [el]
      have j8 := j7.wd0 n10
      have ln8 : LnT _ (las.take ik ++ [c6] ++ las.drop (ik + 1)) (L3.take ik ++ [ws'] ++ L3.drop (ik + 1)) := ((LnT.app (LnT.take ik (hln.old n10 fun _ _ h => nomatch h)) (show LnT _ [c6] [ws'] from ⟨n10.get 4 rfl, trivial⟩)).app (LnT.drop (ik + 1) (hln.old n10 fun _ _ h => nomatch h)))
      have hd8 : d ∉ las.take ik ++ [c6] ++ las.drop (ik + 1) := fun hm => by
        rcases List.mem_append.mp hm with hm | hm
        · rcases List.mem_append.mp hm with hm | hm
          · exact hdn (List.mem_of_mem_take hm)
          · exact nc6 (List.mem_singleton.mp hm).symm
        · exact hdn (List.mem_of_mem_drop hm)
      have j9 := j8.re ln8 hd8 hr2 (j8.ned hr2)
      exact ⟨r2, _, _, _, _, _, _, _, _, rfl, j9, wd3.chg hLk hwl' hwm', (((Wd.refl _).new (.lst ((las.take ik ++ [c6] ++ las.drop (ik + 1)).map V.ref)) hr2).base _ _ (by simp) (n10.base _ _ (by simp) h7))⟩
  · rintro σ H3 ⟨lp3, L3, e4, e7, e8, e9, e10, e11, e12, rfl, j3, wd3, h3⟩
    obtain ⟨las, hlp, hln, hdn, hlln⟩ := j3.ln
    have ll := hln.len
    have lb := wd3.len
    refine ⟨⟨_, rfl⟩, _, rfl, lp3, rfl, ⟨_, SqL.of hlp⟩, fun D2 hD2 => ?_⟩
    have nD : lp3 ≠ D2 := ne_of_none hlp hD2
    refine lc_list (K := K) (a := lp3) (xs := las.map V.ref) (fun i H4 => Wd [] H3 H4 [(D2, .lst (((L3.take i).map rowW).map V.str))]) ((Wd.refl H3).new (.lst []) hD2) (fun i H4 _ w4 => SqL.of (w4.base _ _ (by simp) hlp)) ?_ ?_
    · rintro i x H4 hx w4
      rw [List.getElem?_map] at hx
      obtain ⟨la, hla, rfl⟩ := Option.map_eq_some_iff.mp hx
      obtain ⟨ws, hLi, hHla⟩ := hln.get hla
      have hil : i < L3.length := (List.getElem?_eq_some_iff.mp hLi).1
      have hm := wd3.mem ws (List.mem_of_getElem? hLi)
      have wc := row_one24 wd3 ws (List.mem_of_getElem? hLi)
      have n5 : nn.toNat ≤ 4 := by omega
      refine ⟨rfl, ⟨_, rfl⟩, _, rfl, _, la, ws, rfl, rfl, .inl (SqL.of (w4.base _ _ (by simp) hHla)), ?_, ?_⟩
      · have h8 := sum_le (fun s : Str => s.length) 10 ws fun x hx => (ws24_ok x (hm x hx)).2.2.1
        have e1 : ((" " : Str)).length = 1 := by decide
        rw [e1]; omega
      · refine ⟨_, w4.get 0 rfl, by rw [List.length_map, List.length_map, List.length_take]; exact lt_line (by omega), ?_⟩
        rw [take_more hLi, List.map_append, List.map_append]
        exact w4.app0 _
    · intro H4 w4
      rw [List.length_map, ll, List.take_length] at w4
      have n5 : nn.toNat ≤ 4 := by omega
      refine ⟨_, D2, L3.map rowW, rfl, rfl, .inl (SqL.of (w4.get 0 rfl)), ?_, ?_⟩
      · have h8 := rows_len24 wd3.mem
        have h9 := wd3.cnt
        have e1 : (("\n" : Str)).length = 1 := by decide
        rw [e1, List.length_map]; omega
      · exact r8 D (textW L3) _ _ _ _ _ _ _ _ _ _ _ _ _ _ _ _ _ _ _ _ ((j3.wd0 w4).tabs) (text_ok24 wd3 (by omega) (by omega)) q
end
end Br

-- REN CB CB
namespace Br
open PySem PySem.Spec PyProof.Rows L2
def some7 : List (List Str) := [["step", "5"], ["gift", "a"], ["forgive", "bb"], ["step", "1"], ["reset"], ["undo"], ["redo"]]
theorem some7_ok : ∀ ws ∈ some7, ws.length ≤ 2 ∧ ∀ w ∈ ws, w ∈ ws24 := by decide +kernel
theorem WdL.mono {L : List (List Str)} {a b c e : Nat} (h : WdL L a b) (h1 : a ≤ c) (h2 : b ≤ e) : WdL L c e := ⟨h.ne, Nat.le_trans h.len h1, Nat.le_trans h.cnt h2, h.mem⟩
theorem WdL.app {L : List (List Str)} {a b : Nat} {ws : List Str} (h : WdL L a b) (hl : ws.length ≤ 2) (hz : ∀ w ∈ ws, w ∈ ws24) : WdL (L ++ [ws]) (a + 1) (b + 2) := by
  have h1 := h.len
  have h2 := h.cnt
  refine ⟨by simp, by rw [List.length_append]; show _ + 1 ≤ _; omega, ?_, fun x hx => ?_⟩
  · rw [List.map_append, List.sum_append_nat]
    show _ + (ws.length + 0) ≤ _
    omega
  · rcases List.mem_append.mp hx with hx | hx
    · exact h.mem x hx
    · rw [List.mem_singleton.mp hx]; exact hz
section
variable {P : Program} {w : World} {K : PySem.W.Frag} {mg : Str → Option Value} {base : Heap} {CB CF CK CI CS CR PT cT : Addr} {cs : Nat → Addr}
theorem q3 (k : K24 P w K mg base CB CF CK CI CS) (er : Er4 K cs CR CF CK CI CS) (hR : mg "RotaError" = some (.ref CR)) (gc : ∀ i, i < 14 → mg (clsN.getD i "") = some (.ref (cs i))) (TB : LamX.TabB base mg cT PT) (EO : DefAt K mg "_law_error_of" s_law_error_of ["_law_call"])
    (f : Addr) (A : Around) (outer : List Env) (s : Shared) (H0 : Hp) (E : XK) (hr : Room 15 (A.deeper (envOfC "law" (defScope slaw) s.heap.objs.size f (.ref cT)))) :
    ∃ t, PSs (cxOf CX0 P w K mg base ["_law_script", "_law_d", "_law_rota", "_law_lines", "_law_k", "_law_some", "_law_words", "_law_change", "_law_kind", "_law_word", "_law_at", "_law_rest", "_law_line", "_law_text", "_law_rows", "_law_head", "_law_total", "_law_operations", "_law_source", "_law_error"] "law" (defScope slaw) f (.ref cT) A outer s H0 E).nox (rest24 3) t ∧ ∀ (D : Ends) (d lp : Addr) (L : List (List Str)) (s0 s2 s4 s5 s6 s7 s8 s9 s10 s11 s12 s13 s14 s15 s16 s17 s18 s19 : Option V) (H : Hp), J24 PT d ((envOfC "law" (defScope slaw) s.heap.objs.size f (.ref cT)).qual ++ "<lambda>") lp L H → WdL L 4 14 → (∀ H', D.rt (.bl true) H') →
      t D [s0, some (.ref d), s2, some (.ref lp), s4, s5, s6, s7, s8, s9, s10, s11, s12, s13, s14, s15, s16, s17, s18, s19] H := by
  have nd := sclaw.nd
  have T := k.T
  obtain ⟨f1, fd1, m__law_below, kp__law_below, b__law_below, G__law_below⟩ := k.c_below.ex
  obtain ⟨t5, h5, r5⟩ := q5 k er hR gc TB EO f A outer s H0 E hr
  refine ⟨_, (pss_cons (ps_for PassesOwn.never rfl (pi_range1 (by rfl) T.range (pa_cons (pe_call G__law_below (hr.mono (by first | decide | omega)) (by rfl) m__law_below kp__law_below b__law_below .nil pass0 (pa_cons (pv 1) (pa_cons pe_int pa_nil))) pa_nil)) (pg_name (i := 4) nd rfl (Or.inl rfl))
 (pss_cons (ps_set (i := 5) nd rfl (Or.inl rfl) (pe_lst (pa_cons (pe_lst (pa_cons pe_str (pa_cons pe_str pa_nil))) (pa_cons (pe_lst (pa_cons pe_str (pa_cons pe_str pa_nil))) (pa_cons (pe_lst (pa_cons pe_str (pa_cons pe_str pa_nil))) (pa_cons (pe_lst (pa_cons pe_str (pa_cons pe_str pa_nil))) (pa_cons (pe_lst (pa_cons pe_str pa_nil)) (pa_cons (pe_lst (pa_cons pe_str pa_nil)) (pa_cons (pe_lst (pa_cons pe_str pa_nil)) pa_nil)))))))))
 (pss_one (ps_expr (pe_bmK (K := K) rfl PySem.F.plainAttrs_list PySem.F.slot_list_append PySem.F.type_list_append mt_append (pv 3) (pa_cons (pe_ix (r := rIxL K) ix_list (pv 5) (pe_call G__law_below (hr.mono (by first | decide | omega)) (by rfl) m__law_below kp__law_below b__law_below .nil pass0 (pa_cons (pv 1) (pa_cons pe_int pa_nil))) (fun _ _ => rfl)) pa_nil))))))
 (C8.pss_cut (ps_if (pt_cmpR op_eq (pe_call G__law_below (hr.mono (by first | decide | omega)) (by rfl) m__law_below kp__law_below b__law_below .nil pass0 (pa_cons (pv 1) (pa_cons pe_int pa_nil))) pe_int (nomark _))
 (pss_one (ps_expr (pe_bmK (K := K) rfl PySem.F.plainAttrs_list PySem.F.slot_list_append PySem.F.type_list_append mt_append (pv 3) (pa_cons (pe_lst (pa_cons pe_str (pa_cons (pe_ix (r := rIxL K) ix_list (pe_lst (pa_cons pe_str (pa_cons pe_str (pa_cons pe_str (pa_cons pe_str (pa_cons pe_str pa_nil)))))) (pe_call G__law_below (hr.mono (by first | decide | omega)) (by rfl) m__law_below kp__law_below b__law_below .nil pass0 (pa_cons (pv 1) (pa_cons pe_int pa_nil))) (fun _ _ => rfl)) pa_nil))) pa_nil))))
 pss_nil)
 h5)), ?_⟩
  intro D d lp L s0 s2 s4 s5 s6 s7 s8 s9 s10 s11 s12 s13 s14 s15 s16 s17 s18 s19 H j wd q
  have szs : ∀ {n : Nat}, n ≤ 100 → n ≤ sizeLine := fun h => Nat.le_trans h (by decide)
  let qq : Str := (envOfC "law" (defScope slaw) s.heap.objs.size f (.ref cT)).qual ++ "<lambda>"
  obtain ⟨x1, y1, r1, hd1, ok1⟩ := j.dr
  refine ⟨_, rfl, d, _, x1, y1, r1, rfl, by decide, by decide, hd1, ok1, fun nn a1 b1 r1' H2 w2 ok2 n0 n6 => ?_⟩
  have j2 := j.bel w2 (w2.get 0 rfl) ok2
  refine ⟨nn, rfl, by omega, by omega, ?_⟩
  refine for_range (lo := 0) (n := nn.toNat) (fun i σ H' => ∃ L' e4 e5, σ = [s0, some (.ref d), s2, some (.ref lp), e4, e5, s6, s7, s8, s9, s10, s11, s12, s13, s14, s15, s16, s17, s18, s19] ∧ J24 PT d qq lp L' H' ∧ WdL L' (4 + i) (14 + 2 * i)) ⟨L, _, _, rfl, j2, wd⟩ ?_ ?_
  · rintro i σ H3 hi ⟨L3, e4, e5, rfl, j3, wd3⟩
    refine ⟨(by show 2 ≤ sizeLine; decide), fun a1 ha1 => ⟨(by show 2 ≤ sizeLine; decide), fun a2 ha2 => ⟨(by show 2 ≤ sizeLine; decide), fun a3 ha3 => ⟨(by show 2 ≤ sizeLine; decide), fun a4 ha4 => ⟨(by show 1 ≤ sizeLine; decide), fun a5 ha5 => ⟨(by show 1 ≤ sizeLine; decide), fun a6 ha6 => ⟨(by show 1 ≤ sizeLine; decide), fun a7 ha7 => ⟨(by show 7 ≤ sizeLine; decide), fun sl hsl => ?_⟩⟩⟩⟩⟩⟩⟩⟩
    have n7 := (((((((Wd.refl H3).new (.lst [.str "step", .str "5"]) ha1).new (.lst [.str "gift", .str "a"]) ha2).new (.lst [.str "forgive", .str "bb"]) ha3).new (.lst [.str "step", .str "1"]) ha4).new (.lst [.str "reset"]) ha5).new (.lst [.str "undo"]) ha6).new (.lst [.str "redo"]) ha7
    have n8 := n7.new (.lst [.ref a1, .ref a2, .ref a3, .ref a4, .ref a5, .ref a6, .ref a7]) hsl
    have j8 := j3.wd0 n8
    have hs8 := n8.get 0 rfl
    have l8 : LnT _ [a1, a2, a3, a4, a5, a6, a7] some7 := ⟨n8.get 7 rfl, n8.get 6 rfl, n8.get 5 rfl, n8.get 4 rfl, n8.get 3 rfl, n8.get 2 rfl, n8.get 1 rfl, trivial⟩
    have fr : ∀ a ∈ [sl, a1, a2, a3, a4, a5, a6, a7], H3 a = none := fun a ha => by
      have ow : ∀ o, (a, o) ∈ [(sl, HO.lst [.ref a1, .ref a2, .ref a3, .ref a4, .ref a5, .ref a6, .ref a7]), (a7, .lst [.str "redo"]), (a6, .lst [.str "undo"]), (a5, .lst [.str "reset"]), (a4, .lst [.str "step", .str "1"]), (a3, .lst [.str "forgive", .str "bb"]), (a2, .lst [.str "gift", .str "a"]), (a1, .lst [.str "step", .str "5"])] → H3 a = none := fun o h => (n8.own _ h).elim id (fun h => nomatch h)
      simp only [List.mem_cons, List.not_mem_nil, or_false] at ha
      rcases ha with rfl | rfl | rfl | rfl | rfl | rfl | rfl | rfl
      · exact ow _ (.head _)
      · exact ow _ (.tail _ (.tail _ (.tail _ (.tail _ (.tail _ (.tail _ (.tail _ (.head _))))))))
      · exact ow _ (.tail _ (.tail _ (.tail _ (.tail _ (.tail _ (.tail _ (.head _)))))))
      · exact ow _ (.tail _ (.tail _ (.tail _ (.tail _ (.tail _ (.head _))))))
      · exact ow _ (.tail _ (.tail _ (.tail _ (.tail _ (.head _)))))
      · exact ow _ (.tail _ (.tail _ (.tail _ (.head _))))
      · exact ow _ (.tail _ (.tail _ (.head _)))
      · exact ow _ (.tail _ (.head _))
    obtain ⟨las3, hlp3, _⟩ := j3.ln
    have nlp : ∀ a ∈ [sl, a1, a2, a3, a4, a5, a6, a7], a ≠ lp := fun a ha e => by
      have := fr a ha
      rw [e, hlp3] at this; cases this
    have ndd : ∀ a ∈ [sl, a1, a2, a3, a4, a5, a6, a7], a ≠ d := fun a ha => j3.ned (fr a ha)
    generalize upd _ sl (HO.lst [.ref a1, .ref a2, .ref a3, .ref a4, .ref a5, .ref a6, .ref a7]) = H8 at j8 hs8 l8 ⊢
    obtain ⟨x8, y8, r8, hd8, ok8⟩ := j8.dr
    obtain ⟨las8, hlp8, _⟩ := j8.ln
    refine ⟨_, rfl, .inl ⟨rfl, _, SqL.of hlp8⟩, _, rfl, _, rfl, d, _, x8, y8, r8, rfl, by decide, by decide, hd8, ok8, fun kk a9 b9 r9 H9 w9 ok9 k0 k7 => ?_⟩
    have j9 := j8.bel w9 (w9.get 0 rfl) ok9
    have hs9 := w9.base _ _ (by simpa using ndd sl (by simp)) hs8
    have l9 : LnT H9 [a1, a2, a3, a4, a5, a6, a7] some7 := l8.old w9 fun a ha hm => ndd a (List.mem_cons_of_mem _ ha) (List.mem_singleton.mp hm)
    obtain ⟨ik, vk, rfl, hik, hatk⟩ := atI_mem (xs := [a1, a2, a3, a4, a5, a6, a7].map V.ref) k0 k7
    rw [List.getElem?_map] at hik
    obtain ⟨p, hp, rfl⟩ := Option.map_eq_some_iff.mp hik
    obtain ⟨ws, hws, hHp⟩ := l9.get hp
    have hpm := List.mem_of_getElem? hp
    obtain ⟨o1, o2⟩ := some7_ok ws (List.mem_of_getElem? hws)
    obtain ⟨las9, hlp9, hll9, j10⟩ := j9.app hHp (ndd p (List.mem_cons_of_mem _ hpm)) (nlp p (List.mem_cons_of_mem _ hpm))
    have lb := wd3.len
    refine ⟨sl, _, (ik : Int), .ref p, rfl, rfl, SqL.of hs9, hatk, lp, _, _, rfl, rfl, hlp9, by rw [List.length_map, hll9]; exact lt_line (by omega), ?_⟩
    exact ⟨_, _, _, rfl, j10, (wd3.app o1 o2).mono (by omega) (by omega)⟩
  · rintro σ H3 ⟨L3, e4, e5, rfl, j3, wd3⟩
    have nn5 : nn.toNat ≤ 5 := by omega
    refine ⟨fun σ H' => ∃ L' e4 e5, σ = [s0, some (.ref d), s2, some (.ref lp), e4, e5, s6, s7, s8, s9, s10, s11, s12, s13, s14, s15, s16, s17, s18, s19] ∧ J24 PT d qq lp L' H' ∧ WdL L' 10 26, ?_, ?_⟩
    · obtain ⟨x3, y3, r3, hd3, ok3⟩ := j3.dr
      refine ⟨_, rfl, d, _, x3, y3, r3, rfl, by decide, by decide, hd3, ok3, fun kk a9 b9 r9 H9 w9 ok9 k0 k4 => ?_⟩
      have j9 := j3.bel w9 (w9.get 0 rfl) ok9
      refine ⟨rfl, _, rfl, ite2 (fun c0 => ?_) (fun c0 => ?_)⟩
      · obtain ⟨las9, hlp9, _⟩ := j9.ln
        refine ⟨_, rfl, .inl ⟨rfl, _, SqL.of hlp9⟩, (by show 5 ≤ sizeLine; decide), fun wl hwl => ?_⟩
        have n10 := (Wd.refl H9).new (.lst ((["away", "A", "abcdefghi", "", "zz"] : List Str).map V.str)) hwl
        have j10 := j9.wd0 n10
        have nwd := j9.ned hwl
        have hw10 := n10.get 0 rfl
        have e1 : upd H9 wl (.lst [V.str "away", V.str "A", V.str "abcdefghi", V.str "", V.str "zz"]) = upd H9 wl (.lst ((["away", "A", "abcdefghi", "", "zz"] : List Str).map V.str)) := rfl
        rw [e1]
        generalize upd H9 wl (.lst ((["away", "A", "abcdefghi", "", "zz"] : List Str).map V.str)) = H10 at j10 hw10 ⊢
        obtain ⟨x10, y10, r10, hd10, ok10⟩ := j10.dr
        refine ⟨_, rfl, d, _, x10, y10, r10, rfl, by decide, by decide, hd10, ok10, fun kz a11 b11 r11 H11 w11 ok11 z0 z5 => ?_⟩
        have j11 := j10.bel w11 (w11.get 0 rfl) ok11
        have hw11 := w11.base _ _ (by simpa using nwd) hw10
        obtain ⟨iz, vz, rfl, hiz, hatz⟩ := atI_mem (xs := (["away", "A", "abcdefghi", "", "zz"] : List Str).map V.str) z0 (by rw [List.length_map]; exact z5)
        rw [List.getElem?_map] at hiz
        obtain ⟨zz, hzz, rfl⟩ := Option.map_eq_some_iff.mp hiz
        have hzm : zz ∈ ws24 := by
          have al : ∀ z ∈ (["away", "A", "abcdefghi", "", "zz"] : List Str), z ∈ ws24 := by decide +kernel
          exact al _ (List.mem_of_getElem? hzz)
        refine ⟨wl, _, (iz : Int), .str zz, rfl, rfl, SqL.of hw11, hatz, (by show 2 ≤ sizeLine; decide), fun p hp => ?_⟩
        have n12 := (Wd.refl H11).new (.lst (([("gift" : Str), zz]).map V.str)) hp
        have j12 := j11.wd0 n12
        obtain ⟨las11, hlp11, _⟩ := j11.ln
        have nplp : p ≠ lp := (ne_of_none hlp11 hp).symm
        obtain ⟨las12, hlp12, hll12, j13⟩ := j12.app (ws := [("gift" : Str), zz]) (n12.get 0 rfl) (j11.ned hp) nplp
        have lb := wd3.len
        refine ⟨lp, _, _, rfl, rfl, hlp12, by rw [List.length_map, hll12]; exact lt_line (by omega), ?_⟩
        have hg : ("gift" : Str) ∈ ws24 := by decide +kernel
        refine ⟨_, _, _, rfl, j13, (wd3.app (ws := [("gift" : Str), zz]) (Nat.le_refl _) fun w hw => ?_).mono (by omega) (by omega)⟩
        simp only [List.mem_cons, List.not_mem_nil, or_false] at hw
        rcases hw with rfl | rfl
        · exact hg
        · exact hzm
      · exact ⟨_, _, _, rfl, j9, wd3.mono (by omega) (by omega)⟩
    · rintro σ H4 ⟨L4, e4, e5, rfl, j4, wd4⟩
      exact r5 D d lp L4 _ _ _ _ _ _ _ _ _ _ _ _ _ _ _ _ _ _ H4 j4 wd4 q
end
end Br

-- REN CB CB
namespace Br
open PySem PySem.Spec PyProof.Rows L2
def rl24 : List Str := ["people a bb;", " turns a bb;", "away bb 0 of 2;"]
def rw24 : List (List Str) := [["people", "a", "bb;"], ["", "turns", "a", "bb;"], ["away", "bb", "0", "of", "2;"]]
theorem rl_split : ∀ i : Fin 3, (rl24[i.val]?).map (fun z => Txt.split z " ") = rw24[i.val]? := by decide +kernel
theorem rl_len : ∀ z ∈ rl24, z.length ≤ 20 := by decide +kernel
theorem str24 {i : Int} (h : i = 2 ∨ i = 3 ∨ i = 4) : Str.ofString (toString i) ∈ ws24 := by
  rcases h with rfl | rfl | rfl <;> decide +kernel
theorem rw24_ok (n : Nat) (hn : n = 2 ∨ n = 3) {z : Str} (hz : z ∈ ws24) : WdL ([[("rota" : Str), z]] ++ rw24.take n) 4 14 := by
  have hr : ("rota" : Str) ∈ ws24 := by decide +kernel
  have al : ∀ ws ∈ rw24, ∀ w ∈ ws, w ∈ ws24 := by decide +kernel
  refine ⟨by simp, ?_, ?_, fun ws hws => ?_⟩
  · rcases hn with rfl | rfl
    · show 1 + 2 ≤ 4; decide
    · show 1 + 3 ≤ 4; decide
  · rcases hn with rfl | rfl
    · show 2 + (3 + (4 + 0)) ≤ 14; decide
    · show 2 + (3 + (4 + (5 + 0))) ≤ 14; decide
  · rcases List.mem_append.mp hws with h | h
    · rw [List.mem_singleton.mp h]
      intro w hw
      simp only [List.mem_cons, List.not_mem_nil, or_false] at hw
      rcases hw with rfl | rfl
      · exact hr
      · exact hz
    · exact al ws (List.mem_of_mem_take h)
section
variable {P : Program} {w : World} {K : PySem.W.Frag} {mg : Str → Option Value} {base : Heap} {CB CF CK CI CS CR PT cT : Addr} {cs : Nat → Addr}
def spLaw (PT : Addr) (K : PySem.W.Frag) : Sp := fun vs H Q _ => ∃ (a : Addr) (ns : List Int), vs = [.ref a] ∧ SqL K H a (ns.map V.int) ∧ ns.length ≤ 63 ∧ H PT = some (.tbl #[]) ∧ ∀ H', Q (.bl true) H'
theorem law_ok {f : Addr} {fd : FuncData} (F : FunC K "law" "law" slaw f fd cT) (k : K24 P w K mg base CB CF CK CI CS) (er : Er4 K cs CR CF CK CI CS) (hR : mg "RotaError" = some (.ref CR)) (gc : ∀ i, i < 14 → mg (clsN.getD i "") = some (.ref (cs i))) (TB : LamX.TabB base mg cT PT) (EO : DefAt K mg "_law_error_of" s_law_error_of ["_law_call"]) : FnOk P w K mg base CX0 16 f fd ["_law_script"] (spLaw PT K) := by
  have nd := sclaw.nd
  have T := k.T
  obtain ⟨f0, fd0, m__law_random, kp__law_random, b__law_random, G__law_random⟩ := k.c_random.ex
  obtain ⟨f1, fd1, m__law_below, kp__law_below, b__law_below, G__law_below⟩ := k.c_below.ex
  refine F.ok sclaw (fun vs H Q E h => ?_) (fun A outer s H vs Q E hr h => ?_)
  · obtain ⟨a, ns, rfl, _⟩ := h; rfl
  obtain ⟨a, ns, rfl, ha, hn, hP, q⟩ := h
  obtain ⟨t3, h3, r3⟩ := q3 k er hR gc TB EO f A outer s H E hr
  refine ⟨_, (pss_cons (ps_set (i := 1) nd rfl (Or.inl rfl) (pe_call G__law_random (hr.mono (by first | decide | omega)) (by rfl) m__law_random kp__law_random b__law_random .nil pass0 (pa_cons (pv 0) (pa_cons pe_int pa_nil))))
 (pss_cons (ps_set (i := 2) nd rfl (Or.inl rfl) (pe_slice (r := rSlL K) sl_list (pe_lst (pa_cons pe_str (pa_cons pe_str (pa_cons pe_str pa_nil)))) po_none (po_some (pe_op op_add pe_int (pe_call G__law_below (hr.mono (by first | decide | omega)) (by rfl) m__law_below kp__law_below b__law_below .nil pass0 (pa_cons (pv 1) (pa_cons pe_int pa_nil)))))))
 (pss_cons (ps_set (i := 3) nd rfl (Or.inl rfl) (pe_op op_cat (pe_lst (pa_cons (pe_lst (pa_cons pe_str (pa_cons (pe_callTy call_str_int (by rfl) T.str (by decide +kernel) (pa_cons (pe_op op_add (pe_callB (r := rLenS K) call_len_seq (by rfl) T.len PySem.boot_len (pa_cons (pv 2) pa_nil)) (pe_ix (r := rIxL K) ix_list (pe_lst (pa_cons pe_int (pa_cons pe_int (pa_cons pe_int (pa_cons pe_int pa_nil))))) (pe_call G__law_below (hr.mono (by first | decide | omega)) (by rfl) m__law_below kp__law_below b__law_below .nil pass0 (pa_cons (pv 1) (pa_cons pe_int pa_nil))) (fun _ _ => rfl))) pa_nil)) pa_nil))) pa_nil)) (pe_lc (own := [("_law_line", 12)]) rfl nd (pi_listK (K := K) rfl (pv 2)) (blkOk_by (N := ["_law_script", "_law_d", "_law_rota", "_law_lines", "_law_k", "_law_some", "_law_words", "_law_change", "_law_kind", "_law_word", "_law_at", "_law_rest", "_law_line", "_law_text", "_law_rows", "_law_head", "_law_total", "_law_operations", "_law_source", "_law_error"]) (sc := defScope slaw) (by decide +kernel)) (fun _ _ _ _ _ => (pg_name (i := 12) nd rfl (Or.inl rfl))) (fun _ _ _ _ _ => pts_nil) (fun _ _ _ _ _ => (pe_split (pv 12) pe_str)))))
 h3))), ?_⟩
  let qq : Str := (envOfC "law" (defScope slaw) s.heap.objs.size f (.ref cT)).qual ++ "<lambda>"
  refine ⟨_, rfl, a, ns, 24, rfl, by decide, ha, hn, fun d x0 y0 l0 H1 c1 ok0 => ?_⟩
  have t0 : LamX.Tabs [(PT, qq)] H := fun p hp => by rw [List.mem_singleton.mp hp]; exact .nil hP
  have r1 : Run [(PT, qq)] d H1 H1 := ⟨fun _ _ _ h _ => h, tabs_wd t0 c1 (fun _ h => nomatch h), x0, y0, l0, c1.get 0 rfl, ok0⟩
  clear t0
  refine ⟨(by show 3 ≤ sizeLine; decide), fun rl hrl => ?_⟩
  have r2 := r1.new (.lst (rl24.map V.str)) hrl
  have hrl2 : upd H1 rl (.lst (rl24.map V.str)) rl = some (.lst (rl24.map V.str)) := upd_same
  have nrl := r1.ne hrl
  have e1 : upd H1 rl (.lst [V.str "people a bb;", V.str " turns a bb;", V.str "away bb 0 of 2;"]) = upd H1 rl (.lst (rl24.map V.str)) := rfl
  rw [e1]
  generalize upd H1 rl (.lst (rl24.map V.str)) = H2 at r2 hrl2 ⊢
  obtain ⟨x2, y2, l2, hd2, ok2⟩ := r2.dr
  refine ⟨_, rfl, d, _, x2, y2, l2, rfl, by decide, by decide, hd2, ok2, fun kn a3 b3 l3 H3 w3 ok3 kn0 kn1 => ?_⟩
  have r3' := r2.bel w3 (w3.get 0 rfl) ok3
  have hrl3 := w3.base _ _ (by simpa using nrl) hrl2
  obtain ⟨n, en, hn2⟩ : ∃ n : Nat, (2 : Int) + kn = (n : Int) ∧ (n = 2 ∨ n = 3) := ⟨(2 + kn).toNat, by omega, by omega⟩
  refine ⟨_, _, rfl, rfl, _, rfl, rl, _, rfl, SqL.of hrl3, fun rp hrp => ?_⟩
  rw [en, cut_to (by show n ≤ 3; omega)]
  have r4 := r3'.new (.lst ((rl24.map V.str).take n)) hrp
  have nrp := r3'.ne hrp
  have hrp4 : upd H3 rp (.lst ((rl24.map V.str).take n)) rp = some (.lst ((rl24.map V.str).take n)) := upd_same
  generalize upd H3 rp (.lst ((rl24.map V.str).take n)) = H4 at r4 hrp4 ⊢
  have lrp : ((rl24.map V.str).take n).length = n := by rw [List.length_take]; show min n 3 = n; omega
  refine ⟨_, rfl, rp, _, rfl, .inl (SqL.of hrp4), (by show 4 ≤ sizeLine; decide), fun il hil => ?_⟩
  have r5 := r4.new (.lst [.int 0, .int 0, .int 0, .int 1]) hil
  have nil_ := r4.ne hil
  have n5 := (Wd.refl H4).new (.lst [.int 0, .int 0, .int 0, .int 1]) hil
  have hil5 := n5.get 0 rfl
  have hrp5 := n5.base _ _ (by simp) hrp4
  generalize upd H4 il (.lst [.int 0, .int 0, .int 0, .int 1]) = H5 at r5 hil5 hrp5 ⊢
  obtain ⟨x5, y5, l5, hd5, ok5⟩ := r5.dr
  refine ⟨_, rfl, d, _, x5, y5, l5, rfl, by decide, by decide, hd5, ok5, fun kk a6 b6 l6 H6 w6 ok6 kk0 kk4 => ?_⟩
  have r6 := r5.bel w6 (w6.get 0 rfl) ok6
  have hil6 := w6.base _ _ (by simpa using nil_) hil5
  have hrp6 := w6.base _ _ (by simpa using nrp) hrp5
  obtain ⟨v, hatv, hv⟩ : ∃ v : Int, atI [V.int 0, V.int 0, V.int 0, V.int 1] kk = some (V.int v) ∧ (v = 0 ∨ v = 1) := by
    have : kk = 0 ∨ kk = 1 ∨ kk = 2 ∨ kk = 3 := by omega
    rcases this with rfl | rfl | rfl | rfl
    · exact ⟨0, rfl, .inl rfl⟩
    · exact ⟨0, rfl, .inl rfl⟩
    · exact ⟨0, rfl, .inl rfl⟩
    · exact ⟨1, rfl, .inr rfl⟩
  refine ⟨il, _, kk, .int v, rfl, rfl, SqL.of hil6, hatv, _, _, rfl, rfl, _, rfl, ?_, ?_⟩
  · rw [lrp]
    have : ((n : Int) + v) = 2 ∨ ((n : Int) + v) = 3 ∨ ((n : Int) + v) = 4 := by omega
    rcases this with e | e | e <;> rw [e] <;> decide
  rw [lrp]
  have hz := str24 (i := (n : Int) + v) (by omega)
  generalize Str.ofString (toString ((n : Int) + v)) = z at hz ⊢
  refine ⟨(by show 2 ≤ sizeLine; decide), fun p1 hp1 => ⟨(by show 1 ≤ sizeLine; decide), fun p2 hp2 => ?_⟩⟩
  have n7 := ((Wd.refl H6).new (.lst ([("rota" : Str), z].map V.str)) hp1).new (.lst [.ref p1]) hp2
  have r7 := r6.wd n7
  have np1 := r6.ne hp1
  have hp17 := n7.get 1 rfl
  have hp27 := n7.get 0 rfl
  have hrp7 := n7.base _ _ (by simp) hrp6
  have e7 : upd H6 p1 (.lst [V.str "rota", V.str z]) = upd H6 p1 (.lst ([("rota" : Str), z].map V.str)) := rfl
  rw [e7]
  generalize upd (upd H6 p1 (.lst ([("rota" : Str), z].map V.str))) p2 (.lst [.ref p1]) = H7 at r7 hp17 hp27 hrp7 ⊢
  refine ⟨_, rfl, rp, rfl, ⟨_, SqL.of hrp7⟩, fun D2 hD2 => ?_⟩
  have nD := r7.ne hD2
  refine lc_list (K := K) (a := rp) (xs := (rl24.map V.str).take n) (fun i H4 => ∃ las : List Addr, Wd [] H7 H4 [(D2, .lst (las.map V.ref))] ∧ LnT H4 las (rw24.take i) ∧ d ∉ las ∧ D2 ∉ las) ⟨[], (Wd.refl H7).new (.lst []) hD2, trivial, (fun h => nomatch h), (fun h => nomatch h)⟩ (fun i H4 _ ⟨las, w4, _⟩ => SqL.of (w4.base _ _ (by simp) hrp7)) ?_ ?_
  · rintro i x H8 hx ⟨las, w8, ln8, dn8, Dn8⟩
    have hin : i < n := by have := (List.getElem?_eq_some_iff.mp hx).1; rw [lrp] at this; exact this
    rw [List.getElem?_take_of_lt hin, List.getElem?_map] at hx
    obtain ⟨row, hrow, rfl⟩ := Option.map_eq_some_iff.mp hx
    have hsp : rw24[i]? = some (Txt.split row " ") := by
      have := rl_split ⟨i, by omega⟩
      rw [show rl24[(⟨i, by omega⟩ : Fin 3).val]? = some row from hrow] at this
      exact this.symm
    have hl := rl_len row (List.mem_of_getElem? hrow)
    refine ⟨rfl, _, rfl, ⟨_, rfl⟩, _, " ", rfl, rfl, rfl, Nat.le_trans (m := 1000002) (by omega) (by decide), ?_⟩
    intro p hp
    have w9 := w8.new (.lst ((Txt.split row " ").map V.str)) hp
    have n9 := (Wd.refl H8).new (.lst ((Txt.split row " ").map V.str)) hp
    have hdd : H7 d ≠ none := by obtain ⟨x, y, l, h, _⟩ := r7.dr; rw [h]; simp
    have npd : p ≠ d := fun e => hdd (by rw [← e]; exact w8.free _ hp)
    have npD : p ≠ D2 := fun e => by rw [e, w8.get 0 rfl] at hp; cases hp
    have ll := ln8.len
    rw [List.length_take] at ll
    refine ⟨_, w9.get 1 rfl, by rw [List.length_map]; exact lt_line (by omega), las ++ [p], ?_, ?_, ?_, ?_⟩
    · rw [List.map_append]
      exact (w9.sub (l' := [(D2, .lst (las.map V.ref))]) (by walk_at "sub")).app0 (V.ref p)
    · rw [take_more hsp]
      refine LnT.app ((ln8.old n9 fun _ _ h => nomatch h).keep fun a ha => upd_ne fun e => Dn8 (by rw [← e]; exact ha)) ⟨?_, trivial⟩
      rw [upd_ne npD]; exact n9.get 0 rfl
    · intro hm
      rcases List.mem_append.mp hm with hm | hm
      · exact dn8 hm
      · exact npd (List.mem_singleton.mp hm).symm
    · intro hm
      rcases List.mem_append.mp hm with hm | hm
      · exact Dn8 hm
      · exact npD (List.mem_singleton.mp hm).symm
  · rintro H8 ⟨las, w8, ln8, dn8, Dn8⟩
    rw [lrp] at ln8
    have r8 := r7.wd w8
    have hp18 := w8.base _ _ (by simp) hp17
    have hp28 := w8.base _ _ (by simp) hp27
    have ll := ln8.len
    rw [List.length_take] at ll
    refine ⟨_, _, _, _, rfl, rfl, hp28, w8.get 0 rfl, Nat.le_trans (m := 100) (by rw [List.length_map]; show 1 + _ ≤ _; omega) (by decide), fun lp hlp => ?_⟩
    have n9 := (Wd.refl H8).new (.lst ([V.ref p1] ++ las.map V.ref)) hlp
    have r9 := r8.wd n9
    have ln9 : LnT H8 (p1 :: las) ([[("rota" : Str), z]] ++ rw24.take n) := ⟨hp18, ln8⟩
    have j9 : J24 PT d qq lp ([[("rota" : Str), z]] ++ rw24.take n) (upd H8 lp (.lst ([V.ref p1] ++ las.map V.ref))) :=
      ⟨r9.tabs, r9.dr, ⟨p1 :: las, upd_same, (ln9.old n9 fun _ _ h => nomatch h), (fun hm => (List.mem_cons.mp hm).elim (fun e => np1 e.symm) dn8), LnT.fresh hlp ln9⟩, r8.ne hlp⟩
    exact r3 _ d lp _ _ _ _ _ _ _ _ _ _ _ _ _ _ _ _ _ _ _ _ j9 (rw24_ok n hn2 hz) q
end
end Br

namespace Br
open PySem PySem.Spec PyProof.Rows L2
/-! ### what the top has written, the head -/
theorem all_mk {l : PySem.W.OpenLaw} {w : World} {K : PySem.W.Frag} {h : Heap} {mg : Str → Option Value} {fa : Addr} (X : K.In h) (G : h.Ns mainGlobals mg) (hfa : mg "law" = some (.ref fa))
    {C_RotaError : Addr}
    {C_InvalidTick : Addr}
    {C_InvalidCount : Addr}
    {C_UnknownPerson : Addr}
    {C_TooLong : Addr}
    {C_DifferentPeople : Addr}
    {C_Contradiction : Addr}
    {C_NobodyHome : Addr}
    {C_InvalidName : Addr}
    {C_UnknownName : Addr}
    {C_SyntaxFault : Addr}
    {C_CheckFault : Addr}
    {C_InvalidCode : Addr}
    {C_InvalidOperation : Addr}
    {C_InvalidSession : Addr}
    {t_END_SIGN : Tok}
    {t_SIGN : Tok}
    {t_DIGITS : Tok}
    {t_MAX_DIGITS_lexer : Tok}
    {t_NUMBER : Tok}
    {t_LETTERS : Tok}
    {aTKEYWORDS : Addr} {dTKEYWORDS : Option Addr} {nTKEYWORDS : Nat} {slTKEYWORDS : Array (Option Value)} {tkKEYWORDS0 tkKEYWORDS1 tkKEYWORDS2 tkKEYWORDS3 tkKEYWORDS4 tkKEYWORDS5 : Tok}
    {t_KEYWORD : Tok}
    {t_MAX_LETTERS : Tok}
    {t_NAME : Tok}
    {t_END : Tok}
    {t_SPACES : Tok}
    {C_Token : Addr}
    {C_Parser : Addr}
    {f_law_below : Addr} {od_law_below an_law_below : Option Addr} {sl_law_below : Array (Option Value)} {oc_law_below kV_law_below dc_law_below pm_law_below cd_law_below ct_law_below : Value}
    {f_law_random : Addr} {od_law_random an_law_random : Option Addr} {sl_law_random : Array (Option Value)} {oc_law_random kV_law_random dc_law_random pm_law_random cd_law_random ct_law_random : Value}
    {fTokenI : Addr} {odTokenI anTokenI : Option Addr} {slTokenI : Array (Option Value)} {ocTokenI kVTokenI dcTokenI pmTokenI cdTokenI ctTokenI : Value}
    {frun_end : Addr} {odrun_end anrun_end : Option Addr} {slrun_end : Array (Option Value)} {ocrun_end kVrun_end dcrun_end pmrun_end cdrun_end ctrun_end : Value}
    {nmSyntaxFault qSyntaxFault : Str} {NSyntaxFault : Addr} {bsSyntaxFault : List Value} {snSyntaxFault : List Str} {subSyntaxFault : List Value} {abSyntaxFault : Bool} {colSyntaxFault : Option Bool} {ddSyntaxFault : Option Addr} {m0SyntaxFault m1SyntaxFault m2SyntaxFault m3SyntaxFault m5SyntaxFault : Option Value}
    {fSyntaxFaultI : Addr} {odSyntaxFaultI anSyntaxFaultI : Option Addr} {slSyntaxFaultI : Array (Option Value)} {ocSyntaxFaultI kVSyntaxFaultI dcSyntaxFaultI pmSyntaxFaultI cdSyntaxFaultI ctSyntaxFaultI : Value}
    {nmCheckFault qCheckFault : Str} {NCheckFault : Addr} {bsCheckFault : List Value} {snCheckFault : List Str} {subCheckFault : List Value} {abCheckFault : Bool} {colCheckFault : Option Bool} {ddCheckFault : Option Addr} {m0CheckFault m1CheckFault m2CheckFault m3CheckFault m5CheckFault : Option Value}
    {fCheckFaultI : Addr} {odCheckFaultI anCheckFaultI : Option Addr} {slCheckFaultI : Array (Option Value)} {ocCheckFaultI kVCheckFaultI dcCheckFaultI pmCheckFaultI cdCheckFaultI ctCheckFaultI : Value}
    {fread_token : Addr} {odread_token anread_token : Option Addr} {slread_token : Array (Option Value)} {ocread_token kVread_token dcread_token pmread_token cdread_token ctread_token : Value}
    {ftokenize : Addr} {odtokenize antokenize : Option Addr} {sltokenize : Array (Option Value)} {octokenize kVtokenize dctokenize pmtokenize cdtokenize cttokenize : Value}
    {fParserI : Addr} {odParserI anParserI : Option Addr} {slParserI : Array (Option Value)} {ocParserI kVParserI dcParserI pmParserI cdParserI ctParserI : Value}
    {fParser_peek : Addr} {odParser_peek anParser_peek : Option Addr} {slParser_peek : Array (Option Value)} {ocParser_peek kVParser_peek dcParser_peek pmParser_peek cdParser_peek ctParser_peek : Value}
    {fParser_fail : Addr} {odParser_fail anParser_fail : Option Addr} {slParser_fail : Array (Option Value)} {ocParser_fail kVParser_fail dcParser_fail pmParser_fail cdParser_fail ctParser_fail : Value}
    {fParser_found : Addr} {odParser_found anParser_found : Option Addr} {slParser_found : Array (Option Value)} {ocParser_found kVParser_found dcParser_found pmParser_found cdParser_found ctParser_found : Value}
    {fParser_take : Addr} {odParser_take anParser_take : Option Addr} {slParser_take : Array (Option Value)} {ocParser_take kVParser_take dcParser_take pmParser_take cdParser_take ctParser_take : Value}
    {fParser_take_word : Addr} {odParser_take_word anParser_take_word : Option Addr} {slParser_take_word : Array (Option Value)} {ocParser_take_word kVParser_take_word dcParser_take_word pmParser_take_word cdParser_take_word ctParser_take_word : Value}
    {fParser_take_all : Addr} {odParser_take_all anParser_take_all : Option Addr} {slParser_take_all : Array (Option Value)} {ocParser_take_all kVParser_take_all dcParser_take_all pmParser_take_all cdParser_take_all ctParser_take_all : Value}
    {fParser_person : Addr} {odParser_person anParser_person : Option Addr} {slParser_person : Array (Option Value)} {ocParser_person kVParser_person dcParser_person pmParser_person cdParser_person ctParser_person : Value}
    {fParser_parse_people : Addr} {odParser_parse_people anParser_parse_people : Option Addr} {slParser_parse_people : Array (Option Value)} {ocParser_parse_people kVParser_parse_people dcParser_parse_people pmParser_parse_people cdParser_parse_people ctParser_parse_people : Value}
    {t_MAX_PEOPLE : Tok}
    {fParser_parse_turns : Addr} {odParser_parse_turns anParser_parse_turns : Option Addr} {slParser_parse_turns : Array (Option Value)} {ocParser_parse_turns kVParser_parse_turns dcParser_parse_turns pmParser_parse_turns cdParser_parse_turns ctParser_parse_turns : Value}
    {t_MAX_TURNS : Tok}
    {fParser_parse_weights : Addr} {odParser_parse_weights anParser_parse_weights : Option Addr} {slParser_parse_weights : Array (Option Value)} {ocParser_parse_weights kVParser_parse_weights dcParser_parse_weights pmParser_parse_weights cdParser_parse_weights ctParser_parse_weights : Value}
    {t_MAX_WEIGHT : Tok}
    {fParser_parse_away : Addr} {odParser_parse_away anParser_parse_away : Option Addr} {slParser_parse_away : Array (Option Value)} {ocParser_parse_away kVParser_parse_away dcParser_parse_away pmParser_parse_away cdParser_parse_away ctParser_parse_away : Value}
    {t_MAX_AWAYS : Tok}
    {aTMODULI : Addr} {dTMODULI : Option Addr} {nTMODULI : Nat} {slTMODULI : Array (Option Value)} {tkMODULI0 tkMODULI1 tkMODULI2 tkMODULI3 tkMODULI4 tkMODULI5 : Tok}
    {fParser_parse_makeup : Addr} {odParser_parse_makeup anParser_parse_makeup : Option Addr} {slParser_parse_makeup : Array (Option Value)} {ocParser_parse_makeup kVParser_parse_makeup dcParser_parse_makeup pmParser_parse_makeup cdParser_parse_makeup ctParser_parse_makeup : Value}
    {fParser_parse_rota : Addr} {odParser_parse_rota anParser_parse_rota : Option Addr} {slParser_parse_rota : Array (Option Value)} {ocParser_parse_rota kVParser_parse_rota dcParser_parse_rota pmParser_parse_rota cdParser_parse_rota ctParser_parse_rota : Value}
    {fload : Addr} {odload anload : Option Addr} {slload : Array (Option Value)} {ocload kVload dcload pmload cdload ctload : Value}
    {C_Book : Addr}
    {fis_home : Addr} {odis_home anis_home : Option Addr} {slis_home : Array (Option Value)} {ocis_home kVis_home dcis_home pmis_home cdis_home ctis_home : Value}
    {fhome_people : Addr} {odhome_people anhome_people : Option Addr} {slhome_people : Array (Option Value)} {ochome_people kVhome_people dchome_people pmhome_people cdhome_people cthome_people : Value}
    {ffirst_state : Addr} {odfirst_state anfirst_state : Option Addr} {slfirst_state : Array (Option Value)} {ocfirst_state kVfirst_state dcfirst_state pmfirst_state cdfirst_state ctfirst_state : Value}
    {fchanged : Addr} {odchanged anchanged : Option Addr} {slchanged : Array (Option Value)} {occhanged kVchanged dcchanged pmchanged cdchanged ctchanged : Value}
    {t_MAX_OWED : Tok}
    {fafter_tick : Addr} {odafter_tick anafter_tick : Option Addr} {slafter_tick : Array (Option Value)} {ocafter_tick kVafter_tick dcafter_tick pmafter_tick cdafter_tick ctafter_tick : Value}
    {fBook_record : Addr} {odBook_record anBook_record : Option Addr} {slBook_record : Array (Option Value)} {ocBook_record kVBook_record dcBook_record pmBook_record cdBook_record ctBook_record : Value}
    {fBook_named : Addr} {odBook_named anBook_named : Option Addr} {slBook_named : Array (Option Value)} {ocBook_named kVBook_named dcBook_named pmBook_named cdBook_named ctBook_named : Value}
    {fBook_reset : Addr} {odBook_reset anBook_reset : Option Addr} {slBook_reset : Array (Option Value)} {ocBook_reset kVBook_reset dcBook_reset pmBook_reset cdBook_reset ctBook_reset : Value}
    {t_RESET : Tok}
    {fBook_undo : Addr} {odBook_undo anBook_undo : Option Addr} {slBook_undo : Array (Option Value)} {ocBook_undo kVBook_undo dcBook_undo pmBook_undo cdBook_undo ctBook_undo : Value}
    {fBook_redo : Addr} {odBook_redo anBook_redo : Option Addr} {slBook_redo : Array (Option Value)} {ocBook_redo kVBook_redo dcBook_redo pmBook_redo cdBook_redo ctBook_redo : Value}
    {fis_int_in : Addr} {odis_int_in anis_int_in : Option Addr} {slis_int_in : Array (Option Value)} {ocis_int_in kVis_int_in dcis_int_in pmis_int_in cdis_int_in ctis_int_in : Value}
    {fperson_number : Addr} {odperson_number anperson_number : Option Addr} {slperson_number : Array (Option Value)} {ocperson_number kVperson_number dcperson_number pmperson_number cdperson_number ctperson_number : Value}
    {fBook_step : Addr} {odBook_step anBook_step : Option Addr} {slBook_step : Array (Option Value)} {ocBook_step kVBook_step dcBook_step pmBook_step cdBook_step ctBook_step : Value}
    {t_STEP : Tok}
    {t_MAX_STEPS : Tok}
    {fBook_gift : Addr} {odBook_gift anBook_gift : Option Addr} {slBook_gift : Array (Option Value)} {ocBook_gift kVBook_gift dcBook_gift pmBook_gift cdBook_gift ctBook_gift : Value}
    {t_GIFT : Tok}
    {fBook_forgive : Addr} {odBook_forgive anBook_forgive : Option Addr} {slBook_forgive : Array (Option Value)} {ocBook_forgive kVBook_forgive dcBook_forgive pmBook_forgive cdBook_forgive ctBook_forgive : Value}
    {t_FORGIVE : Tok}
    {fBookI : Addr} {odBookI anBookI : Option Addr} {slBookI : Array (Option Value)} {ocBookI kVBookI dcBookI pmBookI cdBookI ctBookI : Value}
    {fBook_execute : Addr} {odBook_execute anBook_execute : Option Addr} {slBook_execute : Array (Option Value)} {ocBook_execute kVBook_execute dcBook_execute pmBook_execute cdBook_execute ctBook_execute : Value}
    {fis_operation : Addr} {odis_operation anis_operation : Option Addr} {slis_operation : Array (Option Value)} {ocis_operation kVis_operation dcis_operation pmis_operation cdis_operation ctis_operation : Value}
    {a_LENGTHS : Addr} {es_LENGTHS : Array DictEntry} {n_LENGTHS : Nat} {tkLENGTHS0 tkLENGTHS1 tkLENGTHS2 tkLENGTHS3 tkLENGTHS4 tkLENGTHS5 : Tok}
    {nmInvalidOperation qInvalidOperation : Str} {NInvalidOperation : Addr} {bsInvalidOperation : List Value} {snInvalidOperation : List Str} {subInvalidOperation : List Value} {abInvalidOperation : Bool} {colInvalidOperation : Option Bool} {ddInvalidOperation : Option Addr} {m0InvalidOperation m1InvalidOperation m2InvalidOperation m3InvalidOperation m5InvalidOperation : Option Value}
    {fInvalidOperationI : Addr} {odInvalidOperationI anInvalidOperationI : Option Addr} {slInvalidOperationI : Array (Option Value)} {ocInvalidOperationI kVInvalidOperationI dcInvalidOperationI pmInvalidOperationI cdInvalidOperationI ctInvalidOperationI : Value}
    {pBook_replay : Addr} {rBook_replay : List Value}
    {fBook_replay : Addr} {odBook_replay anBook_replay : Option Addr} {slBook_replay : Array (Option Value)} {ocBook_replay kVBook_replay dcBook_replay pmBook_replay cdBook_replay ctBook_replay : Value}
    {fparse_number : Addr} {odparse_number anparse_number : Option Addr} {slparse_number : Array (Option Value)} {ocparse_number kVparse_number dcparse_number pmparse_number cdparse_number ctparse_number : Value}
    {t_MAX_DIGITS_session : Tok}
    {fis_name : Addr} {odis_name anis_name : Option Addr} {slis_name : Array (Option Value)} {ocis_name kVis_name dcis_name pmis_name cdis_name ctis_name : Value}
    {fparse_line : Addr} {odparse_line anparse_line : Option Addr} {slparse_line : Array (Option Value)} {ocparse_line kVparse_line dcparse_line pmparse_line cdparse_line ctparse_line : Value}
    {nmInvalidSession qInvalidSession : Str} {NInvalidSession : Addr} {bsInvalidSession : List Value} {snInvalidSession : List Str} {subInvalidSession : List Value} {abInvalidSession : Bool} {colInvalidSession : Option Bool} {ddInvalidSession : Option Addr} {m0InvalidSession m1InvalidSession m2InvalidSession m3InvalidSession m5InvalidSession : Option Value}
    {fInvalidSessionI : Addr} {odInvalidSessionI anInvalidSessionI : Option Addr} {slInvalidSessionI : Array (Option Value)} {ocInvalidSessionI kVInvalidSessionI dcInvalidSessionI pmInvalidSessionI cdInvalidSessionI ctInvalidSessionI : Value}
    {fparse_session : Addr} {odparse_session anparse_session : Option Addr} {slparse_session : Array (Option Value)} {ocparse_session kVparse_session dcparse_session pmparse_session cdparse_session ctparse_session : Value}
    {t_ROTA : Tok}
    {f_law_is_number : Addr} {od_law_is_number an_law_is_number : Option Addr} {sl_law_is_number : Array (Option Value)} {oc_law_is_number kV_law_is_number dc_law_is_number pm_law_is_number cd_law_is_number ct_law_is_number : Value}
    {f_law_parsed_line : Addr} {od_law_parsed_line an_law_parsed_line : Option Addr} {sl_law_parsed_line : Array (Option Value)} {oc_law_parsed_line kV_law_parsed_line dc_law_parsed_line pm_law_parsed_line cd_law_parsed_line ct_law_parsed_line : Value}
    {f_law_equal : Addr} {od_law_equal an_law_equal : Option Addr} {sl_law_equal : Array (Option Value)} {oc_law_equal kV_law_equal dc_law_equal pm_law_equal cd_law_equal ct_law_equal : Value}
    {f_law_error_of : Addr} {od_law_error_of an_law_error_of : Option Addr} {sl_law_error_of : Array (Option Value)} {oc_law_error_of kV_law_error_of dc_law_error_of pm_law_error_of cd_law_error_of ct_law_error_of : Value}
    {flaw : Addr} {odlaw anlaw : Option Addr} {sllaw : Array (Option Value)} {oclaw kVlaw dclaw pmlaw  ctlaw : Value}
    {cT PT : Addr} {odT : Option Addr} {vsT : Array Value} {slT : Array (Option Value)}
    (aCRotaError : PySem.W.nsIn K mainGlobals "RotaError" = some (some (.ref C_RotaError)))
    (rdR : PySem.W.readsIn K C_RotaError (.type "type") = true)
    (gaR : PySem.W.specialIn K (.ref C_RotaError) "__getattribute__" = some (some (.builtin "type.__getattribute__")))
    (atR : PySem.W.findCls K (.ref C_RotaError) (.type "type") "__init__" = some (.val (.builtin "ValueError.__init__")))
    (aCInvalidTick : PySem.W.nsIn K mainGlobals "InvalidTick" = some (some (.ref C_InvalidTick)))
    (aCInvalidCount : PySem.W.nsIn K mainGlobals "InvalidCount" = some (some (.ref C_InvalidCount)))
    (aCUnknownPerson : PySem.W.nsIn K mainGlobals "UnknownPerson" = some (some (.ref C_UnknownPerson)))
    (aCTooLong : PySem.W.nsIn K mainGlobals "TooLong" = some (some (.ref C_TooLong)))
    (aCDifferentPeople : PySem.W.nsIn K mainGlobals "DifferentPeople" = some (some (.ref C_DifferentPeople)))
    (aCContradiction : PySem.W.nsIn K mainGlobals "Contradiction" = some (some (.ref C_Contradiction)))
    (aCNobodyHome : PySem.W.nsIn K mainGlobals "NobodyHome" = some (some (.ref C_NobodyHome)))
    (aCInvalidName : PySem.W.nsIn K mainGlobals "InvalidName" = some (some (.ref C_InvalidName)))
    (aCUnknownName : PySem.W.nsIn K mainGlobals "UnknownName" = some (some (.ref C_UnknownName)))
    (aCSyntaxFault : PySem.W.nsIn K mainGlobals "SyntaxFault" = some (some (.ref C_SyntaxFault)))
    (aCCheckFault : PySem.W.nsIn K mainGlobals "CheckFault" = some (some (.ref C_CheckFault)))
    (aCInvalidCode : PySem.W.nsIn K mainGlobals "InvalidCode" = some (some (.ref C_InvalidCode)))
    (aCInvalidOperation : PySem.W.nsIn K mainGlobals "InvalidOperation" = some (some (.ref C_InvalidOperation)))
    (aCInvalidSession : PySem.W.nsIn K mainGlobals "InvalidSession" = some (some (.ref C_InvalidSession)))
    (s_END_SIGN : PySem.W.nsIn K mainGlobals "END_SIGN" = some (some (.str ";" t_END_SIGN)))
    (s_SIGN : PySem.W.nsIn K mainGlobals "SIGN" = some (some (.str "sign" t_SIGN)))
    (s_DIGITS : PySem.W.nsIn K mainGlobals "DIGITS" = some (some (.str "0123456789" t_DIGITS)))
    (s_MAX_DIGITS_lexer : PySem.W.nsIn K mainGlobals "MAX_DIGITS_lexer" = some (some (.int 2 t_MAX_DIGITS_lexer)))
    (s_NUMBER : PySem.W.nsIn K mainGlobals "NUMBER" = some (some (.str "number" t_NUMBER)))
    (s_LETTERS : PySem.W.nsIn K mainGlobals "LETTERS" = some (some (.str "abcdefghijklmnopqrstuvwxyz" t_LETTERS)))
    (s_KEYWORDS : PySem.W.nsIn K mainGlobals "KEYWORDS" = some (some (.ref aTKEYWORDS)))
    (u_KEYWORDS : K.lookup aTKEYWORDS = some ⟨.type "tuple", dTKEYWORDS, .seq #[.str "people" tkKEYWORDS0, .str "turns" tkKEYWORDS1, .str "weights" tkKEYWORDS2, .str "away" tkKEYWORDS3, .str "of" tkKEYWORDS4, .str "makeup" tkKEYWORDS5] nTKEYWORDS, slTKEYWORDS⟩)
    (s_KEYWORD : PySem.W.nsIn K mainGlobals "KEYWORD" = some (some (.str "keyword" t_KEYWORD)))
    (s_MAX_LETTERS : PySem.W.nsIn K mainGlobals "MAX_LETTERS" = some (some (.int 8 t_MAX_LETTERS)))
    (s_NAME : PySem.W.nsIn K mainGlobals "NAME" = some (some (.str "name" t_NAME)))
    (s_END : PySem.W.nsIn K mainGlobals "END" = some (some (.str "end" t_END)))
    (s_SPACES : PySem.W.nsIn K mainGlobals "SPACES" = some (some (.str " \n" t_SPACES)))
    (aCToken : PySem.W.nsIn K mainGlobals "Token" = some (some (.ref C_Token)))
    (pgToken : PySem.W.plainGet K C_Token Str.empty = true)
    (hdToken : PySem.W.hasDictIn K C_Token = true)
    (poToken : PySem.W.plainOver K C_Token = true)
    (saToken : PySem.W.findIn K (.ref C_Token) "__setattr__" = some (some (.builtin "object.__setattr__")))
    (nToken_kind : PySem.W.findIn K (.ref C_Token) "kind" = some none)
    (nToken_text : PySem.W.findIn K (.ref C_Token) "text" = some none)
    (nToken_line : PySem.W.findIn K (.ref C_Token) "line" = some none)
    (nToken_column : PySem.W.findIn K (.ref C_Token) "column" = some none)
    (aCParser : PySem.W.nsIn K mainGlobals "Parser" = some (some (.ref C_Parser)))
    (pgParser : PySem.W.plainGet K C_Parser Str.empty = true)
    (hdParser : PySem.W.hasDictIn K C_Parser = true)
    (poParser : PySem.W.plainOver K C_Parser = true)
    (saParser : PySem.W.findIn K (.ref C_Parser) "__setattr__" = some (some (.builtin "object.__setattr__")))
    (nParser_tokens : PySem.W.findIn K (.ref C_Parser) "tokens" = some none)
    (nParser_at : PySem.W.findIn K (.ref C_Parser) "at" = some none)
    (nParser_faults : PySem.W.findIn K (.ref C_Parser) "faults" = some none)
    (nParser_names : PySem.W.findIn K (.ref C_Parser) "names" = some none)
    (nParser_weights : PySem.W.findIn K (.ref C_Parser) "weights" = some none)
    (nParser_makers : PySem.W.findIn K (.ref C_Parser) "makers" = some none)
    (nParser_aways : PySem.W.findIn K (.ref C_Parser) "aways" = some none)
    (a_law_below : PySem.W.nsIn K mainGlobals "_law_below" = some (some (.ref f_law_below)))
    (l_law_below : K.lookup f_law_below = some ⟨oc_law_below, od_law_below, .func (PySem.W.fnOf "_law_below" "_law_below" (defArgs s_law_below) (defBody s_law_below) (defScope s_law_below) .none kV_law_below dc_law_below pm_law_below an_law_below cd_law_below ct_law_below), sl_law_below⟩)
    (c_law_below : PySem.W.codeIn K cd_law_below "_law_below" = true)
    (k_law_below : PySem.W.keepIn K (.ref f_law_below) = true)
    (a_law_random : PySem.W.nsIn K mainGlobals "_law_random" = some (some (.ref f_law_random)))
    (l_law_random : K.lookup f_law_random = some ⟨oc_law_random, od_law_random, .func (PySem.W.fnOf "_law_random" "_law_random" (defArgs s_law_random) (defBody s_law_random) (defScope s_law_random) .none kV_law_random dc_law_random pm_law_random an_law_random cd_law_random ct_law_random), sl_law_random⟩)
    (c_law_random : PySem.W.codeIn K cd_law_random "_law_random" = true)
    (k_law_random : PySem.W.keepIn K (.ref f_law_random) = true)
    (mkToken : PySem.W.makesIn K C_Token = true)
    (kcToken : PySem.W.keepIn K (.ref C_Token) = true)
    (aTokenI : PySem.W.findIn K (.ref C_Token) "__init__" = some (some (.ref fTokenI)))
    (iTokenI : PySem.W.isFn K (.ref fTokenI) = true)
    (lTokenI : K.lookup fTokenI = some ⟨ocTokenI, odTokenI, .func (PySem.W.fnOf "__init__" "Token.__init__" (defArgs sToken___init__) (defBody sToken___init__) (defScope sToken___init__) .none kVTokenI dcTokenI pmTokenI anTokenI cdTokenI ctTokenI), slTokenI⟩)
    (cTokenI : PySem.W.codeIn K cdTokenI "Token.__init__" = true)
    (kTokenI : PySem.W.keepIn K (.ref fTokenI) = true)
    (arun_end : PySem.W.nsIn K mainGlobals "run_end" = some (some (.ref frun_end)))
    (lrun_end : K.lookup frun_end = some ⟨ocrun_end, odrun_end, .func (PySem.W.fnOf "run_end" "run_end" (defArgs srun_end) (defBody srun_end) (defScope srun_end) .none kVrun_end dcrun_end pmrun_end anrun_end cdrun_end ctrun_end), slrun_end⟩)
    (crun_end : PySem.W.codeIn K cdrun_end "run_end" = true)
    (krun_end : PySem.W.keepIn K (.ref frun_end) = true)
    (xSyntaxFault : K.lookup C_SyntaxFault = some (excClassObj nmSyntaxFault qSyntaxFault C_SyntaxFault NSyntaxFault bsSyntaxFault [.ref C_RotaError, .type "ValueError", .type "Exception", .type "BaseException", .type "object"] true snSyntaxFault subSyntaxFault abSyntaxFault colSyntaxFault ddSyntaxFault m0SyntaxFault m1SyntaxFault m2SyntaxFault m3SyntaxFault m5SyntaxFault "ValueError.__new__"))
    (sESyntaxFault : PySem.W.findIn K (.ref C_SyntaxFault) "__setattr__" = some (some (.builtin "object.__setattr__")))
    (eCSyntaxFault : PySem.W.subIn K (.ref C_SyntaxFault) (.type "BaseException") = some true)
    (tCSyntaxFault : PySem.W.typeIn K (.ref C_SyntaxFault) = some (.type "type"))
    (kCSyntaxFault : PySem.W.keepIn K (.ref C_SyntaxFault) = true)
    (aSyntaxFaultI : PySem.W.findIn K (.ref C_SyntaxFault) "__init__" = some (some (.ref fSyntaxFaultI)))
    (tSyntaxFaultI : PySem.W.typeIn K (.ref fSyntaxFaultI) = some (.type "function"))
    (lSyntaxFaultI : K.lookup fSyntaxFaultI = some ⟨ocSyntaxFaultI, odSyntaxFaultI, .func (PySem.W.fnOf "__init__" "SyntaxFault.__init__" (defArgs sSyntaxFault___init__) (defBody sSyntaxFault___init__) (defScope sSyntaxFault___init__) .none kVSyntaxFaultI dcSyntaxFaultI pmSyntaxFaultI anSyntaxFaultI cdSyntaxFaultI ctSyntaxFaultI), slSyntaxFaultI⟩)
    (cSyntaxFaultI : PySem.W.codeIn K cdSyntaxFaultI "SyntaxFault.__init__" = true)
    (kSyntaxFaultI : PySem.W.keepIn K (.ref fSyntaxFaultI) = true)
    (noSyntaxFaultline : PySem.W.findIn K (.ref C_SyntaxFault) "line" = some none)
    (noSyntaxFaultcolumn : PySem.W.findIn K (.ref C_SyntaxFault) "column" = some none)
    (xCheckFault : K.lookup C_CheckFault = some (excClassObj nmCheckFault qCheckFault C_CheckFault NCheckFault bsCheckFault [.ref C_RotaError, .type "ValueError", .type "Exception", .type "BaseException", .type "object"] true snCheckFault subCheckFault abCheckFault colCheckFault ddCheckFault m0CheckFault m1CheckFault m2CheckFault m3CheckFault m5CheckFault "ValueError.__new__"))
    (sECheckFault : PySem.W.findIn K (.ref C_CheckFault) "__setattr__" = some (some (.builtin "object.__setattr__")))
    (eCCheckFault : PySem.W.subIn K (.ref C_CheckFault) (.type "BaseException") = some true)
    (tCCheckFault : PySem.W.typeIn K (.ref C_CheckFault) = some (.type "type"))
    (kCCheckFault : PySem.W.keepIn K (.ref C_CheckFault) = true)
    (aCheckFaultI : PySem.W.findIn K (.ref C_CheckFault) "__init__" = some (some (.ref fCheckFaultI)))
    (tCheckFaultI : PySem.W.typeIn K (.ref fCheckFaultI) = some (.type "function"))
    (lCheckFaultI : K.lookup fCheckFaultI = some ⟨ocCheckFaultI, odCheckFaultI, .func (PySem.W.fnOf "__init__" "CheckFault.__init__" (defArgs sCheckFault___init__) (defBody sCheckFault___init__) (defScope sCheckFault___init__) .none kVCheckFaultI dcCheckFaultI pmCheckFaultI anCheckFaultI cdCheckFaultI ctCheckFaultI), slCheckFaultI⟩)
    (cCheckFaultI : PySem.W.codeIn K cdCheckFaultI "CheckFault.__init__" = true)
    (kCheckFaultI : PySem.W.keepIn K (.ref fCheckFaultI) = true)
    (noCheckFaultreason : PySem.W.findIn K (.ref C_CheckFault) "reason" = some none)
    (noCheckFaultline : PySem.W.findIn K (.ref C_CheckFault) "line" = some none)
    (noCheckFaultcolumn : PySem.W.findIn K (.ref C_CheckFault) "column" = some none)
    (aread_token : PySem.W.nsIn K mainGlobals "read_token" = some (some (.ref fread_token)))
    (lread_token : K.lookup fread_token = some ⟨ocread_token, odread_token, .func (PySem.W.fnOf "read_token" "read_token" (defArgs sread_token) (defBody sread_token) (defScope sread_token) .none kVread_token dcread_token pmread_token anread_token cdread_token ctread_token), slread_token⟩)
    (cread_token : PySem.W.codeIn K cdread_token "read_token" = true)
    (kread_token : PySem.W.keepIn K (.ref fread_token) = true)
    (atokenize : PySem.W.nsIn K mainGlobals "tokenize" = some (some (.ref ftokenize)))
    (ltokenize : K.lookup ftokenize = some ⟨octokenize, odtokenize, .func (PySem.W.fnOf "tokenize" "tokenize" (defArgs stokenize) (defBody stokenize) (defScope stokenize) .none kVtokenize dctokenize pmtokenize antokenize cdtokenize cttokenize), sltokenize⟩)
    (ctokenize : PySem.W.codeIn K cdtokenize "tokenize" = true)
    (ktokenize : PySem.W.keepIn K (.ref ftokenize) = true)
    (mkParser : PySem.W.makesIn K C_Parser = true)
    (kcParser : PySem.W.keepIn K (.ref C_Parser) = true)
    (aParserI : PySem.W.findIn K (.ref C_Parser) "__init__" = some (some (.ref fParserI)))
    (iParserI : PySem.W.isFn K (.ref fParserI) = true)
    (lParserI : K.lookup fParserI = some ⟨ocParserI, odParserI, .func (PySem.W.fnOf "__init__" "Parser.__init__" (defArgs sParser___init__) (defBody sParser___init__) (defScope sParser___init__) .none kVParserI dcParserI pmParserI anParserI cdParserI ctParserI), slParserI⟩)
    (cParserI : PySem.W.codeIn K cdParserI "Parser.__init__" = true)
    (kParserI : PySem.W.keepIn K (.ref fParserI) = true)
    (aParser_peek : PySem.W.findIn K (.ref C_Parser) "peek" = some (some (.ref fParser_peek)))
    (iParser_peek : PySem.W.isFn K (.ref fParser_peek) = true)
    (lParser_peek : K.lookup fParser_peek = some ⟨ocParser_peek, odParser_peek, .func (PySem.W.fnOf "peek" "Parser.peek" (defArgs sParser_peek) (defBody sParser_peek) (defScope sParser_peek) .none kVParser_peek dcParser_peek pmParser_peek anParser_peek cdParser_peek ctParser_peek), slParser_peek⟩)
    (cParser_peek : PySem.W.codeIn K cdParser_peek "Parser.peek" = true)
    (kParser_peek : PySem.W.keepIn K (.ref fParser_peek) = true)
    (aParser_fail : PySem.W.findIn K (.ref C_Parser) "fail" = some (some (.ref fParser_fail)))
    (iParser_fail : PySem.W.isFn K (.ref fParser_fail) = true)
    (lParser_fail : K.lookup fParser_fail = some ⟨ocParser_fail, odParser_fail, .func (PySem.W.fnOf "fail" "Parser.fail" (defArgs sParser_fail) (defBody sParser_fail) (defScope sParser_fail) .none kVParser_fail dcParser_fail pmParser_fail anParser_fail cdParser_fail ctParser_fail), slParser_fail⟩)
    (cParser_fail : PySem.W.codeIn K cdParser_fail "Parser.fail" = true)
    (kParser_fail : PySem.W.keepIn K (.ref fParser_fail) = true)
    (aParser_found : PySem.W.findIn K (.ref C_Parser) "found" = some (some (.ref fParser_found)))
    (iParser_found : PySem.W.isFn K (.ref fParser_found) = true)
    (lParser_found : K.lookup fParser_found = some ⟨ocParser_found, odParser_found, .func (PySem.W.fnOf "found" "Parser.found" (defArgs sParser_found) (defBody sParser_found) (defScope sParser_found) .none kVParser_found dcParser_found pmParser_found anParser_found cdParser_found ctParser_found), slParser_found⟩)
    (cParser_found : PySem.W.codeIn K cdParser_found "Parser.found" = true)
    (kParser_found : PySem.W.keepIn K (.ref fParser_found) = true)
    (aParser_take : PySem.W.findIn K (.ref C_Parser) "take" = some (some (.ref fParser_take)))
    (iParser_take : PySem.W.isFn K (.ref fParser_take) = true)
    (lParser_take : K.lookup fParser_take = some ⟨ocParser_take, odParser_take, .func (PySem.W.fnOf "take" "Parser.take" (defArgs sParser_take) (defBody sParser_take) (defScope sParser_take) .none kVParser_take dcParser_take pmParser_take anParser_take cdParser_take ctParser_take), slParser_take⟩)
    (cParser_take : PySem.W.codeIn K cdParser_take "Parser.take" = true)
    (kParser_take : PySem.W.keepIn K (.ref fParser_take) = true)
    (aParser_take_word : PySem.W.findIn K (.ref C_Parser) "take_word" = some (some (.ref fParser_take_word)))
    (iParser_take_word : PySem.W.isFn K (.ref fParser_take_word) = true)
    (lParser_take_word : K.lookup fParser_take_word = some ⟨ocParser_take_word, odParser_take_word, .func (PySem.W.fnOf "take_word" "Parser.take_word" (defArgs sParser_take_word) (defBody sParser_take_word) (defScope sParser_take_word) .none kVParser_take_word dcParser_take_word pmParser_take_word anParser_take_word cdParser_take_word ctParser_take_word), slParser_take_word⟩)
    (cParser_take_word : PySem.W.codeIn K cdParser_take_word "Parser.take_word" = true)
    (kParser_take_word : PySem.W.keepIn K (.ref fParser_take_word) = true)
    (aParser_take_all : PySem.W.findIn K (.ref C_Parser) "take_all" = some (some (.ref fParser_take_all)))
    (iParser_take_all : PySem.W.isFn K (.ref fParser_take_all) = true)
    (lParser_take_all : K.lookup fParser_take_all = some ⟨ocParser_take_all, odParser_take_all, .func (PySem.W.fnOf "take_all" "Parser.take_all" (defArgs sParser_take_all) (defBody sParser_take_all) (defScope sParser_take_all) .none kVParser_take_all dcParser_take_all pmParser_take_all anParser_take_all cdParser_take_all ctParser_take_all), slParser_take_all⟩)
    (cParser_take_all : PySem.W.codeIn K cdParser_take_all "Parser.take_all" = true)
    (kParser_take_all : PySem.W.keepIn K (.ref fParser_take_all) = true)
    (aParser_person : PySem.W.findIn K (.ref C_Parser) "person" = some (some (.ref fParser_person)))
    (iParser_person : PySem.W.isFn K (.ref fParser_person) = true)
    (lParser_person : K.lookup fParser_person = some ⟨ocParser_person, odParser_person, .func (PySem.W.fnOf "person" "Parser.person" (defArgs sParser_person) (defBody sParser_person) (defScope sParser_person) .none kVParser_person dcParser_person pmParser_person anParser_person cdParser_person ctParser_person), slParser_person⟩)
    (cParser_person : PySem.W.codeIn K cdParser_person "Parser.person" = true)
    (kParser_person : PySem.W.keepIn K (.ref fParser_person) = true)
    (aParser_parse_people : PySem.W.findIn K (.ref C_Parser) "parse_people" = some (some (.ref fParser_parse_people)))
    (iParser_parse_people : PySem.W.isFn K (.ref fParser_parse_people) = true)
    (lParser_parse_people : K.lookup fParser_parse_people = some ⟨ocParser_parse_people, odParser_parse_people, .func (PySem.W.fnOf "parse_people" "Parser.parse_people" (defArgs sParser_parse_people) (defBody sParser_parse_people) (defScope sParser_parse_people) .none kVParser_parse_people dcParser_parse_people pmParser_parse_people anParser_parse_people cdParser_parse_people ctParser_parse_people), slParser_parse_people⟩)
    (cParser_parse_people : PySem.W.codeIn K cdParser_parse_people "Parser.parse_people" = true)
    (kParser_parse_people : PySem.W.keepIn K (.ref fParser_parse_people) = true)
    (s_MAX_PEOPLE : PySem.W.nsIn K mainGlobals "MAX_PEOPLE" = some (some (.int 6 t_MAX_PEOPLE)))
    (aParser_parse_turns : PySem.W.findIn K (.ref C_Parser) "parse_turns" = some (some (.ref fParser_parse_turns)))
    (iParser_parse_turns : PySem.W.isFn K (.ref fParser_parse_turns) = true)
    (lParser_parse_turns : K.lookup fParser_parse_turns = some ⟨ocParser_parse_turns, odParser_parse_turns, .func (PySem.W.fnOf "parse_turns" "Parser.parse_turns" (defArgs sParser_parse_turns) (defBody sParser_parse_turns) (defScope sParser_parse_turns) .none kVParser_parse_turns dcParser_parse_turns pmParser_parse_turns anParser_parse_turns cdParser_parse_turns ctParser_parse_turns), slParser_parse_turns⟩)
    (cParser_parse_turns : PySem.W.codeIn K cdParser_parse_turns "Parser.parse_turns" = true)
    (kParser_parse_turns : PySem.W.keepIn K (.ref fParser_parse_turns) = true)
    (s_MAX_TURNS : PySem.W.nsIn K mainGlobals "MAX_TURNS" = some (some (.int 12 t_MAX_TURNS)))
    (aParser_parse_weights : PySem.W.findIn K (.ref C_Parser) "parse_weights" = some (some (.ref fParser_parse_weights)))
    (iParser_parse_weights : PySem.W.isFn K (.ref fParser_parse_weights) = true)
    (lParser_parse_weights : K.lookup fParser_parse_weights = some ⟨ocParser_parse_weights, odParser_parse_weights, .func (PySem.W.fnOf "parse_weights" "Parser.parse_weights" (defArgs sParser_parse_weights) (defBody sParser_parse_weights) (defScope sParser_parse_weights) .none kVParser_parse_weights dcParser_parse_weights pmParser_parse_weights anParser_parse_weights cdParser_parse_weights ctParser_parse_weights), slParser_parse_weights⟩)
    (cParser_parse_weights : PySem.W.codeIn K cdParser_parse_weights "Parser.parse_weights" = true)
    (kParser_parse_weights : PySem.W.keepIn K (.ref fParser_parse_weights) = true)
    (s_MAX_WEIGHT : PySem.W.nsIn K mainGlobals "MAX_WEIGHT" = some (some (.int 9 t_MAX_WEIGHT)))
    (aParser_parse_away : PySem.W.findIn K (.ref C_Parser) "parse_away" = some (some (.ref fParser_parse_away)))
    (iParser_parse_away : PySem.W.isFn K (.ref fParser_parse_away) = true)
    (lParser_parse_away : K.lookup fParser_parse_away = some ⟨ocParser_parse_away, odParser_parse_away, .func (PySem.W.fnOf "parse_away" "Parser.parse_away" (defArgs sParser_parse_away) (defBody sParser_parse_away) (defScope sParser_parse_away) .none kVParser_parse_away dcParser_parse_away pmParser_parse_away anParser_parse_away cdParser_parse_away ctParser_parse_away), slParser_parse_away⟩)
    (cParser_parse_away : PySem.W.codeIn K cdParser_parse_away "Parser.parse_away" = true)
    (kParser_parse_away : PySem.W.keepIn K (.ref fParser_parse_away) = true)
    (s_MAX_AWAYS : PySem.W.nsIn K mainGlobals "MAX_AWAYS" = some (some (.int 20 t_MAX_AWAYS)))
    (s_MODULI : PySem.W.nsIn K mainGlobals "MODULI" = some (some (.ref aTMODULI)))
    (u_MODULI : K.lookup aTMODULI = some ⟨.type "tuple", dTMODULI, .seq #[.int 2 tkMODULI0, .int 3 tkMODULI1, .int 4 tkMODULI2, .int 6 tkMODULI3, .int 8 tkMODULI4, .int 12 tkMODULI5] nTMODULI, slTMODULI⟩)
    (aParser_parse_makeup : PySem.W.findIn K (.ref C_Parser) "parse_makeup" = some (some (.ref fParser_parse_makeup)))
    (iParser_parse_makeup : PySem.W.isFn K (.ref fParser_parse_makeup) = true)
    (lParser_parse_makeup : K.lookup fParser_parse_makeup = some ⟨ocParser_parse_makeup, odParser_parse_makeup, .func (PySem.W.fnOf "parse_makeup" "Parser.parse_makeup" (defArgs sParser_parse_makeup) (defBody sParser_parse_makeup) (defScope sParser_parse_makeup) .none kVParser_parse_makeup dcParser_parse_makeup pmParser_parse_makeup anParser_parse_makeup cdParser_parse_makeup ctParser_parse_makeup), slParser_parse_makeup⟩)
    (cParser_parse_makeup : PySem.W.codeIn K cdParser_parse_makeup "Parser.parse_makeup" = true)
    (kParser_parse_makeup : PySem.W.keepIn K (.ref fParser_parse_makeup) = true)
    (aParser_parse_rota : PySem.W.findIn K (.ref C_Parser) "parse_rota" = some (some (.ref fParser_parse_rota)))
    (iParser_parse_rota : PySem.W.isFn K (.ref fParser_parse_rota) = true)
    (lParser_parse_rota : K.lookup fParser_parse_rota = some ⟨ocParser_parse_rota, odParser_parse_rota, .func (PySem.W.fnOf "parse_rota" "Parser.parse_rota" (defArgs sParser_parse_rota) (defBody sParser_parse_rota) (defScope sParser_parse_rota) .none kVParser_parse_rota dcParser_parse_rota pmParser_parse_rota anParser_parse_rota cdParser_parse_rota ctParser_parse_rota), slParser_parse_rota⟩)
    (cParser_parse_rota : PySem.W.codeIn K cdParser_parse_rota "Parser.parse_rota" = true)
    (kParser_parse_rota : PySem.W.keepIn K (.ref fParser_parse_rota) = true)
    (aload : PySem.W.nsIn K mainGlobals "load" = some (some (.ref fload)))
    (lload : K.lookup fload = some ⟨ocload, odload, .func (PySem.W.fnOf "load" "load" (defArgs sload) (defBody sload) (defScope sload) .none kVload dcload pmload anload cdload ctload), slload⟩)
    (cload : PySem.W.codeIn K cdload "load" = true)
    (kload : PySem.W.keepIn K (.ref fload) = true)
    (aCBook : PySem.W.nsIn K mainGlobals "Book" = some (some (.ref C_Book)))
    (pgBook : PySem.W.plainGet K C_Book Str.empty = true)
    (hdBook : PySem.W.hasDictIn K C_Book = true)
    (poBook : PySem.W.plainOver K C_Book = true)
    (saBook : PySem.W.findIn K (.ref C_Book) "__setattr__" = some (some (.builtin "object.__setattr__")))
    (nBook_parsed : PySem.W.findIn K (.ref C_Book) "parsed" = some none)
    (nBook_now : PySem.W.findIn K (.ref C_Book) "now" = some none)
    (nBook_past : PySem.W.findIn K (.ref C_Book) "past" = some none)
    (nBook_undone : PySem.W.findIn K (.ref C_Book) "undone" = some none)
    (nBook_saved : PySem.W.findIn K (.ref C_Book) "saved" = some none)
    (ais_home : PySem.W.nsIn K mainGlobals "is_home" = some (some (.ref fis_home)))
    (lis_home : K.lookup fis_home = some ⟨ocis_home, odis_home, .func (PySem.W.fnOf "is_home" "is_home" (defArgs sis_home) (defBody sis_home) (defScope sis_home) .none kVis_home dcis_home pmis_home anis_home cdis_home ctis_home), slis_home⟩)
    (cis_home : PySem.W.codeIn K cdis_home "is_home" = true)
    (kis_home : PySem.W.keepIn K (.ref fis_home) = true)
    (ahome_people : PySem.W.nsIn K mainGlobals "home_people" = some (some (.ref fhome_people)))
    (lhome_people : K.lookup fhome_people = some ⟨ochome_people, odhome_people, .func (PySem.W.fnOf "home_people" "home_people" (defArgs shome_people) (defBody shome_people) (defScope shome_people) .none kVhome_people dchome_people pmhome_people anhome_people cdhome_people cthome_people), slhome_people⟩)
    (chome_people : PySem.W.codeIn K cdhome_people "home_people" = true)
    (khome_people : PySem.W.keepIn K (.ref fhome_people) = true)
    (afirst_state : PySem.W.nsIn K mainGlobals "first_state" = some (some (.ref ffirst_state)))
    (lfirst_state : K.lookup ffirst_state = some ⟨ocfirst_state, odfirst_state, .func (PySem.W.fnOf "first_state" "first_state" (defArgs sfirst_state) (defBody sfirst_state) (defScope sfirst_state) .none kVfirst_state dcfirst_state pmfirst_state anfirst_state cdfirst_state ctfirst_state), slfirst_state⟩)
    (cfirst_state : PySem.W.codeIn K cdfirst_state "first_state" = true)
    (kfirst_state : PySem.W.keepIn K (.ref ffirst_state) = true)
    (achanged : PySem.W.nsIn K mainGlobals "changed" = some (some (.ref fchanged)))
    (lchanged : K.lookup fchanged = some ⟨occhanged, odchanged, .func (PySem.W.fnOf "changed" "changed" (defArgs schanged) (defBody schanged) (defScope schanged) .none kVchanged dcchanged pmchanged anchanged cdchanged ctchanged), slchanged⟩)
    (cchanged : PySem.W.codeIn K cdchanged "changed" = true)
    (kchanged : PySem.W.keepIn K (.ref fchanged) = true)
    (s_MAX_OWED : PySem.W.nsIn K mainGlobals "MAX_OWED" = some (some (.int 9 t_MAX_OWED)))
    (aafter_tick : PySem.W.nsIn K mainGlobals "after_tick" = some (some (.ref fafter_tick)))
    (lafter_tick : K.lookup fafter_tick = some ⟨ocafter_tick, odafter_tick, .func (PySem.W.fnOf "after_tick" "after_tick" (defArgs safter_tick) (defBody safter_tick) (defScope safter_tick) .none kVafter_tick dcafter_tick pmafter_tick anafter_tick cdafter_tick ctafter_tick), slafter_tick⟩)
    (cafter_tick : PySem.W.codeIn K cdafter_tick "after_tick" = true)
    (kafter_tick : PySem.W.keepIn K (.ref fafter_tick) = true)
    (aBook_record : PySem.W.findIn K (.ref C_Book) "record" = some (some (.ref fBook_record)))
    (iBook_record : PySem.W.isFn K (.ref fBook_record) = true)
    (lBook_record : K.lookup fBook_record = some ⟨ocBook_record, odBook_record, .func (PySem.W.fnOf "record" "Book.record" (defArgs sBook_record) (defBody sBook_record) (defScope sBook_record) .none kVBook_record dcBook_record pmBook_record anBook_record cdBook_record ctBook_record), slBook_record⟩)
    (cBook_record : PySem.W.codeIn K cdBook_record "Book.record" = true)
    (kBook_record : PySem.W.keepIn K (.ref fBook_record) = true)
    (aBook_named : PySem.W.findIn K (.ref C_Book) "named" = some (some (.ref fBook_named)))
    (iBook_named : PySem.W.isFn K (.ref fBook_named) = true)
    (lBook_named : K.lookup fBook_named = some ⟨ocBook_named, odBook_named, .func (PySem.W.fnOf "named" "Book.named" (defArgs sBook_named) (defBody sBook_named) (defScope sBook_named) .none kVBook_named dcBook_named pmBook_named anBook_named cdBook_named ctBook_named), slBook_named⟩)
    (cBook_named : PySem.W.codeIn K cdBook_named "Book.named" = true)
    (kBook_named : PySem.W.keepIn K (.ref fBook_named) = true)
    (aBook_reset : PySem.W.findIn K (.ref C_Book) "reset" = some (some (.ref fBook_reset)))
    (iBook_reset : PySem.W.isFn K (.ref fBook_reset) = true)
    (lBook_reset : K.lookup fBook_reset = some ⟨ocBook_reset, odBook_reset, .func (PySem.W.fnOf "reset" "Book.reset" (defArgs sBook_reset) (defBody sBook_reset) (defScope sBook_reset) .none kVBook_reset dcBook_reset pmBook_reset anBook_reset cdBook_reset ctBook_reset), slBook_reset⟩)
    (cBook_reset : PySem.W.codeIn K cdBook_reset "Book.reset" = true)
    (kBook_reset : PySem.W.keepIn K (.ref fBook_reset) = true)
    (s_RESET : PySem.W.nsIn K mainGlobals "RESET" = some (some (.str "reset" t_RESET)))
    (aBook_undo : PySem.W.findIn K (.ref C_Book) "undo" = some (some (.ref fBook_undo)))
    (iBook_undo : PySem.W.isFn K (.ref fBook_undo) = true)
    (lBook_undo : K.lookup fBook_undo = some ⟨ocBook_undo, odBook_undo, .func (PySem.W.fnOf "undo" "Book.undo" (defArgs sBook_undo) (defBody sBook_undo) (defScope sBook_undo) .none kVBook_undo dcBook_undo pmBook_undo anBook_undo cdBook_undo ctBook_undo), slBook_undo⟩)
    (cBook_undo : PySem.W.codeIn K cdBook_undo "Book.undo" = true)
    (kBook_undo : PySem.W.keepIn K (.ref fBook_undo) = true)
    (aBook_redo : PySem.W.findIn K (.ref C_Book) "redo" = some (some (.ref fBook_redo)))
    (iBook_redo : PySem.W.isFn K (.ref fBook_redo) = true)
    (lBook_redo : K.lookup fBook_redo = some ⟨ocBook_redo, odBook_redo, .func (PySem.W.fnOf "redo" "Book.redo" (defArgs sBook_redo) (defBody sBook_redo) (defScope sBook_redo) .none kVBook_redo dcBook_redo pmBook_redo anBook_redo cdBook_redo ctBook_redo), slBook_redo⟩)
    (cBook_redo : PySem.W.codeIn K cdBook_redo "Book.redo" = true)
    (kBook_redo : PySem.W.keepIn K (.ref fBook_redo) = true)
    (ais_int_in : PySem.W.nsIn K mainGlobals "is_int_in" = some (some (.ref fis_int_in)))
    (lis_int_in : K.lookup fis_int_in = some ⟨ocis_int_in, odis_int_in, .func (PySem.W.fnOf "is_int_in" "is_int_in" (defArgs sis_int_in) (defBody sis_int_in) (defScope sis_int_in) .none kVis_int_in dcis_int_in pmis_int_in anis_int_in cdis_int_in ctis_int_in), slis_int_in⟩)
    (cis_int_in : PySem.W.codeIn K cdis_int_in "is_int_in" = true)
    (kis_int_in : PySem.W.keepIn K (.ref fis_int_in) = true)
    (aperson_number : PySem.W.nsIn K mainGlobals "person_number" = some (some (.ref fperson_number)))
    (lperson_number : K.lookup fperson_number = some ⟨ocperson_number, odperson_number, .func (PySem.W.fnOf "person_number" "person_number" (defArgs sperson_number) (defBody sperson_number) (defScope sperson_number) .none kVperson_number dcperson_number pmperson_number anperson_number cdperson_number ctperson_number), slperson_number⟩)
    (cperson_number : PySem.W.codeIn K cdperson_number "person_number" = true)
    (kperson_number : PySem.W.keepIn K (.ref fperson_number) = true)
    (qUnknownPerson : PySem.W.excIn K C_UnknownPerson [.type "ValueError", .type "Exception", .type "BaseException", .type "object"] "ValueError.__new__" = true)
    (eCUnknownPerson : PySem.W.subIn K (.ref C_UnknownPerson) (.type "BaseException") = some true)
    (tCUnknownPerson : PySem.W.typeIn K (.ref C_UnknownPerson) = some (.type "type"))
    (kCUnknownPerson : PySem.W.keepIn K (.ref C_UnknownPerson) = true)
    (aBook_step : PySem.W.findIn K (.ref C_Book) "step" = some (some (.ref fBook_step)))
    (iBook_step : PySem.W.isFn K (.ref fBook_step) = true)
    (lBook_step : K.lookup fBook_step = some ⟨ocBook_step, odBook_step, .func (PySem.W.fnOf "step" "Book.step" (defArgs sBook_step) (defBody sBook_step) (defScope sBook_step) .none kVBook_step dcBook_step pmBook_step anBook_step cdBook_step ctBook_step), slBook_step⟩)
    (cBook_step : PySem.W.codeIn K cdBook_step "Book.step" = true)
    (kBook_step : PySem.W.keepIn K (.ref fBook_step) = true)
    (s_STEP : PySem.W.nsIn K mainGlobals "STEP" = some (some (.str "step" t_STEP)))
    (s_MAX_STEPS : PySem.W.nsIn K mainGlobals "MAX_STEPS" = some (some (.int 500 t_MAX_STEPS)))
    (qInvalidCount : PySem.W.excIn K C_InvalidCount [.type "ValueError", .type "Exception", .type "BaseException", .type "object"] "ValueError.__new__" = true)
    (eCInvalidCount : PySem.W.subIn K (.ref C_InvalidCount) (.type "BaseException") = some true)
    (tCInvalidCount : PySem.W.typeIn K (.ref C_InvalidCount) = some (.type "type"))
    (kCInvalidCount : PySem.W.keepIn K (.ref C_InvalidCount) = true)
    (aBook_gift : PySem.W.findIn K (.ref C_Book) "gift" = some (some (.ref fBook_gift)))
    (iBook_gift : PySem.W.isFn K (.ref fBook_gift) = true)
    (lBook_gift : K.lookup fBook_gift = some ⟨ocBook_gift, odBook_gift, .func (PySem.W.fnOf "gift" "Book.gift" (defArgs sBook_gift) (defBody sBook_gift) (defScope sBook_gift) .none kVBook_gift dcBook_gift pmBook_gift anBook_gift cdBook_gift ctBook_gift), slBook_gift⟩)
    (cBook_gift : PySem.W.codeIn K cdBook_gift "Book.gift" = true)
    (kBook_gift : PySem.W.keepIn K (.ref fBook_gift) = true)
    (s_GIFT : PySem.W.nsIn K mainGlobals "GIFT" = some (some (.str "gift" t_GIFT)))
    (qNobodyHome : PySem.W.excIn K C_NobodyHome [.type "ValueError", .type "Exception", .type "BaseException", .type "object"] "ValueError.__new__" = true)
    (eCNobodyHome : PySem.W.subIn K (.ref C_NobodyHome) (.type "BaseException") = some true)
    (tCNobodyHome : PySem.W.typeIn K (.ref C_NobodyHome) = some (.type "type"))
    (kCNobodyHome : PySem.W.keepIn K (.ref C_NobodyHome) = true)
    (aBook_forgive : PySem.W.findIn K (.ref C_Book) "forgive" = some (some (.ref fBook_forgive)))
    (iBook_forgive : PySem.W.isFn K (.ref fBook_forgive) = true)
    (lBook_forgive : K.lookup fBook_forgive = some ⟨ocBook_forgive, odBook_forgive, .func (PySem.W.fnOf "forgive" "Book.forgive" (defArgs sBook_forgive) (defBody sBook_forgive) (defScope sBook_forgive) .none kVBook_forgive dcBook_forgive pmBook_forgive anBook_forgive cdBook_forgive ctBook_forgive), slBook_forgive⟩)
    (cBook_forgive : PySem.W.codeIn K cdBook_forgive "Book.forgive" = true)
    (kBook_forgive : PySem.W.keepIn K (.ref fBook_forgive) = true)
    (s_FORGIVE : PySem.W.nsIn K mainGlobals "FORGIVE" = some (some (.str "forgive" t_FORGIVE)))
    (mkBook : PySem.W.makesIn K C_Book = true)
    (kcBook : PySem.W.keepIn K (.ref C_Book) = true)
    (aBookI : PySem.W.findIn K (.ref C_Book) "__init__" = some (some (.ref fBookI)))
    (iBookI : PySem.W.isFn K (.ref fBookI) = true)
    (lBookI : K.lookup fBookI = some ⟨ocBookI, odBookI, .func (PySem.W.fnOf "__init__" "Book.__init__" (defArgs sBook___init__) (defBody sBook___init__) (defScope sBook___init__) .none kVBookI dcBookI pmBookI anBookI cdBookI ctBookI), slBookI⟩)
    (cBookI : PySem.W.codeIn K cdBookI "Book.__init__" = true)
    (kBookI : PySem.W.keepIn K (.ref fBookI) = true)
    (aBook_execute : PySem.W.findIn K (.ref C_Book) "execute" = some (some (.ref fBook_execute)))
    (iBook_execute : PySem.W.isFn K (.ref fBook_execute) = true)
    (lBook_execute : K.lookup fBook_execute = some ⟨ocBook_execute, odBook_execute, .func (PySem.W.fnOf "execute" "Book.execute" (defArgs sBook_execute) (defBody sBook_execute) (defScope sBook_execute) .none kVBook_execute dcBook_execute pmBook_execute anBook_execute cdBook_execute ctBook_execute), slBook_execute⟩)
    (cBook_execute : PySem.W.codeIn K cdBook_execute "Book.execute" = true)
    (kBook_execute : PySem.W.keepIn K (.ref fBook_execute) = true)
    (ais_operation : PySem.W.nsIn K mainGlobals "is_operation" = some (some (.ref fis_operation)))
    (lis_operation : K.lookup fis_operation = some ⟨ocis_operation, odis_operation, .func (PySem.W.fnOf "is_operation" "is_operation" (defArgs sis_operation) (defBody sis_operation) (defScope sis_operation) .none kVis_operation dcis_operation pmis_operation anis_operation cdis_operation ctis_operation), slis_operation⟩)
    (cis_operation : PySem.W.codeIn K cdis_operation "is_operation" = true)
    (kis_operation : PySem.W.keepIn K (.ref fis_operation) = true)
    (s_LENGTHS : PySem.W.nsIn K mainGlobals "LENGTHS" = some (some (.ref a_LENGTHS)))
    (u_LENGTHS : K.lookup a_LENGTHS = some ⟨.type "dict", none, .dict es_LENGTHS n_LENGTHS, #[]⟩)
    (kl_LENGTHS : PySem.W.KeysLit w.params es_LENGTHS.toList)
    (sm_LENGTHS : (a_LENGTHS == sysModules) = false)
    (v_LENGTHS0 : PySem.W.nsIn K a_LENGTHS "step" = some (some (.int 2 tkLENGTHS0)))
    (v_LENGTHS1 : PySem.W.nsIn K a_LENGTHS "gift" = some (some (.int 2 tkLENGTHS1)))
    (v_LENGTHS2 : PySem.W.nsIn K a_LENGTHS "forgive" = some (some (.int 2 tkLENGTHS2)))
    (v_LENGTHS3 : PySem.W.nsIn K a_LENGTHS "reset" = some (some (.int 1 tkLENGTHS3)))
    (v_LENGTHS4 : PySem.W.nsIn K a_LENGTHS "undo" = some (some (.int 1 tkLENGTHS4)))
    (v_LENGTHS5 : PySem.W.nsIn K a_LENGTHS "redo" = some (some (.int 1 tkLENGTHS5)))
    (xInvalidOperation : K.lookup C_InvalidOperation = some (excClassObj nmInvalidOperation qInvalidOperation C_InvalidOperation NInvalidOperation bsInvalidOperation [.ref C_RotaError, .type "ValueError", .type "Exception", .type "BaseException", .type "object"] true snInvalidOperation subInvalidOperation abInvalidOperation colInvalidOperation ddInvalidOperation m0InvalidOperation m1InvalidOperation m2InvalidOperation m3InvalidOperation m5InvalidOperation "ValueError.__new__"))
    (sEInvalidOperation : PySem.W.findIn K (.ref C_InvalidOperation) "__setattr__" = some (some (.builtin "object.__setattr__")))
    (eCInvalidOperation : PySem.W.subIn K (.ref C_InvalidOperation) (.type "BaseException") = some true)
    (tCInvalidOperation : PySem.W.typeIn K (.ref C_InvalidOperation) = some (.type "type"))
    (kCInvalidOperation : PySem.W.keepIn K (.ref C_InvalidOperation) = true)
    (aInvalidOperationI : PySem.W.findIn K (.ref C_InvalidOperation) "__init__" = some (some (.ref fInvalidOperationI)))
    (tInvalidOperationI : PySem.W.typeIn K (.ref fInvalidOperationI) = some (.type "function"))
    (lInvalidOperationI : K.lookup fInvalidOperationI = some ⟨ocInvalidOperationI, odInvalidOperationI, .func (PySem.W.fnOf "__init__" "InvalidOperation.__init__" (defArgs sInvalidOperation___init__) (defBody sInvalidOperation___init__) (defScope sInvalidOperation___init__) .none kVInvalidOperationI dcInvalidOperationI pmInvalidOperationI anInvalidOperationI cdInvalidOperationI ctInvalidOperationI), slInvalidOperationI⟩)
    (cInvalidOperationI : PySem.W.codeIn K cdInvalidOperationI "InvalidOperation.__init__" = true)
    (kInvalidOperationI : PySem.W.keepIn K (.ref fInvalidOperationI) = true)
    (noInvalidOperationplace : PySem.W.findIn K (.ref C_InvalidOperation) "place" = some none)
    (rdBook : PySem.W.readsIn K C_Book (.type "type") = true)
    (gaBook : PySem.W.specialIn K (.ref C_Book) "__getattribute__" = some (some (.builtin "type.__getattribute__")))
    (aBook_replay : PySem.W.findCls K (.ref C_Book) (.type "type") "replay" = some (.get (.builtin "classmethod.__get__") (.ref pBook_replay) .none (.ref C_Book)))
    (r_Book_replay : PySem.W.recIn K pBook_replay "classmethod" = some (.ref fBook_replay :: rBook_replay))
    (iBook_replay : PySem.W.fnIn K fBook_replay = true)
    (lBook_replay : K.lookup fBook_replay = some ⟨ocBook_replay, odBook_replay, .func (PySem.W.fnOf "replay" "Book.replay" (defArgs sBook_replay) (defBody sBook_replay) (defScope sBook_replay) .none kVBook_replay dcBook_replay pmBook_replay anBook_replay cdBook_replay ctBook_replay), slBook_replay⟩)
    (cBook_replay : PySem.W.codeIn K cdBook_replay "Book.replay" = true)
    (kBook_replay : PySem.W.keepIn K (.ref fBook_replay) = true)
    (aparse_number : PySem.W.nsIn K mainGlobals "parse_number" = some (some (.ref fparse_number)))
    (lparse_number : K.lookup fparse_number = some ⟨ocparse_number, odparse_number, .func (PySem.W.fnOf "parse_number" "parse_number" (defArgs sparse_number) (defBody sparse_number) (defScope sparse_number) .none kVparse_number dcparse_number pmparse_number anparse_number cdparse_number ctparse_number), slparse_number⟩)
    (cparse_number : PySem.W.codeIn K cdparse_number "parse_number" = true)
    (kparse_number : PySem.W.keepIn K (.ref fparse_number) = true)
    (s_MAX_DIGITS_session : PySem.W.nsIn K mainGlobals "MAX_DIGITS_session" = some (some (.int 3 t_MAX_DIGITS_session)))
    (ais_name : PySem.W.nsIn K mainGlobals "is_name" = some (some (.ref fis_name)))
    (lis_name : K.lookup fis_name = some ⟨ocis_name, odis_name, .func (PySem.W.fnOf "is_name" "is_name" (defArgs sis_name) (defBody sis_name) (defScope sis_name) .none kVis_name dcis_name pmis_name anis_name cdis_name ctis_name), slis_name⟩)
    (cis_name : PySem.W.codeIn K cdis_name "is_name" = true)
    (kis_name : PySem.W.keepIn K (.ref fis_name) = true)
    (aparse_line : PySem.W.nsIn K mainGlobals "parse_line" = some (some (.ref fparse_line)))
    (lparse_line : K.lookup fparse_line = some ⟨ocparse_line, odparse_line, .func (PySem.W.fnOf "parse_line" "parse_line" (defArgs sparse_line) (defBody sparse_line) (defScope sparse_line) .none kVparse_line dcparse_line pmparse_line anparse_line cdparse_line ctparse_line), slparse_line⟩)
    (cparse_line : PySem.W.codeIn K cdparse_line "parse_line" = true)
    (kparse_line : PySem.W.keepIn K (.ref fparse_line) = true)
    (xInvalidSession : K.lookup C_InvalidSession = some (excClassObj nmInvalidSession qInvalidSession C_InvalidSession NInvalidSession bsInvalidSession [.ref C_RotaError, .type "ValueError", .type "Exception", .type "BaseException", .type "object"] true snInvalidSession subInvalidSession abInvalidSession colInvalidSession ddInvalidSession m0InvalidSession m1InvalidSession m2InvalidSession m3InvalidSession m5InvalidSession "ValueError.__new__"))
    (sEInvalidSession : PySem.W.findIn K (.ref C_InvalidSession) "__setattr__" = some (some (.builtin "object.__setattr__")))
    (eCInvalidSession : PySem.W.subIn K (.ref C_InvalidSession) (.type "BaseException") = some true)
    (tCInvalidSession : PySem.W.typeIn K (.ref C_InvalidSession) = some (.type "type"))
    (kCInvalidSession : PySem.W.keepIn K (.ref C_InvalidSession) = true)
    (aInvalidSessionI : PySem.W.findIn K (.ref C_InvalidSession) "__init__" = some (some (.ref fInvalidSessionI)))
    (tInvalidSessionI : PySem.W.typeIn K (.ref fInvalidSessionI) = some (.type "function"))
    (lInvalidSessionI : K.lookup fInvalidSessionI = some ⟨ocInvalidSessionI, odInvalidSessionI, .func (PySem.W.fnOf "__init__" "InvalidSession.__init__" (defArgs sInvalidSession___init__) (defBody sInvalidSession___init__) (defScope sInvalidSession___init__) .none kVInvalidSessionI dcInvalidSessionI pmInvalidSessionI anInvalidSessionI cdInvalidSessionI ctInvalidSessionI), slInvalidSessionI⟩)
    (cInvalidSessionI : PySem.W.codeIn K cdInvalidSessionI "InvalidSession.__init__" = true)
    (kInvalidSessionI : PySem.W.keepIn K (.ref fInvalidSessionI) = true)
    (noInvalidSessionplace : PySem.W.findIn K (.ref C_InvalidSession) "place" = some none)
    (aparse_session : PySem.W.nsIn K mainGlobals "parse_session" = some (some (.ref fparse_session)))
    (lparse_session : K.lookup fparse_session = some ⟨ocparse_session, odparse_session, .func (PySem.W.fnOf "parse_session" "parse_session" (defArgs sparse_session) (defBody sparse_session) (defScope sparse_session) .none kVparse_session dcparse_session pmparse_session anparse_session cdparse_session ctparse_session), slparse_session⟩)
    (cparse_session : PySem.W.codeIn K cdparse_session "parse_session" = true)
    (kparse_session : PySem.W.keepIn K (.ref fparse_session) = true)
    (s_ROTA : PySem.W.nsIn K mainGlobals "ROTA" = some (some (.str "rota" t_ROTA)))
    (a_law_is_number : PySem.W.nsIn K mainGlobals "_law_is_number" = some (some (.ref f_law_is_number)))
    (l_law_is_number : K.lookup f_law_is_number = some ⟨oc_law_is_number, od_law_is_number, .func (PySem.W.fnOf "_law_is_number" "_law_is_number" (defArgs s_law_is_number) (defBody s_law_is_number) (defScope s_law_is_number) .none kV_law_is_number dc_law_is_number pm_law_is_number an_law_is_number cd_law_is_number ct_law_is_number), sl_law_is_number⟩)
    (c_law_is_number : PySem.W.codeIn K cd_law_is_number "_law_is_number" = true)
    (k_law_is_number : PySem.W.keepIn K (.ref f_law_is_number) = true)
    (a_law_parsed_line : PySem.W.nsIn K mainGlobals "_law_parsed_line" = some (some (.ref f_law_parsed_line)))
    (l_law_parsed_line : K.lookup f_law_parsed_line = some ⟨oc_law_parsed_line, od_law_parsed_line, .func (PySem.W.fnOf "_law_parsed_line" "_law_parsed_line" (defArgs s_law_parsed_line) (defBody s_law_parsed_line) (defScope s_law_parsed_line) .none kV_law_parsed_line dc_law_parsed_line pm_law_parsed_line an_law_parsed_line cd_law_parsed_line ct_law_parsed_line), sl_law_parsed_line⟩)
    (c_law_parsed_line : PySem.W.codeIn K cd_law_parsed_line "_law_parsed_line" = true)
    (k_law_parsed_line : PySem.W.keepIn K (.ref f_law_parsed_line) = true)
    (a_law_equal : PySem.W.nsIn K mainGlobals "_law_equal" = some (some (.ref f_law_equal)))
    (l_law_equal : K.lookup f_law_equal = some ⟨oc_law_equal, od_law_equal, .func (PySem.W.fnOf "_law_equal" "_law_equal" (defArgs s_law_equal) (defBody s_law_equal) (defScope s_law_equal) .none kV_law_equal dc_law_equal pm_law_equal an_law_equal cd_law_equal ct_law_equal), sl_law_equal⟩)
    (c_law_equal : PySem.W.codeIn K cd_law_equal "_law_equal" = true)
    (k_law_equal : PySem.W.keepIn K (.ref f_law_equal) = true)
    (ktSyntaxFault0 : PySem.W.kitOne K (.ref C_SyntaxFault) (.ref C_InvalidTick) = some false)
    (ktSyntaxFault1 : PySem.W.kitOne K (.ref C_SyntaxFault) (.ref C_InvalidCount) = some false)
    (ktSyntaxFault2 : PySem.W.kitOne K (.ref C_SyntaxFault) (.ref C_UnknownPerson) = some false)
    (ktSyntaxFault3 : PySem.W.kitOne K (.ref C_SyntaxFault) (.ref C_TooLong) = some false)
    (ktSyntaxFault4 : PySem.W.kitOne K (.ref C_SyntaxFault) (.ref C_DifferentPeople) = some false)
    (ktSyntaxFault5 : PySem.W.kitOne K (.ref C_SyntaxFault) (.ref C_Contradiction) = some false)
    (ktSyntaxFault6 : PySem.W.kitOne K (.ref C_SyntaxFault) (.ref C_NobodyHome) = some false)
    (ktSyntaxFault7 : PySem.W.kitOne K (.ref C_SyntaxFault) (.ref C_InvalidName) = some false)
    (ktSyntaxFault8 : PySem.W.kitOne K (.ref C_SyntaxFault) (.ref C_UnknownName) = some false)
    (ktSyntaxFault9 : PySem.W.kitOne K (.ref C_SyntaxFault) (.ref C_SyntaxFault) = some true)
    (ktSyntaxFault10 : PySem.W.kitOne K (.ref C_SyntaxFault) (.ref C_CheckFault) = some false)
    (ktSyntaxFault11 : PySem.W.kitOne K (.ref C_SyntaxFault) (.ref C_InvalidCode) = some false)
    (ktSyntaxFault12 : PySem.W.kitOne K (.ref C_SyntaxFault) (.ref C_InvalidOperation) = some false)
    (ktSyntaxFault13 : PySem.W.kitOne K (.ref C_SyntaxFault) (.ref C_InvalidSession) = some false)
    (kvSyntaxFault : PySem.W.kitOne K (.ref C_SyntaxFault) (.type "ValueError") = some true)
    (kxSyntaxFault : PySem.W.exmOne K (.ref C_SyntaxFault) (.ref C_RotaError) = some true)
    (kiSyntaxFault : PySem.W.isClsIn K C_SyntaxFault = true)
    (gESyntaxFault : PySem.W.findIn K (.ref C_SyntaxFault) "__getattribute__" = some (some (.builtin "BaseException.__getattribute__")))
    (ggSyntaxFault : PySem.W.findIn K (.ref C_SyntaxFault) "__getattr__" = some none)
    (cESyntaxFault : PySem.W.findIn K (.ref C_SyntaxFault) "__class__" = some (some (.builtin "object.__class__")))
    (mESyntaxFault : PySem.W.mroIn K C_SyntaxFault (.type "object") = some true)
    (hESyntaxFault : PySem.W.hasDictIn K C_SyntaxFault = true)
    (cgO : PySem.W.specialIn K (.builtin "object.__class__") "__get__" = some (some (.builtin "getset_descriptor.__get__")))
    (tkO : PySem.W.takesIn K (.builtin "object.__class__") = some true)
    (ktCheckFault0 : PySem.W.kitOne K (.ref C_CheckFault) (.ref C_InvalidTick) = some false)
    (ktCheckFault1 : PySem.W.kitOne K (.ref C_CheckFault) (.ref C_InvalidCount) = some false)
    (ktCheckFault2 : PySem.W.kitOne K (.ref C_CheckFault) (.ref C_UnknownPerson) = some false)
    (ktCheckFault3 : PySem.W.kitOne K (.ref C_CheckFault) (.ref C_TooLong) = some false)
    (ktCheckFault4 : PySem.W.kitOne K (.ref C_CheckFault) (.ref C_DifferentPeople) = some false)
    (ktCheckFault5 : PySem.W.kitOne K (.ref C_CheckFault) (.ref C_Contradiction) = some false)
    (ktCheckFault6 : PySem.W.kitOne K (.ref C_CheckFault) (.ref C_NobodyHome) = some false)
    (ktCheckFault7 : PySem.W.kitOne K (.ref C_CheckFault) (.ref C_InvalidName) = some false)
    (ktCheckFault8 : PySem.W.kitOne K (.ref C_CheckFault) (.ref C_UnknownName) = some false)
    (ktCheckFault9 : PySem.W.kitOne K (.ref C_CheckFault) (.ref C_SyntaxFault) = some false)
    (ktCheckFault10 : PySem.W.kitOne K (.ref C_CheckFault) (.ref C_CheckFault) = some true)
    (ktCheckFault11 : PySem.W.kitOne K (.ref C_CheckFault) (.ref C_InvalidCode) = some false)
    (ktCheckFault12 : PySem.W.kitOne K (.ref C_CheckFault) (.ref C_InvalidOperation) = some false)
    (ktCheckFault13 : PySem.W.kitOne K (.ref C_CheckFault) (.ref C_InvalidSession) = some false)
    (kvCheckFault : PySem.W.kitOne K (.ref C_CheckFault) (.type "ValueError") = some true)
    (kxCheckFault : PySem.W.exmOne K (.ref C_CheckFault) (.ref C_RotaError) = some true)
    (kiCheckFault : PySem.W.isClsIn K C_CheckFault = true)
    (gECheckFault : PySem.W.findIn K (.ref C_CheckFault) "__getattribute__" = some (some (.builtin "BaseException.__getattribute__")))
    (ggCheckFault : PySem.W.findIn K (.ref C_CheckFault) "__getattr__" = some none)
    (cECheckFault : PySem.W.findIn K (.ref C_CheckFault) "__class__" = some (some (.builtin "object.__class__")))
    (mECheckFault : PySem.W.mroIn K C_CheckFault (.type "object") = some true)
    (hECheckFault : PySem.W.hasDictIn K C_CheckFault = true)
    (ktInvalidOperation0 : PySem.W.kitOne K (.ref C_InvalidOperation) (.ref C_InvalidTick) = some false)
    (ktInvalidOperation1 : PySem.W.kitOne K (.ref C_InvalidOperation) (.ref C_InvalidCount) = some false)
    (ktInvalidOperation2 : PySem.W.kitOne K (.ref C_InvalidOperation) (.ref C_UnknownPerson) = some false)
    (ktInvalidOperation3 : PySem.W.kitOne K (.ref C_InvalidOperation) (.ref C_TooLong) = some false)
    (ktInvalidOperation4 : PySem.W.kitOne K (.ref C_InvalidOperation) (.ref C_DifferentPeople) = some false)
    (ktInvalidOperation5 : PySem.W.kitOne K (.ref C_InvalidOperation) (.ref C_Contradiction) = some false)
    (ktInvalidOperation6 : PySem.W.kitOne K (.ref C_InvalidOperation) (.ref C_NobodyHome) = some false)
    (ktInvalidOperation7 : PySem.W.kitOne K (.ref C_InvalidOperation) (.ref C_InvalidName) = some false)
    (ktInvalidOperation8 : PySem.W.kitOne K (.ref C_InvalidOperation) (.ref C_UnknownName) = some false)
    (ktInvalidOperation9 : PySem.W.kitOne K (.ref C_InvalidOperation) (.ref C_SyntaxFault) = some false)
    (ktInvalidOperation10 : PySem.W.kitOne K (.ref C_InvalidOperation) (.ref C_CheckFault) = some false)
    (ktInvalidOperation11 : PySem.W.kitOne K (.ref C_InvalidOperation) (.ref C_InvalidCode) = some false)
    (ktInvalidOperation12 : PySem.W.kitOne K (.ref C_InvalidOperation) (.ref C_InvalidOperation) = some true)
    (ktInvalidOperation13 : PySem.W.kitOne K (.ref C_InvalidOperation) (.ref C_InvalidSession) = some false)
    (kvInvalidOperation : PySem.W.kitOne K (.ref C_InvalidOperation) (.type "ValueError") = some true)
    (kxInvalidOperation : PySem.W.exmOne K (.ref C_InvalidOperation) (.ref C_RotaError) = some true)
    (kiInvalidOperation : PySem.W.isClsIn K C_InvalidOperation = true)
    (gEInvalidOperation : PySem.W.findIn K (.ref C_InvalidOperation) "__getattribute__" = some (some (.builtin "BaseException.__getattribute__")))
    (ggInvalidOperation : PySem.W.findIn K (.ref C_InvalidOperation) "__getattr__" = some none)
    (cEInvalidOperation : PySem.W.findIn K (.ref C_InvalidOperation) "__class__" = some (some (.builtin "object.__class__")))
    (mEInvalidOperation : PySem.W.mroIn K C_InvalidOperation (.type "object") = some true)
    (hEInvalidOperation : PySem.W.hasDictIn K C_InvalidOperation = true)
    (ktInvalidSession0 : PySem.W.kitOne K (.ref C_InvalidSession) (.ref C_InvalidTick) = some false)
    (ktInvalidSession1 : PySem.W.kitOne K (.ref C_InvalidSession) (.ref C_InvalidCount) = some false)
    (ktInvalidSession2 : PySem.W.kitOne K (.ref C_InvalidSession) (.ref C_UnknownPerson) = some false)
    (ktInvalidSession3 : PySem.W.kitOne K (.ref C_InvalidSession) (.ref C_TooLong) = some false)
    (ktInvalidSession4 : PySem.W.kitOne K (.ref C_InvalidSession) (.ref C_DifferentPeople) = some false)
    (ktInvalidSession5 : PySem.W.kitOne K (.ref C_InvalidSession) (.ref C_Contradiction) = some false)
    (ktInvalidSession6 : PySem.W.kitOne K (.ref C_InvalidSession) (.ref C_NobodyHome) = some false)
    (ktInvalidSession7 : PySem.W.kitOne K (.ref C_InvalidSession) (.ref C_InvalidName) = some false)
    (ktInvalidSession8 : PySem.W.kitOne K (.ref C_InvalidSession) (.ref C_UnknownName) = some false)
    (ktInvalidSession9 : PySem.W.kitOne K (.ref C_InvalidSession) (.ref C_SyntaxFault) = some false)
    (ktInvalidSession10 : PySem.W.kitOne K (.ref C_InvalidSession) (.ref C_CheckFault) = some false)
    (ktInvalidSession11 : PySem.W.kitOne K (.ref C_InvalidSession) (.ref C_InvalidCode) = some false)
    (ktInvalidSession12 : PySem.W.kitOne K (.ref C_InvalidSession) (.ref C_InvalidOperation) = some false)
    (ktInvalidSession13 : PySem.W.kitOne K (.ref C_InvalidSession) (.ref C_InvalidSession) = some true)
    (kvInvalidSession : PySem.W.kitOne K (.ref C_InvalidSession) (.type "ValueError") = some true)
    (kxInvalidSession : PySem.W.exmOne K (.ref C_InvalidSession) (.ref C_RotaError) = some true)
    (kiInvalidSession : PySem.W.isClsIn K C_InvalidSession = true)
    (gEInvalidSession : PySem.W.findIn K (.ref C_InvalidSession) "__getattribute__" = some (some (.builtin "BaseException.__getattribute__")))
    (ggInvalidSession : PySem.W.findIn K (.ref C_InvalidSession) "__getattr__" = some none)
    (cEInvalidSession : PySem.W.findIn K (.ref C_InvalidSession) "__class__" = some (some (.builtin "object.__class__")))
    (mEInvalidSession : PySem.W.mroIn K C_InvalidSession (.type "object") = some true)
    (hEInvalidSession : PySem.W.hasDictIn K C_InvalidSession = true)
    (a_law_error_of : PySem.W.nsIn K mainGlobals "_law_error_of" = some (some (.ref f_law_error_of)))
    (l_law_error_of : K.lookup f_law_error_of = some ⟨oc_law_error_of, od_law_error_of, .func (PySem.W.fnOf "_law_error_of" "_law_error_of" (defArgs s_law_error_of) (defBody s_law_error_of) (defScope s_law_error_of) .none kV_law_error_of dc_law_error_of pm_law_error_of an_law_error_of cd_law_error_of ct_law_error_of), sl_law_error_of⟩)
    (c_law_error_of : PySem.W.codeIn K cd_law_error_of "_law_error_of" = true)
    (k_law_error_of : PySem.W.keepIn K (.ref f_law_error_of) = true)
    (z_len : PySem.W.nsIn K mainGlobals "len" = some none)
    (z_range : PySem.W.nsIn K mainGlobals "range" = some none)
    (z_list : PySem.W.nsIn K mainGlobals "list" = some none)
    (z_tuple : PySem.W.nsIn K mainGlobals "tuple" = some none)
    (z_int : PySem.W.nsIn K mainGlobals "int" = some none)
    (z_str : PySem.W.nsIn K mainGlobals "str" = some none)
    (z_abs : PySem.W.nsIn K mainGlobals "abs" = some none)
    (z_max : PySem.W.nsIn K mainGlobals "max" = some none)
    (z_sorted : PySem.W.nsIn K mainGlobals "sorted" = some none)
    (z_set : PySem.W.nsIn K mainGlobals "set" = some none)
    (z_any : PySem.W.nsIn K mainGlobals "any" = some none)
    (z_all : PySem.W.nsIn K mainGlobals "all" = some none)
    (z_enumerate : PySem.W.nsIn K mainGlobals "enumerate" = some none)
    (z_isinstance : PySem.W.nsIn K mainGlobals "isinstance" = some none)
    (z_bool : PySem.W.nsIn K mainGlobals "bool" = some none)
    (z_sum : PySem.W.nsIn K mainGlobals "sum" = some none)
    (z_zip : PySem.W.nsIn K mainGlobals "zip" = some none)
    (z_min : PySem.W.nsIn K mainGlobals "min" = some none)
    (z_dict : PySem.W.nsIn K mainGlobals "dict" = some none)
    (z_divmod : PySem.W.nsIn K mainGlobals "divmod" = some none)
    (z_ValueError : PySem.W.nsIn K mainGlobals "ValueError" = some none)
    (kxInvalidCount : PySem.W.exmOne K (.ref C_InvalidCount) (.ref C_RotaError) = some true)
    (kxUnknownPerson : PySem.W.exmOne K (.ref C_UnknownPerson) (.ref C_RotaError) = some true)
    (kxNobodyHome : PySem.W.exmOne K (.ref C_NobodyHome) (.ref C_RotaError) = some true)
    (ne_Token__Parser : C_Token ≠ C_Parser)
    (alaw : PySem.W.nsIn K mainGlobals "law" = some (some (.ref flaw)))
    (llaw : K.lookup flaw = some ⟨oclaw, odlaw, .func (PySem.W.fnOf "law" "law" (defArgs slaw) (defBody slaw) (defScope slaw) .none kVlaw dclaw pmlaw anlaw (.ref cT) ctlaw), sllaw⟩)
    (claw : PySem.W.codeIn K (.ref cT) "law" = true)
    (klaw : PySem.W.keepIn K (.ref flaw) = true)
    (vT : K.lookup cT = some ⟨.type "code", odT, .fields vsT, slT⟩)
    (pT : (vsT[11]? : Option Value) = some (.ref PT))
    (chT : PySem.W.codeHdIn K cT PT = true)
    (nT : K.lookup PT = none)
    (tT : h.get? PT = some (PySem.W.tabObj #[]))
    : LamX.LawAtS l w K CX0 16 63 "_law_script" mg fa h := by
  have e := hfa.symm.trans (PySem.W.mg_of X G alaw)
  cases e
  have BX : BaseX K mg C_RotaError := ⟨PySem.W.mg_of X G aCRotaError, rdR, gaR, atR⟩
  let cs : Nat → Addr := fun i => ([C_InvalidTick, C_InvalidCount, C_UnknownPerson, C_TooLong, C_DifferentPeople, C_Contradiction, C_NobodyHome, C_InvalidName, C_UnknownName, C_SyntaxFault, C_CheckFault, C_InvalidCode, C_InvalidOperation, C_InvalidSession] : List Addr).getD i 0
  have gc : ∀ i, i < 14 → mg (clsN.getD i "") = some (.ref (cs i)) := fun i hi => by match i, hi with | 0, _ => exact PySem.W.mg_of X G aCInvalidTick | 1, _ => exact PySem.W.mg_of X G aCInvalidCount | 2, _ => exact PySem.W.mg_of X G aCUnknownPerson | 3, _ => exact PySem.W.mg_of X G aCTooLong | 4, _ => exact PySem.W.mg_of X G aCDifferentPeople | 5, _ => exact PySem.W.mg_of X G aCContradiction | 6, _ => exact PySem.W.mg_of X G aCNobodyHome | 7, _ => exact PySem.W.mg_of X G aCInvalidName | 8, _ => exact PySem.W.mg_of X G aCUnknownName | 9, _ => exact PySem.W.mg_of X G aCSyntaxFault | 10, _ => exact PySem.W.mg_of X G aCCheckFault | 11, _ => exact PySem.W.mg_of X G aCInvalidCode | 12, _ => exact PySem.W.mg_of X G aCInvalidOperation | 13, _ => exact PySem.W.mg_of X G aCInvalidSession
  have gR : mg "RotaError" = some (.ref C_RotaError) := PySem.W.mg_of X G aCRotaError
  have c_END_SIGN : ∃ t, mg "END_SIGN" = some (.str ";" t) := ⟨_, PySem.W.mg_of X G s_END_SIGN⟩
  have c_SIGN : ∃ t, mg "SIGN" = some (.str "sign" t) := ⟨_, PySem.W.mg_of X G s_SIGN⟩
  have c_DIGITS : ∃ t, mg "DIGITS" = some (.str "0123456789" t) := ⟨_, PySem.W.mg_of X G s_DIGITS⟩
  have c_MAX_DIGITS_lexer : ∃ t, mg "MAX_DIGITS_lexer" = some (.int 2 t) := ⟨_, PySem.W.mg_of X G s_MAX_DIGITS_lexer⟩
  have c_NUMBER : ∃ t, mg "NUMBER" = some (.str "number" t) := ⟨_, PySem.W.mg_of X G s_NUMBER⟩
  have c_LETTERS : ∃ t, mg "LETTERS" = some (.str "abcdefghijklmnopqrstuvwxyz" t) := ⟨_, PySem.W.mg_of X G s_LETTERS⟩
  have c_KEYWORDS : ∃ a, mg "KEYWORDS" = some (.ref a) ∧ ∀ H : Hp, SqT K H a ((["people", "turns", "weights", "away", "of", "makeup"] : List Str).map V.str) := ⟨_, PySem.W.mg_of X G s_KEYWORDS, fun H => .inr ⟨_, _, _, u_KEYWORDS, rfl, rfl, by show 6 ≤ sizeLine; decide, .cons ⟨_, rfl⟩ (.cons ⟨_, rfl⟩ (.cons ⟨_, rfl⟩ (.cons ⟨_, rfl⟩ (.cons ⟨_, rfl⟩ (.cons ⟨_, rfl⟩ (.nil))))))⟩⟩
  have c_KEYWORD : ∃ t, mg "KEYWORD" = some (.str "keyword" t) := ⟨_, PySem.W.mg_of X G s_KEYWORD⟩
  have c_MAX_LETTERS : ∃ t, mg "MAX_LETTERS" = some (.int 8 t) := ⟨_, PySem.W.mg_of X G s_MAX_LETTERS⟩
  have c_NAME : ∃ t, mg "NAME" = some (.str "name" t) := ⟨_, PySem.W.mg_of X G s_NAME⟩
  have c_END : ∃ t, mg "END" = some (.str "end" t) := ⟨_, PySem.W.mg_of X G s_END⟩
  have c_SPACES : ∃ t, mg "SPACES" = some (.str " \n" t) := ⟨_, PySem.W.mg_of X G s_SPACES⟩
  have K_Token : Cls K C_Token := ⟨pgToken, hdToken, poToken, saToken⟩
  have N_Token_kind : NoAttr K C_Token "kind" := nToken_kind
  have N_Token_text : NoAttr K C_Token "text" := nToken_text
  have N_Token_line : NoAttr K C_Token "line" := nToken_line
  have N_Token_column : NoAttr K C_Token "column" := nToken_column
  have K_Parser : Cls K C_Parser := ⟨pgParser, hdParser, poParser, saParser⟩
  have N_Parser_tokens : NoAttr K C_Parser "tokens" := nParser_tokens
  have N_Parser_at : NoAttr K C_Parser "at" := nParser_at
  have N_Parser_faults : NoAttr K C_Parser "faults" := nParser_faults
  have N_Parser_names : NoAttr K C_Parser "names" := nParser_names
  have N_Parser_weights : NoAttr K C_Parser "weights" := nParser_weights
  have N_Parser_makers : NoAttr K C_Parser "makers" := nParser_makers
  have N_Parser_aways : NoAttr K C_Parser "aways" := nParser_aways
  have F_law_below := fun_mk (st := s_law_below) l_law_below c_law_below k_law_below
  have D__law_below : DefAt K mg "_law_below" s_law_below ["_law_d", "_law_limit"] := ⟨⟨f_law_below, _, PySem.W.mg_of X G a_law_below, F_law_below, (F_law_below.binds fun _ _ _ _ _ _ us hl => match us, hl with | [_, _], _ => rfl)⟩⟩
  have F_law_random := fun_mk (st := s_law_random) l_law_random c_law_random k_law_random
  have D__law_random : DefAt K mg "_law_random" s_law_random ["_law_script", "_law_salt"] := ⟨⟨f_law_random, _, PySem.W.mg_of X G a_law_random, F_law_random, (F_law_random.binds fun _ _ _ _ _ _ us hl => match us, hl with | [_, _], _ => rfl)⟩⟩
  have FTokenI := fun_mk (st := sToken___init__) lTokenI cTokenI kTokenI
  have D_Token : InitAt K mg "Token" "Token.__init__" C_Token sToken___init__ ["self", "kind", "text", "line", "column"] := ⟨⟨fTokenI, _, PySem.W.mg_of X G aCToken, ⟨mkToken, aTokenI, iTokenI, kcToken⟩, FTokenI, (FTokenI.binds fun _ _ _ _ _ _ us hl => match us, hl with | [_, _, _, _, _], _ => rfl)⟩⟩
  have Frun_end := fun_mk (st := srun_end) lrun_end crun_end krun_end
  have D_run_end : DefAt K mg "run_end" srun_end ["row", "start", "letters"] := ⟨⟨frun_end, _, PySem.W.mg_of X G arun_end, Frun_end, (Frun_end.binds fun _ _ _ _ _ _ us hl => match us, hl with | [_, _, _], _ => rfl)⟩⟩
  have FSyntaxFaultI := fun_mk (st := sSyntaxFault___init__) lSyntaxFaultI cSyntaxFaultI kSyntaxFaultI
  have OSyntaxFault : OexC K C_SyntaxFault := ⟨⟨nmSyntaxFault, qSyntaxFault, NSyntaxFault, bsSyntaxFault, _, snSyntaxFault, subSyntaxFault, abSyntaxFault, colSyntaxFault, ddSyntaxFault, m0SyntaxFault, m1SyntaxFault, m2SyntaxFault, m3SyntaxFault, m5SyntaxFault, xSyntaxFault, by rfl⟩, sESyntaxFault, eCSyntaxFault, tCSyntaxFault, kCSyntaxFault⟩
  have noSyntaxFault : ∀ f ∈ (["line", "column"] : List Str), PySem.W.findIn K (.ref C_SyntaxFault) f = some none := by
      intro f hf; simp only [List.mem_cons, List.not_mem_nil, or_false] at hf; rcases hf with rfl | rfl
      · exact noSyntaxFaultline
      · exact noSyntaxFaultcolumn
  have D_SyntaxFault : ExTxt K mg "SyntaxFault" "SyntaxFault.__init__" C_SyntaxFault sSyntaxFault___init__ ["self", "line", "column"] ["line", "column"] := ⟨OSyntaxFault, PySem.W.mg_of X G aCSyntaxFault, noSyntaxFault, fSyntaxFaultI, _, aSyntaxFaultI, tSyntaxFaultI, FSyntaxFaultI, (FSyntaxFaultI.binds fun _ _ _ _ _ _ us hl => match us, hl with | [_, _, _], _ => rfl)⟩
  have FCheckFaultI := fun_mk (st := sCheckFault___init__) lCheckFaultI cCheckFaultI kCheckFaultI
  have OCheckFault : OexC K C_CheckFault := ⟨⟨nmCheckFault, qCheckFault, NCheckFault, bsCheckFault, _, snCheckFault, subCheckFault, abCheckFault, colCheckFault, ddCheckFault, m0CheckFault, m1CheckFault, m2CheckFault, m3CheckFault, m5CheckFault, xCheckFault, by rfl⟩, sECheckFault, eCCheckFault, tCCheckFault, kCCheckFault⟩
  have noCheckFault : ∀ f ∈ (["reason", "line", "column"] : List Str), PySem.W.findIn K (.ref C_CheckFault) f = some none := by
      intro f hf; simp only [List.mem_cons, List.not_mem_nil, or_false] at hf; rcases hf with rfl | rfl | rfl
      · exact noCheckFaultreason
      · exact noCheckFaultline
      · exact noCheckFaultcolumn
  have D_CheckFault : ExTxt K mg "CheckFault" "CheckFault.__init__" C_CheckFault sCheckFault___init__ ["self", "reason", "line", "column"] ["reason", "line", "column"] := ⟨OCheckFault, PySem.W.mg_of X G aCCheckFault, noCheckFault, fCheckFaultI, _, aCheckFaultI, tCheckFaultI, FCheckFaultI, (FCheckFaultI.binds fun _ _ _ _ _ _ us hl => match us, hl with | [_, _, _, _], _ => rfl)⟩
  have Fread_token := fun_mk (st := sread_token) lread_token cread_token kread_token
  have D_read_token : DefAt K mg "read_token" sread_token ["row", "line", "column"] := ⟨⟨fread_token, _, PySem.W.mg_of X G aread_token, Fread_token, (Fread_token.binds fun _ _ _ _ _ _ us hl => match us, hl with | [_, _, _], _ => rfl)⟩⟩
  have Ftokenize := fun_mk (st := stokenize) ltokenize ctokenize ktokenize
  have D_tokenize : DefAt K mg "tokenize" stokenize ["source"] := ⟨⟨ftokenize, _, PySem.W.mg_of X G atokenize, Ftokenize, (Ftokenize.binds fun _ _ _ _ _ _ us hl => match us, hl with | [_], _ => rfl)⟩⟩
  have FParserI := fun_mk (st := sParser___init__) lParserI cParserI kParserI
  have D_Parser : InitAt K mg "Parser" "Parser.__init__" C_Parser sParser___init__ ["self", "tokens"] := ⟨⟨fParserI, _, PySem.W.mg_of X G aCParser, ⟨mkParser, aParserI, iParserI, kcParser⟩, FParserI, (FParserI.binds fun _ _ _ _ _ _ us hl => match us, hl with | [_, _], _ => rfl)⟩⟩
  have FParser_peek := fun_mk (st := sParser_peek) lParser_peek cParser_peek kParser_peek
  have D_Parser_peek : MethAt K C_Parser "peek" "Parser.peek" sParser_peek ["self"] := ⟨⟨fParser_peek, _, ⟨aParser_peek, iParser_peek, kParser_peek⟩, FParser_peek, (FParser_peek.binds fun _ _ _ _ _ _ us hl => match us, hl with | [_], _ => rfl)⟩⟩
  have FParser_fail := fun_mk (st := sParser_fail) lParser_fail cParser_fail kParser_fail
  have D_Parser_fail : MethAt K C_Parser "fail" "Parser.fail" sParser_fail ["self"] := ⟨⟨fParser_fail, _, ⟨aParser_fail, iParser_fail, kParser_fail⟩, FParser_fail, (FParser_fail.binds fun _ _ _ _ _ _ us hl => match us, hl with | [_], _ => rfl)⟩⟩
  have FParser_found := fun_mk (st := sParser_found) lParser_found cParser_found kParser_found
  have D_Parser_found : MethAt K C_Parser "found" "Parser.found" sParser_found ["self", "reason", "token"] := ⟨⟨fParser_found, _, ⟨aParser_found, iParser_found, kParser_found⟩, FParser_found, (FParser_found.binds fun _ _ _ _ _ _ us hl => match us, hl with | [_, _, _], _ => rfl)⟩⟩
  have FParser_take := fun_mk (st := sParser_take) lParser_take cParser_take kParser_take
  have D_Parser_take : MethAt K C_Parser "take" "Parser.take" sParser_take ["self", "kind"] := ⟨⟨fParser_take, _, ⟨aParser_take, iParser_take, kParser_take⟩, FParser_take, (FParser_take.binds fun _ _ _ _ _ _ us hl => match us, hl with | [_, _], _ => rfl)⟩⟩
  have FParser_take_word := fun_mk (st := sParser_take_word) lParser_take_word cParser_take_word kParser_take_word
  have D_Parser_take_word : MethAt K C_Parser "take_word" "Parser.take_word" sParser_take_word ["self", "word"] := ⟨⟨fParser_take_word, _, ⟨aParser_take_word, iParser_take_word, kParser_take_word⟩, FParser_take_word, (FParser_take_word.binds fun _ _ _ _ _ _ us hl => match us, hl with | [_, _], _ => rfl)⟩⟩
  have FParser_take_all := fun_mk (st := sParser_take_all) lParser_take_all cParser_take_all kParser_take_all
  have D_Parser_take_all : MethAt K C_Parser "take_all" "Parser.take_all" sParser_take_all ["self", "kind"] := ⟨⟨fParser_take_all, _, ⟨aParser_take_all, iParser_take_all, kParser_take_all⟩, FParser_take_all, (FParser_take_all.binds fun _ _ _ _ _ _ us hl => match us, hl with | [_, _], _ => rfl)⟩⟩
  have FParser_person := fun_mk (st := sParser_person) lParser_person cParser_person kParser_person
  have D_Parser_person : MethAt K C_Parser "person" "Parser.person" sParser_person ["self", "token"] := ⟨⟨fParser_person, _, ⟨aParser_person, iParser_person, kParser_person⟩, FParser_person, (FParser_person.binds fun _ _ _ _ _ _ us hl => match us, hl with | [_, _], _ => rfl)⟩⟩
  have FParser_parse_people := fun_mk (st := sParser_parse_people) lParser_parse_people cParser_parse_people kParser_parse_people
  have D_Parser_parse_people : MethAt K C_Parser "parse_people" "Parser.parse_people" sParser_parse_people ["self"] := ⟨⟨fParser_parse_people, _, ⟨aParser_parse_people, iParser_parse_people, kParser_parse_people⟩, FParser_parse_people, (FParser_parse_people.binds fun _ _ _ _ _ _ us hl => match us, hl with | [_], _ => rfl)⟩⟩
  have c_MAX_PEOPLE : ∃ t, mg "MAX_PEOPLE" = some (.int 6 t) := ⟨_, PySem.W.mg_of X G s_MAX_PEOPLE⟩
  have FParser_parse_turns := fun_mk (st := sParser_parse_turns) lParser_parse_turns cParser_parse_turns kParser_parse_turns
  have D_Parser_parse_turns : MethAt K C_Parser "parse_turns" "Parser.parse_turns" sParser_parse_turns ["self"] := ⟨⟨fParser_parse_turns, _, ⟨aParser_parse_turns, iParser_parse_turns, kParser_parse_turns⟩, FParser_parse_turns, (FParser_parse_turns.binds fun _ _ _ _ _ _ us hl => match us, hl with | [_], _ => rfl)⟩⟩
  have c_MAX_TURNS : ∃ t, mg "MAX_TURNS" = some (.int 12 t) := ⟨_, PySem.W.mg_of X G s_MAX_TURNS⟩
  have FParser_parse_weights := fun_mk (st := sParser_parse_weights) lParser_parse_weights cParser_parse_weights kParser_parse_weights
  have D_Parser_parse_weights : MethAt K C_Parser "parse_weights" "Parser.parse_weights" sParser_parse_weights ["self"] := ⟨⟨fParser_parse_weights, _, ⟨aParser_parse_weights, iParser_parse_weights, kParser_parse_weights⟩, FParser_parse_weights, (FParser_parse_weights.binds fun _ _ _ _ _ _ us hl => match us, hl with | [_], _ => rfl)⟩⟩
  have c_MAX_WEIGHT : ∃ t, mg "MAX_WEIGHT" = some (.int 9 t) := ⟨_, PySem.W.mg_of X G s_MAX_WEIGHT⟩
  have FParser_parse_away := fun_mk (st := sParser_parse_away) lParser_parse_away cParser_parse_away kParser_parse_away
  have D_Parser_parse_away : MethAt K C_Parser "parse_away" "Parser.parse_away" sParser_parse_away ["self"] := ⟨⟨fParser_parse_away, _, ⟨aParser_parse_away, iParser_parse_away, kParser_parse_away⟩, FParser_parse_away, (FParser_parse_away.binds fun _ _ _ _ _ _ us hl => match us, hl with | [_], _ => rfl)⟩⟩
  have c_MAX_AWAYS : ∃ t, mg "MAX_AWAYS" = some (.int 20 t) := ⟨_, PySem.W.mg_of X G s_MAX_AWAYS⟩
  have c_MODULI : ∃ a, mg "MODULI" = some (.ref a) ∧ ∀ H : Hp, SqT K H a (([2, 3, 4, 6, 8, 12] : List Int).map V.int) := ⟨_, PySem.W.mg_of X G s_MODULI, fun H => .inr ⟨_, _, _, u_MODULI, rfl, rfl, by show 6 ≤ sizeLine; decide, .cons ⟨_, rfl⟩ (.cons ⟨_, rfl⟩ (.cons ⟨_, rfl⟩ (.cons ⟨_, rfl⟩ (.cons ⟨_, rfl⟩ (.cons ⟨_, rfl⟩ (.nil))))))⟩⟩
  have FParser_parse_makeup := fun_mk (st := sParser_parse_makeup) lParser_parse_makeup cParser_parse_makeup kParser_parse_makeup
  have D_Parser_parse_makeup : MethAt K C_Parser "parse_makeup" "Parser.parse_makeup" sParser_parse_makeup ["self"] := ⟨⟨fParser_parse_makeup, _, ⟨aParser_parse_makeup, iParser_parse_makeup, kParser_parse_makeup⟩, FParser_parse_makeup, (FParser_parse_makeup.binds fun _ _ _ _ _ _ us hl => match us, hl with | [_], _ => rfl)⟩⟩
  have FParser_parse_rota := fun_mk (st := sParser_parse_rota) lParser_parse_rota cParser_parse_rota kParser_parse_rota
  have D_Parser_parse_rota : MethAt K C_Parser "parse_rota" "Parser.parse_rota" sParser_parse_rota ["self"] := ⟨⟨fParser_parse_rota, _, ⟨aParser_parse_rota, iParser_parse_rota, kParser_parse_rota⟩, FParser_parse_rota, (FParser_parse_rota.binds fun _ _ _ _ _ _ us hl => match us, hl with | [_], _ => rfl)⟩⟩
  have Fload := fun_mk (st := sload) lload cload kload
  have D_load : DefAt K mg "load" sload ["rota"] := ⟨⟨fload, _, PySem.W.mg_of X G aload, Fload, (Fload.binds fun _ _ _ _ _ _ us hl => match us, hl with | [_], _ => rfl)⟩⟩
  have K_Book : Cls K C_Book := ⟨pgBook, hdBook, poBook, saBook⟩
  have N_Book_parsed : NoAttr K C_Book "parsed" := nBook_parsed
  have N_Book_now : NoAttr K C_Book "now" := nBook_now
  have N_Book_past : NoAttr K C_Book "past" := nBook_past
  have N_Book_undone : NoAttr K C_Book "undone" := nBook_undone
  have N_Book_saved : NoAttr K C_Book "saved" := nBook_saved
  have Fis_home := fun_mk (st := sis_home) lis_home cis_home kis_home
  have D_is_home : DefAt K mg "is_home" sis_home ["parsed", "person", "tick"] := ⟨⟨fis_home, _, PySem.W.mg_of X G ais_home, Fis_home, (Fis_home.binds fun _ _ _ _ _ _ us hl => match us, hl with | [_, _, _], _ => rfl)⟩⟩
  have Fhome_people := fun_mk (st := shome_people) lhome_people chome_people khome_people
  have D_home_people : DefAt K mg "home_people" shome_people ["parsed", "tick"] := ⟨⟨fhome_people, _, PySem.W.mg_of X G ahome_people, Fhome_people, (Fhome_people.binds fun _ _ _ _ _ _ us hl => match us, hl with | [_, _], _ => rfl)⟩⟩
  have Ffirst_state := fun_mk (st := sfirst_state) lfirst_state cfirst_state kfirst_state
  have D_first_state : DefAt K mg "first_state" sfirst_state ["parsed"] := ⟨⟨ffirst_state, _, PySem.W.mg_of X G afirst_state, Ffirst_state, (Ffirst_state.binds fun _ _ _ _ _ _ us hl => match us, hl with | [_], _ => rfl)⟩⟩
  have Fchanged := fun_mk (st := schanged) lchanged cchanged kchanged
  have D_changed : DefAt K mg "changed" schanged ["owed", "person", "amount"] := ⟨⟨fchanged, _, PySem.W.mg_of X G achanged, Fchanged, (Fchanged.binds fun _ _ _ _ _ _ us hl => match us, hl with | [_, _, _], _ => rfl)⟩⟩
  have c_MAX_OWED : ∃ t, mg "MAX_OWED" = some (.int 9 t) := ⟨_, PySem.W.mg_of X G s_MAX_OWED⟩
  have Fafter_tick := fun_mk (st := safter_tick) lafter_tick cafter_tick kafter_tick
  have D_after_tick : DefAt K mg "after_tick" safter_tick ["parsed", "state", "tick"] := ⟨⟨fafter_tick, _, PySem.W.mg_of X G aafter_tick, Fafter_tick, (Fafter_tick.binds fun _ _ _ _ _ _ us hl => match us, hl with | [_, _, _], _ => rfl)⟩⟩
  have FBook_record := fun_mk (st := sBook_record) lBook_record cBook_record kBook_record
  have D_Book_record : MethAt K C_Book "record" "Book.record" sBook_record ["self", "word", "now"] := ⟨⟨fBook_record, _, ⟨aBook_record, iBook_record, kBook_record⟩, FBook_record, (FBook_record.binds fun _ _ _ _ _ _ us hl => match us, hl with | [_, _, _], _ => rfl)⟩⟩
  have FBook_named := fun_mk (st := sBook_named) lBook_named cBook_named kBook_named
  have D_Book_named : MethAt K C_Book "named" "Book.named" sBook_named ["self", "person"] := ⟨⟨fBook_named, _, ⟨aBook_named, iBook_named, kBook_named⟩, FBook_named, (FBook_named.binds fun _ _ _ _ _ _ us hl => match us, hl with | [_, _], _ => rfl)⟩⟩
  have FBook_reset := fun_mk (st := sBook_reset) lBook_reset cBook_reset kBook_reset
  have D_Book_reset : MethAt K C_Book "reset" "Book.reset" sBook_reset ["self"] := ⟨⟨fBook_reset, _, ⟨aBook_reset, iBook_reset, kBook_reset⟩, FBook_reset, (FBook_reset.binds fun _ _ _ _ _ _ us hl => match us, hl with | [_], _ => rfl)⟩⟩
  have c_RESET : ∃ t, mg "RESET" = some (.str "reset" t) := ⟨_, PySem.W.mg_of X G s_RESET⟩
  have FBook_undo := fun_mk (st := sBook_undo) lBook_undo cBook_undo kBook_undo
  have D_Book_undo : MethAt K C_Book "undo" "Book.undo" sBook_undo ["self"] := ⟨⟨fBook_undo, _, ⟨aBook_undo, iBook_undo, kBook_undo⟩, FBook_undo, (FBook_undo.binds fun _ _ _ _ _ _ us hl => match us, hl with | [_], _ => rfl)⟩⟩
  have FBook_redo := fun_mk (st := sBook_redo) lBook_redo cBook_redo kBook_redo
  have D_Book_redo : MethAt K C_Book "redo" "Book.redo" sBook_redo ["self"] := ⟨⟨fBook_redo, _, ⟨aBook_redo, iBook_redo, kBook_redo⟩, FBook_redo, (FBook_redo.binds fun _ _ _ _ _ _ us hl => match us, hl with | [_], _ => rfl)⟩⟩
  have Fis_int_in := fun_mk (st := sis_int_in) lis_int_in cis_int_in kis_int_in
  have D_is_int_in : DefAt K mg "is_int_in" sis_int_in ["value", "low", "high"] := ⟨⟨fis_int_in, _, PySem.W.mg_of X G ais_int_in, Fis_int_in, (Fis_int_in.binds fun _ _ _ _ _ _ us hl => match us, hl with | [_, _, _], _ => rfl)⟩⟩
  have Fperson_number := fun_mk (st := sperson_number) lperson_number cperson_number kperson_number
  have D_person_number : DefAt K mg "person_number" sperson_number ["parsed", "name"] := ⟨⟨fperson_number, _, PySem.W.mg_of X G aperson_number, Fperson_number, (Fperson_number.binds fun _ _ _ _ _ _ us hl => match us, hl with | [_, _], _ => rfl)⟩⟩
  have EP_UnknownPerson : ExPl K mg "UnknownPerson" C_UnknownPerson := ⟨qUnknownPerson, PySem.W.mg_of X G aCUnknownPerson, kCUnknownPerson, eCUnknownPerson, tCUnknownPerson⟩
  have FBook_step := fun_mk (st := sBook_step) lBook_step cBook_step kBook_step
  have D_Book_step : MethAt K C_Book "step" "Book.step" sBook_step ["self", "count"] := ⟨⟨fBook_step, _, ⟨aBook_step, iBook_step, kBook_step⟩, FBook_step, (FBook_step.binds fun _ _ _ _ _ _ us hl => match us, hl with | [_, _], _ => rfl)⟩⟩
  have c_STEP : ∃ t, mg "STEP" = some (.str "step" t) := ⟨_, PySem.W.mg_of X G s_STEP⟩
  have c_MAX_STEPS : ∃ t, mg "MAX_STEPS" = some (.int 500 t) := ⟨_, PySem.W.mg_of X G s_MAX_STEPS⟩
  have EP_InvalidCount : ExPl K mg "InvalidCount" C_InvalidCount := ⟨qInvalidCount, PySem.W.mg_of X G aCInvalidCount, kCInvalidCount, eCInvalidCount, tCInvalidCount⟩
  have FBook_gift := fun_mk (st := sBook_gift) lBook_gift cBook_gift kBook_gift
  have D_Book_gift : MethAt K C_Book "gift" "Book.gift" sBook_gift ["self", "name"] := ⟨⟨fBook_gift, _, ⟨aBook_gift, iBook_gift, kBook_gift⟩, FBook_gift, (FBook_gift.binds fun _ _ _ _ _ _ us hl => match us, hl with | [_, _], _ => rfl)⟩⟩
  have c_GIFT : ∃ t, mg "GIFT" = some (.str "gift" t) := ⟨_, PySem.W.mg_of X G s_GIFT⟩
  have EP_NobodyHome : ExPl K mg "NobodyHome" C_NobodyHome := ⟨qNobodyHome, PySem.W.mg_of X G aCNobodyHome, kCNobodyHome, eCNobodyHome, tCNobodyHome⟩
  have FBook_forgive := fun_mk (st := sBook_forgive) lBook_forgive cBook_forgive kBook_forgive
  have D_Book_forgive : MethAt K C_Book "forgive" "Book.forgive" sBook_forgive ["self", "name"] := ⟨⟨fBook_forgive, _, ⟨aBook_forgive, iBook_forgive, kBook_forgive⟩, FBook_forgive, (FBook_forgive.binds fun _ _ _ _ _ _ us hl => match us, hl with | [_, _], _ => rfl)⟩⟩
  have c_FORGIVE : ∃ t, mg "FORGIVE" = some (.str "forgive" t) := ⟨_, PySem.W.mg_of X G s_FORGIVE⟩
  have FBookI := fun_mk (st := sBook___init__) lBookI cBookI kBookI
  have D_Book : InitAt K mg "Book" "Book.__init__" C_Book sBook___init__ ["self", "rota"] := ⟨⟨fBookI, _, PySem.W.mg_of X G aCBook, ⟨mkBook, aBookI, iBookI, kcBook⟩, FBookI, (FBookI.binds fun _ _ _ _ _ _ us hl => match us, hl with | [_, _], _ => rfl)⟩⟩
  have FBook_execute := fun_mk (st := sBook_execute) lBook_execute cBook_execute kBook_execute
  have D_Book_execute : MethAt K C_Book "execute" "Book.execute" sBook_execute ["self", "operation"] := ⟨⟨fBook_execute, _, ⟨aBook_execute, iBook_execute, kBook_execute⟩, FBook_execute, (FBook_execute.binds fun _ _ _ _ _ _ us hl => match us, hl with | [_, _], _ => rfl)⟩⟩
  have Fis_operation := fun_mk (st := sis_operation) lis_operation cis_operation kis_operation
  have D_is_operation : DefAt K mg "is_operation" sis_operation ["value"] := ⟨⟨fis_operation, _, PySem.W.mg_of X G ais_operation, Fis_operation, (Fis_operation.binds fun _ _ _ _ _ _ us hl => match us, hl with | [_], _ => rfl)⟩⟩
  have c_LENGTHS : LenD K w mg a_LENGTHS := ⟨PySem.W.mg_of X G s_LENGTHS, es_LENGTHS, n_LENGTHS, u_LENGTHS, kl_LENGTHS, sm_LENGTHS, fun op => match op with | .step _ => ⟨_, v_LENGTHS0⟩ | .gift _ => ⟨_, v_LENGTHS1⟩ | .forgive _ => ⟨_, v_LENGTHS2⟩ | .reset => ⟨_, v_LENGTHS3⟩ | .undo => ⟨_, v_LENGTHS4⟩ | .redo => ⟨_, v_LENGTHS5⟩⟩
  have FInvalidOperationI := fun_mk (st := sInvalidOperation___init__) lInvalidOperationI cInvalidOperationI kInvalidOperationI
  have OInvalidOperation : OexC K C_InvalidOperation := ⟨⟨nmInvalidOperation, qInvalidOperation, NInvalidOperation, bsInvalidOperation, _, snInvalidOperation, subInvalidOperation, abInvalidOperation, colInvalidOperation, ddInvalidOperation, m0InvalidOperation, m1InvalidOperation, m2InvalidOperation, m3InvalidOperation, m5InvalidOperation, xInvalidOperation, by rfl⟩, sEInvalidOperation, eCInvalidOperation, tCInvalidOperation, kCInvalidOperation⟩
  have noInvalidOperation : ∀ f ∈ (["place"] : List Str), PySem.W.findIn K (.ref C_InvalidOperation) f = some none := by
      intro f hf; simp only [List.mem_cons, List.not_mem_nil, or_false] at hf; rcases hf with rfl
      · exact noInvalidOperationplace
  have D_InvalidOperation : ExTxt K mg "InvalidOperation" "InvalidOperation.__init__" C_InvalidOperation sInvalidOperation___init__ ["self", "place"] ["place"] := ⟨OInvalidOperation, PySem.W.mg_of X G aCInvalidOperation, noInvalidOperation, fInvalidOperationI, _, aInvalidOperationI, tInvalidOperationI, FInvalidOperationI, (FInvalidOperationI.binds fun _ _ _ _ _ _ us hl => match us, hl with | [_, _], _ => rfl)⟩
  have FBook_replay := fun_mk (st := sBook_replay) lBook_replay cBook_replay kBook_replay
  have D_Book_replay : ClMeth K C_Book "replay" "Book.replay" sBook_replay ["cls", "rota", "operations"] := ⟨⟨.type "type", pBook_replay, fBook_replay, _, ⟨rdBook, gaBook⟩, ⟨aBook_replay, ⟨_, r_Book_replay⟩, iBook_replay⟩, FBook_replay, (FBook_replay.binds fun _ _ _ _ _ _ us hl => match us, hl with | [_, _, _], _ => rfl)⟩⟩
  have Fparse_number := fun_mk (st := sparse_number) lparse_number cparse_number kparse_number
  have D_parse_number : DefAt K mg "parse_number" sparse_number ["word"] := ⟨⟨fparse_number, _, PySem.W.mg_of X G aparse_number, Fparse_number, (Fparse_number.binds fun _ _ _ _ _ _ us hl => match us, hl with | [_], _ => rfl)⟩⟩
  have c_MAX_DIGITS_session : ∃ t, mg "MAX_DIGITS_session" = some (.int 3 t) := ⟨_, PySem.W.mg_of X G s_MAX_DIGITS_session⟩
  have Fis_name := fun_mk (st := sis_name) lis_name cis_name kis_name
  have D_is_name : DefAt K mg "is_name" sis_name ["word"] := ⟨⟨fis_name, _, PySem.W.mg_of X G ais_name, Fis_name, (Fis_name.binds fun _ _ _ _ _ _ us hl => match us, hl with | [_], _ => rfl)⟩⟩
  have Fparse_line := fun_mk (st := sparse_line) lparse_line cparse_line kparse_line
  have D_parse_line : DefAt K mg "parse_line" sparse_line ["line"] := ⟨⟨fparse_line, _, PySem.W.mg_of X G aparse_line, Fparse_line, (Fparse_line.binds fun _ _ _ _ _ _ us hl => match us, hl with | [_], _ => rfl)⟩⟩
  have FInvalidSessionI := fun_mk (st := sInvalidSession___init__) lInvalidSessionI cInvalidSessionI kInvalidSessionI
  have OInvalidSession : OexC K C_InvalidSession := ⟨⟨nmInvalidSession, qInvalidSession, NInvalidSession, bsInvalidSession, _, snInvalidSession, subInvalidSession, abInvalidSession, colInvalidSession, ddInvalidSession, m0InvalidSession, m1InvalidSession, m2InvalidSession, m3InvalidSession, m5InvalidSession, xInvalidSession, by rfl⟩, sEInvalidSession, eCInvalidSession, tCInvalidSession, kCInvalidSession⟩
  have noInvalidSession : ∀ f ∈ (["place"] : List Str), PySem.W.findIn K (.ref C_InvalidSession) f = some none := by
      intro f hf; simp only [List.mem_cons, List.not_mem_nil, or_false] at hf; rcases hf with rfl
      · exact noInvalidSessionplace
  have D_InvalidSession : ExTxt K mg "InvalidSession" "InvalidSession.__init__" C_InvalidSession sInvalidSession___init__ ["self", "place"] ["place"] := ⟨OInvalidSession, PySem.W.mg_of X G aCInvalidSession, noInvalidSession, fInvalidSessionI, _, aInvalidSessionI, tInvalidSessionI, FInvalidSessionI, (FInvalidSessionI.binds fun _ _ _ _ _ _ us hl => match us, hl with | [_, _], _ => rfl)⟩
  have Fparse_session := fun_mk (st := sparse_session) lparse_session cparse_session kparse_session
  have D_parse_session : DefAt K mg "parse_session" sparse_session ["text"] := ⟨⟨fparse_session, _, PySem.W.mg_of X G aparse_session, Fparse_session, (Fparse_session.binds fun _ _ _ _ _ _ us hl => match us, hl with | [_], _ => rfl)⟩⟩
  have c_ROTA : ∃ t, mg "ROTA" = some (.str "rota" t) := ⟨_, PySem.W.mg_of X G s_ROTA⟩
  have F_law_is_number := fun_mk (st := s_law_is_number) l_law_is_number c_law_is_number k_law_is_number
  have D__law_is_number : DefAt K mg "_law_is_number" s_law_is_number ["_law_word"] := ⟨⟨f_law_is_number, _, PySem.W.mg_of X G a_law_is_number, F_law_is_number, (F_law_is_number.binds fun _ _ _ _ _ _ us hl => match us, hl with | [_], _ => rfl)⟩⟩
  have F_law_parsed_line := fun_mk (st := s_law_parsed_line) l_law_parsed_line c_law_parsed_line k_law_parsed_line
  have D__law_parsed_line : DefAt K mg "_law_parsed_line" s_law_parsed_line ["_law_words"] := ⟨⟨f_law_parsed_line, _, PySem.W.mg_of X G a_law_parsed_line, F_law_parsed_line, (F_law_parsed_line.binds fun _ _ _ _ _ _ us hl => match us, hl with | [_], _ => rfl)⟩⟩
  have F_law_equal := fun_mk (st := s_law_equal) l_law_equal c_law_equal k_law_equal
  have D__law_equal : DefAt K mg "_law_equal" s_law_equal ["_law_actual", "_law_expected"] := ⟨⟨f_law_equal, _, PySem.W.mg_of X G a_law_equal, F_law_equal, (F_law_equal.binds fun _ _ _ _ _ _ us hl => match us, hl with | [_, _], _ => rfl)⟩⟩
  have IS_SyntaxFault : IsX K C_SyntaxFault := ⟨kiSyntaxFault, gESyntaxFault, ggSyntaxFault, eCSyntaxFault, cESyntaxFault, cgO, tkO, mESyntaxFault⟩
  have ER_SyntaxFault : ErK K cs C_RotaError C_SyntaxFault 9 := ⟨by decide, fun i hi => (by match i, hi with | 0, _ => exact ktSyntaxFault0 | 1, _ => exact ktSyntaxFault1 | 2, _ => exact ktSyntaxFault2 | 3, _ => exact ktSyntaxFault3 | 4, _ => exact ktSyntaxFault4 | 5, _ => exact ktSyntaxFault5 | 6, _ => exact ktSyntaxFault6 | 7, _ => exact ktSyntaxFault7 | 8, _ => exact ktSyntaxFault8 | 9, _ => exact ktSyntaxFault9 | 10, _ => exact ktSyntaxFault10 | 11, _ => exact ktSyntaxFault11 | 12, _ => exact ktSyntaxFault12 | 13, _ => exact ktSyntaxFault13), kvSyntaxFault, kxSyntaxFault, IS_SyntaxFault, ⟨gESyntaxFault, ggSyntaxFault, eCSyntaxFault, hESyntaxFault⟩⟩
  have IS_CheckFault : IsX K C_CheckFault := ⟨kiCheckFault, gECheckFault, ggCheckFault, eCCheckFault, cECheckFault, cgO, tkO, mECheckFault⟩
  have ER_CheckFault : ErK K cs C_RotaError C_CheckFault 10 := ⟨by decide, fun i hi => (by match i, hi with | 0, _ => exact ktCheckFault0 | 1, _ => exact ktCheckFault1 | 2, _ => exact ktCheckFault2 | 3, _ => exact ktCheckFault3 | 4, _ => exact ktCheckFault4 | 5, _ => exact ktCheckFault5 | 6, _ => exact ktCheckFault6 | 7, _ => exact ktCheckFault7 | 8, _ => exact ktCheckFault8 | 9, _ => exact ktCheckFault9 | 10, _ => exact ktCheckFault10 | 11, _ => exact ktCheckFault11 | 12, _ => exact ktCheckFault12 | 13, _ => exact ktCheckFault13), kvCheckFault, kxCheckFault, IS_CheckFault, ⟨gECheckFault, ggCheckFault, eCCheckFault, hECheckFault⟩⟩
  have IS_InvalidOperation : IsX K C_InvalidOperation := ⟨kiInvalidOperation, gEInvalidOperation, ggInvalidOperation, eCInvalidOperation, cEInvalidOperation, cgO, tkO, mEInvalidOperation⟩
  have ER_InvalidOperation : ErK K cs C_RotaError C_InvalidOperation 12 := ⟨by decide, fun i hi => (by match i, hi with | 0, _ => exact ktInvalidOperation0 | 1, _ => exact ktInvalidOperation1 | 2, _ => exact ktInvalidOperation2 | 3, _ => exact ktInvalidOperation3 | 4, _ => exact ktInvalidOperation4 | 5, _ => exact ktInvalidOperation5 | 6, _ => exact ktInvalidOperation6 | 7, _ => exact ktInvalidOperation7 | 8, _ => exact ktInvalidOperation8 | 9, _ => exact ktInvalidOperation9 | 10, _ => exact ktInvalidOperation10 | 11, _ => exact ktInvalidOperation11 | 12, _ => exact ktInvalidOperation12 | 13, _ => exact ktInvalidOperation13), kvInvalidOperation, kxInvalidOperation, IS_InvalidOperation, ⟨gEInvalidOperation, ggInvalidOperation, eCInvalidOperation, hEInvalidOperation⟩⟩
  have IS_InvalidSession : IsX K C_InvalidSession := ⟨kiInvalidSession, gEInvalidSession, ggInvalidSession, eCInvalidSession, cEInvalidSession, cgO, tkO, mEInvalidSession⟩
  have ER_InvalidSession : ErK K cs C_RotaError C_InvalidSession 13 := ⟨by decide, fun i hi => (by match i, hi with | 0, _ => exact ktInvalidSession0 | 1, _ => exact ktInvalidSession1 | 2, _ => exact ktInvalidSession2 | 3, _ => exact ktInvalidSession3 | 4, _ => exact ktInvalidSession4 | 5, _ => exact ktInvalidSession5 | 6, _ => exact ktInvalidSession6 | 7, _ => exact ktInvalidSession7 | 8, _ => exact ktInvalidSession8 | 9, _ => exact ktInvalidSession9 | 10, _ => exact ktInvalidSession10 | 11, _ => exact ktInvalidSession11 | 12, _ => exact ktInvalidSession12 | 13, _ => exact ktInvalidSession13), kvInvalidSession, kxInvalidSession, IS_InvalidSession, ⟨gEInvalidSession, ggInvalidSession, eCInvalidSession, hEInvalidSession⟩⟩
  have F_law_error_of := fun_mk (st := s_law_error_of) l_law_error_of c_law_error_of k_law_error_of
  have D__law_error_of : DefAt K mg "_law_error_of" s_law_error_of ["_law_call"] := ⟨⟨f_law_error_of, _, PySem.W.mg_of X G a_law_error_of, F_law_error_of, (F_law_error_of.binds fun _ _ _ _ _ _ us hl => match us, hl with | [_], _ => rfl)⟩⟩
  have F_law := funC_mk (st := slaw) llaw claw
  have T : Bi mg := ⟨PySem.W.mg_none_of X G z_len, PySem.W.mg_none_of X G z_range, PySem.W.mg_none_of X G z_list, PySem.W.mg_none_of X G z_tuple, PySem.W.mg_none_of X G z_int, PySem.W.mg_none_of X G z_str, PySem.W.mg_none_of X G z_abs, PySem.W.mg_none_of X G z_max, PySem.W.mg_none_of X G z_sorted, PySem.W.mg_none_of X G z_set, PySem.W.mg_none_of X G z_any, PySem.W.mg_none_of X G z_all, PySem.W.mg_none_of X G z_enumerate, PySem.W.mg_none_of X G z_isinstance, PySem.W.mg_none_of X G z_bool, PySem.W.mg_none_of X G z_sum, PySem.W.mg_none_of X G z_zip, PySem.W.mg_none_of X G z_min, PySem.W.mg_none_of X G z_dict, PySem.W.mg_none_of X G z_divmod, PySem.W.mg_none_of X G z_ValueError⟩
  refine ⟨PySem.W.fnOf "law" "law" (defArgs slaw) (defBody slaw) (defScope slaw) .none kVlaw dclaw pmlaw anlaw (.ref cT) ctlaw, [(cT, PT)], spLaw PT K, fun p hp => (by rw [List.mem_singleton.mp hp]; exact tT), fun p hp => (by rw [List.mem_singleton.mp hp]; exact nT), fun p hp => (by rw [List.mem_singleton.mp hp]; exact PySem.W.codeHd_of_K X chT), fun s v => .of_eq rfl, fun H a ns hl _ hT hS => ⟨a, ns, rfl, hS, hl, hT _ List.mem_cons_self, fun _ => rfl⟩, fun base _ _ TBs => ?_⟩
  have TB := TBs _ List.mem_cons_self

  have LC : LexC K mg := ⟨c_END_SIGN, c_SIGN, c_DIGITS, c_MAX_DIGITS_lexer, c_NUMBER, c_LETTERS, c_KEYWORDS, c_KEYWORD, c_MAX_LETTERS, c_NAME, c_END, c_SPACES⟩
  have TC : TokCls K C_Token := ⟨K_Token, N_Token_kind, N_Token_text, N_Token_line, N_Token_column⟩
  have PC : ParCls K C_Parser := ⟨K_Parser, N_Parser_tokens, N_Parser_at, N_Parser_faults, N_Parser_names, N_Parser_weights, N_Parser_makers, N_Parser_aways⟩
  have c_below := cal_below (P := l.prog) (w := w) (base := base) D__law_below T
  have c_random := cal_random (P := l.prog) (w := w) (base := base) D__law_random T
  have c_mkt := mk_token (P := l.prog) (w := w) (base := base) D_Token TC
  have c_run := cal_run_end (P := l.prog) (w := w) (base := base) D_run_end T
  have x_syn := ex_SyntaxFault (P := l.prog) (w := w) (base := base) D_SyntaxFault BX
  have x_chk := ex_CheckFault (P := l.prog) (w := w) (base := base) D_CheckFault BX
  have g_read := cal_readG D_read_token T LC c_run c_mkt x_syn
  have g_tok := cal_tokG D_tokenize T LC TC g_read c_mkt
  have g_mkp := mk_parserG (P := l.prog) (w := w) (mg := mg) (base := base) (CT := C_Token) D_Parser PC
  have g_peek := me_peekG (P := l.prog) (w := w) (mg := mg) (base := base) (CT := C_Token) D_Parser_peek PC
  have g_fail := me_failG D_Parser_fail PC TC x_syn g_peek
  have g_found := me_foundG (P := l.prog) (w := w) (mg := mg) (base := base) D_Parser_found T PC TC
  have g_take := me_takeG D_Parser_take PC TC g_peek g_fail
  have g_word := me_takeWG D_Parser_take_word PC TC g_peek g_fail
  have g_all := me_allG D_Parser_take_all PC TC LC g_peek g_take g_word
  have g_per := me_personG D_Parser_person PC TC g_found
  have g_peo := me_peopleG D_Parser_parse_people T PC TC LC c_MAX_PEOPLE g_word g_all g_found
  have g_tur := me_turnsG D_Parser_parse_turns T PC TC LC c_MAX_TURNS g_peek g_word g_all g_per g_found
  have g_wei := me_weightsG D_Parser_parse_weights T PC TC LC c_MAX_WEIGHT g_peek g_word g_all g_found
  have g_awa := me_awayG D_Parser_parse_away T PC TC LC c_MAX_AWAYS c_MODULI g_peek g_word g_take g_per g_found
  have g_mak := me_makeG D_Parser_parse_makeup T PC TC LC g_peek g_word g_all g_per g_found
  have g_rota := me_rotaG D_Parser_parse_rota T PC TC LC x_chk g_peek g_peo g_tur g_wei g_awa g_mak g_fail
  have g_load := cal_loadG D_load PC ne_Token__Parser g_tok g_mkp g_rota
  have BC : BkCls K C_Book := ⟨K_Book, N_Book_parsed, N_Book_now, N_Book_past, N_Book_undone, N_Book_saved⟩
  have c_home := cal_home (P := l.prog) (w := w) (base := base) D_is_home T
  have c_homes := cal_homes D_home_people T c_home
  have c_first := cal_first (P := l.prog) (w := w) (base := base) D_first_state T
  have c_chg := cal_changed (P := l.prog) (w := w) (base := base) D_changed T c_MAX_OWED
  have c_aft := cal_after D_after_tick T c_homes c_chg
  have c_rec := me_record (P := l.prog) (w := w) (mg := mg) (base := base) D_Book_record BC
  have c_nmd := me_named (P := l.prog) (w := w) (mg := mg) (base := base) D_Book_named BC
  have c_res := me_reset D_Book_reset BC c_RESET c_first c_rec
  have c_und := me_undo (P := l.prog) (w := w) (mg := mg) (base := base) D_Book_undo BC
  have c_red := me_redo (P := l.prog) (w := w) (mg := mg) (base := base) D_Book_redo BC
  have c_int := cal_intIn (P := l.prog) (w := w) (base := base) D_is_int_in T
  have n_pn := cal_personNN (P := l.prog) (w := w) (base := base) D_person_number T EP_UnknownPerson
  have n_stp := me_stepN D_Book_step T BC c_STEP c_MAX_STEPS EP_InvalidCount c_int c_aft c_rec c_nmd
  have n_gif := me_giftN D_Book_gift T BC c_GIFT EP_NobodyHome n_pn c_homes c_rec
  have n_for := me_forgiveN D_Book_forgive T BC c_FORGIVE n_pn c_rec
  have c_bkG := mk_bookG D_Book BC g_load c_first
  have n_ex := me_executeN D_Book_execute BC n_stp n_gif n_for c_res c_und c_red
  have c_isop := cal_isOp (P := l.prog) (w := w) (base := base) D_is_operation T c_LENGTHS
  have eX : ∀ e : Str, PySem.W.exmOne K (.ref (errC C_InvalidCount C_UnknownPerson C_NobodyHome e)) (.ref C_RotaError) = some true := fun e => by
    unfold errC
    split
    · exact kxInvalidCount
    · split
      · exact kxUnknownPerson
      · exact kxNobodyHome
  have rX : ∀ e : Str, PySem.W.subIn K (.ref (errC C_InvalidCount C_UnknownPerson C_NobodyHome e)) (.type "BaseException") = some true ∧ PySem.W.typeIn K (.ref (errC C_InvalidCount C_UnknownPerson C_NobodyHome e)) = some (.type "type") := fun e => by
    unfold errC
    split
    · exact ⟨EP_InvalidCount.b, EP_InvalidCount.t⟩
    · split
      · exact ⟨EP_UnknownPerson.b, EP_UnknownPerson.t⟩
      · exact ⟨EP_NobodyHome.b, EP_NobodyHome.t⟩
  have x_op := exH_InvalidOperation (P := l.prog) (w := w) (base := base) D_InvalidOperation BX
  have c_rep := me_replayA D_Book_replay T BC gR eX rX x_op c_bkG c_isop n_ex
  have gB : mg "Book" = some (.ref C_Book) := PySem.W.mg_of X G aCBook
  have c_num := cal_numG (P := l.prog) (w := w) (base := base) D_parse_number T c_MAX_DIGITS_session c_DIGITS
  have c_isn := cal_isNameG (P := l.prog) (w := w) (base := base) D_is_name T c_LETTERS c_MAX_LETTERS c_KEYWORDS
  have c_pl := cal_pLineG D_parse_line T c_STEP c_num c_isn
  have x_ses := ex_InvalidSession (P := l.prog) (w := w) (base := base) D_InvalidSession BX
  have c_ps := cal_pSessG D_parse_session T gB c_ROTA x_ses c_rep c_num c_pl
  have c_lisn := cal_lisNum (P := l.prog) (w := w) (base := base) D__law_is_number T
  have c_lpl := cal_lline D__law_parsed_line T c_lisn
  have c_eq := cal_eq (P := l.prog) (w := w) (base := base) D__law_equal T 3
  have kk : K24 l.prog w K mg base C_Book C_SyntaxFault C_CheckFault C_InvalidOperation C_InvalidSession := ⟨T, gB, c_random, c_below, c_lisn, c_lpl, c_eq, c_rep, c_ps⟩
  have er4 : Er4 K cs C_RotaError C_SyntaxFault C_CheckFault C_InvalidOperation C_InvalidSession := ⟨ER_SyntaxFault, ER_CheckFault, ER_InvalidOperation, ER_InvalidSession, noSyntaxFaultline, noSyntaxFaultcolumn, noCheckFaultreason, noCheckFaultline, noCheckFaultcolumn, noInvalidOperationplace, noInvalidSessionplace⟩
  exact law_ok F_law kk er4 gR gc TB D__law_error_of
end Br

open PySem PySem.W PyProof.Rows in
set_option maxHeartbeats 0 in
theorem PySem.Challenge.cw_breadrota_k24_invalid_sessions_holds : PySem.Challenge.rw_breadrota_k24_invalid_sessions.Holds := by
  w_on; o_law; k_head; (case hw => w_witness2)
  k_fill
  refine LamX.walk_ofTs (l := PySem.Challenge.rw_breadrota_k24_invalid_sessions) (n := 63) (k := 16) (x := "_law_script") (CX := fun _ => L2.CX0) rfl (by decide) rfl ⟨rfl, by decide, by decide⟩ (fun w h Y => PySem.W.km_in_of Y) ?F fun _ _ _ _ _ z => z
  case F =>
    intro w mg fa h Y KX G hmg
    refine' Br.all_mk KX G hmg ?aCRotaError ?rdR ?gaR ?atR ?aCInvalidTick ?aCInvalidCount ?aCUnknownPerson ?aCTooLong ?aCDifferentPeople ?aCContradiction ?aCNobodyHome ?aCInvalidName ?aCUnknownName ?aCSyntaxFault ?aCCheckFault ?aCInvalidCode ?aCInvalidOperation ?aCInvalidSession ?s_END_SIGN ?s_SIGN ?s_DIGITS ?s_MAX_DIGITS_lexer ?s_NUMBER ?s_LETTERS ?s_KEYWORDS ?u_KEYWORDS ?s_KEYWORD ?s_MAX_LETTERS ?s_NAME ?s_END ?s_SPACES ?aCToken ?pgToken ?hdToken ?poToken ?saToken ?nToken_kind ?nToken_text ?nToken_line ?nToken_column ?aCParser ?pgParser ?hdParser ?poParser ?saParser ?nParser_tokens ?nParser_at ?nParser_faults ?nParser_names ?nParser_weights ?nParser_makers ?nParser_aways ?a_law_below ?l_law_below ?c_law_below ?k_law_below ?a_law_random ?l_law_random ?c_law_random ?k_law_random ?mkToken ?kcToken ?aTokenI ?iTokenI ?lTokenI ?cTokenI ?kTokenI ?arun_end ?lrun_end ?crun_end ?krun_end ?xSyntaxFault ?sESyntaxFault ?eCSyntaxFault ?tCSyntaxFault ?kCSyntaxFault ?aSyntaxFaultI ?tSyntaxFaultI ?lSyntaxFaultI ?cSyntaxFaultI ?kSyntaxFaultI ?noSyntaxFaultline ?noSyntaxFaultcolumn ?xCheckFault ?sECheckFault ?eCCheckFault ?tCCheckFault ?kCCheckFault ?aCheckFaultI ?tCheckFaultI ?lCheckFaultI ?cCheckFaultI ?kCheckFaultI ?noCheckFaultreason ?noCheckFaultline ?noCheckFaultcolumn ?aread_token ?lread_token ?cread_token ?kread_token ?atokenize ?ltokenize ?ctokenize ?ktokenize ?mkParser ?kcParser ?aParserI ?iParserI ?lParserI ?cParserI ?kParserI ?aParser_peek ?iParser_peek ?lParser_peek ?cParser_peek ?kParser_peek ?aParser_fail ?iParser_fail ?lParser_fail ?cParser_fail ?kParser_fail ?aParser_found ?iParser_found ?lParser_found ?cParser_found ?kParser_found ?aParser_take ?iParser_take ?lParser_take ?cParser_take ?kParser_take ?aParser_take_word ?iParser_take_word ?lParser_take_word ?cParser_take_word ?kParser_take_word ?aParser_take_all ?iParser_take_all ?lParser_take_all ?cParser_take_all ?kParser_take_all ?aParser_person ?iParser_person ?lParser_person ?cParser_person ?kParser_person ?aParser_parse_people ?iParser_parse_people ?lParser_parse_people ?cParser_parse_people ?kParser_parse_people ?s_MAX_PEOPLE ?aParser_parse_turns ?iParser_parse_turns ?lParser_parse_turns ?cParser_parse_turns ?kParser_parse_turns ?s_MAX_TURNS ?aParser_parse_weights ?iParser_parse_weights ?lParser_parse_weights ?cParser_parse_weights ?kParser_parse_weights ?s_MAX_WEIGHT ?aParser_parse_away ?iParser_parse_away ?lParser_parse_away ?cParser_parse_away ?kParser_parse_away ?s_MAX_AWAYS ?s_MODULI ?u_MODULI ?aParser_parse_makeup ?iParser_parse_makeup ?lParser_parse_makeup ?cParser_parse_makeup ?kParser_parse_makeup ?aParser_parse_rota ?iParser_parse_rota ?lParser_parse_rota ?cParser_parse_rota ?kParser_parse_rota ?aload ?lload ?cload ?kload ?aCBook ?pgBook ?hdBook ?poBook ?saBook ?nBook_parsed ?nBook_now ?nBook_past ?nBook_undone ?nBook_saved ?ais_home ?lis_home ?cis_home ?kis_home ?ahome_people ?lhome_people ?chome_people ?khome_people ?afirst_state ?lfirst_state ?cfirst_state ?kfirst_state ?achanged ?lchanged ?cchanged ?kchanged ?s_MAX_OWED ?aafter_tick ?lafter_tick ?cafter_tick ?kafter_tick ?aBook_record ?iBook_record ?lBook_record ?cBook_record ?kBook_record ?aBook_named ?iBook_named ?lBook_named ?cBook_named ?kBook_named ?aBook_reset ?iBook_reset ?lBook_reset ?cBook_reset ?kBook_reset ?s_RESET ?aBook_undo ?iBook_undo ?lBook_undo ?cBook_undo ?kBook_undo ?aBook_redo ?iBook_redo ?lBook_redo ?cBook_redo ?kBook_redo ?ais_int_in ?lis_int_in ?cis_int_in ?kis_int_in ?aperson_number ?lperson_number ?cperson_number ?kperson_number ?qUnknownPerson ?eCUnknownPerson ?tCUnknownPerson ?kCUnknownPerson ?aBook_step ?iBook_step ?lBook_step ?cBook_step ?kBook_step ?s_STEP ?s_MAX_STEPS ?qInvalidCount ?eCInvalidCount ?tCInvalidCount ?kCInvalidCount ?aBook_gift ?iBook_gift ?lBook_gift ?cBook_gift ?kBook_gift ?s_GIFT ?qNobodyHome ?eCNobodyHome ?tCNobodyHome ?kCNobodyHome ?aBook_forgive ?iBook_forgive ?lBook_forgive ?cBook_forgive ?kBook_forgive ?s_FORGIVE ?mkBook ?kcBook ?aBookI ?iBookI ?lBookI ?cBookI ?kBookI ?aBook_execute ?iBook_execute ?lBook_execute ?cBook_execute ?kBook_execute ?ais_operation ?lis_operation ?cis_operation ?kis_operation ?s_LENGTHS ?u_LENGTHS ?kl_LENGTHS ?sm_LENGTHS ?v_LENGTHS0 ?v_LENGTHS1 ?v_LENGTHS2 ?v_LENGTHS3 ?v_LENGTHS4 ?v_LENGTHS5 ?xInvalidOperation ?sEInvalidOperation ?eCInvalidOperation ?tCInvalidOperation ?kCInvalidOperation ?aInvalidOperationI ?tInvalidOperationI ?lInvalidOperationI ?cInvalidOperationI ?kInvalidOperationI ?noInvalidOperationplace ?rdBook ?gaBook ?aBook_replay ?r_Book_replay ?iBook_replay ?lBook_replay ?cBook_replay ?kBook_replay ?aparse_number ?lparse_number ?cparse_number ?kparse_number ?s_MAX_DIGITS_session ?ais_name ?lis_name ?cis_name ?kis_name ?aparse_line ?lparse_line ?cparse_line ?kparse_line ?xInvalidSession ?sEInvalidSession ?eCInvalidSession ?tCInvalidSession ?kCInvalidSession ?aInvalidSessionI ?tInvalidSessionI ?lInvalidSessionI ?cInvalidSessionI ?kInvalidSessionI ?noInvalidSessionplace ?aparse_session ?lparse_session ?cparse_session ?kparse_session ?s_ROTA ?a_law_is_number ?l_law_is_number ?c_law_is_number ?k_law_is_number ?a_law_parsed_line ?l_law_parsed_line ?c_law_parsed_line ?k_law_parsed_line ?a_law_equal ?l_law_equal ?c_law_equal ?k_law_equal ?ktSyntaxFault0 ?ktSyntaxFault1 ?ktSyntaxFault2 ?ktSyntaxFault3 ?ktSyntaxFault4 ?ktSyntaxFault5 ?ktSyntaxFault6 ?ktSyntaxFault7 ?ktSyntaxFault8 ?ktSyntaxFault9 ?ktSyntaxFault10 ?ktSyntaxFault11 ?ktSyntaxFault12 ?ktSyntaxFault13 ?kvSyntaxFault ?kxSyntaxFault ?kiSyntaxFault ?gESyntaxFault ?ggSyntaxFault ?cESyntaxFault ?mESyntaxFault ?hESyntaxFault ?cgO ?tkO ?ktCheckFault0 ?ktCheckFault1 ?ktCheckFault2 ?ktCheckFault3 ?ktCheckFault4 ?ktCheckFault5 ?ktCheckFault6 ?ktCheckFault7 ?ktCheckFault8 ?ktCheckFault9 ?ktCheckFault10 ?ktCheckFault11 ?ktCheckFault12 ?ktCheckFault13 ?kvCheckFault ?kxCheckFault ?kiCheckFault ?gECheckFault ?ggCheckFault ?cECheckFault ?mECheckFault ?hECheckFault ?ktInvalidOperation0 ?ktInvalidOperation1 ?ktInvalidOperation2 ?ktInvalidOperation3 ?ktInvalidOperation4 ?ktInvalidOperation5 ?ktInvalidOperation6 ?ktInvalidOperation7 ?ktInvalidOperation8 ?ktInvalidOperation9 ?ktInvalidOperation10 ?ktInvalidOperation11 ?ktInvalidOperation12 ?ktInvalidOperation13 ?kvInvalidOperation ?kxInvalidOperation ?kiInvalidOperation ?gEInvalidOperation ?ggInvalidOperation ?cEInvalidOperation ?mEInvalidOperation ?hEInvalidOperation ?ktInvalidSession0 ?ktInvalidSession1 ?ktInvalidSession2 ?ktInvalidSession3 ?ktInvalidSession4 ?ktInvalidSession5 ?ktInvalidSession6 ?ktInvalidSession7 ?ktInvalidSession8 ?ktInvalidSession9 ?ktInvalidSession10 ?ktInvalidSession11 ?ktInvalidSession12 ?ktInvalidSession13 ?kvInvalidSession ?kxInvalidSession ?kiInvalidSession ?gEInvalidSession ?ggInvalidSession ?cEInvalidSession ?mEInvalidSession ?hEInvalidSession ?a_law_error_of ?l_law_error_of ?c_law_error_of ?k_law_error_of ?z_len ?z_range ?z_list ?z_tuple ?z_int ?z_str ?z_abs ?z_max ?z_sorted ?z_set ?z_any ?z_all ?z_enumerate ?z_isinstance ?z_bool ?z_sum ?z_zip ?z_min ?z_dict ?z_divmod ?z_ValueError ?kxInvalidCount ?kxUnknownPerson ?kxNobodyHome ?ne_Token__Parser ?alaw ?llaw ?claw ?klaw ?vT ?pT ?chT ?nT ?tT
    (case aCRotaError => k_is)
    (case rdR => k_is)
    (case gaR => k_is)
    (case atR => k_is)
    (case aCInvalidTick => k_is)
    (case aCInvalidCount => k_is)
    (case aCUnknownPerson => k_is)
    (case aCTooLong => k_is)
    (case aCDifferentPeople => k_is)
    (case aCContradiction => k_is)
    (case aCNobodyHome => k_is)
    (case aCInvalidName => k_is)
    (case aCUnknownName => k_is)
    (case aCSyntaxFault => k_is)
    (case aCCheckFault => k_is)
    (case aCInvalidCode => k_is)
    (case aCInvalidOperation => k_is)
    (case aCInvalidSession => k_is)
    (case s_END_SIGN => k_is)
    (case s_SIGN => k_is)
    (case s_DIGITS => k_is)
    (case s_MAX_DIGITS_lexer => k_is)
    (case s_NUMBER => k_is)
    (case s_LETTERS => k_is)
    (case s_KEYWORDS => k_is)
    (case u_KEYWORDS => k_is)
    (case s_KEYWORD => k_is)
    (case s_MAX_LETTERS => k_is)
    (case s_NAME => k_is)
    (case s_END => k_is)
    (case s_SPACES => k_is)
    (case aCToken => k_is)
    (case pgToken => k_is)
    (case hdToken => k_is)
    (case poToken => k_is)
    (case saToken => k_is)
    (case nToken_kind => k_is)
    (case nToken_text => k_is)
    (case nToken_line => k_is)
    (case nToken_column => k_is)
    (case aCParser => k_is)
    (case pgParser => k_is)
    (case hdParser => k_is)
    (case poParser => k_is)
    (case saParser => k_is)
    (case nParser_tokens => k_is)
    (case nParser_at => k_is)
    (case nParser_faults => k_is)
    (case nParser_names => k_is)
    (case nParser_weights => k_is)
    (case nParser_makers => k_is)
    (case nParser_aways => k_is)
    (case a_law_below => k_is)
    (case l_law_below => k_is)
    (case c_law_below => k_is)
    (case k_law_below => k_is)
    (case a_law_random => k_is)
    (case l_law_random => k_is)
    (case c_law_random => k_is)
    (case k_law_random => k_is)
    (case mkToken => k_is)
    (case kcToken => k_is)
    (case aTokenI => k_is)
    (case iTokenI => k_is)
    (case lTokenI => k_is)
    (case cTokenI => k_is)
    (case kTokenI => k_is)
    (case arun_end => k_is)
    (case lrun_end => k_is)
    (case crun_end => k_is)
    (case krun_end => k_is)
    (case xSyntaxFault => k_is)
    (case sESyntaxFault => k_is)
    (case eCSyntaxFault => k_is)
    (case tCSyntaxFault => k_is)
    (case kCSyntaxFault => k_is)
    (case aSyntaxFaultI => k_is)
    (case tSyntaxFaultI => k_is)
    (case lSyntaxFaultI => k_is)
    (case cSyntaxFaultI => k_is)
    (case kSyntaxFaultI => k_is)
    (case noSyntaxFaultline => k_is)
    (case noSyntaxFaultcolumn => k_is)
    (case xCheckFault => k_is)
    (case sECheckFault => k_is)
    (case eCCheckFault => k_is)
    (case tCCheckFault => k_is)
    (case kCCheckFault => k_is)
    (case aCheckFaultI => k_is)
    (case tCheckFaultI => k_is)
    (case lCheckFaultI => k_is)
    (case cCheckFaultI => k_is)
    (case kCheckFaultI => k_is)
    (case noCheckFaultreason => k_is)
    (case noCheckFaultline => k_is)
    (case noCheckFaultcolumn => k_is)
    (case aread_token => k_is)
    (case lread_token => k_is)
    (case cread_token => k_is)
    (case kread_token => k_is)
    (case atokenize => k_is)
    (case ltokenize => k_is)
    (case ctokenize => k_is)
    (case ktokenize => k_is)
    (case mkParser => k_is)
    (case kcParser => k_is)
    (case aParserI => k_is)
    (case iParserI => k_is)
    (case lParserI => k_is)
    (case cParserI => k_is)
    (case kParserI => k_is)
    (case aParser_peek => k_is)
    (case iParser_peek => k_is)
    (case lParser_peek => k_is)
    (case cParser_peek => k_is)
    (case kParser_peek => k_is)
    (case aParser_fail => k_is)
    (case iParser_fail => k_is)
    (case lParser_fail => k_is)
    (case cParser_fail => k_is)
    (case kParser_fail => k_is)
    (case aParser_found => k_is)
    (case iParser_found => k_is)
    (case lParser_found => k_is)
    (case cParser_found => k_is)
    (case kParser_found => k_is)
    (case aParser_take => k_is)
    (case iParser_take => k_is)
    (case lParser_take => k_is)
    (case cParser_take => k_is)
    (case kParser_take => k_is)
    (case aParser_take_word => k_is)
    (case iParser_take_word => k_is)
    (case lParser_take_word => k_is)
    (case cParser_take_word => k_is)
    (case kParser_take_word => k_is)
    (case aParser_take_all => k_is)
    (case iParser_take_all => k_is)
    (case lParser_take_all => k_is)
    (case cParser_take_all => k_is)
    (case kParser_take_all => k_is)
    (case aParser_person => k_is)
    (case iParser_person => k_is)
    (case lParser_person => k_is)
    (case cParser_person => k_is)
    (case kParser_person => k_is)
    (case aParser_parse_people => k_is)
    (case iParser_parse_people => k_is)
    (case lParser_parse_people => k_is)
    (case cParser_parse_people => k_is)
    (case kParser_parse_people => k_is)
    (case s_MAX_PEOPLE => k_is)
    (case aParser_parse_turns => k_is)
    (case iParser_parse_turns => k_is)
    (case lParser_parse_turns => k_is)
    (case cParser_parse_turns => k_is)
    (case kParser_parse_turns => k_is)
    (case s_MAX_TURNS => k_is)
    (case aParser_parse_weights => k_is)
    (case iParser_parse_weights => k_is)
    (case lParser_parse_weights => k_is)
    (case cParser_parse_weights => k_is)
    (case kParser_parse_weights => k_is)
    (case s_MAX_WEIGHT => k_is)
    (case aParser_parse_away => k_is)
    (case iParser_parse_away => k_is)
    (case lParser_parse_away => k_is)
    (case cParser_parse_away => k_is)
    (case kParser_parse_away => k_is)
    (case s_MAX_AWAYS => k_is)
    (case s_MODULI => k_is)
    (case u_MODULI => k_is)
    (case aParser_parse_makeup => k_is)
    (case iParser_parse_makeup => k_is)
    (case lParser_parse_makeup => k_is)
    (case cParser_parse_makeup => k_is)
    (case kParser_parse_makeup => k_is)
    (case aParser_parse_rota => k_is)
    (case iParser_parse_rota => k_is)
    (case lParser_parse_rota => k_is)
    (case cParser_parse_rota => k_is)
    (case kParser_parse_rota => k_is)
    (case aload => k_is)
    (case lload => k_is)
    (case cload => k_is)
    (case kload => k_is)
    (case aCBook => k_is)
    (case pgBook => k_is)
    (case hdBook => k_is)
    (case poBook => k_is)
    (case saBook => k_is)
    (case nBook_parsed => k_is)
    (case nBook_now => k_is)
    (case nBook_past => k_is)
    (case nBook_undone => k_is)
    (case nBook_saved => k_is)
    (case ais_home => k_is)
    (case lis_home => k_is)
    (case cis_home => k_is)
    (case kis_home => k_is)
    (case ahome_people => k_is)
    (case lhome_people => k_is)
    (case chome_people => k_is)
    (case khome_people => k_is)
    (case afirst_state => k_is)
    (case lfirst_state => k_is)
    (case cfirst_state => k_is)
    (case kfirst_state => k_is)
    (case achanged => k_is)
    (case lchanged => k_is)
    (case cchanged => k_is)
    (case kchanged => k_is)
    (case s_MAX_OWED => k_is)
    (case aafter_tick => k_is)
    (case lafter_tick => k_is)
    (case cafter_tick => k_is)
    (case kafter_tick => k_is)
    (case aBook_record => k_is)
    (case iBook_record => k_is)
    (case lBook_record => k_is)
    (case cBook_record => k_is)
    (case kBook_record => k_is)
    (case aBook_named => k_is)
    (case iBook_named => k_is)
    (case lBook_named => k_is)
    (case cBook_named => k_is)
    (case kBook_named => k_is)
    (case aBook_reset => k_is)
    (case iBook_reset => k_is)
    (case lBook_reset => k_is)
    (case cBook_reset => k_is)
    (case kBook_reset => k_is)
    (case s_RESET => k_is)
    (case aBook_undo => k_is)
    (case iBook_undo => k_is)
    (case lBook_undo => k_is)
    (case cBook_undo => k_is)
    (case kBook_undo => k_is)
    (case aBook_redo => k_is)
    (case iBook_redo => k_is)
    (case lBook_redo => k_is)
    (case cBook_redo => k_is)
    (case kBook_redo => k_is)
    (case ais_int_in => k_is)
    (case lis_int_in => k_is)
    (case cis_int_in => k_is)
    (case kis_int_in => k_is)
    (case aperson_number => k_is)
    (case lperson_number => k_is)
    (case cperson_number => k_is)
    (case kperson_number => k_is)
    (case qUnknownPerson => k_exc)
    (case eCUnknownPerson => k_is)
    (case tCUnknownPerson => k_is)
    (case kCUnknownPerson => k_is)
    (case aBook_step => k_is)
    (case iBook_step => k_is)
    (case lBook_step => k_is)
    (case cBook_step => k_is)
    (case kBook_step => k_is)
    (case s_STEP => k_is)
    (case s_MAX_STEPS => k_is)
    (case qInvalidCount => k_exc)
    (case eCInvalidCount => k_is)
    (case tCInvalidCount => k_is)
    (case kCInvalidCount => k_is)
    (case aBook_gift => k_is)
    (case iBook_gift => k_is)
    (case lBook_gift => k_is)
    (case cBook_gift => k_is)
    (case kBook_gift => k_is)
    (case s_GIFT => k_is)
    (case qNobodyHome => k_exc)
    (case eCNobodyHome => k_is)
    (case tCNobodyHome => k_is)
    (case kCNobodyHome => k_is)
    (case aBook_forgive => k_is)
    (case iBook_forgive => k_is)
    (case lBook_forgive => k_is)
    (case cBook_forgive => k_is)
    (case kBook_forgive => k_is)
    (case s_FORGIVE => k_is)
    (case mkBook => k_is)
    (case kcBook => k_is)
    (case aBookI => k_is)
    (case iBookI => k_is)
    (case lBookI => k_is)
    (case cBookI => k_is)
    (case kBookI => k_is)
    (case aBook_execute => k_is)
    (case iBook_execute => k_is)
    (case lBook_execute => k_is)
    (case cBook_execute => k_is)
    (case kBook_execute => k_is)
    (case ais_operation => k_is)
    (case lis_operation => k_is)
    (case cis_operation => k_is)
    (case kis_operation => k_is)
    (case s_LENGTHS => k_is)
    (case u_LENGTHS => k_is)
    (case kl_LENGTHS => repeat (first | exact trivial | refine ⟨⟨_, _, rfl, rfl⟩, ?_⟩))
    (case sm_LENGTHS => first | rfl | decide)
    (case v_LENGTHS0 => k_is)
    (case v_LENGTHS1 => k_is)
    (case v_LENGTHS2 => k_is)
    (case v_LENGTHS3 => k_is)
    (case v_LENGTHS4 => k_is)
    (case v_LENGTHS5 => k_is)
    (case xInvalidOperation => k_is)
    (case sEInvalidOperation => k_is)
    (case eCInvalidOperation => k_is)
    (case tCInvalidOperation => k_is)
    (case kCInvalidOperation => k_is)
    (case aInvalidOperationI => k_is)
    (case tInvalidOperationI => k_is)
    (case lInvalidOperationI => k_is)
    (case cInvalidOperationI => k_is)
    (case kInvalidOperationI => k_is)
    (case noInvalidOperationplace => k_is)
    (case rdBook => k_is)
    (case gaBook => k_is)
    (case aBook_replay => k_is)
    (case r_Book_replay => k_is)
    (case iBook_replay => k_is)
    (case lBook_replay => k_is)
    (case cBook_replay => k_is)
    (case kBook_replay => k_is)
    (case aparse_number => k_is)
    (case lparse_number => k_is)
    (case cparse_number => k_is)
    (case kparse_number => k_is)
    (case s_MAX_DIGITS_session => k_is)
    (case ais_name => k_is)
    (case lis_name => k_is)
    (case cis_name => k_is)
    (case kis_name => k_is)
    (case aparse_line => k_is)
    (case lparse_line => k_is)
    (case cparse_line => k_is)
    (case kparse_line => k_is)
    (case xInvalidSession => k_is)
    (case sEInvalidSession => k_is)
    (case eCInvalidSession => k_is)
    (case tCInvalidSession => k_is)
    (case kCInvalidSession => k_is)
    (case aInvalidSessionI => k_is)
    (case tInvalidSessionI => k_is)
    (case lInvalidSessionI => k_is)
    (case cInvalidSessionI => k_is)
    (case kInvalidSessionI => k_is)
    (case noInvalidSessionplace => k_is)
    (case aparse_session => k_is)
    (case lparse_session => k_is)
    (case cparse_session => k_is)
    (case kparse_session => k_is)
    (case s_ROTA => k_is)
    (case a_law_is_number => k_is)
    (case l_law_is_number => k_is)
    (case c_law_is_number => k_is)
    (case k_law_is_number => k_is)
    (case a_law_parsed_line => k_is)
    (case l_law_parsed_line => k_is)
    (case c_law_parsed_line => k_is)
    (case k_law_parsed_line => k_is)
    (case a_law_equal => k_is)
    (case l_law_equal => k_is)
    (case c_law_equal => k_is)
    (case k_law_equal => k_is)
    (case ktSyntaxFault0 => kernel_rfl)
    (case ktSyntaxFault1 => kernel_rfl)
    (case ktSyntaxFault2 => kernel_rfl)
    (case ktSyntaxFault3 => kernel_rfl)
    (case ktSyntaxFault4 => kernel_rfl)
    (case ktSyntaxFault5 => kernel_rfl)
    (case ktSyntaxFault6 => kernel_rfl)
    (case ktSyntaxFault7 => kernel_rfl)
    (case ktSyntaxFault8 => kernel_rfl)
    (case ktSyntaxFault9 => kernel_rfl)
    (case ktSyntaxFault10 => kernel_rfl)
    (case ktSyntaxFault11 => kernel_rfl)
    (case ktSyntaxFault12 => kernel_rfl)
    (case ktSyntaxFault13 => kernel_rfl)
    (case kvSyntaxFault => kernel_rfl)
    (case kxSyntaxFault => kernel_rfl)
    (case kiSyntaxFault => k_is)
    (case gESyntaxFault => k_is)
    (case ggSyntaxFault => k_is)
    (case cESyntaxFault => k_is)
    (case mESyntaxFault => k_is)
    (case hESyntaxFault => k_is)
    (case cgO => k_is)
    (case tkO => k_is)
    (case ktCheckFault0 => kernel_rfl)
    (case ktCheckFault1 => kernel_rfl)
    (case ktCheckFault2 => kernel_rfl)
    (case ktCheckFault3 => kernel_rfl)
    (case ktCheckFault4 => kernel_rfl)
    (case ktCheckFault5 => kernel_rfl)
    (case ktCheckFault6 => kernel_rfl)
    (case ktCheckFault7 => kernel_rfl)
    (case ktCheckFault8 => kernel_rfl)
    (case ktCheckFault9 => kernel_rfl)
    (case ktCheckFault10 => kernel_rfl)
    (case ktCheckFault11 => kernel_rfl)
    (case ktCheckFault12 => kernel_rfl)
    (case ktCheckFault13 => kernel_rfl)
    (case kvCheckFault => kernel_rfl)
    (case kxCheckFault => kernel_rfl)
    (case kiCheckFault => k_is)
    (case gECheckFault => k_is)
    (case ggCheckFault => k_is)
    (case cECheckFault => k_is)
    (case mECheckFault => k_is)
    (case hECheckFault => k_is)
    (case ktInvalidOperation0 => kernel_rfl)
    (case ktInvalidOperation1 => kernel_rfl)
    (case ktInvalidOperation2 => kernel_rfl)
    (case ktInvalidOperation3 => kernel_rfl)
    (case ktInvalidOperation4 => kernel_rfl)
    (case ktInvalidOperation5 => kernel_rfl)
    (case ktInvalidOperation6 => kernel_rfl)
    (case ktInvalidOperation7 => kernel_rfl)
    (case ktInvalidOperation8 => kernel_rfl)
    (case ktInvalidOperation9 => kernel_rfl)
    (case ktInvalidOperation10 => kernel_rfl)
    (case ktInvalidOperation11 => kernel_rfl)
    (case ktInvalidOperation12 => kernel_rfl)
    (case ktInvalidOperation13 => kernel_rfl)
    (case kvInvalidOperation => kernel_rfl)
    (case kxInvalidOperation => kernel_rfl)
    (case kiInvalidOperation => k_is)
    (case gEInvalidOperation => k_is)
    (case ggInvalidOperation => k_is)
    (case cEInvalidOperation => k_is)
    (case mEInvalidOperation => k_is)
    (case hEInvalidOperation => k_is)
    (case ktInvalidSession0 => kernel_rfl)
    (case ktInvalidSession1 => kernel_rfl)
    (case ktInvalidSession2 => kernel_rfl)
    (case ktInvalidSession3 => kernel_rfl)
    (case ktInvalidSession4 => kernel_rfl)
    (case ktInvalidSession5 => kernel_rfl)
    (case ktInvalidSession6 => kernel_rfl)
    (case ktInvalidSession7 => kernel_rfl)
    (case ktInvalidSession8 => kernel_rfl)
    (case ktInvalidSession9 => kernel_rfl)
    (case ktInvalidSession10 => kernel_rfl)
    (case ktInvalidSession11 => kernel_rfl)
    (case ktInvalidSession12 => kernel_rfl)
    (case ktInvalidSession13 => kernel_rfl)
    (case kvInvalidSession => kernel_rfl)
    (case kxInvalidSession => kernel_rfl)
    (case kiInvalidSession => k_is)
    (case gEInvalidSession => k_is)
    (case ggInvalidSession => k_is)
    (case cEInvalidSession => k_is)
    (case mEInvalidSession => k_is)
    (case hEInvalidSession => k_is)
    (case a_law_error_of => k_is)
    (case l_law_error_of => k_is)
    (case c_law_error_of => k_is)
    (case k_law_error_of => k_is)
    (case z_len => k_is)
    (case z_range => k_is)
    (case z_list => k_is)
    (case z_tuple => k_is)
    (case z_int => k_is)
    (case z_str => k_is)
    (case z_abs => k_is)
    (case z_max => k_is)
    (case z_sorted => k_is)
    (case z_set => k_is)
    (case z_any => k_is)
    (case z_all => k_is)
    (case z_enumerate => k_is)
    (case z_isinstance => k_is)
    (case z_bool => k_is)
    (case z_sum => k_is)
    (case z_zip => k_is)
    (case z_min => k_is)
    (case z_dict => k_is)
    (case z_divmod => k_is)
    (case z_ValueError => k_is)
    (case kxInvalidCount => kernel_rfl)
    (case kxUnknownPerson => kernel_rfl)
    (case kxNobodyHome => kernel_rfl)
    (case ne_Token__Parser => decide)
    (case alaw => k_is)
    (case llaw => k_is)
    (case claw => k_is)
    (case klaw => k_is)
    (case vT => k_is)
    (case pT => exact rfl)
    (case chT => kernel_rfl)
    (case nT => kernel_rfl)
    (case tT => exact PySem.W.km_tabs_of Y _ (by k_mem))
