import PyProof.Rows.All
import Wide.All
import OpenK.AllK
import Wide.FinOn
import PyProof.EqAt
import PyProof.EqKinds
import PyProof.TupleCall
import HandS.Base
import HandS.Call
import HandS.List
import HandS.Comp
import HandS.Ends
import HandS.Exc
import HandS.ExcOwn
import HandS.Words
import HandS.WordsExc
import HandS.CallSlots
import HandS.Wide
import HandS.IsInst
import HandS.TupAny
import HandS.TupMul
import HandS.Text
import PyProof.NeKinds
import HandS.RaiseMore
import HandS.Codes
import HandS.Conv
import PyProof.ListStr
import HandS.Strs
import HandS.ExcCtx
import HandS.HotCalls
import HandS.Flow
import HandS.ExcInit
import HandS.ExcField
import HandS.ExcIs
import KE.KExcIs
import HandS.Star
import HandS.SetFor
import HandS.Iter
import HandS.Zip
import HandS.Hot
import HandS.GenList
import HandS.GenBody
import HandS.Defaults
import HandS.HeadHook1
import HandS.HeadHook2
import HandS.HeadHook3
import HandS.HeadHook4
import HandS.HeadEnd
import KE.KStateDown
import Lean
import HandS.More
import HandS.Head0
import HandS.Head1
import HandS.Head2
import PySem.Challenge.RW_choosersrow_k11_ranks_and_orders
import KE.KIntText
import KE.IntTextLaws
set_option Elab.async false
set_option linter.all false
set_option autoImplicit false
set_option maxRecDepth 100000
set_option maxHeartbeats 4000000
/-! MP 0: new tuples, told to the object (so that their methods may be called). -/
namespace MP
open PySem PySem.Spec PyProof.Rows L2
section
open AutoSeq1 (wpAny_loadPart')
theorem tuple_mul_same (l : Addr) (items : Array Value) (n : Nat) (dd : Option Addr) (sl : Array (Option Value)) (x : Int) (u : Tok) (c0 : (decide (x < -(2 ^ 63)) || decide (x ≥ 2 ^ 63)) = false) (c1 : (items.isEmpty || x == 1) = true) :
    Meets (Builtin.«tuple.__mul__» ⟨[.ref l, .int x u], []⟩) (fun _ R s => s.heap.get? l = some { cls := .type "tuple", dict := dd, data := .seq items n, slots := sl } ∧
      R (.ok (.ret (Value.ref l))) s) :=
  .of_wp fun prog w A R s h => by
    obtain ⟨hp, g, d, tk, os⟩ := s
    obtain ⟨hl, h⟩ := h
    have f1 := AutoSeq1.idx_int
    wp_walk using wpAny_loadPart' hl
    repeat (first
      | (refine wpAny_ite_false (decide_eq_false (by rw [c0]; exact Bool.false_ne_true)) ?_; wp_walk using wpAny_loadPart' hl)
      | (refine wpAny_ite_true (decide_eq_true c1) ?_; wp_walk using wpAny_loadPart' hl))
    exact ⟨_, rfl, h⟩
theorem tuple_mul_zero (l : Addr) (items : Array Value) (n : Nat) (dd : Option Addr) (sl : Array (Option Value)) (x : Int) (u : Tok) (c0 : (decide (x < -(2 ^ 63)) || decide (x ≥ 2 ^ 63)) = false) (c1 : (items.isEmpty || x == 1) = false) (c2 : (decide (x ≤ 0) || items.isEmpty) = true) :
    Meets (Builtin.«tuple.__mul__» ⟨[.ref l, .int x u], []⟩) (fun _ R s => s.heap.get? l = some { cls := .type "tuple", dict := dd, data := .seq items n, slots := sl } ∧
      R (.ok (.ret (Value.ref s.heap.objs.size))) { s with heap := s.heap.push { cls := Value.type "tuple", data := Data.seq #[] }, toks := s.toks }) :=
  .of_wp fun prog w A R s h => by
    obtain ⟨hp, g, d, tk, os⟩ := s
    obtain ⟨hl, h⟩ := h
    have f1 := AutoSeq1.idx_int
    wp_walk using wpAny_loadPart' hl
    repeat (first
      | (refine wpAny_ite_false (decide_eq_false (by rw [c0]; exact Bool.false_ne_true)) ?_; wp_walk using wpAny_loadPart' hl)
      | (refine wpAny_ite_false (decide_eq_false (by rw [c1]; exact Bool.false_ne_true)) ?_; wp_walk using wpAny_loadPart' hl)
      | (refine wpAny_ite_true (decide_eq_true c2) ?_; wp_walk using wpAny_loadPart' hl))
    exact ⟨_, rfl, h⟩
end
/-- a tuple's object without a dict -/
def TD (K : PySem.W.Frag) (H : Hp) (a : Addr) : Prop := (∃ o u, H a = some (.frz o u) ∧ o.dict = none) ∨ ∃ o, K.lookup a = some o ∧ o.dict = none
/-- a tuple that is read, its object without a dict -/
def SqD (K : PySem.W.Frag) (H : Hp) (a : Addr) (xs : List V) : Prop := SqT K H a xs ∧ TD K H a
abbrev NewT (xs : List V) (H : Hp) (Q : VK) : Prop := ∀ (p : Addr) (o : Obj), H p = none → o.dict = none → Q (.ref p) (upd H p (.frz o (.tup xs)))
theorem SqD.new {K : PySem.W.Frag} {H : Hp} {p : Addr} {o : Obj} {xs : List V} (h : o.dict = none) : SqD K (upd H p (.frz o (.tup xs))) p xs := ⟨.inl (.inr ⟨o, upd_same⟩), .inl ⟨o, _, upd_same, h⟩⟩
section
variable {X : Cx} {pins : List (Addr × Obj)} {σ : L2.St} {H : Hp} {s : Shared}
theorem laidT {zs : List V} {its : List Value} {Q : VK} (I : Inv X pins σ H s) (r : Vals zs its) (hz : zs.length ≤ sizeLine) (q : NewT zs H Q) :
    EP X pins σ Q (.ref s.heap.objs.size) { s with heap := s.heap.push { cls := .type "tuple", data := .seq its.toArray } } := by
  refine ⟨.ref s.heap.objs.size, _, I.laid (t' := s.toks) (o := .frz { cls := .type "tuple", data := .seq its.toArray } (.tup zs)) (fun b ob q => Heap.get?_push_of_some _ q) (Nat.le_refl _) ?_, rfl, q _ _ (I.hok.fresh (Nat.le_refl _)) rfl⟩
  exact ⟨Heap.get?_push_size _ rfl, hz, its, r, IsTup.new _ _⟩
/-- a written tuple -/
def tTupF (t : TA) : TE := fun σ H Q => t σ H fun xs H1 => xs.length ≤ sizeLine ∧ NewT xs H1 Q
theorem pe_tupF {es : List Expr} {t : TA} {pos : Pos} {x1 : Nat} (h : PA X es t) : PE X (.Tuple es x1 pos) (tTupF t) := by
  refine ⟨fun pins s σ H Q I hq => ?_⟩
  refine wpAny_Tuple_spliced (thn (h.run pos pins s σ H _ I hq) fun us s1 ⟨xs, H1, I1, r, z, q⟩ => ⟨by rw [← r.length]; exact z, laidT I1 r z q⟩)
/-- t + u -/
def rCatF (K : PySem.W.Frag) : R2 := fun x y H Q => ∃ a b xs ys, x = .ref a ∧ y = .ref b ∧ SqT K H a xs ∧ SqT K H b ys ∧ xs.length + ys.length ≤ sizeLine ∧
  (xs = [] → Q (.ref b) H) ∧ (xs ≠ [] → ys = [] → Q (.ref a) H) ∧ (xs ≠ [] → ys ≠ [] → NewT (xs ++ ys) H Q)
theorem op_catF : OpR X (binaryOp .Add) (rCatF X.K) := by
  intro pins s σ H x y v u Q I rx ry h
  obtain ⟨a, b, xs, ys, rfl, rfl, ha, hb, hz, q0, q1, q2⟩ := h
  cases rx
  cases ry
  obtain ⟨its, r1, p1, _⟩ := I.tuple ha
  obtain ⟨its2, r2, p2, _⟩ := I.tuple hb
  by_cases hx : xs = []
  · subst hx
    cases r1
    exact cat_tup0 p1 p2 ⟨.ref b, H, I, rfl, q0 rfl⟩
  · refine HT.cat_tup p1 p2 (fun z => hx (r1.nil_iff.mp z)) (fun z => ⟨.ref a, H, I, rfl, q1 hx (r2.nil_iff.mp z)⟩) (fun z => ?_) (by rw [← r1.length, ← r2.length]; exact hz)
    exact laidT I (r1.append r2) (by rw [List.length_append]; exact hz) (q2 hx fun w => z (r2.nil_iff.mpr w))
/-- t[lo:hi] -/
def rSlF (K : PySem.W.Frag) : V → Option Int → Option Int → Hp → VK → Prop := fun x lo hi H Q => ∃ a xs, x = .ref a ∧ SqT K H a xs ∧
  (HT.sIx xs.length 0 lo = 0 ∧ HT.sIx xs.length xs.length hi = xs.length → Q (.ref a) H) ∧ (¬ (HT.sIx xs.length 0 lo = 0 ∧ HT.sIx xs.length xs.length hi = xs.length) → NewT (cutV xs lo hi) H Q)
theorem sl_tupF : SlR X (rSlF X.K) := by
  intro pins s σ H x v vl vu lo hi sl Q I rx hs pl pu h
  obtain ⟨a, xs, rfl, hx, q1, q2⟩ := h
  cases rx
  obtain ⟨its, r, ht, hz⟩ := I.tuple hx
  have hlen : its.toArray.size = xs.length := by rw [List.size_toArray]; exact r.length.symm
  refine ⟨"tuple", _, PyProof.Rows.slot_tuple_getitem.lookup, ht.typeIs, ?_⟩
  by_cases hw : HT.sIx xs.length 0 lo = 0 ∧ HT.sIx xs.length xs.length hi = xs.length
  · exact getItem_tuple_whole ht hs pl pu (by rw [hlen]; exact hw) ⟨.ref a, H, I, rfl, q1 hw⟩
  · refine HT.getItem_tuple_cut ht hs pl pu (by rw [hlen]; exact hw) ?_ (by rw [hlen]; exact hz)
    rw [hlen]
    exact laidT I ((r.drop (HT.sIx xs.length 0 lo)).take (HT.sIx xs.length xs.length hi - HT.sIx xs.length 0 lo)) (Nat.le_trans (cutV_length xs lo hi) hz) (q2 hw)
/-- tuple(x) -/
theorem call_tupleF : CallR X (.type "tuple") (fun xs H Q => ∃ p ys, xs = [.ref p] ∧ ((SqL X.K H p ys ∧ NewT ys H Q) ∨ (SqT X.K H p ys ∧ Q (.ref p) H))) := by
  intro pins s σ H xs us Q I r h
  obtain ⟨p, ys, rfl, h⟩ := h
  obtain ⟨u, rfl, rx⟩ := vals1 r
  cases rx
  rcases h with ⟨hq, q⟩ | ⟨hq, q⟩
  · obtain ⟨its, r', pl, hz⟩ := I.list hq
    have hlen := r'.length
    refine call_tuple_list pl.isList (fun h' kp => ?_) (by simp only [List.size_toArray] <;> omega)
    have I1 : Inv X pins σ H { s with heap := h' } := I.kept (t' := s.toks) kp
    exact laidT (s := { s with heap := h' }) I1 r' hz q
  · obtain ⟨its, r', pl, hz⟩ := I.tuple hq
    exact call_tuple_same pl ⟨.ref p, H, I, rfl, q⟩
/-- t * k, k from 0 to 1000 -/
def rRepF (K : PySem.W.Frag) : R2 := fun x y H Q => ∃ l k xs, x = .ref l ∧ y = .int k ∧ SqT K H l xs ∧ 0 ≤ k ∧ k ≤ 1000 ∧ xs.length ≤ 1000 ∧ ((k = 1 ∨ xs = []) → Q (.ref l) H) ∧ NewT (List.replicate k.toNat xs).flatten H Q
theorem op_repF : OpR X (binaryOp .Mult) (rRepF X.K) := by
  intro pins s σ H x y v u Q I rx ry h
  obtain ⟨l, k, xs, rfl, rfl, hT, h0, h2, hz, q1, q⟩ := h
  cases rx
  obtain ⟨t, rfl⟩ := ry
  obtain ⟨its, r, ⟨⟨cls, dd, data, sl⟩, ho, hc, n, hd⟩, hs⟩ := I.tuple hT
  simp only at hc hd
  subst hc hd
  have hle : its.length = xs.length := r.length.symm
  have c0 : (decide (k < -(2 ^ 63)) || decide (k ≥ 2 ^ 63)) = false := by
    rw [decide_eq_false (by omega), decide_eq_false (by omega)] <;> rfl
  have he : its.toArray.isEmpty = xs.isEmpty := by
    cases its <;> cases xs <;> first | rfl | (simp at hle)
  have go : ∀ {Q' : Value → Shared → Prop}, _ → wpAny (model X.prog X.w) X.A (binaryOp .Mult (.ref l) (.int k t)) Q' X.xe s := fun {Q'} m => wpAny_binaryOp_repeat_ref (T := "tuple") (U := "int") (by decide) ⟨_, ho, rfl⟩ (fun s' => typeIs_int s' k t) noFill_tuple_mul F.fills_int_mul F.slot_int_rmul repeat_tuple F.slot_int_index.lookup
    (call_meets F.slot_int_rmul (typeIs_int s k t) F.entry_int_rmul (F.args_int_rmul_2 _ _) (int_rmul_tuple k t l its.toArray n dd sl) ⟨ho, rfl, ⟨_, ho, rfl⟩, m⟩)
  have lenR : (List.replicate k.toNat xs).flatten.length ≤ sizeLine := by
    rw [PyProof.Rows.lm_len_rep_flat, sizeLine_eq]
    have a1 : k.toNat * xs.length ≤ 1000 * 1000 := Nat.mul_le_mul (by omega) hz
    omega
  by_cases c1 : (its.toArray.isEmpty || k == 1) = true
  · refine go (call_meets F.slot_tuple_mul ⟨_, ho, rfl⟩ F.entry_tuple_mul (F.args_tuple_mul_2 _ _) (tuple_mul_same l its.toArray n dd sl k t c0 c1) ⟨ho, ?_⟩)
    refine ⟨.ref l, H, I, rfl, q1 ?_⟩
    rw [he, Bool.or_eq_true] at c1
    rcases c1 with e | e
    · right
      cases xs with
      | nil => rfl
      | cons a b => cases e
    · left
      simpa using e
  · have c1' : (its.toArray.isEmpty || k == 1) = false := by simpa using c1
    have hx : xs ≠ [] := by
      intro e
      rw [he, e] at c1'
      simp at c1'
    have k1 : k ≠ 1 := by
      rw [Bool.or_eq_false_iff] at c1'
      simpa using c1'.2
    by_cases k0 : k = 0
    · refine go (call_meets F.slot_tuple_mul ⟨_, ho, rfl⟩ F.entry_tuple_mul (F.args_tuple_mul_2 _ _) (tuple_mul_zero l its.toArray n dd sl k t c0 c1' (by rw [k0]; rfl)) ⟨ho, ?_⟩)
      have q' : NewT [] H Q := by
        rw [k0] at q
        exact q
      exact laidT (its := []) I .nil (Nat.zero_le _) q'
    · have c2 : (decide (k ≤ 0) || its.toArray.isEmpty) = false := by
        rw [Bool.or_eq_false_iff] at c1' ⊢
        exact ⟨decide_eq_false (by omega), c1'.1⟩
      have hsz0 : its.toArray.size = xs.length := by rw [List.size_toArray, hle]
      have hm : ((its.toArray.size : Nat) : Int) * k ≤ 1000000 := by
        rw [hsz0]
        have a1 : ((xs.length : Nat) : Int) * k ≤ 1000 * k := Int.mul_le_mul_of_nonneg_right (by omega) (by omega)
        omega
      have c4 : Builtin.Tuple.tupleTooMany (((its.toArray.size : Nat) : Int) * k) = false := by
        unfold Builtin.Tuple.tupleTooMany
        rw [sizeLine_eq]
        exact decide_eq_false (by omega)
      have flen : (List.replicate k.toNat its).flatten.length ≤ sizeLine := by
        rw [PyProof.Rows.lm_len_rep_flat, hle]
        rw [PyProof.Rows.lm_len_rep_flat] at lenR
        exact lenR
      refine go (call_meets F.slot_tuple_mul ⟨_, ho, rfl⟩ F.entry_tuple_mul (F.args_tuple_mul_2 _ _) (tuple_mulW l its.toArray n dd sl k t c0 c1' c2 (by omega) c4 (by rw [size_rep, List.size_toArray]; exact flen)) ⟨ho, ?_⟩)
      rw [size_rep]
      exact laidT I (r.rep k.toNat) lenR q
end
end MP

/-! MP 1: values as trees, the logical heap, how they lie in the tracked heap. -/
namespace MP
open PySem PySem.Spec PyProof.Rows L2

/-- a value: tuples are trees, an instance that changes no more too; ref n is the n-th logical object -/
inductive PV where
  | non
  | bl (b : Bool)
  | int (i : Int)
  | str (s : Str)
  | tup (xs : List PV)
  | ref (n : Nat)
  | cls (x : Str)
  | typ (n : String)
  | obj (c : Str) (ns : List Str) (vs : List PV)
  | exn
  | frl (xs : List PV)
  | rng (lo hi : Int)
  deriving Inhabited

/-- a logical object -/
inductive HObj where
  | lst (xs : List PV)
  | frl (xs : List PV)
  | ins (c : Str) (ns : List Str) (vs : List PV)
  deriving Inhabited

/-- where things stand: the addresses of the logical objects, the instances that change no more -/
structure Pl where
  A : List Addr
  Z : Addr → Prop
  /-- what is kept and no value names -/
  Y : Addr → Prop
/-- what is kept -/
def Pl.Kp (P : Pl) (a : Addr) : Prop := P.Z a ∨ P.Y a

/-- a list that changes no more -/
def SqF (K : PySem.W.Frag) (H : Hp) (a : Addr) (xs : List V) : Prop := (∃ o, H a = some (.frz o (.lst xs))) ∨
  ∃ (o : Obj) (its : Array Value) (n : Nat), K.lookup a = some o ∧ o.cls = .type "list" ∧ o.dict = none ∧ o.data = .seq its n ∧ its.size ≤ sizeLine ∧ Vals xs its.toList
theorem SqF.l {K : PySem.W.Frag} {H : Hp} {a : Addr} {xs : List V} (h : SqF K H a xs) : SqL K H a xs := by
  rcases h with h | h
  · exact .inl (.inr h)
  · exact .inr h
/-- a list that is held as it is -/
def SqH (K : PySem.W.Frag) (P : Pl) (H : Hp) (a : Addr) (xs : List V) : Prop := SqF K H a xs ∨ (P.Z a ∧ H a = some (.lst xs))
theorem SqH.l {K : PySem.W.Frag} {P : Pl} {H : Hp} {a : Addr} {xs : List V} (h : SqH K P H a xs) : SqL K H a xs := by
  rcases h with h | h
  · exact h.l
  · exact .inl (.inl h.2)
section
variable (K : PySem.W.Frag) (mg : Str → Option Value)
mutual
def RV (P : Pl) (H : Hp) : PV → V → Prop
  | .non, v => v = .non
  | .bl b, v => v = .bl b
  | .int i, v => v = .int i
  | .str s, v => v = .str s
  | .tup xs, v => ∃ a vs, v = .ref a ∧ SqD K H a vs ∧ RVs P H xs vs
  | .ref n, v => ∃ a, v = .ref a ∧ P.A[n]? = some a
  | .cls x, v => ∃ a, v = .ref a ∧ mg x = some (.ref a)
  | .typ n, v => v = .ty n
  | .obj c ns us, v => ∃ a C dx fs, v = .ref a ∧ P.Z a ∧ mg c = some (.ref C) ∧ H a = some (.ins C dx fs) ∧ ∃ vs, fs = ns.zip vs ∧ ns.length = vs.length ∧ RVs P H us vs
  | .exn, v => ∃ a, v = .ref a
  | .frl xs, v => ∃ a vs, v = .ref a ∧ SqH K P H a vs ∧ RVs P H xs vs
  | .rng lo hi, v => ∃ a, v = .ref a ∧ P.Z a ∧ H a = some (.rng lo hi)
def RVs (P : Pl) (H : Hp) : List PV → List V → Prop
  | [], vs => vs = []
  | x :: xs, vs => ∃ v r, vs = v :: r ∧ RV P H x v ∧ RVs P H xs r
end

def RO (P : Pl) (H : Hp) : HObj → HO → Prop
  | .lst xs, ho => ∃ vs, ho = .lst vs ∧ RVs K mg P H xs vs
  | .frl xs, ho => ∃ o vs, ho = .frz o (.lst vs) ∧ RVs K mg P H xs vs
  | .ins c ns us, ho => ∃ C dx vs, ho = .ins C dx (ns.zip vs) ∧ ns.length = vs.length ∧ mg c = some (.ref C) ∧ RVs K mg P H us vs

structure Rel (P : Pl) (L : List HObj) (H : Hp) : Prop where
  len : P.A.length = L.length
  nd : P.A.Nodup
  obj : ∀ (n : Nat) (o : HObj) (a : Addr), L[n]? = some o → P.A[n]? = some a → ∃ ho, H a = some ho ∧ RO K mg P H o ho
  fzK : ∀ a, P.Kp a → (∃ o, H a = some o) ∧ a ∉ P.A
  dj : ∀ a, P.Y a → ¬ P.Z a
  yl : ∀ a, P.Y a → ∃ vs, H a = some (.lst vs)

/-- what a step keeps -/
structure Ext (P : Pl) (H : Hp) (P' : Pl) (H' : Hp) : Prop where
  A : ∃ t, P'.A = P.A ++ t
  tup : ∀ a xs, H a = some (.tup xs) → H' a = some (.tup xs)
  frz : ∀ a o u, H a = some (.frz o u) → H' a = some (.frz o u)
  Z : ∀ a, P.Z a → P'.Z a
  Y : ∀ a, P.Y a → P'.Y a
  holdK : ∀ a o, P.Kp a → H a = some o → H' a = some o

/-- the slots of a frame -/
abbrev Env' := List (Option PV)
structure RE (P : Pl) (H : Hp) (ρ : Env') (σ : L2.St) : Prop where
  len : ρ.length = σ.length
  val : ∀ (i : Nat) (x : PV), ρ[i]? = some (some x) → ∃ v, σ[i]? = some (some v) ∧ RV K mg P H x v
end

section
variable {K : PySem.W.Frag} {mg : Str → Option Value} {P P' P'' : Pl} {H H' H'' : Hp}
theorem Ext.hold (e : Ext P H P' H') (a : Addr) (o : HO) (z : P.Z a) (h : H a = some o) : H' a = some o := e.holdK a o (.inl z) h
theorem Ext.kp (e : Ext P H P' H') {a : Addr} (z : P.Kp a) : P'.Kp a := z.elim (fun z => .inl (e.Z a z)) fun z => .inr (e.Y a z)
theorem Rel.fz {L : List HObj} (R : Rel K mg P L H) (a : Addr) (z : P.Z a) : (∃ o, H a = some o) ∧ a ∉ P.A := R.fzK a (.inl z)
theorem Ext.refl : Ext P H P H := ⟨⟨[], by simp⟩, fun _ _ h => h, fun _ _ _ h => h, fun _ h => h, fun _ h => h, fun _ _ _ h => h⟩
theorem Ext.trans (a : Ext P H P' H') (b : Ext P' H' P'' H'') : Ext P H P'' H'' := by
  obtain ⟨t, e⟩ := a.A
  obtain ⟨u, f⟩ := b.A
  exact ⟨⟨t ++ u, by rw [f, e, List.append_assoc]⟩, fun x xs h => b.tup x xs (a.tup x xs h), fun x o u h => b.frz x o u (a.frz x o u h), fun x h => b.Z x (a.Z x h), fun x h => b.Y x (a.Y x h), fun x o z h => b.holdK x o (a.kp z) (a.holdK x o z h)⟩
theorem Ext.seqT (e : Ext P H P' H') {a : Addr} {xs : List V} (h : SqT K H a xs) : SqT K H' a xs := by
  rcases h with (h | ⟨o, h⟩) | h
  · exact .inl (.inl (e.tup _ _ h))
  · exact .inl (.inr ⟨o, e.frz _ _ _ h⟩)
  · exact .inr h
theorem Ext.seqD (e : Ext P H P' H') {a : Addr} {xs : List V} (h : SqD K H a xs) : SqD K H' a xs := by
  refine ⟨e.seqT h.1, ?_⟩
  rcases h.2 with ⟨o, u, q, d⟩ | q
  · exact .inl ⟨o, u, e.frz _ _ _ q, d⟩
  · exact .inr q
theorem Ext.seqF (e : Ext P H P' H') {a : Addr} {xs : List V} (h : SqF K H a xs) : SqF K H' a xs := by
  rcases h with ⟨o, h⟩ | h
  · exact .inl ⟨o, e.frz _ _ _ h⟩
  · exact .inr h
theorem Ext.seqH (e : Ext P H P' H') {a : Addr} {xs : List V} (h : SqH K P H a xs) : SqH K P' H' a xs := by
  rcases h with h | h
  · exact .inl (e.seqF h)
  · exact .inr ⟨e.Z _ h.1, e.hold _ _ h.1 h.2⟩
theorem Ext.at (e : Ext P H P' H') {n : Nat} {a : Addr} (h : P.A[n]? = some a) : P'.A[n]? = some a := by
  obtain ⟨t, q⟩ := e.A
  rw [q, List.getElem?_append_left (List.getElem?_eq_some_iff.mp h).1]
  exact h
mutual
theorem RV.mono (e : Ext P H P' H') : ∀ (x : PV) (v : V), RV K mg P H x v → RV K mg P' H' x v
  | .non, _, h => h
  | .bl _, _, h => h
  | .int _, _, h => h
  | .str _, _, h => h
  | .tup xs, _, h => by
    obtain ⟨a, vs, h1, h2, h3⟩ := h
    exact ⟨a, vs, h1, e.seqD h2, RVs.mono e xs vs h3⟩
  | .ref _, _, h => by
    obtain ⟨a, h1, h2⟩ := h
    exact ⟨a, h1, e.at h2⟩
  | .cls _, _, h => h
  | .typ _, _, h => h
  | .obj c ns us, _, h => by
    obtain ⟨a, C, dx, fs, h1, h2, h3, h4, vs, h5, h6, h7⟩ := h
    exact ⟨a, C, dx, fs, h1, e.Z _ h2, h3, e.hold _ _ h2 h4, vs, h5, h6, RVs.mono e us vs h7⟩
  | .exn, _, h => h
  | .frl xs, _, h => by
    obtain ⟨a, vs, h1, h2, h3⟩ := h
    exact ⟨a, vs, h1, e.seqH h2, RVs.mono e xs vs h3⟩
  | .rng _ _, _, h => by
    obtain ⟨a, h1, h2, h3⟩ := h
    exact ⟨a, h1, e.Z _ h2, e.hold _ _ h2 h3⟩
theorem RVs.mono (e : Ext P H P' H') : ∀ (xs : List PV) (vs : List V), RVs K mg P H xs vs → RVs K mg P' H' xs vs
  | [], _, h => h
  | x :: xs, _, h => by
    obtain ⟨v, r, h1, h2, h3⟩ := h
    exact ⟨v, r, h1, RV.mono e x v h2, RVs.mono e xs r h3⟩
end
theorem RE.mono {ρ : Env'} {σ : L2.St} (e : Ext P H P' H') (h : RE K mg P H ρ σ) : RE K mg P' H' ρ σ :=
  ⟨h.len, fun i x q => let ⟨v, h1, h2⟩ := h.val i x q; ⟨v, h1, h2.mono e⟩⟩
theorem RE.set {ρ : Env'} {σ : L2.St} {i : Nat} {x : PV} {v : V} (h : RE K mg P H ρ σ) (r : RV K mg P H x v) : RE K mg P H (ρ.set i (some x)) (σ.set i (some v)) := by
  refine ⟨by simpa using h.len, fun j y q => ?_⟩
  by_cases hj : i = j
  · subst hj
    by_cases hi : i < ρ.length
    · rw [List.getElem?_set_self hi] at q
      have e : x = y := Option.some.inj (Option.some.inj q)
      subst e
      exact ⟨v, by rw [List.getElem?_set_self (by rw [← h.len]; exact hi)], r⟩
    · rw [List.getElem?_eq_none (by simpa using hi)] at q
      cases q
  · rw [List.getElem?_set_ne hj] at q
    obtain ⟨w, h1, h2⟩ := h.val j y q
    exact ⟨w, by rw [List.getElem?_set_ne hj]; exact h1, h2⟩
theorem RE.clear {ρ : Env'} {σ : L2.St} {i : Nat} {o : Option V} (h : RE K mg P H ρ σ) : RE K mg P H (ρ.set i none) (σ.set i o) := by
  refine ⟨by simpa using h.len, fun j y q => ?_⟩
  by_cases hj : i = j
  · subst hj
    by_cases hi : i < ρ.length
    · rw [List.getElem?_set_self hi] at q
      cases q
    · rw [List.getElem?_eq_none (by simpa using hi)] at q
      cases q
  · rw [List.getElem?_set_ne hj] at q
    obtain ⟨w, h1, h2⟩ := h.val j y q
    exact ⟨w, by rw [List.getElem?_set_ne hj]; exact h1, h2⟩

theorem RVs.length : ∀ {xs : List PV} {vs : List V}, RVs K mg P H xs vs → xs.length = vs.length
  | [], _, h => by cases (show _ = [] from h); rfl
  | _ :: _, _, h => by
    obtain ⟨v, r, e, _, h3⟩ := h
    subst e
    simp only [List.length_cons, RVs.length h3]
theorem RVs.nil : RVs K mg P H [] [] := rfl
theorem RVs.cons {x : PV} {v : V} {xs : List PV} {vs : List V} (h : RV K mg P H x v) (t : RVs K mg P H xs vs) : RVs K mg P H (x :: xs) (v :: vs) := ⟨v, vs, rfl, h, t⟩
theorem RVs.append : ∀ {xs ys : List PV} {vs ws : List V}, RVs K mg P H xs vs → RVs K mg P H ys ws → RVs K mg P H (xs ++ ys) (vs ++ ws)
  | [], _, _, _, h, t => by cases (show _ = [] from h); exact t
  | _ :: _, _, _, _, h, t => by
    obtain ⟨v, r, e, h2, h3⟩ := h
    subst e
    exact .cons h2 (RVs.append h3 t)
theorem RVs.get : ∀ {xs : List PV} {vs : List V} {i : Nat} {x : PV}, RVs K mg P H xs vs → xs[i]? = some x → ∃ v, vs[i]? = some v ∧ RV K mg P H x v
  | [], _, _, _, _, e => by simp at e
  | y :: ys, _, 0, x, h, e => by
    obtain ⟨v, r, q, h2, h3⟩ := h
    subst q
    have e' : y = x := by simpa using e
    subst e'
    exact ⟨v, rfl, h2⟩
  | y :: ys, _, i + 1, x, h, e => by
    obtain ⟨v, r, q, h2, h3⟩ := h
    subst q
    obtain ⟨w, h4, h5⟩ := RVs.get (i := i) h3 (by simpa using e)
    exact ⟨w, by simpa using h4, h5⟩
theorem RVs.take : ∀ {xs : List PV} {vs : List V} (n : Nat), RVs K mg P H xs vs → RVs K mg P H (xs.take n) (vs.take n)
  | _, _, 0, _ => rfl
  | [], _, n + 1, h => by cases (show _ = [] from h); rfl
  | _ :: _, _, n + 1, h => by
    obtain ⟨v, r, q, h2, h3⟩ := h
    subst q
    exact .cons h2 (RVs.take n h3)
theorem RVs.drop : ∀ {xs : List PV} {vs : List V} (n : Nat), RVs K mg P H xs vs → RVs K mg P H (xs.drop n) (vs.drop n)
  | _, _, 0, h => h
  | [], _, n + 1, h => by cases (show _ = [] from h); rfl
  | _ :: _, _, n + 1, h => by
    obtain ⟨v, r, q, h2, h3⟩ := h
    subst q
    exact RVs.drop n h3
theorem RVs.set : ∀ {xs : List PV} {vs : List V} {x : PV} {v : V} (i : Nat), RVs K mg P H xs vs → RV K mg P H x v → RVs K mg P H (xs.set i x) (vs.set i v)
  | [], _, _, _, _, h, _ => by cases (show _ = [] from h); rfl
  | _ :: _, _, _, _, 0, h, q => by
    obtain ⟨v, r, e, h2, h3⟩ := h
    subst e
    exact .cons q h3
  | _ :: _, _, _, _, i + 1, h, q => by
    obtain ⟨v, r, e, h2, h3⟩ := h
    subst e
    exact .cons h2 (RVs.set i h3 q)
theorem RVs.reverse : ∀ {xs : List PV} {vs : List V}, RVs K mg P H xs vs → RVs K mg P H xs.reverse vs.reverse
  | [], _, h => by cases (show _ = [] from h); rfl
  | _ :: _, _, h => by
    obtain ⟨v, r, e, h2, h3⟩ := h
    subst e
    rw [List.reverse_cons, List.reverse_cons]
    exact .append (RVs.reverse h3) (.cons h2 .nil)
theorem RVs.ints : ∀ {ns : List Int} {vs : List V}, RVs K mg P H (ns.map PV.int) vs → vs = ns.map V.int
  | [], _, h => h
  | _ :: _, _, h => by
    obtain ⟨v, r, e, h2, h3⟩ := h
    rw [e, (show v = _ from h2), RVs.ints h3]
    rfl
theorem RVs.of_ints : ∀ {ns : List Int}, RVs K mg P H (ns.map PV.int) (ns.map V.int)
  | [] => rfl
  | _ :: _ => .cons rfl RVs.of_ints

/-! ### steps of the heap -/
theorem Rel.notA {L : List HObj} (R : Rel K mg P L H) {a : Addr} (h : H a = none) : a ∉ P.A := fun m => by
  obtain ⟨n, hn⟩ := List.getElem?_of_mem m
  have hl : n < L.length := by rw [← R.len]; exact (List.getElem?_eq_some_iff.mp hn).1
  obtain ⟨ho, q, _⟩ := R.obj n L[n] a (List.getElem?_eq_getElem hl) hn
  rw [h] at q; cases q
theorem Rel.notK {L : List HObj} (R : Rel K mg P L H) {a : Addr} (h : H a = none) : ¬ P.Kp a := fun z => by
  obtain ⟨⟨_, q⟩, _⟩ := R.fzK a z
  rw [h] at q; cases q
theorem Rel.notZ {L : List HObj} (R : Rel K mg P L H) {a : Addr} (h : H a = none) : ¬ P.Z a := fun z => R.notK h (.inl z)
theorem RO.mono (e : Ext P H P' H') {o : HObj} {ho : HO} (h : RO K mg P H o ho) : RO K mg P' H' o ho := by
  cases o with
  | lst xs =>
    obtain ⟨vs, h1, h2⟩ := h
    exact ⟨vs, h1, h2.mono e⟩
  | frl xs =>
    obtain ⟨o, vs, h1, h2⟩ := h
    exact ⟨o, vs, h1, h2.mono e⟩
  | ins c ns us =>
    obtain ⟨C, dx, vs, h1, h2, h3, h4⟩ := h
    exact ⟨C, dx, vs, h1, h2, h3, h4.mono e⟩
/-- something new that is not a logical object (a tuple) -/
theorem Ext.fresh {a : Addr} {o : HO} (h : H a = none) : Ext P H P (upd H a o) :=
  ⟨⟨[], by simp⟩, fun b xs q => by rw [upd_ne (ne_of_none q h)]; exact q, fun b u xs q => by rw [upd_ne (ne_of_none q h)]; exact q, fun _ z => z, fun _ z => z, fun b u _ q => by rw [upd_ne (ne_of_none q h)]; exact q⟩
theorem Rel.fresh {L : List HObj} (R : Rel K mg P L H) {a : Addr} {o : HO} (h : H a = none) : Rel K mg P L (upd H a o) := by
  refine ⟨R.len, R.nd, fun n u b h1 h2 => ?_, fun b z => ?_, R.dj, fun b y => let ⟨vs, q⟩ := R.yl b y; ⟨vs, by rw [upd_ne (ne_of_none q h)]; exact q⟩⟩
  · obtain ⟨ho, q, r⟩ := R.obj n u b h1 h2
    exact ⟨ho, by rw [upd_ne (ne_of_none q h)]; exact q, r.mono (Ext.fresh h)⟩
  · obtain ⟨⟨u, q⟩, na⟩ := R.fzK b z
    exact ⟨⟨u, by rw [upd_ne (ne_of_none q h)]; exact q⟩, na⟩
/-- a new logical object -/
def Pl.add (P : Pl) (a : Addr) : Pl := ⟨P.A ++ [a], P.Z, P.Y⟩
theorem Ext.add {a : Addr} {o : HO} (h : H a = none) : Ext P H (P.add a) (upd H a o) :=
  ⟨⟨[a], rfl⟩, (Ext.fresh (P := P) h).tup, (Ext.fresh (P := P) h).frz, fun _ z => z, fun _ z => z, (Ext.fresh (P := P) h).holdK⟩
theorem Rel.add {L : List HObj} (R : Rel K mg P L H) {a : Addr} {o : HObj} {ho : HO} (h : H a = none) (r : RO K mg (P.add a) (upd H a ho) o ho) : Rel K mg (P.add a) (L ++ [o]) (upd H a ho) := by
  have na := R.notA h
  refine ⟨by simp [Pl.add, R.len], ?_, fun n u b h1 h2 => ?_, fun b z => ?_, R.dj, fun b y => let ⟨vs, q⟩ := R.yl b y; ⟨vs, by rw [upd_ne (ne_of_none q h)]; exact q⟩⟩
  · show (P.A ++ [a]).Nodup
    rw [List.nodup_append]
    exact ⟨R.nd, by simp, fun x hx y hy => by rw [List.mem_singleton.mp hy]; intro e; exact na (e ▸ hx)⟩
  · by_cases hn : n < L.length
    · rw [List.getElem?_append_left hn] at h1
      have h2' : P.A[n]? = some b := by
        have h2'' : (P.A ++ [a])[n]? = some b := h2
        rw [List.getElem?_append_left (by rw [R.len]; exact hn)] at h2''
        exact h2''
      obtain ⟨hu, q, ru⟩ := R.obj n u b h1 h2'
      exact ⟨hu, by rw [upd_ne (ne_of_none q h)]; exact q, ru.mono (Ext.add h)⟩
    · have e : n = L.length := by
        have := (List.getElem?_eq_some_iff.mp h1).1
        simp at this; omega
      subst e
      have eo : o = u := by simpa using h1
      have ea : a = b := by
        have h2'' : (P.A ++ [a])[L.length]? = some b := h2
        rw [← R.len] at h2''
        simpa using h2''
      subst eo ea
      exact ⟨ho, upd_same, r⟩
  · obtain ⟨⟨u, q⟩, nb⟩ := R.fzK b z
    refine ⟨⟨u, by rw [upd_ne (ne_of_none q h)]; exact q⟩, ?_⟩
    show b ∉ P.A ++ [a]
    simp only [List.mem_append, List.mem_singleton, not_or]
    exact ⟨nb, ne_of_none q h⟩
/-- a list is changed -/
theorem Rel.neZ {L : List HObj} (R : Rel K mg P L H) {n : Nat} {a b : Addr} (ha : P.A[n]? = some a) (z : P.Kp b) : b ≠ a := fun e => (R.fzK b z).2 (by rw [e]; exact List.mem_of_getElem? ha)
theorem Ext.putG {L : List HObj} (R : Rel K mg P L H) {n : Nat} {a : Addr} {o u : HO} (ha : P.A[n]? = some a) (h : H a = some u) (n1 : ∀ xs, u ≠ .tup xs) (n2 : ∀ o w, u ≠ .frz o w) : Ext P H P (upd H a o) := by
  refine ⟨⟨[], by simp⟩, fun b ys q => ?_, fun b w ys q => ?_, fun _ z => z, fun _ z => z, fun b w z q => ?_⟩
  · rw [upd_ne (ne_of q h (fun z => n1 _ z.symm))]; exact q
  · rw [upd_ne (ne_of q h (fun z => n2 _ _ z.symm))]; exact q
  · rw [upd_ne (R.neZ ha z)]; exact q
theorem Rel.putG {L : List HObj} (R : Rel K mg P L H) {n : Nat} {a : Addr} {u : HO} {o : HObj} {ho : HO} (ha : P.A[n]? = some a) (h : H a = some u) (n1 : ∀ xs, u ≠ .tup xs) (n2 : ∀ o w, u ≠ .frz o w) (r : RO K mg P (upd H a ho) o ho) : Rel K mg P (L.set n o) (upd H a ho) := by
  refine ⟨by simpa using R.len, R.nd, fun m u b h1 h2 => ?_, fun b z => ?_, R.dj, fun b y => let ⟨vs, q⟩ := R.yl b y; ⟨vs, by rw [upd_ne (R.neZ ha (.inr y))]; exact q⟩⟩
  · by_cases hm : n = m
    · subst hm
      have hl : n < L.length := by rw [← R.len]; exact (List.getElem?_eq_some_iff.mp ha).1
      rw [List.getElem?_set_self hl] at h1
      have eo : o = u := by simpa using h1
      have ea : a = b := by rw [ha] at h2; simpa using h2
      subst eo ea
      exact ⟨ho, upd_same, r⟩
    · rw [List.getElem?_set_ne hm] at h1
      obtain ⟨hu, q, ru⟩ := R.obj m u b h1 h2
      have hb : b ≠ a := fun e => hm (by
        subst e
        obtain ⟨l1, e1⟩ := List.getElem?_eq_some_iff.mp ha
        obtain ⟨l2, e2⟩ := List.getElem?_eq_some_iff.mp h2
        exact (List.getElem_inj R.nd).mp (e1.trans e2.symm))
      exact ⟨hu, by rw [upd_ne hb]; exact q, ru.mono (Ext.putG R ha h n1 n2)⟩
  · obtain ⟨⟨u, q⟩, nb⟩ := R.fzK b z
    exact ⟨⟨u, by rw [upd_ne (R.neZ ha z)]; exact q⟩, nb⟩
theorem Ext.put {L : List HObj} (R : Rel K mg P L H) {n : Nat} {a : Addr} {xs : List V} {o : HO} (ha : P.A[n]? = some a) (h : H a = some (.lst xs)) : Ext P H P (upd H a o) := Ext.putG R ha h (fun _ z => nomatch z) (fun _ _ z => nomatch z)
theorem Rel.put {L : List HObj} (R : Rel K mg P L H) {n : Nat} {a : Addr} {xs : List V} {o : HObj} {ho : HO} (ha : P.A[n]? = some a) (h : H a = some (.lst xs)) (r : RO K mg P (upd H a ho) o ho) : Rel K mg P (L.set n o) (upd H a ho) := Rel.putG R ha h (fun _ z => nomatch z) (fun _ _ z => nomatch z) r
/-! ### forgetting logical objects; holding things -/
/-- one object is held as it is -/
def Pl.hold (P : Pl) (a : Addr) : Pl := ⟨P.A, fun b => P.Z b ∨ b = a, P.Y⟩
theorem Pl.holdK {P : Pl} {a b : Addr} (z : (P.hold a).Kp b) : P.Kp b ∨ b = a := by
  rcases z with (z | z) | z
  · exact .inl (.inl z)
  · exact .inr z
  · exact .inl (.inr z)
theorem Ext.hold' {a : Addr} : Ext P H (P.hold a) H := ⟨⟨[], by simp [Pl.hold]⟩, fun _ _ h => h, fun _ _ _ h => h, fun _ h => .inl h, fun _ h => h, fun _ _ _ h => h⟩
theorem Rel.hold {L : List HObj} (R : Rel K mg P L H) {a : Addr} {o : HO} (h : H a = some o) (na : a ∉ P.A) (ny : ¬ P.Y a) : Rel K mg (P.hold a) L H := by
  refine ⟨R.len, R.nd, fun n u b h1 h2 => ?_, fun b z => ?_, fun b y z => z.elim (R.dj b y) fun e => ny (by rw [← e]; exact y), R.yl⟩
  · obtain ⟨ho, q, r⟩ := R.obj n u b h1 h2
    exact ⟨ho, q, r.mono Ext.hold'⟩
  · rcases Pl.holdK z with z | rfl
    · exact R.fzK b z
    · exact ⟨⟨o, h⟩, na⟩
/-- one object is kept as it is, no value names it -/
def Pl.hide (P : Pl) (a : Addr) : Pl := ⟨P.A, P.Z, fun b => P.Y b ∨ b = a⟩
theorem Ext.hide' {a : Addr} : Ext P H (P.hide a) H := ⟨⟨[], by simp [Pl.hide]⟩, fun _ _ h => h, fun _ _ _ h => h, fun _ h => h, fun _ h => .inl h, fun _ _ _ h => h⟩
theorem Rel.hide {L : List HObj} (R : Rel K mg P L H) {a : Addr} {vs : List V} (h : H a = some (.lst vs)) (na : a ∉ P.A) (nz : ¬ P.Z a) : Rel K mg (P.hide a) L H := by
  refine ⟨R.len, R.nd, fun n u b h1 h2 => ?_, fun b z => ?_, fun b y z => y.elim (fun y => R.dj b y z) fun e => nz (by rw [← e]; exact z), fun b y => y.elim (R.yl b) fun e => ⟨vs, by rw [e]; exact h⟩⟩
  · obtain ⟨ho, q, r⟩ := R.obj n u b h1 h2
    exact ⟨ho, q, r.mono Ext.hide'⟩
  · rcases z with z | z | rfl
    · exact R.fzK b (.inl z)
    · exact R.fzK b (.inr z)
    · exact ⟨⟨_, h⟩, na⟩
end
end MP

/-! MP 2: what is forgotten at a statement's and a call's end. -/
namespace MP
open PySem PySem.Spec PyProof.Rows L2

mutual
/-- the value names no logical object from n on -/
def PV.under (n : Nat) : PV → Bool
  | .tup xs => unders n xs
  | .ref m => decide (m < n)
  | .obj _ _ vs => unders n vs
  | .frl xs => unders n xs
  | _ => true
def unders (n : Nat) : List PV → Bool
  | [] => true
  | x :: xs => x.under n && unders n xs
end
def HObj.under (n : Nat) : HObj → Bool
  | .lst xs => unders n xs
  | .frl xs => unders n xs
  | .ins _ _ vs => unders n vs

section
variable {K : PySem.W.Frag} {mg : Str → Option Value} {P P' P'' : Pl} {H H' H'' : Hp}
mutual
theorem RV.under : ∀ (x : PV) (v : V), RV K mg P H x v → x.under P.A.length = true
  | .non, _, _ => rfl
  | .bl _, _, _ => rfl
  | .int _, _, _ => rfl
  | .str _, _, _ => rfl
  | .tup xs, _, h => by
    obtain ⟨a, vs, h1, h2, h3⟩ := h
    exact RVs.unders xs vs h3
  | .ref n, _, h => by
    obtain ⟨a, h1, h2⟩ := h
    exact decide_eq_true (List.getElem?_eq_some_iff.mp h2).1
  | .cls _, _, _ => rfl
  | .typ _, _, _ => rfl
  | .obj c ns us, _, h => by
    obtain ⟨a, C, dx, fs, h1, h2, h3, h4, vs, h5, h6, h7⟩ := h
    exact RVs.unders us vs h7
  | .exn, _, _ => rfl
  | .frl xs, _, h => by
    obtain ⟨a, vs, h1, h2, h3⟩ := h
    exact RVs.unders xs vs h3
  | .rng _ _, _, _ => rfl
theorem RVs.unders : ∀ (xs : List PV) (vs : List V), RVs K mg P H xs vs → unders P.A.length xs = true
  | [], _, _ => rfl
  | x :: xs, _, h => by
    obtain ⟨v, r, h1, h2, h3⟩ := h
    show (x.under _ && MP.unders _ xs) = true
    rw [RV.under x v h2, RVs.unders xs r h3]
    rfl
end
/-- A cut off behind the first n, things put behind -/
def Pl.cut (P : Pl) (n : Nat) (t : List Addr) : Pl := ⟨P.A.take n ++ t, P.Z, P.Y⟩
mutual
theorem RV.cut {n : Nat} {t : List Addr} : ∀ (x : PV) (v : V), RV K mg P H x v → x.under n = true → RV K mg (P.cut n t) H x v
  | .non, _, h, _ => h
  | .bl _, _, h, _ => h
  | .int _, _, h, _ => h
  | .str _, _, h, _ => h
  | .tup xs, _, h, b => by
    obtain ⟨a, vs, h1, h2, h3⟩ := h
    exact ⟨a, vs, h1, h2, RVs.cut xs vs h3 b⟩
  | .ref m, _, h, b => by
    obtain ⟨a, h1, h2⟩ := h
    have hm : m < n := of_decide_eq_true b
    refine ⟨a, h1, ?_⟩
    show (P.A.take n ++ t)[m]? = some a
    have hl := (List.getElem?_eq_some_iff.mp h2).1
    rw [List.getElem?_append_left (by rw [List.length_take]; omega), List.getElem?_take_of_lt hm]
    exact h2
  | .cls _, _, h, _ => h
  | .typ _, _, h, _ => h
  | .obj c ns us, _, h, b => by
    obtain ⟨a, C, dx, fs, h1, h2, h3, h4, vs, h5, h6, h7⟩ := h
    exact ⟨a, C, dx, fs, h1, h2, h3, h4, vs, h5, h6, RVs.cut us vs h7 b⟩
  | .exn, _, h, _ => h
  | .frl xs, _, h, b => by
    obtain ⟨a, vs, h1, h2, h3⟩ := h
    exact ⟨a, vs, h1, h2, RVs.cut xs vs h3 b⟩
  | .rng _ _, _, h, _ => h
theorem RVs.cut {n : Nat} {t : List Addr} : ∀ (xs : List PV) (vs : List V), RVs K mg P H xs vs → unders n xs = true → RVs K mg (P.cut n t) H xs vs
  | [], _, h, _ => h
  | x :: xs, _, h, b => by
    obtain ⟨v, r, h1, h2, h3⟩ := h
    have b' : (x.under n && MP.unders n xs) = true := b
    rw [Bool.and_eq_true] at b'
    exact ⟨v, r, h1, RV.cut x v h2 b'.1, RVs.cut xs r h3 b'.2⟩
end
theorem RO.under {o : HObj} {ho : HO} (h : RO K mg P H o ho) : o.under P.A.length = true := by
  cases o with
  | lst xs =>
    obtain ⟨vs, _, h2⟩ := h
    exact RVs.unders xs vs h2
  | frl xs =>
    obtain ⟨_, vs, _, h2⟩ := h
    exact RVs.unders xs vs h2
  | ins c ns us =>
    obtain ⟨C, dx, vs, h1, h2, h3, h4⟩ := h
    exact RVs.unders us vs h4
theorem RO.cut {n : Nat} {t : List Addr} {o : HObj} {ho : HO} (h : RO K mg P H o ho) (b : o.under n = true) : RO K mg (P.cut n t) H o ho := by
  cases o with
  | lst xs =>
    obtain ⟨vs, h1, h2⟩ := h
    exact ⟨vs, h1, RVs.cut xs vs h2 b⟩
  | frl xs =>
    obtain ⟨o, vs, h1, h2⟩ := h
    exact ⟨o, vs, h1, RVs.cut xs vs h2 b⟩
  | ins c ns us =>
    obtain ⟨C, dx, vs, h1, h2, h3, h4⟩ := h
    exact ⟨C, dx, vs, h1, h2, h3, RVs.cut us vs h4 b⟩

/-- what stood stands, or names nothing new -/
def okOld (L0 L' : List HObj) : Prop := L0.length ≤ L'.length ∧ ∀ i, i < L0.length → L'[i]? = L0[i]? ∨ ∃ o, L'[i]? = some o ∧ o.under L0.length = true
open Classical in
noncomputable def gc (L0 : List HObj) (v : PV) (L' : List HObj) : PV × List HObj :=
  if okOld L0 L' then
    if v.under L0.length = true then (v, L'.take L0.length)
    else match v with
      | .ref m => (match L'[m]? with
        | some o => if o.under L0.length = true then (.ref L0.length, L'.take L0.length ++ [o]) else (v, L')
        | none => (v, L'))
      | _ => (v, L')
  else (v, L')

open Classical in
/-- as gc; a new list, a new instance that is handed on changes no more -/
noncomputable def fz (L0 : List HObj) (v : PV) (L' : List HObj) : PV × List HObj :=
  if okOld L0 L' then
    if v.under L0.length = true then (v, L'.take L0.length)
    else match v with
      | .ref m => (match L'[m]? with
        | some (.lst xs) => if unders L0.length xs = true then (.frl xs, L'.take L0.length) else (v, L')
        | some (.ins c ns us) => if unders L0.length us = true then (.obj c ns us, L'.take L0.length) else (v, L')
        | _ => (v, L'))
      | _ => (v, L')
  else (v, L')

theorem okOld.unders {L0 L' : List HObj} (R0 : Rel K mg P L0 H) (ok : okOld L0 L') {i : Nat} {o : HObj} (hi : i < L0.length) (h : L'[i]? = some o) : o.under L0.length = true := by
  rcases ok.2 i hi with e | ⟨o', e, b⟩
  · rw [e] at h
    have hA : i < P.A.length := by rw [R0.len]; exact hi
    obtain ⟨ho, _, r⟩ := R0.obj i o P.A[i] h (List.getElem?_eq_getElem hA)
    rw [← R0.len]
    exact r.under
  · rw [h] at e
    rw [Option.some.inj e]
    exact b
theorem Ext.cutL {L0 L' : List HObj} (R0 : Rel K mg P L0 H) (e : Ext P H P' H') (t : List Addr) : Ext P H (P'.cut L0.length t) H' := by
  obtain ⟨u, q⟩ := e.A
  refine ⟨⟨t, ?_⟩, e.tup, e.frz, e.Z, e.Y, e.holdK⟩
  show P'.A.take L0.length ++ t = P.A ++ t
  rw [q, ← R0.len, List.take_left]
theorem Rel.cutL {L0 L' : List HObj} (R0 : Rel K mg P L0 H) (R' : Rel K mg P' L' H') (ok : okOld L0 L') : Rel K mg (P'.cut L0.length []) (L'.take L0.length) H' := by
  have lA : P'.A.length = L'.length := R'.len
  refine ⟨?_, ?_, fun n o a h1 h2 => ?_, fun a z => ?_, R'.dj, R'.yl⟩
  · show (P'.A.take _ ++ []).length = _
    simp [List.length_take, lA]
  · show (P'.A.take _ ++ []).Nodup
    rw [List.append_nil]
    exact R'.nd.sublist (List.take_sublist _ _)
  · have hn : n < L0.length := by
      have := (List.getElem?_eq_some_iff.mp h1).1
      rw [List.length_take] at this; omega
    rw [List.getElem?_take_of_lt hn] at h1
    have h2' : (P'.A.take L0.length ++ [])[n]? = some a := h2
    rw [List.append_nil, List.getElem?_take_of_lt hn] at h2'
    obtain ⟨ho, q, r⟩ := R'.obj n o a h1 h2'
    exact ⟨ho, q, r.cut (ok.unders R0 hn h1)⟩
  · obtain ⟨q, na⟩ := R'.fzK a z
    refine ⟨q, ?_⟩
    show a ∉ P'.A.take _ ++ []
    rw [List.append_nil]
    exact fun m => na (List.mem_of_mem_take m)
/-- one logical object kept behind what stood -/
theorem Rel.cut1 {L0 L' : List HObj} (R0 : Rel K mg P L0 H) (R' : Rel K mg P' L' H') (ok : okOld L0 L') {m : Nat} {o : HObj} {a : Addr} (hm : L0.length ≤ m) (h1 : L'[m]? = some o) (h2 : P'.A[m]? = some a) (b : o.under L0.length = true) :
    Rel K mg (P'.cut L0.length [a]) (L'.take L0.length ++ [o]) H' := by
  have R1 := Rel.cutL R0 R' ok
  have lA : P'.A.length = L'.length := R'.len
  have lt : (L'.take L0.length).length = L0.length := by rw [List.length_take]; have := ok.1; omega
  have lt2 : (P'.A.take L0.length).length = L0.length := by rw [List.length_take, lA]; have := ok.1; omega
  have na : a ∉ P'.A.take L0.length := fun hm2 => by
    obtain ⟨k, hk⟩ := List.getElem?_of_mem hm2
    have hk1 : k < L0.length := by have := (List.getElem?_eq_some_iff.mp hk).1; omega
    rw [List.getElem?_take_of_lt hk1] at hk
    obtain ⟨l1, e1⟩ := List.getElem?_eq_some_iff.mp hk
    obtain ⟨l2, e2⟩ := List.getElem?_eq_some_iff.mp h2
    have := (List.getElem_inj R'.nd).mp (e1.trans e2.symm)
    omega
  refine ⟨?_, ?_, fun n u c h3 h4 => ?_, fun c z => ?_, R'.dj, R'.yl⟩
  · show (P'.A.take _ ++ [a]).length = _
    simp [lt, lt2]
  · show (P'.A.take _ ++ [a]).Nodup
    rw [List.nodup_append]
    exact ⟨R'.nd.sublist (List.take_sublist _ _), by simp, fun x hx y hy => by rw [List.mem_singleton.mp hy]; intro e; exact na (e ▸ hx)⟩
  · have h4' : (P'.A.take L0.length ++ [a])[n]? = some c := h4
    by_cases hn : n < L0.length
    · rw [List.getElem?_append_left (by omega), List.getElem?_take_of_lt hn] at h3
      rw [List.getElem?_append_left (by omega), List.getElem?_take_of_lt hn] at h4'
      obtain ⟨ho, q, r⟩ := R'.obj n u c h3 h4'
      exact ⟨ho, q, r.cut (ok.unders R0 hn h3)⟩
    · have e : n = L0.length := by
        have := (List.getElem?_eq_some_iff.mp h3).1
        simp [lt] at this; omega
      have eu : o = u := by
        rw [e, ← lt] at h3
        simpa using h3
      have ec : a = c := by
        rw [e, ← lt2] at h4'
        simpa using h4'
      subst eu ec
      obtain ⟨ho, q, r⟩ := R'.obj m o a h1 h2
      exact ⟨ho, q, r.cut b⟩
  · obtain ⟨q, nc⟩ := R'.fzK c z
    refine ⟨q, ?_⟩
    show c ∉ P'.A.take _ ++ [a]
    simp only [List.mem_append, List.mem_singleton, not_or]
    exact ⟨fun m => nc (List.mem_of_mem_take m), fun e => nc (by rw [e]; exact List.mem_of_getElem? h2)⟩

theorem gc_sound2 {L0 L' : List HObj} {v : PV} {w : V} (R0 : Rel K mg P L0 H) (e : Ext P H P' H') (R' : Rel K mg P' L' H') (r : RV K mg P' H' v w) :
    ∃ P2, Ext P H P2 H' ∧ Rel K mg P2 (gc L0 v L').2 H' ∧ RV K mg P2 H' (gc L0 v L').1 w ∧ ∀ b, b ∈ P2.A → b ∈ P'.A := by
  have same : ∃ P2, Ext P H P2 H' ∧ Rel K mg P2 (v, L').2 H' ∧ RV K mg P2 H' (v, L').1 w ∧ ∀ b, b ∈ P2.A → b ∈ P'.A := ⟨P', e, R', r, fun _ h => h⟩
  unfold gc
  split
  · rename_i ok
    split
    · rename_i b
      refine ⟨_, Ext.cutL (L' := L') R0 e [], Rel.cutL R0 R' ok, RV.cut v w r b, fun x hx => ?_⟩
      have hx' : x ∈ P'.A.take L0.length ++ [] := hx
      rw [List.append_nil] at hx'
      exact List.mem_of_mem_take hx'
    · rename_i nb
      split
      · rename_i m
        split
        · rename_i o ho
          split
          · rename_i b
            obtain ⟨a, hw, ha⟩ := r
            have hm : L0.length ≤ m := by
              have : ¬ m < L0.length := fun h => nb (decide_eq_true h)
              omega
            refine ⟨_, Ext.cutL (L' := L') R0 e [a], Rel.cut1 R0 R' ok hm ho ha b, ⟨a, hw, ?_⟩, fun x hx => ?_⟩
            · show (P'.A.take L0.length ++ [a])[L0.length]? = some a
              have lt2 : (P'.A.take L0.length).length = L0.length := by rw [List.length_take, R'.len]; have := ok.1; omega
              rw [List.getElem?_append_right (by omega), lt2]
              simp
            · have hx' : x ∈ P'.A.take L0.length ++ [a] := hx
              rcases List.mem_append.mp hx' with h1 | h1
              · exact List.mem_of_mem_take h1
              · have : x = a := by simpa using h1
                rw [this]
                exact List.mem_of_getElem? ha
          · exact ⟨P', e, R', r, fun _ h => h⟩
        · exact ⟨P', e, R', r, fun _ h => h⟩
      · exact same
  · exact same
theorem gc_sound {L0 L' : List HObj} {v : PV} {w : V} (R0 : Rel K mg P L0 H) (e : Ext P H P' H') (R' : Rel K mg P' L' H') (r : RV K mg P' H' v w) :
    ∃ P2, Ext P H P2 H' ∧ Rel K mg P2 (gc L0 v L').2 H' ∧ RV K mg P2 H' (gc L0 v L').1 w :=
  let ⟨P2, a, b, c, _⟩ := gc_sound2 R0 e R' r
  ⟨P2, a, b, c⟩
theorem fz_sound {L0 L' : List HObj} {v : PV} {w : V} (R0 : Rel K mg P L0 H) (e : Ext P H P' H') (R' : Rel K mg P' L' H') (r : RV K mg P' H' v w) :
    ∃ P2, Ext P H P2 H' ∧ Rel K mg P2 (fz L0 v L').2 H' ∧ RV K mg P2 H' (fz L0 v L').1 w ∧ ∀ b, b ∈ P2.A → b ∈ P'.A := by
  have same : ∃ P2, Ext P H P2 H' ∧ Rel K mg P2 (v, L').2 H' ∧ RV K mg P2 H' (v, L').1 w ∧ ∀ b, b ∈ P2.A → b ∈ P'.A := ⟨P', e, R', r, fun _ h => h⟩
  have sub : ∀ {x : Addr}, x ∈ (P'.cut L0.length []).A → x ∈ P'.A := fun {x} hx => by
    have hx' : x ∈ P'.A.take L0.length ++ [] := hx
    rw [List.append_nil] at hx'
    exact List.mem_of_mem_take hx'
  unfold fz
  split
  · rename_i ok
    have R1 := Rel.cutL R0 R' ok
    have e1 := Ext.cutL (L' := L') R0 e []
    have notin : ∀ {m : Nat} {a : Addr}, L0.length ≤ m → P'.A[m]? = some a → a ∉ (P'.cut L0.length []).A := fun {m a} hm ha hx => by
      have hx' : a ∈ P'.A.take L0.length ++ [] := hx
      rw [List.append_nil] at hx'
      obtain ⟨k, hk⟩ := List.getElem?_of_mem hx'
      have hk1 : k < L0.length := by have := (List.getElem?_eq_some_iff.mp hk).1; simp at this; omega
      rw [List.getElem?_take_of_lt hk1] at hk
      obtain ⟨l1, q1⟩ := List.getElem?_eq_some_iff.mp hk
      obtain ⟨l2, q2⟩ := List.getElem?_eq_some_iff.mp ha
      have := (List.getElem_inj R'.nd).mp (q1.trans q2.symm)
      omega
    have noty : ∀ {m : Nat} {a : Addr}, P'.A[m]? = some a → ¬ (P'.cut L0.length []).Y a := fun {m a} ha y => (R'.fzK a (.inr y)).2 (List.mem_of_getElem? ha)
    split
    · rename_i b
      exact ⟨_, e1, R1, RV.cut v w r b, fun x hx => sub hx⟩
    · rename_i nb
      split
      · rename_i m
        obtain ⟨a, hw, ha⟩ := id r
        have hm : L0.length ≤ m := by
          have : ¬ m < L0.length := fun h => nb (decide_eq_true h)
          omega
        split
        · rename_i xs ho
          split
          · rename_i b
            obtain ⟨hu, q, vs, q2, q3⟩ := R'.obj m _ a ho ha
            subst q2
            refine ⟨(P'.cut L0.length []).hold a, e1.trans Ext.hold', R1.hold q (notin hm ha) (noty ha), ⟨a, vs, hw, .inr ⟨.inr rfl, q⟩, (RVs.cut xs vs q3 b).mono Ext.hold'⟩, fun x hx => sub hx⟩
          · exact ⟨P', e, R', r, fun _ h => h⟩
        · rename_i c ns us ho
          split
          · rename_i b
            obtain ⟨hu, q, C, dx, vs, q2, q3, q4, q5⟩ := R'.obj m _ a ho ha
            subst q2
            refine ⟨(P'.cut L0.length []).hold a, e1.trans Ext.hold', R1.hold q (notin hm ha) (noty ha), ⟨a, C, dx, _, hw, .inr rfl, q4, q, vs, rfl, q3, (RVs.cut us vs q5 b).mono Ext.hold'⟩, fun x hx => sub hx⟩
          · exact ⟨P', e, R', r, fun _ h => h⟩
        · exact ⟨P', e, R', r, fun _ h => h⟩
      · exact same
  · exact same
end
end MP

/-! MP 3: the small language and what it means. -/
namespace MP
open PySem PySem.Spec PyProof.Rows L2

/-! ### outcomes -/
inductive Out (α : Type) where
  | ok (a : α) (L : List HObj)
  | exc (c : String) (f : Option (String × PV)) (L : List HObj)
  | stuck
abbrev M (α : Type) := List HObj → Out α
def ret {α : Type} (a : α) : M α := fun L => .ok a L
def bnd {α β : Type} (m : M α) (k : α → M β) : M β := fun L => match m L with
  | .ok a L' => k a L'
  | .exc c f L' => .exc c f L'
  | .stuck => .stuck
/-- no exception may come -/
def nox {α : Type} (m : M α) : M α := fun L => match m L with
  | .ok a L' => .ok a L'
  | _ => .stuck
inductive SOut where
  | next (ρ : Env') (L : List HObj)
  | ret (v : PV) (L : List HObj)
  | brk (ρ : Env') (L : List HObj)
  | cnt (ρ : Env') (L : List HObj)
  | exc (c : String) (f : Option (String × PV)) (ρ : Env') (L : List HObj)
  | stuck

/-! ### operators -/
inductive Bop where
  | add | sub | mul | fdiv | mod | pow
  deriving DecidableEq
inductive Cop where
  | eq | ne | lt | le | gt | ge | isin | notin | isn | isnotn
  deriving DecidableEq
def mulOk (i j : Int) : Prop := CMul i j ∨ CMulW i j
/-- the items of a list -/
def seqOf (L : List HObj) (n : Nat) : Option (List PV) := match L[n]? with
  | some (.lst xs) => some xs
  | some (.frl xs) => some xs
  | some (.ins _ _ _) => none
  | none => none
/-- the items of a list value -/
def seqL (L : List HObj) : PV → Option (List PV)
  | .ref n => seqOf L n
  | .frl xs => some xs
  | _ => none
def catP (L : List HObj) (a b : Option (List PV)) : Out PV := match a, b with
  | some xs, some ys => if xs.length + ys.length ≤ 16777216 then .ok (.ref L.length) (L ++ [.lst (xs ++ ys)]) else .stuck
  | _, _ => .stuck
open Classical in
noncomputable def binop : Bop → PV → PV → M PV
  | .add, .int i, .int j => ret (.int (i + j))
  | .add, .str a, .str b => fun L => if a.length + b.length ≤ 16777216 then .ok (.str (a ++ b)) L else .stuck
  | .add, .tup xs, .tup ys => fun L => if xs.length + ys.length ≤ 16777216 then .ok (.tup (xs ++ ys)) L else .stuck
  | .add, .ref m, .ref n => fun L => catP L (seqOf L m) (seqOf L n)
  | .add, .ref m, .frl ys => fun L => catP L (seqOf L m) (some ys)
  | .add, .frl xs, .ref n => fun L => catP L (some xs) (seqOf L n)
  | .add, .frl xs, .frl ys => fun L => catP L (some xs) (some ys)
  | .sub, .int i, .int j => ret (.int (i - j))
  | .mul, .int i, .int j => fun L => if mulOk i j then .ok (.int (i * j)) L else .stuck
  | .mul, .tup xs, .int k => fun L => if k ≤ 1000 ∧ xs.length ≤ 1000 ∧ 0 ≤ k then .ok (.tup (List.replicate k.toNat xs).flatten) L else .stuck
  | .fdiv, .int i, .int j => fun L => if CDivW i j then .ok (.int (i / j)) L else .stuck
  | .mod, .int i, .int j => fun L => if 0 < j then .ok (.int (i % j)) L else .stuck
  | .pow, .int i, .int j => fun L => if CPow i j then .ok (.int (i ^ j.toNat)) L else .stuck
  | _, _, _ => fun _ => .stuck

/-- == of flat values -/
def feq : PV → PV → Bool
  | .non, .non => true
  | .bl a, .bl b => a == b
  | .bl a, .int b => (if a then 1 else 0) == b
  | .int a, .bl b => a == (if b then 1 else 0)
  | .int a, .int b => a == b
  | .str a, .str b => a == b
  | _, _ => false
def PV.flat : PV → Bool
  | .non => true
  | .bl _ => true
  | .int _ => true
  | .str _ => true
  | _ => false
def peqs (f : PV → PV → Option Bool) : List PV → List PV → Option Bool
  | [], [] => some true
  | [], _ :: _ => some false
  | _ :: _, [] => some false
  | x :: xs, y :: ys => match f x y, peqs f xs ys with
    | some a, some b => some (a && b)
    | _, _ => none
def peq : Nat → PV → PV → Option Bool
  | _, .non, .non => some true
  | _, .non, .bl _ => some false
  | _, .non, .int _ => some false
  | _, .non, .str _ => some false
  | _, .bl _, .non => some false
  | _, .bl a, .bl b => some (a == b)
  | _, .bl _, .str _ => some false
  | _, .int _, .non => some false
  | _, .int a, .int b => some (a == b)
  | _, .int _, .str _ => some false
  | _, .str _, .non => some false
  | _, .str _, .bl _ => some false
  | _, .str _, .int _ => some false
  | _, .str a, .str b => some (a == b)
  | n + 1, .tup xs, .tup ys => peqs (peq n) xs ys
  | n + 1, .frl xs, .frl ys => peqs (peq n) xs ys
  | _, .tup _, .non => some false
  | _, .tup _, .bl _ => some false
  | _, .tup _, .int _ => some false
  | _, .tup _, .str _ => some false
  | _, .non, .tup _ => some false
  | _, .bl _, .tup _ => some false
  | _, .int _, .tup _ => some false
  | _, .str _, .tup _ => some false
  | _, _, _ => none
def cEq (x y : PV) : M Bool := fun L => match seqL L x, seqL L y with
  | some xs, some ys => (match peqs (peq 100) xs ys with
      | some b => .ok b L
      | none => .stuck)
  | _, _ => (match peq 100 x y with
    | some b => .ok b L
    | none => .stuck)
def cIn (x y : PV) : M Bool := fun L => match y with
  | .tup ys => if (x.flat && ys.all PV.flat) = true then .ok (ys.any fun z => feq z x) L else .stuck
  | .ref n => (match seqOf L n with
    | some ys => if (x.flat && ys.all PV.flat) = true then .ok (ys.any fun z => feq z x) L else .stuck
    | none => .stuck)
  | .frl ys => if (x.flat && ys.all PV.flat) = true then .ok (ys.any fun z => feq z x) L else .stuck
  | .str t => (match x with
    | .str z => .ok (!(Builtin.Str.occurrences t z 0 t.length 1).isEmpty) L
    | _ => .stuck)
  | _ => .stuck
def notM (m : M Bool) : M Bool := fun L => match m L with
  | .ok b L' => .ok (!b) L'
  | .exc c f L' => .exc c f L'
  | .stuck => .stuck
def cOrd (f : Int → Int → Bool) (x y : PV) : M Bool := fun L => match x, y with
  | .int i, .int j => .ok (f i j) L
  | _, _ => .stuck
def PV.isNon : PV → Bool
  | .non => true
  | _ => false
def cIsN (x y : PV) : M Bool := fun L => match y with
  | .non => .ok x.isNon L
  | _ => .stuck
def cmpop : Cop → PV → PV → M Bool
  | .eq, x, y => cEq x y
  | .ne, x, y => notM (cEq x y)
  | .lt, x, y => cOrd (fun i j => decide (i < j)) x y
  | .le, x, y => cOrd (fun i j => decide (i ≤ j)) x y
  | .gt, x, y => cOrd (fun i j => decide (j < i)) x y
  | .ge, x, y => cOrd (fun i j => decide (j ≤ i)) x y
  | .isin, x, y => cIn x y
  | .notin, x, y => notM (cIn x y)
  | .isn, x, y => cIsN x y
  | .isnotn, x, y => notM (cIsN x y)
/-- truth -/
def truth (x : PV) : M Bool := fun L => match x with
  | .bl b => .ok b L
  | .non => .ok false L
  | .int i => .ok (i != 0) L
  | .str s => if s.length ≤ 16777216 then .ok ((s.length : Int) != 0) L else .stuck
  | .tup xs => .ok (!xs.isEmpty) L
  | .frl xs => .ok (!xs.isEmpty) L
  | .ref n => (match seqOf L n with
    | some xs => .ok (!xs.isEmpty) L
    | none => .stuck)
  | _ => .stuck

/-! ### built-in functions and methods -/
inductive Blt where
  | len | int | str | tuple | list | max | min | sum | sorted | any | all
  deriving DecidableEq
def Blt.name : Blt → String
  | .len => "len" | .int => "int" | .str => "str" | .tuple => "tuple" | .list => "list" | .max => "max" | .min => "min" | .sum => "sum" | .sorted => "sorted" | .any => "any" | .all => "all"
def asInts : List PV → Option (List Int)
  | [] => some []
  | .int i :: xs => (asInts xs).map (i :: ·)
  | _ :: _ => none
def asBls : List PV → Option (List Bool)
  | [] => some []
  | .bl i :: xs => (asBls xs).map (i :: ·)
  | _ :: _ => none
def maxL : List Int → Int
  | [] => 0
  | [x] => x
  | x :: xs => let m := maxL xs; if x < m then m else x
def minL : List Int → Int
  | [] => 0
  | [x] => x
  | x :: xs => let m := minL xs; if m < x then m else x
def insI (x : Int) : List Int → List Int
  | [] => [x]
  | y :: ys => if x ≤ y then x :: y :: ys else y :: insI x ys
def sortI : List Int → List Int
  | [] => []
  | x :: xs => insI x (sortI xs)
open Classical in
noncomputable def bltin : Blt → List PV → M PV
  | .len, [.tup xs] => ret (.int xs.length)
  | .len, [.str s] => fun L => if s.length ≤ 16777216 then .ok (.int s.length) L else .stuck
  | .len, [.ref n] => fun L => (match seqOf L n with
    | some xs => .ok (.int xs.length) L
    | none => .stuck)
  | .len, [.frl xs] => ret (.int xs.length)
  | .int, [.int i] => ret (.int i)
  | .int, [.bl b] => ret (.int (if b then 1 else 0))
  | .int, [.str s] => fun L => (match PySem.intText? s with
    | some n => if s.length ≤ 640 then .ok (.int n) L else .stuck
    | none => .stuck)
  | .str, [.int i] => fun L => if i.natAbs.log2 < 1920 then .ok (.str (toString i)) L else .stuck
  | .str, [.str s] => ret (.str s)
  | .tuple, [.tup xs] => ret (.tup xs)
  | .tuple, [.ref n] => fun L => (match seqOf L n with
    | some xs => .ok (.tup xs) L
    | none => .stuck)
  | .tuple, [.frl xs] => ret (.tup xs)
  | .list, [.tup xs] => fun L => .ok (.ref L.length) (L ++ [.lst xs])
  | .list, [.frl xs] => fun L => .ok (.ref L.length) (L ++ [.lst xs])
  | .list, [.ref n] => fun L => (match seqOf L n with
    | some xs => .ok (.ref L.length) (L ++ [.lst xs])
    | none => .stuck)
  | .list, [.str s] => fun L => if s.length ≤ 16777216 then .ok (.ref L.length) (L ++ [.lst (s.cps.toList.map fun c => .str ⟨#[c]⟩)]) else .stuck
  | .max, [.int i, .int j] => ret (.int (if j > i then j else i))
  | .min, [.int i, .int j] => ret (.int (if j < i then j else i))
  | .max, [.tup ys] => fun L => (match asInts ys with
    | some (x :: xs) => .ok (.int (maxL (x :: xs))) L
    | _ => .stuck)
  | .max, [v] => fun L => (match (seqL L v).bind asInts with
    | some (x :: xs) => .ok (.int (maxL (x :: xs))) L
    | _ => .stuck)
  | .min, [v] => fun L => (match (seqL L v).bind asInts with
    | some (x :: xs) => .ok (.int (minL (x :: xs))) L
    | _ => .stuck)
  | .sum, [v] => fun L => (match (seqL L v).bind asInts with
    | some xs => .ok (.int xs.sum) L
    | _ => .stuck)
  | .sorted, [v] => fun L => (match (seqL L v).bind asInts with
    | some xs => if xs.length < 64 then .ok (.ref L.length) (L ++ [.lst ((sortI xs).map PV.int)]) else .stuck
    | _ => .stuck)
  | .any, [v] => fun L => (match (seqL L v).bind asBls with
    | some xs => .ok (.bl (xs.any id)) L
    | _ => .stuck)
  | .all, [v] => fun L => (match (seqL L v).bind asBls with
    | some xs => .ok (.bl (xs.all id)) L
    | _ => .stuck)
  | _, _ => fun _ => .stuck
inductive Mth where
  | append | pop | extend | reverse | index | count | join
  deriving DecidableEq
def Mth.name : Mth → String
  | .append => "append" | .pop => "pop" | .extend => "extend" | .reverse => "reverse" | .index => "index" | .count => "count" | .join => "join"
/-- the first place -/
def idxOf (x : PV) : List PV → Option Nat
  | [] => none
  | y :: ys => if feq y x = true then some 0 else (idxOf x ys).map (· + 1)
def asStrs : List PV → Option (List Str)
  | [] => some []
  | .str i :: xs => (asStrs xs).map (i :: ·)
  | _ :: _ => none
/-- the items of a list or a tuple -/
def itemsOf (L : List HObj) : PV → Option (List PV)
  | .tup xs => some xs
  | .ref n => seqOf L n
  | .frl xs => some xs
  | _ => none
def meth : Mth → PV → List PV → M PV
  | .append, .ref n, [y] => fun L => (match L[n]? with
    | some (.lst xs) => if xs.length < 16777216 then .ok .non (L.set n (.lst (xs ++ [y]))) else .stuck
    | _ => .stuck)
  | .pop, .ref n, [] => fun L => (match L[n]? with
    | some (.lst xs) => (match xs.getLast? with
      | some y => .ok y (L.set n (.lst xs.dropLast))
      | none => .stuck)
    | _ => .stuck)
  | .pop, .ref n, [.int i] => fun L => (match L[n]? with
    | some (.lst xs) => (match ixN xs.length i with
      | some k => (match xs[k]? with
        | some y => if -(2 ^ 63) ≤ i ∧ i < 2 ^ 63 then .ok y (L.set n (.lst (xs.eraseIdx k))) else .stuck
        | none => .stuck)
      | none => .stuck)
    | _ => .stuck)
  | .extend, .ref n, [.ref m] => fun L => (match L[n]?, L[m]? with
    | some (.lst xs), some (.lst ys) => if xs.length + ys.length ≤ 16777216 then .ok .non (L.set n (.lst (xs ++ ys))) else .stuck
    | _, _ => .stuck)
  | .reverse, .ref n, [] => fun L => (match L[n]? with
    | some (.lst xs) => .ok .non (L.set n (.lst xs.reverse))
    | _ => .stuck)
  | .index, x, [y] => fun L => (match itemsOf L x with
    | some xs => if (y.flat && xs.all PV.flat) = true then (match idxOf y xs with
      | some j => .ok (.int j) L
      | none => .stuck) else .stuck
    | none => .stuck)
  | .count, x, [y] => fun L => (match itemsOf L x with
    | some xs => if (y.flat && xs.all PV.flat) = true then .ok (.int (xs.countP fun z => feq z y)) L else .stuck
    | none => .stuck)
  | .join, .str z, [y] => fun L => (match (itemsOf L y).bind asStrs with
    | some xs => if (xs.map (·.length)).sum + xs.length * z.length ≤ 16777216 then .ok (.str (Txt.join z xs)) L else .stuck
    | none => .stuck)
  | _, _, _ => fun _ => .stuck
/-- may this receiver have the method -/
def recvOk : Mth → PV → List HObj → Bool
  | .join, .str _, _ => true
  | .join, _, _ => false
  | .index, .tup _, _ => true
  | .count, .tup _, _ => true
  | .index, .frl _, _ => true
  | .count, .frl _, _ => true
  | _, .ref n, L => (seqOf L n).isSome
  | _, _, _ => false
/-- x[i] -/
def item (x y : PV) : M PV := fun L => match x, y with
  | .tup xs, .int i => (match atI xs i with
    | some v => .ok v L
    | none => .stuck)
  | .ref n, .int i => (match (seqOf L n).bind fun xs => atI xs i with
    | some v => .ok v L
    | none => .stuck)
  | .frl xs, .int i => (match atI xs i with
    | some v => .ok v L
    | none => .stuck)
  | .str s, .int i => if s.length ≤ 16777216 then (match atI s.cps.toList i with
    | some c => .ok (.str ⟨#[c]⟩) L
    | none => .stuck) else .stuck
  | _, _ => .stuck
def cutP (xs : List PV) (lo hi : Option Int) : List PV := (xs.drop (HT.sIx xs.length 0 lo)).take (HT.sIx xs.length xs.length hi - HT.sIx xs.length 0 lo)
/-- x[lo:hi] -/
def sliceP (x : PV) (l h : Option Int) : M PV := fun L => match x with
  | .tup xs => .ok (.tup (cutP xs l h)) L
  | .ref n => (match seqOf L n with
    | some xs => .ok (.ref L.length) (L ++ [.lst (cutP xs l h)])
    | none => .stuck)
  | .frl xs => .ok (.ref L.length) (L ++ [.lst (cutP xs l h)])
  | .str z => if z.length ≤ 16777216 then .ok (.str (cutS z l h)) L else .stuck
  | _ => .stuck
/-- t[::-1] -/
def revP (x : PV) : M PV := fun L => match x with
  | .tup xs => .ok (.tup xs.reverse) L
  | _ => .stuck
/-- sorted, each number once -/
def insU (x : Int) : List Int → List Int
  | [] => [x]
  | y :: ys => if x < y then x :: y :: ys else if x = y then y :: ys else y :: insU x ys
def sortU : List Int → List Int
  | [] => []
  | x :: xs => insU x (sortU xs)
/-- sorted(set(t)) -/
def sstP (x : PV) : M PV := fun L => match x with
  | .tup ys => (match asInts ys with
    | some ns => if ns.length < 64 then .ok (.ref L.length) (L ++ [.lst ((sortU ns).map PV.int)]) else .stuck
    | none => .stuck)
  | _ => .stuck
/-- o[i] = v -/
def setItem' (o i v : PV) : M Unit := fun L => match o, i with
  | .ref n, .int k => (match L[n]? with
    | some (.lst xs) => (match ixN xs.length k with
      | some j => .ok () (L.set n (.lst (xs.set j v)))
      | none => .stuck)
    | _ => .stuck)
  | _, _ => .stuck
/-- what isinstance asks -/
inductive ITy where
  | int | str | tuple | list | bool
  deriving DecidableEq
def ITy.name : ITy → String
  | .int => "int" | .str => "str" | .tuple => "tuple" | .list => "list" | .bool => "bool"
def isTy (t : ITy) (x : PV) : M PV := fun L => match x with
  | .non => .ok (.bl false) L
  | .bl _ => .ok (.bl (t == .bool || t == .int)) L
  | .int _ => .ok (.bl (t == .int)) L
  | .str _ => .ok (.bl (t == .str)) L
  | .tup _ => .ok (.bl (t == .tuple)) L
  | .ref n => (match L[n]? with
    | some (.lst _) => .ok (.bl (t == .list)) L
    | _ => .stuck)
  | .frl _ => .ok (.bl (t == .list)) L
  | _ => .stuck

/-! ### what is walked -/
inductive ItK where
  | val | range | zip | enum
  deriving DecidableEq
inductive Tg where
  | one (i : Nat)
  | many (is : List Nat)
def bindMany : List Nat → List PV → Env' → Option Env'
  | [], [], ρ => some ρ
  | i :: is, x :: xs, ρ => bindMany is xs (ρ.set i (some x))
  | _, _, _ => none
def bindT : Tg → PV → Env' → Option Env'
  | .one i, x, ρ => some (ρ.set i (some x))
  | .many is, .tup xs, ρ => bindMany is xs ρ
  | .many _, _, _ => none
/-- the items of a walk, the list that must stay as it is, the heap -/
structure Walk where
  items : List PV
  guard : Option (Nat × List PV)
  heap : List HObj
def rangeP (lo : Int) (n : Nat) : List PV := (List.range n).map fun (k : Nat) => PV.int (lo + (k : Int))
def rangeD (lo : Int) (n : Nat) : List PV := (List.range n).map fun (k : Nat) => PV.int (lo + (k : Int) * (-1))
def smallI (i : Int) : Bool := decide (-(2 ^ 62) ≤ i ∧ i < 2 ^ 62)
open Classical in
/-- one value, walked; L0 the heap ahead of its making -/
noncomputable def walkVal (L0 : List HObj) (v : PV) (L : List HObj) : Option Walk := match v with
  | .tup xs => some ⟨xs, none, (gc L0 (.tup xs) L).2⟩
  | .str z => some ⟨z.cps.toList.map fun c => .str ⟨#[c]⟩, none, (gc L0 .non L).2⟩
  | .frl xs => some ⟨xs, none, (gc L0 (.frl xs) L).2⟩
  | .rng lo hi => if (smallI lo && smallI hi) = true then some ⟨rangeP lo (hi - lo).toNat, none, (gc L0 (.rng lo hi) L).2⟩ else none
  | .ref n => (match (gc L0 (.ref n) L).1 with
    | .ref m => (match (gc L0 (.ref n) L).2[m]? with
      | some (.lst xs) => if m = L0.length ∧ okOld L0 (gc L0 (.ref n) L).2 ∧ unders L0.length xs = true then some ⟨xs, none, (gc L0 (.ref n) L).2.take L0.length⟩ else some ⟨xs, some (m, xs), (gc L0 (.ref n) L).2⟩
      | _ => none)
    | _ => none)
  | _ => none
noncomputable def walkOf (L0 : List HObj) : ItK → List PV → List HObj → Option Walk
  | .val, [v], L => walkVal L0 v L
  | .range, [.int j], L => if smallI j then some ⟨rangeP 0 j.toNat, none, (gc L0 .non L).2⟩ else none
  | .range, [.int i, .int j], L => if smallI i && smallI j then some ⟨rangeP i (j - i).toNat, none, (gc L0 .non L).2⟩ else none
  | .range, [.int i, .int j, .int c], L => if (smallI i && smallI j && decide (c = -1)) = true then some ⟨rangeD i (i - j).toNat, none, (gc L0 .non L).2⟩ else none
  | _, _, _ => none
def guardOk (g : Option (Nat × List PV)) (L : List HObj) : Prop := match g with
  | none => True
  | some (n, xs) => L[n]? = some (.lst xs)

/-! ### syntax -/
inductive Ex where
  | cst (v : PV)
  | var (i : Nat)
  | glb (x : String)
  | tup (es : List Ex)
  | lst (es : List Ex)
  | bin (o : Bop) (a b : Ex)
  | neg (a : Ex)
  | not (a : Ex)
  | cmp (o : Cop) (a b : Ex)
  | chain (o o' : Cop) (a b c : Ex)
  | and (a b : Ex)
  | or (a b : Ex)
  | ite (c a b : Ex)
  | call (f : String) (es : List Ex)
  | blt (b : Blt) (es : List Ex)
  | met (m : Mth) (o : Ex) (es : List Ex)
  | idx (a i : Ex)
  | slc (a : Ex) (lo hi : Option Ex)
  /-- t[::-1] of a tuple -/
  | rev (a : Ex)
  /-- sorted(set(t)), t a tuple of numbers -/
  | sst (a : Ex)
  | isi (a : Ex) (t : ITy)
  | lc (elt : Ex) (tg : Tg) (k : ItK) (es : List Ex) (conds : List Ex) (own : List Nat)
  | exf (f : String)
  | exi (c : String)
  /-- its new list (instance) changes no more -/
  | frz (e : Ex)
  /-- e.f -/
  | fld (e : Ex) (f : String)
  /-- C(..), its __init__ by the name key -/
  | new (key c : String) (es : List Ex)
  /-- o.m(..), the method of the class c, by the name key -/
  | mtc (key c m : String) (o : Ex) (es : List Ex)
  /-- f(.., k = e) -/
  | callk (f k : String) (es : List Ex) (e : Ex)
  /-- never reached -/
  | dead
  /-- an own class's operator or call, the method m of the class c by the name key -/
  | opm (key c m : String) (o : Ex) (es : List Ex)
  /-- e in D (e not in D), D a dict of the module -/
  | din (neg : Bool) (d : String) (e : Ex)
  /-- D[e] -/
  | dix (d : String) (e : Ex)
  /-- list(r), tuple(r), r a range: written here, a value -/
  | rgc (tup lit : Bool) (es : List Ex)
  /-- a range as a value -/
  | rgv (es : List Ex)
inductive Sx where
  | set (i : Nat) (e : Ex)
  | setT (is : List Nat) (e : Ex)
  | sub (o i e : Ex)
  | sfld (o : Ex) (f : String) (e : Ex)
  | aug (i : Nat) (o : Bop) (e : Ex)
  | expr (e : Ex)
  | ret (e : Ex)
  | retN
  | ite (c : Ex) (a b : List Sx)
  | for (tg : Tg) (k : ItK) (es : List Ex) (body : List Sx)
  | whl (c : Ex) (body : List Sx)
  | brk
  | cnt
  | pass
  | raise (c : String) (e : Option Ex)
  | try (body : List Sx) (c : String) (i : Nat) (hd : List Sx)
  /-- never reached -/
  | dead
  /-- for tg in f(es), f a generator def -/
  | forg (tg : Tg) (f : String) (es : List Ex) (body : List Sx)
/-- a generator def's statements -/
inductive GSx where
  | st (s : Sx)
  | yld (e : Ex)
  | forr (t : Tg) (a : Ex) (body : List GSx)
structure GFD where
  n : Nat
  sl : Nat
  body : List GSx
/-- a def: how many parameters, how many slots, the body -/
structure FD where
  n : Nat
  sl : Nat
  /-- what is handed on changes no more -/
  fz : Bool
  /-- the last parameter is one by keyword -/
  kw : Option String
  body : List Sx
/-- a program -/
structure Tab where
  fns : List (String × FD)
  csts : List (String × PV)
  /-- names of built-in things that no module hides -/
  free : List String
  /-- an exception class, the field that its __init__ fills -/
  excs : List (String × Option String)
  subs : List (String × String)
  /-- methods: the name, the class, the method's name -/
  mts : List (String × (String × String))
  /-- fields of own classes -/
  flds : List (Str × Str)
  /-- dicts of the module, text keys -/
  dcts : List (String × List (Str × PV))
  /-- generator defs -/
  gns : List (String × GFD) := []
def isLst : HObj → Bool
  | .lst _ => true
  | _ => false

/-! ### instances -/
def fieldIn (T : Tab) (f : Str) (c : Str) (ns : List Str) (vs : List PV) (L : List HObj) : Out PV := if T.flds.contains (c, f) = true then (match (ns.zip vs).lookup f with
  | some v => .ok v L
  | none => .stuck) else .stuck
def fieldOf (T : Tab) (f : Str) (x : PV) : M PV := fun L => match x with
  | .obj c ns vs => fieldIn T f c ns vs L
  | .ref n => (match L[n]? with
    | some (.ins c ns vs) => fieldIn T f c ns vs L
    | _ => .stuck)
  | _ => .stuck
/-- an instance of c, the name m not among its fields -/
def insOk (L : List HObj) (x : PV) (c m : Str) : Bool := match x with
  | .obj c' ns _ => decide (c' = c) && !ns.contains m
  | .ref n => (match L[n]? with
    | some (.ins c' ns _) => decide (c' = c) && !ns.contains m
    | _ => false)
  | _ => false
def rgP : Bool → List PV → M (Int × Int)
  | true, [.int j] => ret (0, j)
  | true, [.int i, .int j] => ret (i, j)
  | false, [.rng lo hi] => ret (lo, hi)
  | _, _ => fun _ => .stuck
def rgcP : Bool → Int × Int → M PV
  | true, r => fun L => if 0 ≤ r.1 ∧ r.1 ≤ 16777216 ∧ 0 ≤ r.2 ∧ r.2 ≤ 16777216 then .ok (.tup (rangeP r.1 (r.2 - r.1).toNat)) L else .stuck
  | false, r => fun L => if 0 ≤ r.1 ∧ r.1 ≤ 16777216 ∧ 0 ≤ r.2 ∧ r.2 ≤ 16777216 then .ok (.ref L.length) (L ++ [.lst (rangeP r.1 (r.2 - r.1).toNat)]) else .stuck
def dinP (T : Tab) (d : String) (neg : Bool) (x : PV) : M Bool := fun L => match T.dcts.lookup d, x with
  | some kvs, .str z => .ok ((kvs.lookup z).isSome != neg) L
  | _, _ => .stuck
def dixP (T : Tab) (d : String) (x : PV) : M PV := fun L => match T.dcts.lookup d, x with
  | some kvs, .str z => (match kvs.lookup z with
    | some v => .ok v L
    | none => .stuck)
  | _, _ => .stuck
def isNum : PV → Bool
  | .int _ => true
  | _ => false
def opOk (c m : String) (x : PV) (ys : List PV) (L : List HObj) : Bool := insOk L x (Str.ofString c) (Str.ofString m) && (match ys with
  | [] => true
  | [y] => decide (m = "__call__") || insOk L y (Str.ofString c) (Str.ofString m) || (decide (m = "__pow__") && isNum y)
  | _ => decide (m = "__call__"))
def opP (cl : String → List PV → M PV) (key c m : String) (x : PV) (ys : List PV) : M PV := fun L => if opOk c m x ys L = true then cl key (x :: ys) L else .stuck
def newP (cl : String → List PV → M PV) (key c : String) (xs : List PV) : M PV := fun L => match cl key (.ref L.length :: xs) (L ++ [.ins (Str.ofString c) [] []]) with
  | .ok .non L' => .ok (.ref L.length) L'
  | .exc c f L' => .exc c f L'
  | _ => .stuck
def putN (f : Str) (v : PV) : List Str → List PV → List Str × List PV
  | n :: ns, w :: vs => if n = f then (n :: ns, v :: vs) else (n :: (putN f v ns vs).1, w :: (putN f v ns vs).2)
  | _, _ => ([f], [v])
def setFld (T : Tab) (x : PV) (f : Str) (v : PV) : M Unit := fun L => match x with
  | .ref n => (match L[n]? with
    | some (.ins c ns vs) => if T.flds.contains (c, f) = true ∧ ns.length < 1000 ∧ ns.length = vs.length then .ok () (L.set n (.ins c (putN f v ns vs).1 (putN f v ns vs).2)) else .stuck
    | _ => .stuck)
  | _ => .stuck
/-! ### meaning -/
open Classical in
/-- a comprehension's turns -/
noncomputable def lcLoop (g : Option (Nat × List PV)) (tg : Tg) (cond : Env' → M Bool) (elt : Env' → M PV) (ρ : Env') : List PV → List PV → M (List PV)
  | [], acc => fun L => if guardOk g L then .ok acc L else .stuck
  | x :: xs, acc => fun L => if guardOk g L then (match bindT tg x ρ with
    | none => .stuck
    | some ρ1 => (match cond ρ1 L with
      | .ok true L1 => (match elt ρ1 L1 with
        | .ok v L2 => lcLoop g tg cond elt ρ xs (acc ++ [(gc L v L2).1]) (gc L v L2).2
        | _ => .stuck)
      | .ok false L1 => lcLoop g tg cond elt ρ xs acc (gc L .non L1).2
      | _ => .stuck)) else .stuck
open Classical in
noncomputable def forLoop (g : Option (Nat × List PV)) (tg : Tg) (body : Env' → List HObj → SOut) : List PV → Env' → List HObj → SOut
  | [], ρ, L => if guardOk g L then .next ρ L else .stuck
  | x :: xs, ρ, L => if guardOk g L then (match bindT tg x ρ with
    | none => .stuck
    | some ρ1 => (match body ρ1 L with
      | .next ρ2 L2 => forLoop g tg body xs ρ2 L2
      | .cnt ρ2 L2 => forLoop g tg body xs ρ2 L2
      | .brk ρ2 L2 => .next ρ2 L2
      | r => r)) else .stuck
def lstO (o : SOut) : SOut := match o with
  | .next ρ L => if L.all isLst = true then .next ρ L else .stuck
  | .cnt ρ L => if L.all isLst = true then .cnt ρ L else .stuck
  | .exc _ _ _ _ => .stuck
  | r => r
def whlN (cond : Env' → M Bool) (body : Env' → List HObj → SOut) : Nat → Env' → List HObj → SOut
  | 0, _, _ => .stuck
  | n + 1, ρ, L => match cond ρ L with
    | .ok true L1 => (match body ρ L1 with
      | .next ρ2 L2 => whlN cond body n ρ2 L2
      | .cnt ρ2 L2 => whlN cond body n ρ2 L2
      | .brk ρ2 L2 => .next ρ2 L2
      | r => r)
    | .ok false L1 => .next ρ L1
    | .exc c f L1 => .exc c f ρ L1
    | .stuck => .stuck
open Classical in
noncomputable def whl (cond : Env' → M Bool) (body : Env' → List HObj → SOut) (ρ : Env') (L : List HObj) : SOut :=
  if h : ∃ n, whlN cond body n ρ L ≠ .stuck then whlN cond body (Classical.choose h) ρ L else .stuck

/-- x op= y, ints -/
def augop : Bop → Int → PV → M PV
  | .add, x, .int y => ret (.int (x + y))
  | .sub, x, .int y => ret (.int (x - y))
  | _, _, _ => fun _ => .stuck
/-- an evaluated expression ends a statement: what is new and not handed on is forgotten -/
noncomputable def gcM (m : M PV) : M PV := fun L => match m L with
  | .ok v L' => .ok (gc L v L').1 (gc L v L').2
  | .exc c f L' => .exc c f L'
  | .stuck => .stuck
noncomputable def gcB (m : M Bool) : M Bool := fun L => match m L with
  | .ok b L' => .ok b (gc L .non L').2
  | .exc c f L' => .exc c f L'
  | .stuck => .stuck

section
variable (T : Tab) (cl : String → List PV → M PV) (hx : Option (String × Option (String × PV)))
mutual
noncomputable def ev : Ex → Env' → M PV
  | .cst v, _ => ret v
  | .var i, ρ => fun L => (match ρ[i]? with
    | some (some x) => .ok x L
    | _ => .stuck)
  | .glb x, _ => fun L => (match T.csts.lookup x with
    | some v => .ok v L
    | none => .stuck)
  | .tup es, ρ => bnd (evs es ρ) fun xs L => if xs.length ≤ 16777216 then .ok (.tup xs) L else .stuck
  | .lst es, ρ => bnd (evs es ρ) fun xs L => if xs.length ≤ 16777216 then .ok (.ref L.length) (L ++ [.lst xs]) else .stuck
  | .bin o a b, ρ => bnd (ev a ρ) fun x => bnd (ev b ρ) fun y => binop o x y
  | .neg a, ρ => bnd (ev a ρ) fun x L => (match x with
    | .int i => .ok (.int (-i)) L
    | _ => .stuck)
  | .not a, ρ => bnd (ev a ρ) fun x => bnd (truth x) fun b => ret (.bl (!b))
  | .cmp o a b, ρ => bnd (ev a ρ) fun x => bnd (ev b ρ) fun y => bnd (cmpop o x y) fun b => ret (.bl b)
  | .chain o o' a b c, ρ => bnd (ev a ρ) fun x => bnd (ev b ρ) fun y => bnd (cmpop o x y) fun k =>
      if k = true then bnd (ev c ρ) fun z => bnd (cmpop o' y z) fun b => ret (.bl b) else ret (.bl false)
  | .and a b, ρ => bnd (ev a ρ) fun x => bnd (truth x) fun k => if k = true then ev b ρ else ret x
  | .or a b, ρ => bnd (ev a ρ) fun x => bnd (truth x) fun k => if k = true then ret x else ev b ρ
  | .ite c a b, ρ => bnd (ev c ρ) fun x => bnd (truth x) fun k => if k = true then ev a ρ else ev b ρ
  | .call f es, ρ => bnd (evs es ρ) fun xs => cl f xs
  | .blt b es, ρ => bnd (evs es ρ) fun xs => bltin b xs
  | .met m o es, ρ => bnd (ev o ρ) fun x L => if recvOk m x L = true then bnd (evs es ρ) (fun xs => meth m x xs) L else .stuck
  | .idx a i, ρ => bnd (ev a ρ) fun x => bnd (ev i ρ) fun y => item x y
  | .slc a lo hi, ρ => bnd (ev a ρ) fun x => bnd (evo lo ρ) fun l => bnd (evo hi ρ) fun h => sliceP x l h
  | .rev a, ρ => bnd (ev a ρ) fun x => revP x
  | .sst a, ρ => bnd (ev a ρ) fun x => sstP x
  | .isi a t, ρ => bnd (ev a ρ) fun x => isTy t x
  | .lc elt tg k es conds own, ρ => fun L => (match evs es ρ L with
    | .ok xs L1 => (match walkOf L k xs L1 with
      | some w => if w.items.length ≤ 16777216 then (match lcLoop w.guard tg (fun ρ1 => evc conds ρ1) (fun ρ1 => ev elt ρ1) (own.foldl (fun r i => r.set i none) ρ) w.items [] w.heap with
        | .ok ys L2 => .ok (.ref L2.length) (L2 ++ [.lst ys])
        | _ => .stuck) else .stuck
      | none => .stuck)
    | .exc c f L1 => .exc c f L1
    | .stuck => .stuck)
  | .exf f, _ => fun L => (match hx with
    | some (_, some (n, x)) => if n = f then .ok x L else .stuck
    | _ => .stuck)
  | .exi c, _ => fun L => (match hx with
    | some (k, _) => .ok (.bl (T.subs.contains (k, c))) L
    | none => .stuck)
  | .frz e, ρ => fun L => (match ev e ρ L with
    | .ok v L' => .ok (fz L v L').1 (fz L v L').2
    | .exc c f L' => .exc c f L'
    | .stuck => .stuck)
  | .fld e f, ρ => bnd (ev e ρ) fun x => fieldOf T (Str.ofString f) x
  | .new key c es, ρ => bnd (evs es ρ) fun xs => newP cl key c xs
  | .mtc key c m o es, ρ => bnd (ev o ρ) fun x L => if insOk L x (Str.ofString c) (Str.ofString m) = true then bnd (evs es ρ) (fun xs => cl key (x :: xs)) L else .stuck
  | .opm key c m o es, ρ => bnd (ev o ρ) fun x L => if insOk L x (Str.ofString c) (Str.ofString m) = true then bnd (evs es ρ) (fun ys => opP cl key c m x ys) L else .stuck
  | .din neg d e, ρ => bnd (ev e ρ) fun x => bnd (dinP T d neg x) fun b => ret (.bl b)
  | .dix d e, ρ => bnd (ev e ρ) fun x => dixP T d x
  | .rgc tup lit es, ρ => bnd (bnd (evs es ρ) (rgP lit)) (rgcP tup)
  | .rgv es, ρ => bnd (bnd (evs es ρ) (rgP true)) fun r => ret (.rng r.1 r.2)
  | .dead, _ => fun _ => .stuck
  | .callk f _ es e, ρ => bnd (evs es ρ) fun xs => bnd (ev e ρ) fun y => cl f (xs ++ [y])
noncomputable def evs : List Ex → Env' → M (List PV)
  | [], _ => ret []
  | e :: es, ρ => bnd (ev e ρ) fun x => bnd (evs es ρ) fun xs => ret (x :: xs)
noncomputable def evo : Option Ex → Env' → M (Option Int)
  | none, _ => ret none
  | some e, ρ => bnd (ev e ρ) fun x L => (match x with
    | .int i => .ok (some i) L
    | _ => .stuck)
noncomputable def evc : List Ex → Env' → M Bool
  | [], _ => ret true
  | e :: es, ρ => bnd (ev e ρ) fun x => bnd (truth x) fun b => if b = true then evc es ρ else ret false
end
end
section
variable (T : Tab) (cl : String → List PV → M PV)
abbrev HX := Option (String × Option (String × PV))
noncomputable def onOk (m : M PV) (ρ : Env') (k : PV → List HObj → SOut) (L : List HObj) : SOut := match m L with
  | .ok v L' => k v L'
  | .exc c f L' => .exc c f ρ L'
  | .stuck => .stuck
mutual
noncomputable def exec : Sx → HX → Env' → List HObj → SOut
  | .set i e, hx, ρ, L => onOk (gcM (ev T cl hx e ρ)) ρ (fun v L' => .next (ρ.set i (some v)) L') L
  | .setT is e, hx, ρ, L => onOk (gcM (ev T cl hx e ρ)) ρ (fun v L' => match bindT (.many is) v ρ with
    | some ρ' => .next ρ' L'
    | none => .stuck) L
  | .sub o i e, hx, ρ, L => onOk (ev T cl hx e ρ) ρ (fun v L1 => onOk (ev T cl hx o ρ) ρ (fun x L2 => onOk (ev T cl hx i ρ) ρ (fun y L3 => match setItem' x y v L3 with
    | .ok _ L4 => .next ρ (gc L .non L4).2
    | _ => .stuck) L2) L1) L
  | .sfld o f e, hx, ρ, L => onOk (ev T cl hx e ρ) ρ (fun v L1 => onOk (ev T cl hx o ρ) ρ (fun x L2 => match setFld T x (Str.ofString f) v L2 with
    | .ok _ L3 => .next ρ (gc L .non L3).2
    | _ => .stuck) L1) L
  | .aug i o e, hx, ρ, L => (match ρ[i]? with
    | some (some (.int x)) => onOk (gcM (bnd (ev T cl hx e ρ) fun y => augop o x y)) ρ (fun v L' => .next (ρ.set i (some v)) L') L
    | _ => .stuck)
  | .expr e, hx, ρ, L => onOk (ev T cl hx e ρ) ρ (fun _ L' => .next ρ (gc L .non L').2) L
  | .ret e, hx, ρ, L => onOk (ev T cl hx e ρ) ρ (fun v L' => .ret v L') L
  | .retN, _, ρ, L => .ret .non L
  | .ite c a b, hx, ρ, L => (match gcB (bnd (ev T cl hx c ρ) truth) L with
    | .ok true L' => execs a hx ρ L'
    | .ok false L' => execs b hx ρ L'
    | .exc c f L' => .exc c f ρ L'
    | .stuck => .stuck)
  | .for tg k es body, hx, ρ, L => (match evs T cl hx es ρ L with
    | .ok xs L1 => (match walkOf L k xs L1 with
      | some w => forLoop w.guard tg (fun ρ1 L2 => execs body hx ρ1 L2) w.items ρ w.heap
      | none => .stuck)
    | .exc c f L1 => .exc c f ρ L1
    | .stuck => .stuck)
  | .forg tg f es body, hx, ρ, L => (match evs T cl hx es ρ L with
    | .ok xs L1 => (match cl f xs L1 with
      | .ok (.frl ys) _ => if unders 0 xs = true ∧ L1.all isLst = true then forLoop none tg (fun ρ1 L2 => lstO (execs body hx ρ1 L2)) ys ρ L1 else .stuck
      | _ => .stuck)
    | _ => .stuck)
  | .whl c body, hx, ρ, L => whl (fun ρ1 => gcB (bnd (ev T cl hx c ρ1) truth)) (fun ρ1 L1 => execs body hx ρ1 L1) ρ L
  | .brk, _, ρ, L => .brk ρ L
  | .cnt, _, ρ, L => .cnt ρ L
  | .pass, _, ρ, L => .next ρ L
  | .dead, _, _, _ => .stuck
  | .raise c e, hx, ρ, L => (match e with
    | none => (match T.excs.lookup c with
      | some none => .exc c none ρ L
      | _ => .stuck)
    | some e => (match T.excs.lookup c with
      | some (some n) => onOk (gcM (ev T cl hx e ρ)) ρ (fun v L' => .exc c (some (n, v)) ρ L') L
      | _ => .stuck))
  | .try body c i hd, hx, ρ, L => (match execs body hx ρ L with
    | .exc c' f ρ' L' => if (T.excs.lookup c').isSome = true ∧ i < ρ'.length then (if T.subs.contains (c', c) = true then (match execs hd (some (c', f)) (ρ'.set i (some .exn)) L' with
        | .next ρ2 L2 => .next (ρ2.set i none) L2
        | .brk ρ2 L2 => .brk (ρ2.set i none) L2
        | .cnt ρ2 L2 => .cnt (ρ2.set i none) L2
        | .ret v L2 => .ret v L2
        | _ => .stuck) else .exc c' f ρ' L') else .stuck
    | r => r)
noncomputable def execs : List Sx → HX → Env' → List HObj → SOut
  | [], _, ρ, L => .next ρ L
  | s :: ss, hx, ρ, L => (match exec s hx ρ L with
    | .next ρ' L' => execs ss hx ρ' L'
    | r => r)
end
end
noncomputable def gcz (z : Bool) (L0 : List HObj) (v : PV) (L' : List HObj) : PV × List HObj := if z = true then fz L0 v L' else gc L0 v L'
noncomputable def fin (z : Bool) (L0 : List HObj) : SOut → Out PV
  | .next _ L => .ok .non (gc L0 .non L).2
  | .ret v L => .ok (gcz z L0 v L).1 (gcz z L0 v L).2
  | .exc c f _ L => (match f with
    | none => .exc c none (gc L0 .non L).2
    | some (n, x) => .exc c (some (n, (gc L0 x L).1)) (gc L0 x L).2)
  | _ => .stuck
/-- a loop of a generator -/
def gloop (t : Tg) (B : Env' → List HObj → Option (List PV × Env' × List HObj)) : List PV → Env' → List HObj → Option (List PV × Env' × List HObj)
  | [], ρ, L => some ([], ρ, L)
  | x :: xs, ρ, L => (bindT t x ρ).bind fun ρ1 => (B ρ1 L).bind fun r => (gloop t B xs r.2.1 r.2.2).map fun q => (r.1 ++ q.1, q.2)
section
variable (T : Tab) (cl : String → List PV → M PV)
mutual
noncomputable def grun1 : GSx → Env' → List HObj → Option (List PV × Env' × List HObj)
  | .st s, ρ, L => (match exec T cl s none ρ L with
    | .next ρ' L' => some ([], ρ', L')
    | _ => none)
  | .yld e, ρ, L => (match ev T cl none e ρ L with
    | .ok y L' => if L'.all isLst = true ∧ y.under 0 = true then some ([y], ρ, L') else none
    | _ => none)
  | .forr t a body, ρ, L => (match ev T cl none a ρ L with
    | .ok (.int j) L1 => if smallI j = true then gloop t (fun ρ1 L2 => gruns body ρ1 L2) (rangeP 0 j.toNat) ρ L1 else none
    | _ => none)
noncomputable def gruns : List GSx → Env' → List HObj → Option (List PV × Env' × List HObj)
  | [], ρ, L => some ([], ρ, L)
  | s :: ss, ρ, L => (grun1 s ρ L).bind fun r => (gruns ss r.2.1 r.2.2).map fun q => (r.1 ++ q.1, q.2)
end
end
/-- what a generator def hands out -/
noncomputable def gout (T : Tab) (cl : String → List PV → M PV) (gd : GFD) (xs : List PV) : Option (List PV) :=
  if xs.length = gd.n then (gruns T cl gd.body (xs.map some ++ List.replicate (gd.sl - gd.n) none) []).map (·.1) else none
noncomputable def call (T : Tab) : Nat → String → List PV → M PV
  | 0, _, _ => fun _ => .stuck
  | d + 1, f, xs => fun L => (match T.fns.lookup f with
    | some fd => if xs.length = fd.n then fin fd.fz L (execs T (call T d) fd.body none (xs.map some ++ List.replicate (fd.sl - fd.n) none) L) else .stuck
    | none => (match T.gns.lookup f with
      | some gd => (match gout T (call T d) gd xs with
        | some ys => .ok (.frl ys) L
        | none => .stuck)
      | none => .stuck))
end MP

/-! MP 4: == and != of values. -/
namespace MP
open PySem PySem.Spec PyProof.Rows L2
open PySem.SeqAt (EqAt RcAt)
open PySem.SeqAt (RcNeAt)
structure K3 (A : Around) (s : Shared) (u w : Value) (b : Bool) : Prop where
  eq : EqAt A s u w b
  rc : RcAt A s u w b
  ne : RcNeAt A s u w (!b)
section
variable {X : Cx} {pins : List (Addr × Obj)} {σ : L2.St} {H : Hp} {s : Shared} {P : Pl}
theorem tup_of (I : Inv X pins σ H s) {xs : List PV} {v : V} (h : RV X.K X.mg P H (.tup xs) v) : ∃ (a : Addr) (vs : List V) (its : List Value), v = .ref a ∧ SqD X.K H a vs ∧ RVs X.K X.mg P H xs vs ∧ Vals vs its ∧ s.heap.IsTuple a its.toArray := by
  obtain ⟨a, vs, h1, h2, h3⟩ := h
  obtain ⟨its, r, t, _⟩ := I.tuple h2.1
  exact ⟨a, vs, its, h1, h2, h3, r, t⟩
theorem all_range_cons {e : Nat → Bool} : ∀ n : Nat, (List.range (n + 1)).all e = (e 0 && (List.range n).all fun i => e (i + 1))
  | n => by
    rw [List.range_succ_eq_map, List.all_cons, List.all_map]
    rfl
/-- the items' answers, told by their places -/
theorem peqs_range {f : PV → PV → Option Bool} : ∀ (xs ys : List PV) (b : Bool), peqs f xs ys = some b →
    ∃ e : Nat → Bool, (∀ (j : Nat) (x y : PV), xs[j]? = some x → ys[j]? = some y → f x y = some (e j)) ∧ b = ((List.range (min xs.length ys.length)).all e && xs.length == ys.length)
  | [], [], b, h => ⟨fun _ => true, fun j x y h1 _ => by simp at h1, by cases h; rfl⟩
  | [], y :: ys, b, h => ⟨fun _ => true, fun j x y h1 _ => by simp at h1, by cases h; simp⟩
  | x :: xs, [], b, h => ⟨fun _ => true, fun j x y _ h2 => by simp at h2, by cases h; simp⟩
  | x :: xs, y :: ys, b, h => by
    unfold peqs at h
    split at h
    · rename_i a c h1 h2
      obtain ⟨e, he, hc⟩ := peqs_range xs ys c h2
      refine ⟨fun j => match j with | 0 => a | j + 1 => e j, fun j x' y' q1 q2 => ?_, ?_⟩
      · cases j with
        | zero =>
          have e1 : x = x' := by simpa using q1
          have e2 : y = y' := by simpa using q2
          subst e1 e2
          exact h1
        | succ j => exact he j x' y' (by simpa using q1) (by simpa using q2)
      · have hb : b = (a && c) := (Option.some.inj h).symm
        rw [hb, hc]
        have hm : min (x :: xs).length (y :: ys).length = min xs.length ys.length + 1 := by simp only [List.length_cons]; omega
        rw [hm, all_range_cons]
        simp only [List.length_cons, Bool.and_assoc]
        congr 2
        simp
    · cases h
/-- one thing twice -/
theorem peqs_same {f : PV → PV → Option Bool} {vs : List V} (hf : ∀ (x y : PV) (v : V) (b : Bool), RV X.K X.mg P H x v → RV X.K X.mg P H y v → f x y = some b → b = true) : ∀ (xs ys : List PV) (vs : List V) (b : Bool), RVs X.K X.mg P H xs vs → RVs X.K X.mg P H ys vs → peqs f xs ys = some b → b = true
  | [], [], _, b, _, _, h => by cases h; rfl
  | [], y :: ys, _, b, h1, h2, h => by
    cases (show _ = [] from h1)
    obtain ⟨_, _, e, _⟩ := h2
    cases e
  | x :: xs, [], _, b, h1, h2, h => by
    cases (show _ = [] from h2)
    obtain ⟨_, _, e, _⟩ := h1
    cases e
  | x :: xs, y :: ys, _, b, h1, h2, h => by
    obtain ⟨v, r, e, a1, a2⟩ := h1
    subst e
    obtain ⟨v', r', e, b1, b2⟩ := h2
    injection e with e1 e2
    subst e1 e2
    unfold peqs at h
    split at h
    · rename_i a c q1 q2
      have := hf x y _ a a1 b1 q1
      have := peqs_same (vs := vs) hf xs ys _ c a2 b2 q2
      have hb : b = (a && c) := (Option.some.inj h).symm
      simp_all
    · cases h
theorem peq_same (I : Inv X pins σ H s) : ∀ (n : Nat) (x y : PV) (v : V) (b : Bool), RV X.K X.mg P H x v → RV X.K X.mg P H y v → peq n x y = some b → b = true := by
  intro n
  induction n with
  | zero =>
    intro x y v b hx hy h
    cases x <;> cases y <;> first
      | (simp only [peq] at h; cases h; done)
      | (have e1 : v = _ := hx
         have e2 : v = _ := hy
         rw [e1] at e2
         injection e2 with e3
         simp only [peq, e3, Option.some.injEq] at h
         simpa using h.symm)
      | (have e1 : v = _ := hx
         simp only [peq, Option.some.injEq] at h
         exact h.symm)
      | (have e1 : v = _ := hx
         have e2 : v = _ := hy
         rw [e1] at e2
         cases e2)
      | (obtain ⟨_, _, e1, _⟩ := hx
         have e2 : v = _ := hy
         rw [e1] at e2
         cases e2)
      | (obtain ⟨_, _, e1, _⟩ := hy
         have e2 : v = _ := hx
         rw [e1] at e2
         cases e2)
  | succ n ih =>
    intro x y v b hx hy h
    cases x <;> cases y <;> first
      | (simp only [peq] at h; cases h; done)
      | (have e1 : v = _ := hx
         have e2 : v = _ := hy
         rw [e1] at e2
         injection e2 with e3
         simp only [peq, e3, Option.some.injEq] at h
         simpa using h.symm)
      | (have e1 : v = _ := hx
         simp only [peq, Option.some.injEq] at h
         exact h.symm)
      | (have e1 : v = _ := hx
         have e2 : v = _ := hy
         rw [e1] at e2
         cases e2)
      | (obtain ⟨_, _, e1, _⟩ := hx
         have e2 : v = _ := hy
         rw [e1] at e2
         cases e2)
      | (obtain ⟨_, _, e1, _⟩ := hy
         have e2 : v = _ := hx
         rw [e1] at e2
         cases e2)
      | skip
    · rename_i xs ys
      obtain ⟨a, vs, e1, q1, r1⟩ := hx
      obtain ⟨a', vs', e2, q2, r2⟩ := hy
      rw [e1] at e2
      cases e2
      cases I.tuple_inj q1.1 q2.1
      simp only [peq] at h
      exact peqs_same (vs := vs) ih xs ys vs b r1 r2 h
    · rename_i xs ys
      obtain ⟨a, vs, e1, q1, r1⟩ := hx
      obtain ⟨a', vs', e2, q2, r2⟩ := hy
      rw [e1] at e2
      cases e2
      cases I.list_inj q1.l q2.l
      simp only [peq] at h
      exact peqs_same (vs := vs) ih xs ys vs b r1 r2 h
end
end MP

/-! MP 5: == and != of values, further; the operators. -/
namespace MP
open PySem PySem.Spec PyProof.Rows L2
open PySem.SeqAt (EqAt RcAt)
open PySem.SeqAt (RcNeAt)
section
variable {X : Cx} {pins : List (Addr × Obj)} {σ : L2.St} {H : Hp} {s : Shared} {P : Pl}
theorem k3_tuples (I : Inv X pins σ H s) {n : Nat} (ih : ∀ (x y : PV) (b : Bool), peq n x y = some b → ∀ (v w : V) (u1 u2 : Value), RV X.K X.mg P H x v → RV X.K X.mg P H y w → RelV v u1 → RelV w u2 → ∀ A : Around, A.units + n + 1 < cLine → K3 A s u1 u2 b)
    {xs ys : List PV} {b : Bool} (h : peqs (peq n) xs ys = some b) {v w : V} {u1 u2 : Value} (hx : RV X.K X.mg P H (.tup xs) v) (hy : RV X.K X.mg P H (.tup ys) w) (r1 : RelV v u1) (r2 : RelV w u2) {A : Around} (hu : A.units + (n + 1) + 1 < cLine) :
    K3 A s u1 u2 b := by
  have hsame := fun (q : u1 = u2) => peqs_same (X := X) (P := P) (H := H) (vs := []) (peq_same I n) xs ys
  obtain ⟨a, vs, its, e1, q1, p1, rr1, t1⟩ := tup_of I hx
  obtain ⟨a', vs', its', e2, q2, p2, rr2, t2⟩ := tup_of I hy
  subst e1 e2
  obtain rfl : u1 = Value.ref a := r1
  obtain rfl : u2 = Value.ref a' := r2
  obtain ⟨e, he, hb⟩ := peqs_range xs ys b h
  have l1 : its.toArray.size = xs.length := by rw [List.size_toArray, ← rr1.length, ← p1.length]
  have l2 : its'.toArray.size = ys.length := by rw [List.size_toArray, ← rr2.length, ← p2.length]
  have items : ∀ j (h1 : j < its.toArray.size) (h2 : j < its'.toArray.size), EqAt A.in1 s its.toArray[j] its'.toArray[j] (e j) := fun j h1 h2 => by
    have g1 : xs[j]? = some xs[j] := List.getElem?_eq_getElem (by omega)
    have g2 : ys[j]? = some ys[j] := List.getElem?_eq_getElem (by omega)
    obtain ⟨v1, b1, c1⟩ := p1.get g1
    obtain ⟨v2, b2, c2⟩ := p2.get g2
    obtain ⟨w1, d1, f1⟩ := rr1.get b1
    obtain ⟨w2, d2, f2⟩ := rr2.get b2
    have k := ih _ _ _ (he j _ _ g1 g2) v1 v2 w1 w2 c1 c2 f1 f2 A.in1 (by show A.units + 1 + n + 1 < cLine; omega)
    have s1 : its.toArray[j] = w1 := by
      obtain ⟨_, z⟩ := List.getElem?_eq_some_iff.mp d1
      simpa using z
    have s2 : its'.toArray[j] = w2 := by
      obtain ⟨_, z⟩ := List.getElem?_eq_some_iff.mp d2
      simpa using z
    rw [s1, s2]
    exact k.eq
  have hb' : b = ((List.range (min its.toArray.size its'.toArray.size)).all e && its.toArray.size == its'.toArray.size) := by rw [l1, l2]; exact hb
  rw [hb']
  have rc := RcAt.tuples t1 t2 (show A.units < cLine by omega) items
  refine ⟨?_, rc, RcNeAt.tuples t1 t2 (show A.units < cLine by omega) items⟩
  by_cases ha : a = a'
  · subst ha
    cases I.tuple_inj q1.1 q2.1
    have : b = true := peqs_same (vs := vs) (peq_same I n) xs ys vs b p1 p2 h
    rw [← hb', this]
    exact EqAt.same _
  · exact .of_refs ha rc
theorem k3_lists (I : Inv X pins σ H s) {n : Nat} (ih : ∀ (x y : PV) (b : Bool), peq n x y = some b → ∀ (v w : V) (u1 u2 : Value), RV X.K X.mg P H x v → RV X.K X.mg P H y w → RelV v u1 → RelV w u2 → ∀ A : Around, A.units + n + 1 < cLine → K3 A s u1 u2 b)
    {xs ys : List PV} {b : Bool} (h : peqs (peq n) xs ys = some b) {v w : V} {u1 u2 : Value} (hx : RV X.K X.mg P H (.frl xs) v) (hy : RV X.K X.mg P H (.frl ys) w) (r1 : RelV v u1) (r2 : RelV w u2) {A : Around} (hu : A.units + (n + 1) + 1 < cLine) :
    K3 A s u1 u2 b := by
  obtain ⟨a, vs, e1, q1, p1⟩ := hx
  obtain ⟨a', vs', e2, q2, p2⟩ := hy
  subst e1 e2
  obtain rfl : u1 = Value.ref a := r1
  obtain rfl : u2 = Value.ref a' := r2
  obtain ⟨its, rr1, t1, _⟩ := I.list q1.l
  obtain ⟨its', rr2, t2, _⟩ := I.list q2.l
  have t1 := t1.isList
  have t2 := t2.isList
  obtain ⟨e, he, hb⟩ := peqs_range xs ys b h
  have l1 : its.toArray.size = xs.length := by rw [List.size_toArray, ← rr1.length, ← p1.length]
  have l2 : its'.toArray.size = ys.length := by rw [List.size_toArray, ← rr2.length, ← p2.length]
  have items : ∀ j (h1 : j < its.toArray.size) (h2 : j < its'.toArray.size), EqAt A.in1 s its.toArray[j] its'.toArray[j] (e j) := fun j h1 h2 => by
    have g1 : xs[j]? = some xs[j] := List.getElem?_eq_getElem (by omega)
    have g2 : ys[j]? = some ys[j] := List.getElem?_eq_getElem (by omega)
    obtain ⟨v1, b1, c1⟩ := p1.get g1
    obtain ⟨v2, b2, c2⟩ := p2.get g2
    obtain ⟨w1, d1, f1⟩ := rr1.get b1
    obtain ⟨w2, d2, f2⟩ := rr2.get b2
    have k := ih _ _ _ (he j _ _ g1 g2) v1 v2 w1 w2 c1 c2 f1 f2 A.in1 (by show A.units + 1 + n + 1 < cLine; omega)
    have s1 : its.toArray[j] = w1 := by
      obtain ⟨_, z⟩ := List.getElem?_eq_some_iff.mp d1
      simpa using z
    have s2 : its'.toArray[j] = w2 := by
      obtain ⟨_, z⟩ := List.getElem?_eq_some_iff.mp d2
      simpa using z
    rw [s1, s2]
    exact k.eq
  have hu' : A.units < cLine := by omega
  have both : RcAt A s (.ref a) (.ref a') b ∧ RcNeAt A s (.ref a) (.ref a') (!b) := by
    by_cases hl : xs.length = ys.length
    · have hsz : its.toArray.size = its'.toArray.size := by rw [l1, l2, hl]
      have hb' : b = (List.range its.toArray.size).all e := by rw [hb, l1, hl]; simp
      rw [hb']
      exact ⟨RcAt.lists t1 t2 hsz hu' items, RcNeAt.lists t1 t2 hsz hu' items⟩
    · have hsz : (its.toArray.size != its'.toArray.size) = true := by rw [l1, l2]; simpa using hl
      have hb' : b = false := by rw [hb]; simp [hl]
      rw [hb']
      exact ⟨RcAt.lists_lengths t1 t2 hsz hu', RcNeAt.lists_lengths t1 t2 hsz hu'⟩
  refine ⟨?_, both.1, both.2⟩
  by_cases ha : a = a'
  · subst ha
    cases I.list_inj q1.l q2.l
    have : b = true := peqs_same (vs := vs) (peq_same I n) xs ys vs b p1 p2 h
    rw [this]
    exact EqAt.same _
  · exact .of_refs ha both.1
theorem k3_of (I : Inv X pins σ H s) : ∀ (n : Nat) (x y : PV) (b : Bool), peq n x y = some b → ∀ (v w : V) (u1 u2 : Value), RV X.K X.mg P H x v → RV X.K X.mg P H y w → RelV v u1 → RelV w u2 → ∀ A : Around, A.units + n + 1 < cLine → K3 A s u1 u2 b := by
  have base : ∀ (n : Nat) (x y : PV) (b : Bool), (∀ xs ys, ¬ (x = .tup xs ∧ y = .tup ys)) → (∀ xs ys, ¬ (x = .frl xs ∧ y = .frl ys)) → peq n x y = some b → ∀ (v w : V) (u1 u2 : Value), RV X.K X.mg P H x v → RV X.K X.mg P H y w → RelV v u1 → RelV w u2 → ∀ A : Around, A.units + n + 1 < cLine → K3 A s u1 u2 b := by
    intro n x y b hnt hnl h v w u1 u2 hx hy r1 r2 A hu
    have hu' : A.units < cLine := by omega
    skip
    cases x with
    | non =>
      cases y with
      | non =>
        have hb : b = true := by cases n <;> (simp only [peq, Option.some.injEq] at h; exact h.symm)
        subst hb
        obtain rfl : v = V.non := hx
        obtain rfl : u1 = Value.none := r1
        obtain rfl : w = V.non := hy
        obtain rfl : u2 = Value.none := r2
        exact ⟨EqAt.same _, RcAt.none_none, RcNeAt.none_none⟩
      | bl j =>
        have hb : b = false := by cases n <;> (simp only [peq, Option.some.injEq] at h; exact h.symm)
        subst hb
        obtain rfl : v = V.non := hx
        obtain rfl : u1 = Value.none := r1
        obtain rfl : w = V.bl j := hy
        obtain rfl : u2 = Value.bool j := r2
        exact ⟨EqAt.none_bool _, RcAt.none_bool _, RcNeAt.none_bool _⟩
      | int j =>
        have hb : b = false := by cases n <;> (simp only [peq, Option.some.injEq] at h; exact h.symm)
        subst hb
        obtain rfl : v = V.non := hx
        obtain rfl : u1 = Value.none := r1
        obtain rfl : w = V.int j := hy
        obtain ⟨_, rfl⟩ := r2
        exact ⟨EqAt.none_int _ _, RcAt.none_int _ _, RcNeAt.none_int _ _⟩
      | str j =>
        have hb : b = false := by cases n <;> (simp only [peq, Option.some.injEq] at h; exact h.symm)
        subst hb
        obtain rfl : v = V.non := hx
        obtain rfl : u1 = Value.none := r1
        obtain rfl : w = V.str j := hy
        obtain ⟨_, rfl⟩ := r2
        exact ⟨EqAt.none_str _ _, RcAt.none_str _ _, RcNeAt.none_str _ _⟩
      | tup j =>
        have hb : b = false := by cases n <;> (simp only [peq, Option.some.injEq] at h; exact h.symm)
        subst hb
        obtain rfl : v = V.non := hx
        obtain rfl : u1 = Value.none := r1
        obtain ⟨a, _, _, e1, _, _, _, t1⟩ := tup_of I hy
        subst e1
        obtain rfl : u2 = Value.ref a := r2
        exact ⟨EqAt.none_tuple t1 hu', RcAt.none_tuple t1 hu', RcNeAt.none_tuple t1 hu'⟩
      | ref j =>
        cases n <;> (simp only [peq] at h; cases h)
      | cls j =>
        cases n <;> (simp only [peq] at h; cases h)
      | typ j =>
        cases n <;> (simp only [peq] at h; cases h)
      | obj j j2 j3 =>
        cases n <;> (simp only [peq] at h; cases h)
      | exn =>
        cases n <;> (simp only [peq] at h; cases h)
      | frl j =>
        cases n <;> (simp only [peq] at h; cases h)
      | rng j j2 =>
        cases n <;> (simp only [peq] at h; cases h)
    | bl i =>
      cases y with
      | non =>
        have hb : b = false := by cases n <;> (simp only [peq, Option.some.injEq] at h; exact h.symm)
        subst hb
        obtain rfl : v = V.bl i := hx
        obtain rfl : u1 = Value.bool i := r1
        obtain rfl : w = V.non := hy
        obtain rfl : u2 = Value.none := r2
        exact ⟨EqAt.bool_none _, RcAt.bool_none _, RcNeAt.bool_none _⟩
      | bl j =>
        have hb : b = (i == j) := by cases n <;> (simp only [peq, Option.some.injEq] at h; exact h.symm)
        subst hb
        obtain rfl : v = V.bl i := hx
        obtain rfl : u1 = Value.bool i := r1
        obtain rfl : w = V.bl j := hy
        obtain rfl : u2 = Value.bool j := r2
        exact ⟨EqAt.bool_bool _ _, RcAt.bool_bool _ _, RcNeAt.bool_bool _ _⟩
      | int j =>
        cases n <;> (simp only [peq] at h; cases h)
      | str j =>
        have hb : b = false := by cases n <;> (simp only [peq, Option.some.injEq] at h; exact h.symm)
        subst hb
        obtain rfl : v = V.bl i := hx
        obtain rfl : u1 = Value.bool i := r1
        obtain rfl : w = V.str j := hy
        obtain ⟨_, rfl⟩ := r2
        exact ⟨EqAt.bool_str _ _ _, RcAt.bool_str _ _ _, RcNeAt.bool_str _ _ _⟩
      | tup j =>
        have hb : b = false := by cases n <;> (simp only [peq, Option.some.injEq] at h; exact h.symm)
        subst hb
        obtain rfl : v = V.bl i := hx
        obtain rfl : u1 = Value.bool i := r1
        obtain ⟨a, _, _, e1, _, _, _, t1⟩ := tup_of I hy
        subst e1
        obtain rfl : u2 = Value.ref a := r2
        exact ⟨EqAt.bool_tuple _ t1 hu', RcAt.bool_tuple _ t1 hu', RcNeAt.bool_tuple _ t1 hu'⟩
      | ref j =>
        cases n <;> (simp only [peq] at h; cases h)
      | cls j =>
        cases n <;> (simp only [peq] at h; cases h)
      | typ j =>
        cases n <;> (simp only [peq] at h; cases h)
      | obj j j2 j3 =>
        cases n <;> (simp only [peq] at h; cases h)
      | exn =>
        cases n <;> (simp only [peq] at h; cases h)
      | frl j =>
        cases n <;> (simp only [peq] at h; cases h)
      | rng j j2 =>
        cases n <;> (simp only [peq] at h; cases h)
    | int i =>
      cases y with
      | non =>
        have hb : b = false := by cases n <;> (simp only [peq, Option.some.injEq] at h; exact h.symm)
        subst hb
        obtain rfl : v = V.int i := hx
        obtain ⟨_, rfl⟩ := r1
        obtain rfl : w = V.non := hy
        obtain rfl : u2 = Value.none := r2
        exact ⟨EqAt.int_none _ _, RcAt.int_none _ _, RcNeAt.int_none _ _⟩
      | bl j =>
        cases n <;> (simp only [peq] at h; cases h)
      | int j =>
        have hb : b = (i == j) := by cases n <;> (simp only [peq, Option.some.injEq] at h; exact h.symm)
        subst hb
        obtain rfl : v = V.int i := hx
        obtain ⟨_, rfl⟩ := r1
        obtain rfl : w = V.int j := hy
        obtain ⟨_, rfl⟩ := r2
        exact ⟨EqAt.int_int _ _ _ _, RcAt.int_int _ _ _ _, RcNeAt.int_int _ _ _ _⟩
      | str j =>
        have hb : b = false := by cases n <;> (simp only [peq, Option.some.injEq] at h; exact h.symm)
        subst hb
        obtain rfl : v = V.int i := hx
        obtain ⟨_, rfl⟩ := r1
        obtain rfl : w = V.str j := hy
        obtain ⟨_, rfl⟩ := r2
        exact ⟨EqAt.int_str _ _ _ _, RcAt.int_str _ _ _ _, RcNeAt.int_str _ _ _ _⟩
      | tup j =>
        have hb : b = false := by cases n <;> (simp only [peq, Option.some.injEq] at h; exact h.symm)
        subst hb
        obtain rfl : v = V.int i := hx
        obtain ⟨_, rfl⟩ := r1
        obtain ⟨a, _, _, e1, _, _, _, t1⟩ := tup_of I hy
        subst e1
        obtain rfl : u2 = Value.ref a := r2
        exact ⟨EqAt.int_tuple _ _ t1 hu', RcAt.int_tuple _ _ t1 hu', RcNeAt.int_tuple _ _ t1 hu'⟩
      | ref j =>
        cases n <;> (simp only [peq] at h; cases h)
      | cls j =>
        cases n <;> (simp only [peq] at h; cases h)
      | typ j =>
        cases n <;> (simp only [peq] at h; cases h)
      | obj j j2 j3 =>
        cases n <;> (simp only [peq] at h; cases h)
      | exn =>
        cases n <;> (simp only [peq] at h; cases h)
      | frl j =>
        cases n <;> (simp only [peq] at h; cases h)
      | rng j j2 =>
        cases n <;> (simp only [peq] at h; cases h)
    | str i =>
      cases y with
      | non =>
        have hb : b = false := by cases n <;> (simp only [peq, Option.some.injEq] at h; exact h.symm)
        subst hb
        obtain rfl : v = V.str i := hx
        obtain ⟨_, rfl⟩ := r1
        obtain rfl : w = V.non := hy
        obtain rfl : u2 = Value.none := r2
        exact ⟨EqAt.str_none _ _, RcAt.str_none _ _, RcNeAt.str_none _ _⟩
      | bl j =>
        have hb : b = false := by cases n <;> (simp only [peq, Option.some.injEq] at h; exact h.symm)
        subst hb
        obtain rfl : v = V.str i := hx
        obtain ⟨_, rfl⟩ := r1
        obtain rfl : w = V.bl j := hy
        obtain rfl : u2 = Value.bool j := r2
        exact ⟨EqAt.str_bool _ _ _, RcAt.str_bool _ _ _, RcNeAt.str_bool _ _ _⟩
      | int j =>
        have hb : b = false := by cases n <;> (simp only [peq, Option.some.injEq] at h; exact h.symm)
        subst hb
        obtain rfl : v = V.str i := hx
        obtain ⟨_, rfl⟩ := r1
        obtain rfl : w = V.int j := hy
        obtain ⟨_, rfl⟩ := r2
        exact ⟨EqAt.str_int _ _ _ _, RcAt.str_int _ _ _ _, RcNeAt.str_int _ _ _ _⟩
      | str j =>
        have hb : b = (i == j) := by cases n <;> (simp only [peq, Option.some.injEq] at h; exact h.symm)
        subst hb
        obtain rfl : v = V.str i := hx
        obtain ⟨_, rfl⟩ := r1
        obtain rfl : w = V.str j := hy
        obtain ⟨_, rfl⟩ := r2
        exact ⟨EqAt.str_str _ _ _ _, RcAt.str_str _ _ _ _, RcNeAt.str_str _ _ _ _⟩
      | tup j =>
        have hb : b = false := by cases n <;> (simp only [peq, Option.some.injEq] at h; exact h.symm)
        subst hb
        obtain rfl : v = V.str i := hx
        obtain ⟨_, rfl⟩ := r1
        obtain ⟨a, _, _, e1, _, _, _, t1⟩ := tup_of I hy
        subst e1
        obtain rfl : u2 = Value.ref a := r2
        exact ⟨EqAt.str_tuple _ _ t1 hu', RcAt.str_tuple _ _ t1 hu', RcNeAt.str_tuple _ _ t1 hu'⟩
      | ref j =>
        cases n <;> (simp only [peq] at h; cases h)
      | cls j =>
        cases n <;> (simp only [peq] at h; cases h)
      | typ j =>
        cases n <;> (simp only [peq] at h; cases h)
      | obj j j2 j3 =>
        cases n <;> (simp only [peq] at h; cases h)
      | exn =>
        cases n <;> (simp only [peq] at h; cases h)
      | frl j =>
        cases n <;> (simp only [peq] at h; cases h)
      | rng j j2 =>
        cases n <;> (simp only [peq] at h; cases h)
    | tup i =>
      cases y with
      | non =>
        have hb : b = false := by cases n <;> (simp only [peq, Option.some.injEq] at h; exact h.symm)
        subst hb
        obtain ⟨a, _, _, e1, _, _, _, t1⟩ := tup_of I hx
        subst e1
        obtain rfl : u1 = Value.ref a := r1
        obtain rfl : w = V.non := hy
        obtain rfl : u2 = Value.none := r2
        exact ⟨EqAt.tuple_none t1 hu', RcAt.tuple_none t1 hu', RcNeAt.tuple_none t1 hu'⟩
      | bl j =>
        have hb : b = false := by cases n <;> (simp only [peq, Option.some.injEq] at h; exact h.symm)
        subst hb
        obtain ⟨a, _, _, e1, _, _, _, t1⟩ := tup_of I hx
        subst e1
        obtain rfl : u1 = Value.ref a := r1
        obtain rfl : w = V.bl j := hy
        obtain rfl : u2 = Value.bool j := r2
        exact ⟨EqAt.tuple_bool _ t1 hu', RcAt.tuple_bool _ t1 hu', RcNeAt.tuple_bool _ t1 hu'⟩
      | int j =>
        have hb : b = false := by cases n <;> (simp only [peq, Option.some.injEq] at h; exact h.symm)
        subst hb
        obtain ⟨a, _, _, e1, _, _, _, t1⟩ := tup_of I hx
        subst e1
        obtain rfl : u1 = Value.ref a := r1
        obtain rfl : w = V.int j := hy
        obtain ⟨_, rfl⟩ := r2
        exact ⟨EqAt.tuple_int _ _ t1 hu', RcAt.tuple_int _ _ t1 hu', RcNeAt.tuple_int _ _ t1 hu'⟩
      | str j =>
        have hb : b = false := by cases n <;> (simp only [peq, Option.some.injEq] at h; exact h.symm)
        subst hb
        obtain ⟨a, _, _, e1, _, _, _, t1⟩ := tup_of I hx
        subst e1
        obtain rfl : u1 = Value.ref a := r1
        obtain rfl : w = V.str j := hy
        obtain ⟨_, rfl⟩ := r2
        exact ⟨EqAt.tuple_str _ _ t1 hu', RcAt.tuple_str _ _ t1 hu', RcNeAt.tuple_str _ _ t1 hu'⟩
      | tup j =>
        exact absurd ⟨rfl, rfl⟩ (hnt _ _)
      | ref j =>
        cases n <;> (simp only [peq] at h; cases h)
      | cls j =>
        cases n <;> (simp only [peq] at h; cases h)
      | typ j =>
        cases n <;> (simp only [peq] at h; cases h)
      | obj j j2 j3 =>
        cases n <;> (simp only [peq] at h; cases h)
      | exn =>
        cases n <;> (simp only [peq] at h; cases h)
      | frl j =>
        cases n <;> (simp only [peq] at h; cases h)
      | rng j j2 =>
        cases n <;> (simp only [peq] at h; cases h)
    | ref i =>
      cases y <;> (cases n <;> (simp only [peq] at h; cases h))
    | cls i =>
      cases y <;> (cases n <;> (simp only [peq] at h; cases h))
    | typ i =>
      cases y <;> (cases n <;> (simp only [peq] at h; cases h))
    | obj i i2 i3 =>
      cases y <;> (cases n <;> (simp only [peq] at h; cases h))
    | exn =>
      cases y <;> (cases n <;> (simp only [peq] at h; cases h))
    | frl i =>
      cases y <;> first
        | (cases n <;> (simp only [peq] at h; cases h); done)
        | exact absurd ⟨rfl, rfl⟩ (hnl _ _)
    | rng i i2 =>
      cases y <;> (cases n <;> (simp only [peq] at h; cases h))
  intro n
  induction n with
  | zero =>
    intro x y b h
    refine base 0 x y b (fun xs ys q => ?_) (fun xs ys q => ?_) h
    · obtain ⟨rfl, rfl⟩ := q
      simp only [peq] at h
      cases h
    · obtain ⟨rfl, rfl⟩ := q
      simp only [peq] at h
      cases h
  | succ n ih =>
    intro x y b h v w u1 u2 hx hy r1 r2 A hu
    by_cases ht : ∃ xs ys, x = .tup xs ∧ y = .tup ys
    · obtain ⟨xs, ys, rfl, rfl⟩ := ht
      simp only [peq] at h
      exact k3_tuples I ih h hx hy r1 r2 (by omega)
    · by_cases hf : ∃ xs ys, x = .frl xs ∧ y = .frl ys
      · obtain ⟨xs, ys, rfl, rfl⟩ := hf
        simp only [peq] at h
        exact k3_lists I ih h hx hy r1 r2 (by omega)
      · exact base (n + 1) x y b (fun xs ys q => ht ⟨xs, ys, q⟩) (fun xs ys q => hf ⟨xs, ys, q⟩) h v w u1 u2 hx hy r1 r2 A hu
end
end MP

/-! MP 6: what is wanted of an outcome; operators by values. -/
namespace MP
open PySem PySem.Spec PyProof.Rows L2
section
variable (K : PySem.W.Frag) (mg : Str → Option Value)
def Post0 {α : Type} (P : Pl) (H : Hp) (o : Out α) (Q : α → List HObj → Pl → Hp → Prop) : Prop := match o with
  | .ok a L' => ∀ (P' : Pl) (H' : Hp), Ext P H P' H' → Rel K mg P' L' H' → Q a L' P' H'
  | .exc _ _ _ => True
  | .stuck => False
/-- what is handed on: a value that lies so -/
abbrev Hand (Q : VK) : PV → List HObj → Pl → Hp → Prop := fun z _ P2 H2 => ∀ u, RV K mg P2 H2 z u → Q u H2
def rB (o : Bop) : R2 := fun v w H Q => ∃ (P : Pl) (L : List HObj) (x y : PV), Rel K mg P L H ∧ RV K mg P H x v ∧ RV K mg P H y w ∧ Post0 K mg P H (binop o x y L) (Hand K mg Q)
def rC (o : Cop) : R2 := fun v w H Q => ∃ (P : Pl) (L : List HObj) (x y : PV), Rel K mg P L H ∧ RV K mg P H x v ∧ RV K mg P H y w ∧ Post0 K mg P H (cmpop o x y L) (fun b _ _ H2 => Q (.bl b) H2)
end
section
variable {K : PySem.W.Frag} {mg : Str → Option Value} {P : Pl} {H : Hp} {L : List HObj}
theorem Rel.lst (R : Rel K mg P L H) {m : Nat} {xs : List PV} {v : V} (h : L[m]? = some (.lst xs)) (r : RV K mg P H (.ref m) v) : ∃ a vs, v = .ref a ∧ P.A[m]? = some a ∧ H a = some (.lst vs) ∧ RVs K mg P H xs vs := by
  obtain ⟨a, h1, h2⟩ := r
  obtain ⟨ho, h3, vs, h4, h5⟩ := R.obj m _ a h h2
  subst h4
  exact ⟨a, vs, h1, h2, h3, h5⟩
theorem Rel.seq (R : Rel K mg P L H) {m : Nat} {xs : List PV} {v : V} (h : seqOf L m = some xs) (r : RV K mg P H (.ref m) v) : ∃ a vs, v = .ref a ∧ SqL K H a vs ∧ RVs K mg P H xs vs := by
  unfold seqOf at h
  split at h
  · rename_i ys e
    cases h
    obtain ⟨a, vs, h1, h2, h3, h4⟩ := R.lst e r
    exact ⟨a, vs, h1, SqL.of h3, h4⟩
  · rename_i ys e
    cases h
    obtain ⟨a, h1, h2⟩ := r
    obtain ⟨ho, h3, o, vs, h4, h5⟩ := R.obj m _ a e h2
    subst h4
    exact ⟨a, vs, h1, .inl (.inr ⟨o, h3⟩), h5⟩
  · cases h
  · cases h
theorem Rel.seqL (R : Rel K mg P L H) {x : PV} {xs : List PV} {v : V} (h : MP.seqL L x = some xs) (r : RV K mg P H x v) : ∃ a vs, v = .ref a ∧ SqL K H a vs ∧ RVs K mg P H xs vs := by
  cases x <;> try (cases h; done)
  · exact R.seq h r
  · cases h
    obtain ⟨a, vs, h1, h2, h3⟩ := r
    exact ⟨a, vs, h1, h2.l, h3⟩
/-- a new tuple is handed on -/
theorem q_tup {Q : VK} {zs : List PV} {ws : List V} (R : Rel K mg P L H) (r : RVs K mg P H zs ws) (h : ∀ (P' : Pl) (H' : Hp), Ext P H P' H' → Rel K mg P' L H' → ∀ u, RV K mg P' H' (.tup zs) u → Q u H') : NewT ws H Q := fun p o hp ho =>
  h P _ (Ext.fresh hp) (R.fresh hp) _ ⟨p, ws, rfl, SqD.new ho, r.mono (Ext.fresh hp)⟩
theorem q_tup' {Q : VK} {zs : List PV} {ws : List V} {a : Addr} (R : Rel K mg P L H) (r : RVs K mg P H zs ws) (t : SqD K H a ws) (h : ∀ (P' : Pl) (H' : Hp), Ext P H P' H' → Rel K mg P' L H' → ∀ u, RV K mg P' H' (.tup zs) u → Q u H') : Q (.ref a) H :=
  h P _ Ext.refl R _ ⟨a, ws, rfl, t, r⟩
/-- a new list is handed on -/
theorem q_lst {Q : VK} {zs : List PV} {ws : List V} (R : Rel K mg P L H) (r : RVs K mg P H zs ws) (h : ∀ (P' : Pl) (H' : Hp), Ext P H P' H' → Rel K mg P' (L ++ [.lst zs]) H' → ∀ u, RV K mg P' H' (.ref L.length) u → Q u H') {p : Addr} (hp : H p = none) : Q (.ref p) (upd H p (.lst ws)) :=
  h (P.add p) _ (Ext.add hp) (R.add hp ⟨ws, rfl, r.mono (Ext.add hp)⟩) _ ⟨p, rfl, by show (P.A ++ [p])[L.length]? = some p; rw [← R.len]; simp⟩
/-- a list is changed -/
theorem q_put {Q : Hp → Prop} {zs : List PV} {ws xs : List V} {n : Nat} {a : Addr} (R : Rel K mg P L H) (ha : P.A[n]? = some a) (e : H a = some (.lst xs)) (r : RVs K mg P H zs ws) (h : ∀ (P' : Pl) (H' : Hp), Ext P H P' H' → Rel K mg P' (L.set n (.lst zs)) H' → Q H') : Q (upd H a (.lst ws)) :=
  h P _ (Ext.put R ha e) (R.put ha e ⟨ws, rfl, r.mono (Ext.put R ha e)⟩)
end
section
variable {X : Cx}
theorem rep_flat : ∀ (k : Nat) {xs : List PV} {vs : List V} {P : Pl} {H : Hp}, RVs X.K X.mg P H xs vs → RVs X.K X.mg P H (List.replicate k xs).flatten (List.replicate k vs).flatten
  | 0, _, _, _, _, _ => rfl
  | k + 1, _, _, _, _, r => by
    rw [List.replicate_succ, List.replicate_succ, List.flatten_cons, List.flatten_cons]
    exact r.append (rep_flat k r)
/-- l + l -/
theorem op_catL : OpR X (binaryOp .Add) (fun x y H Q => ∃ l b xs ys, x = .ref l ∧ y = .ref b ∧ SqL X.K H l xs ∧ SqL X.K H b ys ∧ xs.length + ys.length ≤ sizeLine ∧ ∀ p, H p = none → Q (.ref p) (upd H p (.lst (xs ++ ys)))) := by
  intro pins s σ H x y v u Q I rx ry h
  obtain ⟨l, b, xs, ys, rfl, rfl, hl, hb, hz, q⟩ := h
  cases rx
  cases ry
  obtain ⟨its, r1, p1, _⟩ := I.list hl
  obtain ⟨its2, r2, p2, _⟩ := I.list hb
  obtain ⟨⟨cls, dd, data, sl⟩, ho, hc, n, hd⟩ := p1.isList
  obtain ⟨⟨cls2, dd2, data2, sl2⟩, ho2, hc2, n2, hd2⟩ := p2.isList
  simp only at hc hd hc2 hd2
  subst hc hd hc2 hd2
  have e : its.toArray ++ its2.toArray = (its ++ its2).toArray := by simp
  refine concat_meets ⟨_, ho, rfl⟩ ⟨_, ho2, rfl⟩ noFill_list_add seq_list_add PySem.F.slot_list_add PySem.F.entry_list_add (PySem.F.args_list_add_2 _ _) (list_addW l b its.toArray its2.toArray n n2 dd dd2 sl sl2 (by simp only [List.size_toArray]; rw [← r1.length, ← r2.length]; exact hz)) ⟨ho, ho2, ?_⟩
  rw [e]
  exact ⟨.ref _, _, I.lnew (t' := s.toks) (r1.append r2) (by rw [List.length_append]; omega), rfl, q _ I.fresh⟩
theorem ob_catP {pins : List (Addr × Obj)} {s : Shared} {σ : L2.St} {H : Hp} {v w : V} {u1 u2 : Value} {Q : VK} (I : Inv X pins σ H s) (r1 : RelV v u1) (r2 : RelV w u2) {P : Pl} {L : List HObj} {x y : PV} (R : Rel X.K X.mg P L H) (hx : RV X.K X.mg P H x v) (hy : RV X.K X.mg P H y w)
    (h : Post0 X.K X.mg P H (catP L (seqL L x) (seqL L y)) (Hand X.K X.mg Q)) : wpAny (model X.prog X.w) X.A (binaryOp .Add u1 u2) (EP X pins σ Q) X.xe s := by
  cases e1 : seqL L x with
  | none => rw [e1] at h; exact h.elim
  | some xs =>
    cases e2 : seqL L y with
    | none => rw [e1, e2] at h; exact h.elim
    | some ys =>
      rw [e1, e2] at h
      simp only [catP] at h
      split at h
      · rename_i hc
        obtain ⟨a, vs, f1, f2, f3⟩ := R.seqL e1 hx
        obtain ⟨b, ws, g1, g2, g3⟩ := R.seqL e2 hy
        have hl : vs.length + ws.length ≤ sizeLine := by rw [sizeLine_eq, ← f3.length, ← g3.length]; exact hc
        exact op_catL pins s σ H v w u1 u2 Q I r1 r2 ⟨a, b, vs, ws, f1, g1, f2, g2, hl, fun p hp => q_lst R (f3.append g3) h hp⟩
      · exact False.elim h
theorem ob_add : OpR X (binaryOp .Add) (rB X.K X.mg .add) := by
  intro pins s σ H v w u1 u2 Q I r1 r2 h
  obtain ⟨P, L, x, y, R, hx, hy, h⟩ := h
  cases x <;> cases y <;> try exact False.elim h
  · exact op_add pins s σ H v w u1 u2 Q I r1 r2 ⟨_, _, hx, hy, h P H Ext.refl R _ rfl⟩
  · simp only [binop] at h
    split at h
    · rename_i hc
      exact op_add_str pins s σ H v w u1 u2 Q I r1 r2 ⟨_, _, hx, hy, by rw [sizeLine_eq]; exact hc, h P H Ext.refl R _ rfl⟩
    · exact False.elim h
  · simp only [binop] at h
    split at h
    · rename_i xs ys hc
      obtain ⟨a, vs, e1, t1, p1⟩ := hx
      obtain ⟨b, ws, e2, t2, p2⟩ := hy
      have hl : vs.length + ws.length ≤ sizeLine := by rw [sizeLine_eq, ← p1.length, ← p2.length]; exact hc
      refine op_catF pins s σ H v w u1 u2 Q I r1 r2 ⟨a, b, vs, ws, e1, e2, t1.1, t2.1, hl, fun q => ?_, fun q q2 => ?_, fun _ _ => q_tup R (p1.append p2) h⟩
      · refine q_tup' R (p1.append p2) ?_ h
        rw [q]
        exact t2
      · refine q_tup' R (p1.append p2) ?_ h
        rw [q2, List.append_nil]
        exact t1
    · exact False.elim h
  · exact ob_catP I r1 r2 R hx hy h
  · exact ob_catP I r1 r2 R hx hy h
  · exact ob_catP I r1 r2 R hx hy h
  · exact ob_catP I r1 r2 R hx hy h
theorem ob_sub : OpR X (binaryOp .Sub) (rB X.K X.mg .sub) := by
  intro pins s σ H v w u1 u2 Q I r1 r2 h
  obtain ⟨P, L, x, y, R, hx, hy, h⟩ := h
  cases x <;> cases y <;> try exact False.elim h
  exact op_sub pins s σ H v w u1 u2 Q I r1 r2 ⟨_, _, hx, hy, h P H Ext.refl R _ rfl⟩
theorem ob_fdiv : OpR X (binaryOp .FloorDiv) (rB X.K X.mg .fdiv) := by
  intro pins s σ H v w u1 u2 Q I r1 r2 h
  obtain ⟨P, L, x, y, R, hx, hy, h⟩ := h
  cases x <;> cases y <;> try exact False.elim h
  simp only [binop] at h
  split at h
  · rename_i hc
    exact op_fdivW pins s σ H v w u1 u2 Q I r1 r2 ⟨_, _, hx, hy, hc, h P H Ext.refl R _ rfl⟩
  · exact False.elim h
theorem ob_mod : OpR X (binaryOp .Mod) (rB X.K X.mg .mod) := by
  intro pins s σ H v w u1 u2 Q I r1 r2 h
  obtain ⟨P, L, x, y, R, hx, hy, h⟩ := h
  cases x <;> cases y <;> try exact False.elim h
  simp only [binop] at h
  split at h
  · rename_i hc
    exact op_mod pins s σ H v w u1 u2 Q I r1 r2 ⟨_, _, hx, hy, hc, h P H Ext.refl R _ rfl⟩
  · exact False.elim h
theorem ob_pow : OpR X (binaryOp .Pow) (rB X.K X.mg .pow) := by
  intro pins s σ H v w u1 u2 Q I r1 r2 h
  obtain ⟨P, L, x, y, R, hx, hy, h⟩ := h
  cases x <;> cases y <;> try exact False.elim h
  simp only [binop] at h
  split at h
  · rename_i hc
    exact op_pow pins s σ H v w u1 u2 Q I r1 r2 ⟨_, _, hx, hy, hc, h P H Ext.refl R _ rfl⟩
  · exact False.elim h
end
section
variable {X : Cx}
theorem ob_mul : OpR X (binaryOp .Mult) (rB X.K X.mg .mul) := by
  intro pins s σ H v w u1 u2 Q I r1 r2 h
  obtain ⟨P, L, x, y, R, hx, hy, h⟩ := h
  cases x <;> cases y <;> try exact False.elim h
  · simp only [binop] at h
    split at h
    · rename_i hc
      rcases hc with hc | hc
      · exact op_mul pins s σ H v w u1 u2 Q I r1 r2 ⟨_, _, hx, hy, hc, h P H Ext.refl R _ rfl⟩
      · exact op_mulW pins s σ H v w u1 u2 Q I r1 r2 ⟨_, _, hx, hy, hc, h P H Ext.refl R _ rfl⟩
    · exact False.elim h
  · simp only [binop] at h
    split at h
    · rename_i xs k hc
      obtain ⟨a, vs, e1, t1, p1⟩ := hx
      have hl := p1.length
      refine op_repF pins s σ H v w u1 u2 Q I r1 r2 ⟨a, k, vs, e1, hy, t1.1, hc.2.2, hc.1, by omega, fun q => ?_, q_tup R (rep_flat k.toNat p1) h⟩
      refine q_tup' R (rep_flat k.toNat p1) ?_ h
      rcases q with q | q
      · subst q
        simpa using t1
      · subst q
        have e : (List.replicate k.toNat ([] : List V)).flatten = [] := by simp
        rw [e]
        exact t1
    · exact False.elim h
end
end MP

/-! MP 7: comparisons, truth, built-in functions, methods, subscripts by values. -/
namespace MP
open PySem PySem.Spec PyProof.Rows L2
open PySem.SeqAt (EqAt RcAt)
open PySem.SeqAt (RcNeAt)
section
variable {K : PySem.W.Frag} {mg : Str → Option Value} {P : Pl} {H : Hp} {L : List HObj}
theorem RV.flat {x : PV} {v : V} (h : RV K mg P H x v) (f : x.flat = true) : flatV v = true := by
  cases x <;> first
    | (cases f; done)
    | (rw [show v = _ from h]; rfl)
theorem RVs.flat : ∀ {xs : List PV} {vs : List V}, RVs K mg P H xs vs → xs.all PV.flat = true → vs.all flatV = true
  | [], _, h, _ => by cases (show _ = [] from h); rfl
  | x :: xs, _, h, f => by
    obtain ⟨v, r, e, h1, h2⟩ := h
    subst e
    rw [List.all_cons, Bool.and_eq_true] at f
    rw [List.all_cons, h1.flat f.1, RVs.flat h2 f.2]
    rfl
theorem RV.feq {x y : PV} {v w : V} (h : RV K mg P H x v) (f : x.flat = true) (h2 : RV K mg P H y w) (f2 : y.flat = true) : eqV v w = feq x y := by
  cases x <;> first
    | (cases f; done)
    | (cases y <;> first
      | (cases f2; done)
      | (rw [show v = _ from h, show w = _ from h2]; rfl))
theorem RVs.feq {x : PV} {w : V} (h2 : RV K mg P H x w) (f2 : x.flat = true) : ∀ {xs : List PV} {vs : List V}, RVs K mg P H xs vs → xs.all PV.flat = true → inV w vs = xs.any fun z => MP.feq z x
  | [], _, h, _ => by cases (show _ = [] from h); rfl
  | y :: xs, _, h, f => by
    obtain ⟨v, r, e, h1, h3⟩ := h
    subst e
    rw [List.all_cons, Bool.and_eq_true] at f
    have ih := RVs.feq h2 f2 h3 f.2
    unfold inV at ih ⊢
    rw [List.any_cons, List.any_cons, ih, RV.feq h1 f.1 h2 f2]
theorem RV.isNon {x : PV} {v : V} (h : RV K mg P H x v) : decide (v = V.non) = x.isNon := by
  cases x with
  | non => rw [show v = _ from h]; rfl
  | bl b => rw [show v = _ from h]; rfl
  | int b => rw [show v = _ from h]; rfl
  | str b => rw [show v = _ from h]; rfl
  | tup xs => obtain ⟨a, vs, e, _⟩ := h; rw [e]; rfl
  | ref n => obtain ⟨a, e, _⟩ := h; rw [e]; rfl
  | cls n => obtain ⟨a, e, _⟩ := h; rw [e]; rfl
  | typ n => rw [show v = _ from h]; rfl
  | obj c n vs => obtain ⟨a, _, _, _, e, _⟩ := h; rw [e]; rfl
  | exn => obtain ⟨a, e⟩ := h; rw [e]; rfl
  | frl xs => obtain ⟨a, vs, e, _⟩ := h; rw [e]; rfl
  | rng lo hi => obtain ⟨a, e, _⟩ := h; rw [e]; rfl
theorem post_not {m : M Bool} {Q : Bool → List HObj → Pl → Hp → Prop} (h : Post0 K mg P H (notM m L) Q) : Post0 K mg P H (m L) (fun b L' P' H' => Q (!b) L' P' H') := by
  unfold notM at h
  cases e : m L with
  | ok b L' => rw [e] at h; exact h
  | exc c f L' => trivial
  | stuck => rw [e] at h; exact h
end
section
variable {X : Cx}
theorem lists_items {pins : List (Addr × Obj)} {σ : L2.St} {H : Hp} {s : Shared} {P : Pl} (I : Inv X pins σ H s) {n : Nat} {xs ys : List PV} {b : Bool} {a a' : Addr} {vs ws : List V} (h : peqs (peq n) xs ys = some b) (p1 : RVs X.K X.mg P H xs vs) (p2 : RVs X.K X.mg P H ys ws)
    (q1 : SqL X.K H a vs) (q2 : SqL X.K H a' ws) {A : Around} (hu : A.units + n + 2 < cLine) :
    RcAt A s (.ref a) (.ref a') b ∧ RcNeAt A s (.ref a) (.ref a') (!b) := by
  obtain ⟨its, rr1, t1, _⟩ := I.list q1
  obtain ⟨its', rr2, t2, _⟩ := I.list q2
  have t1 := t1.isList
  have t2 := t2.isList
  obtain ⟨e, he, hb⟩ := peqs_range xs ys b h
  have l1 : its.toArray.size = xs.length := by rw [List.size_toArray, ← rr1.length, ← p1.length]
  have l2 : its'.toArray.size = ys.length := by rw [List.size_toArray, ← rr2.length, ← p2.length]
  have items : ∀ j (h1 : j < its.toArray.size) (h2 : j < its'.toArray.size), EqAt A.in1 s its.toArray[j] its'.toArray[j] (e j) := fun j h1 h2 => by
    have g1 : xs[j]? = some xs[j] := List.getElem?_eq_getElem (by omega)
    have g2 : ys[j]? = some ys[j] := List.getElem?_eq_getElem (by omega)
    obtain ⟨v1, b1, c1⟩ := p1.get g1
    obtain ⟨v2, b2, c2⟩ := p2.get g2
    obtain ⟨w1, d1, f1⟩ := rr1.get b1
    obtain ⟨w2, d2, f2⟩ := rr2.get b2
    have k := k3_of I n _ _ _ (he j _ _ g1 g2) v1 v2 w1 w2 c1 c2 f1 f2 A.in1 (by show A.units + 1 + n + 1 < cLine; omega)
    have s1 : its.toArray[j] = w1 := by
      obtain ⟨_, z⟩ := List.getElem?_eq_some_iff.mp d1
      simpa using z
    have s2 : its'.toArray[j] = w2 := by
      obtain ⟨_, z⟩ := List.getElem?_eq_some_iff.mp d2
      simpa using z
    rw [s1, s2]
    exact k.eq
  have hu' : A.units < cLine := by omega
  by_cases hl : xs.length = ys.length
  · have hsz : its.toArray.size = its'.toArray.size := by rw [l1, l2, hl]
    have hb' : b = (List.range its.toArray.size).all e := by rw [hb, l1, hl]; simp
    rw [hb']
    exact ⟨RcAt.lists t1 t2 hsz hu' items, RcNeAt.lists t1 t2 hsz hu' items⟩
  · have hsz : (its.toArray.size != its'.toArray.size) = true := by rw [l1, l2]; simpa using hl
    have hb' : b = false := by rw [hb]; simp [hl]
    rw [hb']
    exact ⟨RcAt.lists_lengths t1 t2 hsz hu', RcNeAt.lists_lengths t1 t2 hsz hu'⟩
/-- == and != -/
theorem oc_eqne (hu : X.A.units + 200 < cLine) {pins : List (Addr × Obj)} {s : Shared} {σ : L2.St} {H : Hp} {v w : V} {u1 u2 : Value} (I : Inv X pins σ H s) (r1 : RelV v u1) (r2 : RelV w u2) {P : Pl} {L : List HObj} {x y : PV}
    (R : Rel X.K X.mg P L H) (hx : RV X.K X.mg P H x v) (hy : RV X.K X.mg P H y w) {Q : Bool → List HObj → Pl → Hp → Prop} (h : Post0 X.K X.mg P H (cEq x y L) Q) : ∃ b, RcAt X.A s u1 u2 b ∧ RcNeAt X.A s u1 u2 (!b) ∧ Q b L P H := by
  unfold cEq at h
  cases e1 : seqL L x with
  | none =>
    rw [e1] at h
    simp only at h
    split at h
    · rename_i b hb
      have k := k3_of I 100 x y b hb v w u1 u2 hx hy r1 r2 X.A (by omega)
      exact ⟨b, k.rc, k.ne, h P H Ext.refl R⟩
    · exact False.elim h
  | some xs =>
    cases e2 : seqL L y with
    | none =>
      rw [e1, e2] at h
      simp only at h
      split at h
      · rename_i b hb
        have k := k3_of I 100 x y b hb v w u1 u2 hx hy r1 r2 X.A (by omega)
        exact ⟨b, k.rc, k.ne, h P H Ext.refl R⟩
      · exact False.elim h
    | some ys =>
      rw [e1, e2] at h
      simp only at h
      split at h
      · rename_i b hb
        obtain ⟨a, vs, f1, f2, f3⟩ := R.seqL e1 hx
        obtain ⟨a', ws, g1, g2, g3⟩ := R.seqL e2 hy
        subst f1 g1
        cases r1
        cases r2
        obtain ⟨z1, z2⟩ := lists_items (A := X.A) I hb f3 g3 f2 g2 (by omega)
        exact ⟨b, z1, z2, h P H Ext.refl R⟩
      · exact False.elim h
theorem oc_eq (hu : X.A.units + 200 < cLine) : OpR X (compareOp .Eq) (rC X.K X.mg .eq) := by
  intro pins s σ H v w u1 u2 Q I r1 r2 h
  obtain ⟨P, L, x, y, R, hx, hy, h⟩ := h
  obtain ⟨b, z1, _, q⟩ := oc_eqne hu I r1 r2 R hx hy h
  exact z1 X.prog X.w _ _ ⟨.bl b, H, I, rfl, q⟩
theorem oc_ne (hu : X.A.units + 200 < cLine) : OpR X (compareOp .NotEq) (rC X.K X.mg .ne) := by
  intro pins s σ H v w u1 u2 Q I r1 r2 h
  obtain ⟨P, L, x, y, R, hx, hy, h⟩ := h
  obtain ⟨b, _, z1, q⟩ := oc_eqne hu I r1 r2 R hx hy (post_not h)
  exact z1 X.prog X.w _ _ ⟨.bl (!b), H, I, rfl, q⟩
theorem oc_lt : OpR X (compareOp .Lt) (rC X.K X.mg .lt) := by
  intro pins s σ H v w u1 u2 Q I r1 r2 h
  obtain ⟨P, L, x, y, R, hx, hy, h⟩ := h
  cases x <;> cases y <;> try exact False.elim h
  exact op_lt pins s σ H v w u1 u2 Q I r1 r2 ⟨_, _, hx, hy, h P H Ext.refl R⟩
theorem oc_le : OpR X (compareOp .LtE) (rC X.K X.mg .le) := by
  intro pins s σ H v w u1 u2 Q I r1 r2 h
  obtain ⟨P, L, x, y, R, hx, hy, h⟩ := h
  cases x <;> cases y <;> try exact False.elim h
  exact op_le pins s σ H v w u1 u2 Q I r1 r2 ⟨_, _, hx, hy, h P H Ext.refl R⟩
theorem oc_gt : OpR X (compareOp .Gt) (rC X.K X.mg .gt) := by
  intro pins s σ H v w u1 u2 Q I r1 r2 h
  obtain ⟨P, L, x, y, R, hx, hy, h⟩ := h
  cases x <;> cases y <;> try exact False.elim h
  exact op_gt pins s σ H v w u1 u2 Q I r1 r2 ⟨_, _, hx, hy, h P H Ext.refl R⟩
theorem oc_ge : OpR X (compareOp .GtE) (rC X.K X.mg .ge) := by
  intro pins s σ H v w u1 u2 Q I r1 r2 h
  obtain ⟨P, L, x, y, R, hx, hy, h⟩ := h
  cases x <;> cases y <;> try exact False.elim h
  exact op_ge pins s σ H v w u1 u2 Q I r1 r2 ⟨_, _, hx, hy, h P H Ext.refl R⟩
theorem oc_isn : OpR X (compareOp .Is) (rC X.K X.mg .isn) := by
  intro pins s σ H v w u1 u2 Q I r1 r2 h
  obtain ⟨P, L, x, y, R, hx, hy, h⟩ := h
  cases y <;> try exact False.elim h
  refine op_isN pins s σ H v w u1 u2 Q I r1 r2 ⟨hy, ?_⟩
  rw [hx.isNon]
  exact h P H Ext.refl R
theorem oc_isnotn : OpR X (compareOp .IsNot) (rC X.K X.mg .isnotn) := by
  intro pins s σ H v w u1 u2 Q I r1 r2 h
  obtain ⟨P, L, x, y, R, hx, hy, h⟩ := h
  have h := post_not h
  cases y <;> try exact False.elim h
  refine op_notN pins s σ H v w u1 u2 Q I r1 r2 ⟨hy, ?_⟩
  rw [hx.isNon]
  exact h P H Ext.refl R
theorem oc_isin : OpR X (compareOp .In) (rC X.K X.mg .isin) := by
  intro pins s σ H v w u1 u2 Q I r1 r2 h
  obtain ⟨P, L, x, y, R, hx, hy, h⟩ := h
  replace h : Post0 X.K X.mg P H (cIn x y L) _ := h
  cases y <;> try exact False.elim h
  · rename_i t
    cases x <;> try exact False.elim h
    exact op_in_str pins s σ H v w u1 u2 Q I r1 r2 ⟨_, _, hx, hy, h P H Ext.refl R⟩
  · rename_i ys
    simp only [cIn] at h
    split at h
    · rename_i hc
      rw [Bool.and_eq_true] at hc
      obtain ⟨a, ws, e, t, p⟩ := hy
      refine op_in_seq pins s σ H v w u1 u2 Q I r1 r2 ⟨a, ws, e, .inr t.1, hx.flat hc.1, p.flat hc.2, ?_⟩
      have q : Q (.bl (ys.any fun z => feq z x)) H := h P H Ext.refl R
      rw [← RVs.feq hx hc.1 p hc.2] at q
      exact q
    · exact False.elim h
  · rename_i n
    simp only [cIn] at h
    split at h
    · rename_i ys hs
      split at h
      · rename_i hc
        rw [Bool.and_eq_true] at hc
        obtain ⟨a, ws, e, t, p⟩ := R.seq hs hy
        refine op_in_seq pins s σ H v w u1 u2 Q I r1 r2 ⟨a, ws, e, .inl t, hx.flat hc.1, p.flat hc.2, ?_⟩
        have q : Q (.bl (ys.any fun z => feq z x)) H := h P H Ext.refl R
        rw [← RVs.feq hx hc.1 p hc.2] at q
        exact q
      · exact False.elim h
    · exact False.elim h
  · rename_i ys
    simp only [cIn] at h
    split at h
    · rename_i hc
      rw [Bool.and_eq_true] at hc
      obtain ⟨a, ws, e, t, p⟩ := hy
      refine op_in_seq pins s σ H v w u1 u2 Q I r1 r2 ⟨a, ws, e, .inl t.l, hx.flat hc.1, p.flat hc.2, ?_⟩
      have q : Q (.bl (ys.any fun z => feq z x)) H := h P H Ext.refl R
      rw [← RVs.feq hx hc.1 p hc.2] at q
      exact q
    · exact False.elim h
theorem oc_notin : OpR X (compareOp .NotIn) (rC X.K X.mg .notin) := by
  intro pins s σ H v w u1 u2 Q I r1 r2 h
  obtain ⟨P, L, x, y, R, hx, hy, h⟩ := h
  replace h : Post0 X.K X.mg P H (cIn x y L) _ := post_not h
  cases y <;> try exact False.elim h
  · rename_i t
    cases x <;> try exact False.elim h
    exact L2.op_notIn_str pins s σ H v w u1 u2 Q I r1 r2 ⟨_, _, hx, hy, h P H Ext.refl R⟩
  · rename_i ys
    simp only [cIn] at h
    split at h
    · rename_i hc
      rw [Bool.and_eq_true] at hc
      obtain ⟨a, ws, e, t, p⟩ := hy
      refine op_notIn_seq pins s σ H v w u1 u2 Q I r1 r2 ⟨a, ws, e, .inr t.1, hx.flat hc.1, p.flat hc.2, ?_⟩
      have q : Q (.bl (!ys.any fun z => feq z x)) H := h P H Ext.refl R
      rw [← RVs.feq hx hc.1 p hc.2] at q
      exact q
    · exact False.elim h
  · rename_i n
    simp only [cIn] at h
    split at h
    · rename_i ys hs
      split at h
      · rename_i hc
        rw [Bool.and_eq_true] at hc
        obtain ⟨a, ws, e, t, p⟩ := R.seq hs hy
        refine op_notIn_seq pins s σ H v w u1 u2 Q I r1 r2 ⟨a, ws, e, .inl t, hx.flat hc.1, p.flat hc.2, ?_⟩
        have q : Q (.bl (!ys.any fun z => feq z x)) H := h P H Ext.refl R
        rw [← RVs.feq hx hc.1 p hc.2] at q
        exact q
      · exact False.elim h
    · exact False.elim h
  · rename_i ys
    simp only [cIn] at h
    split at h
    · rename_i hc
      rw [Bool.and_eq_true] at hc
      obtain ⟨a, ws, e, t, p⟩ := hy
      refine op_notIn_seq pins s σ H v w u1 u2 Q I r1 r2 ⟨a, ws, e, .inl t.l, hx.flat hc.1, p.flat hc.2, ?_⟩
      have q : Q (.bl (!ys.any fun z => feq z x)) H := h P H Ext.refl R
      rw [← RVs.feq hx hc.1 p hc.2] at q
      exact q
    · exact False.elim h
def Cop.py : Cop → CmpOp
  | .eq => .Eq | .ne => .NotEq | .lt => .Lt | .le => .LtE | .gt => .Gt | .ge => .GtE | .isin => .In | .notin => .NotIn | .isn => .Is | .isnotn => .IsNot
theorem oc_all (hu : X.A.units + 200 < cLine) (o : Cop) : OpR X (compareOp o.py) (rC X.K X.mg o) := by
  cases o with
  | eq => exact oc_eq hu
  | ne => exact oc_ne hu
  | lt => exact oc_lt
  | le => exact oc_le
  | gt => exact oc_gt
  | ge => exact oc_ge
  | isin => exact oc_isin
  | notin => exact oc_notin
  | isn => exact oc_isn
  | isnotn => exact oc_isnotn
def Bop.py : Bop → Operator
  | .add => .Add | .sub => .Sub | .mul => .Mult | .fdiv => .FloorDiv | .mod => .Mod | .pow => .Pow
theorem ob_all (o : Bop) : OpR X (binaryOp o.py) (rB X.K X.mg o) := by
  cases o with
  | add => exact ob_add
  | sub => exact ob_sub
  | mul => exact ob_mul
  | fdiv => exact ob_fdiv
  | mod => exact ob_mod
  | pow => exact ob_pow
/-- truth -/
def rT (K : PySem.W.Frag) (mg : Str → Option Value) : V → Hp → (Bool → Hp → Prop) → Prop := fun v H Q => ∃ (P : Pl) (L : List HObj) (x : PV), Rel K mg P L H ∧ RV K mg P H x v ∧ Post0 K mg P H (truth x L) (fun b _ _ H2 => Q b H2)
theorem truth_of {K : PySem.W.Frag} {mg : Str → Option Value} {P : Pl} {L : List HObj} {x : PV} {v : V} {H : Hp} {Q : Bool → Hp → Prop} (R : Rel K mg P L H) (hx : RV K mg P H x v) (h : Post0 K mg P H (truth x L) (fun b _ _ H2 => Q b H2)) : ∃ k, TruV K v H k ∧ Q k H := by
  cases x <;> try exact False.elim h
  · rw [show v = _ from hx]; exact ⟨false, rfl, h P H Ext.refl R⟩
  · rw [show v = _ from hx]; exact ⟨_, rfl, h P H Ext.refl R⟩
  · rw [show v = _ from hx]; exact ⟨_, rfl, h P H Ext.refl R⟩
  · rename_i z
    simp only [truth] at h
    split at h
    · rename_i hc
      rw [show v = _ from hx]
      refine ⟨_, ⟨by rw [sizeLine_eq]; exact hc, rfl⟩, ?_⟩
      have q := h P H Ext.refl R
      exact q
    · exact False.elim h
  · obtain ⟨a, vs, e, t, p⟩ := hx
    rename_i xs
    subst e
    refine ⟨!vs.isEmpty, .inr (.inl ⟨vs, t.1, rfl⟩), ?_⟩
    have q : Q (!xs.isEmpty) H := h P H Ext.refl R
    have e : xs.isEmpty = vs.isEmpty := by
      have := p.length
      cases xs <;> cases vs <;> first | rfl | (simp at this)
    rw [← e]
    exact q
  · rename_i n
    simp only [truth] at h
    split at h
    · rename_i xs hs
      obtain ⟨a, vs, e, t, p⟩ := R.seq hs hx
      subst e
      refine ⟨!vs.isEmpty, .inl ⟨vs, t, rfl⟩, ?_⟩
      have q : Q (!xs.isEmpty) H := h P H Ext.refl R
      have e : xs.isEmpty = vs.isEmpty := by
        have := p.length
        cases xs <;> cases vs <;> first | rfl | (simp at this)
      rw [← e]
      exact q
    · exact False.elim h
  · obtain ⟨a, vs, e, t, p⟩ := hx
    rename_i xs
    subst e
    refine ⟨!vs.isEmpty, .inl ⟨vs, t.l, rfl⟩, ?_⟩
    have q : Q (!xs.isEmpty) H := h P H Ext.refl R
    have e : xs.isEmpty = vs.isEmpty := by
      have := p.length
      cases xs <;> cases vs <;> first | rfl | (simp at this)
    rw [← e]
    exact q
end
end MP

/-! MP 8: built-in functions, methods, subscripts, by values. -/
namespace MP
open PySem PySem.Spec PyProof.Rows L2
/-! ### lists of ints -/
theorem asInts_eq : ∀ {xs : List PV} {ns : List Int}, asInts xs = some ns → xs = ns.map PV.int
  | [], ns, h => by cases h; rfl
  | x :: xs, ns, h => by
    cases x <;> first
      | (cases h; done)
      | skip
    rename_i i
    have h' : (asInts xs).map (i :: ·) = some ns := h
    obtain ⟨ms, h1, h2⟩ := Option.map_eq_some_iff.mp h'
    subst h2
    rw [asInts_eq h1]
    rfl
theorem asInts_map : ∀ (ns : List Int), asInts (ns.map PV.int) = some ns
  | [] => rfl
  | n :: ns => by
    show (asInts (ns.map PV.int)).map (n :: ·) = _
    rw [asInts_map ns]
    rfl
theorem asBls_eq : ∀ {xs : List PV} {ns : List Bool}, asBls xs = some ns → xs = ns.map PV.bl
  | [], ns, h => by cases h; rfl
  | x :: xs, ns, h => by
    cases x <;> first
      | (cases h; done)
      | skip
    rename_i i
    have h' : (asBls xs).map (i :: ·) = some ns := h
    obtain ⟨ms, h1, h2⟩ := Option.map_eq_some_iff.mp h'
    subst h2
    rw [asBls_eq h1]
    rfl
theorem asBls_map : ∀ (ns : List Bool), asBls (ns.map PV.bl) = some ns
  | [] => rfl
  | n :: ns => by
    show (asBls (ns.map PV.bl)).map (n :: ·) = _
    rw [asBls_map ns]
    rfl
theorem maxL_mem : ∀ (x : Int) (xs : List Int), maxL (x :: xs) ∈ x :: xs ∧ ∀ y, y ∈ x :: xs → y ≤ maxL (x :: xs)
  | x, [] => ⟨by simp [maxL], by simp [maxL]⟩
  | x, z :: zs => by
    obtain ⟨h1, h2⟩ := maxL_mem z zs
    have e : maxL (x :: z :: zs) = if x < maxL (z :: zs) then maxL (z :: zs) else x := rfl
    rw [e]
    split
    · rename_i hc
      exact ⟨List.mem_cons_of_mem _ h1, fun y hy => by
        rcases List.mem_cons.mp hy with rfl | hy
        · omega
        · exact h2 y hy⟩
    · rename_i hc
      exact ⟨List.mem_cons_self, fun y hy => by
        rcases List.mem_cons.mp hy with rfl | hy
        · omega
        · have := h2 y hy
          omega⟩
theorem minL_mem : ∀ (x : Int) (xs : List Int), minL (x :: xs) ∈ x :: xs ∧ ∀ y, y ∈ x :: xs → minL (x :: xs) ≤ y
  | x, [] => ⟨by simp [minL], by simp [minL]⟩
  | x, z :: zs => by
    obtain ⟨h1, h2⟩ := minL_mem z zs
    have e : minL (x :: z :: zs) = if minL (z :: zs) < x then minL (z :: zs) else x := rfl
    rw [e]
    split
    · rename_i hc
      exact ⟨List.mem_cons_of_mem _ h1, fun y hy => by
        rcases List.mem_cons.mp hy with rfl | hy
        · omega
        · exact h2 y hy⟩
    · rename_i hc
      exact ⟨List.mem_cons_self, fun y hy => by
        rcases List.mem_cons.mp hy with rfl | hy
        · omega
        · have := h2 y hy
          omega⟩
theorem maxL_eq {m x : Int} {xs : List Int} (h1 : m ∈ x :: xs) (h2 : ∀ y, y ∈ x :: xs → y ≤ m) : m = maxL (x :: xs) := by
  obtain ⟨h3, h4⟩ := maxL_mem x xs
  have := h2 _ h3
  have := h4 _ h1
  omega
theorem minL_eq {m x : Int} {xs : List Int} (h1 : m ∈ x :: xs) (h2 : ∀ y, y ∈ x :: xs → m ≤ y) : m = minL (x :: xs) := by
  obtain ⟨h3, h4⟩ := minL_mem x xs
  have := h2 _ h3
  have := h4 _ h1
  omega
theorem insI_perm (x : Int) : ∀ ys : List Int, (insI x ys).Perm (x :: ys)
  | [] => .refl _
  | y :: ys => by
    unfold insI
    split
    · exact .refl _
    · exact ((insI_perm x ys).cons y).trans (.swap x y ys)
theorem sortI_perm : ∀ xs : List Int, (sortI xs).Perm xs
  | [] => .refl _
  | x :: xs => (insI_perm x (sortI xs)).trans ((sortI_perm xs).cons x)
theorem insI_pw {x : Int} : ∀ {ys : List Int}, ys.Pairwise (· ≤ ·) → (insI x ys).Pairwise (· ≤ ·)
  | [], _ => by simp [insI]
  | y :: ys, h => by
    rw [List.pairwise_cons] at h
    unfold insI
    split
    · rename_i hc
      refine List.pairwise_cons.mpr ⟨fun z hz => ?_, List.pairwise_cons.mpr h⟩
      rcases List.mem_cons.mp hz with rfl | hz
      · exact hc
      · exact Int.le_trans hc (h.1 z hz)
    · rename_i hc
      refine List.pairwise_cons.mpr ⟨fun z hz => ?_, insI_pw h.2⟩
      have hz' := (insI_perm x ys).mem_iff.mp hz
      rcases List.mem_cons.mp hz' with rfl | hz'
      · omega
      · exact h.1 z hz'
theorem sortI_pw : ∀ xs : List Int, (sortI xs).Pairwise (· ≤ ·)
  | [] => .nil
  | x :: xs => insI_pw (sortI_pw xs)
theorem sortI_eq {xs ys : List Int} (h1 : ys.Perm xs) (h2 : ys.Pairwise (· ≤ ·)) : ys = sortI xs := PySem.W.ksm_same (h1.trans (sortI_perm xs).symm) h2 (sortI_pw xs)

section
variable (K : PySem.W.Frag) (mg : Str → Option Value)
def rF (b : Blt) : List V → Hp → VK → Prop := fun vs H Q => ∃ (P : Pl) (L : List HObj) (xs : List PV), Rel K mg P L H ∧ RVs K mg P H xs vs ∧ Post0 K mg P H (bltin b xs L) (Hand K mg Q)
/-- tuple, list, str -/
def PV.kd : PV → Nat
  | .tup _ => 0
  | .ref _ => 1
  | .frl _ => 1
  | .str _ => 2
  | _ => 3
def rM (m : Mth) (k : Nat) : V → List V → Hp → VK → Prop := fun v vs H Q => ∃ (P : Pl) (L : List HObj) (x : PV) (xs : List PV), x.kd = k ∧ Rel K mg P L H ∧ RV K mg P H x v ∧ RVs K mg P H xs vs ∧ Post0 K mg P H (meth m x xs L) (Hand K mg Q)
end
section
variable {K : PySem.W.Frag} {mg : Str → Option Value} {P : Pl} {H : Hp} {L : List HObj}
theorem RVs.one {x : PV} {vs : List V} (h : RVs K mg P H [x] vs) : ∃ v, vs = [v] ∧ RV K mg P H x v := by
  obtain ⟨v, r, e, h1, h2⟩ := h
  cases (show r = [] from h2)
  exact ⟨v, e, h1⟩
theorem RVs.two {x y : PV} {vs : List V} (h : RVs K mg P H [x, y] vs) : ∃ v w, vs = [v, w] ∧ RV K mg P H x v ∧ RV K mg P H y w := by
  obtain ⟨v, r, e, h1, h2⟩ := h
  obtain ⟨w, e2, h3⟩ := RVs.one h2
  subst e2
  exact ⟨v, w, e, h1, h3⟩
theorem RVs.nil' {vs : List V} (h : RVs K mg P H [] vs) : vs = [] := h
end
section
variable {X : Cx}
theorem cb_len : CallR X (.builtin "len") (rF X.K X.mg .len) := by
  intro pins s σ H vs us Q I r h
  obtain ⟨P, L, xs, R, rx, h⟩ := h
  cases xs with
  | nil => exact False.elim h
  | cons x t =>
    cases t with
    | cons y t => cases x <;> exact False.elim h
    | nil =>
      obtain ⟨v, rfl, rv⟩ := rx.one
      cases x <;> try exact False.elim h
      · simp only [bltin] at h
        split at h
        · rename_i hc
          exact call_len pins s σ H _ us Q I r ⟨_, _, rfl, by rw [show v = _ from rv]; exact ⟨by rw [sizeLine_eq]; exact hc, rfl⟩, h P H Ext.refl R _ rfl⟩
        · exact False.elim h
      · obtain ⟨a, ws, e, t, p⟩ := rv
        refine call_len pins s σ H _ us Q I r ⟨_, _, rfl, by rw [e]; exact .inr ⟨ws, t.1, rfl⟩, ?_⟩
        rw [← p.length]
        exact h P H Ext.refl R _ rfl
      · simp only [bltin] at h
        split at h
        · rename_i ys hs
          obtain ⟨a, ws, e, t, p⟩ := R.seq hs rv
          refine call_len pins s σ H _ us Q I r ⟨_, _, rfl, by rw [e]; exact .inl ⟨ws, t, rfl⟩, ?_⟩
          rw [← p.length]
          exact h P H Ext.refl R _ rfl
        · exact False.elim h
      · obtain ⟨a, ws, e, t, p⟩ := rv
        refine call_len pins s σ H _ us Q I r ⟨_, _, rfl, by rw [e]; exact .inl ⟨ws, t.l, rfl⟩, ?_⟩
        rw [← p.length]
        exact h P H Ext.refl R _ rfl
theorem cb_int : CallR X (.type "int") (rF X.K X.mg .int) := by
  intro pins s σ H vs us Q I r h
  obtain ⟨P, L, xs, R, rx, h⟩ := h
  cases xs with
  | nil => exact False.elim h
  | cons x t =>
    cases t with
    | cons y t => cases x <;> exact False.elim h
    | nil =>
      obtain ⟨v, rfl, rv⟩ := rx.one
      cases x <;> try exact False.elim h
      · exact call_int1 pins s σ H _ us Q I r (.inr ⟨_, by rw [show v = _ from rv], h P H Ext.refl R _ rfl⟩)
      · exact call_int1 pins s σ H _ us Q I r (.inl ⟨_, by rw [show v = _ from rv], h P H Ext.refl R _ rfl⟩)
      · simp only [bltin] at h
        split at h
        · rename_i n hn
          split at h
          · rename_i hc
            exact call_int_str pins s σ H _ us Q I r ⟨_, n, by rw [show v = _ from rv], hn, hc, h P H Ext.refl R _ rfl⟩
          · exact False.elim h
        · exact False.elim h
theorem cb_str : CallR X (.type "str") (rF X.K X.mg .str) := by
  intro pins s σ H vs us Q I r h
  obtain ⟨P, L, xs, R, rx, h⟩ := h
  cases xs with
  | nil => exact False.elim h
  | cons x t =>
    cases t with
    | cons y t => cases x <;> exact False.elim h
    | nil =>
      obtain ⟨v, rfl, rv⟩ := rx.one
      cases x <;> try exact False.elim h
      · simp only [bltin] at h
        split at h
        · rename_i hc
          exact call_str_int pins s σ H _ us Q I r ⟨_, by rw [show v = _ from rv], hc, h P H Ext.refl R _ rfl⟩
        · exact False.elim h
      · exact SkE.call_str_str pins s σ H _ us Q I r ⟨_, by rw [show v = _ from rv], h P H Ext.refl R _ rfl⟩
theorem cb_tuple : CallR X (.type "tuple") (rF X.K X.mg .tuple) := by
  intro pins s σ H vs us Q I r h
  obtain ⟨P, L, xs, R, rx, h⟩ := h
  cases xs with
  | nil => exact False.elim h
  | cons x t =>
    cases t with
    | cons y t => cases x <;> exact False.elim h
    | nil =>
      obtain ⟨v, rfl, rv⟩ := rx.one
      cases x <;> try exact False.elim h
      · obtain ⟨a, ws, e, t, p⟩ := id rv
        exact call_tupleF pins s σ H _ us Q I r ⟨a, ws, by rw [e], .inr ⟨t.1, by rw [← e]; exact h P H Ext.refl R _ rv⟩⟩
      · simp only [bltin] at h
        split at h
        · rename_i ys hs
          obtain ⟨a, ws, e, t, p⟩ := R.seq hs rv
          exact call_tupleF pins s σ H _ us Q I r ⟨a, ws, by rw [e], .inl ⟨t, q_tup R p h⟩⟩
        · exact False.elim h
      · obtain ⟨a, ws, e, t, p⟩ := id rv
        exact call_tupleF pins s σ H _ us Q I r ⟨a, ws, by rw [e], .inl ⟨t.l, q_tup R p h⟩⟩
theorem call_listS (hc : X.calm = true) : CallR X (.type "list") (fun xs H Q => ∃ x : Str, xs = [.str x] ∧ x.length ≤ sizeLine ∧ ∀ q, H q = none → Q (.ref q) (upd H q (.lst (x.cps.toList.map fun c => .str ⟨#[c]⟩)))) := by
  intro pins s σ H xs us Q I r h
  obtain ⟨x, e, hz, q⟩ := h
  subst e
  obtain ⟨u, eu, rx⟩ := vals1 r
  subst eu
  obtain ⟨t, rfl⟩ : ∃ t, u = .str x t := rx
  refine call_list_str (I.ok.hd hc) x t (fun h' tk acc' c' hkeep hS hacc => ?_) hz
  refine ⟨.ref s.heap.objs.size, upd H s.heap.objs.size (.lst (x.cps.toList.map fun c => .str ⟨#[c]⟩)), I.laid hkeep (Nat.le_refl _) (show ObjOk X.prog X.w _ _ _ (.lst (x.cps.toList.map fun c => V.str ⟨#[c]⟩)) from ⟨?_, acc'.toList, c', ?_, ?_⟩), rfl, q _ (I.hok.fresh (Nat.le_refl _))⟩
  · rw [List.length_map, Array.length_toList]; exact hz
  · refine vals_of_at (by rw [List.length_map, Array.length_toList, Array.length_toList, hacc.1]) fun j v w h1 h2 => ?_
    obtain ⟨c, t', hj, rfl⟩ := hacc.2 j w (by rw [← Array.getElem?_toList]; exact h2)
    rw [List.getElem?_map, Array.getElem?_toList, hj] at h1
    cases h1
    exact ⟨_, rfl⟩
  · rw [Array.toArray_toList]; exact hS
theorem rv_chars {K : PySem.W.Frag} {mg : Str → Option Value} {P : Pl} {H : Hp} : ∀ cs : List Nat, RVs K mg P H (cs.map fun c => .str ⟨#[c]⟩) (cs.map fun c => .str ⟨#[c]⟩)
  | [] => rfl
  | _ :: cs => .cons rfl (rv_chars cs)
theorem cb_list (hcalm : X.calm = true) : CallR X (.type "list") (rF X.K X.mg .list) := by
  intro pins s σ H vs us Q I r h
  obtain ⟨P, L, xs, R, rx, h⟩ := h
  cases xs with
  | nil => exact False.elim h
  | cons x t =>
    cases t with
    | cons y t => cases x <;> exact False.elim h
    | nil =>
      obtain ⟨v, rfl, rv⟩ := rx.one
      cases x <;> try exact False.elim h
      · simp only [bltin] at h
        split at h
        · rename_i x hz
          exact call_listS hcalm pins s σ H _ us Q I r ⟨x, by rw [show v = .str x from rv], by rw [sizeLine_eq]; exact hz, fun l hl => q_lst R (rv_chars _) h hl⟩
        · exact False.elim h
      · obtain ⟨a, ws, e, t, p⟩ := id rv
        exact call_list_of pins s σ H _ us Q I r ⟨a, ws, by rw [e], .inr t.1, fun l hl => q_lst R p h hl⟩
      · simp only [bltin] at h
        split at h
        · rename_i ys hs
          obtain ⟨a, ws, e, t, p⟩ := R.seq hs rv
          exact call_list_of pins s σ H _ us Q I r ⟨a, ws, by rw [e], .inl t, fun l hl => q_lst R p h hl⟩
        · exact False.elim h
      · obtain ⟨a, ws, e, t, p⟩ := id rv
        exact call_list_of pins s σ H _ us Q I r ⟨a, ws, by rw [e], .inl t.l, fun l hl => q_lst R p h hl⟩
/-- max of a tuple of ints -/
theorem max_rawT {prog : Program} {w : World} {A : Around} {E : Value → Shared → Prop} {s : Shared} {l : Addr} {its : List Value} {ns : List Int} {Q : Value → Shared → Prop} (hh : A.handled = none) (hl : s.heap.IsTuple l its.toArray) (hi : IntsAre its ns) (hne : 0 < ns.length)
    (h : ∀ h' tk M t', (∀ b o, s.heap.get? b = some o → h'.get? b = some o) → M ∈ ns → (∀ a, a ∈ ns → a ≤ M) → Q (.int M t') { s with heap := h', toks := tk }) : wpAny (model prog w) A (PySem.call (.builtin "max") [.ref l]) Q E s := by
  obtain ⟨xs, e⟩ := hi.allInts.items
  have hn : numsOf (intItems xs).toList = ns := by rw [← e]; exact hi.numsOf
  rw [nums_intItems] at hn
  subst hn
  rw [e] at hl
  have hsz : 0 < xs.size := by simpa using hne
  have hlt : l < s.heap.objs.size := by obtain ⟨_, e, _⟩ := hl; exact Heap.lt_size e
  refine call_max_walk (wpAny_pyIter_tuple hl ?_)
  refine ⟨_, [_, l], [_], _, _, _, _, rfl, Walks.tuple (A := A.in1) hh _ l (Nat.ne_of_lt hlt) (intItems xs), ⟨⟨_, Heap.get?_push_size _ rfl, rfl, rfl⟩, hl.push _⟩, fun b hb => ?_, by simpa [intItems] using hsz, CmpOf.ints_gt (numAt xs) (fun _ _ => intItems_at), fun v h' tk hP hk => ?_⟩
  · show b < (s.heap.push _).objs.size
    rw [Heap.size_push]
    rcases List.mem_cons.mp hb with rfl | hb
    · exact Nat.lt_succ_self _
    · rcases List.mem_cons.mp hb with rfl | hb
      · exact Nat.lt_succ_of_lt hlt
      · cases hb
  · have hP : (intItems xs)[argBest (fun i j => decide (numAt xs i > numAt xs j)) (xs.size - 1)]? = some v := by simpa [intItems] using hP
    obtain ⟨t, rfl⟩ := intItems_at hP
    obtain ⟨h1, h2⟩ := argBest_gt (numAt xs) (xs.size - 1)
    refine h h' tk _ t (fun b o e => ?_) ?_ fun a ha => ?_
    · refine hk b o (fun hm => ?_) (Heap.get?_push_of_some _ e)
      rcases List.mem_cons.mp hm with e1 | hm
      · exact absurd (e1 ▸ Heap.lt_size e) (Nat.lt_irrefl _)
      · cases hm
    · rw [numAt_eq]; exact PySem.getD_mem (by rw [List.length_map, Array.length_toList]; omega)
    · obtain ⟨j, hj, rfl⟩ := mem_getD ha
      rw [List.length_map, Array.length_toList] at hj
      rw [← numAt_eq]; exact h2 j (by omega)
theorem cb_max (hcalm : X.calm = true) : CallR X (.builtin "max") (rF X.K X.mg .max) := by
  intro pins s σ H vs us Q I r h
  obtain ⟨P, L, xs, R, rx, h⟩ := h
  rcases xs with _ | ⟨x, _ | ⟨y, _ | ⟨z, t⟩⟩⟩
  · exact False.elim h
  · obtain ⟨v, rfl, rv⟩ := rx.one
    by_cases ht : ∃ ys, x = .tup ys
    · obtain ⟨ys, rfl⟩ := ht
      simp only [bltin] at h
      split at h
      · rename_i n ns hs
        obtain ⟨a, ws, e, t, p⟩ := rv
        rw [asInts_eq hs] at p
        have e2 := p.ints
        subst e e2
        obtain ⟨its, rr, tt, _⟩ := I.tuple t.1
        rw [Vals.ref1 r]
        refine max_rawT (I.ok.hd hcalm) tt rr.ints (by simp) fun h' tk m t' hk h1 h2 => ⟨.int m, H, I.kept hk, ⟨_, rfl⟩, ?_⟩
        rw [maxL_eq h1 h2]
        exact h P H Ext.refl R _ rfl
      · exact False.elim h
    · have h : Post0 X.K X.mg P H (match (seqL L x).bind asInts with
        | some (x :: xs) => Out.ok (.int (maxL (x :: xs))) L
        | _ => .stuck) (Hand X.K X.mg Q) := by
        cases x <;> first
          | exact h
          | exact absurd ⟨_, rfl⟩ ht
      split at h
      · rename_i k ks hs
        obtain ⟨ys, e1, e2⟩ := Option.bind_eq_some_iff.mp hs
        obtain ⟨a, ws, e, t, p⟩ := R.seqL e1 rv
        rw [asInts_eq e2] at p
        have e3 := p.ints
        subst e e3
        refine cr_max hcalm pins s σ H _ us Q I r ⟨a, k :: ks, rfl, t, by simp, fun m h1 h2 => ?_⟩
        rw [maxL_eq h1 h2]
        exact h P H Ext.refl R _ rfl
      · exact False.elim h
  · obtain ⟨v, w, rfl, rv, rw'⟩ := rx.two
    cases x <;> cases y <;> try exact False.elim h
    exact call_max2 hcalm pins s σ H _ us Q I r ⟨_, _, by rw [show v = _ from rv, show w = _ from rw'], h P H Ext.refl R _ rfl⟩
  · cases x <;> cases y <;> exact False.elim h
theorem cb_min (hcalm : X.calm = true) : CallR X (.builtin "min") (rF X.K X.mg .min) := by
  intro pins s σ H vs us Q I r h
  obtain ⟨P, L, xs, R, rx, h⟩ := h
  rcases xs with _ | ⟨x, _ | ⟨y, _ | ⟨z, t⟩⟩⟩
  · exact False.elim h
  · obtain ⟨v, rfl, rv⟩ := rx.one
    have h : Post0 X.K X.mg P H (match (seqL L x).bind asInts with
        | some (x :: xs) => Out.ok (.int (minL (x :: xs))) L
        | _ => .stuck) (Hand X.K X.mg Q) := by cases x <;> exact h
    split at h
    · rename_i k ks hs
      obtain ⟨ys, e1, e2⟩ := Option.bind_eq_some_iff.mp hs
      obtain ⟨a, ws, e, t, p⟩ := R.seqL e1 rv
      rw [asInts_eq e2] at p
      have e3 := p.ints
      subst e e3
      refine cr_min hcalm pins s σ H _ us Q I r ⟨a, k :: ks, rfl, t, by simp, fun m h1 h2 => ?_⟩
      rw [minL_eq h1 h2]
      exact h P H Ext.refl R _ rfl
    · exact False.elim h
  · obtain ⟨v, w, rfl, rv, rw'⟩ := rx.two
    cases x <;> cases y <;> try exact False.elim h
    exact call_min2 hcalm pins s σ H _ us Q I r ⟨_, _, by rw [show v = _ from rv, show w = _ from rw'], h P H Ext.refl R _ rfl⟩
  · cases x <;> cases y <;> exact False.elim h
theorem cb_sum (hcalm : X.calm = true) : CallR X (.builtin "sum") (rF X.K X.mg .sum) := by
  intro pins s σ H vs us Q I r h
  obtain ⟨P, L, xs, R, rx, h⟩ := h
  rcases xs with _ | ⟨x, _ | ⟨y, t⟩⟩
  · exact False.elim h
  · obtain ⟨v, rfl, rv⟩ := rx.one
    have h : Post0 X.K X.mg P H (match (seqL L x).bind asInts with
        | some xs => Out.ok (.int xs.sum) L
        | _ => .stuck) (Hand X.K X.mg Q) := h
    split at h
    · rename_i ks hs
      obtain ⟨ys, e1, e2⟩ := Option.bind_eq_some_iff.mp hs
      obtain ⟨a, ws, e, t, p⟩ := R.seqL e1 rv
      rw [asInts_eq e2] at p
      have e3 := p.ints
      subst e e3
      exact cr_sum hcalm pins s σ H _ us Q I r ⟨a, ks, rfl, t, h P H Ext.refl R _ rfl⟩
    · exact False.elim h
  · cases x <;> exact False.elim h
theorem cb_sorted : CallR X (.builtin "sorted") (rF X.K X.mg .sorted) := by
  intro pins s σ H vs us Q I r h
  obtain ⟨P, L, xs, R, rx, h⟩ := h
  rcases xs with _ | ⟨x, _ | ⟨y, t⟩⟩
  · exact False.elim h
  · obtain ⟨v, rfl, rv⟩ := rx.one
    have h : Post0 X.K X.mg P H (match (seqL L x).bind asInts with
        | some xs => if xs.length < 64 then Out.ok (.ref L.length) (L ++ [.lst ((sortI xs).map PV.int)]) else .stuck
        | _ => .stuck) (Hand X.K X.mg Q) := h
    split at h
    · rename_i ks hs
      split at h
      · rename_i hc
        obtain ⟨ys, e1, e2⟩ := Option.bind_eq_some_iff.mp hs
        obtain ⟨a, ws, e, t, p⟩ := R.seqL e1 rv
        rw [asInts_eq e2] at p
        have e3 := p.ints
        subst e e3
        refine cr_sorted pins s σ H _ us Q I r ⟨a, ks, rfl, t, hc, fun ns' p h1 h2 hp => ?_⟩
        rw [sortI_eq h1 h2]
        exact q_lst R RVs.of_ints h hp
      · exact False.elim h
    · exact False.elim h
  · cases x <;> exact False.elim h
theorem RVs.bls {P : Pl} {H : Hp} : ∀ {ns : List Bool} {vs : List V}, RVs X.K X.mg P H (ns.map PV.bl) vs → vs = ns.map V.bl
  | [], _, h => h
  | _ :: _, _, h => by
    obtain ⟨v, r, e, h2, h3⟩ := h
    rw [e, (show v = _ from h2), RVs.bls h3]
    rfl
theorem cb_any (hcalm : X.calm = true) : CallR X (.builtin "any") (rF X.K X.mg .any) := by
  intro pins s σ H vs us Q I r h
  obtain ⟨P, L, xs, R, rx, h⟩ := h
  rcases xs with _ | ⟨x, _ | ⟨y, t⟩⟩
  · exact False.elim h
  · obtain ⟨v, rfl, rv⟩ := rx.one
    have h : Post0 X.K X.mg P H (match (seqL L x).bind asBls with
        | some xs => Out.ok (.bl (xs.any id)) L
        | _ => .stuck) (Hand X.K X.mg Q) := h
    split at h
    · rename_i ks hs
      obtain ⟨ys, e1, e2⟩ := Option.bind_eq_some_iff.mp hs
      obtain ⟨a, ws, e, t, p⟩ := R.seqL e1 rv
      rw [asBls_eq e2] at p
      have e3 := p.bls
      subst e e3
      exact cr_any hcalm pins s σ H _ us Q I r ⟨a, ks, rfl, t, h P H Ext.refl R _ rfl⟩
    · exact False.elim h
  · cases x <;> exact False.elim h
theorem cb_all (hcalm : X.calm = true) : CallR X (.builtin "all") (rF X.K X.mg .all) := by
  intro pins s σ H vs us Q I r h
  obtain ⟨P, L, xs, R, rx, h⟩ := h
  rcases xs with _ | ⟨x, _ | ⟨y, t⟩⟩
  · exact False.elim h
  · obtain ⟨v, rfl, rv⟩ := rx.one
    have h : Post0 X.K X.mg P H (match (seqL L x).bind asBls with
        | some xs => Out.ok (.bl (xs.all id)) L
        | _ => .stuck) (Hand X.K X.mg Q) := h
    split at h
    · rename_i ks hs
      obtain ⟨ys, e1, e2⟩ := Option.bind_eq_some_iff.mp hs
      obtain ⟨a, ws, e, t, p⟩ := R.seqL e1 rv
      rw [asBls_eq e2] at p
      have e3 := p.bls
      subst e e3
      exact cr_all hcalm pins s σ H _ us Q I r ⟨a, ks, rfl, t, h P H Ext.refl R _ rfl⟩
    · exact False.elim h
  · cases x <;> exact False.elim h
end
end MP

/-! MP 9: methods, subscripts, slices, stores, isinstance, by values. -/
namespace MP
open PySem PySem.Spec PyProof.Rows L2
section
variable {X : Cx}
/-- a method of a built-in type, by the receiver's value -/
def BmAt (X : Cx) (name : Str) (x : V) (H : Hp) (r : V → List V → Hp → VK → Prop) : Prop := ∃ T id, PlainAttrs T ∧ Slot T name id ∧ typeOf (.builtin id) = pure (.type "method_descriptor") ∧ MtR X id r ∧
  ∀ (pins : List (Addr × Obj)) (s : Shared) (σ : L2.St) (v : Value), Inv X pins σ H s → RelV x v → s.TypeIs v T ∧ ∀ a, v = .ref a → ∃ ob, s.heap.get? a = some ob ∧ ob.dict = none
def tBmL (X : Cx) (name : Str) (to : TE) (t : TA) : TE := fun σ H Q => to σ H fun x H1 => ∃ r, BmAt X name x H1 r ∧ t σ H1 fun xs H2 => r x xs H2 Q
theorem pe_bmL0 {o : Expr} {name : Str} {apos cpos : Pos} {to : TE} (ho : PE X o to) (hbase : attributeBase o name X.env (eval o X.env) = eval o X.env) (hline : (apos.endLine == cpos.line) = true) :
    PE X (.Call (.Attribute o name apos) [] [] cpos) (tBmL X name to tNil) := by
  refine ⟨fun pins s σ H Q I h => ?_⟩
  refine wpAny_Call_method0_late hbase hline (thn (ho.run pins s σ H _ I h) fun v s1 ⟨x, H1, I1, r1, r, ⟨T, id, pa, slot, hty, hm, hT⟩, q1⟩ => ?_)
  obtain ⟨h1, h2⟩ := hT pins s1 σ v I1 r1
  exact ⟨T, id, pa, slot, hty, h1, h2, Calls.callWith_builtin rfl (PySem.evalArgs_none (hm pins s1 σ H1 x [] v [] Q I1 r1 .nil q1))⟩
theorem pe_bmL {o e : Expr} {es : List Expr} {name : Str} {apos cpos : Pos} {to : TE} {t : TA} (ho : PE X o to) (ha : PA X (e :: es) t) (hbase : attributeBase o name X.env (eval o X.env) = eval o X.env)
    (hfew : ((backTo cpos (starEach (e :: es) X.env)).all (fun x => !x.1) && (backToKw cpos (keywordEach [] X.env)).all (fun x => x.1.isSome)
      && decide ((e :: es).length + ([] : List Keyword).length + (if ([] : List Keyword).isEmpty then 0 else 1) < 30)) = true)
    (hline : (apos.endLine == cpos.line) = true) (hs : starEach (e :: es) X.env = (false, eval e X.env) :: starEach es X.env) (hplain : (backTo cpos (starEach es X.env)).any (·.1) = false) :
    PE X (.Call (.Attribute o name apos) (e :: es) [] cpos) (tBmL X name to t) := by
  refine ⟨fun pins s σ H Q I h => ?_⟩
  refine wpAny_Call_method_late hbase hfew hline rfl (thn (ho.run pins s σ H _ I h) fun v s1 ⟨x, H1, I1, r1, r, ⟨T, id, pa, slot, hty, hm, hT⟩, q1⟩ => ?_)
  obtain ⟨h1, h2⟩ := hT pins s1 σ v I1 r1
  refine ⟨T, id, pa, slot, hty, h1, h2, ?_⟩
  have hA := ha.run cpos pins s1 σ H1 _ I1 q1
  rw [hs] at hA ⊢
  refine Calls.callWith_builtin (by show (false || (backTo cpos (starEach es X.env)).any (·.1)) = false; rw [hplain] <;> rfl) (Calls.evalArgs_plain ?_)
  exact thn hA fun us s2 ⟨vs, H2, I2, r2, q2⟩ => hm pins s2 σ H2 x vs v us Q I2 r1 r2 q2
/-! ### what the receivers are -/
theorem bm_list {name : Str} {id : String} {a : Addr} {vs : List V} {H : Hp} {r : V → List V → Hp → VK → Prop} (slot : Slot "list" name id) (hty : typeOf (.builtin id) = pure (.type "method_descriptor")) (hm : MtR X id r) (h : SqL X.K H a vs) : BmAt X name (.ref a) H r :=
  ⟨"list", id, PySem.F.plainAttrs_list, slot, hty, hm, fun pins s σ v I rv => tyV_is I rv (Or.inl ⟨rfl, _, h⟩)⟩
theorem bm_str {name : Str} {id : String} {z : Str} {H : Hp} {r : V → List V → Hp → VK → Prop} (slot : Slot "str" name id) (hty : typeOf (.builtin id) = pure (.type "method_descriptor")) (hm : MtR X id r) : BmAt X name (.str z) H r :=
  ⟨"str", id, PySem.F.plainAttrs_str, slot, hty, hm, fun pins s σ v I rv => tyV_is (T := "str") I rv rfl⟩
theorem bm_tup {name : Str} {id : String} {a : Addr} {vs : List V} {H : Hp} {r : V → List V → Hp → VK → Prop} (slot : Slot "tuple" name id) (hty : typeOf (.builtin id) = pure (.type "method_descriptor")) (hm : MtR X id r) (h : SqD X.K H a vs) : BmAt X name (.ref a) H r := by
  refine ⟨"tuple", id, PySem.F.plainAttrs_tuple, slot, hty, hm, fun pins s σ v I rv => ?_⟩
  obtain rfl : v = Value.ref a := rv
  obtain ⟨its, r, t, _⟩ := I.tuple h.1
  refine ⟨t.typeIs, fun b e => ?_⟩
  cases e
  rcases h.2 with ⟨o, u, q, d⟩ | ⟨o, q, d⟩
  · have z : ObjOk X.prog X.w H s.heap a (.frz o u) := I.hok a _ q
    exact ⟨o, z.1, d⟩
  · exact ⟨o, I.kIn a o q, d⟩
/-! ### index, count of flat items -/
def rIdxF (K : PySem.W.Frag) : V → List V → Hp → VK → Prop := fun x xs H Q => ∃ (a : Addr) (ys : List V) (y : V) (j : Nat) (z : V), x = V.ref a ∧ xs = [y] ∧ SqT K H a ys ∧ flatV y = true ∧ ys.all flatV = true ∧ ys[j]? = some z ∧ eqV z y = true ∧
  (∀ (m : Nat) (z' : V), m < j → ys[m]? = some z' → eqV z' y = false) ∧ Q (.int (j : Nat)) H
theorem mt_tidx : MtR X "tuple.index" (rIdxF X.K) := by
  intro pins s σ H x xs v us Q I rx rxs h
  obtain ⟨a, ys, y, j, z, rfl, rfl, hs, fy, fys, hz, hzj, hno, q⟩ := h
  cases rx
  cases rxs with
  | cons ry rt =>
    rename_i uy ut
    cases rt
    obtain ⟨its, rv, ⟨⟨cls, dd, data, sl⟩, ho, hc, n, hd⟩, hlen⟩ := I.tuple hs
    simp only at hc hd
    subst hc hd
    obtain ⟨u, hu, ru⟩ := rv.get hz
    obtain ⟨hjl, hje⟩ := List.getElem?_eq_some_iff.mp hu
    have hvl := rv.length
    have hj : j < its.toArray.size := by simpa using hjl
    refine call_meets PySem.F.slot_tuple_index ⟨_, ho, rfl⟩ PySem.F.entry_tuple_index (PySem.F.args_tuple_index_2 _ _)
      (TI.tuple_indexAt a its.toArray n dd sl uy (eqU y) j hj ?_ ?_) ⟨ho, fun u' hu' => mem_eqAt ry fy rv fys u' (by simpa using hu'), ?_⟩
    · have e1 : its.toArray[j] = u := by simpa using hje
      rw [e1, eqU_of ru (flat_at fys hz)]
      exact hzj
    · intro m hm hmj
      have hml : m < its.length := by simpa using hm
      have hmy : m < ys.length := by omega
      have hy' : ys[m]? = some ys[m] := List.getElem?_eq_getElem hmy
      obtain ⟨u2, hu2, ru2⟩ := rv.get hy'
      obtain ⟨_, hme⟩ := List.getElem?_eq_some_iff.mp hu2
      have e1 : its.toArray[m] = u2 := by simpa using hme
      rw [e1, eqU_of ru2 (flat_at fys hy')]
      exact hno m _ hmj hy'
    · exact ⟨.int (j : Nat), H, I.tok _, ⟨_, rfl⟩, q⟩
theorem count_eqU {x : V} : ∀ {xs : List V} {us : List Value}, Vals xs us → xs.all flatV = true → us.countP (eqU x) = xs.countP fun y => eqV y x
  | _, _, .nil, _ => rfl
  | y :: xs, u :: us, .cons r t, f => by
    rw [List.all_cons, Bool.and_eq_true] at f
    rw [List.countP_cons, List.countP_cons, eqU_of r f.1, count_eqU t f.2]
def rCntF (K : PySem.W.Frag) (tup : Bool) : V → List V → Hp → VK → Prop := fun x xs H Q => ∃ (a : Addr) (ys : List V) (y : V), x = V.ref a ∧ xs = [y] ∧ (if tup = true then SqT K H a ys else SqL K H a ys) ∧ flatV y = true ∧ ys.all flatV = true ∧ Q (.int (ys.countP fun z => eqV z y : Nat)) H
theorem mt_tcnt : MtR X "tuple.count" (rCntF X.K true) := by
  intro pins s σ H x xs v us Q I rx rxs h
  obtain ⟨a, ys, y, rfl, rfl, hs, fy, fys, q⟩ := h
  cases rx
  obtain ⟨u, rfl, ry⟩ := rxs.one
  obtain ⟨its, rv, ⟨⟨cls, dd, data, sl⟩, ho, hc, n, hd⟩, hlen⟩ := I.tuple hs
  simp only at hc hd
  subst hc hd
  refine call_meets PySem.F.slot_tuple_count ⟨_, ho, rfl⟩ PySem.F.entry_tuple_count (PySem.F.args_tuple_count_2 _ _)
    (SeqAt.tuple_countAt a its.toArray n dd sl u (eqU y)) ⟨ho, fun u' hu' => mem_eqAt ry fy rv fys u' (by simpa using hu'), ?_⟩
  refine ⟨.int (ys.countP fun z => eqV z y : Nat), H, I.tok _, ⟨s.toks, ?_⟩, q⟩
  rw [← count_eqU rv fys]
theorem mt_lcnt : MtR X "list.count" (rCntF X.K false) := by
  intro pins s σ H x xs v us Q I rx rxs h
  obtain ⟨a, ys, y, rfl, rfl, hs, fy, fys, q⟩ := h
  cases rx
  obtain ⟨u, rfl, ry⟩ := rxs.one
  obtain ⟨its, rv, ⟨⟨cls, dd, data, sl⟩, n, ho, hc, hdn, hd⟩, hlen⟩ := I.list hs
  simp only at hc hd
  subst hc hd
  refine call_meets PySem.F.slot_list_count ⟨_, ho, rfl⟩ PySem.F.entry_list_count (PySem.F.args_list_count_2 _ _)
    (SeqAt.list_countAt a its.toArray n dd sl u (eqU y)) ⟨ho, fun u' hu' => mem_eqAt ry fy rv fys u' (by simpa using hu'), ?_⟩
  refine ⟨.int (ys.countP fun z => eqV z y : Nat), H, I.tok _, ⟨s.toks, ?_⟩, q⟩
  rw [← count_eqU rv fys]
end
section
variable {K : PySem.W.Frag} {mg : Str → Option Value} {P : Pl} {H : Hp} {L : List HObj}
theorem idxOf_get {y : PV} : ∀ {xs : List PV} {j : Nat}, idxOf y xs = some j → (∃ z, xs[j]? = some z ∧ feq z y = true) ∧ ∀ m z, m < j → xs[m]? = some z → feq z y = false
  | [], j, h => by cases h
  | x :: xs, j, h => by
    unfold idxOf at h
    split at h
    · rename_i hx
      cases h
      exact ⟨⟨x, rfl, hx⟩, fun m z hm => by omega⟩
    · rename_i hx
      obtain ⟨i, h1, h2⟩ := Option.map_eq_some_iff.mp h
      subst h2
      obtain ⟨⟨z, h3, h4⟩, h5⟩ := idxOf_get h1
      refine ⟨⟨z, by simpa using h3, h4⟩, fun m z hm e => ?_⟩
      cases m with
      | zero =>
        have e' : x = z := by simpa using e
        subst e'
        simpa using hx
      | succ m => exact h5 m z (by omega) (by simpa using e)
theorem RVs.flatAt {xs : List PV} {vs : List V} (h : RVs K mg P H xs vs) (f : xs.all PV.flat = true) {y : PV} {w : V} (hy : RV K mg P H y w) (fy : y.flat = true) {j : Nat} (hj : idxOf y xs = some j) :
    ∃ z, vs[j]? = some z ∧ eqV z w = true ∧ ∀ (m : Nat) (z' : V), m < j → vs[m]? = some z' → eqV z' w = false := by
  obtain ⟨⟨z, h1, h2⟩, h3⟩ := idxOf_get hj
  obtain ⟨v, h4, h5⟩ := h.get h1
  have fl : ∀ {m : Nat} {z : PV}, xs[m]? = some z → z.flat = true := fun e => List.all_eq_true.mp f _ (List.mem_of_getElem? e)
  refine ⟨v, h4, by rw [RV.feq h5 (fl h1) hy fy]; exact h2, fun m z' hm e => ?_⟩
  have hl := h.length
  have hmv := (List.getElem?_eq_some_iff.mp e).1
  have e1 : xs[m]? = some xs[m] := List.getElem?_eq_getElem (by omega)
  obtain ⟨v', h6, h7⟩ := h.get e1
  rw [e] at h6
  cases h6
  rw [RV.feq h7 (fl e1) hy fy]
  exact h3 m _ hm e1
theorem RVs.cnt {y : PV} {w : V} (hy : RV K mg P H y w) (fy : y.flat = true) : ∀ {xs : List PV} {vs : List V}, RVs K mg P H xs vs → xs.all PV.flat = true → vs.countP (fun z => eqV z w) = xs.countP fun z => MP.feq z y
  | [], _, h, _ => by cases (show _ = [] from h); rfl
  | x :: xs, _, h, f => by
    obtain ⟨v, r, e, h1, h3⟩ := h
    subst e
    rw [List.all_cons, Bool.and_eq_true] at f
    rw [List.countP_cons, List.countP_cons, RVs.cnt hy fy h3 f.2, RV.feq h1 f.1 hy fy]
theorem asStrs_eq : ∀ {xs : List PV} {ns : List Str}, asStrs xs = some ns → xs = ns.map PV.str
  | [], ns, h => by cases h; rfl
  | x :: xs, ns, h => by
    cases x <;> first
      | (cases h; done)
      | skip
    rename_i i
    have h' : (asStrs xs).map (i :: ·) = some ns := h
    obtain ⟨ms, h1, h2⟩ := Option.map_eq_some_iff.mp h'
    subst h2
    rw [asStrs_eq h1]
    rfl
theorem asStrs_map : ∀ (ns : List Str), asStrs (ns.map PV.str) = some ns
  | [] => rfl
  | n :: ns => by
    show (asStrs (ns.map PV.str)).map (n :: ·) = _
    rw [asStrs_map ns]
    rfl
theorem RVs.strs : ∀ {ns : List Str} {vs : List V}, RVs K mg P H (ns.map PV.str) vs → vs = ns.map V.str
  | [], _, h => h
  | _ :: _, _, h => by
    obtain ⟨v, r, e, h2, h3⟩ := h
    rw [e, (show v = _ from h2), RVs.strs h3]
    rfl
end
section
variable {X : Cx}
/-- the receiver and the arguments of an own method's name -/
theorem met_of {m : Mth} {P : Pl} {H : Hp} {L : List HObj} {x : PV} {v : V} (R : Rel X.K X.mg P L H) (hx : RV X.K X.mg P H x v) (hk : ∀ n, x = .ref n → (seqOf L n).isSome = true)
    (hl : m = .append ∨ m = .pop ∨ m = .extend ∨ m = .reverse → ∃ n, x = .ref n) (hj : m = .join → ∃ z, x = .str z) (hi : m = .index ∨ m = .count → x.kd < 2) : BmAt X m.name v H (rM X.K X.mg m x.kd) := by
  have list : ∀ n, x = .ref n → ∃ a vs, v = .ref a ∧ SqL X.K H a vs := fun n e => by
    subst e
    cases hs : seqOf L n with
    | none =>
      have hk' := hk n rfl
      rw [hs] at hk'
      cases hk'
    | some xs =>
      obtain ⟨a, vs, h1, h2, _⟩ := R.seq hs hx
      exact ⟨a, vs, h1, h2⟩
  have lists : ∀ (y : PV) (v' : V), y.kd = 1 → RV X.K X.mg P H y v' → y = x → ∃ a vs, v' = .ref a ∧ SqL X.K H a vs := fun y v' e r hy => by
    cases y <;> try (cases e; done)
    · rename_i n
      cases hs : seqOf L n with
      | none =>
        have hk' := hk n hy.symm
        rw [hs] at hk'
        cases hk'
      | some xs =>
        obtain ⟨a, vs, h1, h2, _⟩ := R.seq hs r
        exact ⟨a, vs, h1, h2⟩
    · obtain ⟨a, vs, h1, h2, _⟩ := r
      exact ⟨a, vs, h1, h2.l⟩
  cases m with
  | append =>
    obtain ⟨n, rfl⟩ := hl (by simp)
    obtain ⟨a, vs, rfl, hs⟩ := list n rfl
    refine bm_list PySem.F.slot_list_append PySem.F.type_list_append ?_ hs
    intro pins s σ H' x' xs' v' us Q I rx rxs h
    obtain ⟨P', L', y, ys, kd, R', ry, rys, h⟩ := h
    rcases ys with _ | ⟨z, _ | ⟨_, _⟩⟩
    · cases y <;> exact False.elim h
    · cases y <;> try exact False.elim h
      simp only [meth] at h
      split at h
      · rename_i ws e
        split at h
        · rename_i hc
          obtain ⟨w, rfl, rz⟩ := rys.one
          obtain ⟨b, bs, e1, e2, e3, e4⟩ := R'.lst e ry
          refine mt_append pins s σ H' x' [w] v' us Q I rx rxs ⟨b, bs, w, e1, rfl, e3, by rw [sizeLine_eq, ← e4.length]; exact hc, ?_⟩
          exact q_put R' e2 e3 (e4.append (.cons rz .nil)) fun P2 H2 e r => h P2 H2 e r _ rfl
        · exact False.elim h
      · exact False.elim h
    · cases y <;> exact False.elim h
  | pop =>
    obtain ⟨n, rfl⟩ := hl (by simp)
    obtain ⟨a, vs, rfl, hs⟩ := list n rfl
    refine bm_list PySem.F.slot_list_pop PySem.F.type_list_pop ?_ hs
    intro pins s σ H' x' xs' v' us Q I rx rxs h
    obtain ⟨P', L', y, ys, kd, R', ry, rys, h⟩ := h
    rcases ys with _ | ⟨z, zs⟩
    · cases y <;> try exact False.elim h
      simp only [meth] at h
      split at h
      · rename_i ws e
        split at h
        · rename_i y hy
          obtain rfl := rys.nil'
          obtain ⟨b, bs, e1, e2, e3, e4⟩ := R'.lst e ry
          have hl := e4.length
          have g : ws[ws.length - 1]? = some y := by rw [← List.getLast?_eq_getElem?]; exact hy
          obtain ⟨w, g1, g2⟩ := e4.get g
          have dl : RVs X.K X.mg P' H' ws.dropLast bs.dropLast := by
            rw [List.dropLast_eq_take, List.dropLast_eq_take, ← hl]
            exact e4.take _
          refine mt_pop pins s σ H' x' [] v' us Q I rx rxs ⟨b, bs, w, e1, rfl, e3, by rw [← hl]; exact g1, ?_⟩
          refine q_put (Q := fun H2 => Q w H2) R' e2 e3 dl fun P2 H2 e r => h P2 H2 e r _ (g2.mono e)
        · exact False.elim h
      · exact False.elim h
    · cases y <;> try exact False.elim h
      rcases zs with _ | ⟨_, _⟩
      · cases z <;> try exact False.elim h
        rename_i i
        simp only [meth] at h
        split at h
        · rename_i ws e
          split at h
          · rename_i k hk
            split at h
            · rename_i y hy
              split at h
              · rename_i hi
                obtain ⟨wi, rfl, rz⟩ := rys.one
                obtain rfl : wi = V.int i := rz
                obtain ⟨b, bs, e1, e2, e3, e4⟩ := R'.lst e ry
                have hl := e4.length
                obtain ⟨w, g1, g2⟩ := e4.get hy
                have dl : RVs X.K X.mg P' H' (ws.eraseIdx k) (bs.eraseIdx k) := by
                  rw [List.eraseIdx_eq_take_drop_succ, List.eraseIdx_eq_take_drop_succ]
                  exact (e4.take _).append (e4.drop _)
                refine mt_popAt pins s σ H' x' [.int i] v' us Q I rx rxs ⟨b, bs, i, k, w, e1, rfl, e3, hi.1, hi.2, by rw [← hl]; exact (ixN_seq hk).1, g1, ?_⟩
                refine q_put (Q := fun H2 => Q w H2) R' e2 e3 dl fun P2 H2 e r => h P2 H2 e r _ (g2.mono e)
              · exact False.elim h
            · exact False.elim h
          · exact False.elim h
        · exact False.elim h
      · cases z <;> exact False.elim h
  | extend =>
    obtain ⟨n, rfl⟩ := hl (by simp)
    obtain ⟨a, vs, rfl, hs⟩ := list n rfl
    refine bm_list PySem.F.slot_list_extend PySem.F.type_list_extend ?_ hs
    intro pins s σ H' x' xs' v' us Q I rx rxs h
    obtain ⟨P', L', y, ys, kd, R', ry, rys, h⟩ := h
    rcases ys with _ | ⟨z, _ | ⟨_, _⟩⟩
    · cases y <;> exact False.elim h
    · cases y <;> cases z <;> try exact False.elim h
      simp only [meth] at h
      split at h
      · rename_i ws us' e e'
        split at h
        · rename_i hc
          obtain ⟨w, rfl, rz⟩ := rys.one
          obtain ⟨b, bs, e1, e2, e3, e4⟩ := R'.lst e ry
          obtain ⟨c, cs, f1, f2, f3, f4⟩ := R'.lst e' rz
          refine mt_extend pins s σ H' x' [w] v' us Q I rx rxs ⟨b, c, bs, cs, e1, by rw [f1], e3, f3, by rw [sizeLine_eq, ← e4.length, ← f4.length]; exact hc, ?_⟩
          exact q_put R' e2 e3 (e4.append f4) fun P2 H2 e r => h P2 H2 e r _ rfl
        · exact False.elim h
      · exact False.elim h
    · cases y <;> cases z <;> exact False.elim h
  | reverse =>
    obtain ⟨n, rfl⟩ := hl (by simp)
    obtain ⟨a, vs, rfl, hs⟩ := list n rfl
    refine bm_list PySem.F.slot_list_reverse PySem.F.type_list_reverse ?_ hs
    intro pins s σ H' x' xs' v' us Q I rx rxs h
    obtain ⟨P', L', y, ys, kd, R', ry, rys, h⟩ := h
    rcases ys with _ | ⟨z, zs⟩
    · cases y <;> try exact False.elim h
      simp only [meth] at h
      split at h
      · rename_i ws e
        obtain rfl := rys.nil'
        obtain ⟨b, bs, e1, e2, e3, e4⟩ := R'.lst e ry
        refine mt_reverse pins s σ H' x' [] v' us Q I rx rxs ⟨b, bs, e1, rfl, e3, ?_⟩
        exact q_put R' e2 e3 e4.reverse fun P2 H2 e r => h P2 H2 e r _ rfl
      · exact False.elim h
    · cases y <;> exact False.elim h
  | join =>
    obtain ⟨z, rfl⟩ := hj rfl
    obtain rfl : v = V.str z := hx
    refine bm_str PySem.F.slot_str_join PySem.F.type_str_join ?_
    intro pins s σ H' x' xs' v' us Q I rx rxs h
    obtain ⟨P', L', y, ys, kd, R', ry, rys, h⟩ := h
    rcases ys with _ | ⟨z, _ | ⟨_, _⟩⟩
    · cases y <;> exact False.elim h
    · cases y <;> try exact False.elim h
      simp only [meth] at h
      split at h
      · rename_i ws hb
        split at h
        · rename_i hc
          obtain ⟨w, rfl, rz⟩ := rys.one
          obtain ⟨zs, e1, e2⟩ := Option.bind_eq_some_iff.mp hb
          have hz : ∃ p, w = .ref p ∧ (SqL X.K H' p (ws.map V.str) ∨ SqT X.K H' p (ws.map V.str)) := by
            rw [asStrs_eq e2] at e1
            cases z <;> try (cases e1; done)
            · obtain ⟨b, bs, e3, e4, e5⟩ := rz
              cases e1
              rw [← e5.strs]
              exact ⟨b, e3, .inr e4.1⟩
            · obtain ⟨b, bs, e3, e4, e5⟩ := R'.seq e1 rz
              rw [← e5.strs]
              exact ⟨b, e3, .inl e4⟩
            · obtain ⟨b, bs, e3, e4, e5⟩ := rz
              cases e1
              rw [← e5.strs]
              exact ⟨b, e3, .inl e4.l⟩
          obtain ⟨p, rfl, hp⟩ := hz
          exact mt_join pins s σ H' x' _ v' us Q I rx rxs ⟨_, p, ws, ry, rfl, hp, hc, h P' H' Ext.refl R' _ rfl⟩
        · exact False.elim h
      · exact False.elim h
    · cases y <;> exact False.elim h
  | index =>
    have go : ∀ {P' : Pl} {L' : List HObj} {H' : Hp} {y : PV} {ys : List PV} {Q : VK} {vs' : List V}, Rel X.K X.mg P' L' H' → RVs X.K X.mg P' H' ys vs' → Post0 X.K X.mg P' H' (meth .index y ys L') (Hand X.K X.mg Q) →
        ∃ (z : PV) (xs : List PV) (j : Nat) (w : V), ys = [z] ∧ vs' = [w] ∧ itemsOf L' y = some xs ∧ z.flat = true ∧ xs.all PV.flat = true ∧ idxOf z xs = some j ∧ RV X.K X.mg P' H' z w ∧ Q (.int j) H' := fun {P' L' H' y ys Q vs'} R' rys h => by
      rcases ys with _ | ⟨z, _ | ⟨_, _⟩⟩
      · exact False.elim h
      · simp only [meth] at h
        split at h
        · rename_i xs hx
          split at h
          · rename_i hc
            split at h
            · rename_i j hj
              rw [Bool.and_eq_true] at hc
              obtain ⟨w, rfl, rz⟩ := rys.one
              exact ⟨z, xs, j, w, rfl, rfl, hx, hc.1, hc.2, hj, rz, h P' H' Ext.refl R' _ rfl⟩
            · exact False.elim h
          · exact False.elim h
        · exact False.elim h
      · exact False.elim h
    cases x <;> first
      | (exfalso; have hi' := hi (.inl rfl); simp only [PV.kd] at hi'; omega)
      | skip
    · obtain ⟨a, vs, rfl, hs, _⟩ := hx
      refine bm_tup PySem.F.slot_tuple_index PySem.F.type_tuple_index ?_ hs
      intro pins s σ H' x' xs' v' us Q I rx rxs h
      obtain ⟨P', L', y, ys, kd, R', ry, rys, h⟩ := h
      obtain ⟨z, xs, j, w, rfl, rfl, e1, fz, fx, hj, rz, q⟩ := go R' rys h
      cases y <;> try (cases kd; done)
      obtain ⟨b, bs, rfl, t, p⟩ := ry
      cases e1
      obtain ⟨z', g1, g2, g3⟩ := p.flatAt fx rz fz hj
      exact mt_tidx pins s σ H' _ _ v' us Q I rx rxs ⟨b, bs, w, j, z', rfl, rfl, t.1, rz.flat fz, p.flat fx, g1, g2, g3, q⟩
    all_goals
      obtain ⟨a, vs, rfl, hs⟩ := lists _ _ rfl hx rfl
      refine bm_list PySem.F.slot_list_index PySem.F.type_list_index ?_ hs
      intro pins s σ H' x' xs' v' us Q I rx rxs h
      obtain ⟨P', L', y, ys, kd, R', ry, rys, h⟩ := h
      obtain ⟨z, xs, j, w, rfl, rfl, e1, fz, fx, hj, rz, q⟩ := go R' rys h
      have e1' : seqL L' y = some xs := by cases y <;> first
        | (cases kd; done)
        | exact e1
      obtain ⟨b, bs, rfl, t, p⟩ := R'.seqL e1' ry
      obtain ⟨z', g1, g2, g3⟩ := p.flatAt fx rz fz hj
      exact mt_index pins s σ H' _ _ v' us Q I rx rxs ⟨b, bs, w, j, z', rfl, rfl, t, rz.flat fz, p.flat fx, g1, g2, g3, q⟩
  | count =>
    have go : ∀ {P' : Pl} {L' : List HObj} {H' : Hp} {y : PV} {ys : List PV} {Q : VK} {vs' : List V}, Rel X.K X.mg P' L' H' → RVs X.K X.mg P' H' ys vs' → Post0 X.K X.mg P' H' (meth .count y ys L') (Hand X.K X.mg Q) →
        ∃ (z : PV) (xs : List PV) (w : V), ys = [z] ∧ vs' = [w] ∧ itemsOf L' y = some xs ∧ z.flat = true ∧ xs.all PV.flat = true ∧ RV X.K X.mg P' H' z w ∧ Q (.int (xs.countP fun u => feq u z : Nat)) H' := fun {P' L' H' y ys Q vs'} R' rys h => by
      rcases ys with _ | ⟨z, _ | ⟨_, _⟩⟩
      · exact False.elim h
      · simp only [meth] at h
        split at h
        · rename_i xs hx
          split at h
          · rename_i hc
            rw [Bool.and_eq_true] at hc
            obtain ⟨w, rfl, rz⟩ := rys.one
            exact ⟨z, xs, w, rfl, rfl, hx, hc.1, hc.2, rz, h P' H' Ext.refl R' _ rfl⟩
          · exact False.elim h
        · exact False.elim h
      · exact False.elim h
    cases x <;> first
      | (exfalso; have hi' := hi (.inr rfl); simp only [PV.kd] at hi'; omega)
      | skip
    · obtain ⟨a, vs, rfl, hs, _⟩ := hx
      refine bm_tup PySem.F.slot_tuple_count PySem.F.type_tuple_count ?_ hs
      intro pins s σ H' x' xs' v' us Q I rx rxs h
      obtain ⟨P', L', y, ys, kd, R', ry, rys, h⟩ := h
      obtain ⟨z, xs, w, rfl, rfl, e1, fz, fx, rz, q⟩ := go R' rys h
      cases y <;> try (cases kd; done)
      obtain ⟨b, bs, rfl, t, p⟩ := ry
      cases e1
      refine mt_tcnt pins s σ H' _ _ v' us Q I rx rxs ⟨b, bs, w, rfl, rfl, t.1, rz.flat fz, p.flat fx, ?_⟩
      rw [RVs.cnt rz fz p fx]
      exact q
    all_goals
      obtain ⟨a, vs, rfl, hs⟩ := lists _ _ rfl hx rfl
      refine bm_list PySem.F.slot_list_count PySem.F.type_list_count ?_ hs
      intro pins s σ H' x' xs' v' us Q I rx rxs h
      obtain ⟨P', L', y, ys, kd, R', ry, rys, h⟩ := h
      obtain ⟨z, xs, w, rfl, rfl, e1, fz, fx, rz, q⟩ := go R' rys h
      have e1' : seqL L' y = some xs := by cases y <;> first
        | (cases kd; done)
        | exact e1
      obtain ⟨b, bs, rfl, t, p⟩ := R'.seqL e1' ry
      refine mt_lcnt pins s σ H' _ _ v' us Q I rx rxs ⟨b, bs, w, rfl, rfl, t, rz.flat fz, p.flat fx, ?_⟩
      rw [RVs.cnt rz fz p fx]
      exact q
end
end MP

/-! MP 10: subscripts, slices, stores, isinstance, by values. -/
namespace MP
open PySem PySem.Spec PyProof.Rows L2
section
variable {K : PySem.W.Frag} {mg : Str → Option Value} {P : Pl} {H : Hp} {L : List HObj}
theorem RVs.atI {xs : List PV} {vs : List V} {i : Int} {x : PV} (h : RVs K mg P H xs vs) (e : L2.atI xs i = some x) : ∃ v, L2.atI vs i = some v ∧ RV K mg P H x v := by
  unfold L2.atI at e ⊢
  rw [← h.length]
  obtain ⟨j, h1, h2⟩ := Option.bind_eq_some_iff.mp e
  obtain ⟨v, h3, h4⟩ := h.get h2
  exact ⟨v, by rw [h1]; exact h3, h4⟩
theorem RVs.cutP {xs : List PV} {vs : List V} (h : RVs K mg P H xs vs) (lo hi : Option Int) : RVs K mg P H (cutP xs lo hi) (cutV vs lo hi) := by
  unfold MP.cutP cutV
  rw [← h.length]
  exact (h.drop _).take _
def rI (K : PySem.W.Frag) (mg : Str → Option Value) : R2 := fun v w H Q => ∃ (P : Pl) (L : List HObj) (x y : PV), Rel K mg P L H ∧ RV K mg P H x v ∧ RV K mg P H y w ∧ Post0 K mg P H (item x y L) (Hand K mg Q)
def rS (K : PySem.W.Frag) (mg : Str → Option Value) : V → Option Int → Option Int → Hp → VK → Prop := fun v l h H Q => ∃ (P : Pl) (L : List HObj) (x : PV), Rel K mg P L H ∧ RV K mg P H x v ∧ Post0 K mg P H (sliceP x l h L) (Hand K mg Q)
def rW (K : PySem.W.Frag) (mg : Str → Option Value) : V → V → V → Hp → (Hp → Prop) → Prop := fun o i v H Q => ∃ (P : Pl) (L : List HObj) (x y z : PV), Rel K mg P L H ∧ RV K mg P H x o ∧ RV K mg P H y i ∧ RV K mg P H z v ∧ Post0 K mg P H (setItem' x y z L) (fun _ _ _ H2 => Q H2)
end
section
variable {X : Cx}
theorem ix_all : IxR X (rI X.K X.mg) := by
  intro value slice pins s σ H v w u1 u2 Q I r1 r2 h hs
  obtain ⟨P, L, x, y, R, hx, hy, h⟩ := h
  cases x <;> cases y <;> try exact False.elim h
  · rename_i z i
    simp only [item] at h
    split at h
    · rename_i hc
      split at h
      · rename_i c e
        exact ix_str value slice pins s σ H v w u1 u2 Q I r1 r2 ⟨z, i, c, hx, hy, by rw [sizeLine_eq]; exact hc, e, h P H Ext.refl R _ rfl⟩ hs
      · exact False.elim h
    · exact False.elim h
  · rename_i xs i
    simp only [item] at h
    split at h
    · rename_i z e
      obtain ⟨a, vs, e1, t, p⟩ := hx
      obtain ⟨z', e2, rz⟩ := p.atI e
      exact ix_tup value slice pins s σ H v w u1 u2 Q I r1 r2 ⟨a, vs, i, z', e1, hy, t.1, e2, h P H Ext.refl R _ rz⟩ hs
    · exact False.elim h
  · rename_i n i
    simp only [item] at h
    split at h
    · rename_i z e
      obtain ⟨xs, e0, e⟩ := Option.bind_eq_some_iff.mp e
      obtain ⟨a, vs, e1, t, p⟩ := R.seq e0 hx
      obtain ⟨z', e2, rz⟩ := p.atI e
      exact ix_list value slice pins s σ H v w u1 u2 Q I r1 r2 ⟨a, vs, i, z', e1, hy, t, e2, h P H Ext.refl R _ rz⟩ hs
    · exact False.elim h
  · rename_i xs i
    simp only [item] at h
    split at h
    · rename_i z e
      obtain ⟨a, vs, e1, t, p⟩ := hx
      obtain ⟨z', e2, rz⟩ := p.atI e
      exact ix_list value slice pins s σ H v w u1 u2 Q I r1 r2 ⟨a, vs, i, z', e1, hy, t.l, e2, h P H Ext.refl R _ rz⟩ hs
    · exact False.elim h
theorem sl_all : SlR X (rS X.K X.mg) := by
  intro pins s σ H v u vl vu lo hi sl Q I rx hs pl pu h
  obtain ⟨P, L, x, R, hx, h⟩ := h
  unfold sliceP at h
  cases x <;> try exact False.elim h
  · rename_i z
    simp only at h
    split at h
    · rename_i hc
      exact sl_str pins s σ H v u vl vu lo hi sl Q I rx hs pl pu ⟨z, hx, by rw [sizeLine_eq]; exact hc, h P H Ext.refl R _ rfl⟩
    · exact False.elim h
  · rename_i xs
    obtain ⟨a, vs, e3, t, p⟩ := hx
    refine sl_tupF pins s σ H v u vl vu lo hi sl Q I rx hs pl pu ⟨a, vs, e3, t.1, fun hw => ?_, fun _ => q_tup R (p.cutP lo hi) h⟩
    refine q_tup' R (p.cutP lo hi) ?_ h
    have : cutV vs lo hi = vs := by
      unfold cutV
      rw [hw.1, hw.2]
      simp
    rw [this]
    exact t
  · rename_i n
    simp only at h
    split at h
    · rename_i xs e
      obtain ⟨a, vs, e3, t, p⟩ := R.seq e hx
      exact sl_list pins s σ H v u vl vu lo hi sl Q I rx hs pl pu ⟨a, vs, e3, t, fun q hq => q_lst R (p.cutP lo hi) h hq⟩
    · exact False.elim h
  · obtain ⟨a, vs, e3, t, p⟩ := hx
    exact sl_list pins s σ H v u vl vu lo hi sl Q I rx hs pl pu ⟨a, vs, e3, t.l, fun q hq => q_lst R (p.cutP lo hi) h hq⟩
theorem set_all : PSet X (rW X.K X.mg) := by
  intro pins s σ H o i v ov iv u Q I ro ri rv h
  obtain ⟨P, L, x, y, z, R, hx, hy, hz, h⟩ := h
  unfold setItem' at h
  split at h
  · rename_i n k
    split at h
    · rename_i xs e
      split at h
      · rename_i j hj
        obtain ⟨a, vs, e1, e2, e3, p⟩ := R.lst e hx
        exact set_list pins s σ H o i v ov iv u Q I ro ri rv ⟨a, vs, k, j, e1, hy, e3, by rw [← p.length]; exact hj, q_put R e2 e3 (p.set j hz) fun P' H' e r => h P' H' e r⟩
      · exact False.elim h
    · exact False.elim h
  · exact False.elim h
/-- isinstance of a value -/
def rY (K : PySem.W.Frag) (mg : Str → Option Value) (t : ITy) : List V → Hp → VK → Prop := fun vs H Q => ∃ (P : Pl) (L : List HObj) (x : PV) (v : V), vs = [v, .ty t.name] ∧ Rel K mg P L H ∧ RV K mg P H x v ∧ Post0 K mg P H (isTy t x L) (Hand K mg Q)
theorem call_isY (t : ITy) : CallR X (.builtin "isinstance") (rY X.K X.mg t) := by
  intro pins s σ H vs us Q I r h
  obtain ⟨P, L, x, v, e, R, hx, h⟩ := h
  have go : ∀ (a : String) (b : Bool), TyX X.K H v (.type a) → kitB a t.name = some b → Q (.bl b) H → wpAny (model X.prog X.w) X.A (PySem.call (.builtin "isinstance") us) (EP X pins σ Q) X.xe s :=
    fun a b ty k q => call_isi pins s σ H vs us Q I r ⟨v, .ty t.name, .type a, .type t.name, b, e, .ty _, ty, kit_ty k, q⟩
  cases x <;> try exact False.elim h
  · obtain rfl : v = _ := hx
    exact go "NoneType" _ (.base .non) (by cases t <;> decide +kernel) (h P H Ext.refl R _ rfl)
  · rename_i b
    obtain rfl : v = _ := hx
    exact go "bool" _ (.base (.bl b)) (by cases t <;> decide +kernel) (h P H Ext.refl R _ rfl)
  · rename_i b
    obtain rfl : v = _ := hx
    exact go "int" _ (.base (.int b)) (by cases t <;> decide +kernel) (h P H Ext.refl R _ rfl)
  · rename_i b
    obtain rfl : v = _ := hx
    exact go "str" _ (.base (.str b)) (by cases t <;> decide +kernel) (h P H Ext.refl R _ rfl)
  · rename_i xs
    obtain ⟨a, vs', e1, d, p⟩ := hx
    subst e1
    have ty : TyX X.K H (.ref a) (.type "tuple") := by
      rcases d.1 with (q | ⟨o, q⟩) | q
      · exact .base (.tup q)
      · exact .fTuple q
      · exact .kTuple q.choose_spec.choose_spec.choose_spec.1 q.choose_spec.choose_spec.choose_spec.2.1
    exact go "tuple" _ ty (by cases t <;> decide +kernel) (h P H Ext.refl R _ rfl)
  · rename_i n
    simp only [isTy] at h
    split at h
    · rename_i xs e2
      obtain ⟨a, vs', e1, e3, e4, p⟩ := R.lst e2 hx
      subst e1
      exact go "list" _ (.base (.lst e4)) (by cases t <;> decide +kernel) (h P H Ext.refl R _ rfl)
    · exact False.elim h
  · obtain ⟨a, vs', e1, d, p⟩ := hx
    subst e1
    have ty : TyX X.K H (.ref a) (.type "list") := by
      rcases d with (⟨o, q⟩ | ⟨o, its, n, q1, q2, q3, q4, _⟩) | ⟨_, q⟩
      · exact .base (.frz q)
      · exact .kList q1 q2
      · exact .base (.lst q)
    exact go "list" _ ty (by cases t <;> decide +kernel) (h P H Ext.refl R _ rfl)
end
end MP

/-! MP 11: outcomes with exceptions; expressions, one rule each. -/
namespace MP
open PySem PySem.Spec PyProof.Rows L2
abbrev Tk (X : Cx) (W : WX) : Prop := L2N.Takes X W
abbrev CXf := L2N.CX
section
variable (K : PySem.W.Frag) (mg : Str → Option Value)
/-- an own class of exceptions -/
def EC (c : String) (cls : Value) : Prop := ∃ C : Addr, cls = .ref C ∧ mg (Str.ofString c) = some (.ref C)
/-- how an exception lies -/
def XD (P : Pl) (H : Hp) (c : String) (f : Option (String × PV)) (cls : Value) (d : Option Addr) : Prop := EC mg c cls ∧ match f with
  | none => d = none
  | some (n, x) => ∃ a v, d = some a ∧ H a = some (.xd [(Str.ofString n, v)]) ∧ a ∉ P.A ∧ RV K mg P H x v
def Post {α : Type} (E : XK) (P : Pl) (H : Hp) (o : Out α) (Q : α → List HObj → Pl → Hp → Prop) : Prop := match o with
  | .ok a L' => ∀ (P' : Pl) (H' : Hp), Ext P H P' H' → Rel K mg P' L' H' → Q a L' P' H'
  | .exc c f L' => ∀ (P' : Pl) (H' : Hp) (cls : Value) (d : Option Addr), Ext P H P' H' → Rel K mg P' L' H' → XD K mg P' H' c f cls d → E cls d H'
  | .stuck => False
abbrev Hands (Q : List V → Hp → Prop) : List PV → List HObj → Pl → Hp → Prop := fun zs _ P2 H2 => ∀ us, RVs K mg P2 H2 zs us → Q us H2
/-- the exception that a suite handles: its name's slot, it, its class, its dict -/
abbrev XSuite := Option (Nat × Addr × Value × Option Addr)
def GX (hx : HX) (xs : XSuite) (P : Pl) (H : Hp) (σ : L2.St) : Prop := match hx, xs with
  | none, none => True
  | some (c, f), some (i, a, cls, d) => σ[i]? = some (some (.ref a)) ∧ EC mg c cls ∧ (match f with
    | none => d = none
    | some (n, x) => ∃ dx v, d = some dx ∧ P.Z dx ∧ H dx = some (.xd [(Str.ofString n, v)]) ∧ RV K mg P H x v)
  | _, _ => False
/-- how a frame stands -/
structure Lay (hx : HX) (xs : XSuite) (P : Pl) (L : List HObj) (H : Hp) (ρ : Env') (σ : L2.St) : Prop where
  R : Rel K mg P L H
  re : RE K mg P H ρ σ
  gx : GX K mg hx xs P H σ
def tI (W : WX) (hx : HX) (xs : XSuite) (m : Env' → M PV) : TE := fun σ H Q => ∃ P L ρ, Lay K mg hx xs P L H ρ σ ∧ Post K mg (WE W σ) P H (m ρ L) (Hand K mg Q)
def tIs (W : WX) (hx : HX) (xs : XSuite) (m : Env' → M (List PV)) : TA := fun σ H Q => ∃ P L ρ, Lay K mg hx xs P L H ρ σ ∧ Post K mg (WE W σ) P H (m ρ L) (Hands K mg Q)
def tIT (W : WX) (hx : HX) (xs : XSuite) (m : Env' → M Bool) : TT := fun σ H Q => ∃ P L ρ, Lay K mg hx xs P L H ρ σ ∧ Post K mg (WE W σ) P H (m ρ L) (fun b _ _ H2 => Q b H2)
end
section
variable {K : PySem.W.Frag} {mg : Str → Option Value} {P P' : Pl} {H H' : Hp} {L L' : List HObj} {E : XK} {hx : HX} {xs : XSuite} {ρ : Env'} {σ : L2.St}
theorem GX.mono (e : Ext P H P' H') (h : GX K mg hx xs P H σ) : GX K mg hx xs P' H' σ := by
  unfold GX at h ⊢
  split at h
  · trivial
  · rename_i c f i a cls d
    obtain ⟨h1, h2, h3⟩ := h
    refine ⟨h1, h2, ?_⟩
    cases f with
    | none => exact h3
    | some p =>
      obtain ⟨n, x⟩ := p
      obtain ⟨dx, v, h4, h5, h6, h7⟩ := h3
      exact ⟨dx, v, h4, e.Z _ h5, e.hold _ _ h5 h6, h7.mono e⟩
  · exact h.elim
theorem Lay.mono (l : Lay K mg hx xs P L H ρ σ) (e : Ext P H P' H') (R : Rel K mg P' L' H') : Lay K mg hx xs P' L' H' ρ σ := ⟨R, l.re.mono e, l.gx.mono e⟩
theorem post_bnd {α β : Type} {m : M α} {k : α → M β} {Q : β → List HObj → Pl → Hp → Prop} (h : Post K mg E P H (bnd m k L) Q) : Post K mg E P H (m L) (fun a L' P' H' => Post K mg E P' H' (k a L') Q) := by
  unfold bnd at h
  cases hm : m L with
  | ok a L1 =>
    rw [hm] at h
    intro P' H' e r
    simp only at h
    cases hk : k a L1 with
    | ok b L2 =>
      rw [hk] at h
      exact fun P2 H2 e2 r2 => h P2 H2 (e.trans e2) r2
    | exc c f L2 =>
      rw [hk] at h
      exact fun P2 H2 cls d e2 r2 x => h P2 H2 cls d (e.trans e2) r2 x
    | stuck => rw [hk] at h; exact h
  | exc c f L1 =>
    rw [hm] at h
    exact h
  | stuck => rw [hm] at h; exact h
theorem Post.imp {α : Type} {o : Out α} {Q Q' : α → List HObj → Pl → Hp → Prop} (h : Post K mg E P H o Q) (hq : ∀ a L' P' H', Ext P H P' H' → Rel K mg P' L' H' → Q a L' P' H' → Q' a L' P' H') : Post K mg E P H o Q' := by
  cases o with
  | ok a L1 => exact fun P' H' e r => hq _ _ _ _ e r (h P' H' e r)
  | exc c f L1 => exact h
  | stuck => exact h
theorem Post.to0 {α : Type} {o : Out α} {Q : α → List HObj → Pl → Hp → Prop} (h : Post K mg E P H o Q) : Post0 K mg P H o Q := by
  cases o with
  | ok a L1 => exact h
  | exc c f L1 => trivial
  | stuck => exact h
theorem Post.ok {α : Type} {a : α} {Q : α → List HObj → Pl → Hp → Prop} (h : Post K mg E P H (.ok a L) Q) (R : Rel K mg P L H) : Q a L P H := h P H Ext.refl R
theorem truth_same {x : PV} {k : Bool} (h : truth x L = .ok k L') : L' = L := by
  unfold truth at h
  split at h <;> first
    | (cases h; rfl)
    | (split at h <;> first | (cases h; rfl) | cases h)
    | cases h
theorem truth_exc {x : PV} {c : String} {f : Option (String × PV)} (h : truth x L = .exc c f L') : False := by
  unfold truth at h
  split at h <;> first
    | (cases h; done)
    | (split at h <;> cases h)
theorem post_truth {β : Type} {x : PV} {v : V} {k : Bool → M β} {Q : β → List HObj → Pl → Hp → Prop} (R : Rel K mg P L H) (hv : RV K mg P H x v) (h : Post K mg E P H (bnd (truth x) k L) Q) : ∃ b, truth x L = .ok b L ∧ TruV K v H b ∧ Post K mg E P H (k b L) Q := by
  unfold bnd at h
  cases hm : truth x L with
  | stuck => rw [hm] at h; exact h.elim
  | exc c f L1 => exact (truth_exc hm).elim
  | ok b L1 =>
    have e := truth_same hm
    subst e
    rw [hm] at h
    obtain ⟨k', t, q⟩ := truth_of (K := K) (mg := mg) (Q := fun b' _ => b' = b) R hv (by rw [hm]; exact fun _ _ _ _ => rfl)
    subst q
    exact ⟨k', rfl, t, h⟩
end
theorem _root_.L2.PE.mpwk {X : Cx} {e : Expr} {t t' : TE} (h : PE X e t) (w : ∀ σ H Q, t' σ H Q → t σ H Q) : PE X e t' := ⟨fun pins s σ H Q I q => h.run pins s σ H Q I (w _ _ _ q)⟩
theorem _root_.L2.PA.mpwk {X : Cx} {e : List Expr} {t t' : TA} (h : PA X e t) (w : ∀ σ H Q, t' σ H Q → t σ H Q) : PA X e t' := ⟨fun p pins s σ H Q I q => h.run p pins s σ H Q I (w _ _ _ q)⟩
theorem _root_.L2.PT.mpwk {X : Cx} {e : Expr} {t t' : TT} (h : PT X e t) (w : ∀ σ H Q, t' σ H Q → t σ H Q) : PT X e t' := ⟨fun pins s σ H Q I q => h.run pins s σ H Q I (w _ _ _ q)⟩
theorem _root_.L2.PW.mpwk {X : Cx} {e : Expr} {t t' : TT} (h : PW X e t) (w : ∀ σ H Q, t' σ H Q → t σ H Q) : PW X e t' := ⟨fun wh pins s σ H Q I q => h.run wh pins s σ H Q I (w _ _ _ q)⟩
section
variable {X : Cx} {W : WX} {hx : HX} {xs : XSuite} {a b c e : Expr} {es : List Expr} {pos : Pos} {m m1 m2 m3 : Env' → M PV} {ms : Env' → M (List PV)}
end
end MP

/-! MP 12: expressions, one rule each. -/
namespace MP
open PySem PySem.Spec PyProof.Rows L2
section
variable {K : PySem.W.Frag} {mg : Str → Option Value} {W : WX} {hx : HX} {xs : XSuite} {P : Pl} {H : Hp} {L : List HObj} {ρ : Env'} {σ : L2.St} {m m1 m2 m3 : Env' → M PV} {ms : Env' → M (List PV)}
theorem t1 {α : Type} {k : PV → M α} {Qk : α → List HObj → Pl → Hp → Prop} {R : V → Hp → Prop} (l : Lay K mg hx xs P L H ρ σ) (h : Post K mg (WE W σ) P H (bnd (m1 ρ) k L) Qk)
    (hR : ∀ x L2 P2 H2 v, Ext P H P2 H2 → Lay K mg hx xs P2 L2 H2 ρ σ → RV K mg P2 H2 x v → Post K mg (WE W σ) P2 H2 (k x L2) Qk → R v H2) : tI K mg W hx xs m1 σ H R :=
  ⟨P, L, ρ, l, (post_bnd h).imp fun x L2 P2 H2 e r q v rv => hR x L2 P2 H2 v e (l.mono e r) rv q⟩
theorem ts {α : Type} {k : List PV → M α} {Qk : α → List HObj → Pl → Hp → Prop} {R : List V → Hp → Prop} (l : Lay K mg hx xs P L H ρ σ) (h : Post K mg (WE W σ) P H (bnd (ms ρ) k L) Qk)
    (hR : ∀ x L2 P2 H2 v, Ext P H P2 H2 → Lay K mg hx xs P2 L2 H2 ρ σ → RVs K mg P2 H2 x v → Post K mg (WE W σ) P2 H2 (k x L2) Qk → R v H2) : tIs K mg W hx xs ms σ H R :=
  ⟨P, L, ρ, l, (post_bnd h).imp fun x L2 P2 H2 e r q v rv => hR x L2 P2 H2 v e (l.mono e r) rv q⟩
theorem tT {α : Type} {mb : Env' → M Bool} {k : Bool → M α} {Qk : α → List HObj → Pl → Hp → Prop} {R : Bool → Hp → Prop} (l : Lay K mg hx xs P L H ρ σ) (h : Post K mg (WE W σ) P H (bnd (mb ρ) k L) Qk)
    (hR : ∀ x L2 P2 H2, Ext P H P2 H2 → Lay K mg hx xs P2 L2 H2 ρ σ → Post K mg (WE W σ) P2 H2 (k x L2) Qk → R x H2) : tIT K mg W hx xs mb σ H R :=
  ⟨P, L, ρ, l, (post_bnd h).imp fun x L2 P2 H2 e r q => hR x L2 P2 H2 e (l.mono e r) q⟩
theorem bnd_ret {α β : Type} {a : α} {k : α → M β} : bnd (ret a) k L = k a L := rfl
theorem bnd_assoc {α β γ : Type} {m : M α} {k : α → M β} {k2 : β → M γ} : bnd (bnd m k) k2 = bnd m fun x => bnd (k x) k2 := by
  funext L
  unfold bnd
  cases m L <;> rfl
end
section
variable {X : Cx} {W : WX} {hx : HX} {xs : XSuite} {a b c e : Expr} {es : List Expr} {pos : Pos} {m m1 m2 m3 : Env' → M PV} {ms : Env' → M (List PV)}
abbrev PEi (X : Cx) (W : WX) (hx : HX) (xs : XSuite) (e : Expr) (m : Env' → M PV) : Prop := PE X e (tI X.K X.mg W hx xs m)
abbrev PAi (X : Cx) (W : WX) (hx : HX) (xs : XSuite) (e : List Expr) (m : Env' → M (List PV)) : Prop := PA X e (tIs X.K X.mg W hx xs m)
abbrev PTi (X : Cx) (W : WX) (hx : HX) (xs : XSuite) (e : Expr) (m : Env' → M Bool) : Prop := PT X e (tIT X.K X.mg W hx xs m)
abbrev PWi (X : Cx) (W : WX) (hx : HX) (xs : XSuite) (e : Expr) (m : Env' → M Bool) : Prop := PW X e (tIT X.K X.mg W hx xs m)

theorem pi_cst {v : PV} {w : V} (h : PE X e (tC w)) (r : ∀ P H, RV X.K X.mg P H v w) : PEi X W hx xs e (fun _ => ret v) :=
  h.mpwk fun σ H Q ⟨P, L, ρ, l, q⟩ => q.ok l.R _ (r P H)
theorem pi_var {i : Nat} (h : PE X e (tVar i)) : PEi X W hx xs e (fun ρ L => match ρ[i]? with
    | some (some x) => .ok x L
    | _ => .stuck) :=
  h.mpwk fun σ H Q ⟨P, L, ρ, l, q⟩ => by
    simp only at q
    split at q
    · rename_i x hi
      obtain ⟨v, h1, h2⟩ := l.re.val i x hi
      exact ⟨v, h1, q.ok l.R _ h2⟩
    · exact q.elim
theorem pi_op {f : Value → Value → Sem Value} {o : Bop} {op : Operator} (ho : OpR X (binaryOp op) (rB X.K X.mg o)) (ha : PEi X W hx xs a m1) (hb : PEi X W hx xs b m2) :
    PEi X W hx xs (.BinOp a op b pos) (fun ρ => bnd (m1 ρ) fun x => bnd (m2 ρ) fun y => binop o x y) :=
  (pe_op ho ha hb).mpwk fun σ H Q ⟨P, L, ρ, l, h⟩ => t1 l h fun x L1 P1 H1 v e1 l1 r1 h1 => t1 l1 h1 fun y L2 P2 H2 w e2 l2 r2 h2 => ⟨P2, L2, x, y, l2.R, r1.mono e2, r2, h2.to0⟩
theorem pi_neg (ha : PEi X W hx xs a m1) : PEi X W hx xs (.UnaryOp .USub a pos) (fun ρ => bnd (m1 ρ) fun x L => match x with
    | .int i => .ok (.int (-i)) L
    | _ => .stuck) :=
  (pe_un un_neg ha).mpwk fun σ H Q ⟨P, L, ρ, l, h⟩ => t1 l h fun x L1 P1 H1 v e1 l1 r1 h1 => by
    cases x <;> try exact h1.elim
    rename_i i
    exact ⟨i, r1, h1.ok l1.R _ rfl⟩
theorem pi_not (ha : PEi X W hx xs a m1) : PEi X W hx xs (.UnaryOp .Not a pos) (fun ρ => bnd (m1 ρ) fun x => bnd (truth x) fun k => ret (.bl (!k))) :=
  (pe_notT ha).mpwk fun σ H Q ⟨P, L, ρ, l, h⟩ => t1 l h fun x L1 P1 H1 v e1 l1 r1 h1 => by
    obtain ⟨k, _, t, q⟩ := post_truth l1.R r1 h1
    exact ⟨k, t, q.ok l1.R _ rfl⟩
theorem pi_cmp {o : Cop} {op : CmpOp} (ho : OpR X (compareOp op) (rC X.K X.mg o)) (ha : PEi X W hx xs a m1) (hb : PEi X W hx xs b m2) (hm : behindInMarks op b = false) :
    PEi X W hx xs (.Compare a [op] [b] pos) (fun ρ => bnd (m1 ρ) fun x => bnd (m2 ρ) fun y => bnd (cmpop o x y) fun b => ret (.bl b)) :=
  (pe_cmpR ho ha hb hm).mpwk fun σ H Q ⟨P, L, ρ, l, h⟩ => t1 l h fun x L1 P1 H1 v e1 l1 r1 h1 => t1 l1 h1 fun y L2 P2 H2 w e2 l2 r2 h2 =>
    ⟨P2, L2, x, y, l2.R, r1.mono e2, r2, ((post_bnd h2).imp fun b L3 P3 H3 e3 R3 q => Post.ok q R3 _ rfl).to0⟩
theorem pti_cmp {o : Cop} {op : CmpOp} (ho : OpR X (compareOp op) (rC X.K X.mg o)) (ha : PEi X W hx xs a m1) (hb : PEi X W hx xs b m2) (hm : behindInMarks op b = false) :
    PTi X W hx xs (.Compare a [op] [b] pos) (fun ρ => bnd (bnd (m1 ρ) fun x => bnd (m2 ρ) fun y => bnd (cmpop o x y) fun b => ret (.bl b)) truth) :=
  (pt_cmpR ho ha hb hm).mpwk fun σ H Q ⟨P, L, ρ, l, h⟩ => by
    simp only at h
    rw [bnd_assoc] at h
    refine t1 l h fun x L1 P1 H1 v e1 l1 r1 h1 => ?_
    rw [bnd_assoc] at h1
    refine t1 l1 h1 fun y L2 P2 H2 w e2 l2 r2 h2 => ?_
    rw [bnd_assoc] at h2
    exact ⟨P2, L2, x, y, l2.R, r1.mono e2, r2, ((post_bnd h2).imp fun b L3 P3 H3 e3 R3 q => ⟨b, rfl, Post.ok (E := WE W σ) (a := b) q R3⟩).to0⟩
theorem pi_chain {o o' : Cop} {op op' : CmpOp} (ho : OpR X (compareOp op) (rC X.K X.mg o)) (ho' : OpR X (compareOp op') (rC X.K X.mg o')) (ha : PEi X W hx xs a m1) (hb : PEi X W hx xs b m2) (hc : PEi X W hx xs c m3) (hm : lastMarks [op, op'] [b, c] = false) :
    PEi X W hx xs (.Compare a [op, op'] [b, c] pos) (fun ρ => bnd (m1 ρ) fun x => bnd (m2 ρ) fun y => bnd (cmpop o x y) fun k =>
      if k = true then bnd (m3 ρ) fun z => bnd (cmpop o' y z) fun b => ret (.bl b) else ret (.bl false)) :=
  (pe_chain ho ho' ha hb hc hm).mpwk fun σ H Q ⟨P, L, ρ, l, h⟩ => t1 l h fun x L1 P1 H1 v e1 l1 r1 h1 => t1 l1 h1 fun y L2 P2 H2 w e2 l2 r2 h2 =>
    ⟨P2, L2, x, y, l2.R, r1.mono e2, r2, ((post_bnd h2).imp fun k L3 P3 H3 e3 R3 q => ⟨k, rfl, by
      cases k with
      | false => exact Post.ok q R3 _ rfl
      | true =>
        simp only [if_true] at q ⊢
        exact t1 (l2.mono e3 R3) q fun z L4 P4 H4 u e4 l4 r4 h4 => ⟨P4, L4, y, z, l4.R, r2.mono (e3.trans e4), r4, ((post_bnd h4).imp fun b L5 P5 H5 e5 R5 q5 => Post.ok q5 R5 _ rfl).to0⟩⟩).to0⟩
theorem pti_chain {o o' : Cop} {op op' : CmpOp} (ho : OpR X (compareOp op) (rC X.K X.mg o)) (ho' : OpR X (compareOp op') (rC X.K X.mg o')) (ha : PEi X W hx xs a m1) (hb : PEi X W hx xs b m2) (hc : PEi X W hx xs c m3) (hm : lastMarks [op, op'] [b, c] = false) :
    PTi X W hx xs (.Compare a [op, op'] [b, c] pos) (fun ρ => bnd (bnd (m1 ρ) fun x => bnd (m2 ρ) fun y => bnd (cmpop o x y) fun k =>
      if k = true then bnd (m3 ρ) fun z => bnd (cmpop o' y z) fun b => ret (.bl b) else ret (.bl false)) truth) :=
  (pt_chain ho ho' ha hb hc hm).mpwk fun σ H Q ⟨P, L, ρ, l, h⟩ => by
    simp only at h
    rw [bnd_assoc] at h
    refine t1 l h fun x L1 P1 H1 v e1 l1 r1 h1 => ?_
    rw [bnd_assoc] at h1
    refine t1 l1 h1 fun y L2 P2 H2 w e2 l2 r2 h2 => ?_
    rw [bnd_assoc] at h2
    refine ⟨P2, L2, x, y, l2.R, r1.mono e2, r2, ((post_bnd h2).imp fun k L3 P3 H3 e3 R3 q => ⟨k, rfl, ?_⟩).to0⟩
    cases k with
    | false => exact ⟨false, rfl, Post.ok (E := WE W σ) (a := false) q R3⟩
    | true =>
      simp only [if_true] at q ⊢
      rw [bnd_assoc] at q
      refine t1 (l2.mono e3 R3) q fun z L4 P4 H4 u e4 l4 r4 h4 => ?_
      rw [bnd_assoc] at h4
      exact ⟨P4, L4, y, z, l4.R, r2.mono (e3.trans e4), r4, ((post_bnd h4).imp fun b L5 P5 H5 e5 R5 q5 => ⟨b, rfl, Post.ok (E := WE W σ) (a := b) q5 R5⟩).to0⟩
variable {rest : List Expr}
theorem pi_and (ha : PEi X W hx xs a m1) (hb : PEi X W hx xs (.BoolOp .And (b :: rest) pos) m2) : PEi X W hx xs (.BoolOp .And (a :: b :: rest) pos) (fun ρ => bnd (m1 ρ) fun x => bnd (truth x) fun k => if k = true then m2 ρ else ret x) :=
  (pe_andT ha hb).mpwk fun σ H Q ⟨P, L, ρ, l, h⟩ => t1 l h fun x L1 P1 H1 v e1 l1 r1 h1 => by
    obtain ⟨k, _, t, q⟩ := post_truth l1.R r1 h1
    refine ⟨k, t, ?_⟩
    cases k with
    | true => exact ⟨P1, L1, ρ, l1, q⟩
    | false => exact q.ok l1.R _ r1
theorem pi_or (ha : PEi X W hx xs a m1) (hb : PEi X W hx xs (.BoolOp .Or (b :: rest) pos) m2) : PEi X W hx xs (.BoolOp .Or (a :: b :: rest) pos) (fun ρ => bnd (m1 ρ) fun x => bnd (truth x) fun k => if k = true then ret x else m2 ρ) :=
  (pe_orT ha hb).mpwk fun σ H Q ⟨P, L, ρ, l, h⟩ => t1 l h fun x L1 P1 H1 v e1 l1 r1 h1 => by
    obtain ⟨k, _, t, q⟩ := post_truth l1.R r1 h1
    refine ⟨k, t, ?_⟩
    cases k with
    | true => exact q.ok l1.R _ r1
    | false => exact ⟨P1, L1, ρ, l1, q⟩
/-- tests -/
abbrev tr (m : Env' → M PV) : Env' → M Bool := fun ρ => bnd (m ρ) truth
theorem pti_truth (ha : PEi X W hx xs a m) (he : ∀ whole, isTrue a X.env whole = (do let v ← whole; standAt a.pos; holding [v] (truthy v))) : PTi X W hx xs a (tr m) :=
  (pt_truth ha he).mpwk fun σ H Q ⟨P, L, ρ, l, h⟩ => t1 l h fun x L1 P1 H1 v e1 l1 r1 h1 => truth_of l1.R r1 h1.to0
theorem truth_bl {b : Bool} : truth (.bl b) = ret b := rfl
theorem truth_twice {β : Type} {x : PV} {L : List HObj} {k : Bool → M β} {k2 : Bool → Bool → M β} (h : ∀ b, k b = k2 b b) : bnd (truth x) k L = bnd (truth x) (fun b => bnd (truth x) fun b2 => k2 b b2) L := by
  unfold bnd
  cases hm : truth x L with
  | stuck => rfl
  | exc c f L1 => exact (truth_exc hm).elim
  | ok b L1 =>
    have e := truth_same hm
    subst e
    simp only
    rw [hm]
    simp only
    rw [h]
theorem pti_not (ha : PTi X W hx xs a (tr m)) : PTi X W hx xs (.UnaryOp .Not a pos) (tr fun ρ => bnd (m ρ) fun x => bnd (truth x) fun k => ret (.bl (!k))) :=
  (pt_not ha).mpwk fun σ H Q ⟨P, L, ρ, l, h⟩ => by
    refine tT (mb := tr m) (k := fun b => ret (!b)) (Qk := fun b _ _ H2 => Q b H2) l ?_ fun k L1 P1 H1 e1 l1 h1 => Post.ok (E := WE W σ) (a := !k) h1 l1.R
    have e : bnd (tr m ρ) (fun b => ret (!b)) = tr (fun ρ => bnd (m ρ) fun x => bnd (truth x) fun k => ret (.bl (!k))) ρ := by
      unfold tr
      rw [bnd_assoc, bnd_assoc]
      congr 1
      funext x
      rw [bnd_assoc]
      rfl
    rw [e]
    exact h
theorem if_true' {α : Type} {x y : α} : (if true = true then x else y) = x := rfl
theorem pwi_one_and (ha : PTi X W hx xs a (tr m)) : PWi X W hx xs (.BoolOp .And [a] pos) (tr m) := pw_and1 ha
theorem pwi_one_or (ha : PTi X W hx xs a (tr m)) : PWi X W hx xs (.BoolOp .Or [a] pos) (tr m) := pw_or1 ha
theorem pwi_and (ha : PTi X W hx xs a (tr m1)) (hb : PWi X W hx xs (.BoolOp .And (b :: rest) pos) (tr m2)) : PWi X W hx xs (.BoolOp .And (a :: b :: rest) pos) (tr fun ρ => bnd (m1 ρ) fun x => bnd (truth x) fun k => if k = true then m2 ρ else ret x) :=
  (pw_and ha hb).mpwk fun σ H Q ⟨P, L, ρ, l, h⟩ => by
    refine tT (mb := tr m1) (k := fun b => if b = true then tr m2 ρ else ret false) (Qk := fun b _ _ H2 => Q b H2) l ?_ fun k L1 P1 H1 e1 l1 h1 => ?_
    · have e : bnd (tr m1 ρ) (fun b => if b = true then tr m2 ρ else ret false) = tr (fun ρ => bnd (m1 ρ) fun x => bnd (truth x) fun k => if k = true then m2 ρ else ret x) ρ := by
        unfold tr
        rw [bnd_assoc, bnd_assoc]
        congr 1
        funext x
        rw [bnd_assoc]
        funext L1
        unfold bnd
        cases hm : truth x L1 with
        | stuck => rfl
        | exc c f L1 => exact (truth_exc hm).elim
        | ok b L2 =>
          have e := truth_same hm
          subst e
          cases b with
          | true => rfl
          | false =>
            show ret false L2 = truth x L2
            rw [hm]
            rfl
      rw [e]
      exact h
    · cases k with
      | true => exact ⟨P1, L1, ρ, l1, h1⟩
      | false => exact Post.ok (E := WE W σ) (a := false) h1 l1.R
theorem pwi_or (ha : PTi X W hx xs a (tr m1)) (hb : PWi X W hx xs (.BoolOp .Or (b :: rest) pos) (tr m2)) : PWi X W hx xs (.BoolOp .Or (a :: b :: rest) pos) (tr fun ρ => bnd (m1 ρ) fun x => bnd (truth x) fun k => if k = true then ret x else m2 ρ) :=
  (pw_or ha hb).mpwk fun σ H Q ⟨P, L, ρ, l, h⟩ => by
    refine tT (mb := tr m1) (k := fun b => if b = true then ret true else tr m2 ρ) (Qk := fun b _ _ H2 => Q b H2) l ?_ fun k L1 P1 H1 e1 l1 h1 => ?_
    · have e : bnd (tr m1 ρ) (fun b => if b = true then ret true else tr m2 ρ) = tr (fun ρ => bnd (m1 ρ) fun x => bnd (truth x) fun k => if k = true then ret x else m2 ρ) ρ := by
        unfold tr
        rw [bnd_assoc, bnd_assoc]
        congr 1
        funext x
        rw [bnd_assoc]
        funext L1
        unfold bnd
        cases hm : truth x L1 with
        | stuck => rfl
        | exc c f L1 => exact (truth_exc hm).elim
        | ok b L2 =>
          have e := truth_same hm
          subst e
          cases b with
          | false => rfl
          | true =>
            show ret true L2 = truth x L2
            rw [hm]
            rfl
      rw [e]
      exact h
    · cases k with
      | false => exact ⟨P1, L1, ρ, l1, h1⟩
      | true => exact Post.ok (E := WE W σ) (a := true) h1 l1.R
theorem pi_ite (hc : PTi X W hx xs c (tr m)) (ha : PEi X W hx xs a m1) (hb : PEi X W hx xs b m2) : PEi X W hx xs (.IfExp c a b pos) (fun ρ => bnd (m ρ) fun x => bnd (truth x) fun k => if k = true then m1 ρ else m2 ρ) :=
  (pe_ifExp hc ha hb).mpwk fun σ H Q ⟨P, L, ρ, l, h⟩ => by
    refine tT (mb := tr m) (k := fun b => if b = true then m1 ρ else m2 ρ) (Qk := Hand X.K X.mg Q) l (by unfold tr; rw [bnd_assoc]; exact h) fun k L1 P1 H1 e1 l1 h1 => ?_
    cases k with
    | true => exact ⟨P1, L1, ρ, l1, h1⟩
    | false => exact ⟨P1, L1, ρ, l1, h1⟩
/-! ### lists of expressions -/
def noStar : Expr → Bool
  | .Starred .. => false
  | _ => true
theorem star1 {env : Env} (h : noStar e = true) : starEach (e :: es) env = (false, eval e env) :: starEach es env := by
  cases e <;> first | rfl | cases h
theorem stars {env : Env} : ∀ {es : List Expr}, es.all noStar = true → (starEach es env).any (·.1) = false
  | [], _ => rfl
  | e :: es, h => by
    rw [List.all_cons, Bool.and_eq_true] at h
    rw [star1 h.1, List.any_cons, stars h.2]
    rfl
theorem backTo_any {p : Pos} {ts : List (Bool × Sem Value)} : (backTo p ts).any (·.1) = ts.any (·.1) := by
  unfold backTo
  rw [List.any_map]
  rfl
theorem pai_nil : PAi X W hx xs [] (fun _ => ret []) := pa_nil.mpwk fun σ H Q ⟨P, L, ρ, l, h⟩ => h.ok l.R _ RVs.nil
theorem pai_cons (hs : noStar e = true) (ha : PEi X W hx xs e m) (hr : PAi X W hx xs es ms) : PAi X W hx xs (e :: es) (fun ρ => bnd (m ρ) fun x => bnd (ms ρ) fun xs => ret (x :: xs)) :=
  (pa_cons ha hr (star1 hs)).mpwk fun σ H Q ⟨P, L, ρ, l, h⟩ => t1 l h fun x L1 P1 H1 v e1 l1 r1 h1 => ts l1 h1 fun ys L2 P2 H2 vs e2 l2 r2 h2 => h2.ok l2.R _ (.cons (r1.mono e2) r2)
theorem pi_tup {x1 : Nat} (ha : PAi X W hx xs es ms) : PEi X W hx xs (.Tuple es x1 pos) (fun ρ => bnd (ms ρ) fun xs L => if xs.length ≤ 16777216 then .ok (.tup xs) L else .stuck) :=
  (pe_tupF ha).mpwk fun σ H Q ⟨P, L, ρ, l, h⟩ => ts l h fun ys L1 P1 H1 vs e1 l1 r1 h1 => by
    split at h1
    · rename_i hc
      refine ⟨by rw [← r1.length, sizeLine_eq]; exact hc, q_tup l1.R r1 fun P' H' e r u ru => ?_⟩
      exact h1 P' H' e r u ru
    · exact h1.elim
theorem pi_lst (ha : PAi X W hx xs es ms) : PEi X W hx xs (.List es pos) (fun ρ => bnd (ms ρ) fun xs L => if xs.length ≤ 16777216 then .ok (.ref L.length) (L ++ [.lst xs]) else .stuck) :=
  (pe_lst ha).mpwk fun σ H Q ⟨P, L, ρ, l, h⟩ => ts l h fun ys L1 P1 H1 vs e1 l1 r1 h1 => by
    split at h1
    · rename_i hc
      refine ⟨by rw [← r1.length, sizeLine_eq]; exact hc, fun p hp => q_lst l1.R r1 (fun P' H' e r u ru => ?_) hp⟩
      exact h1 P' H' e r u ru
    · exact h1.elim
/-! ### calls of built-in functions, methods, subscripts -/
theorem pi_blt {f : Value} {o : Blt} {x : Str} {p : Pos} (hc : CallR X f (rF X.K X.mg o)) (hb : (∃ id, f = .builtin id) ∨ ∃ T, f = .type T) (hg : Gl X x) (hm : X.mg x = none) (hv : bootBuiltins x = some f) (ha : PAi X W hx xs (e :: es) ms) (hn : x ≠ "__name__") (hdb : (x == ("__debug__" : Str)) = false) (hs : (e :: es).all noStar = true) : PEi X W hx xs (.Call (.Name x p) (e :: es) [] pos) (fun ρ => bnd (ms ρ) fun xs => bltin o xs) := by
  have hs' : noStar e = true ∧ es.all noStar = true := by rw [List.all_cons, Bool.and_eq_true] at hs; exact hs
  have w : ∀ σ H Q, tI X.K X.mg W hx xs (fun ρ => bnd (ms ρ) fun xs => bltin o xs) σ H Q → tCB (rF X.K X.mg o) (tIs X.K X.mg W hx xs ms) σ H Q := fun σ H Q ⟨P, L, ρ, l, h⟩ =>
    ts l h fun ys L1 P1 H1 vs e1 l1 r1 h1 => ⟨P1, L1, ys, l1.R, r1, h1.to0⟩
  rcases hb with ⟨id, rfl⟩ | ⟨T, rfl⟩
  · exact (pe_callB hc hg hm hv ha hn hdb (star1 hs'.1) (by rw [backTo_any]; exact stars hs'.2)).mpwk w
  · exact (pe_callTy hc hg hm hv ha hn hdb (star1 hs'.1) (by rw [backTo_any]; exact stars hs'.2)).mpwk w
theorem pi_isi {x y : Str} {p p2 : Pos} {t : ITy} (hg : Gl X "isinstance") (hm : X.mg "isinstance" = none) (hgt : Gl X (Str.ofString t.name)) (hmt : X.mg (Str.ofString t.name) = none) (hs : noStar a = true) (ha : PEi X W hx xs a m) :
    PEi X W hx xs (.Call (.Name "isinstance" p) [a, .Name (Str.ofString t.name) p2] [] pos) (fun ρ => bnd (m ρ) fun x => isTy t x) := by
  have h2 : PE X (.Name (Str.ofString t.name) p2) (tC (.ty t.name)) := by
    cases t
    · exact pe_bltn hgt hmt Boot.«int» rfl (by decide) (by decide)
    · exact pe_bltn hgt hmt Boot.«str» rfl (by decide) (by decide)
    · exact pe_bltn hgt hmt Boot.«tuple» rfl (by decide) (by decide)
    · exact pe_bltn hgt hmt Boot.«list» rfl (by decide) (by decide)
    · exact pe_bltn hgt hmt Boot.«bool» rfl (by decide) (by decide)
  have hA : PA X [a, .Name (Str.ofString t.name) p2] (tCons (tI X.K X.mg W hx xs m) (tCons (tC (.ty t.name)) tNil)) := pa_cons ha (pa_cons h2 pa_nil) (star1 hs)
  refine (pe_callB (call_isY t) hg hm Boot.«isinstance» hA (by decide) (by decide) (star1 hs) rfl).mpwk fun σ H Q ⟨P, L, ρ, l, h⟩ => ?_
  exact t1 l h fun x L1 P1 H1 v e1 l1 r1 h1 => ⟨P1, L1, x, v, rfl, l1.R, r1, h1.to0⟩
theorem pi_ix (ha : PEi X W hx xs a m1) (hb : PEi X W hx xs b m2) (hs : PlainIx b) : PEi X W hx xs (.Subscript a b pos) (fun ρ => bnd (m1 ρ) fun x => bnd (m2 ρ) fun y => item x y) :=
  (pe_ix ix_all ha hb hs).mpwk fun σ H Q ⟨P, L, ρ, l, h⟩ => t1 l h fun x L1 P1 H1 v e1 l1 r1 h1 => t1 l1 h1 fun y L2 P2 H2 w e2 l2 r2 h2 => ⟨P2, L2, x, y, l2.R, r1.mono e2, r2, h2.to0⟩
/-- slices -/
def tIo (K : PySem.W.Frag) (mg : Str → Option Value) (W : WX) (hx : HX) (xs : XSuite) (m : Env' → M (Option Int)) : TO := fun σ H Q => ∃ P L ρ, Lay K mg hx xs P L H ρ σ ∧ Post K mg (WE W σ) P H (m ρ L) (fun o _ _ H2 => Q o H2)
abbrev POi (X : Cx) (W : WX) (hx : HX) (xs : XSuite) (e : Option Expr) (m : Env' → M (Option Int)) : Prop := PO X e (tIo X.K X.mg W hx xs m)
theorem _root_.L2.PO.mpwk {e : Option Expr} {t t' : TO} (h : PO X e t) (w : ∀ σ H Q, t' σ H Q → t σ H Q) : PO X e t' := ⟨fun pins s σ H Q I q => h.run pins s σ H Q I (w _ _ _ q)⟩
theorem poi_none : POi X W hx xs none (fun _ => ret none) := po_none.mpwk fun σ H Q ⟨P, L, ρ, l, h⟩ => Post.ok (E := WE W σ) (a := (none : Option Int)) h l.R
theorem poi_some (ha : PEi X W hx xs a m) : POi X W hx xs (some a) (fun ρ => bnd (m ρ) fun x L => (match x with
    | .int i => .ok (some i) L
    | _ => .stuck)) := (po_some ha).mpwk fun σ H Q ⟨P, L, ρ, l, h⟩ => t1 l h fun x L1 P1 H1 v e1 l1 r1 h1 => by
  cases x <;> try (exact h1.elim)
  rename_i j
  exact ⟨j, r1, Post.ok (E := WE W σ) (a := some j) h1 l1.R⟩
variable {lo hi : Option Expr} {ml mh : Env' → M (Option Int)} {p2 : Pos}
theorem pi_slc (ha : PEi X W hx xs a m) (hl : POi X W hx xs lo ml) (hh : POi X W hx xs hi mh) : PEi X W hx xs (.Subscript a (.Slice lo hi none p2) pos) (fun ρ => bnd (m ρ) fun x => bnd (ml ρ) fun l => bnd (mh ρ) fun h => sliceP x l h) :=
  (pe_slice sl_all ha hl hh).mpwk fun σ H Q ⟨P, L, ρ, l, h⟩ => t1 l h fun x L1 P1 H1 v e1 l1 r1 h1 =>
    ⟨P1, L1, ρ, l1, (post_bnd h1).imp fun o L2 P2 H2 e2 R2 h2 => ⟨P2, L2, ρ, l1.mono e2 R2, (post_bnd h2).imp fun o' L3 P3 H3 e3 R3 h3 => ⟨P3, L3, x, R3, r1.mono (e2.trans e3), h3.to0⟩⟩⟩
end
/-! ### t[::-1] -/
theorem rev_pick (xs : Array Value) : ((List.range xs.size).filterMap fun (m : Nat) => xs[((((xs.size : Nat) : Int) - 1) + (m : Int) * (-1)).toNat]?) = xs.toList.reverse := by
  have e : ∀ n, n ≤ xs.size → ((List.range n).filterMap fun (m : Nat) => xs[((((n : Nat) : Int) - 1) + (m : Int) * (-1)).toNat]?) = (xs.toList.take n).reverse := by
    intro n
    induction n with
    | zero => intro _; rfl
    | succ n ih =>
      intro hn
      rw [List.range_succ_eq_map, List.filterMap_cons, List.filterMap_map]
      have e0 : ((((n + 1 : Nat) : Int) - 1) + ((0 : Nat) : Int) * (-1)).toNat = n := by omega
      have e1 : ((fun (m : Nat) => xs[((((n + 1 : Nat) : Int) - 1) + (m : Int) * (-1)).toNat]?) ∘ Nat.succ) = fun (m : Nat) => xs[((((n : Nat) : Int) - 1) + (m : Int) * (-1)).toNat]? := by
        funext m
        have : ((((n + 1 : Nat) : Int) - 1) + ((Nat.succ m : Nat) : Int) * (-1)).toNat = ((((n : Nat) : Int) - 1) + (m : Int) * (-1)).toNat := by omega
        show xs[((((n + 1 : Nat) : Int) - 1) + ((Nat.succ m : Nat) : Int) * (-1)).toNat]? = _
        rw [this]
      rw [e1, ih (by omega), e0, Array.getElem?_eq_getElem (by omega)]
      have hl : n < xs.toList.length := by rw [Array.length_toList]; omega
      rw [List.take_succ_eq_append_getElem hl, List.reverse_append]
      simp
  have := e xs.size (Nat.le_refl _)
  rw [this, List.take_of_length_le (by rw [Array.length_toList]; exact Nat.le_refl _)]
section
variable {prog : Program} {w : World} {A : Around} {E : Value → Shared → Prop} {s : Shared}
theorem sliceApplied_rev {sl : Addr} {vk : Value} {n : Nat} {Q : Int × Int × Nat → Shared → Prop} (hs : s.heap.IsSliceOf sl .none .none vk) (pk : IsPart vk (some (-1)))
    (h : Q (((n : Int) - 1), -1, n) s) : wpAny (model prog w) A (Builtin.Slice.sliceApplied (.ref sl) (pure (n : Int))) Q E s := by
  obtain ⟨os, hos, hcs, hds⟩ := id hs
  unfold Builtin.Slice.sliceApplied Builtin.Slice.sliceFields
  refine wpAny_bind (wpAny_bind (wpAny_field hos hds (x := .none) rfl (wpAny_bind (wpAny_field hos hds (x := .none) rfl (wpAny_bind (wpAny_field hos hds (x := vk) rfl (wpAny_pure ?_)))))))
  refine wpAny_bind (HT.slicePart_ pk ?_)
  show wpAny _ _ (if ((-1 : Int) == 0) = true then _ else _) _ _ s
  rw [if_neg (by decide)]
  refine wpAny_bind (HT.slicePart_ .none (wpAny_bind (HT.slicePart_ .none (wpAny_bind (wpAny_pure ?_)))))
  have e1 : Builtin.Slice.sliceAdjust none none (-1) (n : Int) = ((n : Int) - 1, -1) := by
    unfold Builtin.Slice.sliceAdjust
    simp
  show wpAny _ _ (match Builtin.Slice.sliceAdjust none none (-1) (n : Int) with | (lo, hi) => pure (lo, (-1 : Int), Builtin.Slice.slicePlaces lo hi (-1))) _ _ s
  rw [e1]
  have e2 : Builtin.Slice.slicePlaces ((n : Int) - 1) (-1) (-1) = n := by
    unfold Builtin.Slice.slicePlaces
    have h1 : ¬ ((-1 : Int) > 0) := by decide
    simp only [h1, if_false]
    split
    · rw [show (- -1 : Int) = 1 by decide, Int.ediv_one]; omega
    · omega
  show wpAny _ _ (pure ((n : Int) - 1, (-1 : Int), Builtin.Slice.slicePlaces ((n : Int) - 1) (-1) (-1))) _ _ s
  rw [e2]
  exact wpAny_pure h
theorem getItem_tuple_rev {t sl : Addr} {items : Array Value} {vk : Value} {Q : Value → Shared → Prop} (ht : IsTup s.heap t items) (hs : s.heap.IsSliceOf sl .none .none vk) (pk : IsPart vk (some (-1)))
    (h : Q (.ref s.heap.objs.size) { s with heap := s.heap.push { cls := .type "tuple", data := .seq (items.toList.reverse).toArray } })
    (hsz : items.size ≤ sizeLine) : wpAny (model prog w) A (getItem (.ref t) (.ref sl)) Q E s := by
  have htake : sizeOk (.seq (items.toList.reverse).toArray) := by
    show (items.toList.reverse).toArray.size ≤ sizeLine
    rw [List.size_toArray, List.length_reverse, Array.length_toList]
    exact hsz
  obtain ⟨os, hos, hcs, hds⟩ := id hs
  have hTs : s.TypeIs (.ref sl) "slice" := ⟨os, hos, hcs⟩
  unfold getItem
  try with_reducible refine wpAny_holding ?_
  first | refine wpAny_bind (wpAny_pure ?_) | skip
  refine wpAny_bind (wpAny_sequenceKey ht.typeIs (by decide) ?_)
  refine wpAny_bind (wpAny_callSpecial?_slot (name := Str.ofString "__getitem__") ht.typeIs PyProof.Rows.slot_tuple_getitem
    (wpAny_call_entry PyProof.Rows.slot_tuple_getitem ht.typeIs entry_tuple_getitem ?_ (args_tuple_getitem _ _)))
  show wpAny _ _ (Builtin.Tuple.tupleItemsOf (.ref t) >>= _) _ _ s
  refine wpAny_bind (tupleItemsOf_ ht ?_)
  refine wpAny_bind (wpAny_typeOf hTs ?_)
  rw [if_pos (by decide)]
  refine wpAny_bind (sliceApplied_rev hs pk ?_)
  have hno : ¬ ((((items.size : Int) - 1) == 0 && (-1 : Int) == 1 && items.size == items.size) = true) := by simp
  show wpAny _ _ (if (((items.size : Int) - 1) == 0 && (-1 : Int) == 1 && items.size == items.size) = true then _ else _) _ _ s
  rw [if_neg hno, rev_pick]
  first
    | exact wpAny_bind (m := Builtin.Tuple.tupleExact _) (wpAny_newObj_type (wpAny_pure ⟨_, rfl, wpAny_pure h⟩) htake)
    | exact wpAny_bind (m := Builtin.Tuple.tupleExact _) (wpAny_newObj_type (wpAny_bind (wpAny_pure (wpAny_pure ⟨_, rfl, wpAny_pure h⟩))) htake)
    | exact wpAny_bind (wpAny_bind (m := Builtin.Tuple.tupleExact _) (wpAny_newObj_type (wpAny_pure (wpAny_pure ⟨_, rfl, wpAny_pure h⟩)) htake))
    | exact wpAny_bind (wpAny_bind (m := Builtin.Tuple.tupleExact _) (wpAny_newObj_type (wpAny_pure ⟨_, rfl, wpAny_pure h⟩) htake))
end
theorem Vals.rev {xs : List V} {us : List Value} (r : Vals xs us) : Vals xs.reverse us.reverse := by
  induction r with
  | nil => exact .nil
  | cons h _ ih => rw [List.reverse_cons, List.reverse_cons]; exact ih.append (.cons h .nil)
theorem RVs.rev {K : PySem.W.Frag} {mg : Str → Option Value} {P : Pl} {H : Hp} : ∀ {xs : List PV} {vs : List V}, RVs K mg P H xs vs → RVs K mg P H xs.reverse vs.reverse
  | [], _, h => by cases (show _ = [] from h); exact .nil
  | _ :: _, _, h => by
    obtain ⟨v, r, e, h2, h3⟩ := h
    subst e
    rw [List.reverse_cons, List.reverse_cons]
    exact (RVs.rev h3).append (.cons h2 .nil)
section
variable {X : Cx} {W : WX} {hx : HX} {xs : XSuite} {a b c e : Expr} {es : List Expr} {pos p2 : Pos} {m m1 m2 m3 : Env' → M PV} {ms : Env' → M (List PV)}
theorem pi_rev {z : Expr} (ha : PEi X W hx xs a m) (hz : PEi X W hx xs z (fun _ => ret (.int (-1)))) : PEi X W hx xs (.Subscript a (.Slice none none (some z) p2) pos) (fun ρ => bnd (m ρ) fun x => revP x) := by
  refine ⟨fun pins s σ H Q I h => ?_⟩
  obtain ⟨P, L, ρ, l, h⟩ := h
  refine Subscript_ (thn (ha.run pins s σ H (fun x H1 => ∃ P1 L1 x', Lay X.K X.mg hx xs P1 L1 H1 ρ σ ∧ RV X.K X.mg P1 H1 x' x ∧ Post X.K X.mg (WE W σ) P1 H1 (revP x' L1) (Hand X.K X.mg Q)) I ⟨P, L, ρ, l, (post_bnd h).imp fun x' L1 P1 H1 e R q v rv => ⟨P1, L1, x', l.mono e R, rv, q⟩⟩) fun v s1 ⟨x, H1, I1, r1, P1, L1, x', l1, rx, q1⟩ => ?_)
  cases x' <;> try exact q1.elim
  rename_i ys
  refine wpAny_Slice ?_
  rw [evalPart_none]
  refine wpAny_pure ?_
  refine wpAny_pure ?_
  rw [evalPart_some]
  refine thn (hz.run pins s1 σ H1 (fun y H2 => y = .int (-1) ∧ ∃ P2 L2, Lay X.K X.mg hx xs P2 L2 H2 ρ σ ∧ Ext P1 H1 P2 H2 ∧ L2 = L1) I1 ⟨P1, L1, ρ, l1, ?_⟩) fun vk s3 ⟨y, H2, I2, r2, e, P2, L2, l2, ex, eL⟩ => ?_
  · exact fun P' H' e' R' u ru => ⟨ru, P', L1, l1.mono e' R', e', rfl⟩
  subst e
  obtain ⟨tk, rfl⟩ := r2
  have I4 : Inv X pins σ H2 { s3 with heap := s3.heap.push { cls := .type "slice", data := .fields #[.none, .none, .int (-1) tk] } } := I2.kept (t' := s3.toks) fun b ob q => Heap.get?_push_of_some _ q
  obtain ⟨A1, vs, e3, t2, p⟩ := rx.mono ex
  subst e3
  cases r1
  obtain ⟨its, r, ht, hsz⟩ := I4.tuple t2.1
  have hlen : its.toArray.size = vs.length := by rw [List.size_toArray]; exact r.length.symm
  show wpAny (model X.prog X.w) X.A (subscriptTail a (.Slice none none (some z) p2) (.ref A1) (.ref s3.heap.objs.size)) (EP X pins σ Q) X.xe { s3 with heap := s3.heap.push { cls := .type "slice", data := .fields #[.none, .none, .int (-1) tk] } }
  refine tail_any (ops := [.ref A1, .ref s3.heap.objs.size]) ht.typeIs PyProof.Rows.slot_tuple_getitem.lookup ?_ (by with_unfolding_all rfl)
  refine getItem_tuple_rev ht (Heap.IsSliceOf.new ..) (.int (-1) tk) ?_ (by rw [hlen]; exact hsz)
  have er : (its.toArray.toList.reverse) = its.reverse := rfl
  rw [er]
  subst eL
  refine laidT I4 (Vals.rev r) (by rw [List.length_reverse]; exact hsz) ?_
  exact q_tup l2.R p.rev fun P' H' e' R' u ru => q1 P' H' (ex.trans e') R' u ru
end
end MP

/-! MP 13: methods, calls, exceptions made, raised and asked. -/
namespace MP
open PySem PySem.Spec PyProof.Rows L2
section
variable {X : Cx} {W : WX} {hx : HX} {xs : XSuite} {a b c e : Expr} {es : List Expr} {pos apos cpos : Pos} {m m1 m2 m3 : Env' → M PV} {ms : Env' → M (List PV)}
def baseOk : Expr → Bool
  | .Call _ _ _ _ => false
  | _ => true
theorem base_of {name : Str} {env : Env} {w : Sem Value} (h : baseOk e = true) : attributeBase e name env w = w := by
  cases e <;> first | rfl | cases h
theorem recv_of {o : Mth} {P : Pl} {H : Hp} {L : List HObj} {x : PV} {v : V} (R : Rel X.K X.mg P L H) (rx : RV X.K X.mg P H x v) (h : recvOk o x L = true) : BmAt X o.name v H (rM X.K X.mg o x.kd) := by
  refine met_of R rx (fun n e => ?_) (fun hm => ?_) (fun hm => ?_) (fun hm => ?_)
  · subst e
    cases o <;> first | exact h | cases h
  · cases x <;> first
      | exact ⟨_, rfl⟩
      | (rcases hm with h1 | h1 | h1 | h1 <;> subst h1 <;> cases h)
  · subst hm
    cases x <;> first | exact ⟨_, rfl⟩ | cases h
  · rcases hm with h1 | h1 <;> subst h1 <;> cases x <;> first
      | (show (0 : Nat) < 2; omega)
      | (show (1 : Nat) < 2; omega)
      | cases h
theorem pi_met0 {o : Mth} (ho : PEi X W hx xs a m) (hb : baseOk a = true) (hline : (apos.endLine == cpos.line) = true) :
    PEi X W hx xs (.Call (.Attribute a (Str.ofString o.name) apos) [] [] cpos) (fun ρ => bnd (m ρ) fun x L => if recvOk o x L = true then bnd (ret []) (fun xs => meth o x xs) L else .stuck) :=
  (pe_bmL0 ho (base_of hb) hline).mpwk fun σ H Q ⟨P, L, ρ, l, h⟩ => t1 l h fun x L1 P1 H1 v e1 l1 r1 h1 => by
    split at h1
    · rename_i hr
      exact ⟨_, recv_of l1.R r1 hr, P1, L1, x, [], rfl, l1.R, r1, RVs.nil, h1.to0⟩
    · exact h1.elim
theorem few_of {env : Env} (hs : es.all noStar = true) (hl : es.length < 30) : ((backTo cpos (starEach es env)).all (fun x => !x.1) && (backToKw cpos (keywordEach [] env)).all (fun x => x.1.isSome)
      && decide (es.length + ([] : List Keyword).length + (if ([] : List Keyword).isEmpty then 0 else 1) < 30)) = true := by
  have h1 : (backTo cpos (starEach es env)).all (fun x => !x.1) = true := by
    have h2 := stars (env := env) hs
    rw [← backTo_any (p := cpos)] at h2
    rw [List.all_eq_not_any_not]
    simp only [Bool.not_not]
    rw [h2]
    rfl
  rw [h1]
  have h3 : decide (es.length + ([] : List Keyword).length + (if ([] : List Keyword).isEmpty then 0 else 1) < 30) = true := decide_eq_true (by simpa using hl)
  rw [h3]
  rfl
theorem pi_met {o : Mth} (ho : PEi X W hx xs a m) (ha : PAi X W hx xs (e :: es) ms) (hb : baseOk a = true) (hs : (e :: es).all noStar = true) (hl : (e :: es).length < 30) (hline : (apos.endLine == cpos.line) = true) :
    PEi X W hx xs (.Call (.Attribute a (Str.ofString o.name) apos) (e :: es) [] cpos) (fun ρ => bnd (m ρ) fun x L => if recvOk o x L = true then bnd (ms ρ) (fun xs => meth o x xs) L else .stuck) := by
  have hs' : noStar e = true ∧ es.all noStar = true := by rw [List.all_cons, Bool.and_eq_true] at hs; exact hs
  refine (pe_bmL ho ha (base_of hb) (few_of hs hl) hline (star1 hs'.1) (by rw [backTo_any]; exact stars hs'.2)).mpwk fun σ H Q ⟨P, L, ρ, l, h⟩ => t1 l h fun x L1 P1 H1 v e1 l1 r1 h1 => ?_
  split at h1
  · rename_i hr
    exact ⟨_, recv_of l1.R r1 hr, ts l1 h1 fun ys L2 P2 H2 vs e2 l2 r2 h2 => ⟨P2, L2, x, ys, rfl, l2.R, r1.mono e2, r2, h2.to0⟩⟩
  · exact h1.elim
/-! ### own functions -/
def spF (K : PySem.W.Frag) (mg : Str → Option Value) (cl : String → List PV → M PV) (f : String) : Sp := fun vs H Q E => ∃ P L ys, Rel K mg P L H ∧ RVs K mg P H ys vs ∧ Post K mg E P H (cl f ys L) (Hand K mg Q)
def dunOf : Operator → Option String
  | .Mult => some "__mul__"
  | .Pow => some "__pow__"
  | .BitOr => some "__or__"
  | .BitAnd => some "__and__"
  | .Sub => some "__sub__"
  | .Add => some "__add__"
  | _ => none
theorem dun_ok {op : Operator} {m : String} (h : dunOf op = some m) : PySem.dunder op.info.2 = Str.ofString m := by
  cases op <;> first | (cases h; done) | (cases h; decide +kernel)
def binD (m : String) : Bool := ["__mul__", "__pow__", "__or__", "__and__", "__sub__", "__add__"].contains m
theorem dun_bin {op : Operator} {m : String} (h : dunOf op = some m) : binD m = true := by
  cases op <;> first | (cases h; done) | (cases h; decide +kernel)
def noR (o : Option (Option Value)) : Bool := match o with
  | some none => true
  | some (some (.ref _)) => true
  | _ => false
def powB (K : PySem.W.Frag) (C : Addr) : Bool := noR (PySem.W.findIn K (.ref C) "__rpow__") && (PySem.W.findIn K (.type "int") "__pow__").isSome && (PySem.W.findIn K (.type "int") "__rpow__").isSome && decide (PySem.W.subIn K (.type "int") (.ref C) = some false)
/-- what a method that is called by an operator needs of its class -/
def opB (K : PySem.W.Frag) (C F : Addr) (m : String) : Bool := (decide (m ≠ "__call__") || PySem.W.fnIn K F) && (!binD m || PySem.W.selfFirst K C) && (decide (m ≠ "__pow__") || powB K C)
/-- how a def is reached: by its name, or by a class -/
def Acc (K : PySem.W.Frag) (mg : Str → Option Value) (T : Tab) (f : String) (F : Addr) : Prop := match T.mts.lookup f with
  | none => mg (Str.ofString f) = some (.ref F) ∧ PySem.W.keepIn K (.ref F) = true
  | some (c, m) => ∃ C, mg (Str.ofString c) = some (.ref C) ∧ Cls K C ∧ Meth K C (Str.ofString m) F ∧ (m = "__init__" → Mk K C F) ∧ opB K C F m = true
/-- how a call binds -/
def BindF (K : PySem.W.Frag) (fd : FuncData) (ps : List Str) : Option String → Prop
  | none => Binds K fd ps []
  | some k => ∀ (s : Shared) (us : List Value) (w : Value), K.In s.heap → (us ++ [w]).length = ps.length → BindsTo s fd ⟨us, [(Str.ofString k, w)]⟩ (ps.zip (us ++ [w]))
/-- a def may be called here -/
def Callable (X : Cx) (T : Tab) (cl : String → List PV → M PV) (f : String) (kw : Option String) : Prop := ∃ k F fd ps, FnOk X.prog X.w X.K X.mg X.base (CXf X.prog X.w) k F fd ps (spF X.K X.mg cl f) ∧ Room (k + 1) X.A ∧ Acc X.K X.mg T f F ∧ BindF X.K fd ps kw
/-- the fields of own classes -/
def FldAll (K : PySem.W.Frag) (mg : Str → Option Value) (T : Tab) : Prop := ∀ c f, T.flds.contains (c, f) = true → ∀ C, mg c = some (.ref C) → Cls K C ∧ NoAttr K C f
theorem post_WE {α : Type} {K : PySem.W.Frag} {mg : Str → Option Value} {P : Pl} {H : Hp} {σ : L2.St} {o : Out α} {Q : α → List HObj → Pl → Hp → Prop} (h : Post K mg (WE W σ) P H o Q) : Post K mg (fun cls d H' => W cls d σ H') P H o Q := h
theorem pi_call {T : Tab} {cl : String → List PV → M PV} {f : String} {p : Pos} (tk : Tk X W) (F : Callable X T cl f none) (hl : T.mts.lookup f = none) (hg : Gl X (Str.ofString f)) (hdb : (Str.ofString f == ("__debug__" : Str)) = false) (ha : PAi X W hx xs (e :: es) ms) (hs : (e :: es).all noStar = true) :
    PEi X W hx xs (.Call (.Name (Str.ofString f) p) (e :: es) [] pos) (fun ρ => bnd (ms ρ) fun ys => cl f ys) := by
  have hs' : noStar e = true ∧ es.all noStar = true := by rw [List.all_cons, Bool.and_eq_true] at hs; exact hs
  obtain ⟨k, F, fd, ps, ok, hr, acc, hb⟩ := F
  have hb : Binds X.K fd ps [] := hb
  have hr : Room k X.A := hr.mono (by omega)
  unfold Acc at acc
  rw [hl] at acc
  obtain ⟨hm, hk⟩ := acc
  refine (pe_callSD ok hr hg hm hk hb .nil (E := WE W) (fun σ => L2N.passAt tk σ) ha hdb (star1 hs'.1) (by rw [backTo_any]; exact stars hs'.2)).mpwk fun σ H Q ⟨P, L, ρ, l, h⟩ => ?_
  exact ts l h fun ys L1 P1 H1 vs e1 l1 r1 h1 => by
    rw [List.append_nil]
    exact ⟨P1, L1, ys, l1.R, r1, h1⟩
theorem pi_call0 {T : Tab} {cl : String → List PV → M PV} {f : String} {p : Pos} (tk : Tk X W) (F : Callable X T cl f none) (hl : T.mts.lookup f = none) (hg : Gl X (Str.ofString f)) (hdb : (Str.ofString f == ("__debug__" : Str)) = false) :
    PEi X W hx xs (.Call (.Name (Str.ofString f) p) [] [] pos) (fun ρ => bnd (ret []) fun ys => cl f ys) := by
  obtain ⟨k, F, fd, ps, ok, hr, acc, hb⟩ := F
  have hb : Binds X.K fd ps [] := hb
  have hr : Room k X.A := hr.mono (by omega)
  unfold Acc at acc
  rw [hl] at acc
  obtain ⟨hm, hk⟩ := acc
  refine ⟨fun pins s σ H Q I h => ?_⟩
  obtain ⟨P, L, ρ, l, h⟩ := h
  refine wpAny_Call_Name_kw (ld_glob I hg hm ?_ hdb)
  exact PySem.W.callWith_K0 I.kIn hk (run_fnSD (us := []) (vs := []) ok hr hb .nil (L2N.passAt tk σ) I .nil ⟨P, L, [], l.R, RVs.nil, h⟩)
theorem run_fnk1 {CX : CXT} {f : Addr} {fd : FuncData} {ps : List Str} {sp : Sp} {k : Nat} {E : L2.St → XK} {kn : String} {pins : List (Addr × Obj)} {σ : L2.St} {H : Hp} {s : Shared} {Q : VK} {us : List Value} {u : Value} {vs : List V} {v : V} (F : FnOk X.prog X.w X.K X.mg X.base CX k f fd ps sp) (hr : Room k X.A) (hb : BindF X.K fd ps (some kn)) (hx : PassesAt CX X σ (E σ))
    (I : Inv X pins σ H s) (r : Vals vs us) (ru : RelV v u) (h : sp (vs ++ [v]) H Q (E σ)) : wpAny (model X.prog X.w) X.A (PySem.call (.ref f) us [(Str.ofString kn, u)]) (EP X pins σ Q) X.xe s := by
  have r2 : Vals (vs ++ [v]) (us ++ [u]) := r.append (.cons ru .nil)
  have hl : (us ++ [u]).length = ps.length := by rw [← r2.length]; exact F.len _ _ _ _ h
  refine wpAny_call (codeAny_mono (F.run X.A X.stack s H ⟨us, [(Str.ofString kn, u)]⟩ (us ++ [u]) (vs ++ [v]) Q (E σ) hr I.env0 (hb s us u I.kIn hl) r2 h) fun r s' hq => ?_)
  cases r with
  | error e => exact hx pins H s e s' I hq
  | ok fl =>
    cases fl with
    | ret u => exact I.after hq
    | next => exact False.elim hq
    | brk => exact False.elim hq
    | cont => exact False.elim hq
theorem pi_callk {T : Tab} {cl : String → List PV → M PV} {f kn : String} {p kp : Pos} (tk : Tk X W) (F : Callable X T cl f (some kn)) (hl : T.mts.lookup f = none) (hg : Gl X (Str.ofString f)) (hdb : (Str.ofString f == ("__debug__" : Str)) = false) (ha : PAi X W hx xs (e :: es) ms) (hk' : PEi X W hx xs a m1) (hs : (e :: es).all noStar = true) :
    PEi X W hx xs (.Call (.Name (Str.ofString f) p) (e :: es) [⟨some (Str.ofString kn), a, kp⟩] pos) (fun ρ => bnd (ms ρ) fun ys => bnd (m1 ρ) fun y => cl f (ys ++ [y])) := by
  have hs' : noStar e = true ∧ es.all noStar = true := by rw [List.all_cons, Bool.and_eq_true] at hs; exact hs
  obtain ⟨k, F, fd, ps, ok, hr, acc, hb⟩ := F
  have hr : Room k X.A := hr.mono (by omega)
  unfold Acc at acc
  rw [hl] at acc
  obtain ⟨hm, hk⟩ := acc
  refine ⟨fun pins s σ H Q I ⟨P, L, ρ, l, h⟩ => ?_⟩
  refine wpAny_Call_Name_kw (ld_glob I hg hm ?_ hdb)
  refine PySem.W.callWith_KW (h₀ := X.base) I.ok.mod.kin hk rfl (thn (ha.run pos pins s σ H (fun vs H1 => tI X.K X.mg W hx xs m1 σ H1 fun v H2 => spF X.K X.mg cl f (vs ++ [v]) H2 Q (WE W σ)) I
    (ts l h fun ys L1 P1 H1 vs e1 l1 r1 h1 => t1 l1 h1 fun y L2 P2 H2 v e2 l2 r2 h2 => ⟨P2, L2, ys ++ [y], l2.R, (r1.mono e2).append (.cons r2 RVs.nil), h2⟩)) fun us s1 ⟨vs, H1, I1, r, q⟩ => ?_)
    (by
      have : (backTo pos (starEach (e :: es) X.env)).any (·.1) = false := by rw [backTo_any]; exact stars hs
      rw [this]; rfl) (star1 hs'.1)
  refine thn ((pk_cons (nm := some (Str.ofString kn)) (kpos := kp) hk' pk_nil).run pos pins s1 σ H1 (fun zs H2 => ∃ v, zs = [v] ∧ spF X.K X.mg cl f (vs ++ [v]) H2 Q (WE W σ)) I1 ?_) fun ws s2 ⟨zs, H2, I2, rz, v, hz, q2⟩ => ⟨I2.kIn, ?_⟩
  · obtain ⟨P1, L1, ρ1, l1, h1⟩ := q
    exact ⟨P1, L1, ρ1, l1, h1.imp fun y L2 P2 H2 e2 R2 q2 v rv => ⟨v, rfl, q2 v rv⟩⟩
  · subst hz
    obtain ⟨u, rfl, ru⟩ := vals1 rz
    exact run_fnk1 (E := WE W) ok hr hb (L2N.passAt tk σ) I2 r ru q2
/-! ### own classes -/
theorem zip_lookup {K : PySem.W.Frag} {mg : Str → Option Value} {P : Pl} {H : Hp} {f : Str} : ∀ {ns : List Str} {us : List PV} {vs : List V} {u : PV}, RVs K mg P H us vs → (ns.zip us).lookup f = some u → ∃ v, (ns.zip vs).lookup f = some v ∧ RV K mg P H u v
  | [], us, vs, u, _, h => by simp at h
  | n :: ns, [], vs, u, _, h => by simp at h
  | n :: ns, x :: us, vs, u, r, h => by
    obtain ⟨v, t, e, h1, h2⟩ := r
    subst e
    rw [List.zip_cons_cons, List.lookup_cons] at h ⊢
    split at h
    · cases h
      exact ⟨v, rfl, h1⟩
    · exact zip_lookup h2 h
theorem zip_none {f : Str} : ∀ {ns : List Str} {vs : List V}, ns.contains f = false → (ns.zip vs).lookup f = none
  | [], vs, _ => by simp
  | n :: ns, [], _ => by simp
  | n :: ns, v :: vs, h => by
    rw [List.contains_cons, Bool.or_eq_false_iff] at h
    rw [List.zip_cons_cons, List.lookup_cons, h.1]
    exact zip_none h.2
theorem field_post {K : PySem.W.Frag} {mg : Str → Option Value} {T : Tab} {P : Pl} {H : Hp} {L : List HObj} {E : XK} {x : PV} {v : V} {f : Str} {Q : VK} (fa : FldAll K mg T) (R : Rel K mg P L H) (r : RV K mg P H x v) (h : Post K mg E P H (fieldOf T f x L) (Hand K mg Q)) :
    ∃ a C dx fs w, v = .ref a ∧ H a = some (.ins C dx fs) ∧ Cls K C ∧ NoAttr K C f ∧ fs.lookup f = some w ∧ Q w H := by
  have key : ∀ (a C dx : Addr) (c : Str) (ns : List Str) (us : List PV) (vs : List V), H a = some (.ins C dx (ns.zip vs)) → mg c = some (.ref C) → RVs K mg P H us vs → v = .ref a → Post K mg E P H (fieldIn T f c ns us L) (Hand K mg Q) → ∃ a C dx fs w, v = .ref a ∧ H a = some (.ins C dx fs) ∧ Cls K C ∧ NoAttr K C f ∧ fs.lookup f = some w ∧ Q w H := by
    intro a C dx c ns us vs ha hc hr hv h
    unfold fieldIn at h
    split at h
    · rename_i ht
      split at h
      · rename_i u hu
        obtain ⟨w, h1, h2⟩ := zip_lookup hr hu
        obtain ⟨c1, c2⟩ := fa c f ht C hc
        exact ⟨a, C, dx, _, w, hv, ha, c1, c2, h1, h.ok R _ h2⟩
      · exact h.elim
    · exact h.elim
  cases x <;> try exact h.elim
  · rename_i n
    simp only [fieldOf] at h
    split at h
    · rename_i c ns us hn
      obtain ⟨a, h1, h2⟩ := r
      obtain ⟨ho, h3, C, dx, vs, h4, h5, h6, h7⟩ := R.obj n _ a hn h2
      subst h4
      exact key a C dx c ns us vs h3 h6 h7 h1 h
    · exact h.elim
  · obtain ⟨a, C, dx, fs, h1, h2, h3, h4, vs, h5, h6, h7⟩ := r
    subst h5
    exact key a C dx _ _ _ vs h4 h3 h7 h1 h
theorem pi_fld {T : Tab} {f : Str} (fa : FldAll X.K X.mg T) (hb : baseOk a = true) (ha : PEi X W hx xs a m1) : PEi X W hx xs (.Attribute a f pos) (fun ρ => bnd (m1 ρ) fun x => fieldOf T f x) :=
  (pe_fld ha (base_of hb)).mpwk fun σ H Q ⟨P, L, ρ, l, h⟩ => t1 l h fun x L1 P1 H1 v e1 l1 r1 h1 => field_post fa l1.R r1 h1
theorem ins_of {K : PySem.W.Frag} {mg : Str → Option Value} {P : Pl} {H : Hp} {L : List HObj} {x : PV} {v : V} {c m : Str} (R : Rel K mg P L H) (r : RV K mg P H x v) (h : insOk L x c m = true) : ∃ a C dx fs, v = .ref a ∧ mg c = some (.ref C) ∧ H a = some (.ins C dx fs) ∧ fs.lookup m = none := by
  cases x <;> try (cases h; done)
  · rename_i n
    simp only [insOk] at h
    split at h
    · rename_i c' ns us hn
      simp only [Bool.and_eq_true, decide_eq_true_eq, Bool.not_eq_true'] at h
      obtain ⟨rfl, hm⟩ := h
      obtain ⟨a, h1, h2⟩ := r
      obtain ⟨ho, h3, C, dx, vs, h4, h5, h6, h7⟩ := R.obj n _ a hn h2
      subst h4
      exact ⟨a, C, dx, _, h1, h6, h3, zip_none hm⟩
    · cases h
  · simp only [insOk, Bool.and_eq_true, decide_eq_true_eq, Bool.not_eq_true'] at h
    obtain ⟨rfl, hm⟩ := h
    obtain ⟨a, C, dx, fs, h1, h2, h3, h4, vs, h5, h6, h7⟩ := r
    subst h5
    exact ⟨a, C, dx, _, h1, h3, h4, zip_none hm⟩
theorem eval_method {o : Expr} {name : Str} {apos : Pos} {args : List Expr} {env : Env} (hb : attributeBase o name env (eval o env) = eval o env) (hs : args.all noStar = true) (hl : args.length < 30) (hline : (apos.endLine == pos.line) = true) :
    eval (.Call (.Attribute o name apos) args [] pos) env = (do
      let ov ← eval o env
      standAt apos.atName
      let (f, first) ← holding [ov] (getMethod ov name (do return (← importBound o env).getD true))
      callWith pos f first (backTo pos (starEach args env)) (backToKw pos (keywordEach [] env))) := by
  have hform : methodCallForm (args.length + ([] : List Keyword).length) (backTo pos (starEach args env)) (backToKw pos (keywordEach [] env)) = true := few_of hs hl
  have hpos : methodCallPos true o env apos pos = pure pos := by unfold methodCallPos; simp [hline]
  have e : ∀ ov : Value, methodCall o name apos pos env ov (args.length + ([] : List Keyword).length) (backTo pos (starEach args env)) (backToKw pos (keywordEach [] env)) = (do
      let (f, first) ← holding [ov] (getMethod ov name (do return (← importBound o env).getD true))
      callWith pos f first (backTo pos (starEach args env)) (backToKw pos (keywordEach [] env))) := fun ov => by
    unfold methodCall
    rw [hform]
    unfold calleeOf
    simp only [if_true, hpos, pure_bind]
  rw [arm_eval_Call, hb]
  simp only [e]
theorem pi_mtc {T : Tab} {cl : String → List PV → M PV} {key c m : String} {apos : Pos} {pl : Sem Bool} (tk : Tk X W) (F : Callable X T cl key none) (hl : T.mts.lookup key = some (c, m)) (ho : PEi X W hx xs a m1) (ha : PAi X W hx xs (e :: es) ms) (hs : (e :: es).all noStar = true)
    (ht : eval (.Call (.Attribute a (Str.ofString m) apos) (e :: es) [] pos) X.env = (do
      let ov ← eval a X.env
      standAt apos.atName
      let (f, first) ← holding [ov] (getMethod ov (Str.ofString m) pl)
      callWith pos f first (backTo pos (starEach (e :: es) X.env)) (backToKw pos (keywordEach [] X.env)))) :
    PEi X W hx xs (.Call (.Attribute a (Str.ofString m) apos) (e :: es) [] pos) (fun ρ => bnd (m1 ρ) fun x L => if insOk L x (Str.ofString c) (Str.ofString m) = true then bnd (ms ρ) (fun ys => cl key (x :: ys)) L else .stuck) := by
  have hs' : noStar e = true ∧ es.all noStar = true := by rw [List.all_cons, Bool.and_eq_true] at hs; exact hs
  obtain ⟨k, F, fd, ps, ok, hr, acc, hb⟩ := F
  have hb : Binds X.K fd ps [] := hb
  have hr : Room k X.A := hr.mono (by omega)
  unfold Acc at acc
  rw [hl] at acc
  obtain ⟨C, hC, cC, hm, _⟩ := acc
  refine ⟨fun pins s σ H Q I ⟨P, L, ρ, l, h⟩ => ?_⟩
  refine PySem.W.methodCall_KW (pl := pl) (thn (ho.run pins s σ H (fun v H1 => ∃ P1 L1 x, Lay X.K X.mg hx xs P1 L1 H1 ρ σ ∧ RV X.K X.mg P1 H1 x v ∧ Post X.K X.mg (WE W σ) P1 H1 (if insOk L1 x (Str.ofString c) (Str.ofString m) = true then bnd (ms ρ) (fun ys => cl key (x :: ys)) L1 else .stuck) (Hand X.K X.mg Q)) I
    (t1 l h fun x L1 P1 H1 v e1 l1 r1 h1 => ⟨P1, L1, x, l1, r1, h1⟩)) fun u s1 ⟨v, H1, I1, rx, P1, L1, x, l1, r1, h1⟩ => ?_) ht
  split at h1
  · rename_i hi
    obtain ⟨a, C', dx, fs, rfl, hC', ea, hno⟩ := ins_of l1.R r1 hi
    rw [hC] at hC'
    cases hC'
    obtain rfl : u = Value.ref a := rx
    refine getmeth_ok I1 ea cC hm hno ?_
    refine PySem.W.callWith_K (first := [.ref a]) (h₀ := X.base) I1.ok.mod.kin hm.kp (thn (ha.run pos pins s1 σ H1 (fun ws H2 => spF X.K X.mg cl key (.ref a :: ws) H2 Q (WE W σ)) I1 (ts l1 h1 fun ys L2 P2 H2 ws e2 l2 r2 h2 => ⟨P2, L2, x :: ys, l2.R, .cons (r1.mono e2) r2, h2⟩)) fun us s2 ⟨ws, H2, I2, r, q2⟩ => ⟨I2.kIn, ?_⟩) (star1 hs'.1) (by rw [backTo_any]; exact stars hs'.2)
    refine run_fnSD (us := .ref a :: us) (vs := .ref a :: ws) ok hr hb .nil (L2N.passAt tk σ) I2 (.cons rfl r) ?_
    rw [List.append_nil]
    exact q2
  · exact h1.elim
theorem pi_mtc0 {T : Tab} {cl : String → List PV → M PV} {key c m : String} {apos : Pos} {pl : Sem Bool} (tk : Tk X W) (F : Callable X T cl key none) (hl : T.mts.lookup key = some (c, m)) (ho : PEi X W hx xs a m1)
    (ht : eval (.Call (.Attribute a (Str.ofString m) apos) [] [] pos) X.env = (do
      let ov ← eval a X.env
      standAt apos.atName
      let (f, first) ← holding [ov] (getMethod ov (Str.ofString m) pl)
      callWith pos f first (backTo pos (starEach [] X.env)) (backToKw pos (keywordEach [] X.env)))) :
    PEi X W hx xs (.Call (.Attribute a (Str.ofString m) apos) [] [] pos) (fun ρ => bnd (m1 ρ) fun x L => if insOk L x (Str.ofString c) (Str.ofString m) = true then bnd (ret []) (fun ys => cl key (x :: ys)) L else .stuck) := by
  obtain ⟨k, F, fd, ps, ok, hr, acc, hb⟩ := F
  have hb : Binds X.K fd ps [] := hb
  have hr : Room k X.A := hr.mono (by omega)
  unfold Acc at acc
  rw [hl] at acc
  obtain ⟨C, hC, cC, hm, _⟩ := acc
  refine ⟨fun pins s σ H Q I ⟨P, L, ρ, l, h⟩ => ?_⟩
  refine PySem.W.methodCall_KW (pl := pl) (thn (ho.run pins s σ H (fun v H1 => ∃ P1 L1 x, Lay X.K X.mg hx xs P1 L1 H1 ρ σ ∧ RV X.K X.mg P1 H1 x v ∧ Post X.K X.mg (WE W σ) P1 H1 (if insOk L1 x (Str.ofString c) (Str.ofString m) = true then bnd (ret []) (fun ys => cl key (x :: ys)) L1 else .stuck) (Hand X.K X.mg Q)) I
    (t1 l h fun x L1 P1 H1 v e1 l1 r1 h1 => ⟨P1, L1, x, l1, r1, h1⟩)) fun u s1 ⟨v, H1, I1, rx, P1, L1, x, l1, r1, h1⟩ => ?_) ht
  split at h1
  · rename_i hi
    obtain ⟨a, C', dx, fs, rfl, hC', ea, hno⟩ := ins_of l1.R r1 hi
    rw [hC] at hC'
    cases hC'
    obtain rfl : u = Value.ref a := rx
    refine getmeth_ok I1 ea cC hm hno ?_
    exact PySem.W.callWith_K0 (first := [.ref a]) I1.kIn hm.kp (run_fnSD (us := [.ref a]) (vs := [.ref a]) ok hr hb .nil (L2N.passAt tk σ) I1 (.cons rfl .nil) ⟨P1, L1, [x], l1.R, .cons r1 RVs.nil, h1⟩)
  · exact h1.elim
theorem run_makeSD {CX : CXT} {C f : Addr} {fd : FuncData} {ps : List Str} {sp : Sp} {k : Nat} {E : L2.St → XK} {pins : List (Addr × Obj)} {σ : L2.St} {H : Hp} {s : Shared} {Q : VK} {us : List Value} {vs : List V} (M : Mk X.K C f) (F : FnOk X.prog X.w X.K X.mg X.base CX k f fd ps sp) (hr : Room (k + 1) X.A) (hb : Binds X.K fd ps [])
    (hx : PassesAt CX X σ (E σ)) (I : Inv X pins σ H s) (r : Vals vs us)
    (h : ∀ x dx, H x = none → H dx = none → dx ≠ x → sp (.ref x :: vs) (upd (upd H dx (.own x)) x (.ins C dx [])) (fun v H2 => v = .non ∧ Q (.ref x) H2) (E σ)) :
    wpAny (model X.prog X.w) X.A (PySem.call (.ref C) us) (EP X pins σ Q) X.xe s := by
  have hq := h (s.heap.objs.size + 1) s.heap.objs.size (I.hok.fresh (Nat.le_succ _)) (I.hok.fresh (Nat.le_refl _)) (Nat.ne_of_lt (Nat.lt_succ_self _))
  have I2 := Inv.made (C := C) I
  have r2 : Vals (V.ref (s.heap.objs.size + 1) :: vs) (Value.ref (s.heap.objs.size + 1) :: us) := .cons rfl r
  have hl : ((Value.ref (s.heap.objs.size + 1) :: us) ++ []).length = ps.length := by
    have e := r2.length
    rw [F.len _ _ _ _ hq] at e
    rw [List.append_nil]
    exact e.symm
  have hbb := hb _ (Value.ref (s.heap.objs.size + 1) :: us) I2.kIn hl
  rw [List.append_nil] at hbb
  refine wpAny_call (make_map (f := f) I.kIn M.makes M.init (beq_iff_eq.mp M.fn) (codeAny_mono (F.run _ X.stack _ _ ⟨Value.ref (s.heap.objs.size + 1) :: us, []⟩ (Value.ref (s.heap.objs.size + 1) :: us) _ _ (E σ) (hr.make C us [])
    (I2.env0.make C us []) hbb r2 hq) fun r s' hq' => ?_))
  cases r with
  | error e => exact hx pins _ _ e s' I2 hq'
  | ok fl =>
    cases fl with
    | ret u =>
      obtain ⟨v, H', I3, rv, ev, q3⟩ := I2.after hq'
      subst ev
      exact ⟨rv, ⟨V.ref (s.heap.objs.size + 1), H', I3, rfl, q3⟩⟩
    | next => exact False.elim hq'
    | brk => exact False.elim hq'
    | cont => exact False.elim hq'
theorem new_sp {cl : String → List PV → M PV} {key c : String} {K : PySem.W.Frag} {mg : Str → Option Value} {P : Pl} {H : Hp} {L : List HObj} {ys : List PV} {ws : List V} {E : XK} {Q : VK} {C x dx : Addr} (hC : mg (Str.ofString c) = some (.ref C)) (R : Rel K mg P L H) (r : RVs K mg P H ys ws) (hxn : H x = none) (hdn : H dx = none) (hne : dx ≠ x)
    (h : Post K mg E P H (newP cl key c ys L) (Hand K mg Q)) : spF K mg cl key (.ref x :: ws) (upd (upd H dx (.own x)) x (.ins C dx [])) (fun v H2 => v = .non ∧ Q (.ref x) H2) E := by
  have e1 : Ext P H P (upd H dx (.own x)) := Ext.fresh hdn
  have R1 : Rel K mg P L (upd H dx (.own x)) := R.fresh hdn
  have hxn1 : upd H dx (.own x) x = none := by rw [upd_ne (Ne.symm hne)]; exact hxn
  have e2 : Ext P (upd H dx (.own x)) (P.add x) (upd (upd H dx (.own x)) x (.ins C dx [])) := Ext.add hxn1
  have R2 : Rel K mg (P.add x) (L ++ [.ins (Str.ofString c) [] []]) (upd (upd H dx (.own x)) x (.ins C dx [])) := R1.add hxn1 ⟨C, dx, [], rfl, rfl, hC, RVs.nil⟩
  have hAn : (P.add x).A[L.length]? = some x := by
    show (P.A ++ [x])[L.length]? = some x
    rw [← R.len]
    simp
  refine ⟨P.add x, _, .ref L.length :: ys, R2, .cons ⟨x, rfl, hAn⟩ (r.mono (e1.trans e2)), ?_⟩
  unfold newP at h
  cases hc : cl key (.ref L.length :: ys) (L ++ [.ins (Str.ofString c) [] []]) with
  | stuck => rw [hc] at h; exact h.elim
  | exc c' f L' =>
    rw [hc] at h
    exact fun P' H' cls d e R' xd => h P' H' cls d ((e1.trans e2).trans e) R' xd
  | ok v L' =>
    rw [hc] at h
    cases v <;> try exact h.elim
    intro P' H' e R' u ru
    exact ⟨ru, h P' H' ((e1.trans e2).trans e) R' _ ⟨x, rfl, e.at hAn⟩⟩
theorem pi_new {T : Tab} {cl : String → List PV → M PV} {key c : String} {p : Pos} (tk : Tk X W) (F : Callable X T cl key none) (hl : T.mts.lookup key = some (c, "__init__")) (hg : Gl X (Str.ofString c)) (hdb : (Str.ofString c == ("__debug__" : Str)) = false) (ha : PAi X W hx xs (e :: es) ms) (hs : (e :: es).all noStar = true) :
    PEi X W hx xs (.Call (.Name (Str.ofString c) p) (e :: es) [] pos) (fun ρ => bnd (ms ρ) fun ys => newP cl key c ys) := by
  have hs' : noStar e = true ∧ es.all noStar = true := by rw [List.all_cons, Bool.and_eq_true] at hs; exact hs
  obtain ⟨k, F, fd, ps, ok, hr, acc, hb⟩ := F
  have hb : Binds X.K fd ps [] := hb
  unfold Acc at acc
  rw [hl] at acc
  obtain ⟨C, hC, cC, hm, hk, _⟩ := acc
  have M := hk rfl
  refine ⟨fun pins s σ H Q I ⟨P, L, ρ, l, h⟩ => ?_⟩
  refine wpAny_Call_Name_kw (ld_glob I hg hC ?_ hdb)
  refine PySem.W.callWith_K (h₀ := X.base) I.ok.mod.kin M.kp (thn (ha.run pos pins s σ H (fun ws H1 => ∀ x dx, H1 x = none → H1 dx = none → dx ≠ x → spF X.K X.mg cl key (.ref x :: ws) (upd (upd H1 dx (.own x)) x (.ins C dx [])) (fun v H2 => v = .non ∧ Q (.ref x) H2) (WE W σ)) I
    (ts l h fun ys L1 P1 H1 ws e1 l1 r1 h1 => fun x dx h2 h3 h4 => new_sp hC l1.R r1 h2 h3 h4 h1)) fun us s1 ⟨ws, H1, I1, r, q⟩ => ⟨I1.kIn, ?_⟩) (star1 hs'.1) (by rw [backTo_any]; exact stars hs'.2)
  exact run_makeSD (E := WE W) M ok hr hb (L2N.passAt tk σ) I1 r q
/-! ### exceptions that are made -/
/-- an __init__ that fills the field n -/
def initSp (K : PySem.W.Frag) (n : Str) : Sp := fun vs H Q _ => ∃ a C v, vs = [.ref a, v] ∧ OexC K C ∧ PySem.W.findIn K (.ref C) n = some none ∧ H a = some (exo a C none) ∧ ∀ dx, H dx = none → dx ≠ a → Q .non (upd (upd H dx (exd dx [(n, v)])) a (exo a C (some dx)))
abbrev one1 (R : V → Hp → Prop) : List V → Hp → Prop := fun vs H1 => match vs with
  | [v] => R v H1
  | _ => False
theorem pmk_init {x n : Str} {C fI : Addr} {k : Nat} {fd : FuncData} {ps : List Str} {p : Pos} (T : OexC X.K C) (hno : PySem.W.findIn X.K (.ref C) n = some none) (iC : PySem.W.findIn X.K (.ref C) "__init__" = some (some (.ref fI))) (tI' : PySem.W.typeIn X.K (.ref fI) = some (.type "function"))
    (F1 : FnOk X.prog X.w X.K X.mg X.base (CXf X.prog X.w) k fI fd ps (initSp X.K n)) (hr : Room (k + 1) X.A) (hb : Binds X.K fd ps []) (hxp : Passes (CXf X.prog X.w) X (fun _ _ _ => False)) (hg : Gl X x) (hm : X.mg x = some (.ref C)) {te : TE} (ha : PE X e te) (hs : noStar e = true)
    (hdb : (x == ("__debug__" : Str)) = false) :
    L2N.PMk X (.Call (.Name x p) [e] [] pos) (fun σ H Q => te σ H fun v H1 => ∀ d, H1 d = none → Q (.ref C) (some d) (upd H1 d (.xd [(n, v)]))) := by
  intro pins s σ H Q I h
  obtain ⟨nm, q, N, bs, bm, sn, sub, ab, col, dd, k0, k1, k2, k3, k5, hC, hbm⟩ := T.cls
  have hA := pa_cons ha pa_nil (star1 hs)
  refine wpAny_Call_Name_kw (ld_glob I hg hm ?_ hdb)
  refine PySem.W.callWith_K (h₀ := X.base) I.ok.mod.kin T.kC (thn (hA.run pos pins s σ H (one1 fun v H1 => ∀ d, H1 d = none → Q (.ref C) (some d) (upd H1 d (.xd [(n, v)]))) I h) fun us s1 ⟨vs, H1, I1, r1, q1⟩ => ⟨I1.kIn, ?_⟩) (star1 hs) rfl
  rcases vs with _ | ⟨v, _ | ⟨_, _⟩⟩
  · exact q1.elim
  · have q2 : ∀ d, H1 d = none → Q (.ref C) (some d) (upd H1 d (.xd [(n, v)])) := q1
    obtain ⟨u, rfl, ru⟩ := vals1 r1
    show wpAny _ _ (PySem.call (.ref C) [u]) _ _ _
    obtain ⟨hp, g, dr, tk, os⟩ := s1
    have hsz : hp.objs.size ≤ hp.objs.size + 1 := Nat.le_succ _
    have hn : H1 (hp.objs.size + 1) = none := I1.hok.fresh hsz
    have kk : ∀ b o, hp.get? b = some o → ((hp.push (PySem.W.kdv_tup [u])).push (PySem.HandSPX.excO C hp.objs.size)).get? b = some o := fun b o z => Heap.get?_push_of_some _ (Heap.get?_push_of_some _ z)
    have hget : ((hp.push (PySem.W.kdv_tup [u])).push (PySem.HandSPX.excO C hp.objs.size)).get? (hp.objs.size + 1) = some (PySem.HandSPX.excO C hp.objs.size) := by heap_get
    have I2 : Inv X pins σ (upd H1 (hp.objs.size + 1) (exo (hp.objs.size + 1) C none)) ⟨(hp.push (PySem.W.kdv_tup [u])).push (PySem.HandSPX.excO C hp.objs.size), g, dr, tk, os⟩ :=
      I1.laid (t' := tk) (a := hp.objs.size + 1) (o := exo (hp.objs.size + 1) C none) (h' := (hp.push (PySem.W.kdv_tup [u])).push (PySem.HandSPX.excO C hp.objs.size)) kk hsz (exo_ok hget)
    have r2 : Vals [V.ref (hp.objs.size + 1), v] [Value.ref (hp.objs.size + 1), u] := .cons rfl (.cons ru .nil)
    have hsp : initSp X.K n [V.ref (hp.objs.size + 1), v] (upd H1 (hp.objs.size + 1) (exo (hp.objs.size + 1) C none))
        (fun z H2 => z = .non ∧ ∃ d, H2 (hp.objs.size + 1) = some (exo (hp.objs.size + 1) C (some d)) ∧ H2 d = some (exd d [(n, v)]) ∧ H1 d = none ∧ Q (.ref C) (some d) (upd (del H2 (hp.objs.size + 1)) d (.xd [(n, v)]))) (fun _ _ _ => False) := by
      refine ⟨_, C, v, rfl, T, hno, upd_same, fun dx hdx hne => ⟨rfl, dx, upd_same, ?_, ?_, ?_⟩⟩
      · rw [upd_ne hne, upd_same]
      · rw [upd_ne hne] at hdx
        exact hdx
      · rw [upd_ne hne] at hdx
        have e1 : upd (del (upd (upd (upd H1 (hp.objs.size + 1) (exo (hp.objs.size + 1) C none)) dx (exd dx [(n, v)])) (hp.objs.size + 1) (exo (hp.objs.size + 1) C (some dx))) (hp.objs.size + 1)) dx (.xd [(n, v)]) = upd H1 dx (.xd [(n, v)]) := by
          funext b
          by_cases h1 : b = dx
          · subst h1
            rw [upd_same, upd_same]
          · rw [upd_ne h1, upd_ne h1]
            by_cases h2 : b = hp.objs.size + 1
            · subst h2
              rw [del_same, hn]
            · rw [del_ne h2, upd_ne h2, upd_ne h1, upd_ne h2]
        rw [e1]
        exact q2 dx hdx
    have hl : ([Value.ref (hp.objs.size + 1), u] ++ []).length = ps.length := by
      have e1 := r2.length
      rw [F1.len _ _ _ _ hsp] at e1
      rw [List.append_nil]
      exact e1.symm
    have hus : [u].length ≤ sizeLine := by
      rw [sizeLine_eq]
      show 1 ≤ 16777216
      omega
    have b2 := hb _ [Value.ref (hp.objs.size + 1), u] I2.kIn hl
    rw [List.append_nil] at b2
    refine wpAny_call (PySem.HandSPX.call_own F.excBase_ValueError (fun Y => PySem.HandSPX.refsVE_contains Y bm hbm) (I1.kIn _ _ hC) (PySem.W.looks_findIn I1.kIn iC) (fun self => PySem.W.bind_fn I1.kIn self tI') hus
      (codeAny_mono (F1.run _ X.stack _ _ ⟨[Value.ref (hp.objs.size + 1), u], []⟩ [Value.ref (hp.objs.size + 1), u] _ _ (fun _ _ _ => False) (hr.make C [u] []) (I2.env0.make C [u] []) b2 r2 hsp) fun r s' hq' => ?_))
    cases r with
    | error er => exact hxp pins σ _ _ er s' I2 hq'
    | ok fl =>
      cases fl with
      | ret u' =>
        obtain ⟨z, H2, os2, bare2, un2, hok2, rv, ev, d, ea, ed, hd1, q3⟩ := hq'
        subst ev
        obtain ⟨h2, g2, d2, t2, os'⟩ := s'
        obtain ⟨t0, G, J, kG, ge, hoe, na⟩ := mk_end0 (d2 := d2) (t2 := t2) I1 hsz kk un2 hok2 os2 bare2 ea ed hd1
        refine ⟨rv, ⟨hp.objs.size + 1, _, _, ⟨G, g2, d2, t2, os'⟩, _, .ref C, some d, rfl, J, kG, ge, hoe, ⟨rfl, rfl, fun vs hv => ?_⟩, rfl, rfl, na, rfl, bare2, raises_own T.exC T.tyC, q3⟩⟩
        cases hv
        rfl
      | next => exact False.elim hq'
      | brk => exact False.elim hq'
      | cont => exact False.elim hq'
  · exact q1.elim
end
section
variable {X : Cx} {W : WX} {hx : HX} {xs : XSuite} {a b e : Expr} {es : List Expr} {pos : Pos} {m1 m2 : Env' → M PV} {ms : Env' → M (List PV)}
theorem ins_at {σ : L2.St} {H : Hp} {s : Shared} {pins : List (Addr × Obj)} {a C dx : Addr} {fs : List (Str × V)} (I : Inv X pins σ H s) (h : H a = some (.ins C dx fs)) : ∃ ox od, PySem.W.InstAt s.heap a ox C od ∧ ox.data = .plain := by
  obtain ⟨mA, O, _⟩ := ins_get I.hok h
  obtain ⟨od, J, _⟩ := O.look
  exact ⟨_, _, J, rfl⟩
theorem cmpBack {Q : Value → Shared → Prop} {σ : L2.St} {pins : List (Addr × Obj)} {R : VK} {u : Value} {s : Shared} (h : EP X pins σ R u s) : PySem.W.CmpBack (EP X pins σ R) u s := by
  cases u <;> first | exact h | (obtain ⟨v, H', I, rv, q⟩ := h; cases v <;> first | (cases rv; done) | (obtain ⟨t, e⟩ := rv; cases e))
theorem pi_bin {T : Tab} {cl : String → List PV → M PV} {key c m : String} {op : Operator} (tk : Tk X W) (F : Callable X T cl key none) (hl : T.mts.lookup key = some (c, m)) (hd : dunOf op = some m) (hne : m ≠ "__call__") (ha : PEi X W hx xs a m1) (hb' : PEi X W hx xs b m2) :
    PEi X W hx xs (.BinOp a op b pos) (fun ρ => bnd (m1 ρ) fun x L => if insOk L x (Str.ofString c) (Str.ofString m) = true then bnd (bnd (m2 ρ) fun y => bnd (ret []) fun ys => ret (y :: ys)) (fun ys => opP cl key c m x ys) L else .stuck) := by
  obtain ⟨k, F, fd, ps, ok, hr, acc, hb⟩ := F
  have hb : Binds X.K fd ps [] := hb
  have hr : Room k X.A := hr.mono (by omega)
  unfold Acc at acc
  rw [hl] at acc
  obtain ⟨C, hC, cC, hm, _, hop⟩ := acc
  refine ⟨fun pins s σ H Q I ⟨P, L, ρ, l, h⟩ => ?_⟩
  refine wpAny_BinOp (thn (ha.run pins s σ H (fun v H1 => ∃ P1 L1 x, Lay X.K X.mg hx xs P1 L1 H1 ρ σ ∧ RV X.K X.mg P1 H1 x v ∧ Post X.K X.mg (WE W σ) P1 H1 (bnd (m2 ρ) (fun y => opP cl key c m x [y]) L1) (Hand X.K X.mg Q)) I
    (t1 l h fun x L1 P1 H1 v e1 l1 r1 h1 => ⟨P1, L1, x, l1, r1, by
      split at h1
      · rw [bnd_assoc] at h1; exact h1
      · exact h1.elim⟩)) fun u s1 ⟨v, H1, I1, rx, P1, L1, x, l1, r1, h1⟩ => ?_)
  refine thn (hb'.run pins s1 σ H1 (fun w H2 => ∃ P2 L2 y, Rel X.K X.mg P2 L2 H2 ∧ RV X.K X.mg P2 H2 x v ∧ RV X.K X.mg P2 H2 y w ∧ Post X.K X.mg (WE W σ) P2 H2 (opP cl key c m x [y] L2) (Hand X.K X.mg Q)) I1
    (t1 l1 h1 fun y L2 P2 H2 w e2 l2 r2 h2 => ⟨P2, L2, y, l2.R, r1.mono e2, r2, h2⟩)) fun u2 s2 ⟨w, H2, I2, rw', P2, L2, y, R2, rx2, ry, h2⟩ => ?_
  unfold opP at h2
  split at h2
  · rename_i ho
    unfold opOk at ho
    simp only [Bool.and_eq_true, Bool.or_eq_true, decide_eq_true_eq] at ho
    obtain ⟨hi, ho⟩ := ho
    obtain ⟨ax, C', dx, fs, rfl, hC', ea, hno⟩ := ins_of R2 rx2 hi
    rw [hC] at hC'
    cases hC'
    obtain rfl : u = Value.ref ax := rx
    obtain ⟨ox, od, J, hpl⟩ := ins_at I2 ea
    obtain ⟨mF, fr⟩ := I2.fr
    unfold opB at hop
    simp only [Bool.and_eq_true, Bool.or_eq_true, decide_eq_true_eq, Bool.not_eq_true'] at hop
    obtain ⟨⟨o1, o2⟩, o3⟩ := hop
    have hsf : PySem.W.selfFirst X.K C = true := o2.resolve_left (by rw [dun_bin hd]; simp)
    have hat := hm.at_
    rw [← dun_ok hd] at hat
    have fin := run_fnSD (us := [.ref ax, u2]) (vs := [.ref ax, w]) ok hr hb .nil (L2N.passAt tk σ) I2 (.cons rfl (.cons rw' .nil)) ⟨P2, L2, [x, y], R2, .cons rx2 (.cons ry RVs.nil), h2⟩
    have fin' := wpAny_mono fin (fun v s' h' => cmpBack (Q := fun _ _ => True) h') fun _ _ y => y
    rcases ho with (ho | ho) | ⟨hm2, ho⟩
    · exact absurd ho hne
    · obtain ⟨ay, C'', dy, fy, rfl, hC'', ey, _⟩ := ins_of R2 ry ho
      rw [hC] at hC''
      cases hC''
      obtain rfl : u2 = Value.ref ay := rw'
      obtain ⟨oy, ody, Jy, _⟩ := ins_at I2 ey
      exact PySem.W.binop_K fr I2.ok.mod.kin J Jy.type hsf hat hm.fn fin'
    · cases y <;> try (cases ho; done)
      rename_i i
      obtain rfl : w = V.int i := ry
      obtain ⟨t, rfl⟩ := rw'
      have hp := o3.resolve_left (by rw [hm2]; simp)
      unfold powB at hp
      simp only [Bool.and_eq_true, decide_eq_true_eq] at hp
      obtain ⟨⟨⟨p1, p2⟩, p3⟩, p4⟩ := hp
      subst hm2
      have hop' : op = .Pow := by cases op <;> first | rfl | (exact absurd hd (by decide +kernel))
      subst hop'
      obtain ⟨fo, hfo⟩ := Option.isSome_iff_exists.mp p2
      obtain ⟨ro, hro⟩ := Option.isSome_iff_exists.mp p3
      have : ∃ rc, PySem.W.findIn X.K (.ref C) "__rpow__" = some rc ∧ (rc = none ∨ ∃ g : Addr, rc = some (.ref g)) := by
        unfold noR at p1
        split at p1
        · rename_i e; exact ⟨_, e, .inl rfl⟩
        · rename_i e; exact ⟨_, e, .inr ⟨_, rfl⟩⟩
        · cases p1
      obtain ⟨rc, hrc, hrc'⟩ := this
      exact PySem.W.ksp_binT (T := "int") fr I2.ok.mod.kin J rfl hsf hat hm.fn hrc hrc' hfo hro p4 fin'
  · exact h2.elim
theorem pi_inv {T : Tab} {cl : String → List PV → M PV} {key c : String} (tk : Tk X W) (F : Callable X T cl key none) (hl : T.mts.lookup key = some (c, "__invert__")) (ha : PEi X W hx xs a m1) :
    PEi X W hx xs (.UnaryOp .Invert a pos) (fun ρ => bnd (m1 ρ) fun x L => if insOk L x (Str.ofString c) (Str.ofString "__invert__") = true then bnd (ret []) (fun ys => opP cl key c "__invert__" x ys) L else .stuck) := by
  obtain ⟨k, F, fd, ps, ok, hr, acc, hb⟩ := F
  have hb : Binds X.K fd ps [] := hb
  have hr : Room k X.A := hr.mono (by omega)
  unfold Acc at acc
  rw [hl] at acc
  obtain ⟨C, hC, cC, hm, _, hop⟩ := acc
  refine ⟨fun pins s σ H Q I ⟨P, L, ρ, l, h⟩ => ?_⟩
  refine UnaryOp_ (thn (ha.run pins s σ H (fun v H1 => ∃ P1 L1 x, Rel X.K X.mg P1 L1 H1 ∧ RV X.K X.mg P1 H1 x v ∧ Post X.K X.mg (WE W σ) P1 H1 (opP cl key c "__invert__" x [] L1) (Hand X.K X.mg Q)) I
    (t1 l h fun x L1 P1 H1 v e1 l1 r1 h1 => ⟨P1, L1, x, l1.R, r1, by
      split at h1
      · exact h1
      · exact h1.elim⟩)) fun u s1 ⟨v, H1, I1, rx, P1, L1, x, R1, r1, h1⟩ => ?_)
  unfold opP at h1
  split at h1
  · rename_i ho
    unfold opOk at ho
    simp only [Bool.and_eq_true] at ho
    obtain ⟨ax, C', dx, fs, rfl, hC', ea, hno⟩ := ins_of R1 r1 ho.1
    rw [hC] at hC'
    cases hC'
    obtain rfl : u = Value.ref ax := rx
    obtain ⟨ox, od, J, hpl⟩ := ins_at I1 ea
    obtain ⟨mF, fr⟩ := I1.fr
    exact PySem.W.ksp_inv fr I1.ok.mod.kin J hm.at_ hm.fn (run_fnSD (us := [.ref ax]) (vs := [.ref ax]) ok hr hb .nil (L2N.passAt tk σ) I1 (.cons rfl .nil) ⟨P1, L1, [x], R1, .cons r1 RVs.nil, h1⟩)
  · exact h1.elim
theorem run_codeSD {CX : CXT} {f : Addr} {fd : FuncData} {ps : List Str} {sp : Sp} {k : Nat} {E : L2.St → XK} {pins : List (Addr × Obj)} {σ : L2.St} {H : Hp} {s : Shared} {Q : VK} {us : List Value} {vs : List V} (F : FnOk X.prog X.w X.K X.mg X.base CX k f fd ps sp) (hr : Room k X.A) (hb : Binds X.K fd ps []) (hx : PassesAt CX X σ (E σ))
    (I : Inv X pins σ H s) (r : Vals vs us) (h : sp vs H Q (E σ)) : codeAny (model X.prog X.w) X.A (.call (.ref f) ⟨us, []⟩) (fun r s' => match r with | .ok (.ret v) => EP X pins σ Q v s' | .ok _ => False | .error e => X.xe e s') s := by
  have hl : us.length = ps.length := by rw [← r.length]; exact F.len _ _ _ _ h
  refine codeAny_mono (F.run X.A X.stack s H ⟨us, []⟩ us vs Q (E σ) hr I.env0 (by have := hb s us I.kIn (by rw [List.append_nil]; exact hl); rw [List.append_nil] at this; exact this) r h) fun r s' hq => ?_
  cases r with
  | error e => exact hx pins H s e s' I hq
  | ok fl =>
    cases fl with
    | ret u => exact I.after hq
    | next => exact False.elim hq
    | brk => exact False.elim hq
    | cont => exact False.elim hq
theorem pi_cal {T : Tab} {cl : String → List PV → M PV} {key c : String} (tk : Tk X W) (F : Callable X T cl key none) (hl : T.mts.lookup key = some (c, "__call__")) (ho : PEi X W hx xs a m1) (ha : PAi X W hx xs (e :: es) ms) (hs : (e :: es).all noStar = true)
    (ht : eval (.Call a (e :: es) [] pos) X.env = (do callWith pos (← eval a X.env) [] (backTo pos (starEach (e :: es) X.env)) (backToKw pos (keywordEach [] X.env)))) :
    PEi X W hx xs (.Call a (e :: es) [] pos) (fun ρ => bnd (m1 ρ) fun x L => if insOk L x (Str.ofString c) (Str.ofString "__call__") = true then bnd (ms ρ) (fun ys => opP cl key c "__call__" x ys) L else .stuck) := by
  have hs' : noStar e = true ∧ es.all noStar = true := by rw [List.all_cons, Bool.and_eq_true] at hs; exact hs
  obtain ⟨k, F, fd, ps, ok, hr, acc, hb⟩ := F
  have hb : Binds X.K fd ps [] := hb
  have hr : Room k X.A := hr.mono (by omega)
  unfold Acc at acc
  rw [hl] at acc
  obtain ⟨C, hC, cC, hm, _, hop⟩ := acc
  refine ⟨fun pins s σ H Q I ⟨P, L, ρ, l, h⟩ => ?_⟩
  refine Call_ (thn (ho.run pins s σ H (fun v H1 => ∃ P1 L1 x, Lay X.K X.mg hx xs P1 L1 H1 ρ σ ∧ RV X.K X.mg P1 H1 x v ∧ Post X.K X.mg (WE W σ) P1 H1 (if insOk L1 x (Str.ofString c) (Str.ofString "__call__") = true then bnd (ms ρ) (fun ys => opP cl key c "__call__" x ys) L1 else .stuck) (Hand X.K X.mg Q)) I
    (t1 l h fun x L1 P1 H1 v e1 l1 r1 h1 => ⟨P1, L1, x, l1, r1, h1⟩)) fun u s1 ⟨v, H1, I1, rx, P1, L1, x, l1, r1, h1⟩ => ?_) ht
  split at h1
  · rename_i hi
    obtain ⟨ax, C', dx, fs, rfl, hC', ea, hno⟩ := ins_of l1.R r1 hi
    obtain rfl : u = Value.ref ax := rx
    refine StX.callO_with (thn (ha.run pos pins s1 σ H1 (fun ws H2 => ∃ P2 L2 ys, Rel X.K X.mg P2 L2 H2 ∧ RV X.K X.mg P2 H2 x (.ref ax) ∧ RVs X.K X.mg P2 H2 ys ws ∧ Post X.K X.mg (WE W σ) P2 H2 (opP cl key c "__call__" x ys L2) (Hand X.K X.mg Q)) I1
      (ts l1 h1 fun ys L2 P2 H2 ws e2 l2 r2 h2 => ⟨P2, L2, ys, l2.R, r1.mono e2, r2, h2⟩)) fun us s2 ⟨ws, H2, I2, rws, P2, L2, ys, R2, rx2, ry, h2⟩ => ?_) (star1 hs'.1) (by rw [backTo_any]; exact stars hs'.2)
    unfold opP at h2
    split at h2
    · rename_i ho
      unfold opOk at ho
      simp only [Bool.and_eq_true] at ho
      obtain ⟨ax', C'', dx', fs', e', hC'', ea', hno'⟩ := ins_of R2 rx2 ho.1
      cases e'
      rw [hC] at hC''
      cases hC''
      obtain ⟨ox, od, J, hpl⟩ := ins_at I2 ea'
      unfold opB at hop
      simp only [Bool.and_eq_true, Bool.or_eq_true, decide_eq_true_eq] at hop
      have hfi := hop.1.1.resolve_left (fun z => z rfl)
      refine ⟨⟨_, ox, od, J, hpl⟩, wpAny_call (PySem.W.kco_code I2.kIn J hpl hm.at_ hm.fn hfi (run_codeSD (E := WE W) (us := .ref ax :: us) (vs := .ref ax :: ws) ok hr hb (L2N.passAt tk σ) I2 (.cons rfl rws) ⟨P2, L2, x :: ys, R2, .cons rx2 ry, h2⟩))⟩
    · exact h2.elim
  · exact h1.elim
end
/-! ### dicts of the module -/
def DctAll (K : PySem.W.Frag) (mg : Str → Option Value) (w : World) (T : Tab) : Prop := ∀ d kvs, T.dcts.lookup d = some kvs → ∃ a es n, mg (Str.ofString d) = some (.ref a) ∧ KDict K w a es n ∧ ∀ z, ∃ r, PySem.W.nsIn K a z = some r ∧ r.isSome = (kvs.lookup z).isSome ∧
  ∀ v, kvs.lookup z = some v → ∃ u y, r = some u ∧ RelV y u ∧ ∀ P H, RV K mg P H v y
section
variable {X : Cx} {W : WX} {hx : HX} {xs : XSuite} {a b : Expr} {pos : Pos} {m1 : Env' → M PV} {T : Tab} {d : String}
def dOp : Bool → CmpOp
  | false => .In
  | true => .NotIn
def rDin (K : PySem.W.Frag) (p : Addr) (neg : Bool) : R2 := fun x y H Q => ∃ (z : Str) (r : Option Value), x = .str z ∧ y = .ref p ∧ PySem.W.nsIn K p z = some r ∧ Q (.bl (r.isSome != neg)) H
theorem op_din {p : Addr} {es : Array DictEntry} {n : Nat} (D : KDict X.K X.w p es n) : ∀ neg : Bool, OpR X (compareOp (dOp neg)) (rDin X.K p neg)
  | false => fun pins s σ H x y v u Q I rx ry ⟨z, r, h1, h2, h3, q⟩ => op_in_kd D pins s σ H x y v u Q I rx ry ⟨z, r, h1, h2, h3, by simpa using q⟩
  | true => fun pins s σ H x y v u Q I rx ry ⟨z, r, h1, h2, h3, q⟩ => op_notIn_kd D pins s σ H x y v u Q I rx ry ⟨z, r, h1, h2, h3, by simpa using q⟩
theorem din_post {K : PySem.W.Frag} {mg : Str → Option Value} {P : Pl} {H : Hp} {L : List HObj} {E : XK} {x : PV} {v : V} {neg : Bool} {kvs : List (Str × PV)} {p : Addr} {Qk : Bool → List HObj → Pl → Hp → Prop} (hk : T.dcts.lookup d = some kvs) (hf : ∀ z, ∃ r, PySem.W.nsIn K p z = some r ∧ r.isSome = (kvs.lookup z).isSome ∧
    ∀ v, kvs.lookup z = some v → ∃ u y, r = some u ∧ RelV y u ∧ ∀ P H, RV K mg P H v y) (R : Rel K mg P L H) (r : RV K mg P H x v) (h : Post K mg E P H (dinP T d neg x L) Qk) : ∃ (z : Str) (o : Option Value), v = .str z ∧ PySem.W.nsIn K p z = some o ∧ Qk (o.isSome != neg) L P H := by
  unfold dinP at h
  rw [hk] at h
  cases x <;> try exact h.elim
  rename_i z
  obtain ⟨o, h1, h2, h3⟩ := hf z
  refine ⟨z, o, r, h1, ?_⟩
  rw [h2]
  exact h P H (Ext.refl ..) R
theorem pi_din {neg : Bool} {kvs : List (Str × PV)} {p : Addr} {es : Array DictEntry} {n : Nat} (D : KDict X.K X.w p es n) (hk : T.dcts.lookup d = some kvs) (hf : ∀ z, ∃ r, PySem.W.nsIn X.K p z = some r ∧ r.isSome = (kvs.lookup z).isSome ∧
    ∀ v, kvs.lookup z = some v → ∃ u y, r = some u ∧ RelV y u ∧ ∀ P H, RV X.K X.mg P H v y) (ha : PEi X W hx xs a m1) (hb : PE X b (tC (.ref p))) (hm : behindInMarks (dOp neg) b = false) :
    PEi X W hx xs (.Compare a [dOp neg] [b] pos) (fun ρ => bnd (m1 ρ) fun x => bnd (dinP T d neg x) fun b => ret (.bl b)) :=
  (pe_cmpR (op_din D neg) ha hb hm).mpwk fun σ H Q ⟨P, L, ρ, l, h⟩ => t1 l h fun x L1 P1 H1 v e1 l1 r1 h1 => by
    obtain ⟨z, o, q1, q2, q3⟩ := din_post hk hf l1.R r1 (post_bnd h1)
    exact ⟨z, o, q1, rfl, q2, Post.ok q3 l1.R _ rfl⟩
theorem pti_din {neg : Bool} {kvs : List (Str × PV)} {p : Addr} {es : Array DictEntry} {n : Nat} (D : KDict X.K X.w p es n) (hk : T.dcts.lookup d = some kvs) (hf : ∀ z, ∃ r, PySem.W.nsIn X.K p z = some r ∧ r.isSome = (kvs.lookup z).isSome ∧
    ∀ v, kvs.lookup z = some v → ∃ u y, r = some u ∧ RelV y u ∧ ∀ P H, RV X.K X.mg P H v y) (ha : PEi X W hx xs a m1) (hb : PE X b (tC (.ref p))) (hm : behindInMarks (dOp neg) b = false) :
    PTi X W hx xs (.Compare a [dOp neg] [b] pos) (fun ρ => bnd (bnd (m1 ρ) fun x => bnd (dinP T d neg x) fun b => ret (.bl b)) truth) :=
  (pt_cmpR (op_din D neg) ha hb hm).mpwk fun σ H Q ⟨P, L, ρ, l, h⟩ => by
    simp only at h
    rw [bnd_assoc] at h
    refine t1 l h fun x L1 P1 H1 v e1 l1 r1 h1 => ?_
    rw [bnd_assoc] at h1
    obtain ⟨z, o, q1, q2, q3⟩ := din_post hk hf l1.R r1 (post_bnd h1)
    exact ⟨z, o, q1, rfl, q2, ⟨_, rfl, Post.ok (E := WE W σ) (a := (o.isSome != neg)) q3 l1.R⟩⟩
theorem pi_dix {kvs : List (Str × PV)} {p : Addr} {es : Array DictEntry} {n : Nat} (D : KDict X.K X.w p es n) (hk : T.dcts.lookup d = some kvs) (hf : ∀ z, ∃ r, PySem.W.nsIn X.K p z = some r ∧ r.isSome = (kvs.lookup z).isSome ∧
    ∀ v, kvs.lookup z = some v → ∃ u y, r = some u ∧ RelV y u ∧ ∀ P H, RV X.K X.mg P H v y) (ha : PEi X W hx xs a m1) (hb : PE X b (tC (.ref p))) (hs : PlainIx a) :
    PEi X W hx xs (.Subscript b a pos) (fun ρ => bnd (m1 ρ) fun x => dixP T d x) :=
  (pe_ix ix_kdict hb ha hs).mpwk fun σ H Q ⟨P, L, ρ, l, h⟩ => t1 l h fun x L1 P1 H1 v e1 l1 r1 h1 => by
    unfold dixP at h1
    rw [hk] at h1
    cases x <;> try exact h1.elim
    rename_i z
    obtain ⟨o, q1, q2, q3⟩ := hf z
    simp only at h1
    split at h1
    · rename_i w hw
      obtain ⟨u, y, rfl, ry, rv⟩ := q3 w hw
      exact ⟨p, z, y, rfl, r1, ⟨es, n, u, D.at_, D.lit, q1, ry⟩, h1.ok l1.R _ (rv _ _)⟩
    · exact h1.elim
end
/-! ### ranges as values -/
section
variable {X : Cx} {W : WX} {hx : HX} {xs : XSuite} {a b e : Expr} {pos : Pos} {m1 m2 : Env' → M PV} {ms : Env' → M (List PV)} {mr : Env' → M (Int × Int)}
abbrev tIR (K : PySem.W.Frag) (mg : Str → Option Value) (W : WX) (hx : HX) (xs : XSuite) (m : Env' → M (Int × Int)) : L2.St → Hp → (Int → Int → Hp → Prop) → Prop := fun σ H Q => ∃ P L ρ, Lay K mg hx xs P L H ρ σ ∧ Post K mg (WE W σ) P H (m ρ L) (fun r _ _ H' => Q r.1 r.2 H')
abbrev PRgi (X : Cx) (W : WX) (hx : HX) (xs : XSuite) (e : Expr) (m : Env' → M (Int × Int)) : Prop := PRg X e (tIR X.K X.mg W hx xs m)
theorem prgi_1 {p : Pos} (hg : Gl X "range") (hm : X.mg "range" = none) (ha : PEi X W hx xs a m1) (na : noStar a = true) : PRgi X W hx xs (.Call (.Name "range" p) [a] [] pos) (fun ρ => bnd (bnd (m1 ρ) fun x => bnd (ret []) fun ys => ret (x :: ys)) (rgP true)) :=
  fun pins s σ H Q I ⟨P, L, ρ, l, h⟩ => prg_1 hg hm ha (star1 na) pins s σ H Q I (by
    simp only at h
    rw [bnd_assoc] at h
    refine t1 l h fun x L1 P1 H1 v e1 l1 r1 h1 => ?_
    replace h1 : Post X.K X.mg (WE W σ) P1 H1 (rgP true [x] L1) (fun r _ _ H' => Q r.1 r.2 H') := h1
    cases x with
    | int n => exact ⟨n, r1, h1.ok l1.R⟩
    | _ => exact h1.elim)
theorem prgi_2 {p : Pos} (hg : Gl X "range") (hm : X.mg "range" = none) (ha : PEi X W hx xs a m1) (hb : PEi X W hx xs b m2) (na : noStar a = true) (nb : noStar b = true) :
    PRgi X W hx xs (.Call (.Name "range" p) [a, b] [] pos) (fun ρ => bnd (bnd (m1 ρ) fun x => bnd (bnd (m2 ρ) fun y => bnd (ret []) fun ys => ret (y :: ys)) fun ys => ret (x :: ys)) (rgP true)) :=
  fun pins s σ H Q I ⟨P, L, ρ, l, h⟩ => prg_2 hg hm ha hb (star1 na) (star1 nb) (by rw [backTo_any]; exact stars (by simp [nb])) pins s σ H Q I (by
    simp only at h
    rw [bnd_assoc] at h
    refine t1 l h fun x L1 P1 H1 v e1 l1 r1 h1 => ?_
    rw [bnd_assoc, bnd_assoc] at h1
    refine t1 l1 h1 fun y L2 P2 H2 w e2 l2 r2 h2 => ?_
    replace h2 : Post X.K X.mg (WE W σ) P2 H2 (rgP true [x, y] L2) (fun r _ _ H' => Q r.1 r.2 H') := h2
    cases x with
    | int i =>
      cases y with
      | int j => exact ⟨i, j, r1, r2, h2.ok l2.R⟩
      | _ => exact h2.elim
    | _ => cases y <;> exact h2.elim)
theorem prgi_v (ha : PEi X W hx xs e m1) : PRgi X W hx xs e (fun ρ => bnd (bnd (m1 ρ) fun x => bnd (ret []) fun ys => ret (x :: ys)) (rgP false)) :=
  fun pins s σ H Q I ⟨P, L, ρ, l, h⟩ => by
    simp only at h
    rw [bnd_assoc] at h
    refine thn (ha.run pins s σ H (fun v H1 => ∃ d lo hi, v = .ref d ∧ H1 d = some (.rng lo hi) ∧ Q lo hi H1) I (t1 l h fun x L1 P1 H1 v e1 l1 r1 h1 => ?_)) fun u s1 ⟨v, H1, I1, rv, d, lo, hi, ev, hd, q⟩ => ?_
    · replace h1 : Post X.K X.mg (WE W σ) P1 H1 (rgP false [x] L1) (fun r _ _ H' => Q r.1 r.2 H') := h1
      cases x with
      | rng lo hi =>
        obtain ⟨d, rd, _, hd⟩ := r1
        exact ⟨d, lo, hi, rd, hd, h1.ok l1.R⟩
      | _ => exact h1.elim
    · subst ev
      obtain rfl : u = Value.ref d := rv
      obtain ⟨t, u, v, e⟩ := I1.hok d _ hd
      exact ⟨d, lo, hi, t, u, v, H1, rfl, e, I1, q⟩
theorem rvs_rg {K : PySem.W.Frag} {mg : Str → Option Value} {P : Pl} {H : Hp} {lo hi : Int} : RVs K mg P H (rangeP lo (hi - lo).toNat) (rgV lo hi) := by
  unfold rangeP rgV
  generalize List.range (hi - lo).toNat = l
  induction l with
  | nil => exact RVs.nil
  | cons k l ih => exact .cons rfl ih
theorem pi_rgcL {p : Pos} (hc : X.calm = true) (hg : Gl X "list") (hm : X.mg "list" = none) (he : PRgi X W hx xs e mr) (na : noStar e = true) : PEi X W hx xs (.Call (.Name "list" p) [e] [] pos) (fun ρ => bnd (mr ρ) (rgcP false)) :=
  (pe_listRg hc hg hm he (star1 na)).mpwk fun σ H Q ⟨P, L, ρ, l, h⟩ => ⟨P, L, ρ, l, (post_bnd h).imp fun r L2 P2 H2 e2 R2 q => by
    simp only [rgcP] at q
    split at q
    · rename_i hc
      exact ⟨RgOk.of_le hc.1 hc.2.2.2 hc.2.1 hc.2.2.1, fun p hp => q_lst R2 rvs_rg (fun P' H' e r u ru => q P' H' e r u ru) hp⟩
    · exact q.elim⟩
/-- tuple(r), r a range: a new tuple, laid as it stands -/
theorem pe_tupRgD {te : L2.St → Hp → (Int → Int → Hp → Prop) → Prop} {p : Pos} (hc : X.calm = true) (hg : Gl X "tuple") (hm : X.mg "tuple" = none) (he : PRg X e te) (na : noStar e = true) :
    PE X (.Call (.Name "tuple" p) [e] [] pos) (fun σ H Q => te σ H fun i j H1 => RgOk i j ∧ NewT (rgV i j) H1 Q) := by
  refine ⟨fun pins s σ H Q I h => Call_ (ld_blt I hg hm boot_tuple (PyProof.Rows.callWith_type1 (args_cons (thn (he pins s σ H _ I h) fun x s1 h1 => args_nil ?_) (star1 na)) (star1 na)))⟩
  obtain ⟨r, i, j, t, u, v, H1, rfl, hr, I1, ⟨b1, b2, b3, b4, b5⟩, q⟩ := h1
  refine call_tuple_range (n := (j - i).toNat) (I1.ok.hd hc) hr (small_one b1 b2 b3 b4) (rangeSize_nat i j) b5 (fun h2 tk acc hk hi => ?_)
  have I2 : Inv X pins σ H1 { s1 with heap := h2, toks := tk } := I1.kept hk
  have z := laidT (its := acc.toList) I2 (vals_rg hi) (by rw [rgV_length, sizeLine_eq]; omega) q
  rw [Array.toArray_toList] at z
  exact z
theorem pi_rgcT {p : Pos} (hc : X.calm = true) (hg : Gl X "tuple") (hm : X.mg "tuple" = none) (he : PRgi X W hx xs e mr) (na : noStar e = true) : PEi X W hx xs (.Call (.Name "tuple" p) [e] [] pos) (fun ρ => bnd (mr ρ) (rgcP true)) :=
  (pe_tupRgD hc hg hm he na).mpwk fun σ H Q ⟨P, L, ρ, l, h⟩ => ⟨P, L, ρ, l, (post_bnd h).imp fun r L2 P2 H2 e2 R2 q => by
    simp only [rgcP] at q
    split at q
    · rename_i hc
      exact ⟨RgOk.of_le hc.1 hc.2.2.2 hc.2.1 hc.2.2.1, q_tup R2 rvs_rg fun P' H' e r u ru => q P' H' e r u ru⟩
    · exact q.elim⟩
/-- a range that is kept -/
theorem pe_rgV1 {p : Pos} {ta : TE} (hg : Gl X "range") (hm : X.mg "range" = none) (ha : PE X a ta) (na : noStar a = true) :
    PE X (.Call (.Name "range" p) [a] [] pos) (fun σ H Q => ta σ H fun x H1 => ∃ n, x = .int n ∧ ∀ q, H1 q = none → Q (.ref q) (upd H1 q (.rng 0 n))) := by
  refine ⟨fun pins s σ H Q I h => Call_ (ld_blt I hg hm boot_range (PyProof.Rows.callWith_type1 (one_arg ha I h (fun v s2 x H2 I2 r q => ?_) (star1 na)) (star1 na)))⟩
  obtain ⟨n, rfl, q⟩ := q
  obtain ⟨t, rfl⟩ := r
  have lay := fun {o : Obj} {k : Nat} (ho : ∃ t u v, o = { cls := .type "range", data := .fields #[.int 0 t, .int n u, .int 1 v] }) => I2.laid (t' := k) (o := HO.rng 0 n) (a := s2.heap.objs.size) (h' := s2.heap.push o) (fun b u e => Heap.get?_push_of_some _ e) (Nat.le_refl _)
    (by obtain ⟨t, u, v, rfl⟩ := ho; exact ⟨t, u, v, Heap.get?_push_size _ rfl⟩)
  exact call_range_1 ⟨.ref s2.heap.objs.size, _, lay ⟨_, _, _, rfl⟩, rfl, q _ (I2.hok.fresh (Nat.le_refl _))⟩
theorem pi_rgv {p : Pos} (hg : Gl X "range") (hm : X.mg "range" = none) (ha : PEi X W hx xs a m1) (na : noStar a = true) :
    PEi X W hx xs (.Call (.Name "range" p) [a] [] pos) (fun ρ => bnd (bnd (bnd (m1 ρ) fun x => bnd (ret []) fun ys => ret (x :: ys)) (rgP true)) fun r => ret (.rng r.1 r.2)) :=
  (pe_rgV1 hg hm ha na).mpwk fun σ H Q ⟨P, L, ρ, l, h⟩ => by
    simp only at h
    rw [bnd_assoc, bnd_assoc] at h
    refine t1 l h fun x L1 P1 H1 v e1 l1 r1 h1 => ?_
    replace h1 : Post X.K X.mg (WE W σ) P1 H1 (bnd (rgP true [x]) (fun r => ret (.rng r.1 r.2)) L1) (Hand X.K X.mg Q) := h1
    cases x with
    | int n =>
      replace h1 : Post X.K X.mg (WE W σ) P1 H1 (Out.ok (PV.rng 0 n) L1) (Hand X.K X.mg Q) := h1
      exact ⟨n, r1, fun q hq => h1 (P1.hold q) _ ((Ext.fresh hq).trans Ext.hold') ((l1.R.fresh hq).hold upd_same (l1.R.notA hq) fun y => l1.R.notK hq (.inr y)) _ ⟨q, rfl, .inr rfl, upd_same⟩⟩
    | _ => exact h1.elim
end
/-! ### sorted(set(t)) -/
theorem mem_insU {x k : Int} : ∀ {l : List Int}, k ∈ insU x l ↔ k = x ∨ k ∈ l
  | [] => by simp [insU]
  | y :: ys => by
    unfold insU
    split
    · simp
    · split
      · rename_i h
        subst h
        simp
      · rw [List.mem_cons, mem_insU, List.mem_cons]
        constructor
        · rintro (h | h | h)
          · exact .inr (.inl h)
          · exact .inl h
          · exact .inr (.inr h)
        · rintro (h | h | h)
          · exact .inr (.inl h)
          · exact .inl h
          · exact .inr (.inr h)
theorem mem_sortU {k : Int} : ∀ {l : List Int}, k ∈ sortU l ↔ k ∈ l
  | [] => Iff.rfl
  | x :: xs => by
    unfold sortU
    rw [mem_insU, mem_sortU, List.mem_cons]
theorem insU_lt {x : Int} : ∀ {l : List Int}, l.Pairwise (· < ·) → (insU x l).Pairwise (· < ·)
  | [], _ => List.pairwise_singleton _ _
  | y :: ys, h => by
    obtain ⟨h1, h2⟩ := List.pairwise_cons.mp h
    unfold insU
    split
    · rename_i hxy
      refine List.pairwise_cons.mpr ⟨fun z hz => ?_, h⟩
      rcases List.mem_cons.mp hz with e | e
      · rw [e]; exact hxy
      · exact Int.lt_trans hxy (h1 z e)
    · split
      · exact h
      · rename_i a b
        refine List.pairwise_cons.mpr ⟨fun z hz => ?_, insU_lt h2⟩
        rcases mem_insU.mp hz with e | e
        · rw [e]; omega
        · exact h1 z e
theorem sortU_lt : ∀ {l : List Int}, (sortU l).Pairwise (· < ·)
  | [] => List.Pairwise.nil
  | x :: xs => insU_lt sortU_lt
theorem srt_uniq {a b : List Int} (h1 : a.Pairwise (· < ·)) (h2 : b.Pairwise (· < ·)) (h : ∀ k, k ∈ a ↔ k ∈ b) : a = b :=
  List.Perm.eq_of_pairwise (le := (· < ·)) (fun a b _ _ h1 h2 => absurd h1 (by omega)) h1 h2 ((List.perm_ext_iff_of_nodup (h1.imp fun h => Int.ne_of_lt h) (h2.imp fun h => Int.ne_of_lt h)).mpr h)
section
variable {X : Cx} {W : WX} {hx : HX} {xs : XSuite} {a : Expr} {pos pos2 : Pos} {m : Env' → M PV}
theorem intsAre_of : ∀ {ns : List Int} {its : List Value}, Vals (ns.map V.int) its → IntsAre its ns
  | [], _, .nil => .nil
  | n :: ns, _, .cons r rr => by
    obtain ⟨t, rfl⟩ := r
    exact .cons n t (intsAre_of rr)
def rSetT (K : PySem.W.Frag) (w : World) : List V → Hp → VK → Prop := fun xs H Q => ∃ (p : Addr) (ns : List Int), xs = [.ref p] ∧ SqT K H p (ns.map V.int) ∧ ns.length < 64 ∧ ∀ (a : Addr) (c : Nat), H a = none → c ≤ ns.length → Q (.ref a) (upd H a (SetO w a (fun j => decide (j ∈ ns)) c))
theorem cr_setT (hc : X.calm = true) : CallR X (.type "set") (rSetT X.K X.w) := by
  intro pins s σ H vs us Q I r h
  obtain ⟨p, ns, rfl, hs, hl, q⟩ := h
  obtain ⟨its, rv, hp, hz⟩ := I.tuple hs
  rw [Vals.ref1 r]
  refine call_set_tupI ns (I.ok.hd hc) (show s.heap.IsTuple p its.toArray from hp) (by simpa using intsAre_of rv) (Nat.lt_of_lt_of_le (show ns.length + 1 < 66 by omega) (by decide)) fun h' tk c R hc' hk => ?_
  exact ⟨.ref _, _, I.laid (t' := tk) hk (Nat.le_refl _) (setO_new R), rfl, q _ c (I.hok.fresh (Nat.le_refl _)) hc'⟩
theorem pi_sst {p p2 : Pos} (hc : X.calm = true) (hg : Gl X "sorted") (hm : X.mg "sorted" = none) (hg2 : Gl X "set") (hm2 : X.mg "set" = none) (ha : PEi X W hx xs a m) (na : noStar a = true) :
    PEi X W hx xs (.Call (.Name "sorted" p) [.Call (.Name "set" p2) [a] [] pos2] [] pos) (fun ρ => bnd (m ρ) fun x => sstP x) := by
  have h1 : PE X (.Call (.Name "set" p2) [a] [] pos2) (tCB (rSetT X.K X.w) (tCons (tI X.K X.mg W hx xs m) tNil)) := pe_callTy (cr_setT hc) hg2 hm2 Boot.«set» (pa_cons ha pa_nil (star1 na)) (by decide) (by decide) (star1 na) rfl
  refine (pe_callB (cr_sortedSet hc) hg hm Boot.«sorted» (pa_cons h1 pa_nil) (by decide) (by decide) rfl rfl).mpwk fun σ H Q ⟨P, L, ρ, l, h⟩ => ?_
  refine t1 l h fun x L1 P1 H1 v e1 l1 r1 q => ?_
  cases x <;> try (exact q.elim)
  rename_i ys
  have q : Post X.K X.mg (WE W σ) P1 H1 (match asInts ys with
    | some ns => if ns.length < 64 then Out.ok (PV.ref L1.length) (L1 ++ [.lst ((sortU ns).map PV.int)]) else .stuck
    | none => .stuck) (Hand X.K X.mg Q) := q
  split at q
  · rename_i ns hn
    split at q
    · rename_i hl
      obtain ⟨b, vs, rfl, t, pv⟩ := r1
      rw [asInts_eq hn] at pv
      have ev := pv.ints
      subst ev
      refine ⟨b, ns, rfl, t.1, hl, fun c n hb hn => ⟨c, _, n, rfl, upd_same, by omega, fun ms p o1 o2 o3 hp => ?_⟩⟩
      have e3 : ms = sortU ns := srt_uniq o1 sortU_lt fun k => by rw [o2 k, mem_sortU, decide_eq_true_eq]
      subst e3
      exact q_lst (l1.R.fresh hb) RVs.of_ints (fun P' H' e r u ru => q P' H' ((Ext.fresh hb).trans e) r u ru) hp
    · exact q.elim
  · exact q.elim
end
end MP

/-! MP 14: what is walked. -/
namespace MP
open PySem PySem.Spec PyProof.Rows L2
section
variable (K : PySem.W.Frag) (mg : Str → Option Value)
/-- J yields the items, as long as the guard holds -/
structure Wk (J : It) (items : List PV) (g : Option (Nat × List PV)) (P : Pl) (H : Hp) : Prop where
  go : ∀ (i : Nat) (x : PV), items[i]? = some x → ∀ (P' : Pl) (H' : Hp) (L' : List HObj), Ext P H P' H' → Rel K mg P' L' H' → guardOk g L' → J.go i H' ∧ ∀ v H2, J.yld i H' v H2 → ∃ P2, Ext P' H' P2 H2 ∧ Rel K mg P2 L' H2 ∧ RV K mg P2 H2 x v
  stop : ∀ (P' : Pl) (H' : Hp) (L' : List HObj), Ext P H P' H' → Rel K mg P' L' H' → guardOk g L' → J.stop items.length H'
def tWk (W : WX) (hx : HX) (xs : XSuite) (k : ItK) (ms : Env' → M (List PV)) : TI := fun σ H R => ∃ P L ρ, Lay K mg hx xs P L H ρ σ ∧ Post K mg (WE W σ) P H (ms ρ L) (fun vs L1 P1 H1 => ∃ w, walkOf L k vs L1 = some w ∧
  ∀ J P2, Ext P H P2 H1 → Rel K mg P2 w.heap H1 → Wk K mg J w.items w.guard P2 H1 → R J H1)
end
section
variable {K : PySem.W.Frag} {mg : Str → Option Value} {P P1 : Pl} {H H1 : Hp} {L0 L1 : List HObj}
theorem Rel.sqD_inj {a : Addr} {vs ws : List V} (h1 : SqT K H a vs) (h2 : SqT K H a ws) (I : ∀ xs ys, SqT K H a xs → SqT K H a ys → xs = ys) : vs = ws := I _ _ h1 h2
theorem wk_range {K : PySem.W.Frag} {mg : Str → Option Value} {P : Pl} {H : Hp} (lo : Int) (n : Nat) : Wk K mg (Itr lo n) (rangeP lo n) none P H :=
  ⟨fun i x hi P' H' L' e' R' _ => by
    unfold rangeP at hi
    rw [List.getElem?_map] at hi
    obtain ⟨j, hj, ej⟩ := Option.map_eq_some_iff.mp hi
    obtain ⟨hl, hj2⟩ := List.getElem?_eq_some_iff.mp hj
    rw [List.getElem_range] at hj2
    subst hj2
    rw [List.length_range] at hl
    exact ⟨hl, fun v H2 ⟨e2, ev⟩ => by subst e2 ev ej; exact ⟨P', Ext.refl, R', rfl⟩⟩, fun P' H' L' e' R' _ => by
    show n ≤ (rangeP lo n).length
    unfold rangeP
    simp⟩
theorem small_of {i : Int} (h : smallI i = true) : -(2 ^ 62) ≤ i ∧ i < 2 ^ 62 := of_decide_eq_true h
theorem walkVal_sound {X : Cx} {pins : List (Addr × Obj)} {σ : L2.St} {s : Shared} {v : PV} {u : V} {w : Walk} (hK : K = X.K) (R0 : Rel K mg P L0 H) (e : Ext P H P1 H1) (R1 : Rel K mg P1 L1 H1) (r : RV K mg P1 H1 v u) (h : walkVal L0 v L1 = some w) :
    ∃ P2 J, Ext P H P2 H1 ∧ Rel K mg P2 w.heap H1 ∧ Wk K mg J w.items w.guard P2 H1 ∧ ((∃ a xs, u = .ref a ∧ J = Itl K a ∧ SqL K H1 a xs) ∨ (∃ a xs, u = .ref a ∧ J = Itt K a ∧ SqT K H1 a xs) ∨ (∃ z, u = .str z ∧ J = Its z) ∨ ∃ a lo hi, u = .ref a ∧ J = Itr lo (hi - lo).toNat ∧ H1 a = some (.rng lo hi) ∧ smallI lo = true ∧ smallI hi = true) := by
  unfold walkVal at h
  split at h
  · rename_i xs
    cases h
    obtain ⟨P2, e2, R2, r2⟩ := gc_sound R0 e R1 r
    have e3 : (gc L0 (.tup xs) L1).1 = .tup xs := by
      unfold gc
      split
      · split
        · rfl
        · rfl
      · rfl
    rw [e3] at r2
    obtain ⟨a, vs, e4, t, p⟩ := r2
    refine ⟨P2, Itt K a, e2, R2, ⟨fun i x hi P' H' L' e' R' _ => ⟨?_, fun v H2 hv => ?_⟩, fun P' H' L' e' R' _ => ?_⟩, .inr (.inl ⟨a, vs, e4, rfl, t.1⟩)⟩
    · obtain ⟨z, hz, _⟩ := p.get hi
      exact ⟨vs, z, e'.seqT t.1, hz⟩
    · obtain ⟨rfl, hv⟩ := hv
      obtain ⟨z, hz, rz⟩ := p.get hi
      have := hv vs (e'.seqT t.1)
      rw [hz] at this
      cases this
      exact ⟨P', Ext.refl, R', rz.mono e'⟩
    · exact ⟨vs, e'.seqT t.1, by rw [p.length]; exact Nat.le_refl _⟩
  · rename_i z
    cases h
    obtain ⟨P2, e2, R2, r2⟩ := gc_sound (v := .non) (w := .non) R0 e R1 rfl
    refine ⟨P2, Its z, e2, R2, ⟨fun i x hi P' H' L' e' R' _ => ⟨?_, fun v H2 hv => ?_⟩, fun P' H' L' e' R' _ => ?_⟩, .inr (.inr (.inl ⟨z, r, rfl⟩))⟩
    · have h9 := (List.getElem?_eq_some_iff.mp hi).1
      show i < z.cps.size
      simpa using h9
    · obtain ⟨rfl, c, hc, rfl⟩ := hv
      refine ⟨P', Ext.refl, R', ?_⟩
      rw [List.getElem?_map] at hi
      simp only [Array.getElem?_toList] at hi
      rw [hc] at hi
      cases hi
      exact rfl
    · show z.cps.size ≤ _
      simp
  · rename_i xs
    cases h
    obtain ⟨P2, e2, R2, r2⟩ := gc_sound R0 e R1 r
    have e3 : (gc L0 (.frl xs) L1).1 = .frl xs := by
      unfold gc
      split
      · split
        · rfl
        · rfl
      · rfl
    rw [e3] at r2
    obtain ⟨a, vs, e4, t, p⟩ := r2
    refine ⟨P2, Itl K a, e2, R2, ⟨fun i x hi P' H' L' e' R' _ => ⟨?_, fun v H2 hv => ?_⟩, fun P' H' L' e' R' _ => ?_⟩, .inl ⟨a, vs, e4, rfl, t.l⟩⟩
    · obtain ⟨z, hz, _⟩ := p.get hi
      exact ⟨vs, z, (e'.seqH t).l, hz⟩
    · obtain ⟨rfl, hv⟩ := hv
      obtain ⟨z, hz, rz⟩ := p.get hi
      have := hv vs (e'.seqH t).l
      rw [hz] at this
      cases this
      exact ⟨P', Ext.refl, R', rz.mono e'⟩
    · exact ⟨vs, (e'.seqH t).l, by rw [p.length]; exact Nat.le_refl _⟩
  · rename_i lo hi
    split at h
    · rename_i hs
      cases h
      rw [Bool.and_eq_true] at hs
      obtain ⟨P2, e2, R2, r2⟩ := gc_sound R0 e R1 r
      have e3 : (gc L0 (.rng lo hi) L1).1 = .rng lo hi := by
        unfold gc
        split
        · split
          · rfl
          · rfl
        · rfl
      rw [e3] at r2
      obtain ⟨a, e4, _, hH⟩ := r2
      exact ⟨P2, Itr lo (hi - lo).toNat, e2, R2, wk_range lo _, .inr (.inr (.inr ⟨a, lo, hi, e4, rfl, hH, hs.1, hs.2⟩))⟩
    · cases h
  · rename_i n
    obtain ⟨P2, e2, R2, r2⟩ := gc_sound R0 e R1 r
    split at h
    · rename_i m hm
      split at h
      · rename_i xs hL
        rw [hm] at r2
        obtain ⟨a, vs, e3, e4, e5, p⟩ := R2.lst hL r2
        split at h
        · rename_i hc
          obtain ⟨hc1, ok, hu⟩ := hc
          cases h
          have R3 := Rel.cutL R0 R2 ok
          have e6 := Ext.cutL (L' := (gc L0 (.ref n) L1).2) R0 e2 []
          have p3 : RVs K mg (P2.cut L0.length []) H1 xs vs := p.cut xs vs hu
          have na : a ∉ (P2.cut L0.length []).A := by
            intro hmem
            have hmem' : a ∈ P2.A.take L0.length ++ [] := hmem
            rw [List.append_nil] at hmem'
            obtain ⟨k, hk⟩ := List.getElem?_of_mem hmem'
            have hkl := (List.getElem?_eq_some_iff.mp hk).1
            rw [List.length_take] at hkl
            have hk1 : k < L0.length := by omega
            rw [List.getElem?_take_of_lt hk1] at hk
            obtain ⟨l1, e1⟩ := List.getElem?_eq_some_iff.mp hk
            obtain ⟨l2, e2'⟩ := List.getElem?_eq_some_iff.mp e4
            have hkm : k = m := (List.getElem_inj R2.nd).mp (e1.trans e2'.symm)
            omega
          have R4 := R3.hold e5 na (fun y => (R2.fzK a (.inr y)).2 (List.mem_of_getElem? e4))
          have hz : ∀ {P' : Pl} {H' : Hp}, Ext ((P2.cut L0.length []).hold a) H1 P' H' → H' a = some (.lst vs) := fun e' => e'.hold a _ (.inr rfl) e5
          refine ⟨(P2.cut L0.length []).hold a, Itl K a, e6.trans Ext.hold', R4, ⟨fun i x hi P' H' L' e' R' _ => ⟨?_, fun v H2 hv => ?_⟩, fun P' H' L' e' R' _ => ?_⟩, .inl ⟨a, vs, e3, rfl, SqL.of e5⟩⟩
          · obtain ⟨z, hz', _⟩ := p.get hi
            exact ⟨vs, z, SqL.of (hz e'), hz'⟩
          · obtain ⟨rfl, hv⟩ := hv
            obtain ⟨z, hz', rz⟩ := p3.get hi
            have := hv vs (SqL.of (hz e'))
            rw [hz'] at this
            cases this
            exact ⟨P', Ext.refl, R', (rz.mono Ext.hold').mono e'⟩
          · exact ⟨vs, SqL.of (hz e'), by rw [p.length]; exact Nat.le_refl _⟩
        · cases h
          have look : ∀ {P' : Pl} {H' : Hp} {L' : List HObj}, Ext P2 H1 P' H' → Rel K mg P' L' H' → guardOk (some (m, xs)) L' → ∃ ws, H' a = some (.lst ws) ∧ RVs K mg P' H' xs ws := fun {P' H' L'} e' R' g => by
            obtain ⟨ho, h1, ws, h2, h3⟩ := R'.obj m _ a g (e'.at e4)
            subst h2
            exact ⟨ws, h1, h3⟩
          refine ⟨P2, Itl K a, e2, R2, ⟨fun i x hi P' H' L' e' R' g => ⟨?_, fun v H2 hv => ?_⟩, fun P' H' L' e' R' g => ?_⟩, .inl ⟨a, vs, e3, rfl, SqL.of e5⟩⟩
          · obtain ⟨ws, h1, h2⟩ := look e' R' g
            obtain ⟨z, hz', _⟩ := h2.get hi
            exact ⟨ws, z, SqL.of h1, hz'⟩
          · obtain ⟨rfl, hv⟩ := hv
            obtain ⟨ws, h1, h2⟩ := look e' R' g
            obtain ⟨z, hz', rz⟩ := h2.get hi
            have := hv ws (SqL.of h1)
            rw [hz'] at this
            cases this
            exact ⟨P', Ext.refl, R', rz⟩
          · obtain ⟨ws, h1, h2⟩ := look e' R' g
            exact ⟨ws, SqL.of h1, by rw [h2.length]; exact Nat.le_refl _⟩
      · cases h
    · cases h
  · cases h
end
section
variable {X : Cx} {W : WX} {hx : HX} {xs : XSuite} {a b c e tg : Expr} {es : List Expr} {pos : Pos} {m m1 m2 m3 : Env' → M PV} {ms : Env' → M (List PV)}
/-- the iterator of a value -/
theorem iter_of {pins : List (Addr × Obj)} {σ : L2.St} {H : Hp} {s : Shared} {R : It → Hp → Prop} {J : It} {u : V} {v : Value} (I : Inv X pins σ H s) (ru : RelV u v) (h : (∃ a ys, u = .ref a ∧ J = Itl X.K a ∧ SqL X.K H a ys) ∨ (∃ a ys, u = .ref a ∧ J = Itt X.K a ∧ SqT X.K H a ys) ∨ (∃ z, u = .str z ∧ J = Its z) ∨ ∃ a lo hi, u = .ref a ∧ J = Itr lo (hi - lo).toNat ∧ H a = some (.rng lo hi) ∧ smallI lo = true ∧ smallI hi = true) (q : R J H) :
    wpAny (model X.prog X.w) X.A (pyIter v) (PIE X pins σ tg R) X.xe s := by
  rcases h with ⟨a, ys, rfl, rfl, hq⟩ | ⟨a, ys, rfl, rfl, hq⟩ | ⟨z, rfl, rfl⟩ | ⟨a, lo, hi, rfl, rfl, hq, hlo, hhi⟩
  · cases ru
    obtain ⟨its, rv, p, hz⟩ := I.list hq
    refine wpAny_pyIter_list p.isList ?_
    refine ⟨s.heap.objs.size, [s.heap.objs.size], _, _, H, rfl, I.kept (t' := s.toks) fun b o e => Heap.get?_push_of_some _ e, turn_list a _, ⟨_, Heap.get?_push_size _ rfl, rfl, rfl⟩, fun b hb => ?_, q⟩
    have e : b = s.heap.objs.size := by simpa using hb
    subst e
    exact I.fpOk (Nat.le_refl _) (I.hok.fresh (Nat.le_refl _))
  · cases ru
    obtain ⟨its, rv, p, hz⟩ := I.tuple hq
    refine wpAny_pyIter_tuple (show s.heap.IsTuple a its.toArray from p) ?_
    refine ⟨s.heap.objs.size, [s.heap.objs.size], _, _, H, rfl, I.kept (t' := s.toks) fun b o e => Heap.get?_push_of_some _ e, turn_tuple a _, ⟨_, Heap.get?_push_size _ rfl, rfl, rfl⟩, fun b hb => ?_, q⟩
    have e : b = s.heap.objs.size := by simpa using hb
    subst e
    exact I.fpOk (Nat.le_refl _) (I.hok.fresh (Nat.le_refl _))
  · obtain ⟨t, rfl⟩ := ru
    cases ha : z.cps.all (· < 128)
    · exact wpAny_pyIter_wide ha (pi_one (tk := s.toks) I _ (turn_str _ z t "str_iterator" (.inr rfl)) ⟨_, Heap.get?_push_size _ rfl, rfl, rfl⟩ q)
    · exact wpAny_pyIter_ascii ha (pi_one (tk := s.toks) I _ (turn_str _ z t "str_ascii_iterator" (.inl rfl)) ⟨_, Heap.get?_push_size _ rfl, rfl, rfl⟩ q)
  · cases ru
    obtain ⟨t, u, w, ho⟩ := I.hok a _ hq
    have b1 := small_of hlo
    have b2 := small_of hhi
    refine wpAny_pyIter_range (a := lo) (b := hi) (c := 1) ho (small_one b1.1 b1.2 b2.1 b2.2) (pi_one (tk := s.toks) I _ (turn_range _ lo (hi - lo).toNat) ?_ q)
    have z1 : lo + ((0 : Nat) : Int) * 1 = lo := by omega
    have z2 : (((hi - lo).toNat : Nat) : Int) - ((0 : Nat) : Int) = Builtin.Range.rangeSize lo hi 1 := by
      rw [rangeSize_one]
      split <;> omega
    rw [z1, z2]
    exact Heap.get?_push_size _ rfl
abbrev PIi (X : Cx) (W : WX) (hx : HX) (xs : XSuite) (k : ItK) (tg e : Expr) (ms : Env' → M (List PV)) : Prop := PI X tg e (tWk X.K X.mg W hx xs k ms)
theorem it_val (he : PEi X W hx xs e m) : PIi X W hx xs .val tg e (fun ρ => bnd (m ρ) fun x => bnd (ret []) fun xs => ret (x :: xs)) := by
  refine ⟨fun pins s σ H R I h => ?_⟩
  obtain ⟨P, L, ρ, l, h⟩ := h
  refine thn (he.run pins s σ H (fun u H1 => ∃ J, R J H1 ∧ ((∃ a ys, u = .ref a ∧ J = Itl X.K a ∧ SqL X.K H1 a ys) ∨ (∃ a ys, u = .ref a ∧ J = Itt X.K a ∧ SqT X.K H1 a ys) ∨ (∃ z, u = .str z ∧ J = Its z) ∨ ∃ a lo hi, u = .ref a ∧ J = Itr lo (hi - lo).toNat ∧ H1 a = some (.rng lo hi) ∧ smallI lo = true ∧ smallI hi = true)) I ?_) fun v s1 ⟨u, H1, I1, r1, J, q, hJ⟩ => iter_of I1 r1 hJ q
  refine t1 l h fun x L1 P1 H1 u e1 l1 r1 h1 => ?_
  obtain ⟨w, hw, q⟩ := Post.ok (E := WE W σ) (a := [x]) h1 l1.R
  obtain ⟨P2, J, e2, R2, wk, hJ⟩ := walkVal_sound (X := X) (pins := pins) (σ := σ) (s := s) rfl l.R e1 l1.R r1 (show walkVal L x L1 = some w from hw)
  exact ⟨J, q J P2 e2 R2 wk, hJ⟩
theorem it_range1 {p : Pos} (hg : Gl X "range") (hm : X.mg "range" = none) (ha : PEi X W hx xs a m) (hs : noStar a = true) : PIi X W hx xs .range tg (.Call (.Name "range" p) [a] [] pos) (fun ρ => bnd (m ρ) fun x => bnd (ret []) fun xs => ret (x :: xs)) := by
  have h0 := pi_range1 (tg := tg) (pos := pos) (p := p) hg hm (pa_cons ha pa_nil (star1 hs)) (star1 hs)
  refine ⟨fun pins s σ H R I h => h0.run pins s σ H R I ?_⟩
  obtain ⟨P, L, ρ, l, h⟩ := h
  refine t1 l h fun x L1 P1 H1 u e1 l1 ru h1 => ?_
  obtain ⟨w, hw, q⟩ := Post.ok (E := WE W σ) (a := [x]) h1 l1.R
  cases x <;> try (cases hw; done)
  rename_i j
  simp only [walkOf] at hw
  split at hw
  · rename_i hc
    cases hw
    have hc' := small_of hc
    obtain ⟨P2, e2, R2, _⟩ := gc_sound (v := .non) (w := .non) l.R e1 l1.R rfl
    exact ⟨j, by rw [show u = _ from ru], hc'.1, hc'.2, q _ P2 e2 R2 (wk_range 0 j.toNat)⟩
  · cases hw
theorem it_range2 {p : Pos} (hg : Gl X "range") (hm : X.mg "range" = none) (ha : PEi X W hx xs a m1) (hb : PEi X W hx xs b m2) (hs : noStar a = true) (hs2 : noStar b = true) :
    PIi X W hx xs .range tg (.Call (.Name "range" p) [a, b] [] pos) (fun ρ => bnd (m1 ρ) fun x => bnd (bnd (m2 ρ) fun x => bnd (ret []) fun xs => ret (x :: xs)) fun xs => ret (x :: xs)) := by
  have h0 := pi_range2 (tg := tg) (pos := pos) (p := p) hg hm (pa_cons ha (pa_cons hb pa_nil (star1 hs2)) (star1 hs)) (by rw [star1 hs, star1 hs2]; rfl) (star1 hs2)
  refine ⟨fun pins s σ H R I h => h0.run pins s σ H R I ?_⟩
  obtain ⟨P, L, ρ, l, h⟩ := h
  refine t1 l h fun x L1 P1 H1 u e1 l1 ru h1 => ?_
  rw [bnd_assoc] at h1
  refine t1 l1 h1 fun y L2 P2 H2 v e2 l2 rv h2 => ?_
  obtain ⟨w, hw, q⟩ := Post.ok (E := WE W σ) (a := [x, y]) h2 l2.R
  cases x <;> cases y <;> try (cases hw; done)
  rename_i i j
  simp only [walkOf] at hw
  split at hw
  · rename_i hc
    cases hw
    rw [Bool.and_eq_true] at hc
    have h1' := small_of hc.1
    have h2' := small_of hc.2
    obtain ⟨P3, e3, R3, _⟩ := gc_sound (v := .non) (w := .non) l.R (e1.trans e2) l2.R rfl
    exact ⟨i, j, by rw [show u = _ from ru, show v = _ from rv], ⟨h1'.1, h1'.2, h2'.1, h2'.2⟩, q _ P3 e3 R3 (wk_range i (j - i).toNat)⟩
  · cases hw
theorem wk_rangeD {K : PySem.W.Frag} {mg : Str → Option Value} {P : Pl} {H : Hp} (lo : Int) (n : Nat) : Wk K mg (Itc lo (-1) n) (rangeD lo n) none P H :=
  ⟨fun i x hi P' H' L' e' R' _ => by
    unfold rangeD at hi
    rw [List.getElem?_map] at hi
    obtain ⟨j, hj, ej⟩ := Option.map_eq_some_iff.mp hi
    obtain ⟨hl, hj2⟩ := List.getElem?_eq_some_iff.mp hj
    rw [List.getElem_range] at hj2
    subst hj2
    rw [List.length_range] at hl
    exact ⟨hl, fun v H2 ⟨e2, ev⟩ => by subst e2 ev ej; exact ⟨P', Ext.refl, R', rfl⟩⟩, fun P' H' L' e' R' _ => by
    show n ≤ (rangeD lo n).length
    unfold rangeD
    simp⟩
theorem it_range3 {p : Pos} (hg : Gl X "range") (hm : X.mg "range" = none) (ha : PEi X W hx xs a m1) (hb : PEi X W hx xs b m2) (hc : PEi X W hx xs c m3) (hs : noStar a = true) (hs2 : noStar b = true) (hs3 : noStar c = true) :
    PIi X W hx xs .range tg (.Call (.Name "range" p) [a, b, c] [] pos) (fun ρ => bnd (m1 ρ) fun x => bnd (bnd (m2 ρ) fun x => bnd (bnd (m3 ρ) fun x => bnd (ret []) fun xs => ret (x :: xs)) fun xs => ret (x :: xs)) fun xs => ret (x :: xs)) := by
  have h0 := pi_range3 (tg := tg) (pos := pos) (p := p) hg hm (pa_cons ha (pa_cons hb (pa_cons hc pa_nil (star1 hs3)) (star1 hs2)) (star1 hs)) (star1 hs) (by rw [backTo_any]; exact stars (by simp [hs2, hs3]))
  refine ⟨fun pins s σ H R I h => h0.run pins s σ H R I ?_⟩
  obtain ⟨P, L, ρ, l, h⟩ := h
  refine t1 l h fun x L1 P1 H1 u e1 l1 ru h1 => ?_
  rw [bnd_assoc] at h1
  refine t1 l1 h1 fun y L2 P2 H2 v e2 l2 rv h2 => ?_
  rw [bnd_assoc, bnd_assoc] at h2
  refine t1 l2 h2 fun z L3 P3 H3 v3 e3 l3 rz h3 => ?_
  obtain ⟨w, hw, q⟩ := Post.ok (E := WE W σ) (a := [x, y, z]) h3 l3.R
  cases x <;> cases y <;> cases z <;> try (cases hw; done)
  rename_i i j k
  simp only [walkOf] at hw
  split at hw
  · rename_i hc
    cases hw
    simp only [Bool.and_eq_true, decide_eq_true_eq] at hc
    obtain ⟨⟨c1, c2⟩, c3⟩ := hc
    subst c3
    have h1' := small_of c1
    have h2' := small_of c2
    obtain ⟨P4, e4, R4, _⟩ := gc_sound (v := .non) (w := .non) l.R ((e1.trans e2).trans e3) l3.R rfl
    exact ⟨i, j, -1, (i - j).toNat, by rw [show u = _ from ru, show v = _ from rv, show v3 = _ from rz], RgC.neg h1'.1 h1'.2 h2'.1 h2'.2, q _ P4 e4 R4 (wk_rangeD i (i - j).toNat)⟩
  · cases hw
end
end MP

/-! MP 15: targets, comprehensions. -/
namespace MP
open PySem PySem.Spec PyProof.Rows L2
def W0 : WX := fun _ _ _ _ => False
/-! ### slots -/
theorem wipe_in {σ : L2.St} {i : Nat} : ∀ {vs : List Nat}, i ∈ vs → i < σ.length → (wipe σ vs)[i]? = some none
  | [], h, _ => by cases h
  | v :: vs, h, hl => by
    show ((wipe σ vs).set v none)[i]? = some none
    by_cases hv : v = i
    · subst hv
      rw [List.getElem?_set_self (by rw [wipe_length]; exact hl)]
    · rw [List.getElem?_set_ne hv]
      exact wipe_in ((List.mem_cons.mp h).elim (fun e => absurd e.symm hv) id) hl
theorem wipe_set {σ : L2.St} {i : Nat} {o : Option V} {vs : List Nat} (h : i ∈ vs) : wipe (σ.set i o) vs = wipe σ vs := by
  apply List.ext_getElem?
  intro j
  by_cases hj : j ∈ vs
  · by_cases hl : j < σ.length
    · rw [wipe_in hj hl, wipe_in hj (by simpa using hl)]
    · rw [List.getElem?_eq_none (by rw [wipe_length]; simpa using hl), List.getElem?_eq_none (by rw [wipe_length]; simpa using hl)]
  · rw [wipe_out hj, wipe_out hj, List.getElem?_set_ne (fun e => hj (by rw [← e]; exact h))]
theorem wipe_wipe {σ : L2.St} {vs : List Nat} : wipe (wipe σ vs) vs = wipe σ vs := by
  apply List.ext_getElem?
  intro j
  by_cases hj : j ∈ vs
  · by_cases hl : j < σ.length
    · rw [wipe_in hj (by rw [wipe_length]; exact hl), wipe_in hj hl]
    · rw [List.getElem?_eq_none (by rw [wipe_length, wipe_length]; simpa using hl), List.getElem?_eq_none (by rw [wipe_length]; simpa using hl)]
  · rw [wipe_out hj]
theorem fold_none : ∀ {own : List Nat} {ρ : Env'} {i : Nat} {x : PV}, (own.foldl (fun r i => r.set i none) ρ)[i]? = some (some x) → i ∉ own ∧ ρ[i]? = some (some x)
  | [], _, _, _, h => ⟨by simp, h⟩
  | v :: vs, ρ, i, x, h => by
    obtain ⟨h1, h2⟩ := fold_none (own := vs) (ρ := ρ.set v none) h
    by_cases hv : v = i
    · subst hv
      by_cases hl : v < ρ.length
      · rw [List.getElem?_set_self hl] at h2
        cases h2
      · rw [List.getElem?_eq_none (by simpa using hl)] at h2
        cases h2
    · rw [List.getElem?_set_ne hv] at h2
      exact ⟨fun m => (List.mem_cons.mp m).elim (fun e => hv e.symm) h1, h2⟩
theorem fold_len : ∀ {own : List Nat} {ρ : Env'}, (own.foldl (fun r i => r.set i none) ρ).length = ρ.length
  | [], _ => rfl
  | v :: vs, ρ => by
    show (vs.foldl _ (ρ.set v none)).length = _
    rw [fold_len]
    simp
section
variable {K : PySem.W.Frag} {mg : Str → Option Value} {P P' P2 : Pl} {H H' H2 : Hp} {L L' : List HObj}
theorem RE.wiped {ρ : Env'} {σ : L2.St} {own : List Nat} (h : RE K mg P H ρ σ) : RE K mg P H (own.foldl (fun r i => r.set i none) ρ) (wipe σ own) :=
  ⟨by rw [fold_len, wipe_length]; exact h.len, fun i x q => by
    obtain ⟨h1, h2⟩ := fold_none q
    rw [wipe_out h1]
    exact h.val i x h2⟩
/-! ### targets -/
def gMany : List Nat → TGs
  | [] => gNil
  | i :: is => gCons (gName i) (gMany is)
def gTg (K : PySem.W.Frag) : Tg → TG
  | .one i => gName i
  | .many is => gTup K is.length (gMany is)
def Tg.slots : Tg → List Nat
  | .one i => [i]
  | .many is => is
theorem gMany_run : ∀ {is : List Nat} {ys : List PV} {vs : List V} {ρ ρ1 : Env'} {σ : L2.St} {Q : L2.St → Hp → Prop}, RE K mg P H ρ σ → RVs K mg P H ys vs → bindMany is ys ρ = some ρ1 →
    (∀ σ1, RE K mg P H ρ1 σ1 → (∀ vs : List Nat, (∀ i ∈ is, i ∈ vs) → wipe σ1 vs = wipe σ vs) → (∀ j, j ∉ is → σ1[j]? = σ[j]?) → Q σ1 H) → gMany is vs σ H Q
  | [], ys, vs, ρ, ρ1, σ, Q, re, r, hb, q => by
    cases ys with
    | nil => cases hb; exact ⟨r, q σ re (fun _ _ => rfl) fun _ _ => rfl⟩
    | cons _ _ => cases hb
  | i :: is, ys, vs, ρ, ρ1, σ, Q, re, r, hb, q => by
    cases ys with
    | nil => cases hb
    | cons y ys =>
      obtain ⟨v, t, e, h1, h2⟩ := r
      refine ⟨v, t, e, ?_⟩
      refine gMany_run (ys := ys) (ρ := ρ.set i (some y)) (ρ1 := ρ1) (re.set h1) h2 hb fun σ1 re1 hw ho => ?_
      refine q σ1 re1 (fun vs hv => ?_) fun j hj => ?_
      · rw [hw vs fun k hk => hv k (List.mem_cons_of_mem _ hk), wipe_set (hv i List.mem_cons_self)]
      · rw [ho j fun m => hj (List.mem_cons_of_mem _ m), List.getElem?_set_ne fun e => hj (by rw [← e]; exact List.mem_cons_self)]
theorem gTg_run {tg : Tg} {x : PV} {v : V} {ρ ρ1 : Env'} {σ : L2.St} {Q : L2.St → Hp → Prop} (re : RE K mg P H ρ σ) (r : RV K mg P H x v) (hb : bindT tg x ρ = some ρ1)
    (q : ∀ σ1, RE K mg P H ρ1 σ1 → (∀ vs : List Nat, (∀ i ∈ tg.slots, i ∈ vs) → wipe σ1 vs = wipe σ vs) → (∀ j, j ∉ tg.slots → σ1[j]? = σ[j]?) → Q σ1 H) : gTg K tg v σ H Q := by
  cases tg with
  | one i =>
    cases hb
    exact q _ (re.set r) (fun vs hv => wipe_set (hv i (by simp [Tg.slots]))) fun j hj => by rw [List.getElem?_set_ne fun e => hj (by simp [Tg.slots, e])]
  | many is =>
    cases x <;> try (cases hb; done)
    rename_i ys
    obtain ⟨a, vs, e, t, p⟩ := r
    have hl : ys.length = is.length := by
      have key : ∀ (is : List Nat) (ys : List PV) (ρ ρ1 : Env'), bindMany is ys ρ = some ρ1 → ys.length = is.length := by
        intro is
        induction is with
        | nil => intro ys ρ ρ1 h; cases ys with
          | nil => rfl
          | cons _ _ => cases h
        | cons i is ih => intro ys ρ ρ1 h; cases ys with
          | nil => cases h
          | cons y ys => exact congrArg Nat.succ (ih ys _ _ h)
      exact key _ _ _ _ hb
    exact ⟨a, vs, e, t.1, by rw [← p.length]; exact hl, gMany_run re p hb q⟩
/-! ### a hidden list -/
def Pl.drop (P : Pl) (a : Addr) : Pl := ⟨P.A, P.Z, fun b => P.Y b ∧ b ≠ a⟩
mutual
theorem RV.drop {a : Addr} : ∀ (x : PV) (v : V), RV K mg P H x v → RV K mg (P.drop a) H x v
  | .non, _, h => h
  | .bl _, _, h => h
  | .int _, _, h => h
  | .str _, _, h => h
  | .tup xs, _, h => by
    obtain ⟨b, vs, h1, h2, h3⟩ := h
    exact ⟨b, vs, h1, h2, RVs.drop' xs vs h3⟩
  | .ref _, _, h => h
  | .cls _, _, h => h
  | .typ _, _, h => h
  | .obj c ns us, _, h => by
    obtain ⟨b, C, dx, fs, h1, h2, h3, h4, vs, h5, h6, h7⟩ := h
    exact ⟨b, C, dx, fs, h1, h2, h3, h4, vs, h5, h6, RVs.drop' us vs h7⟩
  | .exn, _, h => h
  | .frl xs, _, h => by
    obtain ⟨b, vs, h1, h2, h3⟩ := h
    exact ⟨b, vs, h1, h2, RVs.drop' xs vs h3⟩
  | .rng _ _, _, h => h
theorem RVs.drop' {a : Addr} : ∀ (xs : List PV) (ws : List V), RVs K mg P H xs ws → RVs K mg (P.drop a) H xs ws
  | [], _, h => h
  | x :: xs, _, h => by
    obtain ⟨v, r, h1, h2, h3⟩ := h
    exact ⟨v, r, h1, RV.drop x v h2, RVs.drop' xs r h3⟩
end
theorem RO.drop {a : Addr} {o : HObj} {ho : HO} (h : RO K mg P H o ho) : RO K mg (P.drop a) H o ho := by
  cases o with
  | lst xs => obtain ⟨ws, h1, h2⟩ := h; exact ⟨ws, h1, h2.drop'⟩
  | frl xs => obtain ⟨o, ws, h1, h2⟩ := h; exact ⟨o, ws, h1, h2.drop'⟩
  | ins c ns us => obtain ⟨C, dx, ws, h1, h2, h3, h4⟩ := h; exact ⟨C, dx, ws, h1, h2, h3, h4.drop'⟩
theorem Rel.drop {a : Addr} (R : Rel K mg P L H) : Rel K mg (P.drop a) L H :=
  ⟨R.len, R.nd, fun n o c h1 h2 => by
    obtain ⟨ho, h3, h4⟩ := R.obj n o c h1 h2
    exact ⟨ho, h3, h4.drop⟩, fun c z => R.fzK c (z.elim .inl fun z => .inr z.1), fun b y => R.dj b y.1, fun b y => R.yl b y.1⟩
/-- the hidden list is written -/
theorem Ext.rewrite {a : Addr} {vs ws : List V} (ha : H a = some (.lst vs)) (nz : ¬ P.Kp a) : Ext P H P (upd H a (.lst ws)) := by
  have ne : ∀ {b : Addr} {o : HO}, H b = some o → (∀ vs, o ≠ .lst vs) → b ≠ a := fun {b o} h n e => by
    rw [e, ha] at h
    cases h
    exact n _ rfl
  refine ⟨⟨[], by simp⟩, fun b xs h => ?_, fun b o u h => ?_, fun b z => z, fun b z => z, fun b o z h => ?_⟩
  · rw [upd_ne (ne h fun _ z => by cases z)]; exact h
  · rw [upd_ne (ne h fun _ z => by cases z)]; exact h
  · rw [upd_ne fun e => nz (by rw [← e]; exact z)]; exact h
theorem Rel.rewrite {a : Addr} {vs ws : List V} (R : Rel K mg P L H) (ha : H a = some (.lst vs)) (nz : ¬ P.Kp a) (na : a ∉ P.A) : Rel K mg P L (upd H a (.lst ws)) := by
  have e := Ext.rewrite (ws := ws) ha nz
  refine ⟨R.len, R.nd, fun n o c h1 h2 => ?_, fun c z => ?_, R.dj, fun b y => let ⟨us, q⟩ := R.yl b y; ⟨us, e.holdK b _ (.inr y) q⟩⟩
  · obtain ⟨ho, h3, h4⟩ := R.obj n o c h1 h2
    refine ⟨ho, ?_, h4.mono e⟩
    rw [upd_ne fun e => na (by rw [← e]; exact List.mem_of_getElem? h2)]
    exact h3
  · obtain ⟨⟨o, h1⟩, h2⟩ := R.fzK c z
    exact ⟨⟨o, e.holdK c o z h1⟩, h2⟩
theorem Ext.unhold {a : Addr} (e : Ext (P.hide a) H P2 H2) (nz : ¬ P.Kp a) : Ext P H (P2.drop a) H2 :=
  ⟨e.A, e.tup, e.frz, e.Z, fun b z => ⟨e.Y b (.inl z), fun q => nz (by rw [← q]; exact .inr z)⟩, fun b o z h => e.holdK b o (z.elim .inl fun z => .inr (.inl z)) h⟩
theorem Ext.adopt {a : Addr} : Ext P H (P.add a) H := ⟨⟨[a], rfl⟩, fun _ _ h => h, fun _ _ _ h => h, fun _ h => h, fun _ h => h, fun _ _ _ h => h⟩
theorem Rel.adopt {a : Addr} {o : HObj} {ho : HO} (R : Rel K mg P L H) (h : H a = some ho) (na : a ∉ P.A) (nz : ¬ P.Kp a) (r : RO K mg P H o ho) : Rel K mg (P.add a) (L ++ [o]) H := by
  refine ⟨?_, ?_, fun n u c h1 h2 => ?_, fun c z => ?_, R.dj, R.yl⟩
  · show (P.A ++ [a]).length = _
    simp [R.len]
  · show (P.A ++ [a]).Nodup
    rw [List.nodup_append]
    exact ⟨R.nd, by simp, fun x hx y hy e => na (by
      have : y = a := by simpa using hy
      rw [← this, ← e]
      exact hx)⟩
  · by_cases hn : n < L.length
    · rw [List.getElem?_append_left hn] at h1
      have h2' : (P.A ++ [a])[n]? = some c := h2
      rw [List.getElem?_append_left (by rw [R.len]; exact hn)] at h2'
      obtain ⟨ho', h3, h4⟩ := R.obj n u c h1 h2'
      exact ⟨ho', h3, h4.mono Ext.adopt⟩
    · have hn2 : n = L.length := by
        have := (List.getElem?_eq_some_iff.mp h1).1
        rw [List.length_append] at this
        simp only [List.length_cons, List.length_nil] at this
        omega
      subst hn2
      have h1' : some o = some u := by simpa using h1
      cases h1'
      have h2' : (P.A ++ [a])[L.length]? = some c := h2
      rw [← R.len] at h2'
      have h3 : some a = some c := by simpa using h2'
      cases h3
      exact ⟨ho, h, r.mono Ext.adopt⟩
  · obtain ⟨h1, h2⟩ := R.fzK c z
    refine ⟨h1, fun m => ?_⟩
    have m' : c ∈ P.A ++ [a] := m
    rcases List.mem_append.mp m' with q | q
    · exact h2 q
    · have : c = a := by simpa using q
      exact nz (by rw [← this]; exact z)
end
end MP

/-! MP 16: list comprehensions. -/
namespace MP
open PySem PySem.Spec PyProof.Rows L2
section
variable {X : Cx} {W : WX} {elt tg iter : Expr} {ifs : List Expr} {scope : Scope} {own : List (Str × Nat)} {pos : Pos} {ms : Env' → M (List PV)} {cond : Env' → M Bool} {el : Env' → M PV} {k : ItK} {t : Tg}
abbrev Bk (X : Cx) (scope : Scope) (s : Shared) (H : Hp) (C : Addr) (cl : List (Str × Addr)) (fp : List Addr) : Cx := X.blk s H scope (compEnvC scope cl C X.env) fp
theorem drop_cons {α : Type} {xs : List α} {i : Nat} (h : i < xs.length) : xs.drop i = xs[i] :: xs.drop (i + 1) := by
  rw [List.drop_eq_getElem_cons h]
theorem lc_turn {K : PySem.W.Frag} {mg : Str → Option Value} {g : Option (Nat × List PV)} {ρ0 : Env'} {x : PV} {rest acc ys : List PV} {L L2 : List HObj} (h : lcLoop g t cond el ρ0 (x :: rest) acc L = .ok ys L2) :
    guardOk g L ∧ ∃ ρ1 b L1, bindT t x ρ0 = some ρ1 ∧ cond ρ1 L = .ok b L1 ∧ (if b = true then ∃ v L2', el ρ1 L1 = .ok v L2' ∧ lcLoop g t cond el ρ0 rest (acc ++ [(gc L v L2').1]) (gc L v L2').2 = .ok ys L2 else lcLoop g t cond el ρ0 rest acc (gc L .non L1).2 = .ok ys L2) := by
  unfold lcLoop at h
  split at h
  · rename_i hg
    refine ⟨hg, ?_⟩
    split at h
    · cases h
    · rename_i ρ1 hb
      split at h
      · rename_i L1 hc
        split at h
        · rename_i v L2' he
          exact ⟨ρ1, true, L1, hb, hc, v, L2', he, h⟩
        · cases h
      · rename_i L1 hc
        exact ⟨ρ1, false, L1, hb, hc, h⟩
      · cases h
  · cases h
noncomputable abbrev lcM (k : ItK) (t : Tg) (os : List Nat) (ms : Env' → M (List PV)) (cond : Env' → M Bool) (el : Env' → M PV) : Env' → M PV := fun ρ L => match ms ρ L with
  | .ok vs L1 => (match walkOf L k vs L1 with
    | some w => if w.items.length ≤ 16777216 then (match lcLoop w.guard t cond el (os.foldl (fun r i => r.set i none) ρ) w.items [] w.heap with
      | .ok ys L2 => .ok (.ref L2.length) (L2 ++ [.lst ys])
      | _ => .stuck) else .stuck
    | none => .stuck)
  | .exc c f L1 => .exc c f L1
  | .stuck => .stuck
theorem lc_weak {K : PySem.W.Frag} {mg : Str → Option Value} (hin : ∀ i ∈ t.slots, i ∈ own.map (·.2)) : ∀ σ H Q, tI K mg W none none (lcM k t (own.map (·.2)) ms cond el) σ H Q →
    tLc (tWk K mg W none none k ms) (gTg K t) (tIT K mg W0 none none cond) (tI K mg W0 none none el) (own.map (·.2)) σ H Q := fun σ H Q ⟨P, L, ρ, l, h⟩ => by
    unfold lcM at h
    refine ⟨P, L, ρ, l, ?_⟩
    cases hms : ms ρ L with
    | stuck => rw [hms] at h; exact h.elim
    | exc c f L1 => rw [hms] at h; exact h
    | ok vs L1 =>
      rw [hms] at h
      simp only at h
      intro P1 H1 e1 R1
      cases hw : walkOf L k vs L1 with
      | none => rw [hw] at h; exact h.elim
      | some w =>
        rw [hw] at h
        simp only at h
        split at h
        · rename_i hlen
          cases hl : lcLoop w.guard t cond el ((own.map (·.2)).foldl (fun r i => r.set i none) ρ) w.items [] w.heap with
          | stuck => rw [hl] at h; exact h.elim
          | exc c f L2 => rw [hl] at h; exact h.elim
          | ok ys L2 =>
            rw [hl] at h
            simp only at h
            refine ⟨w, rfl, fun J P2 e2 R2 wk D hD => ?_⟩
            have na2 : D ∉ P2.A := R2.notA hD
            have nz2 : ¬ P2.Kp D := R2.notK hD
            have rw0 : RE K mg P2 H1 ((own.map (·.2)).foldl (fun r i => r.set i none) ρ) (wipe σ (own.map (·.2))) := (l.re.mono e2).wiped
            generalize hρ0 : (own.map (·.2)).foldl (fun r i => r.set i none) ρ = ρ0 at hl rw0
            generalize hvs : own.map (·.2) = os at hin rw0
            refine ⟨fun i m H3 => ∃ (P3 : Pl) (L3 : List HObj) (acc : List PV) (avs : List V), m = w.items.length - i ∧ i ≤ w.items.length ∧ Ext P2 H1 P3 H3 ∧ Rel K mg P3 L3 H3 ∧ D ∉ P3.A ∧ ¬ P3.Kp D ∧ H3 D = some (.lst avs) ∧ RVs K mg P3 H3 acc avs ∧ acc.length ≤ i ∧
              lcLoop w.guard t cond el ρ0 (w.items.drop i) acc L3 = .ok ys L2, ⟨_, P2, w.heap, [], [], rfl, Nat.zero_le _, Ext.fresh hD, R2.fresh hD, na2, nz2, upd_same, RVs.nil, Nat.zero_le _, hl⟩, ?_⟩
            rintro i m H3 ⟨P3, L3, acc, avs, rfl, hi', e3, R3, na, nz, hDa, ra, hal, hrun⟩
            have eh : Ext P2 H1 (P3.hide D) H3 := e3.trans Ext.hide'
            have Rh : Rel K mg (P3.hide D) L3 H3 := R3.hide hDa na (fun z => nz (.inl z))
            by_cases hlt : i < w.items.length
            · rw [drop_cons hlt] at hrun
              obtain ⟨hgd, ρ1, b, L4, hb, hcond, hrest⟩ := lc_turn (K := K) (mg := mg) hrun
              obtain ⟨hgo, hyl⟩ := wk.go i w.items[i] (List.getElem?_eq_getElem hlt) _ _ _ eh Rh hgd
              refine .inr ⟨hgo, fun H' => ∃ (P3 : Pl) (L3 : List HObj) (acc : List PV) (avs : List V), i + 1 ≤ w.items.length ∧ Ext P2 H1 P3 H' ∧ Rel K mg P3 L3 H' ∧ D ∉ P3.A ∧ ¬ P3.Kp D ∧ H' D = some (.lst avs) ∧ RVs K mg P3 H' acc avs ∧ acc.length ≤ i + 1 ∧
                lcLoop w.guard t cond el ρ0 (w.items.drop (i + 1)) acc L3 = .ok ys L2, fun H' ⟨P', L', acc', avs', a1, a2, a3, a4, a5, a6, a7, a8, a9⟩ => ⟨_, by omega, P', L', acc', avs', rfl, a1, a2, a3, a4, a5, a6, a7, a8, a9⟩, fun v H' hy => ?_⟩
              obtain ⟨P4, e4, R4, r4⟩ := hyl v H' hy
              have D4 : H' D = some (.lst avs) := e4.holdK D _ (.inr (.inr rfl)) hDa
              refine gTg_run (rw0.mono (eh.trans e4)) r4 hb fun σ1 re1 hwp _ => ?_
              refine ⟨by rw [hwp os hin, wipe_wipe], ?_⟩
              have gx : GX K mg none none P4 H' σ1 := trivial
              refine ⟨P4, L3, ρ1, ⟨R4, re1, gx⟩, ?_⟩
              rw [hcond]
              intro P5 H5 e5 R5
              have e35 := e4.trans e5
              have D5 : H5 D = some (.lst avs) := e35.holdK D _ (.inr (.inr rfl)) hDa
              cases b with
              | false =>
                simp only [Bool.false_eq_true, if_false] at hrest ⊢
                obtain ⟨P6, e6, R6, _⟩ := gc_sound (v := .non) (w := .non) Rh e35 R5 rfl
                have e7 := Ext.unhold e6 nz
                have ra7 := ra.mono e7
                have nk6 : ¬ (P6.drop D).Kp D := fun z => z.elim (R6.dj D (e6.Y D (.inr rfl))) fun z => z.2 rfl
                refine ⟨P6.drop D, _, acc, avs, hlt, e3.trans e7, R6.drop, fun mm => (R6.fzK D (e6.kp (.inr (.inr rfl)))).2 mm, nk6, D5, ra7, by omega, hrest⟩
              | true =>
                simp only [if_true] at hrest ⊢
                obtain ⟨y, L6, hel, hrest⟩ := hrest
                refine ⟨P5, L4, ρ1, ⟨R5, re1.mono e5, trivial⟩, ?_⟩
                rw [hel]
                intro P6 H6 e6 R6 u ru
                have e36 := e35.trans e6
                have D6 : H6 D = some (.lst avs) := e36.holdK D _ (.inr (.inr rfl)) hDa
                obtain ⟨P7, e7, R7, r7⟩ := gc_sound Rh e36 R6 ru
                have e8 := Ext.unhold e7 nz
                have nz8 : ¬ (P7.drop D).Kp D := fun z => z.elim (R7.dj D (e7.Y D (.inr rfl))) fun z => z.2 rfl
                have na8 : D ∉ (P7.drop D).A := fun mm => (R7.fzK D (e7.kp (.inr (.inr rfl)))).2 mm
                have e9 := Ext.rewrite (P := P7.drop D) (ws := avs ++ [u]) D6 nz8
                have ral := ra.length
                refine ⟨avs, D6, by rw [sizeLine_eq]; omega, P7.drop D, _, acc ++ [_], avs ++ [u], hlt, (e3.trans e8).trans e9, R7.drop.rewrite D6 nz8 na8, na8, nz8, upd_same, ((ra.mono e8).mono e9).append (.cons ((RV.drop _ _ r7).mono e9) RVs.nil), by simp; omega, hrest⟩
            · have hie : i = w.items.length := by omega
              subst hie
              rw [List.drop_length] at hrun
              unfold lcLoop at hrun
              split at hrun
              · rename_i hgd
                cases hrun
                refine .inl ⟨wk.stop _ _ _ eh Rh hgd, ?_⟩
                have ea := Ext.adopt (P := P3) (H := H3) (a := D)
                refine h (P3.add D) H3 ((e2.trans e3).trans ea) (R3.adopt hDa na nz ⟨avs, rfl, ra⟩) (.ref D) ⟨D, rfl, ?_⟩
                show (P3.A ++ [D])[L2.length]? = some D
                rw [← R3.len]
                simp
              · cases hrun
        · exact h.elim
/-! ### what changes no more -/
noncomputable def frzM (m : Env' → M PV) : Env' → M PV := fun ρ L => match m ρ L with
  | .ok v L' => .ok (fz L v L').1 (fz L v L').2
  | .exc c f L' => .exc c f L'
  | .stuck => .stuck
theorem frz_weak {K : PySem.W.Frag} {mg : Str → Option Value} {W : WX} {hx : HX} {xs : XSuite} {m : Env' → M PV} : ∀ σ H Q, tI K mg W hx xs (frzM m) σ H Q → tI K mg W hx xs m σ H Q := fun σ H Q ⟨P, L, ρ, l, h⟩ => by
  refine ⟨P, L, ρ, l, ?_⟩
  unfold frzM at h
  cases hm : m ρ L with
  | ok v L' =>
    rw [hm] at h
    intro P1 H1 e1 R1 u ru
    obtain ⟨P2, e2, R2, r2, _⟩ := fz_sound l.R e1 R1 ru
    exact h P2 H1 e2 R2 u r2
  | exc c f L' => rw [hm] at h; exact h
  | stuck => rw [hm] at h; exact h
theorem pi_lc (hc : X.calm = true) (hN : X.N.Nodup) (hi : PIi X W none none k tg iter ms) (ok : BlkOk X.N X.env.scope scope own)
    (hg : ∀ (s : Shared) (H : Hp) (C : Addr) (cl : List (Str × Addr)) (fp : List Addr), PG (Bk X scope s H C cl fp) tg (gTg X.K t))
    (ht : ∀ (s : Shared) (H : Hp) (C : Addr) (cl : List (Str × Addr)) (fp : List Addr), PTs (Bk X scope s H C cl fp) ifs (tIT X.K X.mg W0 none none cond))
    (he : ∀ (s : Shared) (H : Hp) (C : Addr) (cl : List (Str × Addr)) (fp : List Addr), PE (Bk X scope s H C cl fp) elt (tI X.K X.mg W0 none none el)) (hs : ∀ x, foldedSetIterable iter X.env x = pure x) (hin : ∀ i ∈ t.slots, i ∈ own.map (·.2)) :
    PEi X W none none (.ListComp elt [⟨tg, iter, ifs, 0⟩] scope pos) (lcM k t (own.map (·.2)) ms cond el) :=
  (pe_lc (te := tI X.K X.mg W0 none none el) (tt := tIT X.K X.mg W0 none none cond) (g := gTg X.K t) hc hN hi ok hg ht he hs).mpwk (lc_weak hin)
end
end MP

/-! MP 17: what a frame's context says; the caught exception asked; checked expressions. -/
namespace MP
open PySem PySem.Spec PyProof.Rows L2
/-- what the written part says of an own class of exceptions -/
structure ExOne (K : PySem.W.Frag) (mg : Str → Option Value) (T : Tab) (c : String) (fo : Option String) (C : Addr) : Prop where
  gC : mg (Str.ofString c) = some (.ref C)
  kC : PySem.W.keepIn K (.ref C) = true
  s1 : PySem.W.subIn K (.ref C) (.type "BaseException") = some true
  s2 : PySem.W.typeIn K (.ref C) = some (.type "type")
  xf : XfC K C
  cl : (PySem.W.clsIn K C).isSome = true
  ha : PySem.W.findIn K (.ref C) "__class__" = some (some (.builtin "object.__class__"))
  hn : PySem.W.specialIn K (.builtin "object.__class__") "__get__" = some (some (.builtin "getset_descriptor.__get__"))
  ht : PySem.W.takesIn K (.builtin "object.__class__") = some true
  hm : PySem.W.mroIn K C (.type "object") = some true
  nof : ∀ c' n, (c', some n) ∈ T.excs → PySem.W.findIn K (.ref C) (Str.ofString n) = some none
  made : match fo with
    | none => ∃ B newId initId bmB, ExcBaseFacts B newId initId bmB ∧ PySem.W.excIn K C bmB newId = true
    | some _ => OexC K C
  ask : ∀ d o D, (d, o) ∈ T.excs → mg (Str.ofString d) = some (.ref D) → PySem.W.kitOne K (.ref C) (.ref D) = some (T.subs.contains (c, d)) ∧ PySem.W.exmOne K (.ref C) (.ref D) = some (T.subs.contains (c, d))
  askV : PySem.W.kitOne K (.ref C) (.type "ValueError") = some (T.subs.contains (c, "ValueError"))
def ExAll (K : PySem.W.Frag) (mg : Str → Option Value) (T : Tab) : Prop := ∀ c fo, T.excs.lookup c = some fo → ∃ C, ExOne K mg T c fo C
/-- its __init__ may be called here -/
def Inits (X : Cx) (T : Tab) : Prop := ∀ c n C, T.excs.lookup c = some (some n) → X.mg (Str.ofString c) = some (.ref C) → ∃ k fI fd ps, PySem.W.findIn X.K (.ref C) "__init__" = some (some (.ref fI)) ∧ PySem.W.typeIn X.K (.ref fI) = some (.type "function") ∧
  FnOk X.prog X.w X.K X.mg X.base (CXf X.prog X.w) k fI fd ps (initSp X.K (Str.ofString n)) ∧ Room (k + 1) X.A ∧ Binds X.K fd ps []
structure Cfg where
  T : Tab
  N : List Str
  sc : Scope
  calm : Bool
  ei : Option Nat
  wr : List Str
section
open HotX L2H
theorem next_end_hot {prog : Program} {w : World} {A : Around} {E : Value → Shared → Prop} {s : Shared} {it l x1 : Addr} {i : Nat} {items : Array Value} {Q : Option Value → Shared → Prop} (hot : HotAt A x1 s.heap) (ne : x1 ≠ it) (hit : s.heap.IsListIter it l i) (hl : s.heap.IsList l items) (hx : items[i]? = none)
    (hQ : ∀ h', Heap.ExtBut it s.heap h' → Q none { s with heap := h' }) : wpAny (model prog w) A (pyNext (.ref it)) Q E s := by
  obtain ⟨o, ho, hc, hd⟩ := id hit
  obtain ⟨ol, hol, _, nl, hdl⟩ := hl
  obtain ⟨hh, o1, vs1, h1, d1, c1⟩ := hot
  have tI := hit.typeIs
  unfold pyNext
  refine wpAny_bind (wpAny_attempt (wpAny_callSpecial?_slot (name := Str.ofString "__next__") tI slot_listiter_next (wpAny_call_entry slot_listiter_next tI entry_listiter_next ?_ (args_listiter_next _))))
  show wpAny _ _ (field (.ref it) 0 >>= _) _ _ s
  refine wpAny_bind (wpAny_field ho hd (x := .ref l) rfl ?_); show wpAny _ _ (if (Value.ref l == Value.none) = true then _ else _) _ _ s
  rw [if_neg (show ¬ ((Value.ref l == Value.none) = true) from Bool.false_ne_true)]; show wpAny _ _ (field (.ref it) 1 >>= _) _ _ s
  refine wpAny_bind (wpAny_field ho hd (x := .int i 0) rfl ?_); show wpAny _ _ (seqItems? (.ref l) >>= _) _ _ s
  refine wpAny_bind (wpAny_seqItems hol hdl ?_)
  simp only [Int.toNat_natCast, hx]
  refine wpAny_bind (wpAny_rule (wpAny_bind (wpAny_setField ho hd (by simp) ?_))); show wpAny _ _ (newExc (.type "StopIteration") [] >>= _) _ _ _
  refine wpAny_bind ?_
  simp only [newExc, newTuple]
  refine wpAny_bind (wpAny_newObj_type ?_ (by size_fits)); refine wpAny_bind (m := firstArgMember _ _) (wpAny_of_eq (a := Value.none) (by first | rfl | (simp only [firstArgMember]; rfl)) ?_)
  refine wpAny_newObj_type ?_ (by size_fits)
  have hu : ∀ f, (s.heap.update it f).get? x1 = some o1 := fun f => (Heap.get?_update_other _ _ ne.symm).trans h1
  refine raiseNew_hot (x1 := x1) ⟨hh, o1, vs1, Heap.get?_push_of_some _ (Heap.get?_push_of_some _ (hu _)), d1, c1⟩ (Nat.ne_of_lt (Heap.lt_size (Heap.get?_push_of_some _ (hu _)))) (Heap.get?_push_size _ rfl) rfl (by first | (simp; done) | (simp; omega) | (simp only [Array.size_append]; simp; omega)) ?_
  refine wpAny_bind (wpAny_isInstance (T := "StopIteration") (b := true) ⟨_, Heap.get?_update_self _ (Heap.get?_push_size _ rfl) rfl, rfl⟩ isSubtype_stop (wpAny_pure (hQ _ ?_)))
  intro b u hb e
  have hv : ∀ f, (s.heap.update it f).get? b = some u := fun f => (Heap.get?_update_other _ _ hb.symm).trans e
  rw [Heap.get?_update_other _ _ (Nat.ne_of_gt (Heap.lt_size (Heap.get?_push_of_some _ (hv _))))]
  exact Heap.get?_push_of_some _ (Heap.get?_push_of_some _ (hv _))
theorem HotAt.keep {A : Around} {x1 : Addr} {h h' : Heap} (c : HotAt A x1 h) (k : ∀ o, h.get? x1 = some o → h'.get? x1 = some o) : HotAt A x1 h' := by
  obtain ⟨hh, o1, vs1, h1, d1, c1⟩ := c
  exact ⟨hh, o1, vs1, k _ h1, d1, c1⟩
theorem walks_hot {prog : Program} {w : World} {A : Around} {x1 : Addr} (I ax : Addr) (hne : ax ≠ I) (hx : x1 ≠ I) (items : Array Value) :
    Walks prog w A I [I, ax, x1] [I] items.size (fun i v => items[i]? = some v) (fun i h => HotAt A x1 h ∧ h.IsListIter I ax i ∧ h.IsList ax items) where
  sub := fun b hb => by rw [List.mem_singleton.mp hb]; exact List.mem_cons_self ..
  frame := fun i h h' st hk => ⟨HotAt.keep st.1 (fun o e => hk x1 (by simp) o e), st.2.1.at fun o e => hk I (by simp) o e, st.2.2.at fun o e => hk ax (by simp) o e⟩
  item := fun i s Q E hi st hQ => by
    refine wpAny_pyNext_list_item st.2.1 st.2.2 (x := items[i]) (by simp [hi]) (fun h' hit' hs' => hQ _ h' s.toks (by simp [hi]) ⟨HotAt.keep st.1 (fun o e => hs'.extBut x1 o hx e), hit', st.2.2.extBut hs'.extBut hne⟩ ?_)
    exact fun b o hb e => hs'.extBut b o (fun h => hb (by rw [h]; exact List.mem_cons_self ..)) e
  done := fun s Q E st hQ => next_end_hot st.1 hx st.2.1 st.2.2 (by simp) (fun h' he' => hQ h' s.toks (fun b o hb e => he' b o (fun h => hb (by rw [h]; exact List.mem_cons_self ..)) e))
  self := fun _ _ _ _ st hQ => wpAny_pyIter_listiter st.2.1 hQ
theorem cr_anyH {X : Cx} (hc : HotC X) : CallR X (.builtin "any") (rAny X.K) := by
  intro pins s σ H vs us Q I r h
  obtain ⟨a, bs, rfl, hs, q⟩ := h
  obtain ⟨its, rv, hl, _⟩ := I.list hs
  obtain ⟨x1, hot⟩ := hc.at I
  rw [Vals.ref1 r]
  have hb := rv.bls
  have hx : x1 ≠ s.heap.objs.size := by
    obtain ⟨_, _, _, h1, _⟩ := hot
    exact Nat.ne_of_lt (Heap.lt_size h1)
  refine call_any_walk (iter_any hl.isList (fun s₂ e2 st hne => ?_))
  subst e2
  have hot2 : HotAt X.A.in1 x1 (s.heap.push { cls := .type "list_iterator", data := .fields #[.ref a, .int 0 0] }) := HotAt.keep (A := X.A) hot fun o e => Heap.get?_push_of_some _ e
  refine ⟨_, _, _, _, _, _, _, rfl, walks_hot (A := X.A.in1) (x1 := x1) _ a hne hx its.toArray, ⟨hot2, st⟩, truth_bools hb, (fun h' tk hk => ?_)⟩
  refine ⟨.bl _, H, I.kept (fun b o eo => hk b o (fun hmem => ?_) (Heap.get?_push_of_some _ eo)), ?_, q⟩
  · exact absurd ((List.mem_singleton.mp hmem) ▸ Heap.lt_size eo) (Nat.lt_irrefl _)
  · show Value.bool _ = Value.bool _
    rw [← L2.any_range, hb, List.size_toArray, List.length_map]
theorem cb_anyH {X : Cx} (hc : HotC X) : CallR X (.builtin "any") (rF X.K X.mg .any) := by
  intro pins s σ H vs us Q I r h
  obtain ⟨P, L, xs, R, rx, h⟩ := h
  rcases xs with _ | ⟨x, _ | ⟨y, t⟩⟩
  · exact False.elim h
  · obtain ⟨v, rfl, rv⟩ := rx.one
    have h : Post0 X.K X.mg P H (match (seqL L x).bind asBls with
        | some xs => Out.ok (.bl (xs.any id)) L
        | _ => .stuck) (Hand X.K X.mg Q) := h
    split at h
    · rename_i ks hs
      obtain ⟨ys, e1, e2⟩ := Option.bind_eq_some_iff.mp hs
      obtain ⟨a, ws, e, t, p⟩ := R.seqL e1 rv
      rw [asBls_eq e2] at p
      have e3 := p.bls
      subst e e3
      exact cr_anyH hc pins s σ H _ us Q I r ⟨a, ks, rfl, t, h P H Ext.refl R _ rfl⟩
    · exact False.elim h
  · cases x <;> exact False.elim h
end
structure Cok (c : Cfg) (X : Cx) (W : WX) (hx : HX) (xs : XSuite) (cl : String → List PV → M PV) : Prop where
  N : X.N = c.N
  nd : c.N.Nodup
  sc : X.env.scope = c.sc
  calm : c.calm = true → X.calm = true ∧ hx = none ∧ xs = none ∧ c.ei = none
  tk : Tk X W
  units : X.A.units + 200 < cLine
  wr : ∀ x ∈ c.wr, X.fn x = true
  csts : ∀ x v, c.T.csts.lookup x = some v → ∃ u w, X.mg (Str.ofString x) = some u ∧ RelV w u ∧ ∀ P H, RV X.K X.mg P H v w
  free : ∀ x, c.T.free.contains x = true → X.mg (Str.ofString x) = none
  fns : c.calm = true → ∀ f fd, c.T.fns.lookup f = some fd → Callable X c.T cl f fd.kw
  flds : FldAll X.K X.mg c.T
  dcts : DctAll X.K X.mg X.w c.T
  excs : ExAll X.K X.mg c.T
  inits : c.calm = true → Inits X c.T
  hxo : ∀ k f, hx = some (k, f) → (c.T.excs.lookup k).isSome = true ∧ ∀ i a cls d, xs = some (i, a, cls, d) → EC X.mg k cls
  xei : ∀ j a cls d, xs = some (j, a, cls, d) → c.ei = some j
  suite : ∀ i, c.ei = some i → ∃ (X0 : Cx) (a : Addr) (cls : Value) (d : Option Addr) (oe : Obj) (pn : List (Addr × Obj)), xs = some (i, a, cls, d) ∧ X = X0.suite a ((a, oe) :: pn) ∧ L2N.Zn cls d oe ∧ ∃ vs, oe.data = .fields vs
theorem Cok.hot {c : Cfg} {X : Cx} {W : WX} {hx : HX} {xs : XSuite} {cl : String → List PV → M PV} (k : Cok c X W hx xs cl) {i : Nat} (h : c.ei = some i) : L2H.HotC X := by
  obtain ⟨X0, a, cls, d, oe, pn, _, e, z, vs, hv⟩ := k.suite i h
  subst e
  exact ⟨(a, oe), ⟨rfl, vs, hv, z.2.2 vs hv⟩, List.mem_cons_self ..⟩
/-! ### the caught exception -/
section
variable {X : Cx}
def rIsX (K : PySem.W.Frag) (C a : Addr) (d : Option Addr) : List V → Hp → VK → Prop := fun xs H Q => ∃ (c : V) (cv : Value) (b : Bool), xs = [.ref a, c] ∧ (∀ u, RelV c u → u = cv) ∧ (match d with
  | none => True
  | some dd => ∃ fs, H dd = some (.xd fs)) ∧ PySem.W.kitOne K (.ref C) cv = some b ∧ Q (.bl b) H
theorem call_isX {a C : Addr} {d : Option Addr} {oe : Obj} {pn : List (Addr × Obj)} {T : Tab} {k : String} {fo : Option String} (E : ExOne X.K X.mg T k fo C) (hz : Zc (.ref C) d oe) (hf : ∃ vs, oe.data = .fields vs) : CallR (X.suite a ((a, oe) :: pn)) (.builtin "isinstance") (rIsX X.K C a d) := by
  intro pins s σ H xs us Q I r h
  obtain ⟨c, cv, b, rfl, hcv, hd, e, q⟩ := h
  obtain ⟨u1, u2, rfl, r1, r2⟩ := vals2 r
  cases r1
  have ec := hcv _ r2
  subst ec
  obtain ⟨hget, _⟩ := I.pin (a, oe) (List.mem_append.mpr (.inl List.mem_cons_self))
  obtain ⟨vs, hv⟩ := hf
  have J : ∃ od, PySem.W.InstAt s.heap a oe C od := by
    cases d with
    | none =>
      refine ⟨none, hget, hz.1, by unfold PySem.W.notCls; rw [hv] <;> rfl, ?_⟩
      rw [hz.2]
      trivial
    | some dd =>
      obtain ⟨fs, hfs⟩ := hd
      obtain ⟨mA, hns, _⟩ := (show ObjOk X.prog X.w H s.heap dd (.xd fs) from I.hok dd _ hfs)
      obtain ⟨od, ho, _⟩ := lookIn_ns hns
      refine ⟨some od, hget, hz.1, by unfold PySem.W.notCls; rw [hv] <;> rfl, ?_⟩
      rw [hz.2]
      exact ho
  obtain ⟨od, J⟩ := J
  exact PySem.W.kia_one (PySem.W.kitx_exc (od := od) E.cl E.xf.ga E.xf.gg E.s1 E.ha E.hn E.ht E.hm) I.kIn J e (fun z => nomatch z) fun tk => ⟨.bl b, H, I.kept (t' := tk) fun _ _ z => z, rfl, q⟩
end
end MP

/-! MP 18: checked expressions. -/
namespace MP
open PySem PySem.Spec PyProof.Rows L2
def noIf : Expr → Bool
  | .IfExp .. => false
  | _ => true
def noBool : Expr → Bool
  | .BoolOp .. => false
  | _ => true
/-! ### names -/
def plainN (y : Str) : Bool := !(y == ("__debug__" : Str)) && !(y == ("__classdict__" : Str)) && !(y == ("__name__" : Str))
def visOk (c : Cfg) (i : Nat) (y : Str) : Bool := decide (c.N[i]? = some y) && plainN y && (match c.sc.names.lookup y with
  | some .local => true
  | some .cell => true
  | some .free => true
  | _ => false)
def locOk (c : Cfg) (i : Nat) (y : Str) : Bool := decide (c.N[i]? = some y) && (match c.sc.names.lookup y with
  | some .local => true
  | some .cell => c.wr.contains y
  | _ => false)
def gloOk (c : Cfg) (y : Str) : Bool := plainN y && (match c.sc.names.lookup y with
  | some .globalImplicit => true
  | _ => false)
theorem plain_of {y : Str} (h : plainN y = true) : (y == ("__debug__" : Str)) = false ∧ (y == ("__classdict__" : Str)) = false ∧ y ≠ ("__name__" : Str) := by
  unfold plainN at h
  simp only [Bool.and_eq_true, Bool.not_eq_true'] at h
  exact ⟨h.1.1, h.1.2, fun e => by
    have h3 := h.2
    rw [e] at h3
    simp at h3⟩
/-- what a checked expression keeps -/
def Snd (c : Cfg) (x : Ex) (e : Expr) : Prop := ∀ X W hx xs cl, Cok c X W hx xs cl → PEi X W hx xs e (ev c.T cl hx x) ∧ (noIf e = true → PTi X W hx xs e (tr (ev c.T cl hx x))) ∧ (noBool e = false → PWi X W hx xs e (tr (ev c.T cl hx x)))
def SndS (c : Cfg) (x : List Ex) (e : List Expr) : Prop := ∀ X W hx xs cl, Cok c X W hx xs cl → PAi X W hx xs e (evs c.T cl hx x)
section
variable {c : Cfg} {X : Cx} {W : WX} {hx : HX} {xs : XSuite} {cl : String → List PV → M PV}
theorem Cok.vis (k : Cok c X W hx xs cl) {i : Nat} {y : Str} (h : visOk c i y = true) : X.N[i]? = some y ∧ Vis X.env.scope y ∧ (y == ("__debug__" : Str)) = false ∧ (y == ("__classdict__" : Str)) = false := by
  unfold visOk at h
  simp only [Bool.and_eq_true, decide_eq_true_eq] at h
  obtain ⟨⟨h1, h2⟩, h3⟩ := h
  obtain ⟨p1, p2, p3⟩ := plain_of h2
  refine ⟨by rw [k.N]; exact h1, ?_, p1, p2⟩
  unfold Vis
  rw [k.sc]
  split at h3 <;> first
    | exact .inl (by assumption)
    | exact .inr (.inl (by assumption))
    | exact .inr (.inr (by assumption))
    | cases h3
theorem Cok.loc (k : Cok c X W hx xs cl) {i : Nat} {y : Str} (h : locOk c i y = true) : X.N[i]? = some y ∧ Loc X.env.scope y ∧ (X.fn y = true ∨ X.env.scope.names.lookup y = some .local) := by
  unfold locOk at h
  simp only [Bool.and_eq_true, decide_eq_true_eq] at h
  obtain ⟨h1, h3⟩ := h
  refine ⟨by rw [k.N]; exact h1, ?_⟩
  unfold L2.Loc
  rw [k.sc]
  split at h3
  · exact ⟨.inl (by assumption), .inr (by assumption)⟩
  · exact ⟨.inr (by assumption), .inl (k.wr y (by simpa using h3))⟩
  · cases h3
theorem Cok.glo (k : Cok c X W hx xs cl) {y : Str} (h : gloOk c y = true) : Gl X y ∧ (y == ("__debug__" : Str)) = false ∧ y ≠ ("__name__" : Str) := by
  unfold gloOk at h
  rw [Bool.and_eq_true] at h
  obtain ⟨p1, p2, p3⟩ := plain_of h.1
  refine ⟨?_, p1, p3⟩
  show X.env.scope.names.lookup y = some .globalImplicit
  rw [k.sc]
  have h3 := h.2
  split at h3
  · assumption
  · cases h3
theorem Cok.fre (k : Cok c X W hx xs cl) {y : String} (h : c.T.free.contains y = true) : X.mg (Str.ofString y) = none := k.free y h
end
/-- from a value's rule -/
theorem snd_plain {c : Cfg} {x : Ex} {e : Expr} (hb : noBool e = true) (he : noIf e = true → ∀ (env : Env) (whole : Sem Value), isTrue e env whole = (do let v ← whole; standAt e.pos; holding [v] (truthy v)))
    (h : ∀ X W hx xs cl, Cok c X W hx xs cl → PEi X W hx xs e (ev c.T cl hx x)) : Snd c x e := fun X W hx xs cl k =>
  ⟨h X W hx xs cl k, fun hn => pti_truth (h X W hx xs cl k) (he hn X.env), fun hf => by rw [hb] at hf; cases hf⟩
/-! ### one check for each form -/
section
variable {c : Cfg} {rec : Ex → Expr → Bool}
def ckCst (v : PV) : Expr → Bool
  | .Constant .none _ _ => (match v with | .non => true | _ => false)
  | .Constant (.bool b) _ _ => (match v with | .bl b' => b == b' | _ => false)
  | .Constant (.int i) _ _ => (match v with | .int j => decide (i = j) | _ => false)
  | .Constant (.str s) _ _ => (match v with | .str t => decide (s = t) | _ => false)
  | _ => false
theorem snd_cst {v : PV} {e : Expr} (h : ckCst v e = true) : Snd c (.cst v) e := by
  unfold ckCst at h
  split at h
  · split at h
    · exact snd_plain rfl (fun _ _ _ => rfl) fun X W hx xs cl k => pi_cst pe_non fun _ _ => rfl
    · cases h
  · split at h
    · rename_i b _ _ _ b'
      have e : b = b' := by simpa using h
      subst e
      exact snd_plain rfl (fun _ _ _ => rfl) fun X W hx xs cl k => pi_cst pe_bl fun _ _ => rfl
    · cases h
  · split at h
    · have e := of_decide_eq_true h
      subst e
      exact snd_plain rfl (fun _ _ _ => rfl) fun X W hx xs cl k => pi_cst pe_int fun _ _ => rfl
    · cases h
  · split at h
    · have e := of_decide_eq_true h
      subst e
      exact snd_plain rfl (fun _ _ _ => rfl) fun X W hx xs cl k => pi_cst pe_str fun _ _ => rfl
    · cases h
  · cases h
def ckVar (c : Cfg) (i : Nat) : Expr → Bool
  | .Name y _ => visOk c i y
  | _ => false
theorem snd_var {i : Nat} {e : Expr} (h : ckVar c i e = true) : Snd c (.var i) e := by
  unfold ckVar at h
  split at h
  · exact snd_plain rfl (fun _ _ _ => rfl) fun X W hx xs cl k => by
      obtain ⟨h1, h2, h3, h4⟩ := k.vis h
      exact pi_var (pe_var h1 h2 h3 h4)
  · cases h
def ckGlb (c : Cfg) (g : String) : Expr → Bool
  | .Name y _ => decide (y = Str.ofString g) && gloOk c y && (c.T.csts.lookup g).isSome
  | _ => false
theorem snd_glb {g : String} {e : Expr} (h : ckGlb c g e = true) : Snd c (.glb g) e := by
  unfold ckGlb at h
  split at h
  · simp only [Bool.and_eq_true, decide_eq_true_eq] at h
    obtain ⟨⟨h1, h2⟩, h3⟩ := h
    subst h1
    obtain ⟨v, hv⟩ := Option.isSome_iff_exists.mp h3
    refine snd_plain rfl (fun _ _ _ => rfl) fun X W hx xs cl k => ?_
    obtain ⟨g1, g2, _⟩ := k.glo h2
    obtain ⟨u, w, q1, q2, q3⟩ := k.csts g v hv
    have e1 : ev c.T cl hx (.glb g) = fun _ => ret v := by
      funext ρ L
      show (match c.T.csts.lookup g with
        | some v => Out.ok v L
        | none => .stuck) = .ok v L
      rw [hv]
    rw [e1]
    exact pi_cst (pe_glob g1 q1 q2 g2) q3
  · cases h
def ckBin (rec : Ex → Expr → Bool) (o : Bop) (a b : Ex) : Expr → Bool
  | .BinOp l op r _ => decide (op = o.py) && rec a l && rec b r
  | _ => false
variable (hrec : ∀ x e, rec x e = true → Snd c x e)
include hrec
theorem snd_bin {o : Bop} {a b : Ex} {e : Expr} (h : ckBin rec o a b e = true) : Snd c (.bin o a b) e := by
  unfold ckBin at h
  split at h
  · simp only [Bool.and_eq_true, decide_eq_true_eq] at h
    obtain ⟨⟨h1, h2⟩, h3⟩ := h
    subst h1
    exact snd_plain rfl (fun _ _ _ => rfl) fun X W hx xs cl k => pi_op (f := fun _ _ => pure .none) (ob_all o) (hrec _ _ h2 X W hx xs cl k).1 (hrec _ _ h3 X W hx xs cl k).1
  · cases h
omit hrec in
def ckNeg (rec : Ex → Expr → Bool) (a : Ex) : Expr → Bool
  | .UnaryOp .USub e _ => rec a e
  | _ => false
theorem snd_neg {a : Ex} {e : Expr} (h : ckNeg rec a e = true) : Snd c (.neg a) e := by
  unfold ckNeg at h
  split at h
  · exact snd_plain rfl (fun _ _ _ => rfl) fun X W hx xs cl k => pi_neg (hrec _ _ h X W hx xs cl k).1
  · cases h
omit hrec in
def ckNot (rec : Ex → Expr → Bool) (a : Ex) : Expr → Bool
  | .UnaryOp .Not e _ => noIf e && rec a e
  | _ => false
theorem snd_not {a : Ex} {e : Expr} (h : ckNot rec a e = true) : Snd c (.not a) e := by
  unfold ckNot at h
  split at h
  · rw [Bool.and_eq_true] at h
    intro X W hx xs cl k
    obtain ⟨h1, h2, _⟩ := hrec _ _ h.2 X W hx xs cl k
    exact ⟨pi_not h1, fun _ => pti_not (h2 h.1), fun z => by cases z⟩
  · cases h
omit hrec in
def ckCmp (rec : Ex → Expr → Bool) (o : Cop) (a b : Ex) : Expr → Bool
  | .Compare l [op] [r] _ => decide (op = o.py) && rec a l && rec b r && !behindInMarks op r
  | _ => false
theorem snd_cmp {o : Cop} {a b : Ex} {e : Expr} (h : ckCmp rec o a b e = true) : Snd c (.cmp o a b) e := by
  unfold ckCmp at h
  split at h
  · simp only [Bool.and_eq_true, decide_eq_true_eq, Bool.not_eq_true'] at h
    obtain ⟨⟨⟨h1, h2⟩, h3⟩, h4⟩ := h
    subst h1
    intro X W hx xs cl k
    have ha := (hrec _ _ h2 X W hx xs cl k).1
    have hb := (hrec _ _ h3 X W hx xs cl k).1
    exact ⟨pi_cmp (oc_all k.units o) ha hb h4, fun _ => pti_cmp (oc_all k.units o) ha hb h4, fun z => by cases z⟩
  · cases h
omit hrec in
def ckChain (rec : Ex → Expr → Bool) (o o' : Cop) (a b d : Ex) : Expr → Bool
  | .Compare l [op, op'] [r, t] _ => decide (op = o.py) && decide (op' = o'.py) && rec a l && rec b r && rec d t && !lastMarks [op, op'] [r, t]
  | _ => false
theorem snd_chain {o o' : Cop} {a b d : Ex} {e : Expr} (h : ckChain rec o o' a b d e = true) : Snd c (.chain o o' a b d) e := by
  unfold ckChain at h
  split at h
  · simp only [Bool.and_eq_true, decide_eq_true_eq, Bool.not_eq_true'] at h
    obtain ⟨⟨⟨⟨⟨h1, h2⟩, h3⟩, h4⟩, h5⟩, h6⟩ := h
    subst h1 h2
    intro X W hx xs cl k
    have ha := (hrec _ _ h3 X W hx xs cl k).1
    have hb := (hrec _ _ h4 X W hx xs cl k).1
    have hc := (hrec _ _ h5 X W hx xs cl k).1
    exact ⟨pi_chain (oc_all k.units o) (oc_all k.units o') ha hb hc h6, fun _ => pti_chain (oc_all k.units o) (oc_all k.units o') ha hb hc h6, fun z => by cases z⟩
  · cases h
omit hrec in
def ckAnd (rec : Ex → Expr → Bool) (a b : Ex) : Expr → Bool
  | .BoolOp .And (e1 :: e2 :: rest) p => noIf e1 && rec a e1 && rec b (.BoolOp .And (e2 :: rest) p)
  | _ => false
theorem snd_and {a b : Ex} {e : Expr} (h : ckAnd rec a b e = true) : Snd c (.and a b) e := by
  unfold ckAnd at h
  split at h
  · simp only [Bool.and_eq_true] at h
    obtain ⟨⟨h1, h2⟩, h3⟩ := h
    intro X W hx xs cl k
    obtain ⟨a1, a2, _⟩ := hrec _ _ h2 X W hx xs cl k
    obtain ⟨b1, b2, b3⟩ := hrec _ _ h3 X W hx xs cl k
    have w := pwi_and (a2 h1) (b3 rfl)
    exact ⟨pi_and a1 b1, fun _ => w.pt, fun _ => w⟩
  · cases h
omit hrec in
def ckOr (rec : Ex → Expr → Bool) (a b : Ex) : Expr → Bool
  | .BoolOp .Or (e1 :: e2 :: rest) p => noIf e1 && rec a e1 && rec b (.BoolOp .Or (e2 :: rest) p)
  | _ => false
theorem snd_or {a b : Ex} {e : Expr} (h : ckOr rec a b e = true) : Snd c (.or a b) e := by
  unfold ckOr at h
  split at h
  · simp only [Bool.and_eq_true] at h
    obtain ⟨⟨h1, h2⟩, h3⟩ := h
    intro X W hx xs cl k
    obtain ⟨a1, a2, _⟩ := hrec _ _ h2 X W hx xs cl k
    obtain ⟨b1, b2, b3⟩ := hrec _ _ h3 X W hx xs cl k
    have w := pwi_or (a2 h1) (b3 rfl)
    exact ⟨pi_or a1 b1, fun _ => w.pt, fun _ => w⟩
  · cases h
omit hrec in
def ckOne (rec : Ex → Expr → Bool) (x : Ex) : Expr → Bool
  | .BoolOp _ [e1] _ => noIf e1 && rec x e1
  | _ => false
theorem snd_one {x : Ex} {e : Expr} (h : ckOne rec x e = true) : Snd c x e := by
  unfold ckOne at h
  split at h
  · rename_i op e1 p
    simp only [Bool.and_eq_true] at h
    intro X W hx xs cl k
    obtain ⟨a1, a2, _⟩ := hrec _ _ h.2 X W hx xs cl k
    have w : PWi X W hx xs (.BoolOp op [e1] p) (tr (ev c.T cl hx x)) := by
      cases op
      · exact pwi_one_and (a2 h.1)
      · exact pwi_one_or (a2 h.1)
    exact ⟨pe_one a1, fun _ => w.pt, fun _ => w⟩
  · cases h
omit hrec in
def ckIte (rec : Ex → Expr → Bool) (d a b : Ex) : Expr → Bool
  | .IfExp e1 e2 e3 _ => noIf e1 && rec d e1 && rec a e2 && rec b e3
  | _ => false
theorem snd_ite {d a b : Ex} {e : Expr} (h : ckIte rec d a b e = true) : Snd c (.ite d a b) e := by
  unfold ckIte at h
  split at h
  · simp only [Bool.and_eq_true] at h
    obtain ⟨⟨⟨h1, h2⟩, h3⟩, h4⟩ := h
    intro X W hx xs cl k
    exact ⟨pi_ite ((hrec _ _ h2 X W hx xs cl k).2.1 h1) (hrec _ _ h3 X W hx xs cl k).1 (hrec _ _ h4 X W hx xs cl k).1, (fun (z : false = true) => Bool.false_ne_true.elim z), (fun (z : true = false) => Bool.false_ne_true.elim z.symm)⟩
  · cases h
/-! ### lists -/
omit hrec in
def ckL (rec : Ex → Expr → Bool) : List Ex → List Expr → Bool
  | [], [] => true
  | x :: xs, e :: es => noStar e && rec x e && ckL rec xs es
  | _, _ => false
omit hrec in
theorem ckL_star : ∀ {xs : List Ex} {es : List Expr}, ckL rec xs es = true → es.all noStar = true
  | [], [], _ => rfl
  | [], _ :: _, h => by cases h
  | _ :: _, [], h => by cases h
  | x :: xs, e :: es, h => by
    have h' : (noStar e && rec x e && ckL rec xs es) = true := h
    rw [Bool.and_eq_true, Bool.and_eq_true] at h'
    rw [List.all_cons, h'.1.1, ckL_star h'.2]
    rfl
theorem snd_list : ∀ {xs : List Ex} {es : List Expr}, ckL rec xs es = true → SndS c xs es
  | [], [], _ => fun X W hx xs cl k => pai_nil
  | [], _ :: _, h => by cases h
  | _ :: _, [], h => by cases h
  | x :: xs, e :: es, h => fun X W hx ys cl k => by
    have h' : (noStar e && rec x e && ckL rec xs es) = true := h
    rw [Bool.and_eq_true, Bool.and_eq_true] at h'
    exact pai_cons h'.1.1 (hrec _ _ h'.1.2 X W hx ys cl k).1 (snd_list h'.2 X W hx ys cl k)
omit hrec in
def ckTup (rec : Ex → Expr → Bool) (xs : List Ex) : Expr → Bool
  | .Tuple es _ _ => ckL rec xs es
  | _ => false
theorem snd_tup {ys : List Ex} {e : Expr} (h : ckTup rec ys e = true) : Snd c (.tup ys) e := by
  unfold ckTup at h
  split at h
  · exact snd_plain rfl (fun _ _ _ => rfl) fun X W hx xs cl k => pi_tup (snd_list hrec h X W hx xs cl k)
  · cases h
omit hrec in
def ckLst (rec : Ex → Expr → Bool) (xs : List Ex) : Expr → Bool
  | .List es _ => ckL rec xs es
  | _ => false
theorem snd_lst {ys : List Ex} {e : Expr} (h : ckLst rec ys e = true) : Snd c (.lst ys) e := by
  unfold ckLst at h
  split at h
  · exact snd_plain rfl (fun _ _ _ => rfl) fun X W hx xs cl k => pi_lst (snd_list hrec h X W hx xs cl k)
  · cases h
/-! ### subscripts -/
omit hrec in
def plainIx : Expr → Bool
  | .Slice .. => false
  | _ => true
omit hrec in
theorem plainIx_of {b : Expr} (h : plainIx b = true) : PlainIx b := by
  intro o i
  cases b <;> first
    | rfl
    | cases h
omit hrec in
def ckIdx (rec : Ex → Expr → Bool) (a b : Ex) : Expr → Bool
  | .Subscript e s _ => plainIx s && rec a e && rec b s
  | _ => false
theorem snd_idx {a b : Ex} {e : Expr} (h : ckIdx rec a b e = true) : Snd c (.idx a b) e := by
  unfold ckIdx at h
  split at h
  · simp only [Bool.and_eq_true] at h
    obtain ⟨⟨h1, h2⟩, h3⟩ := h
    exact snd_plain rfl (fun _ _ _ => rfl) fun X W hx xs cl k => pi_ix (hrec _ _ h2 X W hx xs cl k).1 (hrec _ _ h3 X W hx xs cl k).1 (plainIx_of h1)
  · cases h
omit hrec in
def ckO (rec : Ex → Expr → Bool) : Option Ex → Option Expr → Bool
  | none, none => true
  | some x, some e => rec x e
  | _, _ => false
theorem snd_o {x : Option Ex} {e : Option Expr} (h : ckO rec x e = true) : ∀ X W hx xs cl, Cok c X W hx xs cl → POi X W hx xs e (evo c.T cl hx x) := by
  intro X W hx xs cl k
  cases x <;> cases e <;> first
    | exact poi_none
    | cases h
    | exact poi_some (hrec _ _ h X W hx xs cl k).1
omit hrec in
def ckSlc (rec : Ex → Expr → Bool) (a : Ex) (lo hi : Option Ex) : Expr → Bool
  | .Subscript e (.Slice l h none _) _ => rec a e && ckO rec lo l && ckO rec hi h
  | _ => false
theorem snd_slc {a : Ex} {lo hi : Option Ex} {e : Expr} (h : ckSlc rec a lo hi e = true) : Snd c (.slc a lo hi) e := by
  unfold ckSlc at h
  split at h
  · simp only [Bool.and_eq_true] at h
    obtain ⟨⟨h1, h2⟩, h3⟩ := h
    exact snd_plain rfl (fun _ _ _ => rfl) fun X W hx xs cl k => pi_slc (hrec _ _ h1 X W hx xs cl k).1 (snd_o hrec h2 X W hx xs cl k) (snd_o hrec h3 X W hx xs cl k)
  · cases h
omit hrec in
def ckRev (rec : Ex → Expr → Bool) (a : Ex) : Expr → Bool
  | .Subscript e (.Slice none none (some z) _) _ => rec a e && rec (.neg (.cst (.int 1))) z
  | _ => false
theorem snd_rev {a : Ex} {e : Expr} (h : ckRev rec a e = true) : Snd c (.rev a) e := by
  unfold ckRev at h
  split at h
  · rw [Bool.and_eq_true] at h
    exact snd_plain rfl (fun _ _ _ => rfl) fun X W hx xs cl k => pi_rev (hrec _ _ h.1 X W hx xs cl k).1 (hrec _ _ h.2 X W hx xs cl k).1
  · cases h
/-! ### calls -/
omit hrec in
def kwNo (c : Cfg) (f : String) : Bool := match c.T.fns.lookup f with
  | some fd => fd.kw.isNone
  | none => false
omit hrec in
theorem kwNo_of {c : Cfg} {f : String} (h : kwNo c f = true) : ∃ fd, c.T.fns.lookup f = some fd ∧ fd.kw = none := by
  unfold kwNo at h
  split at h
  · exact ⟨_, by assumption, Option.isNone_iff_eq_none.mp h⟩
  · cases h
omit hrec in
def ckCallk (rec : Ex → Expr → Bool) (c : Cfg) (f k : String) (xs : List Ex) (x : Ex) : Expr → Bool
  | .Call (.Name y _) (e :: es) [⟨some kn, ek, _⟩] _ => c.calm && decide (y = Str.ofString f) && gloOk c y && decide (kn = Str.ofString k) && (match c.T.fns.lookup f with
    | some fd => decide (fd.kw = some k)
    | none => false) && (c.T.mts.lookup f).isNone && ckL rec xs (e :: es) && rec x ek
  | _ => false
theorem snd_callk {f kn : String} {ys : List Ex} {x : Ex} {e : Expr} (h : ckCallk rec c f kn ys x e = true) : Snd c (.callk f kn ys x) e := by
  unfold ckCallk at h
  split at h
  · simp only [Bool.and_eq_true, decide_eq_true_eq] at h
    obtain ⟨⟨⟨⟨⟨⟨⟨h1, h2⟩, h3⟩, hn⟩, h4⟩, hl⟩, h5⟩, h6⟩ := h
    have hl := Option.isNone_iff_eq_none.mp hl
    subst h2 hn
    refine snd_plain rfl (fun _ _ _ => rfl) fun X W hx xs cl k => ?_
    split at h4
    · rename_i fd hfd
      have hkw := of_decide_eq_true h4
      obtain ⟨g1, g2, _⟩ := k.glo h3
      exact pi_callk k.tk (hkw ▸ k.fns h1 f fd hfd) hl g1 g2 (snd_list hrec h5 X W hx xs cl k) (hrec _ _ h6 X W hx xs cl k).1 (ckL_star h5)
    · cases h4
  · cases h
omit hrec in
def ckCall (rec : Ex → Expr → Bool) (c : Cfg) (f : String) (xs : List Ex) : Expr → Bool
  | .Call (.Name y _) es [] _ => c.calm && decide (y = Str.ofString f) && gloOk c y && kwNo c f && (c.T.mts.lookup f).isNone && ckL rec xs es
  | _ => false
theorem snd_call {f : String} {ys : List Ex} {e : Expr} (h : ckCall rec c f ys e = true) : Snd c (.call f ys) e := by
  unfold ckCall at h
  split at h
  · rename_i y p es pos
    simp only [Bool.and_eq_true, decide_eq_true_eq] at h
    obtain ⟨⟨⟨⟨⟨h1, h2⟩, h3⟩, h4⟩, hl⟩, h5⟩ := h
    have hl := Option.isNone_iff_eq_none.mp hl
    subst h2
    refine snd_plain rfl (fun _ _ _ => rfl) fun X W hx xs cl k => ?_
    obtain ⟨fd, hfd, hkw⟩ := kwNo_of h4
    obtain ⟨g1, g2, _⟩ := k.glo h3
    have F := hkw ▸ k.fns h1 f fd hfd
    cases es with
    | nil =>
      cases ys with
      | nil => exact pi_call0 k.tk F hl g1 g2
      | cons _ _ => cases h5
    | cons e es => exact pi_call k.tk F hl g1 g2 (snd_list hrec h5 X W hx xs cl k) (ckL_star h5)
  · cases h
/-! ### own classes -/
omit hrec in
def ckFld (rec : Ex → Expr → Bool) (x : Ex) (f : String) : Expr → Bool
  | .Attribute e nm _ => decide (nm = Str.ofString f) && rec x e && baseOk e
  | _ => false
theorem snd_fld {x : Ex} {f : String} {e : Expr} (h : ckFld rec x f e = true) : Snd c (.fld x f) e := by
  unfold ckFld at h
  split at h
  · simp only [Bool.and_eq_true, decide_eq_true_eq] at h
    obtain ⟨⟨h1, h2⟩, h3⟩ := h
    subst h1
    exact snd_plain rfl (fun _ _ _ => rfl) fun X W hx xs cl k => pi_fld k.flds h3 (hrec _ _ h2 X W hx xs cl k).1
  · cases h
omit hrec in
def ckNew (rec : Ex → Expr → Bool) (c : Cfg) (key cn : String) (xs : List Ex) : Expr → Bool
  | .Call (.Name y _) (e :: es) [] _ => c.calm && decide (y = Str.ofString cn) && gloOk c y && kwNo c key && decide (c.T.mts.lookup key = some (cn, "__init__")) && ckL rec xs (e :: es)
  | _ => false
theorem snd_new {key cn : String} {ys : List Ex} {e : Expr} (h : ckNew rec c key cn ys e = true) : Snd c (.new key cn ys) e := by
  unfold ckNew at h
  split at h
  · simp only [Bool.and_eq_true, decide_eq_true_eq] at h
    obtain ⟨⟨⟨⟨⟨h1, h2⟩, h3⟩, h4⟩, hl⟩, h5⟩ := h
    subst h2
    refine snd_plain rfl (fun _ _ _ => rfl) fun X W hx xs cl k => ?_
    obtain ⟨fd, hfd, hkw⟩ := kwNo_of h4
    obtain ⟨g1, g2, _⟩ := k.glo h3
    exact pi_new k.tk (hkw ▸ k.fns h1 key fd hfd) hl g1 g2 (snd_list hrec h5 X W hx xs cl k) (ckL_star h5)
  · cases h
omit hrec in
def ckMtc (rec : Ex → Expr → Bool) (c : Cfg) (key cn m : String) (o : Ex) (xs : List Ex) : Expr → Bool
  | .Call (.Attribute e nm ap) es [] cp => c.calm && decide (nm = Str.ofString m) && kwNo c key && decide (c.T.mts.lookup key = some (cn, m)) && rec o e && ckL rec xs es && baseOk e && (ap.endLine == cp.line) && decide (es.length < 30)
  | _ => false
theorem snd_mtc {key cn m : String} {o : Ex} {ys : List Ex} {e : Expr} (h : ckMtc rec c key cn m o ys e = true) : Snd c (.mtc key cn m o ys) e := by
  unfold ckMtc at h
  split at h
  · rename_i e nm ap es cp
    simp only [Bool.and_eq_true, decide_eq_true_eq] at h
    obtain ⟨⟨⟨⟨⟨⟨⟨⟨h1, h2⟩, h4⟩, hl⟩, h3⟩, h5⟩, h6⟩, h7⟩, h8⟩ := h
    subst h2
    refine snd_plain rfl (fun _ _ _ => rfl) fun X W hx xs cl k => ?_
    obtain ⟨fd, hfd, hkw⟩ := kwNo_of h4
    have F := hkw ▸ k.fns h1 key fd hfd
    cases es with
    | nil =>
      cases ys with
      | nil => exact pi_mtc0 k.tk F hl (hrec _ _ h3 X W hx xs cl k).1 (eval_method (base_of h6) rfl (by decide) h7)
      | cons _ _ => cases h5
    | cons e es => exact pi_mtc k.tk F hl (hrec _ _ h3 X W hx xs cl k).1 (snd_list hrec h5 X W hx xs cl k) (ckL_star h5) (eval_method (base_of h6) (ckL_star h5) h8 h7)
  · cases h
omit hrec in
def ckDin (rec : Ex → Expr → Bool) (c : Cfg) (neg : Bool) (d : String) (x : Ex) : Expr → Bool
  | .Compare l [op] [.Name y _] _ => decide (op = dOp neg) && decide (y = Str.ofString d) && gloOk c y && (c.T.dcts.lookup d).isSome && rec x l
  | _ => false
theorem snd_din {neg : Bool} {d : String} {x : Ex} {e : Expr} (h : ckDin rec c neg d x e = true) : Snd c (.din neg d x) e := by
  unfold ckDin at h
  split at h
  · simp only [Bool.and_eq_true, decide_eq_true_eq] at h
    obtain ⟨⟨⟨⟨h1, h2⟩, h3⟩, h4⟩, h5⟩ := h
    subst h1 h2
    intro X W hx xs cl k
    obtain ⟨kvs, hk⟩ := Option.isSome_iff_exists.mp h4
    obtain ⟨g1, g2, _⟩ := k.glo h3
    obtain ⟨p, es, n, q1, D, hf⟩ := k.dcts d kvs hk
    have ha := (hrec _ _ h5 X W hx xs cl k).1
    exact ⟨pi_din D hk hf ha (pe_glob (v := V.ref p) g1 q1 rfl g2) rfl, fun _ => pti_din D hk hf ha (pe_glob (v := V.ref p) g1 q1 rfl g2) rfl, fun z => by cases z⟩
  · cases h
omit hrec in
def ckDix (rec : Ex → Expr → Bool) (c : Cfg) (d : String) (x : Ex) : Expr → Bool
  | .Subscript (.Name y _) s _ => decide (y = Str.ofString d) && gloOk c y && (c.T.dcts.lookup d).isSome && plainIx s && rec x s
  | _ => false
theorem snd_dix {d : String} {x : Ex} {e : Expr} (h : ckDix rec c d x e = true) : Snd c (.dix d x) e := by
  unfold ckDix at h
  split at h
  · simp only [Bool.and_eq_true, decide_eq_true_eq] at h
    obtain ⟨⟨⟨⟨h2, h3⟩, h4⟩, h6⟩, h5⟩ := h
    subst h2
    refine snd_plain rfl (fun _ _ _ => rfl) fun X W hx xs cl k => ?_
    obtain ⟨kvs, hk⟩ := Option.isSome_iff_exists.mp h4
    obtain ⟨g1, g2, _⟩ := k.glo h3
    obtain ⟨p, es, n, q1, D, hf⟩ := k.dcts d kvs hk
    exact pi_dix D hk hf (hrec _ _ h5 X W hx xs cl k).1 (pe_glob (v := V.ref p) g1 q1 rfl g2) (plainIx_of h6)
  · cases h
omit hrec in
def ckRg (rec : Ex → Expr → Bool) (c : Cfg) (lit : Bool) (xs : List Ex) (e : Expr) : Bool := match lit, xs with
  | true, [x] => (match e with
    | .Call (.Name y _) [a] [] _ => decide (y = ("range" : Str)) && gloOk c y && c.T.free.contains "range" && noStar a && rec x a
    | _ => false)
  | true, [x, x2] => (match e with
    | .Call (.Name y _) [a, b] [] _ => decide (y = ("range" : Str)) && gloOk c y && c.T.free.contains "range" && noStar a && noStar b && rec x a && rec x2 b
    | _ => false)
  | false, [x] => rec x e
  | _, _ => false
theorem snd_rg {lit : Bool} {ys : List Ex} {e : Expr} (h : ckRg rec c lit ys e = true) {X : Cx} {W : WX} {hx : HX} {xs : XSuite} {cl : String → List PV → M PV} (k : Cok c X W hx xs cl) : PRgi X W hx xs e (fun ρ => bnd (evs c.T cl hx ys ρ) (rgP lit)) := by
  unfold ckRg at h
  split at h
  · split at h
    · simp only [Bool.and_eq_true, decide_eq_true_eq] at h
      obtain ⟨⟨⟨⟨h1, h2⟩, h3⟩, h4⟩, h5⟩ := h
      subst h1
      exact prgi_1 (k.glo h2).1 (k.fre h3) (hrec _ _ h5 X W hx xs cl k).1 h4
    · cases h
  · split at h
    · simp only [Bool.and_eq_true, decide_eq_true_eq] at h
      obtain ⟨⟨⟨⟨⟨⟨h1, h2⟩, h3⟩, h4⟩, h5⟩, h6⟩, h7⟩ := h
      subst h1
      exact prgi_2 (k.glo h2).1 (k.fre h3) (hrec _ _ h6 X W hx xs cl k).1 (hrec _ _ h7 X W hx xs cl k).1 h4 h5
    · cases h
  · exact prgi_v (hrec _ _ h X W hx xs cl k).1
  · cases h
omit hrec in
def ckRgc (rec : Ex → Expr → Bool) (c : Cfg) (tup lit : Bool) (xs : List Ex) : Expr → Bool
  | .Call (.Name y _) [e] [] _ => c.calm && decide (y = (if tup = true then ("tuple" : Str) else ("list" : Str))) && gloOk c y && c.T.free.contains (if tup = true then "tuple" else "list") && noStar e && ckRg rec c lit xs e
  | _ => false
theorem snd_rgc {tup lit : Bool} {ys : List Ex} {e : Expr} (h : ckRgc rec c tup lit ys e = true) : Snd c (.rgc tup lit ys) e := by
  unfold ckRgc at h
  split at h
  · simp only [Bool.and_eq_true, decide_eq_true_eq] at h
    obtain ⟨⟨⟨⟨⟨h1, h2⟩, h3⟩, h4⟩, h5⟩, h6⟩ := h
    subst h2
    refine snd_plain rfl (fun _ _ _ => rfl) fun X W hx xs cl k => ?_
    cases tup with
    | true => exact pi_rgcT (k.calm h1).1 (k.glo h3).1 (k.fre h4) (snd_rg hrec h6 k) h5
    | false => exact pi_rgcL (k.calm h1).1 (k.glo h3).1 (k.fre h4) (snd_rg hrec h6 k) h5
  · cases h
omit hrec in
def ckRgv (rec : Ex → Expr → Bool) (c : Cfg) : List Ex → Expr → Bool
  | [x], .Call (.Name y _) [a] [] _ => decide (y = ("range" : Str)) && gloOk c y && c.T.free.contains "range" && noStar a && rec x a
  | _, _ => false
theorem snd_rgv {ys : List Ex} {e : Expr} (h : ckRgv rec c ys e = true) : Snd c (.rgv ys) e := by
  unfold ckRgv at h
  split at h
  · simp only [Bool.and_eq_true, decide_eq_true_eq] at h
    obtain ⟨⟨⟨⟨h1, h2⟩, h3⟩, h4⟩, h5⟩ := h
    subst h1
    exact snd_plain rfl (fun _ _ _ => rfl) fun X W hx xs cl k => pi_rgv (k.glo h2).1 (k.fre h3) (hrec _ _ h5 X W hx xs cl k).1 h4
  · cases h
omit hrec in
def ckOpm (rec : Ex → Expr → Bool) (c : Cfg) (key cn m : String) (o : Ex) (xs : List Ex) : Expr → Bool
  | .BinOp a op b _ => c.calm && kwNo c key && decide (c.T.mts.lookup key = some (cn, m)) && rec o a && (match xs with
    | [x] => rec x b
    | _ => false) && decide (dunOf op = some m) && decide (m ≠ "__call__")
  | .UnaryOp .Invert a _ => c.calm && kwNo c key && decide (c.T.mts.lookup key = some (cn, m)) && rec o a && xs.isEmpty && decide (m = "__invert__")
  | .Call (.Name f p) (e :: es) [] _ => c.calm && kwNo c key && decide (c.T.mts.lookup key = some (cn, m)) && rec o (.Name f p) && ckL rec xs (e :: es) && decide (m = "__call__")
  | _ => false
theorem snd_opm {key cn m : String} {o : Ex} {ys : List Ex} {e : Expr} (h : ckOpm rec c key cn m o ys e = true) : Snd c (.opm key cn m o ys) e := by
  unfold ckOpm at h
  split at h
  · rename_i a op b pos
    simp only [Bool.and_eq_true, decide_eq_true_eq] at h
    obtain ⟨⟨⟨⟨⟨⟨h1, h4⟩, hl⟩, h3⟩, h5⟩, h6⟩, h7⟩ := h
    refine snd_plain rfl (fun _ _ _ => rfl) fun X W hx xs cl k => ?_
    obtain ⟨fd, hfd, hkw⟩ := kwNo_of h4
    have F := hkw ▸ k.fns h1 key fd hfd
    split at h5
    · exact pi_bin k.tk F hl h6 h7 (hrec _ _ h3 X W hx xs cl k).1 (hrec _ _ h5 X W hx xs cl k).1
    · cases h5
  · rename_i a pos
    simp only [Bool.and_eq_true, decide_eq_true_eq] at h
    obtain ⟨⟨⟨⟨⟨h1, h4⟩, hl⟩, h3⟩, h5⟩, h6⟩ := h
    subst h6
    refine snd_plain rfl (fun _ _ _ => rfl) fun X W hx xs cl k => ?_
    obtain ⟨fd, hfd, hkw⟩ := kwNo_of h4
    have F := hkw ▸ k.fns h1 key fd hfd
    cases ys with
    | nil => exact pi_inv k.tk F hl (hrec _ _ h3 X W hx xs cl k).1
    | cons _ _ => cases h5
  · rename_i f p e es pos
    simp only [Bool.and_eq_true, decide_eq_true_eq] at h
    obtain ⟨⟨⟨⟨⟨h1, h4⟩, hl⟩, h3⟩, h5⟩, h6⟩ := h
    subst h6
    refine snd_plain rfl (fun _ _ _ => rfl) fun X W hx xs cl k => ?_
    obtain ⟨fd, hfd, hkw⟩ := kwNo_of h4
    have F := hkw ▸ k.fns h1 key fd hfd
    exact pi_cal k.tk F hl (hrec _ _ h3 X W hx xs cl k).1 (snd_list hrec h5 X W hx xs cl k) (ckL_star h5) rfl
  · cases h
omit hrec in
def Blt.cold : Blt → Bool
  | .max => true | .min => true | .sum => true | .any => true | .all => true | .list => true
  | _ => false
omit hrec in
def Blt.val : Blt → Value
  | .len => .builtin "len" | .int => .type "int" | .str => .type "str" | .tuple => .type "tuple" | .list => .type "list" | .max => .builtin "max" | .min => .builtin "min" | .sum => .builtin "sum" | .sorted => .builtin "sorted" | .any => .builtin "any" | .all => .builtin "all"
omit hrec in
theorem Blt.boot (b : Blt) : bootBuiltins (Str.ofString b.name) = some b.val := by
  cases b
  · exact Boot.«len»
  · exact Boot.«int»
  · exact Boot.«str»
  · exact Boot.«tuple»
  · exact Boot.«list»
  · exact Boot.«max»
  · exact Boot.«min»
  · exact Boot.«sum»
  · exact Boot.«sorted»
  · exact Boot.«any»
  · exact Boot.«all»
omit hrec in
theorem Blt.call {X : Cx} (b : Blt) (h : b.cold = true → X.calm = true) : CallR X b.val (rF X.K X.mg b) := by
  cases b
  · exact cb_len
  · exact cb_int
  · exact cb_str
  · exact cb_tuple
  · exact cb_list (h rfl)
  · exact cb_max (h rfl)
  · exact cb_min (h rfl)
  · exact cb_sum (h rfl)
  · exact cb_sorted
  · exact cb_any (h rfl)
  · exact cb_all (h rfl)
omit hrec in
theorem Blt.kind (b : Blt) : (∃ id, b.val = .builtin id) ∨ ∃ T, b.val = .type T := by
  cases b <;> first
    | exact .inl ⟨_, rfl⟩
    | exact .inr ⟨_, rfl⟩
omit hrec in
def ckBlt (rec : Ex → Expr → Bool) (c : Cfg) (b : Blt) (xs : List Ex) : Expr → Bool
  | .Call (.Name y _) (e :: es) [] _ => (c.calm || !b.cold || (decide (b = .any) && c.ei.isSome)) && decide (y = Str.ofString b.name) && gloOk c y && c.T.free.contains b.name && ckL rec xs (e :: es)
  | _ => false
theorem snd_blt {b : Blt} {ys : List Ex} {e : Expr} (h : ckBlt rec c b ys e = true) : Snd c (.blt b ys) e := by
  unfold ckBlt at h
  split at h
  · simp only [Bool.and_eq_true, decide_eq_true_eq] at h
    obtain ⟨⟨⟨⟨h1, h2⟩, h3⟩, h4⟩, h5⟩ := h
    subst h2
    refine snd_plain rfl (fun _ _ _ => rfl) fun X W hx xs cl k => ?_
    obtain ⟨g1, g2, g3⟩ := k.glo h3
    have hcall : CallR X b.val (rF X.K X.mg b) := by
      by_cases hz : b = .any ∧ c.ei.isSome = true
      · obtain ⟨rfl, hz⟩ := hz
        obtain ⟨i, hi⟩ := Option.isSome_iff_exists.mp hz
        exact cb_anyH (k.hot hi)
      · refine b.call fun hc => (k.calm ?_).1
        rw [hc] at h1
        cases hq : c.calm with
        | true => rfl
        | false =>
          rw [hq] at h1
          exact absurd (by simpa using h1) hz
    exact pi_blt hcall b.kind g1 (k.fre h4) b.boot (snd_list hrec h5 X W hx xs cl k) g3 g2 (ckL_star h5)
  · cases h
omit hrec in
def ckMet (rec : Ex → Expr → Bool) (m : Mth) (o : Ex) (xs : List Ex) : Expr → Bool
  | .Call (.Attribute e nm ap) es [] cp => decide (nm = Str.ofString m.name) && rec o e && ckL rec xs es && baseOk e && (ap.endLine == cp.line) && decide (es.length < 30)
  | _ => false
theorem snd_met {m : Mth} {o : Ex} {ys : List Ex} {e : Expr} (h : ckMet rec m o ys e = true) : Snd c (.met m o ys) e := by
  unfold ckMet at h
  split at h
  · rename_i e nm ap es cp
    simp only [Bool.and_eq_true, decide_eq_true_eq] at h
    obtain ⟨⟨⟨⟨⟨h1, h2⟩, h3⟩, h4⟩, h5⟩, h6⟩ := h
    subst h1
    refine snd_plain rfl (fun _ _ _ => rfl) fun X W hx xs cl k => ?_
    have ho := (hrec _ _ h2 X W hx xs cl k).1
    cases es with
    | nil =>
      cases ys with
      | nil => exact pi_met0 ho h4 h5
      | cons _ _ => cases h3
    | cons e es => exact pi_met ho (snd_list hrec h3 X W hx xs cl k) h4 (ckL_star h3) h6 h5
  · cases h
omit hrec in
def ckSst (rec : Ex → Expr → Bool) (c : Cfg) (x : Ex) : Expr → Bool
  | .Call (.Name y _) [.Call (.Name z _) [a] [] _] [] _ => c.calm && decide (y = ("sorted" : Str)) && decide (z = ("set" : Str)) && gloOk c y && gloOk c z && c.T.free.contains "sorted" && c.T.free.contains "set" && noStar a && rec x a
  | _ => false
theorem snd_sst {x : Ex} {e : Expr} (h : ckSst rec c x e = true) : Snd c (.sst x) e := by
  unfold ckSst at h
  split at h
  · simp only [Bool.and_eq_true, decide_eq_true_eq] at h
    obtain ⟨⟨⟨⟨⟨⟨⟨⟨h1, h2⟩, h3⟩, h4⟩, h5⟩, h6⟩, h7⟩, h8⟩, h9⟩ := h
    subst h2 h3
    exact snd_plain rfl (fun _ _ _ => rfl) fun X W hx xs cl k => pi_sst (k.calm h1).1 (k.glo h4).1 (k.fre h6) (k.glo h5).1 (k.fre h7) (hrec _ _ h9 X W hx xs cl k).1 h8
  · cases h
omit hrec in
def ckIsi (rec : Ex → Expr → Bool) (c : Cfg) (a : Ex) (t : ITy) : Expr → Bool
  | .Call (.Name y _) [e, .Name z _] [] _ => decide (y = ("isinstance" : Str)) && decide (z = Str.ofString t.name) && gloOk c y && gloOk c z && c.T.free.contains "isinstance" && c.T.free.contains t.name && noStar e && rec a e
  | _ => false
theorem snd_isi {a : Ex} {t : ITy} {e : Expr} (h : ckIsi rec c a t e = true) : Snd c (.isi a t) e := by
  unfold ckIsi at h
  split at h
  · simp only [Bool.and_eq_true, decide_eq_true_eq] at h
    obtain ⟨⟨⟨⟨⟨⟨⟨h1, h2⟩, h3⟩, h4⟩, h5⟩, h6⟩, h7⟩, h8⟩ := h
    subst h1 h2
    refine snd_plain rfl (fun _ _ _ => rfl) fun X W hx xs cl k => ?_
    exact pi_isi (x := "isinstance") (y := "isinstance") (k.glo h3).1 (k.fre h5) (k.glo h4).1 (k.fre h6) h7 (hrec _ _ h8 X W hx xs cl k).1
  · cases h
end
end MP

/-! MP 19: checked comprehensions, the caught exception, all expressions. -/
namespace MP
open PySem PySem.Spec PyProof.Rows L2
/-! ### what is walked -/
def notSet : Expr → Bool
  | .Set .. => false
  | _ => true
theorem folded_of {e : Expr} {env : Env} (h : notSet e = true) : ∀ x, foldedSetIterable e env x = pure x := by
  intro x
  cases e <;> first
    | rfl
    | cases h
def SndI (c : Cfg) (k : ItK) (xs : List Ex) (e : Expr) : Prop := ∀ X W hx ys cl, Cok c X W hx ys cl → ∀ tg, PIi X W hx ys k tg e (evs c.T cl hx xs)
def ckIter (rec : Ex → Expr → Bool) (c : Cfg) (k : ItK) (xs : List Ex) (e : Expr) : Bool := match k, xs with
  | .val, [x] => rec x e
  | .range, [x] => (match e with
    | .Call (.Name y _) [a] [] _ => decide (y = ("range" : Str)) && gloOk c y && c.T.free.contains "range" && noStar a && rec x a
    | _ => false)
  | .range, [x, x2] => (match e with
    | .Call (.Name y _) [a, b] [] _ => decide (y = ("range" : Str)) && gloOk c y && c.T.free.contains "range" && noStar a && noStar b && rec x a && rec x2 b
    | _ => false)
  | .range, [x, x2, x3] => (match e with
    | .Call (.Name y _) [a, b, d] [] _ => decide (y = ("range" : Str)) && gloOk c y && c.T.free.contains "range" && noStar a && noStar b && noStar d && rec x a && rec x2 b && rec x3 d
    | _ => false)
  | _, _ => false
theorem snd_iter {c : Cfg} {rec : Ex → Expr → Bool} (hrec : ∀ x e, rec x e = true → Snd c x e) {k : ItK} {xs : List Ex} {e : Expr} (h : ckIter rec c k xs e = true) : SndI c k xs e := by
  unfold ckIter at h
  split at h
  · exact fun X W hx ys cl k tg => it_val (hrec _ _ h X W hx ys cl k).1
  · split at h
    · simp only [Bool.and_eq_true, decide_eq_true_eq] at h
      obtain ⟨⟨⟨⟨h1, h2⟩, h3⟩, h4⟩, h5⟩ := h
      subst h1
      exact fun X W hx ys cl k tg => it_range1 (k.glo h2).1 (k.fre h3) (hrec _ _ h5 X W hx ys cl k).1 h4
    · cases h
  · split at h
    · simp only [Bool.and_eq_true, decide_eq_true_eq] at h
      obtain ⟨⟨⟨⟨⟨⟨h1, h2⟩, h3⟩, h4⟩, h5⟩, h6⟩, h7⟩ := h
      subst h1
      exact fun X W hx ys cl k tg => it_range2 (k.glo h2).1 (k.fre h3) (hrec _ _ h6 X W hx ys cl k).1 (hrec _ _ h7 X W hx ys cl k).1 h4 h5
    · cases h
  · split at h
    · simp only [Bool.and_eq_true, decide_eq_true_eq] at h
      obtain ⟨⟨⟨⟨⟨⟨⟨⟨h1, h2⟩, h3⟩, h4⟩, h5⟩, h5'⟩, h6⟩, h7⟩, h8⟩ := h
      subst h1
      exact fun X W hx ys cl k tg => it_range3 (k.glo h2).1 (k.fre h3) (hrec _ _ h6 X W hx ys cl k).1 (hrec _ _ h7 X W hx ys cl k).1 (hrec _ _ h8 X W hx ys cl k).1 h4 h5 h5'
    · cases h
  · cases h
/-! ### targets -/
def ckMany (c : Cfg) : List Nat → List Expr → Bool
  | [], [] => true
  | i :: is, .Name y _ :: es => locOk c i y && ckMany c is es
  | _, _ => false
def ckTg (c : Cfg) : Tg → Expr → Bool
  | .one i, .Name y _ => locOk c i y
  | .many is, .Tuple es _ _ => c.calm && ckMany c is es
  | _, _ => false
theorem pgs_of {c : Cfg} {X : Cx} {W : WX} {hx : HX} {ys : XSuite} {cl : String → List PV → M PV} (k : Cok c X W hx ys cl) : ∀ {is : List Nat} {es : List Expr}, ckMany c is es = true → PGs X es (gMany is) ∧ (assignEach es X.env).length = is.length ∧ (assignEach es X.env).findIdx? (·.1) = none
  | [], [], _ => ⟨pgs_nil, rfl, rfl⟩
  | i :: is, e :: es, h => by
    cases e <;> try (cases h; done)
    rename_i y p
    have h' : (locOk c i y && ckMany c is es) = true := h
    rw [Bool.and_eq_true] at h'
    obtain ⟨g1, g2, g3⟩ := pgs_of k h'.2
    obtain ⟨l1, l2, l3⟩ := k.loc h'.1
    refine ⟨pgs_cons (pg_name (by rw [k.N]; exact k.nd) l1 l2 l3) g1 rfl, ?_, ?_⟩
    · show ((false, assign (.Name y p) X.env) :: assignEach es X.env).length = _
      simp [g2]
    · show ((false, assign (.Name y p) X.env) :: assignEach es X.env).findIdx? (·.1) = none
      rw [List.findIdx?_cons]
      simp [g3]
  | [], _ :: _, h => by cases h
  | _ :: _, [], h => by cases h
theorem pg_of {c : Cfg} {X : Cx} {W : WX} {hx : HX} {ys : XSuite} {cl : String → List PV → M PV} (k : Cok c X W hx ys cl) {t : Tg} {e : Expr} (h : ckTg c t e = true) : PG X e (gTg X.K t) := by
  unfold ckTg at h
  split at h
  · obtain ⟨l1, l2, l3⟩ := k.loc h
    exact pg_name (by rw [k.N]; exact k.nd) l1 l2 l3
  · rw [Bool.and_eq_true] at h
    obtain ⟨g1, g2, g3⟩ := pgs_of k h.2
    exact pg_tup (k.calm h.1).1 g1 g2 g3
  · cases h
/-! ### a block -/
def blkCfg (c : Cfg) (scope : Scope) : Cfg := { c with sc := relS scope c.sc, ei := none, wr := (scope.names.filter fun y => y.2 == .cell).map (·.1) }
theorem cok_blk {c : Cfg} {X : Cx} {W : WX} {cl : String → List PV → M PV} {scope : Scope} {own : List (Str × Nat)} (hc : c.calm = true) (k : Cok c X W none none cl) (ok : BlkOk X.N X.env.scope scope own) (s : Shared) (H : Hp) (C : Addr) (cl' : List (Str × Addr)) (fp : List Addr) :
    Cok (blkCfg c scope) (Bk X scope s H C cl' fp) W0 none none cl where
  N := k.N
  nd := k.nd
  sc := by
    show relabel scope X.env = relS scope c.sc
    rw [← k.sc]
    rfl
  calm := fun _ => ⟨(k.calm hc).1, rfl, rfl, rfl⟩
  tk := fun u s' x => by
    obtain ⟨_, _, _, _, _, _, _, _, _, _, _, _, _, _, _, _, w⟩ := x
    exact w.elim
  units := k.units
  wr := fun x hx => by
    obtain ⟨y, hy, e⟩ := List.mem_map.mp hx
    obtain ⟨h1, h2⟩ := List.mem_filter.mp hy
    show (scope.names.lookup x == some .cell) = true
    rw [← e, ok.uniq y h1]
    have h3 : y.2 = .cell := by simpa using h2
    rw [h3]
    rfl
  csts := k.csts
  free := k.free
  fns := fun _ => k.fns hc
  flds := k.flds
  dcts := k.dcts
  excs := k.excs
  inits := fun _ => k.inits hc
  hxo := fun _ _ z => by cases z
  xei := fun _ _ _ _ z => by cases z
  suite := fun _ z => by cases z
def ckLc (rec : Cfg → Ex → Expr → Bool) (c : Cfg) (elt : Ex) (tg : Tg) (k : ItK) (xs conds : List Ex) (own : List Nat) : Expr → Bool
  | .ListComp el [⟨tge, it, ifs, a⟩] scope _ => decide (a = 0) && c.calm && blkC c.N c.sc scope (own.map fun i => (c.N.getD i default, i)) && ckIter (rec c) c k xs it && ckTg (blkCfg c scope) tg tge && (match conds, ifs with
    | [], [] => true
    | [x], [e] => noIf e && rec (blkCfg c scope) x e
    | _, _ => false) && rec (blkCfg c scope) elt el && notSet it && tg.slots.all own.contains
  | _ => false
theorem own_map {N : List Str} : ∀ {own : List Nat}, (own.map fun i => (N.getD i default, i)).map (·.2) = own
  | [] => rfl
  | i :: is => by
    rw [List.map_cons, List.map_cons, own_map]
theorem evc_one {T : Tab} {cl : String → List PV → M PV} {hx : HX} {x : Ex} : evc T cl hx [x] = tr (ev T cl hx x) := by
  funext ρ
  show bnd (ev T cl hx x ρ) (fun x => bnd (truth x) fun b => if b = true then ret true else ret false) = bnd (ev T cl hx x ρ) truth
  congr 1
  funext y L
  unfold bnd
  cases truth y L with
  | ok b L' => cases b <;> rfl
  | exc _ _ _ => rfl
  | stuck => rfl
theorem snd_lc {c : Cfg} {rec : Cfg → Ex → Expr → Bool} (hrec : ∀ c x e, rec c x e = true → Snd c x e) {elt : Ex} {tg : Tg} {k : ItK} {ys conds : List Ex} {own : List Nat} {e : Expr} (h : ckLc rec c elt tg k ys conds own e = true) : Snd c (.lc elt tg k ys conds own) e := by
  unfold ckLc at h
  split at h
  · rename_i el tge it ifs a scope pos
    simp only [Bool.and_eq_true, decide_eq_true_eq] at h
    obtain ⟨⟨⟨⟨⟨⟨⟨⟨h1, h2⟩, h3⟩, h4⟩, h5⟩, h6⟩, h7⟩, h8⟩, h9⟩ := h
    subst h1
    refine snd_plain rfl (fun _ _ _ => rfl) fun X W hx xs cl kk => ?_
    obtain ⟨hc, rfl, rfl, _⟩ := kk.calm h2
    have ok : BlkOk X.N X.env.scope scope (own.map fun i => (c.N.getD i default, i)) := by
      rw [kk.N, kk.sc]
      exact blkOk_by h3
    have kb := fun s H C cl' fp => cok_blk h2 kk ok s H C cl' fp
    have hT : ∀ (s : Shared) (H : Hp) (C : Addr) (cl' : List (Str × Addr)) (fp : List Addr), PTs (Bk X scope s H C cl' fp) ifs (tIT X.K X.mg W0 none none fun ρ => evc c.T cl none conds ρ) := fun s H C cl' fp => by
      split at h6
      · refine ⟨fun pins s σ H Q I q => pts_nil.run pins s σ H Q I ?_⟩
        obtain ⟨P, L, ρ, l, q⟩ := q
        exact Post.ok (E := WE W0 σ) (a := true) q l.R
      · rename_i x e2
        rw [Bool.and_eq_true] at h6
        have w := (hrec _ _ _ h6.2 _ _ _ _ _ (kb s H C cl' fp)).2.1 h6.1
        have w2 : PT (Bk X scope s H C cl' fp) e2 (tIT X.K X.mg W0 none none fun ρ => evc c.T cl none [x] ρ) := by
          have e3 : (fun ρ => evc c.T cl none [x] ρ) = tr (ev c.T cl none x) := evc_one
          rw [e3]
          exact w
        exact pts_one w2
      · cases h6
    have z := pi_lc (ifs := ifs) (pos := pos) (t := tg) (cond := fun ρ => evc c.T cl none conds ρ) (el := fun ρ => ev c.T cl none elt ρ) hc (by rw [kk.N]; exact kk.nd) (snd_iter (hrec c) h4 X W none none cl kk tge) ok (fun s H C cl' fp => pg_of (kb s H C cl' fp) h5) hT (fun s H C cl' fp => (hrec _ _ _ h7 _ _ _ _ _ (kb s H C cl' fp)).1) (folded_of h8) (fun i hi => by
      rw [own_map]
      have := List.all_eq_true.mp h9 i hi
      simpa using this)
    rw [own_map] at z
    exact z
  · cases h
/-! ### the caught exception -/
theorem pe_absurd {X : Cx} {e : Expr} : PE X e (fun _ _ _ => False) := ⟨fun _ _ _ _ _ _ h => h.elim⟩
def ckExf (c : Cfg) (f : String) : Expr → Bool
  | .Attribute (.Name y _) f' _ => (match c.ei with
    | some i => visOk c i y && decide (f' = Str.ofString f) && c.T.excs.any fun q => q.2 == some f
    | none => false)
  | _ => false
theorem snd_exf {c : Cfg} {f : String} {e : Expr} (h : ckExf c f e = true) : Snd c (.exf f) e := by
  unfold ckExf at h
  split at h
  · rename_i y p f' pos
    split at h
    · rename_i i hi
      simp only [Bool.and_eq_true, decide_eq_true_eq] at h
      obtain ⟨⟨h1, h2⟩, h3⟩ := h
      subst h2
      refine snd_plain rfl (fun _ _ _ => rfl) fun X W hx xs cl k => ?_
      obtain ⟨X0, a, cls, d, oe, pn, hxs, hX, hz, hf⟩ := k.suite i hi
      subst hX hxs
      cases hx with
      | none => exact pe_absurd.mpwk fun σ H Q ⟨P, L, ρ, l, q⟩ => q.elim
      | some kf =>
        obtain ⟨kc, fo⟩ := kf
        obtain ⟨x1, x2⟩ := k.hxo kc fo rfl
        obtain ⟨C, e1, e2⟩ := x2 i a cls d rfl
        obtain ⟨fo', hfo⟩ := Option.isSome_iff_exists.mp x1
        obtain ⟨C', E⟩ := k.excs kc fo' hfo
        have eC : C' = C := by
          have := E.gC
          rw [e2] at this
          cases this
          rfl
        subst eC
        obtain ⟨v1, v2, v3, v4⟩ := k.vis h1
        obtain ⟨⟨c', o'⟩, m1, m2⟩ := List.any_eq_true.mp h3
        have m3 : o' = some f := by simpa using m2
        subst m3
        refine (pe_xf (pos := pos) E.xf (E.nof c' f m1) hz.zc hf (pe_var (pos := p) v1 v2 v3 v4)).mpwk fun σ H Q ⟨P, L, ρ, l, q⟩ => ?_
        obtain ⟨g1, g2, g3⟩ := l.gx
        refine ⟨_, g1, rfl, e1, ?_⟩
        cases fo with
        | none => exact q.elim
        | some nx =>
          obtain ⟨n, x⟩ := nx
          have q' : Post X0.K X0.mg (WE W σ) P H (if n = f then Out.ok x L else .stuck) (Hand X0.K X0.mg Q) := q
          split at q'
          · rename_i hn
            subst hn
            obtain ⟨dx, v, d1, d2, d3, d4⟩ := g3
            exact ⟨dx, _, v, d1, d3, by simp, q'.ok l.R _ d4⟩
          · exact q'.elim
    · cases h
  · cases h
def ckExi (c : Cfg) (kc : String) : Expr → Bool
  | .Call (.Name y _) [.Name z1 _, .Name z2 _] [] _ => decide (y = ("isinstance" : Str)) && gloOk c y && c.T.free.contains "isinstance" && decide (z2 = Str.ofString kc) && gloOk c z2 && ((decide (kc = "ValueError") && c.T.free.contains "ValueError") || (c.T.excs.lookup kc).isSome) && (match c.ei with
    | some i => visOk c i z1
    | none => false)
  | _ => false
theorem lookup_mem' {α β : Type} [BEq α] [LawfulBEq α] {a : α} {b : β} : ∀ {l : List (α × β)}, l.lookup a = some b → (a, b) ∈ l
  | [], h => by cases h
  | (c, d) :: r, h => by
    rw [List.lookup_cons] at h
    split at h
    · rename_i hc
      have e1 : a = c := by simpa using hc
      subst e1
      cases h
      exact List.mem_cons_self
    · exact List.mem_cons_of_mem _ (lookup_mem' h)
theorem snd_exi {c : Cfg} {kc : String} {e : Expr} (h : ckExi c kc e = true) : Snd c (.exi kc) e := by
  unfold ckExi at h
  split at h
  · rename_i y p z1 p1 z2 p2 pos
    simp only [Bool.and_eq_true, decide_eq_true_eq] at h
    obtain ⟨⟨⟨⟨⟨⟨h1, h2⟩, h3⟩, h4⟩, h5⟩, h6⟩, h7⟩ := h
    subst h1 h4
    split at h7
    · rename_i i hi
      refine snd_plain rfl (fun _ _ _ => rfl) fun X W hx xs cl k => ?_
      obtain ⟨X0, a, cls, d, oe, pn, hxs, hX, hz, hf⟩ := k.suite i hi
      subst hX hxs
      cases hx with
      | none => exact pe_absurd.mpwk fun σ H Q ⟨P, L, ρ, l, q⟩ => q.elim
      | some kf =>
        obtain ⟨k0, fo⟩ := kf
        obtain ⟨x1, x2⟩ := k.hxo k0 fo rfl
        obtain ⟨C, e1, e2⟩ := x2 i a cls d rfl
        obtain ⟨fo', hfo⟩ := Option.isSome_iff_exists.mp x1
        obtain ⟨C', E⟩ := k.excs k0 fo' hfo
        have eC : C' = C := by
          have := E.gC
          rw [e2] at this
          cases this
          rfl
        subst eC e1
        obtain ⟨v1, v2, v3, v4⟩ := k.vis h7
        obtain ⟨g1, g2, g3⟩ := k.glo h5
        have hc : ∃ (w : V) (cv : Value), PE (X0.suite a ((a, oe) :: pn)) (.Name (Str.ofString kc) p2) (tC w) ∧ (∀ u, RelV w u → u = cv) ∧ PySem.W.kitOne X0.K (.ref C') cv = some (c.T.subs.contains (k0, kc)) := by
          rw [Bool.or_eq_true] at h6
          rcases h6 with h6 | h6
          · simp only [Bool.and_eq_true, decide_eq_true_eq] at h6
            obtain ⟨j1, j2⟩ := h6
            subst j1
            exact ⟨.ty "ValueError", .type "ValueError", pe_bltn g1 (k.fre j2) Boot.«ValueError» rfl g3 g2, fun u r => r, E.askV⟩
          · obtain ⟨o2, ho2⟩ := Option.isSome_iff_exists.mp h6
            obtain ⟨D, E2⟩ := k.excs kc o2 ho2
            exact ⟨.ref D, .ref D, pe_glob g1 E2.gC rfl g2, fun u r => r, (E.ask kc o2 D (lookup_mem' ho2) E2.gC).1⟩
        obtain ⟨w, cv, hw, hcv, hk⟩ := hc
        have hA : PA (X0.suite a ((a, oe) :: pn)) [.Name z1 p1, .Name (Str.ofString kc) p2] (tCons (tVar i) (tCons (tC w) tNil)) := pa_cons (pe_var v1 v2 v3 v4) (pa_cons hw pa_nil)
        refine (pe_callB (call_isX E hz.zc hf) (k.glo h2).1 (k.fre h3) Boot.«isinstance» hA (by decide) (by decide) rfl rfl).mpwk fun σ H Q ⟨P, L, ρ, l, q⟩ => ?_
        obtain ⟨q1, q2, q3⟩ := l.gx
        refine ⟨_, q1, w, cv, _, rfl, hcv, ?_, hk, ?_⟩
        · cases fo with
          | none => rw [q3]; trivial
          | some nx =>
            obtain ⟨n, x⟩ := nx
            obtain ⟨dx, v, d1, d2, d3, d4⟩ := q3
            rw [d1]
            exact ⟨_, d3⟩
        · exact Post.ok (E := WE W σ) (a := PV.bl (c.T.subs.contains (k0, kc))) q l.R _ rfl
    · cases h7
  · cases h
/-! ### what changes no more -/
def frzOk : Expr → Bool
  | .List .. => true
  | .Call .. => true
  | .ListComp .. => true
  | .BinOp .. => true
  | .Subscript .. => true
  | _ => false
theorem snd_frz {c : Cfg} {rec : Ex → Expr → Bool} (hrec : ∀ x e, rec x e = true → Snd c x e) {x : Ex} {e : Expr} (h : (frzOk e && rec x e) = true) : Snd c (.frz x) e := by
  rw [Bool.and_eq_true] at h
  obtain ⟨h1, h2⟩ := h
  refine snd_plain (by cases e <;> first | rfl | cases h1) (fun _ => by cases e <;> first | (intro _ _; rfl) | cases h1) fun X W hx xs cl k => ?_
  exact (hrec _ _ h2 X W hx xs cl k).1.mpwk frz_weak
/-! ### all expressions -/
def ckE : Nat → Cfg → Ex → Expr → Bool
  | 0, _, _, _ => false
  | n + 1, c, x, e => ckOne (ckE n c) x e || (match x with
    | .cst v => ckCst v e
    | .var i => ckVar c i e
    | .glb g => ckGlb c g e
    | .tup xs => ckTup (ckE n c) xs e
    | .lst xs => ckLst (ckE n c) xs e
    | .bin o a b => ckBin (ckE n c) o a b e
    | .neg a => ckNeg (ckE n c) a e
    | .not a => ckNot (ckE n c) a e
    | .cmp o a b => ckCmp (ckE n c) o a b e
    | .chain o o' a b d => ckChain (ckE n c) o o' a b d e
    | .and a b => ckAnd (ckE n c) a b e
    | .or a b => ckOr (ckE n c) a b e
    | .ite d a b => ckIte (ckE n c) d a b e
    | .call f xs => ckCall (ckE n c) c f xs e
    | .blt b xs => ckBlt (ckE n c) c b xs e
    | .met m o xs => ckMet (ckE n c) m o xs e
    | .idx a b => ckIdx (ckE n c) a b e
    | .slc a lo hi => ckSlc (ckE n c) a lo hi e
    | .rev a => ckRev (ckE n c) a e
    | .sst a => ckSst (ckE n c) c a e
    | .isi a t => ckIsi (ckE n c) c a t e
    | .lc elt tg k xs conds own => ckLc (ckE n) c elt tg k xs conds own e
    | .exf f => ckExf c f e
    | .exi k => ckExi c k e
    | .frz x => frzOk e && ckE n c x e
    | .fld x f => ckFld (ckE n c) x f e
    | .new key cn xs => ckNew (ckE n c) c key cn xs e
    | .mtc key cn m o xs => ckMtc (ckE n c) c key cn m o xs e
    | .callk f kn xs x => ckCallk (ckE n c) c f kn xs x e
    | .opm key cn m o xs => ckOpm (ckE n c) c key cn m o xs e
    | .din neg d x => ckDin (ckE n c) c neg d x e
    | .dix d x => ckDix (ckE n c) c d x e
    | .rgc tup lit xs => ckRgc (ckE n c) c tup lit xs e
    | .rgv xs => ckRgv (ckE n c) c xs e
    | .dead => true)
theorem snd_all : ∀ (n : Nat) (c : Cfg) (x : Ex) (e : Expr), ckE n c x e = true → Snd c x e
  | 0, _, _, _, h => by cases h
  | n + 1, c, x, e, h => by
    have rec1 : ∀ x e, ckE n c x e = true → Snd c x e := snd_all n c
    have h' : (ckOne (ckE n c) x e || _) = true := h
    rw [Bool.or_eq_true] at h'
    rcases h' with h' | h'
    · exact snd_one rec1 h'
    · cases x with
      | cst v => exact snd_cst h'
      | var i => exact snd_var h'
      | glb g => exact snd_glb h'
      | tup xs => exact snd_tup rec1 h'
      | lst xs => exact snd_lst rec1 h'
      | bin o a b => exact snd_bin rec1 h'
      | neg a => exact snd_neg rec1 h'
      | not a => exact snd_not rec1 h'
      | cmp o a b => exact snd_cmp rec1 h'
      | chain o o' a b d => exact snd_chain rec1 h'
      | and a b => exact snd_and rec1 h'
      | or a b => exact snd_or rec1 h'
      | ite d a b => exact snd_ite rec1 h'
      | call f xs => exact snd_call rec1 h'
      | blt b xs => exact snd_blt rec1 h'
      | met m o xs => exact snd_met rec1 h'
      | idx a b => exact snd_idx rec1 h'
      | slc a lo hi => exact snd_slc rec1 h'
      | rev a => exact snd_rev rec1 h'
      | sst a => exact snd_sst rec1 h'
      | isi a t => exact snd_isi rec1 h'
      | lc elt tg k xs conds own => exact snd_lc (snd_all n) h'
      | exf f => exact snd_exf h'
      | exi k => exact snd_exi h'
      | frz x => exact snd_frz rec1 h'
      | fld x f => exact snd_fld rec1 h'
      | new key cn xs => exact snd_new rec1 h'
      | mtc key cn m o xs => exact snd_mtc rec1 h'
      | callk f kn xs x => exact snd_callk rec1 h'
      | opm key cn m o xs => exact snd_opm rec1 h'
      | din neg d x => exact snd_din rec1 h'
      | dix d x => exact snd_dix rec1 h'
      | rgc tup lit xs => exact snd_rgc rec1 h'
      | rgv xs => exact snd_rgv rec1 h'
      | dead => exact fun X W hx xs cl k => ⟨⟨fun pins s σ H Q I ⟨P, L, ρ, l, h⟩ => h.elim⟩, fun _ => ⟨fun pins s σ H Q I ⟨P, L, ρ, l, h⟩ => h.elim⟩, fun _ => ⟨fun w pins s σ H Q I ⟨P, L, ρ, l, h⟩ => h.elim⟩⟩
end MP

/-! MP 20: statements, one rule each. -/
namespace MP
open PySem PySem.Spec PyProof.Rows L2
section
variable (K : PySem.W.Frag) (mg : Str → Option Value)
def PostS (W : WX) (D : Ends) (hx : HX) (xs : XSuite) (P : Pl) (H : Hp) : SOut → Prop
  | .next ρ L => ∀ (P' : Pl) (H' : Hp) (σ' : L2.St), Ext P H P' H' → Lay K mg hx xs P' L H' ρ σ' → D.nx σ' H'
  | .ret v L => ∀ (P' : Pl) (H' : Hp) (u : V), Ext P H P' H' → Rel K mg P' L H' → RV K mg P' H' v u → D.rt u H'
  | .brk ρ L => ∀ (P' : Pl) (H' : Hp) (σ' : L2.St), Ext P H P' H' → Lay K mg hx xs P' L H' ρ σ' → D.bk σ' H'
  | .cnt ρ L => ∀ (P' : Pl) (H' : Hp) (σ' : L2.St), Ext P H P' H' → Lay K mg hx xs P' L H' ρ σ' → D.ct σ' H'
  | .exc c f ρ L => ∀ (P' : Pl) (H' : Hp) (σ' : L2.St) (cls : Value) (d : Option Addr), Ext P H P' H' → Lay K mg hx xs P' L H' ρ σ' → XD K mg P' H' c f cls d → W cls d σ' H'
  | .stuck => False
def tS (W : WX) (hx : HX) (xs : XSuite) (x : Env' → List HObj → SOut) : TS := fun D σ H => ∃ P L ρ, Lay K mg hx xs P L H ρ σ ∧ PostS K mg W D hx xs P H (x ρ L)
end
section
variable {K : PySem.W.Frag} {mg : Str → Option Value} {W : WX} {D D' : Ends} {hx : HX} {xs : XSuite} {P P' : Pl} {H H' : Hp} {L L' : List HObj} {ρ : Env'} {σ : L2.St}
theorem PostS.shift {o : SOut} (h : PostS K mg W D hx xs P H o) (e : Ext P H P' H') : PostS K mg W D hx xs P' H' o := by
  cases o with
  | next ρ L => exact fun P2 H2 σ2 e2 l => h P2 H2 σ2 (e.trans e2) l
  | ret v L => exact fun P2 H2 u e2 r rv => h P2 H2 u (e.trans e2) r rv
  | brk ρ L => exact fun P2 H2 σ2 e2 l => h P2 H2 σ2 (e.trans e2) l
  | cnt ρ L => exact fun P2 H2 σ2 e2 l => h P2 H2 σ2 (e.trans e2) l
  | exc c f ρ L => exact fun P2 H2 σ2 cls d e2 l x => h P2 H2 σ2 cls d (e.trans e2) l x
  | stuck => exact h
theorem onOk_post2 {m : M PV} {k : PV → List HObj → SOut} {P1 : Pl} {H1 : Hp} {L1 : List HObj} (l : Lay K mg hx xs P1 L1 H1 ρ σ) (e1 : Ext P H P1 H1) (h : PostS K mg W D hx xs P H (onOk m ρ k L1)) : Post K mg (WE W σ) P1 H1 (m L1) (fun v L2 _ _ => PostS K mg W D hx xs P H (k v L2)) := by
  unfold onOk at h
  cases hm : m L1 with
  | ok v L2 =>
    rw [hm] at h
    exact fun P1 H1 e R => h
  | exc c f L2 =>
    rw [hm] at h
    exact fun P2 H2 cls d e R x => h P2 H2 σ cls d (e1.trans e) (l.mono e R) x
  | stuck => rw [hm] at h; exact h
theorem onOk_post {m : M PV} {k : PV → List HObj → SOut} (l : Lay K mg hx xs P L H ρ σ) (h : PostS K mg W D hx xs P H (onOk m ρ k L)) : Post K mg (WE W σ) P H (m L) (fun v L1 _ _ => PostS K mg W D hx xs P H (k v L1)) := onOk_post2 l Ext.refl h
theorem post_gcM {m : M PV} {E : XK} {Q : PV → List HObj → Pl → Hp → Prop} (R : Rel K mg P L H) (h : Post K mg E P H (gcM m L) Q) : Post K mg E P H (m L) (fun v L1 P1 H1 => ∀ u, RV K mg P1 H1 v u → ∃ P2, Ext P H P2 H1 ∧ Rel K mg P2 (gc L v L1).2 H1 ∧ RV K mg P2 H1 (gc L v L1).1 u ∧ Q (gc L v L1).1 (gc L v L1).2 P2 H1) := by
  unfold gcM at h
  cases hm : m L with
  | ok v L1 =>
    rw [hm] at h
    intro P1 H1 e R1 u ru
    obtain ⟨P2, e2, R2, r2⟩ := gc_sound R e R1 ru
    exact ⟨P2, e2, R2, r2, h P2 H1 e2 R2⟩
  | exc c f L1 =>
    rw [hm] at h
    exact h
  | stuck => rw [hm] at h; exact h
theorem post_gcB {m : M Bool} {E : XK} {Q : Bool → List HObj → Pl → Hp → Prop} (R : Rel K mg P L H) (h : Post K mg E P H (gcB m L) Q) : Post K mg E P H (m L) (fun b L1 P1 H1 => ∃ P2, Ext P H P2 H1 ∧ Rel K mg P2 (gc L .non L1).2 H1 ∧ Q b (gc L .non L1).2 P2 H1) := by
  unfold gcB at h
  cases hm : m L with
  | ok v L1 =>
    rw [hm] at h
    intro P1 H1 e R1
    obtain ⟨P2, e2, R2, r2⟩ := gc_sound (v := .non) (w := .non) R e R1 rfl
    exact ⟨P2, e2, R2, h P2 H1 e2 R2⟩
  | exc c f L1 =>
    rw [hm] at h
    exact h
  | stuck => rw [hm] at h; exact h
theorem GX.set {i : Nat} {o : Option V} (h : GX K mg hx xs P H σ) (hne : ∀ j a c d, xs = some (j, a, c, d) → j ≠ i) : GX K mg hx xs P H (σ.set i o) := by
  unfold GX at h ⊢
  split at h
  · trivial
  · rename_i c f j a cls d
    refine ⟨?_, h.2⟩
    rw [List.getElem?_set_ne (fun e => hne j a cls d rfl e.symm)]
    exact h.1
  · exact h.elim
/-- slots but for those of the caught exception -/
abbrev NoEi (xs : XSuite) (is : List Nat) : Prop := ∀ i ∈ is, ∀ j a c d, xs = some (j, a, c, d) → j ≠ i
theorem GX.off {σ' : L2.St} {is : List Nat} (h : GX K mg hx xs P H σ) (hne : NoEi xs is) (ho : ∀ j, j ∉ is → σ'[j]? = σ[j]?) : GX K mg hx xs P H σ' := by
  unfold GX at h ⊢
  split at h
  · trivial
  · rename_i c f j a cls d
    refine ⟨?_, h.2⟩
    rw [ho j fun m => hne j m j a cls d rfl rfl]
    exact h.1
  · exact h.elim
end
theorem _root_.L2.PS.mpwk {X : Cx} {st : Stmt} {t t' : TS} (h : PS X st t) (w : ∀ D σ H, t' D σ H → t D σ H) : PS X st t' := ⟨fun pins s σ H D I q => h.run pins s σ H D I (w _ _ _ q)⟩
theorem _root_.L2.PSs.mpwk {X : Cx} {st : List Stmt} {t t' : TS} (h : PSs X st t) (w : ∀ D σ H, t' D σ H → t D σ H) : PSs X st t' := ⟨fun pins s σ H D I q => h.run pins s σ H D I (w _ _ _ q)⟩
section
variable {X : Cx} {W : WX} {hx : HX} {xs : XSuite} {e o i' : Expr} {st : Stmt} {rest body orelse : List Stmt} {pos : Pos} {m m1 m2 m3 : Env' → M PV} {x y : Env' → List HObj → SOut}
abbrev PSi (X : Cx) (W : WX) (hx : HX) (xs : XSuite) (st : Stmt) (x : Env' → List HObj → SOut) : Prop := PS X st (tS X.K X.mg W hx xs x)
abbrev PSsi (X : Cx) (W : WX) (hx : HX) (xs : XSuite) (st : List Stmt) (x : Env' → List HObj → SOut) : Prop := PSs X st (tS X.K X.mg W hx xs x)
theorem ss_nil : PSsi X W hx xs [] (fun ρ L => .next ρ L) := pss_nil.mpwk fun D σ H ⟨P, L, ρ, l, h⟩ => h P H σ Ext.refl l
theorem ss_cons (h1 : PSi X W hx xs st x) (h2 : PSsi X W hx xs rest y) : PSsi X W hx xs (st :: rest) (fun ρ L => match x ρ L with
    | .next ρ' L' => y ρ' L'
    | r => r) :=
  (pss_cons h1 h2).mpwk fun D σ H ⟨P, L, ρ, l, h⟩ => ⟨P, L, ρ, l, by
    simp only at h
    cases hx' : x ρ L with
    | next ρ' L' =>
      rw [hx'] at h
      exact fun P' H' σ' e l' => ⟨P', L', ρ', l', PostS.shift h e⟩
    | ret v L' => rw [hx'] at h; exact h
    | brk ρ' L' => rw [hx'] at h; exact h
    | cnt ρ' L' => rw [hx'] at h; exact h
    | exc c f ρ' L' => rw [hx'] at h; exact h
    | stuck => rw [hx'] at h; exact h⟩
theorem s_pass : PSi X W hx xs (.Pass pos) (fun ρ L => .next ρ L) := ps_pass.mpwk fun D σ H ⟨P, L, ρ, l, h⟩ => h P H σ Ext.refl l
theorem s_brk : PSi X W hx xs (.Break pos) (fun ρ L => .brk ρ L) := ps_break.mpwk fun D σ H ⟨P, L, ρ, l, h⟩ => h P H σ Ext.refl l
theorem s_cnt : PSi X W hx xs (.Continue pos) (fun ρ L => .cnt ρ L) := ps_continue.mpwk fun D σ H ⟨P, L, ρ, l, h⟩ => h P H σ Ext.refl l
theorem s_retN : PSi X W hx xs (.Return none pos) (fun ρ L => .ret .non L) := ps_retN.mpwk fun D σ H ⟨P, L, ρ, l, h⟩ => h P H .non Ext.refl l.R rfl
theorem s_ret (he : PEi X W hx xs e m) : PSi X W hx xs (.Return (some e) pos) (fun ρ L => onOk (m ρ) ρ (fun v L' => .ret v L') L) :=
  (ps_ret he).mpwk fun D σ H ⟨P, L, ρ, l, h⟩ => ⟨P, L, ρ, l, (onOk_post l h).imp fun v L1 P1 H1 e R q u ru => q P1 H1 u e R ru⟩
theorem s_expr (he : PEi X W hx xs e m) (hs : swapsWith e none pos.line X.env = pure false) : PSi X W hx xs (.Expr e pos) (fun ρ L => onOk (m ρ) ρ (fun _ L' => .next ρ (gc L .non L').2) L) :=
  (ps_expr he hs).mpwk fun D σ H ⟨P, L, ρ, l, h⟩ => ⟨P, L, ρ, l, (onOk_post l h).imp fun v L1 P1 H1 e R q u ru => by
    obtain ⟨P2, e2, R2, _⟩ := gc_sound (v := .non) (w := .non) l.R e R rfl
    exact q P2 H1 σ e2 (l.mono e2 R2)⟩
/-- a value is stored by its target -/
theorem asg_gc {t : Tg} (hne : NoEi xs t.slots) : ∀ D σ H, tS X.K X.mg W hx xs (fun ρ L => onOk (gcM (m ρ)) ρ (fun v L' => match bindT t v ρ with
    | some ρ' => .next ρ' L'
    | none => .stuck) L) D σ H → tAsg (tI X.K X.mg W hx xs m) (gTg X.K t) D σ H := fun D σ H ⟨P, L, ρ, l, h⟩ =>
  ⟨P, L, ρ, l, (post_gcM l.R (onOk_post l h)).imp fun v L1 P1 H1 e R q u ru => by
    obtain ⟨P2, e2, R2, r2, q2⟩ := q u ru
    cases hb : bindT t (gc L v L1).1 ρ with
    | none => rw [hb] at q2; exact q2.elim
    | some ρ' =>
      rw [hb] at q2
      exact gTg_run (l.re.mono e2) r2 hb fun σ1 re1 _ ho => q2 P2 H1 σ1 e2 ⟨R2, re1, (l.gx.mono e2).off hne ho⟩⟩
theorem s_set {i : Nat} {y : Str} {p : Pos} (hN : X.N.Nodup) (hi : X.N[i]? = some y) (hl : L2.Loc X.env.scope y) (hf : X.fn y = true ∨ X.env.scope.names.lookup y = some .local) (he : PEi X W hx xs e m) (hs : swapsWith e (some (.Name y p)) pos.line X.env = pure false) (hne : NoEi xs [i]) :
    PSi X W hx xs (.Assign [.Name y p] e pos) (fun ρ L => onOk (gcM (m ρ)) ρ (fun v L' => match bindT (.one i) v ρ with
    | some ρ' => .next ρ' L'
    | none => .stuck) L) :=
  (ps_set hN hi hl he hs hf).mpwk (asg_gc (t := .one i) hne)
theorem s_setT {tg : Expr} {t : Tg} (he : PEi X W hx xs e m) (hg : PG X tg (gTg X.K t)) (hs : swapsWithSole [tg] e pos.line X.env = pure false) (hw : swappedStores [tg] e X.env = pure none) (h1 : (assignEach [tg] X.env).map (·.2) = [assign tg X.env]) (hne : NoEi xs t.slots) :
    PSi X W hx xs (.Assign [tg] e pos) (fun ρ L => onOk (gcM (m ρ)) ρ (fun v L' => match bindT t v ρ with
    | some ρ' => .next ρ' L'
    | none => .stuck) L) :=
  (ps_asg he hg hs hw h1).mpwk (asg_gc hne)
theorem s_aug {i : Nat} {y : Str} {p : Pos} {op : Bop} (hop : op = .add ∨ op = .sub) (hN : X.N.Nodup) (hi : X.N[i]? = some y) (hl : L2.Loc X.env.scope y) (hf : X.fn y = true ∨ X.env.scope.names.lookup y = some .local) (he : PEi X W hx xs e m) (hne : NoEi xs [i]) :
    PSi X W hx xs (.AugAssign (.Name y p) op.py e pos) (fun ρ L => match ρ[i]? with
      | some (some (.int x)) => onOk (gcM (bnd (m ρ) fun y => augop op x y)) ρ (fun v L' => .next (ρ.set i (some v)) L') L
      | _ => .stuck) := by
  have fin : ∀ {D : Ends} {σ : L2.St} {H H1 : Hp} {P P1 : Pl} {L L1 : List HObj} {ρ : Env'} {z : Int}, Lay X.K X.mg hx xs P L H ρ σ → Lay X.K X.mg hx xs P1 L1 H1 ρ σ → (∀ u, RV X.K X.mg P1 H1 (.int z) u → ∃ P2, Ext P H P2 H1 ∧ Rel X.K X.mg P2 (gc L (.int z) L1).2 H1 ∧ RV X.K X.mg P2 H1 (gc L (.int z) L1).1 u ∧ PostS X.K X.mg W D hx xs P H (.next (ρ.set i (some (gc L (.int z) L1).1)) (gc L (.int z) L1).2)) →
      D.nx (σ.set i (some (.int z))) H1 := fun {D σ H H1 P P1 L L1 ρ z} l l1 q => by
    obtain ⟨P2, e2, R2, r2, q2⟩ := q (.int z) rfl
    exact q2 P2 H1 _ e2 ⟨R2, (l.re.mono e2).set r2, (l.gx.mono e2).set (hne i (by simp))⟩
  rcases hop with rfl | rfl
  · refine (ps_aug hN hi hl he ip_add hf).mpwk fun D σ H ⟨P, L, ρ, l, h⟩ => ?_
    simp only at h
    split at h
    · rename_i x hx'
      obtain ⟨v, h1, h2⟩ := l.re.val i _ hx'
      rw [show v = _ from h2] at h1
      refine ⟨_, h1, t1 l (post_gcM l.R (onOk_post l h)) fun z L1 P1 H1 w e1 l1 r1 q => ?_⟩
      cases z <;> try exact q.elim
      rename_i j
      exact ⟨x, j, rfl, r1, fin l l1 (Post.ok (E := WE W σ) (a := PV.int (x + j)) q l1.R)⟩
    · exact h.elim
  · refine (ps_aug hN hi hl he ip_sub hf).mpwk fun D σ H ⟨P, L, ρ, l, h⟩ => ?_
    simp only at h
    split at h
    · rename_i x hx'
      obtain ⟨v, h1, h2⟩ := l.re.val i _ hx'
      rw [show v = _ from h2] at h1
      refine ⟨_, h1, t1 l (post_gcM l.R (onOk_post l h)) fun z L1 P1 H1 w e1 l1 r1 q => ?_⟩
      cases z <;> try exact q.elim
      rename_i j
      exact ⟨x, j, rfl, r1, fin l l1 (Post.ok (E := WE W σ) (a := PV.int (x - j)) q l1.R)⟩
    · exact h.elim
/-- o[i] = e -/
theorem s_sub {p2 : Pos} (he : PEi X W hx xs e m) (ho : PEi X W hx xs o m1) (hi : PEi X W hx xs i' m2) (hs : swapsWithSole [.Subscript o i' p2] e pos.line X.env = pure false) (hw : swappedStores [.Subscript o i' p2] e X.env = pure none) (ha : ∀ v, assign (.Subscript o i' p2) X.env v = (do
      let ov ← holding [v] (eval o X.env)
      let iv ← holding [v, ov] (eval i' X.env)
      standAt p2
      holding [v, ov, iv] (setItem ov iv v)
      release [v, ov, iv] [])) :
    PSi X W hx xs (.Assign [.Subscript o i' p2] e pos) (fun ρ L => onOk (m ρ) ρ (fun v L1 => onOk (m1 ρ) ρ (fun x L2 => onOk (m2 ρ) ρ (fun y L3 => match setItem' x y v L3 with
    | .ok _ L4 => .next ρ (gc L .non L4).2
    | _ => .stuck) L2) L1) L) :=
  (ps_asg he (pg_sub ho hi set_all ha) hs hw rfl).mpwk fun D σ H ⟨P, L, ρ, l, h⟩ => ⟨P, L, ρ, l, (onOk_post l h).imp fun v L1 P1 H1 e1 R1 q1 u ru => by
    have l1 := l.mono e1 R1
    refine ⟨P1, L1, ρ, l1, (onOk_post2 l1 e1 q1).imp fun x L2 P2 H2 e2 R2 q2 w rw' => ?_⟩
    have l2 := l1.mono e2 R2
    refine ⟨P2, L2, ρ, l2, (onOk_post2 l2 (e1.trans e2) q2).imp fun y L3 P3 H3 e3 R3 q3 z rz => ?_⟩
    refine ⟨P3, L3, x, y, v, R3, rw'.mono e3, rz, ru.mono (e2.trans e3), ?_⟩
    cases hs : setItem' x y v L3 with
    | stuck => rw [hs] at q3; exact q3.elim
    | exc c f L4 => trivial
    | ok a L4 =>
      rw [hs] at q3
      intro P4 H4 e4 R4
      obtain ⟨P5, e5, R5, _⟩ := gc_sound (v := .non) (w := .non) l.R (((e1.trans e2).trans e3).trans e4) R4 rfl
      exact q3 P5 H4 σ e5 (l.mono e5 R5)⟩
/-! ### o.f = e -/
theorem put_zip {K : PySem.W.Frag} {mg : Str → Option Value} {P : Pl} {H : Hp} {f : Str} {x : PV} {v : V} (r : RV K mg P H x v) : ∀ {ns : List Str} {us : List PV} {vs : List V}, ns.length = vs.length → RVs K mg P H us vs → ∃ ws, putF f v (ns.zip vs) = (putN f x ns us).1.zip ws ∧ (putN f x ns us).1.length = ws.length ∧ RVs K mg P H (putN f x ns us).2 ws
  | [], us, vs, hl, h => by
    cases vs with
    | cons _ _ => cases hl
    | nil =>
      have hu : us = [] := by
        cases us with
        | nil => rfl
        | cons u us => obtain ⟨_, _, e, _⟩ := h; cases e
      subst hu
      exact ⟨[v], rfl, rfl, .cons r RVs.nil⟩
  | n :: ns, us, vs, hl, h => by
    cases vs with
    | nil => cases hl
    | cons w vs =>
      cases us with
      | nil => cases (show _ = [] from h)
      | cons u us =>
        obtain ⟨w', t, e, h1, h2⟩ := h
        injection e with e1 e2
        subst e1 e2
        by_cases hn : n = f
        · refine ⟨v :: vs, ?_, ?_, ?_⟩
          · show (if n = f then (n, v) :: ns.zip vs else (n, w) :: putF f v (ns.zip vs)) = _
            rw [if_pos hn]
            simp only [putN, if_pos hn, List.zip_cons_cons]
          · simp only [putN, if_pos hn, List.length_cons]
            exact hl
          · simp only [putN, if_pos hn]
            exact .cons r h2
        · obtain ⟨ws, a1, a2, a3⟩ := put_zip r (ns := ns) (by simpa using hl) h2
          refine ⟨w :: ws, ?_, ?_, ?_⟩
          · show (if n = f then (n, v) :: ns.zip vs else (n, w) :: putF f v (ns.zip vs)) = _
            rw [if_neg hn, a1]
            simp only [putN, if_neg hn, List.zip_cons_cons]
          · simp only [putN, if_neg hn, List.length_cons, a2]
          · simp only [putN, if_neg hn]
            exact .cons h1 a3
theorem s_sfld {T : Tab} {f : Str} {p2 : Pos} (fa : FldAll X.K X.mg T) (he : PEi X W hx xs e m) (ho : PEi X W hx xs o m1) (hs : swapsWith e (some (.Attribute o f p2)) pos.line X.env = pure false) :
    PSi X W hx xs (.Assign [.Attribute o f p2] e pos) (fun ρ L => onOk (m ρ) ρ (fun v L1 => onOk (m1 ρ) ρ (fun x L2 => match setFld T x f v L2 with
    | .ok _ L3 => .next ρ (gc L .non L3).2
    | _ => .stuck) L1) L) :=
  (ps_fld ho he hs).mpwk fun D σ H ⟨P, L, ρ, l, h⟩ => ⟨P, L, ρ, l, (onOk_post l h).imp fun v L1 P1 H1 e1 R1 q1 u ru => by
    have l1 := l.mono e1 R1
    refine ⟨P1, L1, ρ, l1, (onOk_post2 l1 e1 q1).imp fun x L2 P2 H2 e2 R2 q2 w rw' => ?_⟩
    have l2 := l1.mono e2 R2
    unfold setFld at q2
    cases x <;> try exact q2.elim
    rename_i n
    simp only at q2
    cases hn : L2[n]? with
    | none => rw [hn] at q2; exact q2.elim
    | some ob =>
      rw [hn] at q2
      cases ob with
      | lst _ => exact q2.elim
      | frl _ => exact q2.elim
      | ins c ns us =>
        simp only at q2
        by_cases hc : T.flds.contains (c, f) = true ∧ ns.length < 1000 ∧ ns.length = us.length
        · rw [if_pos hc] at q2
          obtain ⟨a, h1, h2⟩ := rw'
          obtain ⟨hob, h3, C, dx, vs, h4, h5, h6, h7⟩ := R2.obj n _ a hn h2
          subst h4
          obtain ⟨c1, c2⟩ := fa c f hc.1 C h6
          have ru2 : RV X.K X.mg P2 H2 v u := ru.mono e2
          obtain ⟨ws, a1, a2, a3⟩ := put_zip (f := f) ru2 h5 h7
          refine ⟨a, C, dx, _, h1, h3, c1, c2, by rw [List.length_zip]; omega, ?_⟩
          rw [a1]
          have n1 : ∀ xs, HO.ins C dx (ns.zip vs) ≠ .tup xs := fun _ z => nomatch z
          have n2 : ∀ o w, HO.ins C dx (ns.zip vs) ≠ .frz o w := fun _ _ z => nomatch z
          have e3 := Ext.putG (o := .ins C dx ((putN f v ns us).1.zip ws)) R2 h2 h3 n1 n2
          have R3 := R2.putG (o := .ins c (putN f v ns us).1 (putN f v ns us).2) (ho := .ins C dx ((putN f v ns us).1.zip ws)) h2 h3 n1 n2 ⟨C, dx, ws, rfl, a2, h6, a3.mono e3⟩
          obtain ⟨P5, e5, R5, _⟩ := gc_sound (v := .non) (w := .non) l.R ((e1.trans e2).trans e3) R3 rfl
          exact q2 P5 _ σ e5 (l.mono e5 R5)
        · rw [if_neg hc] at q2
          exact q2.elim⟩
/-! ### if, while, for -/
theorem s_if {a b : List Stmt} {mb : Env' → M Bool} (hc : PTi X W hx xs e mb) (ha : PSsi X W hx xs a x) (hb : PSsi X W hx xs b y) : PSi X W hx xs (.If e a b pos) (fun ρ L => match gcB (mb ρ) L with
    | .ok true L' => x ρ L'
    | .ok false L' => y ρ L'
    | .exc c f L' => .exc c f ρ L'
    | .stuck => .stuck) :=
  (ps_if hc ha hb).mpwk fun D σ H ⟨P, L, ρ, l, h⟩ => by
    refine ⟨P, L, ρ, l, ?_⟩
    have h2 : Post X.K X.mg (WE W σ) P H (gcB (mb ρ) L) (fun b L' P' H' => PostS X.K X.mg W D hx xs P H (if b = true then x ρ L' else y ρ L')) := by
      simp only at h
      cases hm : gcB (mb ρ) L with
      | ok b L' =>
        rw [hm] at h
        cases b with
        | true => exact fun _ _ _ _ => h
        | false => exact fun _ _ _ _ => h
      | exc c f L' =>
        rw [hm] at h
        exact fun P2 H2 cls d e R x => h P2 H2 σ cls d e (l.mono e R) x
      | stuck => rw [hm] at h; exact h
    exact (post_gcB l.R h2).imp fun b L1 P1 H1 e1 R1 ⟨P2, e2, R2, q⟩ => by
      cases b with
      | true => exact ⟨P2, _, ρ, l.mono e2 R2, PostS.shift q e2⟩
      | false => exact ⟨P2, _, ρ, l.mono e2 R2, PostS.shift q e2⟩
theorem s_while {mb : Env' → M Bool} (hp : PassesOwn (model X.prog X.w) X.A X.env X.xe) (hc : PTi X W hx xs e mb) (hb : PSsi X W hx xs body x) : PSi X W hx xs (.While e body [] pos) (fun ρ L => whl (fun ρ1 => gcB (mb ρ1)) x ρ L) :=
  (ps_while hp hc hb).mpwk fun D σ H ⟨P, L, ρ, l, h⟩ => by
    simp only at h
    unfold whl at h
    split at h
    · rename_i hex
      generalize hn : Classical.choose hex = n0 at h
      refine ⟨fun n σ1 H1 => ∃ P1 L1 ρ1, Ext P H P1 H1 ∧ Lay X.K X.mg hx xs P1 L1 H1 ρ1 σ1 ∧ PostS X.K X.mg W D hx xs P1 H1 (whlN (fun ρ1 => gcB (mb ρ1)) x n ρ1 L1), ⟨n0, P, L, ρ, Ext.refl, l, h⟩, ?_⟩
      rintro n σ1 H1 ⟨P1, L1, ρ1, e1, l1, h1⟩
      cases n with
      | zero => exact h1.elim
      | succ n =>
        refine ⟨P1, L1, ρ1, l1, ?_⟩
        have h2 : Post X.K X.mg (WE W σ1) P1 H1 (gcB (mb ρ1) L1) (fun b L' P' H' => PostS X.K X.mg W D hx xs P1 H1 (if b = true then (match x ρ1 L' with
            | .next ρ2 L2 => whlN (fun ρ1 => gcB (mb ρ1)) x n ρ2 L2
            | .cnt ρ2 L2 => whlN (fun ρ1 => gcB (mb ρ1)) x n ρ2 L2
            | .brk ρ2 L2 => .next ρ2 L2
            | r => r) else .next ρ1 L')) := by
          unfold whlN at h1
          cases hm : gcB (mb ρ1) L1 with
          | ok b L' =>
            rw [hm] at h1
            cases b with
            | true => exact fun _ _ _ _ => h1
            | false => exact fun _ _ _ _ => h1
          | exc c f L' =>
            rw [hm] at h1
            exact fun P2 H2 cls d e R x => h1 P2 H2 σ1 cls d e (l1.mono e R) x
          | stuck => rw [hm] at h1; exact h1
        refine (post_gcB l1.R h2).imp fun b L2 P2 H2 e2 R2 ⟨P3, e3, R3, q⟩ => ?_
        cases b with
        | false => exact q P3 H2 σ1 e3 (l1.mono e3 R3)
        | true =>
          simp only [if_true] at q ⊢
          have l3 := l1.mono e3 R3
          refine ⟨fun σ4 H4 => ∃ P4 L4 ρ4, Ext P H P4 H4 ∧ Lay X.K X.mg hx xs P4 L4 H4 ρ4 σ4 ∧ PostS X.K X.mg W D hx xs P4 H4 (whlN (fun ρ1 => gcB (mb ρ1)) x n ρ4 L4), fun σ4 H4 z => ⟨n, Nat.lt_succ_self n, z⟩, P3, _, ρ1, l3, ?_⟩
          have q' := PostS.shift q e3
          cases hx' : x ρ1 (gc L1 .non L2).2 with
          | next ρ4 L4 =>
            rw [hx'] at q'
            exact fun P4 H4 σ4 e4 l4 => ⟨P4, L4, ρ4, (e1.trans e3).trans e4, l4, PostS.shift q' e4⟩
          | cnt ρ4 L4 =>
            rw [hx'] at q'
            exact fun P4 H4 σ4 e4 l4 => ⟨P4, L4, ρ4, (e1.trans e3).trans e4, l4, PostS.shift q' e4⟩
          | brk ρ4 L4 => rw [hx'] at q'; exact q'
          | ret v L4 => rw [hx'] at q'; exact q'
          | exc c f ρ4 L4 => rw [hx'] at q'; exact q'
          | stuck => rw [hx'] at q'; exact q'
    · exact h.elim
theorem s_for {tg iter : Expr} {k : ItK} {t : Tg} {ms : Env' → M (List PV)} (hp : PassesOwn (model X.prog X.w) X.A X.env X.xe) (hc : X.calm = true) (hi : PIi X W hx xs k tg iter ms) (hg : PG X tg (gTg X.K t)) (hb : PSsi X W hx xs body x) (hs : ∀ x, foldedSetIterable iter X.env x = pure x) (hne : NoEi xs t.slots) :
    PSi X W hx xs (.For tg iter body [] pos) (fun ρ L => match ms ρ L with
    | .ok vs L1 => (match walkOf L k vs L1 with
      | some w => forLoop w.guard t x w.items ρ w.heap
      | none => .stuck)
    | .exc c f L1 => .exc c f ρ L1
    | .stuck => .stuck) :=
  (ps_for hp hc hi hg hb hs).mpwk fun D σ H ⟨P, L, ρ, l, h⟩ => by
    refine ⟨P, L, ρ, l, ?_⟩
    simp only at h
    cases hms : ms ρ L with
    | stuck => rw [hms] at h; exact h.elim
    | exc c f L1 =>
      rw [hms] at h
      exact fun P2 H2 cls d e R x => h P2 H2 σ cls d e (l.mono e R) x
    | ok vs L1 =>
      rw [hms] at h
      simp only at h
      intro P1 H1 e1 R1
      cases hw : walkOf L k vs L1 with
      | none => rw [hw] at h; exact h.elim
      | some w =>
        rw [hw] at h
        simp only at h
        refine ⟨w, rfl, fun J P2 e2 R2 wk => ?_⟩
        refine ⟨fun i m σ3 H3 => ∃ P3 L3 ρ3, m = w.items.length - i ∧ i ≤ w.items.length ∧ Ext P2 H1 P3 H3 ∧ Lay X.K X.mg hx xs P3 L3 H3 ρ3 σ3 ∧ PostS X.K X.mg W D hx xs P3 H3 (forLoop w.guard t x (w.items.drop i) ρ3 L3),
          ⟨_, P2, w.heap, ρ, rfl, Nat.zero_le _, Ext.refl, l.mono e2 R2, PostS.shift h e2⟩, ?_⟩
        rintro i m σ3 H3 ⟨P3, L3, ρ3, rfl, hi', e3, l3, h3⟩
        by_cases hlt : i < w.items.length
        · rw [drop_cons hlt] at h3
          unfold forLoop at h3
          split at h3
          · rename_i hgd
            obtain ⟨hgo, hyl⟩ := wk.go i w.items[i] (List.getElem?_eq_getElem hlt) _ _ _ e3 l3.R hgd
            split at h3
            · exact h3.elim
            · rename_i ρ4 hb4
              refine .inr ⟨hgo, fun σ' H' => ∃ P3 L3 ρ3, i + 1 ≤ w.items.length ∧ Ext P2 H1 P3 H' ∧ Lay X.K X.mg hx xs P3 L3 H' ρ3 σ' ∧ PostS X.K X.mg W D hx xs P3 H' (forLoop w.guard t x (w.items.drop (i + 1)) ρ3 L3),
                fun σ' H' ⟨P', L', ρ', a1, a2, a3, a4⟩ => ⟨_, by omega, P', L', ρ', rfl, a1, a2, a3, a4⟩, fun v H' hy => ?_⟩
              obtain ⟨P4, e4, R4, r4⟩ := hyl v H' hy
              refine gTg_run (l3.re.mono e4) r4 hb4 fun σ1 re1 _ ho => ?_
              have l4 : Lay X.K X.mg hx xs P4 L3 H' ρ4 σ1 := ⟨R4, re1, (l3.gx.mono e4).off hne ho⟩
              refine ⟨P4, L3, ρ4, l4, ?_⟩
              have q' := PostS.shift h3 e4
              cases hx' : x ρ4 L3 with
              | next ρ5 L5 =>
                rw [hx'] at q'
                exact fun P5 H5 σ5 e5 l5 => ⟨P5, L5, ρ5, hlt, (e3.trans e4).trans e5, l5, PostS.shift q' e5⟩
              | cnt ρ5 L5 =>
                rw [hx'] at q'
                exact fun P5 H5 σ5 e5 l5 => ⟨P5, L5, ρ5, hlt, (e3.trans e4).trans e5, l5, PostS.shift q' e5⟩
              | brk ρ4 L4 => rw [hx'] at q'; exact q'
              | ret v L4 => rw [hx'] at q'; exact q'
              | exc c f ρ4 L4 => rw [hx'] at q'; exact q'
              | stuck => rw [hx'] at q'; exact q'
          · exact h3.elim
        · have hie : i = w.items.length := by omega
          subst hie
          rw [List.drop_length] at h3
          unfold forLoop at h3
          split at h3
          · rename_i hgd
            exact .inl ⟨wk.stop _ _ _ e3 l3.R hgd, h3 P3 H3 σ3 Ext.refl l3⟩
          · exact h3.elim
end
end MP

/-! GN 0: generators that sleep are not touched: a run that stands over sleepers that cannot be woken stands over the real ones, too. -/
namespace MP
open PySem PySem.Spec PyProof.Rows L2 GenW
open Sem (wp)
def deadK : Resume → Sem PySem.Fin := fun _ => .unsupported "asleep"
/-- a sleeper -/
structure Slp where
  k : Resume → Sem PySem.Fin
  l : List Value
  c : Code
  p : Pos
  f : List Frame
  b : Bool
def Slp.live (x : Slp) : GenState := .suspended x.k x.l x.c x.p x.f x.b
def Slp.dead (x : Slp) : GenState := .suspended deadK x.l x.c x.p x.f x.b
abbrev Slps := Nat → Option Slp
def liveG (D : Slps) (G : Array GenState) : Array GenState := G.mapIdx fun i y => match D i with
  | some x => x.live
  | none => y
def live (D : Slps) (s : Shared) : Shared := { s with gens := liveG D s.gens }
/-- the sleepers cannot be woken; no other one's frames hold a generator's frame -/
structure Dz (D : Slps) (s : Shared) : Prop where
  dead : ∀ i x, D i = some x → s.gens[i]? = some x.dead
  clean : ∀ i k l c p f b, D i = none → s.gens[i]? = some (.suspended k l c p f b) → splitAtGen f = none
theorem liveG_size {D : Slps} {G : Array GenState} : (liveG D G).size = G.size := by simp [liveG]
theorem liveG_get {D : Slps} {G : Array GenState} {i : Nat} : (liveG D G)[i]? = G[i]?.map fun y => match D i with
  | some x => x.live
  | none => y := by simp [liveG]
theorem liveG_push {D : Slps} {s : Shared} {y : GenState} (z : Dz D s) : liveG D (s.gens.push y) = (liveG D s.gens).push y := by
  apply Array.ext_getElem?
  intro i
  rw [liveG_get, Array.getElem?_push, Array.getElem?_push, liveG_size, liveG_get]
  by_cases h : i = s.gens.size
  · rw [if_pos h, if_pos h]
    have hn : D i = none := by
      cases e : D i with
      | none => rfl
      | some x =>
        have := z.dead i x e
        rw [h, Array.getElem?_eq_none (Nat.le_refl _)] at this
        cases this
    simp [hn]
  · rw [if_neg h, if_neg h]
theorem liveG_set {D : Slps} {G : Array GenState} {g : Nat} {y : GenState} (h : D g = none) : liveG D (G.setIfInBounds g y) = (liveG D G).setIfInBounds g y := by
  apply Array.ext_getElem?
  intro i
  rw [liveG_get, Array.getElem?_setIfInBounds, Array.getElem?_setIfInBounds, liveG_size, liveG_get]
  by_cases e : g = i
  · subst e
    rw [if_pos rfl, if_pos rfl]
    by_cases l : g < G.size
    · simp [h, l]
    · simp [l]
  · rw [if_neg e, if_neg e]
theorem live_setGen {D : Slps} {s : Shared} {g : Nat} {y : GenState} (h : D g = none) : live D (s.setGen g y) = (live D s).setGen g y := by
  show ({ s with gens := liveG D (s.gens.setIfInBounds g y) } : Shared) = { s with gens := (liveG D s.gens).setIfInBounds g y }
  rw [liveG_set h]
theorem live_get {D : Slps} {s : Shared} {g : Nat} (h : D g = none) : (live D s).gens[g]? = s.gens[g]? := by
  show (liveG D s.gens)[g]? = _
  rw [liveG_get, h]
  simp
theorem Dz.off {D : Slps} {s : Shared} {g : Nat} {y : GenState} (z : Dz D s) (h : s.gens[g]? = some y) (hn : ∀ k l c p f b, y ≠ .suspended k l c p f b) : D g = none := by
  cases e : D g with
  | none => rfl
  | some x =>
    have := z.dead g x e
    rw [h] at this
    exact absurd (Option.some.inj this) (hn _ _ _ _ _ _)
theorem Dz.set {D : Slps} {s : Shared} {g : Nat} {y : GenState} (z : Dz D s) (h : D g = none) (hy : ∀ k l c p f b, y = .suspended k l c p f b → splitAtGen f = none) : Dz D (s.setGen g y) := by
  have e : ∀ i, (s.setGen g y).gens[i]? = if g = i then (if g < s.gens.size then some y else none) else s.gens[i]? := fun i => by
    show (s.gens.setIfInBounds g y)[i]? = _
    rw [Array.getElem?_setIfInBounds]
  refine ⟨fun i x q => ?_, fun i k l c p f b q r => ?_⟩
  · have hne : g ≠ i := fun z => by rw [z, q] at h; cases h
    rw [e, if_neg hne]
    exact z.dead i x q
  · rw [e] at r
    split at r
    · split at r
      · exact hy k l c p f b (Option.some.inj r)
      · cases r
    · exact z.clean i k l c p f b q r
theorem Dz.push {D : Slps} {s : Shared} {c : Code} (z : Dz D s) : Dz D { s with gens := s.gens.push (.fresh c) } := by
  have e : ∀ i, ({ s with gens := s.gens.push (.fresh c) } : Shared).gens[i]? = if i = s.gens.size then some (.fresh c) else s.gens[i]? := fun i => by
    show (s.gens.push _)[i]? = _
    rw [Array.getElem?_push]
  refine ⟨fun i x q => ?_, fun i k l c' p f b q r => ?_⟩
  · have := z.dead i x q
    rw [e, if_neg (fun h => by rw [h, Array.getElem?_eq_none (Nat.le_refl _)] at this; cases this)]
    exact this
  · rw [e] at r
    split at r
    · cases r
    · exact z.clean i k l c' p f b q r
theorem live_size {D : Slps} {s : Shared} : (live D s).gens.size = s.gens.size := liveG_size
theorem live_push {D : Slps} {s : Shared} {c : Code} (z : Dz D s) : live D { s with gens := s.gens.push (.fresh c) } = { live D s with gens := (live D s).gens.push (.fresh c) } := by
  show ({ s with gens := liveG D (s.gens.push (.fresh c)) } : Shared) = { s with gens := (liveG D s.gens).push (.fresh c) }
  rw [liveG_push z]
theorem live_state {D : Slps} {s : Shared} {g : Nat} {st : GenState} (z : Dz D s) (hs : s.gens[g]? = some st) : ∃ st', (live D s).gens[g]? = some st' ∧ st'.seen = st.seen := by
  have q : (live D s).gens[g]? = some (match D g with | some x => x.live | none => st) := by
    show (liveG D s.gens)[g]? = _
    rw [liveG_get, hs]; rfl
  refine ⟨_, q, ?_⟩
  cases hD : D g with
  | none => rfl
  | some x =>
    have := z.dead g x hD
    rw [hs] at this
    cases this
    rfl
theorem runs_no {M : Model} {Γ : PySem.Ctx} {p : Pos} {t : Sem PySem.Fin} {fs : List Frame} {s s' : Shared} {e : End} (h : Runs M Γ p t fs s e s') : ∀ w, t ≠ .unsupported w := by
  induction h <;> intro w q <;> first | (cases q; done) | (rename_i ih; exact ih w q) | (rename_i ih _; exact ih w q) | (rename_i ih _ _; exact ih w q) | (rename_i ih _ _ _; exact ih w q)
def CleanE (e : End) : Prop := ∀ v g l k c p f, e = .susp v g l k c p f → splitAtGen f = none
theorem cleanE_state {e : End} (h : CleanE e) : ∀ k l c p f b, e.genState = .suspended k l c p f b → splitAtGen f = none := by
  intro k l c p f b q
  cases e with
  | ret r => cases q
  | susp v g' l' k' c' p' f' => cases q; exact h _ _ _ _ _ _ _ rfl
theorem split_app : ∀ {a b : List Frame}, splitAtGen a = none → splitAtGen b = none → splitAtGen (a ++ b) = none
  | [], b, _, h => h
  | .gen .. :: r, b, h, _ => by simp [splitAtGen] at h
  | .ret .. :: r, b, h, h2 => by
    have h3 : splitAtGen r = none := by
      simp only [splitAtGen, Option.map_eq_none_iff] at h
      exact h
    show splitAtGen (_ :: (r ++ b)) = none
    simp only [splitAtGen, Option.map_eq_none_iff]
    exact split_app h3 h2
theorem runs_live {M : Model} {D : Slps} {Γ : PySem.Ctx} {p : Pos} {t : Sem PySem.Fin} {fs : List Frame} {s s' : Shared} {e : End} (h : Runs M Γ p t fs s e s') : splitAtGen fs = none → Dz D s → Dz D s' ∧ CleanE e ∧ Runs M Γ p t fs (live D s) e (live D s') := by
  induction h with
  | done => exact fun _ z => ⟨z, (fun _ _ _ _ _ _ _ q => by cases q), .done⟩
  | raise => exact fun _ z => ⟨z, (fun _ _ _ _ _ _ _ q => by cases q), .raise⟩
  | again hq _ ih => exact fun f z => let ⟨a, b, c⟩ := ih f z; ⟨a, b, .again hq c⟩
  | rule _ ih => exact fun f z => let ⟨a, b, c⟩ := ih f z; ⟨a, b, .rule c⟩
  | «at» _ ih => exact fun f z => let ⟨a, b, c⟩ := ih f z; ⟨a, b, .at c⟩
  | load ho _ ih => exact fun f z => let ⟨a, b, c⟩ := ih f z; ⟨a, b, .load ho c⟩
  | update ho _ ih => exact fun f z => let ⟨a, b, c⟩ := ih f ⟨z.dead, z.clean⟩; ⟨a, b, .update ho c⟩
  | loadIfAlive _ ih => exact fun f z => let ⟨a, b, c⟩ := ih f z; ⟨a, b, .loadIfAlive c⟩
  | point _ ih => exact fun f z => let ⟨a, b, c⟩ := ih f z; ⟨a, b, .point c⟩
  | alloc _ ih => exact fun f z => let ⟨a, b, c⟩ := ih f ⟨z.dead, z.clean⟩; ⟨a, b, .alloc c⟩
  | fresh _ ih => exact fun f z => let ⟨a, b, c⟩ := ih f ⟨z.dead, z.clean⟩; ⟨a, b, .fresh c⟩
  | ask _ ih => exact fun f z => let ⟨a, b, c⟩ := ih f z; ⟨a, b, .ask c⟩
  | choose hn _ ih => exact fun f z => let ⟨a, b, c⟩ := ih f ⟨z.dead, z.clean⟩; ⟨a, b, .choose hn c⟩
  | os _ ih => exact fun f z => let ⟨a, b, c⟩ := ih f ⟨z.dead, z.clean⟩; ⟨a, b, .os c⟩
  | handled _ ih => exact fun f z => let ⟨a, b, c⟩ := ih f z; ⟨a, b, .handled c⟩
  | genState hs _ ih =>
    intro f z
    obtain ⟨a, b, c⟩ := ih f z
    obtain ⟨st', q, e⟩ := live_state z hs
    exact ⟨a, b, .genState q (by rw [e]; exact c)⟩
  | stack _ ih => exact fun f z => let ⟨a, b, c⟩ := ih f z; ⟨a, b, .stack c⟩
  | thread _ ih => exact fun f z => let ⟨a, b, c⟩ := ih f z; ⟨a, b, .thread c⟩
  | newGen _ ih =>
    intro f z
    obtain ⟨a, b, r⟩ := ih f z.push
    rw [live_push z] at r
    exact ⟨a, b, .newGen (by rw [live_size]; exact r)⟩
  | call _ _ ih1 ih2 =>
    intro f z
    obtain ⟨a1, b1, c1⟩ := ih1 rfl z
    obtain ⟨a2, b2, c2⟩ := ih2 f a1
    exact ⟨a2, b2, .call c1 c2⟩
  | callSusp _ ih =>
    intro f z
    obtain ⟨a1, b1, c1⟩ := ih rfl z
    refine ⟨a1, fun v g l k c p f q => ?_, .callSusp c1⟩
    cases q
    exact split_app (b1 _ _ _ _ _ _ _ rfl) rfl
  | yield => exact fun _ z => ⟨z, (fun _ _ _ _ _ _ _ q => by cases q; rfl), .yield⟩
  | @resumeFresh Γ p g l k s c e₁ s₁ e s' hs _ hq _ ih1 ih2 =>
    intro f z
    have hD : D g = none := z.off hs (fun _ _ _ _ _ _ q => by cases q)
    obtain ⟨a1, b1, c1⟩ := ih1 rfl (z.set hD (fun _ _ _ _ _ _ q => by cases q))
    obtain ⟨a2, b2, c2⟩ := ih2 f (a1.set hD (cleanE_state b1))
    rw [live_setGen hD] at c1 c2
    exact ⟨a2, b2, .resumeFresh (by rw [live_get hD]; exact hs) c1 hq c2⟩
  | @resumeSuspended Γ p g r l k s k₀ l₀ c₀ p₀ fs cl e₁ s₁ e s' hs hr hq _ ih1 ih2 =>
    intro f z
    cases hD : D g with
    | some x =>
      have := z.dead g x hD
      rw [hs] at this
      cases this
      exact absurd rfl (runs_no hr "asleep")
    | none =>
      obtain ⟨a1, b1, c1⟩ := ih1 (z.clean g _ _ _ _ _ _ hD hs) (z.set hD (fun _ _ _ _ _ _ q => by cases q))
      obtain ⟨a2, b2, c2⟩ := ih2 f (a1.set hD (cleanE_state b1))
      rw [live_setGen hD] at c1 c2
      exact ⟨a2, b2, .resumeSuspended (by rw [live_get hD]; exact hs) c1 hq c2⟩
  | resumeJustStarted hs hv _ ih =>
    intro f z
    have hD := z.off hs (fun _ _ _ _ _ _ q => by cases q)
    obtain ⟨a, b, c⟩ := ih f z
    exact ⟨a, b, .resumeJustStarted (by rw [live_get hD]; exact hs) hv c⟩
  | resumeThrowFresh hs _ ih =>
    intro f z
    have hD := z.off hs (fun _ _ _ _ _ _ q => by cases q)
    obtain ⟨a, b, c⟩ := ih f (z.set hD (fun _ _ _ _ _ _ q => by cases q))
    rw [live_setGen hD] at c
    exact ⟨a, b, .resumeThrowFresh (by rw [live_get hD]; exact hs) c⟩
  | resumeRunning hs _ ih =>
    intro f z
    have hD := z.off hs (fun _ _ _ _ _ _ q => by cases q)
    obtain ⟨a, b, c⟩ := ih f z
    exact ⟨a, b, .resumeRunning (by rw [live_get hD]; exact hs) c⟩
  | resumeFinished hs _ ih =>
    intro f z
    have hD := z.off hs (fun _ _ _ _ _ _ q => by cases q)
    obtain ⟨a, b, c⟩ := ih f z
    exact ⟨a, b, .resumeFinished (by rw [live_get hD]; exact hs) c⟩
  | segRet _ _ ih1 ih2 =>
    intro f z
    simp only [splitAtGen, Option.map_eq_none_iff] at f
    obtain ⟨a1, b1, c1⟩ := ih1 rfl z
    obtain ⟨a2, b2, c2⟩ := ih2 f a1
    exact ⟨a2, b2, .segRet c1 c2⟩
  | segGen _ _ ih1 ih2 => intro f z; simp [splitAtGen] at f
  | segSuspOut hsp _ ih =>
    intro f z
    obtain ⟨a1, b1, c1⟩ := ih rfl z
    refine ⟨a1, fun v g l k c p f q => ?_, .segSuspOut hsp c1⟩
    cases q
    exact split_app (b1 _ _ _ _ _ _ _ rfl) hsp
  | segSuspGen hsp _ _ _ _ _ => intro f z; rw [hsp] at f; cases f
/-- a sleeping generator's own run -/
theorem wp_live {α : Type} (M : Model) (D : Slps) (Γ : PySem.Ctx) (t : Sem α) : ∀ (Q : α → Pos → Shared → Prop) (E : Value → Pos → Shared → Prop) (p : Pos) (s : Shared), Dz D s → wp M Γ t Q E p s →
    wp M Γ t (fun a p' s' => ∃ s2, s' = live D s2 ∧ Dz D s2 ∧ Q a p' s2) (fun e p' s' => ∃ s2, s' = live D s2 ∧ Dz D s2 ∧ E e p' s2) p (live D s) := by
  induction t with
  | pure a => intro Q E p s z h; exact ⟨s, rfl, z, h⟩
  | raise e => intro Q E p s z h; exact ⟨s, rfl, z, h⟩
  | unsupported _ => intro Q E p s _ h; exact h
  | finish _ => intro Q E p s _ h; exact h
  | rule _ k ih => intro Q E p s z h; exact ih () Q E p s z h
  | «at» p' k ih => intro Q E p s z h; exact ih () Q E p' s z h
  | load a _ k ih => intro Q E p s z h; obtain ⟨o, ho, h⟩ := h; exact ⟨o, ho, ih o Q E p s z h⟩
  | update a _ f k ih => intro Q E p s z h; exact ⟨h.1, ih () Q E p { s with heap := s.heap.update a f } ⟨z.dead, z.clean⟩ h.2⟩
  | loadIfAlive a k ih => intro Q E p s z h; exact ih _ Q E p s z h
  | point _ k ih => intro Q E p s z h; exact ih () Q E p s z h
  | register _ _ => intro Q E p s _ h; exact h
  | alloc o k ih => intro Q E p s z h; exact ih _ Q E p { s with heap := s.heap.push o } ⟨z.dead, z.clean⟩ h
  | fresh k ih => intro Q E p s z h; exact ih _ Q E p { s with toks := s.toks + 1 } ⟨z.dead, z.clean⟩ h
  | ask k ih => intro Q E p s z h; exact ih _ Q E p s z h
  | choose src m k ih => intro Q E p s z h; exact ⟨h.1, ih _ Q E p { s with drawn := s.drawn.bump src } ⟨z.dead, z.clean⟩ h.2⟩
  | os q _ k ih => intro Q E p s z h; exact ih _ Q E p { s with os := (Os.step s.os q).1 } ⟨z.dead, z.clean⟩ h
  | call c hd _ _ k ih =>
    intro Q E p s z h
    obtain ⟨r, s', hr, h⟩ := h
    obtain ⟨a, b, c⟩ := runs_live (D := D) hr rfl z
    exact ⟨r, live D s', c, ih r Q E p s' a h⟩
  | handled own k ih => intro Q E p s z h; exact ih _ Q E p s z h
  | genState g k ih =>
    intro Q E p s z h
    obtain ⟨st, hs, h⟩ := h
    have q : (live D s).gens[g]? = some (match D g with | some x => x.live | none => st) := by
      show (liveG D s.gens)[g]? = _
      rw [liveG_get, hs]; rfl
    refine ⟨_, q, ?_⟩
    cases hD : D g with
    | none => exact ih _ Q E p s z h
    | some x =>
      have := z.dead g x hD
      rw [hs] at this
      cases this
      exact ih _ Q E p s z h
  | newGen c k ih =>
    intro Q E p s z h
    have e1 : (live D s).gens.size = s.gens.size := liveG_size
    have e2 : live D { s with gens := s.gens.push (.fresh c) } = { live D s with gens := (live D s).gens.push (.fresh c) } := by
      show ({ s with gens := liveG D (s.gens.push (.fresh c)) } : Shared) = { s with gens := (liveG D s.gens).push (.fresh c) }
      rw [liveG_push z]
    have r := ih s.gens.size Q E p { s with gens := s.gens.push (.fresh c) } z.push h
    rw [e2] at r
    show wp M Γ (k (live D s).gens.size) _ _ p { live D s with gens := (live D s).gens.push (.fresh c) }
    rw [e1]
    exact r
  | resume g r _ k ih =>
    intro Q E p s z h
    obtain ⟨res, s', hw, h⟩ := h
    suffices q : Dz D s' ∧ Wakes M Γ p g r (live D s) res (live D s') by exact ⟨res, live D s', q.2, ih res Q E p s' q.1 h⟩
    unfold Wakes at hw ⊢
    cases hD : D g with
    | some x =>
      have hs := z.dead g x hD
      rw [hs] at hw
      obtain ⟨e₁, s₁, hr, _⟩ := hw
      exact absurd rfl (runs_no hr "asleep")
    | none =>
      rw [live_get hD]
      cases hs : s.gens[g]? with
      | none => rw [hs] at hw; exact hw.elim
      | some y =>
        rw [hs] at hw
        cases y with
        | fresh c =>
          cases r with
          | send v =>
            cases v <;> first
              | (obtain ⟨rfl, rfl⟩ := hw; exact ⟨z, rfl, rfl⟩)
              | (obtain ⟨e₁, s₁, hr, hq, hres, rfl⟩ := hw
                 obtain ⟨a1, b1, c1⟩ := runs_live (D := D) hr rfl (z.set hD (fun _ _ _ _ _ _ q => by cases q))
                 rw [live_setGen hD] at c1
                 exact ⟨a1.set hD (cleanE_state b1), e₁, live D s₁, c1, hq, hres, live_setGen hD⟩)
          | throw x =>
            obtain ⟨rfl, rfl⟩ := hw
            exact ⟨z.set hD (fun _ _ _ _ _ _ q => by cases q), rfl, live_setGen hD⟩
        | suspended k₀ l₀ c₀ p₀ fs cl =>
          obtain ⟨e₁, s₁, hr, hq, hres, rfl⟩ := hw
          obtain ⟨a1, b1, c1⟩ := runs_live (D := D) hr (z.clean g _ _ _ _ _ _ hD hs) (z.set hD (fun _ _ _ _ _ _ q => by cases q))
          rw [live_setGen hD] at c1
          exact ⟨a1.set hD (cleanE_state b1), e₁, live D s₁, c1, hq, hres, live_setGen hD⟩
        | running => obtain ⟨rfl, rfl⟩ := hw; exact ⟨z, rfl, rfl⟩
        | finished => obtain ⟨rfl, rfl⟩ := hw; exact ⟨z, rfl, rfl⟩
  | yield _ _ _ _ => intro Q E p s _ h; exact h
  | stack k ih => intro Q E p s z h; exact ih _ Q E p s z h
  | fork _ _ => intro Q E p s _ h; exact h
  | thread k ih => intro Q E p s z h; exact ih _ Q E p s z h
  | await _ _ _ _ _ => intro Q E p s _ h; exact h
/-- those that sleep at s -/
def slpOf (s : Shared) : Slps := fun i => match s.gens[i]? with
  | some (.suspended k l c p f b) => some ⟨k, l, c, p, f, b⟩
  | _ => none
def kill : GenState → GenState
  | .suspended _ l c p f b => .suspended deadK l c p f b
  | .fresh c => .fresh c
  | .running => .running
  | .finished => .finished
def deadG (G : Array GenState) : Array GenState := G.map kill
/-- the same state, where no one that sleeps can be woken -/
def lull (s : Shared) : Shared := { s with gens := deadG s.gens }
theorem lull_get {s : Shared} {i : Nat} : (lull s).gens[i]? = s.gens[i]?.map kill := by simp [lull, deadG]
theorem lull_dz {s : Shared} : Dz (slpOf s) (lull s) := by
  refine ⟨fun i x h => ?_, fun i k l c p f b h q => ?_⟩
  · rw [lull_get]
    unfold slpOf at h
    split at h
    · rename_i k l c p f b e
      cases h
      rw [e]; rfl
    · cases h
  · rw [lull_get] at q
    unfold slpOf at h
    split at h
    · cases h
    · rename_i hn
      cases e : s.gens[i]? with
      | none => rw [e] at q; cases q
      | some y =>
        rw [e] at q
        cases y with
        | suspended k' l' c' p' f' b' => exact absurd e (hn _ _ _ _ _ _)
        | fresh _ => cases q
        | running => cases q
        | finished => cases q
theorem lull_live {s : Shared} : live (slpOf s) (lull s) = s := by
  have e : liveG (slpOf s) (lull s).gens = s.gens := by
    apply Array.ext_getElem?
    intro i
    rw [liveG_get, lull_get]
    unfold slpOf
    cases h : s.gens[i]? with
    | none => rfl
    | some y => cases y <;> rfl
  show ({ s with gens := liveG (slpOf s) (lull s).gens } : Shared) = s
  rw [e]
theorem bare_lull {s : Shared} (h : AllBare s.gens) : AllBare (lull s).gens := fun y hy => by
  obtain ⟨i, hi, e⟩ := Array.mem_iff_getElem.mp hy
  have q : (lull s).gens[i]? = some y := by rw [Array.getElem?_eq_getElem hi, e]
  rw [lull_get] at q
  cases e2 : s.gens[i]? with
  | none => rw [e2] at q; cases q
  | some w =>
    rw [e2] at q
    have hw := h w (Array.mem_of_getElem? e2)
    cases w <;> (cases q; exact hw)
theorem bare_live {D : Slps} {s : Shared} (z : Dz D s) (h : AllBare s.gens) : AllBare (live D s).gens := fun y hy => by
  obtain ⟨i, hi, e⟩ := Array.mem_iff_getElem.mp hy
  have q : (liveG D s.gens)[i]? = some y := by
    have : (live D s).gens[i]? = some y := by rw [Array.getElem?_eq_getElem hi, e]
    exact this
  rw [liveG_get] at q
  cases e2 : s.gens[i]? with
  | none => rw [e2] at q; cases q
  | some w =>
    rw [e2] at q
    have hw := h w (Array.mem_of_getElem? e2)
    cases hD : D i with
    | none => rw [hD] at q; cases q; exact hw
    | some x =>
      rw [hD] at q
      cases q
      have := z.dead i x hD
      rw [e2] at this
      cases this
      exact hw
/-- the sleepers of s stand as they stood -/
def KeptG (s s' : Shared) : Prop := ∀ (i : Nat) k l c p f b, s.gens[i]? = some (GenState.suspended k l c p f b) → s'.gens[i]? = some (GenState.suspended k l c p f b)
theorem kept_of {s s2 : Shared} (z : Dz (slpOf s) s2) : KeptG s (live (slpOf s) s2) := fun i k l c p f b h => by
  have hD : slpOf s i = some ⟨k, l, c, p, f, b⟩ := by unfold slpOf; rw [h]
  show (liveG _ s2.gens)[i]? = _
  rw [liveG_get, z.dead i _ hD, hD]
  rfl
/-- THE RULE: what is shown ahead of the sleepers, for every state -/
theorem wpAny_lull {α : Type} {M : Model} {A : Around} {t : Sem α} {Q : α → Shared → Prop} {E : Value → Shared → Prop} {s : Shared} (h : wpAny M A t Q E (lull s)) :
    wpAny M A t (fun a s' => ∃ s2, s' = live (slpOf s) s2 ∧ Dz (slpOf s) s2 ∧ Q a s2) (fun e s' => ∃ s2, s' = live (slpOf s) s2 ∧ Dz (slpOf s) s2 ∧ E e s2) s := fun Γ p hΓ => by
  have := wp_live M (slpOf s) Γ t _ _ p (lull s) lull_dz (h Γ p hΓ)
  rw [lull_live] at this
  exact this
end MP

/-! GN 1: a generator's run to its next rest, by what is wanted there. -/
namespace MP
open PySem PySem.Spec PyProof.Rows L2 GenW
open Sem (wp)
abbrev NoX : Value → Shared → Prop := fun _ _ => False
/-- from here the code comes to an end or a rest that P wants -/
def SegX (M : Model) (A : Around) (P : End → Shared → Prop) (c : Code) (t : Sem PySem.Fin) (fs : List Frame) (s : Shared) : Prop :=
  ∀ (Γ : PySem.Ctx) (p : Pos), Γ.code = c → Γ.Woken A → ∃ e s', Runs M Γ p t fs s e s' ∧ P e s'
section
variable {M : Model} {A : Around} {P : End → Shared → Prop} {c : Code} {fs : List Frame} {s : Shared} {env : Env} {α β : Type}
variable {K : Flow → Sem PySem.Fin} {J : Value → Sem PySem.Fin} {gd : Bool → Bool} {lv : List Value → List Value}
theorem sx_wrap {m : Sem α} {K : α → Sem PySem.Fin} {J : Value → Sem PySem.Fin} (h : wpAny M (A.over c fs) m (fun a s' => SegX M A P c (K a) fs s') NoX s) :
    SegX M A P c (m.wrap K J gd lv) fs s := by
  intro Γ p hc hw
  subst hc
  exact runs_wrap_of_wp K J gd lv m (h (Γ.over fs) p (hw.over fs)) (fun a p' s' q => q Γ p' rfl hw) fun x p' s' q => q.elim
/-- the head of a bind -/
theorem sx_bind {m : Sem α} {f : α → Sem β} {K : β → Sem PySem.Fin} {J : Value → Sem PySem.Fin} (h : wpAny M (A.over c fs) m (fun a s' => SegX M A P c ((f a).wrap K J gd lv) fs s') NoX s) :
    SegX M A P c ((m >>= f).wrap K J gd lv) fs s := by
  rw [Sem.bind_eq_wrap' m f, Sem.wrap_wrap]
  exact sx_wrap h
theorem sx_bind0 {m : Sem α} {f : α → Sem PySem.Fin} (h : wpAny M (A.over c fs) m (fun a s' => SegX M A P c (f a) fs s') NoX s) : SegX M A P c (m >>= f) fs s := by
  rw [Sem.bind_eq_wrap' m f]
  exact sx_wrap h
theorem sx_call {c' : Code} {h : Option Value} {g : Bool} {l : List Value} {k : Result → Sem PySem.Fin} (hc : ∀ p, SegX M A P c' (M.den c') (.ret k h g l c p [] :: fs) s) : SegX M A P c (.call c' h g l k) fs s := by
  intro Γ p e hw
  subst e
  obtain ⟨e, s', hr, he⟩ := hc p (Γ.goto c') p rfl (hw.goto c')
  exact ⟨e, s', runs_call_seg hr, he⟩
theorem sx_leaf {k : Result → Sem PySem.Fin} {h : Option Value} {g : Bool} {l kp : List Value} {c₁ : Code} {p₁ : Pos} (r : Result) (hk : SegX M A P c₁ (k r) fs s) : SegX M A P c (leafOf r) (.ret k h g l c₁ p₁ kp :: fs) s := by
  intro Γ p e hw
  subst e
  obtain ⟨e, s', hr, he⟩ := hk (Γ.goto c₁) p₁ rfl (hw.goto c₁)
  exact ⟨e, s', hr.pop r, he⟩
theorem sx_again {c' : Code} (hq : c'.quiet = true) (hc : SegX M A P c' (M.den c') fs s) : SegX M A P c (.pure (.again c')) fs s := by
  intro Γ p e hw
  subst e
  obtain ⟨e, s', hr, he⟩ := hc (Γ.goto c') p rfl (hw.goto c')
  exact ⟨e, s', Runs.head (c₁ := c') (fun _ _ x => .again hq x) hr, he⟩
theorem sx_end (r : Result) (h : P (.ret r) s) : SegX M A P c (leafOf r) [] s := fun Γ p _ _ => ⟨.ret r, s, Runs.leaf r, h⟩
theorem sx_yield {v : Value} {g : Bool} {l : List Value} {k : Resume → Sem PySem.Fin} (hfs : splitAtGen fs = none) (h : ∀ p, P (.susp v g l k c p fs) s) : SegX M A P c (.yield v g l k) fs s := by
  intro Γ p e _
  subst e
  exact ⟨_, s, Runs.yield' fs hfs, h p⟩
theorem sx_imp {P' : End → Shared → Prop} {t : Sem PySem.Fin} (hP : ∀ e s, P e s → P' e s) (h : SegX M A P c t fs s) : SegX M A P' c t fs s := fun Γ p hc hw =>
  let ⟨e, s', hr, he⟩ := h Γ p hc hw
  ⟨e, s', hr, hP e s' he⟩
theorem sx_nil (h : SegX M A P c (K .next) fs s) : SegX M A P c ((PySem.execs [] env).wrap K J gd lv) fs s := h
theorem sx_cons {st : PySem.Stmt} {rest : List PySem.Stmt} (h : SegX M A P c ((PySem.exec st env).wrap (fun f => match f with | .next => (PySem.execs rest env).wrap K J gd lv | f => K f) J gd lv) fs s) : SegX M A P c ((PySem.execs (st :: rest) env).wrap K J gd lv) fs s := by
  rw [execs_cons_wrap]
  exact h
/-- yield e -/
theorem sx_Yield {e : Expr} {yp pos : Pos} (hfs : splitAtGen fs = none) (hco : env.scope.isCoroutine = false) (hi : interactive env = false)
    (h : wpAny M (A.over c fs) (eval e env) (fun v s' => ∀ (p : Pos) (k : Resume → Sem PySem.Fin) (l : List Value), (∀ (P' : End → Shared → Prop) s'', SegX M A P' c (K .next) fs s'' → SegX M A P' c (k (.send .none)) fs s'') → P (.susp v (gd false) l k c p fs) s') NoX s) :
    SegX M A P c ((PySem.exec (.Expr (.Yield (some e) yp) pos) env).wrap K J gd lv) fs s := by
  rw [exec_Expr env _ pos hi rfl]
  have hy : ∀ v, yieldOut env v = yieldValue v := fun v => by
    unfold yieldOut
    rw [hco]
    rfl
  refine sx_bind (m := standAt pos) (wpAny_standAt ?_)
  show SegX M A P c ((((eval e env >>= fun v => (standAt yp >>= fun _ => yieldOut env v)) >>= fun x => dropValue (.Yield (some e) yp) pos x)).wrap K J gd lv) fs s
  simp only [hy]
  rw [Sem.bind_eq_wrap' (eval e env >>= _), Sem.wrap_wrap]
  refine sx_bind (wpAny_mono h (fun v s' q => ?_) fun _ _ z => z)
  refine sx_bind (m := standAt yp) (wpAny_standAt ?_)
  refine sx_yield hfs fun p => q p _ _ fun P' s'' z => ?_
  exact z
end
section
variable {prog : Program} {w : World} {A : Around} {P : End → Shared → Prop} {c : Code} {fs : List Frame} {s : Shared} {env : Env}
variable {K : Flow → Sem PySem.Fin} {J : Value → Sem PySem.Fin} {gd : Bool → Bool} {lv : List Value → List Value}
theorem sx_func {body : List PySem.Stmt} (h : SegX (model prog w) A P (.func body env) ((PySem.execs body env).wrap (fun f => .pure (.done (.ret (match f with | .ret v => v | _ => .none)))) (fun e => (leaving env e).wrap (fun _ => .raise e) .raise id id) id id) fs s) :
    SegX (model prog w) A P (.func body env) ((model prog w).den (.func body env)) fs s := by
  show SegX _ A P _ ((point : Sem Unit) >>= fun _ => ((PySem.execs body env).onRaise (leaving env)) >>= _) fs s
  refine sx_bind0 (m := (point : Sem Unit)) (wpAny_point ?_)
  rw [Sem.onRaise_eq_wrap, Sem.bind_eq_wrap', Sem.wrap_wrap]
  rw [Sem.wrap_congr (PySem.execs body env) _ _ (K' := fun f => .pure (.done (.ret (match f with | .ret v => v | _ => .none)))) (H' := fun e => (leaving env e).wrap (fun _ => .raise e) .raise id id) (fun f => by cases f <;> rfl) (fun e => by
    rw [Sem.bind_eq_wrap, Sem.wrap_wrap]
    rfl)]
  exact h
/-- a loop's own frame -/
def ownK (env : Env) (K : Flow → Sem PySem.Fin) (J : Value → Sem PySem.Fin) (gd : Bool → Bool) (lv : List Value → List Value) : Result → Sem PySem.Fin := fun r => ((match r with | .ok f => (.pure f : Sem Flow) | .error e => .raise e).onRaise fun (x : Value) => do
  if (← field x 1) == Value.none then unsupported "frame.own-activation:exception-without-traceback"
  setFlight x env.frame).wrap K J gd lv
theorem sx_runOwn {c' : Code} (h : ∀ p, SegX (model prog w) A P c' ((model prog w).den c') (.ret (ownK env K J gd lv) none (gd false) (lv []) c p [] :: fs) s) : SegX (model prog w) A P c ((runOwn c' env).wrap K J gd lv) fs s := sx_call h
theorem sx_For {target iter : Expr} {body : List PySem.Stmt} {pos : Pos} (hs : ∀ x, foldedSetIterable iter env x = pure x)
    (h : wpAny (model prog w) (A.over c fs) (eval iter env) (fun v s1 => wpAny (model prog w) (A.over c fs) (pyIter v) (fun it s2 => ∀ p, SegX (model prog w) A P (.forLoop target it body [] env) ((model prog w).den (.forLoop target it body [] env)) (.ret (ownK env K J gd lv) none (gd false) (lv []) c p [] :: fs) s2) NoX s1) NoX s) :
    SegX (model prog w) A P c ((PySem.exec (.For target iter body [] pos) env).wrap K J gd lv) fs s := by
  rw [exec_For]
  refine sx_bind (m := standAt pos) (wpAny_standAt ?_)
  refine sx_bind (wpAny_mono h (fun v s1 q => ?_) fun _ _ z => z)
  refine sx_bind (wpAny_of_eq (hs v) ?_)
  refine sx_bind (m := standAt iter.pos) (wpAny_standAt ?_)
  refine sx_bind (wpAny_holding (wpAny_mono q (fun it s2 q2 => ?_) fun _ _ z => z))
  exact sx_runOwn q2
/-- a loop's turn ends -/
def loopK (target : Expr) (it : Value) (body : List PySem.Stmt) (env : Env) : Flow → Sem PySem.Fin := fun f => match f with
  | .next | .cont => .pure (.again (.forLoop target it body [] env))
  | .brk => .pure (.done .next)
  | .ret v => .pure (.done (.ret v))
def loopJ (env : Env) : Value → Sem PySem.Fin := fun e => (do noteFrame e env; theTreesLotGoes e : Sem Unit).bind fun _ => .raise e
theorem sx_forLoop {target : Expr} {it : Value} {body : List PySem.Stmt}
    (h : wpAny (model prog w) (A.over (.forLoop target it body [] env) fs) (pyNext it) (fun r s1 => match r with
      | none => SegX (model prog w) A P (.block [] env) (.pure (.done .next)) fs s1
      | some v => wpAny (model prog w) (A.over (.forLoop target it body [] env) fs) (letOwnedTupleGo target it v) (fun _ s2 => wpAny (model prog w) (A.over (.forLoop target it body [] env) fs) (assign target env v) (fun _ s3 =>
          SegX (model prog w) A P (.forLoop target it body [] env) ((PySem.execs body env).wrap (loopK target it body env) (loopJ env) id id) fs s3) NoX s2) NoX s1) NoX s) :
    SegX (model prog w) A P (.forLoop target it body [] env) ((model prog w).den (.forLoop target it body [] env)) fs s := by
  show SegX _ A P _ ((forTurn target it body [] env).onRaise (fun x => do noteFrame x env; theTreesLotGoes x)) fs s
  rw [Sem.onRaise_eq_wrap]
  unfold forTurn
  refine sx_bind (m := standAt target.pos) (wpAny_standAt ?_)
  refine sx_bind (wpAny_onRaise (wpAny_mono h (fun r s1 q => ?_) fun _ _ z => z.elim))
  cases r with
  | none =>
    refine sx_again rfl ?_
    exact q
  | some v =>
    refine sx_bind (wpAny_mono q (fun _ s2 q2 => ?_) fun _ _ z => z)
    refine sx_bind (wpAny_mono q2 (fun _ s3 q3 => ?_) fun _ _ z => z)
    rw [Sem.bind_eq_wrap', Sem.wrap_wrap]
    rw [Sem.wrap_congr (PySem.execs body env) _ _ (K' := loopK target it body env) (H' := loopJ env) (fun f => by cases f <;> rfl) (fun e => by rfl)]
    exact q3
theorem sx_If {test : Expr} {a b : List PySem.Stmt} {pos : Pos} (h : wpAny (model prog w) (A.over c fs) (isTrue test env (eval test env)) (fun k s' => SegX (model prog w) A P c ((PySem.execs (if k = true then a else b) env).wrap K J gd lv) fs s') NoX s) :
    SegX (model prog w) A P c ((PySem.exec (.If test a b pos) env).wrap K J gd lv) fs s := by
  show SegX _ A P c ((standAt pos >>= fun _ => (isTrue test env (eval test env)) >>= fun k => if k = true then PySem.execs a env else PySem.execs b env).wrap K J gd lv) fs s
  refine sx_bind (m := standAt pos) (wpAny_standAt ?_)
  refine sx_bind (wpAny_mono h (fun k s' q => ?_) fun _ _ z => z)
  cases k <;> exact q
end
/-- a generator is woken -/
theorem wpAny_resumeX {M : Model} {A : Around} {P : End → Shared → Prop} {E : Value → Shared → Prop} {s : Shared} {g : Nat} {c : Code} {t : Sem PySem.Fin} {fs : List Frame} {l : List Value} {α : Type} {k : GenResult → Sem α} {Q : α → Shared → Prop}
    (hg : s.gens[g]? = some (.fresh c) ∧ t = M.den c ∧ fs = [] ∨ ∃ k₀ l₀ p₀ b, s.gens[g]? = some (.suspended k₀ l₀ c p₀ fs b) ∧ t = k₀ (.send .none))
    (hgo : SegX M A P c t fs (s.setGen g .running)) (hq : ∀ e s', P e s' → e.quiet = true) (hk : ∀ e s', P e s' → wpAny M A (k e.result) Q E (s'.setGen g e.genState)) :
    wpAny M A (.resume g (.send .none) l k) Q E s := by
  intro Γ p hΓ
  rw [Sem.wp_resume]
  rcases hg with ⟨hg, rfl, rfl⟩ | ⟨k₀, l₀, p₀, b, hg, rfl⟩
  · obtain ⟨e, s', hr, he⟩ := hgo (Γ.wake c p) p rfl (hΓ.wake c p)
    refine ⟨_, _, ?_, hk e s' he Γ p hΓ⟩
    unfold Wakes
    rw [hg]
    exact ⟨e, s', hr, hq e s' he, rfl, rfl⟩
  · obtain ⟨e, s', hr, he⟩ := hgo (Γ.wake c p) p₀ rfl (hΓ.wake c p)
    refine ⟨_, _, ?_, hk e s' he Γ p hΓ⟩
    unfold Wakes
    rw [hg]
    exact ⟨e, s', hr, hq e s' he, rfl, rfl⟩
end MP

/-! GN 2: a generator's body: what it hands out, whatever its consumer does between. -/
namespace MP
open PySem PySem.Spec PyProof.Rows L2 GenW
/-- a generator's frame -/
structure GD where
  prog : Program
  w : World
  K : PySem.W.Frag
  mg : Str → Option Value
  base : Heap
  N : List Str
  env : Env
  outer : List Env
  A : Around
  Aw : Around
  pn : List (Addr × Obj)
def GD.X (G : GD) (s0 : Shared) (H0 : Hp) : Cx where
  prog := G.prog
  w := G.w
  K := G.K
  mg := G.mg
  base := G.base
  A := G.A
  N := G.N
  s_0 := s0
  H_0 := H0
  env := G.env
  outer := G.outer
  stack := G.env :: G.outer
  ex := []
  fn := fun _ => true
  calm := true
  pn := G.pn
  xe := NoX
def WN : WX := fun _ _ _ _ => False
/-- what is wanted at the next rest: ys are still to come -/
def PO (G : GD) : List PV → Shared → Hp → Pl → End → Shared → Prop
  | [], s0, H0, P0 => fun e s' => e = .ret (.ok (.ret .none)) ∧ ∃ (ip' : List (Addr × Obj)) (σ' : L2.St) (H' : Hp) (P' : Pl) (L' : List HObj), Inv (G.X s0 H0) ip' σ' H' s' ∧ Rel G.K G.mg P' L' H' ∧ Ext P0 H0 P' H'
  | y :: ys, s0, H0, P0 => fun e s' => ∃ (v : Value) (l : List Value) (k : Resume → Sem PySem.Fin) (c' : Code) (p : Pos) (fs' : List Frame) (ρ' : Env') (L' : List HObj) (ip' : List (Addr × Obj)) (σ' : L2.St) (H' : Hp) (P' : Pl) (x : V),
      e = .susp v false l k c' p fs' ∧ e.quiet = true ∧ L'.all isLst = true ∧ y.under 0 = true ∧ RelV x v ∧ RV G.K G.mg P' H' y x ∧ Inv (G.X s0 H0) ip' σ' H' s' ∧ Rel G.K G.mg P' L' H' ∧ RE G.K G.mg P' H' ρ' σ' ∧ Ext P0 H0 P' H' ∧
      ∀ (s0 : Shared) (H0 : Hp) (P0 P : Pl) (H : Hp) (s : Shared) (σ : L2.St), s0.heap.objs.size = G.env.locals → Inv (G.X s0 H0) ip' σ H s → Rel G.K G.mg P L' H → RE G.K G.mg P H ρ' σ → Ext P0 H0 P H → SegX (model G.prog G.w) G.Aw (PO G ys s0 H0 P0) c' (k (.send .none)) fs' s
/-- from here ys come, and then the end -/
def KOk (G : GD) (ys : List PV) (ip : List (Addr × Obj)) (c : Code) (fs : List Frame) (t : Sem PySem.Fin) (ρ : Env') (L : List HObj) : Prop :=
  ∀ (s0 : Shared) (H0 : Hp) (P0 P : Pl) (H : Hp) (s : Shared) (σ : L2.St), s0.heap.objs.size = G.env.locals → Inv (G.X s0 H0) ip σ H s → Rel G.K G.mg P L H → RE G.K G.mg P H ρ σ → Ext P0 H0 P H → SegX (model G.prog G.w) G.Aw (PO G ys s0 H0 P0) c t fs s
section
variable {G : GD} {ys : List PV} {ip : List (Addr × Obj)} {c : Code} {fs : List Frame} {ρ ρ' : Env'} {L L' : List HObj} {K : Flow → Sem PySem.Fin} {J : Value → Sem PySem.Fin} {gd : Bool → Bool} {lv : List Value → List Value}
theorem k_nil (h : KOk G ys ip c fs (K .next) ρ L) : KOk G ys ip c fs ((PySem.execs [] G.env).wrap K J gd lv) ρ L := h
theorem k_cons {st : PySem.Stmt} {rest : List PySem.Stmt} (h : KOk G ys ip c fs ((PySem.exec st G.env).wrap (fun f => match f with | .next => (PySem.execs rest G.env).wrap K J gd lv | f => K f) J gd lv) ρ L) :
    KOk G ys ip c fs ((PySem.execs (st :: rest) G.env).wrap K J gd lv) ρ L := fun s0 H0 P0 P H s σ z0 I R re e => sx_cons (h s0 H0 P0 P H s σ z0 I R re e)
/-- statements that hand out nothing -/
theorem k_plain {sts : List PySem.Stmt} {x : Env' → List HObj → SOut} (ho : G.Aw.over c fs = G.A) (hp : ∀ s0 H0, PSsi (G.X s0 H0) WN none none sts x) (hx : x ρ L = .next ρ' L') (hk : KOk G ys ip c fs (K .next) ρ' L') :
    KOk G ys ip c fs ((PySem.execs sts G.env).wrap K J gd lv) ρ L := fun s0 H0 P0 P H s σ z0 I R re e => by
  refine sx_wrap ?_
  rw [ho]
  refine wpAny_mono ((hp s0 H0).run ip s σ H { nx := fun σ2 H2 => ∃ P2, Ext P H P2 H2 ∧ Lay G.K G.mg none none P2 L' H2 ρ' σ2, rt := fun _ _ => False } I ⟨P, L, ρ, ⟨R, re, trivial⟩, ?_⟩) (fun f s' q => ?_) fun _ _ z => z
  · rw [hx]
    exact fun P2 H2 σ2 e2 l2 => ⟨P2, e2, l2⟩
  · cases f with
    | next =>
      obtain ⟨σ2, H2, I2, P2, e2, l2⟩ := q
      exact hk s0 H0 P0 P2 H2 s' σ2 z0 I2 l2.R l2.re (e.trans e2)
    | brk => obtain ⟨_, _, _, z⟩ := q; exact z.elim
    | cont => obtain ⟨_, _, _, z⟩ := q; exact z.elim
    | ret u => obtain ⟨_, _, _, _, _, z⟩ := q; exact z.elim
/-- one statement -/
theorem k_plain1 {st : PySem.Stmt} {x : Env' → List HObj → SOut} (ho : G.Aw.over c fs = G.A) (hp : ∀ s0 H0, PSi (G.X s0 H0) WN none none st x) (hx : x ρ L = .next ρ' L') (hk : KOk G ys ip c fs (K .next) ρ' L') :
    KOk G ys ip c fs ((PySem.exec st G.env).wrap K J gd lv) ρ L := fun s0 H0 P0 P H s σ z0 I R re e => by
  refine sx_wrap ?_
  rw [ho]
  refine wpAny_mono ((hp s0 H0).run ip s σ H { nx := fun σ2 H2 => ∃ P2, Ext P H P2 H2 ∧ Lay G.K G.mg none none P2 L' H2 ρ' σ2, rt := fun _ _ => False } I ⟨P, L, ρ, ⟨R, re, trivial⟩, ?_⟩) (fun f s' q => ?_) fun _ _ z => z
  · rw [hx]
    exact fun P2 H2 σ2 e2 l2 => ⟨P2, e2, l2⟩
  · cases f with
    | next =>
      obtain ⟨σ2, H2, I2, P2, e2, l2⟩ := q
      exact hk s0 H0 P0 P2 H2 s' σ2 z0 I2 l2.R l2.re (e.trans e2)
    | brk => obtain ⟨_, _, _, z⟩ := q; exact z.elim
    | cont => obtain ⟨_, _, _, z⟩ := q; exact z.elim
    | ret u => obtain ⟨_, _, _, _, _, z⟩ := q; exact z.elim
/-- yield e -/
theorem k_yield {e : Expr} {yp pos : Pos} {m : Env' → M PV} {y : PV} (ho : G.Aw.over c fs = G.A) (hfs : splitAtGen fs = none) (hgu : fs.any Frame.guarded = false) (hgd : gd false = false) (hco : G.env.scope.isCoroutine = false) (hi : interactive G.env = false)
    (hp : ∀ s0 H0, PEi (G.X s0 H0) WN none none e m) (hm : m ρ L = .ok y L') (hL : L'.all isLst = true) (hy : y.under 0 = true) (hk : KOk G ys ip c fs (K .next) ρ L') :
    KOk G (y :: ys) ip c fs ((PySem.exec (.Expr (.Yield (some e) yp) pos) G.env).wrap K J gd lv) ρ L := fun s0 H0 P0 P H s σ z0 I R re ex => by
  refine sx_Yield hfs hco hi ?_
  rw [ho]
  refine wpAny_mono ((hp s0 H0).run ip s σ H (fun x H2 => ∃ P2, Ext P H P2 H2 ∧ Rel G.K G.mg P2 L' H2 ∧ RV G.K G.mg P2 H2 y x) I ⟨P, L, ρ, ⟨R, re, trivial⟩, ?_⟩) (fun v s' q => ?_) fun _ _ z => z
  · rw [hm]
    exact fun P2 H2 e2 R2 u ru => ⟨P2, e2, R2, ru⟩
  · obtain ⟨x, H2, I2, rv, P2, e2, R2, ry⟩ := q
    intro p k l hkk
    refine ⟨v, l, k, c, p, fs, ρ, L', ip, σ, H2, P2, x, by rw [hgd], ?_, hL, hy, rv, ry, I2, R2, re.mono e2, ex.trans e2, fun s0' H0' P0' P' H' s'' σ' z' I' R' re' e' => hkk _ s'' (hk s0' H0' P0' P' H' s'' σ' z' I' R' re' e')⟩
    rw [hgd]
    show (End.susp v false l k c p fs).quiet = true
    simp [End.quiet, hgu]
end
end MP

/-! GN 3: a for loop that hands out. -/
namespace MP
open PySem PySem.Spec PyProof.Rows L2 GenW
/-- where the code stands -/
structure GCo (G : GD) (c : Code) (fs : List Frame) (gd : Bool → Bool) : Prop where
  over : G.Aw.over c fs = G.A
  split : splitAtGen fs = none
  guard : fs.any Frame.guarded = false
  gd : gd false = false
theorem GCo.loop {G : GD} {c c' : Code} {fs : List Frame} {gd : Bool → Bool} {k : Result → Sem PySem.Fin} {l kp : List Value} {p : Pos} (g : GCo G c fs gd) (hw : c'.weight = 0) (hu : c'.cUnits = 0) : GCo G c' (.ret k none (gd false) l c p kp :: fs) id where
  over := (over_loop hw hu).trans g.over
  split := by
    show (splitAtGen fs).map _ = none
    rw [g.split]; rfl
  guard := by
    show (gd false || fs.any Frame.guarded) = false
    rw [g.gd, g.guard]; rfl
  gd := rfl
/-- these statements hand out outs on their way from ρ L to ρ' L' -/
abbrev BR := Env' → List HObj → List PV → Env' → List HObj → Prop
def GJ (G : GD) (sts : List PySem.Stmt) (B : BR) : Prop :=
  ∀ (ys : List PV) (ip : List (Addr × Obj)) (c : Code) (fs : List Frame) (K : Flow → Sem PySem.Fin) (J : Value → Sem PySem.Fin) (gd : Bool → Bool) (lv : List Value → List Value) (ρ ρ' : Env') (L L' : List HObj) (outs : List PV), GCo G c fs gd → B ρ L outs ρ' L' →
    KOk G ys ip c fs (K .next) ρ' L' → KOk G (outs ++ ys) ip c fs ((PySem.execs sts G.env).wrap K J gd lv) ρ L
def GJ1 (G : GD) (st : PySem.Stmt) (B : BR) : Prop :=
  ∀ (ys : List PV) (ip : List (Addr × Obj)) (c : Code) (fs : List Frame) (K : Flow → Sem PySem.Fin) (J : Value → Sem PySem.Fin) (gd : Bool → Bool) (lv : List Value → List Value) (ρ ρ' : Env') (L L' : List HObj) (outs : List PV), GCo G c fs gd → B ρ L outs ρ' L' →
    KOk G ys ip c fs (K .next) ρ' L' → KOk G (outs ++ ys) ip c fs ((PySem.exec st G.env).wrap K J gd lv) ρ L
def brNil : BR := fun ρ L outs ρ' L' => outs = [] ∧ ρ' = ρ ∧ L' = L
def brThen (A B : BR) : BR := fun ρ L outs ρ' L' => ∃ o1 ρ1 L1 o2, A ρ L o1 ρ1 L1 ∧ B ρ1 L1 o2 ρ' L' ∧ outs = o1 ++ o2
def brPlain (x : Env' → List HObj → SOut) : BR := fun ρ L outs ρ' L' => outs = [] ∧ x ρ L = .next ρ' L'
def brYield (m : Env' → M PV) : BR := fun ρ L outs ρ' L' => ∃ y, outs = [y] ∧ ρ' = ρ ∧ m ρ L = .ok y L' ∧ L'.all isLst = true ∧ y.under 0 = true
def brLoop (B : BR) (t : Tg) : List PV → BR
  | [] => brNil
  | x :: xs => fun ρ L outs ρ' L' => ∃ ρ1, bindT t x ρ = some ρ1 ∧ brThen B (brLoop B t xs) ρ1 L outs ρ' L'
def brFor (m : Env' → M PV) (B : BR) (t : Tg) : BR := fun ρ L outs ρ' L' => ∃ (j : Int) (L1 : List HObj), m ρ L = .ok (.int j) L1 ∧ smallI j = true ∧ brLoop B t (rangeP 0 j.toNat) ρ L1 outs ρ' L'
section
variable {G : GD} {st : PySem.Stmt} {rest body : List PySem.Stmt} {A B : BR}
theorem gj_nil : GJ G [] brNil := fun ys ip c fs K J gd lv ρ ρ' L L' outs g b hk => by
  obtain ⟨rfl, rfl, rfl⟩ := b
  exact k_nil hk
theorem gj_cons (a : GJ1 G st A) (b : GJ G rest B) : GJ G (st :: rest) (brThen A B) := fun ys ip c fs K J gd lv ρ ρ' L L' outs g ab hk => by
  obtain ⟨o1, ρ1, L1, o2, h1, h2, rfl⟩ := ab
  rw [List.append_assoc]
  exact k_cons (a (o2 ++ ys) ip c fs _ J gd lv ρ ρ1 L L1 o1 g h1 (b ys ip c fs K J gd lv ρ1 ρ' L1 L' o2 g h2 hk))
theorem gj_plain {x : Env' → List HObj → SOut} (hp : ∀ s0 H0, PSi (G.X s0 H0) WN none none st x) : GJ1 G st (brPlain x) := fun ys ip c fs K J gd lv ρ ρ' L L' outs g b hk => by
  obtain ⟨rfl, hx⟩ := b
  exact k_plain1 g.over hp hx hk
theorem gj_yield {e : Expr} {yp pos : Pos} {m : Env' → M PV} (hco : G.env.scope.isCoroutine = false) (hi : interactive G.env = false) (hp : ∀ s0 H0, PEi (G.X s0 H0) WN none none e m) : GJ1 G (.Expr (.Yield (some e) yp) pos) (brYield m) := fun ys ip c fs K J gd lv ρ ρ' L L' outs g b hk => by
  obtain ⟨y, rfl, rfl, hm, hL, hy⟩ := b
  exact k_yield g.over g.split g.guard g.gd hco hi hp hm hL hy hk
end
/-- range(a), by the number itself -/
theorem it_rangeJ {X : Cx} {W : WX} {tg a : Expr} {m : Env' → M PV} {p pos : Pos} {ρ : Env'} {L L1 : List HObj} {j : Int} (hg : Gl X "range") (hmg : X.mg "range" = none) (ha : PEi X W none none a m) (hs : noStar a = true) (hm : m ρ L = .ok (.int j) L1) (hj : smallI j = true) :
    PI X tg (.Call (.Name "range" p) [a] [] pos) (fun σ H R => ∃ P, Lay X.K X.mg none none P L H ρ σ ∧ ∀ P1 H1, Ext P H P1 H1 → Lay X.K X.mg none none P1 L1 H1 ρ σ → R (Itr 0 j.toNat) H1) := by
  have h0 := pi_range1 (tg := tg) (pos := pos) (p := p) hg hmg (pa_cons ha pa_nil (star1 hs)) (star1 hs)
  refine ⟨fun pins s σ H R I h => h0.run pins s σ H R I ?_⟩
  obtain ⟨P, l, h⟩ := h
  have hp : Post X.K X.mg (WE W σ) P H (bnd (m ρ) (fun x L2 => Out.ok x L2) L) (fun x L2 P2 H2 => x = .int j ∧ L2 = L1 ∧ Ext P H P2 H2 ∧ Rel X.K X.mg P2 L1 H2) := by
    have e : bnd (m ρ) (fun x L2 => Out.ok x L2) L = .ok (.int j) L1 := by
      unfold bnd
      rw [hm]
    rw [e]
    exact fun P2 H2 e2 R2 => ⟨rfl, rfl, e2, R2⟩
  refine t1 (k := fun x L2 => Out.ok x L2) l hp fun x L2 P1 H1 u e1 l1 ru h1 => ?_
  obtain ⟨rfl, rfl, _, _⟩ := Post.ok (E := WE W σ) (a := x) h1 l1.R
  have hc' := small_of hj
  exact ⟨j, by rw [show u = _ from ru], hc'.1, hc'.2, h P1 H1 e1 l1⟩
section
variable {G : GD} {body : List PySem.Stmt} {B : BR}
theorem gj_for {tg a : Expr} {t : Tg} {m : Env' → M PV} {p pos ipos : Pos} (hg : ∀ s0 H0, Gl (G.X s0 H0) "range") (hmg : G.mg "range" = none) (ha : ∀ s0 H0, PEi (G.X s0 H0) WN none none a m) (hs : noStar a = true) (htg : ∀ s0 H0, PG (G.X s0 H0) tg (gTg G.K t))
    (hfs : ∀ x, foldedSetIterable (.Call (.Name "range" p) [a] [] ipos) G.env x = pure x) (hb : GJ G body B) : GJ1 G (.For tg (.Call (.Name "range" p) [a] [] ipos) body [] pos) (brFor m B t) := by
  intro ys ip c fs K J gd lv ρ ρ' L L' outs g b hk
  obtain ⟨j, L1, hm, hj, hl⟩ := b
  intro s0 H0 P0 P H s σ z0 I R re e
  refine sx_For hfs ?_
  rw [g.over]
  refine wpAny_mono ((it_rangeJ (X := G.X s0 H0) (tg := tg) (p := p) (pos := ipos) (hg s0 H0) hmg (ha s0 H0) hs hm hj).run ip s σ H (fun It H1 => It = Itr 0 j.toNat ∧ ∃ P1, Ext P H P1 H1 ∧ Lay G.K G.mg none none P1 L1 H1 ρ σ) I ⟨P, ⟨R, re, trivial⟩, fun P1 H1 e1 l1 => ⟨rfl, P1, e1, l1⟩⟩) (fun v s1 q => ?_) fun _ _ z => z
  refine wpAny_mono q (fun itv s2 q2 => ?_) fun _ _ z => z
  obtain ⟨it, fp, tn, It, H2, rfl, I2, T, st2, f2, rfl, P2, e2, l2⟩ := q2
  intro p0
  have gl := GCo.loop (k := ownK G.env K J gd lv) (c' := .forLoop tg (.ref it) body [] G.env) (l := lv []) (kp := []) (p := p0) g rfl rfl
  have above : ∀ b ∈ fp, G.env.locals < b ∧ (∀ x c, G.env.cells.lookup x = some c → c ≠ b) ∧ b ∉ frs G.outer ∧ ∀ p ∈ G.pn ++ ip, p.1 ≠ b := fun b hbf => by
    obtain ⟨h1, h2, h3, h4, h5, h6⟩ := f2 b hbf
    refine ⟨?_, h5, h3, h6⟩
    rcases h4 with h4 | h4
    · exact absurd h4 (by show b ∉ ([] : List Addr); simp)
    · have h4' : s0.heap.objs.size ≤ b := h4
      have h2' : b ≠ G.env.locals := h2
      rw [z0] at h4'
      exact Nat.lt_of_le_of_ne h4' (Ne.symm h2')
  have stat : ∀ (s0 : Shared) (H0 H' : Hp), s0.heap.objs.size = G.env.locals → (∀ b ∈ fp, H' b = none) → ∀ b ∈ fp, FpOk (G.X s0 H0) ip H' b := fun s0 H0 H' z hn b hbf => by
    obtain ⟨h1, h2, h3, h4⟩ := above b hbf
    exact ⟨hn b hbf, Nat.ne_of_gt h1, h3, .inr (by show s0.heap.objs.size ≤ b; rw [z]; exact Nat.le_of_lt h1), h2, h4⟩
  -- the head of the loop
  have head : ∀ (k i : Nat) (ρ : Env') (L : List HObj) (outs : List PV), i + k = j.toNat → brLoop B t ((rangeP 0 j.toNat).drop i) ρ L outs ρ' L' → ∀ (s0 : Shared) (H0 : Hp) (P0 P : Pl) (H : Hp) (s : Shared) (σ : L2.St), s0.heap.objs.size = G.env.locals → Inv (G.X s0 H0) ip σ H s → Rel G.K G.mg P L H → RE G.K G.mg P H ρ σ → Ext P0 H0 P H → tn i s.heap → (∀ b ∈ fp, H b = none) →
      SegX (model G.prog G.w) G.Aw (PO G (outs ++ ys) s0 H0 P0) (.forLoop tg (.ref it) body [] G.env) ((model G.prog G.w).den (.forLoop tg (.ref it) body [] G.env)) (.ret (ownK G.env K J gd lv) none (gd false) (lv []) c p0 [] :: fs) s := by
    intro k
    induction k with
    | zero =>
      intro i ρ L outs hik hl s0 H0 P0 P H s σ z0 I R re e st fr
      have hi : i = j.toNat := by omega
      subst hi
      rw [List.drop_eq_nil_of_le (by unfold rangeP; simp)] at hl
      obtain ⟨rfl, rfl, rfl⟩ := hl
      refine sx_forLoop ?_
      rw [gl.over]
      refine wpAny_mono (T.done (G.X s0 H0) rfl rfl rfl rfl j.toNat ip s σ H NoX I (stat s0 H0 H z0 fr) st (Nat.le_refl _)) (fun r s3 q => ?_) fun _ _ z => z
      obtain ⟨rfl, I3⟩ := q
      exact sx_leaf (.ok .next) (hk s0 H0 P0 P H s3 σ z0 I3 R re e)
    | succ k ih =>
      intro i ρ L outs hik hl s0 H0 P0 P H s σ z0 I R re e st fr
      have hi : i < j.toNat := by omega
      have hlen : i < (rangeP 0 j.toNat).length := by unfold rangeP; simpa using hi
      rw [List.drop_eq_getElem_cons hlen] at hl
      obtain ⟨ρ1, hb1, o1, ρ2, L2, o2, hB, hl2, rfl⟩ := hl
      have hx : (rangeP 0 j.toNat)[i] = .int (0 + (i : Int)) := by unfold rangeP; simp
      rw [hx] at hb1
      refine sx_forLoop ?_
      rw [gl.over]
      refine wpAny_mono (T.item (G.X s0 H0) rfl rfl rfl rfl i ip s σ H NoX I (stat s0 H0 H z0 fr) st hi) (fun r s3 q => ?_) fun _ _ z => z
      obtain ⟨u, rfl, q⟩ := q
      refine wpAny_mono q (fun _ s4 q4 => ?_) fun _ _ z => z
      obtain ⟨x, H4, I4, rx, ⟨rfl, rfl⟩, st4, fr4⟩ := q4
      have I4' := I4.pinned (stat s0 H0 _ z0 fr4) (T.obj _ _ st4)
      refine wpAny_mono ((htg s0 H0).run _ s4 σ _ _ u (fun σ1 H1 => H1 = H4 ∧ RE G.K G.mg P H4 ρ1 σ1) I4' rx (gTg_run re (show RV G.K G.mg P _ (.int (0 + (i : Int))) (.int (0 + (i : Int))) from rfl) hb1 fun σ1 re1 _ _ => ⟨rfl, re1⟩)) (fun _ s5 q5 => ?_) fun _ _ z => z
      obtain ⟨σ5, H5, I5, rfl, re5⟩ := q5
      rw [List.append_assoc]
      refine hb (o2 ++ ys) (ip ++ pinsAt fp s4.heap) _ _ (loopK tg (.ref it) body G.env) (loopJ G.env) id id ρ1 ρ2 L L2 o1 gl hB ?_ s0 H0 P0 P _ s5 σ5 z0 I5 R re5 e
      intro s0' H0' P0' P' H' s' σ' z0' I' R' re' e'
      refine sx_again rfl ?_
      refine ih (i + 1) ρ2 L2 o2 (by omega) hl2 s0' H0' P0' P' H' s' σ' z0' I'.unpinned R' re' e' ?_ ?_
      · exact T.keep _ _ _ st4 fun b hbf o eo => (I'.pin (b, o) (List.mem_append_right _ (List.mem_append_right _ (mem_pinsAt hbf eo)))).1
      · intro b hbf
        obtain ⟨o, eo, _⟩ := T.obj _ _ st4 b hbf
        exact (I'.pin (b, o) (List.mem_append_right _ (List.mem_append_right _ (mem_pinsAt hbf eo)))).2.1
  exact head j.toNat 0 ρ L1 outs (by omega) hl s0 H0 P0 P2 H2 s2 σ z0 I2 l2.R l2.re (e.trans e2) st2 fun b hbf => (f2 b hbf).1
end
end MP

/-! GN 4: a generator's whole body; what a value says does not lean on what is hidden. -/
namespace MP
open PySem PySem.Spec PyProof.Rows L2 GenW
theorem k_func {G : GD} {body : List PySem.Stmt} {B : BR} {outs : List PV} {ρ ρ' : Env'} {L L' : List HObj} (ho : G.Aw.over (.func body G.env) [] = G.A) (hb : GJ G body B) (hB : B ρ L outs ρ' L') :
    KOk G outs [] (.func body G.env) [] ((model G.prog G.w).den (.func body G.env)) ρ L := by
  have hk : KOk G [] [] (.func body G.env) [] (.pure (.done (.ret .none))) ρ' L' := fun s0 H0 P0 P H s σ z0 I R re e =>
    sx_end (.ok (.ret .none)) ⟨rfl, [], σ, H, P, L', I, R, e⟩
  have h := hb [] [] (.func body G.env) [] (fun f => .pure (.done (.ret (match f with | .ret v => v | _ => .none)))) (fun e => (leaving G.env e).wrap (fun _ => .raise e) .raise id id) id id ρ ρ' L L' outs ⟨ho, rfl, rfl, rfl⟩ hB hk
  rw [List.append_nil] at h
  exact fun s0 H0 P0 P H s σ z0 I R re e => sx_func (h s0 H0 P0 P H s σ z0 I R re e)
/-- what a step keeps, without what is hidden -/
structure ExtZ (P : Pl) (H : Hp) (P' : Pl) (H' : Hp) : Prop where
  A : ∃ t, P'.A = P.A ++ t
  tup : ∀ a xs, H a = some (.tup xs) → H' a = some (.tup xs)
  frz : ∀ a o u, H a = some (.frz o u) → H' a = some (.frz o u)
  Z : ∀ a, P.Z a → P'.Z a
  holdZ : ∀ a o, P.Z a → H a = some o → H' a = some o
section
variable {K : PySem.W.Frag} {mg : Str → Option Value} {P P' : Pl} {H H' : Hp}
theorem ExtZ.seqD (e : ExtZ P H P' H') {a : Addr} {vs : List V} (h : SqD K H a vs) : SqD K H' a vs :=
  (Ext.seqD (P := ⟨P.A, fun _ => False, fun _ => False⟩) (P' := ⟨P'.A, fun _ => False, fun _ => False⟩) ⟨e.A, e.tup, e.frz, fun _ z => z, fun _ z => z, fun _ _ z => z.elim (fun z => z.elim) fun z => z.elim⟩ h)
theorem ExtZ.ext (e : ExtZ P H P' H') : Ext ⟨P.A, P.Z, fun _ => False⟩ H ⟨P'.A, P'.Z, fun _ => False⟩ H' :=
  ⟨e.A, e.tup, e.frz, e.Z, fun _ z => z, fun a o z h => z.elim (fun z => e.holdZ a o z h) fun z => z.elim⟩
mutual
theorem RV.noY (Y : Addr → Prop) : ∀ (x : PV) (v : V), RV K mg P H x v → RV K mg ⟨P.A, P.Z, Y⟩ H x v
  | .non, _, h => h
  | .bl _, _, h => h
  | .int _, _, h => h
  | .str _, _, h => h
  | .tup xs, _, h => by
    obtain ⟨a, vs, h1, h2, h3⟩ := h
    exact ⟨a, vs, h1, h2, RVs.noY Y xs vs h3⟩
  | .ref _, _, h => h
  | .cls _, _, h => h
  | .typ _, _, h => h
  | .obj c ns us, _, h => by
    obtain ⟨a, C, dx, fs, h1, h2, h3, h4, vs, h5, h6, h7⟩ := h
    exact ⟨a, C, dx, fs, h1, h2, h3, h4, vs, h5, h6, RVs.noY Y us vs h7⟩
  | .exn, _, h => h
  | .frl xs, _, h => by
    obtain ⟨a, vs, h1, h2, h3⟩ := h
    exact ⟨a, vs, h1, h2, RVs.noY Y xs vs h3⟩
  | .rng _ _, _, h => h
theorem RVs.noY (Y : Addr → Prop) : ∀ (xs : List PV) (vs : List V), RVs K mg P H xs vs → RVs K mg ⟨P.A, P.Z, Y⟩ H xs vs
  | [], _, h => h
  | x :: xs, _, h => by
    obtain ⟨v, r, h1, h2, h3⟩ := h
    exact ⟨v, r, h1, RV.noY Y x v h2, RVs.noY Y xs r h3⟩
end
theorem RV.monoZ (e : ExtZ P H P' H') {x : PV} {v : V} (h : RV K mg P H x v) : RV K mg P' H' x v :=
  RV.noY (P := ⟨P'.A, P'.Z, fun _ => False⟩) P'.Y x v ((RV.noY (fun _ => False) x v h).mono e.ext)
theorem RVs.monoZ (e : ExtZ P H P' H') {xs : List PV} {vs : List V} (h : RVs K mg P H xs vs) : RVs K mg P' H' xs vs :=
  RVs.noY (P := ⟨P'.A, P'.Z, fun _ => False⟩) P'.Y xs vs (RVs.mono e.ext xs vs (RVs.noY (fun _ => False) xs vs h))
theorem RE.monoZ {ρ : Env'} {σ : L2.St} (e : ExtZ P H P' H') (h : RE K mg P H ρ σ) : RE K mg P' H' ρ σ :=
  ⟨h.len, fun i x q => let ⟨v, h1, h2⟩ := h.val i x q; ⟨v, h1, h2.monoZ e⟩⟩
theorem RO.monoZ (e : ExtZ P H P' H') {o : HObj} {ho : HO} (h : RO K mg P H o ho) : RO K mg P' H' o ho := by
  cases o with
  | lst xs => obtain ⟨vs, h1, h2⟩ := h; exact ⟨vs, h1, h2.monoZ e⟩
  | frl xs => obtain ⟨o, vs, h1, h2⟩ := h; exact ⟨o, vs, h1, h2.monoZ e⟩
  | ins c ns us => obtain ⟨C, dx, vs, h1, h2, h3, h4⟩ := h; exact ⟨C, dx, vs, h1, h2, h3, h4.monoZ e⟩
theorem RO.noY (Y : Addr → Prop) {o : HObj} {ho : HO} (h : RO K mg P H o ho) : RO K mg ⟨P.A, P.Z, Y⟩ H o ho := by
  cases o with
  | lst xs => obtain ⟨vs, h1, h2⟩ := h; exact ⟨vs, h1, h2.noY Y _ _⟩
  | frl xs => obtain ⟨o, vs, h1, h2⟩ := h; exact ⟨o, vs, h1, h2.noY Y _ _⟩
  | ins c ns us => obtain ⟨C, dx, vs, h1, h2, h3, h4⟩ := h; exact ⟨C, dx, vs, h1, h2, h3, h4.noY Y _ _⟩
theorem Ext.toZ (e : Ext P H P' H') : ExtZ P H P' H' := ⟨e.A, e.tup, e.frz, e.Z, e.hold⟩
/-- the generator's objects beside the consumer's -/
structure Two (K : PySem.W.Frag) (mg : Str → Option Value) (P : Pl) (L : List HObj) (A : List Addr) (Lg : List HObj) (H : Hp) : Prop where
  R : Rel K mg P L H
  lst : L.all isLst = true
  lstg : Lg.all isLst = true
  Rg : Rel K mg ⟨A, P.Z, fun a => a ∈ P.A ∨ P.Y a⟩ Lg H
theorem Rel.lstA {L : List HObj} (R : Rel K mg P L H) (h : L.all isLst = true) {a : Addr} (ha : a ∈ P.A) : ∃ vs, H a = some (.lst vs) := by
  obtain ⟨n, hn, e⟩ := List.getElem_of_mem ha
  have hl : n < L.length := by rw [← R.len]; exact hn
  obtain ⟨ho, h1, h2⟩ := R.obj n L[n] a (List.getElem?_eq_getElem hl) (by rw [List.getElem?_eq_getElem hn, e])
  have := List.all_eq_true.mp h L[n] (List.getElem_mem hl)
  cases hL : L[n] with
  | lst xs =>
    rw [hL] at h2
    obtain ⟨vs, rfl, _⟩ := h2
    exact ⟨vs, h1⟩
  | frl xs => rw [hL] at this; cases this
  | ins c ns us => rw [hL] at this; cases this
/-- the generator has run: the consumer's side -/
theorem Two.ranR {L Lg Lg' : List HObj} {A : List Addr} {P1 : Pl} {H1 : Hp} (t : Two K mg P L A Lg H) (e : Ext ⟨A, P.Z, fun a => a ∈ P.A ∨ P.Y a⟩ H P1 H1) (R1 : Rel K mg P1 Lg' H1) :
    Rel K mg ⟨P.A, P1.Z, P.Y⟩ L H1 ∧ Ext P H ⟨P.A, P1.Z, P.Y⟩ H1 := by
  have hY : ∀ a, a ∈ P.A ∨ P.Y a → P1.Y a := fun a h => e.Y a h
  have hold : ∀ a o, (P.Z a ∨ a ∈ P.A ∨ P.Y a) → H a = some o → H1 a = some o := fun a o h q => e.holdK a o (h.elim .inl .inr) q
  have ex : Ext P H ⟨P.A, P1.Z, P.Y⟩ H1 := ⟨⟨[], by simp⟩, e.tup, e.frz, e.Z, fun _ z => z, fun a o z q => hold a o (z.elim .inl fun y => .inr (.inr y)) q⟩
  refine ⟨⟨t.R.len, t.R.nd, fun n o a h1 h2 => ?_, fun a z => ?_, fun a y z => R1.dj a (hY a (.inr y)) z, fun a y => R1.yl a (hY a (.inr y))⟩, ex⟩
  · obtain ⟨ho, h3, h4⟩ := t.R.obj n o a h1 h2
    exact ⟨ho, hold a ho (.inr (.inl (List.mem_of_getElem? h2))) h3, h4.monoZ ex.toZ⟩
  · rcases z with z | z
    · refine ⟨(R1.fzK a (.inl z)).1, fun ha => R1.dj a (hY a (.inl ha)) z⟩
    · exact ⟨(R1.fzK a (.inr (hY a (.inr z)))).1, (t.R.fzK a (.inr z)).2⟩
theorem Two.ran {L Lg Lg' : List HObj} {A : List Addr} {P1 : Pl} {H1 : Hp} (t : Two K mg P L A Lg H) (e : Ext ⟨A, P.Z, fun a => a ∈ P.A ∨ P.Y a⟩ H P1 H1) (R1 : Rel K mg P1 Lg' H1) (hl : Lg'.all isLst = true) :
    Two K mg ⟨P.A, P1.Z, P.Y⟩ L P1.A Lg' H1 := by
  have hY : ∀ a, a ∈ P.A ∨ P.Y a → P1.Y a := fun a h => e.Y a h
  refine ⟨(t.ranR e R1).1, t.lst, hl, ⟨R1.len, R1.nd, fun n o a h1 h2 => ?_, fun a z => ?_, fun a y z => R1.dj a (hY a y) z, fun a y => R1.yl a (hY a y)⟩⟩
  · obtain ⟨ho, h3, h4⟩ := R1.obj n o a h1 h2
    exact ⟨ho, h3, h4.noY _⟩
  · rcases z with z | z
    · exact R1.fzK a (.inl z)
    · exact R1.fzK a (.inr (hY a z))
/-! a value without references, seen by another -/
mutual
theorem RV.frame {A : List Addr} {Y : Addr → Prop} : ∀ (x : PV) (v : V), x.under 0 = true → RV K mg P H x v → RV K mg ⟨A, P.Z, Y⟩ H x v
  | .non, _, _, h => h
  | .bl _, _, _, h => h
  | .int _, _, _, h => h
  | .str _, _, _, h => h
  | .tup xs, _, hu, h => by
    obtain ⟨a, vs, h1, h2, h3⟩ := h
    exact ⟨a, vs, h1, h2, RVs.frame xs vs hu h3⟩
  | .ref n, _, hu, h => by
    have : decide (n < 0) = true := hu
    simp at this
  | .cls _, _, _, h => h
  | .typ _, _, _, h => h
  | .obj c ns us, _, hu, h => by
    obtain ⟨a, C, dx, fs, h1, h2, h3, h4, vs, h5, h6, h7⟩ := h
    exact ⟨a, C, dx, fs, h1, h2, h3, h4, vs, h5, h6, RVs.frame us vs hu h7⟩
  | .exn, _, _, h => h
  | .frl xs, _, hu, h => by
    obtain ⟨a, vs, h1, h2, h3⟩ := h
    exact ⟨a, vs, h1, h2, RVs.frame xs vs hu h3⟩
  | .rng _ _, _, _, h => h
theorem RVs.frame {A : List Addr} {Y : Addr → Prop} : ∀ (xs : List PV) (vs : List V), unders 0 xs = true → RVs K mg P H xs vs → RVs K mg ⟨A, P.Z, Y⟩ H xs vs
  | [], _, _, h => h
  | x :: xs, _, hu, h => by
    obtain ⟨v, r, h1, h2, h3⟩ := h
    have hu' : (x.under 0 && unders 0 xs) = true := hu
    rw [Bool.and_eq_true] at hu'
    exact ⟨v, r, h1, RV.frame x v hu'.1 h2, RVs.frame xs r hu'.2 h3⟩
end
/-- the consumer's side while its own code runs -/
theorem Two.held {L Lg : List HObj} {A : List Addr} (t : Two K mg P L A Lg H) : Rel K mg ⟨P.A, P.Z, fun a => P.Y a ∨ a ∈ A⟩ L H ∧ Ext P H ⟨P.A, P.Z, fun a => P.Y a ∨ a ∈ A⟩ H := by
  have ex : Ext P H ⟨P.A, P.Z, fun a => P.Y a ∨ a ∈ A⟩ H := ⟨⟨[], by simp⟩, fun _ _ h => h, fun _ _ _ h => h, fun _ z => z, fun _ z => .inl z, fun _ _ _ h => h⟩
  refine ⟨⟨t.R.len, t.R.nd, fun n o a h1 h2 => ?_, fun a z => ?_, fun a y z => ?_, fun a y => ?_⟩, ex⟩
  · obtain ⟨ho, h3, h4⟩ := t.R.obj n o a h1 h2
    exact ⟨ho, h3, h4.monoZ ex.toZ⟩
  · rcases z with z | z | z
    · exact t.R.fzK a (.inl z)
    · exact t.R.fzK a (.inr z)
    · obtain ⟨vs, q⟩ := t.Rg.lstA t.lstg z
      exact ⟨⟨_, q⟩, fun ha => (t.Rg.fzK a (.inr (.inl ha))).2 z⟩
  · rcases y with y | y
    · exact t.R.dj a y z
    · exact (t.Rg.fzK a (.inl z)).2 y
  · rcases y with y | y
    · exact t.R.yl a y
    · exact t.Rg.lstA t.lstg y
/-- the consumer's code has run -/
theorem Two.back {L L' Lg : List HObj} {A : List Addr} {P1 : Pl} {H1 : Hp} (t : Two K mg P L A Lg H) (e : Ext ⟨P.A, P.Z, fun a => P.Y a ∨ a ∈ A⟩ H P1 H1) (R1 : Rel K mg P1 L' H1) (hl : L'.all isLst = true) :
    Two K mg ⟨P1.A, P1.Z, fun a => P1.Y a ∧ a ∉ A⟩ L' A Lg H1 ∧ Ext P H ⟨P1.A, P1.Z, fun a => P1.Y a ∧ a ∉ A⟩ H1 ∧ ExtZ ⟨A, P.Z, fun a => a ∈ P.A ∨ P.Y a⟩ H ⟨A, P1.Z, fun a => a ∈ P1.A ∨ (P1.Y a ∧ a ∉ A)⟩ H1 := by
  have hold : ∀ a o, (P.Z a ∨ P.Y a ∨ a ∈ A) → H a = some o → H1 a = some o := fun a o h q => e.holdK a o h q
  have yA : ∀ a, P.Y a → a ∉ A := fun a y => (t.Rg.fzK a (.inr (.inr y))).2
  have ez : ExtZ ⟨A, P.Z, fun a => a ∈ P.A ∨ P.Y a⟩ H ⟨A, P1.Z, fun a => a ∈ P1.A ∨ (P1.Y a ∧ a ∉ A)⟩ H1 := ⟨⟨[], by simp⟩, e.tup, e.frz, e.Z, fun a o z q => hold a o (.inl z) q⟩
  refine ⟨⟨⟨R1.len, R1.nd, fun n o a h1 h2 => ?_, fun a z => ?_, fun a y z => R1.dj a y.1 z, fun a y => R1.yl a y.1⟩, hl, t.lstg, ⟨t.Rg.len, t.Rg.nd, fun n o a h1 h2 => ?_, fun a z => ?_, fun a y z => ?_, fun a y => ?_⟩⟩,
    ⟨e.A, e.tup, e.frz, e.Z, fun a y => ⟨e.Y a (.inl y), yA a y⟩, fun a o z q => hold a o (z.elim .inl fun y => .inr (.inl y)) q⟩, ez⟩
  · obtain ⟨ho, h3, h4⟩ := R1.obj n o a h1 h2
    exact ⟨ho, h3, h4.noY _⟩
  · rcases z with z | z
    · exact R1.fzK a (.inl z)
    · exact R1.fzK a (.inr z.1)
  · obtain ⟨ho, h3, h4⟩ := t.Rg.obj n o a h1 h2
    exact ⟨ho, hold a ho (.inr (.inr (List.mem_of_getElem? h2))) h3, h4.monoZ ez⟩
  · have hA : ∀ a, a ∈ A → P1.Y a := fun a h => e.Y a (.inr h)
    rcases z with z | z | z
    · exact ⟨(R1.fzK a (.inl z)).1, fun h => R1.dj a (hA a h) z⟩
    · obtain ⟨vs, q⟩ := R1.lstA hl z
      exact ⟨⟨_, q⟩, fun h => (R1.fzK a (.inr (hA a h))).2 z⟩
    · exact ⟨(R1.fzK a (.inr z.1)).1, z.2⟩
  · rcases y with y | y
    · exact (R1.fzK a (.inl z)).2 y
    · exact R1.dj a y.1 z
  · rcases y with y | y
    · exact R1.lstA hl y
    · exact R1.yl a y.1
end
end MP

/-! GN 5: a generator is woken; it has gone to rest. -/
namespace MP
open PySem PySem.Spec PyProof.Rows L2 GenW
/-- the state, with its first n objects alone -/
def trc (n : Nat) (s : Shared) : Shared := { s with heap := { s.heap with objs := s.heap.objs.extract 0 n } }
theorem trc_get {n : Nat} {s : Shared} {b : Addr} (h : b < n) : (trc n s).heap.get? b = s.heap.get? b := by
  have e : (trc n s).heap.objs[b]? = s.heap.objs[b]? := by
    show (s.heap.objs.extract 0 n)[b]? = _
    rw [Array.getElem?_extract]
    by_cases hb : b < s.heap.objs.size
    · rw [if_pos (by rw [Nat.sub_zero]; exact Nat.lt_min.mpr ⟨h, hb⟩), Nat.zero_add]
    · rw [if_neg (by rw [Nat.sub_zero]; exact fun z => hb (Nat.lt_min.mp z).2), Array.getElem?_eq_none (Nat.le_of_not_lt hb)]
  unfold Heap.get?
  rw [e]
theorem trc_some {n : Nat} {s : Shared} {b : Addr} {o : Obj} (h : (trc n s).heap.get? b = some o) : b < n ∧ s.heap.get? b = some o := by
  have hb : b < n := by
    have := Heap.lt_size h
    have e : (trc n s).heap.objs.size = min n s.heap.objs.size := by
      show (s.heap.objs.extract 0 n).size = _
      simp
    rw [e] at this
    exact Nat.lt_of_lt_of_le this (Nat.min_le_left _ _)
  exact ⟨hb, by rw [← trc_get hb]; exact h⟩
theorem trc_size {n : Nat} {s : Shared} (h : n ≤ s.heap.objs.size) : (trc n s).heap.objs.size = n := by
  show (s.heap.objs.extract 0 n).size = _
  simp
  exact Nat.min_eq_left h
theorem ff_trc {n : Nat} {s : Shared} {base : Heap} : ∀ {l : List Env}, (∀ b ∈ frs l, b < n) → s.heap.FunFrames base l → (trc n s).heap.FunFrames base l
  | [], _, _ => trivial
  | env :: rest, hl, h => by
    obtain ⟨hk, ⟨L, o, hf, hn, ho, hd⟩, hr⟩ := h
    have hb : L ∈ frs (env :: rest) := by unfold frs; rw [List.filterMap_cons, hf]; exact List.mem_cons_self
    refine ⟨hk, ⟨L, o, hf, hn, by rw [trc_get (hl L hb)]; exact ho, hd⟩, ff_trc (fun b h => hl b ?_) hr⟩
    unfold frs
    rw [List.filterMap_cons, hf]
    exact List.mem_cons_of_mem _ h
/-- what is so of a generator's frame -/
structure GF (G : GD) : Prop where
  kind : G.env.scope.kind = .function
  glob : G.env.globals = mainGlobals
  blt : G.env.builtins = builtinsNs
  noc : ∀ x, G.env.cells.lookup x = none
  nok : ∀ x, ¬ (G.env.kindOf x = some .cell ∨ G.env.kindOf x = some .free)
  frame : G.env.frame = some G.env.locals
  hd : G.A.handled = none
  frames : G.A.frames = some (G.env :: G.outer)
  bsz : G.base.objs.size ≤ G.env.locals
  frb : ∀ b ∈ frs G.outer, b < G.env.locals
/-- how it stands at rest -/
structure Rest (G : GD) (ip : List (Addr × Obj)) (σ : L2.St) (H : Hp) (h : Heap) : Prop where
  loc : ∃ m, h.Ns G.env.locals m ∧ ∀ (i : Nat) (x : Str) (v : V), G.N[i]? = some x → σ[i]? = some (some v) → Vis G.env.scope x → ∃ u, RelV v u ∧ Look G.env h m x u
  free : H G.env.locals = none
  pin : ∀ p ∈ G.pn ++ ip, h.get? p.1 = some p.2 ∧ H p.1 = none ∧ p.1 ≠ G.env.locals ∧ p.1 ∉ frs G.outer ∧ ∀ v, p.2.data ≠ .cell v
  len : σ.length = G.N.length
section
variable {G : GD} {ip : List (Addr × Obj)} {σ : L2.St} {H H' : Hp} {s s' : Shared}
theorem Rest.wake {Ac : Around} (r : Rest G ip σ H s.heap) (gf : GF G) (e0 : Env0 G.prog G.w G.K G.mg G.base Ac G.outer s H) : Inv (G.X (trc G.env.locals s) H) ip σ H s := by
  obtain ⟨m, hns, _⟩ := id r.loc
  have hsz : G.env.locals ≤ s.heap.objs.size := Nat.le_of_lt hns.lt
  have hbs : ∀ b o, G.base.get? b = some o → b < G.env.locals := fun b o q => Nat.lt_of_lt_of_le (Heap.lt_size q) gf.bsz
  have noA : ∀ b : Addr, b ∉ (G.X (trc G.env.locals s) H).ex := fun b z => absurd (show b ∈ ([] : List Addr) from z) (by simp)
  refine ⟨⟨e0.mod, gf.kind, gf.glob, gf.blt, ?_, fun x y c h1 h2 => ?_, fun x hx => absurd hx (gf.nok x), fun x c _ h => ?_, fun _ => gf.hd, gf.frames, .inr ⟨rfl, gf.frame⟩, fun b z => absurd z (noA b), fun b o q => ?_, ?_, fun b _ _ => noA b, fun b z => absurd z (noA b), ff_trc gf.frb e0.funs, e0.frf⟩,
    rfl, e0.bare, ⟨fun b o q _ _ _ => (trc_some q).2, fun b o q _ _ _ => ⟨o.slots, (trc_some q).2⟩, fun b o _ n _ => n, fun b o q _ => ⟨o, (trc_some q).2⟩, fun _ _ q => q, fun _ _ _ q => q, fun b ps q => ⟨#[], by rw [Array.append_empty]; exact q⟩⟩, r.loc, fun x c h => ?_, r.free, fun x c h => ?_, r.pin, e0.hok, r.len⟩
  · exact Nat.le_of_eq (trc_size hsz)
  · exact absurd (show G.env.cells.lookup x = some c from h1) (by rw [gf.noc]; simp)
  · exact absurd (show G.env.cells.lookup x = some c from h) (by rw [gf.noc]; simp)
  · obtain ⟨h1, h2⟩ := e0.bs b o q
    exact ⟨(trc_get (hbs b o q)).trans h1, h2⟩
  · show G.base.objs.size ≤ (trc G.env.locals s).heap.objs.size
    rw [trc_size hsz]
    exact gf.bsz
  · exact absurd (show G.env.cells.lookup x = some c from h) (by rw [gf.noc]; simp)
  · exact absurd (show G.env.cells.lookup x = some c from h) (by rw [gf.noc]; simp)
theorem rest_of {s0 : Shared} {H0 : Hp} (I : Inv (G.X s0 H0) ip σ H s) : Rest G ip σ H s.heap := ⟨I.loc, I.free, I.pin, I.len⟩
/-- the consumer, behind a run of the generator -/
theorem Inv.slept {X : Cx} {pins : List (Addr × Obj)} {σc : L2.St} (I : Inv X pins σc H s) (hst : X.stack = G.outer) (hb : frs G.outer = frs X.stack) (hp : ∀ p ∈ X.pn ++ pins, p.1 < G.env.locals) (hc : ∀ x c, X.env.cells.lookup x = some c → c < G.env.locals) (hl : X.env.locals < G.env.locals)
    (hsz : G.env.locals ≤ s.heap.objs.size) (hpr : X.prog = G.prog) (hw : X.w = G.w) (J : Inv (G.X (trc G.env.locals s) H) ip σ H' s') : Inv X pins σc H' s' := by
  have hin : ∀ b o, s.heap.get? b = some o → b ∉ (List.range s.heap.objs.size).filter (fun b => decide (G.env.locals ≤ b)) → b < G.env.locals := fun b o q hn => by
    by_cases hlt : b < G.env.locals
    · exact hlt
    · exact absurd (List.mem_filter.mpr ⟨List.mem_range.mpr (Heap.lt_size q), decide_eq_true (Nat.le_of_not_lt hlt)⟩) hn
  have noA : ∀ b : Addr, b ∉ (G.X (trc G.env.locals s) H).ex := fun b z => absurd (show b ∈ ([] : List Addr) from z) (by simp)
  have fse : (G.X (trc G.env.locals s) H).fs = frs X.stack := hb
  refine I.call' (ch := (List.range s.heap.objs.size).filter (fun b => decide (G.env.locals ≤ b))) J.os ⟨fun b o q n nf nc => ?_, fun b o q n nf nc => ?_, fun b o q n nc => ?_, fun b o q nc => ?_, J.base.tups, J.base.frzs, J.base.tbls⟩ (by rw [hpr, hw]; exact J.hok) J.bare (fun b hbm => ?_)
  · exact J.base.keep b o ((trc_get (hin b o q nc)).trans q) n (by rw [fse]; exact nf) (noA b)
  · exact J.base.slot b o ((trc_get (hin b o q nc)).trans q) n (by rw [fse]; exact nf) (noA b)
  · exact J.base.free b o ((trc_get (hin b o q nc)).trans q) n (noA b)
  · exact J.base.there b o ((trc_get (hin b o q nc)).trans q) (noA b)
  · obtain ⟨_, h2⟩ := List.mem_filter.mp hbm
    have h3 : G.env.locals ≤ b := of_decide_eq_true h2
    exact ⟨.inr (Nat.le_trans (Nat.le_trans I.ok.above (Nat.le_of_lt hl)) h3), Nat.ne_of_gt (Nat.lt_of_lt_of_le hl h3), fun x c h z => absurd (hc x c h) (by rw [z]; exact Nat.not_lt_of_le h3), fun p hpm z => absurd (hp p hpm) (by rw [z]; exact Nat.not_lt_of_le h3)⟩
end
end MP

/-! GN 6: next(g). -/
namespace MP
open PySem PySem.Spec PyProof.Rows L2 GenW
/-- what is wanted of the end of a generator's run -/
def EQ (Q : Option Value → Shared → Prop) (g : Nat) : End → Shared → Prop
  | .ret r => fun s' => r = .ok (.ret .none) ∧ ∀ h', (∀ b o, s'.heap.get? b = some o → h'.get? b = some o) → Q none { s'.setGen g .finished with heap := h' }
  | .susp v gg l k c p fs => fun s' => (End.susp v gg l k c p fs).quiet = true ∧ Q (some v) (s'.setGen g (End.susp v gg l k c p fs).genState)
section
variable {P : Program} {w : World} {A : Around} {E : Value → Shared → Prop} {s : Shared}
theorem nextX {a : Addr} {g : Nat} {Q : Option Value → Shared → Prop} {c : Code} {t : Sem PySem.Fin} {fs : List Frame} (hh : A.handled = none) (hl : s.heap.NoLimit) (hroom : A.depth < recursionLimit) (hg : s.heap.IsGen a g)
    (hgs : s.gens[g]? = some (.fresh c) ∧ t = (model P w).den c ∧ fs = [] ∨ ∃ k₀ l₀ p₀ b, s.gens[g]? = some (.suspended k₀ l₀ c p₀ fs b) ∧ t = k₀ (.send .none))
    (hgo : SegX (model P w) A.in1 (EQ Q g) c t fs (s.setGen g .running)) : wpAny (model P w) A (pyNext (.ref a)) Q E s := by
  have hq : ∀ e s', EQ Q g e s' → e.quiet = true := fun e s' h => by
    cases e with
    | ret r => rfl
    | susp v gg l k c p fs => exact h.1
  have fin : ∀ (st : GenState), s.gens[g]? = some st → (st = .fresh c ∨ ∃ k₀ l₀ p₀ b, st = .suspended k₀ l₀ c p₀ fs b) → wpAny (model P w) A (pyNext (.ref a)) Q E s := fun st hst hk => by
    unfold pyNext
    refine wpAny_bind (wpAny_attempt (wpAny_callSpecial?_slot (name := Str.ofString "__next__") hg.typeIs slot_gen_next
      (wpAny_call_entry slot_gen_next hg.typeIs entry_gen_next ?_ (args_gen_next _))))
    show wpAny _ A.in1 (Builtin.Generator.genWake (.ref a) (.send .none)) _ _ s
    unfold Builtin.Generator.genWake
    refine wpAny_bind (wpAny_holding (wpAny_genNumber hg (wpAny_bind (wpAny_genState hst ?_))))
    rcases hk with rfl | ⟨k₀, l₀, p₀, b, rfl⟩
    all_goals
      refine wpAny_bind (wpAny_roomToWake hl hroom ?_)
      show wpAny _ A.in1 (.resume g (.send .none) [] _) _ _ s
      refine wpAny_resumeX hgs hgo hq fun e s₁ he => ?_
      cases e with
      | ret x =>
        obtain ⟨hr, hp⟩ := he
        have hres : End.result (.ret x) = .returned .none := by rw [hr]; rfl
        first | rw [hres] | simp only [hres]
        show wpAny _ A.in1 (newExc (.type "StopIteration") [] >>= _) _ _ _
        refine wpAny_bind ?_
        simp only [newExc, newTuple]
        refine wpAny_bind (wpAny_newObj_type ?_ (by size_fits))
        refine wpAny_bind (m := firstArgMember _ _) (wpAny_of_eq (a := Value.none) (by first | rfl | (simp only [firstArgMember]; rfl)) ?_)
        refine wpAny_newObj_type ?_ (by size_fits)
        simp only [raiseNew]
        refine wpAny_bind (wpAny_bind (wpAny_handled ?_))
        first | rw [show A.in1.handled = none from hh] | rw [hh]
        refine wpAny_throw ?_
        refine wpAny_bind (wpAny_isInstance (T := "StopIteration") (b := true) ⟨_, Heap.get?_push_size _ rfl, rfl⟩ isSubtype_stop ?_)
        exact wpAny_pure (hp _ fun b o hb => Heap.get?_push_of_some _ (Heap.get?_push_of_some _ hb))
      | susp v gg l k c p fs =>
        exact wpAny_pure ⟨v, rfl, wpAny_pure he.2⟩
  rcases hgs with ⟨h, _, _⟩ | ⟨k₀, l₀, p₀, b, h, _⟩
  · exact fin _ h (.inl rfl)
  · exact fin _ h (.inr ⟨k₀, l₀, p₀, b, rfl⟩)
end
end MP

/-! GN 7: what a call of a generator def gives; helpers for its consumer. -/
namespace MP
open PySem PySem.Spec PyProof.Rows L2 GenW
/-- the same context, where no exception is let out -/
def wish (X : Cx) : Cx := { X with xe := NoX }
section
variable {X : Cx} {pins : List (Addr × Obj)} {σ : L2.St} {H : Hp} {s : Shared}
theorem inv_wish (I : Inv X pins σ H s) : Inv (wish X) pins σ H s :=
  ⟨⟨I.ok.mod, I.ok.kind, I.ok.glob, I.ok.blt, I.ok.above, I.ok.inj, I.ok.has, I.ok.cab, I.ok.hd, I.ok.frames, I.ok.stk, I.ok.exf, I.ok.bs, I.ok.bsz, I.ok.noex, I.ok.exfs, I.ok.funs, I.ok.frf⟩, I.os, I.bare, I.base, I.loc, I.cell, I.free, I.freeC, I.pin, I.hok, I.len⟩
theorem inv_unwish (I : Inv (wish X) pins σ H s) : Inv X pins σ H s :=
  ⟨⟨I.ok.mod, I.ok.kind, I.ok.glob, I.ok.blt, I.ok.above, I.ok.inj, I.ok.has, I.ok.cab, I.ok.hd, I.ok.frames, I.ok.stk, I.ok.exf, I.ok.bs, I.ok.bsz, I.ok.noex, I.ok.exfs, I.ok.funs, I.ok.frf⟩, I.os, I.bare, I.base, I.loc, I.cell, I.free, I.freeC, I.pin, I.hok, I.len⟩
theorem inv_gens {g' : Array GenState} (I : Inv X pins σ H s) (hg : AllBare g') : Inv X pins σ H { s with gens := g' } :=
  ⟨I.ok, I.os, hg, I.base, I.loc, I.cell, I.free, I.freeC, I.pin, I.hok, I.len⟩
theorem tk_wn {X : Cx} : Tk X WN := fun u s' h => by
  obtain ⟨_, _, _, _, _, _, _, _, _, _, _, _, _, _, _, _, w⟩ := h
  exact w.elim
/-- a run ahead of the sleepers -/
theorem run_lull {α : Type} {M : Model} {A : Around} {m : Sem α} {Q Q' : α → Shared → Prop} {E : Value → Shared → Prop} (h : wpAny M A m Q NoX (lull s)) (hq : ∀ a s2, Q a s2 → Dz (slpOf s) s2 → Q' a (live (slpOf s) s2)) : wpAny M A m Q' E s :=
  wpAny_mono (wpAny_lull h) (fun a s' ⟨s2, e, z, q⟩ => by rw [e]; exact hq a s2 q z) fun u s' ⟨s2, e, z, q⟩ => q.elim
end
/-- a generator that has not begun -/
def GNew (P : Program) (w : World) (K : PySem.W.Frag) (mg : Str → Option Value) (base : Heap) (k : Nat) (outer : List Env) (Pc : Pl) (H : Hp) (s : Shared) (outs : List PV) (u : Value) (s' : Shared) : Prop :=
  ∃ (a : Addr) (g : Nat) (body : List PySem.Stmt) (env : Env) (go : Obj), u = .ref a ∧ s'.os = s.os ∧ AllBare s'.gens ∧ (∀ b o, s.heap.get? b = some o → s'.heap.get? b = some o) ∧ s'.heap.IsGen a g ∧ s'.heap.get? a = some go ∧ s'.gens[g]? = some (.fresh (.func body env)) ∧ env.locals = s.heap.objs.size ∧
    ∀ (Aw : Around), Room k Aw → Aw.frames = some outer → ∃ G : GD, G.prog = P ∧ G.w = w ∧ G.K = K ∧ G.mg = mg ∧ G.base = base ∧ G.outer = outer ∧ G.Aw = Aw ∧ G.pn = [(a, go)] ∧ G.env = env ∧ GF G ∧
      ∃ ρ0 σ0, KOk G outs [] (.func body env) [] ((model P w).den (.func body env)) ρ0 [] ∧ Rest G [] σ0 H s'.heap ∧ RE K mg ⟨[], Pc.Z, fun _ => False⟩ H ρ0 σ0
/-- a generator def's promise -/
structure GProm (P : Program) (w : World) (K : PySem.W.Frag) (mg : Str → Option Value) (base : Heap) (k : Nat) (f : Addr) (fd : FuncData) (ps : List Str) (sem : List PV → List PV → Prop) : Prop where
  len : ∀ ys outs, sem ys outs → ys.length = ps.length
  run : ∀ (A : Around) (outer : List Env) (s : Shared) (H : Hp) (args : Args) (us : List Value) (vs : List V) (ys outs : List PV) (Pc : Pl), Room k A → Env0 P w K mg base A outer s H → BindsTo s fd args (ps.zip us) → Vals vs us → RVs K mg Pc H ys vs → unders 0 ys = true → sem ys outs →
    codeAny (model P w) A (.call (.ref f) args) (fun r s' => match r with | .ok (.ret u) => GNew P w K mg base k outer Pc H s outs u s' | _ => False) s
def GCal (X : Cx) (f : String) (sem : List PV → List PV → Prop) : Prop := ∃ k F fd ps, GProm X.prog X.w X.K X.mg X.base k F fd ps sem ∧ Room (k + 1) X.A ∧ X.mg (Str.ofString f) = some (.ref F) ∧ PySem.W.keepIn X.K (.ref F) = true ∧ Binds X.K fd ps []
/-- f(args) -/
theorem gcall {X : Cx} {W : WX} {hx : HX} {xs : XSuite} {f : String} {sem : List PV → List PV → Prop} {p pos : Pos} {e : Expr} {es : List Expr} {ms : Env' → M (List PV)} {pins : List (Addr × Obj)} {s : Shared} {σ : L2.St} {H : Hp} {P : Pl} {L L1 : List HObj} {ρ : Env'} {ys outs : List PV} {Q : Value → Shared → Prop}
    (F : GCal X f sem) (hg : Gl X (Str.ofString f)) (hdb : (Str.ofString f == ("__debug__" : Str)) = false) (ha : PAi X W hx xs (e :: es) ms) (hs : (e :: es).all noStar = true) (I : Inv X pins σ H s) (l : Lay X.K X.mg hx xs P L H ρ σ) (hm : ms ρ L = .ok ys L1) (hu : unders 0 ys = true) (hse : sem ys outs)
    (q : ∀ (k : Nat) (u : Value) (s1 s2 : Shared) (P1 : Pl) (H1 : Hp), Room (k + 1) X.A → Inv X pins σ H1 s1 → Ext P H P1 H1 → Lay X.K X.mg hx xs P1 L1 H1 ρ σ → GNew X.prog X.w X.K X.mg X.base k X.stack P1 H1 s1 outs u s2 → Q u s2) :
    wpAny (model X.prog X.w) X.A (eval (.Call (.Name (Str.ofString f) p) (e :: es) [] pos) X.env) Q X.xe s := by
  have hs' : noStar e = true ∧ es.all noStar = true := by rw [List.all_cons, Bool.and_eq_true] at hs; exact hs
  obtain ⟨k, F, fd, ps, ok, hr, hmg, hk, hb⟩ := F
  have hb : Binds X.K fd ps [] := hb
  refine wpAny_Call_Name_kw (ld_glob I hg hmg ?_ hdb)
  refine PySem.W.callWith_K (h₀ := X.base) I.ok.mod.kin hk (thn (ha.run pos pins s σ H (fun vs H1 => ∃ P1, Ext P H P1 H1 ∧ Rel X.K X.mg P1 L1 H1 ∧ RVs X.K X.mg P1 H1 ys vs) I ⟨P, L, ρ, l, ?_⟩) fun us s1 ⟨vs, H1, I1, r, P1, e1, R1, rv⟩ => ⟨I1.kIn, ?_⟩) (star1 hs'.1) (by rw [backTo_any]; exact stars hs'.2)
  · rw [hm]
    exact fun P1 H1 e1 R1 vs rv => ⟨P1, e1, R1, rv⟩
  · have hl2 : (us ++ []).length = ps.length := by rw [List.append_nil, ← r.length, ← rv.length]; exact ok.len _ _ hse
    have hb2 := hb s1 us I1.kIn hl2
    rw [List.append_nil] at hb2
    refine wpAny_call (codeAny_mono (ok.run X.A X.stack s1 H1 ⟨us, []⟩ us vs ys outs P1 (hr.mono (by omega)) I1.env0 hb2 r rv hu hse) fun r s' hq => ?_)
    cases r with
    | error e => exact False.elim hq
    | ok fl =>
      cases fl with
      | ret u => exact q k u s1 s' P1 H1 hr I1 e1 (l.mono e1 R1) hq
      | next => exact False.elim hq
      | brk => exact False.elim hq
      | cont => exact False.elim hq
end MP

/-! GN 8: for x in f(args): f a generator def. -/
namespace MP
open PySem PySem.Spec PyProof.Rows L2 GenW
/-- the state of a generator that rests -/
def AtRest (M : Model) (s : Shared) (g : Nat) (c : Code) (t : Sem PySem.Fin) (fs : List Frame) : Prop :=
  s.gens[g]? = some (.fresh c) ∧ t = M.den c ∧ fs = [] ∨ ∃ k₀ l₀ p₀ b, s.gens[g]? = some (.suspended k₀ l₀ c p₀ fs b) ∧ t = k₀ (.send .none)
theorem AtRest.imp {M : Model} {s s' : Shared} {g : Nat} {c : Code} {t : Sem PySem.Fin} {fs : List Frame} (h : AtRest M s g c t fs) (e : s'.gens[g]? = s.gens[g]?) : AtRest M s' g c t fs := by
  unfold AtRest
  rw [e]
  exact h
/-- the consumer of a generator -/
structure Con (X : Cx) (G : GD) (pins : List (Addr × Obj)) : Prop where
  prog : G.prog = X.prog
  w : G.w = X.w
  K : G.K = X.K
  mg : G.mg = X.mg
  base : G.base = X.base
  outer : G.outer = X.stack
  pin : ∀ p ∈ X.pn ++ pins, p.1 < G.env.locals
  cell : ∀ x c, X.env.cells.lookup x = some c → c < G.env.locals
  loc : X.env.locals < G.env.locals
  stk : X.stack = X.env :: X.outer
  frm : X.env.frame = some X.env.locals
  gf : GF G
section
variable {X : Cx} {G : GD} {pins ip : List (Addr × Obj)} {σ σg : L2.St} {H H' : Hp} {s : Shared}
theorem Con.fs (c : Con X G pins) {b : Addr} (h : b ∉ frs G.outer) : b ∉ X.fs ∧ b ≠ X.env.locals := by
  rw [c.outer, c.stk] at h
  unfold frs at h
  rw [List.filterMap_cons, c.frm] at h
  simp only [List.mem_cons, not_or] at h
  exact ⟨h.2, h.1⟩
theorem Con.env0 (c : Con X G pins) (I : Inv X pins σ H s) : Env0 G.prog G.w G.K G.mg G.base X.A G.outer s H := by
  rw [c.prog, c.w, c.K, c.mg, c.base, c.outer]
  exact I.env0
/-- the consumer runs: what is the generator's is pinned -/
theorem Con.hold (c : Con X G pins) (I : Inv X pins σ H s) (r : Rest G ip σg H s.heap) : ∃ oL, s.heap.get? G.env.locals = some oL ∧ Inv X (pins ++ ((G.env.locals, oL) :: (G.pn ++ ip))) σ H s := by
  obtain ⟨m, ⟨oL, es, ep, ho, hd, hk, hn⟩, hl⟩ := r.loc
  have hL : G.env.locals ∉ frs G.outer := fun h => absurd (c.gf.frb _ h) (Nat.lt_irrefl _)
  refine ⟨oL, ho, ⟨I.ok, I.os, I.bare, I.base, I.loc, I.cell, I.free, I.freeC, fun p hp => ?_, I.hok, I.len⟩⟩
  rcases List.mem_append.mp hp with h | h
  · exact I.pin p (List.mem_append_left _ h)
  · rcases List.mem_append.mp h with h | h
    · exact I.pin p (List.mem_append_right _ h)
    · rcases List.mem_cons.mp h with rfl | h
      · exact ⟨ho, r.free, (c.fs hL).2, (c.fs hL).1, fun v q => by rw [hd] at q; cases q⟩
      · obtain ⟨h1, h2, h3, h4, h5⟩ := r.pin p h
        exact ⟨h1, h2, (c.fs h4).2, (c.fs h4).1, h5⟩
/-- the consumer has run -/
theorem Con.kept {oL : Obj} {s' : Shared} {σ' : L2.St} (c : Con X G pins) (r : Rest G ip σg H s.heap) (e : s.heap.get? G.env.locals = some oL) (I : Inv X (pins ++ ((G.env.locals, oL) :: (G.pn ++ ip))) σ' H' s') : Inv X pins σ' H' s' ∧ Rest G ip σg H' s'.heap := by
  have pp : ∀ p ∈ (G.env.locals, oL) :: (G.pn ++ ip), s'.heap.get? p.1 = some p.2 ∧ H' p.1 = none := fun p hp => by
    obtain ⟨h1, h2, _⟩ := I.pin p (List.mem_append_right _ (List.mem_append_right _ hp))
    exact ⟨h1, h2⟩
  refine ⟨⟨I.ok, I.os, I.bare, I.base, I.loc, I.cell, I.free, I.freeC, fun p hp => ?_, I.hok, I.len⟩, ?_, ?_, fun p hp => ?_, r.len⟩
  · rcases List.mem_append.mp hp with h | h
    · exact I.pin p (List.mem_append_left _ h)
    · exact I.pin p (List.mem_append_right _ (List.mem_append_left _ h))
  · obtain ⟨m, ⟨o, es, ep, ho, hd, hk, hn⟩, hl⟩ := r.loc
    have eo : o = oL := by rw [e] at ho; exact (Option.some.inj ho).symm
    subst eo
    refine ⟨m, ⟨o, es, ep, (pp _ List.mem_cons_self).1, hd, hk, hn⟩, fun i x v h1 h2 h3 => ?_⟩
    obtain ⟨u, h4, h5⟩ := hl i x v h1 h2 h3
    refine ⟨u, h4, ?_⟩
    rcases h5 with h5 | ⟨_, c', h6, _⟩
    · exact .inl h5
    · rw [c.gf.noc] at h6; cases h6
  · exact (pp _ List.mem_cons_self).2
  · obtain ⟨_, _, h3, h4, h5⟩ := r.pin p hp
    obtain ⟨h1, h2⟩ := pp p (List.mem_cons_of_mem _ hp)
    exact ⟨h1, h2, h3, h4, h5⟩
end
end MP

/-! GN 9: the consumer asks for the next one. -/
namespace MP
open PySem PySem.Spec PyProof.Rows L2 GenW
section
variable {X : Cx} {G : GD} {pins ip : List (Addr × Obj)} {σ σg : L2.St} {H : Hp} {s : Shared} {P : Pl} {L Lg : List HObj} {A : List Addr} {a : Addr} {g : Nat} {go : Obj} {cc : Code} {t : Sem PySem.Fin} {fs : List Frame} {ρg : Env'} {ys : List PV} {Q : Option Value → Shared → Prop} {E : Value → Shared → Prop}
theorem GX.noY {K : PySem.W.Frag} {mg : Str → Option Value} {hx : HX} {xs : XSuite} {P : Pl} {H : Hp} {σ : L2.St} (Y : Addr → Prop) (h : GX K mg hx xs P H σ) : GX K mg hx xs ⟨P.A, P.Z, Y⟩ H σ := by
  unfold GX at h ⊢
  split at h
  · trivial
  · rename_i c f i a cls d
    obtain ⟨h1, h2, h3⟩ := h
    refine ⟨h1, h2, ?_⟩
    cases f with
    | none => exact h3
    | some p =>
      obtain ⟨n, x⟩ := p
      obtain ⟨dx, v, h4, h5, h6, h7⟩ := h3
      exact ⟨dx, v, h4, h5, h6, h7.noY Y _ _⟩
  · exact h.elim
theorem RE.noY {K : PySem.W.Frag} {mg : Str → Option Value} {P : Pl} {H : Hp} {ρ : Env'} {σ : L2.St} (Y : Addr → Prop) (h : RE K mg P H ρ σ) : RE K mg ⟨P.A, P.Z, Y⟩ H ρ σ := ⟨h.len, fun i x q => let ⟨v, h1, h2⟩ := h.val i x q; ⟨v, h1, h2.noY Y _ _⟩⟩
/-- the generator's view of the objects -/
abbrev gP (P : Pl) (A : List Addr) : Pl := ⟨A, P.Z, fun a => a ∈ P.A ∨ P.Y a⟩
theorem gturn (c : Con X G pins) (hA : G.Aw = X.A.in1) (hh : X.A.handled = none) (hd : X.A.depth < recursionLimit) (hpn : G.pn = [(a, go)]) (hgo : ∀ h : Heap, h.get? a = some go → h.IsGen a g) (I : Inv X pins σ H s) (t2 : Two X.K X.mg P L A Lg H) (ar : AtRest (model X.prog X.w) s g cc t fs)
    (ko : KOk G ys ip cc fs t ρg Lg) (r : Rest G ip σg H s.heap) (re : RE X.K X.mg ⟨A, P.Z, fun _ => False⟩ H ρg σg)
    (q0 : ys = [] → ∀ s' P' H', Inv X pins σ H' s' → Rel X.K X.mg P' L H' → Ext P H P' H' → Q none s')
    (q1 : ∀ y ys', ys = y :: ys' → ∀ v x s' P' H' A' Lg' ρg' σg' ip' c' t' fs', Inv X pins σ H' s' → Two X.K X.mg P' L A' Lg' H' → Ext P H P' H' → RelV x v → RV X.K X.mg P' H' y x → (∃ k₀ l₀ p₀ b, s'.gens[g]? = some (.suspended k₀ l₀ c' p₀ fs' b) ∧ t' = k₀ (.send .none)) → KOk G ys' ip' c' fs' t' ρg' Lg' →
      Rest G ip' σg' H' s'.heap → RE X.K X.mg ⟨A', P'.Z, fun _ => False⟩ H' ρg' σg' → Q (some v) s') : wpAny (model X.prog X.w) X.A (pyNext (.ref a)) Q E s := by
  have hgl : g + 1 ≤ s.gens.size := by
    rcases ar with ⟨h, _⟩ | ⟨_, _, _, _, h, _⟩ <;> exact (Array.getElem?_eq_some_iff.mp h).1
  have hga : s.heap.get? a = some go := (r.pin (a, go) (by rw [hpn]; exact List.mem_cons_self)).1
  have I1 : Inv X pins σ H (s.setGen g .running) := inv_gens I (allBare_setGen I.bare rfl)
  have hns : G.env.locals < s.heap.objs.size := let ⟨_, h, _⟩ := r.loc; h.lt
  have J0 : Inv (G.X (trc G.env.locals (s.setGen g .running)) H) ip σg H (s.setGen g .running) := Rest.wake (s := s.setGen g .running) r c.gf (c.env0 I1)
  have e1 : ExtZ ⟨A, P.Z, fun _ => False⟩ H (gP P A) H := ⟨⟨[], by simp⟩, fun _ _ h => h, fun _ _ _ h => h, fun _ z => z, fun _ _ _ h => h⟩
  refine wpAny_gsz (n := g + 1) hgl (nextX hh I.nolimit hd (hgo _ hga) ar ?_)
  have hk := ko (trc G.env.locals (s.setGen g .running)) H (gP P A) (gP P A) H (s.setGen g .running) σg (trc_size (Nat.le_of_lt hns)) J0 (by rw [c.K, c.mg]; exact t2.Rg) (by rw [c.K, c.mg]; exact re.monoZ e1) Ext.refl
  rw [c.prog, c.w, hA] at hk
  refine sx_imp (fun e s' h => ?_) hk
  cases ys with
  | nil =>
    obtain ⟨rfl, ip', σ', H', P', L', J, R', ex⟩ := h
    rw [c.K, c.mg] at R'
    refine ⟨rfl, fun h' kp _ => ?_⟩
    obtain ⟨Rn, en⟩ := t2.ranR ex R'
    have I2 := MP.Inv.slept I1 c.outer.symm (by rw [c.outer]) c.pin c.cell c.loc (Nat.le_of_lt hns) c.prog.symm c.w.symm J
    exact q0 rfl _ _ _ (inv_gens (I2.kept (t' := s'.toks) kp) (allBare_setGen I2.bare rfl)) Rn en
  | cons y ys =>
    obtain ⟨v, l, k, c', p, fs', ρ', L', ip', σ', H', P', x, rfl, hq, hL, hy, rv, ry, J, R', re', ex, cont⟩ := h
    rw [c.K, c.mg] at R' ry re'
    refine ⟨hq, fun hsz => ?_⟩
    obtain ⟨Rn, en⟩ := t2.ranR ex R'
    have T3 := t2.ran ex R' hL
    have I2 := MP.Inv.slept I1 c.outer.symm (by rw [c.outer]) c.pin c.cell c.loc (Nat.le_of_lt hns) c.prog.symm c.w.symm J
    have hsz' : g < s'.gens.size := by
      rw [setGen_size] at hsz
      exact hsz
    refine q1 y ys rfl v x _ ⟨P.A, P'.Z, P.Y⟩ H' P'.A L' ρ' σ' ip' c' (k (.send .none)) fs' (inv_gens I2 (allBare_setGen I2.bare (End.bare_of_quiet hq))) T3 en rv (RV.frame y x hy ry) ⟨k, l, p, _, setGen_at hsz', rfl⟩ cont (show Rest G ip' σ' H' s'.heap from rest_of J) ?_
    exact ⟨re'.len, fun i x q => let ⟨v, h1, h2⟩ := re'.val i x q; ⟨v, h1, RV.noY _ x v h2⟩⟩
end
end MP

/-! GN 10: for x in f(args), f a generator def: the statement. -/
namespace MP
open PySem PySem.Spec PyProof.Rows L2 GenW
theorem s_forg {X : Cx} {W : WX} {hx : HX} {xs : XSuite} {f : String} {sem : List PV → List PV → Prop} {p ipos pos : Pos} {tg e : Expr} {es : List Expr} {t : Tg} {ms : Env' → M (List PV)} {body : List PySem.Stmt} {x : Env' → List HObj → SOut} {gout : List PV → List HObj → Option (List PV)}
    (hstk : X.stack = X.env :: X.outer) (hfr : X.env.frame = some X.env.locals) (hp : PassesOwn (model X.prog X.w) X.A X.env X.xe) (hc : X.calm = true) (F : GCal X f sem) (hg : Gl X (Str.ofString f)) (hdb : (Str.ofString f == ("__debug__" : Str)) = false)
    (ha : PAi X W hx xs (e :: es) ms) (hs : (e :: es).all noStar = true) (hgt : PG (wish X) tg (gTg X.K t)) (hb : PSsi (wish X) WN hx xs body x) (hfs : ∀ v, foldedSetIterable (.Call (.Name (Str.ofString f) p) (e :: es) [] ipos) X.env v = pure v) (hne : NoEi xs t.slots)
    (hgo : ∀ vs L ys, gout vs L = some ys → unders 0 vs = true ∧ sem vs ys) :
    PSi X W hx xs (.For tg (.Call (.Name (Str.ofString f) p) (e :: es) [] ipos) body [] pos) (fun ρ L => match ms ρ L with
      | .ok vs L1 => (match gout vs L1 with
        | some ys => if L1.all isLst = true then forLoop none t (fun ρ2 L2 => lstO (x ρ2 L2)) ys ρ L1 else .stuck
        | none => .stuck)
      | .exc _ _ _ => .stuck
      | .stuck => .stuck) := by
  refine ⟨fun pins s σ H D I h => ?_⟩
  obtain ⟨P, L, ρ, l, h⟩ := h
  simp only at h
  cases hms : ms ρ L with
  | stuck => rw [hms] at h; exact h.elim
  | exc c f L1 => rw [hms] at h; exact h.elim
  | ok vs L1 =>
    rw [hms] at h
    simp only at h
    cases hgv : gout vs L1 with
    | none => rw [hgv] at h; exact h.elim
    | some ys =>
      rw [hgv] at h
      simp only at h
      split at h
      · rename_i hL1
        obtain ⟨hu, hse⟩ := hgo vs L1 ys hgv
        refine wpAny_For (gcall F hg hdb ha hs I l hms hu hse fun k u s1 s2 P1 H1 hroom I1 e1 l1 gn => ?_) hfs
        obtain ⟨a, g, gbody, genv, go, rfl, gos, gba, gkp, gIs, gget, ggen, gloc, gall⟩ := gn
        refine wpAny_pyIter_gen gIs ?_
        have hhd : X.A.handled = none := hroom.hd
        obtain ⟨G, g1, g2, g3, g4, g5, g6, g7, g8, g9, gf, ρ0, σ0, ko, rs, re0⟩ := gall X.A.in1 hroom.in1 I.ok.frames
        have gl : G.env.locals = s1.heap.objs.size := by rw [g9]; exact gloc
        have con : Con X G pins := by
          refine ⟨g1, g2, g3, g4, g5, g6, fun q hq => ?_, fun y c hyc => ?_, ?_, hstk, hfr, gf⟩
          · rw [gl]; exact Heap.lt_size (I1.pin q hq).1
          · rw [gl]
            obtain ⟨v, q⟩ := I1.cell y c hyc
            exact q.lt
          · rw [gl]; exact I1.lt
        have I2 : Inv X pins σ H1 s2 := I1.call' (ch := []) gos (Un.kept gkp) (I1.hok.kept gkp) gba fun b z => by simp at z
        have hgoG : ∀ h : Heap, h.get? a = some go → h.IsGen a g := fun h e => by
          obtain ⟨o, nm, qn, ho, h1, h2, h3⟩ := gIs
          rw [gget] at ho
          cases ho
          exact ⟨go, nm, qn, e, h1, h2, h3⟩
        have hgoN : go.cls = .type "generator" ∧ ∃ fsv, go.data = .fields fsv := by
          obtain ⟨o, nm, qn, ho, h1, h2, h3⟩ := gIs
          rw [gget] at ho
          cases ho
          exact ⟨h1, _, h2⟩
        have T0 : Two X.K X.mg P1 L1 [] [] H1 := ⟨l1.R, hL1, rfl, ⟨rfl, List.nodup_nil, fun n o a h1 h2 => by simp at h1, fun b z => ?_, fun b y z => ?_, fun b y => ?_⟩⟩
        · refine codeAny_forLoop_any (fun n s3 => ∃ (i : Nat) (σ3 : L2.St) (H3 : Hp) (P3 : Pl) (L3 : List HObj) (ρ3 : Env') (Ag : List Addr) (Lg : List HObj) (ρg : Env') (σg : L2.St) (ip : List (Addr × Obj)) (cc : Code) (tt : Sem PySem.Fin) (fs : List Frame),
            n = ys.length - i ∧ i ≤ ys.length ∧ Inv X pins σ3 H3 s3 ∧ Two X.K X.mg P3 L3 Ag Lg H3 ∧ Lay X.K X.mg hx xs P3 L3 H3 ρ3 σ3 ∧ PostS X.K X.mg W D hx xs P3 H3 (forLoop none t (fun ρ2 L2 => lstO (x ρ2 L2)) (ys.drop i) ρ3 L3) ∧
            AtRest (model X.prog X.w) s3 g cc tt fs ∧ KOk G (ys.drop i) ip cc fs tt ρg Lg ∧ Rest G ip σg H3 s3.heap ∧ RE X.K X.mg ⟨Ag, P3.Z, fun _ => False⟩ H3 ρg σg) ?_ ys.length ?_
          · rintro n s3 ⟨i, σ3, H3, P3, L3, ρ3, Ag, Lg, ρg, σg, ip, cc, tt, fs, rfl, hi, I3, T3, l3, h3, ar, ko3, r3, re3⟩
            refine wpAny_passesOwn hp (gturn con g7 hhd hroom.depth g8 hgoG I3 T3 ar ko3 r3 re3 (fun hnil s4 P4 H4 I4 R4 e4 => ?_) (fun y ys' hy v xx s4 P4 H4 A4 Lg4 ρg4 σg4 ip4 c4 t4 fs4 I4 T4 e4 rv ry ar4 ko4 r4 re4 => ?_))
            · rw [hnil] at h3
              unfold forLoop at h3
              rw [if_pos (show guardOk none L3 from trivial)] at h3
              exact wpAny_execs_nil ⟨σ3, H4, I4, h3 P4 H4 σ3 e4 (l3.mono e4 R4)⟩
            · have hil : i < ys.length := by
                by_cases hh : i < ys.length
                · exact hh
                · rw [List.drop_eq_nil_of_le (Nat.le_of_not_lt hh)] at hy; cases hy
              have hdr : ys.drop (i + 1) = ys' := by
                rw [List.drop_eq_getElem_cons hil] at hy
                exact (List.cons.inj hy).2
              rw [hy] at h3
              unfold forLoop at h3
              rw [if_pos (show guardOk none L3 from trivial)] at h3
              cases hbt : bindT t y ρ3 with
              | none => rw [hbt] at h3; exact h3.elim
              | some ρ4 =>
                rw [hbt] at h3
                simp only at h3
                obtain ⟨oL, hoL, Ih⟩ := con.hold I4 r4
                obtain ⟨fsv, hfsv⟩ := hgoN.2
                have hga4 : s4.heap.get? a = some go := (r4.pin (a, go) (by rw [g8]; exact List.mem_cons_self)).1
                refine wpAny_passesOwn hp (go_of hga4 hgoN.1 hfsv (by decide) ?_)
                obtain ⟨Rh, eh⟩ := T4.held
                have lh : Lay X.K X.mg hx xs ⟨P4.A, P4.Z, fun a => P4.Y a ∨ a ∈ A4⟩ L3 H4 ρ3 σ3 := (l3.mono e4 T4.R).mono eh Rh
                have Iw : Inv (wish X) (pins ++ ((G.env.locals, oL) :: (G.pn ++ ip4))) σ3 H4 (lull s4) := inv_wish (inv_gens Ih (bare_lull Ih.bare))
                refine wpAny_passesOwn hp (run_lull (hgt.run _ (lull s4) σ3 H4 xx v (fun σ5 H5 => H4 = H5 ∧ Lay X.K X.mg hx xs ⟨P4.A, P4.Z, fun a => P4.Y a ∨ a ∈ A4⟩ L3 H4 ρ4 σ5) Iw rv (gTg_run lh.re (ry.mono eh) hbt fun σ1 re1 _ ho => ⟨rfl, ⟨Rh, re1, lh.gx.off hne ho⟩⟩)) (fun _ s5 q5 z5 => ?_))
                obtain ⟨σ5, H5, I5, rfl, l5⟩ := q5
                have I6 : Inv (wish X) (pins ++ ((G.env.locals, oL) :: (G.pn ++ ip4))) σ5 H4 (lull (live (slpOf s4) s5)) := by
                  have b5 := bare_live z5 I5.bare
                  exact inv_gens (inv_gens I5 b5) (bare_lull (s := live (slpOf s4) s5) b5)
                obtain ⟨N, hN⟩ : ∃ N : L2.St → Hp → Prop, N = fun (σ7 : L2.St) (H7 : Hp) => ∃ (P7 : Pl) (L7 : List HObj) (ρ7 : Env'), L7.all isLst = true ∧ Ext ⟨P4.A, P4.Z, fun a => P4.Y a ∨ a ∈ A4⟩ H4 P7 H7 ∧ Lay X.K X.mg hx xs P7 L7 H7 ρ7 σ7 ∧ PostS X.K X.mg W D hx xs P3 H3 (forLoop none t (fun ρ2 L2 => lstO (x ρ2 L2)) ys' ρ7 L7) := ⟨_, rfl⟩
                refine wpAny_passesOwn hp (run_lull (hb.run _ (lull (live (slpOf s4) s5)) σ5 H4 { nx := N, ct := N, bk := D.nx, rt := D.rt } I6 ⟨_, L3, ρ4, l5, ?_⟩) (fun fl s7 q7 z7 => ?_))
                · have e34 := e4.trans eh
                  cases hxx : x ρ4 L3 with
                  | stuck => rw [hxx] at h3; exact h3.elim
                  | next ρ5 L5 =>
                    rw [hxx] at h3
                    by_cases hl5 : L5.all isLst = true
                    · have e0 : lstO (.next ρ5 L5) = .next ρ5 L5 := if_pos hl5
                      rw [e0] at h3
                      rw [hN]
                      exact fun P5 H5 σ5 e5 l5' => ⟨P5, L5, ρ5, hl5, e5, l5', h3⟩
                    · have e0 : lstO (.next ρ5 L5) = .stuck := if_neg hl5
                      rw [e0] at h3
                      exact h3.elim
                  | cnt ρ5 L5 =>
                    rw [hxx] at h3
                    by_cases hl5 : L5.all isLst = true
                    · have e0 : lstO (.cnt ρ5 L5) = .cnt ρ5 L5 := if_pos hl5
                      rw [e0] at h3
                      rw [hN]
                      exact fun P5 H5 σ5 e5 l5' => ⟨P5, L5, ρ5, hl5, e5, l5', h3⟩
                    · have e0 : lstO (.cnt ρ5 L5) = .stuck := if_neg hl5
                      rw [e0] at h3
                      exact h3.elim
                  | brk ρ5 L5 =>
                    rw [hxx] at h3
                    exact fun P5 H5 σ5 e5 l5' => h3 P5 H5 σ5 (e34.trans e5) l5'
                  | ret w L5 =>
                    rw [hxx] at h3
                    exact fun P5 H5 u e5 R5 ru => h3 P5 H5 u (e34.trans e5) R5 ru
                  | exc c f ρ5 L5 =>
                    rw [hxx] at h3
                    exact h3.elim
                · have back : ∀ {σ7 : L2.St} {H7 : Hp}, Inv (wish X) (pins ++ ((G.env.locals, oL) :: (G.pn ++ ip4))) σ7 H7 s7 → Inv X pins σ7 H7 (live (slpOf (live (slpOf s4) s5)) s7) ∧ Rest G ip4 σg4 H7 (live (slpOf (live (slpOf s4) s5)) s7).heap := fun I7 =>
                    con.kept r4 hoL (inv_gens (inv_unwish I7) (bare_live z7 I7.bare))
                  have again : ∀ {σ7 : L2.St} {H7 : Hp}, Inv (wish X) (pins ++ ((G.env.locals, oL) :: (G.pn ++ ip4))) σ7 H7 s7 → N σ7 H7 → ∃ m, m < ys.length - i ∧ ∃ (i : Nat) (σ3 : L2.St) (H3 : Hp) (P3 : Pl) (L3 : List HObj) (ρ3 : Env') (Ag : List Addr) (Lg : List HObj) (ρg : Env') (σg : L2.St) (ip : List (Addr × Obj)) (cc : Code) (tt : Sem PySem.Fin) (fs : List Frame),
            m = ys.length - i ∧ i ≤ ys.length ∧ Inv X pins σ3 H3 (live (slpOf (live (slpOf s4) s5)) s7) ∧ Two X.K X.mg P3 L3 Ag Lg H3 ∧ Lay X.K X.mg hx xs P3 L3 H3 ρ3 σ3 ∧ PostS X.K X.mg W D hx xs P3 H3 (forLoop none t (fun ρ2 L2 => lstO (x ρ2 L2)) (ys.drop i) ρ3 L3) ∧
            AtRest (model X.prog X.w) (live (slpOf (live (slpOf s4) s5)) s7) g cc tt fs ∧ KOk G (ys.drop i) ip cc fs tt ρg Lg ∧ Rest G ip σg H3 (live (slpOf (live (slpOf s4) s5)) s7).heap ∧ RE X.K X.mg ⟨Ag, P3.Z, fun _ => False⟩ H3 ρg σg := fun {σ7 H7} I7 n7 => by
                    rw [hN] at n7
                    obtain ⟨P7, L7, ρ7, hl7, e7, l7, h7⟩ := n7
                    obtain ⟨T7, e47, ez⟩ := T4.back e7 l7.R hl7
                    obtain ⟨I8, r8⟩ := back I7
                    obtain ⟨k₀, l₀, p₀, b₀, hs4, ht4⟩ := ar4
                    have ar8 : AtRest (model X.prog X.w) (live (slpOf (live (slpOf s4) s5)) s7) g c4 t4 fs4 := .inr ⟨k₀, l₀, p₀, b₀, kept_of z7 _ _ _ _ _ _ _ (kept_of z5 _ _ _ _ _ _ _ hs4), ht4⟩
                    refine ⟨ys.length - (i + 1), by omega, i + 1, σ7, H7, _, L7, ρ7, A4, Lg4, ρg4, σg4, ip4, c4, t4, fs4, rfl, hil, I8, T7, ⟨T7.R, l7.re.noY _, l7.gx.noY _⟩, ?_, ar8, ?_, r8, ?_⟩
                    · rw [hdr]
                      exact PostS.shift h7 (e4.trans e47)
                    · rw [hdr]
                      exact ko4
                    · exact re4.monoZ (show ExtZ ⟨A4, P4.Z, fun _ => False⟩ H4 ⟨A4, P7.Z, fun _ => False⟩ H7 from ⟨ez.A, ez.tup, ez.frz, ez.Z, ez.holdZ⟩)
                  cases fl with
                  | next => obtain ⟨σ7, H7, I7, n7⟩ := q7; exact again I7 n7
                  | cont => obtain ⟨σ7, H7, I7, n7⟩ := q7; exact again I7 n7
                  | brk => obtain ⟨σ7, H7, I7, q7⟩ := q7; exact ⟨σ7, H7, (back I7).1, q7⟩
                  | ret u => obtain ⟨x7, σ7, H7, I7, r7, q7⟩ := q7; exact ⟨x7, σ7, H7, (back I7).1, r7, q7⟩
          · refine ⟨0, σ, H1, P1, L1, ρ, [], [], ρ0, σ0, [], _, _, [], rfl, Nat.zero_le _, I2, T0, l1, PostS.shift h e1, .inl ⟨ggen, rfl, rfl⟩, ?_, rs, re0⟩
            exact ko
        · rcases z with z | z | z
          · exact ⟨(l1.R.fzK b (.inl z)).1, by simp⟩
          · obtain ⟨ws, q⟩ := l1.R.lstA hL1 z
            exact ⟨⟨_, q⟩, by simp⟩
          · exact ⟨(l1.R.fzK b (.inr z)).1, by simp⟩
        · rcases y with y | y
          · exact (l1.R.fzK b (.inl z)).2 y
          · exact l1.R.dj b y z
        · rcases y with y | y
          · exact l1.R.lstA hL1 y
          · exact l1.R.yl b y
      · exact h.elim
end MP

/-! GN 11: a generator def keeps its promise. -/
namespace MP
open PySem PySem.Spec PyProof.Rows L2 GenW
theorem cells_none : ∀ {ns : List (Str × NameKind)} {m : Nat}, (∀ y ∈ ns, y.2 ≠ .cell ∧ y.2 ≠ .free) → cellsFrom m ns [] = []
  | [], _, _ => rfl
  | (n, k) :: r, m, h => by
    have h1 : (k == NameKind.cell) = false := by rw [beq_eq_false_iff_ne]; exact (h (n, k) List.mem_cons_self).1
    rw [cellsFrom, h1, if_neg Bool.false_ne_true]
    exact cells_none fun y hy => h y (List.mem_cons_of_mem _ hy)
theorem re_startG {K : PySem.W.Frag} {mg : Str → Option Value} {Pl' : Pl} {H : Hp} {N : List Str} {ys : List PV} {vs : List V} (r : RVs K mg Pl' H ys vs) : RE K mg Pl' H (ys.map some ++ List.replicate (N.length - ys.length) none) (L2.start N vs) := by
  have hl := r.length
  refine ⟨by unfold L2.start; simp [hl], fun i x q => ?_⟩
  unfold L2.start
  by_cases hi : i < ys.length
  · rw [List.getElem?_append_left (by simpa using hi)] at q
    rw [List.getElem?_map] at q
    obtain ⟨y, h1, h2⟩ := Option.map_eq_some_iff.mp q
    cases h2
    obtain ⟨v, h3, h4⟩ := r.get h1
    refine ⟨v, ?_, h4⟩
    rw [List.getElem?_append_left (by simp; omega), List.getElem?_map, h3]
    rfl
  · rw [List.getElem?_append_right (by simpa using hi)] at q
    rw [List.getElem?_replicate] at q
    split at q <;> cases q
theorem gprom_of {P : Program} {w : World} {K : PySem.W.Frag} {mg : Str → Option Value} {base : Heap} {k : Nat} {f : Addr} {name qual : Str} {params : Arguments} {body : List PySem.Stmt} {scope : Scope} {dV kV doc pm cdv ct oc : Value} {an od : Option Addr}
    {osl : Array (Option Value)} {N ps : List Str} {sem : List PV → List PV → Prop} (lk : K.lookup f = some ⟨oc, od, .func (PySem.W.fnOf name qual params body scope dV kV doc pm an cdv ct), osl⟩) (hcd : PySem.W.codeIn K cdv qual = true) (S : GScope N ps scope)
    (hnc : ∀ y ∈ scope.names, y.2 ≠ .cell ∧ y.2 ≠ .free) (len : ∀ ys outs, sem ys outs → ys.length = ps.length)
    (hbody : ∀ (Aw : Around) (outer : List Env) (n : Nat) (pn : List (Addr × Obj)) (ys outs : List PV), Room k (Aw.deeper (envOfC qual scope n f cdv)) → sem ys outs →
      ∃ (B : BR) (ρ' : Env') (L' : List HObj), GJ ⟨P, w, K, mg, base, N, envOfC qual scope n f cdv, outer, Aw.deeper (envOfC qual scope n f cdv), Aw, pn⟩ body B ∧ B (ys.map some ++ List.replicate (N.length - ys.length) none) [] outs ρ' L') :
    GProm P w K mg base (k + 1) f (PySem.W.fnOf name qual params body scope dV kV doc pm an cdv ct) ps sem := by
  refine ⟨len, fun A outer s H args us vs ys outs Pc hr e0 hb r rv hu hse => ?_⟩
  have hl : vs.length = ps.length := by rw [← rv.length]; exact len _ _ hse
  have KX : K.In s.heap := e0.mod.kin.keeps fun b o e => (e0.bs b o e).1
  have lim : s.heap.NoLimit := e0.mod.nolimit.keeps fun b o e => (e0.bs b o e).1
  have hkind : ∀ y ∈ ps.zip us, scope.names.lookup y.1 = some .local ∨ (scope.names.lookup y.1 = some .cell ∧ ((cellsFrom (s.heap.objs.size + 1) scope.names []).lookup y.1).isSome = true) := fun ⟨n, v⟩ hy => by
    rcases S.par n (List.of_mem_zip hy).1 with q | q
    · exact .inl q
    · exact .inr ⟨q, PySem.W.cellsFrom_some _ _ _ (.inl q)⟩
  refine codeAny_call_generator hr.depth (KX _ _ lk) rfl S.co S.gen rfl (PySem.W.codeRec_of KX hcd) (hb _ _ _ _ ?_)
  refine wpAny_newFunctionEnv_cells S.kind hkind fun env he s1 x => ?_
  subst he
  have lim1 : s1.heap.NoLimit := lim.keeps x.toInCall.keep
  refine ⟨lim1, ?_⟩
  obtain ⟨h1, tk, es1, hk1⟩ := x.done
  have os1 : s1.os = s.os := by rw [es1]
  have gen1 : s1.gens = s.gens := by rw [es1]
  have lt1 : s.heap.objs.size < s1.heap.objs.size := x.toInCall.ns.lt
  have kp1 : ∀ b o, s.heap.get? b = some o → s1.heap.get? b = some o := x.toInCall.keep
  have main : ∀ (go : Obj) (nm qn : Value) (tk2 : Nat), go.cls = .type "generator" → go.data = .fields #[.int s1.gens.size 0, nm, qn] → go.slots = #[] → (∀ h : Heap, (h.push go).get? h.objs.size = some go) →
      GNew P w K mg base (k + 1) outer Pc H s outs (.ref s1.heap.objs.size) { s1 with gens := s1.gens.push (.fresh (.func body (envOfC qual scope s.heap.objs.size f cdv))), toks := tk2, heap := s1.heap.push go } := by
    intro go nm qn tk2 hgc hgd0 hgs hgp
    have hpushed : (s1.heap.push go).get? s1.heap.objs.size = some go := hgp _
    refine ⟨s1.heap.objs.size, s1.gens.size, body, envOfC qual scope s.heap.objs.size f cdv, go, rfl, os1, AllBare.push (by rw [gen1]; exact e0.bare) rfl, fun b o e => Heap.get?_push_of_some _ (kp1 b o e), ⟨go, nm, qn, hpushed, hgc, hgd0, hgs⟩, hpushed, Array.getElem?_push_size .., rfl, fun Aw hrw hfr => ?_⟩
    have e0w : Env0 P w K mg base Aw outer s H := ⟨hfr, e0.mod, e0.bs, e0.bsz, e0.funs, e0.frf, e0.hok, e0.bare⟩
    have I1 : Inv (gcxOf P w K mg base N qual scope f cdv Aw outer s H (fun _ _ _ => False) []) [] (L2.start N vs) H s1 := inv_startG S hrw.hd e0w hl r x
    have noc : ∀ y, (envOfC qual scope s.heap.objs.size f cdv).cells.lookup y = none := fun y => by
      show (cellsFrom (s.heap.objs.size + 1) scope.names []).lookup y = none
      rw [cells_none hnc]
      rfl
    have nok : ∀ y, ¬ ((envOfC qual scope s.heap.objs.size f cdv).kindOf y = some .cell ∨ (envOfC qual scope s.heap.objs.size f cdv).kindOf y = some .free) := fun y hy => by
      have hy : scope.names.lookup y = some .cell ∨ scope.names.lookup y = some .free := hy
      rcases hy with hy | hy
      · exact (hnc _ (PySem.mem_of_lookup hy)).1 rfl
      · exact (hnc _ (PySem.mem_of_lookup hy)).2 rfl
    refine ⟨⟨P, w, K, mg, base, N, envOfC qual scope s.heap.objs.size f cdv, outer, Aw.deeper (envOfC qual scope s.heap.objs.size f cdv), Aw, [(s1.heap.objs.size, go)]⟩, rfl, rfl, rfl, rfl, rfl, rfl, rfl, rfl, rfl, ⟨S.kind, rfl, rfl, noc, nok, rfl, hrw.hd, Around.frames_deeper hfr, e0.bsz, fun b hb => ?_⟩, ?_⟩
    · obtain ⟨_, o, ho, _⟩ := e0.funs.mem hb
      exact Heap.lt_size ho
    · obtain ⟨B, ρ', L', hj, hB⟩ := hbody Aw outer s.heap.objs.size [(s1.heap.objs.size, go)] ys outs (hrw.deeper _) hse
      refine ⟨_, L2.start N vs, k_func over_func hj hB, ⟨?_, I1.free, fun p hp => ?_, I1.len⟩, re_startG (RVs.frame ys vs hu rv)⟩
      · obtain ⟨m, hn, hl⟩ := I1.loc
        refine ⟨m, ?_, fun i y v q1 q2 q3 => ?_⟩
        · obtain ⟨o, es, ep, ho, q⟩ := hn
          exact ⟨o, es, ep, Heap.get?_push_of_some _ ho, q⟩
        · obtain ⟨u, q4, q5⟩ := hl i y v q1 q2 q3
          refine ⟨u, q4, ?_⟩
          rcases q5 with q5 | ⟨q5, _⟩
          · exact .inl q5
          · exact absurd q5 (nok y)
      · rw [List.append_nil] at hp
        rw [List.mem_singleton.mp hp]
        exact ⟨hpushed, I1.hok.fresh (Nat.le_refl _), Nat.ne_of_gt lt1, I1.nofs (Nat.le_refl _), fun v q => by rw [hgd0] at q; cases q⟩
  exact main _ _ _ _ rfl rfl rfl fun h => Heap.get?_push_size _ rfl
end MP

/-! MP 21: raise, try, comprehensions stored. -/
namespace MP
open PySem PySem.Spec PyProof.Rows L2
section
variable {X : Cx} {W : WX} {hx : HX} {xs : XSuite} {e : Expr} {pos : Pos} {m : Env' → M PV} {T : Tab}
theorem s_raise0 {c : String} {C : Addr} {msg : Str} {j : Nat} {p p2 cpos : Pos} (hc : X.calm = true) (tk : Tk X W) (E : ExOne X.K X.mg T c none C) (hg : Gl X (Str.ofString c)) (hdb : (Str.ofString c == ("__debug__" : Str)) = false) :
    PSi X W hx xs (.Raise (some (.Call (.Name (Str.ofString c) p) [.Constant (.str msg) j p2] [] cpos)) none pos) (fun ρ L => .exc c none ρ L) := by
  obtain ⟨B, newId, initId, bmB, F, q⟩ := E.made
  exact (L2N.ps_raise hc tk (L2N.pmk_own F q E.gC E.kC (raises_own E.s1 E.s2) hg hdb)).mpwk fun D σ H ⟨P, L, ρ, l, h⟩ => h P H σ _ _ Ext.refl l ⟨⟨C, rfl, E.gC⟩, rfl⟩
theorem s_raise1 {c n : String} {C : Addr} {p cpos : Pos} (hc : X.calm = true) (tk : Tk X W) (E : ExOne X.K X.mg T c (some n) C) (hT : T.excs.lookup c = some (some n)) (hI : Inits X T) (hg : Gl X (Str.ofString c)) (hdb : (Str.ofString c == ("__debug__" : Str)) = false)
    (he : PEi X W hx xs e m) (hs : noStar e = true) :
    PSi X W hx xs (.Raise (some (.Call (.Name (Str.ofString c) p) [e] [] cpos)) none pos) (fun ρ L => onOk (gcM (m ρ)) ρ (fun v L' => .exc c (some (n, v)) ρ L') L) := by
  obtain ⟨k, fI, fd, ps, i1, i2, ok, hr, hb⟩ := hI c n C hT E.gC
  have pm := pmk_init (X := X) (x := Str.ofString c) (n := Str.ofString n) (pos := cpos) (p := p) E.made (E.nof c n (lookup_mem' hT)) i1 i2 ok hr hb (L2N.passes_call tk fun _ _ _ _ z => z.elim) hg E.gC he hs hdb
  exact (L2N.ps_raise hc tk pm).mpwk fun D σ H ⟨P, L, ρ, l, h⟩ => ⟨P, L, ρ, l, (post_gcM l.R (onOk_post l h)).imp fun v L1 P1 H1 e1 R1 q u ru d hd => by
    obtain ⟨P2, e2, R2, r2, q2⟩ := q u ru
    have hd' : H1 d = none := hd
    exact q2 P2 _ σ _ _ (e2.trans (Ext.fresh hd')) (l.mono (e2.trans (Ext.fresh hd')) (R2.fresh hd')) ⟨⟨C, rfl, E.gC⟩, d, u, rfl, upd_same, R2.notA hd', r2.mono (Ext.fresh hd')⟩⟩
theorem ps_ex {X : Cx} {st : List Stmt} {α : Type} {t : α → TS} (h : ∀ a, PSs X st (t a)) : PSs X st (fun D σ H => ∃ a, t a D σ H) := ⟨fun pins s σ H D I ⟨a, q⟩ => (h a).run pins s σ H D I q⟩
theorem s_try {c : String} {i : Nat} {n : Str} {body suite : List Stmt} {b₀ : Stmt} {np pos' : Pos} {D0 : Addr} {xb : Env' → List HObj → SOut} {xh : HX → Env' → List HObj → SOut} (hs : X.stack = X.env :: X.outer) (hf : X.env.frame = some X.env.locals) (hN : X.N.Nodup) (hi : X.N[i]? = some n)
    (hln : X.env.kindOf n = some .local) (hc : Names X (Str.ofString c) (.ref D0)) (tk : Tk X W)
    (hb : ∀ (W' : WX) (pn : List (Addr × Obj)) (xe : Value → Shared → Prop), Tk (X.tr pn xe) W' → PassesOwn (model X.prog X.w) X.A X.env xe → PSsi (X.tr pn xe) W' none none body xb)
    (hsu : ∀ (a : Addr) (oe : Obj) (cls : Value) (d : Option Addr) (pn : List (Addr × Obj)) (kc : String) (f : Option (String × PV)), L2N.Zn cls d oe → (∃ vs, oe.data = .fields vs) → (T.excs.lookup kc).isSome = true → EC X.mg kc cls →
      PSsi (X.suite a ((a, oe) :: pn)) W0 (some (kc, f)) (some (i, a, cls, d)) (b₀ :: suite) (xh (some (kc, f))))
    (hex : ∀ (kc : String) (cls : Value), (T.excs.lookup kc).isSome = true → EC X.mg kc cls → PySem.W.exmOne X.K cls (.ref D0) = some (T.subs.contains (kc, c))) :
    PSi X W none none (.Try body [.ExceptHandler (some (.Name (Str.ofString c) np)) (some n) (b₀ :: suite) pos'] [] [] pos) (fun ρ L => match xb ρ L with
      | .exc c' f ρ' L' => if (T.excs.lookup c').isSome = true ∧ i < ρ'.length then (if T.subs.contains (c', c) = true then (match xh (some (c', f)) (ρ'.set i (some .exn)) L' with
        | .next ρ2 L2 => .next (ρ2.set i none) L2
        | .brk ρ2 L2 => .brk (ρ2.set i none) L2
        | .cnt ρ2 L2 => .cnt (ρ2.set i none) L2
        | .ret v L2 => .ret v L2
        | _ => .stuck) else .exc c' f ρ' L') else .stuck
      | r => r) := by
  have hsu' : ∀ (a : Addr) (oe : Obj) (cls : Value) (d : Option Addr) (pn : List (Addr × Obj)), L2N.Zn cls d oe → (∃ vs, oe.data = .fields vs) → PSs (X.suite a ((a, oe) :: pn)) (b₀ :: suite)
      (fun D σ H => ∃ q : { q : String × Option (String × PV) // (T.excs.lookup q.1).isSome = true ∧ EC X.mg q.1 cls }, tS X.K X.mg W0 (some q.1) (some (i, a, cls, d)) (xh (some q.1)) D σ H) :=
    fun a oe cls d pn hz hd => ps_ex fun q => hsu a oe cls d pn q.1.1 q.1.2 hz hd q.2.1 q.2.2
  refine (L2N.ps_try_as (tb := fun W' => tS X.K X.mg W' none none xb) hs hf hN hi hln hc tk hb hsu').mpwk fun D σ H ⟨P, L, ρ, l, h⟩ => ⟨P, L, ρ, l, ?_⟩
  simp only at h
  cases hx' : xb ρ L with
  | next ρ' L' => rw [hx'] at h; exact h
  | ret v L' => rw [hx'] at h; exact h
  | brk ρ' L' => rw [hx'] at h; exact h
  | cnt ρ' L' => rw [hx'] at h; exact h
  | stuck => rw [hx'] at h; exact h
  | exc kc f ρ' L' =>
    rw [hx'] at h
    intro P1 H1 σ1 cls d e1 l1 xd
    simp only at h
    split at h
    · rename_i hk
      refine ⟨T.subs.contains (kc, c), hex kc cls hk.1 xd.1, fun hb1 a ha => ?_, fun hb1 => ?_⟩
      · rw [if_pos hb1] at h
        refine ⟨⟨(kc, f), hk.1, xd.1⟩, ?_⟩
        have hil : i < σ1.length := by rw [← l1.re.len]; exact hk.2
        -- where it stands
        have st : ∃ P2, Ext P1 H1 P2 H1 ∧ Lay X.K X.mg (some (kc, f)) (some (i, a, cls, d)) P2 L' H1 (ρ'.set i (some .exn)) (σ1.set i (some (.ref a))) := by
          cases f with
          | none =>
            have ra : RV X.K X.mg P1 H1 .exn (.ref a) := ⟨a, rfl⟩
            refine ⟨P1, Ext.refl, l1.R, l1.re.set ra, ?_⟩
            exact ⟨List.getElem?_set_self hil, xd.1, xd.2⟩
          | some nx =>
            obtain ⟨nf, x⟩ := nx
            obtain ⟨dx, v, q1, q2, q3, q4⟩ := xd.2
            have ra : RV X.K X.mg P1 H1 .exn (.ref a) := ⟨a, rfl⟩
            refine ⟨P1.hold dx, Ext.hold', l1.R.hold q2 q3 (fun y => by obtain ⟨us, q⟩ := l1.R.yl dx y; rw [q2] at q; cases q), (l1.re.set ra).mono Ext.hold', ?_⟩
            exact ⟨List.getElem?_set_self hil, xd.1, dx, v, q1, .inr rfl, q2, q4.mono Ext.hold'⟩
        obtain ⟨P2, e2, l2⟩ := st
        refine ⟨P2, L', _, l2, ?_⟩
        have back : ∀ {P3 : Pl} {H3 : Hp} {σ3 : L2.St} {ρ3 : Env'} {L3 : List HObj}, Lay X.K X.mg (some (kc, f)) (some (i, a, cls, d)) P3 L3 H3 ρ3 σ3 → Lay X.K X.mg none none P3 L3 H3 (ρ3.set i none) (σ3.set i none) := fun l3 => ⟨l3.R, l3.re.clear, trivial⟩
        cases hh : xh (some (kc, f)) (ρ'.set i (some .exn)) L' with
        | next ρ3 L3 => rw [hh] at h; exact fun P3 H3 σ3 e3 l3 => h P3 H3 _ ((e1.trans e2).trans e3) (back l3)
        | brk ρ3 L3 => rw [hh] at h; exact fun P3 H3 σ3 e3 l3 => h P3 H3 _ ((e1.trans e2).trans e3) (back l3)
        | cnt ρ3 L3 => rw [hh] at h; exact fun P3 H3 σ3 e3 l3 => h P3 H3 _ ((e1.trans e2).trans e3) (back l3)
        | ret v L3 => rw [hh] at h; exact fun P3 H3 u e3 R3 ru => h P3 H3 u ((e1.trans e2).trans e3) R3 ru
        | exc c2 f2 ρ3 L3 => rw [hh] at h; exact h.elim
        | stuck => rw [hh] at h; exact h.elim
      · rw [if_neg (by rw [hb1]; exact Bool.false_ne_true)] at h
        exact h P1 H1 σ1 cls d e1 l1 xd
    · exact h.elim
/-- name = [..] -/
theorem s_setLc {mm : Env' → M PV} {i : Nat} {y : Str} {py spos : Pos} {elt tg iter : Expr} {ifs : List Expr} {scope : Scope} {own : List (Str × Nat)} {ms : Env' → M (List PV)} {cond : Env' → M Bool} {el : Env' → M PV} {k : ItK} {t : Tg} (hc : X.calm = true) (hN : X.N.Nodup) (hy : X.N[i]? = some y) (hyl : X.env.scope.names.lookup y = some .local)
    (hsw : swapsWith (.ListComp elt [⟨tg, iter, ifs, 0⟩] scope pos) (some (.Name y py)) spos.line X.env = pure true) (hi : PIi X W none none k tg iter ms) (ok : BlkOk X.N X.env.scope scope own)
    (hg : ∀ (s : Shared) (H : Hp) (C : Addr) (cl : List (Str × Addr)) (fp : List Addr), PG (Bk X scope s H C cl fp) tg (gTg X.K t))
    (ht : ∀ (s : Shared) (H : Hp) (C : Addr) (cl : List (Str × Addr)) (fp : List Addr), PTs (Bk X scope s H C cl fp) ifs (tIT X.K X.mg W0 none none cond))
    (he : ∀ (s : Shared) (H : Hp) (C : Addr) (cl : List (Str × Addr)) (fp : List Addr), PE (Bk X scope s H C cl fp) elt (tI X.K X.mg W0 none none el)) (hs : ∀ x, foldedSetIterable iter X.env x = pure x) (hin : ∀ i ∈ t.slots, i ∈ own.map (·.2)) (hmm : ∀ σ H Q, tI X.K X.mg W none none mm σ H Q → tI X.K X.mg W none none (lcM k t (own.map (·.2)) ms cond el) σ H Q) :
    PSi X W none none (.Assign [.Name y py] (.ListComp elt [⟨tg, iter, ifs, 0⟩] scope pos) spos) (fun ρ L => onOk (gcM (mm ρ)) ρ (fun v L' => match bindT (.one i) v ρ with
    | some ρ' => .next ρ' L'
    | none => .stuck) L) :=
  (ps_setLc (te := tI X.K X.mg W0 none none el) (tt := tIT X.K X.mg W0 none none cond) (g := gTg X.K t) hc hN hy hyl hsw hi ok hg ht he hs).mpwk fun D σ H q => by
    have z := asg_gc (X := X) (W := W) (t := .one i) (fun _ _ _ _ _ _ h => by cases h) D σ H q
    exact lc_weak hin σ H _ (hmm _ _ _ z)
end
end MP

/-! MP 22: checked statements. -/
namespace MP
open PySem PySem.Spec PyProof.Rows L2
/-- what a call of a generator def hands out -/
def semC (cl : String → List PV → M PV) (f : String) : List PV → List PV → Prop := fun ys outs => ∃ L1 L2, cl f ys L1 = .ok (.frl outs) L2
structure Sok (c : Cfg) (X : Cx) (W : WX) (hx : HX) (xs : XSuite) (cl : String → List PV → M PV) : Prop where
  k : Cok c X W hx xs cl
  po : PassesOwn (model X.prog X.w) X.A X.env X.xe
  stk : c.calm = true → X.stack = X.env :: X.outer ∧ X.env.frame = some X.env.locals
  kind : c.sc.kind = .function
  gns : c.calm = true → ∀ f gd, c.T.gns.lookup f = some gd → GCal X f (semC cl f)
def SndT (c : Cfg) (x : Sx) (st : Stmt) : Prop := ∀ X W hx xs cl, Sok c X W hx xs cl → PSi X W hx xs st (exec c.T cl x hx)
def SndTs (c : Cfg) (x : List Sx) (st : List Stmt) : Prop := ∀ X W hx xs cl, Sok c X W hx xs cl → PSsi X W hx xs st (execs c.T cl x hx)
def noEi (c : Cfg) (is : List Nat) : Bool := is.all fun i => decide (c.ei ≠ some i)
theorem noEi_of {c : Cfg} {X : Cx} {W : WX} {hx : HX} {xs : XSuite} {cl : String → List PV → M PV} (k : Cok c X W hx xs cl) {is : List Nat} (h : noEi c is = true) : NoEi xs is := fun i hi j a cls d e z => by
  have h1 := List.all_eq_true.mp h i hi
  have h2 := of_decide_eq_true h1
  rw [k.xei j a cls d e, z] at h2
  exact h2 rfl
def notComp : Expr → Bool
  | .ListComp .. => false
  | .SetComp .. => false
  | .DictComp .. => false
  | _ => true
theorem sw_plain {e : Expr} {t : Option Expr} {l : Nat} {env : Env} (h : notComp e = true) : swapsWith e t l env = pure false := by
  cases e <;> first
    | rfl
    | cases h
theorem sw_other {e tg : Expr} {l : Nat} {env : Env} (h : (match tg with | .Name .. => false | _ => true) = true) : swapsWithSole [tg] e l env = pure false := by
  cases tg <;> first
    | (cases e <;> rfl)
    | cases h
def swB (c : Cfg) (scope : Scope) (vp : Pos) (y : Str) (p : Pos) : Bool := (match c.sc.names.lookup y with
  | some .local => true
  | _ => false) && (p.line == vp.line) && !(scope.names.any fun (n, k) => n == y && (k == .local || k == .cell))
section
variable {c : Cfg} {recE : Cfg → Ex → Expr → Bool} {rec : Cfg → Sx → Stmt → Bool}
def ckSet (recE : Cfg → Ex → Expr → Bool) (c : Cfg) (i : Nat) (x : Ex) : Stmt → Bool
  | .Assign [.Name y p] v _ => locOk c i y && noEi c [i] && (match v with
    | .ListComp el gs scope vp => if swB c scope vp y p = true then c.calm && (match x with
        | .lc elt tg k xs conds own => ckLc recE c elt tg k xs conds own (.ListComp el gs scope vp)
        | .frz (.lc elt tg k xs conds own) => ckLc recE c elt tg k xs conds own (.ListComp el gs scope vp)
        | _ => false) else recE c x (.ListComp el gs scope vp)
    | v => notComp v && recE c x v)
  | _ => false
variable (hE : ∀ c x e, recE c x e = true → Snd c x e)
include hE
theorem sndt_lc (z : Bool) {i : Nat} {y : Str} {p : Pos} {el : Expr} {gs : List Comprehension} {scope : Scope} {vp pos : Pos} {elt : Ex} {tg : Tg} {k : ItK} {ys conds : List Ex} {own : List Nat} (hl : locOk c i y = true) (hsw : swB c scope vp y p = true) (hcalm : c.calm = true)
    (h : ckLc recE c elt tg k ys conds own (.ListComp el gs scope vp) = true) : SndT c (.set i (if z = true then .frz (.lc elt tg k ys conds own) else .lc elt tg k ys conds own)) (.Assign [.Name y p] (.ListComp el gs scope vp) pos) := by
  unfold ckLc at h
  split at h
  · rename_i el2 tge it ifs a scope2 pos2 heq
    cases heq
    simp only [Bool.and_eq_true, decide_eq_true_eq] at h
    obtain ⟨⟨⟨⟨⟨⟨⟨⟨h1, h2⟩, h3⟩, h4⟩, h5⟩, h6⟩, h7⟩, h8⟩, h9⟩ := h
    subst h1
    intro X W hx xs cl S
    have kk := S.k
    obtain ⟨hc, rfl, rfl, _⟩ := kk.calm h2
    have ok : BlkOk X.N X.env.scope scope (own.map fun i => (c.N.getD i default, i)) := by
      rw [kk.N, kk.sc]
      exact blkOk_by h3
    have kb := fun s H C cl' fp => cok_blk h2 kk ok s H C cl' fp
    have hT : ∀ (s : Shared) (H : Hp) (C : Addr) (cl' : List (Str × Addr)) (fp : List Addr), PTs (Bk X scope s H C cl' fp) ifs (tIT X.K X.mg W0 none none fun ρ => evc c.T cl none conds ρ) := fun s H C cl' fp => by
      split at h6
      · refine ⟨fun pins s σ H Q I q => pts_nil.run pins s σ H Q I ?_⟩
        obtain ⟨P, L, ρ, l, q⟩ := q
        exact Post.ok (E := WE W0 σ) (a := true) q l.R
      · rename_i x e2
        rw [Bool.and_eq_true] at h6
        have w := (hE _ _ _ h6.2 _ _ _ _ _ (kb s H C cl' fp)).2.1 h6.1
        have w2 : PT (Bk X scope s H C cl' fp) e2 (tIT X.K X.mg W0 none none fun ρ => evc c.T cl none [x] ρ) := by
          have e3 : (fun ρ => evc c.T cl none [x] ρ) = tr (ev c.T cl none x) := evc_one
          rw [e3]
          exact w
        exact pts_one w2
      · cases h6
    obtain ⟨l1, _, _⟩ := kk.loc hl
    unfold swB at hsw
    simp only [Bool.and_eq_true, Bool.not_eq_true'] at hsw
    obtain ⟨⟨s1, s2⟩, s3⟩ := hsw
    have hyl : X.env.scope.names.lookup y = some .local := by
      rw [kk.sc]
      split at s1
      · assumption
      · cases s1
    have z' := fun mm hmm => s_setLc (mm := mm) (ifs := ifs) (pos := vp) (spos := pos) (py := p) (t := tg) (cond := fun ρ => evc c.T cl none conds ρ) (el := fun ρ => ev c.T cl none elt ρ) hc (by rw [kk.N]; exact kk.nd) l1 hyl (sw_true (by rw [kk.sc]; exact S.kind) hyl s2 s3) (snd_iter (hE c) h4 X W none none cl kk tge) ok (fun s H C cl' fp => pg_of (kb s H C cl' fp) h5) hT (fun s H C cl' fp => (hE _ _ _ h7 _ _ _ _ _ (kb s H C cl' fp)).1) (folded_of h8) (fun i hi => by
      rw [own_map]
      have := List.all_eq_true.mp h9 i hi
      simpa using this) hmm
    rw [own_map] at z'
    cases z with
    | true => exact z' _ frz_weak
    | false => exact z' _ fun _ _ _ q => q
  · cases h
theorem sndt_set {i : Nat} {x : Ex} {st : Stmt} (h : ckSet recE c i x st = true) : SndT c (.set i x) st := by
  unfold ckSet at h
  split at h
  · rename_i y p v pos
    simp only [Bool.and_eq_true] at h
    obtain ⟨⟨h1, h2⟩, h3⟩ := h
    have plain : ∀ v, recE c x v = true → (∀ (X : Cx), X.env.scope = c.sc → swapsWith v (some (.Name y p)) pos.line X.env = pure false) → SndT c (.set i x) (.Assign [.Name y p] v pos) := fun v hv hs X W hx xs cl S => by
      obtain ⟨l1, l2, l3⟩ := S.k.loc h1
      exact s_set (by rw [S.k.N]; exact S.k.nd) l1 l2 l3 (hE _ _ _ hv X W hx xs cl S.k).1 (hs X S.k.sc) (noEi_of S.k h2)
    split at h3
    · rename_i el gs scope vp
      split at h3
      · rename_i hsw
        rw [Bool.and_eq_true] at h3
        obtain ⟨h3, h4⟩ := h3
        split at h4
        · exact sndt_lc hE false h1 hsw h3 h4
        · exact sndt_lc hE true h1 hsw h3 h4
        · cases h4
      · rename_i hsw
        refine plain _ h3 fun X hX => ?_
        have e1 : (X.env.blockKind == .function && X.env.kindOf y == some .local && p.line == vp.line && !(scope.names.any fun (n, k) => n == y && (k == .local || k == .cell))) = false := by
          cases hb : (X.env.blockKind == .function && X.env.kindOf y == some .local && p.line == vp.line && !(scope.names.any fun (n, k) => n == y && (k == .local || k == .cell))) with
          | false => rfl
          | true =>
            simp only [Bool.and_eq_true] at hb
            obtain ⟨⟨⟨b1, b2⟩, b3⟩, b4⟩ := hb
            refine absurd ?_ hsw
            unfold swB
            have b6 : X.env.kindOf y = some .local := by simpa using b2
            have b5 : X.env.scope.names.lookup y = some .local := b6
            rw [hX] at b5
            rw [b5, b3, b4]
            rfl
        show (pure (X.env.blockKind == .function && X.env.kindOf y == some .local && p.line == vp.line && !(scope.names.any fun (n, k) => n == y && (k == .local || k == .cell))) : Sem Bool) = pure false
        rw [e1]
    · rw [Bool.and_eq_true] at h3
      exact plain _ h3.2 fun X _ => sw_plain h3.1
  · cases h
def notTup : Expr → Bool
  | .Tuple .. => false
  | _ => true
omit hE in
theorem swapped_none {tg e : Expr} {env : Env} (h : notTup e = true) : swappedStores [tg] e env = pure none := by
  cases e <;> first
    | (cases tg <;> rfl)
    | cases h
def ckSetT (recE : Cfg → Ex → Expr → Bool) (c : Cfg) (is : List Nat) (x : Ex) : Stmt → Bool
  | .Assign [.Tuple es k tp] v _ => ckTg c (.many is) (.Tuple es k tp) && noEi c is && notTup v && recE c x v
  | _ => false
theorem sndt_setT {is : List Nat} {x : Ex} {st : Stmt} (h : ckSetT recE c is x st = true) : SndT c (.setT is x) st := by
  unfold ckSetT at h
  split at h
  · simp only [Bool.and_eq_true] at h
    obtain ⟨⟨⟨h1, h2⟩, h3⟩, h4⟩ := h
    exact fun X W hx xs cl S => s_setT (t := .many is) (hE _ _ _ h4 X W hx xs cl S.k).1 (pg_of S.k h1) (sw_other rfl) (swapped_none h3) rfl (noEi_of S.k h2)
  · cases h
def ckSub (recE : Cfg → Ex → Expr → Bool) (c : Cfg) (o i x : Ex) : Stmt → Bool
  | .Assign [.Subscript eo ei _] v _ => recE c x v && recE c o eo && recE c i ei && plainIx ei
  | _ => false
omit hE in
theorem swapped_sub {o i e : Expr} {p : Pos} {env : Env} : swappedStores [.Subscript o i p] e env = pure none := by
  cases e <;> rfl
theorem sndt_sub {o i x : Ex} {st : Stmt} (h : ckSub recE c o i x st = true) : SndT c (.sub o i x) st := by
  unfold ckSub at h
  split at h
  · rename_i eo ei p v pos
    simp only [Bool.and_eq_true] at h
    obtain ⟨⟨⟨h1, h2⟩, h3⟩, h4⟩ := h
    refine fun X W hx xs cl S => s_sub (hE _ _ _ h1 X W hx xs cl S.k).1 (hE _ _ _ h2 X W hx xs cl S.k).1 (hE _ _ _ h3 X W hx xs cl S.k).1 (sw_other rfl) swapped_sub fun v => ?_
    cases ei <;> first
      | rfl
      | cases h4
  · cases h
def ckSfld (recE : Cfg → Ex → Expr → Bool) (c : Cfg) (o : Ex) (f : String) (x : Ex) : Stmt → Bool
  | .Assign [.Attribute eo nm _] v _ => decide (nm = Str.ofString f) && notComp v && recE c x v && recE c o eo
  | _ => false
theorem sndt_sfld {o x : Ex} {f : String} {st : Stmt} (h : ckSfld recE c o f x st = true) : SndT c (.sfld o f x) st := by
  unfold ckSfld at h
  split at h
  · simp only [Bool.and_eq_true, decide_eq_true_eq] at h
    obtain ⟨⟨⟨h1, h2⟩, h3⟩, h4⟩ := h
    subst h1
    exact fun X W hx xs cl S => s_sfld S.k.flds (hE _ _ _ h3 X W hx xs cl S.k).1 (hE _ _ _ h4 X W hx xs cl S.k).1 (sw_plain h2)
  · cases h
def ckAug (recE : Cfg → Ex → Expr → Bool) (c : Cfg) (i : Nat) (o : Bop) (x : Ex) : Stmt → Bool
  | .AugAssign (.Name y _) op v _ => decide (op = o.py) && (decide (o = .add) || decide (o = .sub)) && locOk c i y && noEi c [i] && recE c x v
  | _ => false
theorem sndt_aug {i : Nat} {o : Bop} {x : Ex} {st : Stmt} (h : ckAug recE c i o x st = true) : SndT c (.aug i o x) st := by
  unfold ckAug at h
  split at h
  · simp only [Bool.and_eq_true, Bool.or_eq_true, decide_eq_true_eq] at h
    obtain ⟨⟨⟨⟨h1, h2⟩, h3⟩, h4⟩, h5⟩ := h
    subst h1
    intro X W hx xs cl S
    obtain ⟨l1, l2, l3⟩ := S.k.loc h3
    exact s_aug h2 (by rw [S.k.N]; exact S.k.nd) l1 l2 l3 (hE _ _ _ h5 X W hx xs cl S.k).1 (noEi_of S.k h4)
  · cases h
def ckExpr (recE : Cfg → Ex → Expr → Bool) (c : Cfg) (x : Ex) : Stmt → Bool
  | .Expr v _ => notComp v && recE c x v
  | _ => false
theorem sndt_expr {x : Ex} {st : Stmt} (h : ckExpr recE c x st = true) : SndT c (.expr x) st := by
  unfold ckExpr at h
  split at h
  · rw [Bool.and_eq_true] at h
    exact fun X W hx xs cl S => s_expr (hE _ _ _ h.2 X W hx xs cl S.k).1 (sw_plain h.1)
  · cases h
def ckRet (recE : Cfg → Ex → Expr → Bool) (c : Cfg) (x : Ex) : Stmt → Bool
  | .Return (some v) _ => recE c x v
  | _ => false
theorem sndt_ret {x : Ex} {st : Stmt} (h : ckRet recE c x st = true) : SndT c (.ret x) st := by
  unfold ckRet at h
  split at h
  · exact fun X W hx xs cl S => s_ret (hE _ _ _ h X W hx xs cl S.k).1
  · cases h
omit hE in
def ckRaise (recE : Cfg → Ex → Expr → Bool) (c : Cfg) (k : String) (x : Option Ex) : Stmt → Bool
  | .Raise (some (.Call (.Name y _) [e] [] _)) none _ => c.calm && decide (y = Str.ofString k) && gloOk c y && (match x with
    | none => (match e with
      | .Constant (.str _) _ _ => true
      | _ => false) && (match c.T.excs.lookup k with | some none => true | _ => false)
    | some x => noStar e && recE c x e && (match c.T.excs.lookup k with | some (some _) => true | _ => false))
  | _ => false
theorem sndt_raise {k : String} {x : Option Ex} {st : Stmt} (h : ckRaise recE c k x st = true) : SndT c (.raise k x) st := by
  unfold ckRaise at h
  split at h
  · rename_i y p e cp pos
    simp only [Bool.and_eq_true, decide_eq_true_eq] at h
    obtain ⟨⟨⟨h1, h2⟩, h3⟩, h4⟩ := h
    subst h2
    intro X W hx xs cl S
    obtain ⟨g1, g2, _⟩ := S.k.glo h3
    have hc := (S.k.calm h1).1
    cases x with
    | none =>
      simp only [Bool.and_eq_true] at h4
      obtain ⟨h4, h5⟩ := h4
      split at h5
      · rename_i hk
        obtain ⟨C, E⟩ := S.k.excs k none hk
        split at h4
        · have e1 : exec c.T cl (.raise k none) hx = fun ρ L => .exc k none ρ L := by
            funext ρ L
            show (match c.T.excs.lookup k with
              | some none => SOut.exc k none ρ L
              | _ => .stuck) = _
            rw [hk]
          rw [e1]
          exact s_raise0 hc S.k.tk E g1 g2
        · cases h4
      · cases h5
    | some x =>
      simp only [Bool.and_eq_true] at h4
      obtain ⟨⟨h4, h5⟩, h6⟩ := h4
      split at h6
      · rename_i n hk
        obtain ⟨C, E⟩ := S.k.excs k (some n) hk
        have e1 : exec c.T cl (.raise k (some x)) hx = fun ρ L => onOk (gcM (ev c.T cl hx x ρ)) ρ (fun v L' => .exc k (some (n, v)) ρ L') L := by
          funext ρ L
          show (match c.T.excs.lookup k with
            | some (some n) => onOk (gcM (ev c.T cl hx x ρ)) ρ (fun v L' => SOut.exc k (some (n, v)) ρ L') L
            | _ => .stuck) = _
          rw [hk]
        rw [e1]
        exact s_raise1 hc S.k.tk E hk (S.k.inits h1) g1 g2 (hE _ _ _ h5 X W hx xs cl S.k).1 h4
      · cases h6
  · cases h
/-! ### with blocks -/
omit hE in
def ckSL (rec : Sx → Stmt → Bool) : List Sx → List Stmt → Bool
  | [], [] => true
  | x :: xs, s :: ss => rec x s && ckSL rec xs ss
  | _, _ => false
variable (hS : ∀ c x s, rec c x s = true → SndT c x s)
omit hE in
include hS in
theorem sndts : ∀ {xs : List Sx} {ss : List Stmt}, ckSL (rec c) xs ss = true → SndTs c xs ss
  | [], [], _ => fun X W hx xs cl S => ss_nil
  | [], _ :: _, h => by cases h
  | _ :: _, [], h => by cases h
  | x :: xs, s :: ss, h => fun X W hx ys cl S => by
    have h' : (rec c x s && ckSL (rec c) xs ss) = true := h
    rw [Bool.and_eq_true] at h'
    exact ss_cons (hS _ _ _ h'.1 X W hx ys cl S) (sndts h'.2 X W hx ys cl S)
def ckIf (recE : Cfg → Ex → Expr → Bool) (rec : Cfg → Sx → Stmt → Bool) (c : Cfg) (x : Ex) (a b : List Sx) : Stmt → Bool
  | .If e sa sb _ => noIf e && recE c x e && ckSL (rec c) a sa && ckSL (rec c) b sb
  | _ => false
include hS
theorem sndt_if {x : Ex} {a b : List Sx} {st : Stmt} (h : ckIf recE rec c x a b st = true) : SndT c (.ite x a b) st := by
  unfold ckIf at h
  split at h
  · simp only [Bool.and_eq_true] at h
    obtain ⟨⟨⟨h1, h2⟩, h3⟩, h4⟩ := h
    exact fun X W hx xs cl S => s_if ((hE _ _ _ h2 X W hx xs cl S.k).2.1 h1) (sndts hS h3 X W hx xs cl S) (sndts hS h4 X W hx xs cl S)
  · cases h
def ckWhl (recE : Cfg → Ex → Expr → Bool) (rec : Cfg → Sx → Stmt → Bool) (c : Cfg) (x : Ex) (a : List Sx) : Stmt → Bool
  | .While e sa [] _ => noIf e && recE c x e && ckSL (rec c) a sa
  | _ => false
theorem sndt_whl {x : Ex} {a : List Sx} {st : Stmt} (h : ckWhl recE rec c x a st = true) : SndT c (.whl x a) st := by
  unfold ckWhl at h
  split at h
  · simp only [Bool.and_eq_true] at h
    obtain ⟨⟨h1, h2⟩, h3⟩ := h
    exact fun X W hx xs cl S => s_while S.po ((hE _ _ _ h2 X W hx xs cl S.k).2.1 h1) (sndts hS h3 X W hx xs cl S)
  · cases h
def ckFor (recE : Cfg → Ex → Expr → Bool) (rec : Cfg → Sx → Stmt → Bool) (c : Cfg) (tg : Tg) (k : ItK) (ys : List Ex) (a : List Sx) : Stmt → Bool
  | .For tge it sa [] _ => c.calm && ckTg c tg tge && noEi c tg.slots && ckIter (recE c) c k ys it && notSet it && ckSL (rec c) a sa
  | _ => false
theorem sndt_for {tg : Tg} {k : ItK} {ys : List Ex} {a : List Sx} {st : Stmt} (h : ckFor recE rec c tg k ys a st = true) : SndT c (.for tg k ys a) st := by
  unfold ckFor at h
  split at h
  · simp only [Bool.and_eq_true] at h
    obtain ⟨⟨⟨⟨⟨h1, h2⟩, h3⟩, h4⟩, h5⟩, h6⟩ := h
    exact fun X W hx xs cl S => s_for S.po (S.k.calm h1).1 (snd_iter (hE c) h4 X W hx xs cl S.k _) (pg_of S.k h2) (sndts hS h6 X W hx xs cl S) (folded_of h5) (noEi_of S.k h3)
  · cases h
omit hE hS in
def ckForg (recE : Cfg → Ex → Expr → Bool) (rec : Cfg → Sx → Stmt → Bool) (c : Cfg) (tg : Tg) (f : String) (es : List Ex) (a : List Sx) : Stmt → Bool
  | .For tge (.Call (.Name y _) (e :: es') [] _) sa [] _ => c.calm && decide (y = Str.ofString f) && gloOk c y && (c.T.gns.lookup f).isSome && ckL (recE c) es (e :: es') && ckTg c tg tge && noEi c tg.slots && ckSL (rec c) a sa
  | _ => false
theorem sndt_forg {tg : Tg} {f : String} {es : List Ex} {a : List Sx} {st : Stmt} (h : ckForg recE rec c tg f es a st = true) : SndT c (.forg tg f es a) st := by
  unfold ckForg at h
  split at h
  · simp only [Bool.and_eq_true, decide_eq_true_eq] at h
    obtain ⟨⟨⟨⟨⟨⟨⟨h1, h2⟩, h3⟩, h4⟩, h5⟩, h6⟩, h7⟩, h8⟩ := h
    subst h2
    intro X W hx xs cl S
    have k := S.k
    obtain ⟨hc, rfl, rfl, hei⟩ := k.calm h1
    obtain ⟨hs, hf⟩ := S.stk h1
    obtain ⟨gd, hgd⟩ := Option.isSome_iff_exists.mp h4
    obtain ⟨g1, g2, _⟩ := k.glo h3
    have kw : Cok c (wish X) WN none none cl := ⟨k.N, k.nd, k.sc, k.calm, tk_wn, k.units, k.wr, k.csts, k.free, k.fns, k.flds, k.dcts, k.excs, k.inits, (fun _ _ z => by cases z), (fun _ _ _ _ z => by cases z), (fun j z => by rw [hei] at z; cases z)⟩
    have Sw : Sok c (wish X) WN none none cl := ⟨kw, PassesOwn.never, fun _ => ⟨hs, hf⟩, S.kind, fun z => S.gns z⟩
    obtain ⟨gout, hgout⟩ : ∃ gout : List PV → List HObj → Option (List PV), gout = fun vs L => match cl f vs L with
      | .ok (.frl ys) _ => if unders 0 vs = true then some ys else none
      | _ => none := ⟨_, rfl⟩
    have z := fun pos ipos p tge e es' sa (h5 : ckL (recE c) es (e :: es') = true) (h6 : ckTg c tg tge = true) (h8 : ckSL (rec c) a sa = true) => s_forg (X := X) (W := W) (hx := none) (xs := none) (t := tg) (p := p) (ipos := ipos) (pos := pos) (gout := gout) hs hf S.po hc (S.gns h1 f gd hgd) g1 g2 (snd_list (hE c) h5 X W none none cl k) (ckL_star h5) (pg_of kw h6) (sndts hS h8 (wish X) WN none none cl Sw) (folded_of rfl) (noEi_of k h7) (fun vs L ys hy => by
      rw [hgout] at hy
      simp only at hy
      split at hy
      · rename_i ys' L' hcl
        split at hy
        · rename_i hu
          cases hy
          exact ⟨hu, L, _, hcl⟩
        · cases hy
      · cases hy)
    have e1 : exec c.T cl (.forg tg f es a) none = fun ρ L => (match evs c.T cl none es ρ L with
      | .ok vs L1 => (match gout vs L1 with
        | some ys => if L1.all isLst = true then forLoop none tg (fun ρ2 L2 => lstO (execs c.T cl a none ρ2 L2)) ys ρ L1 else .stuck
        | none => .stuck)
      | .exc _ _ _ => .stuck
      | .stuck => .stuck) := by
      funext ρ L
      show (match evs c.T cl none es ρ L with
        | .ok xs L1 => (match cl f xs L1 with
          | .ok (.frl ys) _ => if unders 0 xs = true ∧ L1.all isLst = true then forLoop none tg (fun ρ1 L2 => lstO (execs c.T cl a none ρ1 L2)) ys ρ L1 else .stuck
          | _ => .stuck)
        | _ => .stuck) = _
      rw [hgout]
      cases evs c.T cl none es ρ L with
      | stuck => rfl
      | exc _ _ _ => rfl
      | ok vs L1 =>
        simp only
        cases cl f vs L1 with
        | stuck => rfl
        | exc _ _ _ => rfl
        | ok v L2 =>
          cases v <;> first
            | rfl
            | skip
          rename_i ys
          simp only
          by_cases hu : unders 0 vs = true
          · simp only [hu, true_and, if_true]
          · simp only [hu, false_and, if_false, Bool.false_eq_true]
    rw [e1]
    exact z _ _ _ _ _ _ _ h5 h6 h8
  · cases h
def ckTry (rec : Cfg → Sx → Stmt → Bool) (c : Cfg) (a : List Sx) (kc : String) (i : Nat) (hd : List Sx) : Stmt → Bool
  | .Try sa [.ExceptHandler (some (.Name y _)) (some n) (b0 :: sb) _] [] [] _ => c.calm && decide (y = Str.ofString kc) && gloOk c y && (c.T.excs.lookup kc).isSome && decide (c.N[i]? = some n) && (match c.sc.names.lookup n with
    | some .local => true
    | _ => false) && ckSL (rec c) a sa && ckSL (rec { c with calm := false, ei := some i }) hd (b0 :: sb)
  | _ => false
omit hE in
theorem sndt_try {a : List Sx} {kc : String} {i : Nat} {hd : List Sx} {st : Stmt} (h : ckTry rec c a kc i hd st = true) : SndT c (.try a kc i hd) st := by
  unfold ckTry at h
  split at h
  · rename_i sa y np n b0 sb pos' pos
    simp only [Bool.and_eq_true, decide_eq_true_eq] at h
    obtain ⟨⟨⟨⟨⟨⟨⟨h1, h2⟩, h3⟩, h4⟩, h5⟩, h6⟩, h7⟩, h8⟩ := h
    subst h2
    intro X W hx xs cl S
    have k := S.k
    obtain ⟨hc, rfl, rfl, hei⟩ := k.calm h1
    obtain ⟨hs, hf⟩ := S.stk h1
    obtain ⟨fo, hfo⟩ := Option.isSome_iff_exists.mp h4
    obtain ⟨D0, E⟩ := k.excs kc fo hfo
    obtain ⟨g1, g2, _⟩ := k.glo h3
    have hln : X.env.kindOf n = some .local := by
      show X.env.scope.names.lookup n = some .local
      rw [k.sc]
      split at h6
      · assumption
      · cases h6
    refine s_try (T := c.T) (D0 := D0) hs hf (by rw [k.N]; exact k.nd) (by rw [k.N]; exact h5) hln ⟨g1, g2, .inl E.gC⟩ k.tk (fun W' pn xe tk' po' => ?_) (fun a oe cls d pn kc' f hz hv hk hec => ?_) (fun kc' cls hk hec => ?_)
    · refine sndts hS h7 (X.tr pn xe) W' none none cl ⟨?_, po', fun _ => ⟨hs, hf⟩, S.kind, fun z => S.gns z⟩
      exact ⟨k.N, k.nd, k.sc, fun _ => ⟨hc, rfl, rfl, hei⟩, tk', k.units, k.wr, k.csts, k.free, k.fns, k.flds, k.dcts, k.excs, k.inits, (fun _ _ z => by cases z), (fun _ _ _ _ z => by cases z), (fun j z => by rw [hei] at z; cases z)⟩
    · refine sndts hS h8 (X.suite a ((a, oe) :: pn)) W0 (some (kc', f)) (some (i, a, cls, d)) cl ⟨?_, PassesOwn.never, (fun z => by cases z), S.kind, (fun z => by cases z)⟩
      refine ⟨k.N, k.nd, k.sc, (fun z => by cases z), (fun u s' x => ?_), k.units, k.wr, k.csts, k.free, (fun z => by cases z), k.flds, k.dcts, k.excs, (fun z => by cases z), (fun k1 f1 z => ?_), (fun j a1 c1 d1 z => ?_), fun j z => ?_⟩
      · obtain ⟨_, _, _, _, _, _, _, _, _, _, _, _, _, _, _, _, w⟩ := x
        exact w.elim
      · cases z
        exact ⟨hk, fun _ _ _ _ z => by cases z; exact hec⟩
      · cases z
        rfl
      · cases z
        exact ⟨X, a, cls, d, oe, pn, rfl, rfl, hz, hv⟩
    · obtain ⟨C, rfl, hm⟩ := hec
      obtain ⟨fo', hfo'⟩ := Option.isSome_iff_exists.mp hk
      obtain ⟨C', E'⟩ := k.excs kc' fo' hfo'
      have e1 := E'.gC
      rw [hm] at e1
      cases e1
      exact (E'.ask kc fo D0 (lookup_mem' hfo) E.gC).2
  · cases h
end
/-! ### all statements -/
def ckS (m : Nat) : Nat → Cfg → Sx → Stmt → Bool
  | 0, _, _, _ => false
  | n + 1, c, x, s => match x with
    | .set i e => ckSet (ckE m) c i e s
    | .setT is e => ckSetT (ckE m) c is e s
    | .sub o i e => ckSub (ckE m) c o i e s
    | .sfld o f e => ckSfld (ckE m) c o f e s
    | .dead => true
    | .aug i o e => ckAug (ckE m) c i o e s
    | .expr e => ckExpr (ckE m) c e s
    | .ret e => ckRet (ckE m) c e s
    | .retN => (match s with | .Return none _ => true | _ => false)
    | .ite e a b => ckIf (ckE m) (ckS m n) c e a b s
    | .for tg k es a => ckFor (ckE m) (ckS m n) c tg k es a s
    | .whl e a => ckWhl (ckE m) (ckS m n) c e a s
    | .brk => (match s with | .Break _ => true | _ => false)
    | .cnt => (match s with | .Continue _ => true | _ => false)
    | .pass => (match s with | .Pass _ => true | _ => false)
    | .raise k e => ckRaise (ckE m) c k e s
    | .try a k i hd => ckTry (ckS m n) c a k i hd s
    | .forg tg f es a => ckForg (ckE m) (ckS m n) c tg f es a s
theorem sndt_all (m : Nat) : ∀ (n : Nat) (c : Cfg) (x : Sx) (s : Stmt), ckS m n c x s = true → SndT c x s
  | 0, _, _, _, h => by cases h
  | n + 1, c, x, s, h => by
    have hE := snd_all m
    have hS := sndt_all m n
    cases x with
    | set i e => exact sndt_set hE h
    | setT is e => exact sndt_setT hE h
    | sub o i e => exact sndt_sub hE h
    | sfld o f e => exact sndt_sfld hE h
    | dead => exact fun X W hx xs cl S => ⟨fun pins s σ H D I ⟨P, L, ρ, l, h⟩ => h.elim⟩
    | aug i o e => exact sndt_aug hE h
    | expr e => exact sndt_expr hE h
    | ret e => exact sndt_ret hE h
    | retN => cases s <;> first
      | (cases h; done)
      | (rename_i v p; cases v <;> first | (cases h; done) | exact fun X W hx xs cl S => s_retN)
    | ite e a b => exact sndt_if hE hS h
    | «for» tg k es a => exact sndt_for hE hS h
    | whl e a => exact sndt_whl hE hS h
    | brk => cases s <;> first
      | (cases h; done)
      | exact fun X W hx xs cl S => s_brk
    | cnt => cases s <;> first
      | (cases h; done)
      | exact fun X W hx xs cl S => s_cnt
    | pass => cases s <;> first
      | (cases h; done)
      | exact fun X W hx xs cl S => s_pass
    | raise k e => exact sndt_raise hE h
    | «try» a k i hd => exact sndt_try hS h
    | forg tg f es a => exact sndt_forg hE hS h
end MP

/-! GN 12: checked bodies of generator defs. -/
namespace MP
open PySem PySem.Spec PyProof.Rows L2 GenW
def ckGL (rec : GSx → Stmt → Bool) : List GSx → List Stmt → Bool
  | [], [] => true
  | x :: xs, s :: ss => rec x s && ckGL rec xs ss
  | _, _ => false
def ckYld (m : Nat) (c : Cfg) (x : Ex) : Stmt → Bool
  | .Expr (.Yield (some e) _) _ => ckE m c x e
  | _ => false
def ckFrr (m : Nat) (rec : GSx → Stmt → Bool) (c : Cfg) (t : Tg) (a : Ex) (b : List GSx) : Stmt → Bool
  | .For tge (.Call (.Name y _) [e] [] _) sb [] _ => decide (y = Str.ofString "range") && gloOk c y && c.T.free.contains "range" && noStar e && ckE m c a e && ckTg c t tge && ckGL rec b sb
  | _ => false
def ckG (m n : Nat) (c : Cfg) : Nat → GSx → Stmt → Bool
  | 0, _, _ => false
  | k + 1, x, s => match x with
    | .st x => ckS m n c x s
    | .yld x => ckYld m c x s
    | .forr t a b => ckFrr m (ckG m n c k) c t a b s
theorem GJ1.imp {G : GD} {st : Stmt} {A B : BR} (h : GJ1 G st A) (i : ∀ ρ L o ρ' L', B ρ L o ρ' L' → A ρ L o ρ' L') : GJ1 G st B := fun ys ip c fs K J gd lv ρ ρ' L L' outs g b hk => h ys ip c fs K J gd lv ρ ρ' L L' outs g (i _ _ _ _ _ b) hk
theorem GJ.imp {G : GD} {st : List Stmt} {A B : BR} (h : GJ G st A) (i : ∀ ρ L o ρ' L', B ρ L o ρ' L' → A ρ L o ρ' L') : GJ G st B := fun ys ip c fs K J gd lv ρ ρ' L L' outs g b hk => h ys ip c fs K J gd lv ρ ρ' L L' outs g (i _ _ _ _ _ b) hk
theorem brLoop_of {t : Tg} {B : Env' → List HObj → Option (List PV × Env' × List HObj)} : ∀ {xs : List PV} {ρ : Env'} {L : List HObj} {o : List PV} {ρ' : Env'} {L' : List HObj}, gloop t B xs ρ L = some (o, ρ', L') → brLoop (fun ρ L o ρ' L' => B ρ L = some (o, ρ', L')) t xs ρ L o ρ' L'
  | [], ρ, L, o, ρ', L', h => by
    have h : some (([] : List PV), ρ, L) = some (o, ρ', L') := h
    cases h
    exact ⟨rfl, rfl, rfl⟩
  | x :: xs, ρ, L, o, ρ', L', h => by
    have h : ((bindT t x ρ).bind fun ρ1 => (B ρ1 L).bind fun r => (gloop t B xs r.2.1 r.2.2).map fun q => (r.1 ++ q.1, q.2)) = some (o, ρ', L') := h
    obtain ⟨ρ1, h1, h⟩ := Option.bind_eq_some_iff.mp h
    obtain ⟨⟨o1, ρ2, L2⟩, h2, h⟩ := Option.bind_eq_some_iff.mp h
    obtain ⟨⟨o2, ρ3, L3⟩, h3, h⟩ := Option.map_eq_some_iff.mp h
    cases h
    exact ⟨ρ1, h1, o1, ρ2, L2, o2, h2, brLoop_of h3, rfl⟩
section
variable {G : GD} {c : Cfg} {cl : String → List PV → M PV} {m n : Nat}
abbrev grel1 (T : Tab) (cl : String → List PV → M PV) (x : GSx) : BR := fun ρ L o ρ' L' => grun1 T cl x ρ L = some (o, ρ', L')
abbrev grel (T : Tab) (cl : String → List PV → M PV) (x : List GSx) : BR := fun ρ L o ρ' L' => gruns T cl x ρ L = some (o, ρ', L')
theorem gj_list {rec : GSx → Stmt → Bool} (h1 : ∀ x s, rec x s = true → GJ1 G s (grel1 c.T cl x)) : ∀ {xs : List GSx} {ss : List Stmt}, ckGL rec xs ss = true → GJ G ss (grel c.T cl xs)
  | [], [], _ => gj_nil.imp fun ρ L o ρ' L' h => by
    have h : some (([] : List PV), ρ, L) = some (o, ρ', L') := h
    cases h
    exact ⟨rfl, rfl, rfl⟩
  | [], _ :: _, h => by cases h
  | _ :: _, [], h => by cases h
  | x :: xs, s :: ss, h => by
    have h' : (rec x s && ckGL rec xs ss) = true := h
    rw [Bool.and_eq_true] at h'
    refine (gj_cons (h1 _ _ h'.1) (gj_list h1 h'.2)).imp fun ρ L o ρ' L' h => ?_
    have h : ((grun1 c.T cl x ρ L).bind fun r => (gruns c.T cl xs r.2.1 r.2.2).map fun q => (r.1 ++ q.1, q.2)) = some (o, ρ', L') := h
    obtain ⟨⟨o1, ρ1, L1⟩, h2, h⟩ := Option.bind_eq_some_iff.mp h
    obtain ⟨⟨o2, ρ3, L3⟩, h3, h⟩ := Option.map_eq_some_iff.mp h
    cases h
    exact ⟨o1, ρ1, L1, o2, h2, h3, rfl⟩
theorem gj_all (S : ∀ s0 H0, Sok c (G.X s0 H0) WN none none cl) (hco : G.env.scope.isCoroutine = false) (hi : interactive G.env = false) : ∀ (k : Nat) (x : GSx) (s : Stmt), ckG m n c k x s = true → GJ1 G s (grel1 c.T cl x)
  | 0, _, _, h => by cases h
  | k + 1, x, s, h => by
    cases x with
    | st x =>
      have h : ckS m n c x s = true := h
      refine (gj_plain (G := G) (x := exec c.T cl x none) fun s0 H0 => sndt_all m n c x s h _ _ _ _ _ (S s0 H0)).imp fun ρ L o ρ' L' h => ?_
      have h : (match exec c.T cl x none ρ L with
        | .next ρ' L' => some (([] : List PV), ρ', L')
        | _ => none) = some (o, ρ', L') := h
      split at h
      · rename_i e
        cases h
        exact ⟨rfl, e⟩
      · cases h
    | yld x =>
      have h : ckYld m c x s = true := h
      unfold ckYld at h
      split at h
      · rename_i e yp pos
        refine (gj_yield (G := G) (m := fun ρ => ev c.T cl none x ρ) hco hi fun s0 H0 => (snd_all m _ _ _ h _ _ _ _ _ (S s0 H0).k).1).imp fun ρ L o ρ' L' h => ?_
        have h : (match ev c.T cl none x ρ L with
          | .ok y L' => if L'.all isLst = true ∧ y.under 0 = true then some ([y], ρ, L') else none
          | _ => none) = some (o, ρ', L') := h
        split at h
        · rename_i y L1 e1
          split at h
          · rename_i hc
            cases h
            exact ⟨y, rfl, rfl, e1, hc.1, hc.2⟩
          · cases h
        · cases h
      · cases h
    | forr t a b =>
      have h : ckFrr m (ckG m n c k) c t a b s = true := h
      unfold ckFrr at h
      split at h
      · skip
        simp only [Bool.and_eq_true, decide_eq_true_eq] at h
        obtain ⟨⟨⟨⟨⟨⟨h1, h2⟩, h3⟩, h4⟩, h5⟩, h6⟩, h7⟩ := h
        subst h1
        have ih := gj_list (c := c) (cl := cl) (gj_all S hco hi k) h7
        have z : ∀ s0 H0, Gl (G.X s0 H0) (Str.ofString "range") := fun s0 H0 => ((S s0 H0).k.glo h2).1
        have fr : ∀ (s0 : Shared) (H0 : Hp), G.mg (Str.ofString "range") = none := fun s0 H0 => (S s0 H0).k.free _ h3
        intro ys ip c' fs K J gd lv ρ ρ' L L' outs g bb hk s0 H0
        refine (gj_for (G := G) (m := fun ρ => ev c.T cl none a ρ) z (fr s0 H0) (fun s0 H0 => (snd_all m _ _ _ h5 _ _ _ _ _ (S s0 H0).k).1) h4 (fun s0 H0 => pg_of (S s0 H0).k h6) (folded_of rfl) ih) ys ip c' fs K J gd lv ρ ρ' L L' outs g ?_ hk s0 H0
        have h : (match ev c.T cl none a ρ L with
          | .ok (.int j) L1 => if smallI j = true then gloop t (fun ρ1 L2 => gruns c.T cl b ρ1 L2) (rangeP 0 j.toNat) ρ L1 else none
          | _ => none) = some (outs, ρ', L') := bb
        split at h
        · rename_i j L1 e1
          split at h
          · rename_i hc
            exact ⟨j, L1, e1, hc, brLoop_of h⟩
          · cases h
        · cases h
      · cases h
end
end MP

/-! MP 23: defs. -/
namespace MP
open PySem PySem.Spec PyProof.Rows L2
/-! ### binding -/
theorem fm_congr {α β : Type} {f g : α → Option β} : ∀ {l : List α}, (∀ x ∈ l, f x = g x) → l.filterMap f = l.filterMap g
  | [], _ => rfl
  | x :: l, h => by
    rw [List.filterMap_cons, List.filterMap_cons, h x List.mem_cons_self, fm_congr fun y hy => h y (List.mem_cons_of_mem _ hy)]
theorem lookup_zip : ∀ {ns : List Str} {us : List Value}, ns.Nodup → us.length = ns.length → (ns.filterMap fun n => ((ns.zip us).lookup n).map (n, ·)) = ns.zip us
  | [], us, _, _ => rfl
  | n :: ns, us, nd, hl => by
    cases us with
    | nil => cases hl
    | cons u us =>
      obtain ⟨h1, h2⟩ := List.nodup_cons.mp nd
      have ih := lookup_zip h2 (us := us) (by simpa using hl)
      rw [List.zip_cons_cons, List.filterMap_cons]
      rw [show ((n, u) :: ns.zip us).lookup n = some u by simp [List.lookup]]
      show (n, u) :: _ = _
      congr 1
      refine (fm_congr fun m hm => ?_).trans ih
      have : (m == n) = false := by
        rw [beq_eq_false_iff_ne]
        exact fun e => h1 (e ▸ hm)
      simp [List.lookup, this]
theorem lookup_some : ∀ {ns : List Str} {us : List Value} {n : Str}, us.length = ns.length → n ∈ ns → ((ns.zip us).lookup n).isNone = false
  | [], _, _, _, h => by cases h
  | m :: ns, us, n, hl, h => by
    cases us with
    | nil => cases hl
    | cons u us =>
      rw [List.zip_cons_cons, List.lookup_cons]
      cases hb : n == m with
      | true => rfl
      | false =>
        have hne : n ≠ m := by simpa using hb
        exact lookup_some (by simpa using hl) ((List.mem_cons.mp h).elim (fun e => absurd e hne) id)
def plainArgs (p : Arguments) : Bool := p.posonlyargs.isEmpty && p.vararg.isNone && p.kwonlyargs.isEmpty && p.kw_defaults.isEmpty && p.kwarg.isNone && p.defaults.isEmpty
theorem bind_plain {fd : FuncData} {ns : List Str} (hp : plainArgs fd.params = true) (hn : fd.params.args.map (·.arg) = ns) (hd : fd.defaults = .none) (nd : ns.Nodup) {us : List Value} (hl : us.length = ns.length) : bindArgs fd ⟨us, []⟩ = pure (ns.zip us) := by
  cases hfp : fd.params with
  | mk po as va ko kd kw df =>
  rw [hfp] at hp hn
  unfold plainArgs at hp
  simp only [Bool.and_eq_true, List.isEmpty_iff, Option.isNone_iff_eq_none] at hp
  obtain ⟨⟨⟨⟨⟨rfl, rfl⟩, rfl⟩, rfl⟩, rfl⟩, rfl⟩ := hp
  unfold bindArgs
  rw [hfp, hd]
  have hm : ((ns.take (ns.length - 0)).filter fun n => ((ns.zip us).lookup n).isNone) = [] := by
    rw [List.filter_eq_nil_iff]
    intro n hn'
    rw [lookup_some hl (List.mem_of_mem_take hn')]
    exact Bool.false_ne_true
  have hz := lookup_zip nd hl
  simp only [hn, List.map_nil, List.nil_append, List.append_nil, List.forIn_nil]
  have h0 : seqItems? Value.none = (pure none : Sem (Option (Array Value))) := by rfl
  have g0 : decide (us.length > ns.length) = false := by simp [hl]
  have e0 : ((none : Option (Array Value)).getD #[]).toList = ([] : List Value) := rfl
  simp only [pure_bind, h0, g0, e0, Bool.false_and, Bool.false_eq_true, if_false, List.length_nil, List.drop_nil, hm, List.isEmpty_nil, Bool.not_true, List.zip_nil_right, List.forIn_nil, hz]
def kw1Args (p : Arguments) (k : Str) : Bool := p.posonlyargs.isEmpty && p.vararg.isNone && decide (p.kwonlyargs.map (·.arg) = [k]) && p.kw_defaults.all (·.isNone) && p.kwarg.isNone && p.defaults.isEmpty
theorem lookup_none_zip : ∀ {ns : List Str} {us : List Value} {k : Str}, k ∉ ns → (ns.zip us).lookup k = none
  | [], us, k, _ => by simp
  | n :: ns, [], k, _ => by simp
  | n :: ns, u :: us, k, h => by
    have h1 : (k == n) = false := by rw [beq_eq_false_iff_ne]; exact fun e => h (by rw [e]; exact List.mem_cons_self)
    rw [List.zip_cons_cons, List.lookup_cons, h1]
    exact lookup_none_zip fun m => h (List.mem_cons_of_mem _ m)
theorem lookup_app {l : List (Str × Value)} {k : Str} {v : Value} : ∀ {n : Str}, n ≠ k → (l ++ [(k, v)]).lookup n = l.lookup n := by
  intro n hn
  induction l with
  | nil =>
    have : (n == k) = false := by rw [beq_eq_false_iff_ne]; exact hn
    simp [List.lookup, this]
  | cons q l ih =>
    obtain ⟨a, b⟩ := q
    rw [List.cons_append, List.lookup_cons, List.lookup_cons, ih]
theorem lookup_appk {l : List (Str × Value)} {k : Str} {v : Value} (h : l.lookup k = none) : (l ++ [(k, v)]).lookup k = some v := by
  induction l with
  | nil => simp [List.lookup]
  | cons q l ih =>
    obtain ⟨a, b⟩ := q
    rw [List.lookup_cons] at h
    rw [List.cons_append, List.lookup_cons]
    split at h
    · cases h
    · exact ih h
theorem bind_kw1 {fd : FuncData} {ns : List Str} {k : Str} (hp : kw1Args fd.params k = true) (hn : fd.params.args.map (·.arg) = ns) (hd : fd.defaults = .none) (nd : (ns ++ [k]).Nodup) {us : List Value} {v : Value} (hl : us.length = ns.length) : bindArgs fd ⟨us, [(k, v)]⟩ = pure ((ns ++ [k]).zip (us ++ [v])) := by
  cases hfp : fd.params with
  | mk po as va ko kd kw df =>
  rw [hfp] at hp hn
  unfold kw1Args at hp
  simp only [Bool.and_eq_true, List.isEmpty_iff, Option.isNone_iff_eq_none, decide_eq_true_eq] at hp
  obtain ⟨⟨⟨⟨⟨rfl, rfl⟩, hko⟩, hkd⟩, rfl⟩, rfl⟩ := hp
  have nd' := List.nodup_append.mp nd
  have hk : k ∉ ns := fun h => nd'.2.2 k h k (by simp) rfl
  unfold bindArgs
  rw [hfp, hd]
  have hz0 : (ns.zip us).lookup k = none := lookup_none_zip hk
  have hm : ((ns.take (ns.length - 0)).filter fun n => ((ns.zip us ++ [(k, v)]).lookup n).isNone) = [] := by
    rw [List.filter_eq_nil_iff]
    intro n hn'
    have hn2 := List.mem_of_mem_take hn'
    rw [lookup_app (fun e => hk (by rw [← e]; exact hn2)), lookup_some hl hn2]
    exact Bool.false_ne_true
  have hz : ((ns ++ [k]).filterMap fun n => ((ns.zip us ++ [(k, v)]).lookup n).map (n, ·)) = (ns ++ [k]).zip (us ++ [v]) := by
    have := lookup_zip nd (us := us ++ [v]) (by simp [hl])
    rw [List.zip_append hl.symm] at this
    rw [List.zip_append hl.symm]
    exact this
  have hz1 : ((ns.zip us ++ [(k, v)]).lookup k).isNone = false := by rw [lookup_appk hz0]; rfl
  simp only [hn, hko, List.map_nil, List.nil_append, List.append_nil, List.forIn_cons, List.forIn_nil]
  have h0 : seqItems? Value.none = (pure none : Sem (Option (Array Value))) := by rfl
  have g0 : decide (us.length > ns.length) = false := by simp [hl]
  have e0 : ((none : Option (Array Value)).getD #[]).toList = ([] : List Value) := rfl
  have c1 : ([k].contains k) = true := by simp
  have c2 : ((ns.zip us).lookup k).isSome = false := by rw [hz0]; rfl
  simp only [c1, Bool.or_true, if_true, c2, Bool.false_eq_true, if_false, pure_bind, h0, g0, e0, Bool.false_and, List.length_nil, List.drop_nil, hm, List.isEmpty_nil, Bool.not_true, List.zip_nil_right, List.forIn_nil, List.forIn_cons, hz1, hz]
/-- the parameters, by the keyword -/
def argsOk (p : Arguments) (ps : List Str) : Option String → Bool
  | none => plainArgs p && decide (p.args.map (·.arg) = ps)
  | some k => kw1Args p (Str.ofString k) && decide (p.args.map (·.arg) ++ [Str.ofString k] = ps)
/-! ### a def -/
def N_of (ss : List String) : List Str := ss.map Str.ofString
/-- what is told of a def -/
structure FnFact (K : PySem.W.Frag) (mg : Str → Option Value) (T : Tab) (f : String) (fd : FD) : Prop where
  ex : ∃ (x qual : Str) (params : Arguments) (body : List Stmt) (scope : Scope) (fA : Addr) (fdt : FuncData) (N ps : List Str) (m n : Nat), FunD K x qual params body scope [] [] fA fdt ∧ Acc K mg T f fA ∧ argsOk params ps fd.kw = true ∧
    FnScope N ps scope ∧ ps.length = fd.n ∧ N.length = fd.sl ∧ ckSL (ckS m n ⟨T, N, scope, true, none, N⟩) fd.body body = true
/-- what is told of a generator def -/
structure GnFact (K : PySem.W.Frag) (mg : Str → Option Value) (T : Tab) (f : String) (gd : GFD) : Prop where
  ex : ∃ (x qual : Str) (params : Arguments) (body : List Stmt) (scope : Scope) (fA : Addr) (fdt : FuncData) (N ps : List Str) (m n k : Nat), FunD K x qual params body scope [] [] fA fdt ∧ mg (Str.ofString f) = some (.ref fA) ∧ plainArgs params = true ∧ params.args.map (·.arg) = ps ∧
    GScope N ps scope ∧ (∀ y ∈ scope.names, y.2 ≠ .cell ∧ y.2 ≠ .free) ∧ ps.length = gd.n ∧ N.length = gd.sl ∧ ps.Nodup ∧ T.fns.lookup f = none ∧ ckGL (ckG m n ⟨T, N, scope, true, none, N⟩ k) gd.body body = true
theorem FunD.plain {K : PySem.W.Frag} {x qual : Str} {params : Arguments} {body : List Stmt} {scope : Scope} {fA : Addr} {fdt : FuncData} (F : FunD K x qual params body scope [] [] fA fdt) (hp : plainArgs params = true) (nd : (params.args.map (·.arg)).Nodup) : Binds K fdt (params.args.map (·.arg)) [] :=
  F.bindsN fun kV doc pm an cdv ct us hl => bind_plain hp rfl rfl nd hl
theorem FunD.argsB {K : PySem.W.Frag} {x qual : Str} {params : Arguments} {body : List Stmt} {scope : Scope} {fA : Addr} {fdt : FuncData} {ps : List Str} {kw : Option String} (F : FunD K x qual params body scope [] [] fA fdt) (hp : argsOk params ps kw = true) (nd : ps.Nodup) : BindF K fdt ps kw := by
  cases kw with
  | none =>
    unfold argsOk at hp
    rw [Bool.and_eq_true, decide_eq_true_eq] at hp
    obtain ⟨h1, rfl⟩ := hp
    exact FunD.plain F h1 nd
  | some k =>
    unfold argsOk at hp
    rw [Bool.and_eq_true, decide_eq_true_eq] at hp
    obtain ⟨h1, rfl⟩ := hp
    obtain ⟨oc, od, dV, kV, doc, pm, an, cdv, ct, osl, rfl, lk, hcd, hdf, hkd⟩ := F.ex
    intro s us w hK hl
    have hdv : dV = .none := by
      rcases hdf with ⟨_, e⟩ | ⟨e, _⟩
      · exact e
      · exact absurd rfl e
    subst hdv
    exact .of_eq (bind_kw1 h1 rfl rfl nd (by simpa using hl))
theorem FnScope.nodupP {N P : List Str} {sc : Scope} (S : FnScope N P sc) : P.Nodup := by
  rw [← S.pre]
  exact S.nd.sublist (List.take_sublist _ _)
def InitsK (P : Program) (w : World) (K : PySem.W.Frag) (mg : Str → Option Value) (base : Heap) (T : Tab) : Prop := ∀ c n C, T.excs.lookup c = some (some n) → mg (Str.ofString c) = some (.ref C) → ∃ fI fd ps, PySem.W.findIn K (.ref C) "__init__" = some (some (.ref fI)) ∧
  PySem.W.typeIn K (.ref fI) = some (.type "function") ∧ FnOk P w K mg base (CXf P w) 1 fI fd ps (initSp K (Str.ofString n)) ∧ Binds K fd ps []
structure PF (P : Program) (w : World) (K : PySem.W.Frag) (mg : Str → Option Value) (base : Heap) (T : Tab) : Prop where
  csts : ∀ x v, T.csts.lookup x = some v → ∃ u w, mg (Str.ofString x) = some u ∧ RelV w u ∧ ∀ P H, RV K mg P H v w
  free : ∀ x, T.free.contains x = true → mg (Str.ofString x) = none
  excs : ExAll K mg T
  inits : InitsK P w K mg base T
  fns : ∀ f fd, T.fns.lookup f = some fd → FnFact K mg T f fd
  flds : FldAll K mg T
  dcts : DctAll K mg w T
  gns : ∀ f gd, T.gns.lookup f = some gd → GnFact K mg T f gd
/-- every generator def keeps its promise -/
def GenOk (P : Program) (w : World) (K : PySem.W.Frag) (mg : Str → Option Value) (base : Heap) (T : Tab) (d : Nat) : Prop := ∀ f gd, T.gns.lookup f = some gd → ∃ fA fdt ps, GProm P w K mg base (2 * d + 2) fA fdt ps (semC (call T d) f) ∧
  mg (Str.ofString f) = some (.ref fA) ∧ PySem.W.keepIn K (.ref fA) = true ∧ Binds K fdt ps []
def CallOk (P : Program) (w : World) (K : PySem.W.Frag) (mg : Str → Option Value) (base : Heap) (T : Tab) (d : Nat) : Prop := ∀ f fd, T.fns.lookup f = some fd → ∃ fA fdt ps, FnOk P w K mg base (CXf P w) (2 * d + 2) fA fdt ps (spF K mg (call T d) f) ∧
  Acc K mg T f fA ∧ BindF K fdt ps fd.kw ∧ ps.length = fd.n
section
variable {P : Program} {w : World} {K : PySem.W.Frag} {mg : Str → Option Value} {base : Heap} {T : Tab}
theorem re_start {Pl' : Pl} {H : Hp} {N : List Str} {ys : List PV} {vs : List V} (r : RVs K mg Pl' H ys vs) : RE K mg Pl' H (ys.map some ++ List.replicate (N.length - ys.length) none) (L2.start N vs) := by
  have hl := r.length
  refine ⟨by unfold L2.start; simp [hl], fun i x q => ?_⟩
  unfold L2.start
  by_cases hi : i < ys.length
  · rw [List.getElem?_append_left (by simpa using hi)] at q
    rw [List.getElem?_map] at q
    obtain ⟨y, h1, h2⟩ := Option.map_eq_some_iff.mp q
    cases h2
    obtain ⟨v, h3, h4⟩ := r.get h1
    refine ⟨v, ?_, h4⟩
    rw [List.getElem?_append_left (by simp; omega), List.getElem?_map, h3]
    rfl
  · rw [List.getElem?_append_right (by simpa using hi)] at q
    rw [List.getElem?_replicate] at q
    split at q <;> cases q
theorem fin_post {Pl' : Pl} {H : Hp} {L : List HObj} {o : SOut} {z : Bool} {Q : VK} {E : XK} (R : Rel K mg Pl' L H) (h : Post K mg E Pl' H (fin z L o) (Hand K mg Q)) : PostS K mg (fun cls d _ H => E cls d H) { nx := fun _ H' => Q .non H', rt := Q } none none Pl' H o := by
  cases o with
  | next ρ L' =>
    intro P1 H1 σ1 e1 l1
    obtain ⟨P2, e2, R2, _⟩ := gc_sound (v := .non) (w := .non) R e1 l1.R rfl
    exact h P2 H1 e2 R2 .non rfl
  | ret v L' =>
    intro P1 H1 u e1 R1 ru
    have h' : ∀ (P' : Pl) (H' : Hp), Ext Pl' H P' H' → Rel K mg P' (gcz z L v L').2 H' → Hand K mg Q (gcz z L v L').1 (gcz z L v L').2 P' H' := h
    unfold gcz at h'
    split at h'
    · obtain ⟨P2, e2, R2, r2, _⟩ := fz_sound R e1 R1 ru
      exact h' P2 H1 e2 R2 u r2
    · obtain ⟨P2, e2, R2, r2⟩ := gc_sound R e1 R1 ru
      exact h' P2 H1 e2 R2 u r2
  | brk ρ L' => exact h.elim
  | cnt ρ L' => exact h.elim
  | stuck => exact h.elim
  | exc c f ρ L' =>
    intro P1 H1 σ1 cls d e1 l1 xd
    cases f with
    | none =>
      obtain ⟨P2, e2, R2, _⟩ := gc_sound (v := .non) (w := .non) R e1 l1.R rfl
      exact h P2 H1 cls d e2 R2 xd
    | some nx =>
      obtain ⟨n, x⟩ := nx
      obtain ⟨hc, a, v, h1, h2, h3, h4⟩ := xd
      obtain ⟨P2, e2, R2, r2, hA⟩ := gc_sound2 R e1 l1.R h4
      exact h P2 H1 cls d e2 R2 ⟨hc, a, v, h1, h2, fun m => h3 (hA a m), r2⟩
theorem fn_one (pf : PF P w K mg base T) {d : Nat} (ih : CallOk P w K mg base T d) (ihg : GenOk P w K mg base T d) {f : String} {fd : FD} (hfd : T.fns.lookup f = some fd) {x qual : Str} {params : Arguments} {body : List Stmt} {scope : Scope} {fA : Addr} {fdt : FuncData} {N ps : List Str} {m n : Nat} (F : FunD K x qual params body scope [] [] fA fdt)
    (S : FnScope N ps scope) (hn : ps.length = fd.n) (hsl : N.length = fd.sl) (hck : ckSL (ckS m n ⟨T, N, scope, true, none, N⟩) fd.body body = true) : FnOk P w K mg base (CXf P w) (2 * d + 4) fA fdt ps (spF K mg (call T (d + 1)) f) := by
  have hcall : ∀ ys L, call T (d + 1) f ys L = if ys.length = fd.n then fin fd.fz L (execs T (call T d) fd.body none (ys.map some ++ List.replicate (fd.sl - fd.n) none) L) else .stuck := fun ys L => by
    show (match T.fns.lookup f with
      | some fd => if ys.length = fd.n then fin fd.fz L (execs T (call T d) fd.body none (ys.map some ++ List.replicate (fd.sl - fd.n) none) L) else .stuck
      | none => (match T.gns.lookup f with
        | some gd => (match gout T (call T d) gd ys with
          | some ys => .ok (.frl ys) L
          | none => .stuck)
        | none => .stuck)) = _
    rw [hfd]
  refine FunD.ok F S (fun vs H Q E sp => ?_) (fun cdv A outer s H vs Q E room sp => ?_)
  · obtain ⟨P1, L, ys, R, r, q⟩ := sp
    rw [hcall] at q
    split at q
    · rename_i hl
      rw [← r.length, hl, hn]
    · exact q.elim
  · obtain ⟨P1, L, ys, R, r, q⟩ := sp
    rw [hcall] at q
    split at q
    · rename_i hl
      have hN : fd.sl - fd.n = N.length - ys.length := by rw [hsl, hl]
      rw [hN] at q
      refine ⟨tS K mg (fun cls d _ H => E cls d H) none none (execs T (call T d) fd.body none), ?_, ⟨P1, L, _, ⟨R, re_start r, trivial⟩, fin_post R q⟩⟩
      refine sndts (sndt_all m n) hck (cxOf (CXf P w) P w K mg base N qual scope fA cdv A outer s H E) (fun cls d _ H => E cls d H) none none (call T d) ⟨?_, passes_of rfl, fun _ => ⟨rfl, rfl⟩, S.kind, fun _ g gd hg => by
        obtain ⟨gA, gdt, ps, ok, g1, g2, g3⟩ := ihg g gd hg
        exact ⟨2 * d + 2, gA, gdt, ps, ok, room, g1, g2, g3⟩⟩
      exact ⟨rfl, S.nd, rfl, fun _ => ⟨rfl, rfl, rfl, rfl⟩, L2N.takes_of rfl rfl rfl rfl, (by have := room.un; show (A.deeper (envOfC qual scope s.heap.objs.size fA cdv)).units + 200 < cLine; omega), fun _ _ => rfl, pf.csts, pf.free, fun _ g gd hg => by
        obtain ⟨gA, gdt, ps, ok, g1, g3, _⟩ := ih g gd hg
        exact ⟨2 * d + 2, gA, gdt, ps, ok, room, g1, g3⟩, pf.flds, pf.dcts, pf.excs, fun _ c n C h1 h2 => by
        obtain ⟨fI, fdI, ps, i1, i2, i3, i4⟩ := pf.inits c n C h1 h2
        exact ⟨1, fI, fdI, ps, i1, i2, i3, room.mono (by omega), i4⟩, (fun _ _ z => by cases z), (fun _ _ _ _ z => by cases z), (fun _ z => by cases z)⟩
    · exact q.elim
theorem gn_one (pf : PF P w K mg base T) {d : Nat} (ih : CallOk P w K mg base T d) (ihg : GenOk P w K mg base T d) {f : String} {gd : GFD} (hgd : T.gns.lookup f = some gd) (hfn : T.fns.lookup f = none) {x qual : Str} {params : Arguments} {body : List Stmt} {scope : Scope} {fA : Addr} {fdt : FuncData} {N ps : List Str} {m n k : Nat} (F : FunD K x qual params body scope [] [] fA fdt)
    (S : GScope N ps scope) (hnc : ∀ y ∈ scope.names, y.2 ≠ .cell ∧ y.2 ≠ .free) (hn : ps.length = gd.n) (hsl : N.length = gd.sl) (hck : ckGL (ckG m n ⟨T, N, scope, true, none, N⟩ k) gd.body body = true) : GProm P w K mg base (2 * d + 4) fA fdt ps (semC (call T (d + 1)) f) := by
  have hcall : ∀ ys L, call T (d + 1) f ys L = (match gout T (call T d) gd ys with
          | some ys => .ok (.frl ys) L
          | none => .stuck) := fun ys L => by
    show (match T.fns.lookup f with
      | some fd => if ys.length = fd.n then fin fd.fz L (execs T (call T d) fd.body none (ys.map some ++ List.replicate (fd.sl - fd.n) none) L) else .stuck
      | none => (match T.gns.lookup f with
        | some gd => (match gout T (call T d) gd ys with
          | some ys => .ok (.frl ys) L
          | none => .stuck)
        | none => .stuck)) = _
    rw [hfn, hgd]
  have hse : ∀ ys outs, semC (call T (d + 1)) f ys outs → gout T (call T d) gd ys = some outs := fun ys outs ⟨L1, L2, e⟩ => by
    rw [hcall] at e
    split at e
    · rename_i zs hz
      cases e
      exact hz
    · cases e
  have hrun : ∀ ys outs, gout T (call T d) gd ys = some outs → ys.length = gd.n ∧ ∃ ρ' L', gruns T (call T d) gd.body (ys.map some ++ List.replicate (gd.sl - gd.n) none) [] = some (outs, ρ', L') := fun ys outs e => by
    unfold gout at e
    split at e
    · rename_i hl
      obtain ⟨⟨o, ρ', L'⟩, h1, h2⟩ := Option.map_eq_some_iff.mp e
      cases h2
      exact ⟨hl, ρ', L', h1⟩
    · cases e
  obtain ⟨oc, od, dV, kV, doc, pm, an, cdv, ct, osl, rfl, lk, hcd, _, _⟩ := F.ex
  refine gprom_of (k := 2 * d + 3) lk hcd S hnc (fun ys outs h => by rw [(hrun ys outs (hse ys outs h)).1, hn]) (fun Aw outer n0 pn ys outs room h => ?_)
  obtain ⟨hl, ρ', L', e⟩ := hrun ys outs (hse ys outs h)
  have hN : gd.sl - gd.n = N.length - ys.length := by rw [hsl, hl]
  rw [hN] at e
  refine ⟨grel T (call T d) gd.body, ρ', L', gj_list (c := ⟨T, N, scope, true, none, N⟩) (gj_all (fun s0 H0 => ⟨?_, PassesOwn.never, fun _ => ⟨rfl, rfl⟩, S.kind, fun _ g gd hg => by
        obtain ⟨gA, gdt, ps, ok, g1, g2, g3⟩ := ihg g gd hg
        exact ⟨2 * d + 2, gA, gdt, ps, ok, room, g1, g2, g3⟩⟩) S.co ?_ k) hck, e⟩
  · exact ⟨rfl, S.nd, rfl, fun _ => ⟨rfl, rfl, rfl, rfl⟩, tk_wn, (by have := room.un; show (Aw.deeper (envOfC qual scope n0 fA cdv)).units + 200 < cLine; omega), fun _ _ => rfl, pf.csts, pf.free, fun _ g gd hg => by
        obtain ⟨gA, gdt, ps, ok, g1, g3, _⟩ := ih g gd hg
        exact ⟨2 * d + 2, gA, gdt, ps, ok, room, g1, g3⟩, pf.flds, pf.dcts, pf.excs, fun _ c n C h1 h2 => by
        obtain ⟨fI, fdI, ps, i1, i2, i3, i4⟩ := pf.inits c n C h1 h2
        exact ⟨1, fI, fdI, ps, i1, i2, i3, room.mono (by omega), i4⟩, (fun _ _ z => by cases z), (fun _ _ _ _ z => by cases z), (fun _ z => by cases z)⟩
  · unfold interactive
    show (scope.kind == ScopeKind.module && _) = false
    rw [S.kind]
    rfl
theorem fn_step (pf : PF P w K mg base T) {d : Nat} (ih : CallOk P w K mg base T d) (ihg : GenOk P w K mg base T d) : CallOk P w K mg base T (d + 1) := by
  intro f fd hfd
  obtain ⟨x, qual, params, body, scope, fA, fdt, N, ps, m, n, F, hm, hpl, S, hn, hsl, hck⟩ := (pf.fns f fd hfd).ex
  exact ⟨fA, fdt, ps, fn_one pf ih ihg hfd F S hn hsl hck, hm, FunD.argsB F hpl (FnScope.nodupP S), hn⟩
theorem gn_step (pf : PF P w K mg base T) {d : Nat} (ih : CallOk P w K mg base T d) (ihg : GenOk P w K mg base T d) : GenOk P w K mg base T (d + 1) := by
  intro f gd hgd
  obtain ⟨x, qual, params, body, scope, fA, fdt, N, ps, m, n, k, F, hm, hpl, hps, S, hnc, hn, hsl, hnd, hfn, hck⟩ := (pf.gns f gd hgd).ex
  refine ⟨fA, fdt, ps, gn_one pf ih ihg hgd hfn F S hnc hn hsl hck, hm, F.kp, ?_⟩
  have := FunD.plain F hpl (by rw [hps]; exact hnd)
  rw [hps] at this
  exact this
theorem all_ok (pf : PF P w K mg base T) : ∀ d, CallOk P w K mg base T d ∧ GenOk P w K mg base T d
  | 0 => ⟨fun f fd hfd => by
    obtain ⟨x, qual, params, body, scope, fA, fdt, N, ps, m, n, F, hm, hpl, S, hn, hsl, hck⟩ := (pf.fns f fd hfd).ex
    exact ⟨fA, fdt, ps, ⟨fun vs H Q E ⟨_, _, _, _, _, q⟩ => q.elim, fun A outer s H args us vs Q E _ _ _ _ ⟨_, _, _, _, _, q⟩ => q.elim⟩, hm, FunD.argsB F hpl (FnScope.nodupP S), hn⟩, fun f gd hgd => by
    obtain ⟨x, qual, params, body, scope, fA, fdt, N, ps, m, n, k, F, hm, hpl, hps, S, hnc, hn, hsl, hnd, hfn, hck⟩ := (pf.gns f gd hgd).ex
    have hb := FunD.plain F hpl (by rw [hps]; exact hnd)
    rw [hps] at hb
    exact ⟨fA, fdt, ps, ⟨fun ys outs ⟨_, _, q⟩ => (by cases q), fun A outer s H args us vs ys outs Pc _ _ _ _ _ _ ⟨_, _, q⟩ => (by cases q)⟩, hm, F.kp, hb⟩⟩
  | d + 1 => ⟨fn_step pf (all_ok pf d).1 (all_ok pf d).2, gn_step pf (all_ok pf d).1 (all_ok pf d).2⟩
theorem fn_all (pf : PF P w K mg base T) (d : Nat) : CallOk P w K mg base T d := (all_ok pf d).1
theorem gn_all (pf : PF P w K mg base T) (d : Nat) : GenOk P w K mg base T d := (all_ok pf d).2
end
end MP

/-! MP 24: an __init__ that fills one field; what is asked of the written part, as Bools. -/
namespace MP
open PySem PySem.Spec PyProof.Rows L2
def fnScB (N P : List Str) (sc : Scope) : Bool := decide (sc.kind = .function) && !sc.isCoroutine && !sc.isGenerator && decide N.Nodup && decide (N.take P.length = P) && (P.all fun x => decide (sc.names.lookup x = some .local) || decide (sc.names.lookup x = some .cell)) && (sc.names.all fun y => decide (y.2 ≠ .free))
theorem fnSc_of {N P : List Str} {sc : Scope} (h : fnScB N P sc = true) : FnScope N P sc := by
  unfold fnScB at h
  simp only [Bool.and_eq_true, decide_eq_true_eq, Bool.not_eq_true', List.all_eq_true, Bool.or_eq_true] at h
  obtain ⟨⟨⟨⟨⟨⟨h1, h2⟩, h3⟩, h4⟩, h5⟩, h6⟩, h7⟩ := h
  exact ⟨h1, h2, h3, h4, h5, h6, h7⟩
def ckInit (n : Str) (params : Arguments) (body : List Stmt) (scope : Scope) : Bool := plainArgs params && (match params.args.map (·.arg), body with
  | [a, b], [.Assign [.Attribute (.Name a' _) f _] (.Name b' _) _] => decide (a' = a) && decide (b' = b) && decide (f = n) && fnScB [a, b] [a, b] scope && plainN a && plainN b && decide (scope.names.lookup a = some .local) && decide (scope.names.lookup b = some .local)
  | _, _ => false)
section
variable {P : Program} {w : World} {K : PySem.W.Frag} {mg : Str → Option Value} {base : Heap} {T : Tab}
theorem init_ok {x qual n : Str} {params : Arguments} {body : List Stmt} {scope : Scope} {fI : Addr} {fdt : FuncData} (F : FunD K x qual params body scope [] [] fI fdt) (h : ckInit n params body scope = true) :
    FnOk P w K mg base (CXf P w) 1 fI fdt (params.args.map (·.arg)) (initSp K n) ∧ Binds K fdt (params.args.map (·.arg)) [] := by
  unfold ckInit at h
  rw [Bool.and_eq_true] at h
  obtain ⟨hpl, h⟩ := h
  split at h
  · rename_i a b a' p1 f p2 b' p3 p4 hargs
    simp only [Bool.and_eq_true, decide_eq_true_eq] at h
    obtain ⟨⟨⟨⟨⟨⟨⟨h1, h2⟩, h3⟩, h4⟩, h5⟩, h6⟩, h7⟩, h8⟩ := h
    subst h1 h2 h3
    have S := fnSc_of h4
    refine ⟨?_, FunD.plain F hpl (by rw [hargs]; exact FnScope.nodupP S)⟩
    rw [hargs]
    refine FunD.ok F S (fun vs H Q E sp => ?_) (fun cdv A outer s H vs Q E room sp => ?_)
    · obtain ⟨_, _, _, rfl, _⟩ := sp
      rfl
    · obtain ⟨o, C, v, rfl, T', hno, ho, q⟩ := sp
      obtain ⟨q1, q2, _⟩ := plain_of h5
      obtain ⟨r1, r2, _⟩ := plain_of h6
      refine ⟨_, pss_one (ps_ost (pe_var (i := 0) rfl (.inl h7) q1 q2) (pe_var (i := 1) rfl (.inl h8) r1 r2) (sw_plain rfl)), ?_⟩
      exact ⟨v, rfl, .ref o, rfl, o, C, rfl, T', hno, .inl ⟨ho, q⟩⟩
  · cases h
end
/-! ### what the written part says, as Bools -/
section
variable {K : PySem.W.Frag} {h : Heap} {mg : Str → Option Value}
/-- the address that a module's name stands for -/
abbrev adr (K : PySem.W.Frag) (x : String) : Addr := He.ga K (Str.ofString x)
def gloB (K : PySem.W.Frag) (x : String) : Bool := He.eqO (PySem.W.nsIn K mainGlobals (Str.ofString x)) (some (some (.ref (adr K x))))
theorem glo_of (X : K.In h) (G : h.Ns mainGlobals mg) {x : String} (c : gloB K x = true) : mg (Str.ofString x) = some (.ref (adr K x)) := PySem.W.mg_of X G (He.eqO_ok c)
def freeB (K : PySem.W.Frag) (x : String) : Bool := He.eqO (PySem.W.nsIn K mainGlobals (Str.ofString x)) (some none)
theorem free_of (X : K.In h) (G : h.Ns mainGlobals mg) {x : String} (c : freeB K x = true) : mg (Str.ofString x) = none := PySem.W.mg_none_of X G (He.eqO_ok c)
def oexB (K : PySem.W.Frag) (C : Addr) : Bool := (match K.lookup C with
  | some ⟨.type "type", _, .cls cd, sl⟩ => (match cd.mro, sl.toList with
    | .ref C' :: bm, [_, _, _, _, some (.builtin n), _] => C' == C && n == "ValueError.__new__" && !cd.hasDel && cd.hasDict && PySem.HandSPX.refsVE bm
    | _, _ => false)
  | _ => false) && decide (PySem.W.findIn K (.ref C) "__setattr__" = some (some (.builtin "object.__setattr__")))
theorem oex_of {C : Addr} (q : oexB K C = true) (h1 : PySem.W.subIn K (.ref C) (.type "BaseException") = some true) (h2 : PySem.W.typeIn K (.ref C) = some (.type "type")) (h3 : PySem.W.keepIn K (.ref C) = true) : OexC K C := by
  unfold oexB at q
  rw [Bool.and_eq_true] at q
  obtain ⟨q, q2⟩ := q
  refine ⟨?_, of_decide_eq_true q2, h1, h2, h3⟩
  split at q
  · rename_i dd cd sl ho
    split at q
    · rename_i C' bm k0 k1 k2 k3 n k5 hm hs
      simp only [Bool.and_eq_true, beq_iff_eq, Bool.not_eq_true'] at q
      obtain ⟨⟨⟨⟨rfl, rfl⟩, hdel⟩, hd⟩, ht⟩ := q
      obtain ⟨nm, bs, mro, ns, qn, hdict, sn, sub, ab, col, del⟩ := cd
      dsimp only at hm hdel hd
      subst hm hdel hd
      have hsl : sl = #[k0, k1, k2, k3, some (.builtin "ValueError.__new__"), k5] := by
        obtain ⟨l⟩ := sl
        simp only at hs
        rw [hs]
      subst hsl
      exact ⟨nm, qn, ns, bs, bm, sn, sub, ab, col, dd, k0, k1, k2, k3, k5, ho, ht⟩
    · cases q
  · cases q
/-- all that is asked of an own class -/
def excB (K : PySem.W.Frag) (T : Tab) (c : String) (fo : Option String) : Bool := gloB K c && (PySem.W.keepIn K (.ref (adr K c)) && (decide (PySem.W.subIn K (.ref (adr K c)) (.type "BaseException") = some true) && (decide (PySem.W.typeIn K (.ref (adr K c)) = some (.type "type")) &&
  (xfB K (adr K c) && ((PySem.W.clsIn K (adr K c)).isSome && (decide (PySem.W.findIn K (.ref (adr K c)) "__class__" = some (some (.builtin "object.__class__"))) && (decide (PySem.W.specialIn K (.builtin "object.__class__") "__get__" = some (some (.builtin "getset_descriptor.__get__"))) &&
  (decide (PySem.W.takesIn K (.builtin "object.__class__") = some true) && (decide (PySem.W.mroIn K (adr K c) (.type "object") = some true) && ((T.excs.all fun q => match q.2 with
    | some n => decide (PySem.W.findIn K (.ref (adr K c)) (Str.ofString n) = some none)
    | none => true) && ((match fo with
    | none => PySem.W.excIn K (adr K c) He.veBase "ValueError.__new__"
    | some _ => oexB K (adr K c)) && ((T.excs.all fun q => decide (PySem.W.kitOne K (.ref (adr K c)) (.ref (adr K q.1)) = some (T.subs.contains (c, q.1))) && decide (PySem.W.exmOne K (.ref (adr K c)) (.ref (adr K q.1)) = some (T.subs.contains (c, q.1)))) &&
    decide (PySem.W.kitOne K (.ref (adr K c)) (.type "ValueError") = some (T.subs.contains (c, "ValueError")))))))))))))))
theorem exc_of (X : K.In h) (G : h.Ns mainGlobals mg) {T : Tab} {c : String} {fo : Option String} (hall : ∀ q ∈ T.excs, gloB K q.1 = true) (b : excB K T c fo = true) : ExOne K mg T c fo (adr K c) := by
  unfold excB at b
  simp only [Bool.and_eq_true, decide_eq_true_eq] at b
  obtain ⟨b1, b2, b3, b4, b5, b6, b7, b8, b9, b10, b11, b12, b13, b14⟩ := b
  refine ⟨glo_of X G b1, b2, b3, b4, xfB_ok b5, b6, b7, b8, b9, b10, fun c' n hm => ?_, ?_, fun d o D hm hD => ?_, b14⟩
  · have := List.all_eq_true.mp b11 _ hm
    exact of_decide_eq_true this
  · cases fo with
    | none => exact ⟨_, _, _, _, PySem.F.excBase_ValueError, b12⟩
    | some n => exact oex_of b12 b3 b4 b2
  · have e1 := glo_of X G (hall _ hm)
    rw [hD] at e1
    cases e1
    have := List.all_eq_true.mp b13 _ hm
    simp only [Bool.and_eq_true, decide_eq_true_eq] at this
    exact this
/-- a module's constant -/
def cvB (K : PySem.W.Frag) : Nat → PV → Value → Bool
  | _, .non, .none => true
  | _, .bl b, .bool b' => b == b'
  | _, .int i, .int j _ => decide (i = j)
  | _, .str x, .str y _ => decide (x = y)
  | n + 1, .tup xs, .ref a => (match K.lookup a with
    | some ⟨.type c, none, .seq its _, _⟩ => decide (c = "tuple") && decide (its.size ≤ sizeLine) && decide (xs.length = its.size) && (xs.zip its.toList).all fun q => cvB K n q.1 q.2
    | _ => false)
  | n + 1, .frl xs, .ref a => (match K.lookup a with
    | some ⟨.type c, none, .seq its _, _⟩ => decide (c = "list") && decide (its.size ≤ sizeLine) && decide (xs.length = its.size) && (xs.zip its.toList).all fun q => cvB K n q.1 q.2
    | _ => false)
  | _, _, _ => false
theorem cvs_ok {n : Nat} (ih : ∀ v u, cvB K n v u = true → ∃ w, RelV w u ∧ ∀ P H, RV K mg P H v w) : ∀ {xs : List PV} {us : List Value}, xs.length = us.length → ((xs.zip us).all fun q => cvB K n q.1 q.2) = true → ∃ ws, Vals ws us ∧ ∀ P H, RVs K mg P H xs ws
  | [], [], _, _ => ⟨[], .nil, fun _ _ => rfl⟩
  | [], _ :: _, h, _ => by cases h
  | _ :: _, [], h, _ => by cases h
  | x :: xs, u :: us, hl, h => by
    rw [List.zip_cons_cons, List.all_cons, Bool.and_eq_true] at h
    obtain ⟨w, h1, h2⟩ := ih x u h.1
    obtain ⟨ws, h3, h4⟩ := cvs_ok ih (by simpa using hl) h.2
    exact ⟨w :: ws, .cons h1 h3, fun P H => .cons (h2 P H) (h4 P H)⟩
theorem cv_ok : ∀ (n : Nat) (v : PV) (u : Value), cvB K n v u = true → ∃ w, RelV w u ∧ ∀ P H, RV K mg P H v w := by
  intro n
  have flat : ∀ (n : Nat) (v : PV) (u : Value), (∀ xs, v ≠ .tup xs) → (∀ xs, v ≠ .frl xs) → cvB K n v u = true → ∃ w, RelV w u ∧ ∀ P H, RV K mg P H v w := by
    intro n v u h1 h2 h
    cases v with
    | non => cases u <;> first
      | exact ⟨.non, rfl, fun _ _ => rfl⟩
      | (cases n <;> cases h)
    | bl b =>
      cases u with
      | bool b' =>
        have e : b = b' := by cases n <;> simpa [cvB] using h
        subst e
        exact ⟨.bl b, rfl, fun _ _ => rfl⟩
      | _ => cases n <;> cases h
    | int i =>
      cases u with
      | int j t =>
        have e : i = j := by cases n <;> simpa [cvB] using h
        subst e
        exact ⟨.int i, ⟨t, rfl⟩, fun _ _ => rfl⟩
      | _ => cases n <;> cases h
    | str i =>
      cases u with
      | str j t =>
        have e : i = j := by cases n <;> simpa [cvB] using h
        subst e
        exact ⟨.str i, ⟨t, rfl⟩, fun _ _ => rfl⟩
      | _ => cases n <;> cases h
    | tup xs => exact absurd rfl (h1 xs)
    | frl xs => exact absurd rfl (h2 xs)
    | _ => cases u <;> cases n <;> cases h
  induction n with
  | zero =>
    intro v u h
    refine flat 0 v u (fun xs e => ?_) (fun xs e => ?_) h <;> (subst e; cases u <;> cases h)
  | succ n ih =>
    intro v u h
    cases v with
    | tup xs =>
      cases u <;> try (cases h; done)
      rename_i a
      simp only [cvB] at h
      split at h
      · rename_i c its m sl hk
        simp only [Bool.and_eq_true, decide_eq_true_eq] at h
        obtain ⟨⟨⟨h1, h2⟩, h3⟩, h4⟩ := h
        subst h1
        obtain ⟨ws, r, q⟩ := cvs_ok ih (us := its.toList) (by simpa using h3) h4
        exact ⟨.ref a, rfl, fun P H => ⟨a, ws, rfl, ⟨.inr ⟨_, its, m, hk, rfl, rfl, h2, r⟩, .inr ⟨_, hk, rfl⟩⟩, q P H⟩⟩
      · cases h
    | frl xs =>
      cases u <;> try (cases h; done)
      rename_i a
      simp only [cvB] at h
      split at h
      · rename_i c its m sl hk
        simp only [Bool.and_eq_true, decide_eq_true_eq] at h
        obtain ⟨⟨⟨h1, h2⟩, h3⟩, h4⟩ := h
        subst h1
        obtain ⟨ws, r, q⟩ := cvs_ok ih (us := its.toList) (by simpa using h3) h4
        exact ⟨.ref a, rfl, fun P H => ⟨a, ws, rfl, .inl (.inr ⟨_, its, m, hk, rfl, rfl, rfl, h2, r⟩), q P H⟩⟩
      · cases h
    | _ => exact flat (n + 1) _ u (fun xs e => by cases e) (fun xs e => by cases e) h
def cstB (K : PySem.W.Frag) (x : String) (v : PV) : Bool := match PySem.W.nsIn K mainGlobals (Str.ofString x) with
  | some (some u) => cvB K 20 v u
  | _ => false
theorem cst_of (X : K.In h) (G : h.Ns mainGlobals mg) {x : String} {v : PV} (c : cstB K x v = true) : ∃ u w, mg (Str.ofString x) = some u ∧ RelV w u ∧ ∀ P H, RV K mg P H v w := by
  unfold cstB at c
  split at c
  · rename_i u hu
    obtain ⟨w, h1, h2⟩ := cv_ok 20 v u c
    exact ⟨u, w, PySem.W.mg_of X G hu, h1, h2⟩
  · cases c
/-! ### a law's data -/
/-- a def: its name, where the head finds it, its slots, what it means -/
structure DI where
  f : String
  d : He.DefD
  N : List Str
  fd : FD
/-- an __init__: the class that has it, its field -/
structure II where
  c : String
  n : String
  d : He.DefD
/-- where a def of the table lies -/
def atOf (T : Tab) (f : String) : Str × Option Str := match T.mts.lookup f with
  | none => (Str.ofString f, none)
  | some (c, m) => (Str.ofString c, some (Str.ofString m))
/-- the parameters' names -/
def parsOf (x : DI) : List Str := match x.fd.kw with
  | none => x.d.params.args.map (·.arg)
  | some k => x.d.params.args.map (·.arg) ++ [Str.ofString k]
def ckDI (T : Tab) (x : DI) : Bool := decide (x.d.at_ = atOf T x.f) && x.d.dfl.isEmpty && x.d.kwd.isEmpty && argsOk x.d.params (parsOf x) x.fd.kw && fnScB x.N (parsOf x) x.d.scope && decide ((parsOf x).length = x.fd.n) && decide (x.N.length = x.fd.sl) &&
  ckSL (ckS 60 40 ⟨T, x.N, x.d.scope, true, none, x.N⟩) x.fd.body x.d.body
/-- a generator def: its name, where the head finds it, its slots, what it means -/
structure GI where
  f : String
  d : He.DefD
  N : List Str
  gd : GFD
def gScB (N P : List Str) (sc : Scope) : Bool := decide (sc.kind = .function) && !sc.isCoroutine && sc.isGenerator && decide N.Nodup && decide (N.take P.length = P) && (P.all fun x => decide (sc.names.lookup x = some .local)) && (sc.names.all fun y => decide (y.2 ≠ .cell) && decide (y.2 ≠ .free))
theorem gSc_of {N P : List Str} {sc : Scope} (h : gScB N P sc = true) : GScope N P sc ∧ (∀ y ∈ sc.names, y.2 ≠ .cell ∧ y.2 ≠ .free) ∧ P.Nodup := by
  unfold gScB at h
  simp only [Bool.and_eq_true, decide_eq_true_eq, Bool.not_eq_true', List.all_eq_true] at h
  obtain ⟨⟨⟨⟨⟨⟨h1, h2⟩, h3⟩, h4⟩, h5⟩, h6⟩, h7⟩ := h
  exact ⟨⟨h1, h2, h3, h4, h5, fun x hx => .inl (h6 x hx), fun y hy => (h7 y hy).2⟩, h7, by rw [← h5]; exact h4.sublist (List.take_sublist _ _)⟩
def gparsOf (x : GI) : List Str := x.d.params.args.map (·.arg)
def ckGI (T : Tab) (x : GI) : Bool := decide (x.d.at_ = (Str.ofString x.f, none)) && x.d.dfl.isEmpty && x.d.kwd.isEmpty && plainArgs x.d.params && gScB x.N (gparsOf x) x.d.scope && decide ((gparsOf x).length = x.gd.n) && decide (x.N.length = x.gd.sl) && (T.fns.lookup x.f).isNone &&
  ckGL (ckG 60 40 ⟨T, x.N, x.d.scope, true, none, x.N⟩ 40) x.gd.body x.d.body
def ckII (x : II) : Bool := decide (x.d.at_ = (Str.ofString x.c, some ("__init__" : Str))) && x.d.dfl.isEmpty && x.d.kwd.isEmpty && ckInit (Str.ofString x.n) x.d.params x.d.body x.d.scope
/-- an exception class's __init__ is that of the class orig says -/
def initB (K : PySem.W.Frag) (orig : List (String × String)) (iis : List II) (c : String) (fo : Option String) : Bool := match fo with
  | none => true
  | some n => (match orig.lookup c with
    | some c0 => (iis.any fun x => decide (x.c = c0) && decide (x.n = n)) && decide (PySem.W.findIn K (.ref (adr K c)) "__init__" = some (some (.ref (He.fAd K (Str.ofString c0, some ("__init__" : Str)))))) && decide (PySem.W.typeIn K (.ref (He.fAd K (Str.ofString c0, some ("__init__" : Str)))) = some (.type "function"))
    | none => false)
def accB (T : Tab) (K : PySem.W.Frag) (f : String) : Bool := match T.mts.lookup f with
  | none => gloB K f
  | some (c, m) => gloB K c && (He.Fa.cls (Str.ofString c)).ok K && (He.Fa.meth (Str.ofString c) (Str.ofString m)).ok K && (decide (m ≠ "__init__") || (He.Fa.mkr (Str.ofString c)).ok K) && opB K (adr K c) (He.fAd K (Str.ofString c, some (Str.ofString m))) m
def fldB (K : PySem.W.Frag) (q : Str × Str) : Bool := He.eqO (PySem.W.nsIn K mainGlobals q.1) (some (some (.ref (He.ga K q.1)))) && (He.Fa.cls q.1).ok K && (He.Fa.noat q.1 q.2).ok K
/-! ### dicts of the module -/
def dctB (K : PySem.W.Frag) (q : String × List (Str × PV)) : Bool := gloB K q.1 && q.2.all fun z => (match PySem.W.nsIn K (adr K q.1) z.1 with
  | some (some u) => cvB K 20 z.2 u
  | _ => false)
def tsOf (T : Tab) : List He.Tab := T.dcts.map fun q => (fun K => adr K q.1, q.2.map Prod.fst)
theorem ns_miss {P : Params} {z : Str} : ∀ {l : List DictEntry} {ks : List Str}, l.map He.keyOf = He.keysIn P ks → z ∉ ks → l.find? (·.key.isStr z) = none ∧ l.any (·.refKey) = false
  | [], _, _, _ => ⟨rfl, rfl⟩
  | e :: r, [], h, _ => by cases h
  | e :: r, k :: ks, h, hz => by
    have h1 : He.keyOf e :: r.map He.keyOf = some (k, PyData.keyHash P k) :: He.keysIn P ks := h
    injection h1 with h2 h3
    obtain ⟨i1, i2⟩ := ns_miss h3 (fun q => hz (List.mem_cons_of_mem _ q))
    unfold He.keyOf at h2
    split at h2
    · rename_i x t q
      have h4 := Option.some.inj h2
      obtain ⟨h5, h6⟩ := Prod.mk.inj h4
      have hx : x ≠ z := fun e => hz (by rw [← e, h5]; exact List.mem_cons_self ..)
      have b1 : e.key.isStr z = false := by
        rw [q]
        show (x == z) = false
        rw [beq_eq_false_iff_ne]
        exact hx
      have b2 : e.refKey = false := by
        unfold DictEntry.refKey
        rw [q]
      rw [List.find?_cons, b1, List.any_cons, b2]
      exact ⟨i1, i2⟩
    · cases h2
theorem dct_of {w : World} {T : Tab} (X : K.In h) (G : h.Ns mainGlobals mg) (hb : T.dcts.all (dctB K) = true) (ht : ∀ t ∈ tsOf T, He.dicW K (t.1 K) = some (He.keysIn w.params t.2)) : DctAll K mg w T := by
  intro d kvs hd
  have hm := lookup_mem' hd
  have b := List.all_eq_true.mp hb _ hm
  unfold dctB at b
  rw [Bool.and_eq_true] at b
  have t := ht _ (List.mem_map.mpr ⟨_, hm, rfl⟩)
  simp only at t
  obtain ⟨es, n, D⟩ := He.dicW_ok t
  refine ⟨adr K d, es, n, glo_of X G b.1, D, fun z => ?_⟩
  cases hz : kvs.lookup z with
  | some v =>
    have q := List.all_eq_true.mp b.2 _ (lookup_mem' hz)
    simp only at q
    split at q
    · rename_i u hu
      obtain ⟨y, h1, h2⟩ := cv_ok (mg := mg) 20 v u q
      exact ⟨some u, hu, rfl, fun v' e => by cases e; exact ⟨u, y, rfl, h1, h2⟩⟩
    · cases q
  | none =>
    have hk : es.toList.map He.keyOf = He.keysIn w.params (kvs.map Prod.fst) := by
      unfold He.dicW at t
      rw [D.at_] at t
      simp only [D.low] at t
      exact Option.some.inj t
    have hnot : z ∉ kvs.map Prod.fst := fun hz2 => by
      obtain ⟨q, hq, e⟩ := List.mem_map.mp hz2
      have : ∀ {l : List (Str × PV)}, q ∈ l → l.lookup q.1 ≠ none := fun {l} hl => by
        induction l with
        | nil => cases hl
        | cons a r ih =>
          rw [List.lookup_cons]
          split
          · simp
          · rename_i hne
            rcases List.mem_cons.mp hl with e | hl
            · subst e; simp at hne
            · exact ih hl
      rw [← e] at hz
      exact this hq hz
    obtain ⟨m1, m2⟩ := ns_miss hk hnot
    refine ⟨none, ?_, rfl, fun v e => by cases e⟩
    unfold PySem.W.nsIn
    rw [D.at_]
    simp only [m1, m2]
    rfl
def factsB (T : Tab) (orig : List (String × String)) (iis : List II) (K : PySem.W.Frag) : Bool := (T.gns.all fun q => gloB K q.1) && (T.dcts.all (dctB K)) && (T.flds.all (fldB K)) && (T.csts.all fun q => cstB K q.1 q.2) && (T.free.all fun x => freeB K x) && (T.fns.all fun q => accB T K q.1) && (T.excs.all fun q => gloB K q.1) && (T.excs.all fun q => excB K T q.1 q.2) && T.excs.all fun q => initB K orig iis q.1 q.2
theorem lookup_mapG {gs : List GI} {f : String} {gd : GFD} (h : (gs.map fun x => (x.f, x.gd)).lookup f = some gd) : ∃ x ∈ gs, x.f = f ∧ x.gd = gd := by
  obtain ⟨x, h1, h2⟩ := List.mem_map.mp (lookup_mem' h)
  exact ⟨x, h1, congrArg Prod.fst h2, congrArg Prod.snd h2⟩
theorem lookup_map {ds : List DI} {f : String} {fd : FD} (h : (ds.map fun x => (x.f, x.fd)).lookup f = some fd) : ∃ x ∈ ds, x.f = f ∧ x.fd = fd := by
  obtain ⟨x, h1, h2⟩ := List.mem_map.mp (lookup_mem' h)
  exact ⟨x, h1, congrArg Prod.fst h2, congrArg Prod.snd h2⟩
theorem di_of {ds : List DI} {iis : List II} {gs : List GI} {T : Tab} (hd : ds.all (ckDI T) = true) (c : He.SaysD [] (ds.map (·.d) ++ (iis.map (·.d) ++ gs.map (·.d))) K) {x : DI} (hx : x ∈ ds) : ∃ fdt, FunD K x.d.name x.d.qual x.d.params x.d.body x.d.scope [] [] (He.fAd K (atOf T x.f)) fdt ∧ argsOk x.d.params (parsOf x) x.fd.kw = true ∧
    FnScope x.N (parsOf x) x.d.scope ∧ (parsOf x).length = x.fd.n ∧ x.N.length = x.fd.sl ∧ ckSL (ckS 60 40 ⟨T, x.N, x.d.scope, true, none, x.N⟩) x.fd.body x.d.body = true := by
  have z := List.all_eq_true.mp hd x hx
  unfold ckDI at z
  simp only [Bool.and_eq_true, decide_eq_true_eq] at z
  obtain ⟨⟨⟨⟨⟨⟨⟨z2, z3⟩, z4⟩, z5⟩, z6⟩, z7⟩, z8⟩, z9⟩ := z
  obtain ⟨fd, F⟩ := c.defs (List.mem_append_left _ (List.mem_map.mpr ⟨x, hx, rfl⟩))
  have h1 : x.d.dvs K = [] := by unfold He.DefD.dvs; rw [List.isEmpty_iff.mp z3]; rfl
  have h2 : x.d.kws K = [] := by unfold He.DefD.kws; rw [List.isEmpty_iff.mp z4]; rfl
  rw [h1, h2, z2] at F
  exact ⟨fd, F, z5, fnSc_of z6, z7, z8, z9⟩
theorem acc_of {T : Tab} (X : K.In h) (G : h.Ns mainGlobals mg) {f : String} (b : accB T K f = true) (kp : PySem.W.keepIn K (.ref (He.fAd K (atOf T f))) = true) : Acc K mg T f (He.fAd K (atOf T f)) := by
  unfold accB at b
  unfold Acc
  unfold atOf at kp ⊢
  cases hl : T.mts.lookup f with
  | none =>
    rw [hl] at b kp
    exact ⟨glo_of X G b, kp⟩
  | some q =>
    obtain ⟨c, m⟩ := q
    rw [hl] at b
    simp only [Bool.and_eq_true, Bool.or_eq_true, decide_eq_true_eq] at b
    obtain ⟨⟨⟨⟨b1, b2⟩, b3⟩, b4⟩, b5⟩ := b
    refine ⟨adr K c, glo_of X G b1, He.cls_ok b2, He.meth_ok b3, fun e => ?_, b5⟩
    subst e
    exact He.mkr_ok (b4.resolve_left fun z => z rfl)
theorem pf_of {P : Program} {w : World} {base : Heap} {T : Tab} {ds : List DI} {iis : List II} {gs : List GI} {orig : List (String × String)} (hT : T.fns = ds.map fun x => (x.f, x.fd)) (hG : T.gns = gs.map fun x => (x.f, x.gd)) (hgi : gs.all (ckGI T) = true) (hd : ds.all (ckDI T) = true) (hi : iis.all ckII = true) (X : K.In h) (G : h.Ns mainGlobals mg)
    (c : He.SaysD [] (ds.map (·.d) ++ (iis.map (·.d) ++ gs.map (·.d))) K) (b : factsB T orig iis K = true) (ht : ∀ t ∈ tsOf T, He.dicW K (t.1 K) = some (He.keysIn w.params t.2)) : PF P w K mg base T := by
  unfold factsB at b
  simp only [Bool.and_eq_true, List.all_eq_true] at b
  obtain ⟨⟨⟨⟨⟨⟨⟨⟨bg, bd⟩, b0⟩, b1⟩, b2⟩, b3⟩, b4⟩, b5⟩, b6⟩ := b
  have defs : ∀ {d : He.DefD}, d ∈ ds.map (·.d) ++ (iis.map (·.d) ++ gs.map (·.d)) → d.dfl.isEmpty = true → d.kwd.isEmpty = true → ∃ fd, FunD K d.name d.qual d.params d.body d.scope [] [] (He.fAd K d.at_) fd := fun {d} hm e1 e2 => by
    obtain ⟨fd, F⟩ := c.defs hm
    have h1 : d.dvs K = [] := by unfold He.DefD.dvs; rw [List.isEmpty_iff.mp e1]; rfl
    have h2 : d.kws K = [] := by unfold He.DefD.kws; rw [List.isEmpty_iff.mp e2]; rfl
    rw [h1, h2] at F
    exact ⟨fd, F⟩
  refine ⟨fun x v hx => cst_of X G (b1 _ (lookup_mem' hx)), fun x hx => free_of X G (b2 x (by simpa using hx)), fun x fo hx => ⟨_, exc_of X G b4 (b5 _ (lookup_mem' hx))⟩, fun x n C hx hC => ?_, fun f fd hf => ?_, fun c f hcf C hC => ?_, dct_of X G (List.all_eq_true.mpr bd) ht, fun f gd hf => ?_⟩
  · have hm := lookup_mem' hx
    have e1 := glo_of X G (b4 _ hm)
    rw [hC] at e1
    cases e1
    have q := b6 _ hm
    unfold initB at q
    simp only at q
    split at q
    · rename_i c0 ho
      simp only [Bool.and_eq_true, decide_eq_true_eq] at q
      obtain ⟨⟨q1, q2⟩, q3⟩ := q
      obtain ⟨ii, hii, q4⟩ := List.any_eq_true.mp q1
      simp only [Bool.and_eq_true, decide_eq_true_eq] at q4
      obtain ⟨rfl, rfl⟩ := q4
      have z := List.all_eq_true.mp hi ii hii
      unfold ckII at z
      simp only [Bool.and_eq_true, decide_eq_true_eq] at z
      obtain ⟨⟨⟨z1, z2⟩, z3⟩, z4⟩ := z
      obtain ⟨fd, F⟩ := defs (List.mem_append_right _ (List.mem_append_left _ (List.mem_map.mpr ⟨ii, hii, rfl⟩))) z2 z3
      rw [z1] at F
      obtain ⟨i1, i2⟩ := init_ok (P := P) (w := w) (mg := mg) (base := base) F z4
      exact ⟨_, _, _, q2, q3, i1, i2⟩
    · cases q
  · rw [hT] at hf
    obtain ⟨x, hx, rfl, rfl⟩ := lookup_map hf
    have z := List.all_eq_true.mp hd x hx
    unfold ckDI at z
    simp only [Bool.and_eq_true, decide_eq_true_eq] at z
    obtain ⟨⟨⟨⟨⟨⟨⟨z2, z3⟩, z4⟩, z5⟩, z6⟩, z7⟩, z8⟩, z9⟩ := z
    obtain ⟨fd, F⟩ := defs (List.mem_append_left _ (List.mem_map.mpr ⟨x, hx, rfl⟩)) z3 z4
    rw [z2] at F
    exact ⟨_, _, _, _, _, _, _, x.N, parsOf x, 60, 40, F, acc_of X G (b3 _ (by rw [hT]; exact List.mem_map.mpr ⟨x, hx, rfl⟩)) F.kp, z5, fnSc_of z6, z7, z8, z9⟩
  · have q := b0 (c, f) (by simpa using hcf)
    unfold fldB at q
    simp only [Bool.and_eq_true] at q
    obtain ⟨⟨q1, q2⟩, q3⟩ := q
    have e := PySem.W.mg_of X G (He.eqO_ok q1)
    rw [hC] at e
    cases e
    exact ⟨He.cls_ok q2, He.noat_ok q3⟩
  · rw [hG] at hf
    obtain ⟨x, hx, rfl, rfl⟩ := lookup_mapG hf
    have z := List.all_eq_true.mp hgi x hx
    unfold ckGI at z
    simp only [Bool.and_eq_true, decide_eq_true_eq, Option.isNone_iff_eq_none] at z
    obtain ⟨⟨⟨⟨⟨⟨⟨⟨z2, z3⟩, z4⟩, z5⟩, z6⟩, z7⟩, z8⟩, z9⟩, z10⟩ := z
    obtain ⟨fd, F⟩ := defs (List.mem_append_right _ (List.mem_append_right _ (List.mem_map.mpr ⟨x, hx, rfl⟩))) z3 z4
    rw [z2] at F
    obtain ⟨s1, s2, s3⟩ := gSc_of z6
    exact ⟨_, _, _, _, _, _, _, x.N, gparsOf x, 60, 40, 40, F, glo_of X G (bg _ (by rw [hG]; exact List.mem_map.mpr ⟨x, hx, rfl⟩)), z5, rfl, s1, s2, z7, z8, s3, z9, z10⟩
end
theorem says_tab {w : World} {K : PySem.W.Frag} {fa : List He.Fa} {fn : List He.DefD} {ts : List He.Tab} (c : He.SaysT fa fn ts w K) : ∀ t ∈ ts, He.dicW K (t.1 K) = some (He.keysIn w.params t.2) := fun t ht => by
  have e : ts.map (fun t => He.dicW K (t.1 K)) = ts.map fun t => some (He.keysIn w.params t.2) := congrArg (fun z : He.AlT => z.2) c
  obtain ⟨i, hi⟩ := List.mem_iff_getElem?.mp ht
  have e2 : (ts.map fun t => He.dicW K (t.1 K))[i]? = (ts.map fun t => some (He.keysIn w.params t.2))[i]? := by rw [e]
  rw [List.getElem?_map, List.getElem?_map, hi] at e2
  exact Option.some.inj e2
/-! ### the end -/
theorem end_of {l : PySem.W.OpenLaw} {n d : Nat} {q : Program} {loose : List Str} {XP : (Str → Option Value) → Heap → Prop} {dr : DefRec} {T : Tab} {ds : List DI} {iis : List II} {gs : List GI} {orig : List (String × String)} {x : Str}
    (hT : T.fns = ds.map fun x => (x.f, x.fd)) (hG : T.gns = gs.map fun x => (x.f, x.gd)) (hgi : gs.all (ckGI T) = true) (hd : ds.all (ckDI T) = true) (hi : iis.all ckII = true) (hl : (T.fns.lookup "law").isSome = true) (hlm : T.mts.lookup "law" = none) (hlx : (ds.all fun y => decide (y.f ≠ "law") || (decide (parsOf y = [x]) && y.fd.kw.isNone)) = true)
    (hname : dr.name = ("law" : Str)) (hn : l.most = some n) (hn2 : n ≤ sizeLine) (hdf : dr.params.defaults = []) (hr : Room (2 * d + 4) callerA)
    (spec : ∀ ns : List Int, ns.length ≤ n → ∃ L', call T (d + 1) "law" [.frl (ns.map PV.int)] [] = .ok (.bl true) L') :
    PySem.W.WalkO q loose XP (He.hookX 4 [] (ds.map (·.d) ++ (iis.map (·.d) ++ gs.map (·.d))) (tsOf T) [] (factsB T orig iis)).says l.row.toRowW dr [] (fun f vs => PySem.call f vs) := by
  refine walk_ofE (k := 2 * d + 4) (CX := CX0) (x := x) hn hn2 hdf hr (fun w mg fa h Y G hmg => ?_) (fun _ _ _ _ z => z)
  obtain ⟨K, KX, c⟩ := Y
  have cd : He.SaysD [] (ds.map (·.d) ++ (iis.map (·.d) ++ gs.map (·.d))) K := c.t.d
  obtain ⟨fd, hfd⟩ := Option.isSome_iff_exists.mp hl
  have hfd' := hfd
  rw [hT] at hfd'
  obtain ⟨y, hy, hyf, hyd⟩ := lookup_map hfd'
  obtain ⟨fdt, F, hpl, S, h1, h2, h3⟩ := di_of hd cd hy
  have hps2 : parsOf y = [x] ∧ y.fd.kw = none := by
    have := List.all_eq_true.mp hlx y hy
    simp only [Bool.or_eq_true, Bool.and_eq_true, decide_eq_true_eq, Option.isNone_iff_eq_none] at this
    exact this.resolve_left fun z => z hyf
  obtain ⟨hps, hkn⟩ := hps2
  have hpl1 : plainArgs y.d.params = true ∧ y.d.params.args.map (·.arg) = [x] := by
    rw [hkn, hps] at hpl
    unfold argsOk at hpl
    rw [Bool.and_eq_true, decide_eq_true_eq] at hpl
    exact hpl
  rw [hyf] at F
  rw [hyd] at h1 h2 h3
  have hat : He.fAd K (atOf T "law") = adr K "law" := by unfold atOf; rw [hlm]; rfl
  rw [hat] at F
  have pf0 : ∀ base : Heap, PF l.prog w K mg base T := fun base => pf_of hT hG hgi hd hi KX G cd c.more (says_tab c.t)
  have hfa : fa = adr K "law" := by
    have b := c.more
    unfold factsB at b
    simp only [Bool.and_eq_true, List.all_eq_true] at b
    obtain ⟨⟨⟨⟨⟨⟨⟨⟨bg, bd⟩, b0⟩, b1⟩, b2⟩, b3⟩, b4⟩, b5⟩, b6⟩ := b
    have b3' := b3 _ (lookup_mem' hfd)
    unfold accB at b3'
    rw [hlm] at b3'
    have e1 := glo_of KX G b3'
    rw [hname] at hmg
    have e2 : mg (Str.ofString "law") = some (.ref fa) := hmg
    rw [e1] at e2
    cases e2
    rfl
  subst hfa
  refine ⟨K, fdt, fun vs H Q _ => spF K mg (call T (d + 1)) "law" vs H Q (fun _ _ _ => False), KX, fun s u => ?_, fun H a ns hns hO hS => ?_, fun base kb gb => ?_⟩
  · have := F.bindsA (ps := [x]) (fun kV doc pm an cdv ct us hl => bind_plain hpl1.1 hpl1.2 rfl (by rw [← hps]; exact FnScope.nodupP S) hl) s [u] rfl
    exact this
  · refine ⟨⟨[], fun _ => False, fun _ => False⟩, [], [.frl (ns.map PV.int)], ⟨rfl, List.nodup_nil, fun n o a h => by simp at h, fun a z => z.elim (fun z => z.elim) fun z => z.elim, fun _ y => y.elim, fun _ y => y.elim⟩, ?_, ?_⟩
    · refine .cons ⟨a, ns.map V.int, rfl, ?_, RVs.of_ints⟩ RVs.nil
      rcases hS with (h | ⟨o, h⟩) | h
      · rcases hO a with z | ⟨o, xs, z⟩
        · rw [h] at z; cases z
        · rw [h] at z; cases z
      · exact .inl (.inl ⟨o, h⟩)
      · exact .inl (.inr h)
    · obtain ⟨L', e⟩ := spec ns hns
      rw [e]
      intro P' H' _ _ u ru
      exact ru
  · have ok := fn_one (pf0 base) (fn_all (pf0 base) d) (gn_all (pf0 base) d) hfd F S h1 h2 h3
    rw [hps] at ok
    refine ⟨fun vs H Q E q => ok.len vs H Q _ q, fun A outer s H args us vs Q E hr' e0 hb hv q => codeAny_mono (ok.run A outer s H args us vs Q _ hr' e0 hb hv q) fun r s' z => ?_⟩
    cases r with
    | error e =>
      obtain ⟨_, _, _, _, _, _, _, _, _, _, _, _, w⟩ := z
      exact w.elim
    | ok fl => cases fl <;> exact z
end MP

/-! SP 0: the interpreter, evaluated: what specs use. -/
namespace MP
open PySem PySem.Spec PyProof.Rows L2
theorem gc_gen {L0 L' : List HObj} {v : PV} (ok : okOld L0 L') (hv : v.under L0.length = true) : gc L0 v L' = (v, L'.take L0.length) := by
  unfold gc
  rw [if_pos ok, if_pos hv]
theorem okOld_app {L t : List HObj} : okOld L (L ++ t) := ⟨by simp, fun i hi => .inl (List.getElem?_append_left hi)⟩
theorem okOld_id {L : List HObj} : okOld L L := ⟨Nat.le_refl _, fun i hi => .inl rfl⟩
theorem gc_id {L : List HObj} {v : PV} (hv : v.under L.length = true) : gc L v L = (v, L) := by
  rw [gc_gen okOld_id hv, List.take_length]
theorem gc_app {L t : List HObj} {v : PV} (hv : v.under L.length = true) : gc L v (L ++ t) = (v, L) := by
  rw [gc_gen okOld_app hv, List.take_left']
  rfl
/-- a new object is handed on -/
theorem gc_new {L : List HObj} {o : HObj} : gc L (.ref L.length) (L ++ [o]) = (.ref L.length, L ++ [o]) := by
  unfold gc
  rw [if_pos okOld_app, if_neg (by simp [PV.under])]
  have e : (L ++ [o])[L.length]? = some o := by simp
  simp only [e]
  split
  · rw [List.take_left' rfl]
  · rfl
theorem gc_keep {L t : List HObj} {m : Nat} {o : HObj} (ho : (L ++ t)[m]? = some o) (hm : L.length ≤ m) (hu : o.under L.length = false) : gc L (.ref m) (L ++ t) = (.ref m, L ++ t) := by
  unfold gc
  rw [if_pos okOld_app, if_neg (by simp [PV.under]; omega)]
  simp only [ho]
  rw [if_neg (by rw [hu]; exact Bool.false_ne_true)]
theorem okOld_set {L t : List HObj} {k : Nat} {o : HObj} (h : o.under L.length = true) : okOld L (L.set k o ++ t) := ⟨by simp, fun i hi => by
  rw [List.getElem?_append_left (by simpa using hi)]
  by_cases hk : k = i
  · subst hk
    exact .inr ⟨o, List.getElem?_set_self hi, h⟩
  · exact .inl (List.getElem?_set_ne hk)⟩
theorem gc_set {L t : List HObj} {k : Nat} {o : HObj} {v : PV} (h : o.under L.length = true) (hv : v.under L.length = true) : gc L v (L.set k o ++ t) = (v, L.set k o) := by
  rw [gc_gen (okOld_set h) hv, List.take_left' (by simp)]
theorem gc_set0 {L : List HObj} {k : Nat} {o : HObj} {v : PV} (h : o.under L.length = true) (hv : v.under L.length = true) : gc L v (L.set k o) = (v, L.set k o) := by
  have := gc_set (t := []) (k := k) h hv
  rwa [List.append_nil] at this
theorem gc_set2 {L : List HObj} {k : Nat} {o o' : HObj} {v : PV} (h : o'.under L.length = true) (hv : v.under L.length = true) : gc (L.set k o) v (L.set k o') = (v, L.set k o') := by
  have := gc_set0 (L := L.set k o) (k := k) (o := o') (v := v) (by simpa using h) (by simpa using hv)
  rwa [List.set_set] at this
theorem gc_set3 {L t : List HObj} {k : Nat} {o o' : HObj} {v : PV} (h : o'.under L.length = true) (hv : v.under L.length = true) : gc (L.set k o) v (L.set k o' ++ t) = (v, L.set k o') := by
  have := gc_set (L := L.set k o) (t := t) (k := k) (o := o') (v := v) (by simpa using h) (by simpa using hv)
  rwa [List.set_set] at this
theorem ixN_nat {n k : Nat} : ixN n (k : Int) = if k < n then some k else none := by
  unfold ixN
  simp
theorem atI_nat {α : Type} {xs : List α} {k : Nat} : atI xs (k : Int) = xs[k]? := by
  unfold atI
  rw [ixN_nat]
  split
  · rfl
  · rename_i h
    rw [List.getElem?_eq_none (by omega)]
    rfl
theorem atI_pos {α : Type} {xs : List α} {i : Int} (h : 0 ≤ i) : atI xs i = xs[i.toNat]? := by
  obtain ⟨k, rfl⟩ := Int.eq_ofNat_of_zero_le h
  rw [atI_nat]
  rfl
theorem ixN_pos {n : Nat} {i : Int} (h : 0 ≤ i) (h2 : i.toNat < n) : ixN n i = some i.toNat := by
  obtain ⟨k, rfl⟩ := Int.eq_ofNat_of_zero_le h
  rw [ixN_nat, if_pos (by simpa using h2)]
  rfl
theorem u_non {n : Nat} : PV.non.under n = true := by cases n <;> rfl
theorem u_bl {n : Nat} {b : Bool} : (PV.bl b).under n = true := by cases n <;> rfl
theorem u_int {n : Nat} {b : Int} : (PV.int b).under n = true := by cases n <;> rfl
theorem u_str {n : Nat} {b : PySem.Str} : (PV.str b).under n = true := by cases n <;> rfl
theorem u_ref {n m : Nat} : (PV.ref m).under n = decide (m < n) := by cases n <;> rfl
theorem u_tup {n : Nat} {xs : List PV} : (PV.tup xs).under n = unders n xs := by cases n <;> rfl
theorem u_frl {n : Nat} {xs : List PV} : (PV.frl xs).under n = unders n xs := by cases n <;> rfl
theorem u_nil {n : Nat} : unders n [] = true := by cases n <;> rfl
theorem u_cons {n : Nat} {x : PV} {xs : List PV} : unders n (x :: xs) = (x.under n && unders n xs) := by cases n <;> rfl
theorem u_lst {n : Nat} {xs : List PV} : (HObj.lst xs).under n = unders n xs := by cases n <;> rfl
theorem u_ints {n : Nat} : ∀ {sc : List Int}, unders n (sc.map .int) = true
  | [] => rfl
  | i :: sc => by rw [List.map_cons, u_cons, u_int, u_ints]; rfl
theorem u_obj {n : Nat} {c : PySem.Str} {ns : List PySem.Str} {vs : List PV} : (PV.obj c ns vs).under n = unders n vs := by cases n <;> rfl
theorem u_ins {n : Nat} {c : PySem.Str} {ns : List PySem.Str} {vs : List PV} : (HObj.ins c ns vs).under n = unders n vs := by cases n <;> rfl
theorem u_app {n : Nat} : ∀ {xs ys : List PV}, unders n (xs ++ ys) = (unders n xs && unders n ys)
  | [], ys => by rw [List.nil_append, u_nil, Bool.true_and]
  | x :: xs, ys => by rw [List.cons_append, u_cons, u_cons, u_app, Bool.and_assoc]
theorem u_mapf {α : Type} {n : Nat} {f : α → PV} (h : ∀ a, (f a).under n = true) : ∀ {as : List α}, unders n (as.map f) = true
  | [] => by rw [List.map_nil, u_nil]
  | a :: as => by rw [List.map_cons, u_cons, h, u_mapf h]; rfl
theorem fz_gen {L0 L' : List HObj} {v : PV} (ok : okOld L0 L') (hv : v.under L0.length = true) : fz L0 v L' = (v, L'.take L0.length) := by
  unfold fz
  rw [if_pos ok, if_pos hv]
theorem fz_id {L : List HObj} {v : PV} (hv : v.under L.length = true) : fz L v L = (v, L) := by
  rw [fz_gen okOld_id hv, List.take_length]
theorem fz_app {L t : List HObj} {v : PV} (hv : v.under L.length = true) : fz L v (L ++ t) = (v, L) := by
  rw [fz_gen okOld_app hv, List.take_left']
  rfl
theorem fz_set {L t : List HObj} {k : Nat} {o : HObj} {v : PV} (h : o.under L.length = true) (hv : v.under L.length = true) : fz L v (L.set k o ++ t) = (v, L.set k o) := by
  rw [fz_gen (okOld_set h) hv, List.take_left' (by simp)]
theorem fz_set0 {L : List HObj} {k : Nat} {o : HObj} {v : PV} (h : o.under L.length = true) (hv : v.under L.length = true) : fz L v (L.set k o) = (v, L.set k o) := by
  have := fz_set (t := []) (k := k) h hv
  rwa [List.append_nil] at this
theorem fz_set2 {L : List HObj} {k : Nat} {o o' : HObj} {v : PV} (h : o'.under L.length = true) (hv : v.under L.length = true) : fz (L.set k o) v (L.set k o') = (v, L.set k o') := by
  have := fz_set0 (L := L.set k o) (k := k) (o := o') (v := v) (by simpa using h) (by simpa using hv)
  rwa [List.set_set] at this
/-- a heap that stands as L, but for what names nothing new -/
def Same (L L1 : List HObj) : Prop := okOld L L1 ∧ L1.length = L.length
theorem same_id {L : List HObj} : Same L L := ⟨okOld_id, rfl⟩
theorem same_set {L : List HObj} {k : Nat} {o : HObj} (h : o.under L.length = true) : Same L (L.set k o) := ⟨by have := okOld_set (t := []) (k := k) h; rwa [List.append_nil] at this, by simp⟩
theorem Same.app {L L1 t : List HObj} (h : Same L L1) : okOld L (L1 ++ t) := ⟨by rw [List.length_append, h.2]; omega, fun i hi => by
  rw [List.getElem?_append_left (by rw [h.2]; exact hi)]
  exact h.1.2 i hi⟩
theorem Same.take {L L1 t : List HObj} (h : Same L L1) : (L1 ++ t).take L.length = L1 := List.take_left' h.2
theorem gc_same {L L1 : List HObj} {v : PV} (h : Same L L1) (hv : v.under L.length = true) : gc L v L1 = (v, L1) := by
  rw [gc_gen h.1 hv, ← h.2, List.take_length]
theorem gc_sameA {L L1 t : List HObj} {v : PV} (h : Same L L1) (hv : v.under L.length = true) : gc L v (L1 ++ t) = (v, L1) := by
  rw [gc_gen h.app hv, h.take]
theorem fz_same {L L1 : List HObj} {v : PV} (h : Same L L1) (hv : v.under L.length = true) : fz L v L1 = (v, L1) := by
  rw [fz_gen h.1 hv, ← h.2, List.take_length]
theorem fz_sameA {L L1 t : List HObj} {v : PV} (h : Same L L1) (hv : v.under L.length = true) : fz L v (L1 ++ t) = (v, L1) := by
  rw [fz_gen h.app hv, h.take]
theorem fz_lstS {L L1 : List HObj} {xs : List PV} (h : Same L L1) (hx : unders L.length xs = true) : fz L (.ref L1.length) (L1 ++ [.lst xs]) = (.frl xs, L1) := by
  unfold fz
  rw [if_pos h.app, if_neg (by rw [u_ref, h.2]; simp)]
  have e : (L1 ++ [HObj.lst xs])[L1.length]? = some (.lst xs) := by simp
  simp only [e]
  rw [if_pos hx, h.take]
theorem fz_insS {L L1 : List HObj} {c : PySem.Str} {ns : List PySem.Str} {xs : List PV} (h : Same L L1) (hx : unders L.length xs = true) : fz L (.ref L1.length) (L1 ++ [.ins c ns xs]) = (.obj c ns xs, L1) := by
  unfold fz
  rw [if_pos h.app, if_neg (by rw [u_ref, h.2]; simp)]
  have e : (L1 ++ [HObj.ins c ns xs])[L1.length]? = some (.ins c ns xs) := by simp
  simp only [e]
  rw [if_pos hx, h.take]
theorem fz_lst {L : List HObj} {xs : List PV} (hx : unders L.length xs = true) : fz L (.ref L.length) (L ++ [.lst xs]) = (.frl xs, L) := fz_lstS same_id hx
theorem fz_lst2 {L : List HObj} {k : Nat} {o : HObj} {xs : List PV} (h : o.under L.length = true) (hx : unders L.length xs = true) : fz L (.ref L.length) (L.set k o ++ [.lst xs]) = (.frl xs, L.set k o) := by
  have := fz_lstS (same_set (k := k) h) hx
  rwa [List.length_set] at this
theorem fz_ins {L : List HObj} {c : PySem.Str} {ns : List PySem.Str} {xs : List PV} (hx : unders L.length xs = true) : fz L (.ref L.length) (L ++ [.ins c ns xs]) = (.obj c ns xs, L) := fz_insS same_id hx
theorem call_eq {T : Tab} {f : String} {fd : FD} (h : T.fns.lookup f = some fd) (d : Nat) (xs : List PV) (L : List HObj) (hl : xs.length = fd.n) :
    call T (d + 1) f xs L = fin fd.fz L (execs T (call T d) fd.body none (xs.map some ++ List.replicate (fd.sl - fd.n) none) L) := by
  show (match T.fns.lookup f with
    | some fd => if xs.length = fd.n then fin fd.fz L (execs T (call T d) fd.body none (xs.map some ++ List.replicate (fd.sl - fd.n) none) L) else .stuck
    | none => (match T.gns.lookup f with
      | some gd => (match gout T (call T d) gd xs with
        | some ys => .ok (.frl ys) L
        | none => .stuck)
      | none => .stuck)) = _
  rw [h]
  exact if_pos hl
/-- a generator def is called -/
theorem callG_eq {T : Tab} {f : String} {gd : GFD} {ys : List PV} {ρ' : Env'} {L' : List HObj} (h0 : T.fns.lookup f = none) (h : T.gns.lookup f = some gd) (d : Nat) (xs : List PV) (L : List HObj) (hl : xs.length = gd.n) (hg : gruns T (call T d) gd.body (xs.map some ++ List.replicate (gd.sl - gd.n) none) [] = some (ys, ρ', L')) :
    call T (d + 1) f xs L = .ok (.frl ys) L := by
  show (match T.fns.lookup f with
    | some fd => if xs.length = fd.n then fin fd.fz L (execs T (call T d) fd.body none (xs.map some ++ List.replicate (fd.sl - fd.n) none) L) else .stuck
    | none => (match T.gns.lookup f with
      | some gd => (match gout T (call T d) gd xs with
        | some ys => .ok (.frl ys) L
        | none => .stuck)
      | none => .stuck)) = _
  rw [h0, h]
  unfold gout
  simp only [if_pos hl, hg, Option.map_some]
theorem x_forg {T : Tab} {cl : String → List PV → M PV} {tg : Tg} {f : String} {es : List Ex} {body : List Sx} {hx : HX} {ρ : Env'} {L L1 L2 : List HObj} {xs ys : List PV} (h1 : evs T cl hx es ρ L = .ok xs L1) (h2 : cl f xs L1 = .ok (.frl ys) L2) (h3 : unders 0 xs = true) (h4 : L1.all isLst = true) :
    exec T cl (.forg tg f es body) hx ρ L = forLoop none tg (fun ρ1 L2 => lstO (execs T cl body hx ρ1 L2)) ys ρ L1 := by
  show (match evs T cl hx es ρ L with
    | .ok xs L1 => (match cl f xs L1 with
      | .ok (.frl ys) _ => if unders 0 xs = true ∧ L1.all isLst = true then forLoop none tg (fun ρ1 L2 => lstO (execs T cl body hx ρ1 L2)) ys ρ L1 else .stuck
      | _ => .stuck)
    | _ => .stuck) = _
  rw [h1]
  simp only [h2]
  exact if_pos ⟨h3, h4⟩
section
variable {T : Tab} {cl : String → List PV → M PV} {ρ ρ' : Env'} {L L' : List HObj}
theorem g_nil : gruns T cl [] ρ L = some ([], ρ, L) := by rfl
theorem g_st {s : Sx} {ss : List GSx} (h : exec T cl s none ρ L = .next ρ' L') : gruns T cl (.st s :: ss) ρ L = gruns T cl ss ρ' L' := by
  have e : grun1 T cl (.st s) ρ L = some ([], ρ', L') := by
    show (match exec T cl s none ρ L with
      | .next ρ' L' => some (([] : List PV), ρ', L')
      | _ => none) = _
    rw [h]
  show ((grun1 T cl (.st s) ρ L).bind fun r => (gruns T cl ss r.2.1 r.2.2).map fun q => (r.1 ++ q.1, q.2)) = _
  rw [e]
  show ((gruns T cl ss ρ' L').map fun q => ([] ++ q.1, q.2)) = _
  cases gruns T cl ss ρ' L' with
  | none => rfl
  | some q => rfl
theorem g_yld {x : Ex} {y : PV} {ss : List GSx} {o : List PV} {z : Env' × List HObj} (h : ev T cl none x ρ L = .ok y L') (h1 : L'.all isLst = true) (h2 : y.under 0 = true) (h3 : gruns T cl ss ρ L' = some (o, z)) : gruns T cl (.yld x :: ss) ρ L = some (y :: o, z) := by
  have e : grun1 T cl (.yld x) ρ L = some ([y], ρ, L') := by
    show (match ev T cl none x ρ L with
      | .ok y L' => if L'.all isLst = true ∧ y.under 0 = true then some ([y], ρ, L') else none
      | _ => none) = _
    rw [h]
    exact if_pos ⟨h1, h2⟩
  show ((grun1 T cl (.yld x) ρ L).bind fun r => (gruns T cl ss r.2.1 r.2.2).map fun q => (r.1 ++ q.1, q.2)) = _
  rw [e]
  show ((gruns T cl ss ρ L').map fun q => ([y] ++ q.1, q.2)) = _
  rw [h3]
  rfl
theorem g_forr {t : Tg} {a : Ex} {b ss : List GSx} {j : Int} {L1 : List HObj} {o1 o2 : List PV} {z : Env' × List HObj} (h : ev T cl none a ρ L = .ok (.int j) L1) (hj : smallI j = true) (h1 : gloop t (fun ρ1 L2 => gruns T cl b ρ1 L2) (rangeP 0 j.toNat) ρ L1 = some (o1, ρ', L')) (h2 : gruns T cl ss ρ' L' = some (o2, z)) :
    gruns T cl (.forr t a b :: ss) ρ L = some (o1 ++ o2, z) := by
  have e : grun1 T cl (.forr t a b) ρ L = some (o1, ρ', L') := by
    show (match ev T cl none a ρ L with
      | .ok (.int j) L1 => if smallI j = true then gloop t (fun ρ1 L2 => gruns T cl b ρ1 L2) (rangeP 0 j.toNat) ρ L1 else none
      | _ => none) = _
    rw [h]
    exact (if_pos hj).trans h1
  show ((grun1 T cl (.forr t a b) ρ L).bind fun r => (gruns T cl ss r.2.1 r.2.2).map fun q => (r.1 ++ q.1, q.2)) = _
  rw [e]
  show ((gruns T cl ss ρ' L').map fun q => (o1 ++ q.1, q.2)) = _
  rw [h2]
  rfl
/-- a loop of a generator, by an invariant: out i is handed out at turn i -/
theorem gloop_all {t : Tg} {B : Env' → List HObj → Option (List PV × Env' × List HObj)} (I : Nat → Env' → List HObj → Prop) (out : Nat → List PV) (step : ∀ i x ρ L, I i ρ L → ∃ ρ1 ρ2 L2, bindT t x ρ = some ρ1 ∧ B ρ1 L = some (out i, ρ2, L2) ∧ I (i + 1) ρ2 L2) : ∀ (xs : List PV) (i : Nat) (ρ : Env') (L : List HObj), I i ρ L →
    ∃ ρ' L', gloop t B xs ρ L = some (((List.range xs.length).map fun k => out (i + k)).flatten, ρ', L') ∧ I (i + xs.length) ρ' L'
  | [], i, ρ, L, h => ⟨ρ, L, rfl, h⟩
  | x :: xs, i, ρ, L, h => by
    obtain ⟨ρ1, ρ2, L2, h1, h2, h3⟩ := step i x ρ L h
    obtain ⟨ρ', L', h4, h5⟩ := gloop_all I out step xs (i + 1) ρ2 L2 h3
    refine ⟨ρ', L', ?_, by rw [List.length_cons, Nat.add_comm xs.length 1, ← Nat.add_assoc]; exact h5⟩
    show ((bindT t x ρ).bind fun ρ1 => (B ρ1 L).bind fun r => (gloop t B xs r.2.1 r.2.2).map fun q => (r.1 ++ q.1, q.2)) = _
    rw [h1]
    show ((B ρ1 L).bind fun r => (gloop t B xs r.2.1 r.2.2).map fun q => (r.1 ++ q.1, q.2)) = _
    rw [h2]
    show ((gloop t B xs ρ2 L2).map fun q => (out i ++ q.1, q.2)) = _
    rw [h4, List.length_cons, List.range_succ_eq_map, List.map_cons, List.map_map, List.flatten_cons]
    have e : (fun k => out (i + k)) ∘ Nat.succ = fun k => out (i + 1 + k) := funext fun k => by show out (i + (k + 1)) = _; congr 1; omega
    rw [e]
    rfl
end
end MP

/-! SP 1: the interpreter's equations, in a form that is evaluated from the inside. -/
namespace MP
open PySem PySem.Spec PyProof.Rows L2
def Out.seq {α β : Type} (o : Out α) (k : α → List HObj → Out β) : Out β := match o with
  | .ok a L => k a L
  | .exc c f L => .exc c f L
  | .stuck => .stuck
def Out.sq {α : Type} (o : Out α) (ρ : Env') (k : α → List HObj → SOut) : SOut := match o with
  | .ok a L => k a L
  | .exc c f L => .exc c f ρ L
  | .stuck => .stuck
def SOut.sq (o : SOut) (k : Env' → List HObj → SOut) : SOut := match o with
  | .next ρ L => k ρ L
  | r => r
def Out.opt {α : Type} (o : Option α) (k : α → Out PV) : Out PV := match o with
  | some a => k a
  | none => .stuck
def HObj.its : HObj → List PV
  | .lst xs => xs
  | .frl xs => xs
  | .ins _ _ _ => []
def HObj.itsO : HObj → Option (List PV)
  | .lst xs => some xs
  | .frl xs => some xs
  | .ins _ _ _ => none
def HObj.mut : HObj → Option (List PV)
  | .lst xs => some xs
  | .frl _ => none
  | .ins _ _ _ => none
def SOut.opt {α : Type} (o : Option α) (k : α → SOut) : SOut := match o with
  | some a => k a
  | none => .stuck
theorem seq_ok {α β : Type} {a : α} {L : List HObj} {k : α → List HObj → Out β} : (Out.ok a L).seq k = k a L := by cases L <;> rfl
theorem seq_exc {α β : Type} {c : String} {f : Option (String × PV)} {L : List HObj} {k : α → List HObj → Out β} : (Out.exc c f L : Out α).seq k = .exc c f L := by cases L <;> rfl
theorem sq_ok {α : Type} {a : α} {L : List HObj} {ρ : Env'} {k : α → List HObj → SOut} : (Out.ok a L).sq ρ k = k a L := by cases L <;> rfl
theorem sq_exc {α : Type} {c : String} {f : Option (String × PV)} {L : List HObj} {ρ : Env'} {k : α → List HObj → SOut} : (Out.exc c f L : Out α).sq ρ k = .exc c f ρ L := by cases L <;> rfl
theorem ssq_next {L : List HObj} {ρ : Env'} {k : Env' → List HObj → SOut} : (SOut.next ρ L).sq k = k ρ L := by cases L <;> rfl
theorem ssq_ret {L : List HObj} {v : PV} {k : Env' → List HObj → SOut} : (SOut.ret v L).sq k = .ret v L := by cases L <;> rfl
theorem ssq_brk {L : List HObj} {ρ : Env'} {k : Env' → List HObj → SOut} : (SOut.brk ρ L).sq k = .brk ρ L := by cases L <;> rfl
theorem ssq_cnt {L : List HObj} {ρ : Env'} {k : Env' → List HObj → SOut} : (SOut.cnt ρ L).sq k = .cnt ρ L := by cases L <;> rfl
theorem ssq_exc {L : List HObj} {c : String} {f : Option (String × PV)} {ρ : Env'} {k : Env' → List HObj → SOut} : (SOut.exc c f ρ L).sq k = .exc c f ρ L := by cases L <;> rfl
theorem opt_some {α : Type} {a : α} {k : α → Out PV} : Out.opt (some a) k = k a := True.casesOn (motive := fun _ => _) trivial rfl
theorem sopt_some {α : Type} {a : α} {k : α → SOut} : SOut.opt (some a) k = k a := True.casesOn (motive := fun _ => _) trivial rfl
theorem bnd_seq {α β : Type} {m : M α} {k : α → M β} {L : List HObj} : bnd m k L = (m L).seq k := by unfold bnd Out.seq; cases m L <;> rfl
theorem bnd_fun {α β : Type} {m : M α} {k : α → M β} : bnd m k = fun L => (m L).seq k := by funext L; exact bnd_seq
section
variable {T : Tab} {cl : String → List PV → M PV} {hx : HX} {ρ : Env'} {L : List HObj}
/-! ### expressions -/
theorem v_cst {v : PV} : ev T cl hx (.cst v) ρ L = .ok v L := by cases L <;> rfl
theorem v_var {i : Nat} : ev T cl hx (.var i) ρ L = Out.opt (ρ[i]?.bind id) fun x => .ok x L := by
  show (match ρ[i]? with | some (some x) => Out.ok x L | _ => .stuck) = _
  cases ρ[i]? with
  | none => rfl
  | some o => cases o <;> rfl
theorem v_glb {x : String} : ev T cl hx (.glb x) ρ L = Out.opt (T.csts.lookup x) fun v => .ok v L := by
  show (match T.csts.lookup x with | some v => Out.ok v L | none => .stuck) = _
  cases T.csts.lookup x <;> rfl
theorem v_nil : evs T cl hx [] ρ L = .ok [] L := by cases L <;> rfl
theorem v_cons {e : Ex} {es : List Ex} : evs T cl hx (e :: es) ρ L = (ev T cl hx e ρ L).seq fun x L1 => (evs T cl hx es ρ L1).seq fun xs L2 => .ok (x :: xs) L2 := by
  show bnd _ _ _ = _
  simp only [bnd_fun]
  try rfl
def sized {α : Type} (xs : List PV) (r : Out α) : Out α := if xs.length ≤ 16777216 then r else .stuck
theorem sized_of {α : Type} {xs : List PV} {r : Out α} (h : xs.length ≤ 16777216) : sized xs r = r := if_pos h
theorem sized_le {α : Type} {xs : List PV} {r : Out α} (h : xs.length ≤ 1000) : sized xs r = r := if_pos (by omega)
theorem sz0 {α : Type} {r : Out α} : sized [] r = r := sized_le (by simp)
theorem sz1 {α : Type} {a : PV} {r : Out α} : sized [a] r = r := sized_le (by simp)
theorem sz2 {α : Type} {a b : PV} {r : Out α} : sized [a, b] r = r := sized_le (by simp)
theorem sz3 {α : Type} {a b c : PV} {r : Out α} : sized [a, b, c] r = r := sized_le (by simp)
theorem sz4 {α : Type} {a b c d : PV} {r : Out α} : sized [a, b, c, d] r = r := sized_le (by simp)
theorem sz5 {α : Type} {a b c d e : PV} {r : Out α} : sized [a, b, c, d, e] r = r := sized_le (by simp)
theorem sz6 {α : Type} {a b c d e f : PV} {r : Out α} : sized [a, b, c, d, e, f] r = r := sized_le (by simp)
theorem v_tup {es : List Ex} : ev T cl hx (.tup es) ρ L = (evs T cl hx es ρ L).seq fun xs L1 => sized xs (.ok (.tup xs) L1) := by
  show bnd _ _ _ = _
  simp only [bnd_fun]
  try rfl
theorem v_lst {es : List Ex} : ev T cl hx (.lst es) ρ L = (evs T cl hx es ρ L).seq fun xs L1 => sized xs (.ok (.ref L1.length) (L1 ++ [.lst xs])) := by
  show bnd _ _ _ = _
  simp only [bnd_fun]
  try rfl
theorem v_bin {o : Bop} {a b : Ex} : ev T cl hx (.bin o a b) ρ L = (ev T cl hx a ρ L).seq fun x L1 => (ev T cl hx b ρ L1).seq fun y L2 => binop o x y L2 := by
  show bnd _ _ _ = _
  simp only [bnd_fun]
  try rfl
def negP (x : PV) (L : List HObj) : Out PV := match x with
  | .int i => .ok (.int (-i)) L
  | _ => .stuck
theorem neg_int {i : Int} : negP (.int i) L = .ok (.int (-i)) L := by cases L <;> rfl
theorem v_neg {a : Ex} : ev T cl hx (.neg a) ρ L = (ev T cl hx a ρ L).seq negP := by
  show bnd _ _ _ = _
  simp only [bnd_fun]
  try rfl
theorem v_not {a : Ex} : ev T cl hx (.not a) ρ L = (ev T cl hx a ρ L).seq fun x L1 => (truth x L1).seq fun b L2 => .ok (.bl (!b)) L2 := by
  show bnd _ _ _ = _
  simp only [bnd_fun]
  try rfl
theorem v_cmp {o : Cop} {a b : Ex} : ev T cl hx (.cmp o a b) ρ L = (ev T cl hx a ρ L).seq fun x L1 => (ev T cl hx b ρ L1).seq fun y L2 => (cmpop o x y L2).seq fun k L3 => .ok (.bl k) L3 := by
  show bnd _ _ _ = _
  simp only [bnd_fun]
  try rfl
theorem v_chain {o o' : Cop} {a b c : Ex} : ev T cl hx (.chain o o' a b c) ρ L = (ev T cl hx a ρ L).seq fun x L1 => (ev T cl hx b ρ L1).seq fun y L2 => (cmpop o x y L2).seq fun k L3 =>
    if k = true then (ev T cl hx c ρ L3).seq fun z L4 => (cmpop o' y z L4).seq fun k L5 => .ok (.bl k) L5 else .ok (.bl false) L3 := by
  show bnd _ _ _ = _
  simp only [bnd_fun]
  exact congrArg _ (funext fun x => funext fun L1 => congrArg _ (funext fun y => funext fun L2 => congrArg _ (funext fun k => funext fun L3 => by cases k <;> rfl)))
theorem v_and {a b : Ex} : ev T cl hx (.and a b) ρ L = (ev T cl hx a ρ L).seq fun x L1 => (truth x L1).seq fun k L2 => if k = true then ev T cl hx b ρ L2 else .ok x L2 := by
  show bnd _ _ _ = _
  simp only [bnd_fun]
  exact congrArg _ (funext fun x => funext fun L1 => congrArg _ (funext fun k => funext fun L2 => by cases k <;> rfl))
theorem v_or {a b : Ex} : ev T cl hx (.or a b) ρ L = (ev T cl hx a ρ L).seq fun x L1 => (truth x L1).seq fun k L2 => if k = true then .ok x L2 else ev T cl hx b ρ L2 := by
  show bnd _ _ _ = _
  simp only [bnd_fun]
  exact congrArg _ (funext fun x => funext fun L1 => congrArg _ (funext fun k => funext fun L2 => by cases k <;> rfl))
theorem v_ite {c a b : Ex} : ev T cl hx (.ite c a b) ρ L = (ev T cl hx c ρ L).seq fun x L1 => (truth x L1).seq fun k L2 => if k = true then ev T cl hx a ρ L2 else ev T cl hx b ρ L2 := by
  show bnd _ _ _ = _
  simp only [bnd_fun]
  exact congrArg _ (funext fun x => funext fun L1 => congrArg _ (funext fun k => funext fun L2 => by cases k <;> rfl))
theorem v_call {f : String} {es : List Ex} : ev T cl hx (.call f es) ρ L = (evs T cl hx es ρ L).seq fun xs L1 => cl f xs L1 := by
  show bnd _ _ _ = _
  simp only [bnd_fun]
  try rfl
theorem v_blt {f : Blt} {es : List Ex} : ev T cl hx (.blt f es) ρ L = (evs T cl hx es ρ L).seq fun xs L1 => bltin f xs L1 := by
  show bnd _ _ _ = _
  simp only [bnd_fun]
  try rfl
theorem v_met {m : Mth} {o : Ex} {es : List Ex} : ev T cl hx (.met m o es) ρ L = (ev T cl hx o ρ L).seq fun x L1 => if recvOk m x L1 = true then (evs T cl hx es ρ L1).seq fun xs L2 => meth m x xs L2 else .stuck := by
  show bnd _ _ _ = _
  simp only [bnd_fun]
  try rfl
theorem v_idx {a i : Ex} : ev T cl hx (.idx a i) ρ L = (ev T cl hx a ρ L).seq fun x L1 => (ev T cl hx i ρ L1).seq fun y L2 => item x y L2 := by
  show bnd _ _ _ = _
  simp only [bnd_fun]
  try rfl
def intP (x : PV) (L : List HObj) : Out (Option Int) := match x with
  | .int i => .ok (some i) L
  | _ => .stuck
theorem intP_int {i : Int} : intP (.int i) L = .ok (some i) L := by cases L <;> rfl
theorem v_o0 : evo T cl hx none ρ L = .ok none L := by cases L <;> rfl
theorem v_o1 {e : Ex} : evo T cl hx (some e) ρ L = (ev T cl hx e ρ L).seq intP := by
  show bnd _ _ _ = _
  simp only [bnd_fun]
  try rfl
theorem v_slc {a : Ex} {lo hi : Option Ex} : ev T cl hx (.slc a lo hi) ρ L = (ev T cl hx a ρ L).seq fun x L1 => (evo T cl hx lo ρ L1).seq fun l L2 => (evo T cl hx hi ρ L2).seq fun h L3 => sliceP x l h L3 := by
  show bnd _ _ _ = _
  simp only [bnd_fun]
  try rfl
theorem v_isi {a : Ex} {t : ITy} : ev T cl hx (.isi a t) ρ L = (ev T cl hx a ρ L).seq fun x L1 => isTy t x L1 := by
  show bnd _ _ _ = _
  simp only [bnd_fun]
  try rfl
theorem v_exf {f n : String} {k : String} {x : PV} (h : n = f) : ev T cl (some (k, some (n, x))) (.exf f) ρ L = .ok x L := by
  show (if n = f then Out.ok x L else .stuck) = _
  rw [if_pos h]
theorem v_exi {c k : String} {f : Option (String × PV)} : ev T cl (some (k, f)) (.exi c) ρ L = .ok (.bl (T.subs.contains (k, c))) L := by cases L <;> rfl
/-- a comprehension's turns, by the outcome -/
def Out.lc (o : Out (List PV)) : Out PV := match o with
  | .ok ys L2 => .ok (.ref L2.length) (L2 ++ [HObj.lst ys])
  | _ => .stuck
def Out.wk (o : Option Walk) (k : Walk → Out PV) : Out PV := match o with
  | some w => k w
  | none => .stuck
theorem lc_ok {ys : List PV} : (Out.ok ys L).lc = .ok (.ref L.length) (L ++ [.lst ys]) := by cases L <;> rfl
theorem v_lc {elt : Ex} {tg : Tg} {k : ItK} {es conds : List Ex} {own : List Nat} : ev T cl hx (.lc elt tg k es conds own) ρ L = (evs T cl hx es ρ L).seq fun xs L1 => Out.opt (walkOf L k xs L1) fun w =>
    sized w.items (lcLoop w.guard tg (fun ρ1 => evc T cl hx conds ρ1) (fun ρ1 => ev T cl hx elt ρ1) (own.foldl (fun r i => r.set i none) ρ) w.items [] w.heap).lc := by
  show (match evs T cl hx es ρ L with
      | .ok xs L1 => (match walkOf L k xs L1 with
        | some w => if w.items.length ≤ 16777216 then (match lcLoop w.guard tg (fun ρ1 => evc T cl hx conds ρ1) (fun ρ1 => ev T cl hx elt ρ1) (own.foldl (fun r i => r.set i none) ρ) w.items [] w.heap with
          | .ok ys L2 => Out.ok (PV.ref L2.length) (L2 ++ [HObj.lst ys])
          | _ => Out.stuck) else Out.stuck
        | none => Out.stuck)
      | .exc c f L1 => Out.exc c f L1
      | .stuck => Out.stuck) = _
  unfold Out.seq
  cases evs T cl hx es ρ L with
  | ok xs L1 =>
    simp only
    cases walkOf L k xs L1 <;> rfl
  | exc c f L1 => rfl
  | stuck => rfl
theorem vc_nil : evc T cl hx [] ρ L = .ok true L := by cases L <;> rfl
theorem vc_one {e : Ex} : evc T cl hx [e] ρ L = (ev T cl hx e ρ L).seq truth := by
  rw [evc_one]
  show bnd _ _ _ = _
  simp only [bnd_fun]
  try rfl
/-! ### statements -/
theorem x_nil {h : HX} : execs T cl [] h ρ L = .next ρ L := by cases L <;> rfl
theorem x_cons {s : Sx} {ss : List Sx} {h : HX} : execs T cl (s :: ss) h ρ L = (exec T cl s h ρ L).sq fun ρ' L' => execs T cl ss h ρ' L' := by
  show (match exec T cl s h ρ L with
    | .next ρ' L' => execs T cl ss h ρ' L'
    | r => r) = _
  unfold SOut.sq
  cases exec T cl s h ρ L <;> rfl
theorem onOk_sq {m : M PV} {k : PV → List HObj → SOut} : onOk m ρ k L = (m L).sq ρ k := by unfold onOk Out.sq; cases m L <;> rfl
noncomputable def gcO (L : List HObj) (v : PV) (L' : List HObj) : Out PV := .ok (gc L v L').1 (gc L v L').2
theorem gcM_seq {m : M PV} : gcM m L = (m L).seq (gcO L) := by unfold gcM Out.seq gcO; cases m L <;> rfl
theorem x_set {i : Nat} {e : Ex} {h : HX} : exec T cl (.set i e) h ρ L = ((ev T cl h e ρ L).seq (gcO L)).sq ρ fun v L' => .next (ρ.set i (some v)) L' := by
  show onOk _ _ _ _ = _
  rw [onOk_sq, gcM_seq]
theorem x_expr {e : Ex} {h : HX} : exec T cl (.expr e) h ρ L = (ev T cl h e ρ L).sq ρ fun _ L' => .next ρ (gc L .non L').2 := by
  show onOk _ _ _ _ = _
  rw [onOk_sq]
theorem x_ret {e : Ex} {h : HX} : exec T cl (.ret e) h ρ L = (ev T cl h e ρ L).sq ρ fun v L' => .ret v L' := by
  show onOk _ _ _ _ = _
  rw [onOk_sq]
theorem x_retN {h : HX} : exec T cl .retN h ρ L = .ret .non L := by cases L <;> rfl
theorem x_brk {h : HX} : exec T cl .brk h ρ L = .brk ρ L := by cases L <;> rfl
theorem x_cnt {h : HX} : exec T cl .cnt h ρ L = .cnt ρ L := by cases L <;> rfl
theorem x_ite {c : Ex} {a b : List Sx} {h : HX} : exec T cl (.ite c a b) h ρ L = ((ev T cl h c ρ L).seq truth).sq ρ fun k L' => if k = true then execs T cl a h ρ (gc L .non L').2 else execs T cl b h ρ (gc L .non L').2 := by
  show (match gcB (bnd (ev T cl h c ρ) truth) L with
    | .ok true L' => execs T cl a h ρ L'
    | .ok false L' => execs T cl b h ρ L'
    | .exc c f L' => .exc c f ρ L'
    | .stuck => .stuck) = _
  unfold gcB
  rw [bnd_seq]
  unfold Out.sq
  cases (ev T cl h c ρ L).seq truth with
  | ok b L' => cases b <;> rfl
  | exc c f L' => rfl
  | stuck => rfl
noncomputable def stO (L : List HObj) (ρ : Env') (o : Out Unit) : SOut := match o with
  | .ok _ L4 => .next ρ (gc L .non L4).2
  | _ => .stuck
theorem stO_ok {L4 : List HObj} : stO L ρ (.ok () L4) = .next ρ (gc L .non L4).2 := by cases L <;> rfl
theorem x_sub {o i e : Ex} {h : HX} : exec T cl (.sub o i e) h ρ L = (ev T cl h e ρ L).sq ρ fun v L1 => (ev T cl h o ρ L1).sq ρ fun x L2 => (ev T cl h i ρ L2).sq ρ fun y L3 => stO L ρ (setItem' x y v L3) := by
  show onOk _ _ _ _ = _
  rw [onOk_sq]
  congr 1
  funext v L1
  rw [onOk_sq]
  congr 1
  funext x L2
  rw [onOk_sq]
  congr 1
theorem x_raise0 {c : String} {h : HX} (hc : T.excs.lookup c = some none) : exec T cl (.raise c none) h ρ L = .exc c none ρ L := by
  show (match T.excs.lookup c with
      | some none => SOut.exc c none ρ L
      | _ => .stuck) = _
  rw [hc]
theorem x_raise1 {c n : String} {e : Ex} {h : HX} (hc : T.excs.lookup c = some (some n)) : exec T cl (.raise c (some e)) h ρ L = ((ev T cl h e ρ L).seq (gcO L)).sq ρ fun v L' => .exc c (some (n, v)) ρ L' := by
  show (match T.excs.lookup c with
      | some (some n) => onOk (gcM (ev T cl h e ρ)) ρ (fun v L' => .exc c (some (n, v)) ρ L') L
      | _ => .stuck) = _
  rw [hc]
  show onOk _ _ _ _ = _
  rw [onOk_sq, gcM_seq]
theorem x_for {tg : Tg} {k : ItK} {es : List Ex} {body : List Sx} {h : HX} : exec T cl (.for tg k es body) h ρ L = (evs T cl h es ρ L).sq ρ fun xs L1 => SOut.opt (walkOf L k xs L1) fun w => forLoop w.guard tg (fun ρ1 L2 => execs T cl body h ρ1 L2) w.items ρ w.heap := by
  show (match evs T cl h es ρ L with
    | .ok xs L1 => (match walkOf L k xs L1 with
      | some w => forLoop w.guard tg (fun ρ1 L2 => execs T cl body h ρ1 L2) w.items ρ w.heap
      | none => .stuck)
    | .exc c f L1 => .exc c f ρ L1
    | .stuck => .stuck) = _
  unfold Out.sq
  cases evs T cl h es ρ L with
  | ok xs L1 =>
    simp only
    cases walkOf L k xs L1 <;> rfl
  | exc c f L1 => rfl
  | stuck => rfl
def augO (o : Bop) (x : Int) (y : PV) (L : List HObj) : Out PV := augop o x y L
theorem augO_add {x y : Int} : augO .add x (.int y) L = .ok (.int (x + y)) L := by cases L <;> rfl
theorem augO_sub {x y : Int} : augO .sub x (.int y) L = .ok (.int (x - y)) L := by cases L <;> rfl
theorem x_aug {i : Nat} {o : Bop} {e : Ex} {h : HX} {x : Int} (hi : ρ[i]? = some (some (.int x))) : exec T cl (.aug i o e) h ρ L = (((ev T cl h e ρ L).seq (augO o x)).seq (gcO L)).sq ρ fun v L' => .next (ρ.set i (some v)) L' := by
  show (match ρ[i]? with
    | some (some (.int x)) => onOk (gcM (bnd (ev T cl h e ρ) fun y => augop o x y)) ρ (fun v L' => .next (ρ.set i (some v)) L') L
    | _ => .stuck) = _
  rw [hi]
  show onOk _ _ _ _ = _
  rw [onOk_sq, gcM_seq, bnd_seq]
  rfl
theorem x_whl {c : Ex} {body : List Sx} {h : HX} : exec T cl (.whl c body) h ρ L = whl (fun ρ1 => gcB (bnd (ev T cl h c ρ1) truth)) (fun ρ1 L1 => execs T cl body h ρ1 L1) ρ L := by cases L <;> rfl
noncomputable def gcBO (L : List HObj) (b : Bool) (L' : List HObj) : Out Bool := .ok b (gc L .non L').2
theorem gcBO_def {b : Bool} {L' : List HObj} : gcBO L b L' = .ok b (gc L .non L').2 := by cases L <;> rfl
theorem gcB_seq {m : M PV} : gcB (bnd m truth) L = ((m L).seq truth).seq (gcBO L) := by
  unfold gcB
  rw [bnd_seq]
  cases (m L).seq truth <;> rfl
/-- try, by the body's outcome -/
noncomputable def SOut.try (T : Tab) (cl : String → List PV → M PV) (c : String) (i : Nat) (hd : List Sx) (o : SOut) : SOut := match o with
  | .exc c' f ρ' L' => if (T.excs.lookup c').isSome = true ∧ i < ρ'.length then (if T.subs.contains (c', c) = true then (match execs T cl hd (some (c', f)) (ρ'.set i (some .exn)) L' with
      | .next ρ2 L2 => .next (ρ2.set i none) L2
      | .brk ρ2 L2 => .brk (ρ2.set i none) L2
      | .cnt ρ2 L2 => .cnt (ρ2.set i none) L2
      | .ret v L2 => .ret v L2
      | _ => .stuck) else .exc c' f ρ' L') else .stuck
  | r => r
theorem x_try {body hd : List Sx} {c : String} {i : Nat} {h : HX} : exec T cl (.try body c i hd) h ρ L = SOut.try T cl c i hd (execs T cl body h ρ L) := by cases L <;> rfl
def SOut.hd (i : Nat) (o : SOut) : SOut := match o with
  | .next ρ2 L2 => .next (ρ2.set i none) L2
  | .brk ρ2 L2 => .brk (ρ2.set i none) L2
  | .cnt ρ2 L2 => .cnt (ρ2.set i none) L2
  | .ret v L2 => .ret v L2
  | _ => .stuck
theorem try_ret {hd : List Sx} {c : String} {i : Nat} {v : PV} : SOut.try T cl c i hd (.ret v L) = .ret v L := by cases L <;> rfl
theorem try_next {hd : List Sx} {c : String} {i : Nat} : SOut.try T cl c i hd (.next ρ L) = .next ρ L := by cases L <;> rfl
theorem try_exc {hd : List Sx} {c c' : String} {i : Nat} {f : Option (String × PV)} (h1 : (T.excs.lookup c').isSome = true) (h2 : T.subs.contains (c', c) = true) (h3 : i < ρ.length) : SOut.try T cl c i hd (.exc c' f ρ L) = SOut.hd i (execs T cl hd (some (c', f)) (ρ.set i (some .exn)) L) := by
  show (if (T.excs.lookup c').isSome = true ∧ i < ρ.length then (if T.subs.contains (c', c) = true then _ else _) else _) = _
  rw [if_pos ⟨h1, h3⟩, if_pos h2]
  rfl
theorem hd_ret {i : Nat} {v : PV} : SOut.hd i (.ret v L) = .ret v L := by cases L <;> rfl
theorem hd_next {i : Nat} : SOut.hd i (.next ρ L) = .next (ρ.set i none) L := by cases L <;> rfl
/-! ### operations -/
theorem b_add {i j : Int} : binop .add (.int i) (.int j) L = .ok (.int (i + j)) L := by cases L <;> rfl
theorem b_sub {i j : Int} : binop .sub (.int i) (.int j) L = .ok (.int (i - j)) L := by cases L <;> rfl
theorem b_mul {i j : Int} (h : mulOk i j) : binop .mul (.int i) (.int j) L = .ok (.int (i * j)) L := by
  simp only [binop, if_pos h]
theorem b_div {i j : Int} (h : CDivW i j) : binop .fdiv (.int i) (.int j) L = .ok (.int (i / j)) L := by
  simp only [binop, if_pos h]
theorem b_mod {i j : Int} (h : 0 < j) : binop .mod (.int i) (.int j) L = .ok (.int (i % j)) L := by
  show (if 0 < j then Out.ok (PV.int (i % j)) L else .stuck) = _
  rw [if_pos h]
theorem b_pow {i j : Int} (h : CPow i j) : binop .pow (.int i) (.int j) L = .ok (.int (i ^ j.toNat)) L := by
  simp only [binop, if_pos h]
theorem b_cat {a b : Str} (h : a.length + b.length ≤ 16777216) : binop .add (.str a) (.str b) L = .ok (.str (a ++ b)) L := by
  show (if a.length + b.length ≤ 16777216 then Out.ok (PV.str (a ++ b)) L else .stuck) = _
  rw [if_pos h]
theorem b_tup {a b : List PV} (h : a.length + b.length ≤ 16777216) : binop .add (.tup a) (.tup b) L = .ok (.tup (a ++ b)) L := by
  show (if a.length + b.length ≤ 16777216 then Out.ok (PV.tup (a ++ b)) L else .stuck) = _
  rw [if_pos h]
theorem c_lt {i j : Int} : cmpop .lt (.int i) (.int j) L = .ok (decide (i < j)) L := by cases L <;> rfl
theorem c_le {i j : Int} : cmpop .le (.int i) (.int j) L = .ok (decide (i ≤ j)) L := by cases L <;> rfl
theorem c_gt {i j : Int} : cmpop .gt (.int i) (.int j) L = .ok (decide (j < i)) L := by cases L <;> rfl
theorem c_ge {i j : Int} : cmpop .ge (.int i) (.int j) L = .ok (decide (j ≤ i)) L := by cases L <;> rfl
theorem seqOf_eq {L : List HObj} {n : Nat} : seqOf L n = L[n]?.bind HObj.itsO := by
  unfold seqOf
  cases L[n]? with
  | none => rfl
  | some o => cases o <;> rfl
theorem c_eqi {i j : Int} : cmpop .eq (.int i) (.int j) L = .ok (i == j) L := by cases L <;> rfl
theorem c_nei {i j : Int} : cmpop .ne (.int i) (.int j) L = .ok (!(i == j)) L := by cases L <;> rfl
theorem c_eqs {i j : Str} : cmpop .eq (.str i) (.str j) L = .ok (i == j) L := by cases L <;> rfl
theorem c_nes {i j : Str} : cmpop .ne (.str i) (.str j) L = .ok (!(i == j)) L := by cases L <;> rfl
theorem c_isn {x : PV} : cmpop .isn x .non L = .ok x.isNon L := by cases L <;> rfl
theorem c_isnotn {x : PV} : cmpop .isnotn x .non L = .ok (!x.isNon) L := by cases L <;> rfl
theorem t_bl {b : Bool} : truth (.bl b) L = .ok b L := by cases L <;> rfl
theorem t_non : truth .non L = .ok false L := by cases L <;> rfl
theorem i_tup {xs : List PV} {i : Int} : item (.tup xs) (.int i) L = Out.opt (atI xs i) fun v => .ok v L := by
  show (match atI xs i with | some v => Out.ok v L | none => .stuck) = _
  cases atI xs i <;> rfl
theorem i_frl {xs : List PV} {i : Int} : item (.frl xs) (.int i) L = Out.opt (atI xs i) fun v => .ok v L := by
  show (match atI xs i with | some v => Out.ok v L | none => .stuck) = _
  cases atI xs i <;> rfl
theorem i_ref {n : Nat} {i : Int} : item (.ref n) (.int i) L = Out.opt ((L[n]?.bind HObj.itsO).bind fun xs => atI xs i) fun v => .ok v L := by
  show (match (seqOf L n).bind fun xs => atI xs i with | some v => Out.ok v L | none => .stuck) = _
  rw [seqOf_eq]
  cases ((L[n]?.bind HObj.itsO).bind fun xs => atI xs i) <;> rfl
theorem i_str {s : Str} {i : Int} (h : s.length ≤ 16777216) : item (.str s) (.int i) L = Out.opt (atI s.cps.toList i) fun c => .ok (.str ⟨#[c]⟩) L := by
  show (if s.length ≤ 16777216 then (match atI s.cps.toList i with | some c => Out.ok (PV.str ⟨#[c]⟩) L | none => .stuck) else .stuck) = _
  rw [if_pos h]
  cases atI s.cps.toList i <;> rfl
theorem f_len_tup {xs : List PV} : bltin .len [.tup xs] L = .ok (.int xs.length) L := by cases L <;> rfl
theorem f_len_frl {xs : List PV} : bltin .len [.frl xs] L = .ok (.int xs.length) L := by cases L <;> rfl
theorem f_len_ref {n : Nat} : bltin .len [.ref n] L = Out.opt (L[n]?.bind HObj.itsO) fun xs => .ok (.int xs.length) L := by
  show (match seqOf L n with | some xs => Out.ok (PV.int xs.length) L | none => .stuck) = _
  rw [seqOf_eq]
  cases L[n]?.bind HObj.itsO <;> rfl
theorem f_len_str {s : Str} (h : s.length ≤ 16777216) : bltin .len [.str s] L = .ok (.int s.length) L := by
  show (if s.length ≤ 16777216 then Out.ok (PV.int s.length) L else .stuck) = _
  rw [if_pos h]
theorem f_int_int {i : Int} : bltin .int [.int i] L = .ok (.int i) L := by cases L <;> rfl
theorem f_int_bl {b : Bool} : bltin .int [.bl b] L = .ok (.int (if b then 1 else 0)) L := by cases L <;> rfl
theorem f_str_str {s : Str} : bltin .str [.str s] L = .ok (.str s) L := by cases L <;> rfl
theorem f_str_int {i : Int} (h : i.natAbs.log2 < 1920) : bltin .str [.int i] L = .ok (.str (toString i)) L := by
  show (if i.natAbs.log2 < 1920 then Out.ok (PV.str (toString i)) L else .stuck) = _
  rw [if_pos h]
theorem f_list_frl {xs : List PV} : bltin .list [.frl xs] L = .ok (.ref L.length) (L ++ [.lst xs]) := by cases L <;> rfl
theorem f_list_tup {xs : List PV} : bltin .list [.tup xs] L = .ok (.ref L.length) (L ++ [.lst xs]) := by cases L <;> rfl
theorem f_tuple_tup {xs : List PV} : bltin .tuple [.tup xs] L = .ok (.tup xs) L := by cases L <;> rfl
theorem f_tuple_frl {xs : List PV} : bltin .tuple [.frl xs] L = .ok (.tup xs) L := by cases L <;> rfl
theorem f_max2 {i j : Int} : bltin .max [.int i, .int j] L = .ok (.int (if j > i then j else i)) L := by cases L <;> rfl
theorem f_min2 {i j : Int} : bltin .min [.int i, .int j] L = .ok (.int (if j < i then j else i)) L := by cases L <;> rfl
theorem f_tuple_ref {n : Nat} : bltin .tuple [.ref n] L = Out.opt (L[n]?.bind HObj.itsO) fun xs => .ok (.tup xs) L := by
  show (match seqOf L n with | some xs => Out.ok (PV.tup xs) L | none => .stuck) = _
  rw [seqOf_eq]
  cases L[n]?.bind HObj.itsO <;> rfl
def Out.optU (o : Option (List PV)) (k : List PV → Out Unit) : Out Unit := match o with
  | some xs => k xs
  | none => .stuck
theorem optU_some {xs : List PV} {k : List PV → Out Unit} : Out.optU (some xs) k = k xs := True.casesOn (motive := fun _ => _) trivial rfl
theorem s_item {n : Nat} {k : Int} {v : PV} : setItem' (.ref n) (.int k) v L = Out.optU (L[n]?.bind fun o => o.mut.bind fun xs => (ixN xs.length k).map fun j => xs.set j v) fun ys => .ok () (L.set n (.lst ys)) := by
  show (match L[n]? with
    | some (.lst xs) => (match ixN xs.length k with
      | some j => Out.ok () (L.set n (.lst (xs.set j v)))
      | none => .stuck)
    | _ => .stuck) = _
  cases L[n]? with
  | none => rfl
  | some o =>
    cases o with
    | frl xs => rfl
    | ins _ _ _ => rfl
    | lst xs =>
      simp only [Option.bind_some, HObj.mut]
      cases ixN xs.length k <;> rfl
theorem gcO_def {v : PV} {L' : List HObj} : gcO L v L' = .ok (gc L v L').1 (gc L v L').2 := by cases L <;> rfl
theorem fin_ret {v : PV} {L' : List HObj} : fin false L (.ret v L') = .ok (gc L v L').1 (gc L v L').2 := by cases L <;> rfl
theorem fin_retZ {v : PV} {L' : List HObj} : fin true L (.ret v L') = .ok (fz L v L').1 (fz L v L').2 := by cases L <;> rfl
theorem fin_next {z : Bool} {ρ : Env'} {L' : List HObj} : fin z L (.next ρ L') = .ok .non (gc L .non L').2 := by cases L <;> rfl
theorem fin_exc0 {z : Bool} {c : String} {ρ : Env'} {L' : List HObj} : fin z L (.exc c none ρ L') = .exc c none (gc L .non L').2 := by cases L <;> rfl
theorem fin_exc1 {z : Bool} {c n : String} {x : PV} {ρ : Env'} {L' : List HObj} : fin z L (.exc c (some (n, x)) ρ L') = .exc c (some (n, (gc L x L').1)) (gc L x L').2 := by cases L <;> rfl
theorem its_lst {xs : List PV} : (HObj.lst xs).itsO = some xs := True.casesOn (motive := fun _ => _) trivial rfl
theorem mut_lst {xs : List PV} : (HObj.lst xs).mut = some xs := True.casesOn (motive := fun _ => _) trivial rfl
/-! ### frozen values, own classes -/
noncomputable def fzO (L : List HObj) (v : PV) (L' : List HObj) : Out PV := .ok (fz L v L').1 (fz L v L').2
theorem fzO_def {v : PV} {L' : List HObj} : fzO L v L' = .ok (fz L v L').1 (fz L v L').2 := by cases L <;> rfl
theorem v_frz {e : Ex} : ev T cl hx (.frz e) ρ L = (ev T cl hx e ρ L).seq (fzO L) := by
  show (match ev T cl hx e ρ L with
    | .ok v L' => Out.ok (fz L v L').1 (fz L v L').2
    | .exc c f L' => .exc c f L'
    | .stuck => .stuck) = _
  unfold Out.seq fzO
  cases ev T cl hx e ρ L <;> rfl
theorem v_fld {e : Ex} {f : String} : ev T cl hx (.fld e f) ρ L = (ev T cl hx e ρ L).seq fun x L1 => fieldOf T (Str.ofString f) x L1 := by
  show bnd _ _ _ = _
  simp only [bnd_fun]
  try rfl
theorem v_new {key c : String} {es : List Ex} : ev T cl hx (.new key c es) ρ L = (evs T cl hx es ρ L).seq fun xs L1 => newP cl key c xs L1 := by
  show bnd _ _ _ = _
  simp only [bnd_fun]
  try rfl
theorem v_mtc {key c m : String} {o : Ex} {es : List Ex} : ev T cl hx (.mtc key c m o es) ρ L = (ev T cl hx o ρ L).seq fun x L1 => if insOk L1 x (Str.ofString c) (Str.ofString m) = true then (evs T cl hx es ρ L1).seq fun xs L2 => cl key (x :: xs) L2 else .stuck := by
  show bnd _ _ _ = _
  simp only [bnd_fun]
  try rfl
theorem v_opm {key c m : String} {o : Ex} {es : List Ex} : ev T cl hx (.opm key c m o es) ρ L = (ev T cl hx o ρ L).seq fun x L1 => if insOk L1 x (Str.ofString c) (Str.ofString m) = true then (evs T cl hx es ρ L1).seq fun xs L2 => if opOk c m x xs L2 = true then cl key (x :: xs) L2 else .stuck else .stuck := by
  show bnd _ _ _ = _
  simp only [bnd_fun]
  try rfl
theorem v_callk {f k : String} {es : List Ex} {e : Ex} : ev T cl hx (.callk f k es e) ρ L = (evs T cl hx es ρ L).seq fun xs L1 => (ev T cl hx e ρ L1).seq fun y L2 => cl f (xs ++ [y]) L2 := by
  show bnd _ _ _ = _
  simp only [bnd_fun]
  try rfl
noncomputable def sfO (L : List HObj) (ρ : Env') (o : Out Unit) : SOut := match o with
  | .ok _ L3 => .next ρ (gc L .non L3).2
  | _ => .stuck
theorem sfO_ok {L3 : List HObj} : sfO L ρ (.ok () L3) = .next ρ (gc L .non L3).2 := by cases L <;> rfl
theorem x_sfld {o e : Ex} {f : String} {h : HX} : exec T cl (.sfld o f e) h ρ L = (ev T cl h e ρ L).sq ρ fun v L1 => (ev T cl h o ρ L1).sq ρ fun x L2 => sfO L ρ (setFld T x (Str.ofString f) v L2) := by
  show onOk _ _ _ _ = _
  rw [onOk_sq]
  congr 1
  funext v L1
  rw [onOk_sq]
  congr 1
theorem b_rep {xs : List PV} {k : Int} (h : k ≤ 1000 ∧ xs.length ≤ 1000 ∧ 0 ≤ k) : binop .mul (.tup xs) (.int k) L = .ok (.tup (List.replicate k.toNat xs).flatten) L := by
  simp only [binop, if_pos h]
theorem b_frl {xs ys : List PV} (h : xs.length + ys.length ≤ 16777216) : binop .add (.frl xs) (.frl ys) L = .ok (.ref L.length) (L ++ [.lst (xs ++ ys)]) := by
  simp only [binop, catP, if_pos h]
theorem p_frl {xs : List PV} {a b : Option Int} : sliceP (.frl xs) a b L = .ok (.ref L.length) (L ++ [.lst (cutP xs a b)]) := by cases L <;> rfl
/-! ### dicts of the module, ranges -/
theorem v_din {neg : Bool} {d : String} {e : Ex} : ev T cl hx (.din neg d e) ρ L = (ev T cl hx e ρ L).seq fun x L1 => (dinP T d neg x L1).seq fun b L2 => .ok (.bl b) L2 := by
  show bnd _ _ _ = _
  simp only [bnd_fun]
  try rfl
theorem v_dix {d : String} {e : Ex} : ev T cl hx (.dix d e) ρ L = (ev T cl hx e ρ L).seq fun x L1 => dixP T d x L1 := by
  show bnd _ _ _ = _
  simp only [bnd_fun]
  try rfl
theorem din_str {neg : Bool} {d : String} {kvs : List (Str × PV)} {z : Str} (h : T.dcts.lookup d = some kvs) : dinP T d neg (.str z) L = .ok ((kvs.lookup z).isSome != neg) L := by
  unfold dinP
  rw [h]
theorem dix_str {d : String} {kvs : List (Str × PV)} {z : Str} {v : PV} (h : T.dcts.lookup d = some kvs) (h2 : kvs.lookup z = some v) : dixP T d (.str z) L = .ok v L := by
  unfold dixP
  rw [h]
  simp only [h2]
theorem v_rgc {tup lit : Bool} {es : List Ex} : ev T cl hx (.rgc tup lit es) ρ L = ((evs T cl hx es ρ L).seq (rgP lit)).seq (rgcP tup) := by
  show bnd _ _ _ = _
  simp only [bnd_fun]
theorem v_rgv {es : List Ex} : ev T cl hx (.rgv es) ρ L = ((evs T cl hx es ρ L).seq (rgP true)).seq fun r L1 => .ok (.rng r.1 r.2) L1 := by
  show bnd _ _ _ = _
  simp only [bnd_fun]
  try rfl
theorem rgP_1 {j : Int} : rgP true [.int j] L = .ok (0, j) L := by cases L <;> rfl
theorem rgP_2 {i j : Int} : rgP true [.int i, .int j] L = .ok (i, j) L := by cases L <;> rfl
theorem rgP_v {i j : Int} : rgP false [.rng i j] L = .ok (i, j) L := by cases L <;> rfl
theorem rgc_t {n : Nat} (h : n ≤ 16777216) : rgcP true (0, (n : Int)) L = .ok (.tup (rangeP 0 n)) L := by
  show (if 0 ≤ (0 : Int) ∧ (0 : Int) ≤ 16777216 ∧ 0 ≤ (n : Int) ∧ (n : Int) ≤ 16777216 then Out.ok (PV.tup (rangeP 0 ((n : Int) - 0).toNat)) L else .stuck) = _
  rw [if_pos ⟨by omega, by omega, by omega, by omega⟩, show ((n : Int) - 0).toNat = n by omega]
theorem rgc_l {n : Nat} (h : n ≤ 16777216) : rgcP false (0, (n : Int)) L = .ok (.ref L.length) (L ++ [.lst (rangeP 0 n)]) := by
  show (if 0 ≤ (0 : Int) ∧ (0 : Int) ≤ 16777216 ∧ 0 ≤ (n : Int) ∧ (n : Int) ≤ 16777216 then Out.ok (PV.ref L.length) (L ++ [HObj.lst (rangeP 0 ((n : Int) - 0).toNat)]) else .stuck) = _
  rw [if_pos ⟨by omega, by omega, by omega, by omega⟩, show ((n : Int) - 0).toNat = n by omega]
theorem u_rng {n : Nat} {i j : Int} : (PV.rng i j).under n = true := by cases n <;> rfl
theorem m_popAt {n : Nat} {xs : List PV} {k : Nat} {y : PV} (h : L[n]? = some (.lst xs)) (hk : xs[k]? = some y) (hz : xs.length ≤ 16777216) : meth .pop (.ref n) [.int (k : Int)] L = .ok y (L.set n (.lst (xs.eraseIdx k))) := by
  have hl := (List.getElem?_eq_some_iff.mp hk).1
  show (match L[n]? with
    | some (.lst xs) => (match ixN xs.length (k : Int) with
      | some k' => (match xs[k']? with
        | some y => if -(2 ^ 63) ≤ (k : Int) ∧ (k : Int) < 2 ^ 63 then Out.ok y (L.set n (.lst (xs.eraseIdx k'))) else .stuck
        | none => .stuck)
      | none => .stuck)
    | _ => .stuck) = _
  rw [h]
  simp only [ixN_nat, if_pos hl, hk]
  exact if_pos ⟨by omega, by omega⟩
end
end MP

/-! SP 2: loops. -/
namespace MP
open PySem PySem.Spec PyProof.Rows L2
theorem walk_range1 {L0 L : List HObj} {j : Int} (h : 0 ≤ j) (h2 : j < 2 ^ 62) : walkOf L0 .range [.int j] L = some ⟨rangeP 0 j.toNat, none, (gc L0 .non L).2⟩ := by
  have : smallI j = true := decide_eq_true ⟨by omega, h2⟩
  simp only [walkOf, this, if_true]
theorem walk_range2 {L0 L : List HObj} {i j : Int} (h : smallI i = true) (h2 : smallI j = true) : walkOf L0 .range [.int i, .int j] L = some ⟨rangeP i (j - i).toNat, none, (gc L0 .non L).2⟩ := by
  simp only [walkOf, h, h2, Bool.and_self, if_true]
theorem walk_tup {L0 L : List HObj} {xs : List PV} : walkOf L0 .val [.tup xs] L = some ⟨xs, none, (gc L0 (.tup xs) L).2⟩ := rfl
theorem walk_frl {L0 L : List HObj} {xs : List PV} : walkOf L0 .val [.frl xs] L = some ⟨xs, none, (gc L0 (.frl xs) L).2⟩ := rfl
theorem walk_str {L0 L : List HObj} {z : Str} : walkOf L0 .val [.str z] L = some ⟨z.cps.toList.map fun c => .str ⟨#[c]⟩, none, (gc L0 .non L).2⟩ := rfl
theorem walk_rng {L0 L : List HObj} {lo hi : Int} (h : smallI lo = true) (h2 : smallI hi = true) : walkOf L0 .val [.rng lo hi] L = some ⟨rangeP lo (hi - lo).toNat, none, (gc L0 (.rng lo hi) L).2⟩ := by
  show (if (smallI lo && smallI hi) = true then _ else _) = _
  rw [h, h2]
  rfl
/-- a list just made -/
theorem walk_new {L : List HObj} {xs : List PV} (h : unders L.length xs = true) : walkOf L .val [.ref L.length] (L ++ [.lst xs]) = some ⟨xs, none, L⟩ := by
  show walkVal L (.ref L.length) (L ++ [.lst xs]) = _
  have e : (L ++ [HObj.lst xs])[L.length]? = some (.lst xs) := by simp
  simp only [walkVal, gc_new, e, List.take_left' rfl]
  exact if_pos ⟨rfl, by rw [gc_new]; exact okOld_app, h⟩
/-- a list that stood -/
theorem walk_old {L : List HObj} {n : Nat} {xs : List PV} (h : L[n]? = some (.lst xs)) : walkOf L .val [.ref n] L = some ⟨xs, some (n, xs), L⟩ := by
  have hl : n < L.length := (List.getElem?_eq_some_iff.mp h).1
  show walkVal L (.ref n) L = _
  have e : gc L (.ref n) L = (.ref n, L) := gc_id (v := .ref n) (by rw [u_ref]; exact decide_eq_true hl)
  simp only [walkVal, e, h]
  exact if_neg fun z => by omega
theorem rangeP_len {lo : Int} {n : Nat} : (rangeP lo n).length = n := by unfold rangeP; simp
theorem rangeP_get {lo : Int} {n i : Nat} {x : PV} (h : (rangeP lo n)[i]? = some x) : x = .int (lo + i) ∧ i < n := by
  unfold rangeP at h
  rw [List.getElem?_map] at h
  obtain ⟨j, hj, ej⟩ := Option.map_eq_some_iff.mp h
  obtain ⟨hl, hj2⟩ := List.getElem?_eq_some_iff.mp hj
  rw [List.getElem_range] at hj2
  subst hj2
  rw [List.length_range] at hl
  exact ⟨ej.symm, hl⟩
def SOut.leaves : SOut → Prop
  | .ret _ _ => True
  | .exc _ _ _ _ => True
  | _ => False
section
variable {g : Option (Nat × List PV)} {tg : Tg} {body : Env' → List HObj → SOut}
/-- a for loop, by an invariant: R of its end -/
theorem for_all (I : Nat → Env' → List HObj → Prop) (R : SOut → Prop) : ∀ (items : List PV) (i0 : Nat) (ρ : Env') (L : List HObj), (∀ i ρ L, I i ρ L → guardOk g L) →
    (∀ i x ρ L, items[i]? = some x → I (i0 + i) ρ L → ∃ ρ1, bindT tg x ρ = some ρ1 ∧ ((∃ ρ2 L2, (body ρ1 L = .next ρ2 L2 ∨ body ρ1 L = .cnt ρ2 L2) ∧ I (i0 + i + 1) ρ2 L2) ∨ ((body ρ1 L).leaves ∧ R (body ρ1 L)) ∨ ∃ ρ2 L2, body ρ1 L = .brk ρ2 L2 ∧ R (.next ρ2 L2))) →
    (∀ ρ L, I (i0 + items.length) ρ L → R (.next ρ L)) → I i0 ρ L → R (forLoop g tg body items ρ L)
  | [], i0, ρ, L, hg, step, fin, h => by
    unfold forLoop
    rw [if_pos (hg _ _ _ h)]
    exact fin ρ L h
  | x :: xs, i0, ρ, L, hg, step, fin, h => by
    unfold forLoop
    rw [if_pos (hg _ _ _ h)]
    obtain ⟨ρ1, hb, q⟩ := step 0 x ρ L rfl h
    rw [hb]
    simp only
    have rec1 : ∀ {ρ2 : Env'} {L2 : List HObj}, I (i0 + 0 + 1) ρ2 L2 → R (forLoop g tg body xs ρ2 L2) := fun {ρ2 L2} h2 =>
      for_all I R xs (i0 + 1) ρ2 L2 hg (fun i y ρ L hy hI => by
        have := step (i + 1) y ρ L (by simpa using hy) (by rw [show i0 + (i + 1) = i0 + 1 + i by omega]; exact hI)
        rw [show i0 + (i + 1) + 1 = i0 + 1 + i + 1 by omega] at this
        exact this) (fun ρ L hI => fin ρ L (by rw [List.length_cons, show i0 + (xs.length + 1) = i0 + 1 + xs.length by omega]; exact hI)) h2
    rcases q with ⟨ρ2, L2, e | e, h2⟩ | ⟨hl, hr⟩ | ⟨ρ2, L2, e, hr⟩
    · rw [e]; exact rec1 h2
    · rw [e]; exact rec1 h2
    · cases hbody : body ρ1 L with
      | ret v L' => rw [hbody] at hr; exact hr
      | exc c f ρ' L' => rw [hbody] at hr; exact hr
      | next _ _ => rw [hbody] at hl; exact hl.elim
      | brk _ _ => rw [hbody] at hl; exact hl.elim
      | cnt _ _ => rw [hbody] at hl; exact hl.elim
      | stuck => rw [hbody] at hl; exact hl.elim
    · rw [e]; exact hr
end
/-! ### while -/
theorem whlN_mono {cond : Env' → M Bool} {body : Env' → List HObj → SOut} : ∀ {n m : Nat} {ρ : Env'} {L : List HObj}, n ≤ m → whlN cond body n ρ L ≠ .stuck → whlN cond body m ρ L = whlN cond body n ρ L
  | 0, _, _, _, _, h => absurd rfl h
  | n + 1, 0, _, _, h, _ => by omega
  | n + 1, m + 1, ρ, L, hm, h => by
    unfold whlN at h ⊢
    cases hc : cond ρ L with
    | ok b L1 =>
      rw [hc] at h
      cases b with
      | true =>
        simp only at h ⊢
        cases hb : body ρ L1 with
        | next ρ2 L2 => rw [hb] at h; exact whlN_mono (by omega) h
        | cnt ρ2 L2 => rw [hb] at h; exact whlN_mono (by omega) h
        | _ => rfl
      | false => rfl
    | _ => rfl
theorem whl_of {cond : Env' → M Bool} {body : Env' → List HObj → SOut} {n : Nat} {ρ : Env'} {L : List HObj} (h : whlN cond body n ρ L ≠ .stuck) : whl cond body ρ L = whlN cond body n ρ L := by
  have hex : ∃ n, whlN cond body n ρ L ≠ .stuck := ⟨n, h⟩
  unfold whl
  rw [dif_pos hex]
  have h2 := Classical.choose_spec hex
  rcases Nat.le_total n (Classical.choose hex) with q | q
  · exact whlN_mono q h
  · exact (whlN_mono q h2).symm
/-- a while loop, by an invariant with a measure -/
theorem whl_all {cond : Env' → M Bool} {body : Env' → List HObj → SOut} (I : Nat → Env' → List HObj → Prop) (R : SOut → Prop) (hR : ¬ R .stuck)
    (step : ∀ m ρ L, I m ρ L → ∃ b L1, cond ρ L = .ok b L1 ∧ if b = true then ((∃ ρ2 L2 m', (body ρ L1 = .next ρ2 L2 ∨ body ρ L1 = .cnt ρ2 L2) ∧ m' < m ∧ I m' ρ2 L2) ∨ ((body ρ L1).leaves ∧ R (body ρ L1)) ∨ ∃ ρ2 L2, body ρ L1 = .brk ρ2 L2 ∧ R (.next ρ2 L2)) else R (.next ρ L1))
    {m : Nat} {ρ : Env'} {L : List HObj} (h : I m ρ L) : R (whl cond body ρ L) := by
  have key : ∀ (m : Nat) (ρ : Env') (L : List HObj), I m ρ L → R (whlN cond body (m + 1) ρ L) := by
    intro m
    induction m using Nat.strongRecOn with
    | _ m ih =>
      intro ρ L h
      obtain ⟨b, L1, hc, q⟩ := step m ρ L h
      unfold whlN
      rw [hc]
      cases b with
      | false => exact q
      | true =>
        simp only [if_true] at q ⊢
        have rec1 : ∀ {ρ2 : Env'} {L2 : List HObj} {m' : Nat}, m' < m → I m' ρ2 L2 → R (whlN cond body m ρ2 L2) := fun {ρ2 L2 m'} hm hI => by
          have r := ih m' hm ρ2 L2 hI
          rw [whlN_mono (n := m' + 1) (m := m) (by omega) (fun z => hR (by rw [z] at r; exact r))]
          exact r
        rcases q with ⟨ρ2, L2, m', e | e, hm, h2⟩ | ⟨hl, hr⟩ | ⟨ρ2, L2, e, hr⟩
        · rw [e]; exact rec1 hm h2
        · rw [e]; exact rec1 hm h2
        · cases hbody : body ρ L1 with
          | ret v L' => rw [hbody] at hr; exact hr
          | exc c f ρ' L' => rw [hbody] at hr; exact hr
          | next _ _ => rw [hbody] at hl; exact hl.elim
          | brk _ _ => rw [hbody] at hl; exact hl.elim
          | cnt _ _ => rw [hbody] at hl; exact hl.elim
          | stuck => rw [hbody] at hl; exact hl.elim
        · rw [e]; exact hr
  have r := key m ρ L h
  rw [whl_of (n := m + 1) (fun z => hR (by rw [z] at r; exact r))]
  exact r
theorem rangeP_zero {lo : Int} : rangeP lo 0 = [] := rfl
theorem rangeP_succ {lo : Int} {n : Nat} : rangeP lo (n + 1) = .int lo :: rangeP (lo + 1) n := by
  unfold rangeP
  rw [List.range_succ_eq_map, List.map_cons, List.map_map]
  congr 1
  · simp
  · congr 1
    funext k
    show PV.int _ = PV.int _
    congr 1
    simp only [Nat.succ_eq_add_one]
    omega
theorem for_nil {tg : Tg} {body : Env' → List HObj → SOut} {ρ : Env'} {L : List HObj} : forLoop none tg body [] ρ L = .next ρ L := by
  unfold forLoop
  exact if_pos trivial
theorem for_next {tg : Tg} {body : Env' → List HObj → SOut} {ρ ρ1 ρ2 : Env'} {L L2 : List HObj} {x : PV} {xs : List PV} (h1 : bindT tg x ρ = some ρ1) (h2 : body ρ1 L = .next ρ2 L2) : forLoop none tg body (x :: xs) ρ L = forLoop none tg body xs ρ2 L2 := by
  rw [forLoop, if_pos (show guardOk none L from trivial), h1]
  simp only [h2]
theorem for_exc {tg : Tg} {body : Env' → List HObj → SOut} {ρ ρ1 ρ2 : Env'} {L L2 : List HObj} {x : PV} {xs : List PV} {c : String} {f : Option (String × PV)} (h1 : bindT tg x ρ = some ρ1) (h2 : body ρ1 L = .exc c f ρ2 L2) : forLoop none tg body (x :: xs) ρ L = .exc c f ρ2 L2 := by
  rw [forLoop, if_pos (show guardOk none L from trivial), h1]
  simp only [h2]
theorem for_ret {tg : Tg} {body : Env' → List HObj → SOut} {ρ ρ1 : Env'} {L L2 : List HObj} {x v : PV} {xs : List PV} (h1 : bindT tg x ρ = some ρ1) (h2 : body ρ1 L = .ret v L2) : forLoop none tg body (x :: xs) ρ L = .ret v L2 := by
  rw [forLoop, if_pos (show guardOk none L from trivial), h1]
  simp only [h2]
/-! ### comprehensions -/
theorem lc_map {α : Type} {tg : Tg} {cond : Env' → M Bool} {elt : Env' → M PV} {ρ : Env'} {L : List HObj} (f g : α → PV) : ∀ (as : List α) (acc : List PV), (∀ a ∈ as, ∃ ρ1, bindT tg (f a) ρ = some ρ1 ∧ cond ρ1 L = .ok true L ∧ elt ρ1 L = .ok (g a) L ∧ (g a).under L.length = true) → lcLoop none tg cond elt ρ (as.map f) acc L = .ok (acc ++ as.map g) L
  | [], acc, _ => by
    rw [List.map_nil, List.map_nil, List.append_nil]
    unfold lcLoop
    exact if_pos trivial
  | a :: as, acc, h => by
    obtain ⟨ρ1, h1, h2, h3, h4⟩ := h a (List.mem_cons_self ..)
    rw [List.map_cons, lcLoop]
    simp only
    rw [if_pos (show guardOk none L from trivial), h1]
    simp only [h2, h3]
    rw [gc_id h4]
    rw [lc_map f g as _ (fun b hb => h b (List.mem_cons_of_mem _ hb)), List.append_assoc]
    rfl
theorem lc_all {g : Option (Nat × List PV)} {tg : Tg} {cond : Env' → M Bool} {elt : Env' → M PV} {ρ : Env'} (I : Nat → List PV → List HObj → Prop) : ∀ (items : List PV) (i0 : Nat) (acc : List PV) (L : List HObj), (∀ i acc L, I i acc L → guardOk g L) →
    (∀ i x acc L, items[i]? = some x → I (i0 + i) acc L → ∃ ρ1 v L2, bindT tg x ρ = some ρ1 ∧ cond ρ1 L = .ok true L ∧ elt ρ1 L = .ok v L2 ∧ I (i0 + i + 1) (acc ++ [(gc L v L2).1]) (gc L v L2).2) →
    I i0 acc L → ∃ acc' L', lcLoop g tg cond elt ρ items acc L = .ok acc' L' ∧ I (i0 + items.length) acc' L'
  | [], i0, acc, L, hg, _, h => by
    refine ⟨acc, L, ?_, h⟩
    unfold lcLoop
    exact if_pos (hg _ _ _ h)
  | x :: xs, i0, acc, L, hg, step, h => by
    obtain ⟨ρ1, v, L2, h1, h2, h3, h4⟩ := step 0 x acc L rfl h
    rw [lcLoop]
    simp only
    rw [if_pos (hg _ _ _ h), h1]
    simp only [h2, h3]
    have := lc_all (g := g) (tg := tg) (cond := cond) (elt := elt) (ρ := ρ) I xs (i0 + 1) _ _ hg (fun i y acc L hy hI => by
      have := step (i + 1) y acc L (by simpa using hy) (by rw [show i0 + (i + 1) = i0 + 1 + i by omega]; exact hI)
      rw [show i0 + (i + 1) + 1 = i0 + 1 + i + 1 by omega] at this
      exact this) h4
    rw [show i0 + 1 + xs.length = i0 + (x :: xs).length by rw [List.length_cons]; omega] at this
    exact this
end MP

/-! SP 3: texts as lists of codes. -/
namespace MP
open PySem PySem.Spec PyProof.Rows L2
def SS (l : List Nat) : Str := ⟨l.toArray⟩
theorem SS_len {l : List Nat} : (SS l).length = l.length := by
  show l.toArray.size = _
  simp
theorem SS_list {l : List Nat} : (SS l).cps.toList = l := by
  show l.toArray.toList = l
  simp
theorem SS_of (s : Str) : s = SS s.cps.toList := by
  cases s
  simp [SS]
theorem SS_inj {a b : List Nat} (h : SS a = SS b) : a = b := by
  have := congrArg (fun s : Str => s.cps.toList) h
  rwa [SS_list, SS_list] at this
theorem SS_app {a b : List Nat} : SS a ++ SS b = SS (a ++ b) := by
  show (⟨a.toArray ++ b.toArray⟩ : Str) = ⟨(a ++ b).toArray⟩
  simp
theorem SS_beq {a b : List Nat} : (SS a == SS b) = decide (a = b) := by
  by_cases h : a = b
  · subst h; simp
  · have : SS a ≠ SS b := fun e => h (SS_inj e)
    simp [h, this]
section
variable {L : List HObj}
theorem c_in1 {c : Nat} {l : List Nat} : cmpop .isin (.str (SS [c])) (.str (SS l)) L = .ok (decide (c ∈ l)) L := by
  show (Out.ok (!(Builtin.Str.occurrences (SS l) (SS [c]) 0 (SS l).length 1).isEmpty) L : Out Bool) = _
  rw [show SS [c] = (⟨#[c]⟩ : Str) from rfl, StrLaws.found_one, SS_list]
theorem c_notin1 {c : Nat} {l : List Nat} : cmpop .notin (.str (SS [c])) (.str (SS l)) L = .ok (!decide (c ∈ l)) L := by
  show notM (cmpop .isin (.str (SS [c])) (.str (SS l))) L = _
  unfold notM
  rw [c_in1]
theorem c_eqS {a b : List Nat} : cmpop .eq (.str (SS a)) (.str (SS b)) L = .ok (decide (a = b)) L := by
  rw [c_eqs, SS_beq]
theorem c_neS {a b : List Nat} : cmpop .ne (.str (SS a)) (.str (SS b)) L = .ok (!decide (a = b)) L := by
  rw [c_nes, SS_beq]
theorem b_catS {a b : List Nat} (h : a.length + b.length ≤ 16777216) : binop .add (.str (SS a)) (.str (SS b)) L = .ok (.str (SS (a ++ b))) L := by
  rw [b_cat (by rw [SS_len, SS_len]; exact h), SS_app]
theorem i_strS {l : List Nat} {i : Int} (h : l.length ≤ 16777216) : item (.str (SS l)) (.int i) L = Out.opt (atI l i) fun c => .ok (.str (SS [c])) L := by
  rw [i_str (by rw [SS_len]; exact h), SS_list]
  rfl
theorem f_lenS {l : List Nat} (h : l.length ≤ 16777216) : bltin .len [.str (SS l)] L = .ok (.int l.length) L := by
  rw [f_len_str (by rw [SS_len]; exact h), SS_len]
end
theorem join_SS {sep : List Nat} {ls : List (List Nat)} : Txt.join (SS sep) (ls.map SS) = SS (TL.joinL sep ls) := by
  have h : (Txt.join (SS sep) (ls.map SS)).cps.toList = TL.joinL sep ls := by
    rw [TL.join_eq]
    have := TL.tl_join (SS sep) (ls.map SS)
    rw [show TL.tl (Str.join (SS sep) (ls.map SS)) = (Str.join (SS sep) (ls.map SS)).cps.toList from rfl] at this
    rw [this, List.map_map]
    have e : (TL.tl ∘ SS) = id := by funext l; exact SS_list
    rw [e, List.map_id]
    show TL.joinL (SS sep).cps.toList ls = _
    rw [SS_list]
  rw [SS_of (Txt.join (SS sep) (ls.map SS)), h]
abbrev strsOf (ls : List (List Nat)) : List PV := ls.map fun l => .str (SS l)
theorem asStrs_SS : ∀ {ls : List (List Nat)}, asStrs (strsOf ls) = some (ls.map SS)
  | [] => rfl
  | l :: ls => by
    show (asStrs (strsOf ls)).map (SS l :: ·) = _
    rw [asStrs_SS]
    rfl
theorem m_join {sep : List Nat} {n : Nat} {ls : List (List Nat)} {L : List HObj} (h : L[n]? = some (.lst (strsOf ls))) (hz : (ls.map List.length).sum + ls.length * sep.length ≤ 16777216) : meth .join (.str (SS sep)) [.ref n] L = .ok (.str (SS (TL.joinL sep ls))) L := by
  have e : (itemsOf L (.ref n)).bind asStrs = some (ls.map SS) := by
    show (seqOf L n).bind asStrs = _
    unfold seqOf
    rw [h]
    exact asStrs_SS
  show (match (itemsOf L (.ref n)).bind asStrs with
    | some (xs : List Str) => if (xs.map fun (x : Str) => x.length).sum + xs.length * (SS sep).length ≤ 16777216 then Out.ok (PV.str (Txt.join (SS sep) xs)) L else .stuck
    | none => .stuck) = _
  rw [e]
  simp only
  have e2 : ((ls.map SS).map fun (x : Str) => x.length) = ls.map List.length := by
    rw [List.map_map]
    congr 1
  rw [e2, List.length_map, SS_len, if_pos hz, join_SS]
theorem r_join {z : Str} {L : List HObj} : recvOk .join (.str z) L = true := by cases L <;> rfl
theorem r_append {n : Nat} {L : List HObj} {xs : List PV} (h : L[n]? = some (.lst xs)) : recvOk .append (.ref n) L = true := by
  show (seqOf L n).isSome = true
  unfold seqOf
  rw [h]
  rfl
theorem m_append {n : Nat} {y : PV} {L : List HObj} {xs : List PV} (h : L[n]? = some (.lst xs)) (hz : xs.length < 16777216) : meth .append (.ref n) [y] L = .ok .non (L.set n (.lst (xs ++ [y]))) := by
  show (match L[n]? with
    | some (.lst xs) => if xs.length < 16777216 then Out.ok PV.non (L.set n (.lst (xs ++ [y]))) else .stuck
    | _ => .stuck) = _
  rw [h]
  exact if_pos hz
/-- l[i:j], 0 ≤ i ≤ j -/
theorem cut_nat {l : List Nat} {i j : Nat} (h : i ≤ j) : cutS (SS l) (some (i : Int)) (some (j : Int)) = SS ((l.drop i).take (j - i)) := by
  unfold cutS
  rw [SS_len, SS_list, HT.sIx_nat, HT.sIx_nat]
  show SS _ = SS _
  congr 1
  by_cases hi : i ≤ l.length
  · rw [Nat.min_eq_left hi]
    by_cases hj : j ≤ l.length
    · rw [Nat.min_eq_left hj]
    · rw [Nat.min_eq_right (by omega), List.take_of_length_le (by simp), List.take_of_length_le (by simp; omega)]
  · rw [Nat.min_eq_right (by omega), Nat.min_eq_right (by omega), List.drop_eq_nil_of_le (by omega : l.length ≤ i)]
    simp
theorem cut_to {l : List Nat} {j : Nat} : cutS (SS l) none (some (j : Int)) = SS (l.take j) := by
  unfold cutS
  rw [SS_len, SS_list, HT.sIx_none, HT.sIx_nat]
  show SS _ = SS _
  congr 1
  rw [List.drop_zero, Nat.sub_zero]
  by_cases hj : j ≤ l.length
  · rw [Nat.min_eq_left hj]
  · rw [Nat.min_eq_right (by omega), List.take_of_length_le (Nat.le_refl _), List.take_of_length_le (by omega)]
theorem cut_from {l : List Nat} {i : Nat} : cutS (SS l) (some (i : Int)) none = SS (l.drop i) := by
  unfold cutS
  rw [SS_len, SS_list, HT.sIx_none, HT.sIx_nat]
  show SS _ = SS _
  congr 1
  by_cases hi : i ≤ l.length
  · rw [Nat.min_eq_left hi, List.take_of_length_le (by simp)]
  · rw [Nat.min_eq_right (by omega), List.drop_eq_nil_of_le (by omega : l.length ≤ i)]
    simp
theorem p_strS {l : List Nat} {a b : Option Int} {L : List HObj} (h : l.length ≤ 16777216) : sliceP (.str (SS l)) a b L = .ok (.str (cutS (SS l) a b)) L := by
  show (if (SS l).length ≤ 16777216 then Out.ok (PV.str (cutS (SS l) a b)) L else .stuck) = _
  rw [SS_len, if_pos h]
theorem p_tup {xs : List PV} {a b : Option Int} {L : List HObj} : sliceP (.tup xs) a b L = .ok (.tup (cutP xs a b)) L := by cases L <;> rfl
theorem walk_SS {L0 L : List HObj} {l : List Nat} : walkOf L0 .val [.str (SS l)] L = some ⟨l.map fun c => .str (SS [c]), none, (gc L0 .non L).2⟩ := by
  rw [walk_str, SS_list]
  rfl
theorem asBlsF {α : Type} (f : α → Bool) : ∀ {as : List α}, asBls (as.map fun a => .bl (f a)) = some (as.map f)
  | [] => rfl
  | a :: as => by
    show (asBls (as.map fun a => .bl (f a))).map (f a :: ·) = _
    rw [asBlsF f]
    rfl
theorem f_all {α : Type} {f : α → Bool} {as : List α} {n : Nat} {L : List HObj} (h : L[n]? = some (.lst (as.map fun a => .bl (f a)))) : bltin .all [.ref n] L = .ok (.bl (as.all f)) L := by
  have e : (seqOf L n).bind asBls = some (as.map f) := by
    unfold seqOf
    rw [h]
    exact asBlsF f
  have e2 : bltin .all [.ref n] L = match (seqOf L n).bind asBls with
    | some (xs : List Bool) => Out.ok (PV.bl (xs.all id)) L
    | _ => .stuck := rfl
  rw [e2, e]
  simp only [List.all_map]
  rfl
end MP

/-! SP 4: more of lists. -/
namespace MP
open PySem PySem.Spec PyProof.Rows L2
def PV.toI : PV → Option Int
  | .int i => some i
  | _ => none
theorem toI_int {i : Int} : (PV.int i).toI = some i := True.casesOn (motive := fun _ => _) trivial rfl
theorem x_aug2 {T : Tab} {cl : String → List PV → M PV} {ρ : Env'} {L : List HObj} {i : Nat} {o : Bop} {e : Ex} {h : HX} : exec T cl (.aug i o e) h ρ L = SOut.opt ((ρ[i]?.bind id).bind PV.toI) fun x => (((ev T cl h e ρ L).seq (augO o x)).seq (gcO L)).sq ρ fun v L' => .next (ρ.set i (some v)) L' := by
  cases hi : ρ[i]? with
  | none =>
    show (match ρ[i]? with
    | some (some (.int x)) => onOk (gcM (bnd (ev T cl h e ρ) fun y => augop o x y)) ρ (fun v L' => .next (ρ.set i (some v)) L') L
    | _ => SOut.stuck) = _
    rw [hi]; rfl
  | some w =>
    cases w with
    | none =>
      show (match ρ[i]? with
      | some (some (.int x)) => onOk (gcM (bnd (ev T cl h e ρ) fun y => augop o x y)) ρ (fun v L' => .next (ρ.set i (some v)) L') L
      | _ => SOut.stuck) = _
      rw [hi]; rfl
    | some w =>
      cases w with
      | int x => rw [x_aug hi]; rfl
      | _ =>
        show (match ρ[i]? with
        | some (some (.int x)) => onOk (gcM (bnd (ev T cl h e ρ) fun y => augop o x y)) ρ (fun v L' => .next (ρ.set i (some v)) L') L
        | _ => SOut.stuck) = _
        rw [hi]; rfl
/-- something old names something new: all is kept -/
theorem gc_bad {L0 L' : List HObj} {v : PV} {n : Nat} {o : HObj} (hn : n < L0.length) (h : L'[n]? = some o) (hd : L0[n]? ≠ some o) (hu : o.under L0.length = false) : gc L0 v L' = (v, L') := by
  unfold gc
  rw [if_neg]
  intro ok
  rcases ok.2 n hn with e | ⟨o', e, b⟩
  · rw [h] at e; exact hd e.symm
  · rw [h] at e; cases e; rw [hu] at b; cases b
theorem c_in_ref {x : PV} {n : Nat} {ys : List PV} {L : List HObj} (h : L[n]? = some (.lst ys)) (hf : (x.flat && ys.all PV.flat) = true) : cmpop .isin x (.ref n) L = .ok (ys.any fun z => feq z x) L := by
  have e : seqOf L n = some ys := by unfold seqOf; rw [h]
  show (match seqOf L n with
    | some ys => if (x.flat && ys.all PV.flat) = true then Out.ok (ys.any fun z => feq z x) L else .stuck
    | none => .stuck) = _
  rw [e]
  exact if_pos hf
theorem c_notin_ref {x : PV} {n : Nat} {ys : List PV} {L : List HObj} (h : L[n]? = some (.lst ys)) (hf : (x.flat && ys.all PV.flat) = true) : cmpop .notin x (.ref n) L = .ok (!(ys.any fun z => feq z x)) L := by
  show MP.notM (cmpop .isin x (.ref n)) L = _
  unfold MP.notM
  rw [c_in_ref h hf]
theorem atI_last {α : Type} {xs : List α} {x : α} : atI (xs ++ [x]) (-1) = some x := by
  unfold atI ixN
  simp only [List.length_append, List.length_singleton]
  rw [if_neg (by decide), if_pos (by omega), show ((-1 : Int) + ((xs.length + 1 : Nat) : Int)).toNat = xs.length by omega]
  simp
theorem r_pop {n : Nat} {L : List HObj} {xs : List PV} (h : L[n]? = some (.lst xs)) : recvOk .pop (.ref n) L = true := by
  show (seqOf L n).isSome = true
  unfold seqOf
  rw [h]
  rfl
theorem m_pop {n : Nat} {y : PV} {L : List HObj} {xs : List PV} (h : L[n]? = some (.lst (xs ++ [y]))) : meth .pop (.ref n) [] L = .ok y (L.set n (.lst xs)) := by
  show (match L[n]? with
    | some (.lst xs) => (match xs.getLast? with
      | some y => Out.ok y (L.set n (.lst xs.dropLast))
      | none => .stuck)
    | _ => .stuck) = _
  rw [h]
  simp only [List.getLast?_append, List.getLast?_singleton, Option.some_or, List.dropLast_concat]
theorem gnew {L : List HObj} {xs : List PV} : gc L (.ref L.length) (L ++ [.lst xs]) = (.ref L.length, L ++ [.lst xs]) := gc_new
theorem getLen {L : List HObj} {k : Nat} {o x : HObj} : (L.set k o ++ [x])[L.length]? = some x := by
  rw [List.getElem?_append_right (by simp)]
  simp
theorem set_app {L : List HObj} {k : Nat} {o x : HObj} (h : k < L.length) : (L ++ [x]).set k o = L.set k o ++ [x] := by
  rw [List.set_append, if_pos h]
theorem c_eqL {n : Nat} {a b : List Int} : peqs (peq n) (a.map .int) (b.map .int) = some (decide (a = b)) := by
  induction a generalizing b with
  | nil => cases b <;> rfl
  | cons x a ih =>
    cases b with
    | nil => rfl
    | cons y b =>
      rw [List.map_cons, List.map_cons, peqs, ih]
      have e : peq n (.int x) (.int y) = some (x == y) := by cases n <;> rfl
      rw [e]
      show some _ = some _
      congr 1
      by_cases h : x = y
      · subst h; simp
      · simp [h]
theorem c_eqT {a b : List Int} {L : List HObj} : cmpop .eq (.tup (a.map .int)) (.tup (b.map .int)) L = .ok (decide (a = b)) L := by
  show (match peq 100 (.tup (a.map .int)) (.tup (b.map .int)) with
    | some b => Out.ok b L
    | none => .stuck) = _
  rw [peq, c_eqL]
theorem c_neT {a b : List Int} {L : List HObj} : cmpop .ne (.tup (a.map .int)) (.tup (b.map .int)) L = .ok (!decide (a = b)) L := by
  show notM (cmpop .eq (.tup (a.map .int)) (.tup (b.map .int))) L = _
  unfold notM
  rw [c_eqT]
theorem is_bl {x : PV} {L : List HObj} (h : x.under 0 = true) : isTy .bool x L = .ok (.bl (match x with | .bl _ => true | _ => false)) L ∨ isTy .bool x L = .stuck := by
  cases x <;> first | exact .inl rfl | exact .inr rfl | (cases h)
theorem is_int {i : Int} {t : ITy} {L : List HObj} : isTy t (.int i) L = .ok (.bl (t == .int)) L := by cases L <;> rfl
theorem is_tup {xs : List PV} {t : ITy} {L : List HObj} : isTy t (.tup xs) L = .ok (.bl (t == .tuple)) L := by cases L <;> rfl
theorem is_str {x : Str} {t : ITy} {L : List HObj} : isTy t (.str x) L = .ok (.bl (t == .str)) L := by cases L <;> rfl
theorem f_any {α : Type} {f : α → Bool} {as : List α} {L : List HObj} : bltin .any [.frl (as.map fun a => .bl (f a))] L = .ok (.bl (as.any f)) L := by
  show (match (some (as.map fun a => PV.bl (f a))).bind asBls with
    | some (xs : List Bool) => Out.ok (PV.bl (xs.any id)) L
    | _ => .stuck) = _
  rw [Option.bind_some, asBlsF f]
  simp only [List.any_map]
  rfl
theorem f_allF {α : Type} {f : α → Bool} {as : List α} {L : List HObj} : bltin .all [.frl (as.map fun a => .bl (f a))] L = .ok (.bl (as.all f)) L := by
  show (match (some (as.map fun a => PV.bl (f a))).bind asBls with
    | some (xs : List Bool) => Out.ok (PV.bl (xs.all id)) L
    | _ => .stuck) = _
  rw [Option.bind_some, asBlsF f]
  simp only [List.all_map]
  rfl
/-! ### ranges downward -/
theorem walk_down {L0 L : List HObj} {j : Int} (h : 0 ≤ j) (h2 : j < 2 ^ 62) : walkOf L0 .range [.int (j - 1), .int (-1), .int (-1)] L = some ⟨rangeD (j - 1) j.toNat, none, (gc L0 .non L).2⟩ := by
  have h1 : smallI (j - 1) = true := decide_eq_true ⟨by omega, by omega⟩
  have h3 : smallI (-1) = true := by decide
  simp only [walkOf, h1, h3, Bool.and_self, decide_true, if_true]
  rw [show (j - 1 - -1).toNat = j.toNat by omega]
theorem rangeD_len {lo : Int} {n : Nat} : (rangeD lo n).length = n := by unfold rangeD; simp
theorem rangeD_get {lo : Int} {n i : Nat} {x : PV} (h : (rangeD lo n)[i]? = some x) : x = .int (lo - i) ∧ i < n := by
  unfold rangeD at h
  rw [List.getElem?_map] at h
  obtain ⟨j, hj, ej⟩ := Option.map_eq_some_iff.mp h
  obtain ⟨hl, hj2⟩ := List.getElem?_eq_some_iff.mp hj
  rw [List.getElem_range] at hj2
  subst hj2
  rw [List.length_range] at hl
  exact ⟨by rw [← ej]; congr 1; omega, hl⟩
theorem rangeP_map {lo : Int} {n : Nat} : rangeP lo n = (List.range n).map fun (k : Nat) => PV.int (lo + (k : Int)) := rfl
theorem m_reverse {n : Nat} {L : List HObj} {xs : List PV} (h : L[n]? = some (.lst xs)) : meth .reverse (.ref n) [] L = .ok .non (L.set n (.lst xs.reverse)) := by
  show (match L[n]? with
    | some (.lst xs) => Out.ok PV.non (L.set n (.lst xs.reverse))
    | _ => .stuck) = _
  rw [h]
theorem r_list {m : Mth} {n : Nat} {L : List HObj} {xs : List PV} (h : L[n]? = some (.lst xs)) (hm : m ≠ .join) : recvOk m (.ref n) L = true := by
  cases m <;> first | exact absurd rfl hm | (show (seqOf L n).isSome = true; unfold seqOf; rw [h]; rfl)
end MP

/-! SP 5: lists of small numbers, comprehensions with a test. -/
namespace MP
open PySem PySem.Spec PyProof.Rows L2
def dig (k : Nat) : Nat → Nat → List Nat
  | 0, _ => []
  | n + 1, i => dig k n (i / k) ++ [i % k]
def idx (k : Nat) (c : List Nat) : Nat := c.foldl (fun a d => a * k + d) 0
theorem idx_snoc {k : Nat} {c : List Nat} {d : Nat} : idx k (c ++ [d]) = idx k c * k + d := by unfold idx; rw [List.foldl_append]; rfl
theorem dig_len {k : Nat} : ∀ {n i : Nat}, (dig k n i).length = n
  | 0, _ => rfl
  | n + 1, i => by rw [dig, List.length_append, dig_len]; rfl
theorem dig_lt {k : Nat} (hk : 0 < k) : ∀ {n i d : Nat}, d ∈ dig k n i → d < k
  | 0, _, _, h => by cases h
  | n + 1, i, d, h => by
    rw [dig, List.mem_append, List.mem_singleton] at h
    rcases h with h | h
    · exact dig_lt hk h
    · rw [h]; exact Nat.mod_lt _ hk
theorem idx_dig {k : Nat} (hk : 0 < k) : ∀ {n i : Nat}, i < k ^ n → idx k (dig k n i) = i
  | 0, i, h => by
    have : i = 0 := by simpa using h
    rw [this]; rfl
  | n + 1, i, h => by
    rw [dig, idx_snoc, idx_dig hk (by rw [Nat.div_lt_iff_lt_mul hk, ← Nat.pow_succ]; exact h)]
    rw [Nat.mul_comm]
    exact Nat.div_add_mod i k
theorem dig_idx {k : Nat} : ∀ {n : Nat} {c : List Nat}, c.length = n → (∀ d ∈ c, d < k) → dig k n (idx k c) = c
  | 0, c, h, _ => by rw [List.length_eq_zero_iff.mp h]; rfl
  | n + 1, c, h, hd => by
    obtain ⟨c', d, rfl⟩ : ∃ c' d, c = c' ++ [d] := ⟨c.dropLast, c.getLast (by intro e; rw [e] at h; cases h), (List.dropLast_concat_getLast _).symm⟩
    have hd' : d < k := hd d (by simp)
    have hk : 0 < k := by omega
    rw [idx_snoc, dig]
    rw [show (idx k c' * k + d) / k = idx k c' by rw [Nat.mul_comm, Nat.mul_add_div hk, Nat.div_eq_of_lt hd', Nat.add_zero]]
    rw [show (idx k c' * k + d) % k = d by rw [Nat.mul_comm, Nat.mul_add_mod, Nat.mod_eq_of_lt hd']]
    rw [dig_idx (by simpa using h) (fun x hx => hd x (List.mem_append_left _ hx))]
theorem idx_lt {k : Nat} : ∀ {n : Nat} {c : List Nat}, c.length = n → (∀ d ∈ c, d < k) → idx k c < k ^ n
  | 0, c, h, _ => by rw [List.length_eq_zero_iff.mp h]; exact Nat.one_pos
  | n + 1, c, h, hd => by
    obtain ⟨c', d, rfl⟩ : ∃ c' d, c = c' ++ [d] := ⟨c.dropLast, c.getLast (by intro e; rw [e] at h; cases h), (List.dropLast_concat_getLast _).symm⟩
    have hd' : d < k := hd d (by simp)
    have := idx_lt (n := n) (c := c') (by simpa using h) (fun x hx => hd x (List.mem_append_left _ hx))
    rw [idx_snoc, Nat.pow_succ]
    calc idx k c' * k + d < idx k c' * k + k := by omega
      _ = (idx k c' + 1) * k := by rw [Nat.succ_mul]
      _ ≤ k ^ n * k := Nat.mul_le_mul_right _ this
theorem for_st {tg : Tg} {body : Env' → List HObj → SOut} (xs : List PV) (E : Nat → Option PV → Env') (H : Nat → List HObj) (k0 : Option PV) (h : ∀ i x kv, xs[i]? = some x → ∃ ρ1, bindT tg x (E i kv) = some ρ1 ∧ body ρ1 (H i) = .next (E (i + 1) (some x)) (H (i + 1))) :
    ∃ kv, forLoop none tg body xs (E 0 k0) (H 0) = .next (E xs.length kv) (H xs.length) := by
  refine for_all (I := fun i ρ L => L = H i ∧ ∃ kv, ρ = E i kv) (R := fun o => ∃ kv, o = .next (E xs.length kv) (H xs.length)) xs 0 _ _ (fun _ _ _ _ => trivial) ?_ ?_ ⟨rfl, k0, rfl⟩
  · rintro i x ρ L hx ⟨rfl, kv, rfl⟩
    obtain ⟨ρ1, h1, h2⟩ := h i x kv hx
    rw [Nat.zero_add]
    exact ⟨ρ1, h1, .inl ⟨_, _, .inl h2, rfl, _, rfl⟩⟩
  · rintro ρ L ⟨rfl, kv, rfl⟩
    rw [Nat.zero_add]
    exact ⟨kv, rfl⟩
def iv (l : List Nat) : List PV := l.map fun (x : Nat) => PV.int (x : Int)
theorem iv_len {l : List Nat} : (iv l).length = l.length := List.length_map ..
theorem iv_u {l : List Nat} {n : Nat} : unders n (iv l) = true := u_mapf fun _ => u_int
theorem iv_get {l : List Nat} {i : Nat} : (iv l)[i]? = l[i]?.map fun (x : Nat) => PV.int (x : Int) := List.getElem?_map ..
theorem iv_at {l : List Nat} {i : Nat} : L2.atI (iv l) (i : Int) = l[i]?.map fun (x : Nat) => PV.int (x : Int) := by rw [atI_nat, iv_get]
theorem iv_app {a b : List Nat} : iv (a ++ b) = iv a ++ iv b := List.map_append
theorem iv_nil : iv [] = [] := True.casesOn (motive := fun _ => _) trivial rfl
theorem iv_one {x : Nat} : iv [x] = [PV.int (x : Int)] := True.casesOn (motive := fun _ => _) trivial rfl
theorem iv_int {l : List Nat} : iv l = (l.map fun (x : Nat) => (x : Int)).map PV.int := by unfold iv; rw [List.map_map]; rfl
theorem map_cast {a b : List Nat} : (a.map (fun (x : Nat) => (x : Int)) = b.map fun (x : Nat) => (x : Int)) ↔ a = b := by
  constructor
  · intro h
    induction a generalizing b with
    | nil => cases b with
      | nil => rfl
      | cons y b => cases h
    | cons x a ih => cases b with
      | nil => cases h
      | cons y b =>
        simp only [List.map_cons, List.cons.injEq] at h
        rw [ih h.2, show x = y by omega]
  · rintro rfl; rfl
theorem iv_ne {a b : List Nat} {L : List HObj} : cmpop .ne (.tup (iv a)) (.tup (iv b)) L = .ok (!decide (a = b)) L := by
  rw [iv_int, iv_int, c_neT]
  simp only [map_cast]
theorem mulS {x : Int} {k : Nat} (h : k ≤ 1000) : mulOk x (k : Int) := .inl (.inr ⟨by omega, by omega⟩)
theorem rep1 {n k : Nat} : (List.replicate n [PV.int (k : Int)]).flatten = iv (List.replicate n k) := by
  induction n with
  | zero => rfl
  | succ n ih => rw [List.replicate_succ, List.flatten_cons, ih, List.replicate_succ]; rfl
theorem b_rep1 {n k : Nat} {L : List HObj} (h : n ≤ 1000) : binop .mul (.tup [.int (k : Int)]) (.int (n : Int)) L = .ok (.tup (iv (List.replicate n k))) L := by
  rw [b_rep ⟨by omega, by simp, by omega⟩, Int.toNat_natCast, rep1]
theorem sz_iv {α : Type} {l : List Nat} {r : Out α} (h : l.length ≤ 1000) : sized (iv l) r = r := sized_le (by rw [iv_len]; exact h)
theorem get_last {L : List HObj} {o : HObj} : (L ++ [o])[L.length]? = some o := by simp
theorem set_last {L : List HObj} {o o' : HObj} : (L ++ [o]).set L.length o' = L ++ [o'] := by simp
theorem gc_last {L : List HObj} {o o' : HObj} {v : PV} (ho : o'.under (L.length + 1) = true) (hv : v.under (L.length + 1) = true) : gc (L ++ [o]) v (L ++ [o']) = (v, L ++ [o']) := by
  have := gc_set0 (L := L ++ [o]) (k := L.length) (o := o') (v := v) (by simpa using ho) (by simpa using hv)
  rwa [set_last] at this
theorem len_last {L : List HObj} {o : HObj} : (L ++ [o]).length = L.length + 1 := by simp
theorem dig_cons {k : Nat} : ∀ {n x : Nat}, dig k (n + 1) x = (x / k ^ n % k) :: dig k n x
  | 0, x => by simp [dig]
  | n + 1, x => by
    rw [dig, dig_cons (n := n) (x := x / k)]
    rw [List.cons_append, Nat.div_div_eq_div_mul, ← Nat.pow_succ']
    rfl
theorem dig_rev {k n x : Nat} : (dig k (n + 1) x).reverse = (dig k n x).reverse ++ [x / k ^ n % k] := by rw [dig_cons, List.reverse_cons]
theorem nmod {a b : Nat} : ((a : Int) % (b : Int)) = ((a % b : Nat) : Int) := by norm_cast
theorem ndiv {a b : Nat} : ((a : Int) / (b : Int)) = ((a / b : Nat) : Int) := by norm_cast
theorem nadd {a b : Nat} : (a : Int) + (b : Int) = ((a + b : Nat) : Int) := by norm_cast
theorem nmul {a b : Nat} : (a : Int) * (b : Int) = ((a * b : Nat) : Int) := by norm_cast
theorem ncle {a b : Nat} : decide ((a : Int) ≤ (b : Int)) = decide (a ≤ b) := by congr 1; simp only [eq_iff_iff]; omega
theorem nclt {a b : Nat} : decide ((a : Int) < (b : Int)) = decide (a < b) := by congr 1; simp only [eq_iff_iff]; omega
theorem iv_cons {x : Nat} {l : List Nat} : iv (x :: l) = .int (x : Int) :: iv l := True.casesOn (motive := fun _ => _) trivial rfl
theorem at_zero {x : PV} {xs : List PV} : L2.atI (x :: xs) 0 = some x := by
  show L2.atI (x :: xs) ((0 : Nat) : Int) = some x
  rw [atI_nat]
  rfl
theorem cut1 {x : PV} {xs : List PV} : cutP (x :: xs) (some 1) none = xs := by
  show cutP (x :: xs) (some ((1 : Nat) : Int)) none = xs
  unfold cutP
  rw [HT.sIx_nat, HT.sIx_none, Nat.min_eq_left (by simp)]
  simp
theorem okOld_tk {L M : List HObj} (h : L.length ≤ M.length) (ht : M.take L.length = L) : okOld L M := ⟨h, fun i hi => .inl (by
  have e : (M.take L.length)[i]? = L[i]? := by rw [ht]
  rw [← e, List.getElem?_take, if_pos hi])⟩
theorem fz_tk {L M : List HObj} {v : PV} (h : L.length ≤ M.length) (ht : M.take L.length = L) (hv : v.under L.length = true) : fz L v M = (v, L) := by rw [fz_gen (okOld_tk h ht) hv, ht]
theorem gc_tk {L M : List HObj} {v : PV} (h : L.length ≤ M.length) (ht : M.take L.length = L) (hv : v.under L.length = true) : gc L v M = (v, L) := by rw [gc_gen (okOld_tk h ht) hv, ht]
theorem gnew1 {M : List HObj} {a : HObj} {xs : List PV} : gc (M ++ [a]) (.ref (M.length + 1)) (M ++ [a, .lst xs]) = (.ref (M.length + 1), M ++ [a, .lst xs]) := by
  have := gc_new (L := M ++ [a]) (o := .lst xs)
  rw [len_last, List.append_assoc] at this
  exact this
theorem snoc2 {M : List HObj} {a b : HObj} : (M ++ [a]) ++ [b] = M ++ [a, b] := by simp
theorem x_app {T : Tab} {cl : String → List PV → M PV} {h : HX} : ∀ {a b : List Sx} {ρ : Env'} {L : List HObj}, execs T cl (a ++ b) h ρ L = (execs T cl a h ρ L).sq fun ρ' L' => execs T cl b h ρ' L'
  | [], b, ρ, L => by rw [List.nil_append, x_nil, ssq_next]
  | s :: a, b, ρ, L => by
    rw [List.cons_append, x_cons, x_cons]
    cases exec T cl s h ρ L with
    | next ρ' L' => rw [ssq_next, ssq_next, x_app]
    | ret v L' => rw [ssq_ret, ssq_ret, ssq_ret]
    | brk ρ' L' => rw [ssq_brk, ssq_brk, ssq_brk]
    | cnt ρ' L' => rw [ssq_cnt, ssq_cnt, ssq_cnt]
    | exc c f ρ' L' => rw [ssq_exc, ssq_exc, ssq_exc]
    | stuck => rfl
theorem same_trans {L L1 L2 : List HObj} (h : Same L L1) (h2 : Same L1 L2) : Same L L2 := ⟨⟨by rw [h2.2, h.2]; exact Nat.le_refl _, fun i hi => by
  rcases h2.1.2 i (by rw [h.2]; exact hi) with e | ⟨o, e, b⟩
  · rcases h.1.2 i hi with e' | ⟨o, e', b⟩
    · exact .inl (e.trans e')
    · exact .inr ⟨o, e.trans e', b⟩
  · rw [h.2] at b
    exact .inr ⟨o, e, b⟩⟩, h2.2.trans h.2⟩
theorem len_iv {l : List Nat} : ((iv l).length : Int) = ((l.length : Nat) : Int) := by rw [iv_len]
theorem iv_map {α : Type} {g : α → Nat} {as : List α} : (as.map fun a => PV.int ((g a : Nat) : Int)) = iv (as.map g) := by unfold iv; rw [List.map_map]; rfl
theorem rangeP_iv {n : Nat} : rangeP 0 n = iv (List.range n) := by
  unfold rangeP iv
  congr 1
  funext k
  rw [Int.zero_add]
/-! ### comprehensions -/
theorem lc_filt {α : Type} {tg : Tg} {cond : Env' → M Bool} {elt : Env' → M PV} {ρ : Env'} {L : List HObj} (f g : α → PV) (p : α → Bool) : ∀ (as : List α) (acc : List PV),
    (∀ a ∈ as, ∃ ρ1, bindT tg (f a) ρ = some ρ1 ∧ cond ρ1 L = .ok (p a) L ∧ (p a = true → elt ρ1 L = .ok (g a) L ∧ (g a).under L.length = true)) → lcLoop none tg cond elt ρ (as.map f) acc L = .ok (acc ++ (as.filter p).map g) L
  | [], acc, _ => by
    rw [List.filter_nil, List.map_nil, List.map_nil, List.append_nil]
    unfold lcLoop
    exact if_pos trivial
  | a :: as, acc, h => by
    obtain ⟨ρ1, h1, h2, h3⟩ := h a List.mem_cons_self
    rw [List.map_cons, lcLoop]
    simp only
    rw [if_pos (show guardOk none L from trivial), h1]
    have rec1 := fun acc => lc_filt (tg := tg) (cond := cond) (elt := elt) (ρ := ρ) (L := L) f g p as acc fun b hb => h b (List.mem_cons_of_mem _ hb)
    cases hp : p a with
    | true =>
      rw [hp] at h2 h3
      obtain ⟨h4, h5⟩ := h3 rfl
      simp only [h2, h4]
      rw [gc_id h5, rec1, List.filter_cons_of_pos hp, List.map_cons, List.append_assoc]
      rfl
    | false =>
      rw [hp] at h2
      simp only [h2]
      rw [gc_id u_non, rec1, List.filter_cons_of_neg (by rw [hp]; exact Bool.false_ne_true)]
section
variable {T : Tab} {cl : String → List PV → M PV} {hx : HX} {ρ : Env'} {L : List HObj} {elt : Ex} {es conds : List Ex} {i : Nat} {k : ItK}
theorem v_lcg {α : Type} {as : List α} (f g : α → PV) (p : α → Bool) {xs : List PV} {own : List Nat} (tg : Tg) (he : evs T cl hx es ρ L = .ok xs L) (hw : walkOf L k xs L = some ⟨as.map f, none, L⟩) (hn : as.length ≤ 1000)
    (hp : ∀ a ∈ as, ∃ ρ1, bindT tg (f a) (own.foldl (fun r i => r.set i none) ρ) = some ρ1 ∧ evc T cl hx conds ρ1 L = .ok (p a) L ∧ (p a = true → ev T cl hx elt ρ1 L = .ok (g a) L ∧ (g a).under L.length = true)) :
    ev T cl hx (.lc elt tg k es conds own) ρ L = .ok (.ref L.length) (L ++ [.lst ((as.filter p).map g)]) := by
  have e := lc_filt (tg := tg) (cond := fun ρ1 => evc T cl hx conds ρ1) (elt := fun ρ1 => ev T cl hx elt ρ1) (ρ := own.foldl (fun r i => r.set i none) ρ) (L := L) f g p as [] hp
  rw [v_lc, he, seq_ok, hw, opt_some, sized_le (by rw [List.length_map]; exact hn), e, lc_ok, List.nil_append]
theorem walk_rI {n : Nat} (h : n ≤ 1000) : walkOf L .range [.int (n : Int)] L = some ⟨(List.range n).map fun a => PV.int ((a : Nat) : Int), none, L⟩ := by
  rw [walk_range1 (by omega) (by omega), gc_id u_non, Int.toNat_natCast, rangeP_iv]
  rfl
theorem walk_tI {l : List Nat} : walkOf L .val [.tup (iv l)] L = some ⟨l.map fun a => PV.int ((a : Nat) : Int), none, L⟩ := by
  rw [walk_tup, gc_id (by rw [u_tup, iv_u])]
  rfl
theorem walk_fI {l : List Nat} : walkOf L .val [.frl (iv l)] L = some ⟨l.map fun a => PV.int ((a : Nat) : Int), none, L⟩ := by
  rw [walk_frl, gc_id (by rw [u_frl, iv_u])]
  rfl
theorem walk_gI {n : Nat} (h : n ≤ 1000) : walkOf L .val [.rng 0 (n : Int)] L = some ⟨(List.range n).map fun a => PV.int ((a : Nat) : Int), none, L⟩ := by
  rw [walk_rng (decide_eq_true ⟨by omega, by omega⟩) (decide_eq_true ⟨by omega, by omega⟩), gc_id u_rng]
  rw [show ((n : Int) - 0).toNat = n by omega, rangeP_iv]
  rfl
/-- the element is a number, by one name -/
theorem v_lcN {as : List Nat} (g : Nat → Nat) (p : Nat → Bool) {xs : List PV} (he : evs T cl hx es ρ L = .ok xs L) (hw : walkOf L k xs L = some ⟨as.map fun a => PV.int ((a : Nat) : Int), none, L⟩) (hn : as.length ≤ 1000)
    (hp : ∀ a ∈ as, evc T cl hx conds ((ρ.set i none).set i (some (.int (a : Int)))) L = .ok (p a) L ∧ (p a = true → ev T cl hx elt ((ρ.set i none).set i (some (.int (a : Int)))) L = .ok (.int ((g a : Nat) : Int)) L)) :
    ev T cl hx (.lc elt (.one i) k es conds [i]) ρ L = .ok (.ref L.length) (L ++ [.lst (iv ((as.filter p).map g))]) := by
  rw [v_lcg (as := as) (fun a => PV.int ((a : Nat) : Int)) (fun a => PV.int ((g a : Nat) : Int)) p (.one i) he hw hn fun a ha => ⟨_, rfl, (hp a ha).1, fun h => ⟨(hp a ha).2 h, u_int⟩⟩, iv_map]
/-- the name itself -/
theorem v_lcI {as : List Nat} (p : Nat → Bool) {xs : List PV} (he : evs T cl hx es ρ L = .ok xs L) (hw : walkOf L k xs L = some ⟨as.map fun a => PV.int ((a : Nat) : Int), none, L⟩) (hn : as.length ≤ 1000)
    (hp : ∀ a ∈ as, evc T cl hx conds ((ρ.set i none).set i (some (.int (a : Int)))) L = .ok (p a) L ∧ ev T cl hx elt ((ρ.set i none).set i (some (.int (a : Int)))) L = .ok (.int (a : Int)) L) :
    ev T cl hx (.lc elt (.one i) k es conds [i]) ρ L = .ok (.ref L.length) (L ++ [.lst (iv (as.filter p))]) := by
  have := v_lcN (g := fun a => a) p he hw hn (i := i) (elt := elt) (conds := conds) fun a ha => ⟨(hp a ha).1, fun _ => (hp a ha).2⟩
  rw [List.map_id'] at this
  exact this
/-- without a test -/
theorem v_lcM {as : List Nat} (g : Nat → Nat) {xs : List PV} (he : evs T cl hx es ρ L = .ok xs L) (hw : walkOf L k xs L = some ⟨as.map fun a => PV.int ((a : Nat) : Int), none, L⟩) (hn : as.length ≤ 1000)
    (hp : ∀ a ∈ as, ev T cl hx elt ((ρ.set i none).set i (some (.int (a : Int)))) L = .ok (.int ((g a : Nat) : Int)) L) :
    ev T cl hx (.lc elt (.one i) k es [] [i]) ρ L = .ok (.ref L.length) (L ++ [.lst (iv (as.map g))]) := by
  have := v_lcN g (fun _ => true) he hw hn (i := i) (elt := elt) (conds := []) fun a ha => ⟨vc_nil, fun _ => hp a ha⟩
  rw [List.filter_eq_self.mpr fun _ _ => rfl] at this
  exact this
/-- truths -/
theorem v_lcB {as : List Nat} (g : Nat → Bool) {xs : List PV} (he : evs T cl hx es ρ L = .ok xs L) (hw : walkOf L k xs L = some ⟨as.map fun a => PV.int ((a : Nat) : Int), none, L⟩) (hn : as.length ≤ 1000)
    (hp : ∀ a ∈ as, ev T cl hx elt ((ρ.set i none).set i (some (.int (a : Int)))) L = .ok (.bl (g a)) L) :
    ev T cl hx (.lc elt (.one i) k es [] [i]) ρ L = .ok (.ref L.length) (L ++ [.lst (as.map fun a => .bl (g a))]) := by
  have := v_lcg (as := as) (fun a => PV.int ((a : Nat) : Int)) (fun a => PV.bl (g a)) (fun _ => true) (.one i) he hw hn (elt := elt) (conds := []) (own := [i]) fun a ha => ⟨_, rfl, vc_nil, fun h => ⟨hp a ha, u_bl⟩⟩
  rw [List.filter_eq_self.mpr fun _ _ => rfl] at this
  exact this
end
theorem bls_u {α : Type} {n : Nat} {g : α → Bool} {as : List α} : unders n (as.map fun a => .bl (g a)) = true := u_mapf fun _ => u_bl
/-! ### operations -/
section
variable {L : List HObj}
theorem any_feq {x : Nat} : ∀ {l : List Nat}, ((iv l).any fun z => feq z (.int (x : Int))) = decide (x ∈ l)
  | [] => by simp [iv]
  | y :: l => by
    rw [iv_cons, List.any_cons, any_feq (l := l)]
    show ((y : Int) == (x : Int) || decide (x ∈ l)) = _
    rw [Bool.eq_iff_iff, Bool.or_eq_true, beq_iff_eq, decide_eq_true_eq, decide_eq_true_eq, List.mem_cons]
    have : ((y : Int) = (x : Int)) ↔ x = y := by omega
    rw [this]
theorem flat_iv : ∀ {l : List Nat}, (iv l).all PV.flat = true
  | [] => rfl
  | y :: l => by rw [iv_cons, List.all_cons, flat_iv]; rfl
theorem c_inT {x : Nat} {l : List Nat} : cmpop .isin (.int (x : Int)) (.tup (iv l)) L = .ok (decide (x ∈ l)) L := by
  show (if ((PV.int (x : Int)).flat && (iv l).all PV.flat) = true then Out.ok ((iv l).any fun z => feq z (.int (x : Int))) L else .stuck) = _
  rw [flat_iv, any_feq]
  rfl
theorem c_inF {x : Nat} {l : List Nat} : cmpop .isin (.int (x : Int)) (.frl (iv l)) L = .ok (decide (x ∈ l)) L := by
  show (if ((PV.int (x : Int)).flat && (iv l).all PV.flat) = true then Out.ok ((iv l).any fun z => feq z (.int (x : Int))) L else .stuck) = _
  rw [flat_iv, any_feq]
  rfl
theorem c_ninT {x : Nat} {l : List Nat} : cmpop .notin (.int (x : Int)) (.tup (iv l)) L = .ok (!decide (x ∈ l)) L := by
  show notM (cmpop .isin (.int (x : Int)) (.tup (iv l))) L = _
  unfold notM
  rw [c_inT]
theorem c_ninF {x : Nat} {l : List Nat} : cmpop .notin (.int (x : Int)) (.frl (iv l)) L = .ok (!decide (x ∈ l)) L := by
  show notM (cmpop .isin (.int (x : Int)) (.frl (iv l))) L = _
  unfold notM
  rw [c_inF]
theorem asInts_iv : ∀ {l : List Nat}, asInts (iv l) = some (l.map fun x => ((x : Nat) : Int))
  | [] => rfl
  | x :: l => by
    rw [iv_cons]
    show (asInts (iv l)).map ((x : Int) :: ·) = _
    rw [asInts_iv]
    rfl
def mxN : List Nat → Nat
  | [] => 0
  | x :: xs => max x (mxN xs)
def mnN : List Nat → Nat
  | [] => 0
  | [x] => x
  | x :: xs => min x (mnN xs)
theorem maxL_mxN : ∀ {l : List Nat}, maxL (l.map fun x => ((x : Nat) : Int)) = ((mxN l : Nat) : Int)
  | [] => rfl
  | [x] => by show (x : Int) = ((max x 0 : Nat) : Int); rw [Nat.max_eq_left (Nat.zero_le _)]
  | x :: y :: l => by
    show (if (x : Int) < maxL ((y :: l).map fun x => ((x : Nat) : Int)) then maxL ((y :: l).map fun x => ((x : Nat) : Int)) else (x : Int)) = ((max x (mxN (y :: l)) : Nat) : Int)
    rw [maxL_mxN]
    split <;> omega
theorem minL_mnN : ∀ {l : List Nat}, minL (l.map fun x => ((x : Nat) : Int)) = ((mnN l : Nat) : Int)
  | [] => rfl
  | [x] => rfl
  | x :: y :: l => by
    show (if minL ((y :: l).map fun x => ((x : Nat) : Int)) < (x : Int) then minL ((y :: l).map fun x => ((x : Nat) : Int)) else (x : Int)) = ((min x (mnN (y :: l)) : Nat) : Int)
    rw [minL_mnN]
    split <;> omega
theorem f_maxF {l : List Nat} (h : l ≠ []) : bltin .max [.frl (iv l)] L = .ok (.int ((mxN l : Nat) : Int)) L := by
  cases l with
  | nil => exact absurd rfl h
  | cons x l =>
    have e : (seqL L (.frl (iv (x :: l)))).bind asInts = some ((x :: l).map fun x => ((x : Nat) : Int)) := asInts_iv
    have e2 : bltin .max [.frl (iv (x :: l))] L = match (seqL L (.frl (iv (x :: l)))).bind asInts with
      | some (x :: xs) => Out.ok (PV.int (maxL (x :: xs))) L
      | _ => Out.stuck := rfl
    rw [e2, e]
    show Out.ok (PV.int (maxL ((x :: l).map fun x => ((x : Nat) : Int)))) L = _
    rw [maxL_mxN]
theorem f_minF {l : List Nat} (h : l ≠ []) : bltin .min [.frl (iv l)] L = .ok (.int ((mnN l : Nat) : Int)) L := by
  cases l with
  | nil => exact absurd rfl h
  | cons x l =>
    have e : (seqL L (.frl (iv (x :: l)))).bind asInts = some ((x :: l).map fun x => ((x : Nat) : Int)) := asInts_iv
    have e2 : bltin .min [.frl (iv (x :: l))] L = match (seqL L (.frl (iv (x :: l)))).bind asInts with
      | some (x :: xs) => Out.ok (PV.int (minL (x :: xs))) L
      | _ => Out.stuck := rfl
    rw [e2, e]
    show Out.ok (PV.int (minL ((x :: l).map fun x => ((x : Nat) : Int)))) L = _
    rw [minL_mnN]
theorem countP_iv {x : Nat} : ∀ {l : List Nat}, (iv l).countP (fun z => feq z (.int (x : Int))) = l.count x
  | [] => rfl
  | y :: l => by
    rw [iv_cons, List.countP_cons, List.count_cons, countP_iv]
    congr 1
    show (if ((y : Int) == (x : Int)) = true then 1 else 0) = _
    by_cases h : y = x
    · subst h; simp
    · have : ¬ (y : Int) = (x : Int) := by omega
      simp [h, this]
theorem m_countT {x : Nat} {l : List Nat} : meth .count (.tup (iv l)) [.int (x : Int)] L = .ok (.int ((l.count x : Nat) : Int)) L := by
  show (if ((PV.int (x : Int)).flat && (iv l).all PV.flat) = true then Out.ok (PV.int (((iv l).countP fun z => feq z (.int (x : Int)) : Nat) : Int)) L else .stuck) = _
  rw [flat_iv, countP_iv]
  rfl
theorem m_countF {x : Nat} {l : List Nat} : meth .count (.frl (iv l)) [.int (x : Int)] L = .ok (.int ((l.count x : Nat) : Int)) L := by
  show (if ((PV.int (x : Int)).flat && (iv l).all PV.flat) = true then Out.ok (PV.int (((iv l).countP fun z => feq z (.int (x : Int)) : Nat) : Int)) L else .stuck) = _
  rw [flat_iv, countP_iv]
  rfl
theorem idxOf_iv {x : Nat} : ∀ {l : List Nat}, x ∈ l → idxOf (.int (x : Int)) (iv l) = some (l.idxOf x)
  | y :: l, h => by
    rw [iv_cons]
    show (if ((y : Int) == (x : Int)) = true then some 0 else (idxOf (.int (x : Int)) (iv l)).map (· + 1)) = _
    by_cases e : y = x
    · subst e; simp
    · have : ¬ (y : Int) = (x : Int) := by omega
      rw [List.idxOf_cons, if_neg (by simpa using this), idxOf_iv ((List.mem_cons.mp h).resolve_left fun q => e q.symm)]
      rw [show (y == x) = false from beq_eq_false_iff_ne.mpr e]
      rfl
theorem m_indexT {x : Nat} {l : List Nat} (h : x ∈ l) : meth .index (.tup (iv l)) [.int (x : Int)] L = .ok (.int ((l.idxOf x : Nat) : Int)) L := by
  show (if ((PV.int (x : Int)).flat && (iv l).all PV.flat) = true then (match idxOf (.int (x : Int)) (iv l) with
      | some j => Out.ok (PV.int (j : Int)) L
      | none => .stuck) else .stuck) = _
  rw [flat_iv, idxOf_iv h]
  rfl
theorem r_countT {xs : List PV} : recvOk .count (.tup xs) L = true := by cases L <;> rfl
theorem r_countF {xs : List PV} : recvOk .count (.frl xs) L = true := by cases L <;> rfl
theorem r_indexT {xs : List PV} : recvOk .index (.tup xs) L = true := by cases L <;> rfl
theorem rgc_tN {n : Nat} (h : n ≤ 1000) : rgcP true (0, (n : Int)) L = .ok (.tup (iv (List.range n))) L := by
  show (if (0 : Int) ≤ 0 ∧ (0 : Int) ≤ 16777216 ∧ 0 ≤ (n : Int) ∧ (n : Int) ≤ 16777216 then Out.ok (PV.tup (rangeP 0 ((n : Int) - 0).toNat)) L else .stuck) = _
  rw [if_pos (by omega), show ((n : Int) - 0).toNat = n by omega, rangeP_iv]
theorem rgc_lN {n : Nat} (h : n ≤ 1000) : rgcP false (0, (n : Int)) L = .ok (.ref L.length) (L ++ [.lst (iv (List.range n))]) := by
  show (if (0 : Int) ≤ 0 ∧ (0 : Int) ≤ 16777216 ∧ 0 ≤ (n : Int) ∧ (n : Int) ≤ 16777216 then Out.ok (PV.ref L.length) (L ++ [.lst (rangeP 0 ((n : Int) - 0).toNat)]) else .stuck) = _
  rw [if_pos (by omega), show ((n : Int) - 0).toNat = n by omega, rangeP_iv]
theorem nceq {a b : Nat} : ((a : Int) == (b : Int)) = decide (a = b) := by
  rw [Bool.eq_iff_iff, beq_iff_eq, decide_eq_true_eq]; omega
theorem iv_atD {l : List Nat} {i : Nat} (h : i < l.length) : L2.atI (iv l) (i : Int) = some (.int ((l.getD i 0 : Nat) : Int)) := by
  rw [iv_at, List.getD_eq_getElem?_getD, List.getElem?_eq_getElem h]
  rfl
end
theorem v_rev {T : Tab} {cl : String → List PV → M PV} {hx : HX} {ρ : Env'} {L : List HObj} {a : Ex} : ev T cl hx (.rev a) ρ L = (ev T cl hx a ρ L).seq fun x L1 => revP x L1 := by
  show bnd _ _ _ = _
  simp only [bnd_fun]
  try rfl
theorem rev_tup {xs : List PV} {L : List HObj} : revP (.tup xs) L = .ok (.tup xs.reverse) L := by cases L <;> rfl
/-- the evaluation's rules, as one -/
def evA := (And.intro (And.intro (And.intro (And.intro (And.intro (And.intro (And.intro @sz0 @sz1) (And.intro @sz2 @sz3)) (And.intro (And.intro @sz4 @sz5) (And.intro @sz6 (And.intro @v_cst @v_var)))) (And.intro (And.intro (And.intro @v_glb @v_nil) (And.intro @v_cons @v_tup)) (And.intro (And.intro @v_lst @v_bin) (And.intro @v_neg (And.intro @v_not @v_cmp))))) (And.intro (And.intro (And.intro (And.intro @v_chain @v_and) (And.intro @v_or @v_ite)) (And.intro (And.intro @v_call @v_blt) (And.intro @v_met (And.intro @v_idx @v_o0)))) (And.intro (And.intro (And.intro @v_o1 @v_slc) (And.intro @v_rev (And.intro @rev_tup @v_isi))) (And.intro (And.intro @vc_nil @vc_one) (And.intro @x_nil (And.intro @x_cons @x_set)))))) (And.intro (And.intro (And.intro (And.intro (And.intro @x_expr @x_ret) (And.intro @x_retN @x_brk)) (And.intro (And.intro @x_cnt @x_ite) (And.intro @x_sub (And.intro @x_for @x_aug2)))) (And.intro (And.intro (And.intro @toI_int @augO_add) (And.intro @augO_sub (And.intro @seq_ok @seq_exc))) (And.intro (And.intro @sq_ok @sq_exc) (And.intro @ssq_next (And.intro @ssq_ret @ssq_brk))))) (And.intro (And.intro (And.intro (And.intro @ssq_cnt @ssq_exc) (And.intro @opt_some @sopt_some)) (And.intro (And.intro @optU_some @neg_int) (And.intro @intP_int (And.intro @stO_ok @gcO_def)))) (And.intro (And.intro (And.intro @fin_ret @fin_retZ) (And.intro @v_frz (And.intro @fzO_def @v_fld))) (And.intro (And.intro @v_new @v_mtc) (And.intro @v_opm (And.intro @v_callk @v_din))))))) (And.intro (And.intro (And.intro (And.intro (And.intro (And.intro @v_dix @v_rgc) (And.intro @v_rgv @rgP_1)) (And.intro (And.intro @rgP_2 @rgP_v) (And.intro @u_rng (And.intro @x_sfld @sfO_ok)))) (And.intro (And.intro (And.intro @fz_id @fz_set0) (And.intro @fz_set2 (And.intro @fz_lst @fz_lst2))) (And.intro (And.intro @fz_ins @u_obj) (And.intro @u_ins (And.intro @u_tup @u_frl))))) (And.intro (And.intro (And.intro (And.intro @u_app @f_tuple_frl) (And.intro @f_max2 @f_min2)) (And.intro (And.intro @b_rep @b_frl) (And.intro @p_frl (And.intro @fin_next @fin_exc0)))) (And.intro (And.intro (And.intro @fin_exc1 @its_lst) (And.intro @mut_lst (And.intro @b_add @b_sub))) (And.intro (And.intro @b_mul @b_div) (And.intro @b_mod (And.intro @b_pow @c_lt)))))) (And.intro (And.intro (And.intro (And.intro (And.intro @c_le @c_gt) (And.intro @c_ge @c_eqi)) (And.intro (And.intro @c_nei @c_eqs) (And.intro @c_nes (And.intro @c_isn @c_isnotn)))) (And.intro (And.intro (And.intro @t_bl @t_non) (And.intro @i_tup (And.intro @i_frl @i_ref))) (And.intro (And.intro @f_len_tup @f_len_frl) (And.intro @f_len_ref (And.intro @f_int_int @f_int_bl))))) (And.intro (And.intro (And.intro (And.intro @f_str_str @f_list_frl) (And.intro @f_list_tup @f_tuple_tup)) (And.intro (And.intro @f_tuple_ref @s_item) (And.intro @gc_id (And.intro @gc_set0 @gc_set2)))) (And.intro (And.intro (And.intro @u_non @u_int) (And.intro @u_bl (And.intro @u_str @u_ref))) (And.intro (And.intro @u_nil @u_cons) (And.intro @u_lst (And.intro @u_tup @u_frl))))))))
end MP

set_option maxHeartbeats 0
namespace LW
open PySem PySem.Spec PyProof.Rows L2 MP
def top (i : Nat) : Stmt := PySem.Challenge.pw_choosersrow_k11_ranks_and_orders.main.body.getD i (.Pass ⟨0, 0, 0, 0⟩)
def dOf (f : String) (i : Nat) : He.DefD := ⟨(Str.ofString f, none), Str.ofString f, Str.ofString f, defArgs (top i), defBody (top i), defScope (top i), [], []⟩
def clsBody : Stmt → List Stmt
  | .ClassDef _ _ _ b _ _ _ _ _ _ _ => b
  | _ => []
def mth (j k : Nat) : Stmt := (clsBody (top j)).getD k (.Pass ⟨0, 0, 0, 0⟩)
def mOf (c m : String) (j k : Nat) : He.DefD := ⟨(Str.ofString c, some (Str.ofString m)), Str.ofString m, Str.ofString (c ++ "." ++ m), defArgs (mth j k), defBody (mth j k), defScope (mth j k), [], []⟩
def iOf (c : String) (q : String) (j k : Nat) : He.DefD := ⟨(Str.ofString c, some ("__init__" : Str)), ("__init__" : Str), Str.ofString q, defArgs (mth j k), defBody (mth j k), defScope (mth j k), [], []⟩
def lb_law_1 : List Sx := [.ite (.not (.call "_law_told" [(.var 7)])) [.ret (.cst (.bl false))] []]
def lb_law_2 : List Sx := [.ite (.not (.call "_law_same" [(.call "_law_do" [(.cst (.int 2)), (.var 8)]), (.tup [(.cst (.str "orders")), (.call "_law_orders" [(.var 8)])])])) [.ret (.cst (.bl false))] []]
def le_law_3 : Ex := (.var 10)
def lq_law_4 : List Ex := [(.call "_law_alike" [(.var 10), (.var 3)])]
def fd_law : FD := ⟨1, 11, true, none, [.set 1 (.call "_law_start" [(.var 0)]), .set 2 (.bin .add (.cst (.int 1)) (.call "_law_pick" [(.var 1), (.cst (.int 4))])), .set 3 (.call "_law_ranks" [(.var 1), (.var 2)]), .set 4 (.call "_law_dense" [(.var 3)]), .set 5 (.call "_law_pick" [(.var 1), (.var 2)]), .set 6 (.frz (.lst [(.bin .add (.bin .add (.slc (.var 3) none (some (.var 5))) (.tup [(.cst (.int 9))])) (.slc (.var 3) (some (.bin .add (.var 5) (.cst (.int 1)))) none)), (.bin .add (.bin .add (.slc (.var 3) none (some (.var 5))) (.tup [(.cst (.int 0))])) (.slc (.var 3) (some (.bin .add (.var 5) (.cst (.int 1)))) none))])), .for (.one 7) .val [(.frz (.bin .add (.frz (.lst [(.var 3), (.var 4), (.call "_law_opposite" [(.var 3)]), (.call "_law_spread" [(.var 1), (.var 4)])])) (.var 6)))] lb_law_1, .for (.one 8) .range [(.cst (.int 1)), (.cst (.int 5))] lb_law_2, .ite (.not (.call "_law_refused" [(.var 1), (.var 3)])) [.ret (.cst (.bl false))] [], .set 9 (.call "dense_orders" [(.var 2)]), .ite (.cmp .ne (.frz (.lc le_law_3 (.one 10) .val [(.var 9)] lq_law_4 [10])) (.frz (.lst [(.var 4)]))) [.ret (.cst (.bl false))] [], .ret (.and (.call "_law_told" [(.var 3)]) (.call "_law_same" [(.var 9), (.call "_law_orders" [(.var 2)])]))]⟩
def lb__law_start_1 : List Sx := [.set 1 (.bin .mod (.bin .add (.bin .add (.bin .add (.bin .mul (.var 1) (.cst (.int 48271))) (.bin .mod (.blt .int [(.idx (.var 0) (.var 2))]) (.cst (.int 2147483647)))) (.var 2)) (.cst (.int 1))) (.cst (.int 2147483647)))]
def fd__law_start : FD := ⟨1, 3, false, none, [.set 1 (.cst (.int 7)), .for (.one 2) .range [(.blt .len [(.var 0)])] lb__law_start_1, .ret (.lst [(.var 1), (.frz (.blt .list [(.var 0)])), (.cst (.int 0)), (.cst (.int 0))])]⟩
def fd__law_pick : FD := ⟨2, 5, true, none, [.ite (.cmp .ge (.idx (.var 0) (.cst (.int 3))) (.var 1)) [.set 4 (.blt .int [(.idx (.var 0) (.cst (.int 3)))]), .sub (.var 0) (.cst (.int 3)) (.bin .fdiv (.var 4) (.var 1)), .ret (.bin .mod (.var 4) (.var 1))] [], .set 2 (.cst (.int 11)), .ite (.cmp .lt (.idx (.var 0) (.cst (.int 2))) (.blt .len [(.idx (.var 0) (.cst (.int 1)))])) [.set 2 (.blt .int [(.idx (.idx (.var 0) (.cst (.int 1))) (.idx (.var 0) (.cst (.int 2))))]), .sub (.var 0) (.cst (.int 2)) (.bin .add (.idx (.var 0) (.cst (.int 2))) (.cst (.int 1))), .ite (.cmp .lt (.var 2) (.cst (.int 0))) [.set 2 (.bin .sub (.cst (.int 1)) (.var 2))] [], .ite (.cmp .ge (.var 2) (.bin .pow (.cst (.int 10)) (.cst (.int 18)))) [.sub (.var 0) (.cst (.int 3)) (.bin .fdiv (.var 2) (.var 1)), .ret (.bin .mod (.var 2) (.var 1))] []] [], .set 3 (.bin .mod (.bin .mul (.bin .add (.bin .add (.blt .int [(.idx (.var 0) (.cst (.int 0)))]) (.bin .mod (.var 2) (.cst (.int 2147483647)))) (.cst (.int 1))) (.cst (.int 48271))) (.cst (.int 2147483647))), .sub (.var 0) (.cst (.int 0)) (.bin .mod (.bin .add (.bin .mul (.var 3) (.cst (.int 69621))) (.cst (.int 12345))) (.cst (.int 2147483647))), .ret (.bin .mod (.bin .fdiv (.blt .int [(.idx (.var 0) (.cst (.int 0)))]) (.cst (.int 7))) (.var 1))]⟩
def le__law_ranks_1 : Ex := (.call "_law_pick" [(.var 0), (.var 2)])
def fd__law_ranks : FD := ⟨2, 4, true, none, [.set 2 (.idx (.frz (.lst [(.cst (.int 2)), (.cst (.int 3)), (.cst (.int 10))])) (.call "_law_pick" [(.var 0), (.cst (.int 3))])), .ret (.blt .tuple [(.frz (.lc le__law_ranks_1 (.one 3) .range [(.var 1)] [] [3]))])]⟩
def le__law_dense_1 : Ex := (.var 2)
def lq__law_dense_2 : List Ex := [(.and (.cmp .isin (.var 2) (.var 0)) (.cmp .lt (.var 2) (.var 1)))]
def le__law_dense_3 : Ex := (.blt .len [(.frz (.lc le__law_dense_1 (.one 2) .range [(.cst (.int 10))] lq__law_dense_2 [2]))])
def fd__law_dense : FD := ⟨1, 3, true, none, [.ret (.blt .tuple [(.frz (.lc le__law_dense_3 (.one 1) .val [(.var 0)] [] [1]))])]⟩
def le__law_opposite_1 : Ex := (.bin .sub (.blt .max [(.var 1)]) (.var 2))
def fd__law_opposite : FD := ⟨1, 3, true, none, [.set 1 (.call "_law_dense" [(.var 0)]), .ret (.blt .tuple [(.frz (.lc le__law_opposite_1 (.one 2) .val [(.var 1)] [] [2]))])]⟩
def le__law_spread_1 : Ex := (.bin .add (.var 3) (.bin .mul (.var 2) (.var 4)))
def fd__law_spread : FD := ⟨2, 5, true, none, [.set 2 (.bin .add (.cst (.int 1)) (.call "_law_pick" [(.var 0), (.cst (.int 3))])), .set 3 (.call "_law_pick" [(.var 0), (.bin .sub (.cst (.int 10)) (.bin .mul (.cst (.int 3)) (.var 2)))]), .ret (.blt .tuple [(.frz (.lc le__law_spread_1 (.one 4) .val [(.var 1)] [] [4]))])]⟩
def fd__law_told : FD := ⟨1, 1, true, none, [.ite (.not (.call "_law_same" [(.call "_law_do" [(.cst (.int 0)), (.var 0)]), (.tup [(.cst (.str "ranks")), (.call "_law_dense" [(.var 0)])])])) [.ret (.cst (.bl false))] [], .ret (.call "_law_same" [(.call "_law_do" [(.cst (.int 1)), (.var 0)]), (.tup [(.cst (.str "ranks")), (.call "_law_opposite" [(.var 0)])])])]⟩
def le__law_same_1 : Ex := (.call "_law_same" [(.idx (.var 0) (.var 2)), (.idx (.var 1) (.var 2))])
def fd__law_same : FD := ⟨2, 3, true, none, [.ite (.isi (.var 1) .tuple) [.ite (.or (.not (.isi (.var 0) .tuple)) (.cmp .ne (.blt .len [(.var 0)]) (.blt .len [(.var 1)]))) [.ret (.cst (.bl false))] [], .ret (.blt .all [(.frz (.lc le__law_same_1 (.one 2) .range [(.blt .len [(.var 1)])] [] [2]))])] [], .ite (.cmp .isn (.var 1) (.cst .non)) [.ret (.cmp .isn (.var 0) (.cst .non))] [], .ite (.isi (.var 1) .str) [.ret (.and (.isi (.var 0) .str) (.cmp .eq (.var 0) (.var 1)))] [], .ite (.isi (.var 1) .bool) [.ret (.and (.isi (.var 0) .bool) (.cmp .eq (.var 0) (.var 1)))] [], .ret (.and (.isi (.var 0) .int) (.and (.not (.isi (.var 0) .bool)) (.cmp .eq (.var 0) (.var 1))))]⟩
def fd__law_do : FD := ⟨2, 4, true, none, [.try [.ite (.cmp .eq (.var 0) (.cst (.int 0))) [.ret (.tup [(.cst (.str "ranks")), (.call "dense_ranks" [(.var 1)])])] [], .ite (.cmp .eq (.var 0) (.cst (.int 1))) [.ret (.tup [(.cst (.str "ranks")), (.call "opposite_ranks" [(.var 1)])])] [], .ret (.tup [(.cst (.str "orders")), (.call "dense_orders" [(.var 1)])])] "ChoosersError" 2 [.set 3 (.frz (.lst [(.exi "SizeMismatch"), (.exi "TooLarge"), (.exi "InvalidTerm")])), .ret (.tup [(.cst (.str "refused")), (.and (.exi "OutOfRange") (.and (.exi "ValueError") (.not (.blt .any [(.var 3)]))))])]]⟩
def le__law_orders_1 : Ex := (.cmp .isin (.var 4) (.var 3))
def lb__law_orders_2 : List Sx := [.set 3 (.call "_law_context" [(.var 2), (.var 0), (.var 0)]), .ite (.blt .all [(.frz (.lc le__law_orders_1 (.one 4) .range [(.blt .max [(.var 3)])] [] [4]))]) [.expr (.met .append (.var 1) [(.var 3)])] []]
def fd__law_orders : FD := ⟨1, 5, true, none, [.set 1 (.lst []), .for (.one 2) .range [(.call "_law_contexts" [(.var 0), (.var 0)])] lb__law_orders_2, .ret (.blt .tuple [(.var 1)])]⟩
def lb__law_refused_1 : List Sx := [.expr (.met .append (.var 3) [(.bin .add (.bin .add (.slc (.var 1) none (some (.var 4))) (.tup [(.var 6)])) (.slc (.var 1) (some (.bin .add (.var 4) (.cst (.int 1)))) none))])]
def lb__law_refused_2 : List Sx := [.for (.one 6) .val [(.frz (.lst [(.cst (.int 10)), (.neg (.cst (.int 1))), (.var 2)]))] lb__law_refused_1]
def lb__law_refused_3 : List Sx := [.ite (.not (.call "_law_same" [(.call "_law_do" [(.var 7), (.var 5)]), (.tup [(.cst (.str "refused")), (.cst (.bl true))])])) [.ret (.cst (.bl false))] []]
def lb__law_refused_4 : List Sx := [.for (.one 7) .range [(.cst (.int 2))] lb__law_refused_3]
def le__law_refused_5 : Ex := (.call "_law_same" [(.call "_law_do" [(.cst (.int 2)), (.var 8)]), (.tup [(.cst (.str "refused")), (.cst (.bl true))])])
def fd__law_refused : FD := ⟨2, 9, true, none, [.set 2 (.bin .add (.cst (.int 10)) (.call "_law_pick" [(.var 0), (.cst (.int 30))])), .set 3 (.lst [(.tup []), (.slc (.bin .add (.bin .add (.bin .add (.bin .add (.var 1) (.var 1)) (.var 1)) (.var 1)) (.var 1)) none (some (.cst (.int 5)))), (.slc (.bin .add (.var 1) (.tup [(.cst (.int 0)), (.cst (.int 0)), (.cst (.int 0)), (.cst (.int 0)), (.cst (.int 0))])) none (some (.cst (.int 6))))]), .for (.one 4) .range [(.blt .len [(.var 1)])] lb__law_refused_2, .for (.one 5) .val [(.var 3)] lb__law_refused_4, .ret (.blt .all [(.frz (.lc le__law_refused_5 (.one 8) .val [(.frz (.lst [(.neg (.cst (.int 1))), (.cst (.int 0)), (.cst (.int 5)), (.cst (.int 6))]))] [] [8]))])]⟩
def lb_dense_orders_1 : List Sx := [.ite (.cmp .eq (.call "dense_ranks" [(.var 2)]) (.var 2)) [.expr (.met .append (.var 1) [(.var 2)])] []]
def fd_dense_orders : FD := ⟨1, 3, true, none, [.ite (.not (.chain .le .le (.cst (.int 1)) (.var 0) (.glb "MOST_OUTCOMES"))) [.raise "OutOfRange" none] [], .set 1 (.lst []), .forg (.one 2) "all_choices" [(.bin .mul (.tup [(.var 0)]) (.var 0))] lb_dense_orders_1, .ret (.blt .tuple [(.var 1)])]⟩
def lb__law_alike_1 : List Sx := [.ite (.cmp .ne (.cmp .lt (.idx (.var 0) (.var 2)) (.idx (.var 0) (.var 3))) (.cmp .lt (.idx (.var 1) (.var 2)) (.idx (.var 1) (.var 3)))) [.ret (.cst (.bl false))] []]
def lb__law_alike_2 : List Sx := [.for (.one 3) .range [(.blt .len [(.var 0)])] lb__law_alike_1]
def fd__law_alike : FD := ⟨2, 4, true, none, [.for (.one 2) .range [(.blt .len [(.var 0)])] lb__law_alike_2, .ret (.cst (.bl true))]⟩
def lb_dense_ranks_1 : List Sx := [.ite (.not (.call "is_below" [(.var 1), (.bin .add (.glb "MOST_RANK") (.cst (.int 1)))])) [.raise "OutOfRange" none] []]
def le_dense_ranks_2 : Ex := (.met .index (.var 2) [(.var 1)])
def fd_dense_ranks : FD := ⟨1, 3, true, none, [.ite (.not (.chain .le .le (.cst (.int 1)) (.blt .len [(.var 0)]) (.glb "MOST_OUTCOMES"))) [.raise "OutOfRange" none] [], .for (.one 1) .val [(.var 0)] lb_dense_ranks_1, .set 2 (.frz (.sst (.var 0))), .ret (.blt .tuple [(.frz (.lc le_dense_ranks_2 (.one 1) .val [(.var 0)] [] [1]))])]⟩
def le_opposite_ranks_1 : Ex := (.bin .sub (.blt .max [(.var 1)]) (.var 2))
def fd_opposite_ranks : FD := ⟨1, 3, true, none, [.set 1 (.call "dense_ranks" [(.var 0)]), .ret (.blt .tuple [(.frz (.lc le_opposite_ranks_1 (.one 2) .val [(.var 1)] [] [2]))])]⟩
def lb__law_contexts_1 : List Sx := [.set 2 (.bin .mul (.var 2) (.var 1))]
def fd__law_contexts : FD := ⟨2, 4, true, none, [.set 2 (.cst (.int 1)), .for (.one 3) .range [(.var 0)] lb__law_contexts_1, .ret (.var 2)]⟩
def lb__law_context_1 : List Sx := [.set 3 (.frz (.bin .add (.frz (.lst [(.bin .mod (.var 4) (.var 2))])) (.var 3))), .set 4 (.bin .fdiv (.var 4) (.var 2))]
def fd__law_context : FD := ⟨3, 6, true, none, [.set 3 (.frz (.lst [])), .set 4 (.blt .int [(.var 0)]), .for (.one 5) .range [(.var 1)] lb__law_context_1, .ret (.blt .tuple [(.var 3)])]⟩
def le_all_choices_1 : Ex := (.cst (.int 0))
def lw_all_choices_2 : Ex := (.and (.cmp .ge (.var 3) (.cst (.int 0))) (.cmp .eq (.idx (.var 1) (.var 3)) (.bin .sub (.idx (.var 0) (.var 3)) (.cst (.int 1)))))
def lb_all_choices_3 : List Sx := [.sub (.var 1) (.var 3) (.cst (.int 0)), .aug 3 .sub (.cst (.int 1))]
def lg_all_choices_4 : List GSx := [.yld (.blt .tuple [(.var 1)]), .st (.set 3 (.bin .sub (.blt .len [(.var 0)]) (.cst (.int 1)))), .st (.whl lw_all_choices_2 lb_all_choices_3), .st (.ite (.cmp .ge (.var 3) (.cst (.int 0))) [.sub (.var 1) (.var 3) (.bin .add (.idx (.var 1) (.var 3)) (.cst (.int 1)))] [])]
def gd_all_choices : GFD := ⟨1, 4, [.st (.set 1 (.lc le_all_choices_1 (.one 2) .val [(.var 0)] [] [2])), .forr (.one 2) (.call "count_choices" [(.var 0)]) lg_all_choices_4]⟩
def fd_is_below : FD := ⟨2, 2, true, none, [.ret (.and (.isi (.var 0) .int) (.chain .le .lt (.cst (.int 0)) (.var 0) (.var 1)))]⟩
def lb_count_choices_1 : List Sx := [.set 1 (.bin .mul (.var 1) (.var 2))]
def fd_count_choices : FD := ⟨1, 3, true, none, [.set 1 (.cst (.int 1)), .for (.one 2) .val [(.var 0)] lb_count_choices_1, .ret (.var 1)]⟩
def ds : List DI := [⟨"law", dOf "law" 32, N_of ["_law_script", "_law_state", "_law_k", "_law_ranks_here", "_law_dense_here", "_law_at", "_law_edges", "_law_asked", "_law_outcomes", "_law_orders_here", "_law_order"], fd_law⟩,
  ⟨"_law_start", dOf "_law_start" 18, N_of ["_law_script", "_law_seed", "_law_k"], fd__law_start⟩,
  ⟨"_law_pick", dOf "_law_pick" 19, N_of ["_law_state", "_law_limit", "_law_cell", "_law_mixed", "_law_rest"], fd__law_pick⟩,
  ⟨"_law_ranks", dOf "_law_ranks" 23, N_of ["_law_state", "_law_k", "_law_top", "_law_r"], fd__law_ranks⟩,
  ⟨"_law_dense", dOf "_law_dense" 25, N_of ["_law_ranks_here", "_law_rank", "_law_s"], fd__law_dense⟩,
  ⟨"_law_opposite", dOf "_law_opposite" 26, N_of ["_law_ranks_here", "_law_dense_here", "_law_rank"], fd__law_opposite⟩,
  ⟨"_law_spread", dOf "_law_spread" 24, N_of ["_law_state", "_law_dense_here", "_law_gap", "_law_low", "_law_rank"], fd__law_spread⟩,
  ⟨"_law_told", dOf "_law_told" 30, N_of ["_law_ranks_here"], fd__law_told⟩,
  ⟨"_law_same", dOf "_law_same" 20, N_of ["_law_actual", "_law_due", "_law_p"], fd__law_same⟩,
  ⟨"_law_do", dOf "_law_do" 29, N_of ["_law_door", "_law_given", "e", "_law_beside"], fd__law_do⟩,
  ⟨"_law_orders", dOf "_law_orders" 27, N_of ["_law_k", "_law_found", "_law_number", "_law_ranks_here", "_law_rank"], fd__law_orders⟩,
  ⟨"_law_refused", dOf "_law_refused" 31, N_of ["_law_state", "_law_ranks_here", "_law_more", "_law_wrong", "_law_x", "_law_given", "_law_entry", "_law_door", "_law_k"], fd__law_refused⟩,
  ⟨"dense_orders", dOf "dense_orders" 16, N_of ["outcomes", "orders", "ranks"], fd_dense_orders⟩,
  ⟨"_law_alike", dOf "_law_alike" 28, N_of ["_law_first", "_law_second", "_law_x", "_law_y"], fd__law_alike⟩,
  ⟨"dense_ranks", dOf "dense_ranks" 14, N_of ["ranks", "rank", "levels"], fd_dense_ranks⟩,
  ⟨"opposite_ranks", dOf "opposite_ranks" 15, N_of ["ranks", "dense", "rank"], fd_opposite_ranks⟩,
  ⟨"_law_contexts", dOf "_law_contexts" 21, N_of ["_law_n", "_law_k", "_law_many", "_law_x"], fd__law_contexts⟩,
  ⟨"_law_context", dOf "_law_context" 22, N_of ["_law_number", "_law_n", "_law_k", "_law_entries", "_law_rest", "_law_x"], fd__law_context⟩,
  ⟨"is_below", dOf "is_below" 11, N_of ["item", "limit"], fd_is_below⟩,
  ⟨"count_choices", dOf "count_choices" 7, N_of ["widths", "many", "width"], fd_count_choices⟩]
def gs : List GI := [⟨"all_choices", dOf "all_choices" 8, N_of ["widths", "numbers", "_", "at"], gd_all_choices⟩]
def iis : List II := [⟨"InvalidTerm", "path", iOf "InvalidTerm" "InvalidTerm.__init__" 2 0⟩]
def orig : List (String × String) := [("InvalidTerm", "InvalidTerm")]
def T : Tab := {
  fns := ds.map fun x => (x.f, x.fd)
  csts := [("MOST_OUTCOMES", (.int 4)), ("MOST_RANK", (.int 9))]
  free := ["ValueError", "all", "any", "bool", "int", "isinstance", "len", "list", "max", "range", "set", "sorted", "str", "tuple"]
  excs := [("ChoosersError", none), ("InvalidTerm", some "path"), ("OutOfRange", none), ("SizeMismatch", none), ("TooLarge", none)]
  subs := [("ChoosersError", "ChoosersError"), ("ChoosersError", "ValueError"), ("InvalidTerm", "InvalidTerm"), ("InvalidTerm", "ChoosersError"), ("InvalidTerm", "ValueError"), ("OutOfRange", "OutOfRange"), ("OutOfRange", "ChoosersError"), ("OutOfRange", "ValueError"), ("SizeMismatch", "SizeMismatch"), ("SizeMismatch", "ChoosersError"), ("SizeMismatch", "ValueError"), ("TooLarge", "TooLarge"), ("TooLarge", "ChoosersError"), ("TooLarge", "ValueError")]
  mts := []
  flds := []
  dcts := []
  gns := gs.map fun x => (x.f, x.gd) }
theorem hd : ds.all (ckDI T) = true := by decide +kernel
theorem hg : gs.all (ckGI T) = true := by decide +kernel
theorem hi : iis.all ckII = true := by decide +kernel
def names : List PySem.Str := (["ChoosersError", "InvalidTerm", "OutOfRange", "SizeMismatch", "TooLarge", "count_choices", "all_choices", "MOST_RANK", "is_below", "MOST_OUTCOMES", "dense_ranks", "opposite_ranks", "dense_orders", "_law_start", "_law_pick", "_law_same", "_law_contexts", "_law_context", "_law_ranks", "_law_spread", "_law_dense", "_law_opposite", "_law_orders", "_law_alike", "_law_do", "_law_told", "_law_refused"] : List PySem.Str)
abbrev R : PySem.W.OpenRow := PySem.W.OpenLaw.row PySem.Challenge.rw_choosersrow_k11_ranks_and_orders
abbrev fnl : List He.DefD := ds.map (·.d) ++ (iis.map (·.d) ++ gs.map (·.d))
abbrev hk : PySem.W.Hook := He.hookX 4 [] fnl (tsOf T) [] (factsB T orig iis)
def ob (s : PySem.W.SharedT) : He.AlX := He.obsX 4 [] fnl (tsOf T) [] (factsB T orig iis) (HandSHeadRun.getT s)
theorem ob_eq (s : PySem.W.SharedT) : ob s = hk.obs s.abs := He.obsX_eq (HandSHeadRun.getT_eq s)
def ftW (w : World) (b : Bool) : World := { w with params := { w.params with followText := fun s => if s = "special-get-raises" then b else w.params.followText s } }
theorem ftW_eq (w : World) : ftW w (w.params.followText "special-get-raises") = w := by
  have e : (fun s => if s = "special-get-raises" then w.params.followText "special-get-raises" else w.params.followText s) = w.params.followText := by
    funext s
    by_cases h : s = "special-get-raises"
    · rw [if_pos h, h]
    · rw [if_neg h]
  unfold ftW
  rw [e]
theorem runF (w : World) : HandSHeadRun.RunEq R (PySem.W.view R.prog [32]) hk ob 20000 names (ftW w false) := by
  intro os
  kernel_rfl
theorem runT (w : World) : HandSHeadRun.RunEq R (PySem.W.view R.prog [32]) hk ob 20000 names (ftW w true) := by
  intro os
  kernel_rfl
theorem run2 (w : World) (b : Bool) : HandSHeadRun.RunEq R (PySem.W.view R.prog [32]) hk ob 20000 names (ftW w b) := by
  cases b
  · exact runF w
  · exact runT w
theorem run (w : World) : HandSHeadRun.RunEq R (PySem.W.view R.prog [32]) hk ob 20000 names w := by
  have h := run2 w (w.params.followText "special-get-raises")
  rw [ftW_eq] at h
  exact h
end LW

set_option maxHeartbeats 4000000
namespace LW
open MP
/-! ### the law's own state -/
theorem lk__law_pick : T.fns.lookup "_law_pick" = some fd__law_pick := rfl
/-- the state's object -/
def St (sc : List Int) (o : HObj) : Prop := ∃ s a r : Int, o = .lst [.int s, .frl (sc.map .int), .int a, .int r] ∧ 0 ≤ s ∧ s < 2147483647 ∧ 0 ≤ a ∧ 0 ≤ r
theorem at4_0 {w x y z : PV} : L2.atI [w, x, y, z] 0 = some w := rfl
theorem at4_1 {w x y z : PV} : L2.atI [w, x, y, z] 1 = some x := rfl
theorem at4_2 {w x y z : PV} : L2.atI [w, x, y, z] 2 = some y := rfl
theorem at4_3 {w x y z : PV} : L2.atI [w, x, y, z] 3 = some z := rfl
theorem ix4_0 : L2.ixN 4 0 = some 0 := rfl
theorem ix4_2 : L2.ixN 4 2 = some 2 := rfl
theorem ix4_3 : L2.ixN 4 3 = some 3 := rfl
theorem cdiv {i lim : Int} (hl : 0 < lim) (hl2 : lim ≤ 1000000000) : L2.CDivW i lim := by
  refine ⟨hl, ?_⟩
  have h1 : lim.natAbs < 2 ^ 30 := by omega
  have := (Nat.log2_lt (n := lim.natAbs) (k := 30) (by omega)).mpr h1
  omega
theorem s_pick {d : Nat} {L : List HObj} {k : Nat} {sc : List Int} {o : HObj} {lim : Int} (hk : L[k]? = some o) (ho : St sc o) (hl : 0 < lim) (hl2 : lim ≤ 1000000000) :
    ∃ v o', call T (d + 1) "_law_pick" [.ref k, .int lim] L = .ok (.int v) (L.set k o') ∧ 0 ≤ v ∧ v < lim ∧ St sc o' := by
  obtain ⟨s, a, r, rfl, hs, hs2, ha, hr⟩ := ho
  rw [call_eq lk__law_pick d _ _ rfl]
  have hkl : k < L.length := (List.getElem?_eq_some_iff.mp hk).1
  by_cases h1 : lim ≤ r
  · refine ⟨r % lim, .lst [.int s, .frl (sc.map .int), .int a, .int (r / lim)], ?_, Int.emod_nonneg _ (by omega), Int.emod_lt_of_pos _ hl, s, a, r / lim, rfl, hs, hs2, ha, Int.ediv_nonneg hr (by omega)⟩
    simp only [fd__law_pick, evA, List.map_cons, List.map_nil, List.cons_append, List.nil_append, List.replicate, List.getElem?_cons_zero, List.getElem?_cons_succ, Option.bind_some, Option.map_some, id, List.set_cons_zero, List.set_cons_succ, List.length_cons, List.length_nil, List.length_map, List.set_set, decide_true, decide_false, Bool.and_true, Bool.true_and, if_true, if_false, Bool.false_eq_true, List.length_set, Nat.add_one_sub_one, Nat.sub_self, Nat.reduceSub, Nat.reduceAdd, Int.reduceToNat, Int.reduceLT, Int.reduceLE, Int.reducePow, decide_eq_true_eq, Bool.not_true, Bool.not_false, hk, h1, at4_3, u_ints, cdiv hl hl2, ix4_3, hl]
  · have hse : ∀ o : HObj, (L.set k o)[k]? = some o := fun o => List.getElem?_set_self hkl
    have hm : ∀ x : Int, 0 ≤ x % 2147483647 ∧ x % 2147483647 < 2147483647 := fun x => ⟨Int.emod_nonneg _ (by omega), Int.emod_lt_of_pos _ (by omega)⟩
    have cm1 : ∀ x : Int, mulOk x 48271 := fun x => .inl (.inr ⟨by omega, by omega⟩)
    have cm2 : ∀ x : Int, mulOk x 69621 := fun x => .inl (.inr ⟨by omega, by omega⟩)
    have cd7 : ∀ x : Int, L2.CDivW x 7 := fun x => cdiv (by omega) (by omega)
    have cp : L2.CPow 10 18 := ⟨by omega, by omega, by decide⟩
    by_cases h2 : a < (sc.length : Int)
    · obtain ⟨cell, hcell⟩ : ∃ c, L2.atI (sc.map PV.int) a = some (.int c) := by
        rw [atI_pos ha, List.getElem?_map]
        rw [List.getElem?_eq_getElem (by omega)]
        exact ⟨_, rfl⟩
      have fin2 : ∀ cell' : Int, cell' < 1000000000000000000 → ∃ v o', St sc o' ∧ 0 ≤ v ∧ v < lim ∧ v = ((s + cell' % 2147483647 + 1) * 48271 % 2147483647 * 69621 + 12345) % 2147483647 / 7 % lim ∧ o' = .lst [.int (((s + cell' % 2147483647 + 1) * 48271 % 2147483647 * 69621 + 12345) % 2147483647), .frl (sc.map .int), .int (a + 1), .int r] := fun cell' _ =>
        ⟨_, _, ⟨_, _, _, rfl, (hm _).1, (hm _).2, by omega, hr⟩, Int.emod_nonneg _ (by omega), Int.emod_lt_of_pos _ hl, rfl, rfl⟩
      by_cases h3 : cell < 0
      · by_cases h4 : 1000000000000000000 ≤ 1 - cell
        · refine ⟨(1 - cell) % lim, .lst [.int s, .frl (sc.map .int), .int (a + 1), .int ((1 - cell) / lim)], ?_, Int.emod_nonneg _ (by omega), Int.emod_lt_of_pos _ hl, s, a + 1, (1 - cell) / lim, rfl, hs, hs2, by omega, Int.ediv_nonneg (by omega) (by omega)⟩
          simp only [fd__law_pick, evA, List.map_cons, List.map_nil, List.cons_append, List.nil_append, List.replicate, List.getElem?_cons_zero, List.getElem?_cons_succ, Option.bind_some, Option.map_some, id, List.set_cons_zero, List.set_cons_succ, List.length_cons, List.length_nil, List.length_map, List.set_set, decide_true, decide_false, Bool.and_true, Bool.true_and, if_true, if_false, Bool.false_eq_true, List.length_set, Nat.add_one_sub_one, Nat.sub_self, Nat.reduceSub, Nat.reduceAdd, Int.reduceToNat, Int.reduceLT, Int.reduceLE, Int.reducePow, decide_eq_true_eq, Bool.not_true, Bool.not_false, hk, hse, h1, h2, h3, h4, hcell, at4_0, at4_1, at4_2, at4_3, u_ints, cdiv hl hl2, ix4_0, ix4_2, ix4_3, hl, cm1, cm2, cd7, cp]
        · obtain ⟨v, o', q1, q2, q3, rfl, rfl⟩ := fin2 (1 - cell) (by omega)
          refine ⟨_, _, ?_, q2, q3, q1⟩
          simp only [fd__law_pick, evA, List.map_cons, List.map_nil, List.cons_append, List.nil_append, List.replicate, List.getElem?_cons_zero, List.getElem?_cons_succ, Option.bind_some, Option.map_some, id, List.set_cons_zero, List.set_cons_succ, List.length_cons, List.length_nil, List.length_map, List.set_set, decide_true, decide_false, Bool.and_true, Bool.true_and, if_true, if_false, Bool.false_eq_true, List.length_set, Nat.add_one_sub_one, Nat.sub_self, Nat.reduceSub, Nat.reduceAdd, Int.reduceToNat, Int.reduceLT, Int.reduceLE, Int.reducePow, decide_eq_true_eq, Bool.not_true, Bool.not_false, hk, hse, h1, h2, h3, h4, hcell, at4_0, at4_1, at4_2, at4_3, u_ints, cdiv hl hl2, ix4_0, ix4_2, ix4_3, hl, cm1, cm2, cd7, cp]
      · by_cases h4 : 1000000000000000000 ≤ cell
        · refine ⟨cell % lim, .lst [.int s, .frl (sc.map .int), .int (a + 1), .int (cell / lim)], ?_, Int.emod_nonneg _ (by omega), Int.emod_lt_of_pos _ hl, s, a + 1, cell / lim, rfl, hs, hs2, by omega, Int.ediv_nonneg (by omega) (by omega)⟩
          simp only [fd__law_pick, evA, List.map_cons, List.map_nil, List.cons_append, List.nil_append, List.replicate, List.getElem?_cons_zero, List.getElem?_cons_succ, Option.bind_some, Option.map_some, id, List.set_cons_zero, List.set_cons_succ, List.length_cons, List.length_nil, List.length_map, List.set_set, decide_true, decide_false, Bool.and_true, Bool.true_and, if_true, if_false, Bool.false_eq_true, List.length_set, Nat.add_one_sub_one, Nat.sub_self, Nat.reduceSub, Nat.reduceAdd, Int.reduceToNat, Int.reduceLT, Int.reduceLE, Int.reducePow, decide_eq_true_eq, Bool.not_true, Bool.not_false, hk, hse, h1, h2, h3, h4, hcell, at4_0, at4_1, at4_2, at4_3, u_ints, cdiv hl hl2, ix4_0, ix4_2, ix4_3, hl, cm1, cm2, cd7, cp]
        · obtain ⟨v, o', q1, q2, q3, rfl, rfl⟩ := fin2 cell (by omega)
          refine ⟨_, _, ?_, q2, q3, q1⟩
          simp only [fd__law_pick, evA, List.map_cons, List.map_nil, List.cons_append, List.nil_append, List.replicate, List.getElem?_cons_zero, List.getElem?_cons_succ, Option.bind_some, Option.map_some, id, List.set_cons_zero, List.set_cons_succ, List.length_cons, List.length_nil, List.length_map, List.set_set, decide_true, decide_false, Bool.and_true, Bool.true_and, if_true, if_false, Bool.false_eq_true, List.length_set, Nat.add_one_sub_one, Nat.sub_self, Nat.reduceSub, Nat.reduceAdd, Int.reduceToNat, Int.reduceLT, Int.reduceLE, Int.reducePow, decide_eq_true_eq, Bool.not_true, Bool.not_false, hk, hse, h1, h2, h3, h4, hcell, at4_0, at4_1, at4_2, at4_3, u_ints, cdiv hl hl2, ix4_0, ix4_2, ix4_3, hl, cm1, cm2, cd7, cp]
    · have fin3 : ∃ v o', St sc o' ∧ 0 ≤ v ∧ v < lim ∧ v = ((s + 11 % 2147483647 + 1) * 48271 % 2147483647 * 69621 + 12345) % 2147483647 / 7 % lim ∧ o' = .lst [.int (((s + 11 % 2147483647 + 1) * 48271 % 2147483647 * 69621 + 12345) % 2147483647), .frl (sc.map .int), .int a, .int r] :=
        ⟨_, _, ⟨_, _, _, rfl, (hm _).1, (hm _).2, ha, hr⟩, Int.emod_nonneg _ (by omega), Int.emod_lt_of_pos _ hl, rfl, rfl⟩
      obtain ⟨v, o', q1, q2, q3, rfl, rfl⟩ := fin3
      refine ⟨_, _, ?_, q2, q3, q1⟩
      simp only [fd__law_pick, evA, List.map_cons, List.map_nil, List.cons_append, List.nil_append, List.replicate, List.getElem?_cons_zero, List.getElem?_cons_succ, Option.bind_some, Option.map_some, id, List.set_cons_zero, List.set_cons_succ, List.length_cons, List.length_nil, List.length_map, List.set_set, decide_true, decide_false, Bool.and_true, Bool.true_and, if_true, if_false, Bool.false_eq_true, List.length_set, Nat.add_one_sub_one, Nat.sub_self, Nat.reduceSub, Nat.reduceAdd, Int.reduceToNat, Int.reduceLT, Int.reduceLE, Int.reducePow, decide_eq_true_eq, Bool.not_true, Bool.not_false, hk, hse, h1, h2,  at4_0, at4_1, at4_2, at4_3, u_ints, cdiv hl hl2, ix4_0, ix4_2, ix4_3, hl, cm1, cm2, cd7, cp]
theorem lk__law_start : T.fns.lookup "_law_start" = some fd__law_start := rfl
theorem s_start {d : Nat} {sc : List Int} (hlen : sc.length < 1000) (L : List HObj) : ∃ s : Int, 0 ≤ s ∧ s < 2147483647 ∧
    call T (d + 1) "_law_start" [.frl (sc.map .int)] L = .ok (.ref L.length) (L ++ [.lst [.int s, .frl (sc.map .int), .int 0, .int 0]]) := by
  have hm : ∀ x : Int, 0 ≤ x % 2147483647 ∧ x % 2147483647 < 2147483647 := fun x => ⟨Int.emod_nonneg _ (by omega), Int.emod_lt_of_pos _ (by omega)⟩
  have cm1 : ∀ x : Int, mulOk x 48271 := fun x => .inl (.inr ⟨by omega, by omega⟩)
  have loop : ∃ (s : Int) (k : Option PV), 0 ≤ s ∧ s < 2147483647 ∧ forLoop none (.one 2) (fun ρ1 L2 => execs T (call T d) lb__law_start_1 none ρ1 L2) (rangeP 0 sc.length) [some (.frl (sc.map .int)), some (.int 7), none] L = .next [some (.frl (sc.map .int)), some (.int s), k] L := by
    refine for_all (I := fun i ρ L' => L' = L ∧ ∃ (s : Int) (k : Option PV), 0 ≤ s ∧ s < 2147483647 ∧ ρ = [some (.frl (sc.map .int)), some (.int s), k]) (R := fun o => ∃ (s : Int) (k : Option PV), 0 ≤ s ∧ s < 2147483647 ∧ o = .next [some (.frl (sc.map .int)), some (.int s), k] L) _ 0 _ _ (fun _ _ _ _ => trivial) ?_ ?_ ⟨rfl, 7, none, by omega, by omega, rfl⟩
    · rintro i x ρ L' hx ⟨rfl, s, k, h1, h2, rfl⟩
      obtain ⟨rfl, hi⟩ := rangeP_get hx
      obtain ⟨c, hc⟩ : ∃ c, L2.atI (sc.map PV.int) (0 + (i : Int)) = some (.int c) := by
        rw [atI_pos (by omega), List.getElem?_map, List.getElem?_eq_getElem (by omega)]
        exact ⟨_, rfl⟩
      refine ⟨_, rfl, .inl ⟨_, L', .inl ?_, rfl, ((s * 48271 + c % 2147483647 + (0 + (i : Int)) + 1) % 2147483647), some (.int (0 + (i : Int))), (hm _).1, (hm _).2, rfl⟩⟩
      simp only [lb__law_start_1, evA, List.map_cons, List.map_nil, List.cons_append, List.nil_append, List.replicate, List.getElem?_cons_zero, List.getElem?_cons_succ, Option.bind_some, Option.map_some, id, List.set_cons_zero, List.set_cons_succ, List.length_cons, List.length_nil, List.length_map, List.set_set, decide_true, decide_false, Bool.and_true, Bool.true_and, if_true, if_false, Bool.false_eq_true, List.length_set, Nat.add_one_sub_one, Nat.sub_self, Nat.reduceSub, Nat.reduceAdd, Int.reduceToNat, Int.reduceLT, Int.reduceLE, Int.reducePow, decide_eq_true_eq, Bool.not_true, Bool.not_false, hc, cm1]
    · rintro ρ L' ⟨rfl, s, k, h1, h2, rfl⟩
      exact ⟨s, k, h1, h2, rfl⟩
  obtain ⟨s, k, h1, h2, hl⟩ := loop
  refine ⟨s, h1, h2, ?_⟩
  rw [call_eq lk__law_start d _ _ rfl]
  have hw : walkOf L .range [.int ((sc.map PV.int).length : Int)] L = some ⟨rangeP 0 sc.length, none, L⟩ := by
    rw [walk_range1 (by omega) (by simp; omega), gc_id u_non]
    simp
  simp only [List.length_map] at hw
  simp only [fd__law_start, evA, List.map_cons, List.map_nil, List.cons_append, List.nil_append, List.replicate, List.getElem?_cons_zero, List.getElem?_cons_succ, Option.bind_some, Option.map_some, id, List.set_cons_zero, List.set_cons_succ, List.length_cons, List.length_nil, List.length_map, List.set_set, decide_true, decide_false, Bool.and_true, Bool.true_and, if_true, if_false, Bool.false_eq_true, List.length_set, Nat.add_one_sub_one, Nat.sub_self, Nat.reduceSub, Nat.reduceAdd, Int.reduceToNat, Int.reduceLT, Int.reduceLE, Int.reducePow, decide_eq_true_eq, Bool.not_true, Bool.not_false, hw, hl, u_ints, gc_new]
/-! ### small defs -/
theorem lk_count : T.fns.lookup "count_choices" = some fd_count_choices := rfl
theorem s_count {d n k : Nat} {L : List HObj} (hk : k ≤ 1000) : call T (d + 1) "count_choices" [.tup (iv (List.replicate n k))] L = .ok (.int ((k ^ n : Nat) : Int)) L := by
  obtain ⟨kv, hl⟩ := for_st (tg := .one 2) (body := fun ρ1 L2 => execs T (call T d) lb_count_choices_1 none ρ1 L2) (iv (List.replicate n k)) (fun i kv => [some (.tup (iv (List.replicate n k))), some (.int ((k ^ i : Nat) : Int)), kv]) (fun _ => L) none (fun i x kv hx => by
    rw [iv_get] at hx
    obtain ⟨y, hy, rfl⟩ := Option.map_eq_some_iff.mp hx
    obtain rfl := List.eq_of_mem_replicate (List.mem_of_getElem? hy)
    refine ⟨_, rfl, ?_⟩
    simp only [lb_count_choices_1, evA, List.map_cons, List.map_nil, List.cons_append, List.nil_append, List.replicate, List.getElem?_cons_zero, List.getElem?_cons_succ, Option.bind_some, Option.map_some, id, List.set_cons_zero, List.set_cons_succ, List.length_cons, List.length_nil, List.length_map, List.set_set, decide_true, decide_false, Bool.and_true, Bool.true_and, if_true, if_false, Bool.false_eq_true, List.length_set, Nat.add_one_sub_one, Nat.sub_self, Nat.reduceSub, Nat.reduceAdd, Int.reduceToNat, Int.reduceLT, Int.reduceLE, Int.reducePow, decide_eq_true_eq, Bool.not_true, Bool.not_false, mulS hk, ← Int.natCast_mul, ← Nat.pow_succ])
  rw [iv_len, List.length_replicate] at hl
  rw [call_eq lk_count d _ _ rfl]
  have h0 : ((k ^ 0 : Nat) : Int) = 1 := by simp
  rw [h0] at hl
  simp only [fd_count_choices, evA, List.map_cons, List.map_nil, List.cons_append, List.nil_append, List.replicate, List.getElem?_cons_zero, List.getElem?_cons_succ, Option.bind_some, Option.map_some, id, List.set_cons_zero, List.set_cons_succ, List.length_cons, List.length_nil, List.length_map, List.set_set, decide_true, decide_false, Bool.and_true, Bool.true_and, if_true, if_false, Bool.false_eq_true, List.length_set, Nat.add_one_sub_one, Nat.sub_self, Nat.reduceSub, Nat.reduceAdd, Int.reduceToNat, Int.reduceLT, Int.reduceLE, Int.reducePow, decide_eq_true_eq, Bool.not_true, Bool.not_false, walk_tup, iv_u, hl]
theorem lk_below : T.fns.lookup "is_below" = some fd_is_below := rfl
theorem s_below {d x n : Nat} {L : List HObj} : call T (d + 1) "is_below" [.int (x : Int), .int (n : Int)] L = .ok (.bl (decide (x < n))) L := by
  rw [call_eq lk_below d _ _ rfl]
  have h1 : decide ((0 : Int) ≤ (x : Int)) = true := decide_eq_true (by omega)
  have h2 : decide ((x : Int) < (n : Int)) = decide (x < n) := by congr 1; simp only [eq_iff_iff]; omega
  simp only [fd_is_below, evA, List.map_cons, List.map_nil, List.cons_append, List.nil_append, List.replicate, List.getElem?_cons_zero, List.getElem?_cons_succ, Option.bind_some, Option.map_some, id, List.set_cons_zero, List.set_cons_succ, List.length_cons, List.length_nil, List.length_map, List.set_set, decide_true, decide_false, Bool.and_true, Bool.true_and, if_true, if_false, Bool.false_eq_true, List.length_set, Nat.add_one_sub_one, Nat.sub_self, Nat.reduceSub, Nat.reduceAdd, Int.reduceToNat, Int.reduceLT, Int.reduceLE, Int.reducePow, decide_eq_true_eq, Bool.not_true, Bool.not_false, is_int, beq_self_eq_true, h1, h2]
/-! ### the next choice -/
theorem dig_get {k x : Nat} : ∀ {n p : Nat}, p < n → (dig k n x)[p]? = some (x / k ^ (n - 1 - p) % k)
  | 0, p, h => absurd h (Nat.not_lt_zero _)
  | n + 1, 0, _ => by rw [dig_cons]; rfl
  | n + 1, p + 1, h => by
    rw [dig_cons, List.getElem?_cons_succ, dig_get (Nat.lt_of_succ_lt_succ h)]
    congr 4
    omega
theorem dig_out {k x n p : Nat} (h : ¬ p < n) : (dig k n x)[p]? = none := List.getElem?_eq_none (by rw [dig_len]; omega)
def mid (k n i m : Nat) : List Nat := (dig k n i).take m ++ List.replicate (n - m) 0
theorem mid_len {k n i m : Nat} (h : m ≤ n) : (mid k n i m).length = n := by unfold mid; simp [dig_len]; omega
theorem mid_get {k n i m p : Nat} (h : m ≤ n) (hp : p < n) : (mid k n i m)[p]? = some (if p < m then i / k ^ (n - 1 - p) % k else 0) := by
  unfold mid
  by_cases hm : p < m
  · rw [List.getElem?_append_left (by simp [dig_len]; omega), List.getElem?_take_of_lt hm, dig_get hp, if_pos hm]
  · rw [List.getElem?_append_right (by simp [dig_len]; omega), List.getElem?_replicate, if_pos (by simp [dig_len]; omega), if_neg hm]
theorem zero_dig {k i q e : Nat} (hk : 0 < k) (hq : q < e) (h : (i + 1) % k ^ e = 0) : (i + 1) / k ^ q % k = 0 := by
  obtain ⟨t, ht⟩ := Nat.dvd_of_mod_eq_zero h
  have e1 : k ^ e = k ^ q * (k * k ^ (e - q - 1)) := by
    rw [← Nat.pow_succ', ← Nat.pow_add]; congr 1; omega
  rw [ht, e1, Nat.mul_assoc, Nat.mul_div_cancel_left _ (Nat.pow_pos hk), Nat.mul_assoc]
  exact Nat.mul_mod_right _ _
theorem div_pred {i K : Nat} (hK : 0 < K) (h : (i + 1) % K = 0) : (i + 1) / K = i / K + 1 := by
  obtain ⟨t, ht⟩ := Nat.dvd_of_mod_eq_zero h
  have h0 : 0 < t := Nat.pos_of_ne_zero fun z => by subst z; omega
  obtain ⟨s, rfl⟩ : ∃ s, t = s + 1 := ⟨t - 1, by omega⟩
  have e2 : i = K * s + (K - 1) := by rw [Nat.mul_succ] at ht; omega
  rw [ht, Nat.mul_div_cancel_left _ hK, e2, Nat.mul_add_div hK, Nat.div_eq_of_lt (by omega)]
theorem mod_succ' {a k : Nat} (hk : 0 < k) (h : a % k ≠ k - 1) : (a + 1) % k = a % k + 1 := by
  have := Nat.mod_lt a hk
  rw [Nat.add_mod]
  by_cases h1 : k = 1
  · subst h1; omega
  · rw [Nat.mod_eq_of_lt (show 1 < k by omega), Nat.mod_eq_of_lt (by omega)]
theorem div_same {a K : Nat} (h : (a + 1) % K ≠ 0) : (a + 1) / K = a / K := by
  rw [Nat.succ_div, if_neg fun d => h (Nat.mod_eq_zero_of_dvd d)]
  rfl
theorem mid_done {k n i : Nat} (hk : 0 < k) (h : (i + 1) % k ^ n = 0) : mid k n i 0 = dig k n (i + 1) := by
  refine List.ext_getElem? fun p => ?_
  by_cases hp : p < n
  · rw [mid_get (Nat.zero_le _) hp, if_neg (Nat.not_lt_zero _), dig_get hp, zero_dig hk (by omega) h]
  · rw [dig_out hp, List.getElem?_eq_none (by rw [mid_len (Nat.zero_le _)]; omega)]
theorem mid_inc {k n i m : Nat} (hk : 0 < k) (hm : m < n) (h : (i + 1) % k ^ (n - 1 - m) = 0) (hd : i / k ^ (n - 1 - m) % k ≠ k - 1) : (mid k n i (m + 1)).set m (i / k ^ (n - 1 - m) % k + 1) = dig k n (i + 1) := by
  have e0 := div_pred (Nat.pow_pos hk) h
  refine List.ext_getElem? fun p => ?_
  by_cases hp : p < n
  · rw [dig_get hp]
    by_cases hpm : p = m
    · subst hpm
      rw [List.getElem?_set_self (by rw [mid_len (by omega)]; omega), e0, mod_succ' hk hd]
    · rw [List.getElem?_set_ne (fun e => hpm e.symm), mid_get (by omega) hp]
      by_cases hlt : p < m + 1
      · rw [if_pos hlt]
        have e1 : k ^ (n - 1 - p) = k ^ (n - 1 - m) * k ^ (m - p) := by rw [← Nat.pow_add]; congr 1; omega
        rw [e1, ← Nat.div_div_eq_div_mul, ← Nat.div_div_eq_div_mul, e0, div_same]
        intro z
        have hk1 : k ∣ k ^ (m - p) := by
          obtain ⟨s, hs⟩ : ∃ s, m - p = s + 1 := ⟨m - p - 1, by omega⟩
          rw [hs, Nat.pow_succ]
          exact Nat.dvd_mul_left _ _
        have z2 := Nat.mod_eq_zero_of_dvd (Nat.dvd_trans hk1 (Nat.dvd_of_mod_eq_zero z))
        rw [mod_succ' hk hd] at z2
        omega
      · rw [if_neg hlt, zero_dig hk (by omega) h]
  · rw [dig_out hp, List.getElem?_eq_none (by rw [List.length_set, mid_len (by omega)]; omega)]
theorem mid_step {k n i m : Nat} (hk : 0 < k) (hm : m < n) (hd : i / k ^ (n - 1 - m) % k = k - 1) : (mid k n i (m + 1)).set m 0 = mid k n i m := by
  refine List.ext_getElem? fun p => ?_
  by_cases hp : p < n
  · rw [mid_get (by omega) hp]
    by_cases hpm : p = m
    · subst hpm
      rw [List.getElem?_set_self (by rw [mid_len (by omega)]; omega), if_neg (Nat.lt_irrefl _)]
    · rw [List.getElem?_set_ne (fun e => hpm e.symm), mid_get (by omega) hp]
      congr 1
      by_cases hlt : p < m
      · rw [if_pos hlt, if_pos (by omega)]
      · rw [if_neg hlt, if_neg (by omega)]
  · rw [List.getElem?_eq_none (by rw [List.length_set, mid_len (by omega)]; omega), List.getElem?_eq_none (by rw [mid_len (by omega)]; omega)]
theorem mod_up {k i e : Nat} (hk : 0 < k) (h : (i + 1) % k ^ e = 0) (hd : i / k ^ e % k = k - 1) : (i + 1) % k ^ (e + 1) = 0 := by
  have e0 := div_pred (Nat.pow_pos hk) h
  rw [Nat.pow_succ, Nat.mod_mul, h, e0, Nat.zero_add]
  have : (i / k ^ e + 1) % k = 0 := by
    rw [Nat.add_mod, hd]
    by_cases h1 : k = 1
    · subst h1; rfl
    · rw [Nat.mod_eq_of_lt (show 1 < k by omega), show k - 1 + 1 = k by omega, Nat.mod_self]
  rw [this, Nat.mul_zero]
theorem mid_full {k n i : Nat} : mid k n i n = dig k n i := by
  unfold mid
  rw [List.take_of_length_le (Nat.le_of_eq dig_len), Nat.sub_self]
  exact List.append_nil _
theorem dig_zero {k : Nat} : ∀ {n : Nat}, dig k n 0 = List.replicate n 0
  | 0 => by
    have := dig_len (k := k) (n := 0) (i := 0)
    exact List.eq_nil_of_length_eq_zero this
  | n + 1 => by rw [dig_cons, dig_zero, Nat.zero_div, Nat.zero_mod]; rfl
/-! ### all_choices -/
theorem iv_setn {l : List Nat} {i v : Nat} : (iv l).set i (.int (v : Int)) = iv (l.set i v) := by unfold iv; rw [List.map_set]
theorem iv_set0 {l : List Nat} {i : Nat} : (iv l).set i (.int 0) = iv (l.set i 0) := iv_setn (v := 0)
def wsV (n k : Nat) : PV := .tup (iv (List.replicate n k))
theorem lk_all : T.fns.lookup "all_choices" = none := rfl
theorem lg_all : T.gns.lookup "all_choices" = some gd_all_choices := rfl
theorem rep_at {n k m : Nat} (h : m < n) : L2.atI (iv (List.replicate n k)) (m : Int) = some (.int (k : Int)) := by rw [iv_at, List.getElem?_replicate, if_pos h]; rfl
theorem mid_at {n k i m : Nat} (h : m < n) : L2.atI (iv (mid k n i (m + 1))) (m : Int) = some (.int ((i / k ^ (n - 1 - m) % k : Nat) : Int)) := by rw [iv_at, mid_get (by omega) h, if_pos (Nat.lt_succ_self m)]; rfl
theorem gc_one {xs : List PV} {l : List Nat} : gc [.lst xs] .non [.lst (iv l)] = (.non, [.lst (iv l)]) := gc_set0 (L := [.lst xs]) (k := 0) (o := .lst (iv l)) (by rw [u_lst]; exact iv_u) u_non
theorem ac_whl {d n k i : Nat} {kv : Option PV} (hk : 0 < k) (hk2 : k ≤ 1000) (hn : n ≤ 1000) {m : Nat} (hm : m ≤ n) (h : (i + 1) % k ^ (n - m) = 0) :
    ∃ m', m' ≤ n ∧ whl (fun ρ1 => gcB (bnd (ev T (call T d) none lw_all_choices_2 ρ1) truth)) (fun ρ1 L1 => execs T (call T d) lb_all_choices_3 none ρ1 L1) [some (wsV n k), some (.ref 0), kv, some (.int ((m : Int) - 1))] [.lst (iv (mid k n i m))] = .next [some (wsV n k), some (.ref 0), kv, some (.int ((m' : Int) - 1))] [.lst (iv (mid k n i m'))] ∧
      (i + 1) % k ^ (n - m') = 0 ∧ (m' = 0 ∨ ∃ q, m' = q + 1 ∧ i / k ^ (n - 1 - q) % k ≠ k - 1) := by
  refine whl_all (I := fun m ρ L => m ≤ n ∧ ρ = [some (wsV n k), some (.ref 0), kv, some (.int ((m : Int) - 1))] ∧ L = [.lst (iv (mid k n i m))] ∧ (i + 1) % k ^ (n - m) = 0)
    (R := fun o => ∃ m', m' ≤ n ∧ o = .next [some (wsV n k), some (.ref 0), kv, some (.int ((m' : Int) - 1))] [.lst (iv (mid k n i m'))] ∧ (i + 1) % k ^ (n - m') = 0 ∧ (m' = 0 ∨ ∃ q, m' = q + 1 ∧ i / k ^ (n - 1 - q) % k ≠ k - 1)) (fun ⟨_, _, z, _⟩ => by cases z) ?_ ⟨hm, rfl, rfl, h⟩
  rintro m ρ L ⟨hm, rfl, rfl, h⟩
  cases m with
  | zero =>
    refine ⟨false, [.lst (iv (mid k n i 0))], ?_, ?_⟩
    · have h1 : decide ((0 : Int) ≤ ((0 : Nat) : Int) - 1) = false := by decide
      simp only [gcB_seq, gcBO_def, lw_all_choices_2, evA, List.map_cons, List.map_nil, List.cons_append, List.nil_append, List.replicate, List.getElem?_cons_zero, List.getElem?_cons_succ, Option.bind_some, Option.map_some, id, List.set_cons_zero, List.set_cons_succ, List.length_cons, List.length_nil, List.length_map, List.set_set, decide_true, decide_false, Bool.and_true, Bool.true_and, if_true, if_false, Bool.false_eq_true, List.length_set, Nat.add_one_sub_one, Nat.sub_self, Nat.reduceSub, Nat.reduceAdd, Int.reduceToNat, Int.reduceLT, Int.reduceLE, Int.reducePow, decide_eq_true_eq, Bool.not_true, Bool.not_false, h1]
    · rw [if_neg (by decide)]
      exact ⟨0, Nat.zero_le _, rfl, h, .inl rfl⟩
  | succ m =>
    have e1 : ((m + 1 : Nat) : Int) - 1 = (m : Int) := by omega
    have h1 : decide ((0 : Int) ≤ (m : Int)) = true := decide_eq_true (by omega)
    have hk1 : (k : Int) - 1 = ((k - 1 : Nat) : Int) := by omega
    have hmn : m < n := by omega
    rw [e1]
    refine ⟨decide (i / k ^ (n - 1 - m) % k = k - 1), [.lst (iv (mid k n i (m + 1)))], ?_, ?_⟩
    · simp only [gcB_seq, gcBO_def, lw_all_choices_2, wsV, evA, List.map_cons, List.map_nil, List.cons_append, List.nil_append, List.replicate, List.getElem?_cons_zero, List.getElem?_cons_succ, Option.bind_some, Option.map_some, id, List.set_cons_zero, List.set_cons_succ, List.length_cons, List.length_nil, List.length_map, List.set_set, decide_true, decide_false, Bool.and_true, Bool.true_and, if_true, if_false, Bool.false_eq_true, List.length_set, Nat.add_one_sub_one, Nat.sub_self, Nat.reduceSub, Nat.reduceAdd, Int.reduceToNat, Int.reduceLT, Int.reduceLE, Int.reducePow, decide_eq_true_eq, Bool.not_true, Bool.not_false, h1, mid_at (k := k) (i := i) (show m < n by omega), rep_at (k := k) (show m < n by omega), hk1, nceq]
    · by_cases hd : i / k ^ (n - 1 - m) % k = k - 1
      · rw [if_pos (decide_eq_true hd)]
        refine .inl ⟨_, _, m, .inl ?_, Nat.lt_succ_self m, by omega, rfl, rfl, ?_⟩
        · simp only [lb_all_choices_3, evA, List.map_cons, List.map_nil, List.cons_append, List.nil_append, List.replicate, List.getElem?_cons_zero, List.getElem?_cons_succ, Option.bind_some, Option.map_some, id, List.set_cons_zero, List.set_cons_succ, List.length_cons, List.length_nil, List.length_map, List.set_set, decide_true, decide_false, Bool.and_true, Bool.true_and, if_true, if_false, Bool.false_eq_true, List.length_set, Nat.add_one_sub_one, Nat.sub_self, Nat.reduceSub, Nat.reduceAdd, Int.reduceToNat, Int.reduceLT, Int.reduceLE, Int.reducePow, decide_eq_true_eq, Bool.not_true, Bool.not_false, iv_len, mid_len hm, ixN_nat, hmn, iv_set0, mid_step hk (show m < n by omega) hd, gc_one]
        · have := mod_up (e := n - 1 - m) hk (by rw [show n - 1 - m = n - (m + 1) by omega]; exact h) hd
          rw [show n - m = n - 1 - m + 1 by omega]
          exact this
      · rw [if_neg (by simpa using hd)]
        exact ⟨m + 1, hm, by rw [e1], h, .inr ⟨m, rfl, hd⟩⟩
theorem ac_turn {d n k i : Nat} {x : PV} {av : Option PV} (hk : 0 < k) (hk2 : k ≤ 1000) (hn : n ≤ 1000) :
    ∃ av', gruns T (call T d) lg_all_choices_4 [some (wsV n k), some (.ref 0), some x, av] [.lst (iv (dig k n i))] = some ([.tup (iv (dig k n i))], [some (wsV n k), some (.ref 0), some x, av'], [.lst (iv (dig k n (i + 1)))]) := by
  obtain ⟨m, hm, hw, h1, h2⟩ := ac_whl (d := d) (n := n) (k := k) (i := i) (kv := some x) hk hk2 hn (Nat.le_refl n) (by rw [Nat.sub_self, Nat.pow_zero]; exact Nat.mod_one _)
  rw [mid_full] at hw
  refine ⟨some (.int ((m : Int) - 1)), ?_⟩
  unfold lg_all_choices_4
  refine g_yld (L' := [.lst (iv (dig k n i))]) ?_ rfl (by rw [u_tup]; exact iv_u) ?_
  · simp only [evA, List.map_cons, List.map_nil, List.cons_append, List.nil_append, List.replicate, List.getElem?_cons_zero, List.getElem?_cons_succ, Option.bind_some, Option.map_some, id, List.set_cons_zero, List.set_cons_succ, List.length_cons, List.length_nil, List.length_map, List.set_set, decide_true, decide_false, Bool.and_true, Bool.true_and, if_true, if_false, Bool.false_eq_true, List.length_set, Nat.add_one_sub_one, Nat.sub_self, Nat.reduceSub, Nat.reduceAdd, Int.reduceToNat, Int.reduceLT, Int.reduceLE, Int.reducePow, decide_eq_true_eq, Bool.not_true, Bool.not_false]
  · rw [g_st (ρ' := [some (wsV n k), some (.ref 0), some x, some (.int ((n : Int) - 1))]) (L' := [.lst (iv (dig k n i))]) (by simp only [wsV, evA, List.map_cons, List.map_nil, List.cons_append, List.nil_append, List.replicate, List.getElem?_cons_zero, List.getElem?_cons_succ, Option.bind_some, Option.map_some, id, List.set_cons_zero, List.set_cons_succ, List.length_cons, List.length_nil, List.length_map, List.set_set, decide_true, decide_false, Bool.and_true, Bool.true_and, if_true, if_false, Bool.false_eq_true, List.length_set, Nat.add_one_sub_one, Nat.sub_self, Nat.reduceSub, Nat.reduceAdd, Int.reduceToNat, Int.reduceLT, Int.reduceLE, Int.reducePow, decide_eq_true_eq, Bool.not_true, Bool.not_false, iv_len, List.length_replicate])]
    rw [g_st (by rw [x_whl]; exact hw)]
    rcases h2 with rfl | ⟨q, rfl, hd⟩
    · have e0 : decide ((0 : Int) ≤ ((0 : Nat) : Int) - 1) = false := by decide
      rw [Nat.sub_zero] at h1
      rw [g_st (ρ' := [some (wsV n k), some (.ref 0), some x, some (.int (((0 : Nat) : Int) - 1))]) (L' := [.lst (iv (dig k n (i + 1)))]) (by simp only [evA, List.map_cons, List.map_nil, List.cons_append, List.nil_append, List.replicate, List.getElem?_cons_zero, List.getElem?_cons_succ, Option.bind_some, Option.map_some, id, List.set_cons_zero, List.set_cons_succ, List.length_cons, List.length_nil, List.length_map, List.set_set, decide_true, decide_false, Bool.and_true, Bool.true_and, if_true, if_false, Bool.false_eq_true, List.length_set, Nat.add_one_sub_one, Nat.sub_self, Nat.reduceSub, Nat.reduceAdd, Int.reduceToNat, Int.reduceLT, Int.reduceLE, Int.reducePow, decide_eq_true_eq, Bool.not_true, Bool.not_false, e0, mid_done hk h1])]
      exact g_nil
    · have e1 : ((q + 1 : Nat) : Int) - 1 = (q : Int) := by omega
      have e0 : decide ((0 : Int) ≤ (q : Int)) = true := decide_eq_true (by omega)
      have hq : q < n := by omega
      rw [e1]
      rw [g_st (ρ' := [some (wsV n k), some (.ref 0), some x, some (.int (q : Int))]) (L' := [.lst (iv (dig k n (i + 1)))]) (by
        have hi := mid_inc hk hq (by rw [show n - 1 - q = n - (q + 1) by omega]; exact h1) hd
        have e2 : ((i / k ^ (n - 1 - q) % k : Nat) : Int) + 1 = ((i / k ^ (n - 1 - q) % k + 1 : Nat) : Int) := by omega
        simp only [evA, List.map_cons, List.map_nil, List.cons_append, List.nil_append, List.replicate, List.getElem?_cons_zero, List.getElem?_cons_succ, Option.bind_some, Option.map_some, id, List.set_cons_zero, List.set_cons_succ, List.length_cons, List.length_nil, List.length_map, List.set_set, decide_true, decide_false, Bool.and_true, Bool.true_and, if_true, if_false, Bool.false_eq_true, List.length_set, Nat.add_one_sub_one, Nat.sub_self, Nat.reduceSub, Nat.reduceAdd, Int.reduceToNat, Int.reduceLT, Int.reduceLE, Int.reducePow, decide_eq_true_eq, Bool.not_true, Bool.not_false, e0, mid_at hq, e2, iv_len, mid_len hm, ixN_nat, hq, iv_setn, hi, gc_one])]
      exact g_nil
theorem flat_one {α β : Type} {f : α → β} : ∀ {l : List α}, (l.map fun j => [f j]).flatten = l.map f
  | [] => rfl
  | a :: l => by rw [List.map_cons, List.flatten_cons, flat_one]; rfl
def ctxs (n k : Nat) : List PV := (List.range (k ^ n)).map fun i => .tup (iv (dig k n i))
theorem gnew0 {xs : List PV} : gc [] (.ref 0) [.lst xs] = (.ref 0, [.lst xs]) := gnew (L := [])
theorem s_all {d n k : Nat} {L : List HObj} (hk : 0 < k) (hk2 : k ≤ 1000) (hn : n ≤ 1000) (hs : k ^ n ≤ 1000) : call T (d + 2) "all_choices" [wsV n k] L = .ok (.frl (ctxs n k)) L := by
  obtain ⟨ρ', L', h1, kv, av, rfl, rfl⟩ := gloop_all (t := .one 2) (B := fun ρ1 L2 => gruns T (call T (d + 1)) lg_all_choices_4 ρ1 L2) (fun i ρ L => ∃ kv av, ρ = [some (wsV n k), some (.ref 0), kv, av] ∧ L = [.lst (iv (dig k n i))]) (fun i => [.tup (iv (dig k n i))]) (fun i x ρ L ⟨kv, av, e1, e2⟩ => by
    subst e1 e2
    obtain ⟨av', e⟩ := ac_turn (d := d + 1) (n := n) (k := k) (i := i) (x := x) (av := av) hk hk2 hn
    exact ⟨_, _, _, rfl, e, some x, av', rfl, rfl⟩) (rangeP 0 (k ^ n)) 0 [some (wsV n k), some (.ref 0), none, none] [.lst (iv (dig k n 0))] ⟨none, none, rfl, rfl⟩
  refine callG_eq lk_all lg_all (d + 1) _ L rfl (ρ' := [some (wsV n k), some (.ref 0), kv, av]) (L' := [.lst (iv (dig k n (0 + (rangeP 0 (k ^ n)).length)))]) ?_
  unfold gd_all_choices
  have hlc : exec T (call T (d + 1)) (.set 1 (.lc le_all_choices_1 (.one 2) .val [(.var 0)] [] [2])) none [some (wsV n k), none, none, none] [] = .next [some (wsV n k), some (.ref 0), none, none] [.lst (iv (dig k n 0))] := by
    rw [dig_zero]
    have hl := v_lcM (T := T) (cl := call T (d + 1)) (hx := none) (ρ := [some (wsV n k), none, none, none]) (L := []) (i := 2) (es := [.var 0]) (elt := le_all_choices_1) (k := .val) (as := List.replicate n k) (xs := [wsV n k]) (fun _ => 0) (by simp only [wsV, evA, List.map_cons, List.map_nil, List.cons_append, List.nil_append, List.replicate, List.getElem?_cons_zero, List.getElem?_cons_succ, Option.bind_some, Option.map_some, id, List.set_cons_zero, List.set_cons_succ, List.length_cons, List.length_nil, List.length_map, List.set_set, decide_true, decide_false, Bool.and_true, Bool.true_and, if_true, if_false, Bool.false_eq_true, List.length_set, Nat.add_one_sub_one, Nat.sub_self, Nat.reduceSub, Nat.reduceAdd, Int.reduceToNat, Int.reduceLT, Int.reduceLE, Int.reducePow, decide_eq_true_eq, Bool.not_true, Bool.not_false]) walk_tI (by rw [List.length_replicate]; exact hn) (fun a _ => by
      simp only [le_all_choices_1, v_cst]
      rfl)
    rw [List.map_replicate] at hl
    simp only [evA, List.map_cons, List.map_nil, List.cons_append, List.nil_append, List.replicate, List.getElem?_cons_zero, List.getElem?_cons_succ, Option.bind_some, Option.map_some, id, List.set_cons_zero, List.set_cons_succ, List.length_cons, List.length_nil, List.length_map, List.set_set, decide_true, decide_false, Bool.and_true, Bool.true_and, if_true, if_false, Bool.false_eq_true, List.length_set, Nat.add_one_sub_one, Nat.sub_self, Nat.reduceSub, Nat.reduceAdd, Int.reduceToNat, Int.reduceLT, Int.reduceLE, Int.reducePow, decide_eq_true_eq, Bool.not_true, Bool.not_false] at hl
    simp only [evA, List.map_cons, List.map_nil, List.cons_append, List.nil_append, List.replicate, List.getElem?_cons_zero, List.getElem?_cons_succ, Option.bind_some, Option.map_some, id, List.set_cons_zero, List.set_cons_succ, List.length_cons, List.length_nil, List.length_map, List.set_set, decide_true, decide_false, Bool.and_true, Bool.true_and, if_true, if_false, Bool.false_eq_true, List.length_set, Nat.add_one_sub_one, Nat.sub_self, Nat.reduceSub, Nat.reduceAdd, Int.reduceToNat, Int.reduceLT, Int.reduceLE, Int.reducePow, decide_eq_true_eq, Bool.not_true, Bool.not_false, hl, gnew0]
  show gruns T (call T (d + 1)) [.st (.set 1 (.lc le_all_choices_1 (.one 2) .val [(.var 0)] [] [2])), .forr (.one 2) (.call "count_choices" [(.var 0)]) lg_all_choices_4] [some (wsV n k), none, none, none] [] = _
  rw [g_st hlc]
  have := g_forr (T := T) (cl := call T (d + 1)) (ss := []) (t := .one 2) (a := .call "count_choices" [(.var 0)]) (b := lg_all_choices_4) (ρ := [some (wsV n k), some (.ref 0), none, none]) (L := [.lst (iv (dig k n 0))]) (j := ((k ^ n : Nat) : Int)) (L1 := [.lst (iv (dig k n 0))]) (by simp only [wsV, evA, List.map_cons, List.map_nil, List.cons_append, List.nil_append, List.replicate, List.getElem?_cons_zero, List.getElem?_cons_succ, Option.bind_some, Option.map_some, id, List.set_cons_zero, List.set_cons_succ, List.length_cons, List.length_nil, List.length_map, List.set_set, decide_true, decide_false, Bool.and_true, Bool.true_and, if_true, if_false, Bool.false_eq_true, List.length_set, Nat.add_one_sub_one, Nat.sub_self, Nat.reduceSub, Nat.reduceAdd, Int.reduceToNat, Int.reduceLT, Int.reduceLE, Int.reducePow, decide_eq_true_eq, Bool.not_true, Bool.not_false, s_count hk2]) (by unfold smallI; exact decide_eq_true ⟨by omega, by omega⟩) (by rw [Int.toNat_natCast]; exact h1) g_nil
  rw [this, rangeP_len]
  simp only [Nat.zero_add, flat_one, List.append_nil]
  rfl
/-! ### aims, plainly -/
inductive Tm where
  | any | most | fewest | fixed
  | best (rs : List Nat)
  | second (rs : List Nat)
  | like (x : Nat)
  | unlike (x : Nat)
  | among (os : List Nat)
  | only (xs : List Nat)
  | table (rows : List (List Nat))
  | either (a b : Tm)
  | both (a b : Tm)
  | els (a b : Tm)
  | not (a : Tm)
  | first (a : Tm)
  | recode (cs : List Nat) (a : Tm)
  | reorder (ps : List Nat) (a : Tm)
def Tm.dp : Tm → Nat
  | .either a b => max a.dp b.dp + 1
  | .both a b => max a.dp b.dp + 1
  | .els a b => max a.dp b.dp + 1
  | .not a => a.dp + 1
  | .first a => a.dp + 1
  | .recode _ a => a.dp + 1
  | .reorder _ a => a.dp + 1
  | _ => 1
def Asc (n : Nat) (l : List Nat) : Prop := l.Pairwise (· < ·) ∧ ∀ x ∈ l, x < n
def Below (m n : Nat) (l : List Nat) : Prop := l.length = m ∧ ∀ x ∈ l, x < n
def Tm.wf (n k : Nat) : Tm → Prop
  | .best rs => Below k 10 rs
  | .second rs => Below k 10 rs
  | .like x => x < n
  | .unlike x => x < n
  | .among os => Asc k os
  | .only xs => Asc n xs
  | .table rows => n ≤ 8 ∧ k ^ n ≤ 256 ∧ rows.length = k ^ n ∧ ∀ r ∈ rows, Asc n r
  | .either a b => a.wf n k ∧ b.wf n k
  | .both a b => a.wf n k ∧ b.wf n k
  | .els a b => a.wf n k ∧ b.wf n k
  | .not a => a.wf n k
  | .first a => a.wf n k
  | .recode cs a => Below k k cs ∧ a.wf n k
  | .reorder ps a => (Below n n ps ∧ ps.Nodup) ∧ a.wf n k
  | _ => True
def moved (ps c : List Nat) : List Nat := (List.range c.length).map fun z => c.getD (ps.idxOf z) 0
/-- is x good -/
def Tm.gb (k : Nat) : Tm → List Nat → Nat → Bool
  | .any, _, _ => true
  | .best rs, c, x => c.all fun r => decide (rs.getD r 0 ≤ rs.getD (c.getD x 0) 0)
  | .second rs, c, x => c.all (fun r => decide (rs.getD (c.getD x 0) 0 = rs.getD r 0)) || (decide (0 < (c.filter fun r => decide (rs.getD (c.getD x 0) 0 < rs.getD r 0)).length) &&
      (c.filter fun r => decide (rs.getD (c.getD x 0) 0 < rs.getD r 0)).all fun q => decide (rs.getD q 0 = ((c.filter fun r => decide (rs.getD (c.getD x 0) 0 < rs.getD r 0)).map fun r => rs.getD r 0).getD 0 0))
  | .most, c, x => c.all fun r => decide (c.count r ≤ c.count (c.getD x 0))
  | .fewest, c, x => c.all fun r => decide (c.count (c.getD x 0) ≤ c.count r)
  | .fixed, c, x => decide (c.getD x 0 = x)
  | .like y, c, x => decide (c.getD x 0 = c.getD y 0)
  | .unlike y, c, x => !decide (c.getD x 0 = c.getD y 0)
  | .among os, c, x => decide (c.getD x 0 ∈ os)
  | .only xs, _, x => decide (x ∈ xs)
  | .table rows, c, x => decide (x ∈ rows.getD (idx k c) [])
  | .either a b, c, x => a.gb k c x || b.gb k c x
  | .both a b, c, x => a.gb k c x && b.gb k c x
  | .els a b, c, x => if (List.range c.length).any (a.gb k c) = true then a.gb k c x else b.gb k c x
  | .not a, c, x => !a.gb k c x
  | .first a, c, x => a.gb k c x && (List.range x).all fun y => !a.gb k c y
  | .recode cs a, c, x => a.gb k (c.map fun r => cs.getD r 0) x
  | .reorder ps a, c, x => a.gb k (moved ps c) (ps.getD x 0)
def Tm.gd (k : Nat) (t : Tm) (c : List Nat) : List Nat := (List.range c.length).filter (t.gb k c)
theorem mem_gd {k : Nat} {t : Tm} {c : List Nat} {x : Nat} : x ∈ t.gd k c ↔ x < c.length ∧ t.gb k c x = true := by
  unfold Tm.gd
  rw [List.mem_filter, List.mem_range]
theorem dmem {k : Nat} {t : Tm} {c : List Nat} {x : Nat} (h : x < c.length) : decide (x ∈ t.gd k c) = t.gb k c x := by
  rw [Bool.eq_iff_iff, decide_eq_true_eq, mem_gd]
  simp [h]
theorem filter_congr' {α : Type} {p q : α → Bool} {l : List α} (h : ∀ x ∈ l, p x = q x) : l.filter p = l.filter q := List.filter_congr h
theorem asc_filter {n : Nat} {l : List Nat} (h : Asc n l) : (List.range n).filter (fun x => decide (x ∈ l)) = l := by
  have h1 : ((List.range n).filter (fun x => decide (x ∈ l))).Pairwise (· < ·) := List.Pairwise.filter _ List.pairwise_lt_range
  refine List.Perm.eq_of_pairwise (le := (· < ·)) (fun a b _ _ h1 h2 => absurd h1 (by omega)) h1 h.1 ?_
  refine (List.perm_ext_iff_of_nodup (h1.imp fun h => Nat.ne_of_lt h) (h.1.imp fun h => Nat.ne_of_lt h)).mpr fun x => ?_
  rw [List.mem_filter, List.mem_range, decide_eq_true_eq]
  exact ⟨fun z => z.2, fun z => ⟨h.2 x z, z⟩⟩
theorem take1_filter {p : Nat → Bool} : ∀ {n : Nat}, ((List.range n).filter p).take 1 = (List.range n).filter (fun x => p x && (List.range x).all fun y => !p y)
  | 0 => rfl
  | n + 1 => by
    rw [List.range_succ, List.filter_append, List.filter_append, ← take1_filter (n := n), List.take_append]
    by_cases h : ∃ y, y < n ∧ p y = true
    · obtain ⟨y, hy, hp⟩ := h
      have hm : y ∈ (List.range n).filter p := List.mem_filter.mpr ⟨List.mem_range.mpr hy, hp⟩
      have hl : 1 ≤ ((List.range n).filter p).length := List.length_pos_of_mem hm
      have e1 : (List.filter (fun x => p x && (List.range x).all fun y => !p y) [n]) = [] := by
        rw [List.filter_eq_nil_iff]
        intro z hz
        rw [List.mem_singleton.mp hz]
        intro q
        rw [Bool.and_eq_true, List.all_eq_true] at q
        have := q.2 y (List.mem_range.mpr hy)
        rw [hp] at this
        cases this
      rw [e1, show 1 - ((List.range n).filter p).length = 0 by omega, List.take_zero]
    · have e0 : (List.range n).filter p = [] := by
        rw [List.filter_eq_nil_iff]
        intro z hz q
        exact h ⟨z, List.mem_range.mp hz, q⟩
      have e2 : ((List.range n).all fun y => !p y) = true := by
        rw [List.all_eq_true]
        intro y hy
        cases hb : p y with
        | false => rfl
        | true => exact absurd ⟨y, List.mem_range.mp hy, hb⟩ h
      rw [e0]
      cases hp : p n <;> simp [hp, e2]
theorem getD_lt {c : List Nat} {k x : Nat} (h : ∀ y ∈ c, y < k) (hx : x < c.length) : c.getD x 0 < k := by
  rw [List.getD_eq_getElem?_getD, List.getElem?_eq_getElem hx]
  exact h _ (List.getElem_mem _)
theorem getD_mem {c : List Nat} {x : Nat} (hx : x < c.length) : c.getD x 0 ∈ c := by
  rw [List.getD_eq_getElem?_getD, List.getElem?_eq_getElem hx]
  exact List.getElem_mem _
theorem get_getD {c : List Nat} {x : Nat} (hx : x < c.length) : c[x]? = some (c.getD x 0) := by
  rw [List.getD_eq_getElem?_getD, List.getElem?_eq_getElem hx]
  rfl
theorem mxN_ge : ∀ {l : List Nat} {x : Nat}, x ∈ l → x ≤ mxN l
  | y :: l, x, h => by
    rcases List.mem_cons.mp h with rfl | h
    · exact Nat.le_max_left _ _
    · exact Nat.le_trans (mxN_ge h) (Nat.le_max_right _ _)
theorem mxN_mem : ∀ {l : List Nat}, l ≠ [] → mxN l ∈ l
  | [x], _ => by simp [mxN]
  | x :: y :: l, _ => by
    have := mxN_mem (l := y :: l) (by simp)
    unfold mxN
    rcases Nat.le_total x (mxN (y :: l)) with h | h
    · rw [Nat.max_eq_right h]; exact List.mem_cons_of_mem _ this
    · rw [Nat.max_eq_left h]; exact List.mem_cons_self
theorem mnN_le : ∀ {l : List Nat} {x : Nat}, x ∈ l → mnN l ≤ x
  | [y], x, h => by rw [List.mem_singleton.mp h]; exact Nat.le_refl _
  | y :: z :: l, x, h => by
    rcases List.mem_cons.mp h with rfl | h
    · exact Nat.min_le_left _ _
    · exact Nat.le_trans (Nat.min_le_right _ _) (mnN_le h)
theorem mnN_mem : ∀ {l : List Nat}, l ≠ [] → mnN l ∈ l
  | [x], _ => by simp [mnN]
  | x :: y :: l, _ => by
    have := mnN_mem (l := y :: l) (by simp)
    show min x (mnN (y :: l)) ∈ _
    rcases Nat.le_total x (mnN (y :: l)) with h | h
    · rw [Nat.min_eq_left h]; exact List.mem_cons_self
    · rw [Nat.min_eq_right h]; exact List.mem_cons_of_mem _ this
theorem mx_all {α : Type} {f : α → Nat} {c : List α} {m : α} (hm : m ∈ c) : decide (f m = mxN (c.map f)) = c.all fun r => decide (f r ≤ f m) := by
  rw [Bool.eq_iff_iff, decide_eq_true_eq, List.all_eq_true]
  constructor
  · intro h r hr
    rw [decide_eq_true_eq, h]
    exact mxN_ge (List.mem_map_of_mem hr)
  · intro h
    have hne : c.map f ≠ [] := fun e => by rw [List.map_eq_nil_iff] at e; rw [e] at hm; cases hm
    obtain ⟨r, hr, e⟩ := List.mem_map.mp (mxN_mem hne)
    have h1 := of_decide_eq_true (h r hr)
    have h2 := mxN_ge (List.mem_map_of_mem (f := f) hm)
    omega
theorem mn_all {α : Type} {f : α → Nat} {c : List α} {m : α} (hm : m ∈ c) : decide (f m = mnN (c.map f)) = c.all fun r => decide (f m ≤ f r) := by
  rw [Bool.eq_iff_iff, decide_eq_true_eq, List.all_eq_true]
  constructor
  · intro h r hr
    rw [decide_eq_true_eq, h]
    exact mnN_le (List.mem_map_of_mem hr)
  · intro h
    have hne : c.map f ≠ [] := fun e => by rw [List.map_eq_nil_iff] at e; rw [e] at hm; cases hm
    obtain ⟨r, hr, e⟩ := List.mem_map.mp (mnN_mem hne)
    have h1 := of_decide_eq_true (h r hr)
    have h2 := mnN_le (List.mem_map_of_mem (f := f) hm)
    omega
/-- the second greatest, by the program's words -/
def secR (rs c : List Nat) : Nat := if (c.filter fun r => decide (rs.getD r 0 < mxN (c.map fun r => rs.getD r 0))).length = 0 then mxN (c.map fun r => rs.getD r 0) else mxN ((c.filter fun r => decide (rs.getD r 0 < mxN (c.map fun r => rs.getD r 0))).map fun r => rs.getD r 0)
theorem sec_all {rs c : List Nat} {k x : Nat} (hx : x < c.length) : decide (rs.getD (c.getD x 0) 0 = secR rs c) = (Tm.second rs).gb k c x := by
  unfold Tm.gb secR
  generalize hM : mxN (c.map fun r => rs.getD r 0) = M
  generalize hf : (fun r => rs.getD r 0) = f at hM
  have ef : ∀ r, rs.getD r 0 = f r := fun r => by rw [← hf]
  simp only [ef]
  have hm := getD_mem (c := c) hx
  generalize c.getD x 0 = m at hm
  have hge : ∀ r ∈ c, f r ≤ M := fun r hr => by rw [← hM]; exact mxN_ge (List.mem_map_of_mem hr)
  obtain ⟨r0, hr0, e0⟩ : ∃ r ∈ c, f r = M := by
    have := mxN_mem (l := c.map f) (fun e => by rw [List.map_eq_nil_iff] at e; rw [e] at hm; cases hm)
    rw [hM] at this
    exact List.mem_map.mp this
  by_cases hl : (c.filter fun r => decide (f r < M)).length = 0
  · rw [if_pos hl]
    have hall : ∀ r ∈ c, f r = M := fun r hr => by
      have h1 := List.length_eq_zero_iff.mp hl
      have h2 := List.filter_eq_nil_iff.mp h1 r hr
      have h3 := hge r hr
      rw [decide_eq_true_eq] at h2
      omega
    have e1 : (c.all fun r => decide (f m = f r)) = true := by
      rw [List.all_eq_true]
      intro r hr
      rw [decide_eq_true_eq, hall r hr, hall m hm]
    rw [e1, Bool.true_or]
    exact decide_eq_true (hall m hm)
  · rw [if_neg hl]
    generalize hS : mxN ((c.filter fun r => decide (f r < M)).map f) = S
    have hne : (c.filter fun r => decide (f r < M)) ≠ [] := fun e => hl (by rw [e]; rfl)
    obtain ⟨s, hs, es⟩ : ∃ s ∈ c, f s = S ∧ S < M := by
      have := mxN_mem (l := (c.filter fun r => decide (f r < M)).map f) (fun e => hne (List.map_eq_nil_iff.mp e))
      rw [hS] at this
      obtain ⟨s, h1, h2⟩ := List.mem_map.mp this
      obtain ⟨h3, h4⟩ := List.mem_filter.mp h1
      exact ⟨s, h3, h2, by rw [← h2]; exact of_decide_eq_true h4⟩
    have hle : ∀ r ∈ c, f r < M → f r ≤ S := fun r hr h => by rw [← hS]; exact mxN_ge (List.mem_map_of_mem (List.mem_filter.mpr ⟨hr, decide_eq_true h⟩))
    have e1 : (c.all fun r => decide (f m = f r)) = false := by
      rw [List.all_eq_false]
      by_cases h : f m = M
      · exact ⟨s, hs, by rw [decide_eq_true_eq]; omega⟩
      · exact ⟨r0, hr0, by rw [decide_eq_true_eq]; omega⟩
    rw [e1, Bool.false_or, Bool.eq_iff_iff, Bool.and_eq_true, decide_eq_true_eq, decide_eq_true_eq, List.all_eq_true]
    generalize hA : (c.filter fun r => decide (f m < f r)) = A
    have hAm : ∀ r, r ∈ A ↔ r ∈ c ∧ f m < f r := fun r => by rw [← hA, List.mem_filter, decide_eq_true_eq]
    constructor
    · intro h
      have hr0A : r0 ∈ A := (hAm r0).mpr ⟨hr0, by omega⟩
      have hAll : ∀ r ∈ A, f r = M := fun r hr => by
        obtain ⟨h1, h2⟩ := (hAm r).mp hr
        have := hge r h1
        by_cases h3 : f r < M
        · have := hle r h1 h3
          omega
        · omega
      refine ⟨List.length_pos_of_mem hr0A, fun q hq => ?_⟩
      rw [decide_eq_true_eq, hAll q hq]
      have hp := List.length_pos_of_mem hr0A
      cases A with
      | nil => cases hp
      | cons a A => exact (hAll a List.mem_cons_self).symm
    · rintro ⟨h1, h2⟩
      have hr1 : f m < M := by
        by_cases h : f m < M
        · exact h
        · have := hge m hm
          cases hA2 : A with
          | nil => rw [hA2] at h1; cases h1
          | cons a A' =>
            obtain ⟨h3, h4⟩ := (hAm a).mp (by rw [hA2]; exact List.mem_cons_self)
            have := hge a h3
            omega
      have h3 := hle m hm hr1
      by_cases h4 : f m = S
      · exact h4
      · have hsA : s ∈ A := (hAm s).mpr ⟨hs, by omega⟩
        have hrA : r0 ∈ A := (hAm r0).mpr ⟨hr0, by omega⟩
        have q1 := of_decide_eq_true (h2 s hsA)
        have q2 := of_decide_eq_true (h2 r0 hrA)
        omega
theorem moved_len {ps c : List Nat} : (moved ps c).length = c.length := by unfold moved; simp
theorem moved_lt {ps c : List Nat} {k : Nat} (hp : Below c.length c.length ps ∧ ps.Nodup) (h : ∀ x ∈ c, x < k) (hk : 0 < k) : ∀ x ∈ moved ps c, x < k := fun x hx => by
  unfold moved at hx
  obtain ⟨z, _, rfl⟩ := List.mem_map.mp hx
  by_cases hz : ps.idxOf z < c.length
  · exact getD_lt h hz
  · rw [List.getD_eq_getElem?_getD, List.getElem?_eq_none (by omega)]; exact hk
/-! ### ranks, plainly -/
def blw (r : List Nat) (x : Nat) : List Nat := (List.range 10).filter fun s => decide (s ∈ r) && decide (s < x)
def dns (r : List Nat) : List Nat := r.map fun x => (blw r x).length
def lvl (r : List Nat) : List Nat := (List.range 10).filter fun s => decide (s ∈ r)
def opp (r : List Nat) : List Nat := (dns r).map fun x => mxN (dns r) - x
/-- ranks -/
def Rk (r : List Nat) : Prop := 1 ≤ r.length ∧ r.length ≤ 4 ∧ ∀ x ∈ r, x < 10
theorem mem_blw {r : List Nat} {x s : Nat} (h : ∀ y ∈ r, y < 10) : s ∈ blw r x ↔ s ∈ r ∧ s < x := by
  unfold blw
  rw [List.mem_filter, List.mem_range, Bool.and_eq_true, decide_eq_true_eq, decide_eq_true_eq]
  exact ⟨fun h => h.2, fun q => ⟨h s q.1, q⟩⟩
theorem blw_nodup {r : List Nat} {x : Nat} : (blw r x).Nodup := List.Nodup.sublist List.filter_sublist List.nodup_range
theorem sub_len : ∀ {a b : List Nat}, a.Nodup → (∀ x ∈ a, x ∈ b) → a.length ≤ b.length
  | [], _, _, _ => Nat.zero_le _
  | x :: a, b, hn, hs => by
    obtain ⟨h1, h2⟩ := List.nodup_cons.mp hn
    have hx := hs x List.mem_cons_self
    have := sub_len (b := b.erase x) h2 fun y hy => (List.mem_erase_of_ne (fun e => by rw [e] at hy; exact h1 hy)).mpr (hs y (List.mem_cons_of_mem _ hy))
    rw [List.length_erase_of_mem hx] at this
    have hp := List.length_pos_of_mem hx
    rw [List.length_cons]
    omega
theorem dns_len {r : List Nat} : (dns r).length = r.length := by unfold dns; rw [List.length_map]
theorem blw_lt {r : List Nat} {x : Nat} (h : ∀ y ∈ r, y < 10) (hx : x ∈ r) : (blw r x).length < r.length := by
  have hn : (x :: blw r x).Nodup := List.nodup_cons.mpr ⟨fun hm => by have := ((mem_blw h).mp hm).2; omega, blw_nodup⟩
  have := sub_len (b := r) hn fun y hy => by
    rcases List.mem_cons.mp hy with e | e
    · rw [e]; exact hx
    · exact ((mem_blw h).mp e).1
  rw [List.length_cons] at this
  omega
theorem dns_lt {r : List Nat} (h : ∀ y ∈ r, y < 10) : ∀ y ∈ dns r, y < r.length := fun y hy => by
  obtain ⟨x, hx, rfl⟩ := List.mem_map.mp hy
  exact blw_lt h hx
theorem dns_rk {r : List Nat} (h : Rk r) : Rk (dns r) := ⟨by rw [dns_len]; exact h.1, by rw [dns_len]; exact h.2.1, fun y hy => by have := dns_lt h.2.2 y hy; have := h.2.1; omega⟩
theorem dns_getD {r : List Nat} {i : Nat} (h : i < r.length) : (dns r).getD i 0 = (blw r (r.getD i 0)).length := by
  rw [List.getD_eq_getElem?_getD]
  unfold dns
  rw [List.getElem?_map, List.getElem?_eq_getElem h, List.getD_eq_getElem?_getD, List.getElem?_eq_getElem h]
  rfl
/-- the order of the entries -/
def Alk (a b : List Nat) : Prop := a.length = b.length ∧ ∀ i, i < a.length → ∀ j, j < a.length → (a.getD i 0 < a.getD j 0 ↔ b.getD i 0 < b.getD j 0)
theorem Alk.symm {a b : List Nat} (h : Alk a b) : Alk b a := ⟨h.1.symm, fun i hi j hj => (h.2 i (by rw [h.1]; exact hi) j (by rw [h.1]; exact hj)).symm⟩
theorem get_idxOf {r : List Nat} {s : Nat} (h : s ∈ r) : r.getD (r.idxOf s) 0 = s := by
  have hl := List.idxOf_lt_length_of_mem h
  rw [List.getD_eq_getElem?_getD, List.getElem?_eq_getElem hl]
  exact List.getElem_idxOf hl
theorem getD_inR {r : List Nat} {i : Nat} (h : i < r.length) : r.getD i 0 ∈ r := by
  rw [List.getD_eq_getElem?_getD, List.getElem?_eq_getElem h]
  exact List.getElem_mem _
theorem map_nodup {f : Nat → Nat} : ∀ {l : List Nat}, l.Nodup → (∀ x ∈ l, ∀ y ∈ l, f x = f y → x = y) → (l.map f).Nodup
  | [], _, _ => List.nodup_nil
  | x :: l, hn, hi => by
    obtain ⟨h1, h2⟩ := List.nodup_cons.mp hn
    rw [List.map_cons]
    refine List.nodup_cons.mpr ⟨fun hm => ?_, map_nodup h2 fun a ha b hb => hi a (List.mem_cons_of_mem _ ha) b (List.mem_cons_of_mem _ hb)⟩
    obtain ⟨y, hy, e⟩ := List.mem_map.mp hm
    exact h1 (hi y (List.mem_cons_of_mem _ hy) x List.mem_cons_self e ▸ hy)
theorem blw_le {a b : List Nat} (ha : ∀ y ∈ a, y < 10) (hb : ∀ y ∈ b, y < 10) (h : Alk a b) {i : Nat} (hi : i < a.length) : (blw a (a.getD i 0)).length ≤ (blw b (b.getD i 0)).length := by
  have key : ∀ s ∈ blw a (a.getD i 0), a.idxOf s < a.length ∧ a.getD (a.idxOf s) 0 = s ∧ s < a.getD i 0 := fun s hs => by
    obtain ⟨h1, h2⟩ := (mem_blw ha).mp hs
    exact ⟨List.idxOf_lt_length_of_mem h1, get_idxOf h1, h2⟩
  have hn : ((blw a (a.getD i 0)).map fun s => b.getD (a.idxOf s) 0).Nodup := map_nodup blw_nodup fun x hx y hy e => by
    obtain ⟨x1, x2, x3⟩ := key x hx
    obtain ⟨y1, y2, y3⟩ := key y hy
    have h1 := h.2 _ x1 _ y1
    have h2 := h.2 _ y1 _ x1
    rw [x2, y2] at h1 h2
    have e' : b.getD (a.idxOf x) 0 = b.getD (a.idxOf y) 0 := e
    rw [e'] at h1 h2
    omega
  have := sub_len (b := blw b (b.getD i 0)) hn fun y hy => by
    obtain ⟨s, hs, rfl⟩ := List.mem_map.mp hy
    obtain ⟨s1, s2, s3⟩ := key s hs
    refine (mem_blw hb).mpr ⟨getD_inR (by rw [← h.1]; exact s1), ?_⟩
    exact (h.2 _ s1 _ hi).mp (by rw [s2]; exact s3)
  rw [List.length_map] at this
  exact this
theorem ext_getD {a b : List Nat} (h1 : a.length = b.length) (h : ∀ i, i < a.length → a.getD i 0 = b.getD i 0) : a = b := by
  refine List.ext_getElem? fun i => ?_
  by_cases hi : i < a.length
  · have := h i hi
    rw [List.getD_eq_getElem?_getD, List.getD_eq_getElem?_getD, List.getElem?_eq_getElem hi, List.getElem?_eq_getElem (by omega : i < b.length)] at this
    rw [List.getElem?_eq_getElem hi, List.getElem?_eq_getElem (by omega : i < b.length)]
    exact congrArg some this
  · rw [List.getElem?_eq_none (by omega), List.getElem?_eq_none (by omega)]
theorem alk_dns {a b : List Nat} (ha : ∀ y ∈ a, y < 10) (hb : ∀ y ∈ b, y < 10) (h : Alk a b) : dns a = dns b := by
  refine ext_getD (by rw [dns_len, dns_len]; exact h.1) fun i hi => ?_
  rw [dns_len] at hi
  rw [dns_getD hi, dns_getD (by rw [← h.1]; exact hi)]
  exact Nat.le_antisymm (blw_le ha hb h hi) (blw_le hb ha h.symm (by rw [← h.1]; exact hi))
theorem alk_self {r : List Nat} (h : ∀ y ∈ r, y < 10) : Alk (dns r) r := by
  refine ⟨dns_len, fun i hi j hj => ?_⟩
  rw [dns_len] at hi hj
  rw [dns_getD hi, dns_getD hj]
  by_cases hlt : r.getD i 0 < r.getD j 0
  · refine ⟨fun _ => hlt, fun _ => ?_⟩
    have hn : (r.getD i 0 :: blw r (r.getD i 0)).Nodup := List.nodup_cons.mpr ⟨fun hm => by have := ((mem_blw h).mp hm).2; omega, blw_nodup⟩
    have := sub_len (b := blw r (r.getD j 0)) hn fun y hy => by
      rcases List.mem_cons.mp hy with e | e
      · rw [e]; exact (mem_blw h).mpr ⟨getD_inR hi, hlt⟩
      · have := (mem_blw h).mp e
        exact (mem_blw h).mpr ⟨this.1, by omega⟩
    rw [List.length_cons] at this
    omega
  · refine ⟨fun q => ?_, fun q => absurd q hlt⟩
    have := sub_len (a := blw r (r.getD j 0)) (b := blw r (r.getD i 0)) blw_nodup fun y hy => by
      have := (mem_blw h).mp hy
      exact (mem_blw h).mpr ⟨this.1, by omega⟩
    omega
theorem dns_dns {r : List Nat} (h : Rk r) : dns (dns r) = dns r := alk_dns (dns_rk h).2.2 h.2.2 (alk_self h.2.2)
/-! ### the program's places -/
theorem idx_flt {x : Nat} : ∀ {l : List Nat}, l.Pairwise (· < ·) → x ∈ l → l.idxOf x = (l.filter fun s => decide (s < x)).length
  | y :: ys, hp, hx => by
    obtain ⟨h1, h2⟩ := List.pairwise_cons.mp hp
    by_cases e : y = x
    · subst e
      have e1 : (y :: ys).filter (fun s => decide (s < y)) = [] := by
        rw [List.filter_eq_nil_iff]
        intro z hz
        rw [decide_eq_true_eq]
        rcases List.mem_cons.mp hz with q | q
        · omega
        · have := h1 z q; omega
      rw [e1, List.idxOf_cons_self]
      rfl
    · have hm : x ∈ ys := (List.mem_cons.mp hx).resolve_left fun q => e q.symm
      have hlt := h1 x hm
      rw [List.idxOf_cons, List.filter_cons_of_pos (by rw [decide_eq_true_eq]; exact hlt), List.length_cons, idx_flt h2 hm]
      rw [show (y == x) = false from beq_eq_false_iff_ne.mpr e]
      rfl
theorem lvl_asc {r : List Nat} : (lvl r).Pairwise (· < ·) := (List.pairwise_lt_range).sublist List.filter_sublist
theorem mem_lvl {r : List Nat} {x : Nat} (h : ∀ y ∈ r, y < 10) : x ∈ lvl r ↔ x ∈ r := by
  unfold lvl
  rw [List.mem_filter, List.mem_range, decide_eq_true_eq]
  exact ⟨fun q => q.2, fun q => ⟨h x q, q⟩⟩
theorem lvl_idx {r : List Nat} {x : Nat} (h : ∀ y ∈ r, y < 10) (hx : x ∈ r) : (lvl r).idxOf x = (blw r x).length := by
  rw [idx_flt lvl_asc ((mem_lvl h).mpr hx)]
  unfold lvl blw
  rw [List.filter_filter]
  congr 1
  exact List.filter_congr fun s _ => Bool.and_comm _ _
theorem lvl_sort {r : List Nat} (h : ∀ y ∈ r, y < 10) : sortU (r.map fun (x : Nat) => (x : Int)) = (lvl r).map fun (x : Nat) => (x : Int) := by
  refine srt_uniq sortU_lt ?_ fun k => ?_
  · rw [List.pairwise_map]
    exact lvl_asc.imp fun h => by omega
  · rw [mem_sortU, List.mem_map, List.mem_map]
    constructor
    · rintro ⟨x, hx, e⟩
      exact ⟨x, (mem_lvl h).mpr hx, e⟩
    · rintro ⟨x, hx, e⟩
      exact ⟨x, (mem_lvl h).mp hx, e⟩
/-! ### all orders -/
def isd (r : List Nat) : Bool := decide (dns r = r)
def ords (k : Nat) : List (List Nat) := ((List.range (k ^ k)).map fun i => dig k k i).filter isd
theorem ord_law {k : Nat} (h1 : 1 ≤ k) (h4 : k ≤ 4) : ∀ i, i < k ^ k → isd (dig k k i) = (List.range (mxN (dig k k i))).all fun s => decide (s ∈ dig k k i) := by
  have key : ∀ m, (∀ i, i ∈ List.range m → isd (dig k k i) = (List.range (mxN (dig k k i))).all fun s => decide (s ∈ dig k k i)) → ∀ i, i < m → isd (dig k k i) = (List.range (mxN (dig k k i))).all fun s => decide (s ∈ dig k k i) := fun m h i hi => h i (List.mem_range.mpr hi)
  rcases (by omega : k = 1 ∨ k = 2 ∨ k = 3 ∨ k = 4) with rfl | rfl | rfl | rfl
  · exact key 1 (by decide +kernel)
  · exact key 4 (by decide +kernel)
  · exact key 27 (by decide +kernel)
  · exact key 256 (by decide +kernel)
theorem filt_one {α : Type} {p : α → Bool} {a : α} : ∀ {l : List α}, l.Nodup → a ∈ l → (∀ x ∈ l, p x = true ↔ x = a) → l.filter p = [a]
  | y :: ys, hn, ha, hp => by
    obtain ⟨h1, h2⟩ := List.nodup_cons.mp hn
    by_cases e : y = a
    · subst e
      rw [List.filter_cons_of_pos ((hp y List.mem_cons_self).mpr rfl)]
      congr 1
      rw [List.filter_eq_nil_iff]
      intro z hz q
      exact h1 ((hp z (List.mem_cons_of_mem _ hz)).mp q ▸ hz)
    · rw [List.filter_cons_of_neg (fun q => e ((hp y List.mem_cons_self).mp q))]
      exact filt_one h2 ((List.mem_cons.mp ha).resolve_left fun q => e q.symm) fun x hx => hp x (List.mem_cons_of_mem _ hx)
theorem ords_nodup {k : Nat} (hk : 0 < k) : (ords k).Nodup := by
  unfold ords
  refine List.Nodup.sublist List.filter_sublist ?_
  unfold List.Nodup
  rw [List.pairwise_map]
  refine List.nodup_range.imp_of_mem fun {a b} ha hb hne e => hne ?_
  rw [← idx_dig hk (List.mem_range.mp ha), ← idx_dig hk (List.mem_range.mp hb), e]
theorem mem_ords {k : Nat} {o : List Nat} (h : o ∈ ords k) : o.length = k ∧ dns o = o := by
  unfold ords at h
  rw [List.mem_filter] at h
  obtain ⟨i, _, rfl⟩ := List.mem_map.mp h.1
  exact ⟨dig_len, of_decide_eq_true h.2⟩
theorem dns_ords {r : List Nat} (h : Rk r) : dns r ∈ ords r.length := by
  unfold ords
  rw [List.mem_filter]
  refine ⟨List.mem_map.mpr ⟨idx r.length (dns r), ?_, dig_idx dns_len (dns_lt h.2.2)⟩, decide_eq_true (dns_dns h)⟩
  exact List.mem_range.mpr (idx_lt dns_len (dns_lt h.2.2))
theorem ords_rk {k : Nat} (h1 : 1 ≤ k) (h4 : k ≤ 4) {o : List Nat} (h : o ∈ ords k) : Rk o := by
  unfold ords at h
  rw [List.mem_filter] at h
  obtain ⟨i, _, rfl⟩ := List.mem_map.mp h.1
  exact ⟨by rw [dig_len]; exact h1, by rw [dig_len]; exact h4, fun x hx => by have := dig_lt (by omega) hx; omega⟩
/-- which orders compare as r -/
theorem ords_alk {r : List Nat} (h : Rk r) {p : List Nat → Bool} (hp : ∀ o ∈ ords r.length, p o = true ↔ Alk o r) : (ords r.length).filter p = [dns r] :=
  filt_one (ords_nodup (by have := h.1; omega)) (dns_ords h) fun o ho => by
    rw [hp o ho]
    have ro := ords_rk h.1 h.2.1 ho
    constructor
    · intro q
      rw [← (mem_ords ho).2]
      exact alk_dns ro.2.2 h.2.2 q
    · intro e
      rw [e]
      exact alk_self h.2.2
def rws (rows : List (List Nat)) : List PV := rows.map fun r => .tup (iv r)
theorem rws_len {rows : List (List Nat)} : (rws rows).length = rows.length := List.length_map ..
theorem rws_u {rows : List (List Nat)} {n : Nat} : unders n (rws rows) = true := u_mapf fun r => by rw [u_tup, iv_u]
theorem rws_at {rows : List (List Nat)} {i : Nat} (h : i < rows.length) : L2.atI (rws rows) (i : Int) = some (.tup (iv (rows.getD i []))) := by
  rw [atI_nat]
  unfold rws
  rw [List.getElem?_map, List.getD_eq_getElem?_getD, List.getElem?_eq_getElem h]
  rfl
/-! ### draws, over the state alone -/
theorem St_u {sc : List Int} {o : HObj} {n : Nat} (h : St sc o) : o.under n = true := by
  obtain ⟨s, a, r, rfl, _⟩ := h
  simp only [u_lst, u_cons, u_int, u_frl, u_ints, u_nil, Bool.and_self]
theorem pickN {d lim : Nat} {L : List HObj} {sc : List Int} {o : HObj} (hk : L[0]? = some o) (ho : St sc o) (hl : 0 < lim) (hl2 : lim ≤ 1000) :
    ∃ (v : Nat) (o' : HObj), call T (d + 1) "_law_pick" [.ref 0, .int (lim : Int)] L = .ok (.int (v : Int)) (L.set 0 o') ∧ v < lim ∧ St sc o' := by
  obtain ⟨v, o', h1, h2, h3, h4⟩ := s_pick (d := d) (k := 0) (lim := (lim : Int)) hk ho (by omega) (by omega)
  obtain ⟨w, rfl⟩ := Int.eq_ofNat_of_zero_le h2
  exact ⟨w, o', h1, by omega, h4⟩
theorem pick1 {d lim : Nat} {sc : List Int} {o : HObj} (ho : St sc o) (hl : 0 < lim) (hl2 : lim ≤ 1000) :
    ∃ (v : Nat) (o' : HObj), call T (d + 1) "_law_pick" [.ref 0, .int (lim : Int)] [o] = .ok (.int (v : Int)) [o'] ∧ v < lim ∧ St sc o' :=
  pickN (L := [o]) rfl ho hl hl2
theorem gcA {o o' : HObj} {v : PV} (h : o'.under 1 = true) (hv : v.under 1 = true) : gc [o] v [o'] = (v, [o']) := gc_set0 (L := [o]) (k := 0) (o := o') h hv
theorem fzA {o o' : HObj} {v : PV} (h : o'.under 1 = true) (hv : v.under 1 = true) : fz [o] v [o'] = (v, [o']) := fz_set0 (L := [o]) (k := 0) (o := o') h hv
theorem gcAt {o o' : HObj} {t : List HObj} {v : PV} (h : o'.under 1 = true) (hv : v.under 1 = true) : gc [o] v (o' :: t) = (v, [o']) := gc_set (L := [o]) (t := t) (k := 0) (o := o') h hv
theorem fzAt {o o' : HObj} {t : List HObj} {v : PV} (h : o'.under 1 = true) (hv : v.under 1 = true) : fz [o] v (o' :: t) = (v, [o']) := fz_set (L := [o]) (t := t) (k := 0) (o := o') h hv
theorem fzcA {o o' : HObj} {xs : List PV} (h : o'.under 1 = true) (hx : unders 1 xs = true) : fz [o] (.ref 1) [o', .lst xs] = (.frl xs, [o']) := fz_lst2 (L := [o]) (k := 0) (o := o') h hx
theorem gcNA {o o' : HObj} {xs : List PV} (h : o'.under 1 = true) (hx : unders 1 xs = true) : gc [o] (.ref 1) [o', .lst xs] = (.ref 1, [o', .lst xs]) := by
  unfold gc
  rw [if_pos (show okOld [o] [o', .lst xs] from okOld_set (L := [o]) (k := 0) (o := o') (t := [.lst xs]) h), if_neg (by rw [u_ref]; simp)]
  show (if (HObj.lst xs).under 1 = true then (PV.ref 1, [o'] ++ [HObj.lst xs]) else _) = _
  rw [if_pos (by rw [u_lst]; exact hx)]
  rfl
theorem gcBB {o o' s s' : HObj} {v : PV} (h : o'.under 2 = true) (h2 : s'.under 2 = true) (hv : v.under 2 = true) : gc [o, s] v [o', s'] = (v, [o', s']) :=
  gc_same (same_trans (same_set (L := [o, s]) (k := 0) (o := o') h) (same_set (L := [o', s]) (k := 1) (o := s') h2)) hv
theorem lc_allF {g : Option (Nat × List PV)} {tg : Tg} {cond : Env' → M Bool} {elt : Env' → M PV} {ρ : Env'} (I : Nat → List PV → List HObj → Prop) : ∀ (items : List PV) (i0 : Nat) (acc : List PV) (L : List HObj), (∀ i acc L, I i acc L → guardOk g L) →
    (∀ i x acc L, items[i]? = some x → I (i0 + i) acc L → ∃ ρ1, bindT tg x ρ = some ρ1 ∧ ((∃ L1 v L2, cond ρ1 L = .ok true L1 ∧ elt ρ1 L1 = .ok v L2 ∧ I (i0 + i + 1) (acc ++ [(gc L v L2).1]) (gc L v L2).2) ∨ (∃ L1, cond ρ1 L = .ok false L1 ∧ I (i0 + i + 1) acc (gc L .non L1).2))) →
    I i0 acc L → ∃ acc' L', lcLoop g tg cond elt ρ items acc L = .ok acc' L' ∧ I (i0 + items.length) acc' L'
  | [], i0, acc, L, hg, _, h => by
    refine ⟨acc, L, ?_, h⟩
    unfold lcLoop
    exact if_pos (hg _ _ _ h)
  | x :: xs, i0, acc, L, hg, step, h => by
    obtain ⟨ρ1, h1, h2⟩ := step 0 x acc L rfl h
    have next : ∀ acc L, I (i0 + 1) acc L → ∃ acc' L', lcLoop g tg cond elt ρ xs acc L = .ok acc' L' ∧ I (i0 + (x :: xs).length) acc' L' := fun acc L hI => by
      have := lc_allF (g := g) (tg := tg) (cond := cond) (elt := elt) (ρ := ρ) I xs (i0 + 1) acc L hg (fun i y acc L hy hI => by
        have := step (i + 1) y acc L (by simpa using hy) (by rw [show i0 + (i + 1) = i0 + 1 + i by omega]; exact hI)
        rw [show i0 + (i + 1) + 1 = i0 + 1 + i + 1 by omega] at this
        exact this) hI
      rw [show i0 + 1 + xs.length = i0 + (x :: xs).length by rw [List.length_cons]; omega] at this
      exact this
    rw [lcLoop]
    simp only
    rw [if_pos (hg _ _ _ h), h1]
    rcases h2 with ⟨L1, v, L2, h2, h3, h4⟩ | ⟨L1, h2, h4⟩
    · simp only [h2, h3]
      exact next _ _ h4
    · simp only [h2]
      exact next _ _ h4
theorem draw1 {d lim m i : Nat} {sc : List Int} {o : HObj} {elt : Ex} {es : List Ex} {ρ : Env'} (ho : St sc o) (hl : 0 < lim) (hl2 : lim ≤ 1000) (hm : m ≤ 1000) (he : evs T (call T (d + 1)) none es ρ [o] = .ok [.int (m : Int)] [o])
    (hb : ∀ (x : PV) (o1 : HObj), ev T (call T (d + 1)) none elt ((ρ.set i none).set i (some x)) [o1] = call T (d + 1) "_law_pick" [.ref 0, .int (lim : Int)] [o1]) :
    ∃ (l : List Nat) (o' : HObj), ev T (call T (d + 1)) none (.lc elt (.one i) .range es [] [i]) ρ [o] = .ok (.ref 1) [o', .lst (iv l)] ∧ Below m lim l ∧ St sc o' := by
  obtain ⟨acc, L', e, o', l, rfl, ho', rfl, hll, hlt⟩ := lc_all (g := none) (tg := .one i) (cond := fun ρ1 => evc T (call T (d + 1)) none [] ρ1) (elt := fun ρ1 => ev T (call T (d + 1)) none elt ρ1) (ρ := ρ.set i none) (fun j acc L' => ∃ (o1 : HObj) (l : List Nat), L' = [o1] ∧ St sc o1 ∧ acc = iv l ∧ l.length = j ∧ ∀ x ∈ l, x < lim) (rangeP 0 m) 0 [] [o] (fun _ _ _ _ => trivial) (fun j x acc L1 hx hI => by
    obtain ⟨o1, l, rfl, ho1, rfl, hll, hlt⟩ := hI
    obtain ⟨v, o2, e, hv, ho2⟩ := pick1 (d := d) ho1 hl hl2
    refine ⟨_, .int (v : Int), [o2], rfl, vc_nil, (hb x o1).trans e, ?_⟩
    rw [gcA (St_u ho2) u_int]
    exact ⟨o2, l ++ [v], rfl, ho2, by rw [iv_app]; rfl, by rw [List.length_append]; simp; omega, fun x hx => by
      rcases List.mem_append.mp hx with hx | hx
      · exact hlt x hx
      · rw [List.mem_singleton.mp hx]; exact hv⟩) ⟨o, [], rfl, ho, rfl, rfl, fun x hx => by cases hx⟩
  rw [rangeP_len] at hll
  have hwk : walkOf [o] .range [.int (m : Int)] [o] = some ⟨rangeP 0 m, none, [o]⟩ := by
    rw [walk_range1 (by omega) (by omega), gc_id u_non, Int.toNat_natCast]
  refine ⟨l, o', ?_, ⟨by omega, hlt⟩, ho'⟩
  rw [v_lc, he, seq_ok, hwk, opt_some, sized_le (by rw [rangeP_len]; exact hm)]
  show (lcLoop none (.one i) (fun ρ1 => evc T (call T (d + 1)) none [] ρ1) (fun ρ1 => ev T (call T (d + 1)) none elt ρ1) (ρ.set i none) (rangeP 0 m) [] [o]).lc = _
  rw [e, lc_ok]
  rfl
theorem iv_erase : ∀ {l : List Nat} {v : Nat}, (iv l).eraseIdx v = iv (l.eraseIdx v)
  | [], _ => rfl
  | x :: l, 0 => rfl
  | x :: l, v + 1 => by
    rw [iv_cons, List.eraseIdx_cons_succ, List.eraseIdx_cons_succ, iv_cons, iv_erase]
theorem erase_perm : ∀ {l : List Nat} {v : Nat} (h : v < l.length), (l[v] :: l.eraseIdx v).Perm l
  | x :: l, 0, _ => List.Perm.refl _
  | x :: l, v + 1, h => by
    rw [List.eraseIdx_cons_succ, List.getElem_cons_succ]
    exact (List.Perm.swap _ _ _).trans ((erase_perm (by simpa using h)).cons x)
theorem lk_lcontexts : T.fns.lookup "_law_contexts" = some fd__law_contexts := rfl
theorem s_lcontexts {d n k : Nat} {L : List HObj} (hk : k ≤ 1000) (hn : n ≤ 1000) : call T (d + 1) "_law_contexts" [.int (n : Int), .int (k : Int)] L = .ok (.int ((k ^ n : Nat) : Int)) L := by
  obtain ⟨kv, hl⟩ := for_st (tg := .one 3) (body := fun ρ1 L2 => execs T (call T d) lb__law_contexts_1 none ρ1 L2) (rangeP 0 n) (fun i kv => [some (.int (n : Int)), some (.int (k : Int)), some (.int ((k ^ i : Nat) : Int)), kv]) (fun _ => L) none (fun i x kv hx => by
    obtain ⟨rfl, hi⟩ := rangeP_get hx
    refine ⟨_, rfl, ?_⟩
    simp only [lb__law_contexts_1, evA, List.map_cons, List.map_nil, List.cons_append, List.nil_append, List.replicate, List.getElem?_cons_zero, List.getElem?_cons_succ, Option.bind_some, Option.map_some, id, List.set_cons_zero, List.set_cons_succ, List.length_cons, List.length_nil, List.length_map, List.set_set, decide_true, decide_false, Bool.and_true, Bool.true_and, if_true, if_false, Bool.false_eq_true, List.length_set, Nat.add_one_sub_one, Nat.sub_self, Nat.reduceSub, Nat.reduceAdd, Int.reduceToNat, Int.reduceLT, Int.reduceLE, Int.reducePow, decide_eq_true_eq, Bool.not_true, Bool.not_false, mulS hk, nmul, ← Nat.pow_succ])
  rw [rangeP_len] at hl
  have hw : walkOf L .range [.int (n : Int)] L = some ⟨rangeP 0 n, none, L⟩ := by
    rw [walk_range1 (by omega) (by omega), gc_id u_non, Int.toNat_natCast]
  have h0 : ((k ^ 0 : Nat) : Int) = 1 := by simp
  rw [h0] at hl
  rw [call_eq lk_lcontexts d _ _ rfl]
  simp only [fd__law_contexts, evA, List.map_cons, List.map_nil, List.cons_append, List.nil_append, List.replicate, List.getElem?_cons_zero, List.getElem?_cons_succ, Option.bind_some, Option.map_some, id, List.set_cons_zero, List.set_cons_succ, List.length_cons, List.length_nil, List.length_map, List.set_set, decide_true, decide_false, Bool.and_true, Bool.true_and, if_true, if_false, Bool.false_eq_true, List.length_set, Nat.add_one_sub_one, Nat.sub_self, Nat.reduceSub, Nat.reduceAdd, Int.reduceToNat, Int.reduceLT, Int.reduceLE, Int.reducePow, decide_eq_true_eq, Bool.not_true, Bool.not_false, hw, hl]
/-! ### the contexts by their numbers -/
theorem lk_lcontext : T.fns.lookup "_law_context" = some fd__law_context := rfl
section
variable {n k d x : Nat} {L : List HObj}
theorem s_lcontext (hk : 0 < k) (hk2 : k ≤ 1000) (hn : n ≤ 1000) : call T (d + 1) "_law_context" [.int (x : Int), .int (n : Int), .int (k : Int)] L = .ok (.tup (iv (dig k n x))) L := by
  obtain ⟨kv, hl⟩ := for_st (tg := .one 5) (body := fun ρ1 L2 => execs T (call T d) lb__law_context_1 none ρ1 L2) (rangeP 0 n) (fun i kv => [some (.int (x : Int)), some (.int (n : Int)), some (.int (k : Int)), some (.frl (iv (dig k i x))), some (.int ((x / k ^ i : Nat) : Int)), kv]) (fun _ => L) none (fun i y kv hx => by
    obtain ⟨rfl, hi⟩ := rangeP_get hx
    refine ⟨_, rfl, ?_⟩
    have e1 : [PV.int ((x / k ^ i % k : Nat) : Int)] ++ iv (dig k i x) = iv (dig k (i + 1) x) := by rw [dig_cons, iv_cons]; rfl
    have e2 : x / k ^ i / k = x / k ^ (i + 1) := by rw [Nat.div_div_eq_div_mul, Nat.pow_succ]
    have hb : ∀ L', binop .add (.frl [PV.int ((x / k ^ i % k : Nat) : Int)]) (.frl (iv (dig k i x))) L' = .ok (.ref L'.length) (L' ++ [.lst (iv (dig k (i + 1) x))]) := fun L' => by
      rw [b_frl (by rw [iv_len, dig_len]; simp; omega), e1]
    have e3 : ∀ L', binop .mod (.int ((x / k ^ i : Nat) : Int)) (.int (k : Int)) L' = .ok (.int ((x / k ^ i % k : Nat) : Int)) L' := fun L' => by
      rw [b_mod (by omega), nmod]
    have e4 : ∀ L', binop .fdiv (.int ((x / k ^ i : Nat) : Int)) (.int (k : Int)) L' = .ok (.int ((x / k ^ (i + 1) : Nat) : Int)) L' := fun L' => by
      rw [b_div (cdiv (by omega) (by omega)), ndiv, e2]
    simp only [lb__law_context_1, evA, List.map_cons, List.map_nil, List.cons_append, List.nil_append, List.replicate, List.getElem?_cons_zero, List.getElem?_cons_succ, Option.bind_some, Option.map_some, id, List.set_cons_zero, List.set_cons_succ, List.length_cons, List.length_nil, List.length_map, List.set_set, decide_true, decide_false, Bool.and_true, Bool.true_and, if_true, if_false, Bool.false_eq_true, List.length_set, Nat.add_one_sub_one, Nat.sub_self, Nat.reduceSub, Nat.reduceAdd, Int.reduceToNat, Int.reduceLT, Int.reduceLE, Int.reducePow, decide_eq_true_eq, Bool.not_true, Bool.not_false, e3, e4, hb, iv_u])
  rw [rangeP_len] at hl
  have hw : walkOf L .range [.int (n : Int)] L = some ⟨rangeP 0 n, none, L⟩ := by
    rw [walk_range1 (by omega) (by omega), gc_id u_non, Int.toNat_natCast]
  rw [Nat.pow_zero, Nat.div_one] at hl
  have h0 : iv (dig k 0 x) = [] := by rw [List.eq_nil_of_length_eq_zero dig_len]; exact iv_nil
  rw [h0] at hl
  rw [call_eq lk_lcontext d _ _ rfl]
  simp only [fd__law_context, evA, List.map_cons, List.map_nil, List.cons_append, List.nil_append, List.replicate, List.getElem?_cons_zero, List.getElem?_cons_succ, Option.bind_some, Option.map_some, id, List.set_cons_zero, List.set_cons_succ, List.length_cons, List.length_nil, List.length_map, List.set_set, decide_true, decide_false, Bool.and_true, Bool.true_and, if_true, if_false, Bool.false_eq_true, List.length_set, Nat.add_one_sub_one, Nat.sub_self, Nat.reduceSub, Nat.reduceAdd, Int.reduceToNat, Int.reduceLT, Int.reduceLE, Int.reducePow, decide_eq_true_eq, Bool.not_true, Bool.not_false, hw, hl, iv_u]
end
section
variable {n k : Nat} {L : List HObj}
theorem lstO_next {ρ : Env'} (h : L.all isLst = true) : lstO (.next ρ L) = .next ρ L := if_pos h
theorem lstO_ret {v : PV} : lstO (.ret v L) = .ret v L := by rfl
theorem lst_app {xs : List PV} (h : L.all isLst = true) : (L ++ [HObj.lst xs]).all isLst = true := by rw [List.all_append, h]; rfl
theorem ctxs_get {i : Nat} {x : PV} (h : (ctxs n k)[i]? = some x) : x = .tup (iv (dig k n i)) ∧ i < k ^ n := by
  unfold ctxs at h
  rw [List.getElem?_map] at h
  obtain ⟨j, hj, rfl⟩ := Option.map_eq_some_iff.mp h
  obtain ⟨hl, e⟩ := List.getElem?_eq_some_iff.mp hj
  rw [List.getElem_range] at e
  rw [List.length_range] at hl
  subst e
  exact ⟨rfl, hl⟩
theorem ctxs_len : (ctxs n k).length = k ^ n := by unfold ctxs; rw [List.length_map, List.length_range]
theorem u_takeR {m i : Nat} {l : List (List Nat)} : (HObj.lst ((rws l).take i)).under m = true := by
  rw [u_lst, show (rws l).take i = rws (l.take i) from List.map_take.symm]
  exact rws_u
theorem fz_apT {v : PV} {o : HObj} (h : v.under L.length = true) : fz L v (L ++ [o]) = (v, L) := fz_tk (by simp) (by simp) h
end
/-! ### sameness -/
theorem lk_same : T.fns.lookup "_law_same" = some fd__law_same := rfl
theorem c_eqb {a b : Bool} {L : List HObj} : cmpop .eq (.bl a) (.bl b) L = .ok (a == b) L := by cases L <;> rfl
theorem is_blT {a : Bool} {t : ITy} {L : List HObj} : isTy t (.bl a) L = .ok (.bl (t == .bool || t == .int)) L := by cases L <;> rfl
theorem itb1 : (ITy.tuple == ITy.tuple) = true := rfl
theorem itb2 : (ITy.str == ITy.tuple) = false := rfl
theorem itb3 : (ITy.bool == ITy.tuple) = false := rfl
theorem itb4 : (ITy.int == ITy.tuple) = false := rfl
theorem itb5 : (ITy.tuple == ITy.str) = false := rfl
theorem itb6 : (ITy.str == ITy.str) = true := rfl
theorem itb7 : (ITy.bool == ITy.str) = false := rfl
theorem itb8 : (ITy.int == ITy.str) = false := rfl
theorem itb9 : (ITy.tuple == ITy.bool) = false := rfl
theorem itba : (ITy.str == ITy.bool) = false := rfl
theorem itbb : (ITy.bool == ITy.bool) = true := rfl
theorem itbc : (ITy.int == ITy.bool) = false := rfl
theorem itbd : (ITy.tuple == ITy.int) = false := rfl
theorem itbe : (ITy.str == ITy.int) = false := rfl
theorem itbf : (ITy.bool == ITy.int) = false := rfl
theorem itbg : (ITy.int == ITy.int) = true := rfl
/-- a value of tuples, numbers, texts, truths, so deep -/
inductive Pl0 : Nat → PV → Prop where
  | int (d : Nat) (i : Int) : Pl0 d (.int i)
  | str (d : Nat) (s : PySem.Str) : Pl0 d (.str s)
  | bl (d : Nat) (b : Bool) : Pl0 d (.bl b)
  | tup (d : Nat) (xs : List PV) (h : ∀ x ∈ xs, Pl0 d x) (hl : xs.length ≤ 1000) : Pl0 (d + 1) (.tup xs)
theorem Pl0.mono {d e : Nat} {v : PV} (h : Pl0 d v) : d ≤ e → Pl0 e v := by
  induction h generalizing e with
  | int => exact fun _ => .int _ _
  | str => exact fun _ => .str _ _
  | bl => exact fun _ => .bl _ _
  | tup d xs h hl ih =>
    intro he
    obtain ⟨e, rfl⟩ : ∃ f, e = f + 1 := ⟨e - 1, by omega⟩
    exact .tup e xs (fun x hx => ih x hx (by omega)) hl
theorem pl_iv {l : List Nat} (h : l.length ≤ 1000) : Pl0 1 (.tup (iv l)) := .tup 0 _ (fun x hx => by
  obtain ⟨y, _, rfl⟩ := List.mem_map.mp hx
  exact .int _ _) (by rw [iv_len]; exact h)
theorem s_refl {v : PV} {e : Nat} (h : Pl0 e v) : ∀ (d : Nat) (L : List HObj), call T (d + e + 1) "_law_same" [v, v] L = .ok (.bl true) L := by
  induction h with
  | int e i =>
    intro d L
    rw [call_eq lk_same (d + e) _ _ rfl]
    simp only [fd__law_same, evA, List.map_cons, List.map_nil, List.cons_append, List.nil_append, List.replicate, List.getElem?_cons_zero, List.getElem?_cons_succ, Option.bind_some, Option.map_some, id, List.set_cons_zero, List.set_cons_succ, List.length_cons, List.length_nil, List.length_map, List.set_set, decide_true, decide_false, Bool.and_true, Bool.true_and, if_true, if_false, Bool.false_eq_true, List.length_set, Nat.add_one_sub_one, Nat.sub_self, Nat.reduceSub, Nat.reduceAdd, Int.reduceToNat, Int.reduceLT, Int.reduceLE, Int.reducePow, decide_eq_true_eq, Bool.not_true, Bool.not_false, is_int, itb2, itb3, itb1, itb4, itb5, itb6, itb7, itb8, itb9, itba, itbb, itbc, itbd, itbe, itbf, itbg, beq_self_eq_true, PV.isNon]
  | str e s =>
    intro d L
    rw [call_eq lk_same (d + e) _ _ rfl]
    simp only [fd__law_same, evA, List.map_cons, List.map_nil, List.cons_append, List.nil_append, List.replicate, List.getElem?_cons_zero, List.getElem?_cons_succ, Option.bind_some, Option.map_some, id, List.set_cons_zero, List.set_cons_succ, List.length_cons, List.length_nil, List.length_map, List.set_set, decide_true, decide_false, Bool.and_true, Bool.true_and, if_true, if_false, Bool.false_eq_true, List.length_set, Nat.add_one_sub_one, Nat.sub_self, Nat.reduceSub, Nat.reduceAdd, Int.reduceToNat, Int.reduceLT, Int.reduceLE, Int.reducePow, decide_eq_true_eq, Bool.not_true, Bool.not_false, is_str, itb2, itb3, itb1, itb4, itb5, itb6, itb7, itb8, itb9, itba, itbb, itbc, itbd, itbe, itbf, itbg, beq_self_eq_true, PV.isNon]
  | bl e b =>
    intro d L
    rw [call_eq lk_same (d + e) _ _ rfl]
    simp only [fd__law_same, evA, List.map_cons, List.map_nil, List.cons_append, List.nil_append, List.replicate, List.getElem?_cons_zero, List.getElem?_cons_succ, Option.bind_some, Option.map_some, id, List.set_cons_zero, List.set_cons_succ, List.length_cons, List.length_nil, List.length_map, List.set_set, decide_true, decide_false, Bool.and_true, Bool.true_and, if_true, if_false, Bool.false_eq_true, List.length_set, Nat.add_one_sub_one, Nat.sub_self, Nat.reduceSub, Nat.reduceAdd, Int.reduceToNat, Int.reduceLT, Int.reduceLE, Int.reducePow, decide_eq_true_eq, Bool.not_true, Bool.not_false, is_blT, c_eqb, itb2, itb3, itb1, itb4, itb5, itb6, itb7, itb8, itb9, itba, itbb, itbc, itbd, itbe, itbf, itbg, Bool.or_false, Bool.or_true, Bool.false_or, Bool.true_or, beq_self_eq_true, PV.isNon]
  | tup e xs h hl ih =>
    intro d L
    show call T ((d + e + 1) + 1) "_law_same" _ _ = _
    have h1 : ev T (call T (d + e + 1)) none (.lc le__law_same_1 (.one 2) .range [.blt .len [.var 1]] [] [2]) [some (.tup xs), some (.tup xs), none] L = .ok (.ref L.length) (L ++ [.lst ((List.range xs.length).map fun _ => .bl true)]) :=
      v_lcB (fun _ => true) (by simp only [evA, List.map_cons, List.map_nil, List.cons_append, List.nil_append, List.replicate, List.getElem?_cons_zero, List.getElem?_cons_succ, Option.bind_some, Option.map_some, id, List.set_cons_zero, List.set_cons_succ, List.length_cons, List.length_nil, List.length_map, List.set_set, decide_true, decide_false, Bool.and_true, Bool.true_and, if_true, if_false, Bool.false_eq_true, List.length_set, Nat.add_one_sub_one, Nat.sub_self, Nat.reduceSub, Nat.reduceAdd, Int.reduceToNat, Int.reduceLT, Int.reduceLE, Int.reducePow, decide_eq_true_eq, Bool.not_true, Bool.not_false]) (walk_rI hl) (by rw [List.length_range]; exact hl) fun a ha => by
        have ha' := List.mem_range.mp ha
        have hat : L2.atI xs (a : Int) = some xs[a] := by rw [atI_nat, List.getElem?_eq_getElem ha']
        simp only [le__law_same_1, evA, List.map_cons, List.map_nil, List.cons_append, List.nil_append, List.replicate, List.getElem?_cons_zero, List.getElem?_cons_succ, Option.bind_some, Option.map_some, id, List.set_cons_zero, List.set_cons_succ, List.length_cons, List.length_nil, List.length_map, List.set_set, decide_true, decide_false, Bool.and_true, Bool.true_and, if_true, if_false, Bool.false_eq_true, List.length_set, Nat.add_one_sub_one, Nat.sub_self, Nat.reduceSub, Nat.reduceAdd, Int.reduceToNat, Int.reduceLT, Int.reduceLE, Int.reducePow, decide_eq_true_eq, Bool.not_true, Bool.not_false, hat, ih _ (List.getElem_mem ha') d L]
    have hall : ((List.range xs.length).all fun _ => true) = true := by simp
    rw [call_eq lk_same (d + e + 1) _ _ rfl]
    simp only [fd__law_same, evA, List.map_cons, List.map_nil, List.cons_append, List.nil_append, List.replicate, List.getElem?_cons_zero, List.getElem?_cons_succ, Option.bind_some, Option.map_some, id, List.set_cons_zero, List.set_cons_succ, List.length_cons, List.length_nil, List.length_map, List.set_set, decide_true, decide_false, Bool.and_true, Bool.true_and, if_true, if_false, Bool.false_eq_true, List.length_set, Nat.add_one_sub_one, Nat.sub_self, Nat.reduceSub, Nat.reduceAdd, Int.reduceToNat, Int.reduceLT, Int.reduceLE, Int.reducePow, decide_eq_true_eq, Bool.not_true, Bool.not_false, is_tup, itb1, c_nei, beq_self_eq_true, h1, bls_u, f_allF, hall]
/-! ### dense_ranks, opposite_ranks -/
theorem lk_dense : T.fns.lookup "dense_ranks" = some fd_dense_ranks := rfl
theorem g_MRK : T.csts.lookup "MOST_RANK" = some (.int 9) := rfl
theorem g_MUT : T.csts.lookup "MOST_OUTCOMES" = some (.int 4) := rfl
theorem ex_oor : T.excs.lookup "OutOfRange" = some none := rfl
theorem v_sst {T : Tab} {cl : String → List PV → M PV} {hx : HX} {ρ : Env'} {L : List HObj} {a : Ex} : ev T cl hx (.sst a) ρ L = (ev T cl hx a ρ L).seq fun x L1 => sstP x L1 := by
  show bnd _ _ _ = _
  simp only [bnd_fun]
  try rfl
theorem sst_iv {r : List Nat} {L : List HObj} (hl : r.length ≤ 4) (h : ∀ y ∈ r, y < 10) : sstP (.tup (iv r)) L = .ok (.ref L.length) (L ++ [.lst (iv (lvl r))]) := by
  show (match asInts (iv r) with
    | some ns => if ns.length < 64 then Out.ok (PV.ref L.length) (L ++ [HObj.lst ((sortU ns).map PV.int)]) else .stuck
    | none => .stuck) = _
  rw [asInts_iv]
  simp only
  rw [if_pos (by rw [List.length_map]; omega), lvl_sort h, ← iv_int]
theorem f_maxT {l : List Nat} {L : List HObj} (h : l ≠ []) : bltin .max [.tup (iv l)] L = .ok (.int ((mxN l : Nat) : Int)) L := by
  cases l with
  | nil => exact absurd rfl h
  | cons x l =>
    have e : asInts (iv (x :: l)) = some ((x :: l).map fun x => ((x : Nat) : Int)) := asInts_iv
    have e2 : bltin .max [.tup (iv (x :: l))] L = match asInts (iv (x :: l)) with
      | some (x :: xs) => Out.ok (PV.int (maxL (x :: xs))) L
      | _ => Out.stuck := rfl
    rw [e2, e]
    show Out.ok (PV.int (maxL ((x :: l).map fun x => ((x : Nat) : Int)))) L = _
    rw [maxL_mxN]
theorem m_indexF {x : Nat} {l : List Nat} {L : List HObj} (h : x ∈ l) : meth .index (.frl (iv l)) [.int (x : Int)] L = .ok (.int ((l.idxOf x : Nat) : Int)) L := by
  show (if ((PV.int (x : Int)).flat && (iv l).all PV.flat) = true then (match idxOf (.int (x : Int)) (iv l) with
      | some j => Out.ok (PV.int (j : Int)) L
      | none => .stuck) else .stuck) = _
  rw [flat_iv, idxOf_iv h]
  rfl
theorem r_indexF {xs : List PV} {L : List HObj} : recvOk .index (.frl xs) L = true := by cases L <;> rfl
theorem s_belowJ {d n : Nat} {x : Int} {L : List HObj} : call T (d + 1) "is_below" [.int x, .int (n : Int)] L = .ok (.bl (decide (0 ≤ x ∧ x < (n : Int)))) L := by
  rw [call_eq lk_below d _ _ rfl]
  by_cases h : 0 ≤ x
  · by_cases h2 : x < (n : Int)
    · simp only [fd_is_below, evA, List.map_cons, List.map_nil, List.cons_append, List.nil_append, List.replicate, List.getElem?_cons_zero, List.getElem?_cons_succ, Option.bind_some, Option.map_some, id, List.set_cons_zero, List.set_cons_succ, List.length_cons, List.length_nil, List.length_map, List.set_set, decide_true, decide_false, Bool.and_true, Bool.true_and, if_true, if_false, Bool.false_eq_true, List.length_set, Nat.add_one_sub_one, Nat.sub_self, Nat.reduceSub, Nat.reduceAdd, Int.reduceToNat, Int.reduceLT, Int.reduceLE, Int.reducePow, decide_eq_true_eq, Bool.not_true, Bool.not_false, is_int, beq_self_eq_true, h, h2, and_self]
    · simp only [fd_is_below, evA, List.map_cons, List.map_nil, List.cons_append, List.nil_append, List.replicate, List.getElem?_cons_zero, List.getElem?_cons_succ, Option.bind_some, Option.map_some, id, List.set_cons_zero, List.set_cons_succ, List.length_cons, List.length_nil, List.length_map, List.set_set, decide_true, decide_false, Bool.and_true, Bool.true_and, if_true, if_false, Bool.false_eq_true, List.length_set, Nat.add_one_sub_one, Nat.sub_self, Nat.reduceSub, Nat.reduceAdd, Int.reduceToNat, Int.reduceLT, Int.reduceLE, Int.reducePow, decide_eq_true_eq, Bool.not_true, Bool.not_false, is_int, beq_self_eq_true, h, h2, and_false]
  · simp only [fd_is_below, evA, List.map_cons, List.map_nil, List.cons_append, List.nil_append, List.replicate, List.getElem?_cons_zero, List.getElem?_cons_succ, Option.bind_some, Option.map_some, id, List.set_cons_zero, List.set_cons_succ, List.length_cons, List.length_nil, List.length_map, List.set_set, decide_true, decide_false, Bool.and_true, Bool.true_and, if_true, if_false, Bool.false_eq_true, List.length_set, Nat.add_one_sub_one, Nat.sub_self, Nat.reduceSub, Nat.reduceAdd, Int.reduceToNat, Int.reduceLT, Int.reduceLE, Int.reducePow, decide_eq_true_eq, Bool.not_true, Bool.not_false, is_int, beq_self_eq_true, h, false_and]
theorem add91 : (9 : Int) + 1 = ((10 : Nat) : Int) := rfl
section
variable {d : Nat} {L : List HObj} {r : List Nat}
theorem s_dense (h : Rk r) : call T (d + 2) "dense_ranks" [.tup (iv r)] L = .ok (.tup (iv (dns r))) L := by
  obtain ⟨h1, h4, h10⟩ := h
  have c1 : decide ((1 : Int) ≤ (r.length : Int)) = true := decide_eq_true (by omega)
  have c2 : decide ((r.length : Int) ≤ 4) = true := decide_eq_true (by omega)
  obtain ⟨kv, hl⟩ := for_st (tg := .one 1) (body := fun ρ1 L2 => execs T (call T (d + 1)) lb_dense_ranks_1 none ρ1 L2) (iv r) (fun _ kv => [some (.tup (iv r)), kv, none]) (fun _ => L) none (fun i x kv hx => by
    rw [iv_get] at hx
    obtain ⟨y, hy, rfl⟩ := Option.map_eq_some_iff.mp hx
    have hb : decide (0 ≤ (y : Int) ∧ (y : Int) < ((10 : Nat) : Int)) = true := decide_eq_true ⟨by omega, by have := h10 y (List.mem_of_getElem? hy); omega⟩
    refine ⟨_, rfl, ?_⟩
    simp only [lb_dense_ranks_1, evA, List.map_cons, List.map_nil, List.cons_append, List.nil_append, List.replicate, List.getElem?_cons_zero, List.getElem?_cons_succ, Option.bind_some, Option.map_some, id, List.set_cons_zero, List.set_cons_succ, List.length_cons, List.length_nil, List.length_map, List.set_set, decide_true, decide_false, Bool.and_true, Bool.true_and, if_true, if_false, Bool.false_eq_true, List.length_set, Nat.add_one_sub_one, Nat.sub_self, Nat.reduceSub, Nat.reduceAdd, Int.reduceToNat, Int.reduceLT, Int.reduceLE, Int.reducePow, decide_eq_true_eq, Bool.not_true, Bool.not_false, g_MRK, add91, s_belowJ, hb])
  have q : ∀ e1, ev T (call T (d + 1)) none (.lc le_dense_ranks_2 (.one 1) .val [(.var 0)] [] [1]) [some (.tup (iv r)), e1, some (.frl (iv (lvl r)))] L = .ok (.ref L.length) (L ++ [.lst (iv (dns r))]) := fun e1 =>
    v_lcM (as := r) (fun x => (blw r x).length) (by simp only [evA, List.map_cons, List.map_nil, List.cons_append, List.nil_append, List.replicate, List.getElem?_cons_zero, List.getElem?_cons_succ, Option.bind_some, Option.map_some, id, List.set_cons_zero, List.set_cons_succ, List.length_cons, List.length_nil, List.length_map, List.set_set, decide_true, decide_false, Bool.and_true, Bool.true_and, if_true, if_false, Bool.false_eq_true, List.length_set, Nat.add_one_sub_one, Nat.sub_self, Nat.reduceSub, Nat.reduceAdd, Int.reduceToNat, Int.reduceLT, Int.reduceLE, Int.reducePow, decide_eq_true_eq, Bool.not_true, Bool.not_false]) walk_tI (by omega) fun a ha => by
      simp only [le_dense_ranks_2, evA, List.map_cons, List.map_nil, List.cons_append, List.nil_append, List.replicate, List.getElem?_cons_zero, List.getElem?_cons_succ, Option.bind_some, Option.map_some, id, List.set_cons_zero, List.set_cons_succ, List.length_cons, List.length_nil, List.length_map, List.set_set, decide_true, decide_false, Bool.and_true, Bool.true_and, if_true, if_false, Bool.false_eq_true, List.length_set, Nat.add_one_sub_one, Nat.sub_self, Nat.reduceSub, Nat.reduceAdd, Int.reduceToNat, Int.reduceLT, Int.reduceLE, Int.reducePow, decide_eq_true_eq, Bool.not_true, Bool.not_false, r_indexF, m_indexF ((mem_lvl h10).mpr ha), lvl_idx h10 ha]
  rw [call_eq lk_dense (d + 1) _ _ rfl]
  simp only [fd_dense_ranks, evA, List.map_cons, List.map_nil, List.cons_append, List.nil_append, List.replicate, List.getElem?_cons_zero, List.getElem?_cons_succ, Option.bind_some, Option.map_some, id, List.set_cons_zero, List.set_cons_succ, List.length_cons, List.length_nil, List.length_map, List.set_set, decide_true, decide_false, Bool.and_true, Bool.true_and, if_true, if_false, Bool.false_eq_true, List.length_set, Nat.add_one_sub_one, Nat.sub_self, Nat.reduceSub, Nat.reduceAdd, Int.reduceToNat, Int.reduceLT, Int.reduceLE, Int.reducePow, decide_eq_true_eq, Bool.not_true, Bool.not_false, iv_len, g_MUT, c1, c2, walk_tup, iv_u, hl, v_sst, sst_iv h4 h10, q]
/-- what is no ranks -/
def RkI (q : List Int) : Prop := 1 ≤ q.length ∧ q.length ≤ 4 ∧ ∀ x ∈ q, 0 ≤ x ∧ x < 10
theorem s_densex {q : List Int} (h : ¬ RkI q) : call T (d + 2) "dense_ranks" [.tup (q.map .int)] L = .exc "OutOfRange" none L := by
  rw [call_eq lk_dense (d + 1) _ _ rfl]
  by_cases h1 : 1 ≤ q.length
  · by_cases h4 : q.length ≤ 4
    · have c1 : decide ((1 : Int) ≤ (q.length : Int)) = true := decide_eq_true (by omega)
      have c2 : decide ((q.length : Int) ≤ 4) = true := decide_eq_true (by omega)
      have key : ∀ (l : List Int) (kv : Option PV), (¬ ∀ x ∈ l, 0 ≤ x ∧ x < 10) → ∃ ρ', forLoop none (.one 1) (fun ρ1 L2 => execs T (call T (d + 1)) lb_dense_ranks_1 none ρ1 L2) (l.map PV.int) [some (.tup (q.map .int)), kv, none] L = .exc "OutOfRange" none ρ' L := by
        intro l
        induction l with
        | nil => exact fun _ z => absurd (fun x hx => by cases hx) z
        | cons y l ih =>
          intro kv z
          rw [List.map_cons]
          by_cases hy : 0 ≤ y ∧ y < 10
          · have hb : decide (0 ≤ y ∧ y < ((10 : Nat) : Int)) = true := decide_eq_true hy
            rw [for_next (ρ1 := [some (.tup (q.map .int)), some (.int y), none]) (ρ2 := [some (.tup (q.map .int)), some (.int y), none]) (L2 := L) rfl (by simp only [lb_dense_ranks_1, evA, List.map_cons, List.map_nil, List.cons_append, List.nil_append, List.replicate, List.getElem?_cons_zero, List.getElem?_cons_succ, Option.bind_some, Option.map_some, id, List.set_cons_zero, List.set_cons_succ, List.length_cons, List.length_nil, List.length_map, List.set_set, decide_true, decide_false, Bool.and_true, Bool.true_and, if_true, if_false, Bool.false_eq_true, List.length_set, Nat.add_one_sub_one, Nat.sub_self, Nat.reduceSub, Nat.reduceAdd, Int.reduceToNat, Int.reduceLT, Int.reduceLE, Int.reducePow, decide_eq_true_eq, Bool.not_true, Bool.not_false, g_MRK, add91, s_belowJ, hb])]
            exact ih _ fun w => z fun x hx => (List.mem_cons.mp hx).elim (fun e => e ▸ hy) (w x)
          · have hb : decide (0 ≤ y ∧ y < ((10 : Nat) : Int)) = false := decide_eq_false hy
            exact ⟨_, for_exc (ρ1 := [some (.tup (q.map .int)), some (.int y), none]) (ρ2 := [some (.tup (q.map .int)), some (.int y), none]) (L2 := L) rfl (by simp only [lb_dense_ranks_1, evA, List.map_cons, List.map_nil, List.cons_append, List.nil_append, List.replicate, List.getElem?_cons_zero, List.getElem?_cons_succ, Option.bind_some, Option.map_some, id, List.set_cons_zero, List.set_cons_succ, List.length_cons, List.length_nil, List.length_map, List.set_set, decide_true, decide_false, Bool.and_true, Bool.true_and, if_true, if_false, Bool.false_eq_true, List.length_set, Nat.add_one_sub_one, Nat.sub_self, Nat.reduceSub, Nat.reduceAdd, Int.reduceToNat, Int.reduceLT, Int.reduceLE, Int.reducePow, decide_eq_true_eq, Bool.not_true, Bool.not_false, g_MRK, add91, s_belowJ, hb, x_raise0 ex_oor])⟩
      obtain ⟨ρ', e⟩ := key q none fun z => h ⟨h1, h4, z⟩
      simp only [fd_dense_ranks, evA, List.map_cons, List.map_nil, List.cons_append, List.nil_append, List.replicate, List.getElem?_cons_zero, List.getElem?_cons_succ, Option.bind_some, Option.map_some, id, List.set_cons_zero, List.set_cons_succ, List.length_cons, List.length_nil, List.length_map, List.set_set, decide_true, decide_false, Bool.and_true, Bool.true_and, if_true, if_false, Bool.false_eq_true, List.length_set, Nat.add_one_sub_one, Nat.sub_self, Nat.reduceSub, Nat.reduceAdd, Int.reduceToNat, Int.reduceLT, Int.reduceLE, Int.reducePow, decide_eq_true_eq, Bool.not_true, Bool.not_false, g_MUT, c1, c2, walk_tup, u_ints, e]
    · have c1 : decide ((1 : Int) ≤ (q.length : Int)) = true := decide_eq_true (by omega)
      have c2 : decide ((q.length : Int) ≤ 4) = false := decide_eq_false (by omega)
      simp only [fd_dense_ranks, evA, List.map_cons, List.map_nil, List.cons_append, List.nil_append, List.replicate, List.getElem?_cons_zero, List.getElem?_cons_succ, Option.bind_some, Option.map_some, id, List.set_cons_zero, List.set_cons_succ, List.length_cons, List.length_nil, List.length_map, List.set_set, decide_true, decide_false, Bool.and_true, Bool.true_and, if_true, if_false, Bool.false_eq_true, List.length_set, Nat.add_one_sub_one, Nat.sub_self, Nat.reduceSub, Nat.reduceAdd, Int.reduceToNat, Int.reduceLT, Int.reduceLE, Int.reducePow, decide_eq_true_eq, Bool.not_true, Bool.not_false, g_MUT, c1, c2, x_raise0 ex_oor]
  · have c1 : decide ((1 : Int) ≤ (q.length : Int)) = false := decide_eq_false (by omega)
    simp only [fd_dense_ranks, evA, List.map_cons, List.map_nil, List.cons_append, List.nil_append, List.replicate, List.getElem?_cons_zero, List.getElem?_cons_succ, Option.bind_some, Option.map_some, id, List.set_cons_zero, List.set_cons_succ, List.length_cons, List.length_nil, List.length_map, List.set_set, decide_true, decide_false, Bool.and_true, Bool.true_and, if_true, if_false, Bool.false_eq_true, List.length_set, Nat.add_one_sub_one, Nat.sub_self, Nat.reduceSub, Nat.reduceAdd, Int.reduceToNat, Int.reduceLT, Int.reduceLE, Int.reducePow, decide_eq_true_eq, Bool.not_true, Bool.not_false, g_MUT, c1, x_raise0 ex_oor]
end
/-! ### opposite_ranks, dense_orders -/
theorem lk_opp : T.fns.lookup "opposite_ranks" = some fd_opposite_ranks := rfl
theorem sub_nat {a b : Nat} (h : b ≤ a) : (a : Int) - (b : Int) = ((a - b : Nat) : Int) := by omega
theorem mx_ge {l : List Nat} {x : Nat} (h : x ∈ l) : x ≤ mxN l := mxN_ge h
section
variable {d : Nat} {L : List HObj} {r : List Nat}
theorem ne_of_len {r : List Nat} (h : 1 ≤ r.length) : r ≠ [] := fun e => by rw [e] at h; simp at h
theorem s_opp (h : Rk r) : call T (d + 3) "opposite_ranks" [.tup (iv r)] L = .ok (.tup (iv (opp r))) L := by
  have hn : dns r ≠ [] := ne_of_len (by rw [dns_len]; exact h.1)
  have q : ev T (call T (d + 2)) none (.lc le_opposite_ranks_1 (.one 2) .val [(.var 1)] [] [2]) [some (.tup (iv r)), some (.tup (iv (dns r))), none] L = .ok (.ref L.length) (L ++ [.lst (iv (opp r))]) :=
    v_lcM (as := dns r) (fun x => mxN (dns r) - x) (by simp only [evA, List.map_cons, List.map_nil, List.cons_append, List.nil_append, List.replicate, List.getElem?_cons_zero, List.getElem?_cons_succ, Option.bind_some, Option.map_some, id, List.set_cons_zero, List.set_cons_succ, List.length_cons, List.length_nil, List.length_map, List.set_set, decide_true, decide_false, Bool.and_true, Bool.true_and, if_true, if_false, Bool.false_eq_true, List.length_set, Nat.add_one_sub_one, Nat.sub_self, Nat.reduceSub, Nat.reduceAdd, Int.reduceToNat, Int.reduceLT, Int.reduceLE, Int.reducePow, decide_eq_true_eq, Bool.not_true, Bool.not_false]) walk_tI (by rw [dns_len]; have := h.2.1; omega) fun a ha => by
      simp only [le_opposite_ranks_1, evA, List.map_cons, List.map_nil, List.cons_append, List.nil_append, List.replicate, List.getElem?_cons_zero, List.getElem?_cons_succ, Option.bind_some, Option.map_some, id, List.set_cons_zero, List.set_cons_succ, List.length_cons, List.length_nil, List.length_map, List.set_set, decide_true, decide_false, Bool.and_true, Bool.true_and, if_true, if_false, Bool.false_eq_true, List.length_set, Nat.add_one_sub_one, Nat.sub_self, Nat.reduceSub, Nat.reduceAdd, Int.reduceToNat, Int.reduceLT, Int.reduceLE, Int.reducePow, decide_eq_true_eq, Bool.not_true, Bool.not_false, f_maxT hn, sub_nat (mx_ge ha)]
  rw [call_eq lk_opp (d + 2) _ _ rfl]
  simp only [fd_opposite_ranks, evA, List.map_cons, List.map_nil, List.cons_append, List.nil_append, List.replicate, List.getElem?_cons_zero, List.getElem?_cons_succ, Option.bind_some, Option.map_some, id, List.set_cons_zero, List.set_cons_succ, List.length_cons, List.length_nil, List.length_map, List.set_set, decide_true, decide_false, Bool.and_true, Bool.true_and, if_true, if_false, Bool.false_eq_true, List.length_set, Nat.add_one_sub_one, Nat.sub_self, Nat.reduceSub, Nat.reduceAdd, Int.reduceToNat, Int.reduceLT, Int.reduceLE, Int.reducePow, decide_eq_true_eq, Bool.not_true, Bool.not_false, s_dense h, iv_u, q]
theorem s_oppx {q : List Int} (h : ¬ RkI q) : call T (d + 3) "opposite_ranks" [.tup (q.map .int)] L = .exc "OutOfRange" none L := by
  rw [call_eq lk_opp (d + 2) _ _ rfl]
  simp only [fd_opposite_ranks, evA, List.map_cons, List.map_nil, List.cons_append, List.nil_append, List.replicate, List.getElem?_cons_zero, List.getElem?_cons_succ, Option.bind_some, Option.map_some, id, List.set_cons_zero, List.set_cons_succ, List.length_cons, List.length_nil, List.length_map, List.set_set, decide_true, decide_false, Bool.and_true, Bool.true_and, if_true, if_false, Bool.false_eq_true, List.length_set, Nat.add_one_sub_one, Nat.sub_self, Nat.reduceSub, Nat.reduceAdd, Int.reduceToNat, Int.reduceLT, Int.reduceLE, Int.reducePow, decide_eq_true_eq, Bool.not_true, Bool.not_false, s_densex h]
end
theorem lk_dord : T.fns.lookup "dense_orders" = some fd_dense_orders := rfl
theorem c_eqTn {a b : List Nat} {L : List HObj} : cmpop .eq (.tup (iv a)) (.tup (iv b)) L = .ok (decide (a = b)) L := by
  rw [iv_int, iv_int, c_eqT]
  simp only [map_cast]
def ordsT (k i : Nat) : List (List Nat) := ((List.range i).map fun j => dig k k j).filter isd
theorem ordsT_succ {k i : Nat} : ordsT k (i + 1) = if isd (dig k k i) = true then ordsT k i ++ [dig k k i] else ordsT k i := by
  unfold ordsT
  rw [List.range_succ, List.map_append, List.filter_append, List.map_cons, List.map_nil]
  split
  · rename_i h
    rw [List.filter_cons_of_pos h, List.filter_nil]
  · rename_i h
    rw [List.filter_cons_of_neg h, List.filter_nil, List.append_nil]
theorem ordsT_len {k i : Nat} : (ordsT k i).length ≤ i := by
  unfold ordsT
  refine Nat.le_trans (List.length_filter_le _ _) ?_
  rw [List.length_map, List.length_range]
  exact Nat.le_refl _
theorem rws_snoc {rows : List (List Nat)} {r : List Nat} : rws rows ++ [PV.tup (iv r)] = rws (rows ++ [r]) := by
  unfold rws
  rw [List.map_append]
  rfl
theorem pow4 {k : Nat} (h4 : k ≤ 4) : k ^ k ≤ 256 := by
  rcases (by omega : k = 0 ∨ k = 1 ∨ k = 2 ∨ k = 3 ∨ k = 4) with rfl | rfl | rfl | rfl | rfl <;> decide
section
variable {d k : Nat} {L : List HObj}
theorem fz_apL {v : PV} {o : HObj} (h : v.under L.length = true) : fz L v (L ++ [o]) = (v, L) := fz_tk (by simp) (by simp) h
theorem gc_lastR {a : HObj} {rows : List (List Nat)} : gc (L ++ [a]) .non (L ++ [.lst (rws rows)]) = (.non, L ++ [.lst (rws rows)]) := gc_last (by rw [u_lst]; exact rws_u) u_non
theorem s_dord (h1 : 1 ≤ k) (h4 : k ≤ 4) (hL : L.all isLst = true) : call T (d + 4) "dense_orders" [.int (k : Int)] L = .ok (.tup (rws (ords k))) L := by
  have h256 := pow4 h4
  have c1 : decide ((1 : Int) ≤ (k : Int)) = true := decide_eq_true (by omega)
  have c2 : decide ((k : Int) ≤ 4) = true := decide_eq_true (by omega)
  obtain ⟨kv, hl⟩ := for_st (tg := .one 2) (body := fun ρ1 L2 => lstO (execs T (call T (d + 3)) lb_dense_orders_1 none ρ1 L2)) (ctxs k k) (fun _ kv => [some (.int (k : Int)), some (.ref L.length), kv]) (fun i => L ++ [.lst (rws (ordsT k i))]) none (fun i x kv hx => by
    obtain ⟨rfl, hi⟩ := ctxs_get hx
    refine ⟨_, rfl, ?_⟩
    have hr : Rk (dig k k i) := ⟨by rw [dig_len]; exact h1, by rw [dig_len]; exact h4, fun x hx => by have := dig_lt (by omega) hx; omega⟩
    have hz : (rws (ordsT k i)).length < 16777216 := by rw [rws_len]; have := ordsT_len (k := k) (i := i); omega
    have e : execs T (call T (d + 3)) lb_dense_orders_1 none [some (.int (k : Int)), some (.ref L.length), some (.tup (iv (dig k k i)))] (L ++ [.lst (rws (ordsT k i))]) = .next [some (.int (k : Int)), some (.ref L.length), some (.tup (iv (dig k k i)))] (L ++ [.lst (rws (ordsT k (i + 1)))]) := by
      have hd := fun L => s_dense (d := d + 1) (L := L) hr
      rw [ordsT_succ]
      by_cases h : isd (dig k k i) = true
      · have h' : decide (dns (dig k k i) = dig k k i) = true := h
        rw [if_pos h]
        simp only [lb_dense_orders_1, evA, List.map_cons, List.map_nil, List.cons_append, List.nil_append, List.replicate, List.getElem?_cons_zero, List.getElem?_cons_succ, Option.bind_some, Option.map_some, id, List.set_cons_zero, List.set_cons_succ, List.length_cons, List.length_nil, List.length_map, List.set_set, decide_true, decide_false, Bool.and_true, Bool.true_and, if_true, if_false, Bool.false_eq_true, List.length_set, Nat.add_one_sub_one, Nat.sub_self, Nat.reduceSub, Nat.reduceAdd, Int.reduceToNat, Int.reduceLT, Int.reduceLE, Int.reducePow, decide_eq_true_eq, Bool.not_true, Bool.not_false, hd, c_eqTn, h', r_list get_last (show Mth.append ≠ .join by decide), m_append get_last hz, set_last, rws_snoc, gc_lastR]
      · have h' : decide (dns (dig k k i) = dig k k i) = false := by rw [Bool.not_eq_true] at h; exact h
        rw [if_neg h]
        simp only [lb_dense_orders_1, evA, List.map_cons, List.map_nil, List.cons_append, List.nil_append, List.replicate, List.getElem?_cons_zero, List.getElem?_cons_succ, Option.bind_some, Option.map_some, id, List.set_cons_zero, List.set_cons_succ, List.length_cons, List.length_nil, List.length_map, List.set_set, decide_true, decide_false, Bool.and_true, Bool.true_and, if_true, if_false, Bool.false_eq_true, List.length_set, Nat.add_one_sub_one, Nat.sub_self, Nat.reduceSub, Nat.reduceAdd, Int.reduceToNat, Int.reduceLT, Int.reduceLE, Int.reducePow, decide_eq_true_eq, Bool.not_true, Bool.not_false, hd, c_eqTn, h']
    show lstO (execs T (call T (d + 3)) lb_dense_orders_1 none [some (.int (k : Int)), some (.ref L.length), some (.tup (iv (dig k k i)))] (L ++ [.lst (rws (ordsT k i))])) = _
    rw [e]
    exact lstO_next (lst_app hL))
  rw [ctxs_len] at hl
  have e0 : rws (ordsT k 0) = [] := rfl
  rw [e0, show ordsT k (k ^ k) = ords k from rfl] at hl
  have hf := x_forg (T := T) (cl := call T (d + 3)) (tg := .one 2) (f := "all_choices") (es := [.bin .mul (.tup [.var 0]) (.var 0)]) (body := lb_dense_orders_1) (hx := none) (ρ := [some (.int (k : Int)), some (.ref L.length), none]) (L := L ++ [.lst []]) (L1 := L ++ [.lst []]) (L2 := L ++ [.lst []]) (xs := [wsV k k]) (ys := ctxs k k) (by simp only [wsV, evA, List.map_cons, List.map_nil, List.cons_append, List.nil_append, List.replicate, List.getElem?_cons_zero, List.getElem?_cons_succ, Option.bind_some, Option.map_some, id, List.set_cons_zero, List.set_cons_succ, List.length_cons, List.length_nil, List.length_map, List.set_set, decide_true, decide_false, Bool.and_true, Bool.true_and, if_true, if_false, Bool.false_eq_true, List.length_set, Nat.add_one_sub_one, Nat.sub_self, Nat.reduceSub, Nat.reduceAdd, Int.reduceToNat, Int.reduceLT, Int.reduceLE, Int.reducePow, decide_eq_true_eq, Bool.not_true, Bool.not_false, b_rep1 (show k ≤ 1000 by omega)]) (s_all (d := d + 1) (by omega) (by omega) (by omega) (by omega)) (by unfold wsV; rw [u_cons, u_tup, iv_u, u_nil]; rfl) (lst_app hL)
  rw [hl] at hf
  rw [call_eq lk_dord (d + 3) _ _ rfl]
  simp only [fd_dense_orders, evA, List.map_cons, List.map_nil, List.cons_append, List.nil_append, List.replicate, List.getElem?_cons_zero, List.getElem?_cons_succ, Option.bind_some, Option.map_some, id, List.set_cons_zero, List.set_cons_succ, List.length_cons, List.length_nil, List.length_map, List.set_set, decide_true, decide_false, Bool.and_true, Bool.true_and, if_true, if_false, Bool.false_eq_true, List.length_set, Nat.add_one_sub_one, Nat.sub_self, Nat.reduceSub, Nat.reduceAdd, Int.reduceToNat, Int.reduceLT, Int.reduceLE, Int.reducePow, decide_eq_true_eq, Bool.not_true, Bool.not_false, g_MUT, c1, c2, gnew, hf, get_last, HObj.itsO, rws_u, fz_apL (show (PV.tup (rws (ords k))).under L.length = true by rw [u_tup]; exact rws_u)]
theorem s_dordx {j : Int} (h : ¬ (1 ≤ j ∧ j ≤ 4)) : call T (d + 1) "dense_orders" [.int j] L = .exc "OutOfRange" none L := by
  rw [call_eq lk_dord d _ _ rfl]
  by_cases h1 : 1 ≤ j
  · have c1 : decide ((1 : Int) ≤ j) = true := decide_eq_true h1
    have c2 : decide (j ≤ 4) = false := decide_eq_false fun z => h ⟨h1, z⟩
    simp only [fd_dense_orders, evA, List.map_cons, List.map_nil, List.cons_append, List.nil_append, List.replicate, List.getElem?_cons_zero, List.getElem?_cons_succ, Option.bind_some, Option.map_some, id, List.set_cons_zero, List.set_cons_succ, List.length_cons, List.length_nil, List.length_map, List.set_set, decide_true, decide_false, Bool.and_true, Bool.true_and, if_true, if_false, Bool.false_eq_true, List.length_set, Nat.add_one_sub_one, Nat.sub_self, Nat.reduceSub, Nat.reduceAdd, Int.reduceToNat, Int.reduceLT, Int.reduceLE, Int.reducePow, decide_eq_true_eq, Bool.not_true, Bool.not_false, g_MUT, c1, c2, x_raise0 ex_oor]
  · have c1 : decide ((1 : Int) ≤ j) = false := decide_eq_false h1
    simp only [fd_dense_orders, evA, List.map_cons, List.map_nil, List.cons_append, List.nil_append, List.replicate, List.getElem?_cons_zero, List.getElem?_cons_succ, Option.bind_some, Option.map_some, id, List.set_cons_zero, List.set_cons_succ, List.length_cons, List.length_nil, List.length_map, List.set_set, decide_true, decide_false, Bool.and_true, Bool.true_and, if_true, if_false, Bool.false_eq_true, List.length_set, Nat.add_one_sub_one, Nat.sub_self, Nat.reduceSub, Nat.reduceAdd, Int.reduceToNat, Int.reduceLT, Int.reduceLE, Int.reducePow, decide_eq_true_eq, Bool.not_true, Bool.not_false, g_MUT, c1, x_raise0 ex_oor]
end
/-! ### the first that parts -/
theorem for_find {S : Type} {tg : Tg} {body : Env' → List HObj → SOut} {L : List HObj} (E : S → Env') (r : Nat → PV) (p : Nat → Bool) : ∀ (xs : List PV) (i0 : Nat) (s : S), (∀ i x s, xs[i]? = some x → ∃ ρ1, bindT tg x (E s) = some ρ1 ∧ ((p (i0 + i) = true ∧ body ρ1 L = .ret (r (i0 + i)) L) ∨ (p (i0 + i) = false ∧ ∃ s', body ρ1 L = .next (E s') L))) →
    (∃ i, i < xs.length ∧ p (i0 + i) = true ∧ (∀ j, j < i → p (i0 + j) = false) ∧ forLoop none tg body xs (E s) L = .ret (r (i0 + i)) L) ∨ ((∀ i, i < xs.length → p (i0 + i) = false) ∧ ∃ s', forLoop none tg body xs (E s) L = .next (E s') L)
  | [], i0, s, h => by
    refine .inr ⟨fun i hi => absurd hi (Nat.not_lt_zero _), s, ?_⟩
    unfold forLoop
    exact if_pos trivial
  | x :: xs, i0, s, h => by
    obtain ⟨ρ1, h1, h2⟩ := h 0 x s rfl
    rcases h2 with ⟨h2, h3⟩ | ⟨h2, s', h3⟩
    · refine .inl ⟨0, Nat.succ_pos _, h2, fun j hj => absurd hj (Nat.not_lt_zero _), ?_⟩
      unfold forLoop
      rw [if_pos (show guardOk none L from trivial), h1]
      simp only [h3]
    · have ih := for_find E r p xs (i0 + 1) s' fun i y s hy => by
        have := h (i + 1) y s (by rw [List.getElem?_cons_succ]; exact hy)
        rw [show i0 + 1 + i = i0 + (i + 1) by omega]
        exact this
      have e : forLoop none tg body (x :: xs) (E s) L = forLoop none tg body xs (E s') L := by
        rw [forLoop, if_pos (show guardOk none L from trivial), h1]
        simp only [h3]
      rw [e]
      rcases ih with ⟨i, g1, g2, g3, g4⟩ | ⟨g1, g2⟩
      · refine .inl ⟨i + 1, by rw [List.length_cons]; omega, by rw [show i0 + (i + 1) = i0 + 1 + i by omega]; exact g2, fun j hj => ?_, by rw [show i0 + (i + 1) = i0 + 1 + i by omega]; exact g4⟩
        cases j with
        | zero => exact h2
        | succ j => rw [show i0 + (j + 1) = i0 + 1 + j by omega]; exact g3 j (by omega)
      · refine .inr ⟨fun i hi => ?_, g2⟩
        cases i with
        | zero => exact h2
        | succ i => rw [show i0 + (i + 1) = i0 + 1 + i by omega]; exact g1 i (by rw [List.length_cons] at hi; omega)
theorem for_find' {S : Type} {tg : Tg} {body : Env' → List HObj → SOut} {L : List HObj} (E : S → Env') (r : Nat → PV) (p : Nat → Bool) (xs : List PV) (s : S) (h : ∀ i x s, xs[i]? = some x → ∃ ρ1, bindT tg x (E s) = some ρ1 ∧ ((p i = true ∧ body ρ1 L = .ret (r i) L) ∨ (p i = false ∧ ∃ s', body ρ1 L = .next (E s') L))) :
    ∃ s', forLoop none tg body xs (E s) L = (match (List.range xs.length).find? p with
      | some i => .ret (r i) L
      | none => .next (E s') L) := by
  rcases for_find E r p xs 0 s (fun i x s hx => by rw [Nat.zero_add]; exact h i x s hx) with ⟨i, g1, g2, g3, g4⟩ | ⟨g1, s', g2⟩
  · rw [Nat.zero_add] at g2 g4
    have e : (List.range xs.length).find? p = some i := List.find?_range_eq_some.mpr ⟨g2, List.mem_range.mpr g1, fun j hj => by rw [← Nat.zero_add j, g3 j hj]; rfl⟩
    exact ⟨s, by rw [e]; exact g4⟩
  · have e : (List.range xs.length).find? p = none := List.find?_range_eq_none.mpr fun i hi => by rw [← Nat.zero_add i, g1 i hi]; rfl
    exact ⟨s', by rw [e]; exact g2⟩
theorem c_neb {a b : Bool} {L : List HObj} : cmpop .ne (.bl a) (.bl b) L = .ok (!(a == b)) L := by cases L <;> rfl
/-! ### the law's own ranks -/
theorem lk_ldense : T.fns.lookup "_law_dense" = some fd__law_dense := rfl
theorem lk_lopp : T.fns.lookup "_law_opposite" = some fd__law_opposite := rfl
theorem lk_lorders : T.fns.lookup "_law_orders" = some fd__law_orders := rfl
theorem lk_lalike : T.fns.lookup "_law_alike" = some fd__law_alike := rfl
section
variable {d k : Nat} {L : List HObj} {r : List Nat}
theorem w10 {L : List HObj} : walkOf L .range [.int 10] L = some ⟨(List.range 10).map fun a => PV.int ((a : Nat) : Int), none, L⟩ := walk_rI (n := 10) (by omega)
theorem s_ldense (h : Rk r) : call T (d + 1) "_law_dense" [.tup (iv r)] L = .ok (.tup (iv (dns r))) L := by
  have q : ev T (call T d) none (.lc le__law_dense_3 (.one 1) .val [(.var 0)] [] [1]) [some (.tup (iv r)), none, none] L = .ok (.ref L.length) (L ++ [.lst (iv (dns r))]) :=
    v_lcM (as := r) (fun x => (blw r x).length) (by simp only [evA, List.map_cons, List.map_nil, List.cons_append, List.nil_append, List.replicate, List.getElem?_cons_zero, List.getElem?_cons_succ, Option.bind_some, Option.map_some, id, List.set_cons_zero, List.set_cons_succ, List.length_cons, List.length_nil, List.length_map, List.set_set, decide_true, decide_false, Bool.and_true, Bool.true_and, if_true, if_false, Bool.false_eq_true, List.length_set, Nat.add_one_sub_one, Nat.sub_self, Nat.reduceSub, Nat.reduceAdd, Int.reduceToNat, Int.reduceLT, Int.reduceLE, Int.reducePow, decide_eq_true_eq, Bool.not_true, Bool.not_false]) walk_tI (by have := h.2.1; omega) fun a ha => by
      have q1 : ev T (call T d) none (.lc le__law_dense_1 (.one 2) .range [(.cst (.int 10))] lq__law_dense_2 [2]) [some (.tup (iv r)), some (.int (a : Int)), none] L = .ok (.ref L.length) (L ++ [.lst (iv (blw r a))]) :=
        v_lcI _ (by simp only [evA, List.map_cons, List.map_nil, List.cons_append, List.nil_append, List.replicate, List.getElem?_cons_zero, List.getElem?_cons_succ, Option.bind_some, Option.map_some, id, List.set_cons_zero, List.set_cons_succ, List.length_cons, List.length_nil, List.length_map, List.set_set, decide_true, decide_false, Bool.and_true, Bool.true_and, if_true, if_false, Bool.false_eq_true, List.length_set, Nat.add_one_sub_one, Nat.sub_self, Nat.reduceSub, Nat.reduceAdd, Int.reduceToNat, Int.reduceLT, Int.reduceLE, Int.reducePow, decide_eq_true_eq, Bool.not_true, Bool.not_false]) w10 (by decide) fun s hs => by
          constructor
          · by_cases hm : s ∈ r
            · simp only [lq__law_dense_2, evA, List.map_cons, List.map_nil, List.cons_append, List.nil_append, List.replicate, List.getElem?_cons_zero, List.getElem?_cons_succ, Option.bind_some, Option.map_some, id, List.set_cons_zero, List.set_cons_succ, List.length_cons, List.length_nil, List.length_map, List.set_set, decide_true, decide_false, Bool.and_true, Bool.true_and, if_true, if_false, Bool.false_eq_true, List.length_set, Nat.add_one_sub_one, Nat.sub_self, Nat.reduceSub, Nat.reduceAdd, Int.reduceToNat, Int.reduceLT, Int.reduceLE, Int.reducePow, decide_eq_true_eq, Bool.not_true, Bool.not_false, c_inT, decide_eq_true hm, nclt]
            · simp only [lq__law_dense_2, evA, List.map_cons, List.map_nil, List.cons_append, List.nil_append, List.replicate, List.getElem?_cons_zero, List.getElem?_cons_succ, Option.bind_some, Option.map_some, id, List.set_cons_zero, List.set_cons_succ, List.length_cons, List.length_nil, List.length_map, List.set_set, decide_true, decide_false, Bool.and_true, Bool.true_and, if_true, if_false, Bool.false_eq_true, List.length_set, Nat.add_one_sub_one, Nat.sub_self, Nat.reduceSub, Nat.reduceAdd, Int.reduceToNat, Int.reduceLT, Int.reduceLE, Int.reducePow, decide_eq_true_eq, Bool.not_true, Bool.not_false, c_inT, decide_eq_false hm, Bool.false_and]
          · simp only [le__law_dense_1, evA, List.map_cons, List.map_nil, List.cons_append, List.nil_append, List.replicate, List.getElem?_cons_zero, List.getElem?_cons_succ, Option.bind_some, Option.map_some, id, List.set_cons_zero, List.set_cons_succ, List.length_cons, List.length_nil, List.length_map, List.set_set, decide_true, decide_false, Bool.and_true, Bool.true_and, if_true, if_false, Bool.false_eq_true, List.length_set, Nat.add_one_sub_one, Nat.sub_self, Nat.reduceSub, Nat.reduceAdd, Int.reduceToNat, Int.reduceLT, Int.reduceLE, Int.reducePow, decide_eq_true_eq, Bool.not_true, Bool.not_false]
      simp only [le__law_dense_3, evA, List.map_cons, List.map_nil, List.cons_append, List.nil_append, List.replicate, List.getElem?_cons_zero, List.getElem?_cons_succ, Option.bind_some, Option.map_some, id, List.set_cons_zero, List.set_cons_succ, List.length_cons, List.length_nil, List.length_map, List.set_set, decide_true, decide_false, Bool.and_true, Bool.true_and, if_true, if_false, Bool.false_eq_true, List.length_set, Nat.add_one_sub_one, Nat.sub_self, Nat.reduceSub, Nat.reduceAdd, Int.reduceToNat, Int.reduceLT, Int.reduceLE, Int.reducePow, decide_eq_true_eq, Bool.not_true, Bool.not_false, q1, iv_u, iv_len]
  rw [call_eq lk_ldense d _ _ rfl]
  simp only [fd__law_dense, evA, List.map_cons, List.map_nil, List.cons_append, List.nil_append, List.replicate, List.getElem?_cons_zero, List.getElem?_cons_succ, Option.bind_some, Option.map_some, id, List.set_cons_zero, List.set_cons_succ, List.length_cons, List.length_nil, List.length_map, List.set_set, decide_true, decide_false, Bool.and_true, Bool.true_and, if_true, if_false, Bool.false_eq_true, List.length_set, Nat.add_one_sub_one, Nat.sub_self, Nat.reduceSub, Nat.reduceAdd, Int.reduceToNat, Int.reduceLT, Int.reduceLE, Int.reducePow, decide_eq_true_eq, Bool.not_true, Bool.not_false, q, iv_u]
theorem s_lopp (h : Rk r) : call T (d + 2) "_law_opposite" [.tup (iv r)] L = .ok (.tup (iv (opp r))) L := by
  have hn : dns r ≠ [] := ne_of_len (by rw [dns_len]; exact h.1)
  have q : ev T (call T (d + 1)) none (.lc le__law_opposite_1 (.one 2) .val [(.var 1)] [] [2]) [some (.tup (iv r)), some (.tup (iv (dns r))), none] L = .ok (.ref L.length) (L ++ [.lst (iv (opp r))]) :=
    v_lcM (as := dns r) (fun x => mxN (dns r) - x) (by simp only [evA, List.map_cons, List.map_nil, List.cons_append, List.nil_append, List.replicate, List.getElem?_cons_zero, List.getElem?_cons_succ, Option.bind_some, Option.map_some, id, List.set_cons_zero, List.set_cons_succ, List.length_cons, List.length_nil, List.length_map, List.set_set, decide_true, decide_false, Bool.and_true, Bool.true_and, if_true, if_false, Bool.false_eq_true, List.length_set, Nat.add_one_sub_one, Nat.sub_self, Nat.reduceSub, Nat.reduceAdd, Int.reduceToNat, Int.reduceLT, Int.reduceLE, Int.reducePow, decide_eq_true_eq, Bool.not_true, Bool.not_false]) walk_tI (by rw [dns_len]; have := h.2.1; omega) fun a ha => by
      simp only [le__law_opposite_1, evA, List.map_cons, List.map_nil, List.cons_append, List.nil_append, List.replicate, List.getElem?_cons_zero, List.getElem?_cons_succ, Option.bind_some, Option.map_some, id, List.set_cons_zero, List.set_cons_succ, List.length_cons, List.length_nil, List.length_map, List.set_set, decide_true, decide_false, Bool.and_true, Bool.true_and, if_true, if_false, Bool.false_eq_true, List.length_set, Nat.add_one_sub_one, Nat.sub_self, Nat.reduceSub, Nat.reduceAdd, Int.reduceToNat, Int.reduceLT, Int.reduceLE, Int.reducePow, decide_eq_true_eq, Bool.not_true, Bool.not_false, f_maxT hn, sub_nat (mx_ge ha)]
  rw [call_eq lk_lopp (d + 1) _ _ rfl]
  simp only [fd__law_opposite, evA, List.map_cons, List.map_nil, List.cons_append, List.nil_append, List.replicate, List.getElem?_cons_zero, List.getElem?_cons_succ, Option.bind_some, Option.map_some, id, List.set_cons_zero, List.set_cons_succ, List.length_cons, List.length_nil, List.length_map, List.set_set, decide_true, decide_false, Bool.and_true, Bool.true_and, if_true, if_false, Bool.false_eq_true, List.length_set, Nat.add_one_sub_one, Nat.sub_self, Nat.reduceSub, Nat.reduceAdd, Int.reduceToNat, Int.reduceLT, Int.reduceLE, Int.reducePow, decide_eq_true_eq, Bool.not_true, Bool.not_false, s_ldense h, iv_u, q]
theorem s_lorders (h1 : 1 ≤ k) (h4 : k ≤ 4) : call T (d + 2) "_law_orders" [.int (k : Int)] L = .ok (.tup (rws (ords k))) L := by
  have h256 := pow4 h4
  obtain ⟨⟨x2, x3⟩, hl⟩ : ∃ s : Option PV × Option PV, forLoop none (.one 2) (fun ρ1 L2 => execs T (call T (d + 1)) lb__law_orders_2 none ρ1 L2) (rangeP 0 (k ^ k)) [some (.int (k : Int)), some (.ref L.length), none, none, none] (L ++ [.lst []]) = .next [some (.int (k : Int)), some (.ref L.length), s.1, s.2, none] (L ++ [.lst (rws (ords k))]) := by
    refine for_all (g := none) (I := fun i ρ L' => L' = L ++ [.lst (rws (ordsT k i))] ∧ ∃ s : Option PV × Option PV, ρ = [some (.int (k : Int)), some (.ref L.length), s.1, s.2, none]) (R := fun o => ∃ s : Option PV × Option PV, o = .next [some (.int (k : Int)), some (.ref L.length), s.1, s.2, none] (L ++ [.lst (rws (ords k))])) (rangeP 0 (k ^ k)) 0 _ _ (fun _ _ _ _ => trivial) ?_ ?_ ⟨rfl, (none, none), rfl⟩
    · rintro i x ρ L' hx ⟨rfl, ⟨s1, s2⟩, rfl⟩
      obtain ⟨rfl, hi⟩ := rangeP_get hx
      rw [Nat.zero_add]
      refine ⟨_, rfl, .inl ⟨[some (.int (k : Int)), some (.ref L.length), some (.int (i : Int)), some (.tup (iv (dig k k i))), none], L ++ [.lst (rws (ordsT k (i + 1)))], .inl ?_, rfl, (some (.int (i : Int)), some (.tup (iv (dig k k i)))), rfl⟩⟩
      have hn : dig k k i ≠ [] := ne_of_len (by rw [dig_len]; exact h1)
      have hz : (rws (ordsT k i)).length < 16777216 := by rw [rws_len]; have := ordsT_len (k := k) (i := i); omega
      have hmx : mxN (dig k k i) ≤ 1000 := by
        have := dig_lt (show 0 < k by omega) (mxN_mem hn)
        omega
      have hc := fun L => s_lcontext (d := d) (x := i) (n := k) (k := k) (L := L) (by omega) (by omega) (by omega)
      have q : ∀ (L0 : List HObj) (v1 : Option PV), ev T (call T (d + 1)) none (.lc le__law_orders_1 (.one 4) .range [(.blt .max [(.var 3)])] [] [4]) [some (.int (k : Int)), v1, some (.int (i : Int)), some (.tup (iv (dig k k i))), none] L0 = .ok (.ref L0.length) (L0 ++ [.lst ((List.range (mxN (dig k k i))).map fun s => .bl (decide (s ∈ dig k k i)))]) := fun L0 v1 =>
        v_lcB (fun s => decide (s ∈ dig k k i)) (by simp only [evA, List.map_cons, List.map_nil, List.cons_append, List.nil_append, List.replicate, List.getElem?_cons_zero, List.getElem?_cons_succ, Option.bind_some, Option.map_some, id, List.set_cons_zero, List.set_cons_succ, List.length_cons, List.length_nil, List.length_map, List.set_set, decide_true, decide_false, Bool.and_true, Bool.true_and, if_true, if_false, Bool.false_eq_true, List.length_set, Nat.add_one_sub_one, Nat.sub_self, Nat.reduceSub, Nat.reduceAdd, Int.reduceToNat, Int.reduceLT, Int.reduceLE, Int.reducePow, decide_eq_true_eq, Bool.not_true, Bool.not_false, f_maxT hn]) (walk_rI hmx) (by rw [List.length_range]; exact hmx) fun a _ => by
          simp only [le__law_orders_1, evA, List.map_cons, List.map_nil, List.cons_append, List.nil_append, List.replicate, List.getElem?_cons_zero, List.getElem?_cons_succ, Option.bind_some, Option.map_some, id, List.set_cons_zero, List.set_cons_succ, List.length_cons, List.length_nil, List.length_map, List.set_set, decide_true, decide_false, Bool.and_true, Bool.true_and, if_true, if_false, Bool.false_eq_true, List.length_set, Nat.add_one_sub_one, Nat.sub_self, Nat.reduceSub, Nat.reduceAdd, Int.reduceToNat, Int.reduceLT, Int.reduceLE, Int.reducePow, decide_eq_true_eq, Bool.not_true, Bool.not_false, c_inT]
      have hq := ord_law h1 h4 i hi
      rw [ordsT_succ]
      show execs T (call T (d + 1)) lb__law_orders_2 none [some (.int (k : Int)), some (.ref L.length), some (.int (0 + (i : Int))), s2, none] _ = _
      by_cases h : isd (dig k k i) = true
      · have h' : ((List.range (mxN (dig k k i))).all fun s => decide (s ∈ dig k k i)) = true := hq.symm.trans h
        rw [if_pos h]
        simp only [lb__law_orders_2, evA, List.map_cons, List.map_nil, List.cons_append, List.nil_append, List.replicate, List.getElem?_cons_zero, List.getElem?_cons_succ, Option.bind_some, Option.map_some, id, List.set_cons_zero, List.set_cons_succ, List.length_cons, List.length_nil, List.length_map, List.set_set, decide_true, decide_false, Bool.and_true, Bool.true_and, if_true, if_false, Bool.false_eq_true, List.length_set, Nat.add_one_sub_one, Nat.sub_self, Nat.reduceSub, Nat.reduceAdd, Int.reduceToNat, Int.reduceLT, Int.reduceLE, Int.reducePow, decide_eq_true_eq, Bool.not_true, Bool.not_false, Int.zero_add, hc, iv_u, q, bls_u, f_allF, h', r_list get_last (show Mth.append ≠ .join by decide), m_append get_last hz, set_last, rws_snoc, gc_lastR]
      · have h' : ((List.range (mxN (dig k k i))).all fun s => decide (s ∈ dig k k i)) = false := by rw [Bool.not_eq_true] at h; exact hq.symm.trans h
        rw [if_neg h]
        simp only [lb__law_orders_2, evA, List.map_cons, List.map_nil, List.cons_append, List.nil_append, List.replicate, List.getElem?_cons_zero, List.getElem?_cons_succ, Option.bind_some, Option.map_some, id, List.set_cons_zero, List.set_cons_succ, List.length_cons, List.length_nil, List.length_map, List.set_set, decide_true, decide_false, Bool.and_true, Bool.true_and, if_true, if_false, Bool.false_eq_true, List.length_set, Nat.add_one_sub_one, Nat.sub_self, Nat.reduceSub, Nat.reduceAdd, Int.reduceToNat, Int.reduceLT, Int.reduceLE, Int.reducePow, decide_eq_true_eq, Bool.not_true, Bool.not_false, Int.zero_add, hc, iv_u, q, bls_u, f_allF, h']
    · rintro ρ L' ⟨rfl, ⟨s1, s2⟩, rfl⟩
      rw [Nat.zero_add, rangeP_len]
      exact ⟨(s1, s2), rfl⟩
  have hw : ∀ L, walkOf L .range [.int ((k ^ k : Nat) : Int)] L = some ⟨rangeP 0 (k ^ k), none, L⟩ := fun L => by
    rw [walk_range1 (by omega) (by omega), gc_id u_non, Int.toNat_natCast]
  have hcs := fun L => s_lcontexts (d := d) (n := k) (k := k) (L := L) (by omega) (by omega)
  rw [call_eq lk_lorders (d + 1) _ _ rfl]
  simp only [fd__law_orders, evA, List.map_cons, List.map_nil, List.cons_append, List.nil_append, List.replicate, List.getElem?_cons_zero, List.getElem?_cons_succ, Option.bind_some, Option.map_some, id, List.set_cons_zero, List.set_cons_succ, List.length_cons, List.length_nil, List.length_map, List.set_set, decide_true, decide_false, Bool.and_true, Bool.true_and, if_true, if_false, Bool.false_eq_true, List.length_set, Nat.add_one_sub_one, Nat.sub_self, Nat.reduceSub, Nat.reduceAdd, Int.reduceToNat, Int.reduceLT, Int.reduceLE, Int.reducePow, decide_eq_true_eq, Bool.not_true, Bool.not_false, gnew, hcs, hw, hl, get_last, HObj.itsO, rws_u, fz_apL (show (PV.tup (rws (ords k))).under L.length = true by rw [u_tup]; exact rws_u)]
/-- compared -/
def alkB (a b : List Nat) : Bool := (List.range a.length).all fun i => (List.range a.length).all fun j => decide (a.getD i 0 < a.getD j 0) == decide (b.getD i 0 < b.getD j 0)
theorem alkB_iff {a b : List Nat} (h : a.length = b.length) : alkB a b = true ↔ Alk a b := by
  unfold alkB Alk
  simp only [List.all_eq_true, List.mem_range, beq_iff_eq, decide_eq_decide]
  exact ⟨fun q => ⟨h, q⟩, fun q => q.2⟩
theorem find_all {n : Nat} {p : Nat → Bool} : ((List.range n).find? fun i => !p i) = none ↔ (List.range n).all p = true := by
  rw [List.find?_range_eq_none, List.all_eq_true]
  constructor
  · intro h x hx
    have := h x (List.mem_range.mp hx)
    rw [Bool.not_not] at this
    exact this
  · intro h i hi
    rw [Bool.not_not]
    exact h i (List.mem_range.mpr hi)
theorem s_lalike {a b : List Nat} (h : a.length = b.length) (h4 : a.length ≤ 4) : call T (d + 1) "_law_alike" [.tup (iv a), .tup (iv b)] L = .ok (.bl (alkB a b)) L := by
  have hw : walkOf L .range [.int (a.length : Int)] L = some ⟨rangeP 0 a.length, none, L⟩ := by
    rw [walk_range1 (by omega) (by omega), gc_id u_non, Int.toNat_natCast]
  obtain ⟨⟨x0, x1⟩, hl⟩ := for_find' (S := Option PV × Option PV) (tg := .one 2) (L := L) (body := fun ρ1 L2 => execs T (call T d) lb__law_alike_2 none ρ1 L2) (fun s => [some (.tup (iv a)), some (.tup (iv b)), s.1, s.2]) (fun _ => .bl false) (fun i => !(List.range a.length).all fun j => decide (a.getD i 0 < a.getD j 0) == decide (b.getD i 0 < b.getD j 0)) (rangeP 0 a.length) (none, none) (fun i x s hx => by
    obtain ⟨rfl, hi⟩ := rangeP_get hx
    refine ⟨_, rfl, ?_⟩
    obtain ⟨y, hin⟩ := for_find' (S := Option PV) (tg := .one 3) (L := L) (body := fun ρ1 L2 => execs T (call T d) lb__law_alike_1 none ρ1 L2) (fun s => [some (.tup (iv a)), some (.tup (iv b)), some (.int (i : Int)), s]) (fun _ => .bl false) (fun j => !(decide (a.getD i 0 < a.getD j 0) == decide (b.getD i 0 < b.getD j 0))) (rangeP 0 a.length) s.2 (fun j x s hx => by
      obtain ⟨rfl, hj⟩ := rangeP_get hx
      refine ⟨_, rfl, ?_⟩
      cases hb : (decide (a.getD i 0 < a.getD j 0) == decide (b.getD i 0 < b.getD j 0)) with
      | true =>
        refine .inr ⟨rfl, some (.int (j : Int)), ?_⟩
        simp only [lb__law_alike_1, evA, List.map_cons, List.map_nil, List.cons_append, List.nil_append, List.replicate, List.getElem?_cons_zero, List.getElem?_cons_succ, Option.bind_some, Option.map_some, id, List.set_cons_zero, List.set_cons_succ, List.length_cons, List.length_nil, List.length_map, List.set_set, decide_true, decide_false, Bool.and_true, Bool.true_and, if_true, if_false, Bool.false_eq_true, List.length_set, Nat.add_one_sub_one, Nat.sub_self, Nat.reduceSub, Nat.reduceAdd, Int.reduceToNat, Int.reduceLT, Int.reduceLE, Int.reducePow, decide_eq_true_eq, Bool.not_true, Bool.not_false, Int.zero_add, iv_atD hi, iv_atD hj, iv_atD (show i < b.length by omega), iv_atD (show j < b.length by omega), nclt, c_neb, hb]
      | false =>
        refine .inl ⟨rfl, ?_⟩
        simp only [lb__law_alike_1, evA, List.map_cons, List.map_nil, List.cons_append, List.nil_append, List.replicate, List.getElem?_cons_zero, List.getElem?_cons_succ, Option.bind_some, Option.map_some, id, List.set_cons_zero, List.set_cons_succ, List.length_cons, List.length_nil, List.length_map, List.set_set, decide_true, decide_false, Bool.and_true, Bool.true_and, if_true, if_false, Bool.false_eq_true, List.length_set, Nat.add_one_sub_one, Nat.sub_self, Nat.reduceSub, Nat.reduceAdd, Int.reduceToNat, Int.reduceLT, Int.reduceLE, Int.reducePow, decide_eq_true_eq, Bool.not_true, Bool.not_false, Int.zero_add, iv_atD hi, iv_atD hj, iv_atD (show i < b.length by omega), iv_atD (show j < b.length by omega), nclt, c_neb, hb])
    rw [rangeP_len] at hin
    cases hb : (List.range a.length).all fun j => decide (a.getD i 0 < a.getD j 0) == decide (b.getD i 0 < b.getD j 0) with
    | true =>
      rw [find_all.mpr hb] at hin
      simp only at hin
      refine .inr ⟨rfl, (some (.int (i : Int)), y), ?_⟩
      simp only [lb__law_alike_2, evA, List.map_cons, List.map_nil, List.cons_append, List.nil_append, List.replicate, List.getElem?_cons_zero, List.getElem?_cons_succ, Option.bind_some, Option.map_some, id, List.set_cons_zero, List.set_cons_succ, List.length_cons, List.length_nil, List.length_map, List.set_set, decide_true, decide_false, Bool.and_true, Bool.true_and, if_true, if_false, Bool.false_eq_true, List.length_set, Nat.add_one_sub_one, Nat.sub_self, Nat.reduceSub, Nat.reduceAdd, Int.reduceToNat, Int.reduceLT, Int.reduceLE, Int.reducePow, decide_eq_true_eq, Bool.not_true, Bool.not_false, Int.zero_add, iv_len, hw, hin]
    | false =>
      cases hf : (List.range a.length).find? (fun j => !(decide (a.getD i 0 < a.getD j 0) == decide (b.getD i 0 < b.getD j 0))) with
      | none => rw [find_all.mp hf] at hb; cases hb
      | some j =>
        rw [hf] at hin
        simp only at hin
        refine .inl ⟨rfl, ?_⟩
        simp only [lb__law_alike_2, evA, List.map_cons, List.map_nil, List.cons_append, List.nil_append, List.replicate, List.getElem?_cons_zero, List.getElem?_cons_succ, Option.bind_some, Option.map_some, id, List.set_cons_zero, List.set_cons_succ, List.length_cons, List.length_nil, List.length_map, List.set_set, decide_true, decide_false, Bool.and_true, Bool.true_and, if_true, if_false, Bool.false_eq_true, List.length_set, Nat.add_one_sub_one, Nat.sub_self, Nat.reduceSub, Nat.reduceAdd, Int.reduceToNat, Int.reduceLT, Int.reduceLE, Int.reducePow, decide_eq_true_eq, Bool.not_true, Bool.not_false, Int.zero_add, iv_len, hw, hin])
  rw [rangeP_len] at hl
  rw [call_eq lk_lalike d _ _ rfl]
  unfold alkB
  cases hb : (List.range a.length).all fun i => (List.range a.length).all fun j => decide (a.getD i 0 < a.getD j 0) == decide (b.getD i 0 < b.getD j 0) with
  | true =>
    rw [find_all.mpr hb] at hl
    simp only at hl
    simp only [fd__law_alike, evA, List.map_cons, List.map_nil, List.cons_append, List.nil_append, List.replicate, List.getElem?_cons_zero, List.getElem?_cons_succ, Option.bind_some, Option.map_some, id, List.set_cons_zero, List.set_cons_succ, List.length_cons, List.length_nil, List.length_map, List.set_set, decide_true, decide_false, Bool.and_true, Bool.true_and, if_true, if_false, Bool.false_eq_true, List.length_set, Nat.add_one_sub_one, Nat.sub_self, Nat.reduceSub, Nat.reduceAdd, Int.reduceToNat, Int.reduceLT, Int.reduceLE, Int.reducePow, decide_eq_true_eq, Bool.not_true, Bool.not_false, iv_len, hw, hl]
  | false =>
    cases hf : (List.range a.length).find? (fun i => !(List.range a.length).all fun j => decide (a.getD i 0 < a.getD j 0) == decide (b.getD i 0 < b.getD j 0)) with
    | none => rw [find_all.mp hf] at hb; cases hb
    | some j =>
      rw [hf] at hl
      simp only at hl
      simp only [fd__law_alike, evA, List.map_cons, List.map_nil, List.cons_append, List.nil_append, List.replicate, List.getElem?_cons_zero, List.getElem?_cons_succ, Option.bind_some, Option.map_some, id, List.set_cons_zero, List.set_cons_succ, List.length_cons, List.length_nil, List.length_map, List.set_set, decide_true, decide_false, Bool.and_true, Bool.true_and, if_true, if_false, Bool.false_eq_true, List.length_set, Nat.add_one_sub_one, Nat.sub_self, Nat.reduceSub, Nat.reduceAdd, Int.reduceToNat, Int.reduceLT, Int.reduceLE, Int.reducePow, decide_eq_true_eq, Bool.not_true, Bool.not_false, iv_len, hw, hl]
end
theorem cut_toP {xs : List PV} {a : Nat} (h : a ≤ xs.length) : cutP xs none (some (a : Int)) = xs.take a := by
  unfold cutP
  rw [HT.sIx_none, HT.sIx_nat, List.drop_zero, Nat.sub_zero, Nat.min_eq_left h]
theorem cut_fromP {xs : List PV} {a : Nat} (h : a ≤ xs.length) : cutP xs (some (a : Int)) none = xs.drop a := by
  unfold cutP
  rw [HT.sIx_none, HT.sIx_nat, Nat.min_eq_left h, List.take_of_length_le (by simp)]
/-! ### draws -/
theorem lk_lranks : T.fns.lookup "_law_ranks" = some fd__law_ranks := rfl
theorem lk_lspread : T.fns.lookup "_law_spread" = some fd__law_spread := rfl
theorem lims {v : Nat} (h : v < 3) : ∃ lim : Nat, L2.atI [PV.int 2, .int 3, .int 10] (v : Int) = some (.int (lim : Int)) ∧ 0 < lim ∧ lim ≤ 10 := by
  rcases (by omega : v = 0 ∨ v = 1 ∨ v = 2) with rfl | rfl | rfl
  · exact ⟨2, rfl, by omega, by omega⟩
  · exact ⟨3, rfl, by omega, by omega⟩
  · exact ⟨10, rfl, by omega, by omega⟩
theorem s_lranks {d k : Nat} {sc : List Int} {o : HObj} (ho : St sc o) (h1 : 1 ≤ k) (h4 : k ≤ 4) : ∃ (r : List Nat) (o' : HObj), call T (d + 2) "_law_ranks" [.ref 0, .int (k : Int)] [o] = .ok (.tup (iv r)) [o'] ∧ r.length = k ∧ Rk r ∧ St sc o' := by
  obtain ⟨v, o1, (e1 : call T (d + 1) "_law_pick" [.ref 0, .int 3] [o] = .ok (.int (v : Int)) [o1]), hv, ho1⟩ := pick1 (d := d) (lim := 3) ho (by omega) (by omega)
  obtain ⟨lim, hlim, hl0, hl1⟩ := lims hv
  obtain ⟨l, o2, e2, hb, ho2⟩ := draw1 (d := d) (lim := lim) (m := k) (i := 3) (elt := le__law_ranks_1) (es := [.var 1]) (ρ := [some (.ref 0), some (.int (k : Int)), some (.int (lim : Int)), none]) ho1 hl0 (by omega) (by omega) (by simp only [evA, List.map_cons, List.map_nil, List.cons_append, List.nil_append, List.replicate, List.getElem?_cons_zero, List.getElem?_cons_succ, Option.bind_some, Option.map_some, id, List.set_cons_zero, List.set_cons_succ, List.length_cons, List.length_nil, List.length_map, List.set_set, decide_true, decide_false, Bool.and_true, Bool.true_and, if_true, if_false, Bool.false_eq_true, List.length_set, Nat.add_one_sub_one, Nat.sub_self, Nat.reduceSub, Nat.reduceAdd, Int.reduceToNat, Int.reduceLT, Int.reduceLE, Int.reducePow, decide_eq_true_eq, Bool.not_true, Bool.not_false]) (fun x o1 => by simp only [le__law_ranks_1, evA, List.map_cons, List.map_nil, List.cons_append, List.nil_append, List.replicate, List.getElem?_cons_zero, List.getElem?_cons_succ, Option.bind_some, Option.map_some, id, List.set_cons_zero, List.set_cons_succ, List.length_cons, List.length_nil, List.length_map, List.set_set, decide_true, decide_false, Bool.and_true, Bool.true_and, if_true, if_false, Bool.false_eq_true, List.length_set, Nat.add_one_sub_one, Nat.sub_self, Nat.reduceSub, Nat.reduceAdd, Int.reduceToNat, Int.reduceLT, Int.reduceLE, Int.reducePow, decide_eq_true_eq, Bool.not_true, Bool.not_false])
  have hu := St_u (n := 1) ho
  have hu1 := St_u (n := 1) ho1
  have hu2 := St_u (n := 1) ho2
  refine ⟨l, o2, ?_, hb.1, ⟨by rw [hb.1]; exact h1, by rw [hb.1]; exact h4, fun x hx => by have := hb.2 x hx; omega⟩, ho2⟩
  rw [call_eq lk_lranks (d + 1) _ _ rfl]
  simp only [fd__law_ranks, evA, List.map_cons, List.map_nil, List.cons_append, List.nil_append, List.replicate, List.getElem?_cons_zero, List.getElem?_cons_succ, Option.bind_some, Option.map_some, id, List.set_cons_zero, List.set_cons_succ, List.length_cons, List.length_nil, List.length_map, List.set_set, decide_true, decide_false, Bool.and_true, Bool.true_and, if_true, if_false, Bool.false_eq_true, List.length_set, Nat.add_one_sub_one, Nat.sub_self, Nat.reduceSub, Nat.reduceAdd, Int.reduceToNat, Int.reduceLT, Int.reduceLE, Int.reducePow, decide_eq_true_eq, Bool.not_true, Bool.not_false, fzcA hu, hu, e1, hlim, gcA hu1, e2, fzcA hu2, hu2, iv_u, fzA hu2]
theorem s_lspread {d : Nat} {sc : List Int} {o : HObj} {q : List Nat} (ho : St sc o) (hq : Rk q) (h3 : ∀ x ∈ q, x < 4) : ∃ (r : List Nat) (o' : HObj), call T (d + 2) "_law_spread" [.ref 0, .tup (iv q)] [o] = .ok (.tup (iv r)) [o'] ∧ Rk r ∧ St sc o' := by
  obtain ⟨v, o1, (e1 : call T (d + 1) "_law_pick" [.ref 0, .int 3] [o] = .ok (.int (v : Int)) [o1]), hv, ho1⟩ := pick1 (d := d) (lim := 3) ho (by omega) (by omega)
  obtain ⟨w, o2, e2, hw, ho2⟩ := pick1 (d := d) (lim := 10 - 3 * (1 + v)) ho1 (by omega) (by omega)
  have a1 : (1 : Int) + (v : Int) = ((1 + v : Nat) : Int) := by omega
  have a2 : (10 : Int) - 3 * ((1 + v : Nat) : Int) = ((10 - 3 * (1 + v) : Nat) : Int) := by omega
  have hu := St_u (n := 1) ho
  have hu1 := St_u (n := 1) ho1
  have hu2 := St_u (n := 1) ho2
  have hql := hq.2.1
  have q1 : ev T (call T (d + 1)) none (.lc le__law_spread_1 (.one 4) .val [(.var 1)] [] [4]) [some (.ref 0), some (.tup (iv q)), some (.int ((1 + v : Nat) : Int)), some (.int (w : Int)), none] [o2] = .ok (.ref 1) [o2, .lst (iv (q.map fun x => w + (1 + v) * x))] :=
    v_lcM (L := [o2]) (as := q) (fun x => w + (1 + v) * x) (by simp only [evA, List.map_cons, List.map_nil, List.cons_append, List.nil_append, List.replicate, List.getElem?_cons_zero, List.getElem?_cons_succ, Option.bind_some, Option.map_some, id, List.set_cons_zero, List.set_cons_succ, List.length_cons, List.length_nil, List.length_map, List.set_set, decide_true, decide_false, Bool.and_true, Bool.true_and, if_true, if_false, Bool.false_eq_true, List.length_set, Nat.add_one_sub_one, Nat.sub_self, Nat.reduceSub, Nat.reduceAdd, Int.reduceToNat, Int.reduceLT, Int.reduceLE, Int.reducePow, decide_eq_true_eq, Bool.not_true, Bool.not_false]) walk_tI (by omega) fun a ha => by
      have := h3 a ha
      simp only [le__law_spread_1, evA, List.map_cons, List.map_nil, List.cons_append, List.nil_append, List.replicate, List.getElem?_cons_zero, List.getElem?_cons_succ, Option.bind_some, Option.map_some, id, List.set_cons_zero, List.set_cons_succ, List.length_cons, List.length_nil, List.length_map, List.set_set, decide_true, decide_false, Bool.and_true, Bool.true_and, if_true, if_false, Bool.false_eq_true, List.length_set, Nat.add_one_sub_one, Nat.sub_self, Nat.reduceSub, Nat.reduceAdd, Int.reduceToNat, Int.reduceLT, Int.reduceLE, Int.reducePow, decide_eq_true_eq, Bool.not_true, Bool.not_false, mulS (show a ≤ 1000 by omega), nmul, nadd]
  refine ⟨q.map fun x => w + (1 + v) * x, o2, ?_, ⟨by rw [List.length_map]; exact hq.1, by rw [List.length_map]; exact hq.2.1, fun y hy => ?_⟩, ho2⟩
  · have m3 : mulOk 3 ((1 + v : Nat) : Int) := mulS (by omega)
    rw [call_eq lk_lspread (d + 1) _ _ rfl]
    simp only [fd__law_spread, evA, List.map_cons, List.map_nil, List.cons_append, List.nil_append, List.replicate, List.getElem?_cons_zero, List.getElem?_cons_succ, Option.bind_some, Option.map_some, id, List.set_cons_zero, List.set_cons_succ, List.length_cons, List.length_nil, List.length_map, List.set_set, decide_true, decide_false, Bool.and_true, Bool.true_and, if_true, if_false, Bool.false_eq_true, List.length_set, Nat.add_one_sub_one, Nat.sub_self, Nat.reduceSub, Nat.reduceAdd, Int.reduceToNat, Int.reduceLT, Int.reduceLE, Int.reducePow, decide_eq_true_eq, Bool.not_true, Bool.not_false, e1, a1, gcA hu1, m3, a2, e2, gcA hu2, q1, fzcA hu2, hu2, iv_u, fzA hu2]
  · obtain ⟨x, hx, rfl⟩ := List.mem_map.mp hy
    have := h3 x hx
    rcases (by omega : v = 0 ∨ v = 1 ∨ v = 2) with rfl | rfl | rfl <;> omega
/-! ### asked -/
theorem lk_ldo : T.fns.lookup "_law_do" = some fd__law_do := rfl
theorem lk_ltold : T.fns.lookup "_law_told" = some fd__law_told := rfl
theorem z10 : ((1 : Int) == 0) = false := rfl
theorem z20 : ((2 : Int) == 0) = false := rfl
theorem z21 : ((2 : Int) == 1) = false := rfl
theorem tb1 : T.subs.contains ("OutOfRange", "ChoosersError") = true := by decide +kernel
theorem tb2 : T.subs.contains ("OutOfRange", "ValueError") = true := by decide +kernel
theorem tb3 : T.subs.contains ("OutOfRange", "SizeMismatch") = false := by decide +kernel
theorem tb4 : T.subs.contains ("OutOfRange", "TooLarge") = false := by decide +kernel
theorem tb5 : T.subs.contains ("OutOfRange", "OutOfRange") = true := by decide +kernel
theorem tb6 : T.subs.contains ("OutOfRange", "InvalidTerm") = false := by decide +kernel
theorem exsL : (T.excs.lookup "OutOfRange").isSome = true := rfl
theorem any3 {L : List HObj} : bltin .any [.frl [.bl false, .bl false, .bl false]] L = .ok (.bl false) L := by cases L <;> rfl
theorem hb3 {n : Nat} : unders n [PV.bl false, .bl false, .bl false] = true := by simp only [u_cons, u_bl, u_nil, Bool.and_self]
def refV : PV := .tup [.str "refused", .bl true]
def rkV (r : List Nat) : PV := .tup [.str "ranks", .tup (iv r)]
def orV (rows : List (List Nat)) : PV := .tup [.str "orders", .tup (rws rows)]
theorem pl_two {e : Nat} {w : PySem.Str} {x : PV} (h : Pl0 e x) : Pl0 (e + 1) (.tup [.str w, x]) := .tup e _ (fun y hy => by
  simp only [List.mem_cons, List.not_mem_nil, or_false] at hy
  rcases hy with rfl | rfl
  · exact .str _ _
  · exact h) (by simp)
theorem pl_rwsA {rows : List (List Nat)} (h : rows.length ≤ 1000) (ha : ∀ r ∈ rows, r.length ≤ 1000) : Pl0 2 (.tup (rws rows)) := .tup 1 _ (fun x hx => by
  obtain ⟨r, hr, rfl⟩ := List.mem_map.mp hx
  exact pl_iv (ha r hr)) (by rw [rws_len]; exact h)
section
variable {d k : Nat} {L : List HObj} {r : List Nat}
theorem s_do0 (h : Rk r) : call T (d + 5) "_law_do" [.int 0, .tup (iv r)] L = .ok (rkV (dns r)) L := by
  unfold rkV
  rw [call_eq lk_ldo (d + 4) _ _ rfl]
  simp only [fd__law_do, evA, List.map_cons, List.map_nil, List.cons_append, List.nil_append, List.replicate, List.getElem?_cons_zero, List.getElem?_cons_succ, Option.bind_some, Option.map_some, id, List.set_cons_zero, List.set_cons_succ, List.length_cons, List.length_nil, List.length_map, List.set_set, decide_true, decide_false, Bool.and_true, Bool.true_and, if_true, if_false, Bool.false_eq_true, List.length_set, Nat.add_one_sub_one, Nat.sub_self, Nat.reduceSub, Nat.reduceAdd, Int.reduceToNat, Int.reduceLT, Int.reduceLE, Int.reducePow, decide_eq_true_eq, Bool.not_true, Bool.not_false, x_try, beq_self_eq_true, s_dense (d := d + 2) h, try_ret, iv_u]
theorem s_do1 (h : Rk r) : call T (d + 5) "_law_do" [.int 1, .tup (iv r)] L = .ok (rkV (opp r)) L := by
  unfold rkV
  rw [call_eq lk_ldo (d + 4) _ _ rfl]
  simp only [fd__law_do, evA, List.map_cons, List.map_nil, List.cons_append, List.nil_append, List.replicate, List.getElem?_cons_zero, List.getElem?_cons_succ, Option.bind_some, Option.map_some, id, List.set_cons_zero, List.set_cons_succ, List.length_cons, List.length_nil, List.length_map, List.set_set, decide_true, decide_false, Bool.and_true, Bool.true_and, if_true, if_false, Bool.false_eq_true, List.length_set, Nat.add_one_sub_one, Nat.sub_self, Nat.reduceSub, Nat.reduceAdd, Int.reduceToNat, Int.reduceLT, Int.reduceLE, Int.reducePow, decide_eq_true_eq, Bool.not_true, Bool.not_false, x_try, z10, beq_self_eq_true, s_opp (d := d + 1) h, try_ret, iv_u]
theorem s_do2 (h1 : 1 ≤ k) (h4 : k ≤ 4) (hL : L.all isLst = true) : call T (d + 5) "_law_do" [.int 2, .int (k : Int)] L = .ok (orV (ords k)) L := by
  unfold orV
  rw [call_eq lk_ldo (d + 4) _ _ rfl]
  simp only [fd__law_do, evA, List.map_cons, List.map_nil, List.cons_append, List.nil_append, List.replicate, List.getElem?_cons_zero, List.getElem?_cons_succ, Option.bind_some, Option.map_some, id, List.set_cons_zero, List.set_cons_succ, List.length_cons, List.length_nil, List.length_map, List.set_set, decide_true, decide_false, Bool.and_true, Bool.true_and, if_true, if_false, Bool.false_eq_true, List.length_set, Nat.add_one_sub_one, Nat.sub_self, Nat.reduceSub, Nat.reduceAdd, Int.reduceToNat, Int.reduceLT, Int.reduceLE, Int.reducePow, decide_eq_true_eq, Bool.not_true, Bool.not_false, x_try, z20, z21, s_dord (d := d) h1 h4 hL, try_ret, rws_u]
theorem s_do0x {q : List Int} (h : ¬ RkI q) : call T (d + 5) "_law_do" [.int 0, .tup (q.map .int)] L = .ok refV L := by
  unfold refV
  rw [call_eq lk_ldo (d + 4) _ _ rfl]
  simp only [fd__law_do, evA, List.map_cons, List.map_nil, List.cons_append, List.nil_append, List.replicate, List.getElem?_cons_zero, List.getElem?_cons_succ, Option.bind_some, Option.map_some, id, List.set_cons_zero, List.set_cons_succ, List.length_cons, List.length_nil, List.length_map, List.set_set, decide_true, decide_false, Bool.and_true, Bool.true_and, if_true, if_false, Bool.false_eq_true, List.length_set, Nat.add_one_sub_one, Nat.sub_self, Nat.reduceSub, Nat.reduceAdd, Int.reduceToNat, Int.reduceLT, Int.reduceLE, Int.reducePow, decide_eq_true_eq, Bool.not_true, Bool.not_false, x_try, beq_self_eq_true, s_densex (d := d + 2) h, try_exc exsL tb1, v_exi, tb2, tb3, tb4, tb5, tb6, hb3, any3, hd_ret, Nat.reduceLT]
theorem s_do1x {q : List Int} (h : ¬ RkI q) : call T (d + 5) "_law_do" [.int 1, .tup (q.map .int)] L = .ok refV L := by
  unfold refV
  rw [call_eq lk_ldo (d + 4) _ _ rfl]
  simp only [fd__law_do, evA, List.map_cons, List.map_nil, List.cons_append, List.nil_append, List.replicate, List.getElem?_cons_zero, List.getElem?_cons_succ, Option.bind_some, Option.map_some, id, List.set_cons_zero, List.set_cons_succ, List.length_cons, List.length_nil, List.length_map, List.set_set, decide_true, decide_false, Bool.and_true, Bool.true_and, if_true, if_false, Bool.false_eq_true, List.length_set, Nat.add_one_sub_one, Nat.sub_self, Nat.reduceSub, Nat.reduceAdd, Int.reduceToNat, Int.reduceLT, Int.reduceLE, Int.reducePow, decide_eq_true_eq, Bool.not_true, Bool.not_false, x_try, z10, beq_self_eq_true, s_oppx (d := d + 1) h, try_exc exsL tb1, v_exi, tb2, tb3, tb4, tb5, tb6, hb3, any3, hd_ret, Nat.reduceLT]
theorem s_do2x {j : Int} (h : ¬ (1 ≤ j ∧ j ≤ 4)) : call T (d + 5) "_law_do" [.int 2, .int j] L = .ok refV L := by
  unfold refV
  rw [call_eq lk_ldo (d + 4) _ _ rfl]
  simp only [fd__law_do, evA, List.map_cons, List.map_nil, List.cons_append, List.nil_append, List.replicate, List.getElem?_cons_zero, List.getElem?_cons_succ, Option.bind_some, Option.map_some, id, List.set_cons_zero, List.set_cons_succ, List.length_cons, List.length_nil, List.length_map, List.set_set, decide_true, decide_false, Bool.and_true, Bool.true_and, if_true, if_false, Bool.false_eq_true, List.length_set, Nat.add_one_sub_one, Nat.sub_self, Nat.reduceSub, Nat.reduceAdd, Int.reduceToNat, Int.reduceLT, Int.reduceLE, Int.reducePow, decide_eq_true_eq, Bool.not_true, Bool.not_false, x_try, z20, z21, s_dordx (d := d + 3) h, try_exc exsL tb1, v_exi, tb2, tb3, tb4, tb5, tb6, hb3, any3, hd_ret, Nat.reduceLT]
theorem opp_len {r : List Nat} : (opp r).length = r.length := by unfold opp; rw [List.length_map, dns_len]
theorem s_ltold (h : Rk r) : call T (d + 6) "_law_told" [.tup (iv r)] L = .ok (.bl true) L := by
  have h4 := h.2.1
  have r1 := s_refl (pl_two (w := "ranks") (pl_iv (l := dns r) (by rw [dns_len]; omega))) (d + 2) L
  have r2 := s_refl (pl_two (w := "ranks") (pl_iv (l := opp r) (by rw [opp_len]; omega))) (d + 2) L
  have e0 := s_do0 (d := d) (L := L) h
  have e1 := s_do1 (d := d) (L := L) h
  unfold rkV at e0 e1
  rw [call_eq lk_ltold (d + 5) _ _ rfl]
  simp only [fd__law_told, evA, List.map_cons, List.map_nil, List.cons_append, List.nil_append, List.replicate, List.getElem?_cons_zero, List.getElem?_cons_succ, Option.bind_some, Option.map_some, id, List.set_cons_zero, List.set_cons_succ, List.length_cons, List.length_nil, List.length_map, List.set_set, decide_true, decide_false, Bool.and_true, Bool.true_and, if_true, if_false, Bool.false_eq_true, List.length_set, Nat.add_one_sub_one, Nat.sub_self, Nat.reduceSub, Nat.reduceAdd, Int.reduceToNat, Int.reduceLT, Int.reduceLE, Int.reducePow, decide_eq_true_eq, Bool.not_true, Bool.not_false, e0, e1, s_ldense (d := d + 4) h, s_lopp (d := d + 3) h, iv_u, r1, r2]
end
/-! ### refused -/
theorem lk_lrefused : T.fns.lookup "_law_refused" = some fd__law_refused := rfl
def tv (q : List Int) : PV := .tup (q.map .int)
theorem tv_u {q : List Int} {n : Nat} : (tv q).under n = true := by
  unfold tv
  rw [u_tup, u_ints]
theorem tvs_u {n : Nat} {l : List (List Int)} : unders n (l.map tv) = true := u_mapf fun _ => tv_u
/-- a loop over a list that stands -/
theorem for_guard {g : Option (Nat × List PV)} {tg : Tg} {body : Env' → List HObj → SOut} {L : List HObj} {S : Type} (E : S → Env') (hg : guardOk g L) : ∀ (xs : List PV) (s : S), (∀ x ∈ xs, ∀ s, ∃ ρ1, bindT tg x (E s) = some ρ1 ∧ ∃ s', body ρ1 L = .next (E s') L) → ∃ s', forLoop g tg body xs (E s) L = .next (E s') L
  | [], s, _ => ⟨s, by unfold forLoop; exact if_pos hg⟩
  | x :: xs, s, h => by
    obtain ⟨ρ1, h1, s1, h2⟩ := h x List.mem_cons_self s
    obtain ⟨s2, h3⟩ := for_guard E hg xs s1 fun y hy => h y (List.mem_cons_of_mem _ hy)
    refine ⟨s2, ?_⟩
    rw [forLoop, if_pos hg, h1]
    simp only [h2]
    exact h3
section
variable {d : Nat} {L : List HObj} {r : List Nat}
theorem iv_tv {r : List Nat} : PV.tup (iv r) = tv (r.map fun (x : Nat) => (x : Int)) := by unfold tv; rw [iv_int]
theorem cut_t {r : List Nat} {a : Nat} (h : a ≤ r.length) {L : List HObj} : sliceP (.tup (iv r)) none (some (a : Int)) L = .ok (.tup (iv (r.take a))) L := by
  rw [p_tup, cut_toP (by rw [iv_len]; exact h)]
  unfold iv
  rw [List.map_take]
theorem cut_d {r : List Nat} {a : Nat} (h : a ≤ r.length) {L : List HObj} : sliceP (.tup (iv r)) (some (a : Int)) none L = .ok (.tup (iv (r.drop a))) L := by
  rw [p_tup, cut_fromP (by rw [iv_len]; exact h)]
  unfold iv
  rw [List.map_drop]
theorem put_at {r : List Nat} {a : Nat} {x : Int} (h : a ≤ r.length) (h4 : r.length ≤ 4) {L : List HObj} : binop .add (.tup (iv (r.take a) ++ [.int x])) (.tup (iv (r.drop (a + 1)))) L = .ok (tv ((r.take a).map (fun (y : Nat) => (y : Int)) ++ [x] ++ (r.drop (a + 1)).map fun (y : Nat) => (y : Int))) L := by
  rw [b_tup (by rw [List.length_append, iv_len, iv_len, List.length_take, List.length_drop]; simp; omega)]
  unfold tv
  rw [List.map_append, List.map_append, ← iv_int, ← iv_int]
  rfl
theorem put1 {r : List Nat} {a : Nat} {x : Int} (h4 : r.length ≤ 4) {L : List HObj} : binop .add (.tup (iv (r.take a))) (.tup [.int x]) L = .ok (.tup (iv (r.take a) ++ [.int x])) L := b_tup (by rw [iv_len, List.length_take]; simp; omega)
theorem bad_put {r : List Nat} {a : Nat} {x : Int} (h : a < r.length) (hx : ¬ (0 ≤ x ∧ x < 10)) : ¬ RkI ((r.take a).map (fun (y : Nat) => (y : Int)) ++ [x] ++ (r.drop (a + 1)).map fun (y : Nat) => (y : Int)) := fun z => hx (z.2.2 x (by simp))
theorem w4l {xs : List PV} {L : List HObj} (h : unders L.length xs = true) : walkOf L .val [.frl xs] L = some ⟨xs, none, L⟩ := by rw [walk_frl, gc_id (by rw [u_frl]; exact h)]
theorem bad_seq {q : List Int} (h : q.length = 0 ∨ 5 ≤ q.length) : ¬ RkI q := fun z => by have := z.1; have := z.2.1; omega
end
theorem find_no {n : Nat} : (List.range n).find? (fun _ => false) = none := List.find?_range_eq_none.mpr fun _ _ => rfl
section
variable {d : Nat} {r : List Nat}
theorem cneg1 : -(1 : Int) = -1 := rfl
theorem s_lrefused {sc : List Int} {o : HObj} (ho : St sc o) (h : Rk r) : ∃ o', call T (d + 20) "_law_refused" [.ref 0, .tup (iv r)] [o] = .ok (.bl true) [o'] ∧ St sc o' := by
  obtain ⟨h1, h4, h10⟩ := h
  obtain ⟨v, o1, (e1 : call T (d + 19) "_law_pick" [.ref 0, .int 30] [o] = .ok (.int (v : Int)) [o1]), hv, ho1⟩ := pick1 (d := d + 18) (lim := 30) ho (by omega) (by omega)
  have hu := St_u (n := 1) ho
  have hu1 := St_u (n := 1) ho1
  have a1 : (10 : Int) + (v : Int) = ((10 + v : Nat) : Int) := by omega
  -- the first three
  have b1 : ∀ L, binop .add (.tup (iv r)) (.tup (iv r)) L = .ok (.tup (iv (r ++ r))) L := fun L => by rw [b_tup (by rw [iv_len]; omega), iv_app]
  have b2 : ∀ L, binop .add (.tup (iv (r ++ r))) (.tup (iv r)) L = .ok (.tup (iv (r ++ r ++ r))) L := fun L => by rw [b_tup (by rw [iv_len, iv_len, List.length_append]; omega), iv_app (a := r ++ r)]
  have b3 : ∀ L, binop .add (.tup (iv (r ++ r ++ r))) (.tup (iv r)) L = .ok (.tup (iv (r ++ r ++ r ++ r))) L := fun L => by rw [b_tup (by rw [iv_len, iv_len, List.length_append, List.length_append]; omega), iv_app (a := r ++ r ++ r)]
  have b4 : ∀ L, binop .add (.tup (iv (r ++ r ++ r ++ r))) (.tup (iv r)) L = .ok (.tup (iv (r ++ r ++ r ++ r ++ r))) L := fun L => by rw [b_tup (by rw [iv_len, iv_len, List.length_append, List.length_append, List.length_append]; omega), iv_app (a := r ++ r ++ r ++ r)]
  have b5 : ∀ L, binop .add (.tup (iv r)) (.tup [.int 0, .int 0, .int 0, .int 0, .int 0]) L = .ok (.tup (iv (r ++ [0, 0, 0, 0, 0]))) L := fun L => by rw [b_tup (by rw [iv_len]; simp; omega), iv_app]; rfl
  have s5 : ∀ L, sliceP (.tup (iv (r ++ r ++ r ++ r ++ r))) none (some 5) L = .ok (.tup (iv ((r ++ r ++ r ++ r ++ r).take 5))) L := fun L => cut_t (a := 5) (by simp; omega)
  have s6 : ∀ L, sliceP (.tup (iv (r ++ [0, 0, 0, 0, 0]))) none (some 6) L = .ok (.tup (iv ((r ++ [0, 0, 0, 0, 0]).take 6))) L := fun L => cut_t (a := 6) (by simp; omega)
  obtain ⟨w0, hw0, bad0⟩ : ∃ w0 : List (List Int), [PV.tup [], .tup (iv ((r ++ r ++ r ++ r ++ r).take 5)), .tup (iv ((r ++ [0, 0, 0, 0, 0]).take 6))] = w0.map tv ∧ ∀ q ∈ w0, ¬ RkI q := by
    refine ⟨[[], ((r ++ r ++ r ++ r ++ r).take 5).map fun (x : Nat) => (x : Int), ((r ++ [0, 0, 0, 0, 0]).take 6).map fun (x : Nat) => (x : Int)], ?_, fun q hq => ?_⟩
    · simp only [List.map_cons, List.map_nil, ← iv_tv]
      rfl
    · simp only [List.mem_cons, List.not_mem_nil, or_false] at hq
      rcases hq with rfl | rfl | rfl
      · exact bad_seq (.inl rfl)
      · exact bad_seq (.inr (by simp; omega))
      · exact bad_seq (.inr (by simp; omega))
  -- the wrong entries
  have z2 : ∀ (a : HObj) (xs : List PV), unders 2 xs = true → fz [o1, a] (.ref 2) [o1, a, .lst xs] = (.frl xs, [o1, a]) := fun a xs hx => fz_lst (L := [o1, a]) hx
  have g2 : ∀ (a : HObj) (ws : List (List Int)), gc [o1, a] .non [o1, .lst (ws.map tv)] = (.non, [o1, .lst (ws.map tv)]) := fun a ws => gc_set0 (L := [o1, a]) (k := 1) (o := .lst (ws.map tv)) (by rw [u_lst]; exact tvs_u) u_non
  have step : ∀ (x : Nat) (y : Int) (ws : List (List Int)) (e5 e7 e8 : Option PV), x < r.length → ws.length < 1000 → execs T (call T (d + 19)) lb__law_refused_1 none [some (.ref 0), some (.tup (iv r)), some (.int ((10 + v : Nat) : Int)), some (.ref 1), some (.int (x : Int)), e5, some (.int y), e7, e8] [o1, .lst (ws.map tv)] =
      .next [some (.ref 0), some (.tup (iv r)), some (.int ((10 + v : Nat) : Int)), some (.ref 1), some (.int (x : Int)), e5, some (.int y), e7, e8] [o1, .lst ((ws ++ [(r.take x).map (fun (y : Nat) => (y : Int)) ++ [y] ++ (r.drop (x + 1)).map fun (y : Nat) => (y : Int)]).map tv)] := fun x y ws e5 e7 e8 hx hw => by
    have c1 := fun L => cut_t (r := r) (a := x) (by omega) (L := L)
    have c2 := fun L => cut_d (r := r) (a := x + 1) (by omega) (L := L)
    have a2 : (x : Int) + 1 = ((x + 1 : Nat) : Int) := by omega
    have p1 := fun L => put1 (r := r) (a := x) (x := y) h4 (L := L)
    have p2 := fun L => put_at (r := r) (a := x) (x := y) (by omega) h4 (L := L)
    have r1 : recvOk .append (.ref 1) [o1, .lst (ws.map tv)] = true := rfl
    have m1 : ∀ q : List Int, meth .append (.ref 1) [tv q] [o1, .lst (ws.map tv)] = .ok .non [o1, .lst ((ws ++ [q]).map tv)] := fun q => by
      rw [m_append (n := 1) (L := [o1, .lst (ws.map tv)]) rfl (by rw [List.length_map]; omega), List.map_append]
      rfl
    simp only [lb__law_refused_1, evA, List.map_cons, List.map_nil, List.cons_append, List.nil_append, List.replicate, List.getElem?_cons_zero, List.getElem?_cons_succ, Option.bind_some, Option.map_some, id, List.set_cons_zero, List.set_cons_succ, List.length_cons, List.length_nil, List.length_map, List.set_set, decide_true, decide_false, Bool.and_true, Bool.true_and, if_true, if_false, Bool.false_eq_true, List.length_set, Nat.add_one_sub_one, Nat.sub_self, Nat.reduceSub, Nat.reduceAdd, Int.reduceToNat, Int.reduceLT, Int.reduceLE, Int.reducePow, decide_eq_true_eq, Bool.not_true, Bool.not_false, c1, a2, c2, p1, p2, r1, m1, g2]
  obtain ⟨ws, s, hl, bad⟩ : ∃ (ws : List (List Int)) (s : Option PV × Option PV), forLoop none (.one 4) (fun ρ1 L2 => execs T (call T (d + 19)) lb__law_refused_2 none ρ1 L2) (rangeP 0 r.length) [some (.ref 0), some (.tup (iv r)), some (.int ((10 + v : Nat) : Int)), some (.ref 1), none, none, none, none, none] [o1, .lst (w0.map tv)] = .next [some (.ref 0), some (.tup (iv r)), some (.int ((10 + v : Nat) : Int)), some (.ref 1), s.1, none, s.2, none, none] [o1, .lst (ws.map tv)] ∧ ∀ q ∈ ws, ¬ RkI q := by
    refine for_all (g := none) (I := fun i ρ L' => ∃ (ws : List (List Int)) (s : Option PV × Option PV), ρ = [some (.ref 0), some (.tup (iv r)), some (.int ((10 + v : Nat) : Int)), some (.ref 1), s.1, none, s.2, none, none] ∧ L' = [o1, .lst (ws.map tv)] ∧ ws.length = 3 + 3 * i ∧ ∀ q ∈ ws, ¬ RkI q) (R := fun z => ∃ (ws : List (List Int)) (s : Option PV × Option PV), z = .next [some (.ref 0), some (.tup (iv r)), some (.int ((10 + v : Nat) : Int)), some (.ref 1), s.1, none, s.2, none, none] [o1, .lst (ws.map tv)] ∧ ∀ q ∈ ws, ¬ RkI q) (rangeP 0 r.length) 0 _ _ (fun _ _ _ _ => trivial) ?_ ?_ ⟨w0, (none, none), rfl, rfl, by have := congrArg List.length hw0; simp at this; omega, bad0⟩
    · rintro i x ρ L' hx ⟨ws, ⟨s1, s2⟩, rfl, rfl, hl, hb⟩
      obtain ⟨rfl, hi⟩ := rangeP_get hx
      rw [Nat.zero_add] at *
      obtain ⟨q, hq⟩ : ∃ q : Int → List Int, q = fun y => (r.take i).map (fun (y : Nat) => (y : Int)) ++ [y] ++ (r.drop (i + 1)).map fun (y : Nat) => (y : Int) := ⟨_, rfl⟩
      have t1 := step i 10 ws none none none hi (by omega)
      have t2 := step i (-1) (ws ++ [q 10]) none none none hi (by rw [List.length_append]; simp; omega)
      have t3 := step i ((10 + v : Nat) : Int) (ws ++ [q 10] ++ [q (-1)]) none none none hi (by rw [List.length_append, List.length_append]; simp; omega)
      have hin : forLoop none (.one 6) (fun ρ1 L2 => execs T (call T (d + 19)) lb__law_refused_1 none ρ1 L2) [.int 10, .int (-1), .int ((10 + v : Nat) : Int)] [some (.ref 0), some (.tup (iv r)), some (.int ((10 + v : Nat) : Int)), some (.ref 1), some (.int (i : Int)), none, s2, none, none] [o1, .lst (ws.map tv)] = .next [some (.ref 0), some (.tup (iv r)), some (.int ((10 + v : Nat) : Int)), some (.ref 1), some (.int (i : Int)), none, some (.int ((10 + v : Nat) : Int)), none, none] [o1, .lst ((ws ++ [q 10] ++ [q (-1)] ++ [q ((10 + v : Nat) : Int)]).map tv)] := by
        rw [hq] at t2 t3 ⊢
        rw [for_next rfl t1, for_next rfl t2, for_next rfl t3, for_nil]
      have hl3 : unders 2 [PV.int 10, .int (-1), .int ((10 + v : Nat) : Int)] = true := by simp only [u_cons, u_int, u_nil, Bool.and_self]
      refine ⟨_, rfl, .inl ⟨_, _, .inl ?_, ws ++ [q 10] ++ [q (-1)] ++ [q ((10 + v : Nat) : Int)], (some (.int (i : Int)), some (.int ((10 + v : Nat) : Int))), rfl, rfl, by rw [List.length_append, List.length_append, List.length_append]; simp; omega, fun p hp => ?_⟩⟩
      · show execs T (call T (d + 19)) lb__law_refused_2 none [some (.ref 0), some (.tup (iv r)), some (.int ((10 + v : Nat) : Int)), some (.ref 1), some (.int (0 + (i : Int))), none, s2, none, none] [o1, .lst (ws.map tv)] = _
        simp only [lb__law_refused_2, evA, List.map_cons, List.map_nil, List.cons_append, List.nil_append, List.replicate, List.getElem?_cons_zero, List.getElem?_cons_succ, Option.bind_some, Option.map_some, id, List.set_cons_zero, List.set_cons_succ, List.length_cons, List.length_nil, List.length_map, List.set_set, decide_true, decide_false, Bool.and_true, Bool.true_and, if_true, if_false, Bool.false_eq_true, List.length_set, Nat.add_one_sub_one, Nat.sub_self, Nat.reduceSub, Nat.reduceAdd, Int.reduceToNat, Int.reduceLT, Int.reduceLE, Int.reducePow, decide_eq_true_eq, Bool.not_true, Bool.not_false, Int.zero_add, cneg1, z2 _ _ hl3, w4l (show unders [o1, HObj.lst (ws.map tv)].length _ = true from hl3), hin]
      · rw [hq] at hp
        simp only [List.mem_append, List.mem_singleton] at hp
        rcases hp with ((hp | rfl) | rfl) | rfl
        · exact hb p hp
        · exact bad_put hi (by omega)
        · exact bad_put hi (by omega)
        · exact bad_put hi (by omega)
    · rintro ρ L' ⟨ws, ⟨s1, s2⟩, rfl, rfl, hl, hb⟩
      exact ⟨ws, (s1, s2), rfl, hb⟩
  -- each is refused
  have rr := s_refl (show Pl0 1 refV from .tup 0 _ (fun x hx => by
    simp only [List.mem_cons, List.not_mem_nil, or_false] at hx
    rcases hx with rfl | rfl
    · exact .str _ _
    · exact .bl _ _) (by simp)) (d + 17)
  have w2 : ∀ L, walkOf L .range [.int 2] L = some ⟨rangeP 0 2, none, L⟩ := fun L => by
    rw [walk_range1 (by omega) (by omega), gc_id u_non]
    rfl
  obtain ⟨⟨y5, y7⟩, hl4⟩ := for_guard (g := some (1, ws.map tv)) (tg := .one 5) (L := [o1, .lst (ws.map tv)]) (body := fun ρ1 L2 => execs T (call T (d + 19)) lb__law_refused_4 none ρ1 L2) (S := Option PV × Option PV) (fun t => [some (.ref 0), some (.tup (iv r)), some (.int ((10 + v : Nat) : Int)), some (.ref 1), s.1, t.1, s.2, t.2, none]) rfl (ws.map tv) (none, none) (fun x hx t => by
    obtain ⟨q, hq, rfl⟩ := List.mem_map.mp hx
    refine ⟨_, rfl, ?_⟩
    generalize [o1, HObj.lst (ws.map tv)] = M at *
    obtain ⟨y, hin⟩ := for_find' (S := Option PV) (tg := .one 7) (L := M) (body := fun ρ1 L2 => execs T (call T (d + 19)) lb__law_refused_3 none ρ1 L2) (fun u => [some (.ref 0), some (.tup (iv r)), some (.int ((10 + v : Nat) : Int)), some (.ref 1), s.1, some (tv q), s.2, u, none]) (fun _ => .non) (fun _ => false) (rangeP 0 2) t.2 (fun i x u hx => by
      obtain ⟨rfl, hi⟩ := rangeP_get hx
      refine ⟨_, rfl, .inr ⟨rfl, some (.int (0 + (i : Int))), ?_⟩⟩
      have e0 := s_do0x (d := d + 14) (L := M) (bad q hq)
      have e1 := s_do1x (d := d + 14) (L := M) (bad q hq)
      have rM := rr M
      unfold refV at e0 e1 rM
      unfold tv
      rcases (by omega : i = 0 ∨ i = 1) with rfl | rfl
      · simp only [lb__law_refused_3, evA, List.map_cons, List.map_nil, List.cons_append, List.nil_append, List.replicate, List.getElem?_cons_zero, List.getElem?_cons_succ, Option.bind_some, Option.map_some, id, List.set_cons_zero, List.set_cons_succ, List.length_cons, List.length_nil, List.length_map, List.set_set, decide_true, decide_false, Bool.and_true, Bool.true_and, if_true, if_false, Bool.false_eq_true, List.length_set, Nat.add_one_sub_one, Nat.sub_self, Nat.reduceSub, Nat.reduceAdd, Int.reduceToNat, Int.reduceLT, Int.reduceLE, Int.reducePow, decide_eq_true_eq, Bool.not_true, Bool.not_false, Int.zero_add, Int.natCast_zero, e0, rM]
      · simp only [lb__law_refused_3, evA, List.map_cons, List.map_nil, List.cons_append, List.nil_append, List.replicate, List.getElem?_cons_zero, List.getElem?_cons_succ, Option.bind_some, Option.map_some, id, List.set_cons_zero, List.set_cons_succ, List.length_cons, List.length_nil, List.length_map, List.set_set, decide_true, decide_false, Bool.and_true, Bool.true_and, if_true, if_false, Bool.false_eq_true, List.length_set, Nat.add_one_sub_one, Nat.sub_self, Nat.reduceSub, Nat.reduceAdd, Int.reduceToNat, Int.reduceLT, Int.reduceLE, Int.reducePow, decide_eq_true_eq, Bool.not_true, Bool.not_false, Int.zero_add, Int.natCast_one, e1, rM])
    rw [rangeP_len, find_no] at hin
    simp only at hin
    refine ⟨(some (tv q), y), ?_⟩
    simp only [lb__law_refused_4, evA, List.map_cons, List.map_nil, List.cons_append, List.nil_append, List.replicate, List.getElem?_cons_zero, List.getElem?_cons_succ, Option.bind_some, Option.map_some, id, List.set_cons_zero, List.set_cons_succ, List.length_cons, List.length_nil, List.length_map, List.set_set, decide_true, decide_false, Bool.and_true, Bool.true_and, if_true, if_false, Bool.false_eq_true, List.length_set, Nat.add_one_sub_one, Nat.sub_self, Nat.reduceSub, Nat.reduceAdd, Int.reduceToNat, Int.reduceLT, Int.reduceLE, Int.reducePow, decide_eq_true_eq, Bool.not_true, Bool.not_false, w2, hin])
  have hwo : walkOf [o1, .lst (ws.map tv)] .val [.ref 1] [o1, .lst (ws.map tv)] = some ⟨ws.map tv, some (1, ws.map tv), [o1, .lst (ws.map tv)]⟩ := walk_old rfl
  have wl : ∀ L, walkOf L .val [.frl [.int (-1), .int 0, .int 5, .int 6]] L = some ⟨[(-1 : Int), 0, 5, 6].map PV.int, none, L⟩ := fun L => w4l (by simp only [u_cons, u_int, u_nil, Bool.and_self])
  have z3 : fz [o1, .lst (ws.map tv)] (.ref 2) [o1, .lst (ws.map tv), .lst [.int (-1), .int 0, .int 5, .int 6]] = (.frl [.int (-1), .int 0, .int 5, .int 6], [o1, .lst (ws.map tv)]) := z2 _ _ (by simp only [u_cons, u_int, u_nil, Bool.and_self])
  have ql : ev T (call T (d + 19)) none (.lc le__law_refused_5 (.one 8) .val [(.frz (.lst [(.neg (.cst (.int 1))), (.cst (.int 0)), (.cst (.int 5)), (.cst (.int 6))]))] [] [8]) [some (.ref 0), some (.tup (iv r)), some (.int ((10 + v : Nat) : Int)), some (.ref 1), s.1, y5, s.2, y7, none] [o1, .lst (ws.map tv)] = .ok (.ref 2) [o1, .lst (ws.map tv), .lst ([(-1 : Int), 0, 5, 6].map fun _ => .bl true)] := by
    have := v_lcg (T := T) (cl := call T (d + 19)) (hx := none) (ρ := [some (.ref 0), some (.tup (iv r)), some (.int ((10 + v : Nat) : Int)), some (.ref 1), s.1, y5, s.2, y7, none]) (L := [o1, .lst (ws.map tv)]) (elt := le__law_refused_5) (es := [(.frz (.lst [(.neg (.cst (.int 1))), (.cst (.int 0)), (.cst (.int 5)), (.cst (.int 6))]))]) (conds := []) (k := .val) (as := [(-1 : Int), 0, 5, 6]) PV.int (fun _ => .bl true) (fun _ => true) (xs := [.frl [.int (-1), .int 0, .int 5, .int 6]]) (own := [8]) (.one 8) (by simp only [evA, List.map_cons, List.map_nil, List.cons_append, List.nil_append, List.replicate, List.getElem?_cons_zero, List.getElem?_cons_succ, Option.bind_some, Option.map_some, id, List.set_cons_zero, List.set_cons_succ, List.length_cons, List.length_nil, List.length_map, List.set_set, decide_true, decide_false, Bool.and_true, Bool.true_and, if_true, if_false, Bool.false_eq_true, List.length_set, Nat.add_one_sub_one, Nat.sub_self, Nat.reduceSub, Nat.reduceAdd, Int.reduceToNat, Int.reduceLT, Int.reduceLE, Int.reducePow, decide_eq_true_eq, Bool.not_true, Bool.not_false, cneg1, z3]) (wl _) (by simp) fun a ha => ⟨_, rfl, vc_nil, fun _ => ⟨by
      have e := s_do2x (d := d + 14) (L := [o1, .lst (ws.map tv)]) (j := a) (by simp only [List.mem_cons, List.not_mem_nil, or_false] at ha; omega)
      have rM := rr [o1, .lst (ws.map tv)]
      unfold refV at e rM
      simp only [le__law_refused_5, evA, List.map_cons, List.map_nil, List.cons_append, List.nil_append, List.replicate, List.getElem?_cons_zero, List.getElem?_cons_succ, Option.bind_some, Option.map_some, id, List.set_cons_zero, List.set_cons_succ, List.length_cons, List.length_nil, List.length_map, List.set_set, decide_true, decide_false, Bool.and_true, Bool.true_and, if_true, if_false, Bool.false_eq_true, List.length_set, Nat.add_one_sub_one, Nat.sub_self, Nat.reduceSub, Nat.reduceAdd, Int.reduceToNat, Int.reduceLT, Int.reduceLE, Int.reducePow, decide_eq_true_eq, Bool.not_true, Bool.not_false, List.foldl_cons, List.foldl_nil, e, rM], u_bl⟩⟩
    exact this
  have z4 : fz [o1, .lst (ws.map tv)] (.ref 2) [o1, .lst (ws.map tv), .lst [.bl true, .bl true, .bl true, .bl true]] = (.frl [.bl true, .bl true, .bl true, .bl true], [o1, .lst (ws.map tv)]) := z2 _ _ (by simp only [u_cons, u_bl, u_nil, Bool.and_self])
  have hall : (([(-1 : Int), 0, 5, 6] : List Int).all fun _ => true) = true := rfl
  have fl : bltin .all [.frl [.bl true, .bl true, .bl true, .bl true]] [o1, .lst (ws.map tv)] = .ok (.bl true) [o1, .lst (ws.map tv)] := (f_allF (f := fun _ => true) (as := [(-1 : Int), 0, 5, 6])).trans (by rw [hall])
  have zE : fz [o] (.bl true) [o1, .lst (ws.map tv)] = (.bl true, [o1]) := fzAt hu1 u_bl
  have hsz : ∀ {q : Out PV}, sized (w0.map tv) q = q := sized_le (by rw [← hw0]; simp)
  have gN : gc [o1] (.ref 1) [o1, .lst (w0.map tv)] = (.ref 1, [o1, .lst (w0.map tv)]) := gc_new (L := [o1])
  have hwr : ∀ L, walkOf L .range [.int (r.length : Int)] L = some ⟨rangeP 0 r.length, none, L⟩ := fun L => by
    rw [walk_range1 (by omega) (by omega), gc_id u_non, Int.toNat_natCast]
  generalize hql : Ex.lc le__law_refused_5 (.one 8) .val [(.frz (.lst [(.neg (.cst (.int 1))), (.cst (.int 0)), (.cst (.int 5)), (.cst (.int 6))]))] [] [8] = qx at ql
  refine ⟨o1, ?_, ho1⟩
  rw [call_eq lk_lrefused (d + 19) _ _ rfl]
  unfold fd__law_refused
  rw [hql]
  simp only [evA, List.map_cons, List.map_nil, List.cons_append, List.nil_append, List.replicate, List.getElem?_cons_zero, List.getElem?_cons_succ, Option.bind_some, Option.map_some, id, List.set_cons_zero, List.set_cons_succ, List.length_cons, List.length_nil, List.length_map, List.set_set, decide_true, decide_false, Bool.and_true, Bool.true_and, if_true, if_false, Bool.false_eq_true, List.length_set, Nat.add_one_sub_one, Nat.sub_self, Nat.reduceSub, Nat.reduceAdd, Int.reduceToNat, Int.reduceLT, Int.reduceLE, Int.reducePow, decide_eq_true_eq, Bool.not_true, Bool.not_false, e1, a1, gcA hu1, b1, b2, b3, b4, b5, s5, s6, hw0, hsz, gN, iv_len, hwr, hl, hwo, hl4, ql, z4, fl, zE]
end
/-! ### tables compared -/
theorem peq_iv {n : Nat} {a b : List Nat} : peq (n + 1) (.tup (iv a)) (.tup (iv b)) = some (decide (a = b)) := by
  rw [peq, iv_int, iv_int, c_eqL]
  simp only [map_cast]
theorem peqs_rws {n : Nat} : ∀ {a b : List (List Nat)}, peqs (peq (n + 1)) (rws a) (rws b) = some (decide (a = b))
  | [], [] => rfl
  | [], _ :: _ => rfl
  | _ :: _, [] => rfl
  | x :: a, y :: b => by
    show (match peq (n + 1) (.tup (iv x)) (.tup (iv y)), peqs (peq (n + 1)) (rws a) (rws b) with
      | some a, some b => some (a && b)
      | _, _ => none) = _
    rw [peq_iv, peqs_rws]
    show some _ = some _
    congr 1
    rw [Bool.eq_iff_iff, Bool.and_eq_true, decide_eq_true_eq, decide_eq_true_eq, decide_eq_true_eq, List.cons.injEq]
theorem c_eqR {a b : List (List Nat)} {L : List HObj} : cmpop .eq (.tup (rws a)) (.tup (rws b)) L = .ok (decide (a = b)) L := by
  show (match peq 100 (.tup (rws a)) (.tup (rws b)) with
    | some b => Out.ok b L
    | none => .stuck) = _
  rw [peq, peqs_rws]
/-! ### the law -/
theorem lk_law : T.fns.lookup "law" = some fd_law := rfl
theorem c_neRF {a b : List (List Nat)} {L : List HObj} : cmpop .ne (.frl (rws a)) (.frl (rws b)) L = .ok (!decide (a = b)) L := by
  have e : cmpop .eq (.frl (rws a)) (.frl (rws b)) L = .ok (decide (a = b)) L := by
    show (match peqs (peq 100) (rws a) (rws b) with
      | some b => Out.ok b L
      | none => .stuck) = _
    rw [peqs_rws]
  show MP.notM (cmpop .eq (.frl (rws a)) (.frl (rws b))) L = _
  unfold MP.notM
  rw [e]
theorem rk_put {r : List Nat} {a y : Nat} (h : Rk r) (ha : a < r.length) (hy : y < 10) : Rk (r.take a ++ [y] ++ r.drop (a + 1)) := by
  have hl : (r.take a ++ [y] ++ r.drop (a + 1)).length = r.length := by simp; omega
  refine ⟨by rw [hl]; exact h.1, by rw [hl]; exact h.2.1, fun x hx => ?_⟩
  simp only [List.mem_append, List.mem_singleton] at hx
  rcases hx with (hx | rfl) | hx
  · exact h.2.2 x (List.mem_of_mem_take hx)
  · exact hy
  · exact h.2.2 x (List.mem_of_mem_drop hx)
theorem opp_rk {r : List Nat} (h : Rk r) : Rk (opp r) := ⟨by rw [opp_len]; exact h.1, by rw [opp_len]; exact h.2.1, fun y hy => by
  unfold opp at hy
  obtain ⟨x, hx, rfl⟩ := List.mem_map.mp hy
  have h1 := (dns_rk h).2.2 _ (mxN_mem (ne_of_len (dns_rk h).1))
  omega⟩
theorem s_law {d : Nat} (sc : List Int) (hlen : sc.length ≤ 63) : ∃ L', call T (d + 51) "law" [.frl (sc.map PV.int)] [] = .ok (.bl true) L' := by
  obtain ⟨s, hs1, hs2, e0⟩ := s_start (d := d + 49) (by omega : sc.length < 1000) []
  have ho0 : St sc (.lst [.int s, .frl (sc.map .int), .int 0, .int 0]) := ⟨s, 0, 0, rfl, hs1, hs2, by omega, by omega⟩
  generalize hO : HObj.lst [.int s, .frl (sc.map .int), .int 0, .int 0] = o0 at e0 ho0
  have e0' : call T (d + 50) "_law_start" [.frl (sc.map .int)] [] = .ok (.ref 0) [o0] := e0
  have hg0 : gc [] (.ref 0) [o0] = (.ref 0, [o0]) := gc_new (L := [])
  obtain ⟨v, o1, (e1 : call T (d + 50) "_law_pick" [.ref 0, .int 4] [o0] = .ok (.int (v : Int)) [o1]), hv, ho1⟩ := pick1 (d := d + 49) (lim := 4) ho0 (by omega) (by omega)
  have a1 : (1 : Int) + (v : Int) = ((1 + v : Nat) : Int) := by omega
  generalize hk : 1 + v = k at a1
  obtain ⟨r, o2, (e2 : call T (d + 50) "_law_ranks" [.ref 0, .int (k : Int)] [o1] = .ok (.tup (iv r)) [o2]), hrl, hr, ho2⟩ := s_lranks (d := d + 48) ho1 (show 1 ≤ k by omega) (show k ≤ 4 by omega)
  obtain ⟨a, o3, (e3 : call T (d + 50) "_law_pick" [.ref 0, .int (k : Int)] [o2] = .ok (.int (a : Int)) [o3]), ha, ho3⟩ := pick1 (d := d + 49) (lim := k) ho2 (by omega) (by omega)
  obtain ⟨q, o4, (e4 : call T (d + 50) "_law_spread" [.ref 0, .tup (iv (dns r))] [o3] = .ok (.tup (iv q)) [o4]), hq, ho4⟩ := s_lspread (d := d + 48) ho3 (dns_rk hr) (fun x hx => by have := dns_lt hr.2.2 x hx; omega)
  obtain ⟨o5, (e5 : call T (d + 50) "_law_refused" [.ref 0, .tup (iv r)] [o4] = .ok (.bl true) [o5]), ho5⟩ := s_lrefused (d := d + 30) ho4 hr
  have hu1 := St_u (n := 1) ho1
  have hu2 := St_u (n := 1) ho2
  have hu3 := St_u (n := 1) ho3
  have hu4 := St_u (n := 1) ho4
  have hu5 := St_u (n := 1) ho5
  have h4 := hr.2.1
  have hst : ∀ {o : HObj}, St sc o → List.all [o] isLst = true := fun ⟨_, _, _, e, _⟩ => by rw [e]; rfl
  have c1 := fun L => cut_t (r := r) (a := a) (by omega) (L := L)
  have c2 := fun L => cut_d (r := r) (a := a + 1) (by omega) (L := L)
  have a2 : (a : Int) + 1 = ((a + 1 : Nat) : Int) := by omega
  have p9 := fun L => put1 (r := r) (a := a) (x := 9) h4 (L := L)
  have p0 := fun L => put1 (r := r) (a := a) (x := 0) h4 (L := L)
  have q9 : ∀ L, binop .add (.tup (iv (r.take a) ++ [.int 9])) (.tup (iv (r.drop (a + 1)))) L = .ok (.tup (iv (r.take a ++ [9] ++ r.drop (a + 1)))) L := fun L => by
    rw [b_tup (by rw [List.length_append, iv_len, iv_len, List.length_take, List.length_drop]; simp; omega), iv_app (a := r.take a ++ [9]), iv_app]
    rfl
  have q0 : ∀ L, binop .add (.tup (iv (r.take a) ++ [.int 0])) (.tup (iv (r.drop (a + 1)))) L = .ok (.tup (iv (r.take a ++ [0] ++ r.drop (a + 1)))) L := fun L => by
    rw [b_tup (by rw [List.length_append, iv_len, iv_len, List.length_take, List.length_drop]; simp; omega), iv_app (a := r.take a ++ [0]), iv_app]
    rfl
  have bcat : ∀ (x1 x2 x3 x4 x5 x6 : PV) (L : List HObj), binop .add (.frl [x1, x2, x3, x4]) (.frl [x5, x6]) L = .ok (.ref L.length) (L ++ [.lst [x1, x2, x3, x4, x5, x6]]) := fun x1 x2 x3 x4 x5 x6 L => b_frl (by simp)
  obtain ⟨y7, l1⟩ := for_find' (S := Option PV) (tg := .one 7) (L := [o4]) (body := fun ρ1 L2 => execs T (call T (d + 50)) lb_law_1 none ρ1 L2) (fun s => [some (.frl (sc.map .int)), some (.ref 0), some (.int (k : Int)), some (.tup (iv r)), some (.tup (iv (dns r))), some (.int (a : Int)), some (.frl [.tup (iv (r.take a ++ [9] ++ r.drop (a + 1))), .tup (iv (r.take a ++ [0] ++ r.drop (a + 1)))]), s, none, none, none]) (fun _ => .non) (fun _ => false) [.tup (iv r), .tup (iv (dns r)), .tup (iv (opp r)), .tup (iv q), .tup (iv (r.take a ++ [9] ++ r.drop (a + 1))), .tup (iv (r.take a ++ [0] ++ r.drop (a + 1)))] none (fun i x s hx => by
    obtain ⟨z, rfl, hz⟩ : ∃ z, x = .tup (iv z) ∧ Rk z := by
      have := List.mem_of_getElem? hx
      simp only [List.mem_cons, List.not_mem_nil, or_false] at this
      rcases this with rfl | rfl | rfl | rfl | rfl | rfl
      · exact ⟨_, rfl, hr⟩
      · exact ⟨_, rfl, dns_rk hr⟩
      · exact ⟨_, rfl, opp_rk hr⟩
      · exact ⟨_, rfl, hq⟩
      · exact ⟨_, rfl, rk_put hr (by omega) (by omega)⟩
      · exact ⟨_, rfl, rk_put hr (by omega) (by omega)⟩
    refine ⟨_, rfl, .inr ⟨rfl, some (.tup (iv z)), ?_⟩⟩
    simp only [lb_law_1, evA, List.map_cons, List.map_nil, List.cons_append, List.nil_append, List.replicate, List.getElem?_cons_zero, List.getElem?_cons_succ, Option.bind_some, Option.map_some, id, List.set_cons_zero, List.set_cons_succ, List.length_cons, List.length_nil, List.length_map, List.set_set, decide_true, decide_false, Bool.and_true, Bool.true_and, if_true, if_false, Bool.false_eq_true, List.length_set, Nat.add_one_sub_one, Nat.sub_self, Nat.reduceSub, Nat.reduceAdd, Int.reduceToNat, Int.reduceLT, Int.reduceLE, Int.reducePow, decide_eq_true_eq, Bool.not_true, Bool.not_false, s_ltold (d := d + 44) hz])
  rw [List.length_cons, find_no] at l1
  simp only at l1
  obtain ⟨y8, l2⟩ := for_find' (S := Option PV) (tg := .one 8) (L := [o4]) (body := fun ρ1 L2 => execs T (call T (d + 50)) lb_law_2 none ρ1 L2) (fun s => [some (.frl (sc.map .int)), some (.ref 0), some (.int (k : Int)), some (.tup (iv r)), some (.tup (iv (dns r))), some (.int (a : Int)), some (.frl [.tup (iv (r.take a ++ [9] ++ r.drop (a + 1))), .tup (iv (r.take a ++ [0] ++ r.drop (a + 1)))]), y7, s, none, none]) (fun _ => .non) (fun _ => false) (rangeP 1 4) none (fun i x s hx => by
    obtain ⟨rfl, hi⟩ := rangeP_get hx
    have ai : (1 : Int) + (i : Int) = ((1 + i : Nat) : Int) := by omega
    rw [ai]
    refine ⟨_, rfl, .inr ⟨rfl, some (.int ((1 + i : Nat) : Int)), ?_⟩⟩
    have ed := s_do2 (d := d + 45) (k := 1 + i) (L := [o4]) (by omega) (by omega) (hst ho4)
    have eo := s_lorders (d := d + 48) (k := 1 + i) (L := [o4]) (by omega) (by omega)
    have h256 := pow4 (k := 1 + i) (by omega)
    have pl : Pl0 2 (.tup (rws (ords (1 + i)))) := pl_rwsA (by have := ordsT_len (k := 1 + i) (i := (1 + i) ^ (1 + i)); exact Nat.le_trans this (by omega)) fun o ho => by rw [(mem_ords ho).1]; omega
    have rr := s_refl (pl_two (w := "orders") pl) (d + 46) [o4]
    unfold orV at ed
    simp only [lb_law_2, evA, List.map_cons, List.map_nil, List.cons_append, List.nil_append, List.replicate, List.getElem?_cons_zero, List.getElem?_cons_succ, Option.bind_some, Option.map_some, id, List.set_cons_zero, List.set_cons_succ, List.length_cons, List.length_nil, List.length_map, List.set_set, decide_true, decide_false, Bool.and_true, Bool.true_and, if_true, if_false, Bool.false_eq_true, List.length_set, Nat.add_one_sub_one, Nat.sub_self, Nat.reduceSub, Nat.reduceAdd, Int.reduceToNat, Int.reduceLT, Int.reduceLE, Int.reducePow, decide_eq_true_eq, Bool.not_true, Bool.not_false, ed, eo, rws_u, rr])
  rw [rangeP_len, find_no] at l2
  simp only at l2
  have w15 : ∀ L, walkOf L .range [.int 1, .int 5] L = some ⟨rangeP 1 4, none, L⟩ := fun L => by
    rw [walk_range2 (by decide) (by decide), gc_id u_non]
    rfl
  have g6 : gc [o3] (.frl [PV.tup (iv r), .tup (iv (dns r)), .tup (iv (opp r)), .tup (iv q), .tup (iv (r.take a ++ [9] ++ r.drop (a + 1))), .tup (iv (r.take a ++ [0] ++ r.drop (a + 1)))]) [o4] = (.frl [PV.tup (iv r), .tup (iv (dns r)), .tup (iv (opp r)), .tup (iv q), .tup (iv (r.take a ++ [9] ++ r.drop (a + 1))), .tup (iv (r.take a ++ [0] ++ r.drop (a + 1)))], [o4]) := gcA hu4 (by simp only [u_frl, u_cons, u_tup, iv_u, u_nil, Bool.and_self])
  have w6 : walkOf [o3] .val [.frl [PV.tup (iv r), .tup (iv (dns r)), .tup (iv (opp r)), .tup (iv q), .tup (iv (r.take a ++ [9] ++ r.drop (a + 1))), .tup (iv (r.take a ++ [0] ++ r.drop (a + 1)))]] [o4] = some ⟨[PV.tup (iv r), .tup (iv (dns r)), .tup (iv (opp r)), .tup (iv q), .tup (iv (r.take a ++ [9] ++ r.drop (a + 1))), .tup (iv (r.take a ++ [0] ++ r.drop (a + 1)))], none, [o4]⟩ := by
    rw [walk_frl, g6]
  -- the orders that compare alike
  have h256 := pow4 (k := k) (by omega)
  have hol : (ords k).length ≤ 256 := Nat.le_trans (ordsT_len (k := k) (i := k ^ k)) h256
  have ed := s_dord (d := d + 46) (k := k) (L := [o5]) (by omega) (by omega) (hst ho5)
  have eo := s_lorders (d := d + 48) (k := k) (L := [o5]) (by omega) (by omega)
  have ql : ∀ e7 e8 e10, ev T (call T (d + 50)) none (.lc le_law_3 (.one 10) .val [(.var 9)] lq_law_4 [10]) [some (.frl (sc.map .int)), some (.ref 0), some (.int (k : Int)), some (.tup (iv r)), some (.tup (iv (dns r))), some (.int (a : Int)), some (.frl [.tup (iv (r.take a ++ [9] ++ r.drop (a + 1))), .tup (iv (r.take a ++ [0] ++ r.drop (a + 1)))]), e7, e8, some (.tup (rws (ords k))), e10] [o5] = .ok (.ref 1) [o5, .lst (rws [dns r])] := fun e7 e8 e10 => by
    have := v_lcg (T := T) (cl := call T (d + 50)) (hx := none) (ρ := [some (.frl (sc.map .int)), some (.ref 0), some (.int (k : Int)), some (.tup (iv r)), some (.tup (iv (dns r))), some (.int (a : Int)), some (.frl [.tup (iv (r.take a ++ [9] ++ r.drop (a + 1))), .tup (iv (r.take a ++ [0] ++ r.drop (a + 1)))]), e7, e8, some (.tup (rws (ords k))), e10]) (L := [o5]) (elt := le_law_3) (es := [.var 9]) (conds := lq_law_4) (k := .val) (as := ords k) (fun o => .tup (iv o)) (fun o => .tup (iv o)) (fun o => alkB o r) (xs := [.tup (rws (ords k))]) (own := [10]) (.one 10) (by simp only [evA, List.map_cons, List.map_nil, List.cons_append, List.nil_append, List.replicate, List.getElem?_cons_zero, List.getElem?_cons_succ, Option.bind_some, Option.map_some, id, List.set_cons_zero, List.set_cons_succ, List.length_cons, List.length_nil, List.length_map, List.set_set, decide_true, decide_false, Bool.and_true, Bool.true_and, if_true, if_false, Bool.false_eq_true, List.length_set, Nat.add_one_sub_one, Nat.sub_self, Nat.reduceSub, Nat.reduceAdd, Int.reduceToNat, Int.reduceLT, Int.reduceLE, Int.reducePow, decide_eq_true_eq, Bool.not_true, Bool.not_false]) (by rw [walk_tup, gc_id (by rw [u_tup]; exact rws_u)]; rfl) (by omega) fun o ho => ⟨_, rfl, by
        have hl : o.length = r.length := by rw [(mem_ords ho).1, hrl]
        simp only [lq_law_4, evA, List.map_cons, List.map_nil, List.cons_append, List.nil_append, List.replicate, List.getElem?_cons_zero, List.getElem?_cons_succ, Option.bind_some, Option.map_some, id, List.set_cons_zero, List.set_cons_succ, List.length_cons, List.length_nil, List.length_map, List.set_set, decide_true, decide_false, Bool.and_true, Bool.true_and, if_true, if_false, Bool.false_eq_true, List.length_set, Nat.add_one_sub_one, Nat.sub_self, Nat.reduceSub, Nat.reduceAdd, Int.reduceToNat, Int.reduceLT, Int.reduceLE, Int.reducePow, decide_eq_true_eq, Bool.not_true, Bool.not_false, List.foldl_cons, List.foldl_nil, s_lalike (d := d + 49) hl (by omega)], fun _ => ⟨by simp only [le_law_3, evA, List.map_cons, List.map_nil, List.cons_append, List.nil_append, List.replicate, List.getElem?_cons_zero, List.getElem?_cons_succ, Option.bind_some, Option.map_some, id, List.set_cons_zero, List.set_cons_succ, List.length_cons, List.length_nil, List.length_map, List.set_set, decide_true, decide_false, Bool.and_true, Bool.true_and, if_true, if_false, Bool.false_eq_true, List.length_set, Nat.add_one_sub_one, Nat.sub_self, Nat.reduceSub, Nat.reduceAdd, Int.reduceToNat, Int.reduceLT, Int.reduceLE, Int.reducePow, decide_eq_true_eq, Bool.not_true, Bool.not_false, List.foldl_cons, List.foldl_nil], by rw [u_tup]; exact iv_u⟩⟩
    have hf : (ords k).filter (fun o => alkB o r) = [dns r] := by
      rw [← hrl]
      exact ords_alk hr fun o ho => alkB_iff (mem_ords ho).1
    rw [hf] at this
    exact this
  have f5 : fz [o5] (.ref 1) [o5, .lst (rws [dns r])] = (.frl (rws [dns r]), [o5]) := fzcA hu5 rws_u
  have f5' : fz [o5] (.ref 1) [o5, .lst [.tup (iv (dns r))]] = (.frl (rws [dns r]), [o5]) := f5
  have hne : cmpop .ne (.frl (rws [dns r])) (.frl (rws [dns r])) [o5] = .ok false [o5] := by rw [c_neRF, decide_eq_true rfl]; rfl
  have hne' : cmpop .ne (.frl (rws [dns r])) (.frl [.tup (iv (dns r))]) [o5] = .ok false [o5] := hne
  have pl : Pl0 2 (.tup (rws (ords k))) := pl_rwsA (by omega) fun o ho => by rw [(mem_ords ho).1]; omega
  have rr := s_refl pl (d + 47) [o5]
  have hfz : fz [] (.bl true) [o5] = (.bl true, []) := fz_tk (L := []) (M := [o5]) (v := .bl true) (Nat.zero_le _) (by simp) u_bl
  refine ⟨[], ?_⟩
  rw [call_eq lk_law (d + 50) _ _ rfl]
  simp only [fd_law, evA, List.map_cons, List.map_nil, List.cons_append, List.nil_append, List.replicate, List.getElem?_cons_zero, List.getElem?_cons_succ, Option.bind_some, Option.map_some, id, List.set_cons_zero, List.set_cons_succ, List.length_cons, List.length_nil, List.length_map, List.set_set, decide_true, decide_false, Bool.and_true, Bool.true_and, if_true, if_false, Bool.false_eq_true, List.length_set, Nat.add_one_sub_one, Nat.sub_self, Nat.reduceSub, Nat.reduceAdd, Int.reduceToNat, Int.reduceLT, Int.reduceLE, Int.reducePow, decide_eq_true_eq, Bool.not_true, Bool.not_false, e0', hg0, e1, gcA hu1, a1, e2, gcA hu2, iv_u, s_ldense (d := d + 49) hr, e3, gcA hu3, c1, a2, c2, p9, p0, q9, q0, fzcA hu3, hu3, s_lopp (d := d + 48) hr, e4, fzcA hu4, hu4, bcat, w6, l1, w15, l2, e5, gcA hu5, ed, rws_u, ql, f5, f5', hne, hne', s_ltold (d := d + 44) hr, eo, rr, hfz]
end LW

set_option maxHeartbeats 0
def LW.most : Nat := 63
open PySem PySem.W PySem.Calls PyProof.Rows
theorem PySem.Challenge.cw_choosersrow_k11_ranks_and_orders_holds : PySem.Challenge.rw_choosersrow_k11_ranks_and_orders.Holds := by
  w_on; o_law
  refine HandSHeadRun.head_any (r := OpenLaw.row PySem.Challenge.rw_choosersrow_k11_ranks_and_orders) (q := view (OpenLaw.row PySem.Challenge.rw_choosersrow_k11_ranks_and_orders).prog [32]) (H := LW.hk) (ob := LW.ob) (M := 20000) (loose := LW.names) (d := HandSHeadRun.topDef (OpenLaw.row PySem.Challenge.rw_choosersrow_k11_ranks_and_orders).prog 32) (kwd := []) LW.ob_eq
    (by kernel_rfl) (fun s => by kernel_rfl) LW.run (by kernel_rfl) (by kernel_rfl) (by kernel_rfl) (by rfl) (by first | assumption | decide +kernel) (by decide +kernel) ⟨rfl, rfl, rfl, rfl, rfl, by decide +kernel⟩ ?hw ?hc
  case hw => w_witness2
  case hc =>
    exact MP.end_of (l := PySem.Challenge.rw_choosersrow_k11_ranks_and_orders) (n := LW.most) (d := 100) (x := PySem.Str.ofString "_law_script") rfl rfl LW.hg LW.hd LW.hi (by rfl) (by rfl) (by decide +kernel) (by kernel_rfl) rfl (by decide) (by kernel_rfl) ⟨rfl, by decide, by decide⟩ LW.s_law
