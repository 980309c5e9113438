import PyProof.Rows.All
import Wide.All
import OpenK.AllK
import Wide.FinOn
import HandS.ForMost
import HandS.TupAny
import HandS.TupMul
import HandS.Wide
import HandS.WideBits
import KE.KDictKeyed
import KE.KeyNested
import HandS.Lambda
import HandS.TupLe
import HandS.IsInst
import HandS.Deep
import HandS.SortInts
import HandS.NoneIn
import HandS.Walk
import HandS.Zip
import KE.GoesEnum
import KE.KTupSum
import PyProof.MinMaxWalk
import KE.KEqSeq
import HandS.Conv
import HandS.Style
import PyProof.Rows.SortShell
import PyProof.SeqIndex
import HandS.More
import PyProof.EqAt
import KE.KIntText
import KE.GoesZip
import KE.KDictZip
import KE.LtSeq
import KE.KSortTup
import HandS.SortRule
import HandS.ExcValue
import PyProof.ListNew
import HandS.SetFor
import PyProof.ReprLen
import HandS.Iter
import HandS.Dict
import KE.DataMinMax
import KE.KDictWalk
import KE.KDictPairs
import PyProof.Rows.SeqRoads
import PyProof.Rows.SeqItemCall
import KE.KDictSum
import KE.KDictItemsList
import PyProof.DictItems
import KE.KDictCopyH
import KE.KEqDict
import KE.KDictDisplayH
import KE.DataCmp
import HandS.WordsDict
import PyProof.DictUpdate
import HandS.RaiseMore
import PyProof.CallStr
import PyProof.FString2
import HandS.Flow
import KE.KNest
import HandS.EndTab
import HandS.Call
import PyProof.ReprRoads
import KE.BitLaws
import PySem.Challenge.RW_stairlanes_k45_places_taken
set_option Elab.async false
set_option linter.all false
set_option maxRecDepth 100000
set_option autoImplicit false
set_option maxHeartbeats 4000000
set_option exponentiation.threshold 20000
namespace Sim
open PySem PySem.Spec L2
open AutoSeq1 (wpAny_loadPart')
def SqD (K : PySem.W.Frag) (H : Hp) (a : Addr) (xs : List V) : Prop :=
  (∃ o : Obj, H a = some (.frz o (.tup xs)) ∧ o.dict = none) ∨
    ∃ (o : Obj) (its : Array Value) (n : Nat), K.lookup a = some o ∧ o.cls = .type "tuple" ∧ o.dict = none ∧ o.data = .seq its n ∧ its.size ≤ sizeLine ∧ Vals xs its.toList
theorem SqD.sq {K : PySem.W.Frag} {H : Hp} {a : Addr} {xs : List V} (h : SqD K H a xs) : SqT K H a xs := by
  rcases h with ⟨o, h, _⟩ | ⟨o, its, n, h1, h2, _, h3, h4, h5⟩
  · exact .inl (.inr ⟨o, h⟩)
  · exact .inr ⟨o, its, n, h1, h2, h3, h4, h5⟩
theorem SqD.of {K : PySem.W.Frag} {H : Hp} {a : Addr} {o : Obj} {xs : List V} (h : H a = some (.frz o (.tup xs))) (n : o.dict = none) : SqD K H a xs := .inl ⟨o, h, n⟩
/-- a new tuple -/
def rNewT (xs : List V) (H : Hp) (Q : VK) : Prop := ∀ p o, H p = none → o.dict = none → Q (.ref p) (upd H p (.frz o (.tup xs)))
section
variable {X : Cx} {pins : List (Addr × Obj)} {σ : St} {H : Hp} {s : Shared} {xs : List V} {its : List Value} {Q : VK}
theorem lay_tup {t' : Nat} (I : Inv X pins σ H s) (r : Vals xs its) (z : xs.length ≤ sizeLine) (q : rNewT xs H Q) :
    EP X pins σ Q (.ref s.heap.objs.size) { s with heap := s.heap.push { cls := .type "tuple", data := .seq its.toArray }, toks := t' } := by
  have e : (s.heap.push { cls := .type "tuple", data := .seq its.toArray }).get? s.heap.objs.size = some { cls := .type "tuple", data := .seq its.toArray } := Heap.get?_push_size _ rfl
  refine ⟨.ref s.heap.objs.size, _, I.laid (t' := t') (o := .frz { cls := .type "tuple", data := .seq its.toArray } (.tup xs)) (fun b ob q => Heap.get?_push_of_some _ q) (Nat.le_refl _) ⟨e, z, its, r, ⟨_, e, rfl, _, rfl⟩⟩, rfl, q _ _ (I.hok.fresh (Nat.le_refl _)) rfl⟩
def tTupD (t : TA) : TE := fun σ H Q => t σ H fun xs H1 => xs.length ≤ sizeLine ∧ rNewT xs H1 Q
theorem pe_tupD {es : List Expr} {t : TA} {pos : Pos} {x1 : Nat} (h : PA X es t) : PE X (.Tuple es x1 pos) (tTupD t) := by
  refine ⟨fun pins s σ H Q I hq => ?_⟩
  exact wpAny_Tuple_spliced (thn (h.run pos pins s σ H _ I hq) fun us s1 ⟨xs, H1, I1, r, z, q⟩ => ⟨by rw [← r.length]; exact z, lay_tup (t' := s1.toks) I1 r z q⟩)
theorem call_tuple_ofD : CallR X (.type "tuple") (fun xs H Q => ∃ p ys, xs = [.ref p] ∧ ((SqL X.K H p ys ∧ rNewT ys H Q) ∨ (SqT X.K H p ys ∧ Q (.ref p) H))) := by
  intro pins s σ H xs us Q I r h
  obtain ⟨p, ys, rfl, h⟩ := h
  obtain ⟨u, rfl, rx⟩ := vals1 r
  cases rx
  rcases h with ⟨hq, q⟩ | ⟨hq, q⟩
  · obtain ⟨its, r', pl, hz⟩ := I.list hq
    have hlen := r'.length
    refine call_tuple_list pl.isList (fun h' kp => ?_) (by simp only [List.size_toArray] <;> omega)
    have I1 : Inv X pins σ H { s with heap := h' } := I.kept (t' := s.toks) kp
    exact lay_tup (t' := s.toks) I1 r' hz q
  · obtain ⟨its, r', pl, hz⟩ := I.tuple hq
    exact call_tuple_same pl ⟨.ref p, H, I, rfl, q⟩
def rSlD (K : PySem.W.Frag) : V → Option Int → Option Int → Hp → VK → Prop := fun x lo hi H Q => ∃ a xs, x = .ref a ∧ SqT K H a xs ∧
  (HT.sIx xs.length 0 lo = 0 ∧ HT.sIx xs.length xs.length hi = xs.length → Q (.ref a) H) ∧ (¬ (HT.sIx xs.length 0 lo = 0 ∧ HT.sIx xs.length xs.length hi = xs.length) → rNewT (cutV xs lo hi) H Q)
theorem sl_tupD : SlR X (rSlD X.K) := by
  intro pins s σ H x v vl vu lo hi sl Q I rx hs pl pu h
  obtain ⟨a, xs, rfl, hx, q1, q2⟩ := h
  cases rx
  obtain ⟨its, r, ht, hz⟩ := I.tuple hx
  have hlen : its.toArray.size = xs.length := by rw [List.size_toArray]; exact r.length.symm
  refine ⟨"tuple", _, PyProof.Rows.slot_tuple_getitem.lookup, ht.typeIs, ?_⟩
  by_cases hw : HT.sIx xs.length 0 lo = 0 ∧ HT.sIx xs.length xs.length hi = xs.length
  · exact getItem_tuple_whole ht hs pl pu (by rw [hlen]; exact hw) ⟨.ref a, H, I, rfl, q1 hw⟩
  · refine HT.getItem_tuple_cut ht hs pl pu (by rw [hlen]; exact hw) ?_ (by rw [hlen]; exact hz)
    rw [hlen]
    exact lay_tup (t' := s.toks) I ((r.drop (HT.sIx xs.length 0 lo)).take (HT.sIx xs.length xs.length hi - HT.sIx xs.length 0 lo)) (Nat.le_trans (cutV_length xs lo hi) hz) (q2 hw)
def rCatD (K : PySem.W.Frag) : R2 := fun x y H Q => ∃ a b xs ys, x = .ref a ∧ y = .ref b ∧ SqT K H a xs ∧ SqT K H b ys ∧ xs.length + ys.length ≤ sizeLine ∧
  (xs = [] → Q (.ref b) H) ∧ (xs ≠ [] → ys = [] → Q (.ref a) H) ∧ (xs ≠ [] → ys ≠ [] → rNewT (xs ++ ys) H Q)
theorem op_catD : OpR X (binaryOp .Add) (rCatD X.K) := by
  intro pins s σ H x y v u Q I rx ry h
  obtain ⟨a, b, xs, ys, rfl, rfl, ha, hb, hz, q0, q1, q2⟩ := h
  cases rx
  cases ry
  obtain ⟨its, r1, p1, _⟩ := I.tuple ha
  obtain ⟨its2, r2, p2, _⟩ := I.tuple hb
  by_cases hx : xs = []
  · subst hx
    cases r1
    exact cat_tup0 p1 p2 ⟨.ref b, H, I, rfl, q0 rfl⟩
  · refine HT.cat_tup p1 p2 (fun z => hx (r1.nil_iff.mp z)) (fun z => ⟨.ref a, H, I, rfl, q1 hx (r2.nil_iff.mp z)⟩) (fun z => ?_) (by rw [← r1.length, ← r2.length]; exact hz)
    exact lay_tup (t' := s.toks) I (r1.append r2) (by rw [List.length_append]; exact hz) (q2 hx fun w => z (r2.nil_iff.mpr w))
theorem tuple_mulS (l : Addr) (items : Array Value) (n : Nat) (dd : Option Addr) (sl : Array (Option Value)) (x : Int) (u : Tok) (c0 : (decide (x < -(2 ^ 63)) || decide (x ≥ 2 ^ 63)) = false) (c1 : (items.isEmpty || x == 1) = true) :
    Meets (Builtin.«tuple.__mul__» ⟨[.ref l, .int x u], []⟩) (fun _ R s => s.heap.get? l = some { cls := .type "tuple", dict := dd, data := .seq items n, slots := sl } ∧ R (.ok (.ret (Value.ref l))) s) :=
  .of_wp fun prog w A R s h => by
    obtain ⟨hp, g, d, tk, os⟩ := s
    obtain ⟨hl, h⟩ := h
    have f1 := AutoSeq1.idx_int
    wp_walk using wpAny_loadPart' hl
    repeat (first
      | (refine wpAny_ite_false (decide_eq_false (by rw [c0]; exact Bool.false_ne_true)) ?_; wp_walk using wpAny_loadPart' hl)
      | (refine wpAny_ite_true (decide_eq_true (by rw [c1])) ?_; wp_walk using wpAny_loadPart' hl))
    exact ⟨_, rfl, h⟩
theorem tuple_mul0 (l : Addr) (items : Array Value) (n : Nat) (dd : Option Addr) (sl : Array (Option Value)) (x : Int) (u : Tok) (c0 : (decide (x < -(2 ^ 63)) || decide (x ≥ 2 ^ 63)) = false) (c1 : (items.isEmpty || x == 1) = false) (c2 : (decide (x ≤ 0) || items.isEmpty) = true) :
    Meets (Builtin.«tuple.__mul__» ⟨[.ref l, .int x u], []⟩) (fun _ R s => s.heap.get? l = some { cls := .type "tuple", dict := dd, data := .seq items n, slots := sl } ∧
      R (.ok (.ret (Value.ref s.heap.objs.size))) { s with heap := s.heap.push { cls := Value.type "tuple", data := Data.seq #[] }, toks := s.toks }) :=
  .of_wp fun prog w A R s h => by
    obtain ⟨hp, g, d, tk, os⟩ := s
    obtain ⟨hl, h⟩ := h
    have f1 := AutoSeq1.idx_int
    wp_walk using wpAny_loadPart' hl
    repeat (first
      | (refine wpAny_ite_false (decide_eq_false (by rw [c0]; exact Bool.false_ne_true)) ?_; wp_walk using wpAny_loadPart' hl)
      | (refine wpAny_ite_false (decide_eq_false (by rw [c1]; exact Bool.false_ne_true)) ?_; wp_walk using wpAny_loadPart' hl)
      | (refine wpAny_ite_true (decide_eq_true (by rw [c2])) ?_; wp_walk using wpAny_loadPart' hl)
      | (refine wpAny_ite_false (decide_eq_false (by decide)) ?_; wp_walk using wpAny_loadPart' hl))
    exact ⟨_, rfl, h⟩
def rRepD (K : PySem.W.Frag) : R2 := fun x y H Q => ∃ l k xs, x = .ref l ∧ y = .int k ∧ SqT K H l xs ∧ -1000 ≤ k ∧ k ≤ 1000 ∧ xs.length ≤ 1000 ∧
  (xs = [] ∨ k = 1 → Q (.ref l) H) ∧ (xs ≠ [] → k ≠ 1 → rNewT (List.replicate k.toNat xs).flatten H Q)
theorem op_repD : OpR X (binaryOp .Mult) (rRepD X.K) := by
  intro pins s σ H x y v u Q I rx ry h
  obtain ⟨l, k, xs, rfl, rfl, hT, h1, h2, hz, q1, q2⟩ := h
  cases rx
  obtain ⟨t, rfl⟩ := ry
  obtain ⟨its, r, ⟨⟨cls, dd, data, sl⟩, ho, hc, n, hd⟩, hs⟩ := I.tuple hT
  simp only at hc hd
  subst hc hd
  have hle : its.length = xs.length := r.length.symm
  have hsz0 : its.toArray.size = xs.length := by rw [List.size_toArray, hle]
  have hm : ((its.toArray.size : Nat) : Int) * k ≤ 1000000 := by
    rw [hsz0]
    rcases Int.lt_or_le k 0 with hk | hk
    · have : ((xs.length : Nat) : Int) * k ≤ 0 := Int.mul_nonpos_of_nonneg_of_nonpos (by omega) (by omega)
      omega
    · have a1 : ((xs.length : Nat) : Int) * k ≤ 1000 * k := Int.mul_le_mul_of_nonneg_right (by omega) (by omega)
      omega
  have flen : (List.replicate k.toNat its).flatten.length ≤ 1000000 := by
    rw [PyProof.Rows.lm_len_rep_flat, hle]
    have a1 : k.toNat * xs.length ≤ 1000 * 1000 := Nat.mul_le_mul (by omega) hz
    omega
  have flen2 : (List.replicate k.toNat xs).flatten.length ≤ sizeLine := by
    rw [PyProof.Rows.lm_len_rep_flat, sizeLine_eq]
    have a1 : k.toNat * xs.length ≤ 1000 * 1000 := Nat.mul_le_mul (by omega) hz
    omega
  have c0 : (decide (k < -(2 ^ 63)) || decide (k ≥ 2 ^ 63)) = false := by
    rw [decide_eq_false (by omega), decide_eq_false (by omega)] <;> rfl
  have go : ∀ {Q' : Value → Shared → Prop}, wpAny (model X.prog X.w) (X.A) (call (.builtin "tuple.__mul__") [.ref l, .int k t]) Q' X.xe s → wpAny (model X.prog X.w) X.A (binaryOp .Mult (.ref l) (.int k t)) Q' X.xe s := fun {Q'} z =>
    wpAny_binaryOp_repeat_ref (T := "tuple") (U := "int") (by decide) ⟨_, ho, rfl⟩ (fun s' => typeIs_int s' k t) noFill_tuple_mul F.fills_int_mul F.slot_int_rmul repeat_tuple F.slot_int_index.lookup
      (call_meets F.slot_int_rmul (typeIs_int s k t) F.entry_int_rmul (F.args_int_rmul_2 _ _) (int_rmul_tuple k t l its.toArray n dd sl) ⟨ho, rfl, ⟨_, ho, rfl⟩, z⟩)
  refine go ?_
  cases c1 : (its.toArray.isEmpty || k == 1) with
  | true =>
    refine call_meets F.slot_tuple_mul ⟨_, ho, rfl⟩ F.entry_tuple_mul (F.args_tuple_mul_2 _ _) (tuple_mulS l its.toArray n dd sl k t c0 c1) ⟨ho, .ref l, H, I, rfl, q1 ?_⟩
    rw [Bool.or_eq_true] at c1
    rcases c1 with z | z
    · left
      have : its.length = 0 := by
        cases its with
        | nil => rfl
        | cons a b => simp at z
      exact List.eq_nil_of_length_eq_zero (by omega)
    · right
      exact eq_of_beq z
  | false =>
    have c1' := c1
    rw [Bool.or_eq_false_iff] at c1'
    have hne : xs ≠ [] := fun e => by
      subst e
      cases r
      simp at c1'
    have hk1 : k ≠ 1 := fun e => by rw [e] at c1'; simp at c1'
    cases c2 : (decide (k ≤ 0) || its.toArray.isEmpty) with
    | true =>
      refine call_meets F.slot_tuple_mul ⟨_, ho, rfl⟩ F.entry_tuple_mul (F.args_tuple_mul_2 _ _) (tuple_mul0 l its.toArray n dd sl k t c0 c1 c2) ⟨ho, ?_⟩
      rw [c1'.1, Bool.or_false] at c2
      have hk : k.toNat = 0 := by have := of_decide_eq_true c2; omega
      have e0 : (List.replicate k.toNat xs).flatten = [] := by rw [hk]; rfl
      have q3 := q2 hne hk1
      rw [e0] at q3
      exact lay_tup (t' := s.toks) I (its := []) .nil (Nat.zero_le _) q3
    | false =>
      have c4 : Builtin.Tuple.tupleTooMany (((its.toArray.size : Nat) : Int) * k) = false := by
        unfold Builtin.Tuple.tupleTooMany
        rw [sizeLine_eq]
        exact decide_eq_false (by omega)
      refine call_meets F.slot_tuple_mul ⟨_, ho, rfl⟩ F.entry_tuple_mul (F.args_tuple_mul_2 _ _) (tuple_mulW l its.toArray n dd sl k t c0 c1 c2 (by omega) c4 (by rw [size_rep, List.size_toArray, sizeLine_eq]; omega)) ⟨ho, ?_⟩
      rw [size_rep]
      exact lay_tup (t' := s.toks) I (r.rep k.toNat) flen2 (q2 hne hk1)
end
end Sim
namespace Sim
open PySem PySem.Spec L2
abbrev D := PyData
abbrev Sg := List (Option D)
/-- an outcome -/
inductive Res (α : Type) where
  | ok (a : α) (s : Sg)
  | exc (c : Str) (v : D) (s : Sg)
  | bad
def Res.bind {α β : Type} (m : Res α) (k : α → Sg → Res β) : Res β :=
  match m with
  | .ok a s => k a s
  | .exc c v s => .exc c v s
  | .bad => .bad
theorem bind_ok {α β : Type} (a : α) (s : Sg) (k : α → Sg → Res β) : (Res.ok a s).bind k = k a s := rfl
theorem bind_inv {α β : Type} {m : Res α} {k : α → Sg → Res β} {b : β} {s : Sg} (h : m.bind k = .ok b s) : ∃ a s1, m = .ok a s1 ∧ k a s1 = .ok b s := by
  cases m with
  | ok a s1 => exact ⟨a, s1, rfl, h⟩
  | exc c v s1 => cases h
  | bad => cases h
/-- an operand: a value, or what a slot holds -/
inductive Rf where
  | val (d : D)
  | slot (i : Nat)
def rd (r : Rf) (s : Sg) : Option D :=
  match r with
  | .val d => some d
  | .slot i => (s[i]?).join
def rds : List Rf → Sg → Option (List D)
  | [], _ => some []
  | r :: rs, s => match rd r s with
    | none => none
    | some d => match rds rs s with
      | none => none
      | some ds => some (d :: ds)
abbrev O := Sg → Res Rf
abbrev AL := Sg → Res (List Rf)
abbrev T := Sg → Res Bool
inductive Fl where
  | nx | rt (d : D) | bk | ct
abbrev S := Sg → Res Fl
/-- a list that never changes is told so -/
def frzT : List (D × D) → Bool
  | [(.none, .list _)] => true
  | [(.none, .dict _)] => true
  | _ => false
mutual
/-- no list that may change, no object within -/
def pur : D → Bool
  | .list _ => false
  | .dict kvs => frzT kvs
  | .tuple xs => purs xs
  | .none => true
  | .bool _ => true
  | .int _ => true
  | .str _ => true
def purs : List D → Bool
  | [] => true
  | x :: xs => pur x && purs xs
end
mutual
/-- nothing told by a dict within -/
def noD : D → Bool
  | .list xs => noDs xs
  | .dict _ => false
  | .tuple xs => noDs xs
  | .none => true
  | .bool _ => true
  | .int _ => true
  | .str _ => true
def noDs : List D → Bool
  | [] => true
  | x :: xs => noD x && noDs xs
end
/-- a list that never changes -/
def SqF (K : PySem.W.Frag) (H : Hp) (a : Addr) (xs : List V) : Prop :=
  (∃ o, H a = some (.frz o (.lst xs))) ∨
    ∃ (o : Obj) (its : Array Value) (n : Nat), K.lookup a = some o ∧ o.cls = .type "list" ∧ o.dict = none ∧ o.data = .seq its n ∧ its.size ≤ sizeLine ∧ Vals xs its.toList
theorem SqF.sq {K : PySem.W.Frag} {H : Hp} {a : Addr} {xs : List V} (h : SqF K H a xs) : SqL K H a xs := by
  rcases h with h | h
  · exact .inl (.inr h)
  · exact .inr h
/-- the entries of a dict whose keys are tuples, as they stand in its object -/
def RawO (a : Addr) (es : List (NestedKey × Addr × V)) (o : Obj) : HO := .ext fun h => es.length ≤ sizeLine ∧ (a == sysModules) = false ∧ (es.map (·.1)).Nodup ∧ h.get? a = some o ∧
  ∃ (ents : Array DictEntry) (ep : Nat), o.ExactDict ∧ o.data = .dict ents ep ∧
    Paired (fun (p : NestedKey × Addr × V) (e : DictEntry) => (∀ w, e.hash = p.1.hash w) ∧ e.key = .ref p.2.1 ∧ RelV p.2.2 e.val) es ents.toList
/-- an object that may change: a list, a dict, an instance -/
inductive MO
  | lst (xs : List V)
  | dct (kvs : List (Key × V))
  | dcn (a : Addr) (es : List (NestedKey × Addr × V)) (o : Obj)
  | ins (C dx : Addr) (fs : List (Str × V))
def MO.ho : MO → HO
  | .lst xs => .lst xs
  | .dct kvs => .dK kvs
  | .dcn a es o => RawO a es o
  | .ins C dx fs => .ins C dx fs
def isMut : HO → Bool
  | .lst _ => true
  | .dK _ => true
  | .ins _ _ _ => true
  | .ext _ => true
  | .tbl _ => true
  | _ => false
def isTbl : HO → Bool
  | .tbl _ => true
  | _ => false
theorem MO.mut (m : MO) : isMut m.ho = true := by cases m <;> rfl
theorem MO.ntb (m : MO) : isTbl m.ho = false := by cases m <;> rfl
/-- no object of ours is a code object -/
theorem MO.nco (m : MO) (c : Addr) (q : Str) : m.ho ≠ LamX.CodeO c q := by
  cases m with
  | lst _ => intro z; cases z
  | dct _ => intro z; cases z
  | ins _ _ _ => intro z; cases z
  | dcn a es o =>
    intro z
    have e := HO.ext.inj z
    let h0 : Heap := { objs := Array.replicate (c + 1) { cls := .none, data := .fields #[.none, .str q 0] } }
    have hc : h0.get? c = some { cls := .none, data := .fields #[.none, .str q 0] } := by
      show (match (Array.replicate (c + 1) ({ cls := .none, data := .fields #[.none, .str q 0] } : Obj))[c]? with
        | some ⟨_, _, .freed, _⟩ => none
        | o => o) = _
      rw [Array.getElem?_replicate, if_pos (Nat.lt_succ_self c)]
    have h1 := (congrFun e h0).mpr ⟨_, _, _, hc, rfl, rfl⟩
    obtain ⟨_, _, _, ho, ents, ep, _, hd, _⟩ := h1
    by_cases ha : a = c
    · rw [ha, hc] at ho
      cases ho
      cases hd
    · have : ∀ b o', h0.get? b = some o' → o' = { cls := .none, data := .fields #[.none, .str q 0] } := fun b o' hb => by
        have hb : (match (Array.replicate (c + 1) ({ cls := .none, data := .fields #[.none, .str q 0] } : Obj))[b]? with
          | some ⟨_, _, .freed, _⟩ => none
          | o => o) = some o' := hb
        rw [Array.getElem?_replicate] at hb
        by_cases hlt : b < c + 1
        · rw [if_pos hlt] at hb
          cases hb
          rfl
        · rw [if_neg hlt] at hb
          cases hb
      rw [this a o ho] at hd
      cases hd
/-- the tables of code objects that stand open: their addresses, the names of the code objects -/
class Tb where
  l : List (Addr × Str)
instance noTb : Tb := ⟨[]⟩
def TabsOk [Tb] (H : Hp) : Prop := LamX.Tabs Tb.l H
theorem TabsOk.ext [Tb] {H H' : Hp} (t : TabsOk H) (e : ∀ b o, H b = some o → H' b = some o) : TabsOk H' := fun p h => (t p h).ext e
theorem TabsOk.upd [Tb] {H : Hp} {a : Addr} {m : MO} {o : HO} (h : H a = some m.ho) (t : TabsOk H) : TabsOk (upd H a o) := fun p hp => by
  obtain ⟨ps, h1, h2, h3⟩ := t p hp
  refine ⟨ps, by rw [upd_ne (fun z => by rw [z, h] at h1; have := Option.some.inj h1; cases m <;> cases this)]; exact h1, h2, fun pos cv e => ?_⟩
  obtain ⟨c, e1, e2⟩ := h3 pos cv e
  exact ⟨c, e1, by rw [upd_ne (fun z => by rw [z, h] at e2; exact m.nco _ _ (Option.some.inj e2))]; exact e2⟩
/-- a key as it is told -/
def kD : Key → D
  | .inl i => .int i
  | .inr x => .str x
mutual
def nkD : NestedKey → D
  | .none => .none
  | .num i => .int i
  | .text x => .str x
  | .tup ks => .tuple (nkDs ks)
def nkDs : List NestedKey → List D
  | [] => []
  | k :: ks => nkD k :: nkDs ks
end
def zkd {κ : Type} (f : κ → D) : List κ → List D → List (D × D)
  | k :: ks, d :: ds => (f k, d) :: zkd f ks ds
  | _, _ => []
/-- which class a name of the program's top means -/
def ClsN (K : PySem.W.Frag) (nm : Str) (C : Addr) : Prop := PySem.W.nsIn K mainGlobals nm = some (some (.ref C))
theorem ClsN.eq {K : PySem.W.Frag} {nm : Str} {C C' : Addr} (a : ClsN K nm C) (b : ClsN K nm C') : C = C' := by
  have := (show PySem.W.nsIn K mainGlobals nm = _ from a).symm.trans b
  cases this
  rfl
mutual
inductive Own (K : PySem.W.Frag) (H : Hp) : D → V → List Addr → Prop
  | non : Own K H .none .non []
  | bl (b : Bool) : Own K H (.bool b) (.bl b) []
  | int (i : Int) : Own K H (.int i) (.int i) []
  | str (x : Str) : Own K H (.str x) (.str x) []
  | tup {a : Addr} {xs : List V} {ds : List D} {F : List Addr} : SqD K H a xs → OwnA K H ds xs F → Own K H (.tuple ds) (.ref a) F
  | frz {a : Addr} {xs : List V} {ds : List D} : SqF K H a xs → OwnA K H ds xs [] → Own K H (.dict [(.none, .list ds)]) (.ref a) []
  | opq (a : Addr) : Own K H (.dict [(.none, .bool true)]) (.ref a) []
  | frd {a : Addr} {o : Obj} : H a = some (.frz o (.dK [])) → Own K H (.dict [(.none, .dict [])]) (.ref a) []
  | dct {a : Addr} {kvs : List (Key × V)} {ds : List D} {F : List Addr} : H a = some (.dK kvs) → OwnA K H ds (kvs.map Prod.snd) F → a ∉ F → Own K H (.dict ((.bool true, .none) :: zkd kD (kvs.map Prod.fst) ds)) (.ref a) (a :: F)
  | dcn {a : Addr} {es : List (NestedKey × Addr × V)} {o : Obj} {ds : List D} : H a = some (RawO a es o) → OwnA K H (es.map fun e => nkD e.1) (es.map fun e => V.ref e.2.1) [] → OwnA K H ds (es.map fun e => e.2.2) [] → Own K H (.dict ((.bool true, .int 0) :: zkd nkD (es.map fun e => e.1) ds)) (.ref a) [a]
  | ins {a C dx : Addr} {nm : Str} {fs : List (Str × V)} {ds : List D} {F : List Addr} : ClsN K nm C → H a = some (.ins C dx fs) → OwnA K H ds (fs.map Prod.snd) F → a ∉ F → Own K H (.dict ((.bool false, .str nm) :: zkd PyData.str (fs.map Prod.fst) ds)) (.ref a) (a :: F)
  | lst {a : Addr} {xs : List V} {ds : List D} {F : List Addr} : H a = some (.lst xs) → OwnA K H ds xs F → a ∉ F → Own K H (.list ds) (.ref a) (a :: F)
inductive OwnA (K : PySem.W.Frag) (H : Hp) : List D → List V → List Addr → Prop
  | nil : OwnA K H [] [] []
  | cons {v : V} {vs : List V} {d : D} {ds : List D} {F G : List Addr} : Own K H d v F → OwnA K H ds vs G → (∀ a, a ∈ F → a ∉ G) → OwnA K H (d :: ds) (v :: vs) (F ++ G)
end
section
variable {K : PySem.W.Frag} {H H' : Hp}
mutual
theorem Own.dp : ∀ {d : D} {v : V} {F : List Addr}, Own K H d v F → noD d = true → Dp K H v d
  | _, _, _, .non, _ => .non
  | _, _, _, .bl b, _ => .bl b
  | _, _, _, .int b, _ => .int b
  | _, _, _, .str b, _ => .str b
  | _, _, _, .frz _ _, p => by simp [noD] at p
  | _, _, _, .frd _, p => by simp [noD] at p
  | _, _, _, .opq _, p => by simp [noD] at p
  | _, _, _, .dct _ _ _, p => by simp [noD] at p
  | _, _, _, .dcn _ _ _, p => by simp [noD] at p
  | _, _, _, .ins _ _ _ _, p => by simp [noD] at p
  | _, _, _, .lst h t _, p => .lst (SqL.of h) (OwnA.dp t (by simpa [noD] using p))
  | _, _, _, .tup h t, p => .tup h.sq (OwnA.dp t (by simpa [noD] using p))
theorem OwnA.dp : ∀ {ds : List D} {vs : List V} {F : List Addr}, OwnA K H ds vs F → noDs ds = true → DpAll K H vs ds
  | _, _, _, .nil, _ => .nil
  | _, _, _, .cons h t _, p => by
    simp only [noDs, Bool.and_eq_true] at p
    exact .cons (Own.dp h p.1) (OwnA.dp t p.2)
end
mutual
theorem Own.pur : ∀ {d : D} {v : V} {F : List Addr}, Own K H d v F → pur d = true → F = []
  | _, _, _, .non, _ => rfl
  | _, _, _, .bl b, _ => rfl
  | _, _, _, .int b, _ => rfl
  | _, _, _, .str b, _ => rfl
  | _, _, _, .lst _ _ _, p => by simp [Sim.pur] at p
  | _, _, _, .frz _ _, _ => rfl
  | _, _, _, .frd _, _ => rfl
  | _, _, _, .opq _, p => by simp [Sim.pur, frzT] at p
  | _, _, _, .dct _ _ _, p => by simp [Sim.pur, frzT] at p
  | _, _, _, .dcn _ _ _, p => by simp [Sim.pur, frzT] at p
  | _, _, _, .ins _ _ _ _, p => by simp [Sim.pur, frzT] at p
  | _, _, _, .tup h t, p => OwnA.pur t (by simpa [Sim.pur] using p)
theorem OwnA.pur : ∀ {ds : List D} {vs : List V} {F : List Addr}, OwnA K H ds vs F → purs ds = true → F = []
  | _, _, _, .nil, _ => rfl
  | _, _, _, .cons h t _, p => by
    simp only [purs, Bool.and_eq_true] at p
    rw [Own.pur h p.1, OwnA.pur t p.2]
    rfl
end
mutual
theorem Own.mem : ∀ {d : D} {v : V} {F : List Addr}, Own K H d v F → ∀ a, a ∈ F → ∃ xs : MO, H a = some xs.ho
  | _, _, _, .non, _, h => by simp at h
  | _, _, _, .bl b, _, h => by simp at h
  | _, _, _, .int b, _, h => by simp at h
  | _, _, _, .str b, _, h => by simp at h
  | _, _, _, .frz _ _, _, h => by simp at h
  | _, _, _, .frd _, _, h => by simp at h
  | _, _, _, .opq _, _, h => by simp at h
  | _, _, _, .dct e t _, a, h => by
    rcases List.mem_cons.mp h with rfl | h
    · exact ⟨.dct _, e⟩
    · exact OwnA.mem t a h
  | _, _, _, .dcn e _ _, a, h => by rw [List.mem_singleton.mp h]; exact ⟨.dcn _ _ _, e⟩
  | _, _, _, .ins _ e t _, a, h => by
    rcases List.mem_cons.mp h with rfl | h
    · exact ⟨.ins _ _ _, e⟩
    · exact OwnA.mem t a h
  | _, _, _, .lst e t _, a, h => by
    rcases List.mem_cons.mp h with rfl | h
    · exact ⟨.lst _, e⟩
    · exact OwnA.mem t a h
  | _, _, _, .tup _ t, a, h => OwnA.mem t a h
theorem OwnA.mem : ∀ {ds : List D} {vs : List V} {F : List Addr}, OwnA K H ds vs F → ∀ a, a ∈ F → ∃ xs : MO, H a = some xs.ho
  | _, _, _, .nil, _, h => by simp at h
  | _, _, _, .cons h1 t _, a, h => by
    rcases List.mem_append.mp h with h | h
    · exact Own.mem h1 a h
    · exact OwnA.mem t a h
end
/-- the change of a heap: but the lists at Fa all stands -/
structure Chg [Tb] (Fa : Addr → Prop) (H H' : Hp) : Prop where
  keep : ∀ a o, H a = some o → ((¬ Fa a ∧ isTbl o = false) ∨ isMut o = false) → H' a = some o
  there : ∀ a, H' a = none → H a = none
  tab : TabsOk H → TabsOk H'
theorem Chg.refl [Tb] (Fa : Addr → Prop) (H : Hp) : Chg Fa H H := ⟨fun _ _ h _ => h, fun _ h => h, fun h => h⟩
theorem Chg.same [Tb] {Fa : Addr → Prop} (h : Same H H') : Chg Fa H H' := ⟨fun _ _ e _ => h _ _ e, fun _ e => h.free e, fun t => t.ext h⟩
theorem Chg.mono [Tb] {Fa Fb : Addr → Prop} (c : Chg Fa H H') (h : ∀ a o, H a = some o → Fa a → Fb a) : Chg Fb H H' := ⟨fun a o e cc => c.keep a o e (cc.imp (fun z => ⟨fun w => z.1 (h a o e w), z.2⟩) id), c.there, c.tab⟩
theorem Chg.trans [Tb] {Fa : Addr → Prop} {H1 : Hp} (a : Chg Fa H H1) (b : Chg Fa H1 H') : Chg Fa H H' := ⟨fun x o e cc => b.keep x o (a.keep x o e cc) cc, fun x e => a.there x (b.there x e), fun t => b.tab (a.tab t)⟩
/-- one object of ours is written -/
theorem Chg.upd1 [Tb] {a : Addr} {m : MO} {o : HO} (h : H a = some m.ho) : Chg (fun b => b = a) H (upd H a o) := ⟨fun b ob e c => by
  by_cases hb : b = a
  · subst hb
    rcases c with c | c
    · exact absurd rfl c.1
    · rw [h] at e
      cases e
      rw [m.mut] at c
      cases c
  · rw [upd_ne hb]; exact e, fun b e => by
  by_cases hb : b = a
  · subst hb; rw [upd_same] at e; cases e
  · rw [upd_ne hb] at e; exact e, fun t => t.upd h⟩
/-- a later change of what is new -/
theorem Chg.transN [Tb] {Fa Fb : Addr → Prop} {H1 : Hp} (a : Chg Fa H H1) (b : Chg Fb H1 H') (n : ∀ x o, H x = some o → ¬ Fb x) : Chg Fa H H' :=
  ⟨fun x o e cc => b.keep x o (a.keep x o e cc) (cc.imp (fun z => ⟨n x o e, z.2⟩) id), fun x e => a.there x (b.there x e), fun t => b.tab (a.tab t)⟩
/-- what stands and is not changed -/
theorem Chg.mo [Tb] {Fa : Addr → Prop} (c : Chg Fa H H') {a : Addr} {m : MO} (h : H a = some m.ho) (n : ¬ Fa a) : H' a = some m.ho := c.keep a _ h (.inl ⟨n, m.ntb⟩)
theorem Chg.sqD [Tb] {Fa : Addr → Prop} (c : Chg Fa H H') {a : Addr} {xs : List V} (h : SqD K H a xs) : SqD K H' a xs := by
  rcases h with ⟨o, h, n⟩ | h
  · exact .inl ⟨o, c.keep _ _ h (.inr rfl), n⟩
  · exact .inr h
theorem Chg.sqF [Tb] {Fa : Addr → Prop} (c : Chg Fa H H') {a : Addr} {xs : List V} (h : SqF K H a xs) : SqF K H' a xs := by
  rcases h with ⟨o, h⟩ | h
  · exact .inl ⟨o, c.keep _ _ h (.inr rfl)⟩
  · exact .inr h
mutual
theorem Own.chg [Tb] {Fa : Addr → Prop} (c : Chg Fa H H') : ∀ {d : D} {v : V} {F : List Addr}, Own K H d v F → (∀ a, a ∈ F → ¬ Fa a) → Own K H' d v F
  | _, _, _, .non, _ => .non
  | _, _, _, .bl b, _ => .bl b
  | _, _, _, .int b, _ => .int b
  | _, _, _, .str b, _ => .str b
  | _, _, _, .lst h t n, q => .lst (c.keep _ _ h (.inl ⟨q _ (List.mem_cons_self ..), rfl⟩)) (OwnA.chg c t fun a ha => q a (List.mem_cons_of_mem _ ha)) n
  | _, _, _, .frz h t, q => .frz (c.sqF h) (OwnA.chg c t q)
  | _, _, _, .frd h, q => .frd (c.keep _ _ h (.inr rfl))
  | _, _, _, .opq a, _ => .opq a
  | _, _, _, .dct h t n, q => .dct (c.keep _ _ h (.inl ⟨q _ (List.mem_cons_self ..), rfl⟩)) (OwnA.chg c t fun a ha => q a (List.mem_cons_of_mem _ ha)) n
  | _, _, _, .dcn h t t2, q => .dcn (c.keep _ _ h (.inl ⟨q _ (List.mem_cons_self ..), rfl⟩)) (OwnA.chg c t fun a ha => by cases ha) (OwnA.chg c t2 fun a ha => by cases ha)
  | _, _, _, .ins cn h t n, q => .ins cn (c.keep _ _ h (.inl ⟨q _ (List.mem_cons_self ..), rfl⟩)) (OwnA.chg c t fun a ha => q a (List.mem_cons_of_mem _ ha)) n
  | _, _, _, .tup h t, q => .tup (c.sqD h) (OwnA.chg c t q)
theorem OwnA.chg [Tb] {Fa : Addr → Prop} (c : Chg Fa H H') : ∀ {ds : List D} {vs : List V} {F : List Addr}, OwnA K H ds vs F → (∀ a, a ∈ F → ¬ Fa a) → OwnA K H' ds vs F
  | _, _, _, .nil, _ => .nil
  | _, _, _, .cons h t n, q => .cons (Own.chg c h fun a ha => q a (List.mem_append_left _ ha)) (OwnA.chg c t fun a ha => q a (List.mem_append_right _ ha)) n
end
theorem Own.same (h : Same H H') {d : D} {v : V} {F : List Addr} (o : Own K H d v F) : Own K H' d v F := o.chg (Fa := fun _ => False) (@Chg.same _ _ noTb _ h) fun _ _ z => z
theorem OwnA.len : ∀ {ds : List D} {vs : List V} {F : List Addr}, OwnA K H ds vs F → vs.length = ds.length
  | _, _, _, .nil => rfl
  | _, _, _, .cons _ t _ => by rw [List.length_cons, List.length_cons, OwnA.len t]
end
end Sim
namespace Sim
open PySem PySem.Spec L2
abbrev Fp := Nat → List Addr
def InF (Fs : Fp) : Addr → Prop := fun a => ∃ i, a ∈ Fs i
/-- what else stands while a body runs: an object whose fields are slots of their own (none, of a plain def) -/
class Vs where
  fp : Nat → List Addr
  lnk : St → Hp → Prop
  ok : Nat → Prop
  keep : ∀ {σ : St} {H H' : Hp}, lnk σ H → (∀ i a, a ∈ fp i → H' a = H a) → lnk σ H'
  put : ∀ {σ : St} {H : Hp} {i : Nat} {v : Option V}, ok i → (lnk (σ.set i v) H ↔ lnk σ H)
  mem : ∀ {σ : St} {H : Hp} {i : Nat} {a : Addr}, lnk σ H → a ∈ fp i → ∃ m : MO, H a = some m.ho
  nil : ∀ {i : Nat}, ok i → fp i = []
instance noVs : Vs := ⟨fun _ => [], fun _ _ => True, fun _ => True, fun _ _ => trivial, fun _ => Iff.rfl, fun _ h => by simp at h, fun _ => rfl⟩
/-- the slots' values, as they are told, stand -/
def Lk2 [Tb] [Vs] (σ : St) (H : Hp) : Prop := Vs.lnk σ H ∧ TabsOk H
structure RelS [Tb] [Vs] (K : PySem.W.Frag) (H : Hp) (s : Sg) (σ : St) (Fs : Fp) : Prop where
  len : s.length = σ.length
  has : ∀ i d, s[i]? = some (some d) → ∃ v, σ[i]? = some (some v) ∧ Own K H d v (Fs i)
  off : ∀ i, (∀ d, s[i]? ≠ some (some d)) → Fs i = Vs.fp i
  dis : ∀ i j a, a ∈ Fs i → a ∈ Fs j → i = j
  lnk : Lk2 σ H
  bse : ∀ i, Vs.fp i ≠ [] → ∀ d, s[i]? ≠ some (some d)
/-- from one heap to a later one -/
structure Ev [Tb] (H : Hp) (Fs : Fp) (H' : Hp) (Fs' : Fp) : Prop where
  chg : Chg (InF Fs) H H'
  new : ∀ i a, a ∈ Fs' i → a ∈ Fs i ∨ H a = none
section
variable [Tb] [Vs] {K : PySem.W.Frag} {H H1 H' : Hp} {s s' : Sg} {σ σ' : St} {Fs Fs1 Fs' : Fp}
theorem RelS.mem (R : RelS K H s σ Fs) {i : Nat} {a : Addr} (h : a ∈ Fs i) : ∃ xs : MO, H a = some xs.ho := by
  cases e : s[i]? with
  | none =>
    rw [R.off i (fun d z => by rw [e] at z; cases z)] at h
    exact Vs.mem R.lnk.1 h
  | some o =>
    cases o with
    | none =>
      rw [R.off i (fun d z => by rw [e] at z; cases z)] at h
      exact Vs.mem R.lnk.1 h
    | some d =>
      obtain ⟨v, _, q⟩ := R.has i d e
      exact q.mem a h
/-- a slot that holds an open object -/
theorem RelS.fpF (R : RelS K H s σ Fs) {i : Nat} {a : Addr} (h : a ∈ Vs.fp i) : a ∈ Fs i := by
  rw [R.off i (R.bse i (fun e => by rw [e] at h; cases h))]
  exact h
/-- what stands elsewhere is no open object -/
theorem RelS.nfp (R : RelS K H s σ Fs) {i j : Nat} {a : Addr} {d : D} (e : s[i]? = some (some d)) (h : a ∈ Fs i) : a ∉ Vs.fp j := fun z => by
  have := R.dis i j a h (R.fpF z)
  subst this
  exact R.bse i (fun e => by rw [e] at z; cases z) d e
/-- where the lists of told slots alone change -/
theorem RelS.lnk' (R : RelS K H s σ Fs) (k : ∀ i a, a ∈ Vs.fp i → H' a = H a) (t : TabsOk H') : Lk2 σ H' := ⟨Vs.keep R.lnk.1 k, t⟩
theorem RelS.lnkS (R : RelS K H s σ Fs) (h : Same H H') : Lk2 σ H' := R.lnk' (fun i a ha => by
  obtain ⟨m, e⟩ := Vs.mem R.lnk.1 ha
  rw [e]
  exact h _ _ e) (R.lnk.2.ext h)
theorem Ev.refl (H : Hp) (Fs : Fp) : Ev H Fs H Fs := ⟨.refl _ _, fun _ _ h => .inl h⟩
theorem Ev.same (Fs : Fp) (h : Same H H') : Ev H Fs H' Fs := ⟨.same h, fun _ _ h => .inl h⟩
theorem Ev.trans (a : Ev H Fs H1 Fs1) (b : Ev H1 Fs1 H' Fs') : Ev H Fs H' Fs' := by
  refine ⟨⟨fun x o e c => ?_, fun x e => a.chg.there x (b.chg.there x e), fun t => b.chg.tab (a.chg.tab t)⟩, fun i x h => ?_⟩
  · have e1 := a.chg.keep x o e c
    refine b.chg.keep x o e1 (c.imp (fun n => ⟨fun z => ?_, n.2⟩) id)
    obtain ⟨i, hi⟩ := z
    rcases a.new i x hi with q | q
    · exact n.1 ⟨i, q⟩
    · rw [e] at q; cases q
  · rcases b.new i x h with q | q
    · exact a.new i x q
    · exact .inr (a.chg.there x q)
theorem RelS.same (R : RelS K H s σ Fs) (h : Same H H') : RelS K H' s σ Fs :=
  ⟨R.len, fun i d e => by
    obtain ⟨v, hv, q⟩ := R.has i d e
    exact ⟨v, hv, q.same h⟩, R.off, R.dis, R.lnkS h, R.bse⟩
/-- what stands apart from the slots -/
structure Apart (K : PySem.W.Frag) (H : Hp) (Fs : Fp) (d : D) (v : V) (F : List Addr) : Prop where
  own : Own K H d v F
  dis : ∀ i a, a ∈ Fs i → a ∉ F
theorem Apart.ev {d : D} {v : V} {F : List Addr} (A : Apart K H Fs d v F) (e : Ev H Fs H' Fs') : Apart K H' Fs' d v F := by
  refine ⟨A.own.chg e.chg fun a ha ⟨i, hi⟩ => A.dis i a hi ha, fun i a hi ha => ?_⟩
  rcases e.new i a hi with q | q
  · exact A.dis i a q ha
  · obtain ⟨xs, z⟩ := A.own.mem a ha
    rw [q] at z; cases z
/-- operands as they came -/
inductive Rfs (K : PySem.W.Frag) (H : Hp) (σ : St) (Fs : Fp) : List Rf → List V → List (List Addr) → Prop
  | nil : Rfs K H σ Fs [] [] []
  | val {d : D} {v : V} {F : List Addr} {rs : List Rf} {vs : List V} {Gs : List (List Addr)} : Apart K H Fs d v F → (∀ G, G ∈ Gs → ∀ a, a ∈ F → a ∉ G) → Rfs K H σ Fs rs vs Gs → Rfs K H σ Fs (.val d :: rs) (v :: vs) (F :: Gs)
  | slot {i : Nat} {v : V} {rs : List Rf} {vs : List V} {Gs : List (List Addr)} : σ[i]? = some (some v) → Rfs K H σ Fs rs vs Gs → Rfs K H σ Fs (.slot i :: rs) (v :: vs) ([] :: Gs)
theorem Rfs.mem {rs : List Rf} {vs : List V} {Gs : List (List Addr)} (r : Rfs K H σ Fs rs vs Gs) : ∀ G, G ∈ Gs → ∀ a, a ∈ G → ∃ xs : MO, H a = some xs.ho := by
  induction r with
  | nil => intro G h; cases h
  | val A _ _ ih =>
    intro G h a ha
    rcases List.mem_cons.mp h with rfl | h
    · exact A.own.mem a ha
    · exact ih G h a ha
  | slot _ _ ih =>
    intro G h a ha
    rcases List.mem_cons.mp h with rfl | h
    · cases ha
    · exact ih G h a ha
theorem join_some {i : Nat} {d : D} (e : (s[i]?).join = some d) : s[i]? = some (some d) := by
  cases h : s[i]? with
  | none => rw [h] at e; cases e
  | some o => rw [h] at e; rw [show o = some d from e]
/-- values that are told -/
inductive RdA (K : PySem.W.Frag) (H : Hp) : List V → List D → Prop
  | nil : RdA K H [] []
  | cons {v : V} {d : D} {F : List Addr} {vs : List V} {ds : List D} : Own K H d v F → RdA K H vs ds → RdA K H (v :: vs) (d :: ds)
theorem Rfs.dp (R : RelS K H s σ Fs) {rs : List Rf} {vs : List V} {Gs : List (List Addr)} (r : Rfs K H σ Fs rs vs Gs) : ∀ {ds : List D}, rds rs s = some ds → RdA K H vs ds := by
  induction r with
  | nil => intro ds e; cases e; exact .nil
  | @val d v F rs vs Gs A _ _ ih =>
    intro ds e
    unfold rds at e
    simp only [rd] at e
    split at e
    · cases e
    · rename_i es h; cases e; exact .cons A.own (ih h)
  | @slot i v rs vs Gs hv _ ih =>
    intro ds e
    unfold rds at e
    simp only [rd] at e
    split at e
    · cases e
    · rename_i d hd
      split at e
      · cases e
      · rename_i es h
        cases e
        obtain ⟨v', hv', q⟩ := R.has _ _ (join_some hd)
        rw [hv] at hv'
        cases hv'
        exact .cons q (ih h)
/-- one operand as it came -/
inductive RfOk (K : PySem.W.Frag) (H : Hp) (σ : St) (Fs : Fp) : Rf → V → List Addr → Prop
  | val {d : D} {v : V} {F : List Addr} : Apart K H Fs d v F → RfOk K H σ Fs (.val d) v F
  | slot {i : Nat} {v : V} : σ[i]? = some (some v) → RfOk K H σ Fs (.slot i) v []
theorem RfOk.ev {r : Rf} {v : V} {F : List Addr} (h : RfOk K H σ Fs r v F) (e : Ev H Fs H' Fs') : RfOk K H' σ Fs' r v F := by
  cases h with
  | val A => exact .val (A.ev e)
  | slot h => exact .slot h
theorem RfOk.mem {r : Rf} {v : V} {F : List Addr} (h : RfOk K H σ Fs r v F) : ∀ a, a ∈ F → ∃ xs : MO, H a = some xs.ho := by
  cases h with
  | val A => exact A.own.mem
  | slot h => intro a h; cases h
theorem RfOk.dp (R : RelS K H s σ Fs) {r : Rf} {v : V} {F : List Addr} (h : RfOk K H σ Fs r v F) {d : D} (e : rd r s = some d) : ∃ F', Own K H d v F' := by
  cases h with
  | val A => cases e; exact ⟨_, A.own⟩
  | slot h =>
    obtain ⟨v', hv', q⟩ := R.has _ _ (join_some e)
    rw [h] at hv'
    cases hv'
    exact ⟨_, q⟩
end
section
variable [Tb] [Vs] (K : PySem.W.Frag)
def tO (g : O) : TE := fun σ H Q => ∃ s Fs r s', RelS K H s σ Fs ∧ g s = .ok r s' ∧
  ∀ v H' Fs' F, RelS K H' s' σ Fs' → Ev H Fs H' Fs' → RfOk K H' σ Fs' r v F → (∀ a, a ∈ F → H a = none) → Q v H'
def tA (g : AL) : TA := fun σ H Q => ∃ s Fs rs s', RelS K H s σ Fs ∧ g s = .ok rs s' ∧
  ∀ vs H' Fs' Gs, RelS K H' s' σ Fs' → Ev H Fs H' Fs' → Rfs K H' σ Fs' rs vs Gs → (∀ G, G ∈ Gs → ∀ a, a ∈ G → H a = none) → Q vs H'
def tT (g : T) : TT := fun σ H Q => ∃ s Fs b s', RelS K H s σ Fs ∧ g s = .ok b s' ∧ ∀ H' Fs', RelS K H' s' σ Fs' → Ev H Fs H' Fs' → Q b H'
end
def SimO [Tb] [Vs] (X : Cx) (e : Expr) (g : O) : Prop := PE X e (tO X.K g)
def SimA [Tb] [Vs] (X : Cx) (es : List Expr) (g : AL) : Prop := PA X es (tA X.K g)
def SimT [Tb] [Vs] (X : Cx) (e : Expr) (g : T) : Prop := PT X e (tT X.K g)
theorem pe_imp {X : Cx} {e : Expr} {t t' : TE} (h : PE X e t) (i : ∀ σ H Q, t' σ H Q → t σ H Q) : PE X e t' := ⟨fun pins s σ H Q I q => h.run pins s σ H Q I (i σ H Q q)⟩
theorem pt_imp {X : Cx} {e : Expr} {t t' : TT} (h : PT X e t) (i : ∀ σ H Q, t' σ H Q → t σ H Q) : PT X e t' := ⟨fun pins s σ H Q I q => h.run pins s σ H Q I (i σ H Q q)⟩
theorem pa_imp {X : Cx} {e : List Expr} {t t' : TA} (h : PA X e t) (i : ∀ σ H Q, t' σ H Q → t σ H Q) : PA X e t' := ⟨fun pos pins s σ H Q I q => h.run pos pins s σ H Q I (i σ H Q q)⟩
def aNil : AL := fun s => .ok [] s
def aCons (g : O) (h : AL) : AL := fun s => (g s).bind fun r s1 => (h s1).bind fun rs s2 => .ok (r :: rs) s2
section
variable [Tb] [Vs] {X : Cx} {K : PySem.W.Frag}
theorem tA_nil {σ : St} {H : Hp} {Q : List V → Hp → Prop} (h : tA K aNil σ H Q) : tNil σ H Q := by
  obtain ⟨s, Fs, rs, s', R, e, q⟩ := h
  cases e
  exact q [] H Fs [] R (.refl _ _) .nil (by intro G h; cases h)
theorem tA_cons {g : O} {gs : AL} {σ : St} {H : Hp} {Q : List V → Hp → Prop} (h : tA K (aCons g gs) σ H Q) : tCons (tO K g) (tA K gs) σ H Q := by
  obtain ⟨s, Fs, rs, s', R, e, q⟩ := h
  obtain ⟨r, s1, e1, e⟩ := bind_inv e
  obtain ⟨rs1, s2, e2, e⟩ := bind_inv e
  cases e
  refine ⟨s, Fs, r, s1, R, e1, fun v H1 Fs1 F R1 E1 k1 n1 => ⟨s1, Fs1, rs1, s', R1, e2, fun vs H2 Fs2 Gs R2 E2 k2 n2 => ?_⟩⟩
  have k1' := k1.ev E2
  have nn : ∀ G, G ∈ Gs → ∀ a, a ∈ G → H a = none := fun G hG a ha => E1.chg.there a (n2 G hG a ha)
  cases k1' with
  | val A =>
    refine q _ H2 Fs2 (F :: Gs) R2 (E1.trans E2) (.val A (fun G hG a ha hb => ?_) k2) (fun G hG a ha => ?_)
    · obtain ⟨xs, z⟩ := k1.mem a ha
      rw [n2 G hG a hb] at z; cases z
    · rcases List.mem_cons.mp hG with rfl | hG
      · exact n1 a ha
      · exact nn G hG a ha
  | slot hv =>
    refine q _ H2 Fs2 ([] :: Gs) R2 (E1.trans E2) (.slot hv k2) (fun G hG a ha => ?_)
    rcases List.mem_cons.mp hG with rfl | hG
    · cases ha
    · exact nn G hG a ha
theorem sa_nil : SimA X [] aNil := pa_imp pa_nil fun _ _ _ h => tA_nil h
theorem sa_cons {e : Expr} {es : List Expr} {g : O} {gs : AL} (ha : SimO X e g) (hr : SimA X es gs) (hs : starEach (e :: es) X.env = (false, eval e X.env) :: starEach es X.env := by rfl) : SimA X (e :: es) (aCons g gs) :=
  pa_imp (pa_cons ha hr hs) fun _ _ _ h => tA_cons h
theorem tO_mono {g : O} {σ : St} {H : Hp} {Q Q' : VK} (i : ∀ v H, Q v H → Q' v H) (h : tO K g σ H Q) : tO K g σ H Q' := by
  obtain ⟨s, Fs, r, s', R, e, q⟩ := h
  exact ⟨s, Fs, r, s', R, e, fun v H' Fs' F a b c d => i _ _ (q v H' Fs' F a b c d)⟩
theorem tA_mono {g : AL} {σ : St} {H : Hp} {Q Q' : List V → Hp → Prop} (i : ∀ v H, Q v H → Q' v H) (h : tA K g σ H Q) : tA K g σ H Q' := by
  obtain ⟨s, Fs, r, s', R, e, q⟩ := h
  exact ⟨s, Fs, r, s', R, e, fun v H' Fs' F a b c d => i _ _ (q v H' Fs' F a b c d)⟩
theorem tA1 {a : O} {σ : St} {H : Hp} {Q : List V → Hp → Prop} (h : tA K (aCons a aNil) σ H Q) : tO K a σ H fun x H1 => Q [x] H1 :=
  tO_mono (fun _ _ h => by have z := tA_nil h; exact z) (tA_cons h)
theorem tA2 {a b : O} {σ : St} {H : Hp} {Q : List V → Hp → Prop} (h : tA K (aCons a (aCons b aNil)) σ H Q) : tO K a σ H fun x H1 => tO K b σ H1 fun y H2 => Q [x, y] H2 :=
  tO_mono (fun _ _ h => by have z := tA1 h; exact z) (tA_cons h)
end
def NewV (K : PySem.W.Frag) (H : Hp) (d : D) (v : V) (H' : Hp) : Prop := Same H H' ∧ ∃ F, Own K H' d v F ∧ ∀ a, a ∈ F → H a = none
def PrimR (K : PySem.W.Frag) (r : List V → Hp → VK → Prop) (f : List D → Option D) : Prop :=
  ∀ vs ds d H Q, RdA K H vs ds → f ds = some d → (∀ v H', NewV K H d v H' → Q v H') → r vs H Q
def oPrim (f : List D → Option D) (g : AL) : O := fun s => (g s).bind fun rs s1 => match rds rs s1 with
  | none => .bad
  | some ds => match f ds with
    | none => .bad
    | some d => .ok (.val d) s1
section
variable [Tb] [Vs] {X : Cx} {K : PySem.W.Frag} {H H' : Hp}
theorem NewV.ok {s : Sg} {σ : St} {Fs : Fp} {d : D} {v : V} (R : RelS K H s σ Fs) (h : NewV K H d v H') : RelS K H' s σ Fs ∧ Ev H Fs H' Fs ∧ ∃ F, RfOk K H' σ Fs (.val d) v F ∧ ∀ a, a ∈ F → H a = none := by
  obtain ⟨sm, F, o, n⟩ := h
  refine ⟨R.same sm, .same _ sm, F, .val ⟨o, fun i a hi ha => ?_⟩, n⟩
  obtain ⟨xs, z⟩ := R.mem hi
  rw [n a ha] at z; cases z
theorem prim {r : List V → Hp → VK → Prop} {f : List D → Option D} {g : AL} (hp : PrimR K r f) {σ : St} {H : Hp} {Q : VK} (h : tO K (oPrim f g) σ H Q) : tA K g σ H fun vs H1 => r vs H1 Q := by
  obtain ⟨s, Fs, rf, s', R, e, q⟩ := h
  obtain ⟨rs, s1, e1, e⟩ := bind_inv e
  refine ⟨s, Fs, rs, s1, R, e1, fun vs H1 Fs1 Gs R1 E1 k1 n1 => ?_⟩
  split at e
  · cases e
  · rename_i ds hds
    split at e
    · cases e
    · rename_i d hd
      cases e
      refine hp vs ds d H1 Q (k1.dp R1 hds) hd fun v H2 hv => ?_
      obtain ⟨R2, E2, F, k, n⟩ := hv.ok R1
      exact q v H2 Fs1 F R2 (E1.trans E2) k fun a ha => E1.chg.there a (n a ha)
theorem NewV.sc {d : D} {v : V} (h : Own K H d v []) : NewV K H d v H := ⟨Same.refl _, [], h, fun _ z => by cases z⟩
theorem NewV.pu {d : D} {v : V} {F : List Addr} (h : Own K H d v F) (p : pur d = true) : NewV K H d v H := .sc (by rw [h.pur p] at h; exact h)
/-- a new object -/
theorem same_new {a : Addr} {o : HO} (h : H a = none) : Same H (upd H a o) := fun b x e => by rw [upd_ne (ne_of_none e h)]; exact e
theorem NewV.tup {ds : List D} {vs : List V} {a : Addr} {o : Obj} (h : OwnA K H ds vs []) (n : H a = none) (nd : o.dict = none) : NewV K H (.tuple ds) (.ref a) (upd H a (.frz o (.tup vs))) := by
  have sm : Same H (upd H a (.frz o (.tup vs))) := same_new n
  exact ⟨sm, [], .tup (SqD.of upd_same nd) (h.chg (Fa := fun _ => False) (.same sm) fun _ _ z => z), fun _ z => by cases z⟩
theorem NewV.lst {ds : List D} {vs : List V} {a : Addr} (h : OwnA K H ds vs []) (n : H a = none) : NewV K H (.list ds) (.ref a) (upd H a (.lst vs)) := by
  have sm : Same H (upd H a (.lst vs)) := same_new n
  exact ⟨sm, [a], .lst upd_same (h.chg (Fa := fun _ => False) (.same sm) fun _ _ z => z) (by simp), fun b z => by rw [List.mem_singleton.mp z]; exact n⟩
end
end Sim
namespace Sim
open PySem PySem.Spec L2
theorem big_le : 1000000 ≤ sizeLine := by decide
def u2 (r : R2) : List V → Hp → VK → Prop
  | [x, y], H, Q => r x y H Q
  | _, _, _ => False
def u1 (r : V → Hp → VK → Prop) : List V → Hp → VK → Prop
  | [x], H, Q => r x H Q
  | _, _, _ => False
def mulOk (a b : Int) : Bool := (decide (-(2 ^ 64) < a) && decide (a < 2 ^ 64)) || (decide (-(2 ^ 64) < b) && decide (b < 2 ^ 64)) || decide (a.natAbs.log2 + b.natAbs.log2 < 1000000)
def pAdd : List D → Option D
  | [.int a, .int b] => some (.int (a + b))
  | [.str a, .str b] => if a.length + b.length ≤ 1000000 then some (.str (a ++ b)) else none
  | [.list a, .list b] => if a.length + b.length ≤ 1000000 ∧ purs a = true ∧ purs b = true then some (.list (a ++ b)) else none
  | [.tuple a, .tuple b] => if a.length + b.length ≤ 1000000 ∧ purs a = true ∧ purs b = true then some (.tuple (a ++ b)) else none
  | _ => none
def pSub : List D → Option D
  | [.int a, .int b] => some (.int (a - b))
  | _ => none
def pMul : List D → Option D
  | [.int a, .int b] => if mulOk a b = true then some (.int (a * b)) else none
  | [.tuple a, .int b] => if -1000 ≤ b ∧ b ≤ 1000 ∧ a.length ≤ 1000 ∧ purs a = true then some (.tuple (List.replicate b.toNat a).flatten) else none
  | [.list a, .int b] => if b < 2 ^ 63 ∧ -(2 ^ 63) ≤ b ∧ a.length * b.toNat ≤ 1000000 ∧ purs a = true then some (.list (List.replicate b.toNat a).flatten) else none
  | _ => none
def pDiv : List D → Option D
  | [.int a, .int b] => if 0 < b ∧ b.natAbs.log2 < 9000 then some (.int (a / b)) else none
  | _ => none
def pMod : List D → Option D
  | [.int a, .int b] => if 0 < b then some (.int (a % b)) else none
  | _ => none
def pPow : List D → Option D
  | [.int a, .int b] => if 0 ≤ b ∧ b ≤ 1000000 ∧ a.natAbs < 2 ^ 64 then some (.int (a ^ b.toNat)) else none
  | _ => none
def pShl : List D → Option D
  | [.int a, .int b] => if 0 ≤ b ∧ b ≤ 1000000 ∧ a.natAbs < 2 ^ 64 then some (.int (a * 2 ^ b.toNat)) else none
  | _ => none
def pNeg : List D → Option D
  | [.int a] => some (.int (-a))
  | _ => none
def pLt : List D → Option D
  | [.int a, .int b] => some (.bool (decide (a < b)))
  | _ => none
def pLe : List D → Option D
  | [.int a, .int b] => some (.bool (decide (a ≤ b)))
  | _ => none
def pGt : List D → Option D
  | [.int a, .int b] => some (.bool (decide (b < a)))
  | _ => none
def pGe : List D → Option D
  | [.int a, .int b] => some (.bool (decide (b ≤ a)))
  | _ => none
/-- what may be compared by == -/
def shp (d : D) : Bool := SeqAt.shaped d && noD d
def pEq : List D → Option D
  | [a, b] => if shp a = true ∧ shp b = true then some (.bool (PyData.eqv a b)) else none
  | _ => none
def pNe : List D → Option D
  | [a, b] => if shp a = true ∧ shp b = true then some (.bool (!PyData.eqv a b)) else none
  | _ => none
def isN : D → Bool
  | .none => true
  | _ => false
def pIsN : List D → Option D
  | [a, .none] => some (.bool (isN a))
  | [.bool a, .bool b] => some (.bool (decide (a = b)))
  | _ => none
def pNotN : List D → Option D
  | [a, .none] => some (.bool (!isN a))
  | [.bool a, .bool b] => some (.bool (!decide (a = b)))
  | _ => none
def pIn : List D → Option D
  | [a, .list b] => if shp a = true ∧ shp (.list b) = true then some (.bool (b.any fun z => PyData.eqv z a)) else none
  | [a, .tuple b] => if fl a = true ∧ b.all fl = true then some (.bool (b.any fun z => PyData.eqv z a)) else none
  | [.str a, .str b] => some (.bool (!(Builtin.Str.occurrences b a 0 b.length 1).isEmpty))
  | _ => none
where fl : D → Bool
  | .none => true
  | .bool _ => true
  | .int _ => true
  | .str _ => true
  | _ => false
section
variable {K : PySem.W.Frag}
theorem RdA.two {H : Hp} {vs : List V} {a b : D} (h : RdA K H vs [a, b]) : ∃ x y F G, vs = [x, y] ∧ Own K H a x F ∧ Own K H b y G := by
  cases h with
  | cons o h =>
    cases h with
    | cons o2 h =>
      cases h
      exact ⟨_, _, _, _, rfl, o, o2⟩
theorem RdA.one {H : Hp} {vs : List V} {a : D} (h : RdA K H vs [a]) : ∃ x F, vs = [x] ∧ Own K H a x F := by
  cases h with
  | cons o h =>
    cases h
    exact ⟨_, _, rfl, o⟩
theorem RdA.zero {H : Hp} {vs : List V} (h : RdA K H vs []) : vs = [] := by
  cases h
  rfl
theorem purs_app {a b : List D} : purs (a ++ b) = (purs a && purs b) := by
  induction a with
  | nil => simp [purs]
  | cons x a ih => simp [purs, ih, Bool.and_assoc]
theorem OwnA.nil2 {H : Hp} {v : V} {vs : List V} {d : D} {ds : List D} (h : OwnA K H (d :: ds) (v :: vs) []) : Own K H d v [] ∧ OwnA K H ds vs [] := by
  generalize e : ([] : List Addr) = F at h
  cases h with
  | @cons _ _ _ _ F G o t n =>
    have e1 : F = [] ∧ G = [] := List.append_eq_nil_iff.mp e.symm
    obtain ⟨rfl, rfl⟩ := e1
    exact ⟨o, t⟩
theorem OwnA.cons0 {H : Hp} {v : V} {vs : List V} {d : D} {ds : List D} (o : Own K H d v []) (t : OwnA K H ds vs []) : OwnA K H (d :: ds) (v :: vs) [] := OwnA.cons (F := []) (G := []) o t (by simp)
theorem OwnA.app {H : Hp} : ∀ {as bs : List D} {vs ws : List V}, OwnA K H as vs [] → OwnA K H bs ws [] → OwnA K H (as ++ bs) (vs ++ ws) []
  | [], _, [], _, _, g => g
  | _ :: _, _, _ :: _, _, h, g => .cons0 h.nil2.1 (OwnA.app h.nil2.2 g)
  | [], _, _ :: _, _, h, _ => nomatch h
  | _ :: _, _, [], _, h, _ => nomatch h
theorem OwnA.rep {H : Hp} {as : List D} {vs : List V} (h : OwnA K H as vs []) : ∀ k : Nat, OwnA K H (List.replicate k as).flatten (List.replicate k vs).flatten []
  | 0 => .nil
  | k + 1 => by
    rw [List.replicate_succ, List.replicate_succ, List.flatten_cons, List.flatten_cons]
    exact h.app (OwnA.rep h k)
theorem OwnA.take {H : Hp} : ∀ {as : List D} {vs : List V}, OwnA K H as vs [] → ∀ n, OwnA K H (as.take n) (vs.take n) []
  | [], [], _, _ => by simp; exact .nil
  | _ :: _, _ :: _, _, 0 => .nil
  | _ :: _, _ :: _, h, n + 1 => .cons0 h.nil2.1 (OwnA.take h.nil2.2 n)
  | [], _ :: _, h, _ => nomatch h
  | _ :: _, [], h, _ => nomatch h
theorem OwnA.drop {H : Hp} : ∀ {as : List D} {vs : List V}, OwnA K H as vs [] → ∀ n, OwnA K H (as.drop n) (vs.drop n) []
  | [], [], _, _ => by simp; exact .nil
  | _ :: _, _ :: _, h, 0 => h
  | _ :: _, _ :: _, h, n + 1 => OwnA.drop h.nil2.2 n
  | [], _ :: _, h, _ => nomatch h
  | _ :: _, [], h, _ => nomatch h
theorem OwnA.get {H : Hp} : ∀ {as : List D} {vs : List V} {F : List Addr}, OwnA K H as vs F → ∀ (i : Nat) (d : D), as[i]? = some d → ∃ v G, vs[i]? = some v ∧ Own K H d v G ∧ ∀ a, a ∈ G → a ∈ F
  | [], _, _, _, i, d, e => by simp at e
  | d :: ds, _, _, h, 0, d', e => by
    simp at e
    subst e
    cases h with
    | cons o t n => exact ⟨_, _, rfl, o, fun a h => List.mem_append_left _ h⟩
  | d :: ds, _, _, h, i + 1, d', e => by
    cases h with
    | cons o t n =>
      obtain ⟨v', G', h1, h2, h3⟩ := OwnA.get t i d' (by simpa using e)
      exact ⟨v', G', by simpa using h1, h2, fun a h => List.mem_append_right _ (h3 a h)⟩
def rAddA (K : PySem.W.Frag) : R2 := fun x y H Q => rI0 (fun i j => .int (i + j)) x y H Q ∨ (∃ i j, x = .str i ∧ y = .str j ∧ i.length + j.length ≤ sizeLine ∧ Q (.str (i ++ j)) H) ∨ rCat x y H Q ∨ rCatD K x y H Q
theorem op_addA {X : Cx} : OpR X (binaryOp .Add) (rAddA X.K) := op_add.or (op_add_str.or (op_cat.or op_catD))
theorem pr_add : PrimR K (u2 (rAddA K)) pAdd := by
  intro vs ds d H Q h e q
  unfold pAdd at e
  split at e
  · obtain ⟨x, y, F, G, rfl, o1, o2⟩ := h.two
    cases o1; cases o2; cases e
    exact .inl ⟨_, _, rfl, rfl, q _ _ (.sc (.int _))⟩
  · obtain ⟨x, y, F, G, rfl, o1, o2⟩ := h.two
    split at e
    · rename_i hl
      cases o1; cases o2; cases e
      exact .inr (.inl ⟨_, _, rfl, rfl, Nat.le_trans hl big_le, q _ _ (.sc (.str _))⟩)
    · cases e
  · obtain ⟨x, y, F, G, rfl, o1, o2⟩ := h.two
    split at e
    · rename_i hl
      cases e
      cases o1 with
      | lst e1 t1 n1 =>
        cases o2 with
        | lst e2 t2 n2 =>
          have l1 := t1.len
          have l2 := t2.len
          refine .inr (.inr (.inl ⟨_, _, _, _, rfl, rfl, e1, e2, by have := big_le; omega, fun p hp => q _ _ (.lst ?_ hp)⟩))
          have p1 := t1.pur hl.2.1
          have p2 := t2.pur hl.2.2
          subst p1; subst p2
          exact t1.app t2
    · cases e
  · obtain ⟨x, y, F, G, rfl, o1, o2⟩ := h.two
    split at e
    · rename_i a b hl
      cases e
      cases o1 with
      | tup e1 t1 =>
        cases o2 with
        | tup e2 t2 =>
          have l1 := t1.len
          have l2 := t2.len
          have p1 := t1.pur hl.2.1
          have p2 := t2.pur hl.2.2
          subst p1; subst p2
          refine .inr (.inr (.inr ⟨_, _, _, _, rfl, rfl, e1.sq, e2.sq, by have := big_le; omega, fun z => ?_, fun _ z => ?_, fun _ _ p o hp hn => q _ _ (.tup (t1.app t2) hp hn)⟩))
          · subst z
            cases t1
            exact q _ _ (.sc (.tup e2 t2))
          · subst z
            cases t2
            rw [List.append_nil] at q
            exact q _ _ (.sc (.tup e1 t1))
    · cases e
  · cases e
theorem pr_sub : PrimR K (u2 (rI0 fun i j => .int (i - j))) pSub := by
  intro vs ds d H Q h e q
  unfold pSub at e
  split at e
  · obtain ⟨x, y, F, G, rfl, o1, o2⟩ := h.two
    cases o1; cases o2; cases e
    exact ⟨_, _, rfl, rfl, q _ _ (.sc (.int _))⟩
  · cases e
def CMulA (i j : Int) : Prop := CMul i j ∨ CMulW i j
theorem CMulA.ok {i j : Int} (h : CMulA i j) : IntMulOk i j := h.elim CMul.ok CMulW.ok
def rMulA (K : PySem.W.Frag) : R2 := fun x y H Q => rI CMulA (fun i j => .int (i * j)) x y H Q ∨ rRep x y H Q ∨ rRepD K x y H Q
theorem op_mulA {X : Cx} : OpR X (binaryOp .Mult) (rMulA X.K) := (opI fun _ _ _ _ _ _ _ hc q => PyProof.Rows.mul_int q hc.ok).or (op_rep.or op_repD)
theorem pr_mul : PrimR K (u2 (rMulA K)) pMul := by
  intro vs ds d H Q h e q
  unfold pMul at e
  split at e
  · obtain ⟨x, y, F, G, rfl, o1, o2⟩ := h.two
    split at e
    · rename_i hm
      cases o1; cases o2; cases e
      refine .inl ⟨_, _, rfl, rfl, ?_, q _ _ (.sc (.int _))⟩
      unfold mulOk at hm
      simp only [Bool.or_eq_true, Bool.and_eq_true, decide_eq_true_eq] at hm
      rcases hm with hm | hm
      · exact .inl hm
      · exact .inr hm
    · cases e
  · obtain ⟨x, y, F, G, rfl, o1, o2⟩ := h.two
    split at e
    · rename_i hm
      cases o2; cases e
      cases o1 with
      | tup e1 t1 =>
        have p1 := t1.pur hm.2.2.2
        subst p1
        have l1 := t1.len
        refine .inr (.inr ⟨_, _, _, rfl, rfl, e1.sq, hm.1, hm.2.1, by omega, fun z => ?_, fun _ _ p o hp hn => q _ _ (.tup (t1.rep _) hp hn)⟩)
        rcases z with z | z
        · subst z
          have e0 := t1.len
          cases t1
          rw [List.flatten_replicate_nil] at q
          exact q _ _ (.sc (.tup e1 .nil))
        · subst z
          simp only [Int.toNat_one, List.replicate_one, List.flatten_singleton] at q
          exact q _ _ (.sc (.tup e1 t1))
    · cases e
  · obtain ⟨x, y, F, G, rfl, o1, o2⟩ := h.two
    split at e
    · rename_i hm
      cases o2; cases e
      cases o1 with
      | lst e1 t1 n1 =>
        have l1 := t1.len
        have p1 := t1.pur hm.2.2.2
        subst p1
        refine .inr (.inl ⟨_, _, _, rfl, rfl, e1, hm.2.1, hm.1, ?_, fun p hp => q _ _ (.lst (t1.rep _) hp)⟩)
        rw [l1]
        exact Nat.le_trans hm.2.2.1 big_le
    · cases e
  · cases e
theorem pr_div : PrimR K (u2 (rI CDivW fun i j => .int (i / j))) pDiv := by
  intro vs ds d H Q h e q
  unfold pDiv at e
  split at e
  · obtain ⟨x, y, F, G, rfl, o1, o2⟩ := h.two
    split at e
    · rename_i hm
      cases o1; cases o2; cases e
      exact ⟨_, _, rfl, rfl, hm, q _ _ (.sc (.int _))⟩
    · cases e
  · cases e
theorem pr_mod : PrimR K (u2 (rI (fun _ j => 0 < j) fun i j => .int (i % j))) pMod := by
  intro vs ds d H Q h e q
  unfold pMod at e
  split at e
  · obtain ⟨x, y, F, G, rfl, o1, o2⟩ := h.two
    split at e
    · rename_i hm
      cases o1; cases o2; cases e
      exact ⟨_, _, rfl, rfl, hm, q _ _ (.sc (.int _))⟩
    · cases e
  · cases e
theorem pr_pow : PrimR K (u2 (rI CPow fun i j => .int (i ^ j.toNat))) pPow := by
  intro vs ds d H Q h e q
  unfold pPow at e
  split at e
  · obtain ⟨x, y, F, G, rfl, o1, o2⟩ := h.two
    split at e
    · rename_i hm
      cases o1; cases o2; cases e
      exact ⟨_, _, rfl, rfl, hm, q _ _ (.sc (.int _))⟩
    · cases e
  · cases e
theorem pr_lt : PrimR K (u2 (rI0 fun i j => .bl (decide (i < j)))) pLt := by
  intro vs ds d H Q h e q
  unfold pLt at e
  split at e
  · obtain ⟨x, y, F, G, rfl, o1, o2⟩ := h.two
    cases o1; cases o2; cases e
    exact ⟨_, _, rfl, rfl, q _ _ (.sc (.bl _))⟩
  · cases e
theorem pr_le : PrimR K (u2 (rI0 fun i j => .bl (decide (i ≤ j)))) pLe := by
  intro vs ds d H Q h e q
  unfold pLe at e
  split at e
  · obtain ⟨x, y, F, G, rfl, o1, o2⟩ := h.two
    cases o1; cases o2; cases e
    exact ⟨_, _, rfl, rfl, q _ _ (.sc (.bl _))⟩
  · cases e
theorem pr_gt : PrimR K (u2 (rI0 fun i j => .bl (decide (j < i)))) pGt := by
  intro vs ds d H Q h e q
  unfold pGt at e
  split at e
  · obtain ⟨x, y, F, G, rfl, o1, o2⟩ := h.two
    cases o1; cases o2; cases e
    exact ⟨_, _, rfl, rfl, q _ _ (.sc (.bl _))⟩
  · cases e
theorem pr_ge : PrimR K (u2 (rI0 fun i j => .bl (decide (j ≤ i)))) pGe := by
  intro vs ds d H Q h e q
  unfold pGe at e
  split at e
  · obtain ⟨x, y, F, G, rfl, o1, o2⟩ := h.two
    cases o1; cases o2; cases e
    exact ⟨_, _, rfl, rfl, q _ _ (.sc (.bl _))⟩
  · cases e
theorem pr_eq : PrimR K (u2 (rEqD K)) pEq := by
  intro vs ds d H Q h e q
  unfold pEq at e
  split at e
  · obtain ⟨x, y, F, G, rfl, o1, o2⟩ := h.two
    split at e
    · rename_i hm
      cases e
      simp only [shp, Bool.and_eq_true] at hm
      exact ⟨_, _, o1.dp hm.1.2, o2.dp hm.2.2, hm.1.1, hm.2.1, q _ _ (.sc (.bl _))⟩
    · cases e
  · cases e
theorem pr_ne : PrimR K (u2 (rNeD K)) pNe := by
  intro vs ds d H Q h e q
  unfold pNe at e
  split at e
  · obtain ⟨x, y, F, G, rfl, o1, o2⟩ := h.two
    split at e
    · rename_i hm
      cases e
      simp only [shp, Bool.and_eq_true] at hm
      exact ⟨_, _, o1.dp hm.1.2, o2.dp hm.2.2, hm.1.1, hm.2.1, q _ _ (.sc (.bl _))⟩
    · cases e
  · cases e
theorem isN_of {H : Hp} {d : D} {v : V} {F : List Addr} (o : Own K H d v F) : decide (v = V.non) = isN d := by
  cases o <;> rfl
def rIsNotA : R2 := fun x y H Q => (y = .non ∧ Q (.bl (!decide (x = .non))) H) ∨ (∃ a b, x = .bl a ∧ y = .bl b ∧ Q (.bl (!decide (a = b))) H)
theorem op_isNotA {X : Cx} : OpR X (compareOp .IsNot) rIsNotA := op_notN.or op_isnot_bl
theorem pr_isnot : PrimR K (u2 rIsNotA) pNotN := by
  intro vs ds d H Q h e q
  unfold pNotN at e
  split at e
  · obtain ⟨x, y, F, G, rfl, o1, o2⟩ := h.two
    cases o2; cases e
    refine .inl ⟨rfl, ?_⟩
    rw [isN_of o1]
    exact q _ _ (.sc (.bl _))
  · obtain ⟨x, y, F, G, rfl, o1, o2⟩ := h.two
    cases o1; cases o2; cases e
    exact .inr ⟨_, _, rfl, rfl, q _ _ (.sc (.bl _))⟩
  · cases e
theorem eqV_eqv {H : Hp} {a b : D} {x y : V} {F G : List Addr} (o : Own K H a x F) (o2 : Own K H b y G) (h1 : pIn.fl a = true) (h2 : pIn.fl b = true) : eqV x y = PyData.eqv a b ∧ flatV x = true ∧ flatV y = true := by
  cases o <;> simp [pIn.fl] at h1 <;> cases o2 <;> simp [pIn.fl] at h2 <;> refine ⟨?_, rfl, rfl⟩ <;> simp [eqV, PyData.eqv]
theorem inV_any {H : Hp} {a : D} {x : V} {F : List Addr} (o : Own K H a x F) (h1 : pIn.fl a = true) : ∀ {bs : List D} {ys : List V} {G : List Addr}, OwnA K H bs ys G → bs.all pIn.fl = true →
    inV x ys = (bs.any fun z => PyData.eqv z a) ∧ ys.all flatV = true
  | [], _, _, t, _ => by cases t; exact ⟨rfl, rfl⟩
  | d :: ds, _, _, t, h2 => by
    cases t with
    | cons o' t n =>
      rw [List.all_cons, Bool.and_eq_true] at h2
      obtain ⟨h3, h4⟩ := inV_any o h1 t h2.2
      obtain ⟨e1, e2, e3⟩ := eqV_eqv o' o h2.1 h1
      unfold inV at h3 ⊢
      rw [List.any_cons, List.any_cons, e1, h3, List.all_cons, e2, h4]
      exact ⟨rfl, rfl⟩
def rInA (K : PySem.W.Frag) : R2 := fun x y H Q => rInD K x y H Q ∨ rIn K false x y H Q ∨ (∃ i j, x = .str i ∧ y = .str j ∧ Q (.bl (!(Builtin.Str.occurrences j i 0 j.length 1).isEmpty)) H)
theorem op_inA {X : Cx} (hu : X.A.units + 65 < cLine) : OpR X (compareOp .In) (rInA X.K) := (op_inD hu).or (op_in_seq.or op_in_str)
theorem pr_in : PrimR K (u2 (rInA K)) pIn := by
  intro vs ds d H Q h e q
  unfold pIn at e
  split at e
  · obtain ⟨x, y, F, G, rfl, o1, o2⟩ := h.two
    split at e
    · rename_i hm
      cases e
      simp only [shp, Bool.and_eq_true] at hm
      exact .inl ⟨_, _, o1.dp hm.1.2, o2.dp hm.2.2, hm.1.1, hm.2.1, q _ _ (.sc (.bl _))⟩
    · cases e
  · obtain ⟨x, y, F, G, rfl, o1, o2⟩ := h.two
    split at e
    · rename_i hm
      cases e
      cases o2 with
      | tup e2 t2 =>
        obtain ⟨h3, h4⟩ := inV_any o1 hm.1 t2 hm.2
        refine .inr (.inl ⟨_, _, rfl, .inr e2.sq, ?_, h4, ?_⟩)
        · exact (eqV_eqv o1 o1 hm.1 hm.1).2.1
        · rw [if_neg (by simp), h3]
          exact q _ _ (.sc (.bl _))
    · cases e
  · obtain ⟨x, y, F, G, rfl, o1, o2⟩ := h.two
    cases o1; cases o2; cases e
    exact .inr (.inr ⟨_, _, rfl, rfl, q _ _ (.sc (.bl _))⟩)
  · cases e
end
end Sim
namespace Sim
open PySem PySem.Spec L2
def oV (i : Nat) : O := fun s => match (s[i]?).join with
  | some _ => .ok (.slot i) s
  | none => .bad
def oC (d : D) : O := fun s => .ok (.val d) s
def o1 (f : List D → Option D) (a : O) : O := oPrim f (aCons a aNil)
def o2 (f : List D → Option D) (a b : O) : O := oPrim f (aCons a (aCons b aNil))
def tst (g : O) : T := fun s => (g s).bind fun r s1 => match rd r s1 with
  | some (.bool b) => .ok b s1
  | _ => .bad
def oAnd (g h : O) : O := fun s => (g s).bind fun r s1 => match rd r s1 with
  | some (.bool true) => h s1
  | some (.bool false) => .ok (.val (.bool false)) s1
  | _ => .bad
def oOr (g h : O) : O := fun s => (g s).bind fun r s1 => match rd r s1 with
  | some (.bool true) => .ok (.val (.bool true)) s1
  | some (.bool false) => h s1
  | _ => .bad
def oNot (g : O) : O := fun s => (g s).bind fun r s1 => match rd r s1 with
  | some (.bool b) => .ok (.val (.bool (!b))) s1
  | _ => .bad
def tAnd (t u : T) : T := fun s => (t s).bind fun b s1 => if b = true then u s1 else .ok false s1
def tOr (t u : T) : T := fun s => (t s).bind fun b s1 => if b = true then .ok true s1 else u s1
def tNot (t : T) : T := fun s => (t s).bind fun b s1 => .ok (!b) s1
def oIf (c : T) (a b : O) : O := fun s => (c s).bind fun k s1 => if k = true then a s1 else b s1
def oChain (f f' : List D → Option D) (a b c : O) : O := fun s => (a s).bind fun ra s1 => (b s1).bind fun rb s2 => match rds [ra, rb] s2 with
  | none => .bad
  | some ds => match f ds with
    | some (.bool true) => (c s2).bind fun rc s3 => (match rds [rb, rc] s3 with
      | none => .bad
      | some es => match f' es with
        | none => .bad
        | some d => .ok (.val d) s3)
    | some (.bool false) => .ok (.val (.bool false)) s2
    | _ => .bad
/-- a value for oneself: a slot's only where nothing in it may change -/
def own (r : Rf) (s : Sg) : Option D := match r with
  | .val d => some d
  | .slot i => match (s[i]?).join with
    | none => none
    | some d => if pur d = true then some d else none
def owns : List Rf → Sg → Option (List D)
  | [], _ => some []
  | r :: rs, s => match own r s with
    | none => none
    | some d => match owns rs s with
      | none => none
      | some ds => some (d :: ds)
def oTup (g : AL) : O := fun s => (g s).bind fun rs s1 => match owns rs s1 with
  | none => .bad
  | some ds => if ds.length ≤ 1000000 then .ok (.val (.tuple ds)) s1 else .bad
def oLst (g : AL) : O := fun s => (g s).bind fun rs s1 => match owns rs s1 with
  | none => .bad
  | some ds => if ds.length ≤ 1000000 then .ok (.val (.list ds)) s1 else .bad
def puO (o : Option D) : Option D := match o with
  | none => none
  | some d => if pur d = true then some d else none
def pIx : List D → Option D
  | [.list ds, .int i] => puO (atI ds i)
  | [.tuple ds, .int i] => puO (atI ds i)
  | [.dict [(.none, .list ds)], .int i] => puO (atI ds i)
  | [.str z, .int i] => if z.length ≤ 1000000 then (match atI z.cps.toList i with
    | none => none
    | some c => some (.str ⟨#[c]⟩)) else none
  | _ => none
def cutL {α : Type} (xs : List α) (lo hi : Option Int) : List α := (xs.drop (HT.sIx xs.length 0 lo)).take (HT.sIx xs.length xs.length hi - HT.sIx xs.length 0 lo)
def slD : D → Option Int → Option Int → Option D
  | .list ds, lo, hi => if purs ds = true then some (.list (cutL ds lo hi)) else none
  | .tuple ds, lo, hi => if purs ds = true then some (.tuple (cutL ds lo hi)) else none
  | .dict [(.none, .list ds)], lo, hi => some (.list (cutL ds lo hi))
  | .str z, lo, hi => if z.length ≤ 1000000 then some (.str (cutS z lo hi)) else none
  | _, _, _ => none
def prt (p : Option O) : Sg → Res (Option Int) := match p with
  | none => fun s => .ok none s
  | some g => fun s => (g s).bind fun r s1 => match rd r s1 with
    | some (.int i) => .ok (some i) s1
    | _ => .bad
def oSl (g : O) (lo hi : Option O) : O := fun s => (g s).bind fun r s1 => (prt lo s1).bind fun l s2 => (prt hi s2).bind fun u s3 => match rd r s3 with
  | none => .bad
  | some d => match slD d l u with
    | none => .bad
    | some d' => .ok (.val d') s3
section
variable [Tb] [Vs] {X : Cx} {K : PySem.W.Frag} {H : Hp} {σ : St} {Q : VK}
/-- what reads a slot: a name, or a field of the open object -/
def tSl (i : Nat) : TE := fun σ H Q => ∃ v, σ[i]? = some (some v) ∧ Vs.lnk σ H ∧ Q v H
theorem tsl_of {e : Expr} {i : Nat} (h : PE X e (tVar i)) : PE X e (tSl i) := pe_imp h fun _ _ _ ⟨v, a, _, q⟩ => ⟨v, a, q⟩
theorem so_var {i : Nat} {x : Str} {pos : Pos} (h : PE X (.Name x pos) (tVar i)) : SimO X (.Name x pos) (oV i) := by
  refine pe_imp h fun σ H Q h => ?_
  obtain ⟨s, Fs, r, s', R, e, q⟩ := h
  unfold oV at e
  split at e
  · rename_i d hd
    cases e
    obtain ⟨v, hv, o⟩ := R.has i d (join_some hd)
    exact ⟨v, hv, q v H Fs [] R (.refl _ _) (.slot hv) (by intro a h; cases h)⟩
  · cases e
theorem tO_c {d : D} {v : V} (o : ∀ H, Own K H d v []) (h : tO K (oC d) σ H Q) : tC v σ H Q := by
  obtain ⟨s, Fs, r, s', R, e, q⟩ := h
  cases e
  exact q v H Fs [] R (.refl _ _) (.val ⟨o H, fun _ _ _ z => by cases z⟩) (by intro a h; cases h)
theorem so_int {i : Int} {j : Nat} {pos : Pos} : SimO X (.Constant (.int i) j pos) (oC (.int i)) := pe_imp pe_int fun _ _ _ h => tO_c (fun _ => .int i) h
theorem so_bl {b : Bool} {j : Nat} {pos : Pos} : SimO X (.Constant (.bool b) j pos) (oC (.bool b)) := pe_imp pe_bl fun _ _ _ h => tO_c (fun _ => .bl b) h
theorem so_non {j : Nat} {pos : Pos} : SimO X (.Constant .none j pos) (oC .none) := pe_imp pe_non fun _ _ _ h => tO_c (fun _ => .non) h
variable {a b c : Expr} {ga gb gc : O} {pos : Pos}
theorem so_bin {op : Operator} {r : R2} {f : List D → Option D} (ho : OpR X (binaryOp op) r) (hp : PrimR X.K (u2 r) f) (ha : SimO X a ga) (hb : SimO X b gb) : SimO X (.BinOp a op b pos) (o2 f ga gb) :=
  pe_imp (pe_op ho ha hb) fun _ _ _ h => by have z := tA2 (prim hp h); exact z
theorem so_cmp {op : CmpOp} {r : R2} {f : List D → Option D} (ho : OpR X (compareOp op) r) (hp : PrimR X.K (u2 r) f) (ha : SimO X a ga) (hb : SimO X b gb) (hm : behindInMarks op b = false) : SimO X (.Compare a [op] [b] pos) (o2 f ga gb) :=
  pe_imp (pe_cmpR ho ha hb hm) fun _ _ _ h => by have z := tA2 (prim hp h); exact z
theorem tT_tst {g : O} {Q : Bool → Hp → Prop} (h : tT K (tst g) σ H Q) : tO K g σ H fun x H1 => ∃ k, x = .bl k ∧ Q k H1 := by
  obtain ⟨s, Fs, b, s', R, e, q⟩ := h
  obtain ⟨r, s1, e1, e⟩ := bind_inv e
  refine ⟨s, Fs, r, s1, R, e1, fun v H1 Fs1 F R1 E1 k1 n1 => ?_⟩
  split at e
  · rename_i b' hb
    cases e
    obtain ⟨F', o⟩ := k1.dp R1 hb
    cases o
    exact ⟨_, rfl, q H1 Fs1 R1 E1⟩
  · cases e
theorem st_cmp {op : CmpOp} {r : R2} {f : List D → Option D} (ho : OpR X (compareOp op) r) (hp : PrimR X.K (u2 r) f) (ha : SimO X a ga) (hb : SimO X b gb) (hm : behindInMarks op b = false) : SimT X (.Compare a [op] [b] pos) (tst (o2 f ga gb)) :=
  pt_imp (pt_cmpR ho ha hb hm) fun _ _ _ h => by have z := tA2 (prim hp (tT_tst h)); exact z
theorem tT_and {t u : T} {Q : Bool → Hp → Prop} (h : tT K (tAnd t u) σ H Q) : L2.tAnd (tT K t) (tT K u) σ H Q := by
  obtain ⟨s, Fs, b, s', R, e, q⟩ := h
  obtain ⟨b1, s1, e1, e⟩ := bind_inv e
  refine ⟨s, Fs, b1, s1, R, e1, fun H1 Fs1 R1 E1 => ?_⟩
  cases b1 with
  | true => exact ⟨s1, Fs1, b, s', R1, e, fun H2 Fs2 R2 E2 => q H2 Fs2 R2 (E1.trans E2)⟩
  | false => cases e; exact q H1 Fs1 R1 E1
theorem tT_or {t u : T} {Q : Bool → Hp → Prop} (h : tT K (tOr t u) σ H Q) : L2.tOr (tT K t) (tT K u) σ H Q := by
  obtain ⟨s, Fs, b, s', R, e, q⟩ := h
  obtain ⟨b1, s1, e1, e⟩ := bind_inv e
  refine ⟨s, Fs, b1, s1, R, e1, fun H1 Fs1 R1 E1 => ?_⟩
  cases b1 with
  | false => exact ⟨s1, Fs1, b, s', R1, e, fun H2 Fs2 R2 E2 => q H2 Fs2 R2 (E1.trans E2)⟩
  | true => cases e; exact q H1 Fs1 R1 E1
theorem tT_not {t : T} {Q : Bool → Hp → Prop} (h : tT K (tNot t) σ H Q) : L2.tNot (tT K t) σ H Q := by
  obtain ⟨s, Fs, b, s', R, e, q⟩ := h
  obtain ⟨b1, s1, e1, e⟩ := bind_inv e
  refine ⟨s, Fs, b1, s1, R, e1, fun H1 Fs1 R1 E1 => ?_⟩
  cases e
  exact q H1 Fs1 R1 E1
/-- and, or, whatever the whole is -/
def SimW (X : Cx) (e : Expr) (g : T) : Prop := PW X e (tT X.K g)
theorem pw_imp {e : Expr} {t t' : TT} (h : PW X e t) (i : ∀ σ H Q, t' σ H Q → t σ H Q) : PW X e t' := ⟨fun wh pins s σ H Q I q => h.run wh pins s σ H Q I (i σ H Q q)⟩
theorem sw_and1 {t : T} (ha : SimT X a t) : SimW X (.BoolOp .And [a] pos) t := pw_and1 ha
theorem sw_or1 {t : T} (ha : SimT X a t) : SimW X (.BoolOp .Or [a] pos) t := pw_or1 ha
theorem sw_and {rest : List Expr} {t u : T} (ha : SimT X a t) (hb : SimW X (.BoolOp .And (b :: rest) pos) u) : SimW X (.BoolOp .And (a :: b :: rest) pos) (tAnd t u) := pw_imp (pw_and ha hb) fun _ _ _ h => tT_and h
theorem sw_or {rest : List Expr} {t u : T} (ha : SimT X a t) (hb : SimW X (.BoolOp .Or (b :: rest) pos) u) : SimW X (.BoolOp .Or (a :: b :: rest) pos) (tOr t u) := pw_imp (pw_or ha hb) fun _ _ _ h => tT_or h
theorem st_w {e : Expr} {t : T} (h : SimW X e t) : SimT X e t := PW.pt h
theorem st_not {t : T} (ha : SimT X a t) : SimT X (.UnaryOp .Not a pos) (tNot t) := pt_imp (pt_not ha) fun _ _ _ h => tT_not h
theorem tO_and {g h : O} (z : tO K (oAnd g h) σ H Q) : tAndV (tO K g) (tO K h) σ H Q := by
  obtain ⟨s, Fs, r, s', R, e, q⟩ := z
  obtain ⟨r1, s1, e1, e⟩ := bind_inv e
  refine ⟨s, Fs, r1, s1, R, e1, fun v H1 Fs1 F R1 E1 k1 n1 => ?_⟩
  split at e
  · rename_i hb
    obtain ⟨F', o⟩ := k1.dp R1 hb
    cases o
    exact ⟨true, rfl, s1, Fs1, r, s', R1, e, fun v H2 Fs2 F2 R2 E2 k2 n2 => q v H2 Fs2 F2 R2 (E1.trans E2) k2 fun a ha => E1.chg.there a (n2 a ha)⟩
  · rename_i hb
    obtain ⟨F', o⟩ := k1.dp R1 hb
    cases o
    cases e
    exact ⟨false, rfl, q _ H1 Fs1 [] R1 E1 (.val ⟨.bl _, fun _ _ _ z => by cases z⟩) (by intro a h; cases h)⟩
  · cases e
theorem tO_not {g : O} (z : tO K (oNot g) σ H Q) : tNotV (tO K g) σ H Q := by
  obtain ⟨s, Fs, r, s', R, e, q⟩ := z
  obtain ⟨r1, s1, e1, e⟩ := bind_inv e
  refine ⟨s, Fs, r1, s1, R, e1, fun v H1 Fs1 F R1 E1 k1 n1 => ?_⟩
  split at e
  · rename_i b hb
    obtain ⟨F', o⟩ := k1.dp R1 hb
    cases o
    cases e
    exact ⟨b, rfl, q _ H1 Fs1 [] R1 E1 (.val ⟨.bl _, fun _ _ _ z => by cases z⟩) (by intro a h; cases h)⟩
  · cases e
theorem so_one {op : BoolOp} (h : SimO X a ga) : SimO X (.BoolOp op [a] pos) ga := pe_one h
theorem so_and {rest : List Expr} (ha : SimO X a ga) (hb : SimO X (.BoolOp .And (b :: rest) pos) gb) : SimO X (.BoolOp .And (a :: b :: rest) pos) (oAnd ga gb) := pe_imp (pe_and ha hb) fun _ _ _ h => tO_and h
theorem so_not (ha : SimO X a ga) : SimO X (.UnaryOp .Not a pos) (oNot ga) := pe_imp (pe_not ha) fun _ _ _ h => tO_not h
theorem tO_if {t : T} {g h : O} (z : tO K (oIf t g h) σ H Q) : tIf (tT K t) (tO K g) (tO K h) σ H Q := by
  obtain ⟨s, Fs, r, s', R, e, q⟩ := z
  obtain ⟨b, s1, e1, e⟩ := bind_inv e
  refine ⟨s, Fs, b, s1, R, e1, fun H1 Fs1 R1 E1 => ?_⟩
  cases b with
  | true => exact ⟨s1, Fs1, r, s', R1, e, fun v H2 Fs2 F2 R2 E2 k2 n2 => q v H2 Fs2 F2 R2 (E1.trans E2) k2 fun a ha => E1.chg.there a (n2 a ha)⟩
  | false => exact ⟨s1, Fs1, r, s', R1, e, fun v H2 Fs2 F2 R2 E2 k2 n2 => q v H2 Fs2 F2 R2 (E1.trans E2) k2 fun a ha => E1.chg.there a (n2 a ha)⟩
theorem so_if {t : T} (hc : SimT X c t) (ha : SimO X a ga) (hb : SimO X b gb) : SimO X (.IfExp c a b pos) (oIf t ga gb) := pe_imp (pe_ifExp hc ha hb) fun _ _ _ h => tO_if h
theorem rfs2 {Fs : Fp} {r1 r2 : Rf} {x y : V} {F G : List Addr} (k1 : RfOk K H σ Fs r1 x F) (k2 : RfOk K H σ Fs r2 y G) {s : Sg} (R : RelS K H s σ Fs) {ds : List D} (e : rds [r1, r2] s = some ds) : RdA K H [x, y] ds := by
  unfold rds at e
  split at e
  · cases e
  · rename_i d1 h1
    split at e
    · cases e
    · rename_i es h2
      cases e
      obtain ⟨F1, o1⟩ := k1.dp R h1
      unfold rds at h2
      split at h2
      · cases h2
      · rename_i d2 h3
        cases h2
        obtain ⟨F2, o2⟩ := k2.dp R h3
        exact .cons o1 (.cons o2 .nil)
theorem Rfs.own {s : Sg} {Fs : Fp} (R : RelS K H s σ Fs) {rs : List Rf} {vs : List V} {Gs : List (List Addr)} (r : Rfs K H σ Fs rs vs Gs) : ∀ {ds : List D}, owns rs s = some ds → OwnA K H ds vs Gs.flatten ∧ ∀ i a, a ∈ Fs i → a ∉ Gs.flatten := by
  induction r with
  | nil => intro ds e; cases e; exact ⟨.nil, by simp⟩
  | @val d v F rs vs Gs A n _ ih =>
    intro ds e
    unfold owns at e
    simp only [Sim.own] at e
    split at e
    · cases e
    · rename_i es h
      cases e
      obtain ⟨h1, h2⟩ := ih h
      rw [List.flatten_cons]
      refine ⟨.cons A.own h1 fun a ha hb => ?_, fun i a hi ha => ?_⟩
      · obtain ⟨G, hG, hb⟩ := List.mem_flatten.mp hb
        exact n G hG a ha hb
      · rcases List.mem_append.mp ha with ha | ha
        · exact A.dis i a hi ha
        · exact h2 i a hi ha
  | @slot i v rs vs Gs hv _ ih =>
    intro ds e
    unfold owns at e
    simp only [Sim.own] at e
    split at e
    · cases e
    · rename_i d hd
      split at e
      · cases e
      · rename_i es h
        cases e
        split at hd
        · cases hd
        · rename_i d' hd'
          split at hd
          · rename_i hp
            cases hd
            obtain ⟨h1, h2⟩ := ih h
            obtain ⟨v', hv', o⟩ := R.has i d (join_some hd')
            rw [hv] at hv'
            cases hv'
            have e0 := o.pur hp
            rw [e0] at o
            rw [List.flatten_cons]
            exact ⟨OwnA.cons (F := []) o h1 (by simp), h2⟩
          · cases hd
theorem tO_tup {g : AL} (z : tO K (oTup g) σ H Q) : tTupD (tA K g) σ H Q := by
  obtain ⟨s, Fs, rf, s', R, e, q⟩ := z
  obtain ⟨rs, s1, e1, e⟩ := bind_inv e
  refine ⟨s, Fs, rs, s1, R, e1, fun vs H1 Fs1 Gs R1 E1 k1 n1 => ?_⟩
  split at e
  · cases e
  · rename_i ds hds
    split at e
    · rename_i hl
      cases e
      obtain ⟨o, dj⟩ := k1.own R1 hds
      refine ⟨by rw [o.len]; exact Nat.le_trans hl big_le, fun p ob hp hn => ?_⟩
      have sm : Same H1 (upd H1 p (.frz ob (.tup vs))) := same_new hp
      refine q _ _ Fs1 Gs.flatten (R1.same sm) (E1.trans (.same _ sm)) (.val ⟨.tup (SqD.of upd_same hn) (o.chg (Fa := fun _ => False) (.same sm) fun _ _ z => z), dj⟩) fun a ha => ?_
      obtain ⟨G, hG, hb⟩ := List.mem_flatten.mp ha
      exact n1 G hG a hb
    · cases e
theorem tO_lst {g : AL} (z : tO K (oLst g) σ H Q) : tLst (tA K g) σ H Q := by
  obtain ⟨s, Fs, rf, s', R, e, q⟩ := z
  obtain ⟨rs, s1, e1, e⟩ := bind_inv e
  refine ⟨s, Fs, rs, s1, R, e1, fun vs H1 Fs1 Gs R1 E1 k1 n1 => ?_⟩
  split at e
  · cases e
  · rename_i ds hds
    split at e
    · rename_i hl
      cases e
      obtain ⟨o, dj⟩ := k1.own R1 hds
      refine ⟨by rw [o.len]; exact Nat.le_trans hl big_le, fun p hp => ?_⟩
      have sm : Same H1 (upd H1 p (.lst vs)) := same_new hp
      have np : p ∉ Gs.flatten := fun z => by
        obtain ⟨xs, w⟩ := o.mem p z
        rw [hp] at w; cases w
      refine q _ _ Fs1 (p :: Gs.flatten) (R1.same sm) (E1.trans (.same _ sm)) (.val ⟨.lst upd_same (o.chg (Fa := fun _ => False) (.same sm) fun _ _ z => z) np, fun i a hi ha => ?_⟩) fun a ha => ?_
      · rcases List.mem_cons.mp ha with rfl | ha
        · obtain ⟨xs, w⟩ := R1.mem hi
          rw [hp] at w; cases w
        · exact dj i a hi ha
      · rcases List.mem_cons.mp ha with rfl | ha
        · exact E1.chg.there _ hp
        · obtain ⟨G, hG, hb⟩ := List.mem_flatten.mp ha
          exact n1 G hG a hb
    · cases e
theorem so_tup {es : List Expr} {k : Nat} {g : AL} (h : SimA X es g) : SimO X (.Tuple es k pos) (oTup g) := pe_imp (pe_tupD h) fun _ _ _ h => tO_tup h
theorem so_lst {es : List Expr} {g : AL} (h : SimA X es g) : SimO X (.List es pos) (oLst g) := pe_imp (pe_lst h) fun _ _ _ h => tO_lst h
theorem atI_own {ds : List D} {vs : List V} {F : List Addr} (t : OwnA K H ds vs F) {i : Int} {d : D} (e : puO (atI ds i) = some d) : ∃ v, atI vs i = some v ∧ Own K H d v [] ∧ pur d = true := by
  unfold puO at e
  split at e
  · cases e
  · rename_i d' h
    split at e
    · rename_i hp
      cases e
      unfold atI at h ⊢
      rw [t.len]
      cases hj : ixN ds.length i with
      | none => rw [hj] at h; cases h
      | some j =>
        rw [hj] at h
        obtain ⟨v, G, hv, o, _⟩ := t.get j d h
        have e0 := o.pur hp
        rw [e0] at o
        exact ⟨v, hv, o, hp⟩
    · cases e
theorem pr_ix : PrimR K (u2 (rIx K)) pIx := by
  intro vs ds d H Q h e q
  unfold pIx at e
  split at e
  · obtain ⟨x, y, F, G, rfl, o1, o2⟩ := h.two
    cases o2
    cases o1 with
    | lst h1 t n =>
      obtain ⟨v, hv, o, hp⟩ := atI_own t e
      exact .inl ⟨_, _, _, v, rfl, rfl, SqL.of h1, hv, q _ _ (.sc o)⟩
  · obtain ⟨x, y, F, G, rfl, o1, o2⟩ := h.two
    cases o2
    cases o1 with
    | tup h1 t =>
      obtain ⟨v, hv, o, hp⟩ := atI_own t e
      exact .inr (.inl ⟨_, _, _, v, rfl, rfl, h1.sq, hv, q _ _ (.sc o)⟩)
  · obtain ⟨x, y, F, G, rfl, o1, o2⟩ := h.two
    cases o2
    cases o1 with
    | frz h1 t =>
      obtain ⟨v, hv, o, hp⟩ := atI_own t e
      exact .inl ⟨_, _, _, v, rfl, rfl, h1.sq, hv, q _ _ (.sc o)⟩
  · obtain ⟨x, y, F, G, rfl, o1, o2⟩ := h.two
    cases o2; cases o1
    split at e
    · rename_i hz
      split at e
      · cases e
      · rename_i c hc
        cases e
        exact .inr (.inr ⟨_, _, c, rfl, rfl, Nat.le_trans hz big_le, hc, q _ _ (.sc (.str _))⟩)
    · cases e
  · cases e
theorem so_ix (ha : SimO X a ga) (hb : SimO X b gb) (hs : PlainIx b := by exact fun _ _ => rfl) : SimO X (.Subscript a b pos) (o2 pIx ga gb) := pe_imp (pe_ix ix_seq ha hb hs) fun _ _ _ h => by have z := tA2 (prim pr_ix h); exact z
def SimP (X : Cx) (e : Option Expr) (p : Option O) : Prop :=
  PO X e fun σ H Q => ∃ s Fs o s', RelS X.K H s σ Fs ∧ prt p s = .ok o s' ∧ ∀ H' Fs', RelS X.K H' s' σ Fs' → Ev H Fs H' Fs' → Q o H'
theorem po_imp {e : Option Expr} {t t' : TO} (h : PO X e t) (i : ∀ σ H Q, t' σ H Q → t σ H Q) : PO X e t' := ⟨fun pins s σ H Q I q => h.run pins s σ H Q I (i σ H Q q)⟩
theorem sp_none : SimP X none none := po_imp po_none fun σ H Q ⟨s, Fs, o, s', R, e, q⟩ => by
  cases e
  exact q H Fs R (.refl _ _)
theorem sp_some (ha : SimO X a ga) : SimP X (some a) (some ga) := po_imp (po_some ha) fun σ H Q ⟨s, Fs, o, s', R, e, q⟩ => by
  obtain ⟨r, s1, e1, e⟩ := bind_inv e
  refine ⟨s, Fs, r, s1, R, e1, fun v H1 Fs1 F R1 E1 k1 n1 => ?_⟩
  split at e
  · rename_i i hb
    cases e
    obtain ⟨F', o⟩ := k1.dp R1 hb
    cases o
    exact ⟨_, rfl, q H1 Fs1 R1 E1⟩
  · cases e
def rSlAll (K : PySem.W.Frag) : V → Option Int → Option Int → Hp → VK → Prop := fun x lo hi H Q => rSlL K x lo hi H Q ∨ rSlD K x lo hi H Q ∨ rSlS x lo hi H Q
theorem cutL_whole {α : Type} {xs : List α} {lo hi : Option Int} (h : HT.sIx xs.length 0 lo = 0 ∧ HT.sIx xs.length xs.length hi = xs.length) : cutL xs lo hi = xs := by
  unfold cutL
  rw [h.1, h.2]
  simp
theorem OwnA.cut {ds : List D} {vs : List V} (t : OwnA K H ds vs []) (lo hi : Option Int) : OwnA K H (cutL ds lo hi) (cutV vs lo hi) [] := by
  unfold cutL cutV
  rw [t.len]
  exact (t.drop _).take _
theorem sl_all {d d' : D} {l u : Option Int} {v : V} {F : List Addr} (o : Own K H d v F) (e : slD d l u = some d') (q : ∀ v H', NewV K H d' v H' → Q v H') : rSlAll K v l u H Q := by
  unfold slD at e
  split at e
  · split at e
    · rename_i hp
      cases e
      cases o with
      | lst h1 t n =>
        have e0 := t.pur hp
        subst e0
        exact .inl ⟨_, _, rfl, SqL.of h1, fun p hp => q _ _ (.lst (t.cut l u) hp)⟩
    · cases e
  · split at e
    · rename_i hp
      cases e
      cases o with
      | tup h1 t =>
        have e0 := t.pur hp
        subst e0
        refine .inr (.inl ⟨_, _, rfl, h1.sq, fun hw => q _ _ (.sc ?_), fun _ p ob hp hn => q _ _ (.tup (t.cut l u) hp hn)⟩)
        rw [t.len] at hw
        rw [cutL_whole hw]
        exact .tup h1 t
    · cases e
  · cases e
    cases o with
    | frz h1 t => exact .inl ⟨_, _, rfl, h1.sq, fun p hp => q _ _ (.lst (t.cut l u) hp)⟩
  · split at e
    · rename_i hz
      cases e
      cases o
      exact .inr (.inr ⟨_, rfl, Nat.le_trans hz big_le, q _ _ (.sc (.str _))⟩)
    · cases e
  · cases e
theorem so_slice {lo hi : Option Expr} {l u : Option O} {p2 : Pos} (ha : SimO X a ga) (hl : SimP X lo l) (hu : SimP X hi u) : SimO X (.Subscript a (.Slice lo hi none p2) pos) (oSl ga l u) := by
  refine pe_imp (pe_slice (r := rSlAll X.K) (sl_list.or (sl_tupD.or sl_str)) ha hl hu) fun σ H Q z => ?_
  obtain ⟨s, Fs, rf, s', R, e, q⟩ := z
  obtain ⟨r, s1, e1, e⟩ := bind_inv e
  refine ⟨s, Fs, r, s1, R, e1, fun v H1 Fs1 F R1 E1 k1 n1 => ?_⟩
  obtain ⟨l', s2, e2, e⟩ := bind_inv e
  refine ⟨s1, Fs1, l', s2, R1, e2, fun H2 Fs2 R2 E2 => ?_⟩
  obtain ⟨u', s3, e3, e⟩ := bind_inv e
  refine ⟨s2, Fs2, u', s3, R2, e3, fun H3 Fs3 R3 E3 => ?_⟩
  split at e
  · cases e
  · rename_i d hd
    split at e
    · cases e
    · rename_i d' hd'
      cases e
      obtain ⟨F', o⟩ := ((k1.ev E2).ev E3).dp R3 hd
      refine sl_all o hd' fun v' H4 hv => ?_
      obtain ⟨R4, E4, F4, k4, n4⟩ := hv.ok R3
      exact q v' H4 Fs3 F4 R4 (((E1.trans E2).trans E3).trans E4) k4 fun a ha => ((E1.trans E2).trans E3).chg.there a (n4 a ha)
theorem so_callB {x : Str} {p : Pos} {e : Expr} {es : List Expr} {g : AL} {id : String} {r : List V → Hp → VK → Prop} {f : List D → Option D} (hc : CallR X (.builtin id) r) (hp : PrimR X.K r f) (hg : Gl X x) (hm : X.mg x = none) (hv : bootBuiltins x = some (.builtin id)) (ha : SimA X (e :: es) g)
    (hn : x ≠ "__name__" := by decide) (hdb : (x == ("__debug__" : Str)) = false := by decide) (he : starEach (e :: es) X.env = (false, eval e X.env) :: starEach es X.env := by rfl) (hpl : (backTo pos (starEach es X.env)).any (·.1) = false := by rfl) :
    SimO X (.Call (.Name x p) (e :: es) [] pos) (oPrim f g) := pe_imp (pe_callB hc hg hm hv ha hn hdb he hpl) fun _ _ _ h => prim hp h
theorem so_callTy {x : Str} {p : Pos} {e : Expr} {es : List Expr} {g : AL} {T : String} {r : List V → Hp → VK → Prop} {f : List D → Option D} (hc : CallR X (.type T) r) (hp : PrimR X.K r f) (hg : Gl X x) (hm : X.mg x = none) (hv : bootBuiltins x = some (.type T)) (ha : SimA X (e :: es) g)
    (hn : x ≠ "__name__" := by decide) (hdb : (x == ("__debug__" : Str)) = false := by decide) (he : starEach (e :: es) X.env = (false, eval e X.env) :: starEach es X.env := by rfl) (hpl : (backTo pos (starEach es X.env)).any (·.1) = false := by rfl) :
    SimO X (.Call (.Name x p) (e :: es) [] pos) (oPrim f g) := pe_imp (pe_callTy hc hg hm hv ha hn hdb he hpl) fun _ _ _ h => prim hp h
end
end Sim
namespace Sim
open PySem PySem.Spec L2
def upF (Fs : Fp) (i : Nat) (F : List Addr) : Fp := fun j => if j = i then F else Fs j
def Lk (lk : Nat → Bool) (σ σ' : St) : Prop := ∀ i, lk i = true → σ'[i]? = σ[i]?
theorem Lk.refl (lk : Nat → Bool) (σ : St) : Lk lk σ σ := fun _ _ => rfl
theorem Lk.trans {lk : Nat → Bool} {σ σ1 σ' : St} (a : Lk lk σ σ1) (b : Lk lk σ1 σ') : Lk lk σ σ' := fun i h => (b i h).trans (a i h)
theorem Lk.set {lk : Nat → Bool} {σ : St} {i : Nat} {v : Option V} (h : lk i = false) : Lk lk σ (σ.set i v) := fun j hj => by
  rw [List.getElem?_set_ne]
  intro e
  subst e
  rw [h] at hj
  cases hj
section
variable [Tb] [Vs] {K : PySem.W.Frag} {H H1 H' : Hp} {s s' : Sg} {σ σ' : St} {Fs Fs1 Fs' : Fp}
/-- a slot gets what stands apart -/
theorem RelS.put (R : RelS K H s σ Fs) {d : D} {v : V} {F : List Addr} (A : Apart K H Fs d v F) (i : Nat) (ko : Vs.ok i) : ∃ Fs', RelS K H (s.set i (some d)) (σ.set i (some v)) Fs' ∧ ∀ j a, a ∈ Fs' j → (a ∈ Fs j ∧ j ≠ i) ∨ (a ∈ F ∧ j = i) := by
  by_cases hi : i < s.length
  · refine ⟨upF Fs i F, ⟨by rw [List.length_set, List.length_set, R.len], fun j d' e => ?_, fun j h => ?_, fun j k a h1 h2 => ?_, ⟨(Vs.put ko).mpr R.lnk.1, R.lnk.2⟩, fun j h d' e => ?_⟩, fun j a h => ?_⟩
    · by_cases hj : j = i
      · subst hj
        rw [List.getElem?_set_self hi] at e
        cases e
        refine ⟨v, by rw [List.getElem?_set_self (by rw [← R.len]; exact hi)], ?_⟩
        unfold upF
        rw [if_pos rfl]
        exact A.own
      · rw [List.getElem?_set_ne (Ne.symm hj)] at e
        obtain ⟨v', hv', o⟩ := R.has j d' e
        refine ⟨v', by rw [List.getElem?_set_ne (Ne.symm hj)]; exact hv', ?_⟩
        unfold upF
        rw [if_neg hj]
        exact o
    · unfold upF
      by_cases hj : j = i
      · subst hj
        exact absurd (List.getElem?_set_self hi) (h d)
      · rw [if_neg hj]
        exact R.off j fun d' e => h d' (by rw [List.getElem?_set_ne (Ne.symm hj)]; exact e)
    · unfold upF at h1 h2
      split at h1
      · split at h2
        · omega
        · exact absurd h1 (A.dis k a h2)
      · split at h2
        · exact absurd h2 (A.dis j a h1)
        · exact R.dis j k a h1 h2
    · by_cases hj : j = i
      · subst hj
        exact h (Vs.nil ko)
      · rw [List.getElem?_set_ne (Ne.symm hj)] at e
        exact R.bse j h d' e
    · unfold upF at h
      split at h
      · exact .inr ⟨h, by assumption⟩
      · exact .inl ⟨h, by assumption⟩
  · have e1 : s.set i (some d) = s := by rw [List.set_eq_of_length_le (by omega)]
    have e2 : σ.set i (some v) = σ := by rw [List.set_eq_of_length_le (by rw [← R.len]; omega)]
    rw [e1, e2]
    refine ⟨Fs, R, fun j a h => .inl ⟨h, ?_⟩⟩
    rintro rfl
    rw [R.off j (fun d e => by rw [List.getElem?_eq_none (by omega)] at e; cases e), Vs.nil ko] at h
    cases h
theorem RelS.fp0 (R : RelS K H s σ Fs) {i : Nat} {d0 : D} (e0 : s[i]? = some (some d0)) : Vs.fp i = [] := by
  cases e : Vs.fp i with
  | nil => rfl
  | cons a l => exact absurd e0 (R.bse i (by rw [e]; intro z; cases z) d0)
/-- what it held is told of a slot anew -/
theorem RelS.reput (R : RelS K H s σ Fs) {d : D} {v : V} {F : List Addr} (A : Apart K H Fs d v F) (i : Nat) (hv : σ[i]? = some (some v)) (fp : Vs.fp i = []) : ∃ Fs', RelS K H (s.set i (some d)) σ Fs' ∧ ∀ j a, a ∈ Fs' j → (a ∈ Fs j ∧ j ≠ i) ∨ (a ∈ F ∧ j = i) := by
  have hi : i < s.length := by rw [R.len]; exact (List.getElem?_eq_some_iff.mp hv).1
  refine ⟨upF Fs i F, ⟨by rw [List.length_set, R.len], fun j d' e => ?_, fun j h => ?_, fun j k a h1 h2 => ?_, R.lnk, fun j h d' e => ?_⟩, fun j a h => ?_⟩
  · by_cases hj : j = i
    · subst hj
      rw [List.getElem?_set_self hi] at e
      cases e
      refine ⟨v, hv, ?_⟩
      unfold upF
      rw [if_pos rfl]
      exact A.own
    · rw [List.getElem?_set_ne (Ne.symm hj)] at e
      obtain ⟨v', hv', o⟩ := R.has j d' e
      refine ⟨v', hv', ?_⟩
      unfold upF
      rw [if_neg hj]
      exact o
  · unfold upF
    by_cases hj : j = i
    · subst hj
      exact absurd (List.getElem?_set_self hi) (h d)
    · rw [if_neg hj]
      exact R.off j fun d' e => h d' (by rw [List.getElem?_set_ne (Ne.symm hj)]; exact e)
  · unfold upF at h1 h2
    split at h1
    · split at h2
      · omega
      · exact absurd h1 (A.dis k a h2)
    · split at h2
      · exact absurd h2 (A.dis j a h1)
      · exact R.dis j k a h1 h2
  · by_cases hj : j = i
    · subst hj
      exact h fp
    · rw [List.getElem?_set_ne (Ne.symm hj)] at e
      exact R.bse j h d' e
  · unfold upF at h
    split at h
    · exact .inr ⟨h, by assumption⟩
    · exact .inl ⟨h, by assumption⟩
theorem RelS.lnkC (R : RelS K H s σ Fs) {Fa : Addr → Prop} (c : Chg Fa H H') (n : ∀ i a, a ∈ Vs.fp i → ¬ Fa a) : Lk2 σ H' := R.lnk' (fun i a ha => by
  obtain ⟨m, e⟩ := Vs.mem R.lnk.1 ha
  rw [e]
  exact c.mo e (n i a ha)) (c.tab R.lnk.2)
/-- a slot is emptied -/
theorem RelS.drop (R : RelS K H s σ Fs) (i : Nat) {d0 : D} (e0 : s[i]? = some (some d0)) : RelS K H (s.set i none) σ (upF Fs i []) := by
  have fp0 := R.fp0 e0
  refine ⟨by rw [List.length_set, R.len], fun j d' e => ?_, fun j h => ?_, fun j k a h1 h2 => ?_, R.lnk, fun j h d' e => ?_⟩
  · by_cases hj : j = i
    · subst hj
      by_cases hi : j < s.length
      · rw [List.getElem?_set_self hi] at e; cases e
      · rw [List.getElem?_eq_none (by rw [List.length_set]; omega)] at e; cases e
    · rw [List.getElem?_set_ne (Ne.symm hj)] at e
      obtain ⟨v', hv', o⟩ := R.has j d' e
      refine ⟨v', hv', ?_⟩
      unfold upF
      rw [if_neg hj]
      exact o
  · unfold upF
    by_cases hj : j = i
    · rw [if_pos hj, hj, fp0]
    · rw [if_neg hj]
      exact R.off j fun d' e => h d' (by rw [List.getElem?_set_ne (Ne.symm hj)]; exact e)
  · unfold upF at h1 h2
    split at h1
    · cases h1
    · split at h2
      · cases h2
      · exact R.dis j k a h1 h2
  · by_cases hj : j = i
    · rw [hj] at h
      exact h fp0
    · rw [List.getElem?_set_ne (Ne.symm hj)] at e
      exact R.bse j h d' e
/-- the list of a slot is written -/
theorem RelS.wr (R : RelS K H s σ Fs) {i : Nat} {ds ds' : List D} {l : Addr} {vs vs' : List V} {F F' Fd : List Addr} (e : s[i]? = some (some (.list ds))) (ev : σ[i]? = some (some (.ref l))) (hl : H l = some (.lst vs)) (eF : Fs i = l :: F)
    (o : OwnA K H ds' vs' F') (n : l ∉ F') (hF : ∀ a, a ∈ F' → a ∈ F ∨ a ∈ Fd) (hd : ∀ j a, a ∈ Fs j → a ∉ Fd) :
    ∃ Fs', RelS K (upd H l (.lst vs')) (s.set i (some (.list ds'))) σ Fs' ∧ Chg (InF Fs) H (upd H l (.lst vs')) ∧ ∀ j a, a ∈ Fs' j → a ∈ Fs j ∨ a ∈ Fd := by
  have hi : i < s.length := by
    rcases Nat.lt_or_ge i s.length with h | h
    · exact h
    · rw [List.getElem?_eq_none h] at e; cases e
  have li : l ∈ Fs i := by rw [eF]; exact List.mem_cons_self ..
  have chg : Chg (fun a => a = l) H (upd H l (.lst vs')) := .upd1 (m := .lst _) hl
  refine ⟨upF Fs i (l :: F'), ⟨by rw [List.length_set, R.len], fun j d' e' => ?_, fun j h => ?_, fun j k a h1 h2 => ?_, R.lnkC chg (fun j a h w => R.nfp e li (by rw [← w]; exact h)), fun j h d' e' => ?_⟩, chg.mono (fun a _ _ w => ⟨i, by rw [w]; exact li⟩), fun j a h => ?_⟩
  · by_cases hj : j = i
    · subst hj
      rw [List.getElem?_set_self hi] at e'
      cases e'
      refine ⟨_, ev, ?_⟩
      unfold upF
      rw [if_pos rfl]
      exact .lst upd_same (o.chg chg fun a ha w => n (by rw [← w]; exact ha)) n
    · rw [List.getElem?_set_ne (Ne.symm hj)] at e'
      obtain ⟨v', hv', o'⟩ := R.has j d' e'
      refine ⟨v', hv', ?_⟩
      unfold upF
      rw [if_neg hj]
      exact o'.chg chg fun a ha w => hj (R.dis j i l (by rw [← w]; exact ha) li)
  · unfold upF
    by_cases hj : j = i
    · subst hj
      exact absurd (List.getElem?_set_self hi) (h _)
    · rw [if_neg hj]
      exact R.off j fun d' e => h d' (by rw [List.getElem?_set_ne (Ne.symm hj)]; exact e)
  · have key : ∀ {m : Nat}, m ≠ i → a ∈ l :: F' → a ∈ Fs m → False := fun {m} hm g1 g2 => by
      rcases List.mem_cons.mp g1 with e3 | g1
      · exact hm (R.dis m i a g2 (by rw [e3]; exact li))
      · rcases hF a g1 with q | q
        · exact hm (R.dis m i a g2 (by rw [eF]; exact List.mem_cons_of_mem _ q))
        · exact hd m a g2 q
    by_cases hj : j = i
    · by_cases hk : k = i
      · omega
      · unfold upF at h1 h2
        rw [if_pos hj] at h1
        rw [if_neg hk] at h2
        exact (key hk h1 h2).elim
    · by_cases hk : k = i
      · unfold upF at h1 h2
        rw [if_neg hj] at h1
        rw [if_pos hk] at h2
        exact (key hj h2 h1).elim
      · unfold upF at h1 h2
        rw [if_neg hj] at h1
        rw [if_neg hk] at h2
        exact R.dis j k a h1 h2
  · by_cases hj : j = i
    · subst hj
      exact R.bse j h _ e
    · rw [List.getElem?_set_ne (Ne.symm hj)] at e'
      exact R.bse j h d' e'
  · unfold upF at h
    split at h
    · rename_i hj
      subst hj
      rcases List.mem_cons.mp h with rfl | h
      · exact .inl li
      · rcases hF a h with q | q
        · exact .inl (by rw [eF]; exact List.mem_cons_of_mem _ q)
        · exact .inr q
    · exact .inl h
theorem own_list {H : Hp} {ds : List D} {v : V} {G : List Addr} (h : Own K H (.list ds) v G) : ∃ l vs F, v = .ref l ∧ G = l :: F ∧ H l = some (.lst vs) ∧ OwnA K H ds vs F ∧ l ∉ F := by
  cases h with
  | lst h1 t n => exact ⟨_, _, _, rfl, rfl, h1, t, n⟩
theorem own_tup {H : Hp} {ds : List D} {v : V} {G : List Addr} (h : Own K H (.tuple ds) v G) : ∃ a vs, v = .ref a ∧ SqT K H a vs ∧ OwnA K H ds vs G := by
  cases h with
  | tup h1 t => exact ⟨_, _, rfl, h1.sq, t⟩
theorem OwnA.snoc {H : Hp} {d : D} {v : V} {G : List Addr} (o : Own K H d v G) : ∀ {ds : List D} {vs : List V} {F : List Addr}, OwnA K H ds vs F → (∀ a, a ∈ F → a ∉ G) → ∃ F', OwnA K H (ds ++ [d]) (vs ++ [v]) F' ∧ ∀ a, a ∈ F' → a ∈ F ∨ a ∈ G
  | [], _, _, t, _ => by
    cases t
    refine ⟨G ++ [], .cons o .nil (by simp), fun a h => ?_⟩
    rw [List.append_nil] at h
    exact .inr h
  | d' :: ds, _, _, t, n => by
    cases t with
    | @cons v' vs _ _ F1 F2 o' t n' =>
      obtain ⟨F', h1, h2⟩ := OwnA.snoc o t fun a ha => n a (List.mem_append_right _ ha)
      refine ⟨F1 ++ F', .cons o' h1 fun a ha hb => ?_, fun a h => ?_⟩
      · rcases h2 a hb with q | q
        · exact n' a ha q
        · exact n a (List.mem_append_left _ ha) q
      · rcases List.mem_append.mp h with q | q
        · exact .inl (List.mem_append_left _ q)
        · rcases h2 a q with q | q
          · exact .inl (List.mem_append_right _ q)
          · exact .inr q
theorem OwnA.put {H : Hp} {d : D} {v : V} (o : Own K H d v []) : ∀ {ds : List D} {vs : List V} {F : List Addr} (j : Nat), OwnA K H ds vs F → ∃ F', OwnA K H (ds.set j d) (vs.set j v) F' ∧ ∀ a, a ∈ F' → a ∈ F
  | [], _, _, _, t => by
    cases t
    exact ⟨[], .nil, by simp⟩
  | d' :: ds, _, _, 0, t => by
    cases t with
    | @cons v' vs _ _ F1 F2 o' t n' => exact ⟨[] ++ F2, .cons o t (by simp), fun a h => List.mem_append_right _ (by simpa using h)⟩
  | d' :: ds, _, _, j + 1, t => by
    cases t with
    | @cons v' vs _ _ F1 F2 o' t n' =>
      obtain ⟨F', h1, h2⟩ := OwnA.put o j t
      refine ⟨F1 ++ F', .cons o' h1 fun a ha hb => n' a ha (h2 a hb), fun a h => ?_⟩
      rcases List.mem_append.mp h with q | q
      · exact List.mem_append_left _ q
      · exact List.mem_append_right _ (h2 a q)
end
inductive Tg where
  | nm (i : Nat)
  | tp (l : List Tg)
  | ls (l : List Tg)
mutual
def asg : Tg → D → Sg → Option Sg
  | .nm i, d, s => some (s.set i (some d))
  | .tp l, .tuple ds, s => asgs l ds s
  | .tp _, _, _ => none
  | .ls l, .list ds, s => asgs l ds s
  | .ls _, _, _ => none
def asgs : List Tg → List D → Sg → Option Sg
  | [], [], s => some s
  | t :: l, d :: ds, s => match asg t d s with
    | none => none
    | some s1 => asgs l ds s1
  | _, _, _ => none
end
section
variable [Tb] [Vs] (K : PySem.W.Frag) (lk : Nat → Bool)
def tG (t : Tg) : TG := fun v σ H Q => ∃ s Fs d F s', RelS K H s σ Fs ∧ Apart K H Fs d v F ∧ asg t d s = some s' ∧ ∀ σ' Fs', RelS K H s' σ' Fs' → (∀ i a, a ∈ Fs' i → a ∈ Fs i ∨ a ∈ F) → Lk lk σ σ' → Q σ' H
def tGs (l : List Tg) : TGs := fun vs σ H Q => ∃ s Fs ds F s', RelS K H s σ Fs ∧ OwnA K H ds vs F ∧ (∀ i a, a ∈ Fs i → a ∉ F) ∧ asgs l ds s = some s' ∧ ∀ σ' Fs', RelS K H s' σ' Fs' → (∀ i a, a ∈ Fs' i → a ∈ Fs i ∨ a ∈ F) → Lk lk σ σ' → Q σ' H
end
def SimG [Tb] [Vs] (X : Cx) (lk : Nat → Bool) (e : Expr) (t : Tg) : Prop := PG X e (tG X.K lk t)
def SimGs [Tb] [Vs] (X : Cx) (lk : Nat → Bool) (es : List Expr) (l : List Tg) : Prop := PGs X es (tGs X.K lk l)
section
variable [Tb] [Vs] {X : Cx} {lk : Nat → Bool} {pos : Pos} {K : PySem.W.Frag}
theorem pg_imp {e : Expr} {t t' : TG} (h : PG X e t) (i : ∀ v σ H Q, t' v σ H Q → t v σ H Q) : PG X e t' := ⟨fun pins s σ H v u Q I r q => h.run pins s σ H v u Q I r (i v σ H Q q)⟩
theorem pgs_imp {e : List Expr} {t t' : TGs} (h : PGs X e t) (i : ∀ v σ H Q, t' v σ H Q → t v σ H Q) : PGs X e t' := ⟨fun pins s σ H v u Q I r q => h.run pins s σ H v u Q I r (i v σ H Q q)⟩
theorem tG_nm {i : Nat} (hl : lk i = false) (ko : Vs.ok i) {v : V} {σ : St} {H : Hp} {Q : St → Hp → Prop} (h : tG K lk (.nm i) v σ H Q) : gName i v σ H Q := by
  obtain ⟨s, Fs, d, F, s', R, A, e, q⟩ := h
  simp only [asg] at e
  cases e
  obtain ⟨Fs', R', n⟩ := R.put A i ko
  exact q _ Fs' R' (fun j a h => (n j a h).imp And.left And.left) (.set hl)
theorem sg_name {i : Nat} {x : Str} (hN : X.N.Nodup) (hi : X.N[i]? = some x) (hx : Loc X.env.scope x) (hl : lk i = false) (hf : X.fn x = true ∨ X.env.scope.names.lookup x = some .local := by first | exact .inl rfl | exact .inr rfl | assumption) (ko : Vs.ok i := by first | exact trivial | assumption | exact ⟨by decide, by decide⟩) : SimG X lk (.Name x pos) (.nm i) :=
  pg_imp (pg_name hN hi hx hf) fun _ _ _ _ h => tG_nm hl ko h
theorem tGs_nil {vs : List V} {σ : St} {H : Hp} {Q : St → Hp → Prop} (h : tGs K lk [] vs σ H Q) : gNil vs σ H Q := by
  obtain ⟨s, Fs, ds, F, s', R, o, dj, e, q⟩ := h
  cases ds with
  | nil =>
    simp only [asgs] at e
    cases e
    cases o
    exact ⟨rfl, q σ Fs R (fun _ _ h => .inl h) (.refl _ _)⟩
  | cons d ds => simp [asgs] at e
theorem tGs_cons {t : Tg} {l : List Tg} {vs : List V} {σ : St} {H : Hp} {Q : St → Hp → Prop} (h : tGs K lk (t :: l) vs σ H Q) : gCons (tG K lk t) (tGs K lk l) vs σ H Q := by
  obtain ⟨s, Fs, ds, F, s', R, o, dj, e, q⟩ := h
  cases ds with
  | nil => simp [asgs] at e
  | cons d ds =>
    simp only [asgs] at e
    split at e
    · cases e
    · rename_i s1 h1
      cases o with
      | @cons v vs _ _ F1 F2 o1 o2 n =>
        refine ⟨v, vs, rfl, s, Fs, d, F1, s1, R, ⟨o1, fun i a hi ha => dj i a hi (List.mem_append_left _ ha)⟩, h1, fun σ1 Fs1 R1 n1 L1 => ⟨s1, Fs1, ds, F2, s', R1, o2, fun i a hi ha => ?_, e, fun σ2 Fs2 R2 n2 L2 => ?_⟩⟩
        · rcases n1 i a hi with z | z
          · exact dj i a z (List.mem_append_right _ ha)
          · exact n a z ha
        · refine q σ2 Fs2 R2 (fun i a h => ?_) (L1.trans L2)
          rcases n2 i a h with z | z
          · rcases n1 i a z with z | z
            · exact .inl z
            · exact .inr (List.mem_append_left _ z)
          · exact .inr (List.mem_append_right _ z)
theorem sgs_nil : SimGs X lk [] [] := pgs_imp pgs_nil fun _ _ _ _ h => tGs_nil h
theorem sgs_cons {e : Expr} {es : List Expr} {t : Tg} {l : List Tg} (h1 : SimG X lk e t) (h2 : SimGs X lk es l) (hs : (assignEach (e :: es) X.env).map (·.2) = assign e X.env :: (assignEach es X.env).map (·.2) := by rfl) : SimGs X lk (e :: es) (t :: l) :=
  pgs_imp (pgs_cons h1 h2 hs) fun _ _ _ _ h => tGs_cons h
theorem asgs_len {l : List Tg} : ∀ {ds : List D} {s s' : Sg}, asgs l ds s = some s' → ds.length = l.length := by
  induction l with
  | nil => intro ds s s' h; cases ds with
    | nil => rfl
    | cons d ds => simp [asgs] at h
  | cons t l ih => intro ds s s' h; cases ds with
    | nil => simp [asgs] at h
    | cons d ds =>
      simp only [asgs] at h
      split at h
      · cases h
      · rw [List.length_cons, List.length_cons, ih h]
theorem sg_tup {es : List Expr} {k : Nat} {l : List Tg} (hc : X.calm = true) (h : SimGs X lk es l) (hn : (assignEach es X.env).length = l.length := by rfl) (hst : (assignEach es X.env).findIdx? (·.1) = none := by rfl) : SimG X lk (.Tuple es k pos) (.tp l) := by
  refine pg_imp (pg_tup hc h hn hst) fun v σ H Q z => ?_
  obtain ⟨s, Fs, d, F, s', R, A, e, q⟩ := z
  cases d with
  | tuple ds =>
    simp only [asg] at e
    obtain ⟨a, vs, rfl, hq, o⟩ := own_tup A.own
    exact ⟨a, vs, rfl, hq, by rw [o.len, asgs_len e], s, Fs, ds, F, s', R, o, A.dis, e, q⟩
  | _ => simp [asg] at e
end
/-- to a way out: what no caller holds may have changed places -/
structure EvR [Tb] (lk : Nat → Bool) (H : Hp) (Fs : Fp) (H' : Hp) (Fs' : Fp) : Prop where
  chg : Chg (InF Fs) H H'
  new : ∀ i a, a ∈ Fs' i → (a ∈ Fs i ∨ H a = none) ∨ (lk i = false ∧ ∃ k, lk k = false ∧ a ∈ Fs k)
theorem Ev.r [Tb] {lk : Nat → Bool} {H H' : Hp} {Fs Fs' : Fp} (e : Ev H Fs H' Fs') : EvR lk H Fs H' Fs' := ⟨e.chg, fun i a h => .inl (e.new i a h)⟩
theorem Ev.transR [Tb] {lk : Nat → Bool} {H H1 H' : Hp} {Fs Fs1 Fs' : Fp} (a : Ev H Fs H1 Fs1) (b : EvR lk H1 Fs1 H' Fs') : EvR lk H Fs H' Fs' := by
  refine ⟨⟨fun x o e c => ?_, fun x e => a.chg.there x (b.chg.there x e), fun t => b.chg.tab (a.chg.tab t)⟩, fun i x h => ?_⟩
  · have e1 := a.chg.keep x o e c
    refine b.chg.keep x o e1 (c.imp (fun n => ⟨fun z => ?_, n.2⟩) id)
    obtain ⟨i, hi⟩ := z
    rcases a.new i x hi with q | q
    · exact n.1 ⟨i, q⟩
    · rw [e] at q; cases q
  · rcases b.new i x h with (q | q) | ⟨q, k, hk, q2⟩
    · exact .inl (a.new i x q)
    · exact .inl (.inr (a.chg.there x q))
    · rcases a.new k x q2 with w | w
      · exact .inr ⟨q, k, hk, w⟩
      · exact .inl (.inr w)
section
variable [Tb] [Vs] (K : PySem.W.Frag) (lk : Nat → Bool)
def PostS (D : Ends) (σ : St) (H : Hp) (Fs : Fp) (s' : Sg) (fl : Fl) : Prop := match fl with
  | .nx => ∀ σ' H' Fs', RelS K H' s' σ' Fs' → Ev H Fs H' Fs' → Lk lk σ σ' → D.nx σ' H'
  | .bk => ∀ σ' H' Fs', RelS K H' s' σ' Fs' → Ev H Fs H' Fs' → Lk lk σ σ' → D.bk σ' H'
  | .ct => ∀ σ' H' Fs', RelS K H' s' σ' Fs' → Ev H Fs H' Fs' → Lk lk σ σ' → D.ct σ' H'
  | .rt d => ∀ v σ' H' Fs' F, RelS K H' s' σ' Fs' → EvR lk H Fs H' Fs' → Lk lk σ σ' → Own K H' d v F → (∀ a, a ∈ F → H a = none ∨ ∃ i, lk i = false ∧ a ∈ Fs i) → (∀ i a, lk i = true → a ∈ Fs' i → a ∉ F) → D.rt v H'
def tS (g : S) : TS := fun D σ H => ∃ s Fs fl s', RelS K H s σ Fs ∧ g s = .ok fl s' ∧ PostS K lk D σ H Fs s' fl
end
def SimS [Tb] [Vs] (X : Cx) (lk : Nat → Bool) (st : Stmt) (g : S) : Prop := PS X st (tS X.K lk g)
def SimSs [Tb] [Vs] (X : Cx) (lk : Nat → Bool) (st : List Stmt) (g : S) : Prop := PSs X st (tS X.K lk g)
theorem ps_imp {X : Cx} {e : Stmt} {t t' : TS} (h : PS X e t) (i : ∀ D σ H, t' D σ H → t D σ H) : PS X e t' := ⟨fun pins s σ H D I q => h.run pins s σ H D I (i D σ H q)⟩
theorem pss_imp {X : Cx} {e : List Stmt} {t t' : TS} (h : PSs X e t) (i : ∀ D σ H, t' D σ H → t D σ H) : PSs X e t' := ⟨fun pins s σ H D I q => h.run pins s σ H D I (i D σ H q)⟩
def sSkip : S := fun s => .ok .nx s
def sSeq (g h : S) : S := fun s => (g s).bind fun fl s1 => match fl with
  | .nx => h s1
  | fl => .ok fl s1
def sExpr (g : O) : S := fun s => (g s).bind fun _ s1 => .ok .nx s1
def sRet (lk : Nat → Bool) (g : O) : S := fun s => (g s).bind fun r s1 => match r with
  | .val d => .ok (.rt d) s1
  | .slot i => match (s1[i]?).join with
    | none => .bad
    | some d => if pur d = true ∨ lk i = false then .ok (.rt d) s1 else .bad
def sRetN : S := fun s => .ok (.rt .none) s
def sBreak : S := fun s => .ok .bk s
def sCont : S := fun s => .ok .ct s
def sNever : S := fun _ => .bad
def sIf (t : T) (g h : S) : S := fun s => (t s).bind fun b s1 => if b = true then g s1 else h s1
def sAsg (t : Tg) (g : O) : S := fun s => (g s).bind fun r s1 => match own r s1 with
  | none => .bad
  | some d => match asg t d s1 with
    | none => .bad
    | some s2 => .ok .nx s2
def sSet (i : Nat) (g : O) : S := sAsg (.nm i) g
/-- x[k] = e -/
def sSetIx (i : Nat) (gi g : O) : S := fun s => (g s).bind fun r s1 => (oV i s1).bind fun _ s1 => (gi s1).bind fun ri s2 => match own r s2, rd ri s2, (s2[i]?).join with
  | some d, some (.int k), some (.list ds) => if pur d = true then (match ixN ds.length k with
    | none => .bad
    | some j => .ok .nx (s2.set i (some (.list (ds.set j d))))) else .bad
  | _, _, _ => .bad
section
variable [Tb] [Vs] {X : Cx} {lk : Nat → Bool} {pos : Pos} {K : PySem.W.Frag} {g h : S} {D : Ends} {σ : St} {H : Hp} {ga gb : O} {e : Expr}
theorem ss_nil : SimSs X lk [] sSkip := pss_imp pss_nil fun D σ H ⟨s, Fs, fl, s', R, e, q⟩ => by
  cases e
  exact q σ H Fs R (.refl _ _) (.refl _ _)
/-- what follows a first part -/
theorem tS_after {s : Sg} {Fs Fs1 : Fp} {σ1 : St} {H1 : Hp} {s1 s' : Sg} {fl : Fl} (R1 : RelS K H1 s1 σ1 Fs1) (E1 : Ev H Fs H1 Fs1) (L1 : Lk lk σ σ1) (e : h s1 = .ok fl s')
    (q : PostS K lk D σ H Fs s' fl) :
    tS K lk h D σ1 H1 := by
  refine ⟨s1, Fs1, fl, s', R1, e, ?_⟩
  cases fl with
  | nx => exact fun σ' H' Fs' R' E' L' => q σ' H' Fs' R' (E1.trans E') (L1.trans L')
  | bk => exact fun σ' H' Fs' R' E' L' => q σ' H' Fs' R' (E1.trans E') (L1.trans L')
  | ct => exact fun σ' H' Fs' R' E' L' => q σ' H' Fs' R' (E1.trans E') (L1.trans L')
  | rt d =>
    refine fun v σ' H' Fs' F R' E' L' o n m => q v σ' H' Fs' F R' (E1.transR E') (L1.trans L') o (fun a ha => ?_) m
    rcases n a ha with z | ⟨i, hi, z⟩
    · exact .inl (E1.chg.there a z)
    · rcases E1.new i a z with z | z
      · exact .inr ⟨i, hi, z⟩
      · exact .inl z
theorem tS_seq (z : tS K lk (sSeq g h) D σ H) : tSeq (tS K lk g) (tS K lk h) D σ H := by
  obtain ⟨s, Fs, fl, s', R, e, q⟩ := z
  obtain ⟨f1, s1, e1, e⟩ := bind_inv e
  refine ⟨s, Fs, f1, s1, R, e1, ?_⟩
  cases f1 with
  | nx => exact fun σ1 H1 Fs1 R1 E1 L1 => tS_after (s := s) R1 E1 L1 e q
  | bk => cases e; exact q
  | ct => cases e; exact q
  | rt d => cases e; exact q
theorem ss_cons {st : Stmt} {rest : List Stmt} (h1 : SimS X lk st g) (h2 : SimSs X lk rest h) : SimSs X lk (st :: rest) (sSeq g h) := pss_imp (pss_cons h1 h2) fun _ _ _ z => tS_seq z
theorem ss_one {st : Stmt} (h1 : SimS X lk st g) : SimSs X lk [st] g := pss_one h1
theorem ss_expr (he : SimO X e ga) (hs : swapsWith e none pos.line X.env = pure false := by rfl) : SimS X lk (.Expr e pos) (sExpr ga) := by
  refine ps_imp (ps_expr he hs) fun D σ H z => ?_
  obtain ⟨s, Fs, fl, s', R, e, q⟩ := z
  obtain ⟨r, s1, e1, e⟩ := bind_inv e
  refine ⟨s, Fs, r, s1, R, e1, fun v H1 Fs1 F R1 E1 k1 n1 => ?_⟩
  cases e
  exact q σ H1 Fs1 R1 E1 (.refl _ _)
theorem ss_ret (he : SimO X e ga) : SimS X lk (.Return (some e) pos) (sRet lk ga) := by
  refine ps_imp (ps_ret he) fun D σ H z => ?_
  obtain ⟨s, Fs, fl, s', R, e, q⟩ := z
  obtain ⟨r, s1, e1, e⟩ := bind_inv e
  refine ⟨s, Fs, r, s1, R, e1, fun v H1 Fs1 F R1 E1 k1 n1 => ?_⟩
  cases k1 with
  | val A =>
    cases e
    exact q v σ H1 Fs1 F R1 E1.r (.refl _ _) A.own (fun a ha => .inl (n1 a ha)) fun i a _ hi ha => A.dis i a hi ha
  | @slot i v hv =>
    simp only at e
    split at e
    · cases e
    · rename_i d hd
      split at e
      · rename_i hp
        cases e
        obtain ⟨v', hv', o⟩ := R1.has i d (join_some hd)
        rw [hv] at hv'
        cases hv'
        refine q v σ H1 Fs1 (Fs1 i) R1 E1.r (.refl _ _) o (fun a ha => ?_) fun j a hj hi ha => ?_
        · rcases hp with hp | hp
          · rw [o.pur hp] at ha; cases ha
          · rcases E1.new i a ha with z | z
            · exact .inr ⟨i, hp, z⟩
            · exact .inl z
        · rcases hp with hp | hp
          · rw [o.pur hp] at ha; cases ha
          · have := R1.dis j i a hi ha
            subst this
            rw [hp] at hj; cases hj
      · cases e
theorem ss_if {c : Expr} {as bs : List Stmt} {t : T} (hc : SimT X c t) (ha : SimSs X lk as g) (hb : SimSs X lk bs h) : SimS X lk (.If c as bs pos) (sIf t g h) := by
  refine ps_imp (ps_if hc ha hb) fun D σ H z => ?_
  obtain ⟨s, Fs, fl, s', R, e, q⟩ := z
  obtain ⟨b, s1, e1, e⟩ := bind_inv e
  refine ⟨s, Fs, b, s1, R, e1, fun H1 Fs1 R1 E1 => ?_⟩
  cases b with
  | true => exact iteT (tS_after (s := s) R1 E1 (.refl _ _) e q)
  | false => exact iteF (tS_after (s := s) R1 E1 (.refl _ _) e q)
theorem rfOk_own {Fs : Fp} {r : Rf} {v : V} {F : List Addr} {s : Sg} {d : Sim.D} (k : RfOk K H σ Fs r v F) (R : RelS K H s σ Fs) (e : own r s = some d) : Apart K H Fs d v F := by
  cases k with
  | val A => cases e; exact A
  | @slot i v hv =>
    simp only [own] at e
    split at e
    · cases e
    · rename_i d' hd
      split at e
      · rename_i hp
        cases e
        obtain ⟨v', hv', o⟩ := R.has i d (join_some hd)
        rw [hv] at hv'
        cases hv'
        rw [o.pur hp] at o
        exact ⟨o, fun _ _ _ z => by cases z⟩
      · cases e
theorem tS_asg {t : Tg} (z : tS K lk (sAsg t ga) D σ H) : tAsg (tO K ga) (tG K lk t) D σ H := by
  obtain ⟨s, Fs, fl, s', R, e, q⟩ := z
  obtain ⟨r, s1, e1, e⟩ := bind_inv e
  refine ⟨s, Fs, r, s1, R, e1, fun v H1 Fs1 F R1 E1 k1 n1 => ?_⟩
  split at e
  · cases e
  · rename_i d hd
    split at e
    · cases e
    · rename_i s2 hs2
      cases e
      refine ⟨s1, Fs1, d, F, _, R1, rfOk_own k1 R1 hd, hs2, fun σ2 Fs2 R2 n2 L2 => q σ2 H1 Fs2 R2 ⟨E1.chg, fun i a h => ?_⟩ L2⟩
      rcases n2 i a h with z | z
      · exact E1.new i a z
      · exact .inr (n1 a z)
theorem ss_asg {tg : Expr} {t : Tg} (he : SimO X e ga) (hg : SimG X lk tg t) (hs : swapsWithSole [tg] e pos.line X.env = pure false := by rfl) (hw : swappedStores [tg] e X.env = pure none := by rfl)
    (h1 : (assignEach [tg] X.env).map (·.2) = [assign tg X.env] := by rfl) : SimS X lk (.Assign [tg] e pos) (sAsg t ga) := ps_imp (ps_asg he hg hs hw h1) fun _ _ _ z => tS_asg z
theorem ss_set {i : Nat} {x : Str} {pos' : Pos} (hN : X.N.Nodup) (hi : X.N[i]? = some x) (hx : Loc X.env.scope x) (hl : lk i = false) (he : SimO X e ga) (hs : swapsWith e (some (.Name x pos')) pos.line X.env = pure false := by rfl) (hf : X.fn x = true ∨ X.env.scope.names.lookup x = some .local := by first | exact .inl rfl | exact .inr rfl | assumption) (ko : Vs.ok i := by first | exact trivial | assumption | exact ⟨by decide, by decide⟩) :
    SimS X lk (.Assign [.Name x pos'] e pos) (sSet i ga) := ps_imp (ps_set hN hi hx he hs hf) fun D σ H z => tO_mono (fun v H h => by have w := tG_nm hl ko h; exact w) (tS_asg z)
theorem ss_setIxF {e0 : Expr} {i : Nat} {ix : Expr} {p2 : Pos} (hv : PE X e0 (tSl i)) (hix : SimO X ix gb) (he : SimO X e ga)
    (ha : ∀ v, assign (.Subscript e0 ix p2) X.env v = (do
      let ov ← holding [v] (eval e0 X.env)
      let iv ← holding [v, ov] (eval ix X.env)
      standAt p2
      holding [v, ov, iv] (setItem ov iv v)
      release [v, ov, iv] []) := by intro _; rfl)
    (hs : swapsWithSole [.Subscript e0 ix p2] e pos.line X.env = pure false := by rfl) (hw : swappedStores [.Subscript e0 ix p2] e X.env = pure none := by rfl)
    (h1 : (assignEach [.Subscript e0 ix p2] X.env).map (·.2) = [assign (.Subscript e0 ix p2) X.env] := by rfl) : SimS X lk (.Assign [.Subscript e0 ix p2] e pos) (sSetIx i gb ga) := by
  refine ps_imp (ps_asg he (pg_sub hv hix set_list ha) hs hw h1) fun D σ H z => ?_
  obtain ⟨s, Fs, fl, s', R, e, q⟩ := z
  obtain ⟨r, s1, e1, e⟩ := bind_inv e
  refine ⟨s, Fs, r, s1, R, e1, fun v H1 Fs1 F R1 E1 k1 n1 => ?_⟩
  obtain ⟨rv, s1', e1', e⟩ := bind_inv e
  unfold oV at e1'
  split at e1'
  · rename_i d0 hd0
    cases e1'
    obtain ⟨vl, hvl, _⟩ := R1.has i d0 (join_some hd0)
    refine ⟨vl, hvl, R1.lnk.1, ?_⟩
    obtain ⟨ri, s2, e2, e⟩ := bind_inv e
    refine ⟨s1, Fs1, ri, s2, R1, e2, fun vi H2 Fs2 F2 R2 E2 k2 n2 => ?_⟩
    split at e
    · rename_i d k ds hd hk hs2
      split at e
      · rename_i hp
        split at e
        · cases e
        · rename_i j hj
          cases e
          obtain ⟨vl', hvl', o⟩ := R2.has i _ (join_some hs2)
          rw [hvl] at hvl'
          cases hvl'
          obtain ⟨l, vs, F0, rfl, eF, hl, t, nl⟩ := own_list o
          obtain ⟨F', oi⟩ := k2.dp R2 hk
          cases oi
          have A := rfOk_own (k1.ev E2) R2 hd
          have o1 := A.own
          rw [o1.pur hp] at o1
          obtain ⟨F3, t3, hF3⟩ := OwnA.put o1 j t
          refine ⟨l, vs, k, j, rfl, rfl, hl, by rw [t.len]; exact hj, ?_⟩
          obtain ⟨Fs3, R3, C3, n3⟩ := R2.wr (join_some hs2) hvl hl eF t3 (fun z => nl (hF3 _ z)) (fun a ha => .inl (hF3 a ha)) (Fd := []) (by simp)
          refine q σ _ Fs3 R3 ((E1.trans E2).trans ⟨C3, fun j a h => (n3 j a h).imp id (fun z => by cases z)⟩) (.refl _ _)
      · cases e
    · cases e
  · cases e1'
theorem ss_setIx {i : Nat} {x : Str} {ix : Expr} {p1 p2 : Pos} (hv : PE X (.Name x p1) (tVar i)) (hix : SimO X ix gb) (he : SimO X e ga)
    (ha : ∀ v, assign (.Subscript (.Name x p1) ix p2) X.env v = (do
      let ov ← holding [v] (eval (.Name x p1) X.env)
      let iv ← holding [v, ov] (eval ix X.env)
      standAt p2
      holding [v, ov, iv] (setItem ov iv v)
      release [v, ov, iv] []) := by intro _; rfl)
    (hs : swapsWithSole [.Subscript (.Name x p1) ix p2] e pos.line X.env = pure false := by rfl) (hw : swappedStores [.Subscript (.Name x p1) ix p2] e X.env = pure none := by rfl)
    (h1 : (assignEach [.Subscript (.Name x p1) ix p2] X.env).map (·.2) = [assign (.Subscript (.Name x p1) ix p2) X.env] := by rfl) : SimS X lk (.Assign [.Subscript (.Name x p1) ix p2] e pos) (sSetIx i gb ga) :=
  ss_setIxF (tsl_of hv) hix he ha hs hw h1
end
end Sim
namespace Sim
open PySem PySem.Spec L2
def lks : List Rf → List D → List (Nat × D)
  | .slot i :: rs, d :: ds => if pur d = true then lks rs ds else (i, d) :: lks rs ds
  | .val _ :: rs, _ :: ds => lks rs ds
  | _, _ => []
def lockS : List (Nat × D) → Sg → Sg
  | [], s => s
  | p :: l, s => lockS l (s.set p.1 none)
def unlockS : List (Nat × D) → Sg → Sg
  | [], s => s
  | p :: l, s => unlockS l (s.set p.1 (some p.2))
def nodupB : List Nat → Bool
  | [] => true
  | x :: l => !l.contains x && nodupB l
/-- what is closed, stands apart -/
structure HvS [Tb] [Vs] (σ : St) (i : Nat) (v : V) : Prop where
  get : σ[i]? = some (some v)
  fp : Vs.fp i = []
inductive Hid [Tb] [Vs] (K : PySem.W.Frag) (H : Hp) (σ : St) (Fs : Fp) : List (Nat × D) → List (List Addr) → Prop
  | nil : Hid K H σ Fs [] []
  | cons {i : Nat} {d : D} {v : V} {F : List Addr} {l : List (Nat × D)} {Gs : List (List Addr)} : HvS σ i v → Apart K H Fs d v F → (∀ G, G ∈ Gs → ∀ a, a ∈ F → a ∉ G) → Hid K H σ Fs l Gs → Hid K H σ Fs ((i, d) :: l) (F :: Gs)
/-- where what is closed comes from -/
def From (H0 : Hp) (Fs0 : Fp) : List (Nat × D) → List (List Addr) → Prop
  | [], [] => True
  | p :: l, F :: Gs => (∀ a, a ∈ F → a ∈ Fs0 p.1 ∨ H0 a = none) ∧ From H0 Fs0 l Gs
  | _, _ => False
section
variable [Tb] [Vs] {K : PySem.W.Frag} {H H1 H' H0 : Hp} {s s' : Sg} {σ σ' : St} {Fs Fs1 Fs' Fs0 : Fp} {l : List (Nat × D)} {Gs : List (List Addr)}
theorem Hid.ev (h : Hid K H σ Fs l Gs) (e : Ev H Fs H' Fs') (L : ∀ p, p ∈ l → σ'[p.1]? = σ[p.1]?) : Hid K H' σ' Fs' l Gs := by
  induction h with
  | nil => exact .nil
  | @cons i d v F l Gs hv A n _ ih =>
    exact .cons ⟨(L _ (List.mem_cons_self ..)).trans hv.get, hv.fp⟩ (A.ev e) n (ih fun p hp => L p (List.mem_cons_of_mem _ hp))
theorem Hid.evR {lk : Nat → Bool} (h : Hid K H σ Fs l Gs) (e : EvR lk H Fs H' Fs') (L : ∀ p, p ∈ l → σ'[p.1]? = σ[p.1]?) : Hid K H' σ' Fs' l Gs := by
  induction h with
  | nil => exact .nil
  | @cons i d v F l Gs hv A n _ ih =>
    refine .cons ⟨(L _ (List.mem_cons_self ..)).trans hv.get, hv.fp⟩ ⟨A.own.chg e.chg fun a ha ⟨i, hi⟩ => A.dis i a hi ha, fun i a hi ha => ?_⟩ n (ih fun p hp => L p (List.mem_cons_of_mem _ hp))
    rcases e.new i a hi with (q | q) | ⟨_, k, _, q⟩
    · exact A.dis i a q ha
    · obtain ⟨xs, z⟩ := A.own.mem a ha
      rw [q] at z; cases z
    · exact A.dis k a q ha
theorem Hid.mem (h : Hid K H σ Fs l Gs) : ∀ G, G ∈ Gs → ∀ a, a ∈ G → (∃ xs : MO, H a = some xs.ho) ∧ ∀ i, a ∉ Fs i := by
  induction h with
  | nil => intro G h; cases h
  | cons hv A n _ ih =>
    intro G h a ha
    rcases List.mem_cons.mp h with rfl | h
    · exact ⟨A.own.mem a ha, fun i hi => A.dis i a hi ha⟩
    · exact ih G h a ha
theorem From.trans (h : From H Fs l Gs) (e : ∀ i a, a ∈ Fs i → a ∈ Fs0 i ∨ H0 a = none) (t : ∀ a, H a = none → H0 a = none) : From H0 Fs0 l Gs := by
  induction l generalizing Gs with
  | nil => cases Gs with
    | nil => trivial
    | cons _ _ => exact h.elim
  | cons p l ih => cases Gs with
    | nil => exact h.elim
    | cons F Gs =>
      refine ⟨fun a ha => ?_, ih h.2⟩
      rcases h.1 a ha with z | z
      · exact e _ a z
      · exact .inr (t a z)
theorem nodupB_cons {x : Nat} {l : List Nat} (h : nodupB (x :: l) = true) : x ∉ l ∧ nodupB l = true := by
  simp only [nodupB, Bool.and_eq_true, Bool.not_eq_true', List.contains_eq_mem, decide_eq_false_iff_not] at h
  exact h
theorem RelS.lock (R : RelS K H s σ Fs) (hs : ∀ p, p ∈ l → s[p.1]? = some (some p.2)) (nd : nodupB (l.map (·.1)) = true) :
    ∃ Fs' Gs, RelS K H (lockS l s) σ Fs' ∧ Hid K H σ Fs' l Gs ∧ (∀ j a, a ∈ Fs' j → a ∈ Fs j) ∧ From H Fs l Gs := by
  induction l generalizing s Fs with
  | nil => exact ⟨Fs, [], R, .nil, fun _ _ h => h, trivial⟩
  | cons p l ih =>
    obtain ⟨n1, n2⟩ := nodupB_cons nd
    obtain ⟨v, hv, o⟩ := R.has p.1 p.2 (hs p (List.mem_cons_self ..))
    obtain ⟨Fs', Gs, R', hd, sub, fr⟩ := ih (R.drop p.1 (hs p (List.mem_cons_self ..))) (fun q hq => by
      rw [List.getElem?_set_ne]
      · exact hs q (List.mem_cons_of_mem _ hq)
      · intro e
        refine n1 ?_
        show p.1 ∈ _
        rw [e]
        exact List.mem_map_of_mem (f := fun x : Nat × D => x.1) hq) n2
    have sub2 : ∀ j a, a ∈ upF Fs p.1 [] j → a ∈ Fs j ∧ j ≠ p.1 := fun j a h => by
      unfold upF at h
      split at h
      · cases h
      · exact ⟨h, by assumption⟩
    refine ⟨Fs', Fs p.1 :: Gs, R', .cons ⟨hv, R.fp0 (hs p (List.mem_cons_self ..))⟩ ⟨o, fun i a hi ha => ?_⟩ (fun G hG a ha hb => ?_) hd, fun j a h => (sub2 j a (sub j a h)).1, fun a h => .inl h, fr.trans (fun i a h => .inl (sub2 i a h).1) fun _ h => h⟩
    · obtain ⟨h1, h2⟩ := sub2 i a (sub i a hi)
      exact h2 (R.dis i p.1 a h1 ha)
    · -- a closed one's places are another slot's
      have key : ∀ (l : List (Nat × D)) (Gs : List (List Addr)), From H (upF Fs p.1 []) l Gs → G ∈ Gs → ∃ i, a ∈ upF Fs p.1 [] i ∨ H a = none := fun l => by
        induction l with
        | nil => intro Gs h1 h2; cases Gs with
          | nil => cases h2
          | cons _ _ => exact h1.elim
        | cons q l ih => intro Gs h1 h2; cases Gs with
          | nil => cases h2
          | cons F Gs =>
            rcases List.mem_cons.mp h2 with rfl | h2
            · exact ⟨q.1, h1.1 a hb⟩
            · exact ih Gs h1.2 h2
      obtain ⟨i, hi | hi⟩ := key l Gs fr hG
      · obtain ⟨h1, h2⟩ := sub2 i a hi
        exact h2 (R.dis i p.1 a h1 ha)
      · obtain ⟨xs, w⟩ := o.mem a ha
        rw [hi] at w; cases w
theorem RelS.unlock (R : RelS K H s σ Fs) (hd : Hid K H σ Fs l Gs) (fr : From H0 Fs0 l Gs) :
    ∃ Fs', RelS K H (unlockS l s) σ Fs' ∧ ∀ j a, a ∈ Fs' j → a ∈ Fs j ∨ ((a ∈ Fs0 j ∨ H0 a = none) ∧ ∃ G, G ∈ Gs ∧ a ∈ G) := by
  induction l generalizing s Fs Gs with
  | nil =>
    cases hd
    exact ⟨Fs, R, fun _ _ h => .inl h⟩
  | cons p l ih =>
    cases hd with
    | @cons i d v F l Gs hv A n hd =>
      obtain ⟨Fs1, R1, n1⟩ := R.reput A i hv.get hv.fp
      have hd1 : Hid K H σ Fs1 l Gs := by
        clear ih R fr
        induction hd with
        | nil => exact .nil
        | @cons j d' v' F' l Gs hv' A' n' hd' ih' =>
          refine .cons hv' ⟨A'.own, fun k a hk ha => ?_⟩ n' (ih' fun G hG => n G (List.mem_cons_of_mem _ hG))
          rcases n1 k a hk with z | z
          · exact A'.dis k a z.1 ha
          · exact n F' (List.mem_cons_self ..) a z.1 ha
      obtain ⟨Fs', R', n2⟩ := ih (s := s.set i (some d)) R1 hd1 fr.2
      refine ⟨Fs', R', fun j a h => ?_⟩
      rcases n2 j a h with z | ⟨z, G, hG, ha⟩
      · rcases n1 j a z with w | w
        · exact .inl w.1
        · refine .inr ⟨?_, F, List.mem_cons_self .., w.1⟩
          rw [w.2]
          exact fr.1 a w.1
      · exact .inr ⟨z, G, List.mem_cons_of_mem _ hG, ha⟩
end
abbrev I := Sg → Res (List D × List (Nat × D))
structure WalkD (K : PySem.W.Frag) (J : It) (G : Hp → Prop) (es : List D) : Prop where
  goes : ∀ i H, i < es.length → G H → J.go i H
  stops : ∀ H, G H → J.stop es.length H
  yields : ∀ i H x H', i < es.length → G H → J.yld i H x H' → ∃ d, es[i]? = some d ∧ Same H H' ∧ Own K H' d x []
def tI [Tb] [Vs] (K : PySem.W.Frag) (g : I) : TI := fun σ H R => ∃ s Fs es l s', RelS K H s σ Fs ∧ g s = .ok (es, l) s' ∧
  ∀ J H1 Fs1 Gs (G : Hp → Prop), RelS K H1 s' σ Fs1 → Chg (InF Fs) H H1 → (∀ j a, a ∈ Fs1 j → a ∈ Fs j ∨ H a = none) → Hid K H1 σ Fs1 l Gs → From H Fs l Gs → WalkD K J G es →
    (∀ H2 Fs2, Ev H1 Fs1 H2 Fs2 → G H2) → R J H1
def SimI [Tb] [Vs] (X : Cx) (tg iter : Expr) (g : I) : Prop := PI X tg iter (tI X.K g)
theorem pi_imp {X : Cx} {tg e : Expr} {t t' : TI} (h : PI X tg e t) (i : ∀ σ H Q, t' σ H Q → t σ H Q) : PI X tg e t' := ⟨fun pins s σ H Q I q => h.run pins s σ H Q I (i σ H Q q)⟩
/-- from operands that stand: items -/
def mkI (itm : List D → Option (List D)) (g : AL) : I := fun s => (g s).bind fun rs s1 => match rds rs s1 with
  | none => .bad
  | some ds => match itm ds with
    | none => .bad
    | some es => if purs es = true ∧ nodupB ((lks rs ds).map (·.1)) = true then .ok (es, lks rs ds) (lockS (lks rs ds) s1) else .bad
section
variable [Tb] [Vs] {X : Cx} {K : PySem.W.Frag}
theorem lks_has {H : Hp} {s : Sg} {σ : St} {Fs : Fp} {rs : List Rf} {vs : List V} {Gs : List (List Addr)} (r : Rfs K H σ Fs rs vs Gs) : ∀ {ds : List D}, rds rs s = some ds → ∀ p, p ∈ lks rs ds → s[p.1]? = some (some p.2) := by
  induction r with
  | nil => intro ds e p h; cases e; simp [lks] at h
  | @val d v F rs vs Gs A n _ ih =>
    intro ds e p h
    unfold rds at e
    simp only [rd] at e
    split at e
    · cases e
    · rename_i es he
      cases e
      exact ih he p (by simpa [lks] using h)
  | @slot i v rs vs Gs hv _ ih =>
    intro ds e p h
    unfold rds at e
    simp only [rd] at e
    split at e
    · cases e
    · rename_i d hd
      split at e
      · cases e
      · rename_i es he
        cases e
        unfold lks at h
        split at h
        · exact ih he p h
        · rcases List.mem_cons.mp h with rfl | h
          · exact join_some hd
          · exact ih he p h
/-- the operands stand through what a loop does -/
theorem lks_stand {H H2 : Hp} {s : Sg} {σ : St} {Fs Fs1 Fs2 : Fp} (R : RelS K H s σ Fs) (sub : ∀ j a, a ∈ Fs1 j → a ∈ Fs j) (e : Ev H Fs1 H2 Fs2) {l : List (Nat × D)} {Gl : List (List Addr)} (hd : Hid K H σ Fs1 l Gl) :
    ∀ {rs : List Rf} {vs : List V} {Gs : List (List Addr)}, Rfs K H σ Fs rs vs Gs → ∀ {ds : List D}, rds rs s = some ds → (∀ p, p ∈ lks rs ds → p ∈ l) → RdA K H2 vs ds := by
  intro rs vs Gs r
  induction r with
  | nil => intro ds e _; cases e; exact .nil
  | @val d v F rs vs Gs A n _ ih =>
    intro ds e' h
    unfold rds at e'
    simp only [rd] at e'
    split at e'
    · cases e'
    · rename_i es he
      cases e'
      have A1 : Apart K H Fs1 d v F := ⟨A.own, fun i a hi ha => A.dis i a (sub i a hi) ha⟩
      exact .cons (A1.ev e).own (ih he fun p hp => h p (by simpa [lks] using hp))
  | @slot i v rs vs Gs hv _ ih =>
    intro ds e' h
    unfold rds at e'
    simp only [rd] at e'
    split at e'
    · cases e'
    · rename_i d hd0
      split at e'
      · cases e'
      · rename_i es he
        cases e'
        obtain ⟨v', hv', o⟩ := R.has i d (join_some hd0)
        rw [hv] at hv'
        cases hv'
        by_cases hp : pur d = true
        · rw [o.pur hp] at o
          refine .cons (o.chg e.chg fun _ z => by cases z) (ih he fun p hp' => h p ?_)
          unfold lks
          rw [if_pos hp]
          exact hp'
        · have hm : (i, d) ∈ l := h (i, d) (by unfold lks; rw [if_neg hp]; exact List.mem_cons_self ..)
          have key : ∀ {l : List (Nat × D)} {Gl : List (List Addr)}, Hid K H σ Fs1 l Gl → (i, d) ∈ l → ∃ F, Apart K H Fs1 d v F := fun {l Gl} q => by
            induction q with
            | nil => intro h; cases h
            | @cons j d' v' F l Gl hv' A n _ ih =>
              intro h
              rcases List.mem_cons.mp h with z | h
              · cases z
                have hv' := hv'.get
                rw [hv] at hv'
                cases hv'
                exact ⟨F, A⟩
              · exact ih h
          obtain ⟨F, A⟩ := key hd hm
          refine .cons (A.ev e).own (ih he fun p hp' => h p ?_)
          unfold lks
          rw [if_neg hp]
          exact List.mem_cons_of_mem _ hp'
/-- the rule of a walk over operands: J as the values say -/
theorem mkI_ok {itm : List D → Option (List D)} {g : AL} {σ : St} {H : Hp} {R : It → Hp → Prop} (h : tI K (mkI itm g) σ H R) {w : List V → Hp → (It → Hp → Prop) → Prop}
    (hw : ∀ vs ds es H R, RdA K H vs ds → itm ds = some es → purs es = true → (∀ J, WalkD K J (fun H2 => RdA K H2 vs ds) es → R J H) → w vs H R) : tA K g σ H fun vs H1 => w vs H1 R := by
  obtain ⟨s, Fs, es, l, s', R0, e, q⟩ := h
  obtain ⟨rs, s1, e1, e⟩ := bind_inv e
  refine ⟨s, Fs, rs, s1, R0, e1, fun vs H1 Fs1 Gs R1 E1 k1 n1 => ?_⟩
  split at e
  · cases e
  · rename_i ds hds
    split at e
    · cases e
    · rename_i es' hes
      split at e
      · rename_i hp
        cases e
        obtain ⟨Fs2, Gl, R2, hd, sub, fr⟩ := R1.lock (lks_has k1 hds) hp.2
        refine hw vs ds es H1 R (k1.dp R1 hds) hes hp.1 fun J W => ?_
        refine q J H1 Fs2 Gl _ R2 E1.chg (fun j a h => E1.new j a (sub j a h)) hd (fr.trans E1.new fun a h => E1.chg.there a h) W fun H2 Fs3 E => ?_
        exact lks_stand R1 sub E hd k1 hds fun p h => h
      · cases e
theorem purs_get {es : List D} (h : purs es = true) {i : Nat} {d : D} (e : es[i]? = some d) : pur d = true := by
  induction es generalizing i with
  | nil => simp at e
  | cons x es ih =>
    simp only [purs, Bool.and_eq_true] at h
    cases i with
    | zero => simp at e; rw [← e]; exact h.1
    | succ i => exact ih h.2 (by simpa using e)
theorem OwnA.at {H : Hp} {ds : List D} {vs : List V} {F : List Addr} (t : OwnA K H ds vs F) (p : purs ds = true) {i : Nat} {x : V} (e : vs[i]? = some x) : ∃ d, ds[i]? = some d ∧ Own K H d x [] := by
  have hl := t.len
  have hi : i < ds.length := by rw [← hl]; exact (List.getElem?_eq_some_iff.mp e).1
  obtain ⟨v, G, hv, o, _⟩ := t.get i ds[i] (List.getElem?_eq_getElem hi)
  rw [e] at hv
  cases hv
  have pp := purs_get p (List.getElem?_eq_getElem hi)
  rw [o.pur pp] at o
  exact ⟨_, List.getElem?_eq_getElem hi, o⟩
/-- plain: a list, a tuple, a list that never changes -/
def itP : List D → Option (List D)
  | [.list ds] => some ds
  | [.tuple ds] => some ds
  | [.dict [(.none, .list ds)]] => some ds
  | _ => none
def wP (K : PySem.W.Frag) : List V → Hp → (It → Hp → Prop) → Prop := fun vs H R => ∃ a, vs = [.ref a] ∧ ((∃ xs, SqL K H a xs) ∧ R (Itl K a) H ∨ (∃ xs, SqT K H a xs) ∧ R (Itt K a) H)
theorem rd_list {H : Hp} {a : Addr} {ds : List D} (h : RdA K H [.ref a] [.list ds]) : ∃ xs F, SqL K H a xs ∧ OwnA K H ds xs F := by
  cases h with
  | cons o _ =>
    cases o with
    | lst h t n => exact ⟨_, _, SqL.of h, t⟩
theorem rd_tup {H : Hp} {a : Addr} {ds : List D} (h : RdA K H [.ref a] [.tuple ds]) : ∃ xs F, SqT K H a xs ∧ OwnA K H ds xs F := by
  cases h with
  | cons o _ =>
    cases o with
    | tup h t => exact ⟨_, _, h.sq, t⟩
theorem rd_frz {H : Hp} {a : Addr} {ds : List D} (h : RdA K H [.ref a] [.dict [(.none, .list ds)]]) : ∃ xs F, SqL K H a xs ∧ OwnA K H ds xs F := by
  cases h with
  | cons o _ =>
    cases o with
    | frz h t => exact ⟨_, _, h.sq, t⟩
theorem walkD_l {a : Addr} {ds : List D} {G : Hp → Prop} (p : purs ds = true) (h : ∀ H, G H → ∃ xs F, SqL K H a xs ∧ OwnA K H ds xs F) : WalkD K (Itl K a) G ds := by
  refine ⟨fun i H hi g => ?_, fun H g => ?_, fun i H x H' hi g y => ?_⟩
  · obtain ⟨xs, F, hq, t⟩ := h H g
    have hl := t.len
    exact ⟨xs, xs[i]'(by omega), hq, List.getElem?_eq_getElem _⟩
  · obtain ⟨xs, F, hq, t⟩ := h H g
    have hl := t.len
    exact ⟨xs, hq, by omega⟩
  · obtain ⟨xs, F, hq, t⟩ := h H g
    obtain ⟨rfl, y⟩ := y
    obtain ⟨d, hd, o⟩ := t.at p (y xs hq)
    exact ⟨d, hd, Same.refl _, o⟩
theorem walkD_t {a : Addr} {ds : List D} {G : Hp → Prop} (p : purs ds = true) (h : ∀ H, G H → ∃ xs F, SqT K H a xs ∧ OwnA K H ds xs F) : WalkD K (Itt K a) G ds := by
  refine ⟨fun i H hi g => ?_, fun H g => ?_, fun i H x H' hi g y => ?_⟩
  · obtain ⟨xs, F, hq, t⟩ := h H g
    have hl := t.len
    exact ⟨xs, xs[i]'(by omega), hq, List.getElem?_eq_getElem _⟩
  · obtain ⟨xs, F, hq, t⟩ := h H g
    have hl := t.len
    exact ⟨xs, hq, by omega⟩
  · obtain ⟨xs, F, hq, t⟩ := h H g
    obtain ⟨rfl, y⟩ := y
    obtain ⟨d, hd, o⟩ := t.at p (y xs hq)
    exact ⟨d, hd, Same.refl _, o⟩
theorem wP_ok : ∀ (vs : List V) (ds es : List D) (H : Hp) (R : It → Hp → Prop), RdA K H vs ds → itP ds = some es → purs es = true → (∀ J, WalkD K J (fun H2 => RdA K H2 vs ds) es → R J H) → wP K vs H R := by
  intro vs ds es H R h e p q
  unfold itP at e
  split at e
  · cases e
    obtain ⟨x, F, rfl, o⟩ := h.one
    cases o with
    | lst h1 t n => exact ⟨_, rfl, .inl ⟨⟨_, SqL.of h1⟩, q _ (walkD_l p fun H2 g => rd_list g)⟩⟩
  · cases e
    obtain ⟨x, F, rfl, o⟩ := h.one
    cases o with
    | tup h1 t => exact ⟨_, rfl, .inr ⟨⟨_, h1.sq⟩, q _ (walkD_t p fun H2 g => rd_tup g)⟩⟩
  · cases e
    obtain ⟨x, F, rfl, o⟩ := h.one
    cases o with
    | frz h1 t => exact ⟨_, rfl, .inl ⟨⟨_, h1.sq⟩, q _ (walkD_l p fun H2 g => rd_frz g)⟩⟩
  · cases e
/-- over a list or a tuple -/
theorem pi_seq {tg e : Expr} {te : TE} (he : PE X e te) : PI X tg e (fun σ H R => te σ H fun x H1 => wP X.K [x] H1 R) := by
  refine ⟨fun pins s σ H R I h => ?_⟩
  -- the value is known only when it is there: both rules run on the same evaluation
  refine thn (he.run pins s σ H _ I h) fun v s1 ⟨x, H1, I1, r1, a, ex, q⟩ => ?_
  have ex' : x = V.ref a := by cases ex; rfl
  subst ex'
  rcases q with ⟨⟨xs, hq⟩, q⟩ | ⟨⟨xs, hq⟩, q⟩
  · cases r1
    obtain ⟨its, rv, p, hz⟩ := I1.list hq
    refine wpAny_pyIter_list p.isList ?_
    refine ⟨s1.heap.objs.size, [s1.heap.objs.size], _, _, H1, rfl, I1.kept (t' := s1.toks) fun b o e => Heap.get?_push_of_some _ e, turn_list a _, ⟨_, Heap.get?_push_size _ rfl, rfl, rfl⟩, fun b hb => ?_, q⟩
    have e : b = s1.heap.objs.size := by simpa using hb
    subst e
    exact I1.fpOk (Nat.le_refl _) (I1.hok.fresh (Nat.le_refl _))
  · cases r1
    obtain ⟨its, rv, p, hz⟩ := I1.tuple hq
    refine wpAny_pyIter_tuple (show s1.heap.IsTuple a its.toArray from p) ?_
    refine ⟨s1.heap.objs.size, [s1.heap.objs.size], _, _, H1, rfl, I1.kept (t' := s1.toks) fun b o e => Heap.get?_push_of_some _ e, turn_tuple a _, ⟨_, Heap.get?_push_size _ rfl, rfl, rfl⟩, fun b hb => ?_, q⟩
    have e : b = s1.heap.objs.size := by simpa using hb
    subst e
    exact I1.fpOk (Nat.le_refl _) (I1.hok.fresh (Nat.le_refl _))
theorem si_seq {tg e : Expr} {ga : O} (he : SimO X e ga) : SimI X tg e (mkI itP (aCons ga aNil)) :=
  pi_imp (pi_seq he) fun _ _ _ h => by have z := tA1 (mkI_ok h wP_ok); exact z
def rngD (lo : Int) (n : Nat) : List D := (List.range n).map fun i => .int (lo + (i : Nat))
def itR1 : List D → Option (List D)
  | [.int j] => if -1000000 < j ∧ j < 1000000 then some (rngD 0 j.toNat) else none
  | _ => none
def itR2 : List D → Option (List D)
  | [.int i, .int j] => if -1000000 < i ∧ i < 1000000 ∧ -1000000 < j ∧ j < 1000000 then some (rngD i (j - i).toNat) else none
  | _ => none
theorem rngD_len (lo : Int) (n : Nat) : (rngD lo n).length = n := by unfold rngD; simp
theorem walkD_r {lo : Int} {n : Nat} {G : Hp → Prop} : WalkD K (Itr lo n) G (rngD lo n) := by
  refine ⟨fun i H hi g => by rw [rngD_len] at hi; exact hi, fun H g => by rw [rngD_len]; exact Nat.le_refl _, fun i H x H' hi g y => ?_⟩
  obtain ⟨rfl, rfl⟩ := y
  rw [rngD_len] at hi
  refine ⟨.int (lo + (i : Nat)), ?_, Same.refl _, .int _⟩
  unfold rngD
  rw [List.getElem?_map, List.getElem?_range hi]
  rfl
theorem si_range1 {tg a : Expr} {ga : O} {p pos : Pos} (hg : Gl X "range") (hm : X.mg "range" = none) (ha : SimA X [a] (aCons ga aNil)) (hs : starEach [a] X.env = [(false, eval a X.env)] := by rfl) : SimI X tg (.Call (.Name "range" p) [a] [] pos) (mkI itR1 (aCons ga aNil)) := by
  refine pi_imp (pi_range1 hg hm ha hs) fun σ H R h => ?_
  exact mkI_ok h (w := fun vs H1 R => ∃ j : Int, vs = [.int j] ∧ -(2 ^ 62) ≤ j ∧ j < 2 ^ 62 ∧ R (Itr 0 j.toNat) H1) (fun vs ds es H R h e p q => by
    unfold itR1 at e
    split at e
    · obtain ⟨x, F, rfl, o⟩ := h.one
      cases o
      split at e
      · rename_i hj
        cases e
        exact ⟨_, rfl, by omega, by omega, q _ walkD_r⟩
      · cases e
    · cases e)
end
end Sim
namespace Sim
open PySem PySem.Spec L2
open Sem (wp)
theorem meets_enumerate_newB1 {v : Value} {o : Obj} {H : Heap → Prop} (B : Begins v o H) :
    Meets (Builtin.«enumerate.__new__» ⟨[.type "enumerate", v], []⟩) (fun _ R s => H s.heap ∧
      R (.ok (.ret (.ref (s.heap.push o).objs.size))) { s with heap := (s.heap.push o).push { cls := .type "enumerate", data := .fields #[.none, .bool false, .ref s.heap.objs.size, rawInt 0, .none, .none] } }) :=
  .of_wp fun prog w A R s h => by
    obtain ⟨hp, g, d, tk, os⟩ := s; obtain ⟨h1, h⟩ := h
    have hsub := sub_enumerate
    have q1 : ∀ {A' : Around} {E : Value → Shared → Prop} {Q : Value → Shared → Prop}, Q (.ref hp.objs.size) ⟨hp.push o, g, d, tk, os⟩ → wpAny (model prog w) A' (pyIter v) Q E ⟨hp, g, d, tk, os⟩ :=
      fun q => B.iter prog w _ _ ⟨hp, g, d, tk, os⟩ _ h1 q
    wp_walk using q1
    refine wpAny_stack_any fun st => wpAny_pure ?_
    split
    · rename_i c _ _ _ _ _
      cases (c == Value.type "enumerate")
      · wp_walk using q1
        exact ⟨_, rfl, h⟩
      · wp_walk using q1
        exact ⟨_, rfl, h⟩
    · wp_walk using q1
      exact ⟨_, rfl, h⟩
theorem enum_begins1 {prog : Program} {w : World} {A : Around} {E : Value → Shared → Prop} {s : Shared} {v : Value} {o : Obj} {H : Heap → Prop} {Q : Value → Shared → Prop} (B : Begins v o H) (h1 : H s.heap)
    (h : ∀ h', IsEnum h' (s.heap.objs.size + 1) s.heap.objs.size 0 .none → h'.get? s.heap.objs.size = some o → h'.objs.size = s.heap.objs.size + 2 →
      (∀ b o, s.heap.get? b = some o → h'.get? b = some o) → Q (.ref (s.heap.objs.size + 1)) { s with heap := h' }) :
    wpAny (model prog w) A (call (.type "enumerate") [v]) Q E s := by
  refine callType_new F.called_enumerate (by decide) (F.typeCall_enumerate_1 _) (F.newCall_enumerate_1 _) (fun obj => F.args_object_init_2 obj _) F.entry_enumerate_new
    (meets_enumerate_newB1 B) ⟨h1, ?_⟩
  have hz : (s.heap.push o).objs.size = s.heap.objs.size + 1 := Heap.size_push ..
  show _ ∧ _
  rw [hz]
  have he : IsEnum ((s.heap.push o).push { cls := .type "enumerate", data := .fields #[.none, .bool false, .ref s.heap.objs.size, rawInt 0, .none, .none] }) (s.heap.objs.size + 1) s.heap.objs.size 0 .none := by
    have := Heap.get?_push_size (s.heap.push o) (o := { cls := .type "enumerate", data := .fields #[.none, .bool false, .ref s.heap.objs.size, rawInt 0, .none, .none] }) rfl
    rw [hz] at this; exact this
  refine ⟨⟨_, he, rfl⟩, h _ he (Heap.get?_push_of_some _ (Heap.get?_push_size _ B.free)) (by rw [Heap.size_push, hz]) fun b o x => Heap.get?_push_of_some _ (Heap.get?_push_of_some _ x)⟩
def Sq2 (K : PySem.W.Frag) (H : Hp) (k : Bool) (a : Addr) (xs : List V) : Prop := match k with
  | true => SqL K H a xs
  | false => SqT K H a xs
def SrcH (h : Heap) (k : Bool) (a : Addr) (items : Array Value) : Prop := match k with
  | true => h.IsList a items
  | false => h.IsTuple a items
def ItH (h : Heap) (k : Bool) (it a : Addr) (i : Nat) : Prop := match k with
  | true => h.IsListIter it a i
  | false => h.IsTupleIter it a i
theorem sq2_src {X : Cx} {pins : List (Addr × Obj)} {σ : St} {H : Hp} {s : Shared} {k : Bool} {a : Addr} {xs : List V} (I : Inv X pins σ H s) (h : Sq2 X.K H k a xs) : ∃ its : List Value, Vals xs its ∧ SrcH s.heap k a its.toArray ∧ xs.length ≤ sizeLine := by
  cases k with
  | true =>
    obtain ⟨its, r, p, z⟩ := I.list h
    exact ⟨its, r, p.isList, z⟩
  | false =>
    obtain ⟨its, r, p, z⟩ := I.tuple h
    exact ⟨its, r, p, z⟩
theorem sq2_inj {X : Cx} {pins : List (Addr × Obj)} {σ : St} {H : Hp} {s : Shared} {k : Bool} {a : Addr} {xs ys : List V} (I : Inv X pins σ H s) (h : Sq2 X.K H k a xs) (h2 : Sq2 X.K H k a ys) : xs = ys := by
  cases k with
  | true => exact I.list_inj h h2
  | false => exact I.tuple_inj h h2
theorem itH_obj {h : Heap} {k : Bool} {it a : Addr} {i : Nat} (st : ItH h k it a i) : ∃ o, h.get? it = some o ∧ ∀ v, o.data ≠ .cell v := by
  cases k with
  | true =>
    obtain ⟨o, ho, hc, hd⟩ := st
    exact ⟨o, ho, fun v q => by rw [hd] at q; cases q⟩
  | false =>
    obtain ⟨o, ho, hc, hd⟩ := st
    exact ⟨o, ho, fun v q => by rw [hd] at q; cases q⟩
theorem itH_at {h h' : Heap} {k : Bool} {it a : Addr} {i : Nat} (st : ItH h k it a i) (q : ∀ o, h.get? it = some o → h'.get? it = some o) : ItH h' k it a i := by
  cases k with
  | true => exact Heap.IsListIter.at st q
  | false => exact Heap.IsTupleIter.at st q
theorem itH_lt {h : Heap} {k : Bool} {it a : Addr} {i : Nat} (st : ItH h k it a i) : it < h.objs.size := by
  obtain ⟨o, ho, _⟩ := itH_obj st
  exact Heap.lt_size ho
theorem src_apart {h : Heap} {k k2 : Bool} {it b a : Addr} {i : Nat} {items : Array Value} (st : ItH h k it b i) (ht : SrcH h k2 a items) : a ≠ it := by
  rintro rfl
  have e1 : ∃ o, h.get? a = some o ∧ (o.cls = .type "list_iterator" ∨ o.cls = .type "tuple_iterator") := by
    cases k with
    | true => obtain ⟨o, ho, hc, _⟩ := st; exact ⟨o, ho, .inl hc⟩
    | false => obtain ⟨o, ho, hc, _⟩ := st; exact ⟨o, ho, .inr hc⟩
  have e2 : ∃ o, h.get? a = some o ∧ (o.cls = .type "list" ∨ o.cls = .type "tuple") := by
    cases k2 with
    | true => obtain ⟨o, ho, hc, _⟩ := ht; exact ⟨o, ho, .inl hc⟩
    | false => obtain ⟨o, ho, hc, _⟩ := ht; exact ⟨o, ho, .inr hc⟩
  obtain ⟨o, ho, hc⟩ := e1
  obtain ⟨o', ho', hc'⟩ := e2
  rw [ho] at ho'
  cases ho'
  rcases hc with hc | hc <;> rcases hc' with hc' | hc' <;> rw [hc] at hc' <;> injection hc' with z <;> exact absurd z (by decide)
theorem src_cls {h : Heap} {k : Bool} {a : Addr} {items : Array Value} (ht : SrcH h k a items) {o : Obj} (ho : h.get? a = some o) : o.cls = .type "list" ∨ o.cls = .type "tuple" := by
  cases k with
  | true => obtain ⟨o', ho', hc, _⟩ := ht; rw [ho] at ho'; cases ho'; exact .inl hc
  | false => obtain ⟨o', ho', hc, _⟩ := ht; rw [ho] at ho'; cases ho'; exact .inr hc
theorem draws_src {prog : Program} {w : World} {A : Around} (hh : A.handled = none) (k : Bool) (it a : Addr) (hne : a ≠ it) (items : Array Value) :
    Draws prog w A it [it, a] items.size (fun i v => items[i]? = some v) (fun i h => ItH h k it a i ∧ SrcH h k a items) := by
  cases k with
  | true => exact Draws.list hh it a hne items
  | false => exact Draws.tuple hh it a hne items
theorem begins_src (k : Bool) (a : Addr) (items : Array Value) : ∃ o, Begins (.ref a) o (fun h => SrcH h k a items) ∧ ∀ (h : Heap) (it : Addr), h.get? it = some o → ItH h k it a 0 := by
  cases k with
  | true => exact ⟨_, begins_list a items, fun h it e => ⟨_, e, rfl, rfl⟩⟩
  | false => exact ⟨_, begins_tuple a items, fun h it e => ⟨_, e, rfl, rfl⟩⟩
def IteA (K : PySem.W.Frag) (k : Bool) (a : Addr) : It :=
  ⟨fun i H => ∃ (xs : List V) (x : V), Sq2 K H k a xs ∧ xs[i]? = some x, fun i H v H' => ∃ T o x, v = .ref T ∧ H T = none ∧ o.dict = none ∧ H' = upd H T (.frz o (.tup [.int (i : Nat), x])) ∧ ∀ xs, Sq2 K H k a xs → xs[i]? = some x, fun i H => ∃ xs : List V, Sq2 K H k a xs ∧ xs.length = i⟩
theorem enum_apart {h : Heap} {k : Bool} {e a : Addr} {i : Addr} {c : Int} {old : Value} {items : Array Value} (he : IsEnum h e i c old) (ht : SrcH h k a items) : e ≠ a := by
  rintro rfl
  have he' : h.get? e = some _ := he
  rcases src_cls ht he' with z | z <;> injection z with z <;> exact absurd z (by decide)
theorem turn_enumA {P : Program} {w : World} {K : PySem.W.Frag} {elts : List Expr} {kk : Nat} {tpos : Pos} (k : Bool) (a e it : Addr) :
    Turn P w K (.Tuple elts kk tpos) (IteA K k a) [e, it] e (fun i h => (∃ old, IsEnum h e it ((i : Nat) : Int) old) ∧ ItH h k it a i ∧ e ≠ it) where
  mem := by simp
  obj := fun i h st b hb => by
    obtain ⟨⟨old, he⟩, hi, _⟩ := st
    have e' : b = e ∨ b = it := by simpa using hb
    rcases e' with z | z
    · rw [z]; exact ⟨_, he, fun v q => nomatch q⟩
    · rw [z]; exact itH_obj hi
  keep := fun i h h' st k => let ⟨⟨old, he⟩, hi, hne⟩ := st; ⟨⟨old, k e (by simp) _ he⟩, itH_at hi fun o q => k it (by simp) o q, hne⟩
  item := by
    intro X hP hw hK hc i pins s σ H E I hf st hg
    subst hP hw hK
    obtain ⟨⟨old, he⟩, hit, hne⟩ := st
    obtain ⟨xs, x, hq, hx⟩ := hg
    obtain ⟨its, rv, ht, hz⟩ := sq2_src I hq
    obtain ⟨u, hu, ru⟩ := rv.get hx
    have hel : e < s.heap.objs.size := Heap.lt_size he
    have hil := itH_lt hit
    have hai := src_apart hit ht
    have hea := enum_apart he ht
    have hh : X.A.in1.handled = none := I.ok.hd hc
    have hlt : i < its.toArray.size := by
      have := (List.getElem?_eq_some_iff.mp hu).1
      simpa using this
    refine wpAny_pyNext_enum_itemC (draws_src hh k it a hai its.toArray) he ⟨hit, ht⟩ hlt hne (by simp [hne, hea]) fun x' h' tk hP ho hst hT hsz hk => ?_
    have hxu : x' = u := by
      have q : its.toArray[i]? = some u := by simpa using hu
      rw [q] at hP
      exact (Option.some.inj hP).symm
    subst hxu
    refine ⟨_, rfl, wpAny_letOwnedTupleGo_enum (s := { s with heap := h', toks := tk + 1 }) ho fun h'' he' sb => ?_⟩
    have hT2 : h''.get? s.heap.objs.size = some { cls := .type "tuple", data := .seq #[.int i tk, x'] } := (sb.2 _ (Nat.ne_of_gt hel)).trans hT
    have new : ObjOk X.prog X.w (upd H s.heap.objs.size (.frz { cls := .type "tuple", data := .seq #[.int i tk, x'] } (.tup [.int (i : Nat), x]))) h'' s.heap.objs.size (.frz { cls := .type "tuple", data := .seq #[.int i tk, x'] } (.tup [.int (i : Nat), x])) :=
      ⟨hT2, by show 2 ≤ sizeLine; decide, [.int i tk, x'], .cons ⟨_, rfl⟩ (.cons ru .nil), ⟨_, hT2, rfl, _, rfl⟩⟩
    have I1 : Inv X pins σ (upd H s.heap.objs.size (.frz { cls := .type "tuple", data := .seq #[.int i tk, x'] } (.tup [.int (i : Nat), x]))) { s with heap := h'', toks := tk + 1 } :=
      I.turnedNew (ch := [e, it]) (fun b ob hb q => (sb.2 b (fun z => hb (by simp [z]))).trans (hk b ob (fun z => hb (by simp [z])) (fun z => hb (by simp [z])) q)) hf (Nat.le_refl _) new
    refine ⟨.ref s.heap.objs.size, _, I1, rfl, ⟨_, _, x, rfl, I.hok.fresh (Nat.le_refl _), rfl, rfl, fun ys hy => by rw [sq2_inj I hy hq]; exact hx⟩, ⟨⟨x', ?_⟩, itH_at hst.1 fun o q => (sb.2 it (Ne.symm hne)).trans q, hne⟩, fun b hb => ?_⟩
    · have e1 : ((i + 1 : Nat) : Int) = (i : Int) + 1 := by omega
      rw [e1]; exact he'
    · have hb' : b < s.heap.objs.size := by
        have e' : b = e ∨ b = it := by simpa using hb
        rcases e' with z | z
        · rw [z]; exact hel
        · rw [z]; exact hil
      rw [upd_ne (Nat.ne_of_lt hb')]
      exact (hf b hb).1
  done := by
    intro X hP hw hK hc i pins s σ H E I hf st hg
    subst hP hw hK
    obtain ⟨⟨old, he⟩, hit, hne⟩ := st
    obtain ⟨xs, hq, hx⟩ := hg
    obtain ⟨its, rv, ht, hz⟩ := sq2_src I hq
    obtain ⟨f0, f1, f2, f3, f4, f5⟩ := hf it (by simp)
    have hl := rv.length
    have hai := src_apart hit ht
    have hh : X.A.in1.handled = none := I.ok.hd hc
    have hi : i = its.toArray.size := by rw [List.size_toArray]; omega
    subst hi
    exact wpAny_pyNext_enum_endD (draws_src hh k it a hai its.toArray) he ⟨hit, ht⟩ fun h' eb => ⟨rfl, I.turned (t' := s.toks) (fun b o hb q => eb b o hb q) f0 f1 f3 f4 f5⟩
  self := fun A i s Q E st h => let ⟨⟨_, he⟩, _⟩ := st; wpAny_pyIter_enum he h
def iEnumA (K : PySem.W.Frag) (ta : TA) : TI := fun σ H R => ta σ H fun vs H1 => ∃ k a xs, vs = [.ref a] ∧ Sq2 K H1 k a xs ∧ R (IteA K k a) H1
theorem pi_enumA {X : Cx} {e : Expr} {ta : TA} {p pos tpos : Pos} {elts : List Expr} {kk : Nat} (hg : Gl X "enumerate") (hm : X.mg "enumerate" = none) (ha : PA X [e] ta) (hs : starEach [e] X.env = [(false, eval e X.env)] := by rfl) :
    PI X (.Tuple elts kk tpos) (.Call (.Name "enumerate" p) [e] [] pos) (iEnumA X.K ta) := by
  refine ⟨fun pins s σ H R I h => ?_⟩
  refine PyProof.Rows.Call_ (ld_blt I hg hm PyProof.Rows.boot_enumerate (PyProof.Rows.callWith_type1 (thn (ha.run pos pins s σ H _ I h) fun us s1 ⟨vs, H1, I1, r1, q1⟩ => ?_) hs rfl))
  obtain ⟨k, a, xs, ex, hq, q⟩ := q1
  subst ex
  cases r1 with
  | cons r rr =>
    cases rr
    cases r
    have fin : ∀ b, b ∈ [s1.heap.objs.size + 1, s1.heap.objs.size] → FpOk X pins H1 b := fun b hb => by
      have e' : b = s1.heap.objs.size + 1 ∨ b = s1.heap.objs.size := by simpa using hb
      have hle : s1.heap.objs.size ≤ b := by
        rcases e' with z | z
        · rw [z]; exact Nat.le_add_right _ _
        · rw [z]; exact Nat.le_refl _
      exact I1.fpOk hle (I1.hok.fresh hle)
    obtain ⟨its, rv, ht, hz⟩ := sq2_src I1 hq
    obtain ⟨o, B, hB⟩ := begins_src k a its.toArray
    refine enum_begins1 B ht fun h' he hit hsz hk => wpAny_pyIter_enum he ?_
    have I2 : Inv X pins σ H1 { s1 with heap := h' } := I1.kept (t' := s1.toks) hk
    exact ⟨s1.heap.objs.size + 1, [s1.heap.objs.size + 1, s1.heap.objs.size], _, _, H1, rfl, I2, turn_enumA k a (s1.heap.objs.size + 1) s1.heap.objs.size, ⟨⟨.none, he⟩, hB _ _ hit, Nat.succ_ne_self _⟩, fin, q⟩
def ItzA (K : PySem.W.Frag) (k l : Bool) (a b : Addr) : It :=
  ⟨fun i H => ∃ (xs ys : List V) (x y : V), Sq2 K H k a xs ∧ Sq2 K H l b ys ∧ xs[i]? = some x ∧ ys[i]? = some y,
    fun i H v H' => ∃ T o x y, v = .ref T ∧ H T = none ∧ o.dict = none ∧ H' = upd H T (.frz o (.tup [x, y])) ∧ (∀ xs, Sq2 K H k a xs → xs[i]? = some x) ∧ ∀ ys, Sq2 K H l b ys → ys[i]? = some y,
    fun i H => ∃ xs ys : List V, Sq2 K H k a xs ∧ Sq2 K H l b ys ∧ i = min xs.length ys.length⟩
def ZSt (h : Heap) (k l : Bool) (z TI TO i1 i2 a b : Addr) (f0 : Value) (i : Nat) : Prop :=
  IsZip h z TI TO f0 ∧ IsTupOf2 h TI (.ref i1) (.ref i2) ∧ (∃ x y, IsTupOf2 h TO x y) ∧ ItH h k i1 a i ∧ ItH h l i2 b i
structure ZAp (z TI TO i1 i2 : Addr) : Prop where
  TIz : TI ≠ z
  TOz : TO ≠ z
  TITO : TI ≠ TO
  TIi1 : TI ≠ i1
  TIi2 : TI ≠ i2
  zi1 : z ≠ i1
  zi2 : z ≠ i2
  Ti1 : TO ≠ i1
  Ti2 : TO ≠ i2
  ii : i1 ≠ i2
theorem zap (n : Nat) : ZAp (n + 4) (n + 2) (n + 3) n (n + 1) := by
  constructor <;> (intro e; have e' : (_ : Nat) = _ := e; omega)
theorem zsep {h : Heap} {k l : Bool} {z TI TO i1 i2 a b : Addr} {f0 : Value} {i : Nat} {xs ys : Array Value} (D : ZAp z TI TO i1 i2) (st : ZSt h k l z TI TO i1 i2 a b f0 i) (h1 : SrcH h k a xs) (h2 : SrcH h l b ys) (hTO : TO ≠ a ∧ TO ≠ b) : ZipSep2 z TI TO i1 i2 [i1, a] [i2, b] := by
  have hz : h.get? z = some _ := st.1
  have za : ∀ {k a} {xs : Array Value}, SrcH h k a xs → z ≠ a := fun {k a xs} hh e => by
    subst e
    rcases src_cls hh hz with w | w <;> injection w with w <;> exact absurd w (by decide)
  have ia := src_apart st.2.2.2.1 h2
  have ib := src_apart st.2.2.2.2 h1
  exact ⟨D.TIz, D.TOz, D.TITO, D.TIi1, by simp, by simp [D.zi1, za h1], by simp [D.Ti1, hTO.1], D.TIi2, by simp, by simp [D.zi2, za h2], by simp [D.Ti2, hTO.2], by simp [D.ii, ia.symm], by simp [D.ii.symm, ib.symm]⟩
/-- the source's place isn't the iterator's own -/
theorem src_ne {X : Cx} {pins : List (Addr × Obj)} {H : Hp} {k : Bool} {a : Addr} {xs : List V} {T : Addr} (hf : FpOk X pins H T) (hq : Sq2 X.K H k a xs) {s : Shared} {σ : St} (I : Inv X pins σ H s) : T ≠ a := by
  rintro rfl
  have n := hf.1
  have key : ∀ {u : HO}, ¬ Rd H T u := fun {u} r => by
    rcases r with r | ⟨o, r⟩
    · rw [n] at r; cases r
    · rw [n] at r; cases r
  have kk : ∀ {o : Obj}, X.K.lookup T = some o → False := fun {o} hk => by
    have e1 : X.base.get? T = some o := I.ok.mod.kin T o hk
    have e2 := Heap.lt_size e1
    rcases hf.2.2.2.1 with z | z
    · exact I.ok.noex T o e1 z
    · exact absurd (Nat.lt_of_lt_of_le e2 (Nat.le_trans I.ok.bsz z)) (Nat.lt_irrefl _)
  cases k with
  | true =>
    rcases hq with r | ⟨o, _, _, hk, _⟩
    · exact key r
    · exact kk hk
  | false =>
    rcases hq with r | ⟨o, _, _, hk, _⟩
    · exact key r
    · exact kk hk
theorem turn_zipA {P : Program} {w : World} {K : PySem.W.Frag} {elts : List Expr} {kk : Nat} {tpos : Pos} (k l : Bool) {z TI TO i1 i2 : Addr} (a b : Addr) (D : ZAp z TI TO i1 i2) :
    Turn P w K (.Tuple elts kk tpos) (ItzA K k l a b) [z, TI, TO, i1, i2] z (fun i h => ZSt h k l z TI TO i1 i2 a b .none i) where
  mem := by simp
  obj := fun i h st c hc => by
    obtain ⟨hz, hTI, ⟨x, y, hTO⟩, h1, h2⟩ := st
    have e' : c = z ∨ c = TI ∨ c = TO ∨ c = i1 ∨ c = i2 := by simpa using hc
    rcases e' with q | q | q | q | q
    · rw [q]; exact ⟨_, hz, fun v q => nomatch q⟩
    · rw [q]; exact ⟨_, hTI, fun v q => nomatch q⟩
    · rw [q]; exact ⟨_, hTO, fun v q => nomatch q⟩
    · rw [q]; exact itH_obj h1
    · rw [q]; exact itH_obj h2
  keep := fun i h h' st k => by
    obtain ⟨hz, hTI, ⟨x, y, hTO⟩, h1, h2⟩ := st
    exact ⟨k z (by simp) _ hz, k TI (by simp) _ hTI, ⟨x, y, k TO (by simp) _ hTO⟩, itH_at h1 fun o q => k i1 (by simp) o q, itH_at h2 fun o q => k i2 (by simp) o q⟩
  item := by
    intro X hP hw hK hc i pins s σ H E I hf st hg
    subst hP hw hK
    obtain ⟨xs, ys, x, y, hqx, hqy, hx, hy⟩ := hg
    obtain ⟨its, rv, p, _⟩ := sq2_src I hqx
    obtain ⟨its2, rv2, p2, _⟩ := sq2_src I hqy
    obtain ⟨u, hu, ru⟩ := rv.get hx
    obtain ⟨u2, hu2, ru2⟩ := rv2.get hy
    have S := zsep D st p p2 ⟨src_ne (hf TO (by simp)) hqx I, src_ne (hf TO (by simp)) hqy I⟩
    obtain ⟨hz, hTI, ⟨x0, y0, hTO⟩, h1, h2⟩ := st
    have hzl : z < s.heap.objs.size := Heap.lt_size hz
    have hh : X.A.in1.handled = none := I.ok.hd hc
    have lt1 : i < its.toArray.size := by have := (List.getElem?_eq_some_iff.mp hu).1; simpa using this
    have lt2 : i < its2.toArray.size := by have := (List.getElem?_eq_some_iff.mp hu2).1; simpa using this
    refine wpAny_pyNext_zipD2_item S (draws_src hh k i1 a (src_apart h1 p) its.toArray) (draws_src hh l i2 b (src_apart h2 p2) its2.toArray) hz hTI hTO ⟨h1, p⟩ ⟨h2, p2⟩ lt1 lt2 fun v1 v2 h' tk q1 q2 z' TO' st1 st2 hT hsz hk => ?_
    have e1 : v1 = u := by
      have q : its.toArray[i]? = some u := by simpa using hu
      rw [q] at q1; exact (Option.some.inj q1).symm
    have e2 : v2 = u2 := by
      have q : its2.toArray[i]? = some u2 := by simpa using hu2
      rw [q] at q2; exact (Option.some.inj q2).symm
    subst e1 e2
    refine ⟨_, rfl, wpAny_letOwnedTupleGo_zip (s := { s with heap := h', toks := tk }) z' fun h'' z'' sb => ?_⟩
    have hT2 : h''.get? s.heap.objs.size = some { cls := .type "tuple", data := .seq #[v1, v2] } := (sb.2 _ (Nat.ne_of_gt hzl)).trans hT
    have new : ObjOk X.prog X.w (upd H s.heap.objs.size (.frz { cls := .type "tuple", data := .seq #[v1, v2] } (.tup [x, y]))) h'' s.heap.objs.size (.frz { cls := .type "tuple", data := .seq #[v1, v2] } (.tup [x, y])) :=
      ⟨hT2, by show 2 ≤ sizeLine; decide, [v1, v2], .cons ru (.cons ru2 .nil), ⟨_, hT2, rfl, _, rfl⟩⟩
    have I1 : Inv X pins σ (upd H s.heap.objs.size (.frz { cls := .type "tuple", data := .seq #[v1, v2] } (.tup [x, y]))) { s with heap := h'', toks := tk } :=
      I.turnedNew (ch := [z, TI, TO, i1, i2]) (fun c o hb q => (sb.2 c (fun q' => hb (by simp [q']))).trans (hk c o (fun q' => hb (by simp [q'])) (fun q' => hb (by simp [q'])) (fun q' => hb (by simp [q'])) (fun q' => hb (by simp [q'])) q)) hf (Nat.le_refl _) new
    refine ⟨.ref s.heap.objs.size, _, I1, rfl, ⟨_, _, x, y, rfl, I.hok.fresh (Nat.le_refl _), rfl, rfl, fun l hl => by rw [sq2_inj I hl hqx]; exact hx, fun l hl => by rw [sq2_inj I hl hqy]; exact hy⟩, ⟨z'', ?_, ⟨v1, v2, ?_⟩, ?_, ?_⟩, fun c hcm => ?_⟩
    · exact (sb.2 _ D.TIz).trans (hk _ _ D.TIz D.TITO D.TIi1 D.TIi2 hTI)
    · exact (sb.2 _ D.TOz).trans TO'
    · exact itH_at st1.1 fun o q => (sb.2 _ D.zi1.symm).trans q
    · exact itH_at st2.1 fun o q => (sb.2 _ D.zi2.symm).trans q
    · have hlt : c < s.heap.objs.size := by
        have e' : c = z ∨ c = TI ∨ c = TO ∨ c = i1 ∨ c = i2 := by simpa using hcm
        rcases e' with q | q | q | q | q
        · rw [q]; exact hzl
        · rw [q]; exact Heap.lt_size hTI
        · rw [q]; exact Heap.lt_size hTO
        · rw [q]; exact itH_lt h1
        · rw [q]; exact itH_lt h2
      rw [upd_ne (Nat.ne_of_lt hlt)]
      exact (hf c hcm).1
  done := by
    intro X hP hw hK hc i pins s σ H E I hf st hg
    subst hP hw hK
    obtain ⟨xs, ys, hqx, hqy, hend⟩ := hg
    obtain ⟨its, rv, p, _⟩ := sq2_src I hqx
    obtain ⟨its2, rv2, p2, _⟩ := sq2_src I hqy
    have S := zsep D st p p2 ⟨src_ne (hf TO (by simp)) hqx I, src_ne (hf TO (by simp)) hqy I⟩
    obtain ⟨hz, hTI, ⟨x0, y0, hTO⟩, h1, h2⟩ := st
    have hh : X.A.in1.handled = none := I.ok.hd hc
    have l1 := rv.length
    have l2 := rv2.length
    exact wpAny_pyNext_zipD2_end S (draws_src hh k i1 a (src_apart h1 p) its.toArray) (draws_src hh l i2 b (src_apart h2 p2) its2.toArray) hz hTI hTO ⟨h1, p⟩ ⟨h2, p2⟩ (by simp; omega) (by simp; omega) (by simp; omega)
      fun h' tk hk => ⟨rfl, I.turnedL (t' := tk) (ch := [z, TI, TO, i1, i2]) (fun c o hb q => hk c o (fun q' => hb (by simp [q'])) (fun q' => hb (by simp [q'])) (fun q' => hb (by simp [q'])) (fun q' => hb (by simp [q'])) q) hf⟩
  self := fun A i s Q E st h => wpAny_pyIter_zip st.1 h
def iZipA (K : PySem.W.Frag) (ta : TA) : TI := fun σ H R => ta σ H fun vs H1 => ∃ k l a b xs ys, vs = [.ref a, .ref b] ∧ Sq2 K H1 k a xs ∧ Sq2 K H1 l b ys ∧ R (ItzA K k l a b) H1
theorem pi_zipA {X : Cx} {e e2 : Expr} {ta : TA} {p pos tpos : Pos} {elts : List Expr} {kk : Nat} (hg : Gl X "zip") (hm : X.mg "zip" = none) (ha : PA X [e, e2] ta)
    (hs : starEach [e, e2] X.env = (false, eval e X.env) :: starEach [e2] X.env := by rfl) (hpl : (backTo pos (starEach [e2] X.env)).any (·.1) = false := by rfl) :
    PI X (.Tuple elts kk tpos) (.Call (.Name "zip" p) [e, e2] [] pos) (iZipA X.K ta) := by
  refine ⟨fun pins s σ H R I h => ?_⟩
  refine PyProof.Rows.Call_ (ld_blt I hg hm PyProof.Rows.boot_zip (PyProof.Rows.callWith_type1 (thn (ha.run pos pins s σ H _ I h) fun us s1 ⟨vs, H1, I1, r1, q1⟩ => ?_) hs hpl))
  obtain ⟨k, l, a, b, xs, ys, ex, hqx, hqy, q⟩ := q1
  subst ex
  cases r1 with
  | cons r rr =>
    cases rr with
    | cons r' rr =>
      cases rr
      cases r
      cases r'
      have fresh5 : ∀ c, c ∈ [s1.heap.objs.size + 4, s1.heap.objs.size + 2, s1.heap.objs.size + 3, s1.heap.objs.size, s1.heap.objs.size + 1] → FpOk X pins H1 c := fun c hcm => by
        have e' : c = s1.heap.objs.size + 4 ∨ c = s1.heap.objs.size + 2 ∨ c = s1.heap.objs.size + 3 ∨ c = s1.heap.objs.size ∨ c = s1.heap.objs.size + 1 := by simpa using hcm
        have hle : s1.heap.objs.size ≤ c := by omega
        exact I1.fpOk hle (I1.hok.fresh hle)
      obtain ⟨its, rv, p1, _⟩ := sq2_src I1 hqx
      obtain ⟨its2, rv2, p2, _⟩ := sq2_src I1 hqy
      obtain ⟨o1, B1, hB1⟩ := begins_src k a its.toArray
      obtain ⟨o2, B2, hB2⟩ := begins_src l b its2.toArray
      refine zip_begins2 B1 B2 p1 p2 fun h' hz hTI hTO h1 h2 hsz hk => wpAny_pyIter_zip hz ?_
      have I2 : Inv X pins σ H1 { s1 with heap := h' } := I1.kept (t' := s1.toks) hk
      exact ⟨s1.heap.objs.size + 4, [s1.heap.objs.size + 4, s1.heap.objs.size + 2, s1.heap.objs.size + 3, s1.heap.objs.size, s1.heap.objs.size + 1], _, _, H1, rfl, I2,
        turn_zipA k l a b (zap s1.heap.objs.size), ⟨hz, hTI, ⟨_, _, hTO⟩, hB1 _ _ h1, hB2 _ _ h2⟩, fresh5, q⟩
def enumD : Nat → List D → List D
  | _, [] => []
  | n, d :: ds => .tuple [.int (n : Int), d] :: enumD (n + 1) ds
def zipD : List D → List D → List D
  | d :: ds, e :: es => .tuple [d, e] :: zipD ds es
  | _, _ => []
def itE : List D → Option (List D)
  | [.list ds] => some (enumD 0 ds)
  | [.tuple ds] => some (enumD 0 ds)
  | [.dict [(.none, .list ds)]] => some (enumD 0 ds)
  | _ => none
def itZ : List D → Option (List D)
  | [.list ds, .list es] => some (zipD ds es)
  | [.tuple ds, .tuple es] => some (zipD ds es)
  | [.list ds, .tuple es] => some (zipD ds es)
  | [.tuple ds, .list es] => some (zipD ds es)
  | _ => none
theorem enumD_len : ∀ (n : Nat) (ds : List D), (enumD n ds).length = ds.length
  | _, [] => rfl
  | n, _ :: ds => by rw [enumD, List.length_cons, List.length_cons, enumD_len (n + 1) ds]
theorem enumD_get : ∀ (n : Nat) (ds : List D) (i : Nat) (d : D), ds[i]? = some d → (enumD n ds)[i]? = some (.tuple [.int ((n + i : Nat) : Int), d])
  | _, [], _, _, h => by simp at h
  | n, x :: ds, 0, d, h => by simp at h; subst h; rfl
  | n, x :: ds, i + 1, d, h => by
    have := enumD_get (n + 1) ds i d (by simpa using h)
    rw [enumD, List.getElem?_cons_succ, this]
    congr 5
    omega
theorem enumD_purs : ∀ (n : Nat) (ds : List D), purs (enumD n ds) = purs ds
  | _, [] => rfl
  | n, d :: ds => by simp [enumD, purs, pur, enumD_purs (n + 1) ds]
theorem zipD_len : ∀ (ds es : List D), (zipD ds es).length = min ds.length es.length
  | [], _ => by simp [zipD]
  | _ :: _, [] => by simp [zipD]
  | _ :: ds, _ :: es => by simp [zipD, zipD_len ds es]
theorem zipD_get : ∀ (ds es : List D) (i : Nat) (d e : D), ds[i]? = some d → es[i]? = some e → (zipD ds es)[i]? = some (.tuple [d, e])
  | [], _, _, _, _, h, _ => by simp at h
  | _ :: _, [], _, _, _, _, h => by simp at h
  | x :: ds, y :: es, 0, d, e, h, h2 => by simp at h h2; subst h; subst h2; rfl
  | x :: ds, y :: es, i + 1, d, e, h, h2 => by
    rw [zipD, List.getElem?_cons_succ]
    exact zipD_get ds es i d e (by simpa using h) (by simpa using h2)
section
variable [Tb] [Vs] {X : Cx} {K : PySem.W.Frag}
theorem pair_own {H H' : Hp} {T : Addr} {ob : Obj} {x y : V} {d e : D} (hT : H T = none) (hn : ob.dict = none) (hH : H' = upd H T (.frz ob (.tup [x, y]))) (o1 : Own K H d x []) (o2 : Own K H e y []) : Same H H' ∧ Own K H' (.tuple [d, e]) (.ref T) [] := by
  subst hH
  have sm : Same H (upd H T (.frz ob (.tup [x, y]))) := same_new hT
  exact ⟨sm, .tup (SqD.of upd_same hn) (.cons0 (o1.same sm) (.cons0 (o2.same sm) .nil))⟩
theorem purs_zip {ds es : List D} : ∀ {i : Nat} {d e : D}, purs (zipD ds es) = true → ds[i]? = some d → es[i]? = some e → pur d = true ∧ pur e = true := fun {i d e} p h1 h2 => by
  have := purs_get p (zipD_get ds es i d e h1 h2)
  simpa [pur, purs] using this
theorem walkD_e {k : Bool} {a : Addr} {ds : List D} {G : Hp → Prop} (p : purs ds = true) (h : ∀ H, G H → ∃ xs F, Sq2 K H k a xs ∧ OwnA K H ds xs F) : WalkD K (IteA K k a) G (enumD 0 ds) := by
  refine ⟨fun i H hi g => ?_, fun H g => ?_, fun i H x H' hi g y => ?_⟩
  · obtain ⟨xs, F, hq, t⟩ := h H g
    have hl := t.len
    rw [enumD_len] at hi
    exact ⟨xs, xs[i]'(by omega), hq, List.getElem?_eq_getElem _⟩
  · obtain ⟨xs, F, hq, t⟩ := h H g
    have hl := t.len
    rw [enumD_len]
    exact ⟨xs, hq, by omega⟩
  · obtain ⟨xs, F, hq, t⟩ := h H g
    obtain ⟨T, ob, x', rfl, hT, hn, hH, y⟩ := y
    obtain ⟨d, hd, o⟩ := t.at p (y xs hq)
    obtain ⟨sm, o2⟩ := pair_own hT hn hH (.int (i : Nat)) o
    exact ⟨_, by rw [enumD_get 0 ds i d hd, Nat.zero_add], sm, o2⟩
theorem si_enum {e : Expr} {ga : O} {p pos tpos : Pos} {elts : List Expr} {kk : Nat} (hg : Gl X "enumerate") (hm : X.mg "enumerate" = none) (ha : SimA X [e] (aCons ga aNil)) (hs : starEach [e] X.env = [(false, eval e X.env)] := by rfl) :
    SimI X (.Tuple elts kk tpos) (.Call (.Name "enumerate" p) [e] [] pos) (mkI itE (aCons ga aNil)) := by
  refine pi_imp (pi_enumA hg hm ha hs) fun σ H R h => ?_
  exact mkI_ok h (w := fun vs H1 R => ∃ k a xs, vs = [.ref a] ∧ Sq2 X.K H1 k a xs ∧ R (IteA X.K k a) H1) (fun vs ds es H R h e p q => by
    unfold itE at e
    split at e
    · cases e
      rw [enumD_purs] at p
      obtain ⟨x, F, rfl, o⟩ := h.one
      cases o with
      | lst h1 t n => exact ⟨true, _, _, rfl, SqL.of h1, q _ (walkD_e p fun H2 g => rd_list g)⟩
    · cases e
      rw [enumD_purs] at p
      obtain ⟨x, F, rfl, o⟩ := h.one
      cases o with
      | tup h1 t => exact ⟨false, _, _, rfl, h1.sq, q _ (walkD_e p fun H2 g => rd_tup g)⟩
    · cases e
      rw [enumD_purs] at p
      obtain ⟨x, F, rfl, o⟩ := h.one
      cases o with
      | frz h1 t => exact ⟨true, _, _, rfl, h1.sq, q _ (walkD_e p fun H2 g => rd_frz g)⟩
    · cases e)
theorem OwnA.at0 {H : Hp} {ds : List D} {vs : List V} {F : List Addr} (t : OwnA K H ds vs F) {i : Nat} {x : V} (e : vs[i]? = some x) : ∃ d G, ds[i]? = some d ∧ Own K H d x G := by
  have hl := t.len
  have hi : i < ds.length := by rw [← hl]; exact (List.getElem?_eq_some_iff.mp e).1
  obtain ⟨v, G, hv, o, _⟩ := t.get i ds[i] (List.getElem?_eq_getElem hi)
  rw [e] at hv
  cases hv
  exact ⟨_, _, List.getElem?_eq_getElem hi, o⟩
end
end Sim
namespace Sim
open PySem PySem.Spec L2
def loopS (t : Tg) (g : S) : List D → S
  | [] => fun s => .ok .nx s
  | d :: ds => fun s => match asg t d s with
    | none => .bad
    | some s1 => (g s1).bind fun fl s2 => match fl with
      | .nx => loopS t g ds s2
      | .ct => loopS t g ds s2
      | .bk => .ok .nx s2
      | .rt d => .ok (.rt d) s2
def sFor (lk' : Nat → Bool) (it : I) (t : Tg) (g : S) : S := fun s => (it s).bind fun p s1 =>
  if (p.2.all fun q => lk' q.1) = true then (loopS t g p.1 s1).bind fun fl s2 => .ok fl (unlockS p.2 s2) else .bad
section
variable [Tb] [Vs] {X : Cx} {lk lk' : Nat → Bool} {pos : Pos} {K : PySem.W.Frag}
/-- the closed slots are opened again -/
theorem finish {H0 H1 Hc : Hp} {s1 sc : Sg} {σ σc : St} {Fs0 Fs1 Fsc : Fp} {l : List (Nat × D)} {Gl : List (List Addr)} (E01 : Ev H0 Fs0 H1 Fs1) (hd : Hid K H1 σ Fs1 l Gl) (fr : From H0 Fs0 l Gl)
    (R : RelS K Hc sc σc Fsc) (E : Ev H1 Fs1 Hc Fsc) (L : ∀ p, p ∈ l → σc[p.1]? = σ[p.1]?) :
    ∃ Fs', RelS K Hc (unlockS l sc) σc Fs' ∧ Ev H0 Fs0 Hc Fs' ∧ ∀ j a, a ∈ Fs' j → a ∈ Fsc j ∨ ((∃ xs : MO, Hc a = some xs.ho) ∧ (H1 a ≠ none) ∧ (∀ i, a ∉ Fs1 i) ∧ ∀ i, a ∉ Fsc i) := by
  have hd' := hd.ev E L
  obtain ⟨Fs', R', n⟩ := R.unlock hd' fr
  refine ⟨Fs', R', ⟨(E01.trans E).chg, fun j a h => ?_⟩, fun j a h => ?_⟩
  · rcases n j a h with z | ⟨z, _⟩
    · exact (E01.trans E).new j a z
    · exact z
  · rcases n j a h with z | ⟨_, G, hG, ha⟩
    · exact .inl z
    · obtain ⟨h1, h2⟩ := hd'.mem G hG a ha
      obtain ⟨⟨xs, h3⟩, h4⟩ := hd.mem G hG a ha
      exact .inr ⟨h1, by rw [h3]; simp, h4, h2⟩
theorem finishR {H0 H1 Hc : Hp} {s1 sc : Sg} {σ σc : St} {Fs0 Fs1 Fsc : Fp} {l : List (Nat × D)} {Gl : List (List Addr)} (hlk : ∀ i, lk i = true → lk' i = true) (E01 : Ev H0 Fs0 H1 Fs1) (hd : Hid K H1 σ Fs1 l Gl) (fr : From H0 Fs0 l Gl)
    (R : RelS K Hc sc σc Fsc) (E : EvR lk' H1 Fs1 Hc Fsc) (L : ∀ p, p ∈ l → σc[p.1]? = σ[p.1]?) :
    ∃ Fs', RelS K Hc (unlockS l sc) σc Fs' ∧ EvR lk H0 Fs0 Hc Fs' ∧ ∀ j a, a ∈ Fs' j → a ∈ Fsc j ∨ ((∃ xs : MO, Hc a = some xs.ho) ∧ (H1 a ≠ none) ∧ (∀ i, a ∉ Fs1 i) ∧ ∀ i, a ∉ Fsc i) := by
  have hd' := hd.evR E L
  have E0 := E01.transR E
  have sub : ∀ j, lk' j = false → lk j = false := fun j h => by
    cases q : lk j with
    | false => rfl
    | true => rw [hlk j q] at h; cases h
  obtain ⟨Fs', R', n⟩ := R.unlock hd' fr
  refine ⟨Fs', R', ⟨E0.chg, fun j a h => ?_⟩, fun j a h => ?_⟩
  · rcases n j a h with z | ⟨z, _⟩
    · rcases E0.new j a z with w | ⟨w1, k, w2, w3⟩
      · exact .inl w
      · exact .inr ⟨sub j w1, k, sub k w2, w3⟩
    · exact .inl z
  · rcases n j a h with z | ⟨_, G, hG, ha⟩
    · exact .inl z
    · obtain ⟨h1, h2⟩ := hd'.mem G hG a ha
      obtain ⟨⟨xs, h3⟩, h4⟩ := hd.mem G hG a ha
      exact .inr ⟨h1, by rw [h3]; simp, h4, h2⟩
theorem ss_for {tg iter : Expr} {body : List Stmt} {it : I} {t : Tg} {g : S} (hp : PassesOwn (model X.prog X.w) X.A X.env X.xe) (hc : X.calm = true) (hi : SimI X tg iter it) (hg : SimG X lk' tg t) (hb : SimSs X lk' body g)
    (hlk : ∀ i, lk i = true → lk' i = true) (hs : ∀ x, foldedSetIterable iter X.env x = pure x := by intro _; rfl) : SimS X lk (.For tg iter body [] pos) (sFor lk' it t g) := by
  refine ps_imp (ps_for hp hc hi hg hb hs) fun D σ H z => ?_
  obtain ⟨s, Fs, fl, s', R, e, q⟩ := z
  obtain ⟨⟨es, l⟩, s1, e1, e⟩ := bind_inv e
  refine ⟨s, Fs, es, l, s1, R, e1, fun J H1 Fs1 Gl G R1 C1 n1 hd fr W hG => ?_⟩
  have E01 : Ev H Fs H1 Fs1 := ⟨C1, n1⟩
  split at e
  · rename_i hall
    obtain ⟨fl', s2, e2, e⟩ := bind_inv e
    have hL : ∀ {σc : St}, Lk lk' σ σc → ∀ p, p ∈ l → σc[p.1]? = σ[p.1]? := fun {σc} L p hp => L p.1 (List.all_eq_true.mp hall p hp)
    have done : ∀ {σc : St} {Hc : Hp} {sc : Sg} {Fsc : Fp}, RelS X.K Hc sc σc Fsc → Ev H1 Fs1 Hc Fsc → Lk lk' σ σc → Res.ok fl' s2 = Res.ok Fl.nx sc → D.nx σc Hc := by
      intro σc Hc sc Fsc Rc Ec Lc ee
      cases ee
      cases e
      obtain ⟨Fs', R', E', _⟩ := finish (s1 := s1) E01 hd fr Rc Ec (hL Lc)
      exact q σc Hc Fs' R' E' fun i hi => Lc i (hlk i hi)
    refine ⟨fun i m σc Hc => m = es.length - i ∧ i ≤ es.length ∧ ∃ sc Fsc, RelS X.K Hc sc σc Fsc ∧ Ev H1 Fs1 Hc Fsc ∧ Lk lk' σ σc ∧ loopS t g (es.drop i) sc = .ok fl' s2,
      ⟨es.length, by simp, Nat.zero_le _, s1, Fs1, R1, .refl _ _, .refl _ _, e2⟩, ?_⟩
    rintro i m σc Hc ⟨rfl, hi, sc, Fsc, Rc, Ec, Lc, ec⟩
    by_cases hlt : i < es.length
    · refine .inr ⟨W.goes i Hc hlt (hG Hc Fsc Ec), fun σ' H' => i + 1 ≤ es.length ∧ ∃ sc Fsc, RelS X.K H' sc σ' Fsc ∧ Ev H1 Fs1 H' Fsc ∧ Lk lk' σ σ' ∧ loopS t g (es.drop (i + 1)) sc = .ok fl' s2, fun σ' H' ⟨h1, h2⟩ => ⟨es.length - (i + 1), by omega, rfl, h1, h2⟩, fun x H' y => ?_⟩
      obtain ⟨d, hd1, sm, o⟩ := W.yields i Hc x H' hlt (hG Hc Fsc Ec) y
      have ed : es.drop i = d :: es.drop (i + 1) := by
        rw [List.drop_eq_getElem_cons hlt]
        rw [List.getElem?_eq_getElem hlt] at hd1
        rw [Option.some.inj hd1]
      rw [ed] at ec
      unfold loopS at ec
      split at ec
      · cases ec
      · rename_i s3 hs3
        obtain ⟨fl3, s4, e4, ec⟩ := bind_inv ec
        refine ⟨sc, Fsc, d, [], s3, Rc.same sm, ⟨o, fun _ _ _ z => by cases z⟩, hs3, fun σ2 Fs2 R2 n2 L2 => ?_⟩
        have E2 : Ev H1 Fs1 H' Fs2 := Ec.trans ⟨.same sm, fun j a h => .inl ((n2 j a h).resolve_right (by simp))⟩
        refine ⟨s3, Fs2, fl3, s4, R2, e4, ?_⟩
        cases fl3 with
        | nx => exact fun σ' H'' Fs' R' E' L' => ⟨hlt, s4, Fs', R', E2.trans E', (Lc.trans L2).trans L', ec⟩
        | ct => exact fun σ' H'' Fs' R' E' L' => ⟨hlt, s4, Fs', R', E2.trans E', (Lc.trans L2).trans L', ec⟩
        | bk => exact fun σ' H'' Fs' R' E' L' => done R' (E2.trans E') ((Lc.trans L2).trans L') ec.symm
        | rt d =>
          cases ec
          cases e
          refine fun v σ' H'' Fs' F R' E' L' o n m => ?_
          have E3 := E2.transR E'
          obtain ⟨Fs'', R'', E'', nn⟩ := finishR (s1 := s1) hlk E01 hd fr R' E3 (hL ((Lc.trans L2).trans L'))
          have hF : ∀ a, a ∈ F → H1 a = none ∨ ∃ i, lk' i = false ∧ a ∈ Fs1 i := fun a ha => by
            rcases n a ha with z | ⟨k, hk, z⟩
            · exact .inl (E2.chg.there a z)
            · rcases E2.new k a z with z | z
              · exact .inr ⟨k, hk, z⟩
              · exact .inl z
          refine q v σ' H'' Fs'' F R'' E'' (fun i hi => ((Lc.trans L2).trans L') i (hlk i hi)) o (fun a ha => ?_) fun k a hk hk2 ha => ?_
          · rcases hF a ha with z | ⟨k, hk, z⟩
            · exact .inl (C1.there a z)
            · rcases n1 k a z with z | z
              · refine .inr ⟨k, ?_, z⟩
                cases hq : lk k with
                | false => rfl
                | true => rw [hlk k hq] at hk; cases hk
              · exact .inl z
          · rcases nn k a hk2 with z | ⟨_, h1, h2, h3⟩
            · exact m k a (hlk k hk) z ha
            · rcases hF a ha with z | ⟨k', _, z⟩
              · exact h1 z
              · exact h2 k' z
    · have ei : i = es.length := by omega
      subst ei
      rw [List.drop_length] at ec
      exact .inl ⟨W.stops Hc (hG Hc Fsc Ec), done Rc Ec Lc ec.symm⟩
  · cases e
end
def sWhile (t : T) (g : S) : Nat → S
  | 0 => fun _ => .bad
  | n + 1 => fun s => (t s).bind fun b s1 => if b = true then (g s1).bind fun fl s2 => (match fl with
      | .nx => sWhile t g n s2
      | .ct => sWhile t g n s2
      | .bk => .ok .nx s2
      | .rt d => .ok (.rt d) s2) else .ok .nx s1
section
variable [Tb] [Vs] {X : Cx} {lk : Nat → Bool} {pos : Pos} {K : PySem.W.Frag}
theorem ss_while {c : Expr} {body : List Stmt} {t : T} {g : S} (n : Nat) (hp : PassesOwn (model X.prog X.w) X.A X.env X.xe) (hc : SimT X c t) (hb : SimSs X lk body g) : SimS X lk (.While c body [] pos) (sWhile t g n) := by
  refine ps_imp (ps_while hp hc hb) fun D σ H z => ?_
  obtain ⟨s, Fs, fl, s', R, e, q⟩ := z
  refine ⟨fun m σc Hc => ∃ sc Fsc, RelS X.K Hc sc σc Fsc ∧ Ev H Fs Hc Fsc ∧ Lk lk σ σc ∧ sWhile t g m sc = .ok fl s', ⟨n, s, Fs, R, .refl _ _, .refl _ _, e⟩, ?_⟩
  rintro m σc Hc ⟨sc, Fsc, Rc, Ec, Lc, ec⟩
  cases m with
  | zero => cases ec
  | succ m =>
    unfold sWhile at ec
    obtain ⟨b, s1, e1, ec⟩ := bind_inv ec
    refine ⟨sc, Fsc, b, s1, Rc, e1, fun H1 Fs1 R1 E1 => ?_⟩
    cases b with
    | false =>
      cases ec
      exact iteF (q σc H1 Fs1 R1 (Ec.trans E1) Lc)
    | true =>
      refine iteT ?_
      rw [if_pos rfl] at ec
      obtain ⟨f, s2, e2, ec⟩ := bind_inv ec
      refine ⟨fun σ' H' => ∃ sc Fsc, RelS X.K H' sc σ' Fsc ∧ Ev H Fs H' Fsc ∧ Lk lk σ σ' ∧ sWhile t g m sc = .ok fl s', fun σ' H' h => ⟨m, Nat.lt_succ_self _, h⟩, s1, Fs1, f, s2, R1, e2, ?_⟩
      have E01 := Ec.trans E1
      cases f with
      | nx => exact fun σ' H' Fs' R' E' L' => ⟨s2, Fs', R', E01.trans E', Lc.trans L', ec⟩
      | ct => exact fun σ' H' Fs' R' E' L' => ⟨s2, Fs', R', E01.trans E', Lc.trans L', ec⟩
      | bk =>
        cases ec
        exact fun σ' H' Fs' R' E' L' => q σ' H' Fs' R' (E01.trans E') (Lc.trans L')
      | rt d =>
        cases ec
        refine fun v σ' H' Fs' F R' E' L' o nn mm => q v σ' H' Fs' F R' (E01.transR E') (Lc.trans L') o (fun a ha => ?_) mm
        rcases nn a ha with z | ⟨k, hk, z⟩
        · exact .inl (E01.chg.there a z)
        · rcases E01.new k a z with z | z
          · exact .inr ⟨k, hk, z⟩
          · exact .inl z
end
def clrS : List Nat → Sg → Sg
  | [], s => s
  | v :: vs, s => (clrS vs s).set v none
def ownSl : List Nat → Sg → List (Nat × D)
  | [], _ => []
  | v :: vs, s => match (s[v]?).join with
    | some d => (v, d) :: ownSl vs s
    | none => ownSl vs s
def compL (t : Tg) (c : T) (e : O) (vs : List Nat) : List D → List D → Sg → Res (List D)
  | [], acc, s => .ok acc s
  | d :: ds, acc, s => match asg t d s with
    | none => .bad
    | some s1 => (c s1).bind fun b s2 => if b = true then (e s2).bind fun r s3 => (match own r s3 with
        | none => .bad
        | some y => if acc.length < 1000000 then compL t c e vs ds (acc ++ [y]) (clrS vs s3) else .bad)
      else compL t c e vs ds acc (clrS vs s2)
def oComp (it : I) (t : Tg) (c : T) (e : O) (vs : List Nat) : O := fun s => (it s).bind fun p s1 =>
  if nodupB ((ownSl vs s1).map (·.1)) = true then (compL t c e vs p.1 [] (clrS vs (lockS (ownSl vs s1) s1))).bind fun acc s2 => .ok (.val (.list acc)) (unlockS (ownSl vs s1 ++ p.2) s2) else .bad
def tYesT : T := fun s => .ok true s
def SimPT [Tb] [Vs] (X : Cx) (ifs : List Expr) (c : T) : Prop := PTs X ifs (tT X.K c)
section
variable [Tb] [Vs] {X : Cx} {K : PySem.W.Frag}
theorem pts_imp {X : Cx} {e : List Expr} {t t' : TT} (h : PTs X e t) (i : ∀ σ H Q, t' σ H Q → t σ H Q) : PTs X e t' := ⟨fun pins s σ H Q I q => h.run pins s σ H Q I (i σ H Q q)⟩
theorem spt_nil : SimPT X [] tYesT := pts_imp pts_nil fun σ H Q ⟨s, Fs, b, s', R, e, q⟩ => by
  cases e
  exact q H Fs R (.refl _ _)
theorem spt_one {c : Expr} {t : T} (h : SimT X c t) : SimPT X [c] t := pts_one h
theorem clrS_len : ∀ (vs : List Nat) (s : Sg), (clrS vs s).length = s.length
  | [], _ => rfl
  | v :: vs, s => by rw [clrS, List.length_set, clrS_len vs s]
theorem clrS_some {vs : List Nat} {s : Sg} {i : Nat} {d : D} (h : (clrS vs s)[i]? = some (some d)) : s[i]? = some (some d) ∧ i ∉ vs := by
  induction vs with
  | nil => exact ⟨h, by simp⟩
  | cons v vs ih =>
    unfold clrS at h
    by_cases hi : v = i
    · subst hi
      by_cases hv : v < (clrS vs s).length
      · rw [List.getElem?_set_self hv] at h; cases h
      · rw [List.getElem?_eq_none (by simpa using hv)] at h; cases h
    · rw [List.getElem?_set_ne hi] at h
      obtain ⟨h1, h2⟩ := ih h
      exact ⟨h1, by simp only [List.mem_cons, not_or]; exact ⟨fun e => hi e.symm, h2⟩⟩
theorem wipe_get {σ : St} {vs : List Nat} {i : Nat} (h : i ∉ vs) : (wipe σ vs)[i]? = σ[i]? := by
  induction vs with
  | nil => rfl
  | cons v vs ih =>
    simp only [List.mem_cons, not_or] at h
    unfold wipe
    rw [List.getElem?_set_ne (fun e => h.1 e.symm), ih h.2]
/-- the own names' slots are emptied, on both sides -/
theorem lnk_wipe {σ : St} {H : Hp} : ∀ {vs : List Nat}, (∀ v, v ∈ vs → Vs.ok v) → (Vs.lnk (wipe σ vs) H ↔ Vs.lnk σ H)
  | [], _ => Iff.rfl
  | v :: vs, h => by
    rw [wipe]
    exact (Vs.put (h v (List.mem_cons_self ..))).trans (lnk_wipe fun w hw => h w (List.mem_cons_of_mem _ hw))
theorem RelS.clr {H : Hp} {s : Sg} {σ : St} {Fs : Fp} (R : RelS K H s σ Fs) (vs : List Nat) (ko : ∀ v, v ∈ vs → Vs.ok v) : ∃ Fs', RelS K H (clrS vs s) (wipe σ vs) Fs' ∧ ∀ j a, a ∈ Fs' j → a ∈ Fs j ∧ j ∉ vs := by
  refine ⟨fun j => if j ∈ vs then [] else Fs j, ⟨by rw [clrS_len, wipe_length, R.len], fun i d e => ?_, fun i h => ?_, fun i j a h1 h2 => ?_, ⟨(lnk_wipe ko).mpr R.lnk.1, R.lnk.2⟩, fun i h d e => R.bse i h d (clrS_some e).1⟩, fun j a h => ?_⟩
  · obtain ⟨e1, e2⟩ := clrS_some e
    obtain ⟨v, hv, o⟩ := R.has i d e1
    refine ⟨v, by rw [wipe_get e2]; exact hv, ?_⟩
    simp only [if_neg e2]
    exact o
  · by_cases hi : i ∈ vs
    · simp only [if_pos hi]
      rw [Vs.nil (ko i hi)]
    · simp only [if_neg hi]
      refine R.off i fun d e => h d ?_
      have key : ∀ (vs : List Nat), i ∉ vs → (clrS vs s)[i]? = s[i]? := fun vs => by
        induction vs with
        | nil => intro _; rfl
        | cons v vs ih =>
          intro h
          simp only [List.mem_cons, not_or] at h
          unfold clrS
          rw [List.getElem?_set_ne (fun e => h.1 e.symm), ih h.2]
      rw [key vs hi]
      exact e
  · split at h1
    · cases h1
    · split at h2
      · cases h2
      · exact R.dis i j a h1 h2
  · have h : a ∈ (if j ∈ vs then [] else Fs j) := h
    split at h
    · cases h
    · exact ⟨h, by assumption⟩
/-- a state without the own names stands for the block's outer slots too -/
theorem RelS.unwipe {H : Hp} {s : Sg} {σ : St} {Fs : Fp} {vs : List Nat} (ko : ∀ v, v ∈ vs → Vs.ok v) (R : RelS K H s (wipe σ vs) Fs) : RelS K H s σ Fs := by
  refine ⟨by rw [R.len, wipe_length], fun i d e => ?_, R.off, R.dis, ⟨(lnk_wipe ko).mp R.lnk.1, R.lnk.2⟩, R.bse⟩
  obtain ⟨v, hv, o⟩ := R.has i d e
  exact ⟨v, (wipe_some hv).1, o⟩
theorem ownSl_has {s : Sg} : ∀ {vs : List Nat} {p : Nat × D}, p ∈ ownSl vs s → s[p.1]? = some (some p.2) ∧ p.1 ∈ vs
  | [], _, h => by cases h
  | v :: vs, p, h => by
    unfold ownSl at h
    split at h
    · rename_i d hd
      rcases List.mem_cons.mp h with rfl | h
      · exact ⟨join_some hd, List.mem_cons_self ..⟩
      · obtain ⟨h1, h2⟩ := ownSl_has h
        exact ⟨h1, List.mem_cons_of_mem _ h2⟩
    · obtain ⟨h1, h2⟩ := ownSl_has h
      exact ⟨h1, List.mem_cons_of_mem _ h2⟩
/-- an object that no slot holds changes -/
theorem RelS.out {H : Hp} {s : Sg} {σ : St} {Fs : Fp} (R : RelS K H s σ Fs) {D' : Addr} {acc acc' : List V} (h : H D' = some (.lst acc)) (n : ∀ i, D' ∉ Fs i) : RelS K (upd H D' (.lst acc')) s σ Fs ∧ Chg (fun a => a = D') H (upd H D' (.lst acc')) := by
  have chg : Chg (fun a => a = D') H (upd H D' (.lst acc')) := .upd1 (m := .lst _) h
  refine ⟨⟨R.len, fun i d e => ?_, R.off, R.dis, R.lnkC chg (fun i a ha w => n i (by rw [← w]; exact R.fpF ha)), R.bse⟩, chg⟩
  obtain ⟨v, hv, o⟩ := R.has i d e
  exact ⟨v, hv, o.chg chg fun a ha w => n i (by rw [← w]; exact ha)⟩
theorem Hid.sub {H : Hp} {σ : St} {Fs Fs' : Fp} {l : List (Nat × D)} {Gs : List (List Addr)} (h : Hid K H σ Fs l Gs) (e : ∀ j a, a ∈ Fs' j → a ∈ Fs j) : Hid K H σ Fs' l Gs := by
  induction h with
  | nil => exact .nil
  | cons hv A n _ ih => exact .cons hv ⟨A.own, fun i a hi ha => A.dis i a (e i a hi) ha⟩ n ih
theorem Hid.append {H : Hp} {σ : St} {Fs : Fp} {l l2 : List (Nat × D)} {Gs Gs2 : List (List Addr)} (h : Hid K H σ Fs l Gs) (h2 : Hid K H σ Fs l2 Gs2) (n : ∀ G, G ∈ Gs → ∀ G2, G2 ∈ Gs2 → ∀ a, a ∈ G → a ∉ G2) : Hid K H σ Fs (l ++ l2) (Gs ++ Gs2) := by
  induction h with
  | nil => exact h2
  | @cons i d v F l Gs hv A n' _ ih =>
    refine .cons hv A (fun G hG a ha hb => ?_) (ih fun G hG => n G (List.mem_cons_of_mem _ hG))
    rcases List.mem_append.mp hG with hG | hG
    · exact n' G hG a ha hb
    · exact n F (List.mem_cons_self ..) G hG a ha hb
theorem From.append {H : Hp} {Fs : Fp} {l l2 : List (Nat × D)} {Gs Gs2 : List (List Addr)} (h : From H Fs l Gs) (h2 : From H Fs l2 Gs2) : From H Fs (l ++ l2) (Gs ++ Gs2) := by
  induction l generalizing Gs with
  | nil => cases Gs with
    | nil => exact h2
    | cons _ _ => exact h.elim
  | cons p l ih => cases Gs with
    | nil => exact h.elim
    | cons F Gs => exact ⟨h.1, ih h.2⟩
theorem From.mem {H : Hp} {Fs : Fp} {l : List (Nat × D)} {Gs : List (List Addr)} (h : From H Fs l Gs) : ∀ G, G ∈ Gs → ∀ a, a ∈ G → (∃ i, a ∈ Fs i) ∨ H a = none := by
  induction l generalizing Gs with
  | nil => cases Gs with
    | nil => intro G h; cases h
    | cons _ _ => exact h.elim
  | cons p l ih => cases Gs with
    | nil => exact h.elim
    | cons F Gs =>
      intro G hG a ha
      rcases List.mem_cons.mp hG with rfl | hG
      · exact (h.1 a ha).imp (fun z => ⟨_, z⟩) id
      · exact ih h.2 G hG a ha
mutual
theorem asg_len : ∀ {t : Tg} {d : Sim.D} {s s' : Sg}, asg t d s = some s' → s'.length = s.length
  | .nm i, d, s, s', h => by
    simp only [asg] at h
    cases h
    rw [List.length_set]
  | .tp l, .tuple ds, s, s', h => asgs_len2 (by simpa [asg] using h)
  | .tp l, .none, s, s', h => by simp [asg] at h
  | .tp l, .bool _, s, s', h => by simp [asg] at h
  | .tp l, .int _, s, s', h => by simp [asg] at h
  | .tp l, .str _, s, s', h => by simp [asg] at h
  | .tp l, .list _, s, s', h => by simp [asg] at h
  | .tp l, .dict _, s, s', h => by simp [asg] at h
  | .ls l, .list ds, s, s', h => asgs_len2 (by simpa [asg] using h)
  | .ls l, .none, s, s', h => by simp [asg] at h
  | .ls l, .bool _, s, s', h => by simp [asg] at h
  | .ls l, .int _, s, s', h => by simp [asg] at h
  | .ls l, .str _, s, s', h => by simp [asg] at h
  | .ls l, .tuple _, s, s', h => by simp [asg] at h
  | .ls l, .dict _, s, s', h => by simp [asg] at h
theorem asgs_len2 : ∀ {l : List Tg} {ds : List Sim.D} {s s' : Sg}, asgs l ds s = some s' → s'.length = s.length
  | [], [], s, s', h => by
    simp only [asgs] at h
    cases h
    rfl
  | [], _ :: _, s, s', h => by simp [asgs] at h
  | _ :: _, [], s, s', h => by simp [asgs] at h
  | t :: l, d :: ds, s, s', h => by
    simp only [asgs] at h
    split at h
    · cases h
    · rename_i s1 h1
      rw [asgs_len2 h, asg_len h1]
end
def lkc (vs : List Nat) : Nat → Bool := fun i => !vs.contains i
theorem wipe_lk {vs : List Nat} {σ σ2 : St} (hl : σ2.length = σ.length) (h : Lk (lkc vs) (wipe σ vs) σ2) : wipe σ2 vs = wipe σ vs := by
  have key : ∀ (σ : St) (vs : List Nat) (i : Nat), i ∈ vs → (wipe σ vs)[i]? = if i < σ.length then some none else none := fun σ vs i => by
    induction vs with
    | nil => intro h; cases h
    | cons v vs ih =>
      intro h
      unfold wipe
      by_cases hv : v = i
      · subst hv
        by_cases hx : v < σ.length
        · rw [List.getElem?_set_self (by rw [wipe_length]; exact hx), if_pos hx]
        · rw [List.getElem?_eq_none (by rw [List.length_set, wipe_length]; omega), if_neg hx]
      · rw [List.getElem?_set_ne hv]
        exact ih ((List.mem_cons.mp h).resolve_left fun e => hv e.symm)
  refine List.ext_getElem? fun i => ?_
  by_cases hi : i ∈ vs
  · rw [key _ _ i hi, key _ _ i hi, hl]
  · rw [wipe_get hi]
    have := h i (by unfold lkc; simp [hi])
    rw [this]
theorem tO_comp [Tb] [Vs] {it : I} {t : Tg} {c : T} {e : O} {vs : List Nat} (ko : ∀ v, v ∈ vs → Vs.ok v) {σ : St} {H : Hp} {Q : VK} (z : tO K (oComp it t c e vs) σ H Q) : tLc (tI K it) (tG K (lkc vs) t) (tT K c) (tO K e) vs σ H Q := by
  obtain ⟨s, Fs, rf, s', R, e0, q⟩ := z
  obtain ⟨⟨es, l⟩, s1, e1, e0⟩ := bind_inv e0
  refine ⟨s, Fs, es, l, s1, R, e1, fun J H1 Fs1 Gl G R1 C1 n1 hd fr W hG => ?_⟩
  split at e0
  · rename_i hnd
    obtain ⟨accF, s2, e2, e0⟩ := bind_inv e0
    obtain ⟨Fs2, Gl2, R2, hd2, sub2, fr2⟩ := R1.lock (fun p hp => (ownSl_has hp).1) hnd
    obtain ⟨Fs3, R3, sub3⟩ := R2.clr vs ko
    have sub : ∀ j a, a ∈ Fs3 j → a ∈ Fs1 j := fun j a h => sub2 j a (sub3 j a h).1
    have E01 : Ev H Fs H1 Fs3 := ⟨C1, fun j a h => n1 j a (sub j a h)⟩
    have hdA : Hid K H1 σ Fs3 (ownSl vs s1 ++ l) (Gl2 ++ Gl) := (hd2.sub fun j a h => (sub3 j a h).1).append (hd.sub sub) fun G2 hG2 G hG a ha hb => by
      obtain ⟨⟨xs, hx⟩, hn⟩ := hd.mem G hG a hb
      rcases fr2.mem G2 hG2 a ha with ⟨i, z⟩ | z
      · exact hn i z
      · rw [hx] at z; cases z
    have frA : From H Fs (ownSl vs s1 ++ l) (Gl2 ++ Gl) := (fr2.trans n1 fun a h => C1.there a h).append fr
    intro Dn hDn
    have smD : Same H1 (upd H1 Dn (.lst [])) := same_new hDn
    have nD3 : ∀ i, Dn ∉ Fs3 i := fun i h => by
      obtain ⟨xs, w⟩ := R3.mem h
      rw [hDn] at w; cases w
    refine ⟨fun i m Hc => m = es.length - i ∧ i ≤ es.length ∧ ∃ sc Fsc acc accV Facc, RelS K Hc sc (wipe σ vs) Fsc ∧ Ev H1 Fs3 Hc Fsc ∧ Hc Dn = some (.lst accV) ∧ OwnA K Hc acc accV Facc ∧ Dn ∉ Facc ∧ (∀ i, Dn ∉ Fsc i) ∧ (∀ i a, a ∈ Fsc i → a ∉ Facc) ∧ (∀ a, a ∈ Facc → H1 a = none) ∧
      compL t c e vs (es.drop i) acc sc = .ok accF s2, ⟨es.length, by simp, Nat.zero_le _, _, Fs3, [], [], [], R3.same smD, .same _ smD, upd_same, .nil, by simp, nD3, by simp, by simp, e2⟩, ?_⟩
    rintro i m Hc ⟨rfl, hi, sc, Fsc, acc, accV, Facc, Rc, Ec, hDc, oa, nDa, nDf, dja, fra, ec⟩
    have EG : Ev H1 Fs1 Hc Fsc → G Hc := hG Hc Fsc
    have Ec1 : Ev H1 Fs1 Hc Fsc := ⟨Ec.chg.mono (fun a _ _ w => w.imp fun i => sub i a), fun j a h => (Ec.new j a h).imp (sub j a) id⟩
    by_cases hlt : i < es.length
    · refine .inr ⟨W.goes i Hc hlt (EG Ec1), fun H' => i + 1 ≤ es.length ∧ ∃ sc Fsc acc accV Facc, RelS K H' sc (wipe σ vs) Fsc ∧ Ev H1 Fs3 H' Fsc ∧ H' Dn = some (.lst accV) ∧ OwnA K H' acc accV Facc ∧ Dn ∉ Facc ∧ (∀ i, Dn ∉ Fsc i) ∧ (∀ i a, a ∈ Fsc i → a ∉ Facc) ∧ (∀ a, a ∈ Facc → H1 a = none) ∧
        compL t c e vs (es.drop (i + 1)) acc sc = .ok accF s2, fun H' ⟨h1, h2⟩ => ⟨es.length - (i + 1), by omega, rfl, h1, h2⟩, fun x H' y => ?_⟩
      obtain ⟨d, hd1, sm, o⟩ := W.yields i Hc x H' hlt (EG Ec1) y
      have ed : es.drop i = d :: es.drop (i + 1) := by
        rw [List.drop_eq_getElem_cons hlt]
        rw [List.getElem?_eq_getElem hlt] at hd1
        rw [Option.some.inj hd1]
      rw [ed] at ec
      unfold compL at ec
      split at ec
      · cases ec
      · rename_i s3 hs3
        obtain ⟨b, s4, e4, ec⟩ := bind_inv ec
        refine ⟨sc, Fsc, d, [], s3, Rc.same sm, ⟨o, fun _ _ _ z => by cases z⟩, hs3, fun σ2 Fs4 R4 n4 L4 => ?_⟩
        have hw : wipe σ2 vs = wipe σ vs := wipe_lk (by
          have l1 := R4.len
          have l2 := Rc.len
          have l3 := asg_len hs3
          rw [wipe_length] at l2
          omega) L4
        refine ⟨hw, ?_⟩
        · skip
          have E4 : Ev H1 Fs3 H' Fs4 := Ec.trans ⟨.same sm, fun j a h => .inl ((n4 j a h).resolve_right (by simp))⟩
          have nD4 : ∀ i, Dn ∉ Fs4 i := fun i h => nDf i ((n4 i Dn h).resolve_right (by simp))
          have dj4 : ∀ i a, a ∈ Fs4 i → a ∉ Facc := fun i a h => dja i a ((n4 i a h).resolve_right (by simp))
          refine ⟨s3, Fs4, b, s4, R4, e4, fun H3 Fs5 R5 E5 => ?_⟩
          -- what a test or an item's reckoning leaves of the new list
          have keepD : ∀ {H3 : Hp} {Fs5 : Fp}, Ev H' Fs4 H3 Fs5 → H3 Dn = some (.lst accV) ∧ OwnA K H3 acc accV Facc ∧ (∀ i, Dn ∉ Fs5 i) ∧ (∀ i a, a ∈ Fs5 i → a ∉ Facc) := fun {H3 Fs5} E5 => by
            have h1 : H' Dn = some (.lst accV) := sm _ _ hDc
            have o1 : OwnA K H' acc accV Facc := oa.chg (Fa := fun _ => False) (.same sm) fun _ _ z => z
            refine ⟨E5.chg.keep _ _ h1 (.inl ⟨fun ⟨i, w⟩ => nD4 i w, rfl⟩), o1.chg E5.chg fun a ha ⟨i, w⟩ => dj4 i a w ha, fun i h => ?_, fun i a h ha => ?_⟩
            · rcases E5.new i Dn h with w | w
              · exact nD4 i w
              · rw [h1] at w; cases w
            · rcases E5.new i a h with w | w
              · exact dj4 i a w ha
              · obtain ⟨xs, z⟩ := o1.mem a ha
                rw [w] at z; cases z
          cases b with
          | false =>
            rw [if_neg Bool.false_ne_true] at ec
            refine iteF ⟨hlt, ?_⟩
            obtain ⟨h1, h2, h3, h4⟩ := keepD E5
            obtain ⟨Fs6, R6, sub6⟩ := R5.clr vs ko
            rw [hw] at R6
            exact ⟨_, Fs6, acc, accV, Facc, R6, E4.trans ⟨E5.chg, fun j a h => E5.new j a (sub6 j a h).1⟩, h1, h2, nDa, fun i h => h3 i (sub6 i _ h).1, fun i a h => h4 i a (sub6 i a h).1, fra, ec⟩
          | true =>
            rw [if_pos rfl] at ec
            refine iteT ?_
            obtain ⟨r, s6, e6, ec⟩ := bind_inv ec
            refine ⟨s4, Fs5, r, s6, R5, e6, fun v H4 Fs6 F R6 E6 k6 n6 => ?_⟩
            split at ec
            · cases ec
            · rename_i y hy
              split at ec
              · rename_i hlen
                have A6 := rfOk_own k6 R6 hy
                have E56 := E5.trans E6
                obtain ⟨h1, h2, h3, h4⟩ := keepD E56
                have n6' : ∀ a, a ∈ F → H' a = none := fun a ha => E5.chg.there a (n6 a ha)
                have h1' : H' Dn = some (.lst accV) := sm _ _ hDc
                have o1' : OwnA K H' acc accV Facc := oa.chg (Fa := fun _ => False) (.same sm) fun _ _ z => z
                obtain ⟨Facc', t', hF'⟩ := OwnA.snoc A6.own h2 fun a ha hb => by
                  obtain ⟨xs, z⟩ := o1'.mem a ha
                  rw [n6' a hb] at z; cases z
                have nDn : Dn ∉ Facc' := fun w => by
                  rcases hF' Dn w with w | w
                  · exact nDa w
                  · rw [n6' Dn w] at h1'; cases h1'
                refine ⟨accV, h1, by rw [h2.len]; exact Nat.lt_of_lt_of_le hlen big_le, hlt, ?_⟩
                obtain ⟨R7, C7⟩ := R6.out (acc' := accV ++ [v]) h1 h3
                obtain ⟨Fs8, R8, sub8⟩ := R7.clr vs ko
                rw [hw] at R8
                refine ⟨_, Fs8, acc ++ [y], accV ++ [v], Facc', R8, ?_, upd_same, t'.chg C7 fun a ha w => nDn (by rw [← w]; exact ha), nDn, fun i h => h3 i (sub8 i _ h).1, fun i a h ha => ?_, fun a ha => ?_, ec⟩
                · have E7 := E4.trans E56
                  exact ⟨E7.chg.transN C7 (fun a o ho w => by rw [w, hDn] at ho; cases ho), fun j a h => E7.new j a (sub8 j a h).1⟩
                · rcases hF' a ha with w | w
                  · exact h4 i a (sub8 i a h).1 w
                  · exact A6.dis i a (sub8 i a h).1 w
                · rcases hF' a ha with w | w
                  · exact fra a w
                  · exact E4.chg.there a (n6' a w)
              · cases ec
    · have ei : i = es.length := by omega
      subst ei
      rw [List.drop_length] at ec
      cases ec
      cases e0
      refine .inl ⟨W.stops Hc (EG Ec1), ?_⟩
      obtain ⟨Fs', R', E', nn⟩ := finish (s1 := s1) E01 hdA frA (Rc.unwipe ko) Ec fun _ _ => rfl
      refine q (.ref Dn) Hc Fs' (Dn :: Facc) R' E' (.val ⟨.lst hDc oa nDa, fun j a h ha => ?_⟩) fun a ha => ?_
      · rcases nn j a h with w | ⟨_, w, _, _⟩
        · rcases List.mem_cons.mp ha with rfl | ha
          · exact nDf j w
          · exact dja j a w ha
        · rcases List.mem_cons.mp ha with rfl | ha
          · exact w hDn
          · exact w (fra a ha)
      · rcases List.mem_cons.mp ha with rfl | ha
        · exact C1.there _ hDn
        · exact C1.there _ (fra a ha)
  · cases e0
theorem so_comp [Tb] [Vs] {elt tg iter : Expr} {ifs : List Expr} {scope : Scope} {own : List (Str × Nat)} {pos : Pos} {it : I} {t : Tg} {c : T} {e : O} (hc : X.calm = true) (hN : X.N.Nodup) (hi : SimI X tg iter it) (ok : BlkOk X.N X.env.scope scope own)
    (hg : ∀ (s : Shared) (H : Hp) (C : Addr) (cl : List (Str × Addr)) (fp : List Addr), SimG (X.blk s H scope (compEnvC scope cl C X.env) fp) (lkc (own.map (·.2))) tg t) (ht : ∀ (s : Shared) (H : Hp) (C : Addr) (cl : List (Str × Addr)) (fp : List Addr), SimPT (X.blk s H scope (compEnvC scope cl C X.env) fp) ifs c)
    (he : ∀ (s : Shared) (H : Hp) (C : Addr) (cl : List (Str × Addr)) (fp : List Addr), SimO (X.blk s H scope (compEnvC scope cl C X.env) fp) elt e) (hs : ∀ x, foldedSetIterable iter X.env x = pure x := by intro _; rfl) (ko : ∀ v, v ∈ own.map (·.2) → Vs.ok v := by first | exact fun _ _ => trivial | assumption | decide) :
    SimO X (.ListComp elt [⟨tg, iter, ifs, 0⟩] scope pos) (oComp it t c e (own.map (·.2))) := by
  have hg' : ∀ (s : Shared) (H : Hp) (C : Addr) (cl : List (Str × Addr)) (fp : List Addr), PG (X.blk s H scope (compEnvC scope cl C X.env) fp) tg (tG X.K (lkc (own.map (·.2))) t) := hg
  have ht' : ∀ (s : Shared) (H : Hp) (C : Addr) (cl : List (Str × Addr)) (fp : List Addr), PTs (X.blk s H scope (compEnvC scope cl C X.env) fp) ifs (tT X.K c) := ht
  have he' : ∀ (s : Shared) (H : Hp) (C : Addr) (cl : List (Str × Addr)) (fp : List Addr), PE (X.blk s H scope (compEnvC scope cl C X.env) fp) elt (tO X.K e) := he
  exact pe_imp (pe_lc hc hN hi ok hg' ht' he' hs) fun σ H Q z => tO_comp ko z
end
end Sim
namespace Sim
open PySem PySem.Spec L2
inductive FRes where
  | ok (r : D) (as : List D)
  | exc (c : Str) (v : D)
  | bad
abbrev Fn := List D → FRes
/-- the arguments, each with the places that it holds -/
inductive OwnLs (K : PySem.W.Frag) (H : Hp) : List D → List V → List (List Addr) → Prop
  | nil : OwnLs K H [] [] []
  | cons {d : D} {v : V} {F : List Addr} {ds : List D} {vs : List V} {Fl : List (List Addr)} : Own K H d v F → (∀ G, G ∈ Fl → ∀ a, a ∈ F → a ∉ G) → OwnLs K H ds vs Fl → OwnLs K H (d :: ds) (v :: vs) (F :: Fl)
def NewL (H : Hp) : List (List Addr) → List (List Addr) → Prop
  | [], [] => True
  | F :: Fl, F' :: Fl' => (∀ a, a ∈ F' → a ∈ F ∨ H a = none) ∧ NewL H Fl Fl'
  | _, _ => False
def spF [Tb] (K : PySem.W.Frag) (n : Nat) (f : Fn) : Sp := fun vs H Q E => ∃ ds Fl r as, f ds = .ok r as ∧ vs.length = n ∧ TabsOk H ∧ OwnLs K H ds vs Fl ∧
  ∀ v H' Fl' F, OwnLs K H' as vs Fl' → Chg (fun a => ∃ G, G ∈ Fl ∧ a ∈ G) H H' → NewL H Fl Fl' → Own K H' r v F → (∀ a, a ∈ F → H a = none) → (∀ G, G ∈ Fl' → ∀ a, a ∈ G → a ∉ F) → Q v H'
def lkz : List Rf → List D → List D → List (Nat × D)
  | .slot i :: rs, d :: ds, a :: as => if pur d = true then lkz rs ds as else (i, a) :: lkz rs ds as
  | .val _ :: rs, _ :: ds, _ :: as => lkz rs ds as
  | _, _, _ => []
def oCall (f : Fn) (g : AL) : O := fun s => (g s).bind fun rs s1 => match rds rs s1 with
  | none => .bad
  | some ds => if nodupB ((lks rs ds).map (·.1)) = true then (match f ds with
      | .ok r as => .ok (.val r) (unlockS (lkz rs ds as) (lockS (lks rs ds) s1))
      | .exc c v => .exc c v s1
      | .bad => .bad) else .bad
section
variable [Tb] [Vs] {K : PySem.W.Frag} {H H' : Hp} {σ : St} {Fs : Fp}
theorem OwnLs.mem {ds : List D} {vs : List V} {Fl : List (List Addr)} (h : OwnLs K H ds vs Fl) : ∀ G, G ∈ Fl → ∀ a, a ∈ G → ∃ xs : MO, H a = some xs.ho := by
  induction h with
  | nil => intro G h; cases h
  | cons o _ _ ih =>
    intro G hG a ha
    rcases List.mem_cons.mp hG with rfl | hG
    · exact o.mem a ha
    · exact ih G hG a ha
theorem OwnLs.len {ds : List D} {vs : List V} {Fl : List (List Addr)} (h : OwnLs K H ds vs Fl) : vs.length = ds.length := by
  induction h with
  | nil => rfl
  | cons _ _ _ ih => rw [List.length_cons, List.length_cons, ih]
/-- which argument is which closed slot's -/
def Al : List Rf → List D → List (List Addr) → List (List Addr) → Prop
  | [], [], [], [] => True
  | .val _ :: rs, _ :: ds, Gl, _ :: Fl => Al rs ds Gl Fl
  | .slot _ :: rs, d :: ds, Gl, F :: Fl => if pur d = true then Al rs ds Gl Fl else (match Gl with
    | [] => False
    | G :: Gl => G = F ∧ Al rs ds Gl Fl)
  | _, _, _, _ => False
/-- the operands of a call as its arguments -/
theorem args_own {s : Sg} {FsL : Fp} (R : RelS K H s σ Fs) {rs : List Rf} {vs : List V} {Gs : List (List Addr)} (r : Rfs K H σ Fs rs vs Gs) : ∀ {ds : List D} {Gl : List (List Addr)}, rds rs s = some ds → Hid K H σ FsL (lks rs ds) Gl → From H Fs (lks rs ds) Gl →
    ∃ Fl, OwnLs K H ds vs Fl ∧ (∀ F, F ∈ Fl → ∀ a, a ∈ F → (∃ G, G ∈ Gs ∧ a ∈ G) ∨ ∃ G, G ∈ Gl ∧ a ∈ G) ∧ Al rs ds Gl Fl := by
  induction r with
  | nil =>
    intro ds Gl e hd _
    cases e
    cases hd
    exact ⟨[], .nil, by simp, trivial⟩
  | @val d v F rs vs Gs A n r ih =>
    intro ds Gl e hd fr
    unfold rds at e
    simp only [rd] at e
    split at e
    · cases e
    · rename_i es he
      cases e
      obtain ⟨Fl, h1, h2, h0⟩ := ih he (by simpa [lks] using hd) (by simpa [lks] using fr)
      refine ⟨F :: Fl, .cons A.own (fun G hG a ha hb => ?_) h1, fun G hG a ha => ?_, by simpa [Al] using h0⟩
      · rcases h2 G hG a hb with ⟨G', hG', h⟩ | ⟨G', hG', h⟩
        · exact n G' hG' a ha h
        · rcases fr.mem G' (by simpa [lks] using hG') a h with ⟨i, z⟩ | z
          · exact A.dis i a z ha
          · obtain ⟨xs, w⟩ := A.own.mem a ha
            rw [z] at w; cases w
      · rcases List.mem_cons.mp hG with rfl | hG
        · exact .inl ⟨_, List.mem_cons_self .., ha⟩
        · rcases h2 G hG a ha with ⟨G', hG', h⟩ | h
          · exact .inl ⟨G', List.mem_cons_of_mem _ hG', h⟩
          · exact .inr h
  | @slot i v rs vs Gs hv r ih =>
    intro ds Gl e hd fr
    unfold rds at e
    simp only [rd] at e
    split at e
    · cases e
    · rename_i d hd0
      split at e
      · cases e
      · rename_i es he
        cases e
        obtain ⟨v', hv', o⟩ := R.has i d (join_some hd0)
        rw [hv] at hv'
        cases hv'
        by_cases hp : pur d = true
        · have el : lks (.slot i :: rs) (d :: es) = lks rs es := by rw [lks, if_pos hp]
          rw [el] at hd fr
          obtain ⟨Fl, h1, h2, h0⟩ := ih he hd fr
          rw [o.pur hp] at o
          refine ⟨[] :: Fl, .cons o (by simp) h1, fun G hG a ha => ?_, by unfold Al; rw [if_pos hp]; exact h0⟩
          rcases List.mem_cons.mp hG with rfl | hG
          · cases ha
          · rcases h2 G hG a ha with ⟨G', hG', h⟩ | h
            · exact .inl ⟨G', List.mem_cons_of_mem _ hG', h⟩
            · exact .inr h
        · have el : lks (.slot i :: rs) (d :: es) = (i, d) :: lks rs es := by rw [lks, if_neg hp]
          rw [el] at hd fr
          cases hd with
          | @cons _ _ v2 F _ Gl hv2 A n hd =>
            have hv2 := hv2.get
            rw [hv] at hv2
            cases hv2
            obtain ⟨Fl, h1, h2, h0⟩ := ih he hd fr.2
            refine ⟨F :: Fl, .cons A.own (fun G hG a ha hb => ?_) h1, fun G hG a ha => ?_, by unfold Al; rw [if_neg hp]; exact ⟨rfl, h0⟩⟩
            · rcases h2 G hG a hb with ⟨G', hG', h⟩ | ⟨G', hG', h⟩
              · -- another operand's own value stands apart from all slots
                have key : ∀ {rs : List Rf} {vs : List V} {Gs : List (List Addr)}, Rfs K H σ Fs rs vs Gs → G' ∈ Gs → ∀ i, a ∉ Fs i := fun {rs vs Gs} r => by
                  induction r with
                  | nil => intro h; cases h
                  | val A _ _ ih =>
                    intro hh i hi
                    rcases List.mem_cons.mp hh with e1 | hh
                    · exact A.dis i a hi (by rw [← e1]; exact h)
                    · exact ih hh i hi
                  | slot _ _ ih =>
                    intro hh i hi
                    rcases List.mem_cons.mp hh with e1 | hh
                    · rw [e1] at h; cases h
                    · exact ih hh i hi
                rcases fr.1 a ha with z | z
                · exact key r hG' _ z
                · obtain ⟨xs, w⟩ := A.own.mem a ha
                  rw [z] at w; cases w
              · exact n G' hG' a ha h
            · rcases List.mem_cons.mp hG with rfl | hG
              · exact .inr ⟨_, List.mem_cons_self .., ha⟩
              · rcases h2 G hG a ha with ⟨G', hG', h⟩ | ⟨G', hG', h⟩
                · exact .inl ⟨G', List.mem_cons_of_mem _ hG', h⟩
                · exact .inr ⟨G', List.mem_cons_of_mem _ hG', h⟩
/-- behind the call: what the slots' lists came to -/
theorem args_back {H0 : Hp} {Fs0 FsL : Fp} {s : Sg} (R : RelS K H s σ Fs) {rs : List Rf} {vs : List V} {Gs : List (List Addr)} (r : Rfs K H σ Fs rs vs Gs) : ∀ {ds as : List D} {Gl Fl Fl' : List (List Addr)}, rds rs s = some ds → Hid K H σ FsL (lks rs ds) Gl → From H0 Fs0 (lks rs ds) Gl → Al rs ds Gl Fl →
    OwnLs K H ds vs Fl → OwnLs K H' as vs Fl' → NewL H Fl Fl' → (∀ i a, a ∈ FsL i → (∀ F, F ∈ Fl → a ∉ F) ∧ H a ≠ none) → (∀ a, H a = none → H0 a = none) →
    ∃ Gl', Hid K H' σ FsL (lkz rs ds as) Gl' ∧ From H0 Fs0 (lkz rs ds as) Gl' ∧ ∀ G, G ∈ Gl' → G ∈ Fl' := by
  induction r with
  | nil =>
    intro ds as Gl Fl Fl' e hd fr al o o' nl _ _
    cases e
    exact ⟨[], .nil, trivial, by simp⟩
  | @val d v F rs vs Gs A n r ih =>
    intro ds as Gl Fl Fl' e hd fr al o o' nl ap th
    unfold rds at e
    simp only [rd] at e
    split at e
    · cases e
    · rename_i es he
      cases e
      cases o with
      | cons o1 n1 o =>
        cases o' with
        | cons o1' n1' o' =>
          obtain ⟨Gl', h1, h2, h3⟩ := ih he (by simpa [lks] using hd) (by simpa [lks] using fr) (by simpa [Al] using al) o o' nl.2 (fun i a h => ⟨fun F hF => (ap i a h).1 F (List.mem_cons_of_mem _ hF), (ap i a h).2⟩) th
          exact ⟨Gl', by simpa [lkz] using h1, by simpa [lkz] using h2, fun G hG => List.mem_cons_of_mem _ (h3 G hG)⟩
  | @slot i v rs vs Gs hv r ih =>
    intro ds as Gl Fl Fl' e hd fr al o o' nl ap th
    unfold rds at e
    simp only [rd] at e
    split at e
    · cases e
    · rename_i d hd0
      split at e
      · cases e
      · rename_i es he
        cases e
        cases o with
        | @cons _ _ F0 _ _ Fl0 o1 n1 o =>
          cases o' with
          | @cons a' _ F' as' _ Fl' o1' n1' o' =>
            have ap' : ∀ i a, a ∈ FsL i → (∀ F, F ∈ Fl0 → a ∉ F) ∧ H a ≠ none := fun i a h => ⟨fun F hF => (ap i a h).1 F (List.mem_cons_of_mem _ hF), (ap i a h).2⟩
            by_cases hp : pur d = true
            · have el : lks (.slot i :: rs) (d :: es) = lks rs es := by rw [lks, if_pos hp]
              have el' : lkz (.slot i :: rs) (d :: es) (a' :: as') = lkz rs es as' := by rw [lkz, if_pos hp]
              rw [el] at hd fr
              rw [el']
              obtain ⟨Gl', h1, h2, h3⟩ := ih he hd fr (by unfold Al at al; rw [if_pos hp] at al; exact al) o o' nl.2 ap' th
              exact ⟨Gl', h1, h2, fun G hG => List.mem_cons_of_mem _ (h3 G hG)⟩
            · have el : lks (.slot i :: rs) (d :: es) = (i, d) :: lks rs es := by rw [lks, if_neg hp]
              have el' : lkz (.slot i :: rs) (d :: es) (a' :: as') = (i, a') :: lkz rs es as' := by rw [lkz, if_neg hp]
              rw [el] at hd fr
              rw [el']
              cases hd with
              | @cons _ _ v2 F _ Gl hv2' A n hd =>
                have hv2 := hv2'.get
                rw [hv] at hv2
                cases hv2
                unfold Al at al
                rw [if_neg hp] at al
                obtain ⟨e0, al⟩ := al
                subst e0
                obtain ⟨Gl', h1, h2, h3⟩ := ih he hd fr.2 al o o' nl.2 ap' th
                refine ⟨F' :: Gl', .cons ⟨hv, hv2'.fp⟩ ⟨o1', fun j a hj ha => ?_⟩ (fun G hG a ha hb => n1' G (h3 G hG) a ha hb) h1, ⟨fun a ha => ?_, h2⟩, fun G hG => ?_⟩
                · rcases nl.1 a ha with z | z
                  · exact (ap j a hj).1 _ (List.mem_cons_self ..) z
                  · exact (ap j a hj).2 z
                · rcases nl.1 a ha with z | z
                  · exact fr.1 a z
                  · exact .inr (th a z)
                · rcases List.mem_cons.mp hG with rfl | hG
                  · exact List.mem_cons_self ..
                  · exact List.mem_cons_of_mem _ (h3 G hG)
theorem NewL.mem {Fl Fl' : List (List Addr)} (h : NewL H Fl Fl') : ∀ G, G ∈ Fl' → ∀ a, a ∈ G → (∃ F, F ∈ Fl ∧ a ∈ F) ∨ H a = none := by
  induction Fl generalizing Fl' with
  | nil => cases Fl' with
    | nil => intro G h; cases h
    | cons _ _ => exact h.elim
  | cons F Fl ih => cases Fl' with
    | nil => exact h.elim
    | cons F' Fl' =>
      intro G hG a ha
      rcases List.mem_cons.mp hG with rfl | hG
      · exact (h.1 a ha).imp (fun z => ⟨F, List.mem_cons_self .., z⟩) id
      · exact (ih h.2 G hG a ha).imp (fun ⟨F, h1, h2⟩ => ⟨F, List.mem_cons_of_mem _ h1, h2⟩) id
theorem tO_call {f : Fn} {n : Nat} {g : AL} {Q : VK} {E : XK} (z : tO K (oCall f g) σ H Q) (hn : ∀ ds r as, f ds = .ok r as → ds.length = n) : tA K g σ H fun vs H1 => spF K n f vs H1 Q E := by
  obtain ⟨s, Fs, rf, s', R, e, q⟩ := z
  obtain ⟨rs, s1, e1, e⟩ := bind_inv e
  refine ⟨s, Fs, rs, s1, R, e1, fun vs H1 Fs1 Gs R1 E1 k1 n1 => ?_⟩
  split at e
  · cases e
  · rename_i ds hds
    split at e
    · rename_i hnd
      split at e
      · rename_i r as hf
        cases e
        obtain ⟨FsL, Gl, RL, hd, sub, fr⟩ := R1.lock (lks_has k1 hds) hnd
        obtain ⟨Fl, ol, hl, al⟩ := args_own (FsL := FsL) R1 k1 hds hd fr
        have apart : ∀ i a, a ∈ FsL i → (∀ F, F ∈ Fl → a ∉ F) ∧ H1 a ≠ none := fun i a h => by
          refine ⟨fun F hF ha => ?_, fun w => ?_⟩
          · rcases hl F hF a ha with ⟨G, hG, hb⟩ | ⟨G, hG, hb⟩
            · have key : ∀ {rs : List Rf} {vs : List V} {Gs : List (List Addr)}, Rfs K H1 σ Fs1 rs vs Gs → G ∈ Gs → ∀ i, a ∉ Fs1 i := fun {rs vs Gs} r => by
                induction r with
                | nil => intro h; cases h
                | val A _ _ ih =>
                  intro hh i hi
                  rcases List.mem_cons.mp hh with e1 | hh
                  · exact A.dis i a hi (by rw [← e1]; exact hb)
                  · exact ih hh i hi
                | slot _ _ ih =>
                  intro hh i hi
                  rcases List.mem_cons.mp hh with e1 | hh
                  · rw [e1] at hb; cases hb
                  · exact ih hh i hi
              exact key k1 hG i (sub i a h)
            · exact (hd.mem G hG a hb).2 i h
          · obtain ⟨xs, y⟩ := RL.mem h
            rw [w] at y; cases y
        refine ⟨ds, Fl, r, as, hf, by rw [ol.len]; exact hn _ _ _ hf, R1.lnk.2, ol, fun v H2 Fl' F ol' c nl o nF dj => ?_⟩
        have R2 : RelS K H2 (lockS (lks rs ds) s1) σ FsL := ⟨RL.len, fun i d e => by
          obtain ⟨v, hv, o⟩ := RL.has i d e
          exact ⟨v, hv, o.chg c fun a ha ⟨G, hG, hb⟩ => (apart i a ha).1 G hG hb⟩, RL.off, RL.dis, RL.lnkC c (fun i a ha ⟨G, hG, hb⟩ => (apart i a (RL.fpF ha)).1 G hG hb), RL.bse⟩
        obtain ⟨Gl', hd', fr', sub'⟩ := args_back (H0 := H) (Fs0 := Fs) R1 k1 hds hd (fr.trans E1.new fun a h => E1.chg.there a h) al ol ol' nl apart fun a h => E1.chg.there a h
        obtain ⟨Fs', R', n'⟩ := R2.unlock hd' fr'
        refine q v H2 Fs' F R' ⟨⟨fun a ob ho cc => ?_, fun a h => E1.chg.there a (c.there a h), fun t => c.tab (E1.chg.tab t)⟩, fun j a h => ?_⟩ (.val ⟨o, fun j a h ha => ?_⟩) fun a ha => E1.chg.there a (nF a ha)
        · refine c.keep a ob (E1.chg.keep a ob ho cc) (cc.imp (fun w2 => ⟨fun ⟨G, hG, hb⟩ => ?_, w2.2⟩) id)
          have w := w2.1
          rcases hl G hG a hb with ⟨G', hG', h⟩ | ⟨G', hG', h⟩
          · rw [n1 G' hG' a h] at ho; cases ho
          · rcases fr.mem G' hG' a h with ⟨i, z⟩ | z
            · rcases E1.new i a z with z | z
              · exact w ⟨i, z⟩
              · rw [z] at ho; cases ho
            · rw [E1.chg.there a z] at ho; cases ho
        · rcases n' j a h with z | ⟨z, _⟩
          · exact E1.new j a (sub j a z)
          · exact z
        · rcases n' j a h with z | ⟨_, G, hG, hb⟩
          · exact (apart j a z).2 (nF a ha)
          · exact dj G (sub' G hG) a hb ha
      · cases e
      · cases e
    · cases e
end
def coll : List Nat → List D → Nat → Sg → Option (List D)
  | [], [], _, _ => some []
  | m :: ms, d :: ds, j, s => match coll ms ds (j + 1) s with
    | none => none
    | some as => if m = 0 then (match (s[j]?).join with
      | none => none
      | some d' => some (d' :: as)) else some (d :: as)
  | _, _, _, _ => none
/-- which parameters' names keep what they hold -/
def lkM (ms : List Nat) : Nat → Bool := fun i => ms[i]? == some 0
def okM : List Nat → List D → Bool
  | [], [] => true
  | m :: ms, d :: ds => (m == 0 || pur d) && okM ms ds
  | _, _ => false
/-- n names in all, the parameters by their modes: 0 keeps its name's value, 1 holds what has no list -/
def mkFn (ms : List Nat) (n : Nat) (g : S) : Fn := fun ds => if okM ms ds = true then (match g (ds.map some ++ List.replicate (n - ds.length) none) with
    | .ok fl s => (match coll ms ds 0 s with
      | none => .bad
      | some as => (match fl with
        | .nx => .ok .none as
        | .rt d => .ok d as
        | _ => .bad))
    | .exc c v _ => .exc c v
    | .bad => .bad) else .bad
section
variable [Tb] [Vs] {K : PySem.W.Frag} {H H' : Hp}
theorem okM_len : ∀ {ms : List Nat} {ds : List D}, okM ms ds = true → ds.length = ms.length
  | [], [], _ => rfl
  | m :: ms, d :: ds, h => by
    simp only [okM, Bool.and_eq_true] at h
    rw [List.length_cons, List.length_cons, okM_len h.2]
  | [], _ :: _, h => by simp [okM] at h
  | _ :: _, [], h => by simp [okM] at h
theorem mkFn_len {ms : List Nat} {n : Nat} {g : S} {ds : List D} {r : D} {as : List D} (h : mkFn ms n g ds = .ok r as) : ds.length = ms.length := by
  unfold mkFn at h
  split at h
  · rename_i hk
    exact okM_len hk
  · cases h
omit [Vs] in
/-- the arguments as the first slots -/
theorem relS_start (tt : TabsOk H) {ds : List D} {vs : List V} {Fl : List (List Addr)} (h : OwnLs K H ds vs Fl) (m : Nat) : @RelS _ noVs K H (ds.map some ++ List.replicate m none) (vs.map some ++ List.replicate m none) (fun j => Fl.getD j []) := by
  have hl := h.len
  have key : ∀ (i : Nat) (d : D), ds[i]? = some d → ∃ v F, vs[i]? = some v ∧ Fl[i]? = some F ∧ Own K H d v F := by
    clear hl
    induction h with
    | nil => intro i d h; simp at h
    | @cons d v F ds vs Fl o n _ ih =>
      intro i d' e
      cases i with
      | zero => simp at e; subst e; exact ⟨v, F, rfl, rfl, o⟩
      | succ i => exact ih i d' (by simpa using e)
  have lenF : Fl.length = ds.length := by
    clear key hl
    induction h with
    | nil => rfl
    | cons _ _ _ ih => rw [List.length_cons, List.length_cons, ih]
  have dj : ∀ (i j : Nat) (F G : List Addr) (a : Addr), Fl[i]? = some F → Fl[j]? = some G → a ∈ F → a ∈ G → i = j := by
    clear key hl lenF
    induction h with
    | nil => intro i j F G a h; simp at h
    | @cons d v F0 ds vs Fl o n _ ih =>
      intro i j F G a h1 h2 h3 h4
      cases i with
      | zero => cases j with
        | zero => rfl
        | succ j =>
          simp at h1
          subst h1
          exact absurd h4 (n G (List.mem_of_getElem? (by simpa using h2)) a h3)
      | succ i => cases j with
        | zero =>
          simp at h2
          subst h2
          exact absurd h3 (n F (List.mem_of_getElem? (by simpa using h1)) a h4)
        | succ j => rw [ih i j F G a (by simpa using h1) (by simpa using h2) h3 h4]
  refine ⟨by simp [hl], fun i d e => ?_, fun i e => ?_, fun i j a h1 h2 => ?_, ⟨trivial, tt⟩, fun i h => absurd rfl h⟩
  · by_cases hi : i < ds.length
    · rw [List.getElem?_append_left (by simpa using hi), List.getElem?_map] at e
      cases hd : ds[i]? with
      | none => rw [hd] at e; cases e
      | some d' =>
        rw [hd] at e
        cases e
        obtain ⟨v, F, hv, hF, o⟩ := key i d hd
        refine ⟨v, by rw [List.getElem?_append_left (by simp; omega), List.getElem?_map, hv]; rfl, ?_⟩
        show Own K H d v (Fl.getD i [])
        rw [List.getD_eq_getElem?_getD, hF]
        exact o
    · rw [List.getElem?_append_right (by simpa using hi), List.getElem?_replicate] at e
      split at e <;> cases e
  · show Fl.getD i [] = []
    by_cases hi : i < ds.length
    · exfalso
      refine e ds[i] ?_
      rw [List.getElem?_append_left (by simpa using hi), List.getElem?_map, List.getElem?_eq_getElem hi]
      rfl
    · rw [List.getD_eq_getElem?_getD, List.getElem?_eq_none (by omega)]
      rfl
  · have f1 : ∀ {i : Nat}, a ∈ Fl.getD i [] → ∃ F, Fl[i]? = some F ∧ a ∈ F := fun {i} h => by
      rw [List.getD_eq_getElem?_getD] at h
      cases e : Fl[i]? with
      | none => rw [e] at h; cases h
      | some F => rw [e] at h; exact ⟨F, rfl, h⟩
    obtain ⟨F, e1, m1⟩ := f1 h1
    obtain ⟨G, e2, m2⟩ := f1 h2
    exact dj i j F G a e1 e2 m1 m2
/-- the arguments behind the body -/
theorem coll_own {Fs' : Fp} {s : Sg} {σ' : St} (R : RelS K H' s σ' Fs') (c : Chg (fun _ => True) H H') (new : ∀ i a, a ∈ Fs' i → H' a ≠ none) : ∀ {ms : List Nat} {ds : List D} {vs : List V} {Fl : List (List Addr)} {as : List D} (j : Nat),
    OwnLs K H ds vs Fl → okM ms ds = true → coll ms ds j s = some as → (∀ i, i < ms.length → ms[i]? = some 0 → σ'[j + i]? = (vs[i]?).map some) → (∀ i a, ms[i]? = some 0 → a ∈ Fs' (j + i) → i < Fl.length → a ∈ Fl.getD i [] ∨ H a = none) →
    ∃ Fl', OwnLs K H' as vs Fl' ∧ NewL H Fl Fl' ∧ ∀ G, G ∈ Fl' → ∀ a, a ∈ G → ∃ i, j ≤ i ∧ ms[i - j]? = some 0 ∧ a ∈ Fs' i := by
  intro ms
  induction ms with
  | nil =>
    intro ds vs Fl as j o ok e L n
    cases ds with
    | cons _ _ => simp [okM] at ok
    | nil =>
      simp only [coll] at e
      cases e
      cases o
      exact ⟨[], .nil, trivial, by simp⟩
  | cons m ms ih =>
    intro ds vs Fl as j o ok e L n
    cases ds with
    | nil => simp [okM] at ok
    | cons d ds =>
      simp only [okM, Bool.and_eq_true, Bool.or_eq_true, beq_iff_eq] at ok
      simp only [coll] at e
      split at e
      · cases e
      · rename_i as' hc
        cases o with
        | @cons _ v F _ vs Fl o1 n1 o =>
          obtain ⟨Fl', h1, h2, h3⟩ := ih (j + 1) o ok.2 hc (fun i hi hm => by
            have := L (i + 1) (by simpa using hi) (by simpa using hm)
            rw [show j + 1 + i = j + (i + 1) by omega, this]
            simp) (fun i a hm ha hi => by
            have := n (i + 1) a (by simpa using hm) (by rw [show j + (i + 1) = j + 1 + i by omega]; exact ha) (by simpa using hi)
            simpa using this)
          have h3' : ∀ G, G ∈ Fl' → ∀ a, a ∈ G → ∃ i, j < i ∧ (m :: ms)[i - j]? = some 0 ∧ a ∈ Fs' i := fun G hG a ha => by
            obtain ⟨i, q1, q2, q3⟩ := h3 G hG a ha
            refine ⟨i, by omega, ?_, q3⟩
            rw [show i - j = (i - (j + 1)) + 1 by omega, List.getElem?_cons_succ]
            exact q2
          split at e
          · rename_i hm
            subst hm
            split at e
            · cases e
            · rename_i d' hd'
              cases e
              obtain ⟨v', hv', o'⟩ := R.has j d' (join_some hd')
              have := L 0 (by simp) rfl
              rw [Nat.add_zero, hv'] at this
              simp at this
              subst this
              refine ⟨Fs' j :: Fl', .cons o' (fun G hG a ha hb => ?_) h1, ⟨fun a ha => ?_, h2⟩, fun G hG a ha => ?_⟩
              · obtain ⟨i, q1, _, q3⟩ := h3' G hG a hb
                have := R.dis j i a ha q3
                omega
              · have := n 0 a rfl (by simpa using ha) (by simp)
                simpa using this
              · rcases List.mem_cons.mp hG with rfl | hG
                · exact ⟨j, Nat.le_refl _, by simp, ha⟩
                · obtain ⟨i, q1, q2, q3⟩ := h3' G hG a ha
                  exact ⟨i, Nat.le_of_lt q1, q2, q3⟩
          · rename_i hm
            cases e
            have hp : pur d = true := ok.1.resolve_left hm
            have e0 := o1.pur hp
            subst e0
            refine ⟨[] :: Fl', .cons (o1.chg c fun _ z => by cases z) (by simp) h1, ⟨by simp, h2⟩, fun G hG a ha => ?_⟩
            rcases List.mem_cons.mp hG with rfl | hG
            · cases ha
            · obtain ⟨i, q1, q2, q3⟩ := h3' G hG a ha
              exact ⟨i, Nat.le_of_lt q1, q2, q3⟩
end
end Sim
namespace Sim
open PySem PySem.Spec L2
theorem getD_of {Fl : List (List Addr)} {i : Nat} {a : Addr} (h : a ∈ Fl.getD i []) : ∃ G, Fl[i]? = some G ∧ a ∈ G := by
  rw [List.getD_eq_getElem?_getD] at h
  cases e : Fl[i]? with
  | none => rw [e] at h; cases h
  | some F => rw [e] at h; exact ⟨F, rfl, h⟩
theorem OwnLs.pure_at {K : PySem.W.Frag} {H : Hp} : ∀ {ms : List Nat} {ds : List D} {vs : List V} {Fl : List (List Addr)}, OwnLs K H ds vs Fl → okM ms ds = true → ∀ i, ms[i]? ≠ some 0 → Fl.getD i [] = []
  | [], [], _, _, o, _, i, _ => by cases o; simp
  | m :: ms, d :: ds, _, _, o, ok, 0, h => by
    cases o with
    | @cons _ _ F _ _ Fl o1 n1 o =>
      simp only [okM, Bool.and_eq_true, Bool.or_eq_true, beq_iff_eq] at ok
      have hp : pur d = true := ok.1.resolve_left fun e => h (by rw [e]; rfl)
      simpa using o1.pur hp
  | m :: ms, d :: ds, _, _, o, ok, i + 1, h => by
    cases o with
    | @cons _ _ F _ _ Fl o1 n1 o =>
      simp only [okM, Bool.and_eq_true] at ok
      have := OwnLs.pure_at o ok.2 i (by simpa using h)
      simpa using this
  | [], _ :: _, _, _, _, ok, _, _ => by simp [okM] at ok
  | _ :: _, [], _, _, _, ok, _, _ => by simp [okM] at ok
section
variable [Tb] {P : Program} {w : World} {K : PySem.W.Frag} {mg : Str → Option Value} {base : Heap}
theorem fn_sim {x qual : Str} {st : Stmt} {f : Addr} {fd : FuncData} {N ps : List Str} {ms : List Nat} {n k : Nat} {g : S} (F : Fun K x qual st f fd) (Sc : FnScope N ps (defScope st)) (hn : N.length = n) (hm : ms.length = ps.length)
    (hb : ∀ (cdv : Value) (A : Around) (outer : List Env) (s : Shared) (H : Hp) (E : XK), Room k (A.deeper (PyProof.Rows.envOfC qual (defScope st) s.heap.objs.size f cdv)) →
      SimSs (cxOf CX0 P w K mg base N qual (defScope st) f cdv A outer s H E).nox (lkM ms) (defBody st) g) : FnOk P w K mg base CX0 (k + 1) f fd ps (spF K ps.length (mkFn ms n g)) := by
  refine F.ok Sc (fun vs H Q E h => ?_) (fun cdv A outer s H vs Q E hr h => ⟨_, hb cdv A outer s H E hr, ?_⟩)
  · obtain ⟨ds, Fl, r, as, hf, hl, _⟩ := h
    exact hl
  · obtain ⟨ds, Fl, r, as, hf, hl, tt, ol, q⟩ := h
    unfold mkFn at hf
    split at hf
    · rename_i hok
      have hlm := okM_len hok
      split at hf
      · rename_i fl s' hg
        split at hf
        · cases hf
        · rename_i as' hc
          have est : L2.start N vs = vs.map some ++ List.replicate (n - ds.length) none := by
            unfold L2.start
            rw [hn, ← ol.len]
          have R0 := relS_start tt ol (n - ds.length)
          rw [est]
          refine ⟨_, _, fl, s', R0, hg, ?_⟩
          have fin : ∀ {σ' : St} {H' : Hp} {Fs' : Fp}, RelS K H' s' σ' Fs' → EvR (lkM ms) H (fun j => Fl.getD j []) H' Fs' → Lk (lkM ms) (vs.map some ++ List.replicate (n - ds.length) none) σ' →
              ∃ Fl', OwnLs K H' as' vs Fl' ∧ NewL H Fl Fl' ∧ (Chg (fun a => ∃ G, G ∈ Fl ∧ a ∈ G) H H') ∧ ∀ G, G ∈ Fl' → ∀ a, a ∈ G → ∃ i, lkM ms i = true ∧ a ∈ Fs' i := by
            intro σ' H' Fs' R' E' L'
            have c2 : Chg (fun a => ∃ G, G ∈ Fl ∧ a ∈ G) H H' := E'.chg.mono fun a _ _ ⟨i, hi⟩ => by
              obtain ⟨G, hG, ha⟩ := getD_of hi
              exact ⟨G, List.mem_of_getElem? hG, ha⟩
            have c3 : Chg (fun _ => True) H H' := E'.chg.mono fun _ _ _ _ => trivial
            obtain ⟨Fl', h1, h2, h3⟩ := coll_own (Fs' := Fs') R' c3 (fun i a h => by
              obtain ⟨xs, z⟩ := R'.mem h
              rw [z]
              simp) 0 ol hok hc (fun i hi h0 => by
                have := L' i (by unfold lkM; rw [h0]; rfl)
                rw [Nat.zero_add, this, List.getElem?_append_left (by rw [List.length_map, ol.len, hlm]; exact hi), List.getElem?_map]) (fun i a hm ha hi => by
                rw [Nat.zero_add] at ha
                rcases E'.new i a ha with z | ⟨z, _⟩
                · exact z
                · unfold lkM at z
                  rw [hm] at z
                  cases z)
            refine ⟨Fl', h1, h2, c2, fun G hG a ha => ?_⟩
            obtain ⟨i, _, q2, q3⟩ := h3 G hG a ha
            exact ⟨i, by unfold lkM; rw [Nat.sub_zero] at q2; rw [q2]; rfl, q3⟩
          cases fl with
          | nx =>
            cases hf
            intro σ' H' Fs' R' E' L'
            obtain ⟨Fl', h1, h2, c2, _⟩ := fin R' E'.r L'
            exact q .non H' Fl' [] h1 c2 h2 .non (by simp) (by simp)
          | rt d =>
            cases hf
            intro v σ' H' Fs' F' R' E' L' o nn m
            obtain ⟨Fl', h1, h2, c2, h3⟩ := fin R' E' L'
            refine q v H' Fl' F' h1 c2 h2 o (fun a ha => ?_) fun G hG a ha hb => ?_
            · rcases nn a ha with z | ⟨i, hi, z⟩
              · exact z
              · exfalso
                have z' : a ∈ Fl.getD i [] := z
                rw [ol.pure_at hok i (fun e => by unfold lkM at hi; rw [e] at hi; cases hi)] at z'
                cases z'
            · obtain ⟨i, hi, q3⟩ := h3 G hG a ha
              exact m i a hi q3 hb
          | bk => cases hf
          | ct => cases hf
      · cases hf
      · cases hf
    · cases hf
end
section
variable [Tb] [Vs] {X : Cx} {k : Nat} {f : Addr} {fd : FuncData} {ps : List Str} {fn : Fn} {x : Str} {p pos : Pos} {e : Expr} {es : List Expr} {g : AL}
theorem so_call (F : FnOk X.prog X.w X.K X.mg X.base CX0 k f fd ps (spF X.K ps.length fn)) (hr : Room k X.A) (hg : Gl X x) (hm : X.mg x = some (.ref f)) (hk : PySem.W.keepIn X.K (.ref f) = true) (hb : Binds X.K fd ps []) (ha : SimA X (e :: es) g)
    (hn : ∀ ds r as, fn ds = .ok r as → ds.length = ps.length) (hdb : (x == ("__debug__" : Str)) = false := by decide) (he : starEach (e :: es) X.env = (false, eval e X.env) :: starEach es X.env := by rfl) (hpl : (backTo pos (starEach es X.env)).any (·.1) = false := by rfl) :
    SimO X (.Call (.Name x p) (e :: es) [] pos) (oCall fn g) := by
  refine pe_imp (pe_call F hr hg hm hk hb .nil pass0 ha hdb he hpl) fun σ H Q z => ?_
  have z' := tO_call (E := E0) z hn
  exact tA_mono (fun vs H h => by rw [List.append_nil]; exact h) z'
end
end Sim
namespace Sim
open PySem PySem.Spec L2
def intsD : List D → Option (List Int)
  | [] => some []
  | .int i :: ds => (intsD ds).map (i :: ·)
  | _ => none
def bools : List D → Option (List Bool)
  | [] => some []
  | .bool i :: ds => (bools ds).map (i :: ·)
  | _ => none
def seqOf : D → Option (List D)
  | .list ds => some ds
  | .tuple ds => some ds
  | .dict [(.none, .list ds)] => some ds
  | _ => none
def maxL : List Int → Int
  | [] => 0
  | n :: ns => ns.foldl max n
def minL : List Int → Int
  | [] => 0
  | n :: ns => ns.foldl min n
theorem foldl_max : ∀ (ns : List Int) (n : Int), (ns.foldl max n = n ∨ ns.foldl max n ∈ ns) ∧ n ≤ ns.foldl max n ∧ ∀ y, y ∈ ns → y ≤ ns.foldl max n
  | [], n => ⟨.inl rfl, Int.le_refl _, by simp⟩
  | m :: ns, n => by
    obtain ⟨h1, h2, h3⟩ := foldl_max ns (max n m)
    rw [List.foldl_cons]
    refine ⟨?_, Int.le_trans (Int.le_max_left n m) h2, fun y hy => ?_⟩
    · rcases h1 with h1 | h1
      · rw [h1]
        rcases Int.le_total n m with z | z
        · rw [Int.max_eq_right z]; exact .inr (List.mem_cons_self ..)
        · rw [Int.max_eq_left z]; exact .inl rfl
      · exact .inr (List.mem_cons_of_mem _ h1)
    · rcases List.mem_cons.mp hy with rfl | hy
      · exact Int.le_trans (Int.le_max_right n y) h2
      · exact h3 y hy
theorem foldl_min : ∀ (ns : List Int) (n : Int), (ns.foldl min n = n ∨ ns.foldl min n ∈ ns) ∧ ns.foldl min n ≤ n ∧ ∀ y, y ∈ ns → ns.foldl min n ≤ y
  | [], n => ⟨.inl rfl, Int.le_refl _, by simp⟩
  | m :: ns, n => by
    obtain ⟨h1, h2, h3⟩ := foldl_min ns (min n m)
    rw [List.foldl_cons]
    refine ⟨?_, Int.le_trans h2 (Int.min_le_left n m), fun y hy => ?_⟩
    · rcases h1 with h1 | h1
      · rw [h1]
        rcases Int.le_total n m with z | z
        · rw [Int.min_eq_left z]; exact .inl rfl
        · rw [Int.min_eq_right z]; exact .inr (List.mem_cons_self ..)
      · exact .inr (List.mem_cons_of_mem _ h1)
    · rcases List.mem_cons.mp hy with rfl | hy
      · exact Int.le_trans h2 (Int.min_le_right n y)
      · exact h3 y hy
theorem maxL_mem {ns : List Int} (h : ns ≠ []) : maxL ns ∈ ns := by
  cases ns with
  | nil => exact absurd rfl h
  | cons n ns =>
    rcases (foldl_max ns n).1 with z | z
    · show List.foldl max n ns ∈ _
      rw [z]; exact List.mem_cons_self ..
    · exact List.mem_cons_of_mem _ z
theorem maxL_le {ns : List Int} {y : Int} (h : y ∈ ns) : y ≤ maxL ns := by
  cases ns with
  | nil => cases h
  | cons n ns =>
    rcases List.mem_cons.mp h with rfl | h
    · exact (foldl_max ns y).2.1
    · exact (foldl_max ns n).2.2 y h
theorem maxL_eq {ns : List Int} {m : Int} (h : m ∈ ns) (h2 : ∀ y, y ∈ ns → y ≤ m) : maxL ns = m :=
  Int.le_antisymm (h2 _ (maxL_mem (by rintro rfl; cases h))) (maxL_le h)
theorem minL_mem {ns : List Int} (h : ns ≠ []) : minL ns ∈ ns := by
  cases ns with
  | nil => exact absurd rfl h
  | cons n ns =>
    rcases (foldl_min ns n).1 with z | z
    · show List.foldl min n ns ∈ _
      rw [z]; exact List.mem_cons_self ..
    · exact List.mem_cons_of_mem _ z
theorem minL_le {ns : List Int} {y : Int} (h : y ∈ ns) : minL ns ≤ y := by
  cases ns with
  | nil => cases h
  | cons n ns =>
    rcases List.mem_cons.mp h with rfl | h
    · exact (foldl_min ns y).2.1
    · exact (foldl_min ns n).2.2 y h
theorem minL_eq {ns : List Int} {m : Int} (h : m ∈ ns) (h2 : ∀ y, y ∈ ns → m ≤ y) : minL ns = m :=
  Int.le_antisymm (minL_le h) (h2 _ (minL_mem (by rintro rfl; cases h)))
def pLen : List D → Option D
  | [.str z] => if z.length ≤ 1000000 then some (.int z.length) else none
  | [d] => match seqOf d with
    | some ds => some (.int ds.length)
    | none => none
  | _ => none
def pAbs : List D → Option D
  | [.int i] => some (.int (if i < 0 then -i else i))
  | _ => none
def pInt : List D → Option D
  | [.int i] => some (.int i)
  | [.bool k] => some (.int (if k then 1 else 0))
  | _ => none
def pMax2 : List D → Option D
  | [.int i, .int j] => some (.int (max i j))
  | _ => none
def pMin2 : List D → Option D
  | [.int i, .int j] => some (.int (min i j))
  | _ => none
def intsOf (d : D) : Option (List Int) := match seqOf d with
  | some ds => intsD ds
  | none => none
def pSum : List D → Option D
  | [d] => (intsOf d).map fun ns => .int ns.sum
  | _ => none
def pMax1 : List D → Option D
  | [d] => match intsOf d with
    | some (n :: ns) => some (.int (maxL (n :: ns)))
    | _ => none
  | _ => none
def pMin1 : List D → Option D
  | [d] => match intsOf d with
    | some (n :: ns) => some (.int (minL (n :: ns)))
    | _ => none
  | _ => none
def pTuple : List D → Option D
  | [d] => match seqOf d with
    | some ds => if purs ds = true then some (.tuple ds) else none
    | none => none
  | _ => none
def pList : List D → Option D
  | [d] => match seqOf d with
    | some ds => if purs ds = true then some (.list ds) else none
    | none => none
  | _ => none
def pDivmod : List D → Option D
  | [.int i, .int j] => if 0 < j ∧ j < 1000000 then some (.tuple [.int (i / j), .int (i % j)]) else none
  | _ => none
def pAll : List D → Option D
  | [.list ds] => (bools ds).map fun bs => .bool (bs.all id)
  | _ => none
def pAny : List D → Option D
  | [.list ds] => (bools ds).map fun bs => .bool (bs.any id)
  | _ => none
section
variable {K : PySem.W.Frag} {H : Hp}
theorem own_ints : ∀ {ds : List D} {vs : List V} {F : List Addr} {ns : List Int}, OwnA K H ds vs F → intsD ds = some ns → vs = ns.map V.int
  | [], _, _, _, h, e => by cases h; cases e; rfl
  | d :: ds, _, _, _, h, e => by
    cases h with
    | cons o t n =>
      cases o with
      | int i =>
        simp only [intsD] at e
        cases hi : intsD ds with
        | none => rw [hi] at e; cases e
        | some ns' =>
          rw [hi] at e
          cases e
          rw [own_ints t hi]
          rfl
      | _ => simp [intsD] at e
theorem own_bools : ∀ {ds : List D} {vs : List V} {F : List Addr} {ns : List Bool}, OwnA K H ds vs F → bools ds = some ns → vs = ns.map V.bl
  | [], _, _, _, h, e => by cases h; cases e; rfl
  | d :: ds, _, _, _, h, e => by
    cases h with
    | cons o t n =>
      cases o with
      | bl i =>
        simp only [bools] at e
        cases hi : bools ds with
        | none => rw [hi] at e; cases e
        | some ns' =>
          rw [hi] at e
          cases e
          rw [own_bools t hi]
          rfl
      | _ => simp [bools] at e
theorem own_seq {d : D} {v : V} {F : List Addr} {ds : List D} (o : Own K H d v F) (e : seqOf d = some ds) : ∃ a xs G, v = .ref a ∧ (SqL K H a xs ∨ SqT K H a xs) ∧ OwnA K H ds xs G ∧ (purs ds = true → G = [] ∧ (∀ e2, d = .tuple e2 → SqD K H a xs)) ∧ ((∃ e2, d = .tuple e2) ∨ SqL K H a xs) := by
  unfold seqOf at e
  split at e
  · cases e
    cases o with
    | lst h t n => exact ⟨_, _, _, rfl, .inl (SqL.of h), t, fun p => ⟨t.pur p, fun _ z => by cases z⟩, .inr (SqL.of h)⟩
  · cases e
    cases o with
    | tup h t => exact ⟨_, _, _, rfl, .inr h.sq, t, fun p => ⟨t.pur p, fun _ _ => h⟩, .inl ⟨_, rfl⟩⟩
  · cases e
    cases o with
    | frz h t => exact ⟨_, _, _, rfl, .inl h.sq, t, fun p => ⟨rfl, fun _ z => by cases z⟩, .inr h.sq⟩
  · cases e
end
section
variable {prog : Program} {w : World} {A : Around} {E : Value → Shared → Prop} {s : Shared} {t : Addr} {xs : Array (Int × Tok)}
theorem max_intTup {Q : Value → Shared → Prop} (hh : A.handled = none) (ht : s.heap.IsTuple t (intItems xs)) (hne : 0 < xs.size)
    (h : ∀ v h' tk, (intItems xs)[argBest (fun i j => decide (numAt xs i > numAt xs j)) (xs.size - 1)]? = some v → (∀ b o, s.heap.get? b = some o → h'.get? b = some o) → Q v { s with heap := h', toks := tk }) :
    wpAny (model prog w) A (call (.builtin "max") [.ref t]) Q E s := by
  obtain ⟨o, ho, hc, n, hd⟩ := id ht
  have hn : t ≠ s.heap.objs.size := Nat.ne_of_lt (Heap.lt_size ho)
  refine call_max_walk (wpAny_pyIter_tuple ht ?_)
  refine ⟨_, _, _, _, _, _, _, rfl, Walks.tuple (A := A.in1) hh _ t hn (intItems xs), ⟨⟨_, Heap.get?_push_size _ rfl, rfl, rfl⟩, ht.at fun o e => Heap.get?_push_of_some _ e⟩, fun b hb => ?_, by simpa [intItems] using hne, CmpOf.ints_gt (numAt xs) (fun _ _ => intItems_at), fun v h' tk hP hk => ?_⟩
  · rcases List.mem_cons.mp hb with rfl | hb
    · exact Heap.lt_size (Heap.get?_push_size _ rfl)
    · obtain rfl := List.mem_singleton.mp hb
      exact Heap.lt_size (Heap.get?_push_of_some _ ho)
  · exact h v h' tk (by simpa [intItems] using hP) fun b o e => hk b o (fun hb => absurd (Heap.lt_size e) ((List.mem_singleton.mp hb) ▸ Nat.lt_irrefl _)) (Heap.get?_push_of_some _ e)
theorem min_intTup {Q : Value → Shared → Prop} (hh : A.handled = none) (ht : s.heap.IsTuple t (intItems xs)) (hne : 0 < xs.size)
    (h : ∀ v h' tk, (intItems xs)[argBest (fun i j => decide (numAt xs i < numAt xs j)) (xs.size - 1)]? = some v → (∀ b o, s.heap.get? b = some o → h'.get? b = some o) → Q v { s with heap := h', toks := tk }) :
    wpAny (model prog w) A (call (.builtin "min") [.ref t]) Q E s := by
  obtain ⟨o, ho, hc, n, hd⟩ := id ht
  have hn : t ≠ s.heap.objs.size := Nat.ne_of_lt (Heap.lt_size ho)
  refine call_min_walk (wpAny_pyIter_tuple ht ?_)
  refine ⟨_, _, _, _, _, _, _, rfl, Walks.tuple (A := A.in1) hh _ t hn (intItems xs), ⟨⟨_, Heap.get?_push_size _ rfl, rfl, rfl⟩, ht.at fun o e => Heap.get?_push_of_some _ e⟩, fun b hb => ?_, by simpa [intItems] using hne, CmpOf.ints_lt (numAt xs) (fun _ _ => intItems_at), fun v h' tk hP hk => ?_⟩
  · rcases List.mem_cons.mp hb with rfl | hb
    · exact Heap.lt_size (Heap.get?_push_size _ rfl)
    · obtain rfl := List.mem_singleton.mp hb
      exact Heap.lt_size (Heap.get?_push_of_some _ ho)
  · exact h v h' tk (by simpa [intItems] using hP) fun b o e => hk b o (fun hb => absurd (Heap.lt_size e) ((List.mem_singleton.mp hb) ▸ Nat.lt_irrefl _)) (Heap.get?_push_of_some _ e)
end
section
variable {X : Cx}
def rMaxA (K : PySem.W.Frag) : List V → Hp → VK → Prop := fun vs H Q => ∃ (a : Addr) (ns : List Int), vs = [V.ref a] ∧ (SqL K H a (ns.map V.int) ∨ SqT K H a (ns.map V.int)) ∧ ns ≠ [] ∧ Q (.int (maxL ns)) H
def rMinA (K : PySem.W.Frag) : List V → Hp → VK → Prop := fun vs H Q => ∃ (a : Addr) (ns : List Int), vs = [V.ref a] ∧ (SqL K H a (ns.map V.int) ∨ SqT K H a (ns.map V.int)) ∧ ns ≠ [] ∧ Q (.int (minL ns)) H
theorem cr_maxA (hc : X.calm = true) : CallR X (.builtin "max") (rMaxA X.K) := by
  intro pins s σ H vs us Q I r h
  obtain ⟨a, ns, rfl, hs, hne, q⟩ := h
  have hl0 : 0 < ns.length := List.length_pos_iff.mpr hne
  rcases hs with hs | hs
  · exact cr_max hc pins s σ H _ us Q I r ⟨a, ns, rfl, hs, hl0, fun m h1 h2 => by rw [maxL_eq h1 h2] at q; exact q⟩
  · obtain ⟨its, rv, hl, _⟩ := I.tuple hs
    rw [Vals.ref1 r]
    have hi := rv.ints
    obtain ⟨xs, e⟩ := hi.allInts.items
    have hn : numsOf (intItems xs).toList = ns := by rw [← e]; exact hi.numsOf
    rw [PySem.nums_intItems] at hn
    have hl' : s.heap.IsTuple a its.toArray := hl
    rw [e] at hl'
    subst hn
    have hsz : 0 < xs.size := by simpa using hl0
    refine max_intTup (I.ok.hd hc) hl' hsz fun v h' tk hv hk => ?_
    obtain ⟨t, rfl⟩ := intItems_at hv
    obtain ⟨h1, h2⟩ := argBest_gt (numAt xs) (xs.size - 1)
    refine ⟨.int _, H, I.kept hk, ⟨_, rfl⟩, ?_⟩
    rw [maxL_eq (m := numAt xs (argBest (fun i j => decide (numAt xs i > numAt xs j)) (xs.size - 1))) ?_ fun y hy => ?_] at q
    · exact q
    · rw [numAt_eq]; exact PySem.getD_mem (by rw [List.length_map, Array.length_toList]; omega)
    · obtain ⟨j, hj, rfl⟩ := mem_getD hy
      rw [List.length_map, Array.length_toList] at hj
      rw [← numAt_eq]; exact h2 j (by omega)
theorem cr_minA (hc : X.calm = true) : CallR X (.builtin "min") (rMinA X.K) := by
  intro pins s σ H vs us Q I r h
  obtain ⟨a, ns, rfl, hs, hne, q⟩ := h
  have hl0 : 0 < ns.length := List.length_pos_iff.mpr hne
  rcases hs with hs | hs
  · exact cr_min hc pins s σ H _ us Q I r ⟨a, ns, rfl, hs, hl0, fun m h1 h2 => by rw [minL_eq h1 h2] at q; exact q⟩
  · obtain ⟨its, rv, hl, _⟩ := I.tuple hs
    rw [Vals.ref1 r]
    have hi := rv.ints
    obtain ⟨xs, e⟩ := hi.allInts.items
    have hn : numsOf (intItems xs).toList = ns := by rw [← e]; exact hi.numsOf
    rw [PySem.nums_intItems] at hn
    have hl' : s.heap.IsTuple a its.toArray := hl
    rw [e] at hl'
    subst hn
    have hsz : 0 < xs.size := by simpa using hl0
    refine min_intTup (I.ok.hd hc) hl' hsz fun v h' tk hv hk => ?_
    obtain ⟨t, rfl⟩ := intItems_at hv
    obtain ⟨h1, h2⟩ := argBest_lt (numAt xs) (xs.size - 1)
    refine ⟨.int _, H, I.kept hk, ⟨_, rfl⟩, ?_⟩
    rw [minL_eq (m := numAt xs (argBest (fun i j => decide (numAt xs i < numAt xs j)) (xs.size - 1))) ?_ fun y hy => ?_] at q
    · exact q
    · rw [numAt_eq]; exact PySem.getD_mem (by rw [List.length_map, Array.length_toList]; omega)
    · obtain ⟨j, hj, rfl⟩ := mem_getD hy
      rw [List.length_map, Array.length_toList] at hj
      rw [← numAt_eq]; exact h2 j (by omega)
end
end Sim
namespace Sim
open PySem PySem.Spec L2
section
variable {K : PySem.W.Frag}
def rLenA (K : PySem.W.Frag) : List V → Hp → VK → Prop := fun xs H Q => (∃ p ys, xs = [V.ref p] ∧ (SqL K H p ys ∨ SqT K H p ys) ∧ Q (.int ys.length) H) ∨ ∃ z, xs = [V.str z] ∧ z.length ≤ sizeLine ∧ Q (.int z.length) H
theorem CallR.or {X : Cx} {f : Value} {r r' : List V → Hp → VK → Prop} (h : CallR X f r) (h' : CallR X f r') : CallR X f (fun xs H Q => r xs H Q ∨ r' xs H Q) := fun pins s σ H xs us Q I rv q =>
  q.elim (h pins s σ H xs us Q I rv) (h' pins s σ H xs us Q I rv)
theorem cr_len {X : Cx} : CallR X (.builtin "len") (rLenA X.K) := CallR.or call_len_seq call_len_str
theorem pr_len : PrimR K (rLenA K) pLen := by
  intro vs ds d H Q h e q
  unfold pLen at e
  split at e
  · obtain ⟨x, F, rfl, o⟩ := h.one
    cases o
    split at e
    · rename_i hz
      cases e
      exact .inr ⟨_, rfl, Nat.le_trans hz big_le, q _ _ (.sc (.int _))⟩
    · cases e
  · obtain ⟨x, F, rfl, o⟩ := h.one
    split at e
    · rename_i es hs
      cases e
      obtain ⟨a, xs, G, rfl, hq, t, _⟩ := own_seq o hs
      refine .inl ⟨_, _, rfl, hq, ?_⟩
      rw [t.len]
      exact q _ _ (.sc (.int _))
    · cases e
  · cases e
theorem pr_abs : PrimR K (fun xs H Q => ∃ i : Int, xs = [V.int i] ∧ Q (.int (if i < 0 then -i else i)) H) pAbs := by
  intro vs ds d H Q h e q
  unfold pAbs at e
  split at e
  · obtain ⟨x, F, rfl, o⟩ := h.one
    cases o; cases e
    exact ⟨_, rfl, q _ _ (.sc (.int _))⟩
  · cases e
theorem pr_int : PrimR K (fun xs H Q => (∃ i, xs = [V.int i] ∧ Q (.int i) H) ∨ ∃ k, xs = [V.bl k] ∧ Q (.int (if k then 1 else 0)) H) pInt := by
  intro vs ds d H Q h e q
  unfold pInt at e
  split at e
  · obtain ⟨x, F, rfl, o⟩ := h.one
    cases o; cases e
    exact .inl ⟨_, rfl, q _ _ (.sc (.int _))⟩
  · obtain ⟨x, F, rfl, o⟩ := h.one
    cases o; cases e
    exact .inr ⟨_, rfl, q _ _ (.sc (.int _))⟩
  · cases e
theorem pr_max2 : PrimR K (fun xs H Q => ∃ i j : Int, xs = [V.int i, .int j] ∧ Q (.int (if j > i then j else i)) H) pMax2 := by
  intro vs ds d H Q h e q
  unfold pMax2 at e
  split at e
  · rename_i i j
    obtain ⟨x, y, F, G, rfl, o, o2⟩ := h.two
    cases o; cases o2; cases e
    refine ⟨_, _, rfl, ?_⟩
    have z : (if j > i then j else i) = max i j := by split <;> omega
    rw [z]
    exact q _ _ (.sc (.int _))
  · cases e
theorem pr_min2 : PrimR K (fun xs H Q => ∃ i j : Int, xs = [V.int i, .int j] ∧ Q (.int (if j < i then j else i)) H) pMin2 := by
  intro vs ds d H Q h e q
  unfold pMin2 at e
  split at e
  · rename_i i j
    obtain ⟨x, y, F, G, rfl, o, o2⟩ := h.two
    cases o; cases o2; cases e
    refine ⟨_, _, rfl, ?_⟩
    have z : (if j < i then j else i) = min i j := by split <;> omega
    rw [z]
    exact q _ _ (.sc (.int _))
  · cases e
theorem own_intsOf {H : Hp} {d : D} {v : V} {F : List Addr} {ns : List Int} (o : Own K H d v F) (e : intsOf d = some ns) : ∃ a, v = .ref a ∧ (SqL K H a (ns.map V.int) ∨ SqT K H a (ns.map V.int)) := by
  unfold intsOf at e
  split at e
  · rename_i es hs
    obtain ⟨a, xs, G, rfl, hq, t, _⟩ := own_seq o hs
    rw [own_ints t e] at hq
    exact ⟨a, rfl, hq⟩
  · cases e
theorem pr_max1 : PrimR K (rMaxA K) pMax1 := by
  intro vs ds d H Q h e q
  unfold pMax1 at e
  split at e
  · obtain ⟨x, F, rfl, o⟩ := h.one
    split at e
    · rename_i hi
      cases e
      obtain ⟨a, rfl, hq⟩ := own_intsOf o hi
      exact ⟨a, _, rfl, hq, by simp, q _ _ (.sc (.int _))⟩
    · cases e
  · cases e
theorem pr_min1 : PrimR K (rMinA K) pMin1 := by
  intro vs ds d H Q h e q
  unfold pMin1 at e
  split at e
  · obtain ⟨x, F, rfl, o⟩ := h.one
    split at e
    · rename_i hi
      cases e
      obtain ⟨a, rfl, hq⟩ := own_intsOf o hi
      exact ⟨a, _, rfl, hq, by simp, q _ _ (.sc (.int _))⟩
    · cases e
  · cases e
theorem pr_tuple : PrimR K (fun xs H Q => ∃ p ys, xs = [V.ref p] ∧ ((SqL K H p ys ∧ rNewT ys H Q) ∨ (SqT K H p ys ∧ Q (.ref p) H))) pTuple := by
  intro vs ds d H Q h e q
  unfold pTuple at e
  split at e
  · obtain ⟨x, F, rfl, o⟩ := h.one
    split at e
    · rename_i es hs
      split at e
      · rename_i hp
        cases e
        obtain ⟨a, xs, G, rfl, hq, t, h1, h2⟩ := own_seq o hs
        obtain ⟨rfl, h3⟩ := h1 hp
        refine ⟨a, xs, rfl, ?_⟩
        rcases h2 with ⟨e2, h2⟩ | h2
        · exact .inr ⟨(h3 e2 h2).sq, q _ _ (.sc (.tup (h3 e2 h2) t))⟩
        · exact .inl ⟨h2, fun p ob hp hn => q _ _ (.tup t hp hn)⟩
      · cases e
    · cases e
  · cases e
theorem pr_list : PrimR K (fun xs H Q => ∃ p ys, xs = [V.ref p] ∧ (SqL K H p ys ∨ SqT K H p ys) ∧ ∀ l, H l = none → Q (.ref l) (upd H l (.lst ys))) pList := by
  intro vs ds d H Q h e q
  unfold pList at e
  split at e
  · obtain ⟨x, F, rfl, o⟩ := h.one
    split at e
    · rename_i es hs
      split at e
      · rename_i hp
        cases e
        obtain ⟨a, xs, G, rfl, hq, t, h1, h2⟩ := own_seq o hs
        obtain ⟨rfl, h1⟩ := h1 hp
        exact ⟨_, _, rfl, hq, fun l hl => q _ _ (.lst t hl)⟩
      · cases e
    · cases e
  · cases e
theorem pr_all : PrimR K (rAll K) pAll := by
  intro vs ds d H Q h e q
  unfold pAll at e
  split at e
  · obtain ⟨x, F, rfl, o⟩ := h.one
    rename_i es
    cases hi : bools es with
    | none => rw [hi] at e; cases e
    | some ns =>
      rw [hi] at e
      cases e
      cases o with
      | lst h1 t n =>
        rw [own_bools t hi] at h1
        exact ⟨_, _, rfl, SqL.of h1, q _ _ (.sc (.bl _))⟩
  · cases e
end
theorem bt_len : bootBuiltins "len" = some (.builtin "len") := by decide +kernel
theorem bt_abs : bootBuiltins "abs" = some (.builtin "abs") := by decide +kernel
theorem bt_max : bootBuiltins "max" = some (.builtin "max") := by decide +kernel
theorem bt_min : bootBuiltins "min" = some (.builtin "min") := by decide +kernel
theorem bt_all : bootBuiltins "all" = some (.builtin "all") := by decide +kernel
theorem bt_repr : bootBuiltins "repr" = some (.builtin "repr") := by decide +kernel
theorem bt_isinstance : bootBuiltins "isinstance" = some (.builtin "isinstance") := by decide +kernel
theorem bt_int : bootBuiltins "int" = some (.type "int") := by decide +kernel
theorem bt_list : bootBuiltins "list" = some (.type "list") := by decide +kernel
theorem bt_tuple : bootBuiltins "tuple" = some (.type "tuple") := by decide +kernel
theorem bt_dict : bootBuiltins "dict" = some (.type "dict") := by decide +kernel
inductive Kd where
  | int | bool | str | tup | lst
def kdN : Kd → Str
  | .int => "int"
  | .bool => "bool"
  | .str => "str"
  | .tup => "tuple"
  | .lst => "list"
def kdT : Kd → String
  | .int => "int"
  | .bool => "bool"
  | .str => "str"
  | .tup => "tuple"
  | .lst => "list"
def frdB : List (D × D) → Bool
  | [(.none, .dict _)] => true
  | _ => false
def isK : Kd → D → Bool
  | .int, .int _ => true
  | .int, .bool _ => true
  | .bool, .bool _ => true
  | .str, .str _ => true
  | .tup, .tuple _ => true
  | .lst, .list _ => true
  | .lst, .dict kvs => !frdB kvs
  | _, _ => false
def okD : D → Bool
  | .dict kvs => frzT kvs
  | _ => true
def pIsi (k : Kd) : List D → Option D
  | [d] => if okD d = true then some (.bool (isK k d)) else none
  | _ => none
def tyN : D → String
  | .none => "NoneType"
  | .bool _ => "bool"
  | .int _ => "int"
  | .str _ => "str"
  | .tuple _ => "tuple"
  | .list _ => "list"
  | .dict kvs => if frdB kvs = true then "dict" else "list"
theorem kit_d (k : Kd) (d : D) : kitB (tyN d) (kdT k) = some (isK k d) := by
  cases d with
  | dict kvs =>
    cases hk : frdB kvs <;> cases k <;> simp only [tyN, kdT, isK, hk, if_true, if_false, Bool.false_eq_true, Bool.not_true, Bool.not_false] <;> decide +kernel
  | _ => cases k <;> simp only [tyN, kdT, isK] <;> decide +kernel
theorem own_ty {K : PySem.W.Frag} {H : Hp} {d : D} {v : V} {F : List Addr} (o : Own K H d v F) (ok : okD d = true) : TyX K H v (.type (tyN d)) := by
  cases o with
  | dct _ _ _ => simp [okD, frzT] at ok
  | dcn _ _ _ => simp [okD, frzT] at ok
  | ins _ _ _ _ => simp [okD, frzT] at ok
  | opq _ => simp [okD, frzT] at ok
  | non => exact .base .non
  | bl b => exact .base (.bl b)
  | int b => exact .base (.int b)
  | str b => exact .base (.str b)
  | tup h t =>
    rcases h with ⟨o, h, _⟩ | ⟨o, its, n, h1, h2, _⟩
    · exact .fTuple h
    · exact .kTuple h1 h2
  | frz h t =>
    rcases h with ⟨o, h⟩ | ⟨o, its, n, h1, h2, _⟩
    · exact .base (.frz h)
    · exact .kList h1 h2
  | frd h => exact .fDict h
  | lst h t n => exact .base (.lst h)
def rIsiK (K : PySem.W.Frag) (k : Kd) : List V → Hp → VK → Prop := fun vs H Q => rIsi K (vs ++ [.ty (kdT k)]) H Q
theorem pr_isi {K : PySem.W.Frag} (k : Kd) : PrimR K (rIsiK K k) (pIsi k) := by
  intro vs ds d H Q h e q
  unfold pIsi at e
  split at e
  · obtain ⟨x, F, rfl, o⟩ := h.one
    split at e
    · rename_i ok
      cases e
      exact ⟨x, _, _, _, _, rfl, .ty _, own_ty o ok, kit_ty (kit_d k _), q _ _ (.sc (.bl _))⟩
    · cases e
  · cases e
theorem so_isi [Tb] [Vs] {X : Cx} {e : Expr} {ga : O} {p p2 pos : Pos} (k : Kd) (hg : Gl X "isinstance") (hm : X.mg "isinstance" = none) (hg2 : Gl X (kdN k)) (hm2 : X.mg (kdN k) = none) (ha : SimO X e ga)
    (he : starEach (e :: [.Name (kdN k) p2]) X.env = (false, eval e X.env) :: starEach [.Name (kdN k) p2] X.env := by rfl) (hpl : (backTo pos (starEach [.Name (kdN k) p2] X.env)).any (·.1) = false := by rfl)
    (hs2 : starEach [.Name (kdN k) p2] X.env = (false, eval (.Name (kdN k) p2) X.env) :: starEach [] X.env := by rfl) : SimO X (.Call (.Name "isinstance" p) [e, .Name (kdN k) p2] [] pos) (o1 (pIsi k) ga) := by
  have hb : bootBuiltins (kdN k) = some (.type (kdT k)) := by cases k <;> decide +kernel
  have hn : kdN k ≠ "__name__" := by cases k <;> decide
  have hd : (kdN k == ("__debug__" : Str)) = false := by cases k <;> decide
  refine pe_imp (pe_callB call_isi hg hm bt_isinstance (pa_cons ha (pa_cons (pe_bltn hg2 hm2 hb (v := .ty (kdT k)) rfl hn hd) pa_nil hs2) he) (he := he) (hpl := hpl)) fun σ H Q h => ?_
  have z := tA1 (prim (pr_isi k) h)
  exact z
end Sim
namespace Sim
open PySem PySem.Spec L2
/-- x.m(args): the list that x's slot holds, as it becomes; what is given -/
def oMt (f : List D → List D → Option (List D × D)) (i : Nat) (g : AL) : O := fun s => (oV i s).bind fun _ s => match (s[i]?).join with
  | some (.list _) => (g s).bind fun rs s1 => (match (s1[i]?).join, owns rs s1 with
    | some (.list ds), some as => (match f ds as with
      | some (ds', d) => if pur d = true then .ok (.val d) (s1.set i (some (.list ds'))) else .bad
      | none => .bad)
    | _, _ => .bad)
  | _ => .bad
/-- what a rule of a method asks: the list becomes .., the answer -/
def MtD (K : PySem.W.Frag) (r : V → List V → Hp → VK → Prop) (f : List D → List D → Option (List D × D)) : Prop :=
  ∀ (l : Addr) (vs : List V) (F : List Addr) (ds as : List D) (ws : List V) (G : List Addr) (ds' : List D) (d : D) (H : Hp) (Q : VK),
    H l = some (.lst vs) → OwnA K H ds vs F → l ∉ F → OwnA K H as ws G → (∀ a, a ∈ G → a ∉ l :: F) → f ds as = some (ds', d) → pur d = true →
    (∀ vs' F' v, OwnA K H ds' vs' F' → (∀ a, a ∈ F' → a ∈ F ∨ a ∈ G) → Own K H d v [] → Q v (upd H l (.lst vs'))) → r (.ref l) ws H Q
theorem Ev.step [Tb] {H H1 H' : Hp} {Fs Fs1 Fs' : Fp} (a : Ev H Fs H1 Fs1) (c : Chg (InF Fs1) H1 H') (n : ∀ i x, x ∈ Fs' i → x ∈ Fs i ∨ H x = none) : Ev H Fs H' Fs' := by
  refine ⟨⟨fun x o e cc => c.keep x o (a.chg.keep x o e cc) (cc.imp (fun n => ⟨fun z => ?_, n.2⟩) id), fun x e => a.chg.there x (c.there x e), fun t => c.tab (a.chg.tab t)⟩, n⟩
  obtain ⟨i, hi⟩ := z
  rcases a.new i x hi with q | q
  · exact n.1 ⟨i, q⟩
  · rw [e] at q; cases q
section
variable [Tb] [Vs] {X : Cx} {K : PySem.W.Frag} {σ : St} {H : Hp} {Q : VK}
theorem tO_mt {f : List D → List D → Option (List D × D)} {r : V → List V → Hp → VK → Prop} {i : Nat} {g : AL} (hr : MtD K r f) (z : tO K (oMt f i g) σ H Q) : tBM K "list" r (tSl i) (tA K g) σ H Q := by
  obtain ⟨s, Fs, rf, s', R, e, q⟩ := z
  obtain ⟨r0, s0, e0, e⟩ := bind_inv e
  unfold oV at e0
  split at e0
  · rename_i d0 hd0
    cases e0
    split at e
    · rename_i ds0 hds0
      rw [hd0] at hds0
      cases hds0
      obtain ⟨v0, hv0, o0⟩ := R.has i _ (join_some hd0)
      obtain ⟨l, vs0, F0, rfl, hF0, hl0, t0, n0⟩ := own_list o0
      refine ⟨.ref l, hv0, R.lnk.1, .inl ⟨rfl, _, SqL.of hl0⟩, ?_⟩
      obtain ⟨rs, s1, e1, e⟩ := bind_inv e
      refine ⟨s, Fs, rs, s1, R, e1, fun ws H1 Fs1 Gs R1 E1 k1 n1 => ?_⟩
      split at e
      · rename_i ds as hds has
        split at e
        · rename_i ds' d hf
          split at e
          · rename_i hp
            cases e
            obtain ⟨v1, hv1, o1⟩ := R1.has i _ (join_some hds)
            rw [hv0] at hv1
            cases hv1
            obtain ⟨l', vs, F, e2, hF, hl, t, n⟩ := own_list o1
            cases e2
            obtain ⟨oa, dj⟩ := k1.own R1 has
            have li : ∀ a, a ∈ Gs.flatten → a ∉ l :: F := fun a ha hb => dj i a (by rw [hF]; exact hb) ha
            refine hr l vs F ds as ws Gs.flatten ds' d H1 Q hl t n oa li hf hp fun vs' F' v o' sub ov => ?_
            have n' : l ∉ F' := fun h => by
              rcases sub l h with z | z
              · exact n z
              · exact li l z (List.mem_cons_self ..)
            obtain ⟨Fs2, R2, c2, w2⟩ := R1.wr (Fd := Gs.flatten) (join_some hds) hv0 hl hF o' n' sub (fun j a ha => dj j a ha)
            have ch : Chg (fun a => a = l) H1 (upd H1 l (.lst vs')) := .upd1 (m := .lst _) hl
            refine q v _ Fs2 [] R2 (E1.step c2 fun j a ha => ?_) (.val ⟨ov.chg ch (fun _ z => nomatch z), fun _ _ _ z => nomatch z⟩) (fun _ z => nomatch z)
            rcases w2 j a ha with z | z
            · exact E1.new j a z
            · obtain ⟨G, hG, hb⟩ := List.mem_flatten.mp z
              exact .inr (n1 G hG a hb)
          · cases e
        · cases e
      · cases e
    · cases e
  · cases e0
theorem so_mtF {e0 : Expr} {f : List D → List D → Option (List D × D)} {r : V → List V → Hp → VK → Prop} {i : Nat} {g : AL} {name : Str} {id : String} {apos cpos : Pos} {e : Expr} {es : List Expr} (hr : MtD X.K r f) (slot : Slot "list" name id) (hty : typeOf (.builtin id) = pure (.type "method_descriptor")) (hm : MtR X id r)
    (ho : PE X e0 (tSl i)) (ha : SimA X (e :: es) g)
    (hbase : attributeBase e0 name X.env (eval e0 X.env) = eval e0 X.env := by rfl)
    (hfew : ((backTo cpos (starEach (e :: es) X.env)).all (fun x => !x.1) && (backToKw cpos (keywordEach [] X.env)).all (fun x => x.1.isSome)
      && decide ((e :: es).length + ([] : List Keyword).length + (if ([] : List Keyword).isEmpty then 0 else 1) < 30)) = true := by rfl)
    (hline : (apos.endLine == cpos.line) = true := by rfl) (hs : starEach (e :: es) X.env = (false, eval e X.env) :: starEach es X.env := by rfl) (hplain : (backTo cpos (starEach es X.env)).any (·.1) = false := by rfl) :
    SimO X (.Call (.Attribute e0 name apos) (e :: es) [] cpos) (oMt f i g) :=
  pe_imp (pe_bm PySem.F.plainAttrs_list slot hty hm ho ha hbase hfew hline hs hplain) fun _ _ _ h => tO_mt hr h
theorem so_mt {f : List D → List D → Option (List D × D)} {r : V → List V → Hp → VK → Prop} {i : Nat} {g : AL} {x name : Str} {id : String} {p apos cpos : Pos} {e : Expr} {es : List Expr} (hr : MtD X.K r f) (slot : Slot "list" name id) (hty : typeOf (.builtin id) = pure (.type "method_descriptor")) (hm : MtR X id r)
    (ho : PE X (.Name x p) (tVar i)) (ha : SimA X (e :: es) g)
    (hbase : attributeBase (.Name x p) name X.env (eval (.Name x p) X.env) = eval (.Name x p) X.env := by rfl)
    (hfew : ((backTo cpos (starEach (e :: es) X.env)).all (fun x => !x.1) && (backToKw cpos (keywordEach [] X.env)).all (fun x => x.1.isSome)
      && decide ((e :: es).length + ([] : List Keyword).length + (if ([] : List Keyword).isEmpty then 0 else 1) < 30)) = true := by rfl)
    (hline : (apos.endLine == cpos.line) = true := by rfl) (hs : starEach (e :: es) X.env = (false, eval e X.env) :: starEach es X.env := by rfl) (hplain : (backTo cpos (starEach es X.env)).any (·.1) = false := by rfl) :
    SimO X (.Call (.Attribute (.Name x p) name apos) (e :: es) [] cpos) (oMt f i g) :=
  so_mtF hr slot hty hm (tsl_of ho) ha hbase hfew hline hs hplain
end
def mApp : List D → List D → Option (List D × D)
  | ds, [d] => if ds.length < 1000000 then some (ds ++ [d], .none) else none
  | _, _ => none
def mPopAt : List D → List D → Option (List D × D)
  | ds, [.int i] => if purs ds = true ∧ ds.length ≤ 1000000 then (match ixN ds.length i with
    | none => none
    | some j => (match ds[j]? with
      | none => none
      | some d => some (ds.eraseIdx j, d))) else none
  | _, _ => none
def mExt : List D → List D → Option (List D × D)
  | ds, [.list es] => if purs ds = true ∧ purs es = true ∧ ds.length + es.length ≤ 1000000 then some (ds ++ es, .none) else none
  | _, _ => none
section
variable {K : PySem.W.Frag} {H : Hp}
theorem owna1 {d : D} {vs : List V} {F : List Addr} (h : OwnA K H [d] vs F) : ∃ v, vs = [v] ∧ Own K H d v F := by
  cases h with
  | @cons v _ _ _ F G o t n =>
    cases t
    rw [List.append_nil]
    exact ⟨v, rfl, o⟩
theorem owna2 {d d2 : D} {vs : List V} {F : List Addr} (h : OwnA K H [d, d2] vs F) : ∃ v v2 F1 F2, vs = [v, v2] ∧ Own K H d v F1 ∧ Own K H d2 v2 F2 ∧ F = F1 ++ F2 := by
  cases h with
  | @cons v _ _ _ F G o t n =>
    obtain ⟨v2, rfl, o2⟩ := owna1 t
    exact ⟨v, v2, _, _, rfl, o, o2, rfl⟩
theorem OwnA.er {H : Hp} : ∀ {as : List D} {vs : List V}, OwnA K H as vs [] → ∀ n, OwnA K H (as.eraseIdx n) (vs.eraseIdx n) []
  | [], [], _, _ => .nil
  | _ :: _, _ :: _, h, 0 => h.nil2.2
  | _ :: _, _ :: _, h, n + 1 => .cons0 h.nil2.1 (OwnA.er h.nil2.2 n)
  | [], _ :: _, h, _ => nomatch h
  | _ :: _, [], h, _ => nomatch h
theorem md_app : MtD K rAppend mApp := by
  intro l vs F ds as ws G ds' d H Q hl t n oa li hf hp q
  unfold mApp at hf
  split at hf
  · rename_i ds y
    split at hf
    · rename_i hz
      cases hf
      obtain ⟨v, rfl, o⟩ := owna1 oa
      obtain ⟨F', t', sub⟩ := OwnA.snoc o t fun a ha hb => li a hb (List.mem_cons_of_mem _ ha)
      refine ⟨l, _, v, rfl, rfl, hl, ?_, q _ F' .non t' sub .non⟩
      rw [t.len]
      exact Nat.lt_of_lt_of_le hz big_le
    · cases hf
  · cases hf
theorem md_popAt : MtD K rPopAt mPopAt := by
  intro l vs F ds as ws G ds' d H Q hl t n oa li hf hp q
  unfold mPopAt at hf
  split at hf
  · rename_i ds i
    split at hf
    · rename_i hz
      split at hf
      · cases hf
      · rename_i j hj
        split at hf
        · cases hf
        · rename_i y hy
          cases hf
          obtain ⟨v, rfl, o⟩ := owna1 oa
          cases o
          have e1 := t.pur hz.1
          subst e1
          obtain ⟨v, G', hv, o', sb⟩ := t.get j _ hy
          have e2 := o'.pur hp
          subst e2
          obtain ⟨h1, h2, h3, h4⟩ := L2.ixN_seq hj
          refine ⟨l, vs, i, j, v, rfl, rfl, hl, by omega, by omega, by rw [t.len]; exact h1, hv, q _ [] v (t.er j) (fun _ z => nomatch z) o'⟩
    · cases hf
  · cases hf
theorem md_ext : MtD K rExtend mExt := by
  intro l vs F ds as ws G ds' d H Q hl t n oa li hf hp q
  unfold mExt at hf
  split at hf
  · rename_i ds es
    split at hf
    · rename_i hz
      cases hf
      obtain ⟨v, rfl, o⟩ := owna1 oa
      obtain ⟨b, zs, F2, rfl, rfl, hb, t2, n2⟩ := own_list o
      have e1 := t.pur hz.1
      subst e1
      have e2 := t2.pur hz.2.1
      subst e2
      refine ⟨l, b, vs, zs, rfl, rfl, hl, hb, ?_, q _ [] .non (t.app t2) (fun _ z => nomatch z) .non⟩
      rw [t.len, t2.len]
      exact Nat.le_trans hz.2.2 big_le
    · cases hf
  · cases hf
end
end Sim
namespace Sim
open PySem PySem.Spec L2
def truD : D → Option Bool
  | .none => some false
  | .bool b => some b
  | .int i => some (i != 0)
  | .str z => if z.length ≤ 1000000 then some ((z.length : Int) != 0) else none
  | .list ds => some (!ds.isEmpty)
  | .tuple ds => some (!ds.isEmpty)
  | .dict [(.none, .list ds)] => some (!ds.isEmpty)
  | .dict _ => none
def tstA (g : O) : T := fun s => (g s).bind fun r s1 => match rd r s1 with
  | some d => (match truD d with
    | some b => .ok b s1
    | none => .bad)
  | none => .bad
theorem OwnA.emp {K : PySem.W.Frag} {H : Hp} {ds : List D} {vs : List V} {F : List Addr} (t : OwnA K H ds vs F) : ds.isEmpty = vs.isEmpty := by
  cases t <;> rfl
section
variable [Tb] [Vs] {X : Cx} {K : PySem.W.Frag} {H : Hp} {σ : St} {Q : VK} {a : Expr} {ga : O}
theorem tT_tstA {g : O} {Q : Bool → Hp → Prop} (h : tT K (tstA g) σ H Q) : tO K g σ H fun x H1 => ∃ k, TruV K x H1 k ∧ Q k H1 := by
  obtain ⟨s, Fs, b, s', R, e, q⟩ := h
  obtain ⟨r, s1, e1, e⟩ := bind_inv e
  refine ⟨s, Fs, r, s1, R, e1, fun v H1 Fs1 F R1 E1 k1 n1 => ?_⟩
  split at e
  · rename_i d hb
    split at e
    · rename_i b' ht
      cases e
      obtain ⟨F', o⟩ := k1.dp R1 hb
      refine ⟨b, ?_, q H1 Fs1 R1 E1⟩
      cases o with
      | frd _ => simp [truD] at ht
      | dct _ _ _ => simp [truD] at ht
      | dcn _ _ _ => simp [truD] at ht
      | ins _ _ _ _ => simp [truD] at ht
      | opq _ => simp [truD] at ht
      | non => cases ht; rfl
      | bl b => cases ht; rfl
      | int i => cases ht; rfl
      | str z =>
        simp only [truD] at ht
        split at ht
        · rename_i hz
          cases ht
          exact ⟨Nat.le_trans hz big_le, rfl⟩
        · cases ht
      | tup h t =>
        cases ht
        exact .inr (.inl ⟨_, h.sq, by rw [t.emp]⟩)
      | frz h t =>
        cases ht
        exact .inl ⟨_, h.sq, by rw [t.emp]⟩
      | lst h t n =>
        cases ht
        exact .inl ⟨_, SqL.of h, by rw [t.emp]⟩
    · cases e
  · cases e
theorem st_any (ha : SimO X a ga) (he : ∀ whole, isTrue a X.env whole = (do let v ← whole; standAt a.pos; holding [v] (truthy v)) := by intro _; rfl) : SimT X a (tstA ga) :=
  pt_imp (pt_truth ha he) fun _ _ _ h => tT_tstA h
end
section
variable [Tb] [Vs] {X : Cx} {lk : Nat → Bool}
theorem ss_setLc {i : Nat} {y : Str} {py : Pos} {elt tg iter : Expr} {ifs : List Expr} {scope : Scope} {own : List (Str × Nat)} {pos spos : Pos} {it : I} {t : Tg} {c : T} {e : O} (hc : X.calm = true) (hN : X.N.Nodup) (hy : X.N[i]? = some y) (hyl : X.env.scope.names.lookup y = some .local) (hl : lk i = false)
    (hi : SimI X tg iter it) (ok : BlkOk X.N X.env.scope scope own)
    (hg : ∀ (s : Shared) (H : Hp) (C : Addr) (cl : List (Str × Addr)) (fp : List Addr), SimG (X.blk s H scope (compEnvC scope cl C X.env) fp) (lkc (own.map (·.2))) tg t) (ht : ∀ (s : Shared) (H : Hp) (C : Addr) (cl : List (Str × Addr)) (fp : List Addr), SimPT (X.blk s H scope (compEnvC scope cl C X.env) fp) ifs c)
    (he : ∀ (s : Shared) (H : Hp) (C : Addr) (cl : List (Str × Addr)) (fp : List Addr), SimO (X.blk s H scope (compEnvC scope cl C X.env) fp) elt e) (hs : ∀ x, foldedSetIterable iter X.env x = pure x := by intro _; rfl)
    (hsw : swapsWith (.ListComp elt [⟨tg, iter, ifs, 0⟩] scope pos) (some (.Name y py)) spos.line X.env = pure true := by rfl)
    (ko : ∀ v, v ∈ own.map (·.2) → Vs.ok v := by first | exact fun _ _ => trivial | assumption | decide) (ki : Vs.ok i := by first | exact trivial | assumption | exact ⟨by decide, by decide⟩) :
    SimS X lk (.Assign [.Name y py] (.ListComp elt [⟨tg, iter, ifs, 0⟩] scope pos) spos) (sSet i (oComp it t c e (own.map (·.2)))) := by
  have hg' : ∀ (s : Shared) (H : Hp) (C : Addr) (cl : List (Str × Addr)) (fp : List Addr), PG (X.blk s H scope (compEnvC scope cl C X.env) fp) tg (tG X.K (lkc (own.map (·.2))) t) := hg
  have ht' : ∀ (s : Shared) (H : Hp) (C : Addr) (cl : List (Str × Addr)) (fp : List Addr), PTs (X.blk s H scope (compEnvC scope cl C X.env) fp) ifs (tT X.K c) := ht
  have he' : ∀ (s : Shared) (H : Hp) (C : Addr) (cl : List (Str × Addr)) (fp : List Addr), PE (X.blk s H scope (compEnvC scope cl C X.env) fp) elt (tO X.K e) := he
  refine ps_imp (ps_setLc hc hN hy hyl hsw hi ok hg' ht' he' hs) fun D σ H z => ?_
  have w := tS_asg z
  exact tO_comp ko (tO_mono (fun v H h => by have w := tG_nm hl ki h; exact w) w)
theorem ss_nevers {sts : List Stmt} : SimSs X lk sts sNever := pss_imp pss_never fun D σ H ⟨s, Fs, fl, s', R, e, q⟩ => by cases e
end
/-- more slots held -/
def lkp (is : List Nat) (lk : Nat → Bool) : Nat → Bool := fun j => is.contains j || lk j
theorem lkp_sub {is : List Nat} {lk : Nat → Bool} : ∀ i, lk i = true → lkp is lk i = true := fun i h => by unfold lkp; rw [h, Bool.or_true]
theorem units65 {k : Nat} {A : Around} (r : Room k A) : A.units + 65 < cLine := by have := r.un; omega
theorem spF_law {f : Fn} (hf : ∀ ns : List Int, ns.length ≤ 63 → ∃ as, f [.dict [(.none, .list (ns.map .int))]] = .ok (.bool true) as) (K : PySem.W.Frag) (H : Hp) (a : Addr) (ns : List Int) (h1 : ns.length ≤ 63) (h2 : Only H) (h3 : SqL K H a (ns.map V.int)) :
    spF K 1 f [.ref a] H (fun v _ => v = .bl true) fun _ _ _ => False := by
  obtain ⟨as, e⟩ := hf ns h1
  have hq : SqF K H a (ns.map V.int) := by
    rcases h3 with (h | ⟨o, h⟩) | h
    · rcases h2 a with z | ⟨o, xs, z⟩ <;> rw [h] at z <;> cases z
    · exact .inl ⟨o, h⟩
    · exact .inr h
  have ho : ∀ ns : List Int, OwnA K H (ns.map .int) (ns.map V.int) [] := fun ns => by
    induction ns with
    | nil => exact .nil
    | cons n ns ih => exact OwnA.cons0 (.int n) ih
  refine ⟨_, [[]], _, as, e, rfl, (fun _ h => nomatch h), .cons (.frz hq (ho ns)) (by simp) .nil, fun v H' Fl' F h c n o _ _ => ?_⟩
  cases o
  rfl
end Sim
namespace Sim
open PySem PySem.Spec L2
@[simp] theorem ev_ok {α β : Type} (a : α) (s : Sg) (k : α → Sg → Res β) : (Res.ok a s).bind k = k a s := rfl
@[simp] theorem ev_exc {α β : Type} (c : Str) (v : D) (s : Sg) (k : α → Sg → Res β) : (Res.exc c v s).bind k = .exc c v s := rfl
@[simp] theorem ev_bad {α β : Type} (k : α → Sg → Res β) : (Res.bad : Res α).bind k = .bad := rfl
@[simp] theorem rd_val (d : D) (s : Sg) : rd (.val d) s = some d := rfl
@[simp] theorem rd_slot (i : Nat) (s : Sg) : rd (.slot i) s = (s[i]?).join := rfl
def rdsK (a : Option D) (b : Option (List D)) : Option (List D) := match a with
  | none => none
  | some d => match b with
    | none => none
    | some ds => some (d :: ds)
@[simp] theorem rds_nil (s : Sg) : rds [] s = some [] := rfl
@[simp] theorem rds_cons (r : Rf) (rs : List Rf) (s : Sg) : rds (r :: rs) s = rdsK (rd r s) (rds rs s) := rfl
@[simp] theorem rdsK_some (d : D) (ds : List D) : rdsK (some d) (some ds) = some (d :: ds) := rfl
def ownK : Option D → Option D
  | none => none
  | some d => if pur d = true then some d else none
@[simp] theorem own_val (d : D) (s : Sg) : own (.val d) s = some d := rfl
@[simp] theorem own_slot (i : Nat) (s : Sg) : own (.slot i) s = ownK (s[i]?).join := rfl
@[simp] theorem ownK_some (d : D) : ownK (some d) = if pur d = true then some d else none := rfl
@[simp] theorem owns_nil (s : Sg) : owns [] s = some [] := rfl
@[simp] theorem owns_cons (r : Rf) (rs : List Rf) (s : Sg) : owns (r :: rs) s = rdsK (own r s) (owns rs s) := rfl
@[simp] theorem pur_non : pur .none = true := by rfl
@[simp] theorem pur_bool (b : Bool) : pur (.bool b) = true := by rfl
@[simp] theorem pur_int (b : Int) : pur (.int b) = true := by rfl
@[simp] theorem pur_str (b : Str) : pur (.str b) = true := by rfl
@[simp] theorem pur_tuple (b : List D) : pur (.tuple b) = purs b := by simp [pur]
@[simp] theorem pur_list (b : List D) : pur (.list b) = false := by simp [pur]
@[simp] theorem pur_frz (b : List D) : pur (.dict [(.none, .list b)]) = true := by simp [pur, frzT]
@[simp] theorem purs_nil : purs [] = true := by rfl
@[simp] theorem purs_cons (d : D) (b : List D) : purs (d :: b) = (pur d && purs b) := by simp [purs]
@[simp] theorem purs_ints (l : List Int) : purs (l.map .int) = true := by induction l <;> simp_all
@[simp] theorem purs_map {α : Type} (f : α → Int) (l : List α) : purs (l.map fun a => .int (f a)) = true := by induction l <;> simp_all
@[simp] theorem purs_mapB {α : Type} (f : α → Bool) (l : List α) : purs (l.map fun a => .bool (f a)) = true := by induction l <;> simp_all
@[simp] theorem purs_append (a b : List D) : purs (a ++ b) = (purs a && purs b) := purs_app
def oVK (i : Nat) (s : Sg) : Option D → Res Rf
  | some _ => .ok (.slot i) s
  | none => .bad
@[simp] theorem ev_oV (i : Nat) (s : Sg) : oV i s = oVK i s (s[i]?).join := by
  unfold oV oVK; rfl
@[simp] theorem ev_oVK (i : Nat) (s : Sg) (d : D) : oVK i s (some d) = .ok (.slot i) s := rfl
@[simp] theorem ev_oC (d : D) (s : Sg) : oC d s = .ok (.val d) s := rfl
@[simp] theorem ev_aNil (s : Sg) : aNil s = .ok [] s := rfl
def consK2 (r : Rf) (rs : List Rf) (s : Sg) : Res (List Rf) := .ok (r :: rs) s
def consK (h : AL) (r : Rf) (s : Sg) : Res (List Rf) := (h s).bind (consK2 r)
@[simp] theorem ev_aCons (g : O) (h : AL) (s : Sg) : aCons g h s = (g s).bind (consK h) := rfl
@[simp] theorem ev_consK (h : AL) (r : Rf) (s : Sg) : consK h r s = (h s).bind (consK2 r) := rfl
@[simp] theorem ev_consK2 (r : Rf) (rs : List Rf) (s : Sg) : consK2 r rs s = .ok (r :: rs) s := rfl
def primK3 (s : Sg) : Option D → Res Rf
  | none => .bad
  | some d => .ok (.val d) s
def primK2 (f : List D → Option D) (s : Sg) : Option (List D) → Res Rf
  | none => .bad
  | some ds => primK3 s (f ds)
def primK (f : List D → Option D) (rs : List Rf) (s : Sg) : Res Rf := primK2 f s (rds rs s)
@[simp] theorem ev_prim (f : List D → Option D) (g : AL) (s : Sg) : oPrim f g s = (g s).bind (primK f) := by
  unfold oPrim; refine congrArg (Res.bind _) ?_; funext rs s1; unfold primK primK2; cases rds rs s1 <;> rfl
@[simp] theorem ev_primK (f : List D → Option D) (rs : List Rf) (s : Sg) : primK f rs s = primK2 f s (rds rs s) := rfl
@[simp] theorem ev_primK2 (f : List D → Option D) (ds : List D) (s : Sg) : primK2 f s (some ds) = primK3 s (f ds) := rfl
@[simp] theorem ev_primK3 (d : D) (s : Sg) : primK3 s (some d) = .ok (.val d) s := rfl
@[simp] theorem ev_o1 (f : List D → Option D) (a : O) (s : Sg) : o1 f a s = ((a s).bind (consK aNil)).bind (primK f) := by unfold o1; rw [ev_prim]; rfl
@[simp] theorem ev_o2 (f : List D → Option D) (a b : O) (s : Sg) : o2 f a b s = ((a s).bind (consK (aCons b aNil))).bind (primK f) := by unfold o2; rw [ev_prim]; rfl
def tstK2 (s : Sg) : Option D → Res Bool
  | some (.bool b) => .ok b s
  | _ => .bad
def tstK (r : Rf) (s : Sg) : Res Bool := tstK2 s (rd r s)
@[simp] theorem ev_tst (g : O) (s : Sg) : tst g s = (g s).bind tstK := rfl
@[simp] theorem ev_tstK (r : Rf) (s : Sg) : tstK r s = tstK2 s (rd r s) := rfl
@[simp] theorem ev_tstK2 (s : Sg) (b : Bool) : tstK2 s (some (.bool b)) = .ok b s := rfl
def tstAK3 (s : Sg) : Option Bool → Res Bool
  | some b => .ok b s
  | none => .bad
def tstAK2 (s : Sg) : Option D → Res Bool
  | some d => tstAK3 s (truD d)
  | none => .bad
def tstAK (r : Rf) (s : Sg) : Res Bool := tstAK2 s (rd r s)
@[simp] theorem ev_tstA (g : O) (s : Sg) : tstA g s = (g s).bind tstAK := by
  unfold tstA; refine congrArg (Res.bind _) ?_; funext r s1; unfold tstAK tstAK2; cases rd r s1 with
  | none => rfl
  | some d => cases h : truD d <;> simp [h, tstAK3]
@[simp] theorem ev_tstAK (r : Rf) (s : Sg) : tstAK r s = tstAK2 s (rd r s) := rfl
@[simp] theorem ev_tstAK2 (s : Sg) (d : D) : tstAK2 s (some d) = tstAK3 s (truD d) := rfl
@[simp] theorem ev_tstAK3 (s : Sg) (b : Bool) : tstAK3 s (some b) = .ok b s := rfl
@[simp] theorem tru_bool (b : Bool) : truD (.bool b) = some b := rfl
@[simp] theorem tru_int (b : Int) : truD (.int b) = some (b != 0) := rfl
@[simp] theorem tru_list (b : List D) : truD (.list b) = some (!b.isEmpty) := rfl
@[simp] theorem tru_tuple (b : List D) : truD (.tuple b) = some (!b.isEmpty) := rfl
def andK2 (h : O) (s : Sg) : Option D → Res Rf
  | some (.bool true) => h s
  | some (.bool false) => .ok (.val (.bool false)) s
  | _ => .bad
def andK (h : O) (r : Rf) (s : Sg) : Res Rf := andK2 h s (rd r s)
@[simp] theorem ev_oAnd (g h : O) (s : Sg) : oAnd g h s = (g s).bind (andK h) := rfl
@[simp] theorem ev_andK (h : O) (r : Rf) (s : Sg) : andK h r s = andK2 h s (rd r s) := rfl
@[simp] theorem ev_andK2 (h : O) (s : Sg) (b : Bool) : andK2 h s (some (.bool b)) = if b = true then h s else .ok (.val (.bool false)) s := by cases b <;> rfl
def orK2 (h : O) (s : Sg) : Option D → Res Rf
  | some (.bool true) => .ok (.val (.bool true)) s
  | some (.bool false) => h s
  | _ => .bad
def orK (h : O) (r : Rf) (s : Sg) : Res Rf := orK2 h s (rd r s)
@[simp] theorem ev_oOr (g h : O) (s : Sg) : oOr g h s = (g s).bind (orK h) := rfl
@[simp] theorem ev_orK (h : O) (r : Rf) (s : Sg) : orK h r s = orK2 h s (rd r s) := rfl
@[simp] theorem ev_orK2 (h : O) (s : Sg) (b : Bool) : orK2 h s (some (.bool b)) = if b = true then .ok (.val (.bool true)) s else h s := by cases b <;> rfl
def notK2 (s : Sg) : Option D → Res Rf
  | some (.bool b) => .ok (.val (.bool (!b))) s
  | _ => .bad
def notK (r : Rf) (s : Sg) : Res Rf := notK2 s (rd r s)
@[simp] theorem ev_oNot (g : O) (s : Sg) : oNot g s = (g s).bind notK := rfl
@[simp] theorem ev_notK (r : Rf) (s : Sg) : notK r s = notK2 s (rd r s) := rfl
@[simp] theorem ev_notK2 (s : Sg) (b : Bool) : notK2 s (some (.bool b)) = .ok (.val (.bool (!b))) s := rfl
def tAndK (u : T) (b : Bool) (s : Sg) : Res Bool := if b = true then u s else .ok false s
@[simp] theorem ev_tAnd (t u : T) (s : Sg) : tAnd t u s = (t s).bind (tAndK u) := rfl
@[simp] theorem ev_tAndK (u : T) (b : Bool) (s : Sg) : tAndK u b s = if b = true then u s else .ok false s := rfl
def tOrK (u : T) (b : Bool) (s : Sg) : Res Bool := if b = true then .ok true s else u s
@[simp] theorem ev_tOr (t u : T) (s : Sg) : tOr t u s = (t s).bind (tOrK u) := rfl
@[simp] theorem ev_tOrK (u : T) (b : Bool) (s : Sg) : tOrK u b s = if b = true then .ok true s else u s := rfl
def tNotK (b : Bool) (s : Sg) : Res Bool := .ok (!b) s
@[simp] theorem ev_tNot (t : T) (s : Sg) : tNot t s = (t s).bind tNotK := rfl
@[simp] theorem ev_tNotK (b : Bool) (s : Sg) : tNotK b s = .ok (!b) s := rfl
def oIfK (a b : O) (k : Bool) (s : Sg) : Res Rf := if k = true then a s else b s
@[simp] theorem ev_oIf (c : T) (a b : O) (s : Sg) : oIf c a b s = (c s).bind (oIfK a b) := rfl
@[simp] theorem ev_oIfK (a b : O) (k : Bool) (s : Sg) : oIfK a b k s = if k = true then a s else b s := rfl
def chK4 (s : Sg) : Option D → Res Rf
  | none => .bad
  | some d => .ok (.val d) s
def chK3 (f' : List D → Option D) (s : Sg) : Option (List D) → Res Rf
  | none => .bad
  | some es => chK4 s (f' es)
def chK2c (f' : List D → Option D) (rb rc : Rf) (s : Sg) : Res Rf := chK3 f' s (rds [rb, rc] s)
def chK2b (f' : List D → Option D) (c : O) (rb : Rf) (s : Sg) : Option D → Res Rf
  | some (.bool true) => (c s).bind (chK2c f' rb)
  | some (.bool false) => .ok (.val (.bool false)) s
  | _ => .bad
def chK2a (f f' : List D → Option D) (c : O) (rb : Rf) (s : Sg) : Option (List D) → Res Rf
  | none => .bad
  | some ds => chK2b f' c rb s (f ds)
def chK1 (f f' : List D → Option D) (c : O) (ra rb : Rf) (s : Sg) : Res Rf := chK2a f f' c rb s (rds [ra, rb] s)
def chK0 (f f' : List D → Option D) (b c : O) (ra : Rf) (s : Sg) : Res Rf := (b s).bind (chK1 f f' c ra)
@[simp] theorem ev_chain (f f' : List D → Option D) (a b c : O) (s : Sg) : oChain f f' a b c s = (a s).bind (chK0 f f' b c) := by
  unfold oChain; refine congrArg (Res.bind _) ?_; funext ra s1; unfold chK0; refine congrArg (Res.bind _) ?_; funext rb s2; unfold chK1 chK2a
  cases rds [ra, rb] s2 with
  | none => rfl
  | some ds =>
    show _ = chK2b f' c rb s2 (f ds)
    unfold chK2b
    cases hf : f ds with
    | none => simp [hf]
    | some d => cases d with
      | bool b => cases b with
        | false => simp [hf]
        | true =>
          simp only [hf]
          refine congrArg (Res.bind _) ?_; funext rc s3; unfold chK2c chK3
          cases rds [rb, rc] s3 with
          | none => rfl
          | some es => cases hg : f' es <;> simp [hg, chK4]
      | _ => simp [hf]
@[simp] theorem ev_chK0 (f f' : List D → Option D) (b c : O) (ra : Rf) (s : Sg) : chK0 f f' b c ra s = (b s).bind (chK1 f f' c ra) := rfl
@[simp] theorem ev_chK1 (f f' : List D → Option D) (c : O) (ra rb : Rf) (s : Sg) : chK1 f f' c ra rb s = chK2a f f' c rb s (rds [ra, rb] s) := rfl
@[simp] theorem ev_chK2a (f f' : List D → Option D) (c : O) (rb : Rf) (s : Sg) (ds : List D) : chK2a f f' c rb s (some ds) = chK2b f' c rb s (f ds) := rfl
@[simp] theorem ev_chK2b (f' : List D → Option D) (c : O) (rb : Rf) (s : Sg) (b : Bool) : chK2b f' c rb s (some (.bool b)) = if b = true then (c s).bind (chK2c f' rb) else .ok (.val (.bool false)) s := by cases b <;> rfl
@[simp] theorem ev_chK2c (f' : List D → Option D) (rb rc : Rf) (s : Sg) : chK2c f' rb rc s = chK3 f' s (rds [rb, rc] s) := rfl
@[simp] theorem ev_chK3 (f' : List D → Option D) (s : Sg) (ds : List D) : chK3 f' s (some ds) = chK4 s (f' ds) := rfl
@[simp] theorem ev_chK4 (s : Sg) (d : D) : chK4 s (some d) = .ok (.val d) s := rfl
def tupK2 (s : Sg) : Option (List D) → Res Rf
  | none => .bad
  | some ds => if ds.length ≤ 1000000 then .ok (.val (.tuple ds)) s else .bad
def tupK (rs : List Rf) (s : Sg) : Res Rf := tupK2 s (owns rs s)
@[simp] theorem ev_oTup (g : AL) (s : Sg) : oTup g s = (g s).bind tupK := rfl
@[simp] theorem ev_tupK (rs : List Rf) (s : Sg) : tupK rs s = tupK2 s (owns rs s) := rfl
@[simp] theorem ev_tupK2 (s : Sg) (ds : List D) : tupK2 s (some ds) = if ds.length ≤ 1000000 then .ok (.val (.tuple ds)) s else .bad := rfl
def lstK2 (s : Sg) : Option (List D) → Res Rf
  | none => .bad
  | some ds => if ds.length ≤ 1000000 then .ok (.val (.list ds)) s else .bad
def lstK (rs : List Rf) (s : Sg) : Res Rf := lstK2 s (owns rs s)
@[simp] theorem ev_oLst (g : AL) (s : Sg) : oLst g s = (g s).bind lstK := rfl
@[simp] theorem ev_lstK (rs : List Rf) (s : Sg) : lstK rs s = lstK2 s (owns rs s) := rfl
@[simp] theorem ev_lstK2 (s : Sg) (ds : List D) : lstK2 s (some ds) = if ds.length ≤ 1000000 then .ok (.val (.list ds)) s else .bad := rfl
def prtK2 (s : Sg) : Option D → Res (Option Int)
  | some (.int i) => .ok (some i) s
  | _ => .bad
def prtK (r : Rf) (s : Sg) : Res (Option Int) := prtK2 s (rd r s)
@[simp] theorem ev_prt_none (s : Sg) : prt none s = .ok none s := rfl
@[simp] theorem ev_prt_some (g : O) (s : Sg) : prt (some g) s = (g s).bind prtK := rfl
@[simp] theorem ev_prtK (r : Rf) (s : Sg) : prtK r s = prtK2 s (rd r s) := rfl
@[simp] theorem ev_prtK2 (s : Sg) (i : Int) : prtK2 s (some (.int i)) = .ok (some i) s := rfl
def slK5 (s : Sg) : Option D → Res Rf
  | none => .bad
  | some d => .ok (.val d) s
def slK4 (l u : Option Int) (s : Sg) : Option D → Res Rf
  | none => .bad
  | some d => slK5 s (slD d l u)
def slK3 (r : Rf) (l u : Option Int) (s : Sg) : Res Rf := slK4 l u s (rd r s)
def slK2 (hi : Option O) (r : Rf) (l : Option Int) (s : Sg) : Res Rf := (prt hi s).bind (slK3 r l)
def slK1 (lo hi : Option O) (r : Rf) (s : Sg) : Res Rf := (prt lo s).bind (slK2 hi r)
@[simp] theorem ev_oSl (g : O) (lo hi : Option O) (s : Sg) : oSl g lo hi s = (g s).bind (slK1 lo hi) := by
  unfold oSl; refine congrArg (Res.bind _) ?_; funext r s1; unfold slK1; refine congrArg (Res.bind _) ?_; funext l s2; unfold slK2; refine congrArg (Res.bind _) ?_; funext u s3; unfold slK3 slK4
  cases rd r s3 with
  | none => rfl
  | some d => cases h : slD d l u <;> simp [h, slK5]
@[simp] theorem ev_slK1 (lo hi : Option O) (r : Rf) (s : Sg) : slK1 lo hi r s = (prt lo s).bind (slK2 hi r) := rfl
@[simp] theorem ev_slK2 (hi : Option O) (r : Rf) (l : Option Int) (s : Sg) : slK2 hi r l s = (prt hi s).bind (slK3 r l) := rfl
@[simp] theorem ev_slK3 (r : Rf) (l u : Option Int) (s : Sg) : slK3 r l u s = slK4 l u s (rd r s) := rfl
@[simp] theorem ev_slK4 (d : D) (l u : Option Int) (s : Sg) : slK4 l u s (some d) = slK5 s (slD d l u) := rfl
@[simp] theorem ev_slK5 (d : D) (s : Sg) : slK5 s (some d) = .ok (.val d) s := rfl
def callK3 (rs : List Rf) (ds : List D) (s : Sg) : FRes → Res Rf
  | .ok r as => .ok (.val r) (unlockS (lkz rs ds as) (lockS (lks rs ds) s))
  | .exc c v => .exc c v s
  | .bad => .bad
def callK2 (f : Fn) (rs : List Rf) (s : Sg) : Option (List D) → Res Rf
  | none => .bad
  | some ds => if nodupB ((lks rs ds).map (·.1)) = true then callK3 rs ds s (f ds) else .bad
def callK (f : Fn) (rs : List Rf) (s : Sg) : Res Rf := callK2 f rs s (rds rs s)
@[simp] theorem ev_oCall (f : Fn) (g : AL) (s : Sg) : oCall f g s = (g s).bind (callK f) := by
  unfold oCall; refine congrArg (Res.bind _) ?_; funext rs s1; unfold callK callK2
  cases rds rs s1 with
  | none => rfl
  | some ds =>
    simp only
    split
    · cases h : f ds <;> simp [h, callK3]
    · rfl
@[simp] theorem ev_callK (f : Fn) (rs : List Rf) (s : Sg) : callK f rs s = callK2 f rs s (rds rs s) := rfl
@[simp] theorem ev_callK2 (f : Fn) (rs : List Rf) (s : Sg) (ds : List D) : callK2 f rs s (some ds) = if nodupB ((lks rs ds).map (·.1)) = true then callK3 rs ds s (f ds) else .bad := rfl
@[simp] theorem ev_callK3 (rs : List Rf) (ds : List D) (s : Sg) (r : D) (as : List D) : callK3 rs ds s (.ok r as) = .ok (.val r) (unlockS (lkz rs ds as) (lockS (lks rs ds) s)) := rfl
@[simp] theorem lks_nil : lks [] [] = [] := rfl
@[simp] theorem lks_slot (i : Nat) (rs : List Rf) (d : D) (ds : List D) : lks (.slot i :: rs) (d :: ds) = if pur d = true then lks rs ds else (i, d) :: lks rs ds := rfl
@[simp] theorem lks_val (x : D) (rs : List Rf) (d : D) (ds : List D) : lks (.val x :: rs) (d :: ds) = lks rs ds := rfl
@[simp] theorem lkz_nil : lkz [] [] [] = [] := rfl
@[simp] theorem lkz_slot (i : Nat) (rs : List Rf) (d : D) (ds : List D) (a : D) (as : List D) : lkz (.slot i :: rs) (d :: ds) (a :: as) = if pur d = true then lkz rs ds as else (i, a) :: lkz rs ds as := rfl
@[simp] theorem lkz_val (x : D) (rs : List Rf) (d : D) (ds : List D) (a : D) (as : List D) : lkz (.val x :: rs) (d :: ds) (a :: as) = lkz rs ds as := rfl
@[simp] theorem lockS_nil (s : Sg) : lockS [] s = s := rfl
@[simp] theorem lockS_cons (p : Nat × D) (l : List (Nat × D)) (s : Sg) : lockS (p :: l) s = lockS l (s.set p.1 none) := rfl
@[simp] theorem unlockS_nil (s : Sg) : unlockS [] s = s := rfl
@[simp] theorem unlockS_cons (p : Nat × D) (l : List (Nat × D)) (s : Sg) : unlockS (p :: l) s = unlockS l (s.set p.1 (some p.2)) := rfl
@[simp] theorem nodupB_nil : nodupB [] = true := rfl
@[simp] theorem ev_nodupB (x : Nat) (l : List Nat) : nodupB (x :: l) = (!l.contains x && nodupB l) := rfl
@[simp] theorem clrS_nil (s : Sg) : clrS [] s = s := rfl
@[simp] theorem clrS_cons (v : Nat) (vs : List Nat) (s : Sg) : clrS (v :: vs) s = (clrS vs s).set v none := rfl
def ownSlK (v : Nat) (l : List (Nat × D)) : Option D → List (Nat × D)
  | some d => (v, d) :: l
  | none => l
@[simp] theorem ownSl_nil (s : Sg) : ownSl [] s = [] := rfl
@[simp] theorem ownSl_cons (v : Nat) (vs : List Nat) (s : Sg) : ownSl (v :: vs) s = ownSlK v (ownSl vs s) (s[v]?).join := by
  unfold ownSlK; rw [ownSl] <;> try (cases (s[v]?).join <;> rfl)
@[simp] theorem ownSlK_some (v : Nat) (l : List (Nat × D)) (d : D) : ownSlK v l (some d) = (v, d) :: l := rfl
@[simp] theorem ownSlK_none (v : Nat) (l : List (Nat × D)) : ownSlK v l none = l := rfl
def mtK4 (i : Nat) (s : Sg) : Option (List D × D) → Res Rf
  | some (ds', d) => if pur d = true then .ok (.val d) (s.set i (some (.list ds'))) else .bad
  | none => .bad
def mtK3 (f : List D → List D → Option (List D × D)) (i : Nat) (s : Sg) : Option D → Option (List D) → Res Rf
  | some (.list ds), some as => mtK4 i s (f ds as)
  | _, _ => .bad
def mtK2 (f : List D → List D → Option (List D × D)) (i : Nat) (rs : List Rf) (s : Sg) : Res Rf := mtK3 f i s (s[i]?).join (owns rs s)
def mtK1 (f : List D → List D → Option (List D × D)) (i : Nat) (g : AL) (s : Sg) : Option D → Res Rf
  | some (.list _) => (g s).bind (mtK2 f i)
  | _ => .bad
def mtK (f : List D → List D → Option (List D × D)) (i : Nat) (g : AL) (_ : Rf) (s : Sg) : Res Rf := mtK1 f i g s (s[i]?).join
@[simp] theorem ev_oMt (f : List D → List D → Option (List D × D)) (i : Nat) (g : AL) (s : Sg) : oMt f i g s = (oV i s).bind (mtK f i g) := by
  unfold oMt; refine congrArg (Res.bind _) ?_; funext r s1; unfold mtK
  cases h : (s1[i]?).join with
  | none => rfl
  | some d => cases d with
    | list ds =>
      refine congrArg (Res.bind (g s1)) ?_
      funext rs s2; unfold mtK2
      cases h1 : (s2[i]?).join with
      | none => rfl
      | some d2 => cases d2 with
        | list ds2 => cases h2 : owns rs s2 with
          | none => rfl
          | some as => cases hf : f ds2 as <;> simp [hf, mtK3, mtK4]
        | _ => rfl
    | _ => rfl
@[simp] theorem ev_mtK (f : List D → List D → Option (List D × D)) (i : Nat) (g : AL) (r : Rf) (s : Sg) : mtK f i g r s = mtK1 f i g s (s[i]?).join := rfl
@[simp] theorem ev_mtK1 (f : List D → List D → Option (List D × D)) (i : Nat) (g : AL) (ds : List D) (s : Sg) : mtK1 f i g s (some (.list ds)) = (g s).bind (mtK2 f i) := rfl
@[simp] theorem ev_mtK2 (f : List D → List D → Option (List D × D)) (i : Nat) (rs : List Rf) (s : Sg) : mtK2 f i rs s = mtK3 f i s (s[i]?).join (owns rs s) := rfl
@[simp] theorem ev_mtK3 (f : List D → List D → Option (List D × D)) (i : Nat) (s : Sg) (ds as : List D) : mtK3 f i s (some (.list ds)) (some as) = mtK4 i s (f ds as) := rfl
@[simp] theorem ev_mtK4 (i : Nat) (s : Sg) (ds : List D) (d : D) : mtK4 i s (some (ds, d)) = if pur d = true then .ok (.val d) (s.set i (some (.list ds))) else .bad := rfl
@[simp] theorem ev_sSkip (s : Sg) : sSkip s = .ok .nx s := rfl
@[simp] theorem ev_sBreak (s : Sg) : sBreak s = .ok .bk s := rfl
@[simp] theorem ev_sCont (s : Sg) : sCont s = .ok .ct s := rfl
@[simp] theorem ev_sRetN (s : Sg) : sRetN s = .ok (.rt .none) s := rfl
def seqK (h : S) (fl : Fl) (s : Sg) : Res Fl := match fl with
  | .nx => h s
  | fl => .ok fl s
@[simp] theorem ev_sSeq (g h : S) (s : Sg) : sSeq g h s = (g s).bind (seqK h) := rfl
@[simp] theorem ev_seqK_nx (h : S) (s : Sg) : seqK h .nx s = h s := rfl
@[simp] theorem ev_seqK_rt (h : S) (d : D) (s : Sg) : seqK h (.rt d) s = .ok (.rt d) s := rfl
@[simp] theorem ev_seqK_bk (h : S) (s : Sg) : seqK h .bk s = .ok .bk s := rfl
@[simp] theorem ev_seqK_ct (h : S) (s : Sg) : seqK h .ct s = .ok .ct s := rfl
def exprK (_ : Rf) (s : Sg) : Res Fl := .ok .nx s
@[simp] theorem ev_sExpr (g : O) (s : Sg) : sExpr g s = (g s).bind exprK := rfl
@[simp] theorem ev_exprK (r : Rf) (s : Sg) : exprK r s = .ok .nx s := rfl
def retK2 (lk : Nat → Bool) (i : Nat) (s : Sg) : Option D → Res Fl
  | none => .bad
  | some d => if pur d = true ∨ lk i = false then .ok (.rt d) s else .bad
def retK (lk : Nat → Bool) (r : Rf) (s : Sg) : Res Fl := match r with
  | .val d => .ok (.rt d) s
  | .slot i => retK2 lk i s (s[i]?).join
@[simp] theorem ev_sRet (lk : Nat → Bool) (g : O) (s : Sg) : sRet lk g s = (g s).bind (retK lk) := by
  unfold sRet; refine congrArg (Res.bind _) ?_; funext r s1; cases r <;> rfl
@[simp] theorem ev_retK_val (lk : Nat → Bool) (d : D) (s : Sg) : retK lk (.val d) s = .ok (.rt d) s := rfl
@[simp] theorem ev_retK_slot (lk : Nat → Bool) (i : Nat) (s : Sg) : retK lk (.slot i) s = retK2 lk i s (s[i]?).join := rfl
@[simp] theorem ev_retK2 (lk : Nat → Bool) (i : Nat) (s : Sg) (d : D) : retK2 lk i s (some d) = if pur d = true ∨ lk i = false then .ok (.rt d) s else .bad := rfl
def ifK (g h : S) (b : Bool) (s : Sg) : Res Fl := if b = true then g s else h s
@[simp] theorem ev_sIf (t : T) (g h : S) (s : Sg) : sIf t g h s = (t s).bind (ifK g h) := rfl
@[simp] theorem ev_ifK (g h : S) (b : Bool) (s : Sg) : ifK g h b s = if b = true then g s else h s := rfl
def asgK3 : Option Sg → Res Fl
  | none => .bad
  | some s => .ok .nx s
def asgK2 (t : Tg) (s : Sg) : Option D → Res Fl
  | none => .bad
  | some d => asgK3 (asg t d s)
def asgK (t : Tg) (r : Rf) (s : Sg) : Res Fl := asgK2 t s (own r s)
@[simp] theorem ev_sAsg (t : Tg) (g : O) (s : Sg) : sAsg t g s = (g s).bind (asgK t) := by
  unfold sAsg; refine congrArg (Res.bind _) ?_; funext r s1; unfold asgK asgK2
  cases own r s1 with
  | none => rfl
  | some d => cases h : asg t d s1 <;> simp [h, asgK3]
@[simp] theorem ev_sSet (i : Nat) (g : O) (s : Sg) : sSet i g s = (g s).bind (asgK (.nm i)) := ev_sAsg _ _ _
@[simp] theorem ev_asgK (t : Tg) (r : Rf) (s : Sg) : asgK t r s = asgK2 t s (own r s) := rfl
@[simp] theorem ev_asgK2 (t : Tg) (d : D) (s : Sg) : asgK2 t s (some d) = asgK3 (asg t d s) := rfl
@[simp] theorem ev_asgK3 (s : Sg) : asgK3 (some s) = .ok .nx s := rfl
@[simp] theorem asg_nm (i : Nat) (d : D) (s : Sg) : asg (.nm i) d s = some (s.set i (some d)) := by simp [asg]
@[simp] theorem asg_tp (l : List Tg) (ds : List D) (s : Sg) : asg (.tp l) (.tuple ds) s = asgs l ds s := by simp [asg]
@[simp] theorem asgs_nil (s : Sg) : asgs [] [] s = some s := by simp [asgs]
def asgsK (l : List Tg) (ds : List D) : Option Sg → Option Sg
  | none => none
  | some s => asgs l ds s
@[simp] theorem asgs_cons (t : Tg) (l : List Tg) (d : D) (ds : List D) (s : Sg) : asgs (t :: l) (d :: ds) s = asgsK l ds (asg t d s) := by
  rw [asgs]; unfold asgsK; cases asg t d s <;> rfl
@[simp] theorem asgsK_some (l : List Tg) (ds : List D) (s : Sg) : asgsK l ds (some s) = asgs l ds s := rfl
def ixK4 (i : Nat) (d : D) (ds : List D) (s : Sg) : Option Nat → Res Fl
  | none => .bad
  | some j => .ok .nx (s.set i (some (.list (ds.set j d))))
def ixK3 (i : Nat) (s : Sg) : Option D → Option D → Option D → Res Fl
  | some d, some (.int k), some (.list ds) => if pur d = true then ixK4 i d ds s (ixN ds.length k) else .bad
  | _, _, _ => .bad
def ixK2 (i : Nat) (r : Rf) (ri : Rf) (s : Sg) : Res Fl := ixK3 i s (own r s) (rd ri s) (s[i]?).join
def ixK1 (i : Nat) (gi : O) (r : Rf) (_ : Rf) (s : Sg) : Res Fl := (gi s).bind (ixK2 i r)
def ixK (i : Nat) (gi : O) (r : Rf) (s : Sg) : Res Fl := (oV i s).bind (ixK1 i gi r)
@[simp] theorem ev_sSetIx (i : Nat) (gi g : O) (s : Sg) : sSetIx i gi g s = (g s).bind (ixK i gi) := by
  unfold sSetIx; refine congrArg (Res.bind _) ?_; funext r s1; unfold ixK; refine congrArg (Res.bind _) ?_; funext r2 s2; unfold ixK1; refine congrArg (Res.bind _) ?_; funext ri s3; unfold ixK2
  cases h1 : own r s3 with
  | none => rfl
  | some d => cases h2 : rd ri s3 with
    | none => rfl
    | some k => cases k with
      | int k => cases h3 : (s3[i]?).join with
        | none => rfl
        | some ds => cases ds with
          | list ds => cases h4 : ixN ds.length k <;> simp [h4, ixK3, ixK4]
          | _ => rfl
      | _ => rfl
@[simp] theorem ev_ixK (i : Nat) (gi : O) (r : Rf) (s : Sg) : ixK i gi r s = (oV i s).bind (ixK1 i gi r) := rfl
@[simp] theorem ev_ixK1 (i : Nat) (gi : O) (r r2 : Rf) (s : Sg) : ixK1 i gi r r2 s = (gi s).bind (ixK2 i r) := rfl
@[simp] theorem ev_ixK2 (i : Nat) (r ri : Rf) (s : Sg) : ixK2 i r ri s = ixK3 i s (own r s) (rd ri s) (s[i]?).join := rfl
@[simp] theorem ev_ixK3 (i : Nat) (s : Sg) (d : D) (k : Int) (ds : List D) : ixK3 i s (some d) (some (.int k)) (some (.list ds)) = if pur d = true then ixK4 i d ds s (ixN ds.length k) else .bad := rfl
@[simp] theorem ev_ixK4 (i : Nat) (s : Sg) (d : D) (j : Nat) (ds : List D) : ixK4 i d ds s (some j) = .ok .nx (s.set i (some (.list (ds.set j d)))) := rfl
def mkK2 (fl : Fl) : Option (List D) → FRes
  | none => .bad
  | some as => match fl with
    | .nx => .ok .none as
    | .rt d => .ok d as
    | _ => .bad
def mkK (ms : List Nat) (ds : List D) : Res Fl → FRes
  | .ok fl s => mkK2 fl (coll ms ds 0 s)
  | .exc c v _ => .exc c v
  | .bad => .bad
theorem ev_mkFn (ms : List Nat) (n : Nat) (g : S) (ds : List D) : mkFn ms n g ds = if okM ms ds = true then mkK ms ds (g (ds.map some ++ List.replicate (n - ds.length) none)) else .bad := by
  unfold mkFn
  split
  · unfold mkK
    cases g (ds.map some ++ List.replicate (n - ds.length) none) with
    | ok fl s =>
      simp only
      cases h : coll ms ds 0 s with
      | none => simp [h, mkK2]
      | some as => cases fl <;> simp [h, mkK2]
    | exc c v s => rfl
    | bad => rfl
  · rfl
@[simp] theorem ev_mkK (ms : List Nat) (ds : List D) (fl : Fl) (s : Sg) : mkK ms ds (.ok fl s) = mkK2 fl (coll ms ds 0 s) := rfl
@[simp] theorem ev_mkK2_rt (d : D) (as : List D) : mkK2 (.rt d) (some as) = .ok d as := rfl
@[simp] theorem ev_mkK2_nx (as : List D) : mkK2 .nx (some as) = .ok .none as := rfl
@[simp] theorem coll_nil (j : Nat) (s : Sg) : coll [] [] j s = some [] := rfl
def collK0 (a : Option D) (b : Option (List D)) : Option (List D) := match b with
  | none => none
  | some as => match a with
    | none => none
    | some d' => some (d' :: as)
@[simp] theorem coll_0 (ms : List Nat) (d : D) (ds : List D) (j : Nat) (s : Sg) : coll (0 :: ms) (d :: ds) j s = collK0 (s[j]?).join (coll ms ds (j + 1) s) := by
  rw [coll]; unfold collK0; cases coll ms ds (j + 1) s <;> rfl
@[simp] theorem coll_1 (ms : List Nat) (d : D) (ds : List D) (j : Nat) (s : Sg) : coll (1 :: ms) (d :: ds) j s = collK0 (some d) (coll ms ds (j + 1) s) := by
  rw [coll]; unfold collK0; cases coll ms ds (j + 1) s <;> rfl
@[simp] theorem collK0_some (d : D) (as : List D) : collK0 (some d) (some as) = some (d :: as) := rfl
@[simp] theorem okM_nil : okM [] [] = true := rfl
@[simp] theorem okM_cons (m : Nat) (ms : List Nat) (d : D) (ds : List D) : okM (m :: ms) (d :: ds) = ((m == 0 || pur d) && okM ms ds) := rfl
def mkIK3 (rs : List Rf) (ds : List D) (s : Sg) : Option (List D) → Res (List D × List (Nat × D))
  | none => .bad
  | some es => if purs es = true ∧ nodupB ((lks rs ds).map (·.1)) = true then .ok (es, lks rs ds) (lockS (lks rs ds) s) else .bad
def mkIK2 (itm : List D → Option (List D)) (rs : List Rf) (s : Sg) : Option (List D) → Res (List D × List (Nat × D))
  | none => .bad
  | some ds => mkIK3 rs ds s (itm ds)
def mkIK (itm : List D → Option (List D)) (rs : List Rf) (s : Sg) : Res (List D × List (Nat × D)) := mkIK2 itm rs s (rds rs s)
@[simp] theorem ev_mkI (itm : List D → Option (List D)) (g : AL) (s : Sg) : mkI itm g s = (g s).bind (mkIK itm) := by
  unfold mkI; refine congrArg (Res.bind _) ?_; funext rs s1; unfold mkIK mkIK2
  cases rds rs s1 with
  | none => rfl
  | some ds => cases h : itm ds <;> simp [h, mkIK3]
@[simp] theorem ev_mkIK (itm : List D → Option (List D)) (rs : List Rf) (s : Sg) : mkIK itm rs s = mkIK2 itm rs s (rds rs s) := rfl
@[simp] theorem ev_mkIK2 (itm : List D → Option (List D)) (rs : List Rf) (s : Sg) (ds : List D) : mkIK2 itm rs s (some ds) = mkIK3 rs ds s (itm ds) := rfl
@[simp] theorem ev_mkIK3 (rs : List Rf) (ds : List D) (s : Sg) (es : List D) : mkIK3 rs ds s (some es) = if purs es = true ∧ nodupB ((lks rs ds).map (·.1)) = true then .ok (es, lks rs ds) (lockS (lks rs ds) s) else .bad := rfl
def forK2 (l : List (Nat × D)) (fl : Fl) (s : Sg) : Res Fl := .ok fl (unlockS l s)
def forK (lk : Nat → Bool) (t : Tg) (g : S) (p : List D × List (Nat × D)) (s : Sg) : Res Fl := if (p.2.all fun q => lk q.1) = true then (loopS t g p.1 s).bind (forK2 p.2) else .bad
@[simp] theorem ev_sFor (lk : Nat → Bool) (it : I) (t : Tg) (g : S) (s : Sg) : sFor lk it t g s = (it s).bind (forK lk t g) := rfl
@[simp] theorem ev_forK (lk : Nat → Bool) (t : Tg) (g : S) (es : List D) (l : List (Nat × D)) (s : Sg) : forK lk t g (es, l) s = if (l.all fun q => lk q.1) = true then (loopS t g es s).bind (forK2 l) else .bad := rfl
@[simp] theorem ev_forK2 (l : List (Nat × D)) (fl : Fl) (s : Sg) : forK2 l fl s = .ok fl (unlockS l s) := rfl
def compK2 (l : List (Nat × D)) (acc : List D) (s : Sg) : Res Rf := .ok (.val (.list acc)) (unlockS l s)
def compK (t : Tg) (c : T) (e : O) (vs : List Nat) (p : List D × List (Nat × D)) (s : Sg) : Res Rf :=
  if nodupB ((ownSl vs s).map (·.1)) = true then (compL t c e vs p.1 [] (clrS vs (lockS (ownSl vs s) s))).bind (compK2 (ownSl vs s ++ p.2)) else .bad
@[simp] theorem ev_oComp (it : I) (t : Tg) (c : T) (e : O) (vs : List Nat) (s : Sg) : oComp it t c e vs s = (it s).bind (compK t c e vs) := rfl
@[simp] theorem ev_compK (t : Tg) (c : T) (e : O) (vs : List Nat) (es : List D) (l : List (Nat × D)) (s : Sg) : compK t c e vs (es, l) s =
  if nodupB ((ownSl vs s).map (·.1)) = true then (compL t c e vs es [] (clrS vs (lockS (ownSl vs s) s))).bind (compK2 (ownSl vs s ++ l)) else .bad := rfl
@[simp] theorem ev_compK2 (l : List (Nat × D)) (acc : List D) (s : Sg) : compK2 l acc s = .ok (.val (.list acc)) (unlockS l s) := rfl
@[simp] theorem ev_tYes (s : Sg) : tYesT s = .ok true s := rfl
@[simp] theorem ev_add (a b : Int) : pAdd [.int a, .int b] = some (.int (a + b)) := rfl
@[simp] theorem ev_addL (a b : List D) : pAdd [.list a, .list b] = if a.length + b.length ≤ 1000000 ∧ purs a = true ∧ purs b = true then some (.list (a ++ b)) else none := rfl
@[simp] theorem ev_addT (a b : List D) : pAdd [.tuple a, .tuple b] = if a.length + b.length ≤ 1000000 ∧ purs a = true ∧ purs b = true then some (.tuple (a ++ b)) else none := rfl
@[simp] theorem ev_sub (a b : Int) : pSub [.int a, .int b] = some (.int (a - b)) := rfl
@[simp] theorem ev_mul (a b : Int) : pMul [.int a, .int b] = if mulOk a b = true then some (.int (a * b)) else none := rfl
@[simp] theorem ev_div (a b : Int) : pDiv [.int a, .int b] = if 0 < b ∧ b.natAbs.log2 < 9000 then some (.int (a / b)) else none := rfl
@[simp] theorem ev_mod (a b : Int) : pMod [.int a, .int b] = if 0 < b then some (.int (a % b)) else none := rfl
@[simp] theorem ev_pow (a b : Int) : pPow [.int a, .int b] = if 0 ≤ b ∧ b ≤ 1000000 ∧ a.natAbs < 2 ^ 64 then some (.int (a ^ b.toNat)) else none := rfl
@[simp] theorem ev_shl (a b : Int) : pShl [.int a, .int b] = if 0 ≤ b ∧ b ≤ 1000000 ∧ a.natAbs < 2 ^ 64 then some (.int (a * 2 ^ b.toNat)) else none := rfl
@[simp] theorem ev_neg (a : Int) : pNeg [.int a] = some (.int (-a)) := rfl
@[simp] theorem ev_lt (a b : Int) : pLt [.int a, .int b] = some (.bool (decide (a < b))) := rfl
@[simp] theorem ev_le (a b : Int) : pLe [.int a, .int b] = some (.bool (decide (a ≤ b))) := rfl
@[simp] theorem ev_gt (a b : Int) : pGt [.int a, .int b] = some (.bool (decide (b < a))) := rfl
@[simp] theorem ev_ge (a b : Int) : pGe [.int a, .int b] = some (.bool (decide (b ≤ a))) := rfl
@[simp] theorem ev_eq (a b : D) : pEq [a, b] = if shp a = true ∧ shp b = true then some (.bool (PyData.eqv a b)) else none := rfl
@[simp] theorem ev_ne (a b : D) : pNe [a, b] = if shp a = true ∧ shp b = true then some (.bool (!PyData.eqv a b)) else none := rfl
@[simp] theorem ev_isB (a b : Bool) : pIsN [.bool a, .bool b] = some (.bool (decide (a = b))) := rfl
@[simp] theorem ev_notB (a b : Bool) : pNotN [.bool a, .bool b] = some (.bool (!decide (a = b))) := rfl
@[simp] theorem ev_isN (a : D) : pIsN [a, .none] = some (.bool (isN a)) := rfl
@[simp] theorem ev_notN (a : D) : pNotN [a, .none] = some (.bool (!isN a)) := rfl
@[simp] theorem ev_inT (a : D) (b : List D) : pIn [a, .tuple b] = if pIn.fl a = true ∧ b.all pIn.fl = true then some (.bool (b.any fun z => PyData.eqv z a)) else none := by cases a <;> rfl
@[simp] theorem ev_ixL (ds : List D) (i : Int) : pIx [.list ds, .int i] = puO (atI ds i) := rfl
@[simp] theorem ev_ixT (ds : List D) (i : Int) : pIx [.tuple ds, .int i] = puO (atI ds i) := rfl
@[simp] theorem ev_ixF (ds : List D) (i : Int) : pIx [.dict [(.none, .list ds)], .int i] = puO (atI ds i) := rfl
@[simp] theorem ev_puO (d : D) : puO (some d) = if pur d = true then some d else none := rfl
@[simp] theorem ev_slL (ds : List D) (l u : Option Int) : slD (.list ds) l u = if purs ds = true then some (.list (cutL ds l u)) else none := rfl
@[simp] theorem ev_slT (ds : List D) (l u : Option Int) : slD (.tuple ds) l u = if purs ds = true then some (.tuple (cutL ds l u)) else none := rfl
@[simp] theorem ev_slF (ds : List D) (l u : Option Int) : slD (.dict [(.none, .list ds)]) l u = some (.list (cutL ds l u)) := rfl
@[simp] theorem ev_lenL (ds : List D) : pLen [.list ds] = some (.int ds.length) := rfl
@[simp] theorem ev_lenT (ds : List D) : pLen [.tuple ds] = some (.int ds.length) := rfl
@[simp] theorem ev_lenF (ds : List D) : pLen [.dict [(.none, .list ds)]] = some (.int ds.length) := rfl
@[simp] theorem ev_abs (i : Int) : pAbs [.int i] = some (.int (if i < 0 then -i else i)) := rfl
@[simp] theorem ev_intI (i : Int) : pInt [.int i] = some (.int i) := rfl
@[simp] theorem ev_intB (k : Bool) : pInt [.bool k] = some (.int (if k then 1 else 0)) := rfl
@[simp] theorem ev_max2 (i j : Int) : pMax2 [.int i, .int j] = some (.int (max i j)) := rfl
@[simp] theorem ev_min2 (i j : Int) : pMin2 [.int i, .int j] = some (.int (min i j)) := rfl
@[simp] theorem ev_tupL (ds : List D) : pTuple [.list ds] = if purs ds = true then some (.tuple ds) else none := rfl
@[simp] theorem ev_tupT (ds : List D) : pTuple [.tuple ds] = if purs ds = true then some (.tuple ds) else none := rfl
@[simp] theorem ev_lstL (ds : List D) : pList [.list ds] = if purs ds = true then some (.list ds) else none := rfl
@[simp] theorem ev_lstT (ds : List D) : pList [.tuple ds] = if purs ds = true then some (.list ds) else none := rfl
@[simp] theorem ev_divmod (i j : Int) : pDivmod [.int i, .int j] = if 0 < j ∧ j < 1000000 then some (.tuple [.int (i / j), .int (i % j)]) else none := rfl
@[simp] theorem bools_map {α : Type} (f : α → Bool) (l : List α) : bools (l.map fun a => .bool (f a)) = some (l.map f) := by
  induction l with
  | nil => rfl
  | cons a l ih => simp [bools, ih]
@[simp] theorem intsD_map {α : Type} (f : α → Int) (l : List α) : intsD (l.map fun a => .int (f a)) = some (l.map f) := by
  induction l with
  | nil => rfl
  | cons a l ih => simp [intsD, ih]
@[simp] theorem intsD_int (l : List Int) : intsD (l.map .int) = some l := by
  induction l with
  | nil => rfl
  | cons a l ih => simp [intsD, ih]
@[simp] theorem ev_all (ds : List D) : pAll [.list ds] = (bools ds).map fun bs => .bool (bs.all id) := rfl
@[simp] theorem ev_any (ds : List D) : pAny [.list ds] = (bools ds).map fun bs => .bool (bs.any id) := rfl
@[simp] theorem ev_sumL (ds : List D) : pSum [.list ds] = (intsD ds).map fun ns => .int ns.sum := rfl
@[simp] theorem ev_sumT (ds : List D) : pSum [.tuple ds] = (intsD ds).map fun ns => .int ns.sum := rfl
theorem ev_max1L (ds : List D) (ns : List Int) (h : intsD ds = some ns) (h2 : ns ≠ []) : pMax1 [.list ds] = some (.int (maxL ns)) := by
  unfold pMax1 intsOf seqOf; simp only [h]; cases ns with
  | nil => exact absurd rfl h2
  | cons a l => rfl
theorem ev_max1T (ds : List D) (ns : List Int) (h : intsD ds = some ns) (h2 : ns ≠ []) : pMax1 [.tuple ds] = some (.int (maxL ns)) := by
  unfold pMax1 intsOf seqOf; simp only [h]; cases ns with
  | nil => exact absurd rfl h2
  | cons a l => rfl
theorem ev_min1L (ds : List D) (ns : List Int) (h : intsD ds = some ns) (h2 : ns ≠ []) : pMin1 [.list ds] = some (.int (minL ns)) := by
  unfold pMin1 intsOf seqOf; simp only [h]; cases ns with
  | nil => exact absurd rfl h2
  | cons a l => rfl
theorem ev_min1T (ds : List D) (ns : List Int) (h : intsD ds = some ns) (h2 : ns ≠ []) : pMin1 [.tuple ds] = some (.int (minL ns)) := by
  unfold pMin1 intsOf seqOf; simp only [h]; cases ns with
  | nil => exact absurd rfl h2
  | cons a l => rfl
@[simp] theorem ev_itPL (ds : List D) : itP [.list ds] = some ds := rfl
@[simp] theorem ev_itPT (ds : List D) : itP [.tuple ds] = some ds := rfl
@[simp] theorem ev_itPF (ds : List D) : itP [.dict [(.none, .list ds)]] = some ds := rfl
@[simp] theorem ev_itEL (ds : List D) : itE [.list ds] = some (enumD 0 ds) := rfl
@[simp] theorem ev_itET (ds : List D) : itE [.tuple ds] = some (enumD 0 ds) := rfl
@[simp] theorem ev_itEF (ds : List D) : itE [.dict [(.none, .list ds)]] = some (enumD 0 ds) := rfl
@[simp] theorem purs_enumD (n : Nat) (ds : List D) : purs (enumD n ds) = purs ds := enumD_purs n ds
@[simp] theorem purs_rngD (lo : Int) (n : Nat) : purs (rngD lo n) = true := by unfold rngD; exact purs_map _ _
@[simp] theorem ev_itR1 (j : Int) : itR1 [.int j] = if -1000000 < j ∧ j < 1000000 then some (rngD 0 j.toNat) else none := rfl
@[simp] theorem ev_itR2 (i j : Int) : itR2 [.int i, .int j] = if -1000000 < i ∧ i < 1000000 ∧ -1000000 < j ∧ j < 1000000 then some (rngD i (j - i).toNat) else none := rfl
@[simp] theorem ev_itZLL (a b : List D) : itZ [.list a, .list b] = some (zipD a b) := rfl
@[simp] theorem ev_itZTT (a b : List D) : itZ [.tuple a, .tuple b] = some (zipD a b) := rfl
@[simp] theorem ev_itZLT (a b : List D) : itZ [.list a, .tuple b] = some (zipD a b) := rfl
@[simp] theorem ev_itZTL (a b : List D) : itZ [.tuple a, .list b] = some (zipD a b) := rfl
@[simp] theorem ev_mApp (ds : List D) (d : D) : mApp ds [d] = if ds.length < 1000000 then some (ds ++ [d], .none) else none := rfl
@[simp] theorem ev_isi (k : Kd) (d : D) : pIsi k [d] = if okD d = true then some (.bool (isK k d)) else none := rfl
@[simp] theorem lkM_eq (ms : List Nat) (i : Nat) : lkM ms i = (ms[i]? == some 0) := rfl
@[simp] theorem lkp_eq (is : List Nat) (lk : Nat → Bool) (i : Nat) : lkp is lk i = (is.contains i || lk i) := rfl
@[simp] theorem eqv_int (a b : Int) : PyData.eqv (.int a) (.int b) = decide (a = b) := by
  first | rfl | simp [PyData.eqv] | (unfold PyData.eqv; simp)
@[simp] theorem eqv_bool (a b : Bool) : PyData.eqv (.bool a) (.bool b) = decide (a = b) := by
  first | (cases a <;> cases b <;> rfl) | simp [PyData.eqv]
end Sim
namespace Sim
open PySem PySem.Spec L2
theorem lay_ints : ∀ ns : List Int, PyData.canLayAll0 (ns.map PyData.int) = true
  | [] => rfl
  | _ :: r => by simp [PyData.canLayAll0, PyData.canLay0, lay_ints r]
theorem depth_ints : ∀ ns : List Int, PyData.depthAll (ns.map PyData.int) = 0
  | [] => rfl
  | _ :: r => by simp [PyData.depthAll, PyData.depth, depth_ints r]
theorem noD_ints : ∀ ns : List Int, noDs (ns.map PyData.int) = true
  | [] => rfl
  | _ :: r => by simp [noDs, noD, noD_ints r]
@[simp] theorem shp_int (i : Int) : shp (.int i) = true := by simp [shp, SeqAt.shaped, PyData.canLay0, PyData.depth, noD]
@[simp] theorem shp_bool (i : Bool) : shp (.bool i) = true := by simp [shp, SeqAt.shaped, PyData.canLay0, PyData.depth, noD]
@[simp] theorem shp_tupI (ns : List Int) : shp (.tuple (ns.map PyData.int)) = true := by
  simp [shp, SeqAt.shaped, PyData.canLay0, PyData.depth, lay_ints, depth_ints, noD, noD_ints]
@[simp] theorem shp_lstI (ns : List Int) : shp (.list (ns.map PyData.int)) = true := by
  simp [shp, SeqAt.shaped, PyData.canLay0, PyData.depth, lay_ints, depth_ints, noD, noD_ints]
theorem eqvAll_ints : ∀ ns ms : List Int, PyData.eqvAll (ns.map PyData.int) (ms.map PyData.int) = decide (ns = ms)
  | [], [] => by simp [PyData.eqvAll]
  | [], _ :: _ => by simp [PyData.eqvAll]
  | _ :: _, [] => by simp [PyData.eqvAll]
  | a :: r, b :: t => by
    simp only [List.map_cons, PyData.eqvAll, eqv_int, eqvAll_ints r t]
    by_cases h : a = b <;> by_cases h' : r = t <;> simp [h, h']
@[simp] theorem eqv_tupI (ns ms : List Int) : PyData.eqv (.tuple (ns.map PyData.int)) (.tuple (ms.map PyData.int)) = decide (ns = ms) := by
  simp only [PyData.eqv]; exact eqvAll_ints ns ms
@[simp] theorem eqv_lstI (ns ms : List Int) : PyData.eqv (.list (ns.map PyData.int)) (.list (ms.map PyData.int)) = decide (ns = ms) := by
  simp only [PyData.eqv]; exact eqvAll_ints ns ms
@[simp] theorem cutL_to {α : Type} (xs : List α) (n : Nat) : cutL xs none (some (n : Int)) = xs.take n := by
  unfold cutL
  rw [HT.sIx_nat, HT.sIx_none, Nat.sub_zero, List.drop_zero]
  rcases Nat.le_total n xs.length with h | h
  · rw [Nat.min_eq_left h]
  · rw [Nat.min_eq_right h, List.take_length, List.take_of_length_le h]
@[simp] theorem cutL_from {α : Type} (xs : List α) (n : Nat) : cutL xs (some (n : Int)) none = xs.drop n := by
  unfold cutL
  rw [HT.sIx_nat, HT.sIx_none]
  rcases Nat.le_total n xs.length with h | h
  · rw [Nat.min_eq_left h, List.take_of_length_le (by simp)]
  · rw [Nat.min_eq_right h, Nat.sub_self, List.take_zero, List.drop_of_length_le h]
/-- a number's length in bits is small -/
theorem log2_lt {n : Nat} {k : Nat} (h : n < 2 ^ k) (hk : 0 < k) : n.log2 < k := by
  by_cases h0 : n = 0
  · subst h0; simpa using hk
  · exact (Nat.log2_lt h0).mpr h
theorem mulOk_l {a b : Int} (h1 : -(2 ^ 64) < a) (h2 : a < 2 ^ 64) : mulOk a b = true := by unfold mulOk; simp only [decide_eq_true h1, decide_eq_true h2, Bool.and_self, Bool.true_or, Bool.or_true]
theorem mulOk_r {a b : Int} (h1 : -(2 ^ 64) < b) (h2 : b < 2 ^ 64) : mulOk a b = true := by unfold mulOk; simp only [decide_eq_true h1, decide_eq_true h2, Bool.and_self, Bool.true_or, Bool.or_true]
@[simp] theorem loop_nil (t : Tg) (g : S) (s : Sg) : loopS t g [] s = .ok .nx s := rfl
def loopK2 (t : Tg) (g : S) (ds : List D) (fl : Fl) (s : Sg) : Res Fl := match fl with
  | .nx => loopS t g ds s
  | .ct => loopS t g ds s
  | .bk => .ok .nx s
  | .rt d => .ok (.rt d) s
def loopK1 (t : Tg) (g : S) (ds : List D) : Option Sg → Res Fl
  | none => .bad
  | some s => (g s).bind (loopK2 t g ds)
@[simp] theorem loop_cons (t : Tg) (g : S) (d : D) (ds : List D) (s : Sg) : loopS t g (d :: ds) s = loopK1 t g ds (asg t d s) := by
  rw [loopS]; dsimp only; unfold loopK1; cases asg t d s <;> rfl
@[simp] theorem loopK1_some (t : Tg) (g : S) (ds : List D) (s : Sg) : loopK1 t g ds (some s) = (g s).bind (loopK2 t g ds) := rfl
@[simp] theorem loopK2_nx (t : Tg) (g : S) (ds : List D) (s : Sg) : loopK2 t g ds .nx s = loopS t g ds s := rfl
@[simp] theorem loopK2_ct (t : Tg) (g : S) (ds : List D) (s : Sg) : loopK2 t g ds .ct s = loopS t g ds s := rfl
@[simp] theorem loopK2_bk (t : Tg) (g : S) (ds : List D) (s : Sg) : loopK2 t g ds .bk s = .ok .nx s := rfl
@[simp] theorem loopK2_rt (t : Tg) (g : S) (ds : List D) (d : D) (s : Sg) : loopK2 t g ds (.rt d) s = .ok (.rt d) s := rfl
@[simp] theorem comp_nil (t : Tg) (c : T) (e : O) (vs : List Nat) (acc : List D) (s : Sg) : compL t c e vs [] acc s = .ok acc s := rfl
def cmK5 (t : Tg) (c : T) (e : O) (vs : List Nat) (ds acc : List D) (s : Sg) : Option D → Res (List D)
  | none => .bad
  | some y => if acc.length < 1000000 then compL t c e vs ds (acc ++ [y]) (clrS vs s) else .bad
def cmK4 (t : Tg) (c : T) (e : O) (vs : List Nat) (ds acc : List D) (r : Rf) (s : Sg) : Res (List D) := cmK5 t c e vs ds acc s (own r s)
def cmK3 (t : Tg) (c : T) (e : O) (vs : List Nat) (ds acc : List D) (b : Bool) (s : Sg) : Res (List D) := if b = true then (e s).bind (cmK4 t c e vs ds acc) else compL t c e vs ds acc (clrS vs s)
def cmK1 (t : Tg) (c : T) (e : O) (vs : List Nat) (ds acc : List D) : Option Sg → Res (List D)
  | none => .bad
  | some s => (c s).bind (cmK3 t c e vs ds acc)
@[simp] theorem comp_cons (t : Tg) (c : T) (e : O) (vs : List Nat) (d : D) (ds acc : List D) (s : Sg) : compL t c e vs (d :: ds) acc s = cmK1 t c e vs ds acc (asg t d s) := by
  rw [compL]; unfold cmK1
  cases asg t d s with
  | none => rfl
  | some s1 =>
    simp only
    refine congrArg (Res.bind _) ?_
    funext b s2
    unfold cmK3
    split
    · refine congrArg (Res.bind _) ?_
      funext r s3
      unfold cmK4 cmK5
      cases own r s3 <;> rfl
    · rfl
@[simp] theorem cmK1_some (t : Tg) (c : T) (e : O) (vs : List Nat) (ds acc : List D) (s : Sg) : cmK1 t c e vs ds acc (some s) = (c s).bind (cmK3 t c e vs ds acc) := rfl
@[simp] theorem cmK3_eq (t : Tg) (c : T) (e : O) (vs : List Nat) (ds acc : List D) (b : Bool) (s : Sg) : cmK3 t c e vs ds acc b s = if b = true then (e s).bind (cmK4 t c e vs ds acc) else compL t c e vs ds acc (clrS vs s) := rfl
@[simp] theorem cmK4_eq (t : Tg) (c : T) (e : O) (vs : List Nat) (ds acc : List D) (r : Rf) (s : Sg) : cmK4 t c e vs ds acc r s = cmK5 t c e vs ds acc s (own r s) := rfl
@[simp] theorem cmK5_some (t : Tg) (c : T) (e : O) (vs : List Nat) (ds acc : List D) (s : Sg) (y : D) : cmK5 t c e vs ds acc s (some y) = if acc.length < 1000000 then compL t c e vs ds (acc ++ [y]) (clrS vs s) else .bad := rfl
end Sim
namespace Sim
open PySem PySem.Spec L2
theorem for_ok {lk : Nat → Bool} {it : I} {t : Tg} {g : S} {s s1 s2 : Sg} {es : List D} {l : List (Nat × D)} {fl : Fl} (h1 : it s = .ok (es, l) s1) (h2 : (l.all fun q => lk q.1) = true) (h3 : loopS t g es s1 = .ok fl s2) : sFor lk it t g s = .ok fl (unlockS l s2) := by
  rw [ev_sFor, h1, ev_ok, ev_forK, if_pos h2, h3]; rfl
theorem mkFn_rt {ms : List Nat} {n : Nat} {g : S} {ds as : List D} {r : D} {s : Sg} (h1 : okM ms ds = true) (h2 : g (ds.map some ++ List.replicate (n - ds.length) none) = .ok (.rt r) s) (h3 : coll ms ds 0 s = some as) : mkFn ms n g ds = .ok r as := by
  rw [ev_mkFn, if_pos h1, h2, ev_mkK, h3]; rfl
theorem mkFn_nx {ms : List Nat} {n : Nat} {g : S} {ds as : List D} {s : Sg} (h1 : okM ms ds = true) (h2 : g (ds.map some ++ List.replicate (n - ds.length) none) = .ok .nx s) (h3 : coll ms ds 0 s = some as) : mkFn ms n g ds = .ok .none as := by
  rw [ev_mkFn, if_pos h1, h2, ev_mkK, h3]; rfl
theorem oCall_ok {f : Fn} {g : AL} {s s1 : Sg} {rs : List Rf} {ds as : List D} {r : D} (h1 : g s = .ok rs s1) (h2 : rds rs s1 = some ds) (h3 : nodupB ((lks rs ds).map (·.1)) = true) (h4 : f ds = .ok r as) : oCall f g s = .ok (.val r) (unlockS (lkz rs ds as) (lockS (lks rs ds) s1)) := by
  rw [ev_oCall, h1, ev_ok, ev_callK, h2, ev_callK2, if_pos h3, h4]; rfl
@[simp] theorem purs_takeI (A : List Int) (n : Nat) : purs (List.take n (A.map PyData.int)) = true := by rw [← List.map_take]; exact purs_ints _
@[simp] theorem purs_dropI (A : List Int) (n : Nat) : purs (List.drop n (A.map PyData.int)) = true := by rw [← List.map_drop]; exact purs_ints _
end Sim
namespace Sim
open PySem PySem.Spec L2
def pickL {α : Type} (xs : List α) (lo hi st : Option Int) : List α :=
  (sliceRange (sliceBounds lo hi st xs.length).1 (sliceBounds lo hi st xs.length).2.1 (sliceBounds lo hi st xs.length).2.2).filterMap (xs[·]?)
section
open PyProof.Rows
variable {prog : Program} {w : World} {A : Around} {E : Value → Shared → Prop} {s : Shared}
end
theorem vals_pick {xs : List V} {us : List Value} (r : Vals xs us) : ∀ ix : List Nat, Vals (ix.filterMap (xs[·]?)) (ix.filterMap (us[·]?))
  | [] => .nil
  | i :: ix => by
    have key : ∀ {xs : List V} {us : List Value}, Vals xs us → ∀ i : Nat, (xs[i]? = none ∧ us[i]? = none) ∨ ∃ x u, xs[i]? = some x ∧ us[i]? = some u ∧ RelV x u := by
      intro xs us r
      induction r with
      | nil => intro i; exact .inl ⟨rfl, rfl⟩
      | cons h t ih =>
        intro i
        cases i with
        | zero => exact .inr ⟨_, _, rfl, rfl, h⟩
        | succ i => simpa using ih i
    rcases key r i with ⟨h1, h2⟩ | ⟨x, u, h1, h2, h3⟩
    · rw [List.filterMap_cons_none h1, List.filterMap_cons_none h2]
      exact vals_pick r ix
    · rw [List.filterMap_cons_some h1, List.filterMap_cons_some h2]
      exact .cons h3 (vals_pick r ix)
section
variable [Tb] [Vs] {K : PySem.W.Frag} {H : Hp}
theorem OwnA.pick {ds : List D} {vs : List V} (t : OwnA K H ds vs []) : ∀ ix : List Nat, OwnA K H (ix.filterMap (ds[·]?)) (ix.filterMap (vs[·]?)) []
  | [] => .nil
  | i :: ix => by
    have hl := t.len
    by_cases hi : i < ds.length
    · obtain ⟨v, G, hv, o, sub⟩ := t.get i ds[i] (List.getElem?_eq_getElem hi)
      have : G = [] := by
        cases G with
        | nil => rfl
        | cons a G => exact absurd (sub a (List.mem_cons_self ..)) (by simp)
      subst this
      rw [List.filterMap_cons_some (List.getElem?_eq_getElem hi), List.filterMap_cons_some hv]
      exact .cons0 o (OwnA.pick t ix)
    · rw [List.filterMap_cons_none (List.getElem?_eq_none (by omega)), List.filterMap_cons_none (List.getElem?_eq_none (by omega))]
      exact OwnA.pick t ix
variable {X : Cx} {a : Expr} {ga : O} {pos p2 : Pos}
def pListRg : List D → Option D
  | [.int j] => if -1000000 < j ∧ j < 1000000 then some (.list (rngD 0 j.toNat)) else none
  | [.int i, .int j] => if -1000000 < i ∧ i < 1000000 ∧ -1000000 < j ∧ j < 1000000 then some (.list (rngD i (j - i).toNat)) else none
  | _ => none
def pTupleRg : List D → Option D
  | [.int j] => if -1000000 < j ∧ j < 1000000 then some (.tuple (rngD 0 j.toNat)) else none
  | [.int i, .int j] => if -1000000 < i ∧ i < 1000000 ∧ -1000000 < j ∧ j < 1000000 then some (.tuple (rngD i (j - i).toNat)) else none
  | _ => none
theorem own_rgV (i j : Int) : OwnA K H (rngD i (j - i).toNat) (rgV i j) [] := by
  unfold rngD rgV
  generalize (List.range (j - i).toNat) = l
  induction l with
  | nil => exact .nil
  | cons n l ih => exact .cons0 (.int _) ih
def rLRg : List V → Hp → VK → Prop := fun vs H Q => (∃ j, vs = [.int j] ∧ RgOk 0 j ∧ ∀ q, H q = none → Q (.ref q) (upd H q (.lst (rgV 0 j)))) ∨ ∃ i j, vs = [.int i, .int j] ∧ RgOk i j ∧ ∀ q, H q = none → Q (.ref q) (upd H q (.lst (rgV i j)))
theorem pr_lrg : PrimR K rLRg pListRg := by
  intro vs ds d H Q h e q
  unfold pListRg at e
  split at e
  · obtain ⟨x, F, rfl, o⟩ := h.one
    cases o
    split at e
    · rename_i j hj
      cases e
      have z := own_rgV (K := K) (H := H) 0 j
      rw [Int.sub_zero] at z
      exact .inl ⟨_, rfl, ⟨by omega, by omega, by omega, by omega, by omega⟩, fun p hp => q _ _ (.lst z hp)⟩
    · cases e
  · obtain ⟨x, y, F, G, rfl, o, o2⟩ := h.two
    cases o; cases o2
    split at e
    · rename_i i j hj
      cases e
      exact .inr ⟨_, _, rfl, ⟨by omega, by omega, by omega, by omega, by omega⟩, fun p hp => q _ _ (.lst (own_rgV i j) hp)⟩
    · cases e
  · cases e
def rTRg : List V → Hp → VK → Prop := fun vs H Q => (∃ j, vs = [.int j] ∧ RgOk 0 j ∧ rNewT (rgV 0 j) H Q) ∨ ∃ i j, vs = [.int i, .int j] ∧ RgOk i j ∧ rNewT (rgV i j) H Q
theorem pr_trg : PrimR K rTRg pTupleRg := by
  intro vs ds d H Q h e q
  unfold pTupleRg at e
  split at e
  · obtain ⟨x, F, rfl, o⟩ := h.one
    cases o
    split at e
    · rename_i j hj
      cases e
      have z := own_rgV (K := K) (H := H) 0 j
      rw [Int.sub_zero] at z
      exact .inl ⟨_, rfl, ⟨by omega, by omega, by omega, by omega, by omega⟩, fun p ob hp hn => q _ _ (.tup z hp hn)⟩
    · cases e
  · obtain ⟨x, y, F, G, rfl, o, o2⟩ := h.two
    cases o; cases o2
    split at e
    · rename_i i j hj
      cases e
      exact .inr ⟨_, _, rfl, ⟨by omega, by omega, by omega, by omega, by omega⟩, fun p ob hp hn => q _ _ (.tup (own_rgV i j) hp hn)⟩
    · cases e
  · cases e
def tTupRgD (te : St → Hp → (Int → Int → Hp → Prop) → Prop) : TE := fun σ H Q => te σ H fun a b H1 => RgOk a b ∧ rNewT (rgV a b) H1 Q
theorem pe_tupRgD {e : Expr} {te : St → Hp → (Int → Int → Hp → Prop) → Prop} {p pos : Pos} (hc : X.calm = true) (hg : Gl X "tuple") (hm : X.mg "tuple" = none) (he : PRg X e te) (na : starEach [e] X.env = (false, eval e X.env) :: starEach [] X.env := by rfl) : PE X (.Call (.Name "tuple" p) [e] [] pos) (tTupRgD te) := by
  refine ⟨fun pins s σ H Q I h => ?_⟩
  refine PyProof.Rows.Call_ (ld_blt I hg hm bt_tuple (PyProof.Rows.callWith_type1 (PyProof.Rows.args_cons (thn (he pins s σ H _ I h) fun x s1 ⟨r, a, b, t, u, v, H1, ex, hr, I1, ok, q⟩ => PyProof.Rows.args_nil ?_) na) na))
  subst ex
  obtain ⟨b1, b2, b3, b4, b5⟩ := ok
  refine call_tuple_range (n := (b - a).toNat) (I1.ok.hd hc) hr (small_one b1 b2 b3 b4) (PyProof.Rows.rangeSize_nat a b) b5 fun h' tk acc hk hi => ?_
  have I2 : L2.Inv X pins σ H1 { s1 with heap := h', toks := tk } := I1.kept hk
  have z := lay_tup (t' := tk) I2 (vals_rg hi) (by rw [rgV_length, sizeLine_eq]; omega) q
  rw [Array.toArray_toList] at z
  exact z
variable {b : Expr} {p pos2 : Pos} {gb : O}
theorem so_listRg1 (hc : X.calm = true) (hg : Gl X "list") (hm : X.mg "list" = none) (hg2 : Gl X "range") (hm2 : X.mg "range" = none) (ha : SimO X a ga) (na : starEach [a] X.env = (false, eval a X.env) :: starEach [] X.env := by rfl)
    (nr : starEach [.Call (.Name "range" p2) [a] [] pos2] X.env = (false, eval (.Call (.Name "range" p2) [a] [] pos2) X.env) :: starEach [] X.env := by rfl) : SimO X (.Call (.Name "list" p) [.Call (.Name "range" p2) [a] [] pos2] [] pos) (oPrim pListRg (aCons ga aNil)) :=
  pe_imp (pe_listRg hc hg hm (prg_1 hg2 hm2 ha na) nr) fun σ H Q h => by
    have z := tA1 (prim pr_lrg h)
    refine tO_mono (fun v H1 w => ?_) z
    rcases w with ⟨j, e, w⟩ | ⟨i, j, e, w⟩
    · cases e; exact ⟨_, rfl, w⟩
    · cases e
theorem so_tupleRg1 (hc : X.calm = true) (hg : Gl X "tuple") (hm : X.mg "tuple" = none) (hg2 : Gl X "range") (hm2 : X.mg "range" = none) (ha : SimO X a ga) (na : starEach [a] X.env = (false, eval a X.env) :: starEach [] X.env := by rfl)
    (nr : starEach [.Call (.Name "range" p2) [a] [] pos2] X.env = (false, eval (.Call (.Name "range" p2) [a] [] pos2) X.env) :: starEach [] X.env := by rfl) : SimO X (.Call (.Name "tuple" p) [.Call (.Name "range" p2) [a] [] pos2] [] pos) (oPrim pTupleRg (aCons ga aNil)) :=
  pe_imp (pe_tupRgD hc hg hm (prg_1 hg2 hm2 ha na) nr) fun σ H Q h => by
    have z := tA1 (prim pr_trg h)
    refine tO_mono (fun v H1 w => ?_) z
    rcases w with ⟨j, e, w⟩ | ⟨i, j, e, w⟩
    · cases e; exact ⟨_, rfl, w⟩
    · cases e
end
end Sim
namespace SimSrt
open PySem PyProof.Rows Srt SrtO
section
variable {prog : Program} {w : World} {A : Around} {E : Value → Shared → Prop} {s : Shared}
end
end SimSrt
namespace Sim
open PySem PySem.Spec L2
end Sim
namespace Sim
open PySem PySem.Spec L2
def pIndexT : List D → Option D
  | [.tuple ds, y] => if pIn.fl y = true ∧ ds.all pIn.fl = true then (ds.findIdx? fun z => PyData.eqv z y).map fun j => .int (j : Nat) else none
  | _ => none
def oIdxT (g h : O) : O := fun s => (g s).bind fun r s1 => match rd r s1 with
  | some (.tuple _) => (h s1).bind fun r2 s2 => (match rds [r, r2] s2 with
    | none => .bad
    | some ds => (match pIndexT ds with
      | none => .bad
      | some d => .ok (.val d) s2))
  | _ => .bad
theorem sqD_is {X : Cx} {pins : List (Addr × Obj)} {σ : St} {H : Hp} {s : Shared} {a : Addr} {xs : List V} (I : L2.Inv X pins σ H s) (h : SqD X.K H a xs) :
    ∃ (o : Obj) (its : List Value) (n : Nat), s.heap.get? a = some o ∧ o.cls = .type "tuple" ∧ o.dict = none ∧ o.data = .seq its.toArray n ∧ Vals xs its := by
  rcases h with ⟨o, h, hd⟩ | ⟨o, its, n, h1, h2, hd, h3, h4, h5⟩
  · obtain ⟨e, _, its, r, o', e', c, n, d⟩ := (show ObjOk X.prog X.w H s.heap a (.frz o (.tup xs)) from I.hok a _ h)
    rw [e] at e'
    cases e'
    exact ⟨o, its, n, e, c, hd, d, r⟩
  · exact ⟨o, its.toList, n, I.kIn a o h1, h2, hd, by simpa using h3, h5⟩
def rIdxT (K : PySem.W.Frag) : V → List V → Hp → VK → Prop := fun x xs H Q => ∃ (a : Addr) (ys : List V) (y : V) (j : Nat) (z : V), x = V.ref a ∧ xs = [y] ∧ SqD K H a ys ∧ flatV y = true ∧ ys.all flatV = true ∧ ys[j]? = some z ∧ eqV z y = true ∧
  (∀ (m : Nat) (z' : V), m < j → ys[m]? = some z' → eqV z' y = false) ∧ Q (.int (j : Nat)) H
section
variable [Tb] [Vs] {X : Cx}
theorem mt_idxT : MtR X "tuple.index" (rIdxT X.K) := by
  intro pins s σ H x xs v us Q I rx rxs h
  obtain ⟨a, ys, y, j, z, rfl, rfl, hs, fy, fys, hz, hzj, hno, q⟩ := h
  cases rx
  cases rxs with
  | cons ry rt =>
    rename_i uy ut
    cases rt
    obtain ⟨⟨cls, dd, data, sl⟩, its, n, ho, hc, hdn, hd, rv⟩ := sqD_is I hs
    simp only at hc hd hdn
    subst hc hd
    obtain ⟨u, hu, ru⟩ := rv.get hz
    obtain ⟨hjl, hje⟩ := List.getElem?_eq_some_iff.mp hu
    have hvl := rv.length
    have hj : j < its.toArray.size := by simpa using hjl
    refine call_meets PySem.F.slot_tuple_index ⟨_, ho, rfl⟩ PySem.F.entry_tuple_index (PySem.F.args_tuple_index_2 _ _)
      (PySem.SeqAt.tuple_index2_found a its.toArray n dd sl uy (fun i => ((its[i]?).map (eqU y)).getD false) j hj (Nat.zero_le _) hj ?_ ?_) ⟨ho, fun i hi => ?_, ?_⟩
    · show ((its[j]?).map (eqU y)).getD false = true
      rw [hu]
      show eqU y u = true
      rw [eqU_of ru (flat_at fys hz)]
      exact hzj
    · intro m hm _ hmj
      have hml : m < its.length := by simpa using hm
      have hmy : m < ys.length := by omega
      have hy' : ys[m]? = some ys[m] := List.getElem?_eq_getElem hmy
      obtain ⟨u2, hu2, ru2⟩ := rv.get hy'
      show ((its[m]?).map (eqU y)).getD false = false
      rw [hu2]
      show eqU y u2 = false
      rw [eqU_of ru2 (flat_at fys hy')]
      exact hno m _ hmj hy'
    · have hil : i < its.length := by simpa using hi
      show PySem.SeqAt.EqAt _ _ its.toArray[i] uy (((its[i]?).map (eqU y)).getD false)
      rw [List.getElem?_eq_getElem hil]
      exact mem_eqAt ry fy rv fys _ (by simp)
    · exact ⟨.int (j : Nat), H, I.tok _, ⟨_, rfl⟩, q⟩
variable {o e : Expr} {es : List Expr} {to : TE} {t : TA} {name : Str} {apos cpos : Pos} {T id : String} {r : V → List V → Hp → VK → Prop}
theorem pe_bmT (slot : Slot "tuple" name id) (hty : typeOf (.builtin id) = pure (.type "method_descriptor")) (hm : MtR X id r) (ho : PE X o to) (ha : PA X (e :: es) t)
    (hbase : attributeBase o name X.env (eval o X.env) = eval o X.env := by rfl)
    (hfew : ((backTo cpos (starEach (e :: es) X.env)).all (fun x => !x.1) && (backToKw cpos (keywordEach [] X.env)).all (fun x => x.1.isSome)
      && decide ((e :: es).length + ([] : List Keyword).length + (if ([] : List Keyword).isEmpty then 0 else 1) < 30)) = true := by rfl)
    (hline : (apos.endLine == cpos.line) = true := by rfl) (hs : starEach (e :: es) X.env = (false, eval e X.env) :: starEach es X.env := by rfl) (hplain : (backTo cpos (starEach es X.env)).any (·.1) = false := by rfl) :
    PE X (.Call (.Attribute o name apos) (e :: es) [] cpos) (fun σ H Q => to σ H fun x H1 => (∃ a xs, x = .ref a ∧ SqD X.K H1 a xs) ∧ t σ H1 fun ws H2 => r x ws H2 Q) := by
  refine ⟨fun pins s σ H Q I h => ?_⟩
  refine wpAny_Call_method_late hbase hfew hline rfl (thn (ho.run pins s σ H _ I h) fun v s1 ⟨x, H1, I1, r1, ty, q1⟩ => ?_)
  obtain ⟨a, xs, ex, hq⟩ := ty
  subst ex
  have r1' := r1
  cases r1'
  obtain ⟨ob, its, n, e1, c1, d1, _, _⟩ := sqD_is I1 hq
  refine ⟨"tuple", id, PySem.F.plainAttrs_tuple, slot, hty, ⟨ob, e1, c1⟩, fun a' ea => (by cases ea; exact ⟨ob, e1, d1⟩), ?_⟩
  have hA := ha.run cpos pins s1 σ H1 _ I1 q1
  rw [hs] at hA ⊢
  refine Calls.callWith_builtin (by show (false || (backTo cpos (starEach es X.env)).any (·.1)) = false; rw [hplain] <;> rfl) (Calls.evalArgs_plain ?_)
  exact thn hA fun us s2 ⟨vs, H2, I2, r2, q2⟩ => hm pins s2 σ H2 _ vs _ us Q I2 r1 r2 q2
theorem find_fl {K : PySem.W.Frag} {H : Hp} {y : D} {vy : V} {Fy : List Addr} (oy : Own K H y vy Fy) (hy : pIn.fl y = true) : ∀ {ds : List D} {vs : List V} {F : List Addr}, OwnA K H ds vs F → ds.all pIn.fl = true → ∀ (j : Nat), ds.findIdx? (fun z => PyData.eqv z y) = some j →
    ∃ z, vs[j]? = some z ∧ eqV z vy = true ∧ (∀ (m : Nat) (z' : V), m < j → vs[m]? = some z' → eqV z' vy = false) := by
  intro ds
  induction ds with
  | nil => intro vs F _ _ j h; simp at h
  | cons d ds ih =>
    intro vs F t ha j h
    cases t with
    | @cons v vs _ _ F1 F2 o t n =>
      rw [List.all_cons, Bool.and_eq_true] at ha
      obtain ⟨e1, _, _⟩ := eqV_eqv o oy ha.1 hy
      rw [List.findIdx?_cons] at h
      cases c : PyData.eqv d y with
      | true =>
        rw [c] at h
        simp only [if_true, Option.some.injEq] at h
        subst h
        exact ⟨v, rfl, by rw [e1]; exact c, fun m _ hm _ => by omega⟩
      | false =>
        rw [c] at h
        simp only [Bool.false_eq_true, if_false] at h
        cases hf : ds.findIdx? (fun z => PyData.eqv z y) with
        | none => rw [hf] at h; cases h
        | some j' =>
          rw [hf] at h
          cases h
          obtain ⟨z, h1, h2, h3⟩ := ih t ha.2 j' hf
          refine ⟨z, h1, h2, fun m z' hm hz => ?_⟩
          cases m with
          | zero =>
            simp at hz
            subst hz
            rw [e1]; exact c
          | succ m =>
            have hm2 : m + 1 < j' + 1 := hm
            exact h3 m z' (by omega) (by simpa using hz)
theorem fl_flat {K : PySem.W.Frag} {H : Hp} : ∀ {ds : List D} {vs : List V} {F : List Addr}, OwnA K H ds vs F → ds.all pIn.fl = true → vs.all flatV = true
  | [], _, _, t, _ => by cases t; rfl
  | d :: ds, _, _, t, h => by
    cases t with
    | cons o t n =>
      rw [List.all_cons, Bool.and_eq_true] at h
      rw [List.all_cons, fl_flat t h.2, Bool.and_true]
      exact (eqV_eqv o o h.1 h.1).2.1
theorem tO_idxT {K : PySem.W.Frag} {g h : O} {σ : St} {H : Hp} {Q : VK} (z : tO K (oIdxT g h) σ H Q) : tO K g σ H fun x H1 => (∃ a xs, x = .ref a ∧ SqD K H1 a xs) ∧ tA K (aCons h aNil) σ H1 fun ws H2 => rIdxT K x ws H2 Q := by
  obtain ⟨s, Fs, rf, s', R, e, q⟩ := z
  obtain ⟨r, s1, e1, e⟩ := bind_inv e
  refine ⟨s, Fs, r, s1, R, e1, fun v H1 Fs1 F1 R1 E1 k1 n1 => ?_⟩
  split at e
  · rename_i ds0 hd0
    obtain ⟨F0, o0⟩ := k1.dp R1 hd0
    have ty : ∃ a xs, v = .ref a ∧ SqD K H1 a xs := by
      cases o0 with
      | tup hq t => exact ⟨_, _, rfl, hq⟩
    refine ⟨ty, ?_⟩
    obtain ⟨r2, s2, e2, e⟩ := bind_inv e
    refine ⟨s1, Fs1, [r2], s2, R1, by unfold aCons aNil; rw [e2]; rfl, fun ws H2 Fs2 Gs R2 E2 k2 n2 => ?_⟩
    split at e
    · cases e
    · rename_i ds hds
      split at e
      · cases e
      · rename_i d hd
        cases e
        cases k2 with
        | @val d2 v2 F2 rs vs Gs2 A2 nn kr =>
          cases kr
          have rr := rfs2 (k1.ev E2) (.val A2) R2 hds
          unfold pIndexT at hd
          split at hd
          · obtain ⟨x, y, F, G, ee, oa, ob⟩ := rr.two
            cases ee
            split at hd
            · rename_i hp
              cases hj : (List.findIdx? (fun z => PyData.eqv z _) _) with
              | none => rw [hj] at hd; cases hd
              | some j =>
                rw [hj] at hd
                cases hd
                cases oa with
                | tup hq t =>
                  obtain ⟨z, h1, h2, h3⟩ := find_fl ob hp.1 t hp.2 j hj
                  refine ⟨_, _, _, j, z, rfl, rfl, hq, (eqV_eqv ob ob hp.1 hp.1).2.1, fl_flat t hp.2, h1, h2, h3, ?_⟩
                  exact q _ H2 Fs2 [] R2 (E1.trans E2) (.val ⟨.int _, fun _ _ _ z => nomatch z⟩) (fun _ z => nomatch z)
            · cases hd
          · cases hd
        | @slot i v2 rs vs Gs2 hv kr =>
          cases kr
          have rr := rfs2 (k1.ev E2) (.slot hv) R2 hds
          unfold pIndexT at hd
          split at hd
          · obtain ⟨x, y, F, G, ee, oa, ob⟩ := rr.two
            cases ee
            split at hd
            · rename_i hp
              cases hj : (List.findIdx? (fun z => PyData.eqv z _) _) with
              | none => rw [hj] at hd; cases hd
              | some j =>
                rw [hj] at hd
                cases hd
                cases oa with
                | tup hq t =>
                  obtain ⟨z, h1, h2, h3⟩ := find_fl ob hp.1 t hp.2 j hj
                  refine ⟨_, _, _, j, z, rfl, rfl, hq, (eqV_eqv ob ob hp.1 hp.1).2.1, fl_flat t hp.2, h1, h2, h3, ?_⟩
                  exact q _ H2 Fs2 [] R2 (E1.trans E2) (.val ⟨.int _, fun _ _ _ z => nomatch z⟩) (fun _ z => nomatch z)
            · cases hd
          · cases hd
  · cases e
theorem so_idxT {ga gb : O} (ho : SimO X o ga) (ha : SimO X e gb)
    (hbase : attributeBase o "index" X.env (eval o X.env) = eval o X.env := by rfl)
    (hfew : ((backTo cpos (starEach [e] X.env)).all (fun x => !x.1) && (backToKw cpos (keywordEach [] X.env)).all (fun x => x.1.isSome)
      && decide (([e] : List Expr).length + ([] : List Keyword).length + (if ([] : List Keyword).isEmpty then 0 else 1) < 30)) = true := by rfl)
    (hline : (apos.endLine == cpos.line) = true := by rfl) (hs : starEach [e] X.env = (false, eval e X.env) :: starEach [] X.env := by rfl) (hplain : (backTo cpos (starEach [] X.env)).any (·.1) = false := by rfl) :
    SimO X (.Call (.Attribute o "index" apos) [e] [] cpos) (oIdxT ga gb) :=
  pe_imp (pe_bmT PySem.F.slot_tuple_index PySem.F.type_tuple_index mt_idxT ho (sa_cons ha sa_nil hs) hbase hfew hline hs hplain) fun _ _ _ h => tO_idxT h
end
def putAll : List Nat → List D → Sg → Sg
  | i :: l, d :: ds, s => putAll l ds (s.set i (some d))
  | _, _, s => s
def sPar (l : List Nat) (g : AL) : S := fun s => (g s).bind fun rs s1 => match owns rs s1 with
  | none => .bad
  | some ds => if ds.length = l.length then .ok .nx (putAll l ds s1) else .bad
section
variable [Tb] [Vs] {X : Cx} {lk : Nat → Bool}
theorem ss_par {i j : Nat} {x y : Str} {a b : Expr} {g : AL} {px py pt pos pt2 : Pos} {kt k2 : Nat} (hc : X.calm = true) (hN : X.N.Nodup) (hi : X.N[i]? = some x) (hj : X.N[j]? = some y) (hij : i ≠ j)
    (hx : X.env.scope.names.lookup x = some .local) (hy : X.env.scope.names.lookup y = some .local) (li : lk i = false) (lj : lk j = false) (ha : SimA X [a, b] g)
    (hw : swappedStores [.Tuple [.Name x px, .Name y py] kt pt] (.Tuple [a, b] k2 pt2) X.env = pure (some [x, y]) := by rfl)
    (hs : swapsWithSole [.Tuple [.Name x px, .Name y py] kt pt] (.Tuple [a, b] k2 pt2) pos.line X.env = pure false := by rfl) (ki : Vs.ok i := by first | exact trivial | assumption | exact ⟨by decide, by decide⟩) (kj : Vs.ok j := by first | exact trivial | assumption | exact ⟨by decide, by decide⟩) :
    SimS X lk (.Assign [.Tuple [.Name x px, .Name y py] kt pt] (.Tuple [a, b] k2 pt2) pos) (sPar [i, j] g) := by
  refine ps_imp (ps_par hc hN hi hj hij hx hy ha hw hs) fun D σ H z => ?_
  obtain ⟨s, Fs, fl, s', R, e, q⟩ := z
  obtain ⟨rs, s1, e1, e⟩ := bind_inv e
  refine ⟨s, Fs, rs, s1, R, e1, fun vs H1 Fs1 Gs R1 E1 k1 n1 => ?_⟩
  split at e
  · cases e
  · rename_i ds hds
    split at e
    · rename_i hl
      cases e
      obtain ⟨oa, dj⟩ := k1.own R1 hds
      match ds, hl with
      | [d1, d2], _ =>
        have gf : ∀ a, a ∈ Gs.flatten → H a = none := fun a ha => by
          obtain ⟨G, hG, hb⟩ := List.mem_flatten.mp ha
          exact n1 G hG a hb
        generalize hGf : Gs.flatten = GF at *
        cases oa with
        | @cons v1 _ _ _ F1 F2' o1 t1 nn =>
          obtain ⟨v2, rfl, o2⟩ := owna1 t1
          refine ⟨v1, v2, rfl, ?_⟩
          obtain ⟨FsA, RA, nA⟩ := R1.put ⟨o1, fun k a hk ha => dj k a hk (List.mem_append_left _ ha)⟩ i ki
          obtain ⟨FsB, RB, nB⟩ := RA.put ⟨o2, fun k a hk ha => by
            rcases nA k a hk with ⟨w, _⟩ | ⟨w, _⟩
            · exact dj k a w (List.mem_append_right _ ha)
            · exact nn a w ha⟩ j kj
          refine q _ H1 FsB RB ⟨E1.chg, fun k a h => ?_⟩ ((Lk.set li).trans (Lk.set lj))
          rcases nB k a h with ⟨w, _⟩ | ⟨w, _⟩
          · rcases nA k a w with ⟨w, _⟩ | ⟨w, _⟩
            · exact E1.new k a w
            · exact .inr (gf a (List.mem_append_left _ w))
          · exact .inr (gf a (List.mem_append_right _ w))
    · cases e
end
end Sim
namespace Sim
open PySem PySem.Spec L2
def ownR (lk : Nat → Bool) (r : Rf) (s : Sg) : Option D := match r with
  | .val d => some d
  | .slot i => match (s[i]?).join with
    | none => none
    | some d => if pur d = true ∨ lk i = false then some d else none
def ownsR (lk : Nat → Bool) : List Rf → Sg → Option (List D)
  | [], _ => some []
  | r :: rs, s => match ownR lk r s with
    | none => none
    | some d => match ownsR lk rs s with
      | none => none
      | some ds => some (d :: ds)
def sRetT (lk : Nat → Bool) (g : AL) : S := fun s => (g s).bind fun rs s1 => match ownsR lk rs s1 with
  | none => .bad
  | some ds => if ds.length ≤ 1000000 ∧ nodupB ((lks rs ds).map (·.1)) = true then .ok (.rt (.tuple ds)) s1 else .bad
section
variable [Tb] [Vs] {K : PySem.W.Frag} {H : Hp} {s : Sg} {σ : St} {Fs : Fp} {lk : Nat → Bool}
theorem Rfs.off {rs : List Rf} {vs : List V} {Gs : List (List Addr)} (r : Rfs K H σ Fs rs vs Gs) : ∀ G, G ∈ Gs → ∀ i a, a ∈ Fs i → a ∉ G := by
  induction r with
  | nil => intro G h; cases h
  | val A _ _ ih =>
    intro G h i a ha
    rcases List.mem_cons.mp h with rfl | h
    · exact A.dis i a ha
    · exact ih G h i a ha
  | slot _ _ ih =>
    intro G h i a ha
    rcases List.mem_cons.mp h with rfl | h
    · intro z; cases z
    · exact ih G h i a ha
theorem Rfs.ownR (R : RelS K H s σ Fs) {rs : List Rf} {vs : List V} {Gs : List (List Addr)} (r : Rfs K H σ Fs rs vs Gs) : ∀ {ds : List D}, ownsR lk rs s = some ds → nodupB ((lks rs ds).map (·.1)) = true →
    ∃ F, OwnA K H ds vs F ∧ ∀ a, a ∈ F → (∃ G, G ∈ Gs ∧ a ∈ G) ∨ ∃ i, i ∈ (lks rs ds).map (·.1) ∧ lk i = false ∧ a ∈ Fs i := by
  induction r with
  | nil => intro ds e _; cases e; exact ⟨[], .nil, fun a h => by cases h⟩
  | @val d v F rs vs Gs A dj rr ih =>
    intro ds e n
    unfold ownsR at e
    simp only [Sim.ownR] at e
    split at e
    · cases e
    · rename_i es h
      cases e
      obtain ⟨F', o, q⟩ := ih h n
      refine ⟨F ++ F', .cons A.own o fun a ha hb => ?_, fun a ha => ?_⟩
      · rcases q a hb with ⟨G, hG, z⟩ | ⟨i, _, _, z⟩
        · exact dj G hG a ha z
        · exact A.dis i a z ha
      · rcases List.mem_append.mp ha with h | h
        · exact .inl ⟨F, List.mem_cons_self .., h⟩
        · rcases q a h with ⟨G, hG, z⟩ | z
          · exact .inl ⟨G, List.mem_cons_of_mem _ hG, z⟩
          · exact .inr z
  | @slot i v rs vs Gs hv rr ih =>
    intro ds e n
    unfold ownsR at e
    simp only [Sim.ownR] at e
    split at e
    · cases e
    · rename_i d hd
      split at e
      · cases e
      · rename_i es h
        cases e
        split at hd
        · cases hd
        · rename_i d' hd'
          split at hd
          · rename_i hp
            cases hd
            obtain ⟨v', hv', o⟩ := R.has _ _ (join_some hd')
            rw [hv] at hv'
            cases hv'
            by_cases c : pur d = true
            · rw [lks_slot, if_pos c] at n
              obtain ⟨F', o', q⟩ := ih h n
              have e0 := o.pur c
              rw [e0] at o
              refine ⟨[] ++ F', .cons o o' (fun a z => by cases z), fun a ha => ?_⟩
              rw [lks_slot, if_pos c]
              rcases q a ha with ⟨G, hG, z⟩ | z
              · exact .inl ⟨G, List.mem_cons_of_mem _ hG, z⟩
              · exact .inr z
            · rw [lks_slot, if_neg c] at n
              rw [List.map_cons, ev_nodupB, Bool.and_eq_true] at n
              obtain ⟨n1, n2⟩ := n
              simp only [Bool.not_eq_true', List.contains_eq_mem, decide_eq_false_iff_not] at n1
              obtain ⟨F', o', q⟩ := ih h n2
              refine ⟨Fs i ++ F', .cons o o' fun a ha hb => ?_, fun a ha => ?_⟩
              · rcases q a hb with ⟨G, hG, z⟩ | ⟨j, hj, _, z⟩
                · exact rr.off G hG i a ha z
                · have := R.dis i j a ha z
                  subst this
                  exact n1 hj
              · rw [lks_slot, if_neg c, List.map_cons]
                rcases List.mem_append.mp ha with z | z
                · exact .inr ⟨i, List.mem_cons_self .., hp.resolve_left c, z⟩
                · rcases q a z with ⟨G, hG, z⟩ | ⟨j, hj, z⟩
                  · exact .inl ⟨G, List.mem_cons_of_mem _ hG, z⟩
                  · exact .inr ⟨j, List.mem_cons_of_mem _ hj, z⟩
          · cases hd
end
section
variable [Tb] [Vs] {X : Cx} {lk : Nat → Bool} {pos p2 : Pos} {es : List Expr} {g : AL} {x1 : Nat}
theorem ss_retT (ha : SimA X es g) : SimS X lk (.Return (some (.Tuple es x1 p2)) pos) (sRetT lk g) := by
  refine ps_imp (ps_ret (pe_tupD ha)) fun D σ H z => ?_
  obtain ⟨s, Fs, fl, s', R, e, q⟩ := z
  obtain ⟨rs, s1, e1, e⟩ := bind_inv e
  refine ⟨s, Fs, rs, s1, R, e1, fun vs H1 Fs1 Gs R1 E1 k1 n1 => ?_⟩
  split at e
  · cases e
  · rename_i ds hds
    split at e
    · rename_i hc
      cases e
      obtain ⟨F, o, hF⟩ := k1.ownR R1 hds hc.2
      refine ⟨by rw [o.len]; exact Nat.le_trans hc.1 big_le, fun p ob hp hd => ?_⟩
      have sm : Same H1 (upd H1 p (.frz ob (.tup vs))) := same_new hp
      refine q _ σ _ Fs1 F (R1.same sm) (E1.trans (.same _ sm)).r (.refl _ _) (.tup (SqD.of upd_same hd) (o.chg (Fa := fun _ => False) (.same sm) fun _ _ z => z)) (fun a ha => ?_) fun i a hi ha hb => ?_
      · rcases hF a ha with ⟨G, hG, z⟩ | ⟨i, _, hi, z⟩
        · exact .inl (n1 G hG a z)
        · rcases E1.new i a z with z | z
          · exact .inr ⟨i, hi, z⟩
          · exact .inl z
      · rcases hF a hb with ⟨G, hG, z⟩ | ⟨j, _, hj, z⟩
        · exact k1.off G hG i a ha z
        · have := R1.dis i j a ha z
          subst this
          rw [hi] at hj; cases hj
    · cases e
end
end Sim
namespace Sim
open PySem PySem.Spec L2
section
open PySem.Calls PySem.NumText PyProof.Rows
section
variable {M : Model} {A : Around} {E : Value → Shared → Prop} {s : Shared}
end
@[irreducible] def tenN (n : Nat) : Int := ((10 ^ n : Nat) : Int)
end
section
variable {X : Cx}
open PySem.Calls PySem.NumText PyProof.Rows in
end
end Sim
namespace Sim
open PySem PySem.Spec L2
def wIx (i : Nat) (gi : O) (d : D) : Sg → Res Unit := fun s => (oV i s).bind fun _ s => (gi s).bind fun ri s2 => match rd ri s2, (s2[i]?).join with
  | some (.int k), some (.list ds) => if pur d = true then (match ixN ds.length k with
    | none => .bad
    | some j => .ok () (s2.set i (some (.list (ds.set j d))))) else .bad
  | _, _ => .bad
def sSetIx2 (i : Nat) (gi : O) (j : Nat) (gj : O) (g : AL) : S := fun s => (g s).bind fun rs s1 => match owns rs s1 with
  | some [d1, d2] => (wIx i gi d1 s1).bind fun _ s2 => (wIx j gj d2 s2).bind fun _ s3 => .ok .nx s3
  | _ => .bad
section
variable [Tb] [Vs] {X : Cx} {K : PySem.W.Frag} {lk : Nat → Bool}
theorem wIx_pur {i : Nat} {gi : O} {d : D} {s s' : Sg} (h : wIx i gi d s = .ok () s') : pur d = true := by
  unfold wIx at h
  obtain ⟨_, s1, e1, h⟩ := bind_inv h
  obtain ⟨ri, s2, e2, h⟩ := bind_inv h
  split at h
  · split at h
    · assumption
    · cases h
  · cases h
theorem gSub_step {i : Nat} {gi : O} {d : D} {s s' : Sg} {σ : St} {H : Hp} {Fs : Fp} {v : V} {Q : St → Hp → Prop} (R : RelS K H s σ Fs) (h : wIx i gi d s = .ok () s') (o : Own K H d v [])
    (q : ∀ H' Fs', RelS K H' s' σ Fs' → Ev H Fs H' Fs' → Q σ H') : gSub (tVar i) (tO K gi) rSetL v σ H Q := by
  have hp := wIx_pur h
  unfold wIx at h
  obtain ⟨rv, s1', e1', e⟩ := bind_inv h
  unfold oV at e1'
  split at e1'
  · rename_i d0 hd0
    cases e1'
    obtain ⟨vl, hvl, _⟩ := R.has i d0 (join_some hd0)
    refine ⟨vl, hvl, ?_⟩
    obtain ⟨ri, s2, e2, e⟩ := bind_inv e
    refine ⟨s, Fs, ri, s2, R, e2, fun vi H2 Fs2 F2 R2 E2 k2 n2 => ?_⟩
    split at e
    · rename_i k ds hk hs2
      rw [if_pos hp] at e
      split at e
      · cases e
      · rename_i j hj
        cases e
        obtain ⟨vl', hvl', ol⟩ := R2.has i _ (join_some hs2)
        rw [hvl] at hvl'
        cases hvl'
        obtain ⟨l, vs, F0, rfl, eF, hl, t, nl⟩ := own_list ol
        obtain ⟨F', oi⟩ := k2.dp R2 hk
        cases oi
        have o1 : Own K H2 d v [] := o.chg E2.chg fun a z => by cases z
        obtain ⟨F3, t3, hF3⟩ := OwnA.put o1 j t
        refine ⟨l, vs, k, j, rfl, rfl, hl, by rw [t.len]; exact hj, ?_⟩
        obtain ⟨Fs3, R3, C3, n3⟩ := R2.wr (join_some hs2) hvl hl eF t3 (fun z => nl (hF3 _ z)) (fun a ha => .inl (hF3 a ha)) (Fd := []) (by simp)
        exact q _ Fs3 R3 (E2.trans ⟨C3, fun j a h => (n3 j a h).imp id (fun z => by cases z)⟩)
    · cases e
  · cases e1'
theorem ss_setIx2 {i j : Nat} {x y : Str} {ix iy a b : Expr} {p1 p2 p3 p4 pt pt2 pos : Pos} {k k2 : Nat} {gi gj : O} {g : AL} (hc : X.calm = true) (hv : PE X (.Name x p1) (tVar i)) (hix : SimO X ix gi) (hv2 : PE X (.Name y p3) (tVar j)) (hiy : SimO X iy gj) (ha : SimA X [a, b] g)
    (hs : swapsWithSole [.Tuple [.Subscript (.Name x p1) ix p2, .Subscript (.Name y p3) iy p4] k pt] (.Tuple [a, b] k2 pt2) pos.line X.env = pure false := by rfl) (hw : swappedStores [.Tuple [.Subscript (.Name x p1) ix p2, .Subscript (.Name y p3) iy p4] k pt] (.Tuple [a, b] k2 pt2) X.env = pure none := by rfl)
    (ha1 : ∀ v, assign (.Subscript (.Name x p1) ix p2) X.env v = (do
      let ov ← holding [v] (eval (.Name x p1) X.env)
      let iv ← holding [v, ov] (eval ix X.env)
      standAt p2
      holding [v, ov, iv] (setItem ov iv v)
      release [v, ov, iv] []) := by intro _; rfl)
    (ha2 : ∀ v, assign (.Subscript (.Name y p3) iy p4) X.env v = (do
      let ov ← holding [v] (eval (.Name y p3) X.env)
      let iv ← holding [v, ov] (eval iy X.env)
      standAt p4
      holding [v, ov, iv] (setItem ov iv v)
      release [v, ov, iv] []) := by intro _; rfl) :
    SimS X lk (.Assign [.Tuple [.Subscript (.Name x p1) ix p2, .Subscript (.Name y p3) iy p4] k pt] (.Tuple [a, b] k2 pt2) pos) (sSetIx2 i gi j gj g) := by
  refine ps_imp (ps_asg (pe_tupD ha) (pg_tup (n := 2) hc (pgs_cons (pg_sub hv hix set_list ha1) (pgs_cons (pg_sub hv2 hiy set_list ha2) pgs_nil))) hs hw (by rfl)) fun D σ H z => ?_
  obtain ⟨s, Fs, fl, s', R, e, q⟩ := z
  obtain ⟨rs, s1, e1, e⟩ := bind_inv e
  refine ⟨s, Fs, rs, s1, R, e1, fun vs H1 Fs1 Gs R1 E1 k1 n1 => ?_⟩
  split at e
  · rename_i d1 d2 hds
    obtain ⟨_, s2, e2, e⟩ := bind_inv e
    obtain ⟨_, s3, e3, e⟩ := bind_inv e
    cases e
    obtain ⟨o, _⟩ := k1.own R1 hds
    have q1 := wIx_pur e2
    have q2 := wIx_pur e3
    have o := o
    have e0 := o.pur (by rw [purs_cons, purs_cons, q1, q2]; rfl)
    rw [e0] at o
    obtain ⟨v1, v2, F1, F2, rfl, o1, o2, _⟩ := owna2 o
    refine ⟨by show 2 ≤ sizeLine; decide, fun p ob hp hd => ?_⟩
    rw [o1.pur q1] at o1
    rw [o2.pur q2] at o2
    have sm : Same H1 (upd H1 p (.frz ob (.tup [v1, v2]))) := same_new hp
    refine ⟨p, [v1, v2], rfl, (SqD.of upd_same hd).sq, rfl, v1, [v2], rfl, ?_⟩
    refine gSub_step (R1.same sm) e2 (o1.same sm) fun H2 Fs2 R2 E2 => ⟨v2, [], rfl, ?_⟩
    refine gSub_step R2 e3 (((o2.same sm).chg E2.chg fun a z => by cases z)) fun H3 Fs3 R3 E3 => ⟨rfl, ?_⟩
    exact q σ H3 Fs3 R3 ((E1.trans (.same _ sm)).trans (E2.trans E3)) (.refl _ _)
  · cases e
end
end Sim
namespace Sim
open PySem PySem.Spec L2
def mPop : List D → List D → Option (List D × D)
  | ds, [] => mPopAt ds [.int (-1)]
  | _, _ => none
section
variable {K : PySem.W.Frag} {H : Hp}
theorem er_last {α : Type _} : ∀ (xs : List α), xs.eraseIdx (xs.length - 1) = xs.dropLast
  | [] => rfl
  | [_] => rfl
  | x :: y :: zs => by
    have := er_last (y :: zs)
    rw [List.length_cons, Nat.add_sub_cancel, List.length_cons, List.eraseIdx_cons_succ, List.dropLast_cons₂]
    rw [List.length_cons, Nat.add_sub_cancel] at this
    rw [this]
theorem md_pop : MtD K rPop mPop := by
  intro l vs F ds as ws G ds' d H Q hl t n oa li hf hp q
  cases as with
  | cons a as => cases hf
  | nil =>
    cases oa
    obtain ⟨l', xs, i, k, y, e1, e2, e3, e4, e5, e6, e7, e8⟩ := md_popAt l vs F ds [.int (-1)] [.int (-1)] [] ds' d H Q hl t n (.cons0 (.int _) .nil) (fun _ z => nomatch z) hf hp (fun vs' F' v a b c => q vs' F' v a (fun x hx => by
      rcases b x hx with z | z
      · exact .inl z
      · cases z) c)
    cases e1
    cases e2
    have hk : k = xs.length - 1 := by
      unfold seqIndex? at e6
      split at e6 <;> simp_all <;> omega
    subst hk
    rw [er_last] at e8
    exact ⟨l, xs, y, rfl, rfl, e3, e7, e8⟩
end
section
variable [Tb] [Vs] {X : Cx}
theorem so_mt0F {e0 : Expr} {f : List D → List D → Option (List D × D)} {r : V → List V → Hp → VK → Prop} {i : Nat} {name : Str} {id : String} {apos cpos : Pos} (hr : MtD X.K r f) (slot : Slot "list" name id) (hty : typeOf (.builtin id) = pure (.type "method_descriptor")) (hm : MtR X id r)
    (ho : PE X e0 (tSl i))
    (hbase : attributeBase e0 name X.env (eval e0 X.env) = eval e0 X.env := by rfl)
    (hline : (apos.endLine == cpos.line) = true := by rfl) :
    SimO X (.Call (.Attribute e0 name apos) [] [] cpos) (oMt f i aNil) :=
  pe_imp (pe_bm0 PySem.F.plainAttrs_list slot hty hm ho hbase hline) fun σ H Q h => by
    obtain ⟨v, hv, ln, ty, z⟩ := tO_mt hr h
    exact ⟨v, hv, ln, ty, tA_nil z⟩
theorem so_mt0 {f : List D → List D → Option (List D × D)} {r : V → List V → Hp → VK → Prop} {i : Nat} {x name : Str} {id : String} {p apos cpos : Pos} (hr : MtD X.K r f) (slot : Slot "list" name id) (hty : typeOf (.builtin id) = pure (.type "method_descriptor")) (hm : MtR X id r)
    (ho : PE X (.Name x p) (tVar i))
    (hbase : attributeBase (.Name x p) name X.env (eval (.Name x p) X.env) = eval (.Name x p) X.env := by rfl)
    (hline : (apos.endLine == cpos.line) = true := by rfl) :
    SimO X (.Call (.Attribute (.Name x p) name apos) [] [] cpos) (oMt f i aNil) :=
  so_mt0F hr slot hty hm (tsl_of ho) hbase hline
end
end Sim
namespace Sim
open PySem PySem.Spec L2
open Sem (wp)
section
variable {prog : Program} {w : World} {A : Around} {E : Value → Shared → Prop} {s : Shared} {z TI TO i1 i2 : Addr} {fp1 fp2 : List Addr} {n1 n2 i : Nat} {P1 P2 : Nat → Value → Prop} {St1 St2 : Nat → Heap → Prop} {a1 a2 : Value} {f : Value} {b : Bool}
end
end Sim
namespace Sim
open PySem PySem.Spec L2
open Sem (wp)
end Sim
namespace Sim
open PySem PySem.Spec L2
open Sem (wp)
section
variable {prog : Program} {w : World} {A : Around} {E : Value → Shared → Prop} {k l : Bool} {z TI TO i1 i2 a b S : Addr} {xs ys : Array Value} {n0 : Nat}
/-- all but these stands -/
def KeepBut (fp : List Addr) (s s' : Shared) : Prop := (∀ c o, c ∉ fp → s.heap.get? c = some o → s'.heap.get? c = some o) ∧ s'.gens = s.gens ∧ s'.drawn = s.drawn ∧ s'.os = s.os
theorem KeepBut.trans {fp : List Addr} {s s' s'' : Shared} (h : KeepBut fp s s') (h' : KeepBut fp s' s'') : KeepBut fp s s'' :=
  ⟨fun c o q e => h'.1 c o q (h.1 c o q e), h'.2.1.trans h.2.1, h'.2.2.1.trans h.2.2.1, h'.2.2.2.trans h.2.2.2⟩
end
end Sim
namespace Sim
open PySem PySem.Spec L2 PySem.SeqAt
mutual
def flat : D → List Int
  | .int i => [i]
  | .tuple ds => flats ds
  | _ => []
def flats : List D → List Int
  | [] => []
  | d :: ds => flat d ++ flats ds
end
mutual
/-- of one shape, numbers within -/
def alike : D → D → Bool
  | .int _, .int _ => true
  | .tuple ds, .tuple es => alikes ds es
  | _, _ => false
def alikes : List D → List D → Bool
  | [], [] => true
  | d :: ds, e :: es => alike d e && alikes ds es
  | _, _ => false
end
mutual
/-- how deep, 0 a number -/
def deepD : D → Nat
  | .tuple ds => 1 + deepsD ds
  | _ => 0
def deepsD : List D → Nat
  | [] => 0
  | d :: ds => max (deepD d) (deepsD ds)
end
mutual
def Rn (h : Heap) : D → Value → Prop
  | .int i, v => ∃ t, v = .int i t
  | .tuple ds, v => ∃ a o xs n, v = .ref a ∧ h.get? a = some o ∧ o.cls = .type "tuple" ∧ o.data = .seq xs n ∧ Rns h ds xs.toList
  | _, _ => False
def Rns (h : Heap) : List D → List Value → Prop
  | [], [] => True
  | d :: ds, v :: vs => Rn h d v ∧ Rns h ds vs
  | _, _ => False
end
theorem Rns.len : ∀ {h : Heap} {ds : List D} {vs : List Value}, Rns h ds vs → vs.length = ds.length
  | _, [], [], _ => rfl
  | _, d :: ds, v :: vs, r => congrArg (· + 1) (Rns.len r.2)
  | _, [], _ :: _, r => r.elim
  | _, _ :: _, [], r => r.elim
/-- keeps all tuples -/
def KeepT (h h' : Heap) : Prop := ∀ b o, h.get? b = some o → o.cls = .type "tuple" → h'.get? b = some o
mutual
theorem Rn.keep {h h' : Heap} (k : KeepT h h') : ∀ {d : D} {v : Value}, Rn h d v → Rn h' d v
  | .int _, _, r => r
  | .tuple ds, _, ⟨a, o, xs, n, e, ho, hc, hd, r⟩ => ⟨a, o, xs, n, e, k a o ho hc, hc, hd, Rns.keep k r⟩
  | .none, _, r | .bool _, _, r | .str _, _, r | .list _, _, r | .dict _, _, r => r.elim
theorem Rns.keep {h h' : Heap} (k : KeepT h h') : ∀ {ds : List D} {vs : List Value}, Rns h ds vs → Rns h' ds vs
  | [], [], _ => trivial
  | _ :: _, _ :: _, r => ⟨Rn.keep k r.1, Rns.keep k r.2⟩
  | [], _ :: _, r => r.elim
  | _ :: _, [], r => r.elim
end
mutual
theorem Rn.inj {h : Heap} : ∀ {d d' : D} {v : Value}, Rn h d v → Rn h d' v → d = d'
  | .int i, d', v, ⟨t, e⟩, r' => by
    subst e
    cases d' with
    | int j => obtain ⟨u, e⟩ := r'; cases e; rfl
    | tuple es => obtain ⟨a, o, xs, n, e, _⟩ := r'; cases e
    | _ => exact r'.elim
  | .tuple ds, d', v, ⟨a, o, xs, n, e, ho, hc, hd, r⟩, r' => by
    subst e
    cases d' with
    | int j => obtain ⟨u, e⟩ := r'; cases e
    | tuple es =>
      obtain ⟨a', o', xs', n', e', ho', hc', hd', r'⟩ := r'
      cases e'
      rw [ho] at ho'
      cases ho'
      rw [hd] at hd'
      cases hd'
      rw [Rns.inj r r']
    | _ => exact r'.elim
  | .none, _, _, r, _ | .bool _, _, _, r, _ | .str _, _, _, r, _ | .list _, _, _, r, _ | .dict _, _, _, r, _ => r.elim
theorem Rns.inj {h : Heap} : ∀ {ds ds' : List D} {vs : List Value}, Rns h ds vs → Rns h ds' vs → ds = ds'
  | [], [], _, _, _ => rfl
  | d :: ds, d' :: ds', v :: vs, r, r' => by rw [Rn.inj r.1 r'.1, Rns.inj r.2 r'.2]
  | [], _ :: _, [], _, r' => r'.elim
  | [], _ :: _, _ :: _, r, _ => r.elim
  | _ :: _, [], [], r, _ => r.elim
  | _ :: _, [], _ :: _, _, r' => r'.elim
  | _ :: _, _ :: _, [], r, _ => r.elim
end
theorem Rns.at {h : Heap} : ∀ {ds : List D} {vs : List Value}, Rns h ds vs → ∀ (j : Nat) (l : j < vs.length) (l2 : j < ds.length), Rn h ds[j] vs[j]
  | d :: ds, v :: vs, r, 0, _, _ => r.1
  | d :: ds, v :: vs, r, j + 1, l, l2 => Rns.at r.2 j (by simpa using l) (by simpa using l2)
  | [], [], _, _, l, _ => absurd l (by simp)
  | [], _ :: _, r, _, _, _ => r.elim
  | _ :: _, [], r, _, _, _ => r.elim
section
variable {prog : Program} {w : World} {A : Around} {s : Shared}
end
end Sim
namespace Sim
open PySem PySem.Spec L2 PySem.SeqAt SrtO
section
variable {prog : Program} {w : World} {A : Around} {s : Shared}
end
section
variable {α : Type}
end
/-- what can be sorted so: tuples, not empty, of one shape, not deep -/
def okN : List D → Bool
  | [] => true
  | d :: ds => (match d with | .tuple (_ :: _) => true | _ => false) && decide (deepD d ≤ 8) && (d :: ds).all fun e => alike d e
section
variable {X : Cx} {pins : List (Addr × Obj)} {σ : St} {H : Hp} {s : Shared}
theorem OwnA.at1 {K : PySem.W.Frag} {H : Hp} : ∀ {ds : List D} {vs : List V}, OwnA K H ds vs [] → ∀ (us : List Value), Vals vs us → ∀ u ∈ us, ∃ d ∈ ds, ∃ v, RelV v u ∧ Own K H d v []
  | [], _, h, us, r, u, hu => by
    cases h
    cases r
    cases hu
  | d :: ds, v :: vs, h, _, r, u, hu => by
    obtain ⟨o1, o2⟩ := OwnA.nil2 h
    cases r with
    | cons r1 r2 =>
      rcases List.mem_cons.mp hu with rfl | hu
      · exact ⟨d, List.mem_cons_self .., v, r1, o1⟩
      · obtain ⟨d', m, v', r', o'⟩ := OwnA.at1 o2 _ r2 u hu
        exact ⟨d', List.mem_cons_of_mem _ m, v', r', o'⟩
open Classical in
end
end Sim
namespace Sim
open PySem PySem.Spec L2 PySem.SeqAt SrtO
section
variable {X : Cx} {pins : List (Addr × Obj)} {σ : St} {H : Hp} {s : Shared}
end
section
variable {k l : Bool} {a b : Addr} {xs ys : Array Value}
end
end Sim
namespace Sim
open PySem PySem.Spec L2 PySem.SeqAt SrtO
section
variable {prog : Program} {w : World} {A : Around} {E : Value → Shared → Prop} {s : Shared} {k l : Bool} {z TI TO i1 i2 a b : Addr} {xs ys : Array Value}
end
end Sim
namespace Sim
open PySem PySem.Spec L2 PySem.SeqAt SrtO
def seqLT : D → Option (List D)
  | .list ds => some ds
  | .tuple ds => some ds
  | _ => none
section
variable {X : Cx} {e e2 : Expr} {ta : TA} {p pos p2 pos2 : Pos}
end
end Sim
namespace Sim
open PySem PySem.Spec L2 PySem.SeqAt SrtO
section
variable [Tb] [Vs] {X : Cx} {e e2 : Expr} {ta : TA} {p pos p2 pos2 : Pos}
variable {g : AL}
end
end Sim
namespace Sim
open PySem PySem.Spec L2
section
variable [Tb] [Vs] {X : Cx}
end
end Sim
namespace Sim
open PySem PySem.Spec L2
def dd : List Int → List Int
  | [] => []
  | x :: xs => if x ∈ xs then dd xs else x :: dd xs
theorem dd_mem : ∀ {xs : List Int} {y : Int}, y ∈ dd xs ↔ y ∈ xs
  | [], y => Iff.rfl
  | x :: xs, y => by
    unfold dd
    have ih := dd_mem (xs := xs) (y := y)
    split
    · rename_i h
      rw [ih, List.mem_cons]
      exact ⟨.inr, fun z => z.elim (fun e => by rw [e]; exact h) id⟩
    · rw [List.mem_cons, List.mem_cons, ih]
theorem dd_nodup : ∀ xs : List Int, (dd xs).Nodup
  | [] => List.nodup_nil
  | x :: xs => by
    unfold dd
    split
    · exact dd_nodup xs
    · rename_i h
      exact List.nodup_cons.mpr ⟨fun z => h (dd_mem.mp z), dd_nodup xs⟩
theorem dd_len {xs ks : List Int} (n : ks.Nodup) (h : ∀ k, k ∈ ks ↔ k ∈ xs) : ks.length = (dd xs).length :=
  ((List.perm_ext_iff_of_nodup n (dd_nodup xs)).mpr fun k => (h k).trans dd_mem.symm).length_eq
def rLenSet (K : PySem.W.Frag) : List V → Hp → VK → Prop := fun vs H Q => ∃ (l : Addr) (ns : List Int), vs = [.ref l] ∧ SqT K H l (ns.map V.int) ∧ ns.length ≤ 4000 ∧ Q (.int ((dd ns).length : Nat)) H
def pLenSet : List D → Option D
  | [.tuple ds] => (intsD ds).bind fun ns => if ns.length ≤ 4000 then some (.int (dd ns).length) else none
  | _ => none
theorem bt_set2 : bootBuiltins "set" = some (.type "set") := by decide +kernel
section
variable [Tb] [Vs] {X : Cx} {a : Expr} {ta : TA} {p p2 q pos : Pos}
theorem pe_lenSetT (hg : Gl X "len") (hm : X.mg "len" = none) (hg2 : Gl X "set") (hm2 : X.mg "set" = none) (ha : PA X [a] ta) (hc : X.calm = true := by rfl)
    (na : starEach [a] X.env = (false, eval a X.env) :: starEach [] X.env := by rfl) (nb : starEach [.Call (.Name "set" p2) [a] [] q] X.env = (false, eval (.Call (.Name "set" p2) [a] [] q) X.env) :: starEach [] X.env := by rfl) :
    PE X (.Call (.Name "len" p) [.Call (.Name "set" p2) [a] [] q] [] pos) (fun σ H Q => ta σ H fun vs H1 => rLenSet X.K vs H1 Q) := by
  refine ⟨fun pins s σ H Q I h => ?_⟩
  refine PyProof.Rows.Call_ (ld_blt I hg hm bt_len (PyProof.Rows.callWith_builtin1 (PyProof.Rows.args_cons (PyProof.Rows.Call_ (ld_blt I hg2 hm2 bt_set2 (PyProof.Rows.callWith_type1 (thn (ha.run q pins s σ H _ I h) fun us s1 ⟨vs, H1, I1, r1, q1⟩ => ?_) na rfl))) nb) nb rfl))
  obtain ⟨l, ns, ex, hq, hl, q1⟩ := q1
  subst ex
  rw [Vals.ref1 r1]
  obtain ⟨its, r, pl, hz⟩ := I1.tuple hq
  refine L2.call_set_tupI ns (I1.ok.hd hc) pl (by simpa using r.ints) (by unfold scanBound; omega) fun h' tk c R hc' hk => ?_
  refine PyProof.Rows.args_nil ?_
  have I2 : Inv X pins σ H1 { s1 with heap := h', toks := tk } := I1.kept hk
  obtain ⟨o, es, ep, t, ho, hex, hd, _, hnd, hS, _, hf, hn, _⟩ := R
  have e : c = (dd ns).length := by
    rw [← hn, ← Array.length_toList, ← List.length_map (f := keyOf)]
    exact dd_len hnd fun k => by rw [← hS k]; simp
  exact call_len_set ho hex hd hf (by rw [hn]; omega) ⟨.int ((dd ns).length : Nat), H1, I2.tok _, ⟨_, by rw [hn, e]⟩, q1⟩
theorem pr_lenSet {K : PySem.W.Frag} : PrimR K (rLenSet K) pLenSet := by
  intro vs ds d H Q h e q
  unfold pLenSet at e
  split at e
  · obtain ⟨x, F, rfl, o⟩ := h.one
    rename_i ds
    cases hi : intsD ds with
    | none => rw [hi] at e; cases e
    | some ns =>
      rw [hi, Option.bind_some] at e
      split at e
      · rename_i hl
        cases e
        cases o with
        | tup h1 t =>
          have := own_ints t hi
          subst this
          exact ⟨_, ns, rfl, h1.sq, hl, q _ _ (NewV.sc (.int _))⟩
      · cases e
  · cases e
variable {ga : AL}
theorem so_lenSet (hg : Gl X "len") (hm : X.mg "len" = none) (hg2 : Gl X "set") (hm2 : X.mg "set" = none) (ha : SimA X [a] ga) (hc : X.calm = true := by rfl)
    (na : starEach [a] X.env = (false, eval a X.env) :: starEach [] X.env := by rfl) (nb : starEach [.Call (.Name "set" p2) [a] [] q] X.env = (false, eval (.Call (.Name "set" p2) [a] [] q) X.env) :: starEach [] X.env := by rfl) :
    SimO X (.Call (.Name "len" p) [.Call (.Name "set" p2) [a] [] q] [] pos) (oPrim pLenSet ga) :=
  pe_imp (pe_lenSetT hg hm hg2 hm2 ha hc na nb) fun σ H Q h => prim pr_lenSet h
end
end Sim
namespace Sim
open PySem PySem.Spec L2
mutual
/-- ints of short text, and tuples of such -/
def sh : D → Bool
  | .int i => decide (i.natAbs < 10 ^ 12)
  | .tuple xs => shs xs
  | _ => false
def shs : List D → Bool
  | [] => true
  | x :: xs => sh x && shs xs
end
mutual
theorem sh_noD : ∀ d : D, sh d = true → noD d = true
  | .int i, _ => rfl
  | .tuple xs, h => by rw [noD]; exact shs_noD xs (by rw [sh] at h; exact h)
  | .none, h => by simp [sh] at h
  | .bool _, h => by simp [sh] at h
  | .str _, h => by simp [sh] at h
  | .list _, h => by simp [sh] at h
  | .dict _, h => by simp [sh] at h
theorem shs_noD : ∀ ds : List D, shs ds = true → noDs ds = true
  | [], _ => rfl
  | x :: xs, h => by
    rw [shs, Bool.and_eq_true] at h
    rw [noDs, sh_noD x h.1, shs_noD xs h.2]; rfl
end
mutual
theorem sh_show : ∀ d : D, sh d = true → d.showable = true ∧ d.hasDict = false ∧ d.leavesShort 13 = true
  | .int i, h => by
    rw [sh, decide_eq_true_eq] at h
    refine ⟨?_, by simp only [PyData.hasDict], by simp only [PyData.leavesShort, decide_eq_true_eq]; exact PyData.shown_int_le h⟩
    simp only [PyData.showable, decide_eq_true_eq]
    by_cases h0 : i.natAbs = 0
    · rw [h0]; decide
    · rw [Nat.log2_lt h0]
      exact Nat.lt_of_lt_of_le h (by decide +kernel)
  | .tuple xs, h => by
    have := shs_show xs (by rw [sh] at h; exact h)
    exact ⟨by simp only [PyData.showable]; exact this.1, by simp only [PyData.hasDict]; exact this.2.1, by simp only [PyData.leavesShort]; exact this.2.2⟩
  | .none, h => by simp [sh] at h
  | .bool _, h => by simp [sh] at h
  | .str _, h => by simp [sh] at h
  | .list _, h => by simp [sh] at h
  | .dict _, h => by simp [sh] at h
theorem shs_show : ∀ ds : List D, shs ds = true → PyData.showableAll ds = true ∧ PyData.hasDictAll ds = false ∧ PyData.leavesShortAll 13 ds = true
  | [], _ => ⟨rfl, rfl, rfl⟩
  | x :: xs, h => by
    rw [shs, Bool.and_eq_true] at h
    have h1 := sh_show x h.1
    have h2 := shs_show xs h.2
    refine ⟨by simp only [PyData.showableAll, h1.1, h2.1, Bool.and_self], by simp only [PyData.hasDictAll, h1.2.1, h2.2.1, Bool.or_self], by simp only [PyData.leavesShortAll, h1.2.2, h2.2.2, Bool.and_self]⟩
end
section
variable {X : Cx}
end
end Sim
namespace Sim
open PySem PySem.Spec L2
structure FnOkG (P : Program) (w : World) (K : PySem.W.Frag) (mg : Str → Option Value) (base : Heap) (k : Nat) (f : Addr) (fd : FuncData) (ps : List Str) (sp : Sp) : Prop where
  len : ∀ vs H Q E, sp vs H Q E → vs.length = ps.length
  run : ∀ (A : Around) (outer : List Env) (s : Shared) (H : Hp) (args : Args) (us : List Value) (vs : List V) (Q : VK) (E : XK), A.guards = some [] → Room k A → Env0 P w K mg base A outer s H →
    BindsTo s fd args (ps.zip us) → Vals vs us → sp vs H Q E → codeAny (model P w) A (.call (.ref f) args) (CR CX0 outer P w H s Q E) s
theorem FnOkG.of {P : Program} {w : World} {K : PySem.W.Frag} {mg : Str → Option Value} {base : Heap} {k : Nat} {f : Addr} {fd : FuncData} {ps : List Str} {sp : Sp} (F : FnOk P w K mg base CX0 k f fd ps sp) : FnOkG P w K mg base k f fd ps sp :=
  ⟨F.len, fun A outer s H args us vs Q E _ hr e0 hb r h => F.run A outer s H args us vs Q E hr e0 hb r h⟩
section
variable [Tb] {P : Program} {w : World} {K : PySem.W.Frag} {mg : Str → Option Value} {base : Heap}
theorem fnG {x qual : Str} {st : Stmt} {f : Addr} {fd : FuncData} {N ps : List Str} {k : Nat} {sp : Sp} (F : Fun K x qual st f fd) (S : FnScope N ps (defScope st)) (len : ∀ vs H Q E, sp vs H Q E → vs.length = ps.length)
    (hbody : ∀ (cdv : Value) (A : Around) (outer : List Env) (s : Shared) (H : Hp) (vs : List V) (Q : VK) (E : XK), A.guards = some [] → Room k (A.deeper (PyProof.Rows.envOfC qual (defScope st) s.heap.objs.size f cdv)) → sp vs H Q E →
      ∃ t, PSs (cxOf CX0 P w K mg base N qual (defScope st) f cdv A outer s H E).nox (defBody st) t ∧ t { nx := fun _ H' => Q .non H', rt := Q } (L2.start N vs) H) : FnOkG P w K mg base (k + 1) f fd ps sp := by
  obtain ⟨oc, od, kV, doc, pm, an, cdv, ct, osl, rfl, lk, hcd⟩ := F.ex
  refine ⟨len, fun A outer s H args us vs Q E hG hr e0 hb r hsp => ?_⟩
  have into : ∀ {b : Addr} {o : Obj}, base.get? b = some o → s.heap.get? b = some o := fun {b o} e => (e0.bs b o e).1
  refine Att.call_fn (e0.mod.kin.keeps fun b o e => into e) (e0.mod.nolimit.keeps fun b o e => into e) lk hcd hr.depth hb ?_ (fun s1 x => ?_) S.co S.gen S.kind
  · refine List.all_eq_true.mpr fun y hy => ?_
    have := S.par y.1 (List.of_mem_zip hy).1
    rcases this with q | q <;> rw [q] <;> rfl
  · obtain ⟨t, ht, hq⟩ := hbody cdv A outer s H vs Q E hG (hr.deeper _) hsp
    have I := inv_start (CX := CX0) (E := E) S hr.hd e0 (len _ _ _ _ hsp) r x
    refine wpAny_mono (ht.nox.run [] s1 (L2.start N vs) H _ I hq) (fun fl s' z => ?_) fun e s' z => z
    cases fl with
    | ret u =>
      obtain ⟨v, σ', H', J, rv, q⟩ := z
      exact ⟨v, H', J.os, J.bare, J.base, J.hok, rv, q⟩
    | next =>
      obtain ⟨σ', H', J, q⟩ := z
      exact ⟨.non, H', J.os, J.bare, J.base, J.hok, rfl, q⟩
    | brk =>
      obtain ⟨_, _, _, q⟩ := z
      exact q.elim
    | cont =>
      obtain ⟨_, _, _, q⟩ := z
      exact q.elim
theorem fn_simG {x qual : Str} {st : Stmt} {f : Addr} {fd : FuncData} {N ps : List Str} {ms : List Nat} {n k : Nat} {g : S} (F : Fun K x qual st f fd) (Sc : FnScope N ps (defScope st)) (hn : N.length = n) (hm : ms.length = ps.length)
    (hb : ∀ (cdv : Value) (A : Around) (outer : List Env) (s : Shared) (H : Hp) (E : XK), A.guards = some [] → Room k (A.deeper (PyProof.Rows.envOfC qual (defScope st) s.heap.objs.size f cdv)) →
      SimSs (cxOf CX0 P w K mg base N qual (defScope st) f cdv A outer s H E).nox (lkM ms) (defBody st) g) : FnOkG P w K mg base (k + 1) f fd ps (spF K ps.length (mkFn ms n g)) := by
  refine fnG F Sc (fun vs H Q E h => ?_) (fun cdv A outer s H vs Q E hG hr h => ⟨_, hb cdv A outer s H E hG hr, ?_⟩)
  · obtain ⟨ds, Fl, r, as, hf, hl, _⟩ := h
    exact hl
  · obtain ⟨ds, Fl, r, as, hf, hl, tt, ol, q⟩ := h
    unfold mkFn at hf
    split at hf
    · rename_i hok
      have hlm := okM_len hok
      split at hf
      · rename_i fl s' hg
        split at hf
        · cases hf
        · rename_i as' hc
          have est : L2.start N vs = vs.map some ++ List.replicate (n - ds.length) none := by
            unfold L2.start
            rw [hn, ← ol.len]
          have R0 := relS_start tt ol (n - ds.length)
          rw [est]
          refine ⟨_, _, fl, s', R0, hg, ?_⟩
          have fin : ∀ {σ' : St} {H' : Hp} {Fs' : Fp}, RelS K H' s' σ' Fs' → EvR (lkM ms) H (fun j => Fl.getD j []) H' Fs' → Lk (lkM ms) (vs.map some ++ List.replicate (n - ds.length) none) σ' →
              ∃ Fl', OwnLs K H' as' vs Fl' ∧ NewL H Fl Fl' ∧ (Chg (fun a => ∃ G, G ∈ Fl ∧ a ∈ G) H H') ∧ ∀ G, G ∈ Fl' → ∀ a, a ∈ G → ∃ i, lkM ms i = true ∧ a ∈ Fs' i := by
            intro σ' H' Fs' R' E' L'
            have c2 : Chg (fun a => ∃ G, G ∈ Fl ∧ a ∈ G) H H' := E'.chg.mono fun a _ _ ⟨i, hi⟩ => by
              obtain ⟨G, hG, ha⟩ := getD_of hi
              exact ⟨G, List.mem_of_getElem? hG, ha⟩
            have c3 : Chg (fun _ => True) H H' := E'.chg.mono fun _ _ _ _ => trivial
            obtain ⟨Fl', h1, h2, h3⟩ := coll_own (Fs' := Fs') R' c3 (fun i a h => by
              obtain ⟨xs, z⟩ := R'.mem h
              rw [z]
              simp) 0 ol hok hc (fun i hi h0 => by
                have := L' i (by unfold lkM; rw [h0]; rfl)
                rw [Nat.zero_add, this, List.getElem?_append_left (by rw [List.length_map, ol.len, hlm]; exact hi), List.getElem?_map]) (fun i a hm ha hi => by
                rw [Nat.zero_add] at ha
                rcases E'.new i a ha with z | ⟨z, _⟩
                · exact z
                · unfold lkM at z
                  rw [hm] at z
                  cases z)
            refine ⟨Fl', h1, h2, c2, fun G hG a ha => ?_⟩
            obtain ⟨i, _, q2, q3⟩ := h3 G hG a ha
            exact ⟨i, by unfold lkM; rw [Nat.sub_zero] at q2; rw [q2]; rfl, q3⟩
          cases fl with
          | nx =>
            cases hf
            intro σ' H' Fs' R' E' L'
            obtain ⟨Fl', h1, h2, c2, _⟩ := fin R' E'.r L'
            exact q .non H' Fl' [] h1 c2 h2 .non (by simp) (by simp)
          | rt d =>
            cases hf
            intro v σ' H' Fs' F' R' E' L' o nn m
            obtain ⟨Fl', h1, h2, c2, h3⟩ := fin R' E' L'
            refine q v H' Fl' F' h1 c2 h2 o (fun a ha => ?_) fun G hG a ha hb => ?_
            · rcases nn a ha with z | ⟨i, hi, z⟩
              · exact z
              · exfalso
                have z' : a ∈ Fl.getD i [] := z
                rw [ol.pure_at hok i (fun e => by unfold lkM at hi; rw [e] at hi; cases hi)] at z'
                cases z'
            · obtain ⟨i, hi, q3⟩ := h3 G hG a ha
              exact m i a hi q3 hb
          | bk => cases hf
          | ct => cases hf
      · cases hf
      · cases hf
    · cases hf
end
section
open PyProof.Rows
theorem law_callG {P : Program} {w : World} {K : PySem.W.Frag} {mg mb : Str → Option Value} {k : Nat} {fa a : Addr} {fd : FuncData} {x : Str} {sp : Sp} {s₁ : Shared} {vs : List Value} {ns : List Int}
    (KX : K.In s₁.heap) (hns : s₁.heap.Ns mainGlobals mg) (hb : s₁.heap.Ns builtinsNs mb) (hbb : ∀ x : Str, x ≠ "__name__" → mb x = bootBuiltins x) (hlim : s₁.heap.NoLimit) (hg : s₁.gens = #[])
    (ha : s₁.heap.get? a = some { cls := .type "list", data := .seq vs.toArray }) (hi : IntsAre vs ns) (hl : ns.length ≤ sizeLine) (hr : Room k callerA)
    (F : ∀ base : Heap, K.In base → base.Ns mainGlobals mg → FnOkG P w K mg base k fa fd [x] sp) (hbind : ∀ (s : Shared) (u : Value), BindsTo s fd ⟨[u], []⟩ [(x, u)])
    (hsp : ∀ H : Hp, Only H → SqL K H a (ns.map V.int) → sp [.ref a] H (fun v _ => v = .bl true) fun _ _ _ => False) :
    codeAny (model P w) callerA (.call (.ref fa) ⟨[.ref a], []⟩) (fun r s' => r = .ok (.ret (.bool true)) ∧ OldK s₁.heap s'.heap ∧ s'.os = s₁.os ∧ AllBare s'.gens) s₁ := by
  have rv := vals_ints hi
  let H : Hp := fun b => if b = a ∧ K.lookup a = none then some (.frz { cls := .type "list", data := .seq vs.toArray } (.lst (ns.map V.int))) else none
  have hH : ∀ b u, H b = some u → b = a ∧ K.lookup a = none ∧ u = .frz { cls := .type "list", data := .seq vs.toArray } (.lst (ns.map V.int)) := fun b u e => by
    have e' : (if b = a ∧ K.lookup a = none then some (HO.frz { cls := .type "list", data := .seq vs.toArray } (.lst (ns.map V.int))) else none) = some u := e
    split at e'
    · rename_i h
      exact ⟨h.1, h.2, (Option.some.inj e').symm⟩
    · cases e'
  have only : Only H := fun b => by
    cases e : H b with
    | none => exact .inl rfl
    | some u => exact .inr ⟨_, _, congrArg some (hH b u e).2.2⟩
  have hok : HOk P w H s₁.heap := fun b u e => by
    obtain ⟨rfl, _, rfl⟩ := hH b u e
    exact ⟨ha, by rw [List.length_map]; exact hl, vs, _, rv, ha⟩
  have sq : SqL K H a (ns.map V.int) := by
    cases e : K.lookup a with
    | none => exact .inl (.inr ⟨{ cls := .type "list", data := .seq vs.toArray }, if_pos ⟨rfl, e⟩⟩)
    | some o =>
      have e2 := KX a o e
      rw [ha] at e2
      cases e2
      exact .inr ⟨_, vs.toArray, _, e, rfl, rfl, rfl, by rw [List.size_toArray, hi.length]; exact hl, by simpa using rv⟩
  have free : ∀ {b : Addr} {o : Obj}, s₁.heap.get? b = some o → (K.lookup b ≠ none ∨ ∃ es ep, o.data = .dict es ep) → H b = none := fun {b o} e z => by
    cases q : H b with
    | none => rfl
    | some u =>
      obtain ⟨rfl, hk, _⟩ := hH b u q
      rcases z with z | ⟨es, ep, z⟩
      · exact absurd hk z
      · rw [ha] at e
        cases e
        cases (show Data.seq vs.toArray _ = Data.dict es ep from z)
  have nsH : ∀ {b : Addr} {m : Str → Option Value}, s₁.heap.Ns b m → (hidT s₁.heap H).Ns b m := fun ⟨o, es, ep, e, d, r⟩ => ⟨o, es, ep, hidT_get e (free e (.inr ⟨es, ep, d⟩)), d, r⟩
  have kH : K.In (hidT s₁.heap H) := fun b o e => hidT_get (KX b o e) (free (KX b o e) (.inl (by rw [e]; simp)))
  have e0 : Env0 P w K mg (hidT s₁.heap H) callerA [] s₁ H :=
    ⟨rfl, ⟨kH, nsH hns, ⟨mb, nsH hb, hbb⟩, let ⟨mc, h1, h2⟩ := hlim; ⟨mc, nsH h1, h2⟩⟩, fun b o e => of_hidT e, Nat.le_of_eq (hidT_size _ _), trivial, fun b z => absurd (show b ∈ ([] : List Addr) from z) (by simp), hok, .of_eq hg⟩
  refine codeAny_mono ((F _ kH (nsH hns)).run callerA [] s₁ H ⟨[.ref a], []⟩ [.ref a] [.ref a] _ _ rfl hr e0 (hbind s₁ (.ref a)) (.cons rfl .nil) (hsp H only sq)) fun r s' h => ?_
  cases r with
  | error e => exact False.elim h
  | ok fl =>
    cases fl with
    | ret u =>
      obtain ⟨v, H', os, bare, un, hok', rv', q⟩ := h
      obtain rfl : v = .bl true := q
      obtain rfl : u = Value.bool true := rv'
      refine ⟨rfl, .of_keep fun b o e => ?_, os, bare⟩
      rcases only b with q | ⟨ob, xs, q⟩
      · exact un.keep b o e q (fun z => absurd (show b ∈ ([] : List Addr) from z) (by simp)) (by simp)
      · have e1 := (hok b _ q).1
        rw [e] at e1
        cases e1
        exact (hok' b _ (un.frzs b _ _ q)).1
    | next => exact False.elim h
    | brk => exact False.elim h
    | cont => exact False.elim h
theorem walk_ofG {l : PySem.W.OpenLaw} {n k : Nat} {q : Program} {loose : List Str} {XP : (Str → Option Value) → Heap → Prop} {YP : World → Heap → Prop} {d : DefRec} {K : Params → PySem.W.Frag} {sp : PySem.W.Frag → Sp} {x : Str}
    (hn : l.most = some n) (hn2 : n ≤ sizeLine) (hdf : d.params.defaults = []) (hr : Room k callerA)
    (hY : ∀ (w : World) (h : Heap), YP w h → (K w.params).In h)
    (F : ∀ (w : World) (mg : Str → Option Value) (fa : Addr) (h : Heap), (K w.params).In h → h.Ns mainGlobals mg → mg d.name = some (.ref fa) →
      ∃ fd : FuncData, (∀ (s : Shared) (u : Value), BindsTo s fd ⟨[u], []⟩ [(x, u)]) ∧
        ∀ base : Heap, (K w.params).In base → base.Ns mainGlobals mg → FnOkG l.prog w (K w.params) mg base k fa fd [x] (sp (K w.params)))
    (hsp : ∀ (K : PySem.W.Frag) (H : Hp) (a : Addr) (ns : List Int), ns.length ≤ n → Only H → SqL K H a (ns.map V.int) → sp K [.ref a] H (fun v _ => v = .bl true) fun _ _ _ => False) :
    PySem.W.WalkO q loose XP YP l.row.toRowW d [] (fun f vs => PySem.call f vs) := by
  refine Att.attach_call hn hdf fun w s₀ s₁ mg mb fa o pm cd doc a vs ns G Y ho hd hcd hmg hobj hints hlen hg => ?_
  obtain ⟨fd, hb, hF⟩ := F w mg fa _ (hY w _ Y) G.T.g hmg
  exact law_callG (hY w _ Y) G.T.g G.T.b G.T.builtins G.T.nolimit hg hobj hints (Nat.le_trans hlen hn2) hr hF hb fun H hO hS => hsp _ H a ns hlen hO hS
end
end Sim
namespace Sim
open PySem PySem.Spec L2
section
variable [Tb] [Vs] {X : Cx} {K : PySem.W.Frag}
end
end Sim
namespace Sim
open PySem PySem.Spec L2
section
variable [Tb] [Vs] {X : Cx} {e : Expr} {x : Str} {p apos cpos : Pos} {tab : List (Int × Int)} {a : Addr}
end
end Sim
namespace Sim
open PySem PySem.Spec L2
def okMin (ds : List D) : Bool := purs ds && noDs ds && PyData.canLayAll0 ds && decide (PyData.depthAll ds ≤ 40) && ds.all fun x => (ds.all fun y => PySem.W.alike x y) && (match x with | .tuple _ => true | _ => false)
def pMinN : List D → Option D
  | [.list (d :: ds)] => if okMin (d :: ds) then some (PySem.W.minD d ds) else none
  | _ => none
def rMinN (K : PySem.W.Frag) : List V → Hp → VK → Prop := fun xs H Q => ∃ a vs d ds, xs = [.ref a] ∧ SqL K H a vs ∧ OwnA K H (d :: ds) vs [] ∧ okMin (d :: ds) = true ∧ ∀ v, Own K H (PySem.W.minD d ds) v [] → Q v H
theorem lay_mem0 : ∀ {ds : List D}, PyData.canLayAll0 ds = true → ∀ d ∈ ds, PyData.canLay0 d = true
  | _ :: _, h, x, hx => by
    rw [PyData.canLayAll0, Bool.and_eq_true] at h
    rcases List.mem_cons.mp hx with rfl | hx
    · exact h.1
    · exact lay_mem0 h.2 x hx
theorem noD_mem : ∀ {ds : List D}, noDs ds = true → ∀ d ∈ ds, noD d = true
  | _ :: _, h, x, hx => by
    rw [noDs, Bool.and_eq_true] at h
    rcases List.mem_cons.mp hx with rfl | hx
    · exact h.1
    · exact noD_mem h.2 x hx
section
variable {X : Cx}
theorem cr_minN (hc : X.calm = true) (hu : X.A.units + 64 < cLine) : CallR X (.builtin "min") (rMinN X.K) := by
  intro pins s σ H xs us Q I r h
  obtain ⟨a, vs, d, ds, rfl, hq, ho, ok, q⟩ := h
  rw [Vals.ref1 r]
  obtain ⟨its, rv, hl, hz⟩ := I.list hq
  simp only [okMin, Bool.and_eq_true, decide_eq_true_eq, List.all_eq_true] at ok
  obtain ⟨⟨⟨⟨o1, o2⟩, o3⟩, o4⟩, o5⟩ := ok
  obtain ⟨as, rd⟩ := Dp.readsAll I (d :: ds) vs its (ho.dp o2) rv
  refine PySem.W.min_list_data (I.ok.hd hc) hl.isList rd ⟨fun x hx y hy => (o5 x hx).1 y hy, fun x hx e => ?_⟩ (by omega) fun i v h' tk bs hi rm hk => ?_
  · have := (o5 x hx).2
    rw [e] at this
    cases this
  · have hv : v ∈ its := by
      have := Array.mem_of_getElem? hi
      simpa using this
    obtain ⟨e, he, x, rx, ox⟩ := ho.at1 its rv v hv
    obtain ⟨as2, r2⟩ := Dp.reads I e x v (ox.dp (noD_mem o2 e he)) rx
    have r3 : Reads h' v e as2 := PySem.W.reads_keeps hk r2
    have eq : e = PySem.W.minD d ds := SeqAt.Reads.unique _ _ _ _ _ (lay_mem0 o3 e he) r3 rm
    rw [eq] at ox
    exact ⟨x, H, I.kept (t' := tk) hk, rx, q x ox⟩
theorem pr_minN {K : PySem.W.Frag} : PrimR K (rMinN K) pMinN := by
  intro vs ds d H Q h e q
  unfold pMinN at e
  split at e
  · obtain ⟨x, F, rfl, o⟩ := h.one
    split at e
    · rename_i ok
      cases e
      have op := ok
      simp only [okMin, Bool.and_eq_true] at op
      cases o with
      | lst h1 t n =>
        have := t.pur op.1.1.1.1
        subst this
        exact ⟨_, _, _, _, rfl, SqL.of h1, t, ok, fun v ov => q _ _ ⟨Same.refl _, [], ov, fun a h => by cases h⟩⟩
    · cases e
  · cases e
/-- min(l): of ints, or of tuples -/
def pMinAny (ds : List D) : Option D := match pMin1 ds with
  | some d => some d
  | none => pMinN ds
def rMinAny (K : PySem.W.Frag) : List V → Hp → VK → Prop := fun vs H Q => rMinA K vs H Q ∨ rMinN K vs H Q
theorem cr_minAny (hc : X.calm = true) (hu : X.A.units + 64 < cLine) : CallR X (.builtin "min") (rMinAny X.K) := by
  intro pins s σ H vs us Q I r h
  rcases h with h | h
  · exact cr_minA hc pins s σ H vs us Q I r h
  · exact cr_minN hc hu pins s σ H vs us Q I r h
theorem pr_minAny {K : PySem.W.Frag} : PrimR K (rMinAny K) pMinAny := by
  intro vs ds d H Q h e q
  unfold pMinAny at e
  split at e
  · rename_i d' e'
    cases e
    exact .inl (pr_min1 vs ds d H Q h e' q)
  · exact .inr (pr_minN vs ds d H Q h e q)
theorem minAny_of {l : List D} {d : D} (h : pMin1 l = some d) : pMinAny l = some d := by
  unfold pMinAny
  rw [h]
end
end Sim
namespace Sim
open PySem PySem.Spec L2
section
variable [Tb] [Vs] {X : Cx} {pos : Pos}
inductive SelOk (X : Cx) (n : Nat) : List Addr → List Fn → Prop
  | nil : SelOk X n [] []
  | cons {k : Nat} {f : Addr} {fd : FuncData} {ps : List Str} {fn : Fn} {as : List Addr} {fns : List Fn} : FnOk X.prog X.w X.K X.mg X.base CX0 k f fd ps (spF X.K n fn) → Room k X.A → PySem.W.keepIn X.K (.ref f) = true → Binds X.K fd ps [] → (∀ ds r as, fn ds = .ok r as → ds.length = n) → SelOk X n as fns → SelOk X n (f :: as) (fn :: fns)
theorem SelOk.get {n : Nat} {as : List Addr} {fns : List Fn} (h : SelOk X n as fns) : ∀ {i : Nat} {fn : Fn}, fns[i]? = some fn → ∃ k f fd ps, as[i]? = some f ∧ FnOk X.prog X.w X.K X.mg X.base CX0 k f fd ps (spF X.K n fn) ∧ Room k X.A ∧ PySem.W.keepIn X.K (.ref f) = true ∧ Binds X.K fd ps [] ∧ (∀ ds r as, fn ds = .ok r as → ds.length = n) := by
  induction h with
  | nil => intro i fn e; simp at e
  | cons a b c d e _ ih =>
    intro i fn e'
    cases i with
    | zero => cases e'; exact ⟨_, _, _, _, rfl, a, b, c, d, e⟩
    | succ i => exact ih e'
end
end Sim
namespace Sim
open PySem PySem.Spec L2
section
variable [Tb] [Vs] {X : Cx} {k : Nat} {f : Addr} {fd : FuncData} {ps : List Str} {fn : Fn} {x : Str} {p pos : Pos}
end
end Sim
namespace Sim
open PySem PySem.Spec L2
section
variable [Tb] [Vs] {K : PySem.W.Frag} {H H' : Hp}
theorem OwnLs.get {K : PySem.W.Frag} {H : Hp} : ∀ {ds : List D} {vs : List V} {Fl : List (List Addr)}, OwnLs K H ds vs Fl → ∀ {i : Nat} {d : D}, ds[i]? = some d → ∃ v F, vs[i]? = some v ∧ Fl[i]? = some F ∧ Own K H d v F
  | _, _, _, .cons (v := v) (F := F) o n r, 0, d', e => by
    simp at e
    subst e
    exact ⟨v, F, rfl, rfl, o⟩
  | _, _, _, .cons o n r, i + 1, d', e => by
    obtain ⟨v, F, h1, h2, h3⟩ := r.get (i := i) (by simpa using e)
    exact ⟨v, F, by simpa using h1, by simpa using h2, h3⟩
theorem OwnLs.lenF {K : PySem.W.Frag} {H : Hp} {ds : List D} {vs : List V} {Fl : List (List Addr)} (o : OwnLs K H ds vs Fl) : Fl.length = ds.length := by
  induction o with
  | nil => rfl
  | cons _ _ _ ih => rw [List.length_cons, List.length_cons, ih]
end
section
variable [Tb] {P : Program} {w : World} {K : PySem.W.Frag} {mg : Str → Option Value} {base : Heap}
end
end Sim
namespace Sim
open PySem PySem.Spec L2
section
open PyProof.Rows
variable {prog : Program} {w : World} {A : Around} {E : Value → Shared → Prop} {s : Shared}
end
section
variable [Tb] [Vs] {X : Cx} {a : Expr} {ga : O} {pos p2 : Pos}
end
end Sim
namespace Sim
open PySem PySem.Spec L2
section
variable {X : Cx}
end
end Sim
namespace Sim
open PySem PySem.Spec L2
section
open PySem.Calls PySem.NumText PyProof.Rows
@[irreducible] def ninN (n : Nat) : Int := ((10 ^ n : Nat) : Int) - 1
end
end Sim
namespace Sim
open PySem PySem.Spec L2
def oFrz (g : O) : O := fun s => (g s).bind fun r s1 => match r with
  | .val (.list ds) => if purs ds = true then .ok (.val (.dict [(.none, .list ds)])) s1 else .bad
  | _ => .bad
section
variable [Tb] [Vs] {X : Cx} {e : Expr} {ga : O}
theorem so_frz (ha : SimO X e ga) : SimO X e (oFrz ga) := by
  refine ⟨fun pins s σ H Q I z => ?_⟩
  obtain ⟨sg, Fs, rf, sg', R, e0, q⟩ := z
  obtain ⟨r, s1, e1, e2⟩ := bind_inv e0
  refine thn (ha.run pins s σ H (fun v H1 => ∃ Fs1 F, RelS X.K H1 s1 σ Fs1 ∧ Ev H Fs H1 Fs1 ∧ RfOk X.K H1 σ Fs1 r v F ∧ ∀ a, a ∈ F → H a = none) I ⟨sg, Fs, r, s1, R, e1, fun v H1 Fs1 F R1 E1 k1 n1 => ⟨Fs1, F, R1, E1, k1, n1⟩⟩) fun v s2 ⟨x, H1, I1, r1, Fs1, F, R1, E1, k1, n1⟩ => ?_
  clear e0
  split at e2
  · rename_i _ ds
    split at e2
    · rename_i hp
      cases e2
      cases k1 with
      | val A =>
        obtain ⟨a, xs, F0, rfl, rfl, hx, tt, nn⟩ := own_list A.own
        have e3 := tt.pur hp
        subst e3
        obtain ⟨od, I2⟩ := I1.lock hx trivial
        have na : H a = none := n1 a (List.mem_cons_self ..)
        have c : Chg (fun b => b = a) H1 (upd H1 a (.frz od (.lst xs))) := .upd1 (m := .lst _) hx
        have R2 : RelS X.K (upd H1 a (.frz od (.lst xs))) _ σ Fs1 := ⟨R1.len, fun i d ed => by
          obtain ⟨v', hv', o⟩ := R1.has i d ed
          exact ⟨v', hv', o.chg c fun b hb z => by
            subst z
            exact A.dis i b hb (List.mem_cons_self ..)⟩, R1.off, R1.dis, R1.lnkC c (fun i b hb z => A.dis i b (R1.fpF hb) (by rw [z]; exact List.mem_cons_self ..)), R1.bse⟩
        have E2 : Ev H Fs (upd H1 a (.frz od (.lst xs))) Fs1 := ⟨E1.chg.transN c (fun b o hb z => by rw [z, na] at hb; cases hb), E1.new⟩
        have o2 : OwnA X.K (upd H1 a (.frz od (.lst xs))) _ xs [] := OwnA.chg c tt (by simp)
        exact ⟨.ref a, _, I2, r1, q (.ref a) _ Fs1 [] R2 E2 (.val ⟨.frz (.inl ⟨od, upd_same ..⟩) o2, by simp⟩) (by simp)⟩
    · cases e2
  · cases e2
end
end Sim
namespace Sim
open PySem PySem.Spec L2
mutual
def toNk : D → Option NestedKey
  | .none => some .none
  | .int i => some (.num i)
  | .tuple ds => (toNks ds).map NestedKey.tup
  | .bool _ => none
  | .str _ => none
  | .list _ => none
  | .dict _ => none
def toNks : List D → Option (List NestedKey)
  | [] => some []
  | d :: ds => (toNk d).bind fun k => (toNks ds).map (k :: ·)
end
mutual
/-- no text within -/
def noTx : NestedKey → Bool
  | .none => true
  | .num _ => true
  | .text _ => false
  | .tup ks => noTxs ks
def noTxs : List NestedKey → Bool
  | [] => true
  | k :: ks => noTx k && noTxs ks
end
def tupN : NestedKey → Bool
  | .tup _ => true
  | _ => false
def kOk (k : NestedKey) : Bool := tupN k && noTx k && decide (k.depth ≤ 8)
mutual
theorem toNk_inv : ∀ {d : D} {k : NestedKey}, toNk d = some k → d = nkD k ∧ noTx k = true
  | .none, k, h => by rw [toNk] at h; cases h; exact ⟨by rw [nkD], by rw [noTx]⟩
  | .int i, k, h => by rw [toNk] at h; cases h; exact ⟨by rw [nkD], by rw [noTx]⟩
  | .tuple ds, k, h => by
    rw [toNk] at h
    obtain ⟨ks, e, rfl⟩ := Option.map_eq_some_iff.mp h
    obtain ⟨e1, e2⟩ := toNks_inv e
    exact ⟨by rw [nkD, e1], by rw [noTx]; exact e2⟩
  | .bool _, k, h => by rw [toNk] at h; cases h
  | .str _, k, h => by rw [toNk] at h; cases h
  | .list _, k, h => by rw [toNk] at h; cases h
  | .dict _, k, h => by rw [toNk] at h; cases h
theorem toNks_inv : ∀ {ds : List D} {ks : List NestedKey}, toNks ds = some ks → ds = nkDs ks ∧ noTxs ks = true
  | [], ks, h => by rw [toNks] at h; cases h; exact ⟨by rw [nkDs], by rw [noTxs]⟩
  | d :: ds, ks, h => by
    rw [toNks] at h
    obtain ⟨k, e, h⟩ := Option.bind_eq_some_iff.mp h
    obtain ⟨ks', e', rfl⟩ := Option.map_eq_some_iff.mp h
    obtain ⟨a1, a2⟩ := toNk_inv e
    obtain ⟨b1, b2⟩ := toNks_inv e'
    exact ⟨by rw [nkDs, a1, b1], by rw [noTxs, a2, b2]; rfl⟩
end
mutual
theorem toNk_nkD : ∀ {k : NestedKey}, noTx k = true → toNk (nkD k) = some k
  | .none, _ => by rw [nkD, toNk]
  | .num i, _ => by rw [nkD, toNk]
  | .text x, h => by rw [noTx] at h; cases h
  | .tup ks, h => by
    rw [noTx] at h
    rw [nkD, toNk, toNks_nkDs h]
    rfl
theorem toNks_nkDs : ∀ {ks : List NestedKey}, noTxs ks = true → toNks (nkDs ks) = some ks
  | [], _ => by rw [nkDs, toNks]
  | k :: ks, h => by
    rw [noTxs, Bool.and_eq_true] at h
    rw [nkDs, toNks, toNk_nkD h.1, toNks_nkDs h.2]
    rfl
end
mutual
theorem hash_noTx (w w' : World) : ∀ {k : NestedKey}, noTx k = true → k.hash w = k.hash w'
  | .none, _ => by rw [NestedKey.hash, NestedKey.hash]
  | .num i, _ => by rw [NestedKey.hash, NestedKey.hash]
  | .text x, h => by rw [noTx] at h; cases h
  | .tup ks, h => by
    rw [noTx] at h
    rw [NestedKey.hash, NestedKey.hash, hashes_noTx w w' h]
theorem hashes_noTx (w w' : World) : ∀ {ks : List NestedKey}, noTxs ks = true → NestedKey.hashes w ks = NestedKey.hashes w' ks
  | [], _ => by rw [NestedKey.hashes, NestedKey.hashes]
  | k :: ks, h => by
    rw [noTxs, Bool.and_eq_true] at h
    rw [NestedKey.hashes, NestedKey.hashes, hash_noTx w w' h.1, hashes_noTx w w' h.2]
end
/-- a told dict's entries -/
def unE : List (D × D) → Option (List (NestedKey × D))
  | [] => some []
  | p :: ps => (toNk p.1).bind fun k => (unE ps).bind fun l => if kOk k = true then some ((k, p.2) :: l) else none
def unN : D → Option (List (NestedKey × D))
  | .dict ((.bool true, .int i) :: es) => if i = 0 then unE es else none
  | _ => none
def reN (l : List (NestedKey × D)) : D := .dict ((.bool true, .int 0) :: l.map fun p => (nkD p.1, p.2))
def kOks (l : List (NestedKey × D)) : Bool := l.all fun p => kOk p.1
theorem kOk_tx {k : NestedKey} (h : kOk k = true) : noTx k = true := by
  unfold kOk at h
  simp only [Bool.and_eq_true] at h
  exact h.1.2
theorem kOk_dp {k : NestedKey} (h : kOk k = true) : k.depth ≤ 8 := by
  unfold kOk at h
  simp only [Bool.and_eq_true, decide_eq_true_eq] at h
  exact h.2
theorem kOk_tup {k : NestedKey} (h : kOk k = true) : ∃ ks, k = .tup ks := by
  unfold kOk at h
  simp only [Bool.and_eq_true] at h
  cases k with
  | tup ks => exact ⟨ks, rfl⟩
  | _ => exact absurd h.1.1 (by simp [tupN])
theorem unE_reE : ∀ {l : List (NestedKey × D)}, kOks l = true → unE (l.map fun p => (nkD p.1, p.2)) = some l
  | [], _ => rfl
  | p :: l, h => by
    unfold kOks at h
    rw [List.all_cons, Bool.and_eq_true] at h
    rw [List.map_cons, unE, toNk_nkD (kOk_tx h.1), unE_reE (l := l) (by unfold kOks; exact h.2)]
    simp [h.1]
theorem unN_reN {l : List (NestedKey × D)} (h : kOks l = true) : unN (reN l) = some l := by
  unfold reN unN
  simp [unE_reE h]
theorem unE_inv : ∀ {es : List (D × D)} {l : List (NestedKey × D)}, unE es = some l → es = l.map (fun p => (nkD p.1, p.2)) ∧ kOks l = true
  | [], l, h => by rw [unE] at h; cases h; exact ⟨rfl, rfl⟩
  | p :: ps, l, h => by
    rw [unE] at h
    obtain ⟨k, e, h⟩ := Option.bind_eq_some_iff.mp h
    obtain ⟨l', e', h⟩ := Option.bind_eq_some_iff.mp h
    split at h
    · rename_i hk
      cases h
      obtain ⟨a1, a2⟩ := unE_inv e'
      obtain ⟨b1, b2⟩ := toNk_inv e
      unfold kOks at a2 ⊢
      exact ⟨by rw [List.map_cons, ← a1, ← b1], by rw [List.all_cons, hk, a2]; rfl⟩
    · cases h
theorem unN_inv {d : D} {l : List (NestedKey × D)} (h : unN d = some l) : d = reN l ∧ kOks l = true := by
  unfold unN at h
  split at h
  · split at h
    · rename_i hi
      subst hi
      obtain ⟨a1, a2⟩ := unE_inv h
      exact ⟨by unfold reN; rw [a1], a2⟩
    · cases h
  · cases h
theorem zkd_map {κ : Type} (f : κ → D) : ∀ {ks : List κ} {ds : List D}, ks.length = ds.length → zkd f ks ds = (ks.zip ds).map fun p => (f p.1, p.2)
  | [], [], _ => rfl
  | k :: ks, d :: ds, h => by
    rw [zkd, List.zip_cons_cons, List.map_cons, zkd_map f (by simpa using h)]
  | [], _ :: _, h => by simp at h
  | _ :: _, [], h => by simp at h
theorem unE_zkd : ∀ {ks : List NestedKey} {ds : List D} {l : List (NestedKey × D)}, ks.length = ds.length → unE (zkd nkD ks ds) = some l → l.map Prod.fst = ks ∧ l.map Prod.snd = ds ∧ kOks l = true
  | [], [], l, _, h => by
    rw [show zkd nkD [] [] = [] from rfl, unE] at h
    cases h; exact ⟨rfl, rfl, rfl⟩
  | k :: ks, d :: ds, l, hl, h => by
    rw [zkd, unE] at h
    obtain ⟨k', e, h⟩ := Option.bind_eq_some_iff.mp h
    obtain ⟨l', e', h⟩ := Option.bind_eq_some_iff.mp h
    split at h
    · rename_i hk
      cases h
      obtain ⟨a1, a2, a3⟩ := unE_zkd (by simpa using hl) e'
      have ek : k' = k := by
        obtain ⟨b1, b2⟩ := toNk_inv e
        simp only at b1 e
        cases hx : noTx k with
        | true => rw [toNk_nkD hx] at e; cases e; rfl
        | false => exact absurd (noTx_of b1 b2) (by rw [hx]; simp)
      subst ek
      unfold kOks at a3 ⊢
      exact ⟨by rw [List.map_cons, a1], by rw [List.map_cons, a2], by rw [List.all_cons, hk, a3]; rfl⟩
    · cases h
  | [], _ :: _, _, h, _ => by simp at h
  | _ :: _, [], _, h, _ => by simp at h
where
  noTx_of {k k' : NestedKey} (e : nkD k = nkD k') (h : noTx k' = true) : noTx k = true := by
    have e1 := toNk_nkD h
    rw [← e] at e1
    exact tx k k' e1
  tx : ∀ (k : NestedKey) (k' : NestedKey), toNk (nkD k) = some k' → noTx k = true
    | .none, _, _ => by rw [noTx]
    | .num _, _, _ => by rw [noTx]
    | .text _, _, h => by rw [nkD, toNk] at h; cases h
    | .tup ks, k', h => by
      rw [nkD, toNk] at h
      obtain ⟨ks', e, _⟩ := Option.map_eq_some_iff.mp h
      rw [noTx]
      exact txs ks ks' e
  txs : ∀ (ks : List NestedKey) (ks' : List NestedKey), toNks (nkDs ks) = some ks' → noTxs ks = true
    | [], _, _ => by rw [noTxs]
    | k :: ks, ks', h => by
      rw [nkDs, toNks] at h
      obtain ⟨k1, e, h⟩ := Option.bind_eq_some_iff.mp h
      obtain ⟨k2, e2, _⟩ := Option.map_eq_some_iff.mp h
      rw [noTxs, tx k k1 e, txs ks k2 e2]; rfl
abbrev NE := NestedKey × Addr × V
structure DN (K : PySem.W.Frag) (H : Hp) (a : Addr) (es : List NE) (od : Obj) : Prop where
  at_ : H a = some (RawO a es od)
  keys : OwnA K H (es.map fun e => nkD e.1) (es.map fun e => V.ref e.2.1) []
  ok : ∀ e, e ∈ es → kOk e.1 = true
def getE (es : List NE) (k : NestedKey) : Option V := (es.find? fun e => decide (e.1 = k)).map fun e => e.2.2
def putE (es : List NE) (k : NestedKey) (b : Addr) (v : V) : List NE :=
  if (es.any fun e => decide (e.1 = k)) = true then es.map (fun e => if e.1 = k then (e.1, e.2.1, v) else e) else es ++ [(k, b, v)]
def getL (l : List (NestedKey × D)) (k : NestedKey) : Option D := (l.find? fun p => decide (p.1 = k)).map fun p => p.2
def putL (l : List (NestedKey × D)) (k : NestedKey) (d : D) : List (NestedKey × D) :=
  if (l.any fun p => decide (p.1 = k)) = true then l.map (fun p => if p.1 = k then (p.1, d) else p) else l ++ [(k, d)]
theorem ownA_mem {K : PySem.W.Frag} {H : Hp} {α : Type} {f : α → D} {g : α → V} : ∀ {l : List α}, OwnA K H (l.map f) (l.map g) [] → ∀ x, x ∈ l → Own K H (f x) (g x) []
  | [], _, x, h => by cases h
  | y :: l, t, x, h => by
    rw [List.map_cons, List.map_cons] at t
    rcases List.mem_cons.mp h with rfl | h
    · exact t.nil2.1
    · exact ownA_mem t.nil2.2 x h
/-- what a told dict is -/
theorem own_N {K : PySem.W.Frag} {H : Hp} {d : D} {v : V} {F : List Addr} {l : List (NestedKey × D)} (o : Own K H d v F) (e : unN d = some l) :
    ∃ a es od, v = .ref a ∧ F = [a] ∧ DN K H a es od ∧ es.map (fun e => e.1) = l.map Prod.fst ∧ OwnA K H (l.map Prod.snd) (es.map fun e => e.2.2) [] := by
  have hk := (unN_inv e).2
  cases o with
  | dcn h t t2 =>
    rename_i a es od ds
    unfold unN at e
    simp only [if_true] at e
    have hl : (es.map fun e => e.1).length = ds.length := by
      have := t2.len
      rw [List.length_map] at this ⊢
      exact this
    obtain ⟨a1, a2, a3⟩ := unE_zkd hl e
    refine ⟨a, es, od, rfl, rfl, ⟨h, t, fun x hx => ?_⟩, a1.symm, by rw [a2]; exact t2⟩
    unfold kOks at a3
    rw [List.all_eq_true] at a3
    have : x.1 ∈ l.map Prod.fst := by rw [a1]; exact List.mem_map.mpr ⟨x, hx, rfl⟩
    obtain ⟨p, hp, ep⟩ := List.mem_map.mp this
    rw [← ep]
    exact a3 p hp
  | _ => simp [unN] at e
/-- told anew -/
theorem own_reN {K : PySem.W.Frag} {H : Hp} {a : Addr} {es : List NE} {od : Obj} {l : List (NestedKey × D)} (h : DN K H a es od) (e : es.map (fun e => e.1) = l.map Prod.fst) (t : OwnA K H (l.map Prod.snd) (es.map fun e => e.2.2) []) :
    Own K H (reN l) (.ref a) [a] := by
  have z := Own.dcn h.at_ h.keys t
  have hl : (es.map fun e => e.1).length = (l.map Prod.snd).length := by rw [e, List.length_map, List.length_map]
  rw [zkd_map nkD hl, e] at z
  have e2 : (l.map Prod.fst).zip (l.map Prod.snd) = l := by
    clear z hl e t
    induction l with
    | nil => rfl
    | cons p l ih => rw [List.map_cons, List.map_cons, List.zip_cons_cons, ih]
  rw [e2] at z
  exact z
theorem getE_L {K : PySem.W.Frag} {H : Hp} {k : NestedKey} : ∀ {es : List NE} {l : List (NestedKey × D)}, es.map (fun e => e.1) = l.map Prod.fst → OwnA K H (l.map Prod.snd) (es.map fun e => e.2.2) [] →
    (getE es k = none ∧ getL l k = none) ∨ ∃ v d, getE es k = some v ∧ getL l k = some d ∧ Own K H d v []
  | [], [], _, _ => .inl ⟨rfl, rfl⟩
  | e :: es, p :: l, h, t => by
    rw [List.map_cons, List.map_cons] at h
    injection h with h1 h2
    rw [List.map_cons, List.map_cons] at t
    have ih := getE_L (k := k) h2 t.nil2.2
    unfold getE getL at ih ⊢
    rw [List.find?_cons, List.find?_cons]
    by_cases c : e.1 = k
    · have c' : p.1 = k := h1.symm.trans c
      rw [decide_eq_true c, decide_eq_true c']
      exact .inr ⟨_, _, rfl, rfl, t.nil2.1⟩
    · have c' : ¬ p.1 = k := fun z => c (h1.trans z)
      rw [decide_eq_false c, decide_eq_false c']
      exact ih
  | [], _ :: _, h, _ => by simp at h
  | _ :: _, [], h, _ => by simp at h
theorem any_EL {k : NestedKey} {es : List NE} {l : List (NestedKey × D)} (h : es.map (fun e => e.1) = l.map Prod.fst) : (es.any fun e => decide (e.1 = k)) = l.any fun p => decide (p.1 = k) := by
  have a : (es.any fun e => decide (e.1 = k)) = (es.map fun e => e.1).any fun x => decide (x = k) := by rw [List.any_map]; rfl
  have b : (l.any fun p => decide (p.1 = k)) = (l.map Prod.fst).any fun x => decide (x = k) := by rw [List.any_map]; rfl
  rw [a, b, h]
theorem putE_L {K : PySem.W.Frag} {H : Hp} {k : NestedKey} {b : Addr} {v : V} {d : D} (o : Own K H d v []) {es : List NE} {l : List (NestedKey × D)} (h : es.map (fun e => e.1) = l.map Prod.fst) (t : OwnA K H (l.map Prod.snd) (es.map fun e => e.2.2) []) :
    (putE es k b v).map (fun e => e.1) = (putL l k d).map Prod.fst ∧ OwnA K H ((putL l k d).map Prod.snd) ((putE es k b v).map fun e => e.2.2) [] := by
  unfold putE putL
  rw [any_EL (k := k) h]
  split
  · rename_i hc0
    clear hc0
    induction es generalizing l with
    | nil =>
      cases l with
      | nil => exact ⟨rfl, t⟩
      | cons p l => simp at h
    | cons e es ih =>
      cases l with
      | nil => simp at h
      | cons p l =>
        rw [List.map_cons, List.map_cons] at h
        injection h with h1 h2
        rw [List.map_cons, List.map_cons] at t
        obtain ⟨a1, a2⟩ := ih h2 t.nil2.2
        simp only [List.map_cons]
        by_cases c : e.1 = k
        · have c' : p.1 = k := h1.symm.trans c
          rw [if_pos c, if_pos c']
          exact ⟨by rw [a1, h1], .cons0 o a2⟩
        · have c' : ¬ p.1 = k := fun z => c (h1.trans z)
          rw [if_neg c, if_neg c']
          exact ⟨by rw [a1, h1], .cons0 t.nil2.1 a2⟩
  · refine ⟨by rw [List.map_append, List.map_append, h]; rfl, ?_⟩
    rw [List.map_append, List.map_append]
    exact t.app (.cons0 o .nil)
section
variable {X : Cx} {pins : List (Addr × Obj)} {σ : St} {H : Hp} {s : Shared}
mutual
theorem key_is (I : L2.Inv X pins σ H s) : ∀ (k : NestedKey) {v : V} {F : List Addr} {u : Value}, Own X.K H (nkD k) v F → RelV v u → NestedIs s.heap k u
  | .none, v, F, u, o, r => by
    rw [nkD] at o
    cases o
    obtain rfl : u = Value.none := r
    exact .none
  | .num i, v, F, u, o, r => by
    rw [nkD] at o
    cases o
    obtain ⟨t, rfl⟩ := (show ∃ t, u = Value.int i t from r)
    exact .int i t
  | .text x, v, F, u, o, r => by
    rw [nkD] at o
    cases o
    obtain ⟨t, rfl⟩ := (show ∃ t, u = Value.str x t from r)
    exact .text x t
  | .tup ks, v, F, u, o, r => by
    rw [nkD] at o
    cases o with
    | tup h t =>
      rename_i a xs
      obtain rfl : u = Value.ref a := r
      obtain ⟨its, rr, ⟨ob, ho, hc, n, hd⟩, _⟩ := I.tuple h.sq
      exact .tup ho hc hd (keys_are I ks t rr)
theorem keys_are (I : L2.Inv X pins σ H s) : ∀ (ks : List NestedKey) {vs : List V} {F : List Addr} {us : List Value}, OwnA X.K H (nkDs ks) vs F → Vals vs us → NestedAll s.heap ks us
  | [], vs, F, us, o, r => by
    rw [nkDs] at o
    cases o
    cases r
    exact .nil
  | k :: ks, vs, F, us, o, r => by
    rw [nkDs] at o
    cases o with
    | cons o t n =>
      cases r with
      | cons r1 r2 => exact .cons (key_is I k o r1) (keys_are I ks t r2)
end
abbrev EX : List NE → List (NestedKey × Addr × Value) → Prop := Paired fun p q => p.1 = q.1 ∧ p.2.1 = q.2.1 ∧ RelV p.2.2 q.2.2
theorem EX.fst : ∀ {es : List NE} {xs : List (NestedKey × Addr × Value)}, EX es xs → es.map (fun e => e.1) = xs.map fun x => x.1
  | _, _, .nil => rfl
  | _, _, .cons h t => by rw [List.map_cons, List.map_cons, h.1, EX.fst t]
theorem EX.get {k : NestedKey} : ∀ {es : List NE} {xs : List (NestedKey × Addr × Value)}, EX es xs → RelO (getE es k) ((atKey xs k).map (·.2))
  | _, _, .nil => True.intro
  | e :: es, x :: xs, .cons h t => by
    have ih := EX.get (k := k) t
    unfold getE atKey at ih ⊢
    rw [List.find?_cons, List.find?_cons]
    by_cases c : e.1 = k
    · have c' : x.1 = k := h.1.symm.trans c
      rw [decide_eq_true c, decide_eq_true c']
      exact h.2.2
    · have c' : ¬ x.1 = k := fun z => c (h.1.trans z)
      rw [decide_eq_false c, decide_eq_false c']
      exact ih
theorem EX.any {k : NestedKey} {es : List NE} {xs : List (NestedKey × Addr × Value)} (h : EX es xs) : (es.any fun e => decide (e.1 = k)) = (atKey xs k).isSome := by
  induction h with
  | nil => rfl
  | @cons e x es xs h t ih =>
    unfold atKey at ih ⊢
    rw [List.any_cons, List.find?_cons, ih]
    by_cases c : e.1 = k
    · have c' : x.1 = k := h.1.symm.trans c
      rw [decide_eq_true c, decide_eq_true c']; rfl
    · have c' : ¬ x.1 = k := fun z => c (h.1.trans z)
      rw [decide_eq_false c, decide_eq_false c']; rfl
theorem EX.put {k : NestedKey} {b : Addr} {v : V} {u : Value} (r : RelV v u) {es : List NE} {xs : List (NestedKey × Addr × Value)} (h : EX es xs) : EX (putE es k b v) (storedH xs k b u) := by
  unfold putE storedH
  rw [h.any]
  split
  · rename_i hc0
    clear hc0
    induction h with
    | nil => exact .nil
    | @cons e x es xs h t ih =>
      rw [List.map_cons, List.map_cons]
      refine .cons ?_ ih
      unfold putAt
      by_cases c : e.1 = k
      · rw [if_pos c, if_pos (h.1.symm.trans c)]; exact ⟨h.1, h.2.1, r⟩
      · rw [if_neg c, if_neg (fun z => c (h.1.trans z))]; exact h
  · exact Paired.snoc h ⟨rfl, rfl, r⟩
theorem ents_of {w : World} {P : Program} : ∀ {es : List NE} {el : List DictEntry}, Paired (fun (p : NestedKey × Addr × V) (e : DictEntry) => (∀ w, e.hash = p.1.hash w) ∧ e.key = .ref p.2.1 ∧ RelV p.2.2 e.val) es el →
    ∃ xs, EX es xs ∧ el = xs.map (entryOfKey (nestedKind P w))
  | _, _, .nil => ⟨[], .nil, rfl⟩
  | p :: es, ⟨hash, key, val⟩ :: el, .cons hh t => by
    obtain ⟨xs, i1, i2⟩ := ents_of (w := w) (P := P) t
    obtain ⟨h1, h2, h3⟩ := hh
    refine ⟨(p.1, p.2.1, val) :: xs, .cons ⟨rfl, rfl, h3⟩ i1, ?_⟩
    rw [List.map_cons, ← i2]
    simp only at h1 h2 h3
    subst h2
    unfold entryOfKey
    rw [h1 w]
    rfl
theorem EX.mem : ∀ {es : List NE} {xs : List (NestedKey × Addr × Value)}, EX es xs → ∀ x, x ∈ xs → ∃ e, e ∈ es ∧ e.1 = x.1 ∧ e.2.1 = x.2.1
  | _, _, .nil, x, h => by cases h
  | p :: es, q :: xs, .cons hh t, x, hx => by
    rcases List.mem_cons.mp hx with rfl | hx
    · exact ⟨p, List.mem_cons_self .., hh.1, hh.2.1⟩
    · obtain ⟨e, h1, h2⟩ := EX.mem t x hx
      exact ⟨e, List.mem_cons_of_mem _ h1, h2⟩
theorem ents_to {w : World} {P : Program} : ∀ {es : List NE} {xs : List (NestedKey × Addr × Value)}, EX es xs → (∀ e, e ∈ es → noTx e.1 = true) →
    Paired (fun (p : NestedKey × Addr × V) (e : DictEntry) => (∀ w, e.hash = p.1.hash w) ∧ e.key = .ref p.2.1 ∧ RelV p.2.2 e.val) es (xs.map (entryOfKey (nestedKind P w)))
  | _, _, .nil, _ => .nil
  | p :: es, q :: xs, .cons hh t, nt => by
    rw [List.map_cons]
    refine .cons ⟨fun w' => ?_, ?_, hh.2.2⟩ (ents_to t fun e he => nt e (List.mem_cons_of_mem _ he))
    · show NestedKey.hash w q.1 = _
      rw [← hh.1]
      exact hash_noTx _ _ (nt p (List.mem_cons_self ..))
    · show Value.ref q.2.1 = _
      rw [hh.2.1]
/-- the entries in the heap -/
theorem rawX (I : L2.Inv X pins σ H s) {a : Addr} {es : List NE} {od : Obj} (h : DN X.K H a es od) : es.length ≤ sizeLine ∧ (a == sysModules) = false ∧ ∃ xs, EX es xs ∧ s.heap.DictOfH (nestedKind X.prog X.w) a xs := by
  have q : ObjOk X.prog X.w H s.heap a (RawO a es od) := I.hok a _ h.at_
  obtain ⟨⟨z, hs, nd, ho, ents, ep, hx, hd, pr⟩, _, _⟩ := q
  obtain ⟨xs, ex, el⟩ := ents_of (w := X.w) (P := X.prog) pr
  refine ⟨z, hs, xs, ex, od, ents, ep, ho, hx, hd, el, fun x hx' => ?_, by rw [← ex.fst]; exact nd⟩
  obtain ⟨e, he, e1, e2⟩ := ex.mem x hx'
  have o := ownA_mem h.keys e he
  rw [← e1, ← e2]
  exact ⟨key_is I _ o rfl, kOk_dp (h.ok e he)⟩
/-- the object itself -/
theorem rawR (I : L2.Inv X pins σ H s) {a : Addr} {es : List NE} {od : Obj} (h : H a = some (RawO a es od)) : es.length ≤ sizeLine ∧ (a == sysModules) = false ∧ s.heap.get? a = some od ∧ od.ExactDict ∧
    ∃ (ents : Array DictEntry) (ep : Nat), od.data = .dict ents ep ∧ ents.size = es.length ∧ ∀ (i : Nat) (hi : i < ents.size) (e : NE), es[i]? = some e → ents[i].key = .ref e.2.1 ∧ RelV e.2.2 ents[i].val := by
  have q : ObjOk X.prog X.w H s.heap a (RawO a es od) := I.hok a _ h
  obtain ⟨⟨z, hs, nd, ho, ents, ep, hx, hd, pr⟩, _, _⟩ := q
  refine ⟨z, hs, ho, hx, ents, ep, hd, ?_, fun i hi e he => ?_⟩
  · have := Paired.length pr
    rw [Array.length_toList] at this
    exact this.symm
  · obtain ⟨en, h1, h2⟩ := paired_get pr he
    rw [Array.getElem?_toList] at h1
    rw [Array.getElem?_eq_getElem hi] at h1
    cases h1
    exact ⟨h2.2.1, h2.2.2⟩
/-- an object that is such a dict -/
theorem raw_ok {h' : Heap} {a : Addr} {es : List NE} {xs : List (NestedKey × Addr × Value)} (z : es.length ≤ sizeLine) (hs : (a == sysModules) = false) (ex : EX es xs) (dd : h'.DictOfH (nestedKind X.prog X.w) a xs) (nt : ∀ e, e ∈ es → noTx e.1 = true) :
    ∃ od, h'.get? a = some od ∧ ∀ H', ObjOk X.prog X.w H' h' a (RawO a es od) := by
  obtain ⟨ob, ents, ep, ho, hx, hd, el, _, nd⟩ := dd
  refine ⟨ob, ho, fun H' => ⟨⟨z, hs, by rw [ex.fst]; exact nd, ho, ents, ep, hx, hd, by rw [el]; exact ents_to ex nt⟩, ⟨ob, ho⟩, fun h1 h2 q k => ?_⟩⟩
  obtain ⟨z, hs, nd, ho, r⟩ := q
  exact ⟨z, hs, nd, k _ ho, r⟩
end
end Sim
namespace Sim
open PySem PySem.Spec L2
mutual
theorem pur_nkD : ∀ (k : NestedKey), pur (nkD k) = true
  | .none => by rw [nkD]; rfl
  | .num _ => by rw [nkD]; rfl
  | .text _ => by rw [nkD]; rfl
  | .tup ks => by rw [nkD]; simp only [pur]; exact purs_nkDs ks
theorem purs_nkDs : ∀ (ks : List NestedKey), purs (nkDs ks) = true
  | [] => by rw [nkDs]; rfl
  | k :: ks => by rw [nkDs]; simp only [purs, pur_nkD k, purs_nkDs ks]; rfl
end
/-- the value y is the key k -/
structure KeyN (K : PySem.W.Frag) (H : Hp) (k : NestedKey) (y : V) : Prop where
  own : Own K H (nkD k) y []
  ok : kOk k = true
theorem KeyN.ref {K : PySem.W.Frag} {H : Hp} {k : NestedKey} {y : V} (h : KeyN K H k y) : ∃ b, y = .ref b := by
  obtain ⟨o, ok⟩ := h
  obtain ⟨ks, rfl⟩ := kOk_tup ok
  rw [nkD] at o
  cases o with
  | tup _ _ => exact ⟨_, rfl⟩
theorem KeyN.mk' {K : PySem.W.Frag} {H : Hp} {d : D} {v : V} {F : List Addr} {k : NestedKey} (o : Own K H d v F) (e : toNk d = some k) (ok : kOk k = true) : KeyN K H k v := by
  have e1 := (toNk_inv e).1
  subst e1
  rw [o.pur (pur_nkD k)] at o
  exact ⟨o, ok⟩
section
variable {X : Cx} {pins : List (Addr × Obj)} {σ : St} {H : Hp} {s : Shared}
theorem KeyN.is {k : NestedKey} {b : Addr} (I : L2.Inv X pins σ H s) (h : KeyN X.K H k (.ref b)) : (nestedKind X.prog X.w).is s.heap k b := ⟨key_is I k h.own rfl, kOk_dp h.ok⟩
def rInN (K : PySem.W.Frag) : R2 := fun x y H Q => ∃ a es od k, y = .ref a ∧ DN K H a es od ∧ KeyN K H k x ∧ Q (.bl (getE es k).isSome) H
def rNinN (K : PySem.W.Frag) : R2 := fun x y H Q => ∃ a es od k, y = .ref a ∧ DN K H a es od ∧ KeyN K H k x ∧ Q (.bl (!(getE es k).isSome)) H
theorem op_inN (hu : X.A.units + 65 < cLine) : OpR X (compareOp .In) (rInN X.K) := by
  intro pins s σ H x y v u Q I rx ry h
  obtain ⟨a, es, od, k, rfl, hd, hk, q⟩ := h
  obtain ⟨b, rfl⟩ := hk.ref
  cases rx; cases ry
  obtain ⟨z, hs, xs, ex, dd⟩ := rawX I hd
  refine wpAny_in_heap (knd := nestedKind X.prog X.w) (k := k) (by show X.A.units + 1 + 8 < cLine; omega) (hk.is I) hs dd ?_
  refine ⟨.bl (getE es k).isSome, H, I.tok _, ?_, q⟩
  have := (ex.get (k := k)).isSome_eq
  rw [Option.isSome_map] at this
  rw [this]; rfl
theorem op_ninN (hu : X.A.units + 65 < cLine) : OpR X (compareOp .NotIn) (rNinN X.K) := by
  intro pins s σ H x y v u Q I rx ry h
  obtain ⟨a, es, od, k, rfl, hd, hk, q⟩ := h
  obtain ⟨b, rfl⟩ := hk.ref
  cases rx; cases ry
  obtain ⟨z, hs, xs, ex, dd⟩ := rawX I hd
  refine notIn_keyed (knd := nestedKind X.prog X.w) (k := k) (kvs := pairsH xs) (by show X.A.units + 1 + 8 < cLine; omega) (hk.is I) hs ⟨xs, dd, rfl⟩ ?_
  refine ⟨.bl (!(getE es k).isSome), H, I.tok _, ?_, q⟩
  have := (ex.get (k := k)).isSome_eq
  rw [this, valueAt_pairsH]; rfl
/-- d[k] = v -/
def rSetN (K : PySem.W.Frag) : TSet := fun o i v H Q => ∃ a es od k b, o = .ref a ∧ i = .ref b ∧ DN K H a es od ∧ KeyN K H k i ∧ es.length < sizeLine ∧ ∀ od', Q (upd H a (RawO a (putE es k b v) od'))
theorem putE_len (es : List NE) (k : NestedKey) (b : Addr) (v : V) : (putE es k b v).length ≤ es.length + 1 := by
  unfold putE
  split
  · rw [List.length_map]; omega
  · rw [List.length_append, List.length_cons, List.length_nil]; omega
theorem putE_ok {es : List NE} {k : NestedKey} {b : Addr} {v : V} (h : ∀ e, e ∈ es → kOk e.1 = true) (hk : kOk k = true) : ∀ e, e ∈ putE es k b v → kOk e.1 = true := by
  intro e he
  unfold putE at he
  split at he
  · obtain ⟨e', h1, rfl⟩ := List.mem_map.mp he
    have := h _ h1
    split
    · exact this
    · exact this
  · rcases List.mem_append.mp he with he | he
    · exact h _ he
    · rw [List.mem_singleton.mp he]; exact hk
theorem rawMut {a : Addr} {es : List NE} {od : Obj} : Mut (some (RawO a es od)) := True.intro
theorem set_dN (hu : X.A.units + 65 < cLine) : PSet X (rSetN X.K) := by
  intro pins s σ H o i v ov iv u Q I ro ri rv h
  obtain ⟨a, es, od, k, b, rfl, rfl, hd, hk, hl, q⟩ := h
  cases ro; cases ri
  obtain ⟨z, hs, xs, ex, dd⟩ := rawX I hd
  have hz : xs.length ≤ sizeLine := by rw [← Paired.length ex]; exact z
  refine wpAny_setItem_heap (hsz := hz) (knd := nestedKind X.prog X.w) (k := k) (by show X.A.units + 1 + 8 < cLine; omega) (hk.is I) dd fun h' dd' hsb => ?_
  obtain ⟨od', ho', ok⟩ := raw_ok (X := X) (es := putE es k b v) (by have := putE_len es k b v; omega) hs (ex.put rv) dd' (fun e he => kOk_tx (putE_ok hd.ok hk.ok e he))
  exact ⟨_, d_write I (by rw [hd.at_]; exact rawMut) hsb ⟨_, ho'⟩ (ok _), q od'⟩
/-- len(d) -/
def rLenN (K : PySem.W.Frag) : List V → Hp → VK → Prop := fun xs H Q => ∃ a es od, xs = [V.ref a] ∧ DN K H a es od ∧ Q (.int es.length) H
theorem cr_lenN : CallR X (.builtin "len") (rLenN X.K) := by
  intro pins s σ H xs us Q I r h
  obtain ⟨a, es, od, rfl, hd, q⟩ := h
  obtain ⟨z, hs, ys, ex, dd⟩ := rawX I hd
  rw [Vals.ref1 r]
  have hl : es.length = ys.length := Paired.length ex
  refine PyProof.Rows.call_len_slot (n := ((pairsH ys).length : Nat)) dd.typeIs PySem.F.slot_dict_len (fun Q' hq => len_keyed (knd := nestedKind X.prog X.w) (kvs := pairsH ys) hs ⟨ys, dd, rfl⟩ hq) (by omega) (by rw [pairsH_length, ← hl]; rw [sizeLine_eq] at z; omega) ?_
  refine ⟨.int es.length, H, I.tok _, ⟨s.toks + 1, ?_⟩, q⟩
  rw [pairsH_length, ← hl]
/-- {} -/
def tDNewN : TE := fun _ H Q => ∀ p od, H p = none → Q (.ref p) (upd H p (RawO p [] od))
theorem pe_dnewN {pos : Pos} : PE X (.Dict [] [] pos) tDNewN := ⟨fun pins s σ H Q I h => by
  have hb : (s.heap.objs.size == sysModules) = false := beq_eq_false_iff_ne.mpr (Ne.symm (Nat.ne_of_lt I.big))
  obtain ⟨od, ho, ok⟩ := raw_ok (X := X) (es := []) (xs := []) (Nat.zero_le _) hb .nil (Heap.DictOfH.new s.heap) (fun e he => by cases he)
  exact wpAny_Dict_empty ⟨.ref s.heap.objs.size, _, I.laid (a := s.heap.objs.size) (o := RawO s.heap.objs.size [] od) (t' := s.toks) (fun _ _ q => Heap.get?_push_of_some _ q) (Nat.le_refl _)
    (ok _), rfl, h _ od (I.hok.fresh (Nat.le_refl _))⟩⟩
variable {o e : Expr} {es : List Expr} {to : TE} {t : TA} {name : Str} {apos cpos : Pos} {id : String} {r : V → List V → Hp → VK → Prop}
end
end Sim
namespace SimSrt
open PySem PyProof.Rows Srt SrtO
section
variable {prog : Program} {w : World} {A : Around} {E : Value → Shared → Prop} {s : Shared}
end
end SimSrt
namespace Sim
open PySem PySem.Spec L2
open PyProof.Rows hiding St
theorem ns_map {l : List (NestedKey × D)} {es : List NE} (h : es.map (fun e => e.1) = l.map Prod.fst) : (es.map fun e => nkD e.1) = l.map fun p => nkD p.1 := by
  have := congrArg (List.map nkD) h
  rw [List.map_map, List.map_map] at this
  exact this
section
variable {X : Cx} {pins : List (Addr × Obj)} {σ : St} {H : Hp} {s : Shared}
theorem vals_keys : ∀ es : List NE, Vals (es.map fun e => V.ref e.2.1) (es.map fun e => Value.ref e.2.1)
  | [] => .nil
  | e :: es => .cons rfl (vals_keys es)
def mergeE (es more : List NE) : List NE := more.foldl (fun acc e => putE acc e.1 e.2.1 e.2.2) es
def mergeL (l more : List (NestedKey × D)) : List (NestedKey × D) := more.foldl (fun acc p => putL acc p.1 p.2) l
theorem EX.merge : ∀ {more : List NE} {rs : List (NestedKey × Addr × Value)}, EX more rs → ∀ {es : List NE} {xs : List (NestedKey × Addr × Value)}, EX es xs → EX (mergeE es more) (storedAllH xs rs)
  | _, _, .nil, _, _, r => r
  | e :: more, x :: rs, .cons h t, es, xs, r => by
    unfold mergeE storedAllH
    rw [List.foldl_cons, List.foldl_cons]
    have z := EX.merge t (EX.put (k := e.1) (b := e.2.1) h.2.2 r)
    unfold mergeE storedAllH at z
    rw [h.1, h.2.1] at z
    rw [← h.1, ← h.2.1] at z ⊢
    exact z
theorem mergeE_len : ∀ (more es : List NE), (mergeE es more).length ≤ es.length + more.length
  | [], es => by show es.length ≤ _; simp
  | e :: more, es => by
    have h1 := mergeE_len more (putE es e.1 e.2.1 e.2.2)
    have h2 := putE_len es e.1 e.2.1 e.2.2
    unfold mergeE at h1 ⊢
    rw [List.foldl_cons, List.length_cons]
    omega
theorem mergeE_ok : ∀ (more es : List NE), (∀ e, e ∈ es → kOk e.1 = true) → (∀ e, e ∈ more → kOk e.1 = true) → ∀ e, e ∈ mergeE es more → kOk e.1 = true
  | [], _, h, _, e, he => h e he
  | m :: more, es, h, h2, e, he => by
    unfold mergeE at he
    rw [List.foldl_cons] at he
    exact mergeE_ok more _ (putE_ok h (h2 m (List.mem_cons_self ..))) (fun e he => h2 e (List.mem_cons_of_mem _ he)) e he
/-- the pairs of a list -/
theorem pairsN_of (I : L2.Inv X pins σ H s) : ∀ {ps : List Addr} {es : List NE}, Paired (fun p (e : NE) => SqT X.K H p [.ref e.2.1, e.2.2]) ps es →
    ∃ xs : List (NestedKey × Addr × Value), EX es xs ∧ xs.length = ps.length ∧ ∀ (j : Nat) (q : NestedKey × Addr × Value), xs[j]? = some q → ∃ b : Addr, ps[j]? = some b ∧ IsTup s.heap b #[.ref q.2.1, q.2.2]
  | _, _, .nil => ⟨[], .nil, rfl, fun j q e => by simp at e⟩
  | _, _, .cons (a := p) (b := kv) h t => by
    obtain ⟨xs, r, hl, hp⟩ := pairsN_of I t
    obtain ⟨its, rv, ht, _⟩ := I.tuple h
    obtain ⟨u, y, ei, ru, ry⟩ := vals2 rv
    subst ei
    cases ru
    refine ⟨(kv.1, kv.2.1, y) :: xs, .cons ⟨rfl, rfl, ry⟩ r, by rw [List.length_cons, List.length_cons, hl], fun j q e => ?_⟩
    cases j with
    | zero =>
      have e' : (kv.1, kv.2.1, y) = q := Option.some.inj e
      subst e'
      exact ⟨p, rfl, ht⟩
    | succ j =>
      obtain ⟨b, e1, e2⟩ := hp j q (by simpa using e)
      exact ⟨b, by simpa using e1, e2⟩
def rDictN (K : PySem.W.Frag) : List V → Hp → VK → Prop := fun xs H Q => ∃ (a : Addr) (ps : List Addr) (es : List NE), xs = [.ref a] ∧ SqL K H a (ps.map V.ref) ∧ Paired (fun p (e : NE) => SqT K H p [.ref e.2.1, e.2.2]) ps es ∧
  (∀ e, e ∈ es → KeyN K H e.1 (.ref e.2.1)) ∧ ∀ p od, H p = none → Q (.ref p) (upd H p (RawO p (mergeE [] es) od))
theorem call_dictN (hu : X.A.units + 65 < cLine) (hc : X.calm = true) : CallR X (.type "dict") (rDictN X.K) := by
  intro pins s σ H xs us Q I r h
  obtain ⟨a, ps, es, rfl, hq, hp, hk, q⟩ := h
  rw [Vals.ref1 r]
  obtain ⟨its, rv, pl, hz⟩ := I.list hq
  have ei := refs_at rv
  subst ei
  rw [List.length_map] at hz
  obtain ⟨xs, ex, hl, hpr⟩ := pairsN_of I hp
  obtain ⟨o, n, ho, hcl, hd, hdat⟩ := pl
  have hn : (xs.map fun x => (Value.ref x.2.1, x.2.2)).length = xs.length := List.length_map ..
  refine call_dict_pairsH (knd := nestedKind X.prog X.w) (ps := xs) (PairArg.list a (ps.map Value.ref).toArray (fun j => ps.getD j 0) (xs.map fun x => (Value.ref x.2.1, x.2.2))) (I.ok.hd hc) (by show X.A.units + 1 + 1 + 8 < cLine; omega)
    ⟨⟨o, n, ho, hcl, hd, hdat⟩, ?_, fun j k v e => ?_⟩ ⟨hn.symm, fun i key v e => ?_⟩ (fun h' kp x hx => ?_) (by rw [hn, hl]; exact hz) fun h' tk dd kp => ?_
  · rw [List.size_toArray, List.length_map, hn, hl]
  · rw [List.getElem?_map] at e
    obtain ⟨x, hx, e2⟩ := Option.map_eq_some_iff.mp e
    cases e2
    obtain ⟨b, e1, ht⟩ := hpr j x hx
    have e3 : ps.getD j 0 = b := by rw [List.getD_eq_getElem?_getD, e1]; rfl
    show (ps.map Value.ref).toArray[j]? = some (Value.ref (ps.getD j 0)) ∧ PairAt s.heap (ps.getD j 0) _ _
    rw [e3]
    exact ⟨by simp [e1], .inl ht⟩
  · have e' : (xs.map fun x => (Value.ref x.2.1, x.2.2))[i]? = some (key, v) := e
    rw [List.getElem?_map] at e'
    obtain ⟨x, hx, e2⟩ := Option.map_eq_some_iff.mp e'
    cases e2
    exact ⟨x.1, x.2.1, hx, rfl⟩
  · obtain ⟨e, he, e1, e2⟩ := ex.mem x hx
    have k := (hk e he).is I
    rw [← e1, ← e2]
    exact nestedKind_stays.stays (fun b ob vs n hb _ => kp b ob (Nat.ne_of_lt (Heap.lt_size hb)) (by simp) hb) k
  · have hm : (s.heap.objs.size == sysModules) = false := beq_eq_false_iff_ne.mpr (Nat.ne_of_gt I.big)
    have hlen : (mergeE [] es).length ≤ sizeLine := by
      refine Nat.le_trans (mergeE_len es []) ?_
      rw [List.length_nil, Nat.zero_add, Paired.length ex, hl]
      exact hz
    obtain ⟨od, ho', ok⟩ := raw_ok (X := X) hlen hm (EX.merge ex .nil) dd (fun e he => kOk_tx (mergeE_ok es [] (fun _ z => by cases z) (fun e he => (hk e he).ok) e he))
    exact ⟨.ref s.heap.objs.size, upd H s.heap.objs.size (RawO s.heap.objs.size (mergeE [] es) od), I.laid (t' := tk) (fun b ob e => kp b ob (by simp) e) (Nat.le_refl _) (ok _), rfl, q _ od (I.hok.fresh (Nat.le_refl _))⟩
end
end Sim
namespace Sim
open PySem PySem.Spec L2
open PyProof.Rows hiding St
section
variable {prog : Program} {w : World} {A : Around} {E : Value → Shared → Prop} {s : Shared}
end
section
variable {X : Cx} {pins : List (Addr × Obj)} {σ : St} {H : Hp} {s : Shared}
end
section
variable {P : Program} {w : World} {K : PySem.W.Frag} {tg : Expr} {d : Addr} {o : Obj} {ents : Array DictEntry} {ep : Nat}
end
section
variable {X : Cx} {tg e : Expr} {td : TE} {apos cpos : Pos}
end
end Sim
namespace Sim
open PySem PySem.Spec L2
section
variable {K : PySem.W.Frag}
def pInN : List D → Option D
  | [y, d] => (toNk y).bind fun k => (unN d).bind fun l => if kOk k = true then some (.bool (getL l k).isSome) else none
  | _ => none
def pNinN : List D → Option D
  | [y, d] => (toNk y).bind fun k => (unN d).bind fun l => if kOk k = true then some (.bool (!(getL l k).isSome)) else none
  | _ => none
def pLenN : List D → Option D
  | [d] => (unN d).map fun l => .int (l.length : Nat)
  | _ => none
theorem getE_some {H : Hp} {k : NestedKey} {es : List NE} {l : List (NestedKey × D)} (h : es.map (fun e => e.1) = l.map Prod.fst) (t : OwnA K H (l.map Prod.snd) (es.map fun e => e.2.2) []) : (getE es k).isSome = (getL l k).isSome := by
  rcases getE_L (k := k) h t with ⟨a, b⟩ | ⟨v, d, a, b, _⟩
  · rw [a, b]; rfl
  · rw [a, b]; rfl
theorem pr_inN : PrimR K (u2 (rInN K)) pInN := by
  intro vs ds d H Q h e q
  unfold pInN at e
  split at e
  · obtain ⟨x, y, F, G, rfl, o1, o2⟩ := h.two
    obtain ⟨k, ek, e⟩ := Option.bind_eq_some_iff.mp e
    obtain ⟨l, el, e⟩ := Option.bind_eq_some_iff.mp e
    split at e
    · rename_i hk
      cases e
      obtain ⟨a, es, od, rfl, _, hd, h1, h2⟩ := own_N o2 el
      refine ⟨a, es, od, k, rfl, hd, .mk' o1 ek hk, ?_⟩
      rw [getE_some h1 h2]
      exact q _ _ (.sc (.bl _))
    · cases e
  · cases e
theorem pr_ninN : PrimR K (u2 (rNinN K)) pNinN := by
  intro vs ds d H Q h e q
  unfold pNinN at e
  split at e
  · obtain ⟨x, y, F, G, rfl, o1, o2⟩ := h.two
    obtain ⟨k, ek, e⟩ := Option.bind_eq_some_iff.mp e
    obtain ⟨l, el, e⟩ := Option.bind_eq_some_iff.mp e
    split at e
    · rename_i hk
      cases e
      obtain ⟨a, es, od, rfl, _, hd, h1, h2⟩ := own_N o2 el
      refine ⟨a, es, od, k, rfl, hd, .mk' o1 ek hk, ?_⟩
      rw [getE_some h1 h2]
      exact q _ _ (.sc (.bl _))
    · cases e
  · cases e
theorem pr_lenN : PrimR K (rLenN K) pLenN := by
  intro vs ds d H Q h e q
  unfold pLenN at e
  split at e
  · obtain ⟨x, F, rfl, o1⟩ := h.one
    obtain ⟨l, el, e⟩ := Option.map_eq_some_iff.mp e
    subst e
    obtain ⟨a, es, od, rfl, _, hd, h1, h2⟩ := own_N o1 el
    have hl : es.length = l.length := by
      have := congrArg List.length h1
      rwa [List.length_map, List.length_map] at this
    refine ⟨a, es, od, rfl, hd, ?_⟩
    rw [hl]
    exact q _ _ (.sc (.int _))
  · cases e
/-- {} -/
def oNewN : O := fun s => .ok (.val (reN [])) s
theorem newN_own {H : Hp} {p : Addr} {od : Obj} (h : H p = none) : NewV K H (reN []) (.ref p) (upd H p (RawO p [] od)) := by
  have sm : Same H (upd H p (RawO p [] od)) := same_new h
  refine ⟨sm, [p], ?_, fun b z => by rw [List.mem_singleton.mp z]; exact h⟩
  exact own_reN (es := []) (od := od) ⟨upd_same, .nil, fun e z => by cases z⟩ rfl .nil
end
section
variable [Tb] [Vs] {X : Cx} {a b : Expr} {ga gb : O} {pos : Pos}
theorem so_newN : SimO X (.Dict [] [] pos) oNewN := pe_imp pe_dnewN fun σ H Q z => by
  obtain ⟨s, Fs, r, s', R, e, q⟩ := z
  cases e
  intro p od hp
  obtain ⟨R2, E2, F, k, n⟩ := (newN_own (K := X.K) (od := od) hp).ok R
  exact q _ _ Fs F R2 E2 k n
end
section
variable [Tb] [Vs] {X : Cx} {K : PySem.W.Frag} {σ : St} {H : Hp} {Q : VK}
end
end Sim
namespace Sim
open PySem PySem.Spec L2
section
variable [Tb] [Vs] {K : PySem.W.Frag} {H H' : Hp} {s : Sg} {σ : St} {Fs : Fp}
theorem chg_updM {a : Addr} {mo mo' : MO} (hl : H a = some mo.ho) : Chg (fun b => b = a) H (upd H a mo'.ho) := .upd1 hl
/-- what a slot holds is written, at one object of it -/
theorem RelS.wrA (R : RelS K H s σ Fs) {i : Nat} {d d' : D} {v : V} {a : Addr} {mo mo' : MO} {F' Fd : List Addr} (e : s[i]? = some (some d)) (ev : σ[i]? = some (some v)) (hl : H a = some mo.ho) (ha : a ∈ Fs i)
    (o : Own K (upd H a mo'.ho) d' v F') (hF : ∀ b, b ∈ F' → b ∈ Fs i ∨ b ∈ Fd) (hd : ∀ j b, b ∈ Fs j → b ∉ Fd) :
    ∃ Fs', RelS K (upd H a mo'.ho) (s.set i (some d')) σ Fs' ∧ Chg (InF Fs) H (upd H a mo'.ho) ∧ ∀ j b, b ∈ Fs' j → b ∈ Fs j ∨ b ∈ Fd := by
  have hi : i < s.length := by
    rcases Nat.lt_or_ge i s.length with h | h
    · exact h
    · rw [List.getElem?_eq_none h] at e; cases e
  have chg : Chg (fun b => b = a) H (upd H a mo'.ho) := chg_updM hl
  refine ⟨upF Fs i F', ⟨by rw [List.length_set, R.len], fun j d' e' => ?_, fun j h => ?_, fun j k b h1 h2 => ?_, R.lnkC chg (fun j b hb w => R.nfp e ha (by rw [← w]; exact hb)), fun j h d' e' => ?_⟩, chg.mono (fun b _ _ w => ⟨i, by rw [w]; exact ha⟩), fun j b h => ?_⟩
  · by_cases hj : j = i
    · subst hj
      rw [List.getElem?_set_self hi] at e'
      cases e'
      refine ⟨_, ev, ?_⟩
      unfold upF
      rw [if_pos rfl]
      exact o
    · rw [List.getElem?_set_ne (Ne.symm hj)] at e'
      obtain ⟨v', hv', o'⟩ := R.has j d' e'
      refine ⟨v', hv', ?_⟩
      unfold upF
      rw [if_neg hj]
      exact o'.chg chg fun b hb w => hj (R.dis j i a (by rw [← w]; exact hb) ha)
  · unfold upF
    by_cases hj : j = i
    · subst hj
      exact absurd (List.getElem?_set_self hi) (h _)
    · rw [if_neg hj]
      exact R.off j fun d' e => h d' (by rw [List.getElem?_set_ne (Ne.symm hj)]; exact e)
  · have key : ∀ {m : Nat}, m ≠ i → b ∈ F' → b ∈ Fs m → False := fun {m} hm g1 g2 => by
      rcases hF b g1 with q | q
      · exact hm (R.dis m i b g2 q)
      · exact hd m b g2 q
    unfold upF at h1 h2
    by_cases hj : j = i
    · by_cases hk : k = i
      · omega
      · rw [if_pos hj] at h1
        rw [if_neg hk] at h2
        exact (key hk h1 h2).elim
    · by_cases hk : k = i
      · rw [if_neg hj] at h1
        rw [if_pos hk] at h2
        exact (key hj h2 h1).elim
      · rw [if_neg hj] at h1
        rw [if_neg hk] at h2
        exact R.dis j k b h1 h2
  · by_cases hj : j = i
    · subst hj
      exact R.bse j h _ e
    · rw [List.getElem?_set_ne (Ne.symm hj)] at e'
      exact R.bse j h d' e'
  · unfold upF at h
    by_cases hj : j = i
    · rw [if_pos hj] at h
      subst hj
      exact hF b h
    · rw [if_neg hj] at h
      exact .inl h
end
section
variable {K : PySem.W.Frag} {H H' : Hp}
theorem DN.keyn {a : Addr} {es : List NE} {od : Obj} (h : DN K H a es od) : ∀ e, e ∈ es → KeyN K H e.1 (.ref e.2.1) := fun e he => ⟨ownA_mem h.keys e he, h.ok e he⟩
theorem ownA_of {α : Type} {f : α → D} {g : α → V} : ∀ {l : List α}, (∀ x, x ∈ l → Own K H (f x) (g x) []) → OwnA K H (l.map f) (l.map g) []
  | [], _ => .nil
  | x :: l, h => by
    rw [List.map_cons, List.map_cons]
    exact .cons0 (h x (List.mem_cons_self ..)) (ownA_of fun y hy => h y (List.mem_cons_of_mem _ hy))
theorem dn_of {a : Addr} {es : List NE} {od : Obj} (h : H a = some (RawO a es od)) (k : ∀ e, e ∈ es → KeyN K H e.1 (.ref e.2.1)) : DN K H a es od := ⟨h, ownA_of fun e he => (k e he).own, fun e he => (k e he).ok⟩
theorem putE_key {P : NestedKey → Addr → Prop} {es : List NE} {k : NestedKey} {b : Addr} {v : V} (h : ∀ e, e ∈ es → P e.1 e.2.1) (hk : P k b) : ∀ e, e ∈ putE es k b v → P e.1 e.2.1 := by
  intro e he
  unfold putE at he
  split at he
  · obtain ⟨e', h1, rfl⟩ := List.mem_map.mp he
    have := h _ h1
    split
    · exact this
    · exact this
  · rcases List.mem_append.mp he with he | he
    · exact h _ he
    · rw [List.mem_singleton.mp he]; exact hk
theorem mergeE_key {P : NestedKey → Addr → Prop} : ∀ (more es : List NE), (∀ e, e ∈ es → P e.1 e.2.1) → (∀ e, e ∈ more → P e.1 e.2.1) → ∀ e, e ∈ mergeE es more → P e.1 e.2.1
  | [], _, h, _, e, he => h e he
  | m :: more, es, h, h2, e, he => by
    unfold mergeE at he
    rw [List.foldl_cons] at he
    exact mergeE_key more _ (putE_key h (h2 m (List.mem_cons_self ..))) (fun e he => h2 e (List.mem_cons_of_mem _ he)) e he
theorem mergeE_L : ∀ {more : List NE} {lm : List (NestedKey × D)} {es : List NE} {l : List (NestedKey × D)}, more.map (fun e => e.1) = lm.map Prod.fst → OwnA K H (lm.map Prod.snd) (more.map fun e => e.2.2) [] →
    es.map (fun e => e.1) = l.map Prod.fst → OwnA K H (l.map Prod.snd) (es.map fun e => e.2.2) [] →
    (mergeE es more).map (fun e => e.1) = (mergeL l lm).map Prod.fst ∧ OwnA K H ((mergeL l lm).map Prod.snd) ((mergeE es more).map fun e => e.2.2) []
  | [], [], _, _, _, _, h, t => ⟨h, t⟩
  | e :: more, p :: lm, es, l, h1, t1, h, t => by
    rw [List.map_cons, List.map_cons] at h1
    injection h1 with a1 a2
    rw [List.map_cons, List.map_cons] at t1
    unfold mergeE mergeL
    rw [List.foldl_cons, List.foldl_cons]
    obtain ⟨b1, b2⟩ := putE_L (k := e.1) (b := e.2.1) t1.nil2.1 h t
    rw [← a1]
    exact mergeE_L a2 t1.nil2.2 b1 b2
  | [], _ :: _, _, _, h1, _, _, _ => by simp at h1
  | _ :: _, [], _, _, h1, _, _, _ => by simp at h1
theorem KeyN.chg [Tb] {Fa : Addr → Prop} (c : Chg Fa H H') {k : NestedKey} {y : V} (h : KeyN K H k y) : KeyN K H' k y := ⟨h.own.chg c (fun _ z => by cases z), h.ok⟩
def pairsL : List D → Option (List (NestedKey × D))
  | [] => some []
  | .tuple [y, v] :: ds => (toNk y).bind fun k => (pairsL ds).bind fun l => if kOk k = true ∧ pur v = true then some ((k, v) :: l) else none
  | _ => none
theorem pairsL_own : ∀ {ds : List D} {vs : List V} {l : List (NestedKey × D)} {F : List Addr}, OwnA K H ds vs F → pairsL ds = some l →
    ∃ (ps : List Addr) (es : List NE), vs = ps.map V.ref ∧ Paired (fun p (e : NE) => SqT K H p [.ref e.2.1, e.2.2]) ps es ∧ (∀ e, e ∈ es → KeyN K H e.1 (.ref e.2.1)) ∧ es.map (fun e => e.1) = l.map Prod.fst ∧ OwnA K H (l.map Prod.snd) (es.map fun e => e.2.2) []
  | [], _, l, F, t, h => by
    rw [pairsL] at h
    cases h
    cases t
    exact ⟨[], [], rfl, .nil, (fun e z => by cases z), rfl, .nil⟩
  | d :: ds, vs, l, F, t, h => by
    unfold pairsL at h
    split at h
    · rename_i heq; cases heq
    · rename_i y v ds' heq
      cases heq
      obtain ⟨k, ek, h⟩ := Option.bind_eq_some_iff.mp h
      obtain ⟨l', el, h⟩ := Option.bind_eq_some_iff.mp h
      split at h
      · rename_i hk
        cases h
        cases t with
        | cons o t n =>
          obtain ⟨ps, es, rfl, p1, p2, p3, p4⟩ := pairsL_own t el
          cases o with
          | tup hq tt =>
            rename_i a xs
            cases tt with
            | @cons vy vs1 _ _ F1 F2 o1 tt n1 =>
              cases tt with
              | @cons vv vs2 _ _ F3 F4 o2 tt n2 =>
                cases tt
                have hy := KeyN.mk' o1 ek hk.1
                obtain ⟨b, rfl⟩ := hy.ref
                rw [o2.pur hk.2] at o2
                refine ⟨a :: ps, (k, b, vv) :: es, rfl, .cons hq.sq p1, fun e he => ?_, by rw [List.map_cons, List.map_cons, p3], ?_⟩
                · rcases List.mem_cons.mp he with rfl | he
                  · exact hy
                  · exact p2 e he
                · rw [List.map_cons, List.map_cons]
                  exact .cons0 o2 p4
      · cases h
    · cases h
def pDictN : List D → Option D
  | [.list ds] => (pairsL ds).map fun l => reN (mergeL [] l)
  | _ => none
theorem pr_dictN : PrimR K (rDictN K) pDictN := by
  intro vs ds d H Q h e q
  unfold pDictN at e
  split at e
  · obtain ⟨x, F, rfl, o1⟩ := h.one
    obtain ⟨l, el, e⟩ := Option.map_eq_some_iff.mp e
    subst e
    cases o1 with
    | lst h1 t n =>
      rename_i a xs F0
      obtain ⟨ps, es, rfl, p1, p2, p3, p4⟩ := pairsL_own t el
      refine ⟨a, ps, es, rfl, SqL.of h1, p1, p2, fun p od hp => q _ _ ?_⟩
      have sm : Same H (upd H p (RawO p (mergeE [] es) od)) := same_new hp
      refine ⟨sm, [p], ?_, fun b z => by rw [List.mem_singleton.mp z]; exact hp⟩
      obtain ⟨g1, g2⟩ := mergeE_L p3 p4 (es := []) (l := []) rfl .nil
      have c : Chg (fun _ => False) H (upd H p (RawO p (mergeE [] es) od)) := .same sm
      refine own_reN (od := od) (dn_of upd_same fun e he => ?_) g1 (g2.chg c fun _ z => by cases z)
      exact (mergeE_key (P := fun k b => KeyN K H k (.ref b)) es [] (fun _ z => by cases z) p2 e he).chg c
  · cases e
end
def sSetN (i : Nat) (gi g : O) : S := fun s => (g s).bind fun r s1 => (oV i s1).bind fun _ s1 => (gi s1).bind fun ri s2 => match own r s2, (rd ri s2).bind toNk, ((s2[i]?).join).bind unN with
  | some d, some k, some l => if pur d = true ∧ kOk k = true ∧ l.length < 1000000 then .ok .nx (s2.set i (some (reN (putL l k d)))) else .bad
  | _, _, _ => .bad
section
variable [Tb] [Vs] {X : Cx} {lk : Nat → Bool} {pos : Pos} {ga gb : O} {e : Expr}
theorem ss_setNF {e0 : Expr} {i : Nat} {ix : Expr} {p2 : Pos} (hu : X.A.units + 65 < cLine) (hv : PE X e0 (tSl i)) (hix : SimO X ix gb) (he : SimO X e ga)
    (ha : ∀ v, assign (.Subscript e0 ix p2) X.env v = (do
      let ov ← holding [v] (eval e0 X.env)
      let iv ← holding [v, ov] (eval ix X.env)
      standAt p2
      holding [v, ov, iv] (setItem ov iv v)
      release [v, ov, iv] []) := by intro _; rfl)
    (hs : swapsWithSole [.Subscript e0 ix p2] e pos.line X.env = pure false := by rfl) (hw : swappedStores [.Subscript e0 ix p2] e X.env = pure none := by rfl)
    (h1 : (assignEach [.Subscript e0 ix p2] X.env).map (·.2) = [assign (.Subscript e0 ix p2) X.env] := by rfl) : SimS X lk (.Assign [.Subscript e0 ix p2] e pos) (sSetN i gb ga) := by
  refine ps_imp (ps_asg he (pg_sub hv hix (set_dN hu) ha) hs hw h1) fun D σ H z => ?_
  obtain ⟨s, Fs, fl, s', R, e, q⟩ := z
  obtain ⟨r, s1, e1, e⟩ := bind_inv e
  refine ⟨s, Fs, r, s1, R, e1, fun v H1 Fs1 F R1 E1 k1 n1 => ?_⟩
  obtain ⟨rv, s1', e1', e⟩ := bind_inv e
  unfold oV at e1'
  split at e1'
  · rename_i d0 hd0
    cases e1'
    obtain ⟨vl, hvl, _⟩ := R1.has i d0 (join_some hd0)
    refine ⟨vl, hvl, R1.lnk.1, ?_⟩
    obtain ⟨ri, s2, e2, e⟩ := bind_inv e
    refine ⟨s1, Fs1, ri, s2, R1, e2, fun vi H2 Fs2 F2 R2 E2 k2 n2 => ?_⟩
    split at e
    · rename_i d k l hd hk hl
      split at e
      · rename_i hp
        cases e
        obtain ⟨d3, hs3, el⟩ := Option.bind_eq_some_iff.mp hl
        obtain ⟨d4, hk4, ek⟩ := Option.bind_eq_some_iff.mp hk
        obtain ⟨vl', hvl', o⟩ := R2.has i _ (join_some hs3)
        rw [hvl] at hvl'
        cases hvl'
        obtain ⟨a, es, od, rfl, hF, hdn, g1, g2⟩ := own_N o el
        obtain ⟨F', oi⟩ := k2.dp R2 hk4
        have hkey := KeyN.mk' oi ek hp.2.1
        obtain ⟨b, rfl⟩ := hkey.ref
        have A := rfOk_own (k1.ev E2) R2 hd
        have o1 := A.own
        rw [o1.pur hp.1] at o1
        have hlen : es.length < sizeLine := by
          have := congrArg List.length g1
          rw [List.length_map, List.length_map] at this
          rw [this]
          exact Nat.lt_of_lt_of_le hp.2.2 big_le
        refine ⟨a, es, od, k, b, rfl, rfl, hdn, hkey, hlen, fun od' => ?_⟩
        have c : Chg (fun z => z = a) H2 (upd H2 a (RawO a (putE es k b v) od')) := chg_updM (mo := .dcn a es od) (mo' := .dcn a (putE es k b v) od') hdn.at_
        obtain ⟨p1, p2⟩ := putE_L (k := k) (b := b) o1 g1 g2
        have on : Own X.K (upd H2 a (RawO a (putE es k b v) od')) (reN (putL l k d)) (.ref a) [a] :=
          own_reN (od := od') (dn_of upd_same fun e he => (putE_key (P := fun k b => KeyN X.K H2 k (.ref b)) hdn.keyn hkey e he).chg c) p1 (p2.chg c fun _ z => by cases z)
        have ai : a ∈ Fs2 i := by rw [hF]; exact List.mem_cons_self ..
        obtain ⟨Fs3, R3, C3, n3⟩ := R2.wrA (mo := .dcn a es od) (mo' := .dcn a (putE es k b v) od') (join_some hs3) hvl hdn.at_ ai on (Fd := []) (fun z hz => .inl (by rw [List.mem_singleton.mp hz]; exact ai)) (by simp)
        refine q σ _ Fs3 R3 ((E1.trans E2).trans ⟨C3, fun j a h => (n3 j a h).imp id (fun z => by cases z)⟩) (.refl _ _)
      · cases e
    · cases e
  · cases e1'
theorem ss_setN {i : Nat} {x : Str} {ix : Expr} {p1 p2 : Pos} (hu : X.A.units + 65 < cLine) (hv : PE X (.Name x p1) (tVar i)) (hix : SimO X ix gb) (he : SimO X e ga)
    (ha : ∀ v, assign (.Subscript (.Name x p1) ix p2) X.env v = (do
      let ov ← holding [v] (eval (.Name x p1) X.env)
      let iv ← holding [v, ov] (eval ix X.env)
      standAt p2
      holding [v, ov, iv] (setItem ov iv v)
      release [v, ov, iv] []) := by intro _; rfl)
    (hs : swapsWithSole [.Subscript (.Name x p1) ix p2] e pos.line X.env = pure false := by rfl) (hw : swappedStores [.Subscript (.Name x p1) ix p2] e X.env = pure none := by rfl)
    (h1 : (assignEach [.Subscript (.Name x p1) ix p2] X.env).map (·.2) = [assign (.Subscript (.Name x p1) ix p2) X.env] := by rfl) : SimS X lk (.Assign [.Subscript (.Name x p1) ix p2] e pos) (sSetN i gb ga) :=
  ss_setNF hu (tsl_of hv) hix he ha hs hw h1
end
section
variable [Tb] [Vs] {X : Cx} {K : PySem.W.Frag} {σ : St} {H : Hp} {Q : VK}
end
end Sim
namespace Sim
open PySem PySem.Spec L2
section
variable [Tb] [Vs] {X : Cx} {K : PySem.W.Frag}
theorem pur_reN (l : List (NestedKey × D)) : pur (reN l) = false := by
  unfold reN
  simp [pur, frzT]
variable {tg e : Expr} {ga : O}
end
end Sim
namespace SimMin
open PySem PySem.Spec PySem.W
section
variable {prog : Program} {w : World} {A : Around} {E : Value → Shared → Prop} {s : Shared}
end
end SimMin
namespace Sim
open PySem PySem.Spec L2
section
variable {X : Cx}
end
end Sim
namespace Sim
open PySem PySem.Spec L2
section
variable {K : PySem.W.Frag} {H : Hp}
end
section
variable [Tb] [Vs] {X : Cx} {a b : Expr} {ga gb : O} {pos : Pos}
end
section
variable {K : PySem.W.Frag} {H : Hp}
end
end Sim
namespace Sim
open PySem PySem.Spec L2
section
variable [Tb] [Vs] {K : PySem.W.Frag} {H : Hp} {X : Cx}
end
section
variable [Tb] [Vs] {X : Cx} {lk : Nat → Bool} {pos : Pos} {ga gb : O} {e : Expr}
end
section
variable [Tb] [Vs] {X : Cx} {K : PySem.W.Frag} {σ : St} {H : Hp} {Q : VK}
end
end Sim
namespace Sim
open PySem PySem.Spec L2
section
variable {K : PySem.W.Frag}
end
section
variable [Tb] [Vs] {X : Cx} {e : Expr} {ga : O}
end
end Sim
namespace Sim
open PySem PySem.Spec L2
theorem RelS.wrG [Tb] [Vs] {K : PySem.W.Frag} {H H' : Hp} {s : Sg} {σ : St} {Fs : Fp} (R : RelS K H s σ Fs) {i : Nat} {d d' : D} {v : V} {a : Addr} (e : s[i]? = some (some d)) (ev : σ[i]? = some (some v)) (ha : a ∈ Fs i) (chg : Chg (fun b => b = a) H H')
    (o : Own K H' d' v []) : RelS K H' (s.set i (some d')) σ (upF Fs i []) := by
  have hi : i < s.length := by
    rcases Nat.lt_or_ge i s.length with h | h
    · exact h
    · rw [List.getElem?_eq_none h] at e; cases e
  refine ⟨by rw [List.length_set, R.len], fun j d' e' => ?_, fun j h => ?_, fun j k b h1 h2 => ?_, R.lnkC chg (fun j b hb w => R.nfp e ha (by rw [← w]; exact hb)), fun j h d' e' => ?_⟩
  · by_cases hj : j = i
    · subst hj
      rw [List.getElem?_set_self hi] at e'
      cases e'
      refine ⟨_, ev, ?_⟩
      unfold upF
      rw [if_pos rfl]
      exact o
    · rw [List.getElem?_set_ne (Ne.symm hj)] at e'
      obtain ⟨v', hv', o'⟩ := R.has j d' e'
      refine ⟨v', hv', ?_⟩
      unfold upF
      rw [if_neg hj]
      exact o'.chg chg fun b hb w => hj (R.dis j i a (by rw [← w]; exact hb) ha)
  · unfold upF
    by_cases hj : j = i
    · subst hj
      exact absurd (List.getElem?_set_self hi) (h _)
    · rw [if_neg hj]
      exact R.off j fun d' e => h d' (by rw [List.getElem?_set_ne (Ne.symm hj)]; exact e)
  · unfold upF at h1 h2
    by_cases hj : j = i
    · rw [if_pos hj] at h1; cases h1
    · by_cases hk : k = i
      · rw [if_pos hk] at h2; cases h2
      · rw [if_neg hj] at h1
        rw [if_neg hk] at h2
        exact R.dis j k b h1 h2
  · by_cases hj : j = i
    · subst hj
      exact R.bse j h _ e
    · rw [List.getElem?_set_ne (Ne.symm hj)] at e'
      exact R.bse j h d' e'
section
variable [Tb] [Vs] {X : Cx} {x : Str} {p pos : Pos} {es : List Expr} {ga : AL} {i : Nat}
end
end Sim
namespace Sim
open PySem PySem.Spec L2
def oFrzV (i : Nat) : O := fun s => match (s[i]?).join with
  | some (.list ds) => if purs ds = true then .ok (.slot i) (s.set i (some (.dict [(.none, .list ds)]))) else .bad
  | _ => .bad
section
variable [Tb] [Vs] {X : Cx} {x : Str} {p : Pos} {i : Nat}
theorem so_frzV (hv : PE X (.Name x p) (tVar i)) : SimO X (.Name x p) (oFrzV i) := by
  have hL : PE X (.Name x p) (tO X.K (oV i)) := so_var hv
  refine ⟨fun pins s σ H Q I z => ?_⟩
  obtain ⟨sg, Fs, rf, sg', R, e0, q⟩ := z
  unfold oFrzV at e0
  split at e0
  · rename_i ds hds
    split at e0
    · rename_i hp
      cases e0
      have eo : oV i sg = .ok (.slot i) sg := by
        unfold oV
        rw [hds]
      refine thn (hL.run pins s σ H (fun v H1 => ∃ Fs1 F, RelS X.K H1 sg σ Fs1 ∧ Ev H Fs H1 Fs1 ∧ RfOk X.K H1 σ Fs1 (.slot i) v F) I ⟨sg, Fs, _, sg, R, eo, fun v H1 Fs1 F R1 E1 k1 _ => ⟨Fs1, F, R1, E1, k1⟩⟩) fun v s2 ⟨xv, H1, I1, rv, Fs1, F, R1, E1, k1⟩ => ?_
      cases k1 with
      | slot hva =>
        obtain ⟨vi, hvi, oi⟩ := R1.has i _ (join_some hds)
        rw [hva] at hvi
        cases hvi
        obtain ⟨a, xs, F0, hae, hFa, hx, tt, nn⟩ := own_list oi
        have e3 := tt.pur hp
        subst e3
        subst hae
        obtain ⟨od, I3⟩ := I1.lock hx trivial
        have c : Chg (fun b => b = a) H1 (upd H1 a (.frz od (.lst xs))) := .upd1 (m := .lst _) hx
        have ai : a ∈ Fs1 i := by rw [hFa]; exact List.mem_cons_self ..
        have of : Own X.K (upd H1 a (.frz od (.lst xs))) (.dict [(.none, .list ds)]) (.ref a) [] := .frz (.inl ⟨od, upd_same ..⟩) (OwnA.chg c tt (by simp))
        have R3 := R1.wrG (join_some hds) hva ai c of
        have c' : Chg (InF Fs1) H1 (upd H1 a (.frz od (.lst xs))) := c.mono (fun b _ _ w => ⟨i, by rw [w]; exact ai⟩)
        have E3 : Ev H Fs (upd H1 a (.frz od (.lst xs))) (upF Fs1 i []) := E1.trans ⟨c', fun j b hb => by
          unfold upF at hb
          split at hb
          · cases hb
          · exact .inl hb⟩
        exact ⟨.ref a, _, I3, rv, q (.ref a) _ _ _ R3 E3 (.slot hva) (by simp)⟩
    · cases e0
  · cases e0
end
end Sim
namespace Sim
open PySem PySem.Spec L2
section
variable {K : PySem.W.Frag} {H : Hp}
end
section
variable {prog : Program} {w : World} {A : Around} {E : Value → Shared → Prop} {s : Shared}
end
section
variable {X : Cx}
end
end Sim
namespace Sim
open PySem PySem.Spec L2
section
variable [Tb] [Vs] {X : Cx} {lk : Nat → Bool} {pos : Pos} {ga gb : O} {e : Expr} {op : Operator} {f : Int → Int → Int}
end
end Sim
namespace Sim
open PySem PySem.Spec L2
section
variable [Tb] [Vs] {X : Cx} {K : PySem.W.Frag} {σ : St} {H : Hp} {Q : VK}
end
end Sim
namespace Sim
open PySem PySem.Spec L2
section
variable [Tb] [Vs] {X : Cx} {o : Expr} {ga : O} {apos pos : Pos}
end
end Sim
namespace Sim
open PySem PySem.Spec L2
section
variable [Tb] [Vs] {X : Cx} {K : PySem.W.Frag} {σ : St} {H : Hp} {Q : VK}
end
end Sim
namespace Sim
open PySem PySem.Spec L2
section
variable [Tb] [Vs] {X : Cx} {a : Addr} {x : Str} {keys : List Str} {e : Expr} {g : O} {p pos : Pos}
end
end Sim
namespace Sim
open PySem PySem.Spec L2
/-- the same but for such slots -/
structure GhEq (X : Cx) (σ σ' : St) : Prop where
  len : σ'.length = σ.length
  vis : ∀ (i : Nat) (x : Str), X.N[i]? = some x → Vis X.env.scope x → σ'[i]? = σ[i]?
theorem GhEq.symm {X : Cx} {σ σ' : St} (h : GhEq X σ σ') : GhEq X σ' σ := ⟨h.len.symm, fun i x a b => (h.vis i x a b).symm⟩
theorem GhEq.refl (X : Cx) (σ : St) : GhEq X σ σ := ⟨rfl, fun _ _ _ _ => rfl⟩
theorem not_vis {X : Cx} {x : Str} (h : X.env.scope.names.lookup x = none) : ¬ Vis X.env.scope x := fun v => by
  rcases v with v | v | v <;> rw [h] at v <;> cases v
theorem GhEq.set {X : Cx} {σ : St} {i : Nat} {x : Str} {v : Option V} (hN : X.N[i]? = some x) (h : X.env.scope.names.lookup x = none) : GhEq X σ (σ.set i v) := ⟨List.length_set, fun j y a b => by
  by_cases hj : j = i
  · subst hj
    rw [hN] at a
    cases a
    exact absurd b (not_vis h)
  · exact List.getElem?_set_ne (Ne.symm hj)⟩
section
variable {X : Cx}
end
structure LnkO (b : Nat) (p C : Addr) (g : Nat) (ns : List Str) (q : Nat) (fa : Addr) (σ : St) (H : Hp) : Prop where
  base : σ[b]? = some (some (.ref p))
  len : σ.length = g + ns.length
  pin : σ[q]? = some (some (.ref fa))
  obj : ∃ dx fs, H p = some (.ins C dx fs) ∧ fs.length ≤ ns.length ∧ fs.map Prod.fst = ns.take fs.length ∧ ∀ k, k < ns.length → σ[g + k]? = some ((fs[k]?).map Prod.snd)
/-- (q, fa: a slot more that stays) -/
abbrev obVp (b : Nat) (p C : Addr) (g : Nat) (ns : List Str) (q : Nat) (fa : Addr) : Vs where
  fp i := if i = b then [p] else []
  lnk := LnkO b p C g ns q fa
  ok i := i ≠ b ∧ i < g ∧ i ≠ q
  keep {σ H H'} h k := by
    obtain ⟨h1, h2, hq, dx, fs, h3, h4⟩ := h
    exact ⟨h1, h2, hq, dx, fs, by rw [k b p (by rw [if_pos rfl]; exact List.mem_singleton.mpr rfl)]; exact h3, h4⟩
  put {σ H i v} ko := by
    have e1 : (σ.set i v)[b]? = σ[b]? := List.getElem?_set_ne ko.1
    have e3 : (σ.set i v)[q]? = σ[q]? := List.getElem?_set_ne ko.2.2
    have e2 : ∀ k, (σ.set i v)[g + k]? = σ[g + k]? := fun k => List.getElem?_set_ne (by have := ko.2.1; omega)
    constructor
    · rintro ⟨h1, h2, hq, dx, fs, h3, h4, h5, h6⟩
      exact ⟨e1.symm.trans h1, (List.length_set (as := σ) (i := i) (a := v)).symm.trans h2, e3.symm.trans hq, dx, fs, h3, h4, h5, fun k hk => (e2 k).symm.trans (h6 k hk)⟩
    · rintro ⟨h1, h2, hq, dx, fs, h3, h4, h5, h6⟩
      exact ⟨e1.trans h1, (List.length_set (as := σ) (i := i) (a := v)).trans h2, e3.trans hq, dx, fs, h3, h4, h5, fun k hk => (e2 k).trans (h6 k hk)⟩
  mem {σ H i a} h ha := by
    obtain ⟨h1, h2, hq, dx, fs, h3, h4⟩ := h
    split at ha
    · rw [List.mem_singleton.mp ha]
      exact ⟨.ins _ _ _, h3⟩
    · cases ha
  nil {i} ko := if_neg ko.1
abbrev obV (b : Nat) (p C : Addr) (g : Nat) (ns : List Str) : Vs := obVp b p C g ns b p
section
variable [Tb] {X : Cx} {b g k i q : Nat} {p C fa : Addr} {ns : List Str} {f : Str} {e : Expr} {pos pos' : Pos}
end
section
variable [Tb] {X : Cx} {b g k i q : Nat} {p C fa : Addr} {ns : List Str} {f gx : Str} {e value : Expr} {pos pos' : Pos} {lk : Nat → Bool} {pv : Option Nat}
end
end Sim
namespace Sim
open PySem PySem.Spec L2
theorem OwnA.ls {K : PySem.W.Frag} {H : Hp} : ∀ {ds : List D} {vs : List V} {F : List Addr}, OwnA K H ds vs F → ∃ Gl, OwnLs K H ds vs Gl ∧ ∀ a, a ∈ F ↔ ∃ G, G ∈ Gl ∧ a ∈ G
  | [], _, _, t => by
    cases t
    exact ⟨[], .nil, by simp⟩
  | d :: ds, _, _, t => by
    cases t with
    | @cons v vs _ _ F1 F2 o t n =>
      obtain ⟨Gl, h1, h2⟩ := OwnA.ls t
      refine ⟨F1 :: Gl, .cons o (fun G hG a ha hb => n a ha ((h2 a).mpr ⟨G, hG, hb⟩)) h1, fun a => ?_⟩
      rw [List.mem_append, h2]
      constructor
      · rintro (h | ⟨G, hG, h⟩)
        · exact ⟨F1, List.mem_cons_self .., h⟩
        · exact ⟨G, List.mem_cons_of_mem _ hG, h⟩
      · rintro ⟨G, hG, h⟩
        rcases List.mem_cons.mp hG with rfl | hG
        · exact .inl h
        · exact .inr ⟨G, hG, h⟩
theorem OwnLs.a {K : PySem.W.Frag} {H : Hp} {ds : List D} {vs : List V} {Gl : List (List Addr)} (h : OwnLs K H ds vs Gl) : OwnA K H ds vs Gl.flatten := by
  induction h with
  | nil => exact .nil
  | cons o n _ ih =>
    rw [List.flatten_cons]
    refine .cons o ih fun a ha hb => ?_
    obtain ⟨G, hG, h⟩ := List.mem_flatten.mp hb
    exact n G hG a ha h
theorem OwnLs.at {K : PySem.W.Frag} {H : Hp} {ds : List D} {vs : List V} {Gl : List (List Addr)} (h : OwnLs K H ds vs Gl) : ∀ {i : Nat} {d : D}, ds[i]? = some d → ∃ v, vs[i]? = some v ∧ Own K H d v (Gl.getD i []) := by
  induction h with
  | nil => intro i d e; simp at e
  | @cons d0 v F ds vs Fl o n _ ih =>
    intro i d e
    cases i with
    | zero => simp at e; subst e; exact ⟨v, rfl, o⟩
    | succ i =>
      obtain ⟨v', h1, h2⟩ := ih (i := i) (d := d) (by simpa using e)
      exact ⟨v', by simpa using h1, by simpa using h2⟩
theorem OwnLs.dj {K : PySem.W.Frag} {H : Hp} {ds : List D} {vs : List V} {Gl : List (List Addr)} (h : OwnLs K H ds vs Gl) : ∀ {i j : Nat} {a : Addr}, a ∈ Gl.getD i [] → a ∈ Gl.getD j [] → i = j := by
  induction h with
  | nil => intro i j a e; simp at e
  | @cons d0 v F ds vs Fl o n _ ih =>
    intro i j a h1 h2
    cases i with
    | zero => cases j with
      | zero => rfl
      | succ j =>
        obtain ⟨G, hG, hm⟩ := getD_of (Fl := Fl) (i := j) (by simpa using h2)
        exact absurd hm (n G (List.mem_of_getElem? hG) a (by simpa using h1))
    | succ i => cases j with
      | zero =>
        obtain ⟨G, hG, hm⟩ := getD_of (Fl := Fl) (i := i) (by simpa using h1)
        exact absurd hm (n G (List.mem_of_getElem? hG) a (by simpa using h2))
      | succ j => rw [ih (i := i) (j := j) (by simpa using h1) (by simpa using h2)]
/-- what is put into the slots from g on -/
def putG {α : Type} : Nat → List α → List (Option α) → List (Option α)
  | _, [], s => s
  | g, d :: ds, s => putG (g + 1) ds (s.set g (some d))
section
variable [Tb] {K : PySem.W.Frag} {H : Hp} {s : Sg} {σ : St} {Fs : Fp} {j g : Nat} {ns : List Str} {nm : Str} {d : D} {fds : List D}
/-- what the opening of a slot's instance gives -/
structure Opened (K : PySem.W.Frag) (H : Hp) (s : Sg) (σ : St) (Fs : Fp) (j g : Nat) (nm : Str) (ns : List Str) (fds : List D) (p C : Addr) (σ2 : St) (Fs2 : Fp) : Prop where
  cn : ClsN K nm C
  at_ : σ[j]? = some (some (.ref p))
  rel : @RelS _ (obV j p C g ns) K H (putG g fds (s.set j none)) σ2 Fs2
  real : ∀ i, i < g → σ2[i]? = σ[i]?
  len : σ2.length = σ.length
  mem : p ∈ Fs j
  obj : Fs2 j = [p]
  low : ∀ i a, i < g → i ≠ j → a ∈ Fs2 i → a ∈ Fs i
  high : ∀ i a, g ≤ i → a ∈ Fs2 i → a ∈ Fs j
structure Closed (Fs Fs' : Fp) (j g : Nat) (p : Addr) : Prop where
  obj : ∀ a, a ∈ Fs' j → a = p ∨ ∃ k, g ≤ k ∧ a ∈ Fs k
  low : ∀ i a, i ≠ j → a ∈ Fs' i → a ∈ Fs i ∧ i < g
/-- from ahead of the opening to behind the closing -/
theorem Opened.ev {p C : Addr} {σ2 : St} {Fs2 Fs3 Fs4 : Fp} {H' : Hp} (o : Opened K H s σ Fs j g nm ns fds p C σ2 Fs2) (E : Ev H Fs2 H' Fs3) (c : Closed Fs3 Fs4 j g p) (pj : ∀ i a, a ∈ Fs2 i → i = j → a = p) : Ev H Fs H' Fs4 := by
  have sub : ∀ i a, a ∈ Fs2 i → ∃ k, a ∈ Fs k := fun i a ha => by
    by_cases hij : i = j
    · exact ⟨j, by rw [pj i a ha hij]; exact o.mem⟩
    · by_cases hig : i < g
      · exact ⟨i, o.low i a hig hij ha⟩
      · exact ⟨j, o.high i a (by omega) ha⟩
  refine ⟨E.chg.mono fun a _ _ ⟨i, hi⟩ => sub i a hi, fun i a ha => ?_⟩
  by_cases hij : i = j
  · subst hij
    rcases c.obj a ha with rfl | ⟨k, hk, h⟩
    · exact .inl o.mem
    · exact (E.new k a h).imp (o.high k a hk) id
  · obtain ⟨h, hig⟩ := c.low i a hij ha
    exact (E.new i a h).imp (o.low i a hig hij) id
/-- the same to a way out; low slots that no caller holds may hold what was the object's -/
theorem Opened.evR {lk : Nat → Bool} {p C : Addr} {σ2 : St} {Fs2 Fs3 Fs4 : Fp} {H' : Hp} (o : Opened K H s σ Fs j g nm ns fds p C σ2 Fs2) (E : EvR lk H Fs2 H' Fs3) (c : Closed Fs3 Fs4 j g p) (h0 : lk j = true) (hp : ∀ i, i < g → lk i = false → Fs i = []) :
    Chg (InF Fs) H H' ∧ ∀ i a, lk i = true → a ∈ Fs4 i → a ∈ Fs i ∨ H a = none := by
  have hpj : ∀ i a, a ∈ Fs2 i → i = j → a = p := fun i a ha hij => by
    rw [hij, o.obj] at ha
    exact List.mem_singleton.mp ha
  have sub : ∀ i a, a ∈ Fs2 i → ∃ k, a ∈ Fs k := fun i a ha => by
    by_cases hij : i = j
    · exact ⟨j, by rw [hpj i a ha hij]; exact o.mem⟩
    · by_cases hig : i < g
      · exact ⟨i, o.low i a hig hij ha⟩
      · exact ⟨j, o.high i a (by omega) ha⟩
  have un : ∀ k a, lk k = false → a ∈ Fs2 k → a ∈ Fs j := fun k a hk ha => by
    have hkj : k ≠ j := fun z => by rw [z, h0] at hk; cases hk
    by_cases hig : k < g
    · have := o.low k a hig hkj ha
      rw [hp k hig hk] at this
      cases this
    · exact o.high k a (by omega) ha
  refine ⟨E.chg.mono fun a _ _ ⟨i, hi⟩ => sub i a hi, fun i a hl ha => ?_⟩
  by_cases hij : i = j
  · subst hij
    rcases c.obj a ha with rfl | ⟨k, hk, h⟩
    · exact .inl o.mem
    · rcases E.new k a h with (z | z) | ⟨_, k', hk', z⟩
      · exact .inl (o.high k a hk z)
      · exact .inr z
      · exact .inl (un k' a hk' z)
  · obtain ⟨h, hig⟩ := c.low i a hij ha
    rcases E.new i a h with (z | z) | ⟨z, _⟩
    · exact .inl (o.low i a hig hij z)
    · exact .inr z
    · rw [hl] at z; cases z
end
end Sim
namespace Sim
open PySem PySem.Spec L2
section
variable [Tb] {X : Cx} {j g : Nat} {nm : Str} {ns : List Str} {C : Addr} {e : Expr}
end
section
variable [Tb] {P : Program} {w : World} {K : PySem.W.Frag} {mg : Str → Option Value} {base : Heap}
end
section
variable [Tb] {X : Cx} {j g : Nat} {nm : Str} {ns : List Str} {C : Addr} {k : Nat} {f : Addr} {fd : FuncData} {ps : List Str} {fn : Fn} {m : Str} {o e : Expr} {es : List Expr} {ga : AL} {apos pos : Pos}
end
end Sim
namespace Sim
open PySem PySem.Spec L2
section
variable [Tb] [Vs] {X : Cx} {nm : Str} {C : Addr} {k : Nat} {f : Addr} {fd : FuncData} {ps : List Str} {fn : Fn} {x : Str} {e : Expr} {es : List Expr} {ga : AL} {p pos : Pos}
end
section
variable [Tb] {X : Cx} {lk : Nat → Bool} {b g : Nat} {nm : Str} {ns : List Str} {C pp : Addr} {k : Nat} {f : Addr} {fd : FuncData} {ps : List Str} {fn : Fn} {m : Str} {o : Expr} {es : List Expr} {ga : AL} {apos pos : Pos}
end
end Sim
namespace Sim
open PySem PySem.Spec L2
open LamX (TabB TabS Tabs CodeO)
open PyProof.Rows (envOfC)
/-- the heap behind it: as it was, or the table has its code object more -/
structure LamNew [Tb] (X : Cx) (H H1 : Hp) (P c' : Addr) (pos : Pos) : Prop where
  keep : ∀ b o, H b = some o → isTbl o = false → H1 b = some o
  there : ∀ b, H1 b = none → H b = none
  tab : TabsOk H1
  row : ∃ ps, H1 P = some (.tbl ps) ∧ TriplesOk ps.toList ∧ codeAmong pos ps.toList = some (.ref c')
theorem LamNew.chg [Tb] {X : Cx} {H H1 : Hp} {P c' : Addr} {pos : Pos} (n : LamNew X H H1 P c' pos) (Fa : Addr → Prop) : Chg Fa H H1 := ⟨fun a o e c => n.keep a o e (by
  rcases c with c | c
  · exact c.2
  · cases o <;> first | rfl | cases c), n.there, fun _ => n.tab⟩
section
variable [Tb] {X : Cx} {pins : List (Addr × Obj)} {σ : St} {H : Hp} {s : Shared}
end
section
variable {X : Cx} {pins : List (Addr × Obj)} {σ : St} {H HZ : Hp} {s s1 : Shared}
end
end Sim
namespace Sim
open PySem PySem.Spec L2
open LamX (TabB)
open PyProof.Rows (envOfC)
mutual
/-- what holds nothing that may change stays as long as what is frozen stays -/
theorem Own.frzs {K : PySem.W.Frag} {H H' : Hp} (k : ∀ b o u, H b = some (.frz o u) → H' b = some (.frz o u)) : ∀ {d : D} {v : V} {F : List Addr}, Own K H d v F → F = [] → Own K H' d v []
  | _, _, _, .non, _ => .non
  | _, _, _, .bl b, _ => .bl b
  | _, _, _, .int b, _ => .int b
  | _, _, _, .str b, _ => .str b
  | _, _, _, .lst _ _ _, p => by cases p
  | _, _, _, .frz h t, p => .frz (h.imp (fun ⟨o, e⟩ => ⟨o, k _ _ _ e⟩) id) (OwnA.frzs k t rfl)
  | _, _, _, .frd h, _ => .frd (k _ _ _ h)
  | _, _, _, .opq a, _ => .opq a
  | _, _, _, .dct _ _ _, p => by cases p
  | _, _, _, .dcn _ _ _, p => by cases p
  | _, _, _, .ins _ _ _ _, p => by cases p
  | _, _, _, .tup h t, p => .tup (h.imp (fun ⟨o, e, n⟩ => ⟨o, k _ _ _ e, n⟩) id) (OwnA.frzs k t p)
theorem OwnA.frzs {K : PySem.W.Frag} {H H' : Hp} (k : ∀ b o u, H b = some (.frz o u) → H' b = some (.frz o u)) : ∀ {ds : List D} {vs : List V} {F : List Addr}, OwnA K H ds vs F → F = [] → OwnA K H' ds vs []
  | _, _, _, .nil, _ => .nil
  | _, _, _, .cons h t _, p => by
    obtain ⟨p1, p2⟩ := List.append_eq_nil_iff.mp p
    exact .cons0 (Own.frzs k h p1) (OwnA.frzs k t p2)
end
section
variable [Tb] [Vs] {K : PySem.W.Frag} {H H' : Hp} {s : Sg} {σ : St} {Fs : Fp}
end
section
variable [Tb] {b g q : Nat} {p C fa : Addr} {ns : List Str} {K : PySem.W.Frag} {H : Hp} {s : Sg} {σ : St} {Fs : Fp}
end
section
variable [Tb] [Vs] {X : Cx} {lk : Nat → Bool} {g h : S}
end
section
variable [Tb] {X : Cx} {lk : Nat → Bool} {nm m a pn : Str} {ns : List Str} {C gA c P : Addr} {fd : FuncData} {j n k : Nat} {js : List Nat} {hL : O} {gb : (D → Option D) → S} {Ng : List Str} {st : Stmt} {qual : Str} {params : Arguments} {body o : Expr} {scope : Scope} {lpos apos pos pos2 : Pos}
end
end Sim
namespace Sim
open PySem PySem.Spec L2
open LamX (TabB LawAtS)
open PyProof.Rows (envOfC)
section
variable [Tb] {P : Program} {w : World} {K : PySem.W.Frag} {mg : Str → Option Value} {base : Heap}
end
end Sim
namespace Sim
open PySem PySem.Spec L2
section
variable [Tb] {X : Cx} {b g k i q x : Nat} {p C fa : Addr} {ns : List Str} {f gx nx : Str} {e : Expr} {pos pos' p1 : Pos} {lk : Nat → Bool} {pv : Option Nat} {rest : List Stmt} {h : S}
end
end Sim
namespace Sim
open PySem PySem.Spec L2
end Sim
namespace Sim
open PySem PySem.Spec L2
section
variable [Tb] [Vs]
end
section
variable [Tb] {X : Cx} {j g : Nat} {nm : Str} {ns : List Str} {C : Addr} {e : Expr}
end
end Sim
namespace Sim
open PySem PySem.Spec L2
section
variable [Tb] [Vs] {X : Cx} {lk : Nat → Bool}
theorem ss_par3 {i j l : Nat} {x y z : Str} {a b c : Expr} {g : AL} {px py pz pt pos pt2 : Pos} {kt k2 : Nat} (hc : X.calm = true) (hN : X.N.Nodup) (hi : X.N[i]? = some x) (hj : X.N[j]? = some y) (hl : X.N[l]? = some z) (hij : i ≠ j) (hil : i ≠ l) (hjl : j ≠ l)
    (hx : X.env.scope.names.lookup x = some .local) (hy : X.env.scope.names.lookup y = some .local) (hz : X.env.scope.names.lookup z = some .local) (li : lk i = false) (lj : lk j = false) (ll : lk l = false) (ha : SimA X [a, b, c] g)
    (hw : swappedStores [.Tuple [.Name x px, .Name y py, .Name z pz] kt pt] (.Tuple [a, b, c] k2 pt2) X.env = pure (some [x, y, z]) := by rfl)
    (hs : swapsWithSole [.Tuple [.Name x px, .Name y py, .Name z pz] kt pt] (.Tuple [a, b, c] k2 pt2) pos.line X.env = pure false := by rfl) (ki : Vs.ok i := by first | exact trivial | assumption | exact ⟨by decide, by decide⟩) (kj : Vs.ok j := by first | exact trivial | assumption | exact ⟨by decide, by decide⟩) (kl : Vs.ok l := by first | exact trivial | assumption | exact ⟨by decide, by decide⟩) :
    SimS X lk (.Assign [.Tuple [.Name x px, .Name y py, .Name z pz] kt pt] (.Tuple [a, b, c] k2 pt2) pos) (sPar [i, j, l] g) := by
  refine ps_imp (ps_par3 hc hN hi hj hl hij hil hjl hx hy hz ha hw hs) fun D σ H z => ?_
  obtain ⟨s, Fs, fl, s', R, e, q⟩ := z
  obtain ⟨rs, s1, e1, e⟩ := bind_inv e
  refine ⟨s, Fs, rs, s1, R, e1, fun vs H1 Fs1 Gs R1 E1 k1 n1 => ?_⟩
  split at e
  · cases e
  · rename_i ds hds
    split at e
    · rename_i hl
      cases e
      obtain ⟨oa, dj⟩ := k1.own R1 hds
      match ds, hl with
      | [d1, d2, d3], _ =>
        have gf : ∀ a, a ∈ Gs.flatten → H a = none := fun a ha => by
          obtain ⟨G, hG, hb⟩ := List.mem_flatten.mp ha
          exact n1 G hG a hb
        generalize hGf : Gs.flatten = GF at *
        cases oa with
        | @cons v1 _ _ _ F1 F2' o1 t1 nn =>
          cases t1 with
          | @cons v2 _ _ _ F2 F3' o2 t2 nn2 =>
            obtain ⟨v3, rfl, o3⟩ := owna1 t2
            refine ⟨v1, v2, v3, rfl, ?_⟩
            obtain ⟨FsA, RA, nA⟩ := R1.put ⟨o1, fun k a hk ha => dj k a hk (List.mem_append_left _ ha)⟩ i ki
            obtain ⟨FsB, RB, nB⟩ := RA.put ⟨o2, fun k a hk ha => by
              rcases nA k a hk with ⟨w, _⟩ | ⟨w, _⟩
              · exact dj k a w (List.mem_append_right _ (List.mem_append_left _ ha))
              · exact nn a w (List.mem_append_left _ ha)⟩ j kj
            obtain ⟨FsC, RC, nC⟩ := RB.put ⟨o3, fun k a hk ha => by
              rcases nB k a hk with ⟨w, _⟩ | ⟨w, _⟩
              · rcases nA k a w with ⟨w, _⟩ | ⟨w, _⟩
                · exact dj k a w (List.mem_append_right _ (List.mem_append_right _ ha))
                · exact nn a w (List.mem_append_right _ ha)
              · exact nn2 a w ha⟩ l kl
            refine q _ H1 FsC RC ⟨E1.chg, fun k a h => ?_⟩ (((Lk.set li).trans (Lk.set lj)).trans (Lk.set ll))
            rcases nC k a h with ⟨w, _⟩ | ⟨w, _⟩
            · rcases nB k a w with ⟨w, _⟩ | ⟨w, _⟩
              · rcases nA k a w with ⟨w, _⟩ | ⟨w, _⟩
                · exact E1.new k a w
                · exact .inr (gf a (List.mem_append_left _ w))
              · exact .inr (gf a (List.mem_append_right _ (List.mem_append_left _ w)))
            · exact .inr (gf a (List.mem_append_right _ (List.mem_append_right _ w)))
    · cases e
end
end Sim
namespace Sim
open PySem PySem.Spec L2
def stF : D → Option Int → Option Int → Option Int → Option D
  | .dict [(.none, .list ds)], lo, hi, st => if st ≠ some 0 ∧ (pickL ds lo hi st).length ≤ 1000000 then some (.list (pickL ds lo hi st)) else none
  | _, _, _, _ => none
def oStF (g : O) (lo hi st : Option O) : O := fun s => (g s).bind fun r s1 => (prt lo s1).bind fun l s2 => (prt hi s2).bind fun u s3 => (prt st s3).bind fun t s4 => match rd r s4 with
  | none => .bad
  | some d => match stF d l u t with
    | none => .bad
    | some d' => .ok (.val d') s4
theorem stF_inv {d d' : D} {l u t : Option Int} (h : stF d l u t = some d') : ∃ ds, d = .dict [(.none, .list ds)] ∧ d' = .list (pickL ds l u t) ∧ t ≠ some 0 ∧ (pickL ds l u t).length ≤ 1000000 := by
  unfold stF at h
  split at h
  · split at h
    · rename_i hp
      cases h
      exact ⟨_, rfl, rfl, hp⟩
    · cases h
  · cases h
section
variable [Tb] [Vs] {X : Cx} {a : Expr} {ga : O} {pos p2 : Pos}
theorem own_frzS {K : PySem.W.Frag} {H : Hp} {ds : List D} {v : V} {F : List Addr} (o : Own K H (.dict [(.none, .list ds)]) v F) : ∃ a xs, v = .ref a ∧ SqF K H a xs ∧ OwnA K H ds xs [] := by
  cases o with
  | frz h t => exact ⟨_, _, rfl, h, t⟩
theorem so_stepF {lo hi : Option Expr} {st : Expr} {l u t : Option O} (ha : SimO X a ga) (hl : SimP X lo l) (hu : SimP X hi u) (hs : SimP X (some st) t) : SimO X (.Subscript a (.Slice lo hi (some st) p2) pos) (oStF ga l u t) := by
  refine ⟨fun pins s σ H Q I z => ?_⟩
  obtain ⟨sg, Fs, rf, sg', R, e, q⟩ := z
  obtain ⟨r, g1, e1, e⟩ := bind_inv e
  obtain ⟨l', g2, e2, e⟩ := bind_inv e
  obtain ⟨u', g3, e3, e⟩ := bind_inv e
  obtain ⟨t', g4, e4, e⟩ := bind_inv e
  refine PyProof.Rows.Subscript_ (thn (ha.run pins s σ H (fun v H1 => ∃ Fs1 F, RelS X.K H1 g1 σ Fs1 ∧ Ev H Fs H1 Fs1 ∧ RfOk X.K H1 σ Fs1 r v F) I ⟨sg, Fs, r, g1, R, e1, fun v H1 Fs1 F R1 E1 k1 n1 => ⟨Fs1, F, R1, E1, k1⟩⟩) fun v s1 ⟨x, H1, I1, r1, Fs1, F, R1, E1, k1⟩ => ?_)
  refine wpAny_Slice (thn (hl.run pins s1 σ H1 (fun o H2 => o = l' ∧ ∃ Fs2, RelS X.K H2 g2 σ Fs2 ∧ Ev H1 Fs1 H2 Fs2) I1 ⟨g1, Fs1, l', g2, R1, e2, fun H2 Fs2 R2 E2 => ⟨rfl, Fs2, R2, E2⟩⟩) fun vl s2 ⟨o1, H2, I2, pl, eo1, Fs2, R2, E2⟩ => ?_)
  subst eo1
  refine thn (hu.run pins s2 σ H2 (fun o H3 => o = u' ∧ ∃ Fs3, RelS X.K H3 g3 σ Fs3 ∧ Ev H2 Fs2 H3 Fs3) I2 ⟨g2, Fs2, u', g3, R2, e3, fun H3 Fs3 R3 E3 => ⟨rfl, Fs3, R3, E3⟩⟩) fun vu s3 ⟨o2, H3, I3, pu, eo2, Fs3, R3, E3⟩ => ?_
  subst eo2
  refine thn (hs.run pins s3 σ H3 (fun o H4 => o = t' ∧ ∃ Fs4, RelS X.K H4 g4 σ Fs4 ∧ Ev H3 Fs3 H4 Fs4) I3 ⟨g3, Fs3, t', g4, R3, e4, fun H4 Fs4 R4 E4 => ⟨rfl, Fs4, R4, E4⟩⟩) fun vs s4 ⟨o3, H4, I4, ps, eo3, Fs4, R4, E4⟩ => ?_
  subst eo3
  split at e
  · cases e
  · rename_i d hd
    split at e
    · cases e
    · rename_i d' hd'
      cases e
      obtain ⟨F', o⟩ := (((k1.ev E2).ev E3).ev E4).dp R4 hd
      obtain ⟨ds, rfl, rfl, hp⟩ := stF_inv hd'
      · ·
          obtain ⟨ad, xs, rfl, hx, tt⟩ := own_frzS o
          cases r1
          have I5 : Inv X pins σ H4 { s4 with heap := s4.heap.push { cls := .type "slice", data := .fields #[vl, vu, vs] } } := I4.kept (t' := s4.toks) fun b ob q => Heap.get?_push_of_some _ q
          obtain ⟨its, rr, ht, hz⟩ := I5.list hx.sq
          have hlen := rr.length
          show wpAny (model X.prog X.w) X.A (PyProof.Rows.subscriptTail a (.Slice lo hi (some st) p2) (.ref ad) (.ref s4.heap.objs.size)) (EP X pins σ Q) X.xe { s4 with heap := s4.heap.push { cls := .type "slice", data := .fields #[vl, vu, vs] } }
          refine PyProof.Rows.tail_any (ops := [.ref ad, .ref s4.heap.objs.size]) ht.isList.typeIs (PySem.slot_list_getitem.lookup) ?_ (by with_unfolding_all rfl)
          refine wpAny_getItem_list_slice ht.isList (Heap.IsSliceOf.new _ vl vu vs) pl pu ps hp.1 ?_ (by rw [List.size_toArray]; omega)
          have ep : slicePick its.toArray o1 o2 o3 = (pickL its o1 o2 o3).toArray := by
            unfold slicePick pickL
            simp only [List.size_toArray, List.getElem?_toArray]
          have nv : NewV X.K H4 (.list (pickL ds o1 o2 o3)) (.ref (s4.heap.push { cls := .type "slice", data := .fields #[vl, vu, vs] }).objs.size) (upd H4 (s4.heap.push { cls := .type "slice", data := .fields #[vl, vu, vs] }).objs.size (.lst (pickL xs o1 o2 o3))) := by
            refine .lst ?_ (I5.hok.fresh (Nat.le_refl _))
            unfold pickL
            rw [tt.len]
            exact tt.pick _
          obtain ⟨R5, E5, F5, k5, n5⟩ := nv.ok R4
          have lp : (pickL xs o1 o2 o3).length = (pickL ds o1 o2 o3).length := by
            unfold pickL
            rw [tt.len]
            exact (tt.pick _).len
          rw [ep]
          refine ⟨.ref _, _, I5.laid (t' := s4.toks) (o := .lst (pickL xs o1 o2 o3)) (fun b ob q => Heap.get?_push_of_some _ q) (Nat.le_refl _) ?_, rfl, ?_⟩
          · refine ⟨by rw [lp]; exact Nat.le_trans hp.2 big_le, _, 0, ?_, Heap.get?_push_size _ rfl⟩
            unfold pickL
            rw [hlen]
            exact vals_pick rr _
          · have fr := (((E1.trans E2).trans E3).trans E4)
            exact q _ _ Fs4 F5 R5 (fr.trans E5) k5 fun a ha => fr.chg.there a (n5 a ha)
end
/-- the kind of a row, the things told of it -/
def rowK : D → Option (Bool × List D)
  | .list ds => some (true, ds)
  | .tuple ds => some (false, ds)
  | .dict [(.none, .list ds)] => some (true, ds)
  | _ => none
def itZA : List D → Option (List D)
  | [d, e] => match rowK d, rowK e with
    | some (_, ds), some (_, es) => some (zipD ds es)
    | _, _ => none
  | _ => none
section
variable {K : PySem.W.Frag}
theorem rd_row {H : Hp} {k : Bool} {d : D} {ds : List D} {v : V} {F : List Addr} (h : rowK d = some (k, ds)) (o : Own K H d v F) : ∃ a xs G, v = .ref a ∧ Sq2 K H k a xs ∧ OwnA K H ds xs G := by
  unfold rowK at h
  split at h
  · cases h
    obtain ⟨l, vs, F', rfl, _, hl, t, _⟩ := own_list o
    exact ⟨l, vs, F', rfl, SqL.of hl, t⟩
  · cases h
    obtain ⟨a, vs, rfl, hq, t⟩ := own_tup o
    exact ⟨a, vs, _, rfl, hq, t⟩
  · cases h
    cases o with
    | frz h t => exact ⟨_, _, _, rfl, h.sq, t⟩
  · cases h
theorem rd2_row {H : Hp} {k l : Bool} {a b : Addr} {d e : D} {ds es : List D} (hd : rowK d = some (k, ds)) (he : rowK e = some (l, es)) (h : RdA K H [.ref a, .ref b] [d, e]) : ∃ xs ys F G, Sq2 K H k a xs ∧ OwnA K H ds xs F ∧ Sq2 K H l b ys ∧ OwnA K H es ys G := by
  obtain ⟨x, y, F, G, e, o1, o2⟩ := h.two
  cases e
  obtain ⟨a', xs, G1, e1, h1, t1⟩ := rd_row hd o1
  obtain ⟨b', ys, G2, e2, h2, t2⟩ := rd_row he o2
  cases e1
  cases e2
  exact ⟨_, _, _, _, h1, t1, h2, t2⟩
theorem walkD_zA {k l : Bool} {a b : Addr} {d1 d2 : D} {ds es : List D} (h1 : rowK d1 = some (k, ds)) (h2 : rowK d2 = some (l, es)) (p : purs (zipD ds es) = true) : WalkD K (ItzA K k l a b) (fun H2 => RdA K H2 [.ref a, .ref b] [d1, d2]) (zipD ds es) := by
  refine ⟨fun i H hi g => ?_, fun H g => ?_, fun i H x H' hi g y => ?_⟩
  · obtain ⟨xs, ys, F, G, hq, t, hq2, t2⟩ := rd2_row h1 h2 g
    have hl := t.len
    have hl2 := t2.len
    rw [zipD_len] at hi
    exact ⟨xs, ys, xs[i]'(by omega), ys[i]'(by omega), hq, hq2, List.getElem?_eq_getElem _, List.getElem?_eq_getElem _⟩
  · obtain ⟨xs, ys, F, G, hq, t, hq2, t2⟩ := rd2_row h1 h2 g
    have hl := t.len
    have hl2 := t2.len
    rw [zipD_len]
    exact ⟨xs, ys, hq, hq2, by omega⟩
  · obtain ⟨xs, ys, F, G, hq, t, hq2, t2⟩ := rd2_row h1 h2 g
    obtain ⟨T, ob, x', y', rfl, hT, hn, hH, y1, y2⟩ := y
    obtain ⟨d, F1, hd, o1⟩ := t.at0 (y1 xs hq)
    obtain ⟨e, F2, he, o2⟩ := t2.at0 (y2 ys hq2)
    obtain ⟨p1, p2⟩ := purs_zip p hd he
    rw [o1.pur p1] at o1
    rw [o2.pur p2] at o2
    obtain ⟨sm, o3⟩ := pair_own hT hn hH o1 o2
    exact ⟨_, zipD_get ds es i d e hd he, sm, o3⟩
theorem wZA_ok : ∀ (vs : List V) (ds es : List D) (H : Hp) (R : It → Hp → Prop), RdA K H vs ds → itZA ds = some es → purs es = true → (∀ J, WalkD K J (fun H2 => RdA K H2 vs ds) es → R J H) →
    ∃ k l a b xs ys, vs = [.ref a, .ref b] ∧ Sq2 K H k a xs ∧ Sq2 K H l b ys ∧ R (ItzA K k l a b) H := by
  intro vs ds es H R h e p q
  unfold itZA at e
  split at e
  · rename_i d1 d2
    split at e
    · rename_i k xs l ys hk hl
      cases e
      obtain ⟨x, y, F, G, rfl, o1, o2⟩ := h.two
      obtain ⟨a, xs', G1, rfl, h1, t1⟩ := rd_row hk o1
      obtain ⟨b, ys', G2, rfl, h2, t2⟩ := rd_row hl o2
      exact ⟨k, l, a, b, xs', ys', rfl, h1, h2, q _ (walkD_zA hk hl p)⟩
    · cases e
  · cases e
end
section
variable [Tb] [Vs] {X : Cx}
theorem si_zipF {e e2 : Expr} {g : AL} {p pos tpos : Pos} {elts : List Expr} {kk : Nat} (hg : Gl X "zip") (hm : X.mg "zip" = none) (ha : SimA X [e, e2] g)
    (hs : starEach [e, e2] X.env = (false, eval e X.env) :: starEach [e2] X.env := by rfl) (hpl : (backTo pos (starEach [e2] X.env)).any (·.1) = false := by rfl) :
    SimI X (.Tuple elts kk tpos) (.Call (.Name "zip" p) [e, e2] [] pos) (mkI itZA g) :=
  pi_imp (pi_zipA hg hm ha hs hpl) fun σ H R h => mkI_ok h wZA_ok
end
end Sim
namespace Sim
open PySem PySem.Spec PyProof.Rows L2
section
variable {X : Cx}
end
end Sim
namespace Sim
open PySem PySem.Spec PyProof.Rows L2
end Sim
namespace Sim
open PySem PySem.Spec L2
def okR (d : D) : Bool := (match d with | .tuple _ => true | _ => false) && sh d && decide (d.weight ≤ 2 ^ 20) && decide (d.depth ≤ 40)
def pRepr : List D → Option D
  | [d] => if okR d then some (.str d.shown) else none
  | _ => none
def rRepr (K : PySem.W.Frag) : List V → Hp → VK → Prop := fun xs H Q => ∃ v d, xs = [v] ∧ Dp K H v d ∧ okR d = true ∧ Q (.str d.shown) H
section
variable {X : Cx}
theorem call_reprG (hG : X.A.guards = some []) (hu : X.A.units + 64 < cLine) : CallR X (.builtin "repr") (rRepr X.K) := by
  intro pins s σ H xs us Q I r h
  obtain ⟨v, d, rfl, hd, ok, q⟩ := h
  obtain ⟨u, rfl, rx⟩ := vals1 r
  simp only [okR, Bool.and_eq_true, decide_eq_true_eq] at ok
  obtain ⟨⟨⟨ht, hs⟩, hw⟩, hp⟩ := ok
  obtain ⟨as, rd⟩ := Dp.reads I d v u hd rx
  cases d with
  | tuple ds =>
    have hss := sh_show _ hs
    cases hd with
    | tup h1 h2 =>
      cases rx
      refine repr_of_reads' (h₀ := s.heap) rd hss.1 (PyData.noDict_hsm hss.2.1) hG (by omega) (fun b o e => e) (fun h' t tk kp => ?_) (PyData.shown_fits (B := 13) (by decide) (by decide) hss.2.2 hw)
      exact ⟨.str _, H, I.kept (t' := tk) kp, ⟨t, rfl⟩, q⟩
  | _ => cases ht
theorem pr_repr {K : PySem.W.Frag} : PrimR K (rRepr K) pRepr := by
  intro vs ds d H Q h e q
  unfold pRepr at e
  split at e
  · obtain ⟨x, F, rfl, o⟩ := h.one
    split at e
    · rename_i ok
      cases e
      have hs := ok
      simp only [okR, Bool.and_eq_true, decide_eq_true_eq] at hs
      exact ⟨x, _, rfl, o.dp (sh_noD _ hs.1.1.2), ok, q _ _ (NewV.sc (.str _))⟩
    · cases e
  · cases e
end
end Sim
namespace Sim
open PySem PySem.Spec L2
open PyProof.Rows hiding St
section
variable {X : Cx} {pins : List (Addr × Obj)} {σ : St} {H : Hp} {s : Shared}
def rListDN (K : PySem.W.Frag) : List V → Hp → VK → Prop := fun vs H Q => ∃ a es od, vs = [V.ref a] ∧ DN K H a es od ∧
  ∀ p, H p = none → Q (.ref p) (upd H p (.lst (es.map fun e => V.ref e.2.1)))
theorem cr_listN (hc : X.calm = true) : CallR X (.type "list") (rListDN X.K) := by
  intro pins s σ H vs us Q I r h
  obtain ⟨a, es, od, rfl, hd, q⟩ := h
  rw [Vals.ref1 r]
  obtain ⟨z, hs, ho, hx, ents, ep, hdat, hsz, hent⟩ := rawR I hd.at_
  have rv := vals_keys es
  refine PySem.W.kdl_call (kdl_raw hs hx hdat) (I.ok.hd hc) ho (by rw [hsz]; exact z) fun h' tk acc c' kp e it => ?_
  have ea : acc.toList = es.map fun e => Value.ref e.2.1 := by
    obtain ⟨hn, hi⟩ := it
    refine List.ext_getElem (by rw [Array.length_toList, List.length_map, hn, hsz]) fun i h1 h2 => ?_
    have h3 : i < acc.size := by rw [Array.length_toList] at h1; exact h1
    obtain ⟨en, hi', e⟩ := hi i acc[i] (Array.getElem?_eq_getElem h3)
    have h4 : i < es.length := by rw [List.length_map] at h2; exact h2
    have h5 : i < ents.size := by rw [hsz]; exact h4
    rw [Array.getElem?_eq_getElem h5] at hi'
    cases hi'
    rw [Array.getElem_toList, List.getElem_map, e]
    exact (hent i h5 es[i] (List.getElem?_eq_getElem h4)).1
  have rv2 : Vals (es.map fun e => V.ref e.2.1) acc.toList := by rw [ea]; exact rv
  refine ⟨.ref s.heap.objs.size, _, I.laid (t' := tk) (o := .lst (es.map fun e => V.ref e.2.1)) kp (Nat.le_refl _) ?_, rfl, q _ (I.hok.fresh (Nat.le_refl _))⟩
  exact ⟨by rw [List.length_map]; exact z, acc.toList, c', rv2, by rw [Array.toArray_toList]; exact e⟩
end
def pListN : List D → Option D
  | [d] => (unN d).map fun l => .list (l.map fun p => nkD p.1)
  | _ => none
theorem pr_listN {K : PySem.W.Frag} : PrimR K (rListDN K) pListN := by
  intro vs ds d H Q h e q
  unfold pListN at e
  split at e
  · obtain ⟨x, F, rfl, o1⟩ := h.one
    obtain ⟨l, el, e⟩ := Option.map_eq_some_iff.mp e
    subst e
    obtain ⟨a, es, od, rfl, _, hd, h1, h2⟩ := own_N o1 el
    refine ⟨a, es, od, rfl, hd, fun p hp => ?_⟩
    have ky := hd.keys
    rw [ns_map h1] at ky
    exact q _ _ (.lst ky hp)
  · cases e
end Sim
namespace Sim
open PySem PySem.Spec L2
abbrev Pt := List (Option D)
def gtP : Pt → Nat → Option D
  | [], _ => none
  | o :: _, 0 => o
  | _ :: p, n + 1 => gtP p n
def stP : Pt → Nat → Option D → Pt
  | [], _, _ => []
  | _ :: p, 0, o => o :: p
  | q :: p, n + 1, o => q :: stP p n o
structure Mt (p : Pt) (s : Sg) : Prop where
  len : p.length = s.length
  has : ∀ i d, gtP p i = some d → s[i]? = some (some d)
structure Wk (q p : Pt) : Prop where
  len : q.length = p.length
  has : ∀ i d, gtP q i = some d → gtP p i = some d
theorem stP_len : ∀ (p : Pt) (i : Nat) (o : Option D), (stP p i o).length = p.length
  | [], _, _ => rfl
  | _ :: _, 0, _ => rfl
  | _ :: p, i + 1, o => congrArg (· + 1) (stP_len p i o)
theorem gtP_stP : ∀ (p : Pt) (i j : Nat) (o : Option D), gtP (stP p i o) j = if i = j ∧ i < p.length then o else gtP p j
  | [], i, j, o => by rw [if_neg (by simp)]; rfl
  | a :: p, 0, 0, o => by simp [stP, gtP]
  | a :: p, 0, j + 1, o => by simp [stP, gtP]
  | a :: p, i + 1, 0, o => by simp [stP, gtP]
  | a :: p, i + 1, j + 1, o => by
    show gtP (stP p i o) j = _
    rw [gtP_stP p i j o]
    simp [gtP]
theorem Mt.get {p : Pt} {s : Sg} (h : Mt p s) {i : Nat} {d : D} (e : gtP p i = some d) : (s[i]?).join = some d := by rw [h.has i d e]; rfl
theorem Mt.put {p : Pt} {s : Sg} (h : Mt p s) (i : Nat) (d : D) : Mt (stP p i (some d)) (s.set i (some d)) := by
  refine ⟨by rw [stP_len, List.length_set, h.len], fun j e hj => ?_⟩
  rw [gtP_stP] at hj
  rw [List.getElem?_set]
  by_cases c : i = j
  · subst c
    by_cases c2 : i < p.length
    · rw [if_pos ⟨rfl, c2⟩] at hj
      rw [if_pos rfl, if_pos (by rw [← h.len]; exact c2), hj]
    · rw [if_neg (by simp [c2])] at hj
      have := h.has i e hj
      rw [List.getElem?_eq_none (by rw [← h.len]; omega)] at this
      cases this
  · rw [if_neg (by simp [c])] at hj
    rw [if_neg c]
    exact h.has j e hj
theorem Mt.off {p : Pt} {s : Sg} (h : Mt p s) (i : Nat) (o : Option D) : Mt (stP p i none) (s.set i o) := by
  refine ⟨by rw [stP_len, List.length_set, h.len], fun j e hj => ?_⟩
  rw [gtP_stP] at hj
  rw [List.getElem?_set]
  by_cases c : i = j
  · subst c
    by_cases c2 : i < p.length
    · rw [if_pos ⟨rfl, c2⟩] at hj; cases hj
    · rw [if_neg (by simp [c2])] at hj
      have := h.has i e hj
      rw [List.getElem?_eq_none (by rw [← h.len]; omega)] at this
      cases this
  · rw [if_neg (by simp [c])] at hj
    rw [if_neg c]
    exact h.has j e hj
theorem Mt.wk {q p : Pt} {s : Sg} (h : Mt p s) (w : Wk q p) : Mt q s := ⟨w.len.trans h.len, fun i d e => h.has i d (w.has i d e)⟩
theorem Mt.refl (s : Sg) : Mt s s := by
  refine ⟨rfl, fun i d e => ?_⟩
  induction s generalizing i with
  | nil => cases e
  | cons o s ih =>
    cases i with
    | zero => have e : o = some d := e; rw [e]; rfl
    | succ i => rw [List.getElem?_cons_succ]; exact ih i e
theorem wk_nil : Wk [] [] := ⟨rfl, fun _ _ e => by cases e⟩
theorem wk_a {q p : Pt} {o : Option D} (h : Wk q p) : Wk (none :: q) (o :: p) := ⟨congrArg (· + 1) h.len, fun i d e => by
  cases i with
  | zero => cases e
  | succ i => exact h.has i d e⟩
theorem wk_s {q p : Pt} {o : Option D} (h : Wk q p) : Wk (o :: q) (o :: p) := ⟨congrArg (· + 1) h.len, fun i d e => by
  cases i with
  | zero => exact e
  | succ i => exact h.has i d e⟩
theorem Wk.refl (p : Pt) : Wk p p := ⟨rfl, fun _ _ e => e⟩
abbrev eI : Int → D := PyData.int
abbrev eB : Bool → D := PyData.bool
def eL {α : Type} (e : α → D) (xs : List α) : D := .list (xs.map e)
def eT {α : Type} (e : α → D) (xs : List α) : D := .tuple (xs.map e)
def eZ (xs : List Int) : D := .dict [(.none, .list (xs.map .int))]
def eP {α β : Type} (a : α → D) (b : β → D) (x : α × β) : D := .tuple [a x.1, b x.2]
def eQ {α β γ : Type} (a : α → D) (b : β → D) (c : γ → D) (x : α × β × γ) : D := .tuple [a x.1, b x.2.1, c x.2.2]
def eO {α : Type} (e : α → D) : Option α → D
  | none => PyData.none
  | some x => e x
/-- nothing in it changes -/
def Pu {α : Type} (e : α → D) : Prop := ∀ x, pur (e x) = true
theorem puI : Pu eI := fun _ => rfl
theorem puB : Pu eB := fun _ => rfl
theorem puZ : Pu eZ := fun xs => pur_frz _
theorem purs_pu {α : Type} {e : α → D} (h : Pu e) : ∀ xs : List α, purs (xs.map e) = true
  | [] => rfl
  | x :: xs => by rw [List.map_cons, purs_cons, h x, purs_pu h xs]; rfl
theorem puT {α : Type} {e : α → D} (h : Pu e) : Pu (eT e) := fun xs => by rw [eT, pur_tuple, purs_pu h]
theorem puP {α β : Type} {a : α → D} {b : β → D} (h : Pu a) (h2 : Pu b) : Pu (eP a b) := fun x => by rw [eP, pur_tuple, purs_cons, purs_cons, h, h2]; rfl
theorem puQ {α β γ : Type} {a : α → D} {b : β → D} {c : γ → D} (h : Pu a) (h2 : Pu b) (h3 : Pu c) : Pu (eQ a b c) := fun x => by rw [eQ, pur_tuple, purs_cons, purs_cons, purs_cons, h, h2, h3]; rfl
theorem puO' {α : Type} {e : α → D} (h : Pu e) : Pu (eO e) := fun x => by
  cases x with
  | none => rfl
  | some x => exact h x
def Rd (vl : Bool) (p : Pt) (r : Rf) (d : D) : Prop := r = .val d ∨ (vl = false ∧ ∃ i, r = .slot i ∧ gtP p i = some d)
section
variable {α β δ γ : Type}
theorem Rd.rd {vl : Bool} {p : Pt} {r : Rf} {d : D} {s : Sg} (h : Rd vl p r d) (m : Mt p s) : rd r s = some d := by
  rcases h with rfl | ⟨_, i, rfl, e⟩
  · rfl
  · exact m.get e
theorem Rd.own {vl : Bool} {p : Pt} {r : Rf} {d : D} {s : Sg} (h : Rd vl p r d) (m : Mt p s) (c : vl = true ∨ pur d = true) : own r s = some d := by
  rcases h with rfl | ⟨e0, i, rfl, e⟩
  · rfl
  · rcases c with c | c
    · rw [e0] at c; cases c
    · rw [own_slot, m.get e, ownK_some, if_pos c]
def X (vl : Bool) (p : Pt) (g : O) (v : α → D) (q : α → Pt) (F : (α → Option γ) → Option γ) : Prop :=
  ∀ k z, F k = some z → ∃ x, k x = some z ∧ ∀ s, Mt p s → ∃ r s', g s = .ok r s' ∧ Mt (q x) s' ∧ Rd vl (q x) r (v x)
theorem x_var {p : Pt} (i : Nat) {d : D} (h : gtP p i = some d) : X (γ := γ) false p (oV i) (fun _ : Unit => d) (fun _ => p) (fun k => k ()) :=
  fun k z e => ⟨(), e, fun s m => ⟨.slot i, s, by rw [ev_oV, m.get h, ev_oVK], m, .inr ⟨rfl, i, rfl, h⟩⟩⟩
theorem x_c {p : Pt} (d : D) : X (γ := γ) true p (oC d) (fun _ : Unit => d) (fun _ => p) (fun k => k ()) :=
  fun k z e => ⟨(), e, fun s m => ⟨.val d, s, rfl, m, .inl rfl⟩⟩
theorem X.up {p : Pt} {g : O} {v : α → D} {q : α → Pt} {F : (α → Option γ) → Option γ} {vl : Bool} (h : X vl p g v q F) : X false p g v q F := fun k z e => by
  obtain ⟨x, e1, h⟩ := h k z e
  refine ⟨x, e1, fun s m => ?_⟩
  obtain ⟨r, s', h1, h2, h3⟩ := h s m
  exact ⟨r, s', h1, h2, h3.imp id fun h => ⟨rfl, h.2⟩⟩
/-- told otherwise: the same value by another name -/
theorem X.as {p : Pt} {g : O} {v : α → D} {q : α → Pt} {F : (α → Option γ) → Option γ} {vl : Bool} (h : X vl p g v q F) (v' : α → D) (e : v = v') : X vl p g v' q F := e ▸ h
inductive AK where
  | v | s (i : Nat)
def Rk (p : Pt) : List AK → List Rf → List D → Prop
  | [], [], [] => True
  | .v :: ks, r :: rs, d :: ds => (Rd false p r d ∧ (r = .val d ∨ pur d = true)) ∧ Rk p ks rs ds
  | .s i :: ks, r :: rs, d :: ds => (r = .slot i ∧ gtP p i = some d ∧ pur d = false) ∧ Rk p ks rs ds
  | _, _, _ => False
theorem Rk.rds {p : Pt} {s : Sg} (m : Mt p s) : ∀ {ks : List AK} {rs : List Rf} {ds : List D}, Rk p ks rs ds → rds rs s = some ds
  | [], [], [], _ => rfl
  | .v :: ks, r :: rs, d :: ds, h => by rw [rds_cons, h.1.1.rd m, Rk.rds m h.2]; rfl
  | .s i :: ks, r :: rs, d :: ds, h => by rw [rds_cons, h.1.1, rd_slot, m.get h.1.2.1, Rk.rds m h.2]; rfl
theorem Rk.owns {p : Pt} {s : Sg} (m : Mt p s) : ∀ {ks : List AK} {rs : List Rf} {ds : List D}, Rk p ks rs ds → (∀ k ∈ ks, k = .v) → owns rs s = some ds
  | [], [], [], _, _ => rfl
  | .v :: ks, r :: rs, d :: ds, h, a => by
    have o : own r s = some d := by
      rcases h.1.2 with z | z
      · rw [z]; rfl
      · exact h.1.1.own m (.inr z)
    rw [owns_cons, o, Rk.owns m h.2 fun k hk => a k (List.mem_cons_of_mem _ hk)]; rfl
  | .s i :: ks, r :: rs, d :: ds, h, a => by have := a _ (List.mem_cons_self ..); cases this
def kl : List AK → List D → List (Nat × D)
  | .s i :: ks, d :: ds => (i, d) :: kl ks ds
  | .v :: ks, _ :: ds => kl ks ds
  | _, _ => []
theorem Rk.lks {p : Pt} : ∀ {ks : List AK} {rs : List Rf} {ds : List D}, Rk p ks rs ds → lks rs ds = kl ks ds
  | [], [], [], _ => rfl
  | .v :: ks, r :: rs, d :: ds, h => by
    cases r with
    | val x => rw [lks_val, Rk.lks h.2]; rfl
    | slot i =>
      rcases h.1.2 with z | z
      · cases z
      · rw [lks_slot, if_pos z, Rk.lks h.2]; rfl
  | .s i :: ks, r :: rs, d :: ds, h => by
    rw [h.1.1, lks_slot, if_neg (by rw [h.1.2.2]; simp), Rk.lks h.2]; rfl
theorem Rk.lkz {p : Pt} : ∀ {ks : List AK} {rs : List Rf} {ds as : List D}, Rk p ks rs ds → as.length = ds.length → lkz rs ds as = kl ks as
  | [], [], [], [], _, _ => rfl
  | .v :: ks, r :: rs, d :: ds, a :: as, h, l => by
    have l : as.length = ds.length := by simpa using l
    cases r with
    | val x => rw [lkz_val, Rk.lkz h.2 l]; rfl
    | slot i =>
      rcases h.1.2 with z | z
      · cases z
      · rw [lkz_slot, if_pos z, Rk.lkz h.2 l]; rfl
  | .s i :: ks, r :: rs, d :: ds, a :: as, h, l => by
    have l : as.length = ds.length := by simpa using l
    rw [h.1.1, lkz_slot, if_neg (by rw [h.1.2.2]; simp), Rk.lkz h.2 l]; rfl
def AK.isV : AK → Bool
  | .v => true
  | .s _ => false
theorem kv {ks : List AK} (h : ks.all AK.isV = true) : ∀ k ∈ ks, k = .v := fun k hk => by
  have := List.all_eq_true.mp h k hk
  cases k with
  | v => rfl
  | s i => cases this
theorem Rk.len {p : Pt} : ∀ {ks : List AK} {rs : List Rf} {ds : List D}, Rk p ks rs ds → ds.length = ks.length
  | [], [], [], _ => rfl
  | .v :: ks, r :: rs, d :: ds, h => congrArg (· + 1) (Rk.len h.2)
  | .s i :: ks, r :: rs, d :: ds, h => congrArg (· + 1) (Rk.len h.2)
def XA (p : Pt) (gs : AL) (ks : List AK) (vs : α → List D) (q : α → Pt) (F : (α → Option γ) → Option γ) : Prop :=
  ∀ k z, F k = some z → ∃ x, k x = some z ∧ ∀ s, Mt p s → ∃ rs s', gs s = .ok rs s' ∧ Mt (q x) s' ∧ Rk (q x) ks rs (vs x)
theorem xa_nil {p : Pt} : XA (γ := γ) p aNil [] (fun _ : Unit => []) (fun _ => p) (fun k => k ()) :=
  fun k z e => ⟨(), e, fun s m => ⟨[], s, rfl, m, trivial⟩⟩
section
variable {p : Pt} {g : O} {gs : AL} {v : α → D} {q : α → Pt} {F : (α → Option γ) → Option γ} {vl : Bool}
  {ks : List AK} {vs : α → β → List D} {q2 : α → β → Pt} {F2 : α → (β → Option γ) → Option γ}
/-- a value ahead of more -/
theorem xa_v (h : X true p g v q F) (h2 : ∀ x, XA (q x) gs ks (vs x) (q2 x) (F2 x)) :
    XA p (aCons g gs) (.v :: ks) (fun w : α × β => v w.1 :: vs w.1 w.2) (fun w => q2 w.1 w.2) (fun k => F fun x => F2 x fun y => k (x, y)) := fun k z e => by
  obtain ⟨x, e1, h⟩ := h _ z e
  obtain ⟨y, e2, h2⟩ := h2 x _ z e1
  refine ⟨(x, y), e2, fun s m => ?_⟩
  obtain ⟨r, s1, a1, a2, a3⟩ := h s m
  obtain ⟨rs, s2, b1, b2, b3⟩ := h2 s1 a2
  have a3 : r = .val (v x) := by
    rcases a3 with a3 | ⟨a3, _⟩
    · exact a3
    · cases a3
  refine ⟨r :: rs, s2, by rw [ev_aCons, a1, ev_ok, ev_consK, b1, ev_ok, ev_consK2], b2, ⟨.inl a3, .inl a3⟩, b3⟩
/-- what never changes, ahead of what changes nothing -/
theorem xa_p {vs : α → β → List D} (h : X vl p g v q F) (hp : ∀ x, pur (v x) = true) (h2 : ∀ x, XA (q x) gs ks (vs x) (fun _ => q x) (F2 x)) :
    XA p (aCons g gs) (.v :: ks) (fun w : α × β => v w.1 :: vs w.1 w.2) (fun w => q w.1) (fun k => F fun x => F2 x fun y => k (x, y)) := fun k z e => by
  obtain ⟨x, e1, h⟩ := h _ z e
  obtain ⟨y, e2, h2⟩ := h2 x _ z e1
  refine ⟨(x, y), e2, fun s m => ?_⟩
  obtain ⟨r, s1, a1, a2, a3⟩ := h s m
  obtain ⟨rs, s2, b1, b2, b3⟩ := h2 s1 a2
  exact ⟨r :: rs, s2, by rw [ev_aCons, a1, ev_ok, ev_consK, b1, ev_ok, ev_consK2], b2, ⟨a3.imp id fun z => ⟨rfl, z.2⟩, .inr (hp x)⟩, b3⟩
/-- a name that keeps what never changes, ahead of anything -/
theorem xa_n {vs : β → List D} {q2 : β → Pt} {F2 : (β → Option γ) → Option γ} (i : Nat) {d : D} (h0 : gtP p i = some d) (h2 : XA p gs ks vs q2 F2) (h1 : ∀ y, gtP (q2 y) i = some d) (hp : pur d = true) :
    XA p (aCons (oV i) gs) (.v :: ks) (fun w : β => d :: vs w) (fun w => q2 w) F2 := fun k z e => by
  obtain ⟨y, e2, h2⟩ := h2 _ z e
  refine ⟨y, e2, fun s m => ?_⟩
  obtain ⟨rs, s2, b1, b2, b3⟩ := h2 s m
  exact ⟨.slot i :: rs, s2, by rw [ev_aCons, ev_oV, m.get h0, ev_oVK, ev_ok, ev_consK, b1, ev_ok, ev_consK2], b2, ⟨.inr ⟨rfl, i, rfl, h1 y⟩, .inr hp⟩, b3⟩
/-- a name of a list -/
theorem xa_s {vs : β → List D} {q2 : β → Pt} {F2 : (β → Option γ) → Option γ} {d : β → D} {d0 : D} (i : Nat) (h0 : gtP p i = some d0) (h2 : XA p gs ks vs q2 F2) (h1 : ∀ y, gtP (q2 y) i = some (d y)) (hp : ∀ y, pur (d y) = false) :
    XA p (aCons (oV i) gs) (.s i :: ks) (fun w : β => d w :: vs w) (fun w => q2 w) F2 := fun k z e => by
  obtain ⟨y, e2, h2⟩ := h2 _ z e
  refine ⟨y, e2, fun s m => ?_⟩
  obtain ⟨rs, s2, b1, b2, b3⟩ := h2 s m
  exact ⟨.slot i :: rs, s2, by rw [ev_aCons, ev_oV, m.get h0, ev_oVK, ev_ok, ev_consK, b1, ev_ok, ev_consK2], b2, ⟨rfl, h1 y, hp y⟩, b3⟩
end
section
variable {p : Pt} {gs : AL} {q : α → Pt} {F : (α → Option γ) → Option γ} {ks : List AK} {vs : α → List D}
theorem x_prim {f : List D → Option D} {m : α → Option β} {rv : α → β → D} (h : XA p gs ks vs q F) (hf : ∀ x z, m x = some z → f (vs x) = some (rv x z)) :
    X true p (oPrim f gs) (fun w : α × β => rv w.1 w.2) (fun w => q w.1) (fun k => F fun x => (m x).bind fun z => k (x, z)) := fun k z e => by
  obtain ⟨x, e1, h⟩ := h _ z e
  obtain ⟨y, e2, e3⟩ := Option.bind_eq_some_iff.mp e1
  refine ⟨(x, y), e3, fun s mm => ?_⟩
  obtain ⟨rs, s2, b1, b2, b3⟩ := h s mm
  exact ⟨.val (rv x y), s2, by rw [ev_prim, b1, ev_ok, ev_primK, b3.rds b2, ev_primK2, hf x y e2, ev_primK3], b2, .inl rfl⟩
theorem x_primT {f : List D → Option D} {rv : α → D} (h : XA p gs ks vs q F) (hf : ∀ x, f (vs x) = some (rv x)) :
    X true p (oPrim f gs) rv q F := fun k z e => by
  obtain ⟨x, e1, h⟩ := h _ z e
  refine ⟨x, e1, fun s mm => ?_⟩
  obtain ⟨rs, s2, b1, b2, b3⟩ := h s mm
  exact ⟨.val (rv x), s2, by rw [ev_prim, b1, ev_ok, ev_primK, b3.rds b2, ev_primK2, hf x, ev_primK3], b2, .inl rfl⟩
theorem x_tup (h : XA p gs ks vs q F) (hk : ks.all AK.isV = true) (hl : ks.length ≤ 1000000) : X true p (oTup gs) (fun x => .tuple (vs x)) q F := fun k z e => by
  obtain ⟨x, e1, h⟩ := h _ z e
  refine ⟨x, e1, fun s mm => ?_⟩
  obtain ⟨rs, s2, b1, b2, b3⟩ := h s mm
  exact ⟨.val (.tuple (vs x)), s2, by rw [ev_oTup, b1, ev_ok, ev_tupK, b3.owns b2 (kv hk), ev_tupK2, if_pos (by rw [b3.len]; exact hl)], b2, .inl rfl⟩
theorem x_lst (h : XA p gs ks vs q F) (hk : ks.all AK.isV = true) (hl : ks.length ≤ 1000000) : X true p (oLst gs) (fun x => .list (vs x)) q F := fun k z e => by
  obtain ⟨x, e1, h⟩ := h _ z e
  refine ⟨x, e1, fun s mm => ?_⟩
  obtain ⟨rs, s2, b1, b2, b3⟩ := h s mm
  exact ⟨.val (.list (vs x)), s2, by rw [ev_oLst, b1, ev_ok, ev_lstK, b3.owns b2 (kv hk), ev_lstK2, if_pos (by rw [b3.len]; exact hl)], b2, .inl rfl⟩
def lkP : List (Nat × D) → Pt → Pt
  | [], p => p
  | a :: l, p => lkP l (stP p a.1 none)
def ulP : List (Nat × D) → Pt → Pt
  | [], p => p
  | a :: l, p => ulP l (stP p a.1 (some a.2))
theorem Mt.lk : ∀ (l : List (Nat × D)) {p : Pt} {s : Sg}, Mt p s → Mt (lkP l p) (lockS l s)
  | [], _, _, h => h
  | a :: l, _, _, h => by rw [lockS_cons]; exact Mt.lk l (h.off a.1 none)
theorem Mt.ul : ∀ (l : List (Nat × D)) {p : Pt} {s : Sg}, Mt p s → Mt (ulP l p) (unlockS l s)
  | [], _, _, h => h
  | a :: l, _, _, h => by rw [unlockS_cons]; exact Mt.ul l (h.put a.1 a.2)
def kn : List AK → List Nat
  | [] => []
  | .s i :: ks => i :: kn ks
  | .v :: ks => kn ks
theorem kl_kn : ∀ (ks : List AK) (ds : List D), ds.length = ks.length → (kl ks ds).map (·.1) = kn ks
  | [], [], _ => rfl
  | .v :: ks, d :: ds, h1 => kl_kn ks ds (by simpa using h1)
  | .s i :: ks, d :: ds, h1 => by
    have := kl_kn ks ds (by simpa using h1)
    simp [kl, kn, this]
theorem ul_go : ∀ (L : List (Nat × D)) (p : Pt) (s : Sg), p.length = s.length → (∀ i d, gtP p i = some d → i ∈ L.map (·.1) ∨ s[i]? = some (some d)) → Mt (ulP L p) (unlockS L s)
  | [], p, s, l, h => ⟨l, fun i d e => (h i d e).elim (fun z => by cases z) id⟩
  | a :: L, p, s, l, h => by
    rw [unlockS_cons]
    refine ul_go L _ _ (by rw [stP_len, List.length_set, l]) fun i d e => ?_
    rw [gtP_stP] at e
    rw [List.getElem?_set]
    by_cases c : a.1 = i
    · right
      by_cases c2 : a.1 < p.length
      · rw [if_pos ⟨c, c2⟩] at e
        rw [if_pos c, if_pos (by omega), e]
      · rw [if_neg (by simp [c2])] at e
        exact absurd (by have : ∀ (p : Pt) (i : Nat) (d : D), gtP p i = some d → i < p.length := by
                            intro p
                            induction p with
                            | nil => intro i d h; cases h
                            | cons o p ih =>
                              intro i d h
                              cases i with
                              | zero => exact Nat.zero_lt_succ _
                              | succ i => exact Nat.succ_lt_succ (ih i d h)
                         rw [c]; exact this p i d e) c2
    · rw [if_neg (by simp [c])] at e
      rw [if_neg c]
      rcases h i d e with z | z
      · rw [List.map_cons] at z
        rcases List.mem_cons.mp z with z | z
        · exact absurd z.symm c
        · exact .inl z
      · exact .inr z
/-- a call: m is what the callee tells, its arguments as they are then -/
theorem x_call {f : Fn} {m : α → Option β} {rv : α → β → D} {as : α → β → List D} (h : XA p gs ks vs q F) (hn : nodupB (kn ks) = true)
    (hf : ∀ x z, m x = some z → f (vs x) = .ok (rv x z) (as x z)) (hl : ∀ x z, (as x z).length = (vs x).length) (L : α → β → List (Nat × D)) (hL : ∀ x z, kl ks (as x z) = L x z) :
    X true p (oCall f gs) (fun w : α × β => rv w.1 w.2) (fun w => ulP (L w.1 w.2) (q w.1)) (fun k => F fun x => (m x).bind fun z => k (x, z)) := fun k z e => by
  obtain ⟨x, e1, h⟩ := h _ z e
  obtain ⟨y, e2, e3⟩ := Option.bind_eq_some_iff.mp e1
  refine ⟨(x, y), e3, fun s mm => ?_⟩
  obtain ⟨rs, s2, b1, b2, b3⟩ := h s mm
  refine ⟨.val (rv x y), _, oCall_ok b1 (b3.rds b2) (by rw [b3.lks, kl_kn _ _ b3.len, hn]) (hf x y e2), ?_, .inl rfl⟩
  rw [b3.lks, b3.lkz (hl x y), hL]
  have ll : ∀ (L : List (Nat × D)) (s : Sg), (lockS L s).length = s.length := by
    intro L
    induction L with
    | nil => intro s; rfl
    | cons a L ih => intro s; rw [lockS_cons, ih, List.length_set]
  refine ul_go _ _ _ (by rw [ll, b2.len]) fun i d e => ?_
  by_cases c : i ∈ (L x y).map (·.1)
  · exact .inl c
  · right
    have k1 : (L x y).map (·.1) = kn ks := by rw [← hL, kl_kn _ _ (by rw [hl, b3.len])]
    have k2 : (kl ks (vs x)).map (·.1) = kn ks := kl_kn _ _ b3.len
    have lg : ∀ (L : List (Nat × D)) (s : Sg), i ∉ L.map (·.1) → (lockS L s)[i]? = s[i]? := by
      intro L
      induction L with
      | nil => intro s _; rfl
      | cons a L ih =>
        intro s h
        rw [List.map_cons] at h
        rw [lockS_cons, ih _ (fun z => h (List.mem_cons_of_mem _ z)), List.getElem?_set, if_neg (fun z => h (by rw [← z]; exact List.mem_cons_self ..))]
    rw [lg _ _ (by rw [k2, ← k1]; exact c)]
    exact b2.has i d e
/-- a call by which no list changes -/
theorem x_callP {f : Fn} {m : α → Option β} {rv : α → β → D} (h : XA p gs ks vs q F) (hn : nodupB (kn ks) = true)
    (hf : ∀ x z, m x = some z → f (vs x) = .ok (rv x z) (vs x)) :
    X true p (oCall f gs) (fun w : α × β => rv w.1 w.2) (fun w => q w.1) (fun k => F fun x => (m x).bind fun z => k (x, z)) := fun k z e => by
  obtain ⟨x, e1, h⟩ := h _ z e
  obtain ⟨y, e2, e3⟩ := Option.bind_eq_some_iff.mp e1
  refine ⟨(x, y), e3, fun s mm => ?_⟩
  obtain ⟨rs, s2, b1, b2, b3⟩ := h s mm
  refine ⟨.val (rv x y), _, oCall_ok b1 (b3.rds b2) (by rw [b3.lks, kl_kn _ _ b3.len, hn]) (hf x y e2), ?_, .inl rfl⟩
  rw [b3.lks, b3.lkz rfl]
  have key : ∀ (ks : List AK) (rs : List Rf) (ds : List D), Rk (q x) ks rs ds → ∀ i d, (i, d) ∈ kl ks ds → gtP (q x) i = some d := by
    intro ks
    induction ks with
    | nil => intro rs ds h i d hm; cases ds <;> simp [kl] at hm
    | cons a ks ih =>
      intro rs ds h i d hm
      cases a with
      | v =>
        cases rs with
        | nil => cases ds <;> exact h.elim
        | cons r rs => cases ds with
          | nil => exact h.elim
          | cons e ds => exact ih rs ds h.2 i d hm
      | s j =>
        cases rs with
        | nil => cases ds <;> exact h.elim
        | cons r rs => cases ds with
          | nil => exact h.elim
          | cons e ds =>
            rcases List.mem_cons.mp hm with z | z
            · cases z; exact h.1.2.1
            · exact ih rs ds h.2 i d z
  have kk := key ks rs (vs x) b3
  generalize kl ks (vs x) = L at kk
  clear key
  -- what is closed and opened again is as it was
  have go : ∀ (L : List (Nat × D)), (∀ i d, (i, d) ∈ L → gtP (q x) i = some d) → ∀ s', s'.length = (q x).length → (∀ i d, gtP (q x) i = some d → (i, d) ∈ L ∨ s'[i]? = some (some d)) → Mt (q x) (unlockS L s') := by
    intro L
    induction L with
    | nil => intro _ s' hl h; exact ⟨hl.symm, fun i d e => (h i d e).elim (fun z => by cases z) id⟩
    | cons a L ih =>
      intro hk s' hl h
      rw [unlockS_cons]
      refine ih (fun i d z => hk i d (List.mem_cons_of_mem _ z)) _ (by rw [List.length_set, hl]) fun i d e => ?_
      have ha := hk a.1 a.2 (List.mem_cons_self ..)
      rw [List.getElem?_set]
      by_cases c : a.1 = i
      · rw [if_pos c]
        rw [c, e] at ha
        cases ha
        have : i < s'.length := by
          have := b2.has i a.2 e
          have l2 := b2.len
          rcases Nat.lt_or_ge i s'.length with z | z
          · exact z
          · rw [List.getElem?_eq_none (by omega)] at this; cases this
        right
        rw [if_pos (by omega)]
      · rw [if_neg c]
        rcases h i d e with z | z
        · rcases List.mem_cons.mp z with z | z
          · exact absurd (by rw [← z]) c
          · exact .inl z
        · exact .inr z
  refine go L kk _ ?_ fun i d e => ?_
  · have : ∀ (L : List (Nat × D)) (s : Sg), (lockS L s).length = s.length := by
      intro L
      induction L with
      | nil => intro s; rfl
      | cons a L ih => intro s; rw [lockS_cons, ih, List.length_set]
    rw [this, b2.len]
  · have : ∀ (L : List (Nat × D)) (s : Sg), (∀ i d, (i, d) ∈ L → gtP (q x) i = some d) → s[i]? = some (some d) → (i, d) ∈ L ∨ (lockS L s)[i]? = some (some d) := by
      intro L
      induction L with
      | nil => intro s _ h; exact .inr h
      | cons a L ih =>
        intro s hk h
        rw [lockS_cons]
        by_cases c : a.1 = i
        · have ha := hk a.1 a.2 (List.mem_cons_self ..)
          rw [c, e] at ha
          cases ha
          left
          rw [← c]
          exact List.mem_cons_self ..
        · exact (ih (s.set a.1 none) (fun i d z => hk i d (List.mem_cons_of_mem _ z)) (by rw [List.getElem?_set, if_neg c]; exact h)).imp (List.mem_cons_of_mem _) id
    exact this L s2 kk (b2.has i d e)
end
end
end Sim
namespace Sim
open PySem PySem.Spec L2
section
variable {α β δ γ σ τ : Type}
theorem only {γ : Type} {β : Type} (z : γ) (y0 : β) : ∃ k : β → Option γ, k y0 = some z ∧ ∀ y, k y = some z → y = y0 := by
  classical
  refine ⟨fun y => if y = y0 then some z else none, by simp, fun y h => ?_⟩
  by_cases c : y = y0
  · exact c
  · simp [c] at h
def XT (p : Pt) (t : T) (b : α → Bool) (q : α → Pt) (F : (α → Option γ) → Option γ) : Prop :=
  ∀ k z, F k = some z → ∃ x, k x = some z ∧ ∀ s, Mt p s → ∃ s', t s = .ok (b x) s' ∧ Mt (q x) s'
section
variable {p : Pt} {g : O} {t u : T} {b : α → Bool} {q : α → Pt} {F : (α → Option γ) → Option γ} {vl : Bool} {v : α → D}
theorem xt_tst (h : X vl p g (fun x => .bool (b x)) q F) : XT p (tst g) b q F := fun k z e => by
  obtain ⟨x, e1, h⟩ := h k z e
  refine ⟨x, e1, fun s m => ?_⟩
  obtain ⟨r, s', h1, h2, h3⟩ := h s m
  exact ⟨s', by rw [ev_tst, h1, ev_ok, ev_tstK, h3.rd h2, ev_tstK2], h2⟩
theorem xt_tstA (h : X vl p g v q F) (ht : ∀ x, truD (v x) = some (b x)) : XT p (tstA g) b q F := fun k z e => by
  obtain ⟨x, e1, h⟩ := h k z e
  refine ⟨x, e1, fun s m => ?_⟩
  obtain ⟨r, s', h1, h2, h3⟩ := h s m
  exact ⟨s', by rw [ev_tstA, h1, ev_ok, ev_tstAK, h3.rd h2, ev_tstAK2, ht x, ev_tstAK3], h2⟩
theorem xt_not (h : XT p t b q F) : XT p (tNot t) (fun x => !b x) q F := fun k z e => by
  obtain ⟨x, e1, h⟩ := h k z e
  refine ⟨x, e1, fun s m => ?_⟩
  obtain ⟨s', h1, h2⟩ := h s m
  exact ⟨s', by rw [ev_tNot, h1, ev_ok, ev_tNotK], h2⟩
theorem xt_yes : XT (γ := γ) p tYesT (fun _ : Unit => true) (fun _ => p) (fun k => k ()) := fun k z e => ⟨(), e, fun s m => ⟨s, rfl, m⟩⟩
variable {c : α → β → Bool} {q2 : α → β → Pt}
theorem xt_andT {y0 : α → β} (h : XT p t b q F) (h2 : ∀ x, XT (γ := γ) (q x) u (c x) (fun _ => q x) (fun k => k (y0 x))) : XT p (tAnd t u) (fun x => b x && c x (y0 x)) q F := fun k z e => by
  obtain ⟨x, e1, h⟩ := h k z e
  refine ⟨x, e1, fun s m => ?_⟩
  obtain ⟨s', a1, a2⟩ := h s m
  obtain ⟨k2, k3, k4⟩ := only z (y0 x)
  obtain ⟨y, e2, h2⟩ := h2 x k2 z k3
  rw [k4 y e2] at h2
  obtain ⟨s2, b1, b2⟩ := h2 s' a2
  cases hb : b x with
  | true => exact ⟨s2, by rw [ev_tAnd, a1, ev_ok, ev_tAndK, if_pos hb, b1]; simp [hb], b2⟩
  | false => exact ⟨s', by rw [ev_tAnd, a1, ev_ok, ev_tAndK, if_neg (by simp [hb])]; simp [hb], a2⟩
theorem xt_orT {y0 : α → β} (h : XT p t b q F) (h2 : ∀ x, XT (γ := γ) (q x) u (c x) (fun _ => q x) (fun k => k (y0 x))) : XT p (tOr t u) (fun x => b x || c x (y0 x)) q F := fun k z e => by
  obtain ⟨x, e1, h⟩ := h k z e
  refine ⟨x, e1, fun s m => ?_⟩
  obtain ⟨s', a1, a2⟩ := h s m
  obtain ⟨k2, k3, k4⟩ := only z (y0 x)
  obtain ⟨y, e2, h2⟩ := h2 x k2 z k3
  rw [k4 y e2] at h2
  obtain ⟨s2, b1, b2⟩ := h2 s' a2
  cases hb : b x with
  | true => exact ⟨s', by rw [ev_tOr, a1, ev_ok, ev_tOrK, if_pos hb]; simp [hb], a2⟩
  | false => exact ⟨s2, by rw [ev_tOr, a1, ev_ok, ev_tOrK, if_neg (by simp [hb]), b1]; simp [hb], b2⟩
theorem xt_orP {F2 : α → (β → Option Bool) → Option Bool} (h : XT p t b q F) (h2 : ∀ x, XT (q x) u (c x) (fun _ => q x) (F2 x)) :
    XT p (tOr t u) (fun w : α × Bool => w.2) (fun w => q w.1) (fun k => F fun x => (if b x = true then some true else F2 x (fun y => some (c x y))).bind fun z => k (x, z)) := fun k z e => by
  obtain ⟨x, e1, h⟩ := h _ z e
  obtain ⟨w, e2, e3⟩ := Option.bind_eq_some_iff.mp e1
  refine ⟨(x, w), e3, fun s m => ?_⟩
  obtain ⟨s', a1, a2⟩ := h s m
  cases hb : b x with
  | true =>
    rw [if_pos hb] at e2
    cases e2
    exact ⟨s', by rw [ev_tOr, a1, ev_ok, ev_tOrK, if_pos hb], a2⟩
  | false =>
    rw [if_neg (by simp [hb])] at e2
    obtain ⟨y, e4, h2⟩ := h2 x _ w e2
    obtain ⟨s2, b1, b2⟩ := h2 s' a2
    cases e4
    exact ⟨s2, by rw [ev_tOr, a1, ev_ok, ev_tOrK, if_neg (by simp [hb]), b1], b2⟩
end
section
variable {p : Pt} {g h' : O} {t : T} {b : α → Bool} {q : α → Pt} {F : (α → Option γ) → Option γ} {vl vl2 : Bool} {c : α → β → Bool}
theorem x_not (h : X vl p g (fun x => .bool (b x)) q F) : X true p (oNot g) (fun x => .bool (!b x)) q F := fun k z e => by
  obtain ⟨x, e1, h⟩ := h k z e
  refine ⟨x, e1, fun s m => ?_⟩
  obtain ⟨r, s', h1, h2, h3⟩ := h s m
  exact ⟨_, s', by rw [ev_oNot, h1, ev_ok, ev_notK, h3.rd h2, ev_notK2], h2, .inl rfl⟩
theorem x_andT {y0 : α → β} (h : X vl p g (fun x => .bool (b x)) q F) (h2 : ∀ x, X (γ := γ) vl2 (q x) h' (fun y => .bool (c x y)) (fun _ => q x) (fun k => k (y0 x))) : X false p (oAnd g h') (fun x => .bool (b x && c x (y0 x))) q F := fun k z e => by
  obtain ⟨x, e1, h⟩ := h k z e
  refine ⟨x, e1, fun s m => ?_⟩
  obtain ⟨r, s', a1, a2, a3⟩ := h s m
  obtain ⟨k2, k3, k4⟩ := only z (y0 x)
  obtain ⟨y, e2, h2⟩ := h2 x k2 z k3
  rw [k4 y e2] at h2
  obtain ⟨r2, s2, b1, b2, b3⟩ := h2 s' a2
  cases hb : b x with
  | true => exact ⟨r2, s2, by rw [ev_oAnd, a1, ev_ok, ev_andK, a3.rd a2, ev_andK2, if_pos hb, b1], b2, by simp only [hb, Bool.true_and, Bool.false_or]; exact b3.imp id fun z => ⟨rfl, z.2⟩⟩
  | false => exact ⟨_, s', by rw [ev_oAnd, a1, ev_ok, ev_andK, a3.rd a2, ev_andK2, if_neg (by simp [hb])], a2, .inl (by simp [hb])⟩
theorem x_andP {F2 : α → (β → Option Bool) → Option Bool} (h : X vl p g (fun x => .bool (b x)) q F) (h2 : ∀ x, X vl2 (q x) h' (fun y => .bool (c x y)) (fun _ => q x) (F2 x)) :
    X false p (oAnd g h') (fun w : α × Bool => .bool w.2) (fun w => q w.1) (fun k => F fun x => (if b x = true then F2 x (fun y => some (c x y)) else some false).bind fun z => k (x, z)) := fun k z e => by
  obtain ⟨x, e1, h⟩ := h _ z e
  obtain ⟨w, e2, e3⟩ := Option.bind_eq_some_iff.mp e1
  refine ⟨(x, w), e3, fun s m => ?_⟩
  obtain ⟨r, s', a1, a2, a3⟩ := h s m
  cases hb : b x with
  | true =>
    rw [if_pos hb] at e2
    obtain ⟨y, e4, h2⟩ := h2 x _ w e2
    obtain ⟨r2, s2, b1, b2, b3⟩ := h2 s' a2
    cases e4
    exact ⟨r2, s2, by rw [ev_oAnd, a1, ev_ok, ev_andK, a3.rd a2, ev_andK2, if_pos hb, b1], b2, b3.imp id fun z => ⟨rfl, z.2⟩⟩
  | false =>
    rw [if_neg (by simp [hb])] at e2
    cases e2
    exact ⟨_, s', by rw [ev_oAnd, a1, ev_ok, ev_andK, a3.rd a2, ev_andK2, if_neg (by simp [hb])], a2, .inl rfl⟩
end
section
variable {p : Pt} {g h' : O} {t : T} {b : α → Bool} {q : α → Pt} {F : (α → Option γ) → Option γ} {vl vl2 : Bool}
/-- either of two values that are sure to be told -/
theorem x_ifT {ε : Type} (e : τ → D) {a1 : α → β → τ} {a2 : α → ε → τ} {y1 : α → β} {y2 : α → ε} (h : XT p t b q F) (h1 : ∀ x, X (γ := γ) vl (q x) g (fun y => e (a1 x y)) (fun _ => q x) (fun k => k (y1 x)))
    (h2 : ∀ x, X (γ := γ) vl2 (q x) h' (fun y => e (a2 x y)) (fun _ => q x) (fun k => k (y2 x))) : X false p (oIf t g h') (fun x => e (if b x = true then a1 x (y1 x) else a2 x (y2 x))) q F := fun k z e0 => by
  obtain ⟨x, e1, h⟩ := h k z e0
  refine ⟨x, e1, fun s m => ?_⟩
  obtain ⟨s', c1, c2⟩ := h s m
  cases hb : b x with
  | true =>
    obtain ⟨k2, k3, k4⟩ := only z (y1 x)
    obtain ⟨y, e2, h1⟩ := h1 x k2 z k3
    rw [k4 y e2] at h1
    obtain ⟨r, s2, b1, b2, b3⟩ := h1 s' c2
    exact ⟨r, s2, by rw [ev_oIf, c1, ev_ok, ev_oIfK, if_pos hb, b1], b2, by simp only [hb, if_true]; exact b3.imp id fun z => ⟨rfl, z.2⟩⟩
  | false =>
    obtain ⟨k2, k3, k4⟩ := only z (y2 x)
    obtain ⟨y, e2, h2⟩ := h2 x k2 z k3
    rw [k4 y e2] at h2
    obtain ⟨r, s2, b1, b2, b3⟩ := h2 s' c2
    exact ⟨r, s2, by rw [ev_oIf, c1, ev_ok, ev_oIfK, if_neg (by simp [hb]), b1], b2, by simp only [hb, Bool.false_eq_true, if_false]; exact b3.imp id fun z => ⟨rfl, z.2⟩⟩
/-- either of two, where both may change something -/
theorem x_ifM {ε : Type} (e : τ → D) {a1 : α → β → τ} {a2 : α → ε → τ} {q1 : α → β → Pt} {q2 : α → ε → Pt} {F1 : α → (β → Option (τ × σ)) → Option (τ × σ)} {F2 : α → (ε → Option (τ × σ)) → Option (τ × σ)} (st1 : α → β → σ) (st2 : α → ε → σ) (qs : α → σ → Pt)
    (h : XT p t b q F) (h1 : ∀ x, X true (q x) g (fun y => e (a1 x y)) (q1 x) (F1 x)) (h2 : ∀ x, X true (q x) h' (fun y => e (a2 x y)) (q2 x) (F2 x)) (w1 : ∀ x y, Wk (qs x (st1 x y)) (q1 x y)) (w2 : ∀ x y, Wk (qs x (st2 x y)) (q2 x y)) :
    X true p (oIf t g h') (fun w : α × τ × σ => e w.2.1) (fun w => qs w.1 w.2.2) (fun k => F fun x => (if b x = true then F1 x (fun y => some (a1 x y, st1 x y)) else F2 x (fun y => some (a2 x y, st2 x y))).bind fun z => k (x, z)) := fun k z e0 => by
  obtain ⟨x, e1, h⟩ := h _ z e0
  obtain ⟨w, e2, e3⟩ := Option.bind_eq_some_iff.mp e1
  refine ⟨(x, w), e3, fun s m => ?_⟩
  obtain ⟨s', c1, c2⟩ := h s m
  have tv : ∀ {p : Pt} {r : Rf} {d : D}, Rd true p r d → r = .val d := fun h => h.elim id fun z => by cases z.1
  cases hb : b x with
  | true =>
    rw [if_pos hb] at e2
    obtain ⟨y, e4, h1⟩ := h1 x _ w e2
    obtain ⟨r, s2, b1, b2, b3⟩ := h1 s' c2
    cases e4
    exact ⟨r, s2, by rw [ev_oIf, c1, ev_ok, ev_oIfK, if_pos hb, b1], b2.wk (w1 x y), .inl (tv b3)⟩
  | false =>
    rw [if_neg (by simp [hb])] at e2
    obtain ⟨y, e4, h2⟩ := h2 x _ w e2
    obtain ⟨r, s2, b1, b2, b3⟩ := h2 s' c2
    cases e4
    exact ⟨r, s2, by rw [ev_oIf, c1, ev_ok, ev_oIfK, if_neg (by simp [hb]), b1], b2.wk (w2 x y), .inl (tv b3)⟩
end
end
end Sim
namespace Sim
open PySem PySem.Spec L2
section
variable {α β δ γ σ τ ρ : Type}
def As (t : Tg) (d : D) (p p' : Pt) : Prop := ∀ s, Mt p s → ∃ s', asg t d s = some s' ∧ Mt p' s'
def Ass (l : List Tg) (ds : List D) (p p' : Pt) : Prop := ∀ s, Mt p s → ∃ s', asgs l ds s = some s' ∧ Mt p' s'
theorem as_nm {i : Nat} {d : D} {p : Pt} : As (.nm i) d p (stP p i (some d)) := fun s m => ⟨_, asg_nm i d s, m.put i d⟩
theorem as_tp {l : List Tg} {ds : List D} {p p' : Pt} (h : Ass l ds p p') : As (.tp l) (.tuple ds) p p' := fun s m => by
  obtain ⟨s', e, m'⟩ := h s m
  exact ⟨s', by rw [asg_tp, e], m'⟩
theorem ass_nil {p : Pt} : Ass [] [] p p := fun s m => ⟨s, asgs_nil s, m⟩
theorem ass_cons {t : Tg} {l : List Tg} {d : D} {ds : List D} {p p1 p2 : Pt} (h : As t d p p1) (h2 : Ass l ds p1 p2) : Ass (t :: l) (d :: ds) p p2 := fun s m => by
  obtain ⟨s', e, m'⟩ := h s m
  obtain ⟨s2, e2, m2⟩ := h2 s' m'
  exact ⟨s2, by rw [asgs_cons, e, asgsK_some, e2], m2⟩
def XI (p : Pt) (it : I) (ey : β → D) (ys : α → List β) (lk : α → List (Nat × D)) (q : α → Pt) (F : (α → Option γ) → Option γ) : Prop :=
  ∀ k z, F k = some z → ∃ x, k x = some z ∧ (∀ i d, (i, d) ∈ lk x → gtP (q x) i = some d) ∧ ∀ s, Mt p s → ∃ s1, it s = .ok ((ys x).map ey, lk x) (lockS (lk x) s1) ∧ Mt (q x) s1
theorem kl_has {p : Pt} : ∀ (ks : List AK) (rs : List Rf) (ds : List D), Rk p ks rs ds → ∀ i d, (i, d) ∈ kl ks ds → gtP p i = some d
  | [], [], [], _, i, d, hm => by cases hm
  | .v :: ks, r :: rs, e :: ds, h, i, d, hm => kl_has ks rs ds h.2 i d hm
  | .s j :: ks, r :: rs, e :: ds, h, i, d, hm => by
    rcases List.mem_cons.mp hm with z | z
    · cases z; exact h.1.2.1
    · exact kl_has ks rs ds h.2 i d z
section
variable {p : Pt} {gs : AL} {ks : List AK} {vs : α → List D} {q : α → Pt} {F : (α → Option γ) → Option γ} {itm : List D → Option (List D)} {ey : β → D}
theorem xi_mk {ys : α → List β} (h : XA p gs ks vs q F) (hn : nodupB (kn ks) = true) (hp : Pu ey) (hi : ∀ x, itm (vs x) = some ((ys x).map ey)) (hM : Nonempty Sg := ⟨[]⟩) :
    XI p (mkI itm gs) ey ys (fun x => kl ks (vs x)) q F := fun k z e => by
  obtain ⟨x, e1, h⟩ := h k z e
  by_cases c : ∃ s, Mt p s
  · obtain ⟨s0, m0⟩ := c
    refine ⟨x, e1, ?_, fun s m => ?_⟩
    · obtain ⟨rs, s', a1, a2, a3⟩ := h s0 m0
      exact kl_has ks rs (vs x) a3
    · obtain ⟨rs, s', a1, a2, a3⟩ := h s m
      refine ⟨s', ?_, a2⟩
      rw [ev_mkI, a1, ev_ok, ev_mkIK, a3.rds a2, ev_mkIK2, hi x, ev_mkIK3, a3.lks, kl_kn _ _ a3.len, if_pos ⟨purs_pu hp _, hn⟩]
  · exfalso
    exact c (by
      refine ⟨p, Mt.refl p⟩)
theorem xi_mkP {ys : α → δ → List β} {m : α → Option δ} (h : XA p gs ks vs q F) (hn : nodupB (kn ks) = true) (hp : Pu ey) (hi : ∀ x z, m x = some z → itm (vs x) = some ((ys x z).map ey)) :
    XI p (mkI itm gs) ey (fun w : α × δ => ys w.1 w.2) (fun w => kl ks (vs w.1)) (fun w => q w.1) (fun k => F fun x => (m x).bind fun z => k (x, z)) := fun k z e => by
  obtain ⟨x, e1, h⟩ := h _ z e
  obtain ⟨y, e2, e3⟩ := Option.bind_eq_some_iff.mp e1
  refine ⟨(x, y), e3, ?_, fun s m => ?_⟩
  · obtain ⟨rs, s', a1, a2, a3⟩ := h p (Mt.refl p)
    exact kl_has ks rs (vs x) a3
  · obtain ⟨rs, s', a1, a2, a3⟩ := h s m
    refine ⟨s', ?_, a2⟩
    rw [ev_mkI, a1, ev_ok, ev_mkIK, a3.rds a2, ev_mkIK2, hi x y e2, ev_mkIK3, a3.lks, kl_kn _ _ a3.len, if_pos ⟨purs_pu hp _, hn⟩]
end
def B (p : Pt) (g : S) (m : Option γ) (Q : γ → Fl → Sg → Prop) : Prop := ∀ z, m = some z → ∀ s, Mt p s → ∃ fl s', g s = .ok fl s' ∧ Q z fl s'
inductive Lf (σ ρ : Type) where
  | go (x : σ) | brk (x : σ) | ret (z : ρ)
def Lf.on (w : Lf σ ρ) (f : σ → τ) (g : ρ → τ) : τ := match w with
  | .go x => f x
  | .brk x => f x
  | .ret z => g z
@[simp] theorem Lf.on_go (x : σ) (f : σ → τ) (g : ρ → τ) : (Lf.go x : Lf σ ρ).on f g = f x := rfl
@[simp] theorem Lf.on_brk (x : σ) (f : σ → τ) (g : ρ → τ) : (Lf.brk x : Lf σ ρ).on f g = f x := rfl
@[simp] theorem Lf.on_ret (z : ρ) (f : σ → τ) (g : ρ → τ) : (Lf.ret z : Lf σ ρ).on f g = g z := rfl
def Qn (q : γ → Pt) : γ → Fl → Sg → Prop := fun z fl s => fl = .nx ∧ Mt (q z) s
def QF (rv : γ → D) (q : γ → Pt) : γ → Fl → Sg → Prop := fun z fl s => (fl = .rt (rv z) ∨ (fl = .nx ∧ rv z = .none)) ∧ Mt (q z) s
def Qc (q : σ → Pt) : σ → Fl → Sg → Prop := fun z fl s => (fl = .nx ∨ fl = .ct) ∧ Mt (q z) s
def QL (qb : σ → Pt) (rv : ρ → D) (qi : ρ → Pt) : Lf σ ρ → Fl → Sg → Prop
  | .go x, fl, s => (fl = .nx ∨ fl = .ct) ∧ Mt (qb x) s
  | .brk x, fl, s => fl = .bk ∧ Mt (qb x) s
  | .ret z, fl, s => fl = .rt (rv z) ∧ Mt (qi z) s
theorem B.cv {p : Pt} {g : S} {m m' : Option γ} {Q : γ → Fl → Sg → Prop} (h : B p g m Q) (e : m = m') : B p g m' Q := e ▸ h
section
variable {p : Pt} {g h th el rest : S} {m : Option γ} {Q : γ → Fl → Sg → Prop}
theorem seq_skip (g : S) (s : Sg) : sSeq g sSkip s = g s := by
  rw [ev_sSeq]
  cases h : g s with
  | ok fl s1 => cases fl <;> rfl
  | exc c v s1 => rfl
  | bad => rfl
theorem seq_asc (a b c : S) (s : Sg) : sSeq (sSeq a b) c s = sSeq a (sSeq b c) s := by
  rw [ev_sSeq, ev_sSeq, ev_sSeq]
  cases h : a s with
  | ok fl s1 => cases fl <;> rfl
  | exc c v s1 => rfl
  | bad => rfl
theorem b_last (h : B p (sSeq g sSkip) m Q) : B p g m Q := fun z e s mm => by
  obtain ⟨fl, s', h1, h2⟩ := h z e s mm
  exact ⟨fl, s', by rw [← h1, seq_skip], h2⟩
theorem b_asc {a b c : S} (h : B p (sSeq a (sSeq b c)) m Q) : B p (sSeq (sSeq a b) c) m Q := fun z e s mm => by
  obtain ⟨fl, s', h1, h2⟩ := h z e s mm
  exact ⟨fl, s', by rw [← h1, seq_asc], h2⟩
theorem b_skip (h : B p rest m Q) : B p (sSeq sSkip rest) m Q := fun z e s mm => by
  obtain ⟨fl, s', h1, h2⟩ := h z e s mm
  exact ⟨fl, s', h1, h2⟩
theorem b_end {q : γ → Pt} {z : γ} (w : Wk (q z) p) : B p sSkip (some z) (Qn q) := fun z' e s mm => by cases e; exact ⟨.nx, s, rfl, rfl, mm.wk w⟩
theorem b_endC {q : γ → Pt} {z : γ} (w : Wk (q z) p) : B p sSkip (some z) (Qc q) := fun z' e s mm => by cases e; exact ⟨.nx, s, rfl, .inl rfl, mm.wk w⟩
theorem b_endL {qb : σ → Pt} {rv : ρ → D} {qi : ρ → Pt} {z : σ} (w : Wk (qb z) p) : B p sSkip (some (.go z)) (QL qb rv qi) := fun z' e s mm => by cases e; exact ⟨.nx, s, rfl, .inl rfl, mm.wk w⟩
section
variable {e : O} {v : α → D} {q : α → Pt} {F : (α → Option γ) → Option γ} {vl : Bool} {M : α → Option γ} {i : Nat}
theorem b_set (h : X vl p e v q F) (c : vl = true ∨ ∀ x, pur (v x) = true) (hr : ∀ x, B (stP (q x) i (some (v x))) rest (M x) Q) : B p (sSeq (sSet i e) rest) (F M) Q := fun z e0 s mm => by
  obtain ⟨x, e1, h⟩ := h M z e0
  obtain ⟨r, s1, a1, a2, a3⟩ := h s mm
  obtain ⟨fl, s', h1, h2⟩ := hr x z e1 _ (a2.put i (v x))
  refine ⟨fl, s', ?_, h2⟩
  rw [ev_sSeq, ev_sSet, a1, ev_ok, ev_asgK, a3.own a2 (c.imp id fun c => c x), ev_asgK2, asg_nm, ev_asgK3, ev_ok, ev_seqK_nx, h1]
theorem b_setL {τ : Type} (e1 : τ → D) {vv : α → τ} {M : α → τ → Option γ} (h : X vl p e (fun x => e1 (vv x)) q F) (c : vl = true ∨ ∀ x, pur (e1 (vv x)) = true) (hr : ∀ x y, B (stP (q x) i (some (e1 y))) rest (M x y) Q) : B p (sSeq (sSet i e) rest) (F fun x => (some (vv x)).bind (M x)) Q :=
  b_set h c fun x => hr x (vv x)
theorem b_asg {t : Tg} {p' : α → Pt} (h : X vl p e v q F) (c : vl = true ∨ ∀ x, pur (v x) = true) (ha : ∀ x, As t (v x) (q x) (p' x)) (hr : ∀ x, B (p' x) rest (M x) Q) : B p (sSeq (sAsg t e) rest) (F M) Q := fun z e0 s mm => by
  obtain ⟨x, e1, h⟩ := h M z e0
  obtain ⟨r, s1, a1, a2, a3⟩ := h s mm
  obtain ⟨s2, b1, b2⟩ := ha x s1 a2
  obtain ⟨fl, s', h1, h2⟩ := hr x z e1 _ b2
  refine ⟨fl, s', ?_, h2⟩
  rw [ev_sSeq, ev_sAsg, a1, ev_ok, ev_asgK, a3.own a2 (c.imp id fun c => c x), ev_asgK2, b1, ev_asgK3, ev_ok, ev_seqK_nx, h1]
theorem b_expr (h : X vl p e v q F) (hr : ∀ x, B (q x) rest (M x) Q) : B p (sSeq (sExpr e) rest) (F M) Q := fun z e0 s mm => by
  obtain ⟨x, e1, h⟩ := h M z e0
  obtain ⟨r, s1, a1, a2, a3⟩ := h s mm
  obtain ⟨fl, s', h1, h2⟩ := hr x z e1 _ a2
  refine ⟨fl, s', ?_, h2⟩
  rw [ev_sSeq, ev_sExpr, a1, ev_ok, ev_exprK, ev_ok, ev_seqK_nx, h1]
theorem b_par {l : List Nat} {gs : AL} {ks : List AK} {vs : α → List D} (h : XA p gs ks vs q F) (hk : ks.all AK.isV = true) (hl : ∀ x, (vs x).length = l.length) {p' : α → Pt} (hp : ∀ x s, Mt (q x) s → Mt (p' x) (putAll l (vs x) s))
    (hr : ∀ x, B (p' x) rest (M x) Q) : B p (sSeq (sPar l gs) rest) (F M) Q := fun z e0 s mm => by
  obtain ⟨x, e1, h⟩ := h M z e0
  obtain ⟨rs, s1, a1, a2, a3⟩ := h s mm
  obtain ⟨fl, s', h1, h2⟩ := hr x z e1 _ (hp x s1 a2)
  refine ⟨fl, s', ?_, h2⟩
  have : sPar l gs s = .ok .nx (putAll l (vs x) s1) := by
    unfold sPar
    rw [a1, ev_ok]
    simp only [a3.owns a2 (kv hk)]
    rw [if_pos (hl x)]
  rw [ev_sSeq, this, ev_ok, ev_seqK_nx, h1]
theorem put2 {i j : Nat} {a b : D} {p : Pt} : ∀ s, Mt p s → Mt (stP (stP p i (some a)) j (some b)) (putAll [i, j] [a, b] s) := fun s m => (m.put i a).put j b
theorem b_ret {lk : Nat → Bool} (h : X vl p e v q F) (R : α → γ) (c : vl = true ∨ ∀ x, pur (v x) = true) (hQ : ∀ x s, Mt (q x) s → Q (R x) (.rt (v x)) s) : B p (sSeq (sRet lk e) rest) (F fun x => some (R x)) Q := fun z e0 s mm => by
  obtain ⟨x, e1, h⟩ := h _ z e0
  cases e1
  obtain ⟨r, s1, a1, a2, a3⟩ := h s mm
  refine ⟨.rt (v x), s1, ?_, hQ x s1 a2⟩
  rw [ev_sSeq, ev_sRet, a1, ev_ok]
  rcases a3 with rfl | ⟨hv, i, rfl, hg⟩
  · rfl
  · rcases c with c | c
    · rw [hv] at c; cases c
    · rw [ev_retK_slot, a2.get hg, ev_retK2, if_pos (.inl (c x))]; rfl
/-- a list of one's own is given -/
theorem b_retS {lk : Nat → Bool} {d : D} {R : γ} (h : gtP p i = some d) (hl : lk i = false) (hQ : ∀ s, Mt p s → Q R (.rt d) s) : B p (sSeq (sRet lk (oV i)) rest) (some R) Q := fun z e0 s mm => by
  cases e0
  refine ⟨.rt d, s, ?_, hQ s mm⟩
  rw [ev_sSeq, ev_sRet, ev_oV, mm.get h, ev_oVK, ev_ok, ev_retK_slot, mm.get h, ev_retK2, if_pos (.inr hl)]; rfl
/-- a tuple is given, with lists of one's own in it -/
theorem ownsR_of {p : Pt} {s : Sg} {lk : Nat → Bool} (m : Mt p s) : ∀ {ks : List AK} {rs : List Rf} {ds : List D}, Rk p ks rs ds → (kn ks).all (fun i => !lk i) = true → ownsR lk rs s = some ds
  | [], [], [], _, _ => rfl
  | .v :: ks, r :: rs, d :: ds, h, a => by
    have ih := ownsR_of m h.2 a
    have o : ownR lk r s = some d := by
      rcases h.1.2 with z | z
      · rw [z]; rfl
      · rcases h.1.1 with z2 | ⟨_, i, z2, z3⟩
        · rw [z2]; rfl
        · rw [z2]
          unfold ownR
          simp only [m.get z3, z, true_or, if_true]
    unfold ownsR
    rw [o, ih]
  | .s i :: ks, r :: rs, d :: ds, h, a => by
    have a : (!lk i && (kn ks).all fun i => !lk i) = true := a
    rw [Bool.and_eq_true] at a
    have ih := ownsR_of m h.2 a.2
    have o : ownR lk r s = some d := by
      rw [h.1.1]
      unfold ownR
      have : lk i = false := by simpa using a.1
      simp only [m.get h.1.2.1, this, or_true, if_true]
    unfold ownsR
    rw [o, ih]
theorem b_retT {lk : Nat → Bool} {gs : AL} {ks : List AK} {vs : α → List D} (h : XA p gs ks vs q F) (hk : (kn ks).all (fun i => !lk i) = true) (hn : nodupB (kn ks) = true) (hl : ks.length ≤ 1000000) (R : α → γ) (hQ : ∀ x s, Mt (q x) s → Q (R x) (.rt (.tuple (vs x))) s) :
    B p (sSeq (sRetT lk gs) rest) (F fun x => some (R x)) Q := fun z e0 s mm => by
  obtain ⟨x, e1, h⟩ := h _ z e0
  cases e1
  obtain ⟨rs, s1, a1, a2, a3⟩ := h s mm
  refine ⟨.rt (.tuple (vs x)), s1, ?_, hQ x s1 a2⟩
  have : sRetT lk gs s = .ok (.rt (.tuple (vs x))) s1 := by
    unfold sRetT
    rw [a1, ev_ok, ownsR_of a2 a3 hk]
    simp only []
    rw [if_pos ⟨by rw [a3.len]; exact hl, by rw [a3.lks, kl_kn _ _ a3.len, hn]⟩]
  rw [ev_sSeq, this, ev_ok, ev_seqK_rt]
theorem qf_ret {rv : γ → D} {q : γ → Pt} {z : γ} {d : D} (e : d = rv z) (w : Wk (q z) p) : ∀ s, Mt p s → QF rv q z (.rt d) s := fun s m => ⟨.inl (by rw [e]), m.wk w⟩
theorem ql_ret {qb : σ → Pt} {rv : ρ → D} {qi : ρ → Pt} {z : ρ} {d : D} (e : d = rv z) (w : Wk (qi z) p) : ∀ s, Mt p s → QL qb rv qi (.ret z) (.rt d) s := fun s m => ⟨by rw [e], m.wk w⟩
/-- x[k] = e -/
def setT (xs : List τ) (k : Int) (v : τ) : Option (List τ) := (ixN xs.length k).map fun j => xs.set j v
theorem b_setIx {ga : O} {e1 : τ → D} {vx : α → τ} {β : Type} {vk : α → β → Int} {q2 : α → β → Pt} {F2 : α → (β → Option γ) → Option γ} {xs : α → β → List τ} {M : α → β → List τ → Option γ} {vl2 : Bool}
    (h : X vl p e (fun x => e1 (vx x)) q F) (hp : Pu e1) (hi : ∀ x, ∃ d, gtP (q x) i = some d) (h2 : ∀ x, X vl2 (q x) ga (fun y => .int (vk x y)) (q2 x) (F2 x)) (hv : ∀ x y, vl = true ∨ q2 x y = q x) (hi2 : ∀ x y, gtP (q2 x y) i = some (eL e1 (xs x y)))
    (hr : ∀ x y ys, B (stP (q2 x y) i (some (eL e1 ys))) rest (M x y ys) Q) : B p (sSeq (sSetIx i ga e) rest) (F fun x => F2 x fun y => (setT (xs x y) (vk x y) (vx x)).bind (M x y)) Q := fun z e0 s mm => by
  obtain ⟨x, e2, h⟩ := h _ z e0
  obtain ⟨y, e3, h2⟩ := h2 x _ z e2
  obtain ⟨ys, e4, e5⟩ := Option.bind_eq_some_iff.mp e3
  obtain ⟨r, s1, a1, a2, a3⟩ := h s mm
  obtain ⟨r2, s2, b1, b2, b3⟩ := h2 s1 a2
  unfold setT at e4
  obtain ⟨j, e6, e7⟩ := Option.map_eq_some_iff.mp e4
  have b4 := b2.put i (eL e1 ys)
  obtain ⟨fl, s', h1, h2⟩ := hr x y ys z e5 _ b4
  refine ⟨fl, s', ?_, h2⟩
  obtain ⟨d0, hd0⟩ := hi x
  have o : own r s2 = some (e1 (vx x)) := by
    rcases hv x y with c | c
    · rcases a3 with rfl | ⟨c2, _⟩
      · rfl
      · rw [c] at c2; cases c2
    · rw [c] at b2
      exact Rd.own a3 b2 (.inr (hp _))
  have l : (List.map e1 (xs x y)).length = (xs x y).length := by simp
  rw [ev_sSeq, ev_sSetIx, a1, ev_ok, ev_ixK, ev_oV, a2.get hd0, ev_oVK, ev_ok, ev_ixK1, b1, ev_ok, ev_ixK2, o, b3.rd b2, b2.get (hi2 x y)]
  show ((ixK3 i s2 (some (e1 (vx x))) (some (.int (vk x y))) (some (.list ((xs x y).map e1)))).bind (seqK rest)) = _
  rw [ev_ixK3, if_pos (hp _), l, e6, ev_ixK4, ev_ok, ev_seqK_nx, ← h1]
  refine congrArg rest (congrArg (fun d => s2.set i (some d)) ?_)
  rw [← e7, eL, List.map_set]
/-- x[k], y[l] = a, b -/
theorem b_setIx2 {τ2 β β2 : Type} {j : Nat} {gi gj : O} {gs : AL} {ks : List AK} {e1 : τ → D} {e2 : τ2 → D} {va : α → τ} {vb : α → τ2} {vl1 vl2 : Bool} {k1 : α → β → Int} {xs : α → List τ} {F1 : α → (β → Option γ) → Option γ} {k2 : α → List τ → β2 → Int} {ys : α → List τ → List τ2} {F2 : α → List τ → (β2 → Option γ) → Option γ}
    {M : α → β → List τ → β2 → List τ2 → Option γ} (h : XA p gs ks (fun x => [e1 (va x), e2 (vb x)]) q F) (hk : ks.all AK.isV = true) (p1 : Pu e1) (p2 : Pu e2) (h1 : ∀ x, X vl1 (q x) gi (fun y => .int (k1 x y)) (fun _ => q x) (F1 x)) (i1 : ∀ x, gtP (q x) i = some (eL e1 (xs x)))
    (h2 : ∀ x (xs' : List τ), X vl2 (stP (q x) i (some (eL e1 xs'))) gj (fun y => .int (k2 x xs' y)) (fun _ => stP (q x) i (some (eL e1 xs'))) (F2 x xs')) (i2 : ∀ x xs', gtP (stP (q x) i (some (eL e1 xs'))) j = some (eL e2 (ys x xs')))
    (hr : ∀ x y xs' z ys', B (stP (stP (q x) i (some (eL e1 xs'))) j (some (eL e2 ys'))) rest (M x y xs' z ys') Q) :
    B p (sSeq (sSetIx2 i gi j gj gs) rest) (F fun x => F1 x fun y => (setT (xs x) (k1 x y) (va x)).bind fun xs' => F2 x xs' fun z => (setT (ys x xs') (k2 x xs' z) (vb x)).bind fun ys' => M x y xs' z ys') Q := fun zz e0 s mm => by
  obtain ⟨x, c1, h⟩ := h _ zz e0
  obtain ⟨y, c2, h1⟩ := h1 x _ zz c1
  obtain ⟨xs', c3, c4⟩ := Option.bind_eq_some_iff.mp c2
  obtain ⟨z, c5, h2⟩ := h2 x xs' _ zz c4
  obtain ⟨ys', c6, c7⟩ := Option.bind_eq_some_iff.mp c5
  obtain ⟨rs, s1, a1, a2, a3⟩ := h s mm
  obtain ⟨r1, s2, b1, b2, b3⟩ := h1 s1 a2
  have hs2 : s2 = s1 ∨ True := .inr trivial
  have g1 : wIx i gi (e1 (va x)) s1 = .ok () (s2.set i (some (eL e1 xs'))) := by
    unfold setT at c3
    obtain ⟨j', e6, e7⟩ := Option.map_eq_some_iff.mp c3
    unfold wIx
    have g : (s1[i]?).join = some (.list ((xs x).map e1)) := a2.get (i1 x)
    have g' : (s2[i]?).join = some (.list ((xs x).map e1)) := b2.get (i1 x)
    have l : (List.map e1 (xs x)).length = (xs x).length := by simp
    rw [ev_oV, g, ev_oVK, ev_ok, b1, ev_ok, b3.rd b2]
    simp only [g']
    rw [if_pos (p1 (va x)), l, e6]
    show Res.ok () (s2.set i (some (PyData.list (((xs x).map e1).set j' (e1 (va x)))))) = _
    rw [← e7, eL, List.map_set]
  have m2 := b2.put i (eL e1 xs')
  obtain ⟨r2, s3, d1, d2, d3⟩ := h2 _ m2
  have g2 : wIx j gj (e2 (vb x)) (s2.set i (some (eL e1 xs'))) = .ok () (s3.set j (some (eL e2 ys'))) := by
    unfold setT at c6
    obtain ⟨j', e6, e7⟩ := Option.map_eq_some_iff.mp c6
    unfold wIx
    have g : ((s2.set i (some (eL e1 xs')))[j]?).join = some (.list ((ys x xs').map e2)) := m2.get (i2 x xs')
    have g' : (s3[j]?).join = some (.list ((ys x xs').map e2)) := d2.get (i2 x xs')
    have l : (List.map e2 (ys x xs')).length = (ys x xs').length := by simp
    rw [ev_oV, g, ev_oVK, ev_ok, d1, ev_ok, d3.rd d2]
    simp only [g']
    rw [if_pos (p2 (vb x)), l, e6]
    show Res.ok () (s3.set j (some (PyData.list (((ys x xs').map e2).set j' (e2 (vb x)))))) = _
    rw [← e7, eL, List.map_set]
  obtain ⟨fl, s', f1, f2⟩ := hr x y xs' z ys' zz c7 _ (d2.put j (eL e2 ys'))
  refine ⟨fl, s', ?_, f2⟩
  have : sSetIx2 i gi j gj gs s = .ok .nx (s3.set j (some (eL e2 ys'))) := by
    unfold sSetIx2
    rw [a1, ev_ok, a3.owns a2 (kv hk)]
    simp only [g1, ev_ok, g2]
  rw [ev_sSeq, this, ev_ok, ev_seqK_nx, f1]
end
section
variable {t : T} {b : α → Bool} {q : α → Pt} {F : (α → Option γ) → Option γ}
/-- what is behind stands behind both -/
theorem b_if {m1 m2 : α → Option γ} (h : XT p t b q F) (h1 : ∀ x, B (q x) (sSeq th rest) (m1 x) Q) (h2 : ∀ x, B (q x) (sSeq el rest) (m2 x) Q) :
    B p (sSeq (sIf t th el) rest) (F fun x => if b x = true then m1 x else m2 x) Q := fun z e0 s mm => by
  obtain ⟨x, e1, h⟩ := h _ z e0
  obtain ⟨s1, a1, a2⟩ := h s mm
  cases hb : b x with
  | true =>
    rw [if_pos hb] at e1
    obtain ⟨fl, s', b1, b2⟩ := h1 x z e1 s1 a2
    refine ⟨fl, s', ?_, b2⟩
    rw [ev_sSeq, ev_sIf, a1, ev_ok, ev_ifK, if_pos hb, ← b1, ev_sSeq]
  | false =>
    rw [if_neg (by simp [hb])] at e1
    obtain ⟨fl, s', b1, b2⟩ := h2 x z e1 s1 a2
    refine ⟨fl, s', ?_, b2⟩
    rw [ev_sSeq, ev_sIf, a1, ev_ok, ev_ifK, if_neg (by simp [hb]), ← b1, ev_sSeq]
/-- both go on, with the same names told -/
theorem b_ifj {m1 m2 : α → Option τ} {M : α → τ → Option γ} (h : XT p t b q F) (qj : α → τ → Pt) (h1 : ∀ x, B (q x) th (m1 x) (Qn (qj x))) (h2 : ∀ x, B (q x) el (m2 x) (Qn (qj x)))
    (hr : ∀ x y, B (qj x y) rest (M x y) Q) : B p (sSeq (sIf t th el) rest) (F fun x => (if b x = true then m1 x else m2 x).bind (M x)) Q := fun z e0 s mm => by
  obtain ⟨x, e1, h⟩ := h _ z e0
  obtain ⟨y, e2, e3⟩ := Option.bind_eq_some_iff.mp e1
  obtain ⟨s1, a1, a2⟩ := h s mm
  cases hb : b x with
  | true =>
    rw [if_pos hb] at e2
    obtain ⟨fl, s2, b1, b2, b3⟩ := h1 x y e2 s1 a2
    subst b2
    obtain ⟨fl, s', c1, c2⟩ := hr x y z e3 s2 b3
    refine ⟨fl, s', ?_, c2⟩
    rw [ev_sSeq, ev_sIf, a1, ev_ok, ev_ifK, if_pos hb, b1, ev_ok, ev_seqK_nx, c1]
  | false =>
    rw [if_neg (by simp [hb])] at e2
    obtain ⟨fl, s2, b1, b2, b3⟩ := h2 x y e2 s1 a2
    subst b2
    obtain ⟨fl, s', c1, c2⟩ := hr x y z e3 s2 b3
    refine ⟨fl, s', ?_, c2⟩
    rw [ev_sSeq, ev_sIf, a1, ev_ok, ev_ifK, if_neg (by simp [hb]), b1, ev_ok, ev_seqK_nx, c1]
end
def lpN (F : σ → β → Option σ) : List β → σ → Option σ
  | [], s => some s
  | y :: ys, s => (F s y).bind (lpN F ys)
def lpR (F : σ → β → Option (Lf σ ρ)) : List β → σ → Option (Lf σ ρ)
  | [], s => some (.go s)
  | y :: ys, s => (F s y).bind fun w => match w with
    | .go s => lpR F ys s
    | .brk s => some (.go s)
    | .ret z => some (.ret z)
theorem loop_N {t : Tg} {g : S} {ey : β → D} {qb : σ → Pt} {pb : σ → β → Pt} {mb : σ → β → Option σ} (hT : ∀ x y, As t (ey y) (qb x) (pb x y)) (hb : ∀ x y, B (pb x y) g (mb x y) (Qc qb)) :
    ∀ (ys : List β) (x x' : σ) (s : Sg), lpN mb ys x = some x' → Mt (qb x) s → ∃ s', loopS t g (ys.map ey) s = .ok .nx s' ∧ Mt (qb x') s'
  | [], x, x', s, e, m => by cases e; exact ⟨s, rfl, m⟩
  | y :: ys, x, x', s, e, m => by
    obtain ⟨x1, e1, e2⟩ := Option.bind_eq_some_iff.mp e
    obtain ⟨s1, a1, a2⟩ := hT x y s m
    obtain ⟨fl, s2, b1, b2, b3⟩ := hb x y x1 e1 s1 a2
    obtain ⟨s', c1, c2⟩ := loop_N hT hb ys x1 x' s2 e2 b3
    refine ⟨s', ?_, c2⟩
    rw [List.map_cons, loop_cons, a1, loopK1_some, b1, ev_ok]
    rcases b2 with rfl | rfl <;> exact c1
theorem loop_R {t : Tg} {g : S} {ey : β → D} {qb : σ → Pt} {pb : σ → β → Pt} {mb : σ → β → Option (Lf σ ρ)} {rv : ρ → D} {qi : ρ → Pt} (hT : ∀ x y, As t (ey y) (qb x) (pb x y)) (hb : ∀ x y, B (pb x y) g (mb x y) (QL qb rv qi)) :
    ∀ (ys : List β) (x : σ) (w : Lf σ ρ) (s : Sg), lpR mb ys x = some w → Mt (qb x) s → (∃ x' s', w = .go x' ∧ loopS t g (ys.map ey) s = .ok .nx s' ∧ Mt (qb x') s') ∨ (∃ z s', w = .ret z ∧ loopS t g (ys.map ey) s = .ok (.rt (rv z)) s' ∧ Mt (qi z) s')
  | [], x, x', s, e, m => by cases e; exact .inl ⟨x, s, rfl, rfl, m⟩
  | y :: ys, x, x', s, e, m => by
    obtain ⟨w, e1, e2⟩ := Option.bind_eq_some_iff.mp e
    obtain ⟨s1, a1, a2⟩ := hT x y s m
    obtain ⟨fl, s2, b1, b2⟩ := hb x y w e1 s1 a2
    cases w with
    | go x1 =>
      have ih := loop_R hT hb ys x1 x' s2 e2 b2.2
      have key : loopS t g ((y :: ys).map ey) s = loopS t g (ys.map ey) s2 := by
        rw [List.map_cons, loop_cons, a1, loopK1_some, b1, ev_ok]
        rcases b2.1 with rfl | rfl <;> rfl
      rw [key]
      exact ih
    | brk x1 =>
      cases e2
      refine .inl ⟨x1, s2, rfl, ?_, b2.2⟩
      rw [List.map_cons, loop_cons, a1, loopK1_some, b1, ev_ok, b2.1]; rfl
    | ret z =>
      cases e2
      refine .inr ⟨z, s2, rfl, ?_, b2.2⟩
      rw [List.map_cons, loop_cons, a1, loopK1_some, b1, ev_ok, b2.1]; rfl
section
variable {it : I} {ey : β → D} {ys : α → List β} {lk : α → List (Nat × D)} {q : α → Pt} {F : (α → Option γ) → Option γ} {lkf : Nat → Bool} {t : Tg} {pb : α → σ → β → Pt}
theorem b_for {mb : α → σ → β → Option σ} {M : α → σ → Option γ} (h : XI p it ey ys lk q F) (qb : α → σ → Pt) (s0 : α → σ) (hl : ∀ x, ((lk x).all fun q => lkf q.1) = true) (h0 : ∀ x, Wk (qb x (s0 x)) (lkP (lk x) (q x)))
    (hT : ∀ x s y, As t (ey y) (qb x s) (pb x s y)) (hb : ∀ x s y, B (pb x s y) g (mb x s y) (Qc (qb x))) (hr : ∀ x s, B (ulP (lk x) (qb x s)) rest (M x s) Q) :
    B p (sSeq (sFor lkf it t g) rest) (F fun x => (lpN (fun s y => mb x s y) (ys x) (s0 x)).bind (M x)) Q := fun z e0 s mm => by
  obtain ⟨x, e1, hx, h⟩ := h _ z e0
  obtain ⟨s1, a1, a2⟩ := h s mm
  obtain ⟨x', e2, e3⟩ := Option.bind_eq_some_iff.mp e1
  obtain ⟨s2, b1, b2⟩ := loop_N (hT x) (hb x) (ys x) (s0 x) x' _ e2 ((a2.lk _).wk (h0 x))
  obtain ⟨fl, s', c1, c2⟩ := hr x x' z e3 _ (b2.ul (lk x))
  refine ⟨fl, s', ?_, c2⟩
  rw [ev_sSeq, for_ok a1 (hl x) b1, ev_ok, ev_seqK_nx, c1]
theorem b_forR {mb : α → σ → β → Option (Lf σ ρ)} {M : α → σ → Option γ} (h : XI p it ey ys lk q F) (qb : α → σ → Pt) (s0 : α → σ) (rv : ρ → D) (qi : α → ρ → Pt) (R : ρ → γ) (hl : ∀ x, ((lk x).all fun q => lkf q.1) = true) (h0 : ∀ x, Wk (qb x (s0 x)) (lkP (lk x) (q x)))
    (hT : ∀ x s y, As t (ey y) (qb x s) (pb x s y)) (hb : ∀ x s y, B (pb x s y) g (mb x s y) (QL (qb x) rv (qi x))) (hR : ∀ x z s, Mt (ulP (lk x) (qi x z)) s → Q (R z) (.rt (rv z)) s) (hr : ∀ x s, B (ulP (lk x) (qb x s)) rest (M x s) Q) :
    B p (sSeq (sFor lkf it t g) rest) (F fun x => (lpR (fun s y => mb x s y) (ys x) (s0 x)).bind fun w => w.on (M x) (fun z => some (R z))) Q := fun z e0 s mm => by
  obtain ⟨x, e1, hx, h⟩ := h _ z e0
  obtain ⟨s1, a1, a2⟩ := h s mm
  obtain ⟨w, e2, e3⟩ := Option.bind_eq_some_iff.mp e1
  rcases loop_R (hT x) (hb x) (ys x) (s0 x) w _ e2 ((a2.lk _).wk (h0 x)) with ⟨x', s2, rfl, b1, b2⟩ | ⟨z', s2, rfl, b1, b2⟩
  · obtain ⟨fl, s', c1, c2⟩ := hr x x' z e3 _ (b2.ul (lk x))
    refine ⟨fl, s', ?_, c2⟩
    rw [ev_sSeq, for_ok a1 (hl x) b1, ev_ok, ev_seqK_nx, c1]
  · cases e3
    refine ⟨.rt (rv z'), _, ?_, hR x z' _ (b2.ul (lk x))⟩
    rw [ev_sSeq, for_ok a1 (hl x) b1, ev_ok, ev_seqK_rt]
end
end
def lpW (F : σ → Option (Option (Lf σ ρ))) : Nat → σ → Option (Lf σ ρ)
  | 0, _ => none
  | n + 1, s => (F s).bind fun o => match o with
    | none => some (.go s)
    | some (.go s) => lpW F n s
    | some (.brk s) => some (.go s)
    | some (.ret z) => some (.ret z)
theorem while_W {t : T} {g : S} {qb : σ → Pt} {rv : ρ → D} {qi : ρ → Pt} {cv : σ → α → Bool} {Fc : σ → (α → Option (Option (Lf σ ρ))) → Option (Option (Lf σ ρ))} {mb : σ → α → Option (Lf σ ρ)}
    (hT : ∀ s, XT (qb s) t (cv s) (fun _ => qb s) (Fc s)) (hb : ∀ s x, B (qb s) g (mb s x) (QL qb rv qi)) :
    ∀ (n : Nat) (x : σ) (w : Lf σ ρ) (s : Sg), lpW (fun s => Fc s fun x => if cv s x = true then (mb s x).bind fun w => some (some w) else some none) n x = some w → Mt (qb x) s →
      (∃ x' s', w = .go x' ∧ sWhile t g n s = .ok .nx s' ∧ Mt (qb x') s') ∨ (∃ z s', w = .ret z ∧ sWhile t g n s = .ok (.rt (rv z)) s' ∧ Mt (qi z) s')
  | 0, _, _, _, e, _ => by cases e
  | n + 1, x, w, s, e, m => by
    obtain ⟨o, e1, e2⟩ := Option.bind_eq_some_iff.mp e
    obtain ⟨y, e3, h⟩ := hT x _ _ e1
    obtain ⟨s1, a1, a2⟩ := h s m
    cases hc : cv x y with
    | false =>
      rw [if_neg (by simp [hc])] at e3
      cases e3
      cases e2
      exact .inl ⟨x, s1, rfl, by rw [sWhile]; simp only [a1, hc, ev_ok, Bool.false_eq_true, if_false], a2⟩
    | true =>
      rw [if_pos hc] at e3
      obtain ⟨w1, e4, e5⟩ := Option.bind_eq_some_iff.mp e3
      cases e5
      obtain ⟨fl, s2, b1, b2⟩ := hb x y w1 e4 s1 a2
      cases w1 with
      | go x1 =>
        have ih := while_W hT hb n x1 w s2 e2 b2.2
        have key : sWhile t g (n + 1) s = sWhile t g n s2 := by
          rw [sWhile]
          simp only [a1, hc, ev_ok, if_true, b1]
          rcases b2.1 with rfl | rfl <;> rfl
        rw [key]
        exact ih
      | brk x1 =>
        cases e2
        exact .inl ⟨x1, s2, rfl, by rw [sWhile]; simp only [a1, hc, ev_ok, if_true, b1, b2.1], b2.2⟩
      | ret z =>
        cases e2
        exact .inr ⟨z, s2, rfl, by rw [sWhile]; simp only [a1, hc, ev_ok, if_true, b1, b2.1], b2.2⟩
theorem b_while {p : Pt} {g rest : S} {Q : γ → Fl → Sg → Prop} {t : T} {n : Nat} {cv : σ → α → Bool} {Fc : σ → (α → Option (Option (Lf σ ρ))) → Option (Option (Lf σ ρ))} {mb : σ → α → Option (Lf σ ρ)} {M : σ → Option γ}
    (qb : σ → Pt) (s0 : σ) (rv : ρ → D) (qi : ρ → Pt) (R : ρ → γ) (h0 : Wk (qb s0) p) (hT : ∀ s, XT (qb s) t (cv s) (fun _ => qb s) (Fc s)) (hb : ∀ s x, B (qb s) g (mb s x) (QL qb rv qi)) (hR : ∀ z s, Mt (qi z) s → Q (R z) (.rt (rv z)) s) (hr : ∀ s, B (qb s) rest (M s) Q) :
    B p (sSeq (sWhile t g n) rest) ((lpW (fun s => Fc s fun x => if cv s x = true then (mb s x).bind fun w => some (some w) else some none) n s0).bind fun w => w.on M (fun z => some (R z))) Q := fun z e0 s mm => by
  obtain ⟨w, e2, e3⟩ := Option.bind_eq_some_iff.mp e0
  rcases while_W hT hb n s0 w s e2 (mm.wk h0) with ⟨x', s2, rfl, b1, b2⟩ | ⟨z', s2, rfl, b1, b2⟩
  · obtain ⟨fl, s', c1, c2⟩ := hr x' z e3 _ b2
    exact ⟨fl, s', by rw [ev_sSeq, b1, ev_ok, ev_seqK_nx, c1], c2⟩
  · cases e3
    exact ⟨.rt (rv z'), _, by rw [ev_sSeq, b1, ev_ok, ev_seqK_rt], hR z' _ b2⟩
theorem puL {e : α → D} {xs : List α} : pur (eL e xs) = false := pur_list _
theorem fn_t {ms : List Nat} {n : Nat} {g : S} {ds : List D} {p0 : Pt} {m : Option γ} {rv : γ → D} {q : γ → Pt} {outs : γ → List D} (hb : B p0 g m (QF rv q)) (h0 : ds.map some ++ List.replicate (n - ds.length) none = p0) (h1 : okM ms ds = true)
    (h2 : ∀ z s, Mt (q z) s → coll ms ds 0 s = some (outs z)) : ∀ z, m = some z → mkFn ms n g ds = .ok (rv z) (outs z) := fun z e => by
  obtain ⟨fl, s', a1, a2, a3⟩ := hb z e p0 (Mt.refl _)
  rw [← h0] at a1
  rcases a2 with rfl | ⟨rfl, e2⟩
  · exact mkFn_rt h1 a1 (h2 z s' a3)
  · rw [e2]; exact mkFn_nx h1 a1 (h2 z s' a3)
theorem coll_nilP {p : Pt} {j : Nat} : ∀ s, Mt p s → coll [] [] j s = some [] := fun s _ => rfl
theorem coll_0P {p : Pt} {j : Nat} {ms : List Nat} {d d' : D} {ds as : List D} (h : gtP p j = some d') (h2 : ∀ s, Mt p s → coll ms ds (j + 1) s = some as) : ∀ s, Mt p s → coll (0 :: ms) (d :: ds) j s = some (d' :: as) := fun s m => by
  rw [coll_0, m.get h, h2 s m]; rfl
theorem coll_1P {p : Pt} {j : Nat} {ms : List Nat} {d : D} {ds as : List D} (h2 : ∀ s, Mt p s → coll ms ds (j + 1) s = some as) : ∀ s, Mt p s → coll (1 :: ms) (d :: ds) j s = some (d :: as) := fun s m => by
  rw [coll_1, h2 s m]; rfl
end
end Sim
namespace Sim
open PySem PySem.Spec L2
def lim {α : Type} (n : Nat) (m : Option α) : Option α := if n ≤ 1000000 then m else none
theorem lim_of {α : Type} {n : Nat} {m : Option α} (h : n ≤ 1000000) : lim n m = m := if_pos h
section
variable {α β δ γ σ τ ρ ε ζ : Type}
def XPr (p : Pt) (po : Option O) (l : α → Option Int) (F : (α → Option γ) → Option γ) : Prop :=
  ∀ k z, F k = some z → ∃ x, k x = some z ∧ ∀ s, Mt p s → ∃ s', prt po s = .ok (l x) s' ∧ Mt p s'
theorem xpr_none {p : Pt} : XPr (γ := γ) p none (fun _ : Unit => none) (fun k => k ()) := fun k z e => ⟨(), e, fun s m => ⟨s, rfl, m⟩⟩
theorem xpr_some {p : Pt} {g : O} {i : α → Int} {F : (α → Option γ) → Option γ} {vl : Bool} (h : X vl p g (fun x => .int (i x)) (fun _ => p) F) : XPr p (some g) (fun x => some (i x)) F := fun k z e => by
  obtain ⟨x, e1, h⟩ := h k z e
  refine ⟨x, e1, fun s m => ?_⟩
  obtain ⟨r, s', a1, a2, a3⟩ := h s m
  exact ⟨s', by rw [ev_prt_some, a1, ev_ok, ev_prtK, a3.rd a2, ev_prtK2], a2⟩
section
variable {p : Pt} {g : O} {lo hi st : Option O} {v : α → D} {q : α → Pt} {F : (α → Option γ) → Option γ} {vl : Bool} {l : α → β → Option Int} {F1 : α → (β → Option γ) → Option γ}
  {u : α → β → δ → Option Int} {F2 : α → β → (δ → Option γ) → Option γ}
theorem x_sl {rv : α → β → δ → D} (h : X vl p g v q F) (h1 : ∀ x, XPr (q x) lo (l x) (F1 x)) (h2 : ∀ x y, XPr (q x) hi (u x y) (F2 x y)) (hs : ∀ x y w, slD (v x) (l x y) (u x y w) = some (rv x y w)) :
    X true p (oSl g lo hi) (fun w : α × β × δ => rv w.1 w.2.1 w.2.2) (fun w => q w.1) (fun k => F fun x => F1 x fun y => F2 x y fun w => k (x, y, w)) := fun k z e => by
  obtain ⟨x, e1, h⟩ := h _ z e
  obtain ⟨y, e2, h1⟩ := h1 x _ z e1
  obtain ⟨w, e3, h2⟩ := h2 x y _ z e2
  refine ⟨(x, y, w), e3, fun s m => ?_⟩
  obtain ⟨r, s1, a1, a2, a3⟩ := h s m
  obtain ⟨s2, b1, b2⟩ := h1 s1 a2
  obtain ⟨s3, c1, c2⟩ := h2 s2 b2
  exact ⟨.val (rv x y w), s3, by rw [ev_oSl, a1, ev_ok, ev_slK1, b1, ev_ok, ev_slK2, c1, ev_ok, ev_slK3, a3.rd c2, ev_slK4, hs, ev_slK5], c2, .inl rfl⟩
end
section
variable {p : Pt} {g : O} {lo hi st : Option O} {v : α → D} {q : α → Pt} {F : (α → Option γ) → Option γ} {vl : Bool} {l : α → β → Option Int} {F1 : α → (β → Option γ) → Option γ}
  {u : α → β → δ → Option Int} {F2 : α → β → (δ → Option γ) → Option γ}
end
theorem x_mt {p : Pt} {gs : AL} {ks : List AK} {vs : α → List D} {q : α → Pt} {F : (α → Option γ) → Option γ} {f : List D → List D → Option (List D × D)} {i : Nat} {e : τ → D} {x0 : List τ} {xs : α → List τ} {m : α → Option β} {xs' : α → β → List τ} {rv : α → β → D}
    (h0 : gtP p i = some (eL e x0)) (h : XA p gs ks vs q F) (hk : ks.all AK.isV = true) (h1 : ∀ x, gtP (q x) i = some (eL e (xs x))) (hf : ∀ x z, m x = some z → f ((xs x).map e) (vs x) = some ((xs' x z).map e, rv x z)) (hp : ∀ x z, pur (rv x z) = true) :
    X true p (oMt f i gs) (fun w : α × β => rv w.1 w.2) (fun w => stP (q w.1) i (some (eL e (xs' w.1 w.2)))) (fun k => F fun x => (m x).bind fun z => k (x, z)) := fun k z e0 => by
  obtain ⟨x, e1, h⟩ := h _ z e0
  obtain ⟨y, e2, e3⟩ := Option.bind_eq_some_iff.mp e1
  refine ⟨(x, y), e3, fun s mm => ?_⟩
  obtain ⟨rs, s2, b1, b2, b3⟩ := h s mm
  refine ⟨.val (rv x y), s2.set i (some (eL e (xs' x y))), ?_, b2.put i _, .inl rfl⟩
  have g1 : (s[i]?).join = some (.list (x0.map e)) := mm.get h0
  have g2 : (s2[i]?).join = some (.list ((xs x).map e)) := b2.get (h1 x)
  rw [ev_oMt, ev_oV, g1, ev_oVK, ev_ok, ev_mtK, g1, ev_mtK1, b1, ev_ok, ev_mtK2, g2, b3.owns b2 (kv hk), ev_mtK3, hf x y e2, ev_mtK4, if_pos (hp x y)]
  rfl
theorem x_idx {p : Pt} {g h' : O} {v : α → D} {ds : α → List D} {q : α → Pt} {F : (α → Option γ) → Option γ} {vl vl2 : Bool} {v2 : α → β → D} {F2 : α → (β → Option γ) → Option γ} {m : α → β → Option δ} {rv : α → β → δ → D}
    (h : X vl p g v q F) (hd : ∀ x, v x = .tuple (ds x)) (h2 : ∀ x, X vl2 (q x) h' (v2 x) (fun _ => q x) (F2 x)) (hf : ∀ x y z, m x y = some z → pIndexT [.tuple (ds x), v2 x y] = some (rv x y z)) :
    X true p (oIdxT g h') (fun w : α × β × δ => rv w.1 w.2.1 w.2.2) (fun w => q w.1) (fun k => F fun x => F2 x fun y => (m x y).bind fun z => k (x, y, z)) := fun k z e => by
  obtain ⟨x, e1, h⟩ := h _ z e
  obtain ⟨y, e2, h2⟩ := h2 x _ z e1
  obtain ⟨w, e3, e4⟩ := Option.bind_eq_some_iff.mp e2
  refine ⟨(x, y, w), e4, fun s mm => ?_⟩
  obtain ⟨r, s1, a1, a2, a3⟩ := h s mm
  obtain ⟨r2, s2, b1, b2, b3⟩ := h2 s1 a2
  refine ⟨.val (rv x y w), s2, ?_, b2, .inl rfl⟩
  have e5 : rds [r, r2] s2 = some [.tuple (ds x), v2 x y] := by rw [rds_cons, rds_cons, rds_nil, a3.rd b2, b3.rd b2, hd]; rfl
  unfold oIdxT
  rw [a1, ev_ok, a3.rd a2, hd]
  simp only [b1, ev_ok, e5, hf x y w e3]
def clP : List Nat → Pt → Pt
  | [], p => p
  | v :: vs, p => stP (clP vs p) v none
theorem Mt.cl : ∀ (vs : List Nat) {p : Pt} {s : Sg}, Mt p s → Mt (clP vs p) (clrS vs s)
  | [], _, _, h => h
  | v :: vs, _, _, h => by rw [clrS_cons]; exact (Mt.cl vs h).off v none
theorem own_mem : ∀ {vs : List Nat} {s : Sg} {i : Nat} {d : D}, (i, d) ∈ ownSl vs s ↔ i ∈ vs ∧ (s[i]?).join = some d
  | [], s, i, d => by simp
  | v :: vs, s, i, d => by
    rw [ownSl_cons]
    cases h : (s[v]?).join with
    | none =>
      rw [ownSlK_none, own_mem]
      constructor
      · rintro ⟨a, b⟩; exact ⟨List.mem_cons_of_mem _ a, b⟩
      · rintro ⟨a, b⟩
        rcases List.mem_cons.mp a with rfl | a
        · rw [h] at b; cases b
        · exact ⟨a, b⟩
    | some e =>
      rw [ownSlK_some, List.mem_cons, own_mem]
      constructor
      · rintro (a | ⟨a, b⟩)
        · cases a; exact ⟨List.mem_cons_self .., h⟩
        · exact ⟨List.mem_cons_of_mem _ a, b⟩
      · rintro ⟨a, b⟩
        rcases List.mem_cons.mp a with rfl | a
        · rw [h] at b; cases b; exact .inl rfl
        · exact .inr ⟨a, b⟩
theorem own_nodup : ∀ {vs : List Nat} {s : Sg}, nodupB vs = true → nodupB ((ownSl vs s).map (·.1)) = true
  | [], s, _ => by simp
  | v :: vs, s, h => by
    rw [ev_nodupB, Bool.and_eq_true] at h
    rw [ownSl_cons]
    have ih := own_nodup (s := s) h.2
    cases e : (s[v]?).join with
    | none => rw [ownSlK_none]; exact ih
    | some d =>
      rw [ownSlK_some, List.map_cons, ev_nodupB, ih, Bool.and_true]
      have h1 := h.1
      simp only [Bool.not_eq_true', List.contains_eq_mem, decide_eq_false_iff_not] at h1 ⊢
      intro z
      obtain ⟨a, ha, hb⟩ := List.mem_map.mp z
      obtain ⟨a1, a2⟩ := a
      have hb : a1 = v := hb
      subst hb
      exact h1 (own_mem.mp ha).1
theorem lock_get : ∀ {L : List (Nat × D)} {s : Sg} {i : Nat}, (∀ d, (i, d) ∉ L) → (lockS L s)[i]? = s[i]?
  | [], s, i, _ => rfl
  | a :: L, s, i, h => by
    rw [lockS_cons, lock_get fun d z => h d (List.mem_cons_of_mem _ z), List.getElem?_set, if_neg]
    intro z
    exact h a.2 (by rw [← z]; exact List.mem_cons_self ..)
theorem lock_len : ∀ (L : List (Nat × D)) (s : Sg), (lockS L s).length = s.length
  | [], _ => rfl
  | a :: L, s => by rw [lockS_cons, lock_len L, List.length_set]
theorem unlock_len : ∀ (L : List (Nat × D)) (s : Sg), (unlockS L s).length = s.length
  | [], _ => rfl
  | a :: L, s => by rw [unlockS_cons, unlock_len L, List.length_set]
theorem clr_len : ∀ (vs : List Nat) (s : Sg), (clrS vs s).length = s.length
  | [], _ => rfl
  | v :: vs, s => by rw [clrS_cons, List.length_set, clr_len vs]
theorem unlock_get : ∀ {L : List (Nat × D)} {s : Sg} {i : Nat} {d : D}, (∀ d', (i, d') ∈ L → d' = d) → i < s.length → ((∃ d', (i, d') ∈ L) ∨ s[i]? = some (some d)) → (unlockS L s)[i]? = some (some d)
  | [], s, i, d, _, _, h => by
    rcases h with ⟨d', h⟩ | h
    · cases h
    · exact h
  | a :: L, s, i, d, h1, h2, h => by
    rw [unlockS_cons]
    refine unlock_get (fun d' z => h1 d' (List.mem_cons_of_mem _ z)) (by rw [List.length_set]; exact h2) ?_
    rw [List.getElem?_set]
    by_cases c : a.1 = i
    · right
      rw [if_pos c, if_pos (by omega), h1 a.2 (by rw [← c]; exact List.mem_cons_self ..)]
    · rw [if_neg c]
      rcases h with ⟨d', h⟩ | h
      · rcases List.mem_cons.mp h with z | z
        · exact absurd (by rw [← z]) c
        · exact .inl ⟨d', z⟩
      · exact .inr h
theorem gtP_lt : ∀ {p : Pt} {i : Nat} {d : D}, gtP p i = some d → i < p.length
  | [], _, _, h => by cases h
  | _ :: _, 0, _, _ => Nat.zero_lt_succ _
  | _ :: p, i + 1, _, h => Nat.succ_lt_succ (gtP_lt (p := p) h)
theorem clP_get : ∀ {vs : List Nat} {p : Pt} {i : Nat} {d : D}, gtP (clP vs p) i = some d → i ∉ vs ∧ gtP p i = some d
  | [], _, _, _, h => ⟨by simp, h⟩
  | v :: vs, p, i, d, h => by
    have hh : gtP (stP (clP vs p) v none) i = some d := h
    have h : gtP (stP (clP vs p) v none) i = some d := h
    rw [gtP_stP] at h
    by_cases c : v = i ∧ v < (clP vs p).length
    · rw [if_pos c] at h; cases h
    · rw [if_neg c] at h
      obtain ⟨h1, h2⟩ := clP_get h
      refine ⟨fun z => ?_, h2⟩
      rcases List.mem_cons.mp z with rfl | z
      · exact c ⟨rfl, by have := gtP_lt hh; rw [stP_len] at this; exact this⟩
      · exact h1 z
theorem clr_get : ∀ {vs : List Nat} {s : Sg} {i : Nat}, i ∉ vs → (clrS vs s)[i]? = s[i]?
  | [], _, _, _ => rfl
  | v :: vs, s, i, h => by
    rw [clrS_cons, List.getElem?_set, if_neg (fun z => h (by rw [z]; exact List.mem_cons_self ..)), clr_get fun z => h (List.mem_cons_of_mem _ z)]
theorem cl_own {vs : List Nat} {p : Pt} {s s0 : Sg} (m : Mt p s) : Mt (clP vs p) (clrS vs (lockS (ownSl vs s0) s)) := by
  have e : ∀ vs : List Nat, (clP vs p).length = p.length := by
    intro vs
    induction vs with
    | nil => rfl
    | cons v vs ih => show (stP _ _ _).length = _; rw [stP_len, ih]
  refine ⟨by rw [e, clr_len, lock_len, m.len], fun i d h => ?_⟩
  obtain ⟨h1, h2⟩ := clP_get h
  rw [clr_get h1, lock_get fun d' z => h1 (own_mem.mp z).1]
  exact m.has i d h2
def lcS (F : σ → β → Option (Option δ × σ)) : List β → σ → Option (List δ × σ)
  | [], s => some ([], s)
  | y :: ys, s => (F s y).bind fun w => (lcS F ys w.2).bind fun r => some ((match w.1 with
    | some d => d :: r.1
    | none => r.1), r.2)
theorem comp_S {t : Tg} {c : T} {e : O} {vs : List Nat} {ey : β → D} {ee : δ → D} {qb : σ → Pt} {F : σ → β → Option (Option δ × σ)}
    (hs : ∀ u y w, F u y = some w → ∀ s, Mt (qb u) s → ∃ s1 s2 b, asg t (ey y) s = some s1 ∧ c s1 = .ok b s2 ∧ ((b = false ∧ w.1 = none ∧ Mt (qb w.2) (clrS vs s2)) ∨ (b = true ∧ ∃ d r s3, w.1 = some d ∧ e s2 = .ok r s3 ∧ own r s3 = some (ee d) ∧ Mt (qb w.2) (clrS vs s3)))) :
    ∀ (ys : List β) (u : σ) (acc : List D) (z : List δ × σ) (s : Sg), lcS F ys u = some z → acc.length + ys.length ≤ 1000000 → Mt (qb u) s → ∃ s', compL t c e vs (ys.map ey) acc s = .ok (acc ++ z.1.map ee) s' ∧ Mt (qb z.2) s'
  | [], u, acc, z, s, h, _, m => by cases h; exact ⟨s, by simp, m⟩
  | y :: ys, u, acc, z, s, h, hl, m => by
    obtain ⟨w, e1, e2⟩ := Option.bind_eq_some_iff.mp h
    obtain ⟨r, e3, e4⟩ := Option.bind_eq_some_iff.mp e2
    rw [List.length_cons] at hl
    obtain ⟨s1, s2, b, a1, a2, a3⟩ := hs u y w e1 s m
    rcases a3 with ⟨rfl, hw, m2⟩ | ⟨rfl, d, rr, s3, hw, b1, b2, m2⟩
    · obtain ⟨s', c1, c2⟩ := comp_S hs ys w.2 acc r _ e3 (by omega) m2
      cases e4
      refine ⟨s', ?_, c2⟩
      rw [hw]
      rw [List.map_cons, compL]
      simp only [a1, a2, ev_ok, Bool.false_eq_true, if_false, c1]
    · obtain ⟨s', c1, c2⟩ := comp_S hs ys w.2 (acc ++ [ee d]) r _ e3 (by rw [List.length_append, List.length_singleton]; omega) m2
      cases e4
      refine ⟨s', ?_, c2⟩
      rw [hw]
      rw [List.map_cons, compL]
      simp only [a1, a2, ev_ok, if_true, b1, b2]
      rw [if_pos (by omega), c1]
      simp
section
variable {p : Pt} {it : I} {ey : β → D} {ys : α → List β} {lk : α → List (Nat × D)} {q : α → Pt} {F : (α → Option γ) → Option γ} {t : Tg} {c : T} {e : O} {vs : List Nat} {ee : δ → D}
theorem x_compG {qb : α → σ → Pt} {s0 : α → σ} {G : α → σ → β → Option (Option δ × σ)} {p' : α → σ → Pt} (h : XI p it ey ys lk q F) (hv : nodupB vs = true) (h0 : ∀ x, Wk (qb x (s0 x)) (clP vs (lkP (lk x) (q x))))
    (hs : ∀ x u y w, G x u y = some w → ∀ s, Mt (qb x u) s → ∃ s1 s2 b, asg t (ey y) s = some s1 ∧ c s1 = .ok b s2 ∧ ((b = false ∧ w.1 = none ∧ Mt (qb x w.2) (clrS vs s2)) ∨ (b = true ∧ ∃ d r s3, w.1 = some d ∧ e s2 = .ok r s3 ∧ own r s3 = some (ee d) ∧ Mt (qb x w.2) (clrS vs s3))))
    (hp : ∀ x u, (p' x u).length = (qb x u).length ∧ (qb x u).length = (q x).length ∧ ∀ i d, gtP (p' x u) i = some d → gtP (q x) i = some d ∧ (i ∈ vs ∨ i ∈ (lk x).map (·.1)) ∨ gtP (qb x u) i = some d ∧ i ∉ vs ∧ i ∉ (lk x).map (·.1)) :
    X true p (oComp it t c e vs) (fun w : α × List δ × σ => eL ee w.2.1) (fun w => p' w.1 w.2.2) (fun k => F fun x => lim (ys x).length ((lcS (G x) (ys x) (s0 x)).bind fun z => k (x, z))) := fun k z e0 => by
  obtain ⟨x, e1, hx, h⟩ := h _ z e0
  unfold lim at e1
  by_cases hl : (ys x).length ≤ 1000000
  · rw [if_pos hl] at e1
    obtain ⟨w, e2, e3⟩ := Option.bind_eq_some_iff.mp e1
    refine ⟨(x, w), e3, fun s mm => ?_⟩
    obtain ⟨s1, a1, a2⟩ := h s mm
    obtain ⟨s2, b1, b2⟩ := comp_S (hs x) (ys x) (s0 x) [] w _ e2 (by simpa using hl) ((cl_own (vs := vs) (s0 := lockS (lk x) s1) (a2.lk (lk x))).wk (h0 x))
    refine ⟨.val (eL ee w.1), unlockS (ownSl vs (lockS (lk x) s1) ++ lk x) s2, ?_, ?_, .inl rfl⟩
    · unfold oComp
      rw [a1, ev_ok, if_pos (own_nodup hv), b1, ev_ok]
      rfl
    · obtain ⟨l1, l2, l3⟩ := hp x w.2
      refine ⟨by rw [unlock_len, l1, b2.len], fun i d hi => ?_⟩
      have hi2 : i < s2.length := by rw [← b2.len, ← l1]; exact gtP_lt hi
      refine unlock_get (fun d' z => ?_) hi2 ?_
      · rcases l3 i d hi with ⟨z1, z2⟩ | ⟨z1, z2, z3⟩
        · rcases List.mem_append.mp z with y | y
          · obtain ⟨y1, y2⟩ := own_mem.mp y
            by_cases c : ∃ d2, (i, d2) ∈ lk x
            · obtain ⟨d2, c⟩ := c
              have : ∀ (L : List (Nat × D)) (s : Sg), (i, d2) ∈ L → (lockS L s)[i]?.join = none := by
                intro L
                induction L with
                | nil => intro s z; cases z
                | cons a L ih =>
                  intro s z
                  rw [lockS_cons]
                  by_cases c2 : ∃ d3, (i, d3) ∈ L
                  · obtain ⟨d3, c2⟩ := c2
                    have : ∀ (L : List (Nat × D)) (s : Sg), ((s[i]?).join = none ∨ ∃ d3, (i, d3) ∈ L) → (lockS L s)[i]?.join = none := by
                      intro L
                      induction L with
                      | nil => intro s z; rcases z with z | ⟨_, z⟩; exact z; cases z
                      | cons b L ih =>
                        intro s z
                        rw [lockS_cons]
                        refine ih _ ?_
                        rw [List.getElem?_set]
                        by_cases c : b.1 = i
                        · left; rw [if_pos c]; split <;> rfl
                        · rw [if_neg c]
                          rcases z with z | ⟨d4, z⟩
                          · exact .inl z
                          · rcases List.mem_cons.mp z with z | z
                            · exact absurd (by rw [← z]) c
                            · exact .inr ⟨d4, z⟩
                    exact this L _ (.inr ⟨d3, c2⟩)
                  · rw [lock_get (fun d3 z => c2 ⟨d3, z⟩), List.getElem?_set]
                    rcases List.mem_cons.mp z with z | z
                    · have : a.1 = i := by rw [← z]
                      rw [if_pos this]; split <;> rfl
                    · exact absurd ⟨d2, z⟩ c2
              rw [this (lk x) s1 c] at y2
              cases y2
            · rw [lock_get (fun d3 z => c ⟨d3, z⟩)] at y2
              have := a2.get z1
              rw [y2] at this
              cases this; rfl
          · have := hx i d' y
            rw [z1] at this
            cases this; rfl
        · rcases List.mem_append.mp z with y | y
          · exact absurd (own_mem.mp y).1 z2
          · exact absurd (List.mem_map.mpr ⟨_, y, rfl⟩) z3
      · rcases l3 i d hi with ⟨z1, z2⟩ | ⟨z1, z2, z3⟩
        · left
          by_cases c : i ∈ (lk x).map (·.1)
          · obtain ⟨a, ha, hb⟩ := List.mem_map.mp c
            obtain ⟨a1', a2'⟩ := a
            have hb : a1' = i := hb
            subst hb
            exact ⟨a2', List.mem_append_right _ ha⟩
          · rcases z2 with z2 | z2
            · refine ⟨d, List.mem_append_left _ (own_mem.mpr ⟨z2, ?_⟩)⟩
              rw [lock_get (fun d3 z => c (List.mem_map.mpr ⟨_, z, rfl⟩))]
              exact a2.get z1
            · exact absurd z2 c
        · right; exact b2.has i d z1
  · rw [if_neg hl] at e1; cases e1
end
theorem clP_len : ∀ (vs : List Nat) (p : Pt), (clP vs p).length = p.length
  | [], _ => rfl
  | v :: vs, p => by show (stP _ _ _).length = _; rw [stP_len, clP_len vs]
theorem lkP_len : ∀ (L : List (Nat × D)) (p : Pt), (lkP L p).length = p.length
  | [], _ => rfl
  | a :: L, p => by show (lkP L (stP p a.1 none)).length = _; rw [lkP_len L, stP_len]
theorem clP_keep : ∀ {vs : List Nat} {p : Pt} {i : Nat}, i ∉ vs → gtP (clP vs p) i = gtP p i
  | [], _, _, _ => rfl
  | v :: vs, p, i, h => by
    show gtP (stP (clP vs p) v none) i = _
    rw [gtP_stP, if_neg, clP_keep fun z => h (List.mem_cons_of_mem _ z)]
    rintro ⟨z, _⟩
    exact h (by rw [z]; exact List.mem_cons_self ..)
theorem lkP_keep : ∀ {L : List (Nat × D)} {p : Pt} {i : Nat}, i ∉ L.map (·.1) → gtP (lkP L p) i = gtP p i
  | [], _, _, _ => rfl
  | a :: L, p, i, h => by
    show gtP (lkP L (stP p a.1 none)) i = _
    rw [lkP_keep (fun z => h (by rw [List.map_cons]; exact List.mem_cons_of_mem _ z)), gtP_stP, if_neg]
    rintro ⟨z, _⟩
    exact h (by rw [List.map_cons, z]; exact List.mem_cons_self ..)
def mixP : List Nat → Pt → Pt → Pt
  | [], _, b => b
  | k :: ks, a, b => stP (mixP ks a b) k (gtP a k)
theorem mixP_len : ∀ (ks : List Nat) (a b : Pt), (mixP ks a b).length = b.length
  | [], _, _ => rfl
  | k :: ks, a, b => by show (stP _ _ _).length = _; rw [stP_len, mixP_len ks]
theorem mixP_get : ∀ {ks : List Nat} {a b : Pt} {i : Nat} {d : D}, gtP (mixP ks a b) i = some d → (gtP a i = some d ∧ i ∈ ks) ∨ (gtP b i = some d ∧ i ∉ ks)
  | [], _, _, _, _, h => .inr ⟨h, by simp⟩
  | k :: ks, a, b, i, d, h => by
    have hh : gtP (stP (mixP ks a b) k (gtP a k)) i = some d := h
    rw [gtP_stP] at hh
    by_cases c : k = i ∧ k < (mixP ks a b).length
    · rw [if_pos c] at hh
      left
      rw [← c.1]
      exact ⟨hh, List.mem_cons_self ..⟩
    · rw [if_neg c] at hh
      rcases mixP_get hh with ⟨z1, z2⟩ | ⟨z1, z2⟩
      · exact .inl ⟨z1, List.mem_cons_of_mem _ z2⟩
      · refine .inr ⟨z1, fun z => ?_⟩
        rcases List.mem_cons.mp z with z | z
        · refine c ⟨z.symm, ?_⟩
          rw [mixP_len, ← z]; exact gtP_lt z1
        · exact z2 z
section
variable {p : Pt} {it : I} {ey : β → D} {ys : α → List β} {lk : α → List (Nat × D)} {q : α → Pt} {F : (α → Option γ) → Option γ} {t : Tg} {c : T} {e : O} {vs : List Nat} {ee : δ → D}
theorem X.cvF {p : Pt} {g : O} {v : α → D} {q : α → Pt} {F F' : (α → Option γ) → Option γ} {vl : Bool} (h : X vl p g v q F) (e : F = F') : X vl p g v q F' := e ▸ h
/-- with a state: what is told ahead and behind -/
theorem x_compS {vl : Bool} {pb : α → σ → β → Pt} {cv : α → σ → β → ε → Bool} {qc : α → σ → β → ε → Pt} {Fc : α → σ → β → (ε → Option (Option δ × σ)) → Option (Option δ × σ)}
    {ev : α → σ → β → ε → ζ → δ} {qe : α → σ → β → ε → ζ → Pt} {Fe : α → σ → β → ε → (ζ → Option (Option δ × σ)) → Option (Option δ × σ)}
    (h : XI p it ey ys lk q F) (ks : List Nat) (qb : α → σ → Pt) (s0 : α → σ) (hv : nodupB vs = true) (hk : ∀ x, (lk x).map (·.1) = ks) (hq : ∀ x u, (qb x u).length = (q x).length) (h0 : ∀ x, Wk (qb x (s0 x)) (clP vs (lkP (lk x) (q x)))) (hT : ∀ x u y, As t (ey y) (qb x u) (pb x u y))
    (hc : ∀ x u y, XT (pb x u y) c (cv x u y) (qc x u y) (Fc x u y)) (he : ∀ x u y w, X vl (qc x u y w) e (fun w2 => ee (ev x u y w w2)) (qe x u y w) (Fe x u y w)) (ho : vl = true ∨ Pu ee) (un : α → σ → β → ε → ζ → σ) (u0 : α → σ → β → ε → σ)
    (hn : ∀ x u y w w2, Wk (qb x (un x u y w w2)) (clP vs (qe x u y w w2))) (hn0 : ∀ x u y w, Wk (qb x (u0 x u y w)) (clP vs (qc x u y w))) :
    X true p (oComp it t c e vs) (fun w : α × List δ × σ => eL ee w.2.1) (fun w => mixP (vs ++ ks) (q w.1) (qb w.1 w.2.2))
      (fun k => F fun x => lim (ys x).length ((lcS (fun u y => Fc x u y fun w => if cv x u y w = true then Fe x u y w fun w2 => some (some (ev x u y w w2), un x u y w w2) else some (none, u0 x u y w)) (ys x) (s0 x)).bind fun z => k (x, z))) :=
  x_compG (G := fun x u y => Fc x u y fun w => if cv x u y w = true then Fe x u y w fun w2 => some (some (ev x u y w w2), un x u y w w2) else some (none, u0 x u y w)) (p' := fun x u => mixP (vs ++ ks) (q x) (qb x u)) h hv h0 (fun x u y w e1 s m => by
    obtain ⟨s1, a1, a2⟩ := hT x u y s m
    obtain ⟨w1, e2, hc⟩ := hc x u y _ _ e1
    obtain ⟨s2, b1, b2⟩ := hc s1 a2
    refine ⟨s1, s2, _, a1, b1, ?_⟩
    cases hb : cv x u y w1 with
    | false =>
      rw [if_neg (by simp [hb])] at e2
      cases e2
      exact .inl ⟨rfl, rfl, (b2.cl vs).wk (hn0 x u y w1)⟩
    | true =>
      rw [if_pos hb] at e2
      obtain ⟨w2, e3, he⟩ := he x u y w1 _ _ e2
      obtain ⟨r, s3, c1, c2, c3⟩ := he s2 b2
      cases e3
      exact .inr ⟨rfl, _, r, s3, rfl, c1, c3.own c2 (ho.imp id fun z => z _), (c2.cl vs).wk (hn x u y w1 w2)⟩) (fun x u => by
    refine ⟨mixP_len .., hq x u, fun i d hi => ?_⟩
    rw [hk x]
    rcases mixP_get hi with ⟨z1, z2⟩ | ⟨z1, z2⟩
    · exact .inl ⟨z1, List.mem_append.mp z2⟩
    · exact .inr ⟨z1, fun z => z2 (List.mem_append_left _ z), fun z => z2 (List.mem_append_right _ z)⟩)
theorem x_compU {vl : Bool} {pb : α → σ → β → Pt} {ev : α → σ → β → ζ → δ} {qe : α → σ → β → ζ → Pt} {Fe : α → σ → β → (ζ → Option (Option δ × σ)) → Option (Option δ × σ)}
    (h : XI p it ey ys lk q F) (ks : List Nat) (qb : α → σ → Pt) (s0 : α → σ) (hv : nodupB vs = true) (hk : ∀ x, (lk x).map (·.1) = ks) (hq : ∀ x u, (qb x u).length = (q x).length) (h0 : ∀ x, Wk (qb x (s0 x)) (clP vs (lkP (lk x) (q x)))) (hT : ∀ x u y, As t (ey y) (qb x u) (pb x u y))
    (he : ∀ x u y, X vl (pb x u y) e (fun w2 => ee (ev x u y w2)) (qe x u y) (Fe x u y)) (ho : vl = true ∨ Pu ee) (un : α → σ → β → ζ → σ)
    (hn : ∀ x u y w2, Wk (qb x (un x u y w2)) (clP vs (qe x u y w2))) (hn0 : ∀ x u y, Wk (qb x u) (clP vs (pb x u y))) :
    X true p (oComp it t tYesT e vs) (fun w : α × List δ × σ => eL ee w.2.1) (fun w => mixP (vs ++ ks) (q w.1) (qb w.1 w.2.2))
      (fun k => F fun x => lim (ys x).length ((lcS (fun u y => Fe x u y fun w2 => some (some (ev x u y w2), un x u y w2)) (ys x) (s0 x)).bind fun z => k (x, z))) :=
  (x_compS (cv := fun _ _ _ (_ : Unit) => true) (ev := fun x u y _ => ev x u y) h ks qb s0 hv hk hq h0 hT (fun _ _ _ => xt_yes) (fun x u y _ => he x u y) ho (fun x u y _ => un x u y) (fun _ u _ _ => u) (fun x u y _ => hn x u y) (fun x u y _ => hn0 x u y)).cvF
    (funext fun k => congrArg F (funext fun x => congrArg (lim _) (congrArg (fun f => (lcS f (ys x) (s0 x)).bind fun z => k (x, z)) (funext fun u => funext fun y => if_pos rfl))))
theorem pureP {x : α} : (q x).length = (clP vs (lkP (lk x) (q x))).length ∧ (clP vs (lkP (lk x) (q x))).length = (q x).length ∧ ∀ i d, gtP (q x) i = some d → gtP (q x) i = some d ∧ (i ∈ vs ∨ i ∈ (lk x).map (·.1)) ∨ gtP (clP vs (lkP (lk x) (q x))) i = some d ∧ i ∉ vs ∧ i ∉ (lk x).map (·.1) := by
  have e : (clP vs (lkP (lk x) (q x))).length = (q x).length := by rw [clP_len, lkP_len]
  refine ⟨e.symm, e, fun i d hi => ?_⟩
  by_cases c : i ∈ vs ∨ i ∈ (lk x).map (·.1)
  · exact .inl ⟨hi, c⟩
  · have c1 : i ∉ vs := fun z => c (.inl z)
    have c2 : i ∉ (lk x).map (·.1) := fun z => c (.inr z)
    exact .inr ⟨by rw [clP_keep c1, lkP_keep c2, hi], c1, c2⟩
/-- nothing changes -/
theorem x_compP {vl : Bool} {pb : α → β → Pt} {cv : α → β → ε → Bool} {Fc : α → β → (ε → Option (Option δ × Unit)) → Option (Option δ × Unit)}
    {ev : α → β → ε → ζ → δ} {Fe : α → β → ε → (ζ → Option (Option δ × Unit)) → Option (Option δ × Unit)}
    (h : XI p it ey ys lk q F) (hv : nodupB vs = true) (hT : ∀ x y, As t (ey y) (clP vs (lkP (lk x) (q x))) (pb x y))
    (hc : ∀ x y, XT (pb x y) c (cv x y) (fun _ => pb x y) (Fc x y)) (he : ∀ x y w, X vl (pb x y) e (fun w2 => ee (ev x y w w2)) (fun _ => pb x y) (Fe x y w)) (ho : vl = true ∨ Pu ee)
    (hn : ∀ x y, Wk (clP vs (lkP (lk x) (q x))) (clP vs (pb x y))) :
    X true p (oComp it t c e vs) (fun w : α × List δ × Unit => eL ee w.2.1) (fun w => q w.1)
      (fun k => F fun x => lim (ys x).length ((lcS (fun _ y => Fc x y fun w => if cv x y w = true then Fe x y w fun w2 => some (some (ev x y w w2), ()) else some (none, ())) (ys x) ()).bind fun z => k (x, z))) :=
  x_compG (G := fun x _ y => Fc x y fun w => if cv x y w = true then Fe x y w fun w2 => some (some (ev x y w w2), ()) else some (none, ())) (qb := fun x _ => clP vs (lkP (lk x) (q x))) (s0 := fun _ => ()) (p' := fun x _ => q x) h hv (fun x => Wk.refl _) (fun x u y w e1 s m => by
    obtain ⟨s1, a1, a2⟩ := hT x y s m
    obtain ⟨w1, e2, hc⟩ := hc x y _ _ e1
    obtain ⟨s2, b1, b2⟩ := hc s1 a2
    refine ⟨s1, s2, _, a1, b1, ?_⟩
    cases hb : cv x y w1 with
    | false =>
      rw [if_neg (by simp [hb])] at e2
      cases e2
      exact .inl ⟨rfl, rfl, (b2.cl vs).wk (hn x y)⟩
    | true =>
      rw [if_pos hb] at e2
      obtain ⟨w2, e3, he⟩ := he x y w1 _ _ e2
      obtain ⟨r, s3, c1, c2, c3⟩ := he s2 b2
      cases e3
      exact .inr ⟨rfl, _, r, s3, rfl, c1, c3.own c2 (ho.imp id fun z => z _), (c2.cl vs).wk (hn x y)⟩) (fun x u => pureP)
theorem lcS_map (f : β → δ) : ∀ ys : List β, lcS (fun (_ : Unit) y => some (some (f y), ())) ys () = some (ys.map f, ())
  | [] => rfl
  | y :: ys => by
    show (lcS _ ys ()).bind _ = _
    rw [lcS_map f ys]; rfl
def mapO (f : β → Option δ) : List β → Option (List δ)
  | [] => some []
  | y :: ys => (f y).bind fun z => (mapO f ys).bind fun zs => some (z :: zs)
theorem mapO_some {f : β → Option δ} {g : β → δ} : ∀ {ys : List β}, (∀ y ∈ ys, f y = some (g y)) → mapO f ys = some (ys.map g)
  | [], _ => rfl
  | y :: ys, h => by
    rw [mapO, h y (List.mem_cons_self ..), mapO_some fun z hz => h z (List.mem_cons_of_mem _ hz)]; rfl
/-- every one, each sure to be told -/
theorem x_mapT {vl : Bool} {pb : α → β → Pt} {ev : α → β → ζ → δ} {y1 : α → β → ζ}
    (h : XI p it ey ys lk q F) (hv : nodupB vs = true) (hT : ∀ x y, As t (ey y) (clP vs (lkP (lk x) (q x))) (pb x y))
    (he : ∀ x y, X (γ := Option δ × Unit) vl (pb x y) e (fun w2 => ee (ev x y w2)) (fun _ => pb x y) (fun k => k (y1 x y))) (ho : vl = true ∨ Pu ee)
    (hn : ∀ x y, Wk (clP vs (lkP (lk x) (q x))) (clP vs (pb x y))) :
    X true p (oComp it t tYesT e vs) (fun w : α × List δ × Unit => eL ee w.2.1) (fun w => q w.1) (fun k => F fun x => lim (ys x).length (k (x, (ys x).map (fun y => ev x y (y1 x y)), ()))) := by
  refine (x_compP (cv := fun _ _ (_ : Unit) => true) (ev := fun x y _ => ev x y) h hv hT (fun x y => xt_yes) (fun x y _ => he x y) ho hn).cvF (funext fun k => congrArg F (funext fun x => congrArg (lim _) ?_))
  have := lcS_map (fun y => ev x y (y1 x y)) (ys x)
  show (lcS (fun _ y => some (some (ev x y (y1 x y)), ())) (ys x) ()).bind _ = _
  rw [this]; rfl
/-- every one, each perhaps told -/
theorem x_mapP {vl : Bool} {pb : α → β → Pt} {ev : α → β → ζ → δ} {Fe : α → β → (ζ → Option (Option δ × Unit)) → Option (Option δ × Unit)}
    (h : XI p it ey ys lk q F) (hv : nodupB vs = true) (hT : ∀ x y, As t (ey y) (clP vs (lkP (lk x) (q x))) (pb x y))
    (he : ∀ x y, X vl (pb x y) e (fun w2 => ee (ev x y w2)) (fun _ => pb x y) (Fe x y)) (ho : vl = true ∨ Pu ee) (Ge : α → β → Option δ)
    (hn : ∀ x y, Wk (clP vs (lkP (lk x) (q x))) (clP vs (pb x y))) (hg : ∀ x y z, Ge x y = some z → Fe x y (fun w2 => some (some (ev x y w2), ())) = some (some z, ())) :
    X true p (oComp it t tYesT e vs) (fun w : α × List δ × Unit => eL ee w.2.1) (fun w => q w.1) (fun k => F fun x => lim (ys x).length ((mapO (Ge x) (ys x)).bind fun zs => k (x, zs, ()))) := by
  have key : ∀ (x : α) (l : List β), lcS (fun (_ : Unit) y => (Ge x y).bind fun z => some (some z, ())) l () = (mapO (Ge x) l).bind fun zs => some (zs, ()) := by
    intro x l
    induction l with
    | nil => rfl
    | cons y l ih =>
      show ((Ge x y).bind _).bind _ = ((Ge x y).bind _).bind _
      cases h : Ge x y with
      | none => rfl
      | some z =>
        rw [Option.bind_some, Option.bind_some, Option.bind_some, ih]
        cases h2 : mapO (Ge x) l <;> rfl
  have hh := x_compG (γ := γ) (e := e) (ee := ee) (c := tYesT) (G := fun x (_ : Unit) y => (Ge x y).bind fun z => some (some z, ())) (qb := fun x _ => clP vs (lkP (lk x) (q x))) (s0 := fun _ => ()) (p' := fun x _ => q x) h hv (fun x => Wk.refl _) (fun x u y w e1 s m => by
    obtain ⟨s1, a1, a2⟩ := hT x y s m
    obtain ⟨z, e2, e3⟩ := Option.bind_eq_some_iff.mp e1
    cases e3
    obtain ⟨w2, e4, he⟩ := he x y _ _ (hg x y z e2)
    obtain ⟨r, s3, c1, c2, c3⟩ := he s1 a2
    have e5 : ev x y w2 = z := by cases e4; rfl
    refine ⟨s1, s1, true, a1, rfl, .inr ⟨rfl, z, r, s3, rfl, c1, ?_, (c2.cl vs).wk (hn x y)⟩⟩
    rw [c3.own c2 (ho.imp id fun z => z _)]
    show some (ee (ev x y w2)) = _
    rw [e5]) (fun x u => pureP)
  refine hh.cvF (funext fun k => congrArg F (funext fun x => congrArg (lim _) ?_))
  show (lcS (fun (_ : Unit) y => (Ge x y).bind fun z => some (some z, ())) (ys x) ()).bind _ = _
  rw [key x (ys x)]
  cases mapO (Ge x) (ys x) <;> rfl
end
end
end Sim
namespace Sim
open PySem PySem.Spec L2
section
variable {α β δ : Type}
structure Eqv [DecidableEq α] (n : Nat) (e : α → D) : Prop where
  lay : ∀ x, PyData.canLay0 (e x) = true
  dep : ∀ x, PyData.depth (e x) ≤ n
  nod : ∀ x, noD (e x) = true
  eq : ∀ x y, PyData.eqv (e x) (e y) = decide (x = y)
theorem eqI : Eqv 0 eI := ⟨fun _ => rfl, fun _ => Nat.le_refl _, fun _ => rfl, fun x y => by simp [PyData.eqv]; rfl⟩
theorem eqv_all [DecidableEq α] {n : Nat} {e : α → D} (h : Eqv n e) : ∀ xs ys : List α, PyData.eqvAll (xs.map e) (ys.map e) = decide (xs = ys)
  | [], [] => by simp [PyData.eqvAll]
  | [], _ :: _ => by simp [PyData.eqvAll]
  | _ :: _, [] => by simp [PyData.eqvAll]
  | x :: xs, y :: ys => by
    rw [List.map_cons, List.map_cons, PyData.eqvAll, h.eq, eqv_all h xs ys, Bool.eq_iff_iff]
    simp
theorem lay_all {n : Nat} [DecidableEq α] {e : α → D} (h : Eqv n e) : ∀ xs : List α, PyData.canLayAll0 (xs.map e) = true ∧ PyData.depthAll (xs.map e) ≤ n ∧ noDs (xs.map e) = true
  | [] => ⟨rfl, Nat.zero_le _, rfl⟩
  | x :: xs => by
    obtain ⟨a, b, c⟩ := lay_all h xs
    refine ⟨?_, ?_, ?_⟩
    · rw [List.map_cons, PyData.canLayAll0, h.lay, a]; rfl
    · rw [List.map_cons, PyData.depthAll]; exact Nat.max_le.mpr ⟨h.dep x, b⟩
    · rw [List.map_cons, noDs, h.nod, c]; rfl
theorem eqL [DecidableEq α] {n : Nat} {e : α → D} (h : Eqv n e) : Eqv (n + 1) (eL e) :=
  ⟨fun x => by rw [eL, PyData.canLay0]; exact (lay_all h x).1, fun x => by rw [eL, PyData.depth]; have := (lay_all h x).2.1; omega, fun x => by rw [eL, noD]; exact (lay_all h x).2.2, fun x y => by rw [eL, eL, PyData.eqv, eqv_all h]⟩
theorem eqT [DecidableEq α] {n : Nat} {e : α → D} (h : Eqv n e) : Eqv (n + 1) (eT e) :=
  ⟨fun x => by rw [eT, PyData.canLay0]; exact (lay_all h x).1, fun x => by rw [eT, PyData.depth]; have := (lay_all h x).2.1; omega, fun x => by rw [eT, noD]; exact (lay_all h x).2.2, fun x y => by rw [eT, eT, PyData.eqv, eqv_all h]⟩
theorem Eqv.up [DecidableEq α] {n m : Nat} {e : α → D} (h : Eqv n e) (z : n ≤ m) : Eqv m e := ⟨h.lay, fun x => Nat.le_trans (h.dep x) z, h.nod, h.eq⟩
theorem eqP [DecidableEq α] [DecidableEq β] {n m : Nat} {a : α → D} {b : β → D} (h : Eqv n a) (h2 : Eqv m b) : Eqv (max n m + 1) (eP a b) :=
  ⟨fun x => by simp [eP, PyData.canLay0, PyData.canLayAll0, h.lay, h2.lay], fun x => by simp [eP, PyData.depth, PyData.depthAll]; have := h.dep x.1; have := h2.dep x.2; omega, fun x => by simp [eP, noD, noDs, h.nod, h2.nod],
   fun x y => by
    obtain ⟨x1, x2⟩ := x
    obtain ⟨y1, y2⟩ := y
    rw [eP, eP, PyData.eqv, PyData.eqvAll, PyData.eqvAll, PyData.eqvAll, h.eq, h2.eq, Bool.eq_iff_iff]
    simp⟩
theorem Eqv.shp [DecidableEq α] {n : Nat} {e : α → D} (h : Eqv n e) (z : n ≤ 64) (x : α) : shp (e x) = true := by
  have := h.dep x
  simp only [Sim.shp, SeqAt.shaped, h.lay, h.nod, Bool.true_and, Bool.and_true, decide_eq_true_eq]
  omega
theorem op_eq [DecidableEq α] {n : Nat} {e : α → D} (h : Eqv n e) (z : n ≤ 64) (x y : α) : pEq [e x, e y] = some (.bool (decide (x = y))) := by
  rw [ev_eq, if_pos ⟨h.shp z x, h.shp z y⟩, h.eq]
theorem op_ne [DecidableEq α] {n : Nat} {e : α → D} (h : Eqv n e) (z : n ≤ 64) (x y : α) : pNe [e x, e y] = some (.bool (!decide (x = y))) := by
  rw [ev_ne, if_pos ⟨h.shp z x, h.shp z y⟩, h.eq]
theorem op_add (i j : Int) : pAdd [.int i, .int j] = some (.int (i + j)) := rfl
theorem op_sub' (i j : Int) : pSub [.int i, .int j] = some (.int (i - j)) := rfl
theorem op_lt' (i j : Int) : pLt [.int i, .int j] = some (.bool (decide (i < j))) := rfl
theorem op_le' (i j : Int) : pLe [.int i, .int j] = some (.bool (decide (i ≤ j))) := rfl
theorem op_gt' (i j : Int) : pGt [.int i, .int j] = some (.bool (decide (j < i))) := rfl
theorem op_ge' (i j : Int) : pGe [.int i, .int j] = some (.bool (decide (j ≤ i))) := rfl
theorem op_mulL {a b : Int} (h : -(2 ^ 64) < a ∧ a < 2 ^ 64) : pMul [.int a, .int b] = some (.int (a * b)) := by
  rw [ev_mul, if_pos (mulOk_l h.1 h.2)]
theorem op_mulR {a b : Int} (h : -(2 ^ 64) < b ∧ b < 2 ^ 64) : pMul [.int a, .int b] = some (.int (a * b)) := by
  rw [ev_mul, if_pos (mulOk_r h.1 h.2)]
theorem op_mulB (a : Int) (b : Bool) : pMul [.int a, .int (if b = true then 1 else 0)] = some (.int (a * (if b = true then 1 else 0))) :=
  op_mulR (by cases b <;> decide)
def mulT (a b : Int) : Option Int := if mulOk a b = true then some (a * b) else none
theorem op_mul {a b z : Int} (h : mulT a b = some z) : pMul [.int a, .int b] = some (.int z) := by
  unfold mulT at h
  split at h
  · rename_i c; cases h; rw [ev_mul, if_pos c]
  · cases h
theorem op_divC {i c : Int} (h : 0 < c ∧ c.natAbs.log2 < 9000) : pDiv [.int i, .int c] = some (.int (i / c)) := by rw [ev_div, if_pos h]
theorem op_modC {i c : Int} (h : 0 < c) : pMod [.int i, .int c] = some (.int (i % c)) := by rw [ev_mod, if_pos h]
def divT (a b : Int) : Option Int := if 0 < b ∧ b.natAbs.log2 < 9000 then some (a / b) else none
theorem op_div {a b z : Int} (h : divT a b = some z) : pDiv [.int a, .int b] = some (.int z) := by
  unfold divT at h
  split at h
  · rename_i c; cases h; rw [ev_div, if_pos c]
  · cases h
def modT (a b : Int) : Option Int := if 0 < b then some (a % b) else none
theorem op_mod' {a b z : Int} (h : modT a b = some z) : pMod [.int a, .int b] = some (.int z) := by
  unfold modT at h
  split at h
  · rename_i c; cases h; rw [ev_mod, if_pos c]
  · cases h
theorem op_powC {a b c : Int} (h : 0 ≤ b ∧ b ≤ 1000000 ∧ a.natAbs < 2 ^ 64) (e : a ^ b.toNat = c) : pPow [.int a, .int b] = some (.int c) := by rw [ev_pow, if_pos h, e]
theorem op_max2 (i j : Int) : pMax2 [.int i, .int j] = some (.int (max i j)) := rfl
theorem op_min2 (i j : Int) : pMin2 [.int i, .int j] = some (.int (min i j)) := rfl
def absT (i : Int) : Int := if i < 0 then -i else i
theorem op_abs (i : Int) : pAbs [.int i] = some (.int (absT i)) := rfl
theorem op_intB (b : Bool) : pInt [.bool b] = some (.int (if b = true then 1 else 0)) := rfl
theorem atI_map {e : α → D} {xs : List α} {i : Int} {z : α} (h : atI xs i = some z) : atI (xs.map e) i = some (e z) := by
  unfold atI at h ⊢
  obtain ⟨j, h1, h2⟩ := Option.bind_eq_some_iff.mp h
  rw [List.length_map, h1]
  show (xs.map e)[j]? = _
  rw [List.getElem?_map, h2]; rfl
theorem op_ixL {e : α → D} (p : Pu e) {xs : List α} {i : Int} {z : α} (h : atI xs i = some z) : pIx [eL e xs, .int i] = some (e z) := by
  rw [eL, ev_ixL, atI_map h, ev_puO, if_pos (p z)]
theorem op_ixT {e : α → D} (p : Pu e) {xs : List α} {i : Int} {z : α} (h : atI xs i = some z) : pIx [eT e xs, .int i] = some (e z) := by
  rw [eT, ev_ixT, atI_map h, ev_puO, if_pos (p z)]
theorem op_ixZ {xs : List Int} {i z : Int} (h : atI xs i = some z) : pIx [eZ xs, .int i] = some (.int z) := by
  rw [eZ, ev_ixF, atI_map h, ev_puO, if_pos (pur_int _)]
theorem op_ixP0 {a : α → D} {b : β → D} (p : Pu a) (x : α × β) : pIx [eP a b x, .int 0] = some (a x.1) := by
  show puO (some (a x.1)) = _
  rw [ev_puO, if_pos (p _)]
theorem op_ixP1 {a : α → D} {b : β → D} (p : Pu b) (x : α × β) : pIx [eP a b x, .int 1] = some (b x.2) := by
  show puO (some (b x.2)) = _
  rw [ev_puO, if_pos (p _)]
def atP (x : α × α) (i : Int) : Option α := atI [x.1, x.2] i
theorem op_ixPd {a : α → D} (p : Pu a) {x : α × α} {i : Int} {z : α} (h : atP x i = some z) : pIx [eP a a x, .int i] = some (a z) :=
  op_ixT (xs := [x.1, x.2]) p h
theorem op_ixQ0 {a : α → D} {b : β → D} {c : δ → D} (p : Pu a) (x : α × β × δ) : pIx [eQ a b c x, .int 0] = some (a x.1) := by
  show puO (some (a x.1)) = _
  rw [ev_puO, if_pos (p _)]
theorem op_ixQ1 {a : α → D} {b : β → D} {c : δ → D} (p : Pu b) (x : α × β × δ) : pIx [eQ a b c x, .int 1] = some (b x.2.1) := by
  show puO (some (b x.2.1)) = _
  rw [ev_puO, if_pos (p _)]
theorem op_ixQ2 {a : α → D} {b : β → D} {c : δ → D} (p : Pu c) (x : α × β × δ) : pIx [eQ a b c x, .int 2] = some (c x.2.2) := by
  show puO (some (c x.2.2)) = _
  rw [ev_puO, if_pos (p _)]
theorem op_lenL {e : α → D} (xs : List α) : pLen [eL e xs] = some (.int (xs.length : Int)) := by rw [eL, ev_lenL, List.length_map]
theorem op_lenT {e : α → D} (xs : List α) : pLen [eT e xs] = some (.int (xs.length : Int)) := by rw [eT, ev_lenT, List.length_map]
theorem op_lenZ (xs : List Int) : pLen [eZ xs] = some (.int (xs.length : Int)) := by rw [eZ, ev_lenF, List.length_map]
theorem op_lenP {a : α → D} {b : β → D} (x : α × β) : pLen [eP a b x] = some (.int 2) := rfl
def maxO (xs : List Int) : Option Int := if xs = [] then none else some (maxL xs)
def minO (xs : List Int) : Option Int := if xs = [] then none else some (minL xs)
theorem op_max1L {xs : List Int} {z : Int} (h : maxO xs = some z) : pMax1 [eL eI xs] = some (.int z) := by
  unfold maxO at h
  split at h
  · cases h
  · rename_i c; cases h; exact ev_max1L _ _ (intsD_int _) c
theorem op_max1T {xs : List Int} {z : Int} (h : maxO xs = some z) : pMax1 [eT eI xs] = some (.int z) := by
  unfold maxO at h
  split at h
  · cases h
  · rename_i c; cases h; exact ev_max1T _ _ (intsD_int _) c
theorem op_min1L {xs : List Int} {z : Int} (h : minO xs = some z) : pMin1 [eL eI xs] = some (.int z) := by
  unfold minO at h
  split at h
  · cases h
  · rename_i c; cases h; exact ev_min1L _ _ (intsD_int _) c
theorem op_min1T {xs : List Int} {z : Int} (h : minO xs = some z) : pMin1 [eT eI xs] = some (.int z) := by
  unfold minO at h
  split at h
  · cases h
  · rename_i c; cases h; exact ev_min1T _ _ (intsD_int _) c
theorem op_tupL {e : α → D} (p : Pu e) (xs : List α) : pTuple [eL e xs] = some (eT e xs) := by rw [eL, ev_tupL, if_pos (purs_pu p xs)]; rfl
theorem op_lstL {e : α → D} (p : Pu e) (xs : List α) : pList [eL e xs] = some (eL e xs) := by rw [eL, ev_lstL, if_pos (purs_pu p xs)]
theorem op_lstT {e : α → D} (p : Pu e) (xs : List α) : pList [eT e xs] = some (eL e xs) := by rw [eT, ev_lstT, if_pos (purs_pu p xs)]; rfl
theorem op_all (xs : List Bool) : pAll [eL eB xs] = some (.bool (xs.all id)) := by
  have : bools (xs.map PyData.bool) = some xs := by have := bools_map (fun b => b) xs; rw [List.map_id'] at this; exact this
  rw [eL, ev_all]
  show (bools (xs.map PyData.bool)).map _ = _
  rw [this]; rfl
def catT (xs ys : List α) : Option (List α) := if xs.length + ys.length ≤ 1000000 then some (xs ++ ys) else none
theorem op_catL {e : α → D} (p : Pu e) {xs ys z : List α} (h : catT xs ys = some z) : pAdd [eL e xs, eL e ys] = some (eL e z) := by
  unfold catT at h
  split at h
  · rename_i c; cases h; rw [eL, eL, ev_addL, if_pos ⟨by simpa using c, purs_pu p _, purs_pu p _⟩, ← List.map_append]; rfl
  · cases h
theorem op_catT {e : α → D} (p : Pu e) {xs ys z : List α} (h : catT xs ys = some z) : pAdd [eT e xs, eT e ys] = some (eT e z) := by
  unfold catT at h
  split at h
  · rename_i c; cases h; rw [eT, eT, ev_addT, if_pos ⟨by simpa using c, purs_pu p _, purs_pu p _⟩, ← List.map_append]; rfl
  · cases h
def repT (xs : List α) (n : Int) : Option (List α) := if -1000 ≤ n ∧ n ≤ 1000 ∧ xs.length ≤ 1000 then some (List.replicate n.toNat xs).flatten else none
theorem op_repL {e : α → D} (p : Pu e) {xs z : List α} {n : Int} (h : repT xs n = some z) : pMul [eL e xs, .int n] = some (eL e z) := by
  unfold repT at h
  split at h
  · rename_i c
    cases h
    obtain ⟨c1, c2, c3⟩ := c
    show (if n < 2 ^ 63 ∧ -(2 ^ 63) ≤ n ∧ (xs.map e).length * n.toNat ≤ 1000000 ∧ purs (xs.map e) = true then _ else _) = _
    rw [if_pos ⟨by omega, by omega, by rw [List.length_map]; exact Nat.le_trans (Nat.mul_le_mul c3 (show n.toNat ≤ 1000 by omega)) (by decide), purs_pu p xs⟩]
    simp [eL]
  · cases h
theorem op_repT' {e : α → D} (p : Pu e) {xs z : List α} {n : Int} (h : repT xs n = some z) : pMul [eT e xs, .int n] = some (eT e z) := by
  unfold repT at h
  split at h
  · rename_i c
    cases h
    obtain ⟨c1, c2, c3⟩ := c
    show (if -1000 ≤ n ∧ n ≤ 1000 ∧ (xs.map e).length ≤ 1000 ∧ purs (xs.map e) = true then _ else _) = _
    rw [if_pos ⟨c1, c2, by rw [List.length_map]; exact c3, purs_pu p xs⟩]
    simp [eT]
  · cases h
theorem cutL_map {e : α → β} (xs : List α) (l u : Option Int) : cutL (xs.map e) l u = (cutL xs l u).map e := by
  unfold cutL
  rw [List.length_map, List.map_take, List.map_drop]
theorem op_slT {e : α → D} (p : Pu e) (xs : List α) (l u : Option Int) : slD (eT e xs) l u = some (eT e (cutL xs l u)) := by
  rw [eT, ev_slT, if_pos (purs_pu p xs), cutL_map]; rfl
theorem op_inP (a : Int) (x : Int × Int) : pIn [.int a, eP eI eI x] = some (.bool (decide (x.1 = a) || decide (x.2 = a))) := by
  rw [eP, ev_inT, if_pos ⟨rfl, rfl⟩]
  show some (PyData.bool (PyData.eqv (.int x.1) (.int a) || (PyData.eqv (.int x.2) (.int a) || false))) = _
  rw [eqI.eq, eqI.eq, Bool.or_false]
def rngI (lo : Int) (n : Nat) : List Int := (List.range n).map fun i => lo + (i : Nat)
theorem rngD_I (lo : Int) (n : Nat) : rngD lo n = (rngI lo n).map eI := by unfold rngD rngI; simp
def rngO (j : Int) : Option (List Int) := if -1000000 < j ∧ j < 1000000 then some (rngI 0 j.toNat) else none
theorem it_r1 {j : Int} {z : List Int} (h : rngO j = some z) : itR1 [.int j] = some (z.map eI) := by
  unfold rngO at h
  split at h
  · rename_i c
    cases h
    show (if -1000000 < j ∧ j < 1000000 then some (rngD 0 j.toNat) else none) = _
    rw [if_pos c, rngD_I]
  · cases h
theorem op_lrg1 {j : Int} {z : List Int} (h : rngO j = some z) : pListRg [.int j] = some (eL eI z) := by
  unfold rngO at h
  split at h
  · rename_i c
    cases h
    show (if -1000000 < j ∧ j < 1000000 then some (PyData.list (rngD 0 j.toNat)) else none) = _
    rw [if_pos c, rngD_I]; rfl
  · cases h
theorem op_trg1 {j : Int} {z : List Int} (h : rngO j = some z) : pTupleRg [.int j] = some (eT eI z) := by
  unfold rngO at h
  split at h
  · rename_i c
    cases h
    show (if -1000000 < j ∧ j < 1000000 then some (PyData.tuple (rngD 0 j.toNat)) else none) = _
    rw [if_pos c, rngD_I]; rfl
  · cases h
theorem it_L {e : α → D} (xs : List α) : itP [eL e xs] = some (xs.map e) := rfl
theorem it_T {e : α → D} (xs : List α) : itP [eT e xs] = some (xs.map e) := rfl
def enumT : Nat → List α → List (Int × α)
  | _, [] => []
  | n, x :: xs => ((n : Int), x) :: enumT (n + 1) xs
theorem enumD_T {e : α → D} : ∀ (n : Nat) (xs : List α), enumD n (xs.map e) = (enumT n xs).map (eP eI e)
  | _, [] => rfl
  | n, x :: xs => by rw [List.map_cons, enumD, enumD_T (n + 1) xs]; rfl
theorem it_eT {e : α → D} (xs : List α) : itE [eT e xs] = some ((enumT 0 xs).map (eP eI e)) := by
  show some (enumD 0 (xs.map e)) = _
  rw [enumD_T]
theorem zipD_T {a : α → D} {b : β → D} : ∀ (xs : List α) (ys : List β), zipD (xs.map a) (ys.map b) = (xs.zip ys).map (eP a b)
  | [], _ => rfl
  | _ :: _, [] => rfl
  | x :: xs, y :: ys => by rw [List.map_cons, List.map_cons, zipD, zipD_T xs ys]; rfl
def appT (xs : List α) (x : α) : Option (List α) := if xs.length < 1000000 then some (xs ++ [x]) else none
theorem mt_app' {e : α → D} {xs : List α} {x : α} {z : List α} (h : appT xs x = some z) : mApp (xs.map e) [e x] = some (z.map e, .none) := by
  unfold appT at h
  split at h
  · rename_i c; cases h; show (if (xs.map e).length < 1000000 then _ else _) = _; rw [List.length_map, if_pos c, List.map_append]; rfl
  · cases h
theorem mt_ext' {e : α → D} (p : Pu e) {xs ys z : List α} (h : catT xs ys = some z) : mExt (xs.map e) [eL e ys] = some (z.map e, .none) := by
  unfold catT at h
  split at h
  · rename_i c
    cases h
    show (if purs (xs.map e) = true ∧ purs (ys.map e) = true ∧ (xs.map e).length + (ys.map e).length ≤ 1000000 then _ else _) = _
    rw [if_pos ⟨purs_pu p xs, purs_pu p ys, by simpa using c⟩, List.map_append]
  · cases h
/-- what is taken out, what is left -/
def popT (xs : List α) (i : Int) : Option (α × List α) := if xs.length ≤ 1000000 then (ixN xs.length i).bind fun j => (xs[j]?).map fun x => (x, xs.eraseIdx j) else none
theorem erase_map {e : α → β} : ∀ (xs : List α) (j : Nat), (xs.map e).eraseIdx j = (xs.eraseIdx j).map e
  | [], _ => rfl
  | _ :: _, 0 => rfl
  | x :: xs, j + 1 => by rw [List.map_cons, List.eraseIdx_cons_succ, List.eraseIdx_cons_succ, List.map_cons, erase_map xs j]
theorem mt_pop' {e : α → D} (p : Pu e) {xs : List α} {i : Int} {z : α × List α} (h : popT xs i = some z) : mPopAt (xs.map e) [.int i] = some (z.2.map e, e z.1) := by
  unfold popT at h
  split at h
  · rename_i c
    obtain ⟨j, h1, h2⟩ := Option.bind_eq_some_iff.mp h
    obtain ⟨x, h3, h4⟩ := Option.map_eq_some_iff.mp h2
    cases h4
    have e1 : (xs.map e)[j]? = some (e x) := by rw [List.getElem?_map, h3]; rfl
    show (if purs (xs.map e) = true ∧ (xs.map e).length ≤ 1000000 then (match ixN (xs.map e).length i with
      | none => none
      | some j => (match (xs.map e)[j]? with
        | none => none
        | some d => some ((xs.map e).eraseIdx j, d))) else none) = _
    rw [if_pos ⟨purs_pu p xs, by simpa using c⟩]
    simp only [List.length_map, h1, e1, erase_map]
  · cases h
theorem mt_popL {e : α → D} (p : Pu e) {xs : List α} {z : α × List α} (h : popT xs (-1) = some z) : mPop (xs.map e) [] = some (z.2.map e, e z.1) := mt_pop' p h
def idxT (xs : List Int) (y : Int) : Option Int := (xs.findIdx? fun z => decide (z = y)).map fun (j : Nat) => (j : Int)
theorem op_idx {xs : List Int} {y z : Int} (h : idxT xs y = some z) : pIndexT [.tuple (xs.map eI), .int y] = some (.int z) := by
  unfold idxT at h
  obtain ⟨j, h1, h2⟩ := Option.map_eq_some_iff.mp h
  cases h2
  show (if pIn.fl (.int y) = true ∧ (xs.map PyData.int).all pIn.fl = true then _ else _) = _
  rw [if_pos ⟨rfl, by simp [pIn.fl]⟩, List.findIdx?_map]
  have : (fun z => PyData.eqv z (PyData.int y)) ∘ PyData.int = fun z : Int => decide (z = y) := by
    funext z; simp [PyData.eqv]; rfl
  rw [this, h1]; rfl
theorem op_notN {e : α → D} (h : ∀ x, isN (e x) = false) (x : Option α) : pNotN [eO e x, .none] = some (.bool x.isSome) := by
  cases x with
  | none => rfl
  | some x => show pNotN [e x, .none] = _; rw [ev_notN, h]; rfl
theorem tr_B (b : Bool) : truD (.bool b) = some b := rfl
end
end Sim
namespace Sim
open PySem PySem.Spec L2
end Sim
namespace Sim
open PySem PySem.Spec L2
def Sp {α : Type} (m : Option α) (Q : α → Prop) : Prop := ∃ x, m = some x ∧ Q x
section
variable {α β γ σ ρ τ δ : Type}
theorem Sp.mono {m : Option α} {P Q : α → Prop} (h : Sp m P) (i : ∀ x, P x → Q x) : Sp m Q := by
  obtain ⟨x, e, p⟩ := h
  exact ⟨x, e, i x p⟩
theorem w_some {x : α} {Q : α → Prop} (h : Q x) : Sp (some x) Q := ⟨x, rfl, h⟩
theorem w_bind {m : Option α} {k : α → Option β} {P : α → Prop} {Q : β → Prop} (h : Sp m P) (h2 : ∀ x, P x → Sp (k x) Q) : Sp (m.bind k) Q := by
  obtain ⟨x, rfl, p⟩ := h
  exact h2 x p
theorem w_eq {m : Option α} {k : α → Option β} {x : α} {Q : β → Prop} (e : m = some x) (h2 : Sp (k x) Q) : Sp (m.bind k) Q := by rw [e]; exact h2
theorem w_let {x : α} {k : α → Option β} {Q : β → Prop} (h2 : ∀ y, y = x → Sp (k y) Q) : Sp ((some x).bind k) Q := h2 x rfl
theorem w_ite {c : Bool} {a b : Option α} {Q : α → Prop} (h1 : c = true → Sp a Q) (h2 : c = false → Sp b Q) : Sp (if c = true then a else b) Q := by
  cases c with
  | true => exact h1 rfl
  | false => exact h2 rfl
theorem w_lim {n : Nat} {m : Option α} {Q : α → Prop} (h : n ≤ 1000000) (h2 : Sp m Q) : Sp (lim n m) Q := by rw [lim_of h]; exact h2
theorem w_lpN {F : σ → β → Option σ} (I : Nat → σ → Prop) {ys : List β} {s0 : σ} (h0 : I 0 s0) (hs : ∀ i s y, ys[i]? = some y → I i s → Sp (F s y) (I (i + 1))) : Sp (lpN F ys s0) (I ys.length) := by
  have key : ∀ (zs : List β) (k : Nat) (s : σ), I k s → (∀ i s y, zs[i]? = some y → I (k + i) s → Sp (F s y) (I (k + i + 1))) → Sp (lpN F zs s) (I (k + zs.length)) := by
    intro zs
    induction zs with
    | nil => intro k s h _; exact ⟨s, rfl, h⟩
    | cons y zs ih =>
      intro k s h hs
      refine w_bind (hs 0 s y rfl h) fun s1 h1 => ?_
      have := ih (k + 1) s1 h1 fun i s y hy hi => by
        have := hs (i + 1) s y (by simpa using hy) (by rw [show k + (i + 1) = k + 1 + i by omega]; exact hi)
        rw [show k + (i + 1) + 1 = k + 1 + i + 1 by omega] at this
        exact this
      rw [show k + 1 + zs.length = k + (y :: zs).length by rw [List.length_cons]; omega] at this
      exact this
  have := key ys 0 s0 h0 fun i s y hy hi => by simpa using hs i s y hy (by simpa using hi)
  simpa using this
/-- of a loop that may leave: it goes on to its end -/
def Go (P : σ → Prop) : Lf σ ρ → Prop := fun w => ∃ s, w = .go s ∧ P s
theorem w_go {x : σ} {P : σ → Prop} (h : P x) : Sp (some (Lf.go x : Lf σ ρ)) (Go P) := ⟨_, rfl, x, rfl, h⟩
theorem w_lpR {F : σ → β → Option (Lf σ ρ)} (I : Nat → σ → Prop) {ys : List β} {s0 : σ} (h0 : I 0 s0) (hs : ∀ i s y, ys[i]? = some y → I i s → Sp (F s y) (Go (I (i + 1)))) : Sp (lpR F ys s0) (Go (I ys.length)) := by
  have key : ∀ (zs : List β) (k : Nat) (s : σ), I k s → (∀ i s y, zs[i]? = some y → I (k + i) s → Sp (F s y) (Go (I (k + i + 1)))) → Sp (lpR F zs s) (Go (I (k + zs.length))) := by
    intro zs
    induction zs with
    | nil => intro k s h _; exact ⟨_, rfl, s, rfl, h⟩
    | cons y zs ih =>
      intro k s h hs
      refine w_bind (hs 0 s y rfl h) fun w hw => ?_
      obtain ⟨s1, rfl, h1⟩ := hw
      have := ih (k + 1) s1 h1 fun i s y hy hi => by
        have := hs (i + 1) s y (by simpa using hy) (by rw [show k + (i + 1) = k + 1 + i by omega]; exact hi)
        rw [show k + (i + 1) + 1 = k + 1 + i + 1 by omega] at this
        exact this
      rw [show k + 1 + zs.length = k + (y :: zs).length by rw [List.length_cons]; omega] at this
      exact this
  have := key ys 0 s0 h0 fun i s y hy hi => by simpa using hs i s y hy (by simpa using hi)
  simpa using this
theorem w_on {m : Option (Lf σ ρ)} {f : σ → Option τ} {g : ρ → Option τ} {P : σ → Prop} {Q : τ → Prop} (h : Sp m (Go P)) (h2 : ∀ s, P s → Sp (f s) Q) : Sp (m.bind fun w => w.on f g) Q := by
  obtain ⟨w, rfl, s, rfl, hp⟩ := h
  exact h2 s hp
theorem mapO_eq {f : β → Option δ} {g : β → δ} {ys : List β} (h : ∀ y ∈ ys, f y = some (g y)) : mapO f ys = some (ys.map g) := mapO_some h
theorem ixN_nn {n : Nat} {i : Int} (h0 : 0 ≤ i) (h : i < n) : ixN n i = some i.toNat := by unfold ixN; rw [if_pos h0, if_pos h]
theorem atI_nn {xs : List α} {i : Int} (h0 : 0 ≤ i) (h : i < xs.length) : atI xs i = xs[i.toNat]? := by
  unfold atI; rw [ixN_nn h0 h]; rfl
theorem atI_get' {xs : List α} {i : Int} (h0 : 0 ≤ i) (h : i < xs.length) : atI xs i = some (xs[i.toNat]'(by omega)) := by
  rw [atI_nn h0 h, List.getElem?_eq_getElem]
theorem atI_D {xs : List α} {i : Int} (d : α) (h0 : 0 ≤ i) (h : i < xs.length) : atI xs i = some (xs.getD i.toNat d) := by
  rw [atI_nn h0 h, List.getD_eq_getElem?_getD, List.getElem?_eq_getElem (by omega)]; rfl
theorem w_atI {xs : List α} {i : Int} (h0 : 0 ≤ i) (h : i < xs.length) : Sp (atI xs i) (fun x => x ∈ xs) := by
  rw [atI_get' h0 h]; exact w_some (List.getElem_mem _)
theorem setT_nn {xs : List α} {i : Int} {v : α} (h0 : 0 ≤ i) (h : i < xs.length) : setT xs i v = some (xs.set i.toNat v) := by unfold setT; rw [ixN_nn h0 h]; rfl
theorem appT_of {xs : List α} {x : α} (h : xs.length < 1000000) : appT xs x = some (xs ++ [x]) := if_pos h
theorem catT_of {xs ys : List α} (h : xs.length + ys.length ≤ 1000000) : catT xs ys = some (xs ++ ys) := if_pos h
theorem rngO_of {j : Int} (h : -1000000 < j ∧ j < 1000000) : rngO j = some (rngI 0 j.toNat) := if_pos h
theorem modT_of {a b : Int} (h : 0 < b) : modT a b = some (a % b) := if_pos h
theorem divT_of {a b : Int} (h : 0 < b) (h2 : b < 1000000000000000000000000) : divT a b = some (a / b) := by
  refine if_pos ⟨h, Nat.lt_of_lt_of_le (log2_lt (k := 80) (by omega) (by decide)) (by decide)⟩
theorem mulT_l {a b : Int} (h : -(2 ^ 64) < a) (h2 : a < 2 ^ 64) : mulT a b = some (a * b) := by unfold mulT; rw [if_pos (mulOk_l h h2)]
theorem mulT_r {a b : Int} (h : -(2 ^ 64) < b) (h2 : b < 2 ^ 64) : mulT a b = some (a * b) := by unfold mulT; rw [if_pos (mulOk_r h h2)]
theorem repT_of {xs : List α} {n : Int} (h : -1000 ≤ n ∧ n ≤ 1000) (h2 : xs.length ≤ 1000) : repT xs n = some (List.replicate n.toNat xs).flatten := if_pos ⟨h.1, h.2, h2⟩
theorem repT_1 {x : α} {n : Int} (h : -1000 ≤ n ∧ n ≤ 1000) : repT [x] n = some (List.replicate n.toNat x) := by
  rw [repT_of h (by simp)]
  have : ∀ k : Nat, (List.replicate k [x]).flatten = List.replicate k x := by
    intro k
    induction k with
    | zero => rfl
    | succ k ih => rw [List.replicate_succ, List.flatten_cons, ih]; rfl
  rw [this]
theorem popT_of {xs : List α} {i : Int} (hl : xs.length ≤ 1000000) (h0 : 0 ≤ i) (h : i < xs.length) : popT xs i = some (xs[i.toNat]'(by omega), xs.eraseIdx i.toNat) := by
  unfold popT
  rw [if_pos hl, ixN_nn h0 h]
  show (xs[i.toNat]?).map _ = _
  rw [List.getElem?_eq_getElem (by omega)]; rfl
theorem maxO_of {xs : List Int} (h : xs ≠ []) : maxO xs = some (maxL xs) := if_neg h
theorem minO_of {xs : List Int} (h : xs ≠ []) : minO xs = some (minL xs) := if_neg h
@[simp] theorem at0 (a : α) (l : List α) : atI (a :: l) 0 = some a := by
  rw [atI_nn (by decide) (by rw [List.length_cons]; omega)]; rfl
@[simp] theorem at1 (a b : α) (l : List α) : atI (a :: b :: l) 1 = some b := by
  rw [atI_nn (by decide) (by simp only [List.length_cons]; omega)]; rfl
@[simp] theorem at2 (a b c : α) (l : List α) : atI (a :: b :: c :: l) 2 = some c := by
  rw [atI_nn (by decide) (by simp only [List.length_cons]; omega)]; rfl
@[simp] theorem set0 (a v : α) (l : List α) : setT (a :: l) 0 v = some (v :: l) := by
  rw [setT_nn (by decide) (by rw [List.length_cons]; omega)]; rfl
@[simp] theorem set1 (a b v : α) (l : List α) : setT (a :: b :: l) 1 v = some (a :: v :: l) := by
  rw [setT_nn (by decide) (by simp only [List.length_cons]; omega)]; rfl
@[simp] theorem set2 (a b c v : α) (l : List α) : setT (a :: b :: c :: l) 2 v = some (a :: b :: v :: l) := by
  rw [setT_nn (by decide) (by simp only [List.length_cons]; omega)]; rfl
theorem rngI_len (lo : Int) (n : Nat) : (rngI lo n).length = n := by unfold rngI; simp
theorem rngI_get {lo : Int} {n i : Nat} {y : Int} (h : (rngI lo n)[i]? = some y) : y = lo + i ∧ i < n := by
  unfold rngI at h
  rw [List.getElem?_map] at h
  obtain ⟨j, h1, h2⟩ := Option.map_eq_some_iff.mp h
  obtain ⟨h3, h4⟩ := List.getElem?_eq_some_iff.mp h1
  rw [List.getElem_range] at h4
  subst h4
  exact ⟨h2.symm, by simpa using h3⟩
theorem rngI_mem {lo : Int} {n : Nat} {y : Int} (h : y ∈ rngI lo n) : lo ≤ y ∧ y < lo + n := by
  unfold rngI at h
  obtain ⟨j, h1, h2⟩ := List.mem_map.mp h
  have := List.mem_range.mp h1
  omega
end
end Sim
namespace Sim
open PySem PySem.Spec L2
section
variable {α β : Type}
/-- how a kind of values is sorted -/
structure Flt (e : α → D) (f : α → List Int) : Prop where
  fl : ∀ x, flat (e x) = f x
  al : ∀ x y, alike (e x) (e y) = true
  tp : ∀ x, (match e x with | .tuple (_ :: _) => true | _ => false) = true
  dp : ∀ x, deepD (e x) ≤ 8
theorem Flt.ok {e : α → D} {f : α → List Int} (h : Flt e f) : ∀ xs : List α, okN (xs.map e) = true
  | [] => rfl
  | x :: xs => by
    rw [List.map_cons]
    simp only [okN, Bool.and_eq_true, decide_eq_true_eq, List.all_eq_true]
    refine ⟨⟨h.tp x, h.dp x⟩, fun d hd => ?_⟩
    rw [← List.map_cons] at hd
    obtain ⟨y, _, rfl⟩ := List.mem_map.mp hd
    exact h.al x y
/-- a list or a tuple -/
inductive SqE (e : α → D) : (List α → D) → Prop
  | l : SqE e (eL e)
  | t : SqE e (eT e)
theorem SqE.seq {e : α → D} {g : List α → D} (h : SqE e g) (xs : List α) : seqLT (g xs) = some (xs.map e) := by cases h <;> rfl
def pickLL (xs : List α) (l u st : Option Int) : Option (List α) := if st ≠ some 0 ∧ (pickL xs l u st).length ≤ 1000000 then some (pickL xs l u st) else none
theorem pickL_map {e : α → β} (xs : List α) (l u st : Option Int) : pickL (xs.map e) l u st = (pickL xs l u st).map e := by
  unfold pickL
  rw [List.length_map, List.map_filterMap]
  congr 1
  funext i
  rw [List.getElem?_map]
theorem op_isiT {k : Kd} {d : D} (h : pIsi k [d] = some (.bool true)) : pIsi k [d] = some (eB true) := h
theorem op_isiF {k : Kd} {d : D} (h : pIsi k [d] = some (.bool false)) : pIsi k [d] = some (eB false) := h
theorem op_notB (a b : Bool) : pNotN [eB a, eB b] = some (eB (!decide (a = b))) := rfl
def lenSetT (xs : List Int) : Option Int := if xs.length ≤ 4000 then some ((dd xs).length : Nat) else none
theorem op_lenSet {xs : List Int} {z : Int} (h : lenSetT xs = some z) : pLenSet [eT eI xs] = some (eI z) := by
  unfold lenSetT at h
  split at h
  · rename_i c
    cases h
    show (intsD (xs.map PyData.int)).bind _ = _
    rw [intsD_int]
    show (if xs.length ≤ 4000 then some (PyData.int ((dd xs).length : Nat)) else none) = _
    rw [if_pos c]
  · cases h
end
end Sim
namespace Sim
open PySem PySem.Spec L2
theorem lim_inv {α : Type} {n : Nat} {m : Option α} {z : α} (h : lim n m = some z) : n ≤ 1000000 ∧ m = some z := by
  unfold lim at h
  split at h
  · rename_i c; exact ⟨c, h⟩
  · cases h
theorem x_get {α γ τ : Type} {vl : Bool} {p : Pt} {g : O} {e : τ → D} {o : α → Option τ} {q : α → Pt} {F : (α → Option γ) → Option γ} (h : X vl p g (fun x => eO e (o x)) q F) :
    X vl p g (fun w : α × τ => e w.2) (fun w => q w.1) (fun k => F fun x => (o x).bind fun z => k (x, z)) := fun k z e0 => by
  obtain ⟨x, e1, h⟩ := h _ z e0
  obtain ⟨y, e2, e3⟩ := Option.bind_eq_some_iff.mp e1
  refine ⟨(x, y), e3, fun s mm => ?_⟩
  obtain ⟨r, s', a1, a2, a3⟩ := h s mm
  have a3 : Rd vl (q x) r (eO e (o x)) := a3
  rw [e2] at a3
  exact ⟨r, s', a1, a2, a3⟩
theorem x_gt {α γ τ : Type} {vl : Bool} {p : Pt} {g : O} {v : α → D} {q : α → Pt} {F : (α → Option γ) → Option γ} (e : τ → D) (h : X vl p g v q F) (o : α → Option τ) (hv : ∀ x, v x = eO e (o x)) :
    X vl p g (fun w : α × τ => e w.2) (fun w => q w.1) (fun k => F fun x => (o x).bind fun z => k (x, z)) := by
  obtain rfl : v = fun x => eO e (o x) := funext hv
  exact x_get h
section
variable {α : Type}
/-- the text of ints and tuples is plain -/
theorem sok_append {a b : Str} (ha : PyData.strOk a = true) (hb : PyData.strOk b = true) : PyData.strOk (a ++ b) = true := by
  unfold PyData.strOk at *
  rw [Str.cps_append, Array.all_append, ha, hb]; rfl
theorem sok_of (s : String) : PyData.strOk (Str.ofString s) = true := by
  unfold PyData.strOk
  rw [Str.ofString_eq_toList]
  rw [Array.all_eq_true_iff_forall_mem]
  intro c hc
  rw [List.mem_toArray, List.mem_map] at hc
  obtain ⟨d, _, rfl⟩ := hc
  have := d.valid
  rw [decide_eq_true_eq]
  rcases this with h | ⟨_, h⟩
  · have : d.toNat < 0xd800 := h
    omega
  · exact h
theorem sok_join (t : Str) (ht : PyData.strOk t = true) : ∀ ss : List Str, (∀ s ∈ ss, PyData.strOk s = true) → PyData.strOk (Str.join t ss) = true
  | [], _ => by rw [Str.join]; simp [PyData.strOk, Str.empty]
  | [x], h => by rw [Str.join]; exact h x (by simp)
  | x :: y :: r, h => by
    rw [Str.join]
    · exact sok_append (sok_append (h x (by simp)) ht) (sok_join t ht (y :: r) fun s hs => h s (List.mem_cons_of_mem _ hs))
    · simp
mutual
theorem sok_sh : ∀ d : D, sh d = true → PyData.strOk d.shown = true
  | .int i, _ => by rw [PyData.shown]; exact sok_of _
  | .tuple xs, h => by
    rw [PyData.shown]
    unfold tupleText
    refine sok_append (sok_append (sok_of _) (sok_join _ (sok_of _) _ (sok_shs xs (by rw [sh] at h; exact h)))) ?_
    split <;> exact sok_of _
  | .none, h => by simp [sh] at h
  | .bool _, h => by simp [sh] at h
  | .str _, h => by simp [sh] at h
  | .list _, h => by simp [sh] at h
  | .dict _, h => by simp [sh] at h
theorem sok_shs : ∀ ds : List D, shs ds = true → ∀ s ∈ PyData.shownAll ds, PyData.strOk s = true
  | [], _, _, hs => by rw [PyData.shownAll] at hs; cases hs
  | x :: xs, h, s, hs => by
    rw [shs, Bool.and_eq_true] at h
    rw [PyData.shownAll] at hs
    rcases List.mem_cons.mp hs with e | e
    · subst e; exact sok_sh x h.1
    · exact sok_shs xs h.2 s e
end
/-- a text without odd signs -/
abbrev Txt8 := { x : Str // PyData.strOk x = true }
abbrev eR : Txt8 → D := fun x => PyData.str x.1
theorem puR : Pu eR := fun _ => rfl
theorem eqR : Eqv 0 eR := ⟨fun x => x.2, fun _ => Nat.le_refl _, fun _ => rfl, fun x y => by
  show (x.1 == y.1) = decide (x = y)
  rw [Bool.eq_iff_iff, decide_eq_true_eq, beq_iff_eq, Subtype.ext_iff]⟩
end
end Sim
namespace Sim
open PySem PySem.Spec L2
section
variable {α β γ δ : Type}
end
end Sim
namespace Sim
open PySem PySem.Spec L2
def rI : D → Option Int
  | .int i => some i
  | _ => none
section
variable {α γ τ : Type}
end
section
variable {α γ : Type}
end
end Sim
namespace Sim
open PySem PySem.Spec L2
section
variable {β γ : Type}
end
end Sim
namespace Sim
open PySem PySem.Spec L2
section
variable {α β γ δ σ ρ : Type} {X : Cx} {p : Pt}
end
end Sim
namespace Sim
open PySem PySem.Spec L2
section
variable {α β γ δ σ ρ τ : Type} {p : Pt}
end
end Sim
namespace Sim
open PySem PySem.Spec L2
section
variable {α β γ : Type} {p : Pt}
end
end Sim
namespace Sim
open PySem PySem.Spec L2
def kI (i : Int) : NestedKey := .num i
def kT {α : Type} (f : α → NestedKey) (xs : List α) : NestedKey := .tup (xs.map f)
def kP {α β : Type} (f : α → NestedKey) (g : β → NestedKey) (x : α × β) : NestedKey := .tup [f x.1, g x.2]
/-- keys told by f are what e tells -/
structure KeyE {α : Type} (n : Nat) (e : α → D) (f : α → NestedKey) : Prop where
  told : ∀ a, e a = nkD (f a)
  inj : ∀ a b, f a = f b → a = b
  tx : ∀ a, noTx (f a) = true
  dp : ∀ a, (f a).depth ≤ n
section
variable {α β γ : Type}
theorem nkDs_map {e : α → D} {f : α → NestedKey} (h : ∀ a, e a = nkD (f a)) : ∀ xs : List α, xs.map e = nkDs (xs.map f)
  | [] => by rw [List.map_nil, List.map_nil, nkDs]
  | x :: xs => by rw [List.map_cons, List.map_cons, nkDs, nkDs_map h xs, h x]
theorem noTxs_map {f : α → NestedKey} (h : ∀ a, noTx (f a) = true) : ∀ xs : List α, noTxs (xs.map f) = true
  | [] => by rw [List.map_nil, noTxs]
  | x :: xs => by rw [List.map_cons, noTxs, h x, noTxs_map h xs]; rfl
theorem depth_map {f : α → NestedKey} {n : Nat} (h : ∀ a, (f a).depth ≤ n) : ∀ xs : List α, NestedKey.depthAll (xs.map f) ≤ n
  | [] => by rw [List.map_nil, NestedKey.depthAll]; exact Nat.zero_le _
  | x :: xs => by rw [List.map_cons, NestedKey.depthAll]; exact Nat.max_le.mpr ⟨h x, depth_map h xs⟩
theorem keI : KeyE 0 eI kI := ⟨fun a => by unfold kI; rw [nkD], fun a b h => by unfold kI at h; cases h; rfl, fun a => by unfold kI; rw [noTx], fun a => by unfold kI; rw [NestedKey.depth]; exact Nat.le_refl _⟩
theorem map_inj' {f : α → NestedKey} (h : ∀ a b, f a = f b → a = b) : ∀ xs ys : List α, xs.map f = ys.map f → xs = ys
  | [], [], _ => rfl
  | [], _ :: _, e => by simp at e
  | _ :: _, [], e => by simp at e
  | x :: xs, y :: ys, e => by
    rw [List.map_cons, List.map_cons] at e
    injection e with e1 e2
    rw [h x y e1, map_inj' h xs ys e2]
theorem keT {n : Nat} {e : α → D} {f : α → NestedKey} (h : KeyE n e f) : KeyE (n + 1) (eT e) (kT f) :=
  ⟨fun a => by unfold kT eT; rw [nkD, nkDs_map h.told], fun a b e => map_inj' h.inj a b (by unfold kT at e; injection e), fun a => by unfold kT; rw [noTx, noTxs_map h.tx],
    fun a => by unfold kT; rw [NestedKey.depth]; exact Nat.succ_le_succ (depth_map h.dp a)⟩
theorem keP {n m : Nat} {e : α → D} {f : α → NestedKey} {e' : β → D} {g : β → NestedKey} (h : KeyE n e f) (h' : KeyE m e' g) : KeyE (max n m + 1) (eP e e') (kP f g) :=
  ⟨fun a => by unfold kP eP; rw [nkD, nkDs, nkDs, nkDs, h.told, h'.told], fun a b e => by
    unfold kP at e
    injection e with e
    injection e with e1 e
    injection e with e2 e
    exact Prod.ext (h.inj _ _ e1) (h'.inj _ _ e2), fun a => by unfold kP; rw [noTx, noTxs, noTxs, noTxs, h.tx, h'.tx]; rfl,
    fun a => by
      unfold kP
      rw [NestedKey.depth, NestedKey.depthAll, NestedKey.depthAll, NestedKey.depthAll]
      have := h.dp a.1
      have := h'.dp a.2
      omega⟩
/-- keys that may stand in a dict -/
structure KeyM (e : α → D) (f : α → NestedKey) : Prop where
  told : ∀ a, e a = nkD (f a)
  inj : ∀ a b, f a = f b → a = b
  ok : ∀ a, kOk (f a) = true
theorem kmP {n m : Nat} {e : α → D} {f : α → NestedKey} {e' : β → D} {g : β → NestedKey} (h : KeyE n e f) (h' : KeyE m e' g) (hn : max n m + 1 ≤ 8) : KeyM (eP e e') (kP f g) :=
  ⟨(keP h h').told, (keP h h').inj, fun a => by
    have h1 := (keP h h').tx a
    have h2 := (keP h h').dp a
    unfold kOk
    rw [h1, decide_eq_true (Nat.le_trans h2 hn)]
    rfl⟩
def cM (f : α → NestedKey) (e : β → D) (l : List (α × β)) : List (NestedKey × D) := l.map fun p => (f p.1, e p.2)
def eM (f : α → NestedKey) (e : β → D) (l : List (α × β)) : D := reN (cM f e l)
theorem puM {f : α → NestedKey} {e : β → D} {l : List (α × β)} : pur (eM f e l) = false := pur_reN _
section
variable [DecidableEq α]
def getM (l : List (α × β)) (k : α) : Option β := (l.find? fun p => decide (p.1 = k)).map fun p => p.2
def putM (l : List (α × β)) (k : α) (v : β) : List (α × β) := if (l.any fun p => decide (p.1 = k)) = true then l.map (fun p => if p.1 = k then (p.1, v) else p) else l ++ [(k, v)]
def mergeM (l more : List (α × β)) : List (α × β) := more.foldl (fun acc p => putM acc p.1 p.2) l
variable {ek : α → D} {f : α → NestedKey} {e : β → D}
theorem cM_ok (h : KeyM ek f) (l : List (α × β)) : kOks (cM f e l) = true := by
  unfold kOks cM
  rw [List.all_map, List.all_eq_true]
  exact fun p _ => h.ok p.1
theorem unN_eM (h : KeyM ek f) (l : List (α × β)) : unN (eM f e l) = some (cM f e l) := unN_reN (cM_ok h l)
theorem toNk_ek (h : KeyM ek f) (a : α) : toNk (ek a) = some (f a) := by rw [h.told, toNk_nkD (kOk_tx (h.ok a))]
theorem dec_f (h : KeyM ek f) (a b : α) : decide (f a = f b) = decide (a = b) := by
  by_cases c : a = b
  · rw [decide_eq_true c, decide_eq_true (congrArg f c)]
  · rw [decide_eq_false c, decide_eq_false fun z => c (h.inj a b z)]
theorem getL_cM (h : KeyM ek f) (k : α) : ∀ l : List (α × β), getL (cM f e l) (f k) = (getM l k).map e
  | [] => rfl
  | p :: l => by
    have ih := getL_cM h k l
    unfold getL getM cM at ih ⊢
    rw [List.map_cons, List.find?_cons, List.find?_cons, dec_f h]
    cases decide (p.1 = k) with
    | true => rfl
    | false => exact ih
theorem any_cM (h : KeyM ek f) (k : α) (l : List (α × β)) : ((cM f e l).any fun p => decide (p.1 = f k)) = l.any fun p => decide (p.1 = k) := by
  unfold cM
  rw [List.any_map]
  congr 1
  funext p
  exact dec_f h p.1 k
theorem putL_cM (h : KeyM ek f) (k : α) (v : β) (l : List (α × β)) : putL (cM f e l) (f k) (e v) = cM f e (putM l k v) := by
  unfold putL putM
  rw [any_cM h]
  split
  · unfold cM
    rw [List.map_map, List.map_map]
    congr 1
    funext p
    show (if f p.1 = f k then (f p.1, e v) else (f p.1, e p.2)) = _
    by_cases c : p.1 = k
    · rw [if_pos (congrArg f c)]
      show _ = (f (if p.1 = k then (p.1, v) else p).1, e (if p.1 = k then (p.1, v) else p).2)
      rw [if_pos c]
    · rw [if_neg fun z => c (h.inj _ _ z)]
      show _ = (f (if p.1 = k then (p.1, v) else p).1, e (if p.1 = k then (p.1, v) else p).2)
      rw [if_neg c]
  · unfold cM
    rw [List.map_append]
    rfl
theorem mergeL_cM (h : KeyM ek f) : ∀ (more l : List (α × β)), mergeL (cM f e l) (cM f e more) = cM f e (mergeM l more)
  | [], l => rfl
  | p :: more, l => by
    have ih := mergeL_cM h more (putM l p.1 p.2)
    unfold mergeL mergeM at ih ⊢
    rw [show cM f e (p :: more) = (f p.1, e p.2) :: cM f e more from rfl, List.foldl_cons, List.foldl_cons, putL_cM h]
    exact ih
theorem op_inMM (h : KeyM ek f) (k : α) (l : List (α × β)) : pInN [ek k, eM f e l] = some (eB (getM l k).isSome) := by
  show (toNk (ek k)).bind _ = _
  rw [toNk_ek h, unN_eM h]
  simp [h.ok k, getL_cM h]
theorem op_ninMM (h : KeyM ek f) (k : α) (l : List (α × β)) : pNinN [ek k, eM f e l] = some (eB (!(getM l k).isSome)) := by
  show (toNk (ek k)).bind _ = _
  rw [toNk_ek h, unN_eM h]
  simp [h.ok k, getL_cM h]
theorem op_lenM (h : KeyM ek f) (l : List (α × β)) : pLenN [eM f e l] = some (eI (l.length : Int)) := by
  show (unN (eM f e l)).map _ = _
  rw [unN_eM h]
  simp [cM]
theorem keys_told (h : KeyM ek f) (l : List (α × β)) : ((cM f e l).map fun p => nkD p.1) = (l.map Prod.fst).map ek := by
  unfold cM
  rw [List.map_map, List.map_map]
  congr 1
  funext p
  exact (h.told p.1).symm
theorem pairsL_cM (h : KeyM ek f) (hp : Pu e) : ∀ l : List (α × β), pairsL (l.map (eP ek e)) = some (cM f e l)
  | [] => rfl
  | p :: l => by
    rw [List.map_cons]
    show (toNk (ek p.1)).bind _ = _
    rw [toNk_ek h, pairsL_cM h hp l]
    simp [h.ok p.1, hp p.2, cM]
theorem op_dictM (h : KeyM ek f) (hp : Pu e) (l : List (α × β)) : pDictN [eL (eP ek e) l] = some (eM f e (mergeM [] l)) := by
  show (pairsL (l.map (eP ek e))).map _ = _
  rw [pairsL_cM h hp]
  refine congrArg some ?_
  show reN (mergeL (cM f e []) (cM f e l)) = _
  rw [mergeL_cM h]
  rfl
end
end
section
variable {α β γ δ ρ : Type} {p : Pt} {gs : AL} {q : α → Pt} {F : (α → Option γ) → Option γ} {ks : List AK} {vs : α → List D} {i : Nat}
theorem x_newM {κ τ : Type} {f : κ → NestedKey} {e : τ → D} : X (γ := γ) true p oNewN (fun _ : Unit => eM f e []) (fun _ => p) (fun k => k ()) :=
  fun k z e0 => ⟨(), e0, fun s m => ⟨.val _, s, rfl, m, .inl rfl⟩⟩
end
section
variable {α γ κ τ : Type} {p : Pt} {e : O} {q : α → Pt} {F : (α → Option γ) → Option γ} {vl : Bool} {i : Nat} {rest : S} {Q : γ → Fl → Sg → Prop} [DecidableEq κ]
def setMO (l : List (κ × τ)) (k : κ) (v : τ) : Option (List (κ × τ)) := if l.length < 1000000 then some (putM l k v) else none
theorem b_setM {ga : O} {ek : κ → D} {f : κ → NestedKey} {e1 : τ → D} {vx : α → τ} {β : Type} {vk : α → β → κ} {q2 : α → β → Pt} {F2 : α → (β → Option γ) → Option γ} {xs : α → β → List (κ × τ)} {M : α → β → List (κ × τ) → Option γ} {vl2 : Bool} (hk : KeyM ek f)
    (h : X vl p e (fun x => e1 (vx x)) q F) (hp : Pu e1) (hi : ∀ x, ∃ d, gtP (q x) i = some d) (h2 : ∀ x, X vl2 (q x) ga (fun y => ek (vk x y)) (q2 x) (F2 x)) (hv : ∀ x y, vl = true ∨ q2 x y = q x) (hi2 : ∀ x y, gtP (q2 x y) i = some (eM f e1 (xs x y)))
    (hr : ∀ x y ys, B (stP (q2 x y) i (some (eM f e1 ys))) rest (M x y ys) Q) : B p (sSeq (sSetN i ga e) rest) (F fun x => F2 x fun y => (setMO (xs x y) (vk x y) (vx x)).bind (M x y)) Q := fun z e0 s mm => by
  obtain ⟨x, e2, h⟩ := h _ z e0
  obtain ⟨y, e3, h2⟩ := h2 x _ z e2
  obtain ⟨ys, e4, e5⟩ := Option.bind_eq_some_iff.mp e3
  obtain ⟨r, s1, a1, a2, a3⟩ := h s mm
  obtain ⟨r2, s2, b1, b2, b3⟩ := h2 s1 a2
  unfold setMO at e4
  split at e4
  · rename_i c
    cases e4
    have b4 := b2.put i (eM f e1 (putM (xs x y) (vk x y) (vx x)))
    obtain ⟨fl, s', h1, h2⟩ := hr x y _ z e5 _ b4
    refine ⟨fl, s', ?_, h2⟩
    obtain ⟨d0, hd0⟩ := hi x
    have o : own r s2 = some (e1 (vx x)) := by
      rcases hv x y with c | c
      · rcases a3 with rfl | ⟨c2, _⟩
        · rfl
        · rw [c] at c2; cases c2
      · rw [c] at b2
        exact Rd.own a3 b2 (.inr (hp _))
    have step : sSetN i ga e s = .ok .nx (s2.set i (some (eM f e1 (putM (xs x y) (vk x y) (vx x))))) := by
      unfold sSetN oV
      rw [a1, bind_ok]
      simp only [a2.get hd0, bind_ok]
      rw [b1, bind_ok, o, b3.rd b2, b2.get (hi2 x y)]
      simp only [Option.bind_some, unN_eM hk, toNk_ek hk]
      have l1 : (cM f e1 (xs x y)).length = (xs x y).length := by unfold cM; rw [List.length_map]
      rw [l1, if_pos ⟨hp _, hk.ok _, c⟩, putL_cM hk]
      rfl
    unfold sSeq
    rw [step, bind_ok]
    exact h1
  · cases e4
end
end Sim
namespace Sim
open PySem PySem.Spec L2
section
variable {α β γ : Type}
variable [DecidableEq α] {ek : α → D} {f : α → Key} {e : β → D}
end
section
variable {α β γ δ ρ : Type} {p : Pt} {gs : AL} {q : α → Pt} {F : (α → Option γ) → Option γ} {ks : List AK} {i : Nat}
end
section
variable {α γ κ τ : Type} {p : Pt} {e : O} {q : α → Pt} {F : (α → Option γ) → Option γ} {vl : Bool} {i : Nat} {rest : S} {Q : γ → Fl → Sg → Prop} [DecidableEq κ]
end
end Sim
namespace Sim
open PySem PySem.Spec L2
section
variable {α β γ : Type} {p : Pt} {g : O} {q : α → Pt} {F : (α → Option γ) → Option γ}
end
end Sim
namespace Sim
open PySem PySem.Spec L2
def eF {τ : Type} (e : τ → D) (xs : List τ) : D := .dict [(.none, .list (xs.map e))]
theorem puF {τ : Type} {e : τ → D} : Pu (eF e) := fun _ => pur_frz _
theorem it_F {τ : Type} {e : τ → D} (xs : List τ) : itP [eF e xs] = some (xs.map e) := rfl
theorem op_lenF {τ : Type} {e : τ → D} (xs : List τ) : pLen [eF e xs] = some (eI (xs.length : Int)) := by rw [eF, ev_lenF, List.length_map]
theorem op_ixF {τ : Type} {e : τ → D} (p : Pu e) {xs : List τ} {i : Int} {z : τ} (h : atI xs i = some z) : pIx [eF e xs, .int i] = some (e z) := by
  rw [eF, ev_ixF, atI_map h, ev_puO, if_pos (p z)]
theorem op_slF {τ : Type} {e : τ → D} (xs : List τ) (l u : Option Int) : slD (eF e xs) l u = some (eL e (cutL xs l u)) := by
  rw [eF, ev_slF, cutL_map]; rfl
section
variable {α β γ : Type} {p : Pt} {g : O} {ga : AL} {q : α → Pt} {F : (α → Option γ) → Option γ} {ks : List AK} {i : Nat}
theorem x_frzF {τ : Type} {e : τ → D} {v : α → List τ} (h : Pu e) (hx : X true p g (fun x => eL e (v x)) q F) : X true p (oFrz g) (fun x => eF e (v x)) q F := fun k z e0 => by
  obtain ⟨x, e1, hx⟩ := hx _ z e0
  refine ⟨x, e1, fun s mm => ?_⟩
  obtain ⟨r, s2, b1, b2, b3⟩ := hx s mm
  have : r = .val (eL e (v x)) := by
    rcases b3 with rfl | ⟨c, _⟩
    · rfl
    · cases c
  subst this
  refine ⟨.val (eF e (v x)), s2, ?_, b2, .inl rfl⟩
  unfold oFrz
  rw [b1, bind_ok]
  show (if purs ((v x).map e) = true then _ else _) = _
  rw [if_pos (purs_pu h _)]
  rfl
end
end Sim
namespace Sim
open PySem PySem.Spec L2
theorem op_tupF {τ : Type} {e : τ → D} (p : Pu e) (xs : List τ) : pTuple [eF e xs] = some (eT e xs) := by
  show (match seqOf (eF e xs) with | some ds => if purs ds = true then some (PyData.tuple ds) else none | none => none) = _
  show (if purs (xs.map e) = true then some (PyData.tuple (xs.map e)) else none) = _
  rw [if_pos (purs_pu p xs)]
  rfl
theorem op_lstF {τ : Type} {e : τ → D} (p : Pu e) (xs : List τ) : pList [eF e xs] = some (eL e xs) := by
  show (if purs (xs.map e) = true then some (PyData.list (xs.map e)) else none) = _
  rw [if_pos (purs_pu p xs)]
  rfl
section
variable {γ : Type} {p : Pt} {i : Nat}
theorem x_frzV {τ : Type} {e : τ → D} {w : List τ} (h : Pu e) (h0 : gtP p i = some (eL e w)) : X (γ := γ) false p (oFrzV i) (fun _ : Unit => eF e w) (fun _ => stP p i (some (eF e w))) (fun k => k ()) := fun k z e0 => by
  refine ⟨(), e0, fun s mm => ?_⟩
  have b4 := mm.put i (eF e w)
  have g0 : (s[i]?).join = some (eL e w) := mm.get h0
  refine ⟨.slot i, _, ?_, b4, .inr ⟨rfl, i, rfl, ?_⟩⟩
  · unfold oFrzV
    rw [g0]
    show (if purs (w.map e) = true then _ else _) = _
    rw [if_pos (purs_pu h _)]
    rfl
  · rw [gtP_stP, if_pos ⟨rfl, gtP_lt h0⟩]
end
end Sim
namespace Sim
open PySem PySem.Spec L2
end Sim
namespace Sim
open PySem PySem.Spec L2
section
variable {α γ : Type} {p : Pt} {e gi : O} {q : α → Pt} {F : (α → Option γ) → Option γ} {vl : Bool} {i : Nat} {rest : S} {Q : γ → Fl → Sg → Prop} {f : Int → Int → Int}
end
end Sim
namespace Sim
open PySem PySem.Spec L2
section
variable {α β γ : Type} {p : Pt} {g h' : O} {q : α → Pt} {F : (α → Option γ) → Option γ}
end
end Sim
namespace Sim
open PySem PySem.Spec L2
section
variable {α γ : Type} {p : Pt} {g : O} {q : α → Pt} {F : (α → Option γ) → Option γ}
end
end Sim
namespace Sim
open PySem PySem.Spec L2
section
variable {α β γ : Type} {p : Pt} {g h' : O} {q : α → Pt} {F : (α → Option γ) → Option γ}
end
end Sim
namespace Sim
open PySem PySem.Spec L2
end Sim
namespace Sim
open PySem PySem.Spec L2
section
variable {α γ : Type} {p : Pt} {g : O} {q : α → Pt} {F : (α → Option γ) → Option γ}
end
end Sim
namespace Sim
open PySem PySem.Spec L2
theorem gtP_eq : ∀ (p : List (Option D)) (i : Nat), gtP p i = (p[i]?).join
  | [], i => by simp [gtP]
  | o :: p, 0 => by simp [gtP]
  | o :: p, i + 1 => by rw [gtP, gtP_eq p i, List.getElem?_cons_succ]
theorem mt_iff {p : Pt} {s : Sg} : Mt p s ↔ List.length p = s.length ∧ ∀ (i : Nat) (d : D), (p : List (Option D))[i]? = some (some d) → (s : List (Option D))[i]? = some (some d) :=
  ⟨fun h => ⟨h.len, fun i d e => h.has i d (by rw [gtP_eq, e]; rfl)⟩, fun h => ⟨h.1, fun i d e => h.2 i d (by rw [gtP_eq] at e; exact join_some e)⟩⟩
theorem Mt.sets {p s : List (Option D)} (h : Mt p s) (i : Nat) (o : Option D) : Mt (p.set i o) (s.set i o) := by
  rw [mt_iff] at h ⊢
  refine ⟨by rw [List.length_set, List.length_set, h.1], fun j d e => ?_⟩
  by_cases hj : i = j
  · subst hj
    rw [List.getElem?_set] at e ⊢
    rw [if_pos rfl] at e ⊢
    rw [h.1] at e
    exact e
  · rw [List.getElem?_set_ne hj] at e ⊢
    exact h.2 j d e
theorem Mt.putG : ∀ {ds : List D} {g : Nat} {p s : List (Option D)}, Mt p s → Mt (Sim.putG g ds p) (Sim.putG g ds s)
  | [], _, _, _, h => h
  | d :: ds, g, p, s, h => by
    rw [Sim.putG, Sim.putG]
    exact Mt.putG (h.sets g (some d))
section
variable {α β δ γ κ τ σ : Type} {p : Pt}
end
section
variable {α β γ σ : Type} {p : Pt} {e : O} {rest h : S} {i x : Nat} {pv : Option Nat} {v : α → D} {q : α → Pt} {F : (α → Option γ) → Option γ} {M : α → Option γ} {Q : γ → Fl → Sg → Prop} {vl : Bool}
end
theorem put3 {i j l : Nat} {a b c : D} {p : Pt} : ∀ s, Mt p s → Mt (stP (stP (stP p i (some a)) j (some b)) l (some c)) (putAll [i, j, l] [a, b, c] s) := fun s m => ((m.put i a).put j b).put l c
end Sim
namespace Sim
open PySem PySem.Spec L2
section
variable {α β : Type}
theorem it_zFF {a : α → D} {b : β → D} (xs : List α) (ys : List β) : itZA [eF a xs, eF b ys] = some ((xs.zip ys).map (eP a b)) := congrArg some (zipD_T xs ys)
theorem op_stF {e : α → D} {xs : List α} {l u st : Option Int} {z : List α} (h : pickLL xs l u st = some z) : stF (eF e xs) l u st = some (eL e z) := by
  unfold pickLL at h
  split at h
  · rename_i c
    cases h
    show (if st ≠ some 0 ∧ (pickL (xs.map e) l u st).length ≤ 1000000 then some (PyData.list (pickL (xs.map e) l u st)) else none) = _
    rw [pickL_map, List.length_map, if_pos c]
    rfl
  · cases h
end
section
variable {α β δ γ ε ζ : Type}
variable {p : Pt} {g : O} {lo hi st : Option O} {v : α → D} {q : α → Pt} {F : (α → Option γ) → Option γ} {vl : Bool} {l : α → β → Option Int} {F1 : α → (β → Option γ) → Option γ}
  {u : α → β → δ → Option Int} {F2 : α → β → (δ → Option γ) → Option γ}
theorem x_stF {t : α → β → δ → ε → Option Int} {F3 : α → β → δ → (ε → Option γ) → Option γ} {m : α → β → δ → ε → Option ζ} {rv : α → β → δ → ε → ζ → D} (h : X vl p g v q F) (h1 : ∀ x, XPr (q x) lo (l x) (F1 x)) (h2 : ∀ x y, XPr (q x) hi (u x y) (F2 x y))
    (h3 : ∀ x y w, XPr (q x) st (t x y w) (F3 x y w)) (hs : ∀ x y w w2 z, m x y w w2 = some z → stF (v x) (l x y) (u x y w) (t x y w w2) = some (rv x y w w2 z)) :
    X true p (oStF g lo hi st) (fun w : α × β × δ × ε × ζ => rv w.1 w.2.1 w.2.2.1 w.2.2.2.1 w.2.2.2.2) (fun w => q w.1) (fun k => F fun x => F1 x fun y => F2 x y fun w => F3 x y w fun w2 => (m x y w w2).bind fun z => k (x, y, w, w2, z)) := fun k z e => by
  obtain ⟨x, e1, h⟩ := h _ z e
  obtain ⟨y, e2, h1⟩ := h1 x _ z e1
  obtain ⟨w, e3, h2⟩ := h2 x y _ z e2
  obtain ⟨w2, e4, h3⟩ := h3 x y w _ z e3
  obtain ⟨w3, e5, e6⟩ := Option.bind_eq_some_iff.mp e4
  refine ⟨(x, y, w, w2, w3), e6, fun s mm => ?_⟩
  obtain ⟨r, s1, a1, a2, a3⟩ := h s mm
  obtain ⟨s2, b1, b2⟩ := h1 s1 a2
  obtain ⟨s3, c1, c2⟩ := h2 s2 b2
  obtain ⟨s4, d1, d2⟩ := h3 s3 c2
  refine ⟨.val (rv x y w w2 w3), s4, ?_, d2, .inl rfl⟩
  show ((g s).bind fun r s1 => (prt lo s1).bind fun l s2 => (prt hi s2).bind fun u s3 => (prt st s3).bind fun t s4 => _) = _
  simp only [a1, ev_ok, b1, c1, d1, a3.rd d2, hs x y w w2 w3 e5]
end
section
variable {α β γ δ ε τ σ : Type} {p : Pt} {t : T} {b : α → Bool} {q : α → Pt} {F : (α → Option γ) → Option γ} {h' : O}
theorem x_ifM2 (e : τ → D) {β : Type} {a1 : α → β → τ} {a2 : α → ε → τ} {q1 : α → β → Pt} {q2 : α → ε → Pt} {g : O} {F1 : α → (β → Option (τ × σ)) → Option (τ × σ)} {F2 : α → (ε → Option (τ × σ)) → Option (τ × σ)}
    (h : XT p t b q F) (h1 : ∀ x, X true (q x) g (fun y => e (a1 x y)) (q1 x) (F1 x)) (h2 : ∀ x, X true (q x) h' (fun y => e (a2 x y)) (q2 x) (F2 x)) (st1 : α → β → σ) (st2 : α → ε → σ) (qs : α → σ → Pt) (w1 : ∀ x y, Wk (qs x (st1 x y)) (q1 x y)) (w2 : ∀ x y, Wk (qs x (st2 x y)) (q2 x y)) :
    X true p (oIf t g h') (fun w : α × τ × σ => e w.2.1) (fun w => qs w.1 w.2.2) (fun k => F fun x => (if b x = true then F1 x (fun y => some (a1 x y, st1 x y)) else F2 x (fun y => some (a2 x y, st2 x y))).bind fun z => k (x, z)) :=
  x_ifM e st1 st2 qs h h1 h2 w1 w2
end
end Sim
namespace Sim
open PySem PySem.Spec L2
section
variable {α : Type}
end
end Sim
namespace Sim
open PySem PySem.Spec L2
theorem okR_sh {d : D} (h : okR d = true) : sh d = true := by
  simp only [okR, Bool.and_eq_true] at h
  exact h.1.1.2
def reprT {α : Type} (e : α → D) (x : α) : Option Txt8 := if h : okR (e x) = true then some ⟨(e x).shown, sok_sh _ (okR_sh h)⟩ else none
theorem op_repr {α : Type} {e : α → D} {x : α} {z : Txt8} (h : reprT e x = some z) : pRepr [e x] = some (eR z) := by
  unfold reprT at h
  show (if okR (e x) = true then some (PyData.str (e x).shown) else none) = _
  split at h
  · rename_i k
    cases h
    rw [if_pos k]
  · cases h
end Sim
namespace Sim
open PySem PySem.Spec L2
end Sim
namespace Sim
open PySem PySem.Spec L2
section
variable {α β : Type} [DecidableEq α] {ek : α → D} {f : α → NestedKey} {e : β → D}
theorem op_listM (h : KeyM ek f) (l : List (α × β)) : pListN [eM f e l] = some (eL ek (l.map Prod.fst)) := by
  show (unN (eM f e l)).map _ = _
  rw [unN_eM h]
  show some (PyData.list _) = _
  rw [keys_told h]
  rfl
end
theorem op_min1F {xs : List Int} {z : Int} (h : minO xs = some z) : pMin1 [eF eI xs] = some (.int z) := by
  have := op_min1L h
  exact this
section
variable {β γ : Type} {p : Pt} {gs : AL} {ks : List AK}
/-- a name that keeps what may be None, where it is known to be there -/
theorem xa_nO {τ : Type} {vs : τ → β → List D} {q2 : τ → β → Pt} {F2 : τ → (β → Option γ) → Option γ} (i : Nat) (e : τ → D) (o : Option τ) (h0 : gtP p i = some (eO e o)) (h2 : ∀ z, XA p gs ks (vs z) (q2 z) (F2 z)) (h1 : ∀ z y, gtP (q2 z y) i = some (eO e o)) (hp : ∀ z, pur (e z) = true) :
    XA p (aCons (oV i) gs) (.v :: ks) (fun w : τ × β => e w.1 :: vs w.1 w.2) (fun w => q2 w.1 w.2) (fun k => o.bind fun z => F2 z fun y => k (z, y)) := fun k z e0 => by
  obtain ⟨v, ev, e1⟩ := Option.bind_eq_some_iff.mp e0
  subst ev
  obtain ⟨y, e2, h⟩ := xa_n (vs := vs v) (q2 := q2 v) (F2 := F2 v) i (d := e v) h0 (h2 v) (h1 v) (hp v) (fun y => k (v, y)) z e1
  exact ⟨(v, y), e2, h⟩
end
end Sim
namespace Sim
open PySem PySem.Spec L2
def topS (i : Nat) : Stmt := PySem.Challenge.pw_stairlanes_k45_places_taken.main.body.getD i (.Pass ⟨0, 0, 0, 0⟩)
abbrev s_passed : Stmt := topS 1
theorem sc_passed : FnScope ["net", "turns", "lane", "lanes", "forks", "ends", "later", "number", "fork"] ["net", "turns", "lane"] (defScope s_passed) := ⟨rfl, rfl, rfl, by decide +kernel, rfl, by decide +kernel, by decide +kernel⟩
def b_passed : S :=
  (sSeq (sAsg (.tp [(.nm 3), (.nm 4), (.nm 5)]) (oV 0)) (sSeq (sSet 6 (oPrim pList (aCons (oV 1) aNil))) (sSeq (sFor (lkp [4] (lkM [0, 0, 1])) (mkI itE (aCons (oV 4) aNil)) (.tp [(.nm 7), (.nm 8)])
  (sIf (tst (o2 pIn (oV 2) (oV 8)))
  (sSeq (sSet 2 (o2 pIx (oV 8) (o2 pIx (oV 6) (oV 7)))) (sSetIx 6 (oV 7) (o2 pSub (oC (.int 1)) (o2 pIx (oV 6) (oV 7)))))
  sSkip)) (sRet (lkM [0, 0, 1]) (oTup (aCons (oPrim pTuple (aCons (oV 6) aNil)) (aCons (oIdxT (oV 5) (oV 2)) aNil)))))))
def f_passed : Fn := mkFn [0, 0, 1] 9 b_passed
abbrev s_with_one : Stmt := topS 3
theorem sc_with_one : FnScope ["counts", "at"] ["counts", "at"] (defScope s_with_one) := ⟨rfl, rfl, rfl, by decide +kernel, rfl, by decide +kernel, by decide +kernel⟩
def b_with_one : S :=
  (sRet (lkM [0, 0]) (o2 pAdd (o2 pAdd (oSl (oV 0) none (some (oV 1))) (oTup (aCons (o2 pAdd (o2 pIx (oV 0) (oV 1)) (oC (.int 1))) aNil))) (oSl (oV 0) (some (o2 pAdd (oV 1) (oC (.int 1)))) none)))
def f_with_one : Fn := mkFn [0, 0] 2 b_with_one
abbrev s_first_turns : Stmt := topS 5
theorem sc_first_turns : FnScope ["net"] ["net"] (defScope s_first_turns) := ⟨rfl, rfl, rfl, by decide +kernel, rfl, by decide +kernel, by decide +kernel⟩
def b_first_turns : S :=
  (sRet (lkM [0]) (o2 pMul (oTup (aCons (oC (.int 0)) aNil)) (oPrim pLen (aCons (o2 pIx (oV 0) (oC (.int 1))) aNil))))
def f_first_turns : Fn := mkFn [0] 1 b_first_turns
abbrev s_lowered : Stmt := topS 7
theorem sc_lowered : FnScope ["heights", "least", "height"] ["heights"] (defScope s_lowered) := ⟨rfl, rfl, rfl, by decide +kernel, rfl, by decide +kernel, by decide +kernel⟩
def b_lowered : S :=
  (sSeq (sSet 1 (oPrim pMinAny (aCons (oV 0) aNil))) (sRet (lkM [0]) (oPrim pTuple (aCons (oComp (mkI itP (aCons (oV 0) aNil)) (.nm 2) tYesT (o2 pSub (oV 2) (oV 1)) [2]) aNil))))
def f_lowered : Fn := mkFn [0] 3 b_lowered
abbrev s_places_behind : Stmt := topS 8
theorem sc_places_behind : FnScope ["net", "some", "place", "turns", "heights", "found", "lane", "further", "end"] ["net", "some", "place"] (defScope s_places_behind) := ⟨rfl, rfl, rfl, by decide +kernel, rfl, by decide +kernel, by decide +kernel⟩
def b_places_behind : S :=
  (sSeq (sAsg (.tp [(.nm 3), (.nm 4)]) (oV 2)) (sSeq (sSet 5 (oLst aNil)) (sSeq (sFor (lkp [1] (lkM [0, 0, 0])) (mkI itP (aCons (oV 1) aNil)) (.nm 6)
  (sSeq (sAsg (.tp [(.nm 7), (.nm 8)]) (oCall f_passed (aCons (oV 0) (aCons (oV 3) (aCons (oV 6) aNil))))) (sExpr (oMt mApp 5 (aCons (oTup (aCons (oV 6) (aCons (oTup (aCons (oV 7) (aCons (oCall f_lowered (aCons (oCall f_with_one (aCons (oV 4) (aCons (oV 8) aNil))) aNil)) aNil))) aNil))) aNil))))) (sRet (lkM [0, 0, 0]) (oV 5)))))
def f_places_behind : Fn := mkFn [0, 0, 0] 9 b_places_behind
abbrev s_first_place : Stmt := topS 9
theorem sc_first_place : FnScope ["net"] ["net"] (defScope s_first_place) := ⟨rfl, rfl, rfl, by decide +kernel, rfl, by decide +kernel, by decide +kernel⟩
def b_first_place : S :=
  (sRet (lkM [0]) (oTup (aCons (oCall f_first_turns (aCons (oV 0) aNil)) (aCons (o2 pMul (oTup (aCons (oC (.int 0)) aNil)) (o2 pIx (oV 0) (oC (.int 0)))) aNil))))
def f_first_place : Fn := mkFn [0] 1 b_first_place
abbrev s_is_whole : Stmt := topS 11
theorem sc_is_whole : FnScope ["thing", "least"] ["thing", "least"] (defScope s_is_whole) := ⟨rfl, rfl, rfl, by decide +kernel, rfl, by decide +kernel, by decide +kernel⟩
def b_is_whole : S :=
  (sRet (lkM [0, 0]) (oAnd (o1 (pIsi .int) (oV 0)) (oAnd (oNot (o1 (pIsi .bool) (oV 0))) (o2 pGe (oV 0) (oV 1)))))
def f_is_whole : Fn := mkFn [0, 0] 2 b_is_whole
abbrev s_are_turns : Stmt := topS 12
theorem sc_are_turns : FnScope ["net", "thing", "turn"] ["net", "thing"] (defScope s_are_turns) := ⟨rfl, rfl, rfl, by decide +kernel, rfl, by decide +kernel, by decide +kernel⟩
def b_are_turns : S :=
  (sSeq (sIf (tOr (tNot (tstA (o1 (pIsi .tup) (oV 1)))) (tst (o2 pNe (oPrim pLen (aCons (oV 1) aNil)) (oPrim pLen (aCons (o2 pIx (oV 0) (oC (.int 1))) aNil)))))
  (sRet (lkM [0, 0]) (oC (.bool false)))
  sSkip) (sRet (lkM [0, 0]) (oPrim pAll (aCons (oComp (mkI itP (aCons (oV 1) aNil)) (.nm 2) tYesT (oAnd (oCall f_is_whole (aCons (oV 2) (aCons (oC (.int 0)) aNil))) (o2 pLt (oV 2) (oC (.int 2)))) [2]) aNil))))
def f_are_turns : Fn := mkFn [0, 0] 3 b_are_turns
abbrev s_are_heights : Stmt := topS 14
theorem sc_are_heights : FnScope ["net", "thing", "height"] ["net", "thing"] (defScope s_are_heights) := ⟨rfl, rfl, rfl, by decide +kernel, rfl, by decide +kernel, by decide +kernel⟩
def b_are_heights : S :=
  (sSeq (sIf (tOr (tNot (tstA (o1 (pIsi .tup) (oV 1)))) (tOr (tst (o2 pNe (oPrim pLen (aCons (oV 1) aNil)) (o2 pIx (oV 0) (oC (.int 0))))) (tNot (tstA (oPrim pAll (aCons (oComp (mkI itP (aCons (oV 1) aNil)) (.nm 2) tYesT (oCall f_is_whole (aCons (oV 2) (aCons (oC (.int 0)) aNil))) [2]) aNil))))))
  (sRet (lkM [0, 0]) (oC (.bool false)))
  sSkip) (sRet (lkM [0, 0]) (o2 pEq (oPrim pMinAny (aCons (oV 1) aNil)) (oC (.int 0)))))
def f_are_heights : Fn := mkFn [0, 0] 3 b_are_heights
abbrev s_is_spot : Stmt := topS 15
theorem sc_is_spot : FnScope ["net", "thing"] ["net", "thing"] (defScope s_is_spot) := ⟨rfl, rfl, rfl, by decide +kernel, rfl, by decide +kernel, by decide +kernel⟩
def b_is_spot : S :=
  (sRet (lkM [0, 0]) (oAnd (o1 (pIsi .tup) (oV 1)) (oAnd (o2 pEq (oPrim pLen (aCons (oV 1) aNil)) (oC (.int 2))) (oAnd (oCall f_are_turns (aCons (oV 0) (aCons (o2 pIx (oV 1) (oC (.int 0))) aNil))) (oCall f_are_heights (aCons (oV 0) (aCons (o2 pIx (oV 1) (oC (.int 1))) aNil)))))))
def f_is_spot : Fn := mkFn [0, 0] 2 b_is_spot
abbrev s_shows_reach : Stmt := topS 16
theorem sc_shows_reach : FnScope ["net", "some", "far", "thing", "place", "known", "lane", "further"] ["net", "some", "far", "thing"] (defScope s_shows_reach) := ⟨rfl, rfl, rfl, by decide +kernel, rfl, by decide +kernel, by decide +kernel⟩
def b_shows_reach : S :=
  (sSeq (sIf (tOr (tNot (tstA (o1 (pIsi .tup) (oV 3)))) (tNot (tstA (oPrim pAll (aCons (oComp (mkI itP (aCons (oV 3) aNil)) (.nm 4) tYesT (oCall f_is_spot (aCons (oV 0) (aCons (oV 4) aNil))) [4]) aNil)))))
  (sRet (lkM [0, 0, 0, 0]) (oC (.bool false)))
  sSkip) (sSeq (sSet 5 (oPrim pDictN (aCons (oComp (mkI itP (aCons (oV 3) aNil)) (.nm 4) tYesT (oTup (aCons (oV 4) (aCons (oC (.bool true)) aNil))) [4]) aNil))) (sSeq (sIf (tOr (tst (o2 pNe (oPrim pLenN (aCons (oV 5) aNil)) (oPrim pLen (aCons (oV 3) aNil)))) (tst (o2 pNinN (oCall f_first_place (aCons (oV 0) aNil)) (oV 5))))
  (sRet (lkM [0, 0, 0, 0]) (oC (.bool false)))
  sSkip) (sSeq (sFor (lkp [3] (lkM [0, 0, 0, 0])) (mkI itP (aCons (oV 3) aNil)) (.nm 4)
  (sIf (tOr (tst (o2 pGt (oPrim pMax1 (aCons (o2 pIx (oV 4) (oC (.int 1))) aNil)) (oV 2))) (tNot (tstA (oPrim pAll (aCons (oComp (mkI itP (aCons (oCall f_places_behind (aCons (oV 0) (aCons (oV 1) (aCons (oV 4) aNil)))) aNil)) (.tp [(.nm 6), (.nm 7)]) tYesT (o2 pInN (oV 7) (oV 5)) [6, 7]) aNil)))))
  (sRet (lkp [3] (lkM [0, 0, 0, 0])) (oC (.bool false)))
  sSkip)) (sRet (lkM [0, 0, 0, 0]) (oC (.bool true)))))))
def f_shows_reach : Fn := mkFn [0, 0, 0, 0] 8 b_shows_reach
abbrev s__law_left : Stmt := topS 18
theorem sc__law_left : FnScope ["_law_script", "_law_k", "_law_cell", "_law_digits"] ["_law_script", "_law_k"] (defScope s__law_left) := ⟨rfl, rfl, rfl, by decide +kernel, rfl, by decide +kernel, by decide +kernel⟩
def b__law_left : S :=
  (sSeq (sSet 2 (oC (.int 0))) (sSeq (sIf (tst (o2 pGt (oPrim pLen (aCons (oV 0) aNil)) (oC (.int 0))))
  (sSet 2 (o2 pIx (oV 0) (o2 pMod (oV 1) (oPrim pLen (aCons (oV 0) aNil)))))
  sSkip) (sSeq (sSet 3 (o2 pMul (o2 pMod (oPrim pAbs (aCons (oV 2) aNil)) (o2 pPow (oC (.int 10)) (oC (.int 60)))) (oPrim pInt (aCons (o2 pGe (oPrim pAbs (aCons (oV 2) aNil)) (o2 pPow (oC (.int 10)) (oC (.int 18)))) aNil)))) (sRet (lkM [0, 0]) (oLst (aCons (oV 3) (aCons (o2 pMod (o2 pMul (o2 pAdd (o2 pAdd (o2 pMod (oV 2) (oC (.int 2305843009213693951))) (o2 pMul (o2 pMul (oC (.int 7919)) (oV 1)) (oV 1))) (oC (.int 11))) (oC (.int 48271))) (oC (.int 2147483647))) (aCons (oC (.int 0)) aNil))))))))
def f__law_left : Fn := mkFn [0, 0] 4 b__law_left
abbrev s__law_pick : Stmt := topS 19
theorem sc__law_pick : FnScope ["_law_left_here", "_law_many", "_law_digit"] ["_law_left_here", "_law_many"] (defScope s__law_pick) := ⟨rfl, rfl, rfl, by decide +kernel, rfl, by decide +kernel, by decide +kernel⟩
def b__law_pick : S :=
  (sSeq (sIf (tst (o2 pGt (o2 pIx (oV 0) (oC (.int 0))) (oC (.int 0))))
  (sSeq (sSet 2 (o2 pMod (o2 pIx (oV 0) (oC (.int 0))) (oV 1))) (sSeq (sSetIx 0 (oC (.int 0)) (o2 pDiv (o2 pIx (oV 0) (oC (.int 0))) (oV 1))) (sRet (lkM [0, 0]) (oV 2))))
  sSkip) (sSeq (sSetIx 0 (oC (.int 2)) (o2 pAdd (o2 pIx (oV 0) (oC (.int 2))) (oC (.int 1)))) (sSeq (sSetIx 0 (oC (.int 1)) (o2 pMod (o2 pAdd (o2 pAdd (o2 pMul (o2 pIx (oV 0) (oC (.int 1))) (oC (.int 48271))) (oC (.int 12345))) (o2 pIx (oV 0) (oC (.int 2)))) (oC (.int 2147483647)))) (sRet (lkM [0, 0]) (o2 pMod (o2 pDiv (o2 pMod (o2 pMul (o2 pIx (oV 0) (oC (.int 1))) (o2 pIx (oV 0) (oC (.int 1)))) (oC (.int 1999999973))) (oC (.int 64))) (oV 1))))))
def f__law_pick : Fn := mkFn [0, 0] 3 b__law_pick
abbrev s__law_mixed : Stmt := topS 20
theorem sc__law_mixed : FnScope ["_law_left_here", "_law_row", "_law_some_here", "_law_found"] ["_law_left_here", "_law_row"] (defScope s__law_mixed) := ⟨rfl, rfl, rfl, by decide +kernel, rfl, by decide +kernel, by decide +kernel⟩
def b__law_mixed (n : Nat) : S :=
  (sSeq (sPar [2, 3] (aCons (oPrim pList (aCons (oV 1) aNil)) (aCons (oLst aNil) aNil))) (sSeq (sWhile (tst (o2 pNe (oV 2) (oLst aNil)))
  (sExpr (oMt mApp 3 (aCons (oMt mPopAt 2 (aCons (oCall f__law_pick (aCons (oV 0) (aCons (oPrim pLen (aCons (oV 2) aNil)) aNil))) aNil)) aNil))) (n * 256)) (sRet (lkM [0, 0]) (oPrim pTuple (aCons (oV 3) aNil)))))
def f__law_mixed (n : Nat) : Fn := mkFn [0, 0] 4 (b__law_mixed n)
theorem len__law_mixed (n : Nat) (ds : List D) (r : D) (as : List D) (h : f__law_mixed n ds = .ok r as) : ds.length = 2 := mkFn_len h
abbrev s__law_merger : Stmt := topS 21
theorem sc__law_merger : FnScope ["_law_one", "_law_other", "_law_forks", "_law_first", "_law_more_here", "_law_second", "_law_ends_here", "_law_x", "_law_y"] ["_law_one", "_law_other"] (defScope s__law_merger) := ⟨rfl, rfl, rfl, by decide +kernel, rfl, by decide +kernel, by decide +kernel⟩
def b__law_merger (n : Nat) (R : Fn) : S :=
  (sSeq (sIf (tst (o2 pEq (oPrim pLen (aCons (oV 0) aNil)) (oC (.int 1))))
  (sRet (lkM [0, 0]) (oTup (aCons (oLst (aCons (oTup (aCons (o2 pIx (oV 0) (oC (.int 0))) (aCons (o2 pIx (oV 1) (oC (.int 0))) aNil))) aNil)) (aCons (oFrz (oLst (aCons (o2 pIx (oV 0) (oC (.int 0))) (aCons (o2 pIx (oV 1) (oC (.int 0))) aNil)))) aNil))))
  sSkip) (sSeq (sAsg (.tp [(.nm 2), (.nm 3)]) (oCall (R) (aCons (oFrz (oStF (oV 0) none none (some (oC (.int 2))))) (aCons (oFrz (oStF (oV 1) (some (oC (.int 1))) none (some (oC (.int 2))))) aNil)))) (sSeq (sAsg (.tp [(.nm 4), (.nm 5)]) (oCall (R) (aCons (oFrz (oStF (oV 0) (some (oC (.int 1))) none (some (oC (.int 2))))) (aCons (oFrz (oStF (oV 1) none none (some (oC (.int 2))))) aNil)))) (sSeq (sPar [2, 6] (aCons (o2 pAdd (oV 2) (oV 4)) (aCons (oLst aNil) aNil))) (sSeq (sFor (lkp [3, 5] (lkM [0, 0])) (mkI itZA (aCons (oV 3) (aCons (oV 5) aNil))) (.tp [(.nm 7), (.nm 8)])
  (sSeq (sExpr (oMt mApp 2 (aCons (oTup (aCons (oV 7) (aCons (oV 8) aNil))) aNil))) (sExpr (oMt mExt 6 (aCons (oLst (aCons (oV 7) (aCons (oV 8) aNil))) aNil))))) (sRetT (lkM [0, 0]) (aCons (oV 2) (aCons (oFrzV 6) aNil))))))))
def f__law_merger : Nat → Fn
  | 0 => mkFn [0, 0] 9 sNever
  | n + 1 => mkFn [0, 0] 9 (b__law_merger n (f__law_merger n))
theorem len__law_merger : ∀ (n : Nat) (ds : List D) (r : D) (as : List D), f__law_merger n ds = .ok r as → ds.length = 2
  | 0, _, _, _, h => mkFn_len h
  | _ + 1, _, _, _, h => mkFn_len h
abbrev s__law_stairway : Stmt := topS 22
theorem sc__law_stairway : FnScope ["_law_row", "_law_half", "_law_forks", "_law_one", "_law_more_here", "_law_other", "_law_last", "_law_ends_here"] ["_law_row"] (defScope s__law_stairway) := ⟨rfl, rfl, rfl, by decide +kernel, rfl, by decide +kernel, by decide +kernel⟩
def b__law_stairway (n : Nat) (R : Fn) : S :=
  (sSeq (sIf (tst (o2 pEq (oPrim pLen (aCons (oV 0) aNil)) (oC (.int 1))))
  (sRet (lkM [0]) (oTup (aCons (oLst aNil) (aCons (oFrz (oPrim pList (aCons (oV 0) aNil))) aNil))))
  sSkip) (sSeq (sSet 1 (o2 pDiv (oPrim pLen (aCons (oV 0) aNil)) (oC (.int 2)))) (sSeq (sAsg (.tp [(.nm 2), (.nm 3)]) (oCall (R) (aCons (oFrz (oSl (oV 0) none (some (oV 1)))) aNil))) (sSeq (sAsg (.tp [(.nm 4), (.nm 5)]) (oCall (R) (aCons (oFrz (oSl (oV 0) (some (oV 1)) none)) aNil))) (sSeq (sAsg (.tp [(.nm 6), (.nm 7)]) (oCall (f__law_merger n) (aCons (oV 3) (aCons (oV 5) aNil)))) (sRet (lkM [0]) (oTup (aCons (o2 pAdd (o2 pAdd (oV 2) (oV 4)) (oV 6)) (aCons (oV 7) aNil)))))))))
def f__law_stairway : Nat → Fn
  | 0 => mkFn [0] 8 sNever
  | n + 1 => mkFn [0] 8 (b__law_stairway n (f__law_stairway n))
theorem len__law_stairway : ∀ (n : Nat) (ds : List D) (r : D) (as : List D), f__law_stairway n ds = .ok r as → ds.length = 1
  | 0, _, _, _, h => mkFn_len h
  | _ + 1, _, _, _, h => mkFn_len h
abbrev s__law_block : Stmt := topS 23
theorem sc__law_block : FnScope ["_law_row", "_law_half", "_law_forks", "_law_i"] ["_law_row"] (defScope s__law_block) := ⟨rfl, rfl, rfl, by decide +kernel, rfl, by decide +kernel, by decide +kernel⟩
def b__law_block (n : Nat) (R : Fn) : S :=
  (sSeq (sIf (tst (o2 pEq (oPrim pLen (aCons (oV 0) aNil)) (oC (.int 1))))
  (sRet (lkM [0]) (oLst aNil))
  sSkip) (sSeq (sSet 1 (o2 pDiv (oPrim pLen (aCons (oV 0) aNil)) (oC (.int 2)))) (sSeq (sSet 2 (oComp (mkI itR1 (aCons (oV 1) aNil)) (.nm 3) tYesT (oTup (aCons (o2 pIx (oV 0) (oV 3)) (aCons (o2 pIx (oV 0) (o2 pSub (o2 pSub (oPrim pLen (aCons (oV 0) aNil)) (oC (.int 1))) (oV 3))) aNil))) [3])) (sRet (lkM [0]) (o2 pAdd (o2 pAdd (oV 2) (oCall (R) (aCons (oFrz (oSl (oV 0) none (some (oV 1)))) aNil))) (oCall (R) (aCons (oFrz (oSl (oV 0) (some (oV 1)) none)) aNil)))))))
def f__law_block : Nat → Fn
  | 0 => mkFn [0] 4 sNever
  | n + 1 => mkFn [0] 4 (b__law_block n (f__law_block n))
theorem len__law_block : ∀ (n : Nat) (ds : List D) (r : D) (as : List D), f__law_block n ds = .ok r as → ds.length = 1
  | 0, _, _, _, h => mkFn_len h
  | _ + 1, _, _, _, h => mkFn_len h
abbrev s__law_tree : Stmt := topS 24
theorem sc__law_tree : FnScope ["_law_row", "_law_half", "_law_forks", "_law_one", "_law_more_here", "_law_other", "_law_ends_here", "_law_x", "_law_y"] ["_law_row"] (defScope s__law_tree) := ⟨rfl, rfl, rfl, by decide +kernel, rfl, by decide +kernel, by decide +kernel⟩
def b__law_tree (n : Nat) (R : Fn) : S :=
  (sSeq (sIf (tst (o2 pEq (oPrim pLen (aCons (oV 0) aNil)) (oC (.int 1))))
  (sRet (lkM [0]) (oTup (aCons (oLst aNil) (aCons (oFrz (oPrim pList (aCons (oV 0) aNil))) aNil))))
  sSkip) (sSeq (sSet 1 (o2 pDiv (oPrim pLen (aCons (oV 0) aNil)) (oC (.int 2)))) (sSeq (sAsg (.tp [(.nm 2), (.nm 3)]) (oCall (R) (aCons (oFrz (oSl (oV 0) none (some (oV 1)))) aNil))) (sSeq (sAsg (.tp [(.nm 4), (.nm 5)]) (oCall (R) (aCons (oFrz (oSl (oV 0) (some (oV 1)) none)) aNil))) (sSeq (sSet 6 (oLst aNil)) (sSeq (sFor (lkp [3, 5] (lkM [0])) (mkI itZA (aCons (oV 3) (aCons (oV 5) aNil))) (.tp [(.nm 7), (.nm 8)])
  (sExpr (oMt mExt 6 (aCons (oLst (aCons (oV 7) (aCons (oV 8) aNil))) aNil)))) (sRetT (lkM [0]) (aCons (o2 pAdd (o2 pAdd (oLst (aCons (oTup (aCons (o2 pIx (oV 0) (oC (.int 0))) (aCons (o2 pIx (oV 0) (oV 1)) aNil))) aNil)) (oV 2)) (oV 4)) (aCons (oFrzV 6) aNil)))))))))
def f__law_tree : Nat → Fn
  | 0 => mkFn [0] 9 sNever
  | n + 1 => mkFn [0] 9 (b__law_tree n (f__law_tree n))
theorem len__law_tree : ∀ (n : Nat) (ds : List D) (r : D) (as : List D), f__law_tree n ds = .ok r as → ds.length = 1
  | 0, _, _, _, h => mkFn_len h
  | _ + 1, _, _, _, h => mkFn_len h
abbrev s__law_made : Stmt := topS 25
theorem sc__law_made : FnScope ["_law_way", "_law_k", "_law_row", "_law_forks", "_law_ends_here"] ["_law_way", "_law_k"] (defScope s__law_made) := ⟨rfl, rfl, rfl, by decide +kernel, rfl, by decide +kernel, by decide +kernel⟩
def b__law_made (n : Nat) : S :=
  (sSeq (sSet 2 (oFrz (oPrim (pListRg) (aCons (o2 pIx (oLst (aCons (oC (.int 1)) (aCons (oC (.int 2)) (aCons (oC (.int 4)) (aCons (oC (.int 8)) (aCons (oC (.int 16)) aNil)))))) (oV 1)) aNil)))) (sSeq (sPar [3, 4] (aCons (o2 pMul (oCall (f__law_block n) (aCons (oV 2) aNil)) (oV 1)) (aCons (oV 2) aNil))) (sSeq (sIf (tst (o2 pEq (oV 0) (oC (.int 0))))
  (sAsg (.tp [(.nm 3), (.nm 4)]) (oCall (f__law_stairway n) (aCons (oV 2) aNil)))
  sSkip) (sSeq (sIf (tst (o2 pEq (oV 0) (oC (.int 1))))
  (sAsg (.tp [(.nm 3), (.nm 4)]) (oCall (f__law_tree n) (aCons (oV 2) aNil)))
  sSkip) (sRet (lkM [0, 0]) (oTup (aCons (oPrim pLen (aCons (oV 2) aNil)) (aCons (oPrim pTuple (aCons (oV 3) aNil)) (aCons (oPrim pTuple (aCons (oV 4) aNil)) aNil)))))))))
def f__law_made (n : Nat) : Fn := mkFn [0, 0] 5 (b__law_made n)
theorem len__law_made (n : Nat) (ds : List D) (r : D) (as : List D) (h : f__law_made n ds = .ok r as) : ds.length = 2 := mkFn_len h
abbrev s__law_any : Stmt := topS 26
theorem sc__law_any : FnScope ["_law_left_here", "_law_lanes", "_law_forks", "_law_k", "_law_a", "_law_b", "_law_ends_here"] ["_law_left_here"] (defScope s__law_any) := ⟨rfl, rfl, rfl, by decide +kernel, rfl, by decide +kernel, by decide +kernel⟩
def b__law_any (n : Nat) : S :=
  (sSeq (sSet 1 (o2 pIx (oLst (aCons (oC (.int 1)) (aCons (oC (.int 2)) (aCons (oC (.int 2)) (aCons (oC (.int 3)) (aCons (oC (.int 4)) (aCons (oC (.int 3)) (aCons (oC (.int 4)) (aCons (oC (.int 6)) aNil))))))))) (oCall f__law_pick (aCons (oV 0) (aCons (oC (.int 8)) aNil))))) (sSeq (sSet 2 (oLst aNil)) (sSeq (sFor (lkM [0]) (mkI itR1 (aCons (o2 pMul (o2 pIx (oLst (aCons (oC (.int 0)) (aCons (oC (.int 1)) (aCons (oC (.int 2)) (aCons (oC (.int 3)) (aCons (oC (.int 4)) (aCons (oC (.int 5)) (aCons (oC (.int 6)) (aCons (oC (.int 8)) aNil))))))))) (oCall f__law_pick (aCons (oV 0) (aCons (oC (.int 8)) aNil)))) (oPrim pInt (aCons (o2 pGt (oV 1) (oC (.int 1))) aNil))) aNil)) (.nm 3)
  (sSeq (sSet 4 (oCall f__law_pick (aCons (oV 0) (aCons (oV 1) aNil)))) (sSeq (sSet 5 (o2 pMod (o2 pAdd (o2 pAdd (oV 4) (oC (.int 1))) (oCall f__law_pick (aCons (oV 0) (aCons (o2 pSub (oV 1) (oC (.int 1))) aNil)))) (oV 1))) (sExpr (oMt mApp 2 (aCons (o2 pIx (oLst (aCons (oTup (aCons (oV 4) (aCons (oV 5) aNil))) (aCons (oTup (aCons (oV 4) (aCons (oV 5) aNil))) (aCons (o2 pIx (o2 pAdd (oV 2) (oLst (aCons (oTup (aCons (oV 4) (aCons (oV 5) aNil))) aNil))) (oC (.int 0))) aNil)))) (oCall f__law_pick (aCons (oV 0) (aCons (oC (.int 3)) aNil)))) aNil)))))) (sSeq (sSet 6 (o2 pIx (oLst (aCons (oPrim (pTupleRg) (aCons (oV 1) aNil)) (aCons (oCall (f__law_mixed n) (aCons (oV 0) (aCons (oPrim (pListRg) (aCons (oV 1) aNil)) aNil))) aNil))) (oCall f__law_pick (aCons (oV 0) (aCons (oC (.int 2)) aNil))))) (sRet (lkM [0]) (oTup (aCons (oV 1) (aCons (oPrim pTuple (aCons (oV 2) aNil)) (aCons (oV 6) aNil)))))))))
def f__law_any (n : Nat) : Fn := mkFn [0] 7 (b__law_any n)
theorem len__law_any (n : Nat) (ds : List D) (r : D) (as : List D) (h : f__law_any n ds = .ok r as) : ds.length = 1 := mkFn_len h
abbrev s__law_changed : Stmt := topS 27
theorem sc__law_changed : FnScope ["_law_left_here", "_law_net_here", "_law_lanes", "_law_forks", "_law_ends_here", "_law_way", "_law_at", "_law_k", "_law_here", "_law_a", "_law_b", "_law_row"] ["_law_left_here", "_law_net_here"] (defScope s__law_changed) := ⟨rfl, rfl, rfl, by decide +kernel, rfl, by decide +kernel, by decide +kernel⟩
def b__law_changed : S :=
  (sSeq (sAsg (.tp [(.nm 2), (.nm 3), (.nm 4)]) (oV 1)) (sSeq (sPar [5, 6, 7] (aCons (oCall f__law_pick (aCons (oV 0) (aCons (oC (.int 5)) aNil))) (aCons (oCall f__law_pick (aCons (oV 0) (aCons (o2 pAdd (oPrim pLen (aCons (oV 3) aNil)) (oC (.int 1))) aNil))) (aCons (oCall f__law_pick (aCons (oV 0) (aCons (oV 2) aNil))) aNil)))) (sSeq (sSet 8 (oSl (oV 3) (some (oV 6)) (some (o2 pAdd (oV 6) (oC (.int 1)))))) (sSeq (sIf (tst (o2 pEq (oV 5) (oC (.int 0))))
  (sRet (lkM [0, 0]) (oTup (aCons (oV 2) (aCons (o2 pAdd (o2 pAdd (oSl (oV 3) none (some (oV 6))) (oPrim pTuple (aCons (oComp (mkI itP (aCons (oV 8) aNil)) (.tp [(.nm 9), (.nm 10)]) tYesT (oTup (aCons (oV 10) (aCons (oV 9) aNil))) [9, 10]) aNil))) (oSl (oV 3) (some (o2 pAdd (oV 6) (oC (.int 1)))) none)) (aCons (oV 4) aNil)))))
  sSkip) (sSeq (sIf (tst (o2 pEq (oV 5) (oC (.int 1))))
  (sRet (lkM [0, 0]) (oTup (aCons (oV 2) (aCons (o2 pAdd (oSl (oV 3) none (some (oV 6))) (oSl (oV 3) (some (o2 pAdd (oV 6) (oC (.int 1)))) none)) (aCons (oV 4) aNil)))))
  sSkip) (sSeq (sIf (tst (o2 pEq (oV 5) (oC (.int 2))))
  (sRet (lkM [0, 0]) (oTup (aCons (oV 2) (aCons (o2 pAdd (o2 pAdd (oSl (oV 3) none (some (oV 6))) (oV 8)) (oSl (oV 3) (some (oV 6)) none)) (aCons (oV 4) aNil)))))
  sSkip) (sSeq (sIf (tst (o2 pEq (oV 5) (oC (.int 3))))
  (sRet (lkM [0, 0]) (oTup (aCons (oV 2) (aCons (o2 pAdd (o2 pAdd (o2 pAdd (oSl (oV 3) none (some (oV 6))) (oSl (oV 3) (some (o2 pAdd (oV 6) (oC (.int 1)))) (some (o2 pAdd (oV 6) (oC (.int 2)))))) (oV 8)) (oSl (oV 3) (some (o2 pAdd (oV 6) (oC (.int 2)))) none)) (aCons (oV 4) aNil)))))
  sSkip) (sSeq (sSet 11 (oPrim pList (aCons (oV 4) aNil))) (sSeq (sSetIx2 11 (oC (.int 0)) 11 (oV 7) (aCons (o2 pIx (oV 4) (oV 7)) (aCons (o2 pIx (oV 4) (oC (.int 0))) aNil))) (sRet (lkM [0, 0]) (oTup (aCons (oV 2) (aCons (oV 3) (aCons (oPrim pTuple (aCons (oV 11) aNil)) aNil))))))))))))))
def f__law_changed : Fn := mkFn [0, 0] 12 b__law_changed
abbrev s__law_net : Stmt := topS 28
theorem sc__law_net : FnScope ["_law_left_here", "_law_way", "_law_net_here", "_law_k"] ["_law_left_here"] (defScope s__law_net) := ⟨rfl, rfl, rfl, by decide +kernel, rfl, by decide +kernel, by decide +kernel⟩
def b__law_net (n : Nat) : S :=
  (sSeq (sSet 1 (oCall f__law_pick (aCons (oV 0) (aCons (oC (.int 4)) aNil)))) (sSeq (sIf (tst (o2 pEq (oV 1) (oC (.int 0))))
  (sRet (lkM [0]) (oCall (f__law_any n) (aCons (oV 0) aNil)))
  sSkip) (sSeq (sSet 2 (oCall (f__law_made n) (aCons (oCall f__law_pick (aCons (oV 0) (aCons (oC (.int 3)) aNil))) (aCons (o2 pIx (oLst (aCons (oC (.int 1)) (aCons (oC (.int 2)) (aCons (oC (.int 2)) (aCons (oC (.int 0)) aNil))))) (oCall f__law_pick (aCons (oV 0) (aCons (oC (.int 4)) aNil)))) aNil)))) (sSeq (sFor (lkM [0]) (mkI itR1 (aCons (o2 pMul (o2 pIx (oLst (aCons (oC (.int 0)) (aCons (oC (.int 1)) (aCons (oC (.int 1)) (aCons (oC (.int 2)) aNil))))) (oV 1)) (oCall f__law_pick (aCons (oV 0) (aCons (oC (.int 2)) aNil)))) aNil)) (.nm 3)
  (sSet 2 (oCall f__law_changed (aCons (oV 0) (aCons (oV 2) aNil))))) (sRet (lkM [0]) (oV 2))))))
def f__law_net (n : Nat) : Fn := mkFn [0] 4 (b__law_net n)
theorem len__law_net (n : Nat) (ds : List D) (r : D) (as : List D) (h : f__law_net n ds = .ok r as) : ds.length = 1 := mkFn_len h
abbrev s__law_some : Stmt := topS 29
theorem sc__law_some : FnScope ["_law_left_here", "_law_net_here", "_law_some_here", "_law_lane"] ["_law_left_here", "_law_net_here"] (defScope s__law_some) := ⟨rfl, rfl, rfl, by decide +kernel, rfl, by decide +kernel, by decide +kernel⟩
def b__law_some : S :=
  (sSeq (sSet 2 (oComp (mkI itR1 (aCons (o2 pIx (oV 1) (oC (.int 0))) aNil)) (.nm 3) (tst (o2 pEq (oCall f__law_pick (aCons (oV 0) (aCons (oC (.int 2)) aNil))) (oC (.int 0)))) (oV 3) [3])) (sRet (lkM [0, 0]) (o2 pIx (oLst (aCons (oPrim (pTupleRg) (aCons (o2 pIx (oV 1) (oC (.int 0))) aNil)) (aCons (oIf (tst (o2 pNe (oV 2) (oLst aNil))) (oPrim pTuple (aCons (oV 2) aNil)) (oTup (aCons (oCall f__law_pick (aCons (oV 0) (aCons (o2 pIx (oV 1) (oC (.int 0))) aNil))) aNil))) aNil))) (oCall f__law_pick (aCons (oV 0) (aCons (oC (.int 2)) aNil))))))
def f__law_some : Fn := mkFn [0, 0] 4 b__law_some
abbrev s__law_passed : Stmt := topS 30
theorem sc__law_passed : FnScope ["_law_net_here", "_law_turns", "_law_lane", "_law_row", "_law_k", "_law_fork"] ["_law_net_here", "_law_turns", "_law_lane"] (defScope s__law_passed) := ⟨rfl, rfl, rfl, by decide +kernel, rfl, by decide +kernel, by decide +kernel⟩
def b__law_passed : S :=
  (sSeq (sSet 3 (oPrim pList (aCons (oV 1) aNil))) (sSeq (sFor (lkM [0, 0, 1]) (mkI itE (aCons (o2 pIx (oV 0) (oC (.int 1))) aNil)) (.tp [(.nm 4), (.nm 5)])
  (sIf (tst (o2 pIn (oV 2) (oV 5)))
  (sSeq (sSet 2 (o2 pIx (oV 5) (o2 pIx (oV 3) (oV 4)))) (sSetIx 3 (oV 4) (o2 pSub (oC (.int 1)) (o2 pIx (oV 3) (oV 4)))))
  sSkip)) (sRet (lkM [0, 0, 1]) (oTup (aCons (oPrim pTuple (aCons (oV 3) aNil)) (aCons (oIdxT (o2 pIx (oV 0) (oC (.int 2))) (oV 2)) aNil))))))
def f__law_passed : Fn := mkFn [0, 0, 1] 6 b__law_passed
abbrev s__law_ends : Stmt := topS 31
theorem sc__law_ends : FnScope ["_law_net_here", "_law_counts", "_law_row", "_law_a", "_law_b", "_law_total", "_law_lane"] ["_law_net_here", "_law_counts"] (defScope s__law_ends) := ⟨rfl, rfl, rfl, by decide +kernel, rfl, by decide +kernel, by decide +kernel⟩
def b__law_ends : S :=
  (sSeq (sSet 2 (oPrim pList (aCons (oV 1) aNil))) (sSeq (sFor (lkM [0, 0]) (mkI itP (aCons (o2 pIx (oV 0) (oC (.int 1))) aNil)) (.tp [(.nm 3), (.nm 4)])
  (sSeq (sSet 5 (o2 pAdd (o2 pIx (oV 2) (oV 3)) (o2 pIx (oV 2) (oV 4)))) (sSeq (sSetIx 2 (oV 3) (o2 pSub (oV 5) (o2 pDiv (oV 5) (oC (.int 2))))) (sSetIx 2 (oV 4) (o2 pDiv (oV 5) (oC (.int 2))))))) (sRet (lkM [0, 0]) (oPrim pTuple (aCons (oComp (mkI itP (aCons (o2 pIx (oV 0) (oC (.int 2))) aNil)) (.nm 6) tYesT (o2 pIx (oV 2) (oV 6)) [6]) aNil)))))
def f__law_ends : Fn := mkFn [0, 0] 7 b__law_ends
abbrev s__law_more : Stmt := topS 32
theorem sc__law_more : FnScope ["_law_counts", "_law_lane"] ["_law_counts", "_law_lane"] (defScope s__law_more) := ⟨rfl, rfl, rfl, by decide +kernel, rfl, by decide +kernel, by decide +kernel⟩
def b__law_more : S :=
  (sRet (lkM [0, 0]) (o2 pAdd (o2 pAdd (oSl (oV 0) none (some (oV 1))) (oTup (aCons (o2 pAdd (o2 pIx (oV 0) (oV 1)) (oC (.int 1))) aNil))) (oSl (oV 0) (some (o2 pAdd (oV 1) (oC (.int 1)))) none)))
def f__law_more : Fn := mkFn [0, 0] 2 b__law_more
abbrev s__law_even : Stmt := topS 33
theorem sc__law_even : FnScope ["_law_net_here", "_law_some_here", "_law_lane", "_law_counts", "_law_one"] ["_law_net_here", "_law_some_here"] (defScope s__law_even) := ⟨rfl, rfl, rfl, by decide +kernel, rfl, by decide +kernel, by decide +kernel⟩
def b__law_even : S :=
  (sSeq (sFor (lkp [1] (lkM [0, 0])) (mkI itP (aCons (oV 1) aNil)) (.nm 2)
  (sSeq (sSet 3 (oPrim pTuple (aCons (oComp (mkI itR1 (aCons (o2 pIx (oV 0) (oC (.int 0))) aNil)) (.nm 4) tYesT (o2 pMul (o2 pPow (oC (.int 2)) (oC (.int 60))) (oPrim pInt (aCons (o2 pEq (oV 4) (oV 2)) aNil))) [4]) aNil))) (sIf (tst (o2 pGt (oPrim pLenSet (aCons (oCall f__law_ends (aCons (oV 0) (aCons (oV 3) aNil))) aNil)) (oC (.int 1))))
  (sRet (lkp [1] (lkM [0, 0])) (oC (.bool false)))
  sSkip))) (sRet (lkM [0, 0]) (oC (.bool true))))
def f__law_even : Fn := mkFn [0, 0] 5 b__law_even
abbrev s__law_evened : Stmt := topS 34
theorem sc__law_evened : FnScope ["_law_left_here", "_law_way", "_law_size", "_law_forks", "_law_a", "_law_b", "_law_k", "_law_ends_here"] ["_law_left_here"] (defScope s__law_evened) := ⟨rfl, rfl, rfl, by decide +kernel, rfl, by decide +kernel, by decide +kernel⟩
def b__law_evened (n : Nat) : S :=
  (sSeq (sSet 1 (oCall f__law_pick (aCons (oV 0) (aCons (oC (.int 8)) aNil)))) (sSeq (sIf (tst (o2 pEq (oV 1) (oC (.int 0))))
  (sRet (lkM [0]) (oCall (f__law_net n) (aCons (oV 0) aNil)))
  sSkip) (sSeq (sIf (tst (o2 pLt (oV 1) (oC (.int 3))))
  (sRet (lkM [0]) (oCall (f__law_made n) (aCons (o2 pIx (oLst (aCons (oC (.int 0)) (aCons (oC (.int 2)) aNil))) (oCall f__law_pick (aCons (oV 0) (aCons (oC (.int 2)) aNil)))) (aCons (oCall f__law_pick (aCons (oV 0) (aCons (oC (.int 3)) aNil))) aNil))))
  sSkip) (sSeq (sSet 2 (o2 pIx (oLst (aCons (oC (.int 2)) (aCons (oC (.int 4)) (aCons (oC (.int 4)) (aCons (oC (.int 4)) (aCons (oC (.int 8)) aNil)))))) (oCall f__law_pick (aCons (oV 0) (aCons (oC (.int 5)) aNil))))) (sSeq (sSet 3 (oComp (mkI itP (aCons (oCall (f__law_block n) (aCons (oFrz (oPrim (pListRg) (aCons (oV 2) aNil))) aNil)) aNil)) (.tp [(.nm 4), (.nm 5)]) tYesT (o2 pIx (oLst (aCons (oTup (aCons (oV 4) (aCons (oV 5) aNil))) (aCons (oTup (aCons (oV 5) (aCons (oV 4) aNil))) aNil))) (oCall f__law_pick (aCons (oV 0) (aCons (oC (.int 2)) aNil)))) [4, 5])) (sSeq (sFor (lkM [0]) (mkI itR1 (aCons (o2 pMul (oCall f__law_pick (aCons (oV 0) (aCons (oC (.int 4)) aNil))) (oPrim pInt (aCons (o2 pLt (oV 2) (oC (.int 8))) aNil))) aNil)) (.nm 6)
  (sSeq (sSet 4 (oCall f__law_pick (aCons (oV 0) (aCons (oV 2) aNil)))) (sExpr (oMt mApp 3 (aCons (oTup (aCons (oV 4) (aCons (o2 pMod (o2 pAdd (o2 pAdd (oV 4) (oC (.int 1))) (oCall f__law_pick (aCons (oV 0) (aCons (o2 pSub (oV 2) (oC (.int 1))) aNil)))) (oV 2)) aNil))) aNil))))) (sSeq (sSet 7 (o2 pIx (oLst (aCons (oPrim (pTupleRg) (aCons (oV 2) aNil)) (aCons (oCall (f__law_mixed n) (aCons (oV 0) (aCons (oPrim (pListRg) (aCons (oV 2) aNil)) aNil))) aNil))) (oCall f__law_pick (aCons (oV 0) (aCons (oC (.int 2)) aNil))))) (sRet (lkM [0]) (oTup (aCons (oV 2) (aCons (oPrim pTuple (aCons (oV 3) aNil)) (aCons (oV 7) aNil))))))))))))
def f__law_evened (n : Nat) : Fn := mkFn [0] 8 (b__law_evened n)
theorem len__law_evened (n : Nat) (ds : List D) (r : D) (as : List D) (h : f__law_evened n ds = .ok r as) : ds.length = 1 := mkFn_len h
abbrev s__law_lowered : Stmt := topS 35
theorem sc__law_lowered : FnScope ["_law_heights", "_law_height"] ["_law_heights"] (defScope s__law_lowered) := ⟨rfl, rfl, rfl, by decide +kernel, rfl, by decide +kernel, by decide +kernel⟩
def b__law_lowered : S :=
  (sRet (lkM [0]) (oPrim pTuple (aCons (oComp (mkI itP (aCons (oV 0) aNil)) (.nm 1) tYesT (o2 pSub (oV 1) (oPrim pMinAny (aCons (oV 0) aNil))) [1]) aNil)))
def f__law_lowered : Fn := mkFn [0] 2 b__law_lowered
abbrev s__law_all_places : Stmt := topS 36
theorem sc__law_all_places : FnScope ["_law_net_here", "_law_some_here", "_law_most", "_law_first", "_law_met", "_law_waits", "_law_turns", "_law_heights", "_law_lane", "_law_later", "_law_end"] ["_law_net_here", "_law_some_here", "_law_most"] (defScope s__law_all_places) := ⟨rfl, rfl, rfl, by decide +kernel, rfl, by decide +kernel, by decide +kernel⟩
def b__law_all_places (n : Nat) : S :=
  (sSeq (sSet 3 (oTup (aCons (o2 pMul (oTup (aCons (oC (.int 0)) aNil)) (oPrim pLen (aCons (o2 pIx (oV 0) (oC (.int 1))) aNil))) (aCons (o2 pMul (oTup (aCons (oC (.int 0)) aNil)) (o2 pIx (oV 0) (oC (.int 0)))) aNil)))) (sSeq (sPar [4, 5] (aCons oNewN (aCons (oLst (aCons (oV 3) aNil)) aNil))) (sSeq (sWhile (tAnd (tst (o2 pNe (oV 5) (oLst aNil))) (tst (o2 pLe (oPrim pLenN (aCons (oV 4) aNil)) (oV 2))))
  (sSeq (sAsg (.tp [(.nm 6), (.nm 7)]) (oMt mPop 5 aNil)) (sIf (tst (o2 pNinN (oTup (aCons (oV 6) (aCons (oV 7) aNil))) (oV 4)))
  (sSeq (sSetN 4 (oTup (aCons (oV 6) (aCons (oV 7) aNil))) (oC (.bool true))) (sFor (lkp [1] (lkM [0, 0, 0])) (mkI itP (aCons (oV 1) aNil)) (.nm 8)
  (sSeq (sAsg (.tp [(.nm 9), (.nm 10)]) (oCall f__law_passed (aCons (oV 0) (aCons (oV 6) (aCons (oV 8) aNil))))) (sExpr (oMt mApp 5 (aCons (oTup (aCons (oV 9) (aCons (oCall f__law_lowered (aCons (oCall f__law_more (aCons (oV 7) (aCons (oV 10) aNil))) aNil)) aNil))) aNil))))))
  sSkip)) (n * 256)) (sRet (lkM [0, 0, 0]) (oIf (tst (o2 pLe (oPrim pLenN (aCons (oV 4) aNil)) (oV 2))) (oFrz (oPrim pListN (aCons (oV 4) aNil))) (oC .none))))))
def f__law_all_places (n : Nat) : Fn := mkFn [0, 0, 0] 11 (b__law_all_places n)
theorem len__law_all_places (n : Nat) (ds : List D) (r : D) (as : List D) (h : f__law_all_places n ds = .ok r as) : ds.length = 3 := mkFn_len h
abbrev s__law_with : Stmt := topS 37
theorem sc__law_with : FnScope ["_law_left_here", "_law_net_here", "_law_some_here", "_law_places", "_law_heights", "_law_lane", "_law_waits", "_law_met", "_law_fork", "_law_place", "_law_turns", "_law_later", "_law_end"] ["_law_left_here", "_law_net_here", "_law_some_here", "_law_places"] (defScope s__law_with) := ⟨rfl, rfl, rfl, by decide +kernel, rfl, by decide +kernel, by decide +kernel⟩
def b__law_with (n : Nat) : S :=
  (sSeq (sSet 4 (oCall f__law_lowered (aCons (oFrz (oComp (mkI itR1 (aCons (o2 pIx (oV 1) (oC (.int 0))) aNil)) (.nm 5) tYesT (oCall f__law_pick (aCons (oV 0) (aCons (oC (.int 3)) aNil))) [5])) aNil))) (sSeq (sPar [6, 7] (aCons (oLst (aCons (oTup (aCons (oPrim pTuple (aCons (oComp (mkI itP (aCons (o2 pIx (oV 1) (oC (.int 1))) aNil)) (.nm 8) tYesT (oCall f__law_pick (aCons (oV 0) (aCons (oC (.int 2)) aNil))) [8]) aNil)) (aCons (oV 4) aNil))) aNil)) (aCons (oPrim pDictN (aCons (oComp (mkI itP (aCons (oV 3) aNil)) (.nm 9) tYesT (oTup (aCons (oV 9) (aCons (oC (.bool true)) aNil))) [9]) aNil)) aNil))) (sSeq (sWhile (tAnd (tst (o2 pNe (oV 6) (oLst aNil))) (tst (o2 pLt (oPrim pLenN (aCons (oV 7) aNil)) (oC (.int 1500)))))
  (sSeq (sAsg (.tp [(.nm 10), (.nm 4)]) (oMt mPop 6 aNil)) (sIf (tst (o2 pNinN (oTup (aCons (oV 10) (aCons (oV 4) aNil))) (oV 7)))
  (sSeq (sSetN 7 (oTup (aCons (oV 10) (aCons (oV 4) aNil))) (oC (.bool true))) (sFor (lkp [2] (lkM [0, 0, 0, 0])) (mkI itP (aCons (oV 2) aNil)) (.nm 5)
  (sSeq (sAsg (.tp [(.nm 11), (.nm 12)]) (oCall f__law_passed (aCons (oV 1) (aCons (oV 10) (aCons (oV 5) aNil))))) (sExpr (oMt mApp 6 (aCons (oTup (aCons (oV 11) (aCons (oCall f__law_lowered (aCons (oCall f__law_more (aCons (oV 4) (aCons (oV 12) aNil))) aNil)) aNil))) aNil))))))
  sSkip)) (n * 256)) (sRet (lkM [0, 0, 0, 0]) (oIf (tst (o2 pEq (oV 6) (oLst aNil))) (oFrz (oPrim pListN (aCons (oV 7) aNil))) (oV 3))))))
def f__law_with (n : Nat) : Fn := mkFn [0, 0, 0, 0] 13 (b__law_with n)
theorem len__law_with (n : Nat) (ds : List D) (r : D) (as : List D) (h : f__law_with n ds = .ok r as) : ds.length = 4 := mkFn_len h
abbrev s_law : Stmt := topS 38
theorem sc_law : FnScope ["_law_script", "_law_k", "_law_left_here", "_law_net_here", "_law_some_here", "_law_places", "_law_lot", "_law_far", "_law_turns", "_law_heights", "_law_thing", "_law_before"] ["_law_script"] (defScope s_law) := ⟨rfl, rfl, rfl, by decide +kernel, rfl, by decide +kernel, by decide +kernel⟩
def b_law (n : Nat) : S :=
  (sSeq (sFor (lkM [0]) (mkI itR1 (aCons (oPrim pMax2 (aCons (oC (.int 1)) (aCons (oPrim pMin2 (aCons (oPrim pLen (aCons (oV 0) aNil)) (aCons (oC (.int 4)) aNil))) aNil))) aNil)) (.nm 1)
  (sSeq (sSet 2 (oCall f__law_left (aCons (oV 0) (aCons (oV 1) aNil)))) (sSeq (sSet 3 (oCall (f__law_evened n) (aCons (oV 2) aNil))) (sSeq (sSet 4 (oCall f__law_some (aCons (oV 2) (aCons (oV 3) aNil)))) (sIf (tstA (oCall f__law_even (aCons (oV 3) (aCons (oV 4) aNil))))
  (sSeq (sSet 5 (oCall (f__law_all_places n) (aCons (oV 3) (aCons (oV 4) (aCons (oC (.int 600)) aNil))))) (sIf (tst (o2 pNotN (oV 5) (oC .none)))
  (sFor (lkM [0]) (mkI itP (aCons (oTup (aCons (oV 5) (aCons (oCall (f__law_with n) (aCons (oV 2) (aCons (oV 3) (aCons (oV 4) (aCons (oV 5) aNil))))) aNil))) aNil)) (.nm 6)
  (sSeq (sSet 7 (oPrim pMax1 (aCons (oComp (mkI itP (aCons (oV 6) aNil)) (.tp [(.nm 8), (.nm 9)]) tYesT (oPrim pMax1 (aCons (oV 9) aNil)) [8, 9]) aNil))) (sSeq (sSet 10 (oCall (f__law_mixed n) (aCons (oV 2) (aCons (oV 6) aNil)))) (sSeq (sSet 11 (oPrim pRepr (aCons (oV 10) aNil))) (sSeq (sIf (tOr (tst (o2 pNotN (oCall f_shows_reach (aCons (oV 3) (aCons (oV 4) (aCons (oV 7) (aCons (oV 10) aNil))))) (oC (.bool true)))) (tst (o2 pNe (oPrim pRepr (aCons (oV 10) aNil)) (oV 11))))
  (sRet (lkM [0]) (oC (.bool false)))
  sSkip) (sSeq (sIf (tst (o2 pNotN (oCall f_shows_reach (aCons (oV 3) (aCons (oV 4) (aCons (o2 pAdd (o2 pAdd (oV 7) (oC (.int 1))) (oCall f__law_pick (aCons (oV 2) (aCons (oC (.int 9)) aNil)))) (aCons (oV 10) aNil))))) (oC (.bool true))))
  (sRet (lkM [0]) (oC (.bool false)))
  sSkip) (sIf (tst (o2 pNotN (oCall f_shows_reach (aCons (oV 3) (aCons (oV 4) (aCons (o2 pSub (oV 7) (oC (.int 1))) (aCons (oV 10) aNil))))) (oC (.bool false))))
  (sRet (lkM [0]) (oC (.bool false)))
  sSkip)))))))
  sSkip))
  sSkip))))) (sRet (lkM [0]) (oC (.bool true))))
def f_law (n : Nat) : Fn := mkFn [0] 12 (b_law n)
theorem len_law (n : Nat) (ds : List D) (r : D) (as : List D) (h : f_law n ds = .ok r as) : ds.length = 1 := mkFn_len h
def p_passed (net : (Int × (List (Int × Int)) × (List Int))) (turns : (List Int)) (lane : Int) : Option ((List Int) × Int) :=
  ((lpN (fun (s9 : (Int × (List Int))) (y10 : (Int × (Int × Int))) => if ((decide (y10.2.1 = s9.1) || decide (y10.2.2 = s9.1))) = true then ((atI s9.2 y10.1)).bind fun t18 => ((atP y10.2 t18)).bind fun lane => ((atI s9.2 y10.1)).bind fun t24 => ((setT s9.2 y10.1 ((1 : Int) - t24))).bind fun later => some (lane, later) else some (s9.1, s9.2)) (enumT 0 net.2.1) (lane, turns))).bind fun s9 => ((idxT net.2.2 s9.1)).bind fun t32 => some (s9.2, t32)
def p_with_one (counts : (List Int)) (at_ : Int) : Option (List Int) :=
  ((atI counts at_)).bind fun t9 => ((catT (cutL counts none (some at_)) [(t9 + (1 : Int))])).bind fun t15 => ((catT t15 (cutL counts (some (at_ + (1 : Int))) none))).bind fun t25 => some t25
def p_first_turns (net : (Int × (List (Int × Int)) × (List Int))) : Option (List Int) :=
  ((repT [(0 : Int)] (net.2.1.length : Int))).bind fun t9 => some t9
def p_lowered (heights : (List Int)) : Option (List Int) :=
  ((minO heights)).bind fun least => lim (heights.length) (some (List.map (fun height => (height - least)) heights))
def p_places_behind (net : (Int × (List (Int × Int)) × (List Int))) (some_ : (List Int)) (place : ((List Int) × (List Int))) : Option (List (Int × ((List Int) × (List Int)))) :=
  (some ([] : (List (Int × ((List Int) × (List Int)))))).bind fun found => ((lpN (fun (found : ((List (Int × ((List Int) × (List Int)))))) (lane : Int) => ((p_passed  net place.1 lane)).bind fun t18 => ((p_with_one  place.2 t18.2)).bind fun t24 => ((p_lowered  t24)).bind fun t26 => ((appT found (lane, (t18.1, t26)))).bind fun found => some found) some_ found)).bind fun found => some found
def p_first_place (net : (Int × (List (Int × Int)) × (List Int))) : Option ((List Int) × (List Int)) :=
  ((p_first_turns  net)).bind fun t3 => ((repT [(0 : Int)] net.1)).bind fun t11 => some (t3, t11)
def p_is_whole (thing : Int) (least : Int) : Option Bool :=
  some (true && ((!false) && (decide (least ≤ thing))))
def p_are_turns (net : (Int × (List (Int × Int)) × (List Int))) (thing : (List Int)) : Option Bool :=
  if ((!true) || (!decide ((thing.length : Int) = (net.2.1.length : Int)))) = true then some false else lim (thing.length) (((mapO (fun turn => ((p_is_whole  turn (0 : Int))).bind fun t20 => some (t20 && (decide (turn < (2 : Int))))) thing)).bind fun t25 => some (List.all t25 id))
def p_are_heights (net : (Int × (List (Int × Int)) × (List Int))) (thing : (List Int)) : Option Bool :=
  ((if (!true) = true then some true else ((if (!decide ((thing.length : Int) = net.1)) = true then some true else lim (thing.length) (((mapO (fun height => ((p_is_whole  height (0 : Int))).bind fun t18 => some t18) thing)).bind fun t20 => some (!(List.all t20 id))))).bind fun t22 => some t22)).bind fun t23 => if t23 = true then some false else ((minO thing)).bind fun t27 => some (decide (t27 = (0 : Int)))
def p_is_spot (net : (Int × (List (Int × Int)) × (List Int))) (thing : ((List Int) × (List Int))) : Option Bool :=
  ((if true = true then ((if (decide ((2 : Int) = (2 : Int))) = true then ((p_are_turns  net thing.1)).bind fun t13 => ((if t13 = true then ((p_are_heights  net thing.2)).bind fun t19 => some t19 else some false)).bind fun t20 => some t20 else some false)).bind fun t21 => some t21 else some false)).bind fun t22 => some t22
def p_shows_reach (net : (Int × (List (Int × Int)) × (List Int))) (some_ : (List Int)) (far : Int) (thing : (List ((List Int) × (List Int)))) : Option Bool :=
  ((if (!true) = true then some true else lim (thing.length) (((mapO (fun place => ((p_is_spot  net place)).bind fun t14 => some t14) thing)).bind fun t16 => some (!(List.all t16 id))))).bind fun t18 => if t18 = true then some false else lim (thing.length) ((some (mergeM [] (List.map (fun place => (place, true)) thing))).bind fun known => ((if (!decide ((known.length : Int) = (thing.length : Int))) = true then some true else ((p_first_place  net)).bind fun t40 => some (!(getM known t40).isSome))).bind fun t42 => if t42 = true then some false else (((lpR (fun (s47 : Unit) (place : ((List Int) × (List Int))) => ((maxO place.2)).bind fun t54 => ((if (decide (far < t54)) = true then some true else ((p_places_behind  net some_ place)).bind fun t61 => lim (t61.length) (some (!(List.all (List.map (fun y => ((getM known y.2).isSome)) t61) id))))).bind fun t71 => if t71 = true then some (Lf.ret false) else some (.go ())) thing ()).bind fun w => w.on (fun s47 => some true) (fun z => some (z)))))
def p__law_left (script : (List Int)) (k : Int) : Option (List Int) :=
  ((if (decide ((0 : Int) < (script.length : Int))) = true then ((modT k (script.length : Int))).bind fun t12 => ((atI script t12)).bind fun cell => some cell else some (0 : Int))).bind fun cell => (some (((absT cell) % (1000000000000000000000000000000000000000000000000000000000000 : Int)) * (if (decide ((1000000000000000000 : Int) ≤ (absT cell))) = true then 1 else 0))).bind fun digits => ((mulT ((7919 : Int) * k) k)).bind fun t42 => some [digits, (((((cell % (2305843009213693951 : Int)) + t42) + (11 : Int)) * (48271 : Int)) % (2147483647 : Int)), (0 : Int)]
def p__law_pick (left_here : (List Int)) (many : Int) : Option (Int × (List Int)) :=
  ((atI left_here (0 : Int))).bind fun t4 => if (decide ((0 : Int) < t4)) = true then ((atI left_here (0 : Int))).bind fun t9 => ((modT t9 many)).bind fun digit => ((atI left_here (0 : Int))).bind fun t15 => ((divT t15 many)).bind fun t18 => ((setT left_here (0 : Int) t18)).bind fun left_here => some (digit, left_here) else ((atI left_here (2 : Int))).bind fun t25 => ((setT left_here (2 : Int) (t25 + (1 : Int)))).bind fun left_here => ((atI left_here (1 : Int))).bind fun t33 => ((atI left_here (2 : Int))).bind fun t40 => ((setT left_here (1 : Int) ((((t33 * (48271 : Int)) + (12345 : Int)) + t40) % (2147483647 : Int)))).bind fun left_here => ((atI left_here (1 : Int))).bind fun t49 => ((atI left_here (1 : Int))).bind fun t52 => ((mulT t49 t52)).bind fun t54 => ((modT ((t54 % (1999999973 : Int)) / (64 : Int)) many)).bind fun t61 => some (t61, left_here)
def p__law_mixed__at0 (n : Nat) (left_here : (List Int)) (row : (List Int)) : Option ((List Int) × (List Int)) :=
  ((lpW (ρ := ((List Int) × (List Int))) (fun (s7 : ((List Int) × (List Int) × (List Int))) => if (!decide (s7.2.1 = ([] : (List Int)))) = true then (((p__law_pick  s7.1 (s7.2.1.length : Int))).bind fun t13 => ((popT s7.2.1 t13.1)).bind fun t15 => ((appT s7.2.2 t15.1)).bind fun found => some (.go (t13.2, t15.2, found))).bind fun w => some (some w) else some none) (n * 256) (left_here, row, ([] : (List Int)))).bind fun w => w.on (fun s7 => some (s7.2.2, s7.1)) (fun z => some (z)))
def p__law_mixed__at1 (n : Nat) (left_here : (List Int)) (row : (List Int)) : Option ((List Int) × (List Int)) :=
  ((lpW (ρ := ((List Int) × (List Int))) (fun (s7 : ((List Int) × (List Int) × (List Int))) => if (!decide (s7.2.1 = ([] : (List Int)))) = true then (((p__law_pick  s7.1 (s7.2.1.length : Int))).bind fun t13 => ((popT s7.2.1 t13.1)).bind fun t15 => ((appT s7.2.2 t15.1)).bind fun found => some (.go (t13.2, t15.2, found))).bind fun w => some (some w) else some none) (n * 256) (left_here, row, ([] : (List Int)))).bind fun w => w.on (fun s7 => some (s7.2.2, s7.1)) (fun z => some (z)))
def p__law_mixed__at2 (n : Nat) (left_here : (List Int)) (row : (List ((List Int) × (List Int)))) : Option ((List ((List Int) × (List Int))) × (List Int)) :=
  ((lpW (ρ := ((List ((List Int) × (List Int))) × (List Int))) (fun (s8 : ((List Int) × (List ((List Int) × (List Int))) × (List ((List Int) × (List Int))))) => if (!decide (s8.2.1 = ([] : (List ((List Int) × (List Int)))))) = true then (((p__law_pick  s8.1 (s8.2.1.length : Int))).bind fun t14 => ((popT s8.2.1 t14.1)).bind fun t16 => ((appT s8.2.2 t16.1)).bind fun found => some (.go (t14.2, t16.2, found))).bind fun w => some (some w) else some none) (n * 256) (left_here, row, ([] : (List ((List Int) × (List Int)))))).bind fun w => w.on (fun s8 => some (s8.2.2, s8.1)) (fun z => some (z)))
def p__law_merger : Nat → (List Int) → (List Int) → Option ((List (Int × Int)) × (List Int))
  | 0, _, _ => none
  | n + 1, one, other =>
    if (decide ((one.length : Int) = (1 : Int))) = true then ((atI one (0 : Int))).bind fun t9 => ((atI other (0 : Int))).bind fun t13 => ((atI one (0 : Int))).bind fun t21 => ((atI other (0 : Int))).bind fun t25 => some ([(t9, t13)], [t21, t25]) else ((pickLL one none none (some (2 : Int)))).bind fun t35 => ((pickLL other (some (1 : Int)) none (some (2 : Int)))).bind fun t41 => ((p__law_merger n t35 t41)).bind fun t44 => ((pickLL one (some (1 : Int)) none (some (2 : Int)))).bind fun t49 => ((pickLL other none none (some (2 : Int)))).bind fun t55 => ((p__law_merger n t49 t55)).bind fun t58 => ((catT t44.1 t58.1)).bind fun t60 => ((lpN (fun (s68 : ((List (Int × Int)) × (List Int))) (y69 : (Int × Int)) => ((appT s68.1 (y69.1, y69.2))).bind fun forks => ((catT s68.2 [y69.1, y69.2])).bind fun ends_here => some (forks, ends_here)) (List.zip t44.2 t58.2) (t60, ([] : (List Int))))).bind fun s68 => some (s68.1, s68.2)
def p__law_stairway : Nat → (List Int) → Option ((List (Int × Int)) × (List Int))
  | 0, _ => none
  | n + 1, row =>
    if (decide ((row.length : Int) = (1 : Int))) = true then some (([] : (List (Int × Int))), row) else (some ((row.length : Int) / (2 : Int))).bind fun half => ((p__law_stairway n (cutL row none (some half)))).bind fun t24 => ((p__law_stairway n (cutL row (some half) none))).bind fun t31 => ((p__law_merger n t24.2 t31.2)).bind fun t35 => ((catT t24.1 t31.1)).bind fun t37 => ((catT t37 t35.1)).bind fun t39 => some (t39, t35.2)
def p__law_block : Nat → (List Int) → Option (List (Int × Int))
  | 0, _ => none
  | n + 1, row =>
    if (decide ((row.length : Int) = (1 : Int))) = true then some ([] : (List (Int × Int))) else (some ((row.length : Int) / (2 : Int))).bind fun half => ((rngO half)).bind fun t15 => lim (t15.length) (((mapO (fun i => ((atI row i)).bind fun t22 => ((atI row (((row.length : Int) - (1 : Int)) - i))).bind fun t31 => some (t22, t31)) t15)).bind fun forks => ((p__law_block n (cutL row none (some half)))).bind fun t42 => ((catT forks t42)).bind fun t44 => ((p__law_block n (cutL row (some half) none))).bind fun t51 => ((catT t44 t51)).bind fun t53 => some t53)
def p__law_tree : Nat → (List Int) → Option ((List (Int × Int)) × (List Int))
  | 0, _ => none
  | n + 1, row =>
    if (decide ((row.length : Int) = (1 : Int))) = true then some (([] : (List (Int × Int))), row) else (some ((row.length : Int) / (2 : Int))).bind fun half => ((p__law_tree n (cutL row none (some half)))).bind fun t24 => ((p__law_tree n (cutL row (some half) none))).bind fun t31 => (some ([] : (List Int))).bind fun ends_here => ((lpN (fun (ends_here : ((List Int))) (y41 : (Int × Int)) => ((catT ends_here [y41.1, y41.2])).bind fun ends_here => some ends_here) (List.zip t24.2 t31.2) ends_here)).bind fun ends_here => ((atI row (0 : Int))).bind fun t52 => ((atI row half)).bind fun t56 => ((catT [(t52, t56)] t24.1)).bind fun t62 => ((catT t62 t31.1)).bind fun t64 => some (t64, ends_here)
def p__law_made (n : Nat) (way : Int) (k : Int) : Option (Int × (List (Int × Int)) × (List Int)) :=
  ((atI [(1 : Int), (2 : Int), (4 : Int), (8 : Int), (16 : Int)] k)).bind fun t11 => ((rngO t11)).bind fun row => ((p__law_block n row)).bind fun t17 => ((repT t17 k)).bind fun t20 => ((if (decide (way = (0 : Int))) = true then ((p__law_stairway n row)).bind fun t28 => some (t28.1, t28.2) else some (t20, row))).bind fun t31 => ((if (decide (way = (1 : Int))) = true then ((p__law_tree n row)).bind fun t36 => some (t36.1, t36.2) else some (t31.1, t31.2))).bind fun t39 => some ((row.length : Int), t39.1, t39.2)
def p__law_any (n : Nat) (left_here : (List Int)) : Option ((Int × (List (Int × Int)) × (List Int)) × (List Int)) :=
  ((p__law_pick  left_here (8 : Int))).bind fun t13 => ((atI [(1 : Int), (2 : Int), (2 : Int), (3 : Int), (4 : Int), (3 : Int), (4 : Int), (6 : Int)] t13.1)).bind fun lanes => (some ([] : (List (Int × Int)))).bind fun forks => ((p__law_pick  t13.2 (8 : Int))).bind fun t32 => ((atI [(0 : Int), (1 : Int), (2 : Int), (3 : Int), (4 : Int), (5 : Int), (6 : Int), (8 : Int)] t32.1)).bind fun t34 => ((rngO (t34 * (if (decide ((1 : Int) < lanes)) = true then 1 else 0)))).bind fun t41 => ((lpN (fun (s43 : ((List Int) × (List (Int × Int)))) (k : Int) => ((p__law_pick  s43.1 lanes)).bind fun t48 => ((p__law_pick  t48.2 (lanes - (1 : Int)))).bind fun t56 => ((modT ((t48.1 + (1 : Int)) + t56.1) lanes)).bind fun b => ((catT s43.2 [(t48.1, b)])).bind fun t76 => ((atI t76 (0 : Int))).bind fun t79 => ((p__law_pick  t56.2 (3 : Int))).bind fun t84 => ((atI [(t48.1, b), (t48.1, b), t79] t84.1)).bind fun t86 => ((appT s43.2 t86)).bind fun forks => some (t84.2, forks)) t41 (t32.2, forks))).bind fun s43 => ((rngO lanes)).bind fun t91 => ((rngO lanes)).bind fun t94 => ((p__law_mixed__at0 n s43.1 t94)).bind fun t96 => ((p__law_pick  t96.2 (2 : Int))).bind fun t101 => ((atI [t91, t96.1] t101.1)).bind fun ends_here => some ((lanes, s43.2, ends_here), t101.2)
def p__law_changed (left_here : (List Int)) (net_here : (Int × (List (Int × Int)) × (List Int))) : Option ((Int × (List (Int × Int)) × (List Int)) × (List Int)) :=
  ((p__law_pick  left_here (5 : Int))).bind fun t5 => ((p__law_pick  t5.2 ((net_here.2.1.length : Int) + (1 : Int)))).bind fun t11 => ((p__law_pick  t11.2 net_here.1)).bind fun t14 => (some (cutL net_here.2.1 (some t11.1) (some (t11.1 + (1 : Int))))).bind fun here => if (decide (t5.1 = (0 : Int))) = true then lim (here.length) (((catT (cutL net_here.2.1 none (some t11.1)) (List.map (fun y => (y.2, y.1)) here))).bind fun t45 => ((catT t45 (cutL net_here.2.1 (some (t11.1 + (1 : Int))) none))).bind fun t55 => some ((net_here.1, t55, net_here.2.2), t14.2)) else if (decide (t5.1 = (1 : Int))) = true then ((catT (cutL net_here.2.1 none (some t11.1)) (cutL net_here.2.1 (some (t11.1 + (1 : Int))) none))).bind fun t76 => some ((net_here.1, t76, net_here.2.2), t14.2) else if (decide (t5.1 = (2 : Int))) = true then ((catT (cutL net_here.2.1 none (some t11.1)) here)).bind fun t90 => ((catT t90 (cutL net_here.2.1 (some t11.1) none))).bind fun t96 => some ((net_here.1, t96, net_here.2.2), t14.2) else if (decide (t5.1 = (3 : Int))) = true then ((catT (cutL net_here.2.1 none (some t11.1)) (cutL net_here.2.1 (some (t11.1 + (1 : Int))) (some (t11.1 + (2 : Int)))))).bind fun t117 => ((catT t117 here)).bind fun t120 => ((catT t120 (cutL net_here.2.1 (some (t11.1 + (2 : Int))) none))).bind fun t130 => some ((net_here.1, t130, net_here.2.2), t14.2) else ((atI net_here.2.2 t14.1)).bind fun t139 => ((atI net_here.2.2 (0 : Int))).bind fun t143 => ((setT net_here.2.2 (0 : Int) t139)).bind fun row => ((setT row t14.1 t143)).bind fun row => some ((net_here.1, net_here.2.1, row), t14.2)
def p__law_net (n : Nat) (left_here : (List Int)) : Option ((Int × (List (Int × Int)) × (List Int)) × (List Int)) :=
  ((p__law_pick  left_here (4 : Int))).bind fun t3 => if (decide (t3.1 = (0 : Int))) = true then ((p__law_any n t3.2)).bind fun t8 => some (t8.1, t8.2) else ((p__law_pick  t3.2 (3 : Int))).bind fun t11 => ((p__law_pick  t11.2 (4 : Int))).bind fun t20 => ((atI [(1 : Int), (2 : Int), (2 : Int), (0 : Int)] t20.1)).bind fun t22 => ((p__law_made n t11.1 t22)).bind fun net_here => ((atI [(0 : Int), (1 : Int), (1 : Int), (2 : Int)] t3.1)).bind fun t33 => ((p__law_pick  t20.2 (2 : Int))).bind fun t36 => ((mulT t33 t36.1)).bind fun t38 => ((rngO t38)).bind fun t40 => ((lpN (fun (s42 : ((List Int) × (Int × (List (Int × Int)) × (List Int)))) (k : Int) => ((p__law_changed  s42.1 s42.2)).bind fun t47 => some (t47.2, t47.1)) t40 (t36.2, net_here))).bind fun s42 => some (s42.2, s42.1)
def p__law_some (left_here : (List Int)) (net_here : (Int × (List (Int × Int)) × (List Int))) : Option ((List Int) × (List Int)) :=
  ((rngO net_here.1)).bind fun t6 => lim (t6.length) (((lcS (fun u lane => ((p__law_pick  u (2 : Int))).bind fun t19 => if (decide (t19.1 = (0 : Int))) = true then some (some lane, t19.2) else some (none, t19.2)) t6 left_here)).bind fun t22 => ((rngO net_here.1)).bind fun t27 => ((if (!decide (t22.1 = ([] : (List Int)))) = true then some (t22.1, t22.2) else ((p__law_pick  t22.2 net_here.1)).bind fun t35 => some ([t35.1], t35.2))).bind fun t42 => ((p__law_pick  t42.2 (2 : Int))).bind fun t47 => ((atI [t27, t42.1] t47.1)).bind fun t49 => some (t49, t47.2))
def p__law_passed (net_here : (Int × (List (Int × Int)) × (List Int))) (turns : (List Int)) (lane : Int) : Option ((List Int) × Int) :=
  ((lpN (fun (s10 : (Int × (List Int))) (y11 : (Int × (Int × Int))) => if ((decide (y11.2.1 = s10.1) || decide (y11.2.2 = s10.1))) = true then ((atI s10.2 y11.1)).bind fun t19 => ((atP y11.2 t19)).bind fun lane => ((atI s10.2 y11.1)).bind fun t25 => ((setT s10.2 y11.1 ((1 : Int) - t25))).bind fun row => some (lane, row) else some (s10.1, s10.2)) (enumT 0 net_here.2.1) (lane, turns))).bind fun s10 => ((idxT net_here.2.2 s10.1)).bind fun t35 => some (s10.2, t35)
def p__law_ends (net_here : (Int × (List (Int × Int)) × (List Int))) (counts : (List Int)) : Option (List Int) :=
  ((lpN (fun (row : ((List Int))) (y10 : (Int × Int)) => ((atI row y10.1)).bind fun t14 => ((atI row y10.2)).bind fun t17 => (some (t14 + t17)).bind fun total => ((setT row y10.1 (total - (total / (2 : Int))))).bind fun row => ((setT row y10.2 (total / (2 : Int)))).bind fun row => some row) net_here.2.1 counts)).bind fun row => lim (net_here.2.2.length) (((mapO (fun lane => ((atI row lane)).bind fun t44 => some t44) net_here.2.2)).bind fun t46 => some t46)
def p__law_more (counts : (List Int)) (lane : Int) : Option (List Int) :=
  ((atI counts lane)).bind fun t9 => ((catT (cutL counts none (some lane)) [(t9 + (1 : Int))])).bind fun t15 => ((catT t15 (cutL counts (some (lane + (1 : Int))) none))).bind fun t25 => some t25
def p__law_even (net_here : (Int × (List (Int × Int)) × (List Int))) (some_here : (List Int)) : Option Bool :=
  (((lpR (fun (s5 : Unit) (lane : Int) => ((rngO net_here.1)).bind fun t12 => lim (t12.length) (((p__law_ends  net_here (List.map (fun one => ((1152921504606846976 : Int) * (if (decide (one = lane)) = true then 1 else 0))) t12))).bind fun t30 => ((lenSetT t30)).bind fun t32 => if (decide ((1 : Int) < t32)) = true then some (Lf.ret false) else some (.go ()))) some_here ()).bind fun w => w.on (fun s5 => some true) (fun z => some (z))))
def p__law_evened (n : Nat) (left_here : (List Int)) : Option ((Int × (List (Int × Int)) × (List Int)) × (List Int)) :=
  ((p__law_pick  left_here (8 : Int))).bind fun t3 => if (decide (t3.1 = (0 : Int))) = true then ((p__law_net n t3.2)).bind fun t8 => some (t8.1, t8.2) else if (decide (t3.1 < (3 : Int))) = true then ((p__law_pick  t3.2 (2 : Int))).bind fun t18 => ((atI [(0 : Int), (2 : Int)] t18.1)).bind fun t20 => ((p__law_pick  t18.2 (3 : Int))).bind fun t23 => ((p__law_made n t20 t23.1)).bind fun t25 => some (t25, t23.2) else ((p__law_pick  t3.2 (5 : Int))).bind fun t35 => ((atI [(2 : Int), (4 : Int), (4 : Int), (4 : Int), (8 : Int)] t35.1)).bind fun size => ((rngO size)).bind fun t40 => ((p__law_block n t40)).bind fun t43 => lim (t43.length) (((lcS (fun u y => ((p__law_pick  u (2 : Int))).bind fun t77 => ((atI [(y.1, y.2), (y.2, y.1)] t77.1)).bind fun t79 => some (some t79, t77.2)) t43 t35.2)).bind fun t80 => ((p__law_pick  t80.2 (4 : Int))).bind fun t83 => ((rngO (t83.1 * (if (decide (size < (8 : Int))) = true then 1 else 0)))).bind fun t90 => ((lpN (fun (s92 : ((List Int) × (List (Int × Int)))) (k : Int) => ((p__law_pick  s92.1 size)).bind fun t97 => ((p__law_pick  t97.2 (size - (1 : Int)))).bind fun t106 => ((modT ((t97.1 + (1 : Int)) + t106.1) size)).bind fun t110 => ((appT s92.2 (t97.1, t110))).bind fun forks => some (t106.2, forks)) t90 (t83.2, t80.1))).bind fun s92 => ((rngO size)).bind fun t117 => ((rngO size)).bind fun t120 => ((p__law_mixed__at1 n s92.1 t120)).bind fun t122 => ((p__law_pick  t122.2 (2 : Int))).bind fun t127 => ((atI [t117, t122.1] t127.1)).bind fun ends_here => some ((size, s92.2, ends_here), t127.2))
def p__law_lowered__at0 (heights : (List Int)) : Option (List Int) :=
  lim (heights.length) (((mapO (fun height => ((minO heights)).bind fun t9 => some (height - t9)) heights)).bind fun t12 => some t12)
def p__law_lowered__at1 (heights : (List Int)) : Option (List Int) :=
  lim (heights.length) (((mapO (fun height => ((minO heights)).bind fun t9 => some (height - t9)) heights)).bind fun t12 => some t12)
def p__law_lowered__at2 (heights : (List Int)) : Option (List Int) :=
  lim (heights.length) (((mapO (fun height => ((minO heights)).bind fun t9 => some (height - t9)) heights)).bind fun t12 => some t12)
def p__law_all_places (n : Nat) (net_here : (Int × (List (Int × Int)) × (List Int))) (some_here : (List Int)) (most : Int) : Option (Option (List ((List Int) × (List Int)))) :=
  ((repT [(0 : Int)] (net_here.2.1.length : Int))).bind fun t11 => ((repT [(0 : Int)] net_here.1)).bind fun t19 => (some (t11, t19)).bind fun first => ((lpW (ρ := (Option (List ((List Int) × (List Int))))) (fun (s30 : ((List (((List Int) × (List Int)) × Bool)) × (List ((List Int) × (List Int))))) => if ((!decide (s30.2 = ([] : (List ((List Int) × (List Int)))))) && (decide ((s30.1.length : Int) ≤ most))) = true then (((popT s30.2 (-1))).bind fun t38 => if (!(getM s30.1 (t38.1.1, t38.1.2)).isSome) = true then ((setMO s30.1 (t38.1.1, t38.1.2) true)).bind fun met => ((lpN (fun (waits : ((List ((List Int) × (List Int))))) (lane : Int) => ((p__law_passed  net_here t38.1.1 lane)).bind fun t61 => ((p__law_more  t38.1.2 t61.2)).bind fun t66 => ((p__law_lowered__at0  t66)).bind fun t68 => ((appT waits (t61.1, t68))).bind fun waits => some waits) some_here t38.2)).bind fun waits => some (.go (met, waits)) else some (.go (s30.1, t38.2))).bind fun w => some (some w) else some none) (n * 256) (([] : (List (((List Int) × (List Int)) × Bool))), [first])).bind fun w => w.on (fun s30 => some (if (decide ((s30.1.length : Int) ≤ most)) = true then (some (s30.1.map Prod.fst)) else none)) (fun z => some (z)))
def p__law_with (n : Nat) (left_here : (List Int)) (net_here : (Int × (List (Int × Int)) × (List Int))) (some_here : (List Int)) (places : (List ((List Int) × (List Int)))) : Option ((List ((List Int) × (List Int))) × (List Int)) :=
  ((rngO net_here.1)).bind fun t8 => lim (t8.length) (((lcS (fun u lane => ((p__law_pick  u (3 : Int))).bind fun t19 => some (some t19.1, t19.2)) t8 left_here)).bind fun t20 => ((p__law_lowered__at1  t20.1)).bind fun heights => lim (net_here.2.1.length) (((lcS (fun u fork => ((p__law_pick  u (2 : Int))).bind fun t38 => some (some t38.1, t38.2)) net_here.2.1 t20.2)).bind fun t39 => lim (places.length) (((lpW (ρ := ((List ((List Int) × (List Int))) × (List Int))) (fun (s60 : ((List ((List Int) × (List Int))) × (List (((List Int) × (List Int)) × Bool)))) => if ((!decide (s60.1 = ([] : (List ((List Int) × (List Int)))))) && (decide ((s60.2.length : Int) < (1500 : Int)))) = true then (((popT s60.1 (-1))).bind fun t68 => if (!(getM s60.2 (t68.1.1, t68.1.2)).isSome) = true then ((setMO s60.2 (t68.1.1, t68.1.2) true)).bind fun met => ((lpN (fun (waits : ((List ((List Int) × (List Int))))) (lane : Int) => ((p__law_passed  net_here t68.1.1 lane)).bind fun t91 => ((p__law_more  t68.1.2 t91.2)).bind fun t96 => ((p__law_lowered__at2  t96)).bind fun t98 => ((appT waits (t91.1, t98))).bind fun waits => some waits) some_here t68.2)).bind fun waits => some (.go (waits, met)) else some (.go (t68.2, s60.2))).bind fun w => some (some w) else some none) (n * 256) ([(t39.1, heights)], (mergeM [] (List.map (fun place => (place, true)) places)))).bind fun w => w.on (fun s60 => some ((if (decide (s60.1 = ([] : (List ((List Int) × (List Int)))))) = true then (s60.2.map Prod.fst) else places), t39.2)) (fun z => some (z))))))
def p_law (n : Nat) (script : (List Int)) : Option Bool :=
  ((rngO (max (1 : Int) (min (script.length : Int) (4 : Int))))).bind fun t8 => (((lpR (fun (s10 : Unit) (k : Int) => ((p__law_left  script k)).bind fun left_here => ((p__law_evened n left_here)).bind fun t18 => ((p__law_some  t18.2 t18.1)).bind fun t21 => ((p__law_even  t18.1 t21.1)).bind fun t25 => if t25 = true then ((p__law_all_places n t18.1 t21.1 (600 : Int))).bind fun places => if places.isSome = true then (places).bind fun t35 => (places).bind fun t40 => ((p__law_with n t21.2 t18.1 t21.1 t40)).bind fun t43 => (((lpR (fun (left_here : ((List Int))) (lot : (List ((List Int) × (List Int)))) => lim (lot.length) (((mapO (fun y => ((maxO y.2)).bind fun t58 => some t58) lot)).bind fun t60 => ((maxO t60)).bind fun far => ((p__law_mixed__at2 n left_here lot)).bind fun t65 => ((reprT (eT (eP (eT eI) (eT eI))) t65.1)).bind fun before => ((p_shows_reach  t18.1 t21.1 far t65.1)).bind fun t74 => ((if (!decide (t74 = true)) = true then some true else ((reprT (eT (eP (eT eI) (eT eI))) t65.1)).bind fun t79 => some (!decide (t79 = before)))).bind fun t82 => if t82 = true then some (Lf.ret false) else ((p__law_pick  t65.2 (9 : Int))).bind fun t91 => ((p_shows_reach  t18.1 t21.1 ((far + (1 : Int)) + t91.1) t65.1)).bind fun t95 => if (!decide (t95 = true)) = true then some (Lf.ret false) else ((p_shows_reach  t18.1 t21.1 (far - (1 : Int)) t65.1)).bind fun t106 => if (!decide (t106 = false)) = true then some (Lf.ret false) else some (.go t91.2))) [t35, t43.1] t43.2).bind fun w => w.on (fun left_here => some (.go ())) (fun z => some (Lf.ret z)))) else some (.go ()) else some (.go ())) t8 ()).bind fun w => w.on (fun s10 => some true) (fun z => some (z))))
theorem tok_passed (a0 : (Int × (List (Int × Int)) × (List Int))) (a1 : (List Int)) (a2 : Int) : ∀ z, p_passed a0 a1 a2 = some z → f_passed [(eQ eI (eT (eP eI eI)) (eT eI)) a0, (eT eI) a1, eI a2] = .ok ((eP (eT eI) eI) z) [(eQ eI (eT (eP eI eI)) (eT eI)) a0, (eT eI) a1, eI a2] :=
  fn_t (p0 := [some ((eQ eI (eT (eP eI eI)) (eT eI)) a0), some ((eT eI) a1), some (eI a2), none, none, none, none, none, none]) (m := p_passed a0 a1 a2) (rv := fun (z : ((List Int) × Int)) => (eP (eT eI) eI) z) (q := fun (z : ((List Int) × Int)) => [some ((eQ eI (eT (eP eI eI)) (eT eI)) a0), some ((eT eI) a1), none, none, none, none, none, none, none]) (outs := fun z => [(eQ eI (eT (eP eI eI)) (eT eI)) a0, (eT eI) a1, eI a2]) (B.cv (b_asg (x_var (d := (eQ eI (eT (eP eI eI)) (eT eI)) a0) 0 rfl) (.inr (fun _ => (puQ puI (puT (puP puI puI)) (puT puI)) _)) (fun _ => (as_tp (ass_cons as_nm (ass_cons as_nm (ass_cons as_nm ass_nil))))) (fun x4 => (b_set (x_primT (xa_p (x_var (d := (eT eI) a1) 1 rfl) (fun _ => (puT puI) _) (fun x5 => xa_nil)) (fun _ => op_lstT puI _)) (.inl rfl) (fun x6 => (b_for (xi_mk (xa_p (x_var (d := (eT (eP eI eI)) a0.2.1) 4 rfl) (fun _ => (puT (puP puI puI)) _) (fun x7 => xa_nil)) rfl (puP puI (puP puI puI)) (fun _ => it_eT _)) (fun x8 (x9 : (Int × (List Int))) => [some ((eQ eI (eT (eP eI eI)) (eT eI)) a0), some ((eT eI) a1), some (eI x9.1), some (eI a0.1), some ((eT (eP eI eI)) a0.2.1), some ((eT eI) a0.2.2), some ((eL eI) x9.2), none, none]) (fun x8 => (a2, a1)) (fun _ => rfl) (fun x8 => by repeat (first | exact wk_nil | apply wk_a | apply wk_s)) (fun x8 x9 x10 => (as_tp (ass_cons as_nm (ass_cons as_nm ass_nil)))) (fun x8 x9 x10 => (b_last (b_if (xt_tst (x_primT (xa_p (x_var (d := eI x9.1) 2 rfl) (fun _ => puI _) (fun x13 => (xa_p (x_var (d := (eP eI eI) x10.2) 8 rfl) (fun _ => (puP puI puI) _) (fun x14 => xa_nil)))) (fun _ => op_inP _ _))) (fun x15 => (b_asc (b_set (x_prim (xa_p (x_var (d := (eP eI eI) x10.2) 8 rfl) (fun _ => (puP puI puI) _) (fun x16 => (xa_v (x_prim (xa_s 6 rfl (xa_p (x_var (d := eI x10.1) 7 rfl) (fun _ => puI _) (fun x17 => xa_nil)) (fun _ => rfl) (fun _ => puL)) (fun _ _ h => op_ixL puI h)) (fun x19 => xa_nil)))) (fun _ _ h => op_ixPd puI h)) (.inl rfl) (fun x21 => (b_setIx (e1 := eI) (x_primT (xa_v (x_c (eI 1)) (fun x22 => (xa_v (x_prim (xa_s 6 rfl (xa_p (x_var (d := eI x10.1) 7 rfl) (fun _ => puI _) (fun x23 => xa_nil)) (fun _ => rfl) (fun _ => puL)) (fun _ _ h => op_ixL puI h)) (fun x25 => xa_nil)))) (fun _ => op_sub' _ _)) puI (fun _ => ⟨_, rfl⟩) (fun x26 => (x_var (d := eI x10.1) 7 rfl)) (fun _ _ => .inl rfl) (fun _ _ => rfl) (fun x26 x27 x28 => (b_endC (z := (x21.2, x28)) (by repeat (first | exact wk_nil | apply wk_a | apply wk_s))))))))) (fun x15 => (b_skip (b_endC (z := (x9.1, x9.2)) (by repeat (first | exact wk_nil | apply wk_a | apply wk_s)))))))) (fun x8 x9 => (b_last (b_ret (X.as (x_tup (xa_v (x_primT (xa_s 6 rfl xa_nil (fun _ => rfl) (fun _ => puL)) (fun _ => op_tupL puI _)) (fun x30 => (xa_v (x_idx (x_var (d := (eT eI) a0.2.2) 5 rfl) (fun _ => rfl) (fun x31 => (x_var (d := eI x9.1) 2 rfl)) (fun _ _ _ h => op_idx h)) (fun x33 => xa_nil)))) rfl (by decide)) (fun x34 => (eP (eT eI) eI) (x9.2, x34.2.1.2.2)) rfl) (fun x35 => (x9.2, x35.2.1.2.2)) (.inl rfl) (fun x35 => qf_ret rfl (by repeat (first | exact wk_nil | apply wk_a | apply wk_s))))))))))) (by dsimp only [p_passed])) rfl (by simp [okM, (puI _)]) (fun z => (coll_0P rfl (coll_0P rfl (coll_1P coll_nilP))))
theorem tok_with_one (a0 : (List Int)) (a1 : Int) : ∀ z, p_with_one a0 a1 = some z → f_with_one [(eT eI) a0, eI a1] = .ok ((eT eI) z) [(eT eI) a0, eI a1] :=
  fn_t (p0 := [some ((eT eI) a0), some (eI a1)]) (m := p_with_one a0 a1) (rv := fun (z : (List Int)) => (eT eI) z) (q := fun (z : (List Int)) => [some ((eT eI) a0), some (eI a1)]) (outs := fun z => [(eT eI) a0, eI a1]) (B.cv (b_last (b_ret (x_prim (xa_v (x_prim (xa_v (x_sl (x_var (d := (eT eI) a0) 0 rfl) (fun x3 => xpr_none) (fun x3 x4 => (xpr_some (x_var (d := eI a1) 1 rfl))) (fun _ _ _ => op_slT puI _ _ _)) (fun x6 => (xa_v (X.as (x_tup (xa_v (x_primT (xa_v (x_prim (xa_p (x_var (d := (eT eI) a0) 0 rfl) (fun _ => (puT puI) _) (fun x7 => (xa_p (x_var (d := eI a1) 1 rfl) (fun _ => puI _) (fun x8 => xa_nil)))) (fun _ _ h => op_ixT puI h)) (fun x10 => (xa_v (x_c (eI 1)) (fun x11 => xa_nil)))) (fun _ => op_add _ _)) (fun x12 => xa_nil)) rfl (by decide)) (fun x13 => (eT eI) [(x13.1.1.2 + (1 : Int))]) rfl) (fun x14 => xa_nil)))) (fun _ _ h => op_catT puI h)) (fun x16 => (xa_v (x_sl (x_var (d := (eT eI) a0) 0 rfl) (fun x19 => (xpr_some (x_primT (xa_p (x_var (d := eI a1) 1 rfl) (fun _ => puI _) (fun x22 => (xa_v (x_c (eI 1)) (fun x23 => xa_nil)))) (fun _ => op_add _ _)))) (fun x19 x20 => xpr_none) (fun _ _ _ => op_slT puI _ _ _)) (fun x24 => xa_nil)))) (fun _ _ h => op_catT puI h)) (fun x26 => x26.2) (.inl rfl) (fun x26 => qf_ret rfl (by repeat (first | exact wk_nil | apply wk_a | apply wk_s))))) (by dsimp only [p_with_one])) rfl (by simp [okM]) (fun z => (coll_0P rfl (coll_0P rfl coll_nilP)))
theorem tok_first_turns (a0 : (Int × (List (Int × Int)) × (List Int))) : ∀ z, p_first_turns a0 = some z → f_first_turns [(eQ eI (eT (eP eI eI)) (eT eI)) a0] = .ok ((eT eI) z) [(eQ eI (eT (eP eI eI)) (eT eI)) a0] :=
  fn_t (p0 := [some ((eQ eI (eT (eP eI eI)) (eT eI)) a0)]) (m := p_first_turns a0) (rv := fun (z : (List Int)) => (eT eI) z) (q := fun (z : (List Int)) => [some ((eQ eI (eT (eP eI eI)) (eT eI)) a0)]) (outs := fun z => [(eQ eI (eT (eP eI eI)) (eT eI)) a0]) (B.cv (b_last (b_ret (x_prim (xa_v (X.as (x_tup (xa_v (x_c (eI 0)) (fun x2 => xa_nil)) rfl (by decide)) (fun x3 => (eT eI) [(0 : Int)]) rfl) (fun x4 => (xa_v (x_primT (xa_v (x_primT (xa_p (x_var (d := (eQ eI (eT (eP eI eI)) (eT eI)) a0) 0 rfl) (fun _ => (puQ puI (puT (puP puI puI)) (puT puI)) _) (fun x5 => (xa_v (x_c (eI 1)) (fun x6 => xa_nil)))) (fun _ => op_ixQ1 (puT (puP puI puI)) _)) (fun x7 => xa_nil)) (fun _ => op_lenT _)) (fun x8 => xa_nil)))) (fun _ _ h => op_repT' puI h)) (fun x10 => x10.2) (.inl rfl) (fun x10 => qf_ret rfl (by repeat (first | exact wk_nil | apply wk_a | apply wk_s))))) (by dsimp only [p_first_turns])) rfl (by simp [okM]) (fun z => (coll_0P rfl coll_nilP))
theorem tok_lowered (a0 : (List Int)) : ∀ z, p_lowered a0 = some z → f_lowered [(eT eI) a0] = .ok ((eT eI) z) [(eT eI) a0] :=
  fn_t (p0 := [some ((eT eI) a0), none, none]) (m := p_lowered a0) (rv := fun (z : (List Int)) => (eT eI) z) (q := fun (z : (List Int)) => [some ((eT eI) a0), none, none]) (outs := fun z => [(eT eI) a0]) (B.cv (b_set (x_prim (xa_p (x_var (d := (eT eI) a0) 0 rfl) (fun _ => (puT puI) _) (fun x2 => xa_nil)) (fun _ _ h => minAny_of (op_min1T h))) (.inl rfl) (fun x4 => (b_last (b_ret (x_primT (xa_v (x_mapT (ee := eI) (xi_mk (xa_p (x_var (d := (eT eI) a0) 0 rfl) (fun _ => (puT puI) _) (fun x5 => xa_nil)) rfl puI (fun _ => it_T _)) rfl (fun x6 x7 => as_nm) (fun x6 x7 => (x_primT (xa_p (x_var (d := eI x7) 2 rfl) (fun _ => puI _) (fun x10 => (xa_p (x_var (d := eI x4.2) 1 rfl) (fun _ => puI _) (fun x11 => xa_nil)))) (fun _ => op_sub' _ _))) (.inl rfl) (fun _ _ => by repeat (first | exact wk_nil | apply wk_a | apply wk_s))) (fun x14 => xa_nil)) (fun _ => op_tupL puI _)) (fun x15 => x15.1.2.1) (.inl rfl) (fun x15 => qf_ret rfl (by repeat (first | exact wk_nil | apply wk_a | apply wk_s))))))) (by dsimp only [p_lowered])) rfl (by simp [okM]) (fun z => (coll_0P rfl coll_nilP))
theorem tok_places_behind (a0 : (Int × (List (Int × Int)) × (List Int))) (a1 : (List Int)) (a2 : ((List Int) × (List Int))) : ∀ z, p_places_behind a0 a1 a2 = some z → f_places_behind [(eQ eI (eT (eP eI eI)) (eT eI)) a0, (eT eI) a1, (eP (eT eI) (eT eI)) a2] = .ok ((eL (eP eI (eP (eT eI) (eT eI)))) z) [(eQ eI (eT (eP eI eI)) (eT eI)) a0, (eT eI) a1, (eP (eT eI) (eT eI)) a2] :=
  fn_t (p0 := [some ((eQ eI (eT (eP eI eI)) (eT eI)) a0), some ((eT eI) a1), some ((eP (eT eI) (eT eI)) a2), none, none, none, none, none, none]) (m := p_places_behind a0 a1 a2) (rv := fun (z : (List (Int × ((List Int) × (List Int))))) => (eL (eP eI (eP (eT eI) (eT eI)))) z) (q := fun (z : (List (Int × ((List Int) × (List Int))))) => [some ((eQ eI (eT (eP eI eI)) (eT eI)) a0), some ((eT eI) a1), some ((eP (eT eI) (eT eI)) a2), none, none, none, none, none, none]) (outs := fun z => [(eQ eI (eT (eP eI eI)) (eT eI)) a0, (eT eI) a1, (eP (eT eI) (eT eI)) a2]) (B.cv (b_asg (x_var (d := (eP (eT eI) (eT eI)) a2) 2 rfl) (.inr (fun _ => (puP (puT puI) (puT puI)) _)) (fun _ => (as_tp (ass_cons as_nm (ass_cons as_nm ass_nil)))) (fun x4 => (b_setL (eL (eP eI (eP (eT eI) (eT eI)))) (X.as (x_lst xa_nil rfl (by decide)) (fun x5 => (eL (eP eI (eP (eT eI) (eT eI)))) ([] : (List (Int × ((List Int) × (List Int)))))) rfl) (.inl rfl) (fun x6 x7 => (b_for (xi_mk (xa_p (x_var (d := (eT eI) a1) 1 rfl) (fun _ => (puT puI) _) (fun x9 => xa_nil)) rfl puI (fun _ => it_T _)) (fun x10 (x11 : ((List (Int × ((List Int) × (List Int)))))) => [some ((eQ eI (eT (eP eI eI)) (eT eI)) a0), some ((eT eI) a1), some ((eP (eT eI) (eT eI)) a2), some ((eT eI) a2.1), some ((eT eI) a2.2), some ((eL (eP eI (eP (eT eI) (eT eI)))) x11), none, none, none]) (fun x10 => x7) (fun _ => rfl) (fun x10 => by repeat (first | exact wk_nil | apply wk_a | apply wk_s)) (fun x10 x11 x12 => as_nm) (fun x10 x11 x12 => (b_asg (x_callP (xa_p (x_var (d := (eQ eI (eT (eP eI eI)) (eT eI)) a0) 0 rfl) (fun _ => (puQ puI (puT (puP puI puI)) (puT puI)) _) (fun x15 => (xa_p (x_var (d := (eT eI) a2.1) 3 rfl) (fun _ => (puT puI) _) (fun x16 => (xa_p (x_var (d := eI x12) 6 rfl) (fun _ => puI _) (fun x17 => xa_nil)))))) rfl (fun _ _ h => tok_passed  _ _ _ _ h)) (.inl rfl) (fun _ => (as_tp (ass_cons as_nm (ass_cons as_nm ass_nil)))) (fun x19 => (b_last (b_expr (x_mt rfl (xa_v (X.as (x_tup (xa_p (x_var (d := eI x12) 6 rfl) (fun _ => puI _) (fun x20 => (xa_v (X.as (x_tup (xa_p (x_var (d := (eT eI) x19.2.1) 7 rfl) (fun _ => (puT puI) _) (fun x21 => (xa_v (x_callP (xa_v (x_callP (xa_p (x_var (d := (eT eI) a2.2) 4 rfl) (fun _ => (puT puI) _) (fun x22 => (xa_p (x_var (d := eI x19.2.2) 8 rfl) (fun _ => puI _) (fun x23 => xa_nil)))) rfl (fun _ _ h => tok_with_one  _ _ _ h)) (fun x25 => xa_nil)) rfl (fun _ _ h => tok_lowered  _ _ h)) (fun x27 => xa_nil)))) rfl (by decide)) (fun x28 => (eP (eT eI) (eT eI)) (x19.2.1, x28.2.1.2)) rfl) (fun x29 => xa_nil)))) rfl (by decide)) (fun x30 => (eP eI (eP (eT eI) (eT eI))) (x12, (x19.2.1, x30.2.1.2.1.2))) rfl) (fun x31 => xa_nil)) rfl (fun _ => rfl) (fun _ _ h => mt_app' h) (fun _ _ => rfl)) (fun x33 => (b_endC (z := x33.2) (by repeat (first | exact wk_nil | apply wk_a | apply wk_s))))))))) (fun x10 x11 => (b_last (b_retS (R := x11) (i := 5) rfl rfl (qf_ret rfl (by repeat (first | exact wk_nil | apply wk_a | apply wk_s))))))))))) (by dsimp only [p_places_behind])) rfl (by simp [okM]) (fun z => (coll_0P rfl (coll_0P rfl (coll_0P rfl coll_nilP))))
theorem tok_first_place (a0 : (Int × (List (Int × Int)) × (List Int))) : ∀ z, p_first_place a0 = some z → f_first_place [(eQ eI (eT (eP eI eI)) (eT eI)) a0] = .ok ((eP (eT eI) (eT eI)) z) [(eQ eI (eT (eP eI eI)) (eT eI)) a0] :=
  fn_t (p0 := [some ((eQ eI (eT (eP eI eI)) (eT eI)) a0)]) (m := p_first_place a0) (rv := fun (z : ((List Int) × (List Int))) => (eP (eT eI) (eT eI)) z) (q := fun (z : ((List Int) × (List Int))) => [some ((eQ eI (eT (eP eI eI)) (eT eI)) a0)]) (outs := fun z => [(eQ eI (eT (eP eI eI)) (eT eI)) a0]) (B.cv (b_last (b_ret (X.as (x_tup (xa_v (x_callP (xa_p (x_var (d := (eQ eI (eT (eP eI eI)) (eT eI)) a0) 0 rfl) (fun _ => (puQ puI (puT (puP puI puI)) (puT puI)) _) (fun x2 => xa_nil)) rfl (fun _ _ h => tok_first_turns  _ _ h)) (fun x4 => (xa_v (x_prim (xa_v (X.as (x_tup (xa_v (x_c (eI 0)) (fun x5 => xa_nil)) rfl (by decide)) (fun x6 => (eT eI) [(0 : Int)]) rfl) (fun x7 => (xa_v (x_primT (xa_p (x_var (d := (eQ eI (eT (eP eI eI)) (eT eI)) a0) 0 rfl) (fun _ => (puQ puI (puT (puP puI puI)) (puT puI)) _) (fun x8 => (xa_v (x_c (eI 0)) (fun x9 => xa_nil)))) (fun _ => op_ixQ0 puI _)) (fun x10 => xa_nil)))) (fun _ _ h => op_repT' puI h)) (fun x12 => xa_nil)))) rfl (by decide)) (fun x13 => (eP (eT eI) (eT eI)) (x13.1.2, x13.2.1.2)) rfl) (fun x14 => (x14.1.2, x14.2.1.2)) (.inl rfl) (fun x14 => qf_ret rfl (by repeat (first | exact wk_nil | apply wk_a | apply wk_s))))) (by dsimp only [p_first_place])) rfl (by simp [okM]) (fun z => (coll_0P rfl coll_nilP))
theorem tok_is_whole (a0 : Int) (a1 : Int) : ∀ z, p_is_whole a0 a1 = some z → f_is_whole [eI a0, eI a1] = .ok (eB z) [eI a0, eI a1] :=
  fn_t (p0 := [some (eI a0), some (eI a1)]) (m := p_is_whole a0 a1) (rv := fun (z : Bool) => eB z) (q := fun (z : Bool) => [some (eI a0), some (eI a1)]) (outs := fun z => [eI a0, eI a1]) (B.cv (b_last (b_ret (x_andT (x_primT (xa_p (x_var (d := eI a0) 0 rfl) (fun _ => puI _) (fun x3 => xa_nil)) (fun _ => op_isiT rfl)) (fun x4 => (x_andT (x_not (x_primT (xa_p (x_var (d := eI a0) 0 rfl) (fun _ => puI _) (fun x5 => xa_nil)) (fun _ => op_isiF rfl))) (fun x6 => (x_primT (xa_p (x_var (d := eI a0) 0 rfl) (fun _ => puI _) (fun x7 => (xa_p (x_var (d := eI a1) 1 rfl) (fun _ => puI _) (fun x8 => xa_nil)))) (fun _ => op_ge' _ _)))))) (fun x9 => (true && ((!false) && (decide (a1 ≤ a0))))) (.inr (fun _ => puB _)) (fun x9 => qf_ret rfl (by repeat (first | exact wk_nil | apply wk_a | apply wk_s))))) (by dsimp only [p_is_whole])) rfl (by simp [okM]) (fun z => (coll_0P rfl (coll_0P rfl coll_nilP)))
theorem tok_are_turns (a0 : (Int × (List (Int × Int)) × (List Int))) (a1 : (List Int)) : ∀ z, p_are_turns a0 a1 = some z → f_are_turns [(eQ eI (eT (eP eI eI)) (eT eI)) a0, (eT eI) a1] = .ok (eB z) [(eQ eI (eT (eP eI eI)) (eT eI)) a0, (eT eI) a1] :=
  fn_t (p0 := [some ((eQ eI (eT (eP eI eI)) (eT eI)) a0), some ((eT eI) a1), none]) (m := p_are_turns a0 a1) (rv := fun (z : Bool) => eB z) (q := fun (z : Bool) => [some ((eQ eI (eT (eP eI eI)) (eT eI)) a0), some ((eT eI) a1), none]) (outs := fun z => [(eQ eI (eT (eP eI eI)) (eT eI)) a0, (eT eI) a1]) (B.cv (b_if (xt_orT (xt_not (xt_tstA (x_primT (xa_p (x_var (d := (eT eI) a1) 1 rfl) (fun _ => (puT puI) _) (fun x3 => xa_nil)) (fun _ => op_isiT rfl)) (fun _ => tr_B _))) (fun x4 => (xt_tst (x_primT (xa_v (x_primT (xa_p (x_var (d := (eT eI) a1) 1 rfl) (fun _ => (puT puI) _) (fun x5 => xa_nil)) (fun _ => op_lenT _)) (fun x6 => (xa_v (x_primT (xa_v (x_primT (xa_p (x_var (d := (eQ eI (eT (eP eI eI)) (eT eI)) a0) 0 rfl) (fun _ => (puQ puI (puT (puP puI puI)) (puT puI)) _) (fun x7 => (xa_v (x_c (eI 1)) (fun x8 => xa_nil)))) (fun _ => op_ixQ1 (puT (puP puI puI)) _)) (fun x9 => xa_nil)) (fun _ => op_lenT _)) (fun x10 => xa_nil)))) (fun _ => op_ne eqI (by decide) _ _))))) (fun x11 => (b_ret (x_c (eB false)) (fun x12 => false) (.inl rfl) (fun x12 => qf_ret rfl (by repeat (first | exact wk_nil | apply wk_a | apply wk_s))))) (fun x11 => (b_skip (b_last (b_ret (x_primT (xa_v (x_mapP (ee := eB) (xi_mk (xa_p (x_var (d := (eT eI) a1) 1 rfl) (fun _ => (puT puI) _) (fun x13 => xa_nil)) rfl puI (fun _ => it_T _)) rfl (fun x14 x15 => as_nm) (fun x14 x15 => (x_andT (x_callP (xa_p (x_var (d := eI x15) 2 rfl) (fun _ => puI _) (fun x18 => (xa_v (x_c (eI 0)) (fun x19 => xa_nil)))) rfl (fun _ _ h => tok_is_whole  _ _ _ h)) (fun x21 => (x_primT (xa_p (x_var (d := eI x15) 2 rfl) (fun _ => puI _) (fun x22 => (xa_v (x_c (eI 2)) (fun x23 => xa_nil)))) (fun _ => op_lt' _ _))))) (.inr puB) (fun x14 x15 => ((p_is_whole  x15 (0 : Int))).bind fun t20 => some (t20 && (decide (x15 < (2 : Int))))) (fun _ _ => by repeat (first | exact wk_nil | apply wk_a | apply wk_s)) (by intro x y z h; simp only [] at h ⊢; repeat (first | (obtain ⟨hl, h⟩ := lim_inv h; simp only [lim_of hl]) | (obtain ⟨_, h1, h⟩ := Option.bind_eq_some_iff.mp h; simp only [h1, Option.bind_some] at h ⊢) | (cases h; rfl)))) (fun x26 => xa_nil)) (fun _ => op_all _)) (fun x27 => (List.all x27.1.2.1 id)) (.inl rfl) (fun x27 => qf_ret rfl (by repeat (first | exact wk_nil | apply wk_a | apply wk_s)))))))) (by dsimp only [p_are_turns])) rfl (by simp [okM]) (fun z => (coll_0P rfl (coll_0P rfl coll_nilP)))
theorem tok_are_heights (a0 : (Int × (List (Int × Int)) × (List Int))) (a1 : (List Int)) : ∀ z, p_are_heights a0 a1 = some z → f_are_heights [(eQ eI (eT (eP eI eI)) (eT eI)) a0, (eT eI) a1] = .ok (eB z) [(eQ eI (eT (eP eI eI)) (eT eI)) a0, (eT eI) a1] :=
  fn_t (p0 := [some ((eQ eI (eT (eP eI eI)) (eT eI)) a0), some ((eT eI) a1), none]) (m := p_are_heights a0 a1) (rv := fun (z : Bool) => eB z) (q := fun (z : Bool) => [some ((eQ eI (eT (eP eI eI)) (eT eI)) a0), some ((eT eI) a1), none]) (outs := fun z => [(eQ eI (eT (eP eI eI)) (eT eI)) a0, (eT eI) a1]) (B.cv (b_if (xt_orP (xt_not (xt_tstA (x_primT (xa_p (x_var (d := (eT eI) a1) 1 rfl) (fun _ => (puT puI) _) (fun x3 => xa_nil)) (fun _ => op_isiT rfl)) (fun _ => tr_B _))) (fun x4 => (xt_orP (xt_tst (x_primT (xa_v (x_primT (xa_p (x_var (d := (eT eI) a1) 1 rfl) (fun _ => (puT puI) _) (fun x5 => xa_nil)) (fun _ => op_lenT _)) (fun x6 => (xa_v (x_primT (xa_p (x_var (d := (eQ eI (eT (eP eI eI)) (eT eI)) a0) 0 rfl) (fun _ => (puQ puI (puT (puP puI puI)) (puT puI)) _) (fun x7 => (xa_v (x_c (eI 0)) (fun x8 => xa_nil)))) (fun _ => op_ixQ0 puI _)) (fun x9 => xa_nil)))) (fun _ => op_ne eqI (by decide) _ _))) (fun x10 => (xt_not (xt_tstA (x_primT (xa_v (x_mapP (ee := eB) (xi_mk (xa_p (x_var (d := (eT eI) a1) 1 rfl) (fun _ => (puT puI) _) (fun x11 => xa_nil)) rfl puI (fun _ => it_T _)) rfl (fun x12 x13 => as_nm) (fun x12 x13 => (x_callP (xa_p (x_var (d := eI x13) 2 rfl) (fun _ => puI _) (fun x16 => (xa_v (x_c (eI 0)) (fun x17 => xa_nil)))) rfl (fun _ _ h => tok_is_whole  _ _ _ h))) (.inl rfl) (fun x12 x13 => ((p_is_whole  x13 (0 : Int))).bind fun t18 => some t18) (fun _ _ => by repeat (first | exact wk_nil | apply wk_a | apply wk_s)) (by intro x y z h; simp only [] at h ⊢; repeat (first | (obtain ⟨hl, h⟩ := lim_inv h; simp only [lim_of hl]) | (obtain ⟨_, h1, h⟩ := Option.bind_eq_some_iff.mp h; simp only [h1, Option.bind_some] at h ⊢) | (cases h; rfl)))) (fun x21 => xa_nil)) (fun _ => op_all _)) (fun _ => tr_B _))))))) (fun x24 => (b_ret (x_c (eB false)) (fun x25 => false) (.inl rfl) (fun x25 => qf_ret rfl (by repeat (first | exact wk_nil | apply wk_a | apply wk_s))))) (fun x24 => (b_skip (b_last (b_ret (x_primT (xa_v (x_prim (xa_p (x_var (d := (eT eI) a1) 1 rfl) (fun _ => (puT puI) _) (fun x26 => xa_nil)) (fun _ _ h => minAny_of (op_min1T h))) (fun x28 => (xa_v (x_c (eI 0)) (fun x29 => xa_nil)))) (fun _ => op_eq eqI (by decide) _ _)) (fun x30 => (decide (x30.1.2 = (0 : Int)))) (.inl rfl) (fun x30 => qf_ret rfl (by repeat (first | exact wk_nil | apply wk_a | apply wk_s)))))))) (by dsimp only [p_are_heights])) rfl (by simp [okM]) (fun z => (coll_0P rfl (coll_0P rfl coll_nilP)))
theorem tok_is_spot (a0 : (Int × (List (Int × Int)) × (List Int))) (a1 : ((List Int) × (List Int))) : ∀ z, p_is_spot a0 a1 = some z → f_is_spot [(eQ eI (eT (eP eI eI)) (eT eI)) a0, (eP (eT eI) (eT eI)) a1] = .ok (eB z) [(eQ eI (eT (eP eI eI)) (eT eI)) a0, (eP (eT eI) (eT eI)) a1] :=
  fn_t (p0 := [some ((eQ eI (eT (eP eI eI)) (eT eI)) a0), some ((eP (eT eI) (eT eI)) a1)]) (m := p_is_spot a0 a1) (rv := fun (z : Bool) => eB z) (q := fun (z : Bool) => [some ((eQ eI (eT (eP eI eI)) (eT eI)) a0), some ((eP (eT eI) (eT eI)) a1)]) (outs := fun z => [(eQ eI (eT (eP eI eI)) (eT eI)) a0, (eP (eT eI) (eT eI)) a1]) (B.cv (b_last (b_ret (x_andP (x_primT (xa_p (x_var (d := (eP (eT eI) (eT eI)) a1) 1 rfl) (fun _ => (puP (puT puI) (puT puI)) _) (fun x3 => xa_nil)) (fun _ => op_isiT rfl)) (fun x4 => (x_andP (x_primT (xa_v (x_primT (xa_p (x_var (d := (eP (eT eI) (eT eI)) a1) 1 rfl) (fun _ => (puP (puT puI) (puT puI)) _) (fun x5 => xa_nil)) (fun _ => op_lenP _)) (fun x6 => (xa_v (x_c (eI 2)) (fun x7 => xa_nil)))) (fun _ => op_eq eqI (by decide) _ _)) (fun x8 => (x_andP (x_callP (xa_p (x_var (d := (eQ eI (eT (eP eI eI)) (eT eI)) a0) 0 rfl) (fun _ => (puQ puI (puT (puP puI puI)) (puT puI)) _) (fun x9 => (xa_v (x_primT (xa_p (x_var (d := (eP (eT eI) (eT eI)) a1) 1 rfl) (fun _ => (puP (puT puI) (puT puI)) _) (fun x10 => (xa_v (x_c (eI 0)) (fun x11 => xa_nil)))) (fun _ => op_ixP0 (puT puI) _)) (fun x12 => xa_nil)))) rfl (fun _ _ h => tok_are_turns  _ _ _ h)) (fun x14 => (x_callP (xa_p (x_var (d := (eQ eI (eT (eP eI eI)) (eT eI)) a0) 0 rfl) (fun _ => (puQ puI (puT (puP puI puI)) (puT puI)) _) (fun x15 => (xa_v (x_primT (xa_p (x_var (d := (eP (eT eI) (eT eI)) a1) 1 rfl) (fun _ => (puP (puT puI) (puT puI)) _) (fun x16 => (xa_v (x_c (eI 1)) (fun x17 => xa_nil)))) (fun _ => op_ixP1 (puT puI) _)) (fun x18 => xa_nil)))) rfl (fun _ _ h => tok_are_heights  _ _ _ h)))))))) (fun x23 => x23.2) (.inr (fun _ => puB _)) (fun x23 => qf_ret rfl (by repeat (first | exact wk_nil | apply wk_a | apply wk_s))))) (by dsimp only [p_is_spot])) rfl (by simp [okM]) (fun z => (coll_0P rfl (coll_0P rfl coll_nilP)))
theorem tok_shows_reach (a0 : (Int × (List (Int × Int)) × (List Int))) (a1 : (List Int)) (a2 : Int) (a3 : (List ((List Int) × (List Int)))) : ∀ z, p_shows_reach a0 a1 a2 a3 = some z → f_shows_reach [(eQ eI (eT (eP eI eI)) (eT eI)) a0, (eT eI) a1, eI a2, (eT (eP (eT eI) (eT eI))) a3] = .ok (eB z) [(eQ eI (eT (eP eI eI)) (eT eI)) a0, (eT eI) a1, eI a2, (eT (eP (eT eI) (eT eI))) a3] :=
  fn_t (p0 := [some ((eQ eI (eT (eP eI eI)) (eT eI)) a0), some ((eT eI) a1), some (eI a2), some ((eT (eP (eT eI) (eT eI))) a3), none, none, none, none]) (m := p_shows_reach a0 a1 a2 a3) (rv := fun (z : Bool) => eB z) (q := fun (z : Bool) => [some ((eQ eI (eT (eP eI eI)) (eT eI)) a0), some ((eT eI) a1), some (eI a2), some ((eT (eP (eT eI) (eT eI))) a3), none, none, none, none]) (outs := fun z => [(eQ eI (eT (eP eI eI)) (eT eI)) a0, (eT eI) a1, eI a2, (eT (eP (eT eI) (eT eI))) a3]) (B.cv (b_if (xt_orP (xt_not (xt_tstA (x_primT (xa_p (x_var (d := (eT (eP (eT eI) (eT eI))) a3) 3 rfl) (fun _ => (puT (puP (puT puI) (puT puI))) _) (fun x5 => xa_nil)) (fun _ => op_isiT rfl)) (fun _ => tr_B _))) (fun x6 => (xt_not (xt_tstA (x_primT (xa_v (x_mapP (ee := eB) (xi_mk (xa_p (x_var (d := (eT (eP (eT eI) (eT eI))) a3) 3 rfl) (fun _ => (puT (puP (puT puI) (puT puI))) _) (fun x7 => xa_nil)) rfl (puP (puT puI) (puT puI)) (fun _ => it_T _)) rfl (fun x8 x9 => as_nm) (fun x8 x9 => (x_callP (xa_p (x_var (d := (eQ eI (eT (eP eI eI)) (eT eI)) a0) 0 rfl) (fun _ => (puQ puI (puT (puP puI puI)) (puT puI)) _) (fun x12 => (xa_p (x_var (d := (eP (eT eI) (eT eI)) x9) 4 rfl) (fun _ => (puP (puT puI) (puT puI)) _) (fun x13 => xa_nil)))) rfl (fun _ _ h => tok_is_spot  _ _ _ h))) (.inl rfl) (fun x8 x9 => ((p_is_spot  a0 x9)).bind fun t14 => some t14) (fun _ _ => by repeat (first | exact wk_nil | apply wk_a | apply wk_s)) (by intro x y z h; simp only [] at h ⊢; repeat (first | (obtain ⟨hl, h⟩ := lim_inv h; simp only [lim_of hl]) | (obtain ⟨_, h1, h⟩ := Option.bind_eq_some_iff.mp h; simp only [h1, Option.bind_some] at h ⊢) | (cases h; rfl)))) (fun x17 => xa_nil)) (fun _ => op_all _)) (fun _ => tr_B _))))) (fun x19 => (b_ret (x_c (eB false)) (fun x20 => false) (.inl rfl) (fun x20 => qf_ret rfl (by repeat (first | exact wk_nil | apply wk_a | apply wk_s))))) (fun x19 => (b_skip (b_setL (eM (kP (kT kI) (kT kI)) eB) (x_primT (xa_v (x_mapT (ee := (eP (eP (eT eI) (eT eI)) eB)) (xi_mk (xa_p (x_var (d := (eT (eP (eT eI) (eT eI))) a3) 3 rfl) (fun _ => (puT (puP (puT puI) (puT puI))) _) (fun x21 => xa_nil)) rfl (puP (puT puI) (puT puI)) (fun _ => it_T _)) rfl (fun x22 x23 => as_nm) (fun x22 x23 => (X.as (x_tup (xa_p (x_var (d := (eP (eT eI) (eT eI)) x23) 4 rfl) (fun _ => (puP (puT puI) (puT puI)) _) (fun x26 => (xa_v (x_c (eB true)) (fun x27 => xa_nil)))) rfl (by decide)) (fun x28 => (eP (eP (eT eI) (eT eI)) eB) (x23, true)) rfl)) (.inl rfl) (fun _ _ => by repeat (first | exact wk_nil | apply wk_a | apply wk_s))) (fun x31 => xa_nil)) (fun _ => op_dictM (kmP (keT keI) (keT keI) (by decide)) puB _)) (.inl rfl) (fun x32 x33 => (b_if (xt_orP (xt_tst (x_primT (xa_v (x_primT (xa_s 5 rfl xa_nil (fun _ => rfl) (fun _ => puM)) (fun _ => op_lenM (kmP (keT keI) (keT keI) (by decide)) _)) (fun x35 => (xa_v (x_primT (xa_p (x_var (d := (eT (eP (eT eI) (eT eI))) a3) 3 rfl) (fun _ => (puT (puP (puT puI) (puT puI))) _) (fun x36 => xa_nil)) (fun _ => op_lenT _)) (fun x37 => xa_nil)))) (fun _ => op_ne eqI (by decide) _ _))) (fun x38 => (xt_tst (x_primT (xa_v (x_callP (xa_p (x_var (d := (eQ eI (eT (eP eI eI)) (eT eI)) a0) 0 rfl) (fun _ => (puQ puI (puT (puP puI puI)) (puT puI)) _) (fun x39 => xa_nil)) rfl (fun _ _ h => tok_first_place  _ _ h)) (fun x41 => (xa_s 5 rfl xa_nil (fun _ => rfl) (fun _ => puM)))) (fun _ => op_ninMM (kmP (keT keI) (keT keI) (by decide)) _ _))))) (fun x43 => (b_ret (x_c (eB false)) (fun x44 => false) (.inl rfl) (fun x44 => qf_ret rfl (by repeat (first | exact wk_nil | apply wk_a | apply wk_s))))) (fun x43 => (b_skip (b_forR (xi_mk (xa_p (x_var (d := (eT (eP (eT eI) (eT eI))) a3) 3 rfl) (fun _ => (puT (puP (puT puI) (puT puI))) _) (fun x45 => xa_nil)) rfl (puP (puT puI) (puT puI)) (fun _ => it_T _)) (fun x46 (x47 : Unit) => [some ((eQ eI (eT (eP eI eI)) (eT eI)) a0), some ((eT eI) a1), some (eI a2), some ((eT (eP (eT eI) (eT eI))) a3), none, some ((eM (kP (kT kI) (kT kI)) eB) x33), none, none]) (fun x46 => ()) (fun (z : Bool) => eB z) (fun x46 x75 => [some ((eQ eI (eT (eP eI eI)) (eT eI)) a0), some ((eT eI) a1), some (eI a2), some ((eT (eP (eT eI) (eT eI))) a3), none, none, none, none]) (fun z => z) (fun _ => rfl) (fun x46 => by repeat (first | exact wk_nil | apply wk_a | apply wk_s)) (fun x46 x47 x48 => as_nm) (fun x46 x47 x48 => (b_last (b_if (xt_orP (xt_tst (x_primT (xa_v (x_prim (xa_v (x_primT (xa_p (x_var (d := (eP (eT eI) (eT eI)) x48) 4 rfl) (fun _ => (puP (puT puI) (puT puI)) _) (fun x51 => (xa_v (x_c (eI 1)) (fun x52 => xa_nil)))) (fun _ => op_ixP1 (puT puI) _)) (fun x53 => xa_nil)) (fun _ _ h => op_max1T h)) (fun x55 => (xa_p (x_var (d := eI a2) 2 rfl) (fun _ => puI _) (fun x56 => xa_nil)))) (fun _ => op_gt' _ _))) (fun x57 => (xt_not (xt_tstA (x_primT (xa_v (x_mapT (ee := eB) (xi_mk (xa_v (x_callP (xa_p (x_var (d := (eQ eI (eT (eP eI eI)) (eT eI)) a0) 0 rfl) (fun _ => (puQ puI (puT (puP puI puI)) (puT puI)) _) (fun x58 => (xa_p (x_var (d := (eT eI) a1) 1 rfl) (fun _ => (puT puI) _) (fun x59 => (xa_p (x_var (d := (eP (eT eI) (eT eI)) x48) 4 rfl) (fun _ => (puP (puT puI) (puT puI)) _) (fun x60 => xa_nil)))))) rfl (fun _ _ h => tok_places_behind  _ _ _ _ h)) (fun x62 => xa_nil)) rfl (puP puI (puP (puT puI) (puT puI))) (fun _ => it_L _)) rfl (fun x63 x64 => (as_tp (ass_cons as_nm (ass_cons as_nm ass_nil)))) (fun x63 x64 => (x_primT (xa_p (x_var (d := (eP (eT eI) (eT eI)) x64.2) 7 rfl) (fun _ => (puP (puT puI) (puT puI)) _) (fun x67 => (xa_s 5 rfl xa_nil (fun _ => rfl) (fun _ => puM)))) (fun _ => op_inMM (kmP (keT keI) (keT keI) (by decide)) _ _))) (.inl rfl) (fun _ _ => by repeat (first | exact wk_nil | apply wk_a | apply wk_s))) (fun x70 => xa_nil)) (fun _ => op_all _)) (fun _ => tr_B _))))) (fun x72 => (b_ret (x_c (eB false)) (fun x73 => (Lf.ret false)) (.inl rfl) (fun x73 => ql_ret rfl (by repeat (first | exact wk_nil | apply wk_a | apply wk_s))))) (fun x72 => (b_skip (b_endL (z := ()) (by repeat (first | exact wk_nil | apply wk_a | apply wk_s)))))))) (fun x46 x75 => qf_ret rfl (by repeat (first | exact wk_nil | apply wk_a | apply wk_s))) (fun x46 x47 => (b_last (b_ret (x_c (eB true)) (fun x74 => true) (.inl rfl) (fun x74 => qf_ret rfl (by repeat (first | exact wk_nil | apply wk_a | apply wk_s))))))))))))))) (by dsimp only [p_shows_reach])) rfl (by simp [okM]) (fun z => (coll_0P rfl (coll_0P rfl (coll_0P rfl (coll_0P rfl coll_nilP)))))
theorem tok__law_left (a0 : (List Int)) (a1 : Int) : ∀ z, p__law_left a0 a1 = some z → f__law_left [eZ a0, eI a1] = .ok ((eL eI) z) [eZ a0, eI a1] :=
  fn_t (p0 := [some (eZ a0), some (eI a1), none, none]) (m := p__law_left a0 a1) (rv := fun (z : (List Int)) => (eL eI) z) (q := fun (z : (List Int)) => [some (eZ a0), some (eI a1), none, none]) (outs := fun z => [eZ a0, eI a1]) (B.cv (b_set (x_c (eI 0)) (.inl rfl) (fun x3 => (b_ifj (xt_tst (x_primT (xa_v (x_primT (xa_p (x_var (d := eZ a0) 0 rfl) (fun _ => puZ _) (fun x4 => xa_nil)) (fun _ => op_lenZ _)) (fun x5 => (xa_v (x_c (eI 0)) (fun x6 => xa_nil)))) (fun _ => op_gt' _ _))) (fun x7 (x16 : (Int)) => [some (eZ a0), some (eI a1), some (eI x16), none]) (fun x7 => (b_last (b_set (x_prim (xa_p (x_var (d := eZ a0) 0 rfl) (fun _ => puZ _) (fun x8 => (xa_v (x_prim (xa_p (x_var (d := eI a1) 1 rfl) (fun _ => puI _) (fun x9 => (xa_v (x_primT (xa_p (x_var (d := eZ a0) 0 rfl) (fun _ => puZ _) (fun x10 => xa_nil)) (fun _ => op_lenZ _)) (fun x11 => xa_nil)))) (fun _ _ h => op_mod' h)) (fun x13 => xa_nil)))) (fun _ _ h => op_ixZ h)) (.inl rfl) (fun x15 => (b_end (z := x15.2) (by repeat (first | exact wk_nil | apply wk_a | apply wk_s))))))) (fun x7 => (b_end (z := (0 : Int)) (by repeat (first | exact wk_nil | apply wk_a | apply wk_s)))) (fun x7 x16 => (b_setL eI (x_primT (xa_v (x_primT (xa_v (x_primT (xa_p (x_var (d := eI x16) 2 rfl) (fun _ => puI _) (fun x18 => xa_nil)) (fun _ => op_abs _)) (fun x19 => (xa_v (x_primT (xa_v (x_c (eI 10)) (fun x20 => (xa_v (x_c (eI 60)) (fun x21 => xa_nil)))) (fun _ => op_powC (c := 1000000000000000000000000000000000000000000000000000000000000) (by decide +kernel) (by decide +kernel))) (fun x22 => xa_nil)))) (fun _ => op_modC (by decide +kernel))) (fun x23 => (xa_v (x_primT (xa_v (x_primT (xa_v (x_primT (xa_p (x_var (d := eI x16) 2 rfl) (fun _ => puI _) (fun x24 => xa_nil)) (fun _ => op_abs _)) (fun x25 => (xa_v (x_primT (xa_v (x_c (eI 10)) (fun x26 => (xa_v (x_c (eI 18)) (fun x27 => xa_nil)))) (fun _ => op_powC (c := 1000000000000000000) (by decide +kernel) (by decide +kernel))) (fun x28 => xa_nil)))) (fun _ => op_ge' _ _)) (fun x29 => xa_nil)) (fun _ => op_intB _)) (fun x30 => xa_nil)))) (fun _ => op_mulB _ _)) (.inl rfl) (fun x31 x32 => (b_last (b_ret (X.as (x_lst (xa_p (x_var (d := eI x32) 3 rfl) (fun _ => puI _) (fun x34 => (xa_v (x_primT (xa_v (x_primT (xa_v (x_primT (xa_v (x_primT (xa_v (x_primT (xa_p (x_var (d := eI x16) 2 rfl) (fun _ => puI _) (fun x35 => (xa_v (x_c (eI 2305843009213693951)) (fun x36 => xa_nil)))) (fun _ => op_modC (by decide +kernel))) (fun x37 => (xa_v (x_prim (xa_v (x_primT (xa_v (x_c (eI 7919)) (fun x38 => (xa_p (x_var (d := eI a1) 1 rfl) (fun _ => puI _) (fun x39 => xa_nil)))) (fun _ => op_mulL (by decide +kernel))) (fun x40 => (xa_p (x_var (d := eI a1) 1 rfl) (fun _ => puI _) (fun x41 => xa_nil)))) (fun _ _ h => op_mul h)) (fun x43 => xa_nil)))) (fun _ => op_add _ _)) (fun x44 => (xa_v (x_c (eI 11)) (fun x45 => xa_nil)))) (fun _ => op_add _ _)) (fun x46 => (xa_v (x_c (eI 48271)) (fun x47 => xa_nil)))) (fun _ => op_mulR (by decide +kernel))) (fun x48 => (xa_v (x_c (eI 2147483647)) (fun x49 => xa_nil)))) (fun _ => op_modC (by decide +kernel))) (fun x50 => (xa_v (x_c (eI 0)) (fun x51 => xa_nil)))))) rfl (by decide)) (fun x52 => (eL eI) [x32, (((((x16 % (2305843009213693951 : Int)) + x52.2.1.1.1.1.2.1.2) + (11 : Int)) * (48271 : Int)) % (2147483647 : Int)), (0 : Int)]) rfl) (fun x53 => [x32, (((((x16 % (2305843009213693951 : Int)) + x53.2.1.1.1.1.2.1.2) + (11 : Int)) * (48271 : Int)) % (2147483647 : Int)), (0 : Int)]) (.inl rfl) (fun x53 => qf_ret rfl (by repeat (first | exact wk_nil | apply wk_a | apply wk_s))))))))))) (by dsimp only [p__law_left])) rfl (by simp [okM]) (fun z => (coll_0P rfl (coll_0P rfl coll_nilP)))
theorem tok__law_pick (a0 : (List Int)) (a1 : Int) : ∀ z, p__law_pick a0 a1 = some z → f__law_pick [(eL eI) a0, eI a1] = .ok (eI z.1) [(eL eI) z.2, eI a1] :=
  fn_t (p0 := [some ((eL eI) a0), some (eI a1), none]) (m := p__law_pick a0 a1) (rv := fun (z : (Int × (List Int))) => eI z.1) (q := fun (z : (Int × (List Int))) => [some ((eL eI) z.2), some (eI a1), none]) (outs := fun z => [(eL eI) z.2, eI a1]) (B.cv (b_if (xt_tst (x_primT (xa_v (x_prim (xa_s 0 rfl (xa_v (x_c (eI 0)) (fun x3 => xa_nil)) (fun _ => rfl) (fun _ => puL)) (fun _ _ h => op_ixL puI h)) (fun x5 => (xa_v (x_c (eI 0)) (fun x6 => xa_nil)))) (fun _ => op_gt' _ _))) (fun x7 => (b_asc (b_set (x_prim (xa_v (x_prim (xa_s 0 rfl (xa_v (x_c (eI 0)) (fun x8 => xa_nil)) (fun _ => rfl) (fun _ => puL)) (fun _ _ h => op_ixL puI h)) (fun x10 => (xa_p (x_var (d := eI a1) 1 rfl) (fun _ => puI _) (fun x11 => xa_nil)))) (fun _ _ h => op_mod' h)) (.inl rfl) (fun x13 => (b_asc (b_setIx (e1 := eI) (x_prim (xa_v (x_prim (xa_s 0 rfl (xa_v (x_c (eI 0)) (fun x14 => xa_nil)) (fun _ => rfl) (fun _ => puL)) (fun _ _ h => op_ixL puI h)) (fun x16 => (xa_p (x_var (d := eI a1) 1 rfl) (fun _ => puI _) (fun x17 => xa_nil)))) (fun _ _ h => op_div h)) puI (fun _ => ⟨_, rfl⟩) (fun x19 => (x_c (eI 0))) (fun _ _ => .inl rfl) (fun _ _ => rfl) (fun x19 x20 x21 => (b_ret (x_var (d := eI x13.2) 2 rfl) (fun x23 => (x13.2, x21)) (.inr (fun _ => puI _)) (fun x23 => qf_ret rfl (by repeat (first | exact wk_nil | apply wk_a | apply wk_s))))))))))) (fun x7 => (b_skip (b_setIx (e1 := eI) (x_primT (xa_v (x_prim (xa_s 0 rfl (xa_v (x_c (eI 2)) (fun x24 => xa_nil)) (fun _ => rfl) (fun _ => puL)) (fun _ _ h => op_ixL puI h)) (fun x26 => (xa_v (x_c (eI 1)) (fun x27 => xa_nil)))) (fun _ => op_add _ _)) puI (fun _ => ⟨_, rfl⟩) (fun x28 => (x_c (eI 2))) (fun _ _ => .inl rfl) (fun _ _ => rfl) (fun x28 x29 x30 => (b_setIx (e1 := eI) (x_primT (xa_v (x_primT (xa_v (x_primT (xa_v (x_primT (xa_v (x_prim (xa_s 0 rfl (xa_v (x_c (eI 1)) (fun x32 => xa_nil)) (fun _ => rfl) (fun _ => puL)) (fun _ _ h => op_ixL puI h)) (fun x34 => (xa_v (x_c (eI 48271)) (fun x35 => xa_nil)))) (fun _ => op_mulR (by decide +kernel))) (fun x36 => (xa_v (x_c (eI 12345)) (fun x37 => xa_nil)))) (fun _ => op_add _ _)) (fun x38 => (xa_v (x_prim (xa_s 0 rfl (xa_v (x_c (eI 2)) (fun x39 => xa_nil)) (fun _ => rfl) (fun _ => puL)) (fun _ _ h => op_ixL puI h)) (fun x41 => xa_nil)))) (fun _ => op_add _ _)) (fun x42 => (xa_v (x_c (eI 2147483647)) (fun x43 => xa_nil)))) (fun _ => op_modC (by decide +kernel))) puI (fun _ => ⟨_, rfl⟩) (fun x44 => (x_c (eI 1))) (fun _ _ => .inl rfl) (fun _ _ => rfl) (fun x44 x45 x46 => (b_last (b_ret (x_prim (xa_v (x_primT (xa_v (x_primT (xa_v (x_prim (xa_v (x_prim (xa_s 0 rfl (xa_v (x_c (eI 1)) (fun x48 => xa_nil)) (fun _ => rfl) (fun _ => puL)) (fun _ _ h => op_ixL puI h)) (fun x50 => (xa_v (x_prim (xa_s 0 rfl (xa_v (x_c (eI 1)) (fun x51 => xa_nil)) (fun _ => rfl) (fun _ => puL)) (fun _ _ h => op_ixL puI h)) (fun x53 => xa_nil)))) (fun _ _ h => op_mul h)) (fun x55 => (xa_v (x_c (eI 1999999973)) (fun x56 => xa_nil)))) (fun _ => op_modC (by decide +kernel))) (fun x57 => (xa_v (x_c (eI 64)) (fun x58 => xa_nil)))) (fun _ => op_divC (by decide +kernel))) (fun x59 => (xa_p (x_var (d := eI a1) 1 rfl) (fun _ => puI _) (fun x60 => xa_nil)))) (fun _ _ h => op_mod' h)) (fun x62 => (x62.2, x46)) (.inl rfl) (fun x62 => qf_ret rfl (by repeat (first | exact wk_nil | apply wk_a | apply wk_s)))))))))))) (by dsimp only [p__law_pick])) rfl (by simp [okM]) (fun z => (coll_0P rfl (coll_0P rfl coll_nilP)))
theorem tok__law_mixed__at0 (n : Nat) (a0 : (List Int)) (a1 : (List Int)) : ∀ z, p__law_mixed__at0 n a0 a1 = some z → f__law_mixed n [(eL eI) a0, (eL eI) a1] = .ok ((eT eI) z.1) [(eL eI) z.2, (eL eI) a1] :=
  fn_t (p0 := [some ((eL eI) a0), some ((eL eI) a1), none, none]) (m := p__law_mixed__at0 n a0 a1) (rv := fun (z : ((List Int) × (List Int))) => (eT eI) z.1) (q := fun (z : ((List Int) × (List Int))) => [some ((eL eI) z.2), some ((eL eI) a1), none, none]) (outs := fun z => [(eL eI) z.2, (eL eI) a1]) (B.cv (b_par (xa_v (x_primT (xa_s 1 rfl xa_nil (fun _ => rfl) (fun _ => puL)) (fun _ => op_lstL puI _)) (fun x3 => (xa_v (X.as (x_lst xa_nil rfl (by decide)) (fun x4 => (eL eI) ([] : (List Int))) rfl) (fun x5 => xa_nil)))) rfl (fun _ => rfl) (fun _ => put2) (fun x6 => (b_while (fun (x7 : ((List Int) × (List Int) × (List Int))) => [some ((eL eI) x7.1), some ((eL eI) a1), some ((eL eI) x7.2.1), some ((eL eI) x7.2.2)]) (a0, a1, ([] : (List Int))) (fun (z : ((List Int) × (List Int))) => (eT eI) z.1) (fun x20 => [some ((eL eI) x20.2), some ((eL eI) a1), none, none]) (fun z => z) (by repeat (first | exact wk_nil | apply wk_a | apply wk_s)) (fun x7 => (xt_tst (x_primT (xa_s 2 rfl (xa_v (X.as (x_lst xa_nil rfl (by decide)) (fun x9 => (eL eI) ([] : (List Int))) rfl) (fun x10 => xa_nil)) (fun _ => rfl) (fun _ => puL)) (fun _ => op_ne (eqL eqI) (by decide) _ _)))) (fun x7 x11 => (b_last (b_expr (x_mt rfl (xa_v (x_mt rfl (xa_v (x_call (xa_s 0 rfl (xa_v (x_primT (xa_s 2 rfl xa_nil (fun _ => rfl) (fun _ => puL)) (fun _ => op_lenL _)) (fun x12 => xa_nil)) (fun _ => rfl) (fun _ => puL)) rfl (fun _ _ h => tok__law_pick  _ _ _ h) (fun _ _ => rfl) (fun _ (zz : Int × (List Int)) => [(0, (eL eI) zz.2)]) (fun _ _ => rfl)) (fun x14 => xa_nil)) rfl (fun _ => rfl) (fun _ _ h => mt_pop' puI h) (fun _ z => puI z.1)) (fun x16 => xa_nil)) rfl (fun _ => rfl) (fun _ _ h => mt_app' h) (fun _ _ => rfl)) (fun x18 => (b_endL (z := (x18.1.1.1.1.2.2, x18.1.1.2.2, x18.2)) (by repeat (first | exact wk_nil | apply wk_a | apply wk_s))))))) (fun x20 => qf_ret rfl (by repeat (first | exact wk_nil | apply wk_a | apply wk_s))) (fun x7 => (b_last (b_ret (x_primT (xa_s 3 rfl xa_nil (fun _ => rfl) (fun _ => puL)) (fun _ => op_tupL puI _)) (fun x19 => (x7.2.2, x7.1)) (.inl rfl) (fun x19 => qf_ret rfl (by repeat (first | exact wk_nil | apply wk_a | apply wk_s))))))))) (by dsimp only [p__law_mixed__at0])) rfl (by simp [okM]) (fun z => (coll_0P rfl (coll_0P rfl coll_nilP)))
theorem tok__law_mixed__at1 (n : Nat) (a0 : (List Int)) (a1 : (List Int)) : ∀ z, p__law_mixed__at1 n a0 a1 = some z → f__law_mixed n [(eL eI) a0, (eL eI) a1] = .ok ((eT eI) z.1) [(eL eI) z.2, (eL eI) a1] :=
  fn_t (p0 := [some ((eL eI) a0), some ((eL eI) a1), none, none]) (m := p__law_mixed__at1 n a0 a1) (rv := fun (z : ((List Int) × (List Int))) => (eT eI) z.1) (q := fun (z : ((List Int) × (List Int))) => [some ((eL eI) z.2), some ((eL eI) a1), none, none]) (outs := fun z => [(eL eI) z.2, (eL eI) a1]) (B.cv (b_par (xa_v (x_primT (xa_s 1 rfl xa_nil (fun _ => rfl) (fun _ => puL)) (fun _ => op_lstL puI _)) (fun x3 => (xa_v (X.as (x_lst xa_nil rfl (by decide)) (fun x4 => (eL eI) ([] : (List Int))) rfl) (fun x5 => xa_nil)))) rfl (fun _ => rfl) (fun _ => put2) (fun x6 => (b_while (fun (x7 : ((List Int) × (List Int) × (List Int))) => [some ((eL eI) x7.1), some ((eL eI) a1), some ((eL eI) x7.2.1), some ((eL eI) x7.2.2)]) (a0, a1, ([] : (List Int))) (fun (z : ((List Int) × (List Int))) => (eT eI) z.1) (fun x20 => [some ((eL eI) x20.2), some ((eL eI) a1), none, none]) (fun z => z) (by repeat (first | exact wk_nil | apply wk_a | apply wk_s)) (fun x7 => (xt_tst (x_primT (xa_s 2 rfl (xa_v (X.as (x_lst xa_nil rfl (by decide)) (fun x9 => (eL eI) ([] : (List Int))) rfl) (fun x10 => xa_nil)) (fun _ => rfl) (fun _ => puL)) (fun _ => op_ne (eqL eqI) (by decide) _ _)))) (fun x7 x11 => (b_last (b_expr (x_mt rfl (xa_v (x_mt rfl (xa_v (x_call (xa_s 0 rfl (xa_v (x_primT (xa_s 2 rfl xa_nil (fun _ => rfl) (fun _ => puL)) (fun _ => op_lenL _)) (fun x12 => xa_nil)) (fun _ => rfl) (fun _ => puL)) rfl (fun _ _ h => tok__law_pick  _ _ _ h) (fun _ _ => rfl) (fun _ (zz : Int × (List Int)) => [(0, (eL eI) zz.2)]) (fun _ _ => rfl)) (fun x14 => xa_nil)) rfl (fun _ => rfl) (fun _ _ h => mt_pop' puI h) (fun _ z => puI z.1)) (fun x16 => xa_nil)) rfl (fun _ => rfl) (fun _ _ h => mt_app' h) (fun _ _ => rfl)) (fun x18 => (b_endL (z := (x18.1.1.1.1.2.2, x18.1.1.2.2, x18.2)) (by repeat (first | exact wk_nil | apply wk_a | apply wk_s))))))) (fun x20 => qf_ret rfl (by repeat (first | exact wk_nil | apply wk_a | apply wk_s))) (fun x7 => (b_last (b_ret (x_primT (xa_s 3 rfl xa_nil (fun _ => rfl) (fun _ => puL)) (fun _ => op_tupL puI _)) (fun x19 => (x7.2.2, x7.1)) (.inl rfl) (fun x19 => qf_ret rfl (by repeat (first | exact wk_nil | apply wk_a | apply wk_s))))))))) (by dsimp only [p__law_mixed__at1])) rfl (by simp [okM]) (fun z => (coll_0P rfl (coll_0P rfl coll_nilP)))
theorem tok__law_mixed__at2 (n : Nat) (a0 : (List Int)) (a1 : (List ((List Int) × (List Int)))) : ∀ z, p__law_mixed__at2 n a0 a1 = some z → f__law_mixed n [(eL eI) a0, (eF (eP (eT eI) (eT eI))) a1] = .ok ((eT (eP (eT eI) (eT eI))) z.1) [(eL eI) z.2, (eF (eP (eT eI) (eT eI))) a1] :=
  fn_t (p0 := [some ((eL eI) a0), some ((eF (eP (eT eI) (eT eI))) a1), none, none]) (m := p__law_mixed__at2 n a0 a1) (rv := fun (z : ((List ((List Int) × (List Int))) × (List Int))) => (eT (eP (eT eI) (eT eI))) z.1) (q := fun (z : ((List ((List Int) × (List Int))) × (List Int))) => [some ((eL eI) z.2), some ((eF (eP (eT eI) (eT eI))) a1), none, none]) (outs := fun z => [(eL eI) z.2, (eF (eP (eT eI) (eT eI))) a1]) (B.cv (b_par (xa_v (x_primT (xa_p (x_var (d := (eF (eP (eT eI) (eT eI))) a1) 1 rfl) (fun _ => puF _) (fun x3 => xa_nil)) (fun _ => op_lstF (puP (puT puI) (puT puI)) _)) (fun x4 => (xa_v (X.as (x_lst xa_nil rfl (by decide)) (fun x5 => (eL (eP (eT eI) (eT eI))) ([] : (List ((List Int) × (List Int))))) rfl) (fun x6 => xa_nil)))) rfl (fun _ => rfl) (fun _ => put2) (fun x7 => (b_while (fun (x8 : ((List Int) × (List ((List Int) × (List Int))) × (List ((List Int) × (List Int))))) => [some ((eL eI) x8.1), some ((eF (eP (eT eI) (eT eI))) a1), some ((eL (eP (eT eI) (eT eI))) x8.2.1), some ((eL (eP (eT eI) (eT eI))) x8.2.2)]) (a0, a1, ([] : (List ((List Int) × (List Int))))) (fun (z : ((List ((List Int) × (List Int))) × (List Int))) => (eT (eP (eT eI) (eT eI))) z.1) (fun x21 => [some ((eL eI) x21.2), some ((eF (eP (eT eI) (eT eI))) a1), none, none]) (fun z => z) (by repeat (first | exact wk_nil | apply wk_a | apply wk_s)) (fun x8 => (xt_tst (x_primT (xa_s 2 rfl (xa_v (X.as (x_lst xa_nil rfl (by decide)) (fun x10 => (eL (eP (eT eI) (eT eI))) ([] : (List ((List Int) × (List Int))))) rfl) (fun x11 => xa_nil)) (fun _ => rfl) (fun _ => puL)) (fun _ => op_ne (eqL (eqP (eqT eqI) (eqT eqI))) (by decide) _ _)))) (fun x8 x12 => (b_last (b_expr (x_mt rfl (xa_v (x_mt rfl (xa_v (x_call (xa_s 0 rfl (xa_v (x_primT (xa_s 2 rfl xa_nil (fun _ => rfl) (fun _ => puL)) (fun _ => op_lenL _)) (fun x13 => xa_nil)) (fun _ => rfl) (fun _ => puL)) rfl (fun _ _ h => tok__law_pick  _ _ _ h) (fun _ _ => rfl) (fun _ (zz : Int × (List Int)) => [(0, (eL eI) zz.2)]) (fun _ _ => rfl)) (fun x15 => xa_nil)) rfl (fun _ => rfl) (fun _ _ h => mt_pop' (puP (puT puI) (puT puI)) h) (fun _ z => (puP (puT puI) (puT puI)) z.1)) (fun x17 => xa_nil)) rfl (fun _ => rfl) (fun _ _ h => mt_app' h) (fun _ _ => rfl)) (fun x19 => (b_endL (z := (x19.1.1.1.1.2.2, x19.1.1.2.2, x19.2)) (by repeat (first | exact wk_nil | apply wk_a | apply wk_s))))))) (fun x21 => qf_ret rfl (by repeat (first | exact wk_nil | apply wk_a | apply wk_s))) (fun x8 => (b_last (b_ret (x_primT (xa_s 3 rfl xa_nil (fun _ => rfl) (fun _ => puL)) (fun _ => op_tupL (puP (puT puI) (puT puI)) _)) (fun x20 => (x8.2.2, x8.1)) (.inl rfl) (fun x20 => qf_ret rfl (by repeat (first | exact wk_nil | apply wk_a | apply wk_s))))))))) (by dsimp only [p__law_mixed__at2])) rfl (by simp [okM]) (fun z => (coll_0P rfl (coll_0P rfl coll_nilP)))
theorem tok__law_merger : ∀ (n : Nat) (a0 : (List Int)) (a1 : (List Int)) (z : ((List (Int × Int)) × (List Int))), p__law_merger n a0 a1 = some z → f__law_merger n [(eF eI) a0, (eF eI) a1] = .ok ((eP (eL (eP eI eI)) (eF eI)) z) [(eF eI) a0, (eF eI) a1]
  | 0, a0, a1, z => fun h => by cases h
  | n + 1, a0, a1, z => fn_t (p0 := [some ((eF eI) a0), some ((eF eI) a1), none, none, none, none, none, none, none]) (m := p__law_merger (n + 1) a0 a1) (rv := fun (z : ((List (Int × Int)) × (List Int))) => (eP (eL (eP eI eI)) (eF eI)) z) (q := fun (z : ((List (Int × Int)) × (List Int))) => [some ((eF eI) a0), some ((eF eI) a1), none, none, none, none, none, none, none]) (outs := fun z => [(eF eI) a0, (eF eI) a1]) (B.cv (b_if (xt_tst (x_primT (xa_v (x_primT (xa_p (x_var (d := (eF eI) a0) 0 rfl) (fun _ => puF _) (fun x3 => xa_nil)) (fun _ => op_lenF _)) (fun x4 => (xa_v (x_c (eI 1)) (fun x5 => xa_nil)))) (fun _ => op_eq eqI (by decide) _ _))) (fun x6 => (b_ret (X.as (x_tup (xa_v (X.as (x_lst (xa_v (X.as (x_tup (xa_v (x_prim (xa_p (x_var (d := (eF eI) a0) 0 rfl) (fun _ => puF _) (fun x7 => (xa_v (x_c (eI 0)) (fun x8 => xa_nil)))) (fun _ _ h => op_ixF puI h)) (fun x10 => (xa_v (x_prim (xa_p (x_var (d := (eF eI) a1) 1 rfl) (fun _ => puF _) (fun x11 => (xa_v (x_c (eI 0)) (fun x12 => xa_nil)))) (fun _ _ h => op_ixF puI h)) (fun x14 => xa_nil)))) rfl (by decide)) (fun x15 => (eP eI eI) (x15.1.2, x15.2.1.2)) rfl) (fun x16 => xa_nil)) rfl (by decide)) (fun x17 => (eL (eP eI eI)) [(x17.1.1.2, x17.1.2.1.2)]) rfl) (fun x18 => (xa_v (X.as (x_frzF puI (X.as (x_lst (xa_v (x_prim (xa_p (x_var (d := (eF eI) a0) 0 rfl) (fun _ => puF _) (fun x19 => (xa_v (x_c (eI 0)) (fun x20 => xa_nil)))) (fun _ _ h => op_ixF puI h)) (fun x22 => (xa_v (x_prim (xa_p (x_var (d := (eF eI) a1) 1 rfl) (fun _ => puF _) (fun x23 => (xa_v (x_c (eI 0)) (fun x24 => xa_nil)))) (fun _ _ h => op_ixF puI h)) (fun x26 => xa_nil)))) rfl (by decide)) (fun x27 => (eL eI) [x27.1.2, x27.2.1.2]) rfl)) (fun x28 => (eF eI) [x28.1.2, x28.2.1.2]) rfl) (fun x29 => xa_nil)))) rfl (by decide)) (fun x30 => (eP (eL (eP eI eI)) (eF eI)) ([(x30.1.1.1.2, x30.1.1.2.1.2)], [x30.2.1.1.2, x30.2.1.2.1.2])) rfl) (fun x31 => ([(x31.1.1.1.2, x31.1.1.2.1.2)], [x31.2.1.1.2, x31.2.1.2.1.2])) (.inl rfl) (fun x31 => qf_ret rfl (by repeat (first | exact wk_nil | apply wk_a | apply wk_s))))) (fun x6 => (b_skip (b_asg (x_callP (xa_v (X.as (x_frzF puI (x_stF (x_var (d := (eF eI) a0) 0 rfl) (fun x32 => xpr_none) (fun x32 x33 => xpr_none) (fun x32 x33 x34 => (xpr_some (x_c (eI 2)))) (fun _ _ _ _ _ h => op_stF h))) (fun x36 => (eF eI) x36.2.2.2.2) rfl) (fun x37 => (xa_v (X.as (x_frzF puI (x_stF (x_var (d := (eF eI) a1) 1 rfl) (fun x38 => (xpr_some (x_c (eI 1)))) (fun x38 x39 => xpr_none) (fun x38 x39 x40 => (xpr_some (x_c (eI 2)))) (fun _ _ _ _ _ h => op_stF h))) (fun x42 => (eF eI) x42.2.2.2.2) rfl) (fun x43 => xa_nil)))) rfl (fun _ _ h => tok__law_merger n _ _ _ h)) (.inl rfl) (fun _ => (as_tp (ass_cons as_nm (ass_cons as_nm ass_nil)))) (fun x45 => (b_asg (x_callP (xa_v (X.as (x_frzF puI (x_stF (x_var (d := (eF eI) a0) 0 rfl) (fun x46 => (xpr_some (x_c (eI 1)))) (fun x46 x47 => xpr_none) (fun x46 x47 x48 => (xpr_some (x_c (eI 2)))) (fun _ _ _ _ _ h => op_stF h))) (fun x50 => (eF eI) x50.2.2.2.2) rfl) (fun x51 => (xa_v (X.as (x_frzF puI (x_stF (x_var (d := (eF eI) a1) 1 rfl) (fun x52 => xpr_none) (fun x52 x53 => xpr_none) (fun x52 x53 x54 => (xpr_some (x_c (eI 2)))) (fun _ _ _ _ _ h => op_stF h))) (fun x56 => (eF eI) x56.2.2.2.2) rfl) (fun x57 => xa_nil)))) rfl (fun _ _ h => tok__law_merger n _ _ _ h)) (.inl rfl) (fun _ => (as_tp (ass_cons as_nm (ass_cons as_nm ass_nil)))) (fun x59 => (b_par (xa_v (x_prim (xa_s 2 rfl (xa_s 4 rfl xa_nil (fun _ => rfl) (fun _ => puL)) (fun _ => rfl) (fun _ => puL)) (fun _ _ h => op_catL (puP puI puI) h)) (fun x61 => (xa_v (X.as (x_lst xa_nil rfl (by decide)) (fun x62 => (eL eI) ([] : (List Int))) rfl) (fun x63 => xa_nil)))) rfl (fun _ => rfl) (fun _ => put2) (fun x64 => (b_for (xi_mk (xa_p (x_var (d := (eF eI) x45.2.2) 3 rfl) (fun _ => puF _) (fun x65 => (xa_p (x_var (d := (eF eI) x59.2.2) 5 rfl) (fun _ => puF _) (fun x66 => xa_nil)))) rfl (puP puI puI) (fun _ => it_zFF _ _)) (fun x67 (x68 : ((List (Int × Int)) × (List Int))) => [some ((eF eI) a0), some ((eF eI) a1), some ((eL (eP eI eI)) x68.1), some ((eF eI) x45.2.2), some ((eL (eP eI eI)) x59.2.1), some ((eF eI) x59.2.2), some ((eL eI) x68.2), none, none]) (fun x67 => (x64.1.2, ([] : (List Int)))) (fun _ => rfl) (fun x67 => by repeat (first | exact wk_nil | apply wk_a | apply wk_s)) (fun x67 x68 x69 => (as_tp (ass_cons as_nm (ass_cons as_nm ass_nil)))) (fun x67 x68 x69 => (b_expr (x_mt rfl (xa_v (X.as (x_tup (xa_p (x_var (d := eI x69.1) 7 rfl) (fun _ => puI _) (fun x72 => (xa_p (x_var (d := eI x69.2) 8 rfl) (fun _ => puI _) (fun x73 => xa_nil)))) rfl (by decide)) (fun x74 => (eP eI eI) (x69.1, x69.2)) rfl) (fun x75 => xa_nil)) rfl (fun _ => rfl) (fun _ _ h => mt_app' h) (fun _ _ => rfl)) (fun x77 => (b_last (b_expr (x_mt rfl (xa_v (X.as (x_lst (xa_p (x_var (d := eI x69.1) 7 rfl) (fun _ => puI _) (fun x78 => (xa_p (x_var (d := eI x69.2) 8 rfl) (fun _ => puI _) (fun x79 => xa_nil)))) rfl (by decide)) (fun x80 => (eL eI) [x69.1, x69.2]) rfl) (fun x81 => xa_nil)) rfl (fun _ => rfl) (fun _ _ h => mt_ext' puI h) (fun _ _ => rfl)) (fun x83 => (b_endC (z := (x77.2, x83.2)) (by repeat (first | exact wk_nil | apply wk_a | apply wk_s))))))))) (fun x67 x68 => (b_last (b_retT (xa_s 2 rfl (xa_p (x_frzV puI rfl) (fun _ => puF _) (fun x84 => xa_nil)) (fun _ => rfl) (fun _ => puL)) rfl rfl (by decide) (fun x85 => (x68.1, x68.2)) (fun x85 => qf_ret rfl (by repeat (first | exact wk_nil | apply wk_a | apply wk_s)))))))))))))))) (by dsimp only [p__law_merger])) rfl (by simp [okM]) (fun z => (coll_0P rfl (coll_0P rfl coll_nilP))) z
theorem tok__law_stairway : ∀ (n : Nat) (a0 : (List Int)) (z : ((List (Int × Int)) × (List Int))), p__law_stairway n a0 = some z → f__law_stairway n [(eF eI) a0] = .ok ((eP (eL (eP eI eI)) (eF eI)) z) [(eF eI) a0]
  | 0, a0, z => fun h => by cases h
  | n + 1, a0, z => fn_t (p0 := [some ((eF eI) a0), none, none, none, none, none, none, none]) (m := p__law_stairway (n + 1) a0) (rv := fun (z : ((List (Int × Int)) × (List Int))) => (eP (eL (eP eI eI)) (eF eI)) z) (q := fun (z : ((List (Int × Int)) × (List Int))) => [some ((eF eI) a0), none, none, none, none, none, none, none]) (outs := fun z => [(eF eI) a0]) (B.cv (b_if (xt_tst (x_primT (xa_v (x_primT (xa_p (x_var (d := (eF eI) a0) 0 rfl) (fun _ => puF _) (fun x2 => xa_nil)) (fun _ => op_lenF _)) (fun x3 => (xa_v (x_c (eI 1)) (fun x4 => xa_nil)))) (fun _ => op_eq eqI (by decide) _ _))) (fun x5 => (b_ret (X.as (x_tup (xa_v (X.as (x_lst xa_nil rfl (by decide)) (fun x6 => (eL (eP eI eI)) ([] : (List (Int × Int)))) rfl) (fun x7 => (xa_v (X.as (x_frzF puI (x_primT (xa_p (x_var (d := (eF eI) a0) 0 rfl) (fun _ => puF _) (fun x8 => xa_nil)) (fun _ => op_lstF puI _))) (fun x9 => (eF eI) a0) rfl) (fun x10 => xa_nil)))) rfl (by decide)) (fun x11 => (eP (eL (eP eI eI)) (eF eI)) (([] : (List (Int × Int))), a0)) rfl) (fun x12 => (([] : (List (Int × Int))), a0)) (.inl rfl) (fun x12 => qf_ret rfl (by repeat (first | exact wk_nil | apply wk_a | apply wk_s))))) (fun x5 => (b_skip (b_setL eI (x_primT (xa_v (x_primT (xa_p (x_var (d := (eF eI) a0) 0 rfl) (fun _ => puF _) (fun x13 => xa_nil)) (fun _ => op_lenF _)) (fun x14 => (xa_v (x_c (eI 2)) (fun x15 => xa_nil)))) (fun _ => op_divC (by decide +kernel))) (.inl rfl) (fun x16 x17 => (b_asg (x_callP (xa_v (X.as (x_frzF puI (x_sl (x_var (d := (eF eI) a0) 0 rfl) (fun x19 => xpr_none) (fun x19 x20 => (xpr_some (x_var (d := eI x17) 1 rfl))) (fun _ _ _ => op_slF _ _ _))) (fun x22 => (eF eI) (cutL a0 none (some x17))) rfl) (fun x23 => xa_nil)) rfl (fun _ _ h => tok__law_stairway n _ _ h)) (.inl rfl) (fun _ => (as_tp (ass_cons as_nm (ass_cons as_nm ass_nil)))) (fun x25 => (b_asg (x_callP (xa_v (X.as (x_frzF puI (x_sl (x_var (d := (eF eI) a0) 0 rfl) (fun x26 => (xpr_some (x_var (d := eI x17) 1 rfl))) (fun x26 x27 => xpr_none) (fun _ _ _ => op_slF _ _ _))) (fun x29 => (eF eI) (cutL a0 (some x17) none)) rfl) (fun x30 => xa_nil)) rfl (fun _ _ h => tok__law_stairway n _ _ h)) (.inl rfl) (fun _ => (as_tp (ass_cons as_nm (ass_cons as_nm ass_nil)))) (fun x32 => (b_asg (x_callP (xa_p (x_var (d := (eF eI) x25.2.2) 3 rfl) (fun _ => puF _) (fun x33 => (xa_p (x_var (d := (eF eI) x32.2.2) 5 rfl) (fun _ => puF _) (fun x34 => xa_nil)))) rfl (fun _ _ h => tok__law_merger n _ _ _ h)) (.inl rfl) (fun _ => (as_tp (ass_cons as_nm (ass_cons as_nm ass_nil)))) (fun x36 => (b_last (b_ret (X.as (x_tup (xa_v (x_prim (xa_v (x_prim (xa_s 2 rfl (xa_s 4 rfl xa_nil (fun _ => rfl) (fun _ => puL)) (fun _ => rfl) (fun _ => puL)) (fun _ _ h => op_catL (puP puI puI) h)) (fun x38 => (xa_s 6 rfl xa_nil (fun _ => rfl) (fun _ => puL)))) (fun _ _ h => op_catL (puP puI puI) h)) (fun x40 => (xa_p (x_var (d := (eF eI) x36.2.2) 7 rfl) (fun _ => puF _) (fun x41 => xa_nil)))) rfl (by decide)) (fun x42 => (eP (eL (eP eI eI)) (eF eI)) (x42.1.2, x36.2.2)) rfl) (fun x43 => (x43.1.2, x36.2.2)) (.inl rfl) (fun x43 => qf_ret rfl (by repeat (first | exact wk_nil | apply wk_a | apply wk_s)))))))))))))))) (by dsimp only [p__law_stairway])) rfl (by simp [okM]) (fun z => (coll_0P rfl coll_nilP)) z
theorem tok__law_block : ∀ (n : Nat) (a0 : (List Int)) (z : (List (Int × Int))), p__law_block n a0 = some z → f__law_block n [(eF eI) a0] = .ok ((eL (eP eI eI)) z) [(eF eI) a0]
  | 0, a0, z => fun h => by cases h
  | n + 1, a0, z => fn_t (p0 := [some ((eF eI) a0), none, none, none]) (m := p__law_block (n + 1) a0) (rv := fun (z : (List (Int × Int))) => (eL (eP eI eI)) z) (q := fun (z : (List (Int × Int))) => [some ((eF eI) a0), none, none, none]) (outs := fun z => [(eF eI) a0]) (B.cv (b_if (xt_tst (x_primT (xa_v (x_primT (xa_p (x_var (d := (eF eI) a0) 0 rfl) (fun _ => puF _) (fun x2 => xa_nil)) (fun _ => op_lenF _)) (fun x3 => (xa_v (x_c (eI 1)) (fun x4 => xa_nil)))) (fun _ => op_eq eqI (by decide) _ _))) (fun x5 => (b_ret (X.as (x_lst xa_nil rfl (by decide)) (fun x6 => (eL (eP eI eI)) ([] : (List (Int × Int)))) rfl) (fun x7 => ([] : (List (Int × Int)))) (.inl rfl) (fun x7 => qf_ret rfl (by repeat (first | exact wk_nil | apply wk_a | apply wk_s))))) (fun x5 => (b_skip (b_setL eI (x_primT (xa_v (x_primT (xa_p (x_var (d := (eF eI) a0) 0 rfl) (fun _ => puF _) (fun x8 => xa_nil)) (fun _ => op_lenF _)) (fun x9 => (xa_v (x_c (eI 2)) (fun x10 => xa_nil)))) (fun _ => op_divC (by decide +kernel))) (.inl rfl) (fun x11 x12 => (b_set (x_mapP (ee := (eP eI eI)) (xi_mkP (xa_p (x_var (d := eI x12) 1 rfl) (fun _ => puI _) (fun x14 => xa_nil)) rfl puI (fun _ _ h => it_r1 h)) rfl (fun x16 x17 => as_nm) (fun x16 x17 => (X.as (x_tup (xa_v (x_prim (xa_p (x_var (d := (eF eI) a0) 0 rfl) (fun _ => puF _) (fun x20 => (xa_p (x_var (d := eI x17) 3 rfl) (fun _ => puI _) (fun x21 => xa_nil)))) (fun _ _ h => op_ixF puI h)) (fun x23 => (xa_v (x_prim (xa_p (x_var (d := (eF eI) a0) 0 rfl) (fun _ => puF _) (fun x24 => (xa_v (x_primT (xa_v (x_primT (xa_v (x_primT (xa_p (x_var (d := (eF eI) a0) 0 rfl) (fun _ => puF _) (fun x25 => xa_nil)) (fun _ => op_lenF _)) (fun x26 => (xa_v (x_c (eI 1)) (fun x27 => xa_nil)))) (fun _ => op_sub' _ _)) (fun x28 => (xa_p (x_var (d := eI x17) 3 rfl) (fun _ => puI _) (fun x29 => xa_nil)))) (fun _ => op_sub' _ _)) (fun x30 => xa_nil)))) (fun _ _ h => op_ixF puI h)) (fun x32 => xa_nil)))) rfl (by decide)) (fun x33 => (eP eI eI) (x33.1.2, x33.2.1.2)) rfl)) (.inl rfl) (fun x16 x17 => ((atI a0 x17)).bind fun t22 => ((atI a0 (((a0.length : Int) - (1 : Int)) - x17))).bind fun t31 => some (t22, t31)) (fun _ _ => by repeat (first | exact wk_nil | apply wk_a | apply wk_s)) (by intro x y z h; simp only [] at h ⊢; repeat (first | (obtain ⟨hl, h⟩ := lim_inv h; simp only [lim_of hl]) | (obtain ⟨_, h1, h⟩ := Option.bind_eq_some_iff.mp h; simp only [h1, Option.bind_some] at h ⊢) | (cases h; rfl)))) (.inl rfl) (fun x36 => (b_last (b_ret (x_prim (xa_v (x_prim (xa_s 2 rfl (xa_v (x_callP (xa_v (X.as (x_frzF puI (x_sl (x_var (d := (eF eI) a0) 0 rfl) (fun x37 => xpr_none) (fun x37 x38 => (xpr_some (x_var (d := eI x12) 1 rfl))) (fun _ _ _ => op_slF _ _ _))) (fun x40 => (eF eI) (cutL a0 none (some x12))) rfl) (fun x41 => xa_nil)) rfl (fun _ _ h => tok__law_block n _ _ h)) (fun x43 => xa_nil)) (fun _ => rfl) (fun _ => puL)) (fun _ _ h => op_catL (puP puI puI) h)) (fun x45 => (xa_v (x_callP (xa_v (X.as (x_frzF puI (x_sl (x_var (d := (eF eI) a0) 0 rfl) (fun x46 => (xpr_some (x_var (d := eI x12) 1 rfl))) (fun x46 x47 => xpr_none) (fun _ _ _ => op_slF _ _ _))) (fun x49 => (eF eI) (cutL a0 (some x12) none)) rfl) (fun x50 => xa_nil)) rfl (fun _ _ h => tok__law_block n _ _ h)) (fun x52 => xa_nil)))) (fun _ _ h => op_catL (puP puI puI) h)) (fun x54 => x54.2) (.inl rfl) (fun x54 => qf_ret rfl (by repeat (first | exact wk_nil | apply wk_a | apply wk_s)))))))))))) (by dsimp only [p__law_block])) rfl (by simp [okM]) (fun z => (coll_0P rfl coll_nilP)) z
theorem tok__law_tree : ∀ (n : Nat) (a0 : (List Int)) (z : ((List (Int × Int)) × (List Int))), p__law_tree n a0 = some z → f__law_tree n [(eF eI) a0] = .ok ((eP (eL (eP eI eI)) (eF eI)) z) [(eF eI) a0]
  | 0, a0, z => fun h => by cases h
  | n + 1, a0, z => fn_t (p0 := [some ((eF eI) a0), none, none, none, none, none, none, none, none]) (m := p__law_tree (n + 1) a0) (rv := fun (z : ((List (Int × Int)) × (List Int))) => (eP (eL (eP eI eI)) (eF eI)) z) (q := fun (z : ((List (Int × Int)) × (List Int))) => [some ((eF eI) a0), none, none, none, none, none, none, none, none]) (outs := fun z => [(eF eI) a0]) (B.cv (b_if (xt_tst (x_primT (xa_v (x_primT (xa_p (x_var (d := (eF eI) a0) 0 rfl) (fun _ => puF _) (fun x2 => xa_nil)) (fun _ => op_lenF _)) (fun x3 => (xa_v (x_c (eI 1)) (fun x4 => xa_nil)))) (fun _ => op_eq eqI (by decide) _ _))) (fun x5 => (b_ret (X.as (x_tup (xa_v (X.as (x_lst xa_nil rfl (by decide)) (fun x6 => (eL (eP eI eI)) ([] : (List (Int × Int)))) rfl) (fun x7 => (xa_v (X.as (x_frzF puI (x_primT (xa_p (x_var (d := (eF eI) a0) 0 rfl) (fun _ => puF _) (fun x8 => xa_nil)) (fun _ => op_lstF puI _))) (fun x9 => (eF eI) a0) rfl) (fun x10 => xa_nil)))) rfl (by decide)) (fun x11 => (eP (eL (eP eI eI)) (eF eI)) (([] : (List (Int × Int))), a0)) rfl) (fun x12 => (([] : (List (Int × Int))), a0)) (.inl rfl) (fun x12 => qf_ret rfl (by repeat (first | exact wk_nil | apply wk_a | apply wk_s))))) (fun x5 => (b_skip (b_setL eI (x_primT (xa_v (x_primT (xa_p (x_var (d := (eF eI) a0) 0 rfl) (fun _ => puF _) (fun x13 => xa_nil)) (fun _ => op_lenF _)) (fun x14 => (xa_v (x_c (eI 2)) (fun x15 => xa_nil)))) (fun _ => op_divC (by decide +kernel))) (.inl rfl) (fun x16 x17 => (b_asg (x_callP (xa_v (X.as (x_frzF puI (x_sl (x_var (d := (eF eI) a0) 0 rfl) (fun x19 => xpr_none) (fun x19 x20 => (xpr_some (x_var (d := eI x17) 1 rfl))) (fun _ _ _ => op_slF _ _ _))) (fun x22 => (eF eI) (cutL a0 none (some x17))) rfl) (fun x23 => xa_nil)) rfl (fun _ _ h => tok__law_tree n _ _ h)) (.inl rfl) (fun _ => (as_tp (ass_cons as_nm (ass_cons as_nm ass_nil)))) (fun x25 => (b_asg (x_callP (xa_v (X.as (x_frzF puI (x_sl (x_var (d := (eF eI) a0) 0 rfl) (fun x26 => (xpr_some (x_var (d := eI x17) 1 rfl))) (fun x26 x27 => xpr_none) (fun _ _ _ => op_slF _ _ _))) (fun x29 => (eF eI) (cutL a0 (some x17) none)) rfl) (fun x30 => xa_nil)) rfl (fun _ _ h => tok__law_tree n _ _ h)) (.inl rfl) (fun _ => (as_tp (ass_cons as_nm (ass_cons as_nm ass_nil)))) (fun x32 => (b_setL (eL eI) (X.as (x_lst xa_nil rfl (by decide)) (fun x33 => (eL eI) ([] : (List Int))) rfl) (.inl rfl) (fun x34 x35 => (b_for (xi_mk (xa_p (x_var (d := (eF eI) x25.2.2) 3 rfl) (fun _ => puF _) (fun x37 => (xa_p (x_var (d := (eF eI) x32.2.2) 5 rfl) (fun _ => puF _) (fun x38 => xa_nil)))) rfl (puP puI puI) (fun _ => it_zFF _ _)) (fun x39 (x40 : ((List Int))) => [some ((eF eI) a0), some (eI x17), some ((eL (eP eI eI)) x25.2.1), some ((eF eI) x25.2.2), some ((eL (eP eI eI)) x32.2.1), some ((eF eI) x32.2.2), some ((eL eI) x40), none, none]) (fun x39 => x35) (fun _ => rfl) (fun x39 => by repeat (first | exact wk_nil | apply wk_a | apply wk_s)) (fun x39 x40 x41 => (as_tp (ass_cons as_nm (ass_cons as_nm ass_nil)))) (fun x39 x40 x41 => (b_last (b_expr (x_mt rfl (xa_v (X.as (x_lst (xa_p (x_var (d := eI x41.1) 7 rfl) (fun _ => puI _) (fun x44 => (xa_p (x_var (d := eI x41.2) 8 rfl) (fun _ => puI _) (fun x45 => xa_nil)))) rfl (by decide)) (fun x46 => (eL eI) [x41.1, x41.2]) rfl) (fun x47 => xa_nil)) rfl (fun _ => rfl) (fun _ _ h => mt_ext' puI h) (fun _ _ => rfl)) (fun x49 => (b_endC (z := x49.2) (by repeat (first | exact wk_nil | apply wk_a | apply wk_s))))))) (fun x39 x40 => (b_last (b_retT (xa_v (x_prim (xa_v (x_prim (xa_v (X.as (x_lst (xa_v (X.as (x_tup (xa_v (x_prim (xa_p (x_var (d := (eF eI) a0) 0 rfl) (fun _ => puF _) (fun x50 => (xa_v (x_c (eI 0)) (fun x51 => xa_nil)))) (fun _ _ h => op_ixF puI h)) (fun x53 => (xa_v (x_prim (xa_p (x_var (d := (eF eI) a0) 0 rfl) (fun _ => puF _) (fun x54 => (xa_p (x_var (d := eI x17) 1 rfl) (fun _ => puI _) (fun x55 => xa_nil)))) (fun _ _ h => op_ixF puI h)) (fun x57 => xa_nil)))) rfl (by decide)) (fun x58 => (eP eI eI) (x58.1.2, x58.2.1.2)) rfl) (fun x59 => xa_nil)) rfl (by decide)) (fun x60 => (eL (eP eI eI)) [(x60.1.1.2, x60.1.2.1.2)]) rfl) (fun x61 => (xa_s 2 rfl xa_nil (fun _ => rfl) (fun _ => puL)))) (fun _ _ h => op_catL (puP puI puI) h)) (fun x63 => (xa_s 4 rfl xa_nil (fun _ => rfl) (fun _ => puL)))) (fun _ _ h => op_catL (puP puI puI) h)) (fun x65 => (xa_p (x_frzV puI rfl) (fun _ => puF _) (fun x66 => xa_nil)))) rfl rfl (by decide) (fun x67 => (x67.1.2, x40)) (fun x67 => qf_ret rfl (by repeat (first | exact wk_nil | apply wk_a | apply wk_s)))))))))))))))))) (by dsimp only [p__law_tree])) rfl (by simp [okM]) (fun z => (coll_0P rfl coll_nilP)) z
theorem tok__law_made (n : Nat) (a0 : Int) (a1 : Int) : ∀ z, p__law_made n a0 a1 = some z → f__law_made n [eI a0, eI a1] = .ok ((eQ eI (eT (eP eI eI)) (eT eI)) z) [eI a0, eI a1] :=
  fn_t (p0 := [some (eI a0), some (eI a1), none, none, none]) (m := p__law_made n a0 a1) (rv := fun (z : (Int × (List (Int × Int)) × (List Int))) => (eQ eI (eT (eP eI eI)) (eT eI)) z) (q := fun (z : (Int × (List (Int × Int)) × (List Int))) => [some (eI a0), some (eI a1), none, none, none]) (outs := fun z => [eI a0, eI a1]) (B.cv (b_set (X.as (x_frzF puI (x_prim (xa_v (x_prim (xa_v (X.as (x_lst (xa_v (x_c (eI 1)) (fun x3 => (xa_v (x_c (eI 2)) (fun x4 => (xa_v (x_c (eI 4)) (fun x5 => (xa_v (x_c (eI 8)) (fun x6 => (xa_v (x_c (eI 16)) (fun x7 => xa_nil)))))))))) rfl (by decide)) (fun x8 => (eL eI) [(1 : Int), (2 : Int), (4 : Int), (8 : Int), (16 : Int)]) rfl) (fun x9 => (xa_p (x_var (d := eI a1) 1 rfl) (fun _ => puI _) (fun x10 => xa_nil)))) (fun _ _ h => op_ixL puI h)) (fun x12 => xa_nil)) (fun _ _ h => op_lrg1 h))) (fun x14 => (eF eI) x14.2) rfl) (.inl rfl) (fun x15 => (b_par (xa_v (x_prim (xa_v (x_callP (xa_p (x_var (d := (eF eI) x15.2) 2 rfl) (fun _ => puF _) (fun x16 => xa_nil)) rfl (fun _ _ h => tok__law_block n _ _ h)) (fun x18 => (xa_p (x_var (d := eI a1) 1 rfl) (fun _ => puI _) (fun x19 => xa_nil)))) (fun _ _ h => op_repL (puP puI puI) h)) (fun x21 => (xa_p (x_var (d := (eF eI) x15.2) 2 rfl) (fun _ => puF _) (fun x22 => xa_nil)))) rfl (fun _ => rfl) (fun _ => put2) (fun x23 => (b_ifj (xt_tst (x_primT (xa_p (x_var (d := eI a0) 0 rfl) (fun _ => puI _) (fun x24 => (xa_v (x_c (eI 0)) (fun x25 => xa_nil)))) (fun _ => op_eq eqI (by decide) _ _))) (fun x26 (x30 : ((List (Int × Int)) × (List Int))) => [some (eI a0), some (eI a1), some ((eF eI) x15.2), some ((eL (eP eI eI)) x30.1), some ((eF eI) x30.2)]) (fun x26 => (b_last (b_asg (x_callP (xa_p (x_var (d := (eF eI) x15.2) 2 rfl) (fun _ => puF _) (fun x27 => xa_nil)) rfl (fun _ _ h => tok__law_stairway n _ _ h)) (.inl rfl) (fun _ => (as_tp (ass_cons as_nm (ass_cons as_nm ass_nil)))) (fun x29 => (b_end (z := (x29.2.1, x29.2.2)) (by repeat (first | exact wk_nil | apply wk_a | apply wk_s))))))) (fun x26 => (b_end (z := (x23.1.2, x15.2)) (by repeat (first | exact wk_nil | apply wk_a | apply wk_s)))) (fun x26 x30 => (b_ifj (xt_tst (x_primT (xa_p (x_var (d := eI a0) 0 rfl) (fun _ => puI _) (fun x32 => (xa_v (x_c (eI 1)) (fun x33 => xa_nil)))) (fun _ => op_eq eqI (by decide) _ _))) (fun x34 (x38 : ((List (Int × Int)) × (List Int))) => [some (eI a0), some (eI a1), some ((eF eI) x15.2), some ((eL (eP eI eI)) x38.1), some ((eF eI) x38.2)]) (fun x34 => (b_last (b_asg (x_callP (xa_p (x_var (d := (eF eI) x15.2) 2 rfl) (fun _ => puF _) (fun x35 => xa_nil)) rfl (fun _ _ h => tok__law_tree n _ _ h)) (.inl rfl) (fun _ => (as_tp (ass_cons as_nm (ass_cons as_nm ass_nil)))) (fun x37 => (b_end (z := (x37.2.1, x37.2.2)) (by repeat (first | exact wk_nil | apply wk_a | apply wk_s))))))) (fun x34 => (b_end (z := (x30.1, x30.2)) (by repeat (first | exact wk_nil | apply wk_a | apply wk_s)))) (fun x34 x38 => (b_last (b_ret (X.as (x_tup (xa_v (x_primT (xa_p (x_var (d := (eF eI) x15.2) 2 rfl) (fun _ => puF _) (fun x40 => xa_nil)) (fun _ => op_lenF _)) (fun x41 => (xa_v (x_primT (xa_s 3 rfl xa_nil (fun _ => rfl) (fun _ => puL)) (fun _ => op_tupL (puP puI puI) _)) (fun x42 => (xa_v (x_primT (xa_p (x_var (d := (eF eI) x38.2) 4 rfl) (fun _ => puF _) (fun x43 => xa_nil)) (fun _ => op_tupF puI _)) (fun x44 => xa_nil)))))) rfl (by decide)) (fun x45 => (eQ eI (eT (eP eI eI)) (eT eI)) ((x15.2.length : Int), x38.1, x38.2)) rfl) (fun x46 => ((x15.2.length : Int), x38.1, x38.2)) (.inl rfl) (fun x46 => qf_ret rfl (by repeat (first | exact wk_nil | apply wk_a | apply wk_s))))))))))))) (by dsimp only [p__law_made])) rfl (by simp [okM]) (fun z => (coll_0P rfl (coll_0P rfl coll_nilP)))
theorem tok__law_any (n : Nat) (a0 : (List Int)) : ∀ z, p__law_any n a0 = some z → f__law_any n [(eL eI) a0] = .ok ((eQ eI (eT (eP eI eI)) (eT eI)) z.1) [(eL eI) z.2] :=
  fn_t (p0 := [some ((eL eI) a0), none, none, none, none, none, none]) (m := p__law_any n a0) (rv := fun (z : ((Int × (List (Int × Int)) × (List Int)) × (List Int))) => (eQ eI (eT (eP eI eI)) (eT eI)) z.1) (q := fun (z : ((Int × (List (Int × Int)) × (List Int)) × (List Int))) => [some ((eL eI) z.2), none, none, none, none, none, none]) (outs := fun z => [(eL eI) z.2]) (B.cv (b_set (x_prim (xa_v (X.as (x_lst (xa_v (x_c (eI 1)) (fun x2 => (xa_v (x_c (eI 2)) (fun x3 => (xa_v (x_c (eI 2)) (fun x4 => (xa_v (x_c (eI 3)) (fun x5 => (xa_v (x_c (eI 4)) (fun x6 => (xa_v (x_c (eI 3)) (fun x7 => (xa_v (x_c (eI 4)) (fun x8 => (xa_v (x_c (eI 6)) (fun x9 => xa_nil)))))))))))))))) rfl (by decide)) (fun x10 => (eL eI) [(1 : Int), (2 : Int), (2 : Int), (3 : Int), (4 : Int), (3 : Int), (4 : Int), (6 : Int)]) rfl) (fun x11 => (xa_v (x_call (xa_s 0 rfl (xa_v (x_c (eI 8)) (fun x12 => xa_nil)) (fun _ => rfl) (fun _ => puL)) rfl (fun _ _ h => tok__law_pick  _ _ _ h) (fun _ _ => rfl) (fun _ (zz : Int × (List Int)) => [(0, (eL eI) zz.2)]) (fun _ _ => rfl)) (fun x14 => xa_nil)))) (fun _ _ h => op_ixL puI h)) (.inl rfl) (fun x16 => (b_setL (eL (eP eI eI)) (X.as (x_lst xa_nil rfl (by decide)) (fun x17 => (eL (eP eI eI)) ([] : (List (Int × Int)))) rfl) (.inl rfl) (fun x18 x19 => (b_for (xi_mkP (xa_v (x_primT (xa_v (x_prim (xa_v (X.as (x_lst (xa_v (x_c (eI 0)) (fun x21 => (xa_v (x_c (eI 1)) (fun x22 => (xa_v (x_c (eI 2)) (fun x23 => (xa_v (x_c (eI 3)) (fun x24 => (xa_v (x_c (eI 4)) (fun x25 => (xa_v (x_c (eI 5)) (fun x26 => (xa_v (x_c (eI 6)) (fun x27 => (xa_v (x_c (eI 8)) (fun x28 => xa_nil)))))))))))))))) rfl (by decide)) (fun x29 => (eL eI) [(0 : Int), (1 : Int), (2 : Int), (3 : Int), (4 : Int), (5 : Int), (6 : Int), (8 : Int)]) rfl) (fun x30 => (xa_v (x_call (xa_s 0 rfl (xa_v (x_c (eI 8)) (fun x31 => xa_nil)) (fun _ => rfl) (fun _ => puL)) rfl (fun _ _ h => tok__law_pick  _ _ _ h) (fun _ _ => rfl) (fun _ (zz : Int × (List Int)) => [(0, (eL eI) zz.2)]) (fun _ _ => rfl)) (fun x33 => xa_nil)))) (fun _ _ h => op_ixL puI h)) (fun x35 => (xa_v (x_primT (xa_v (x_primT (xa_p (x_var (d := eI x16.2) 1 rfl) (fun _ => puI _) (fun x36 => (xa_v (x_c (eI 1)) (fun x37 => xa_nil)))) (fun _ => op_gt' _ _)) (fun x38 => xa_nil)) (fun _ => op_intB _)) (fun x39 => xa_nil)))) (fun _ => op_mulB _ _)) (fun x40 => xa_nil)) rfl puI (fun _ _ h => it_r1 h)) (fun x42 (x43 : ((List Int) × (List (Int × Int)))) => [some ((eL eI) x43.1), some (eI x16.2), some ((eL (eP eI eI)) x43.2), none, none, none, none]) (fun x42 => (x42.1.1.1.1.2.1.2.2, x19)) (fun _ => rfl) (fun x42 => by repeat (first | exact wk_nil | apply wk_a | apply wk_s)) (fun x42 x43 x44 => as_nm) (fun x42 x43 x44 => (b_set (x_call (xa_s 0 rfl (xa_p (x_var (d := eI x16.2) 1 rfl) (fun _ => puI _) (fun x47 => xa_nil)) (fun _ => rfl) (fun _ => puL)) rfl (fun _ _ h => tok__law_pick  _ _ _ h) (fun _ _ => rfl) (fun _ (zz : Int × (List Int)) => [(0, (eL eI) zz.2)]) (fun _ _ => rfl)) (.inl rfl) (fun x49 => (b_set (x_prim (xa_v (x_primT (xa_v (x_primT (xa_p (x_var (d := eI x49.2.1) 4 rfl) (fun _ => puI _) (fun x50 => (xa_v (x_c (eI 1)) (fun x51 => xa_nil)))) (fun _ => op_add _ _)) (fun x52 => (xa_v (x_call (xa_s 0 rfl (xa_v (x_primT (xa_p (x_var (d := eI x16.2) 1 rfl) (fun _ => puI _) (fun x53 => (xa_v (x_c (eI 1)) (fun x54 => xa_nil)))) (fun _ => op_sub' _ _)) (fun x55 => xa_nil)) (fun _ => rfl) (fun _ => puL)) rfl (fun _ _ h => tok__law_pick  _ _ _ h) (fun _ _ => rfl) (fun _ (zz : Int × (List Int)) => [(0, (eL eI) zz.2)]) (fun _ _ => rfl)) (fun x57 => xa_nil)))) (fun _ => op_add _ _)) (fun x58 => (xa_p (x_var (d := eI x16.2) 1 rfl) (fun _ => puI _) (fun x59 => xa_nil)))) (fun _ _ h => op_mod' h)) (.inl rfl) (fun x61 => (b_last (b_expr (x_mt rfl (xa_v (x_prim (xa_v (X.as (x_lst (xa_v (X.as (x_tup (xa_p (x_var (d := eI x49.2.1) 4 rfl) (fun _ => puI _) (fun x62 => (xa_p (x_var (d := eI x61.2) 5 rfl) (fun _ => puI _) (fun x63 => xa_nil)))) rfl (by decide)) (fun x64 => (eP eI eI) (x49.2.1, x61.2)) rfl) (fun x65 => (xa_v (X.as (x_tup (xa_p (x_var (d := eI x49.2.1) 4 rfl) (fun _ => puI _) (fun x66 => (xa_p (x_var (d := eI x61.2) 5 rfl) (fun _ => puI _) (fun x67 => xa_nil)))) rfl (by decide)) (fun x68 => (eP eI eI) (x49.2.1, x61.2)) rfl) (fun x69 => (xa_v (x_prim (xa_v (x_prim (xa_s 2 rfl (xa_v (X.as (x_lst (xa_v (X.as (x_tup (xa_p (x_var (d := eI x49.2.1) 4 rfl) (fun _ => puI _) (fun x70 => (xa_p (x_var (d := eI x61.2) 5 rfl) (fun _ => puI _) (fun x71 => xa_nil)))) rfl (by decide)) (fun x72 => (eP eI eI) (x49.2.1, x61.2)) rfl) (fun x73 => xa_nil)) rfl (by decide)) (fun x74 => (eL (eP eI eI)) [(x49.2.1, x61.2)]) rfl) (fun x75 => xa_nil)) (fun _ => rfl) (fun _ => puL)) (fun _ _ h => op_catL (puP puI puI) h)) (fun x77 => (xa_v (x_c (eI 0)) (fun x78 => xa_nil)))) (fun _ _ h => op_ixL (puP puI puI) h)) (fun x80 => xa_nil)))))) rfl (by decide)) (fun x81 => (eL (eP eI eI)) [(x49.2.1, x61.2), (x49.2.1, x61.2), x81.2.2.1.2]) rfl) (fun x82 => (xa_v (x_call (xa_s 0 rfl (xa_v (x_c (eI 3)) (fun x83 => xa_nil)) (fun _ => rfl) (fun _ => puL)) rfl (fun _ _ h => tok__law_pick  _ _ _ h) (fun _ _ => rfl) (fun _ (zz : Int × (List Int)) => [(0, (eL eI) zz.2)]) (fun _ _ => rfl)) (fun x85 => xa_nil)))) (fun _ _ h => op_ixL (puP puI puI) h)) (fun x87 => xa_nil)) rfl (fun _ => rfl) (fun _ _ h => mt_app' h) (fun _ _ => rfl)) (fun x89 => (b_endC (z := (x89.1.1.1.2.1.2.2, x89.2)) (by repeat (first | exact wk_nil | apply wk_a | apply wk_s))))))))))) (fun x42 x43 => (b_set (x_prim (xa_v (X.as (x_lst (xa_v (x_prim (xa_p (x_var (d := eI x16.2) 1 rfl) (fun _ => puI _) (fun x90 => xa_nil)) (fun _ _ h => op_trg1 h)) (fun x92 => (xa_v (x_call (xa_s 0 rfl (xa_v (x_prim (xa_p (x_var (d := eI x16.2) 1 rfl) (fun _ => puI _) (fun x93 => xa_nil)) (fun _ _ h => op_lrg1 h)) (fun x95 => xa_nil)) (fun _ => rfl) (fun _ => puL)) rfl (fun _ _ h => tok__law_mixed__at0 n _ _ _ h) (fun _ _ => rfl) (fun _ (zz : (List Int) × (List Int)) => [(0, (eL eI) zz.2)]) (fun _ _ => rfl)) (fun x97 => xa_nil)))) rfl (by decide)) (fun x98 => (eL (eT eI)) [x98.1.2, x98.2.1.2.1]) rfl) (fun x99 => (xa_v (x_call (xa_s 0 rfl (xa_v (x_c (eI 2)) (fun x100 => xa_nil)) (fun _ => rfl) (fun _ => puL)) rfl (fun _ _ h => tok__law_pick  _ _ _ h) (fun _ _ => rfl) (fun _ (zz : Int × (List Int)) => [(0, (eL eI) zz.2)]) (fun _ _ => rfl)) (fun x102 => xa_nil)))) (fun _ _ h => op_ixL (puT puI) h)) (.inl rfl) (fun x104 => (b_last (b_ret (X.as (x_tup (xa_p (x_var (d := eI x16.2) 1 rfl) (fun _ => puI _) (fun x105 => (xa_v (x_primT (xa_s 2 rfl xa_nil (fun _ => rfl) (fun _ => puL)) (fun _ => op_tupL (puP puI puI) _)) (fun x106 => (xa_p (x_var (d := (eT eI) x104.2) 6 rfl) (fun _ => (puT puI) _) (fun x107 => xa_nil)))))) rfl (by decide)) (fun x108 => (eQ eI (eT (eP eI eI)) (eT eI)) (x16.2, x43.2, x104.2)) rfl) (fun x109 => ((x16.2, x43.2, x104.2), x104.1.2.1.2.2)) (.inl rfl) (fun x109 => qf_ret rfl (by repeat (first | exact wk_nil | apply wk_a | apply wk_s))))))))))))) (by dsimp only [p__law_any])) rfl (by simp [okM]) (fun z => (coll_0P rfl coll_nilP))
theorem tok__law_changed (a0 : (List Int)) (a1 : (Int × (List (Int × Int)) × (List Int))) : ∀ z, p__law_changed a0 a1 = some z → f__law_changed [(eL eI) a0, (eQ eI (eT (eP eI eI)) (eT eI)) a1] = .ok ((eQ eI (eT (eP eI eI)) (eT eI)) z.1) [(eL eI) z.2, (eQ eI (eT (eP eI eI)) (eT eI)) a1] :=
  fn_t (p0 := [some ((eL eI) a0), some ((eQ eI (eT (eP eI eI)) (eT eI)) a1), none, none, none, none, none, none, none, none, none, none]) (m := p__law_changed a0 a1) (rv := fun (z : ((Int × (List (Int × Int)) × (List Int)) × (List Int))) => (eQ eI (eT (eP eI eI)) (eT eI)) z.1) (q := fun (z : ((Int × (List (Int × Int)) × (List Int)) × (List Int))) => [some ((eL eI) z.2), some ((eQ eI (eT (eP eI eI)) (eT eI)) a1), none, none, none, none, none, none, none, none, none, none]) (outs := fun z => [(eL eI) z.2, (eQ eI (eT (eP eI eI)) (eT eI)) a1]) (B.cv (b_asg (x_var (d := (eQ eI (eT (eP eI eI)) (eT eI)) a1) 1 rfl) (.inr (fun _ => (puQ puI (puT (puP puI puI)) (puT puI)) _)) (fun _ => (as_tp (ass_cons as_nm (ass_cons as_nm (ass_cons as_nm ass_nil))))) (fun x3 => (b_par (xa_v (x_call (xa_s 0 rfl (xa_v (x_c (eI 5)) (fun x4 => xa_nil)) (fun _ => rfl) (fun _ => puL)) rfl (fun _ _ h => tok__law_pick  _ _ _ h) (fun _ _ => rfl) (fun _ (zz : Int × (List Int)) => [(0, (eL eI) zz.2)]) (fun _ _ => rfl)) (fun x6 => (xa_v (x_call (xa_s 0 rfl (xa_v (x_primT (xa_v (x_primT (xa_p (x_var (d := (eT (eP eI eI)) a1.2.1) 3 rfl) (fun _ => (puT (puP puI puI)) _) (fun x7 => xa_nil)) (fun _ => op_lenT _)) (fun x8 => (xa_v (x_c (eI 1)) (fun x9 => xa_nil)))) (fun _ => op_add _ _)) (fun x10 => xa_nil)) (fun _ => rfl) (fun _ => puL)) rfl (fun _ _ h => tok__law_pick  _ _ _ h) (fun _ _ => rfl) (fun _ (zz : Int × (List Int)) => [(0, (eL eI) zz.2)]) (fun _ _ => rfl)) (fun x12 => (xa_v (x_call (xa_s 0 rfl (xa_p (x_var (d := eI a1.1) 2 rfl) (fun _ => puI _) (fun x13 => xa_nil)) (fun _ => rfl) (fun _ => puL)) rfl (fun _ _ h => tok__law_pick  _ _ _ h) (fun _ _ => rfl) (fun _ (zz : Int × (List Int)) => [(0, (eL eI) zz.2)]) (fun _ _ => rfl)) (fun x15 => xa_nil)))))) rfl (fun _ => rfl) (fun _ => put3) (fun x16 => (b_setL (eT (eP eI eI)) (x_sl (x_var (d := (eT (eP eI eI)) a1.2.1) 3 rfl) (fun x17 => (xpr_some (x_var (d := eI x16.2.1.2.1) 6 rfl))) (fun x17 x18 => (xpr_some (x_primT (xa_p (x_var (d := eI x16.2.1.2.1) 6 rfl) (fun _ => puI _) (fun x20 => (xa_v (x_c (eI 1)) (fun x21 => xa_nil)))) (fun _ => op_add _ _)))) (fun _ _ _ => op_slT (puP puI puI) _ _ _)) (.inl rfl) (fun x22 x23 => (b_if (xt_tst (x_primT (xa_p (x_var (d := eI x16.1.2.1) 5 rfl) (fun _ => puI _) (fun x25 => (xa_v (x_c (eI 0)) (fun x26 => xa_nil)))) (fun _ => op_eq eqI (by decide) _ _))) (fun x27 => (b_ret (X.as (x_tup (xa_p (x_var (d := eI a1.1) 2 rfl) (fun _ => puI _) (fun x28 => (xa_v (x_prim (xa_v (x_prim (xa_v (x_sl (x_var (d := (eT (eP eI eI)) a1.2.1) 3 rfl) (fun x29 => xpr_none) (fun x29 x30 => (xpr_some (x_var (d := eI x16.2.1.2.1) 6 rfl))) (fun _ _ _ => op_slT (puP puI puI) _ _ _)) (fun x32 => (xa_v (x_primT (xa_v (x_mapT (ee := (eP eI eI)) (xi_mk (xa_p (x_var (d := (eT (eP eI eI)) x23) 8 rfl) (fun _ => (puT (puP puI puI)) _) (fun x33 => xa_nil)) rfl (puP puI puI) (fun _ => it_T _)) rfl (fun x34 x35 => (as_tp (ass_cons as_nm (ass_cons as_nm ass_nil)))) (fun x34 x35 => (X.as (x_tup (xa_p (x_var (d := eI x35.2) 10 rfl) (fun _ => puI _) (fun x38 => (xa_p (x_var (d := eI x35.1) 9 rfl) (fun _ => puI _) (fun x39 => xa_nil)))) rfl (by decide)) (fun x40 => (eP eI eI) (x35.2, x35.1)) rfl)) (.inl rfl) (fun _ _ => by repeat (first | exact wk_nil | apply wk_a | apply wk_s))) (fun x43 => xa_nil)) (fun _ => op_tupL (puP puI puI) _)) (fun x44 => xa_nil)))) (fun _ _ h => op_catT (puP puI puI) h)) (fun x46 => (xa_v (x_sl (x_var (d := (eT (eP eI eI)) a1.2.1) 3 rfl) (fun x49 => (xpr_some (x_primT (xa_p (x_var (d := eI x16.2.1.2.1) 6 rfl) (fun _ => puI _) (fun x52 => (xa_v (x_c (eI 1)) (fun x53 => xa_nil)))) (fun _ => op_add _ _)))) (fun x49 x50 => xpr_none) (fun _ _ _ => op_slT (puP puI puI) _ _ _)) (fun x54 => xa_nil)))) (fun _ _ h => op_catT (puP puI puI) h)) (fun x56 => (xa_p (x_var (d := (eT eI) a1.2.2) 4 rfl) (fun _ => (puT puI) _) (fun x57 => xa_nil)))))) rfl (by decide)) (fun x58 => (eQ eI (eT (eP eI eI)) (eT eI)) (a1.1, x58.2.1.2, a1.2.2)) rfl) (fun x59 => ((a1.1, x59.2.1.2, a1.2.2), x16.2.2.1.2.2)) (.inl rfl) (fun x59 => qf_ret rfl (by repeat (first | exact wk_nil | apply wk_a | apply wk_s))))) (fun x27 => (b_skip (b_if (xt_tst (x_primT (xa_p (x_var (d := eI x16.1.2.1) 5 rfl) (fun _ => puI _) (fun x60 => (xa_v (x_c (eI 1)) (fun x61 => xa_nil)))) (fun _ => op_eq eqI (by decide) _ _))) (fun x62 => (b_ret (X.as (x_tup (xa_p (x_var (d := eI a1.1) 2 rfl) (fun _ => puI _) (fun x63 => (xa_v (x_prim (xa_v (x_sl (x_var (d := (eT (eP eI eI)) a1.2.1) 3 rfl) (fun x64 => xpr_none) (fun x64 x65 => (xpr_some (x_var (d := eI x16.2.1.2.1) 6 rfl))) (fun _ _ _ => op_slT (puP puI puI) _ _ _)) (fun x67 => (xa_v (x_sl (x_var (d := (eT (eP eI eI)) a1.2.1) 3 rfl) (fun x70 => (xpr_some (x_primT (xa_p (x_var (d := eI x16.2.1.2.1) 6 rfl) (fun _ => puI _) (fun x73 => (xa_v (x_c (eI 1)) (fun x74 => xa_nil)))) (fun _ => op_add _ _)))) (fun x70 x71 => xpr_none) (fun _ _ _ => op_slT (puP puI puI) _ _ _)) (fun x75 => xa_nil)))) (fun _ _ h => op_catT (puP puI puI) h)) (fun x77 => (xa_p (x_var (d := (eT eI) a1.2.2) 4 rfl) (fun _ => (puT puI) _) (fun x78 => xa_nil)))))) rfl (by decide)) (fun x79 => (eQ eI (eT (eP eI eI)) (eT eI)) (a1.1, x79.2.1.2, a1.2.2)) rfl) (fun x80 => ((a1.1, x80.2.1.2, a1.2.2), x16.2.2.1.2.2)) (.inl rfl) (fun x80 => qf_ret rfl (by repeat (first | exact wk_nil | apply wk_a | apply wk_s))))) (fun x62 => (b_skip (b_if (xt_tst (x_primT (xa_p (x_var (d := eI x16.1.2.1) 5 rfl) (fun _ => puI _) (fun x81 => (xa_v (x_c (eI 2)) (fun x82 => xa_nil)))) (fun _ => op_eq eqI (by decide) _ _))) (fun x83 => (b_ret (X.as (x_tup (xa_p (x_var (d := eI a1.1) 2 rfl) (fun _ => puI _) (fun x84 => (xa_v (x_prim (xa_v (x_prim (xa_v (x_sl (x_var (d := (eT (eP eI eI)) a1.2.1) 3 rfl) (fun x85 => xpr_none) (fun x85 x86 => (xpr_some (x_var (d := eI x16.2.1.2.1) 6 rfl))) (fun _ _ _ => op_slT (puP puI puI) _ _ _)) (fun x88 => (xa_p (x_var (d := (eT (eP eI eI)) x23) 8 rfl) (fun _ => (puT (puP puI puI)) _) (fun x89 => xa_nil)))) (fun _ _ h => op_catT (puP puI puI) h)) (fun x91 => (xa_v (x_sl (x_var (d := (eT (eP eI eI)) a1.2.1) 3 rfl) (fun x92 => (xpr_some (x_var (d := eI x16.2.1.2.1) 6 rfl))) (fun x92 x93 => xpr_none) (fun _ _ _ => op_slT (puP puI puI) _ _ _)) (fun x95 => xa_nil)))) (fun _ _ h => op_catT (puP puI puI) h)) (fun x97 => (xa_p (x_var (d := (eT eI) a1.2.2) 4 rfl) (fun _ => (puT puI) _) (fun x98 => xa_nil)))))) rfl (by decide)) (fun x99 => (eQ eI (eT (eP eI eI)) (eT eI)) (a1.1, x99.2.1.2, a1.2.2)) rfl) (fun x100 => ((a1.1, x100.2.1.2, a1.2.2), x16.2.2.1.2.2)) (.inl rfl) (fun x100 => qf_ret rfl (by repeat (first | exact wk_nil | apply wk_a | apply wk_s))))) (fun x83 => (b_skip (b_if (xt_tst (x_primT (xa_p (x_var (d := eI x16.1.2.1) 5 rfl) (fun _ => puI _) (fun x101 => (xa_v (x_c (eI 3)) (fun x102 => xa_nil)))) (fun _ => op_eq eqI (by decide) _ _))) (fun x103 => (b_ret (X.as (x_tup (xa_p (x_var (d := eI a1.1) 2 rfl) (fun _ => puI _) (fun x104 => (xa_v (x_prim (xa_v (x_prim (xa_v (x_prim (xa_v (x_sl (x_var (d := (eT (eP eI eI)) a1.2.1) 3 rfl) (fun x105 => xpr_none) (fun x105 x106 => (xpr_some (x_var (d := eI x16.2.1.2.1) 6 rfl))) (fun _ _ _ => op_slT (puP puI puI) _ _ _)) (fun x108 => (xa_v (x_sl (x_var (d := (eT (eP eI eI)) a1.2.1) 3 rfl) (fun x109 => (xpr_some (x_primT (xa_p (x_var (d := eI x16.2.1.2.1) 6 rfl) (fun _ => puI _) (fun x112 => (xa_v (x_c (eI 1)) (fun x113 => xa_nil)))) (fun _ => op_add _ _)))) (fun x109 x110 => (xpr_some (x_primT (xa_p (x_var (d := eI x16.2.1.2.1) 6 rfl) (fun _ => puI _) (fun x114 => (xa_v (x_c (eI 2)) (fun x115 => xa_nil)))) (fun _ => op_add _ _)))) (fun _ _ _ => op_slT (puP puI puI) _ _ _)) (fun x116 => xa_nil)))) (fun _ _ h => op_catT (puP puI puI) h)) (fun x118 => (xa_p (x_var (d := (eT (eP eI eI)) x23) 8 rfl) (fun _ => (puT (puP puI puI)) _) (fun x119 => xa_nil)))) (fun _ _ h => op_catT (puP puI puI) h)) (fun x121 => (xa_v (x_sl (x_var (d := (eT (eP eI eI)) a1.2.1) 3 rfl) (fun x124 => (xpr_some (x_primT (xa_p (x_var (d := eI x16.2.1.2.1) 6 rfl) (fun _ => puI _) (fun x127 => (xa_v (x_c (eI 2)) (fun x128 => xa_nil)))) (fun _ => op_add _ _)))) (fun x124 x125 => xpr_none) (fun _ _ _ => op_slT (puP puI puI) _ _ _)) (fun x129 => xa_nil)))) (fun _ _ h => op_catT (puP puI puI) h)) (fun x131 => (xa_p (x_var (d := (eT eI) a1.2.2) 4 rfl) (fun _ => (puT puI) _) (fun x132 => xa_nil)))))) rfl (by decide)) (fun x133 => (eQ eI (eT (eP eI eI)) (eT eI)) (a1.1, x133.2.1.2, a1.2.2)) rfl) (fun x134 => ((a1.1, x134.2.1.2, a1.2.2), x16.2.2.1.2.2)) (.inl rfl) (fun x134 => qf_ret rfl (by repeat (first | exact wk_nil | apply wk_a | apply wk_s))))) (fun x103 => (b_skip (b_set (x_primT (xa_p (x_var (d := (eT eI) a1.2.2) 4 rfl) (fun _ => (puT puI) _) (fun x135 => xa_nil)) (fun _ => op_lstT puI _)) (.inl rfl) (fun x136 => (b_setIx2 (e1 := eI) (e2 := eI) (xa_v (x_prim (xa_p (x_var (d := (eT eI) a1.2.2) 4 rfl) (fun _ => (puT puI) _) (fun x137 => (xa_p (x_var (d := eI x16.2.2.1.2.1) 7 rfl) (fun _ => puI _) (fun x138 => xa_nil)))) (fun _ _ h => op_ixT puI h)) (fun x140 => (xa_v (x_prim (xa_p (x_var (d := (eT eI) a1.2.2) 4 rfl) (fun _ => (puT puI) _) (fun x141 => (xa_v (x_c (eI 0)) (fun x142 => xa_nil)))) (fun _ _ h => op_ixT puI h)) (fun x144 => xa_nil)))) rfl puI puI (fun x145 => (x_c (eI 0))) (fun _ => rfl) (fun x145 x147 => (x_var (d := eI x16.2.2.1.2.1) 7 rfl)) (fun _ _ => rfl) (fun x145 x146 x147 x148 x149 => (b_last (b_ret (X.as (x_tup (xa_p (x_var (d := eI a1.1) 2 rfl) (fun _ => puI _) (fun x152 => (xa_p (x_var (d := (eT (eP eI eI)) a1.2.1) 3 rfl) (fun _ => (puT (puP puI puI)) _) (fun x153 => (xa_v (x_primT (xa_s 11 rfl xa_nil (fun _ => rfl) (fun _ => puL)) (fun _ => op_tupL puI _)) (fun x154 => xa_nil)))))) rfl (by decide)) (fun x155 => (eQ eI (eT (eP eI eI)) (eT eI)) (a1.1, a1.2.1, x149)) rfl) (fun x156 => ((a1.1, a1.2.1, x149), x16.2.2.1.2.2)) (.inl rfl) (fun x156 => qf_ret rfl (by repeat (first | exact wk_nil | apply wk_a | apply wk_s))))))))))))))))))))))))))) (by dsimp only [p__law_changed])) rfl (by simp [okM]) (fun z => (coll_0P rfl (coll_0P rfl coll_nilP)))
theorem tok__law_net (n : Nat) (a0 : (List Int)) : ∀ z, p__law_net n a0 = some z → f__law_net n [(eL eI) a0] = .ok ((eQ eI (eT (eP eI eI)) (eT eI)) z.1) [(eL eI) z.2] :=
  fn_t (p0 := [some ((eL eI) a0), none, none, none]) (m := p__law_net n a0) (rv := fun (z : ((Int × (List (Int × Int)) × (List Int)) × (List Int))) => (eQ eI (eT (eP eI eI)) (eT eI)) z.1) (q := fun (z : ((Int × (List (Int × Int)) × (List Int)) × (List Int))) => [some ((eL eI) z.2), none, none, none]) (outs := fun z => [(eL eI) z.2]) (B.cv (b_set (x_call (xa_s 0 rfl (xa_v (x_c (eI 4)) (fun x2 => xa_nil)) (fun _ => rfl) (fun _ => puL)) rfl (fun _ _ h => tok__law_pick  _ _ _ h) (fun _ _ => rfl) (fun _ (zz : Int × (List Int)) => [(0, (eL eI) zz.2)]) (fun _ _ => rfl)) (.inl rfl) (fun x4 => (b_if (xt_tst (x_primT (xa_p (x_var (d := eI x4.2.1) 1 rfl) (fun _ => puI _) (fun x5 => (xa_v (x_c (eI 0)) (fun x6 => xa_nil)))) (fun _ => op_eq eqI (by decide) _ _))) (fun x7 => (b_ret (x_call (xa_s 0 rfl xa_nil (fun _ => rfl) (fun _ => puL)) rfl (fun _ _ h => tok__law_any n _ _ h) (fun _ _ => rfl) (fun _ (zz : (Int × (List (Int × Int)) × (List Int)) × (List Int)) => [(0, (eL eI) zz.2)]) (fun _ _ => rfl)) (fun x9 => (x9.2.1, x9.2.2)) (.inl rfl) (fun x9 => qf_ret rfl (by repeat (first | exact wk_nil | apply wk_a | apply wk_s))))) (fun x7 => (b_skip (b_set (x_callP (xa_v (x_call (xa_s 0 rfl (xa_v (x_c (eI 3)) (fun x10 => xa_nil)) (fun _ => rfl) (fun _ => puL)) rfl (fun _ _ h => tok__law_pick  _ _ _ h) (fun _ _ => rfl) (fun _ (zz : Int × (List Int)) => [(0, (eL eI) zz.2)]) (fun _ _ => rfl)) (fun x12 => (xa_v (x_prim (xa_v (X.as (x_lst (xa_v (x_c (eI 1)) (fun x13 => (xa_v (x_c (eI 2)) (fun x14 => (xa_v (x_c (eI 2)) (fun x15 => (xa_v (x_c (eI 0)) (fun x16 => xa_nil)))))))) rfl (by decide)) (fun x17 => (eL eI) [(1 : Int), (2 : Int), (2 : Int), (0 : Int)]) rfl) (fun x18 => (xa_v (x_call (xa_s 0 rfl (xa_v (x_c (eI 4)) (fun x19 => xa_nil)) (fun _ => rfl) (fun _ => puL)) rfl (fun _ _ h => tok__law_pick  _ _ _ h) (fun _ _ => rfl) (fun _ (zz : Int × (List Int)) => [(0, (eL eI) zz.2)]) (fun _ _ => rfl)) (fun x21 => xa_nil)))) (fun _ _ h => op_ixL puI h)) (fun x23 => xa_nil)))) rfl (fun _ _ h => tok__law_made n _ _ _ h)) (.inl rfl) (fun x25 => (b_for (xi_mkP (xa_v (x_prim (xa_v (x_prim (xa_v (X.as (x_lst (xa_v (x_c (eI 0)) (fun x26 => (xa_v (x_c (eI 1)) (fun x27 => (xa_v (x_c (eI 1)) (fun x28 => (xa_v (x_c (eI 2)) (fun x29 => xa_nil)))))))) rfl (by decide)) (fun x30 => (eL eI) [(0 : Int), (1 : Int), (1 : Int), (2 : Int)]) rfl) (fun x31 => (xa_p (x_var (d := eI x4.2.1) 1 rfl) (fun _ => puI _) (fun x32 => xa_nil)))) (fun _ _ h => op_ixL puI h)) (fun x34 => (xa_v (x_call (xa_s 0 rfl (xa_v (x_c (eI 2)) (fun x35 => xa_nil)) (fun _ => rfl) (fun _ => puL)) rfl (fun _ _ h => tok__law_pick  _ _ _ h) (fun _ _ => rfl) (fun _ (zz : Int × (List Int)) => [(0, (eL eI) zz.2)]) (fun _ _ => rfl)) (fun x37 => xa_nil)))) (fun _ _ h => op_mul h)) (fun x39 => xa_nil)) rfl puI (fun _ _ h => it_r1 h)) (fun x41 (x42 : ((List Int) × (Int × (List (Int × Int)) × (List Int)))) => [some ((eL eI) x42.1), some (eI x4.2.1), some ((eQ eI (eT (eP eI eI)) (eT eI)) x42.2), none]) (fun x41 => (x41.1.1.1.2.1.2.2, x25.2)) (fun _ => rfl) (fun x41 => by repeat (first | exact wk_nil | apply wk_a | apply wk_s)) (fun x41 x42 x43 => as_nm) (fun x41 x42 x43 => (b_last (b_set (x_call (xa_s 0 rfl (xa_p (x_var (d := (eQ eI (eT (eP eI eI)) (eT eI)) x42.2) 2 rfl) (fun _ => (puQ puI (puT (puP puI puI)) (puT puI)) _) (fun x46 => xa_nil)) (fun _ => rfl) (fun _ => puL)) rfl (fun _ _ h => tok__law_changed  _ _ _ h) (fun _ _ => rfl) (fun _ (zz : (Int × (List (Int × Int)) × (List Int)) × (List Int)) => [(0, (eL eI) zz.2)]) (fun _ _ => rfl)) (.inl rfl) (fun x48 => (b_endC (z := (x48.2.2, x48.2.1)) (by repeat (first | exact wk_nil | apply wk_a | apply wk_s))))))) (fun x41 x42 => (b_last (b_ret (x_var (d := (eQ eI (eT (eP eI eI)) (eT eI)) x42.2) 2 rfl) (fun x49 => (x42.2, x42.1)) (.inr (fun _ => (puQ puI (puT (puP puI puI)) (puT puI)) _)) (fun x49 => qf_ret rfl (by repeat (first | exact wk_nil | apply wk_a | apply wk_s)))))))))))))) (by dsimp only [p__law_net])) rfl (by simp [okM]) (fun z => (coll_0P rfl coll_nilP))
theorem tok__law_some (a0 : (List Int)) (a1 : (Int × (List (Int × Int)) × (List Int))) : ∀ z, p__law_some a0 a1 = some z → f__law_some [(eL eI) a0, (eQ eI (eT (eP eI eI)) (eT eI)) a1] = .ok ((eT eI) z.1) [(eL eI) z.2, (eQ eI (eT (eP eI eI)) (eT eI)) a1] :=
  fn_t (p0 := [some ((eL eI) a0), some ((eQ eI (eT (eP eI eI)) (eT eI)) a1), none, none]) (m := p__law_some a0 a1) (rv := fun (z : ((List Int) × (List Int))) => (eT eI) z.1) (q := fun (z : ((List Int) × (List Int))) => [some ((eL eI) z.2), some ((eQ eI (eT (eP eI eI)) (eT eI)) a1), none, none]) (outs := fun z => [(eL eI) z.2, (eQ eI (eT (eP eI eI)) (eT eI)) a1]) (B.cv (b_set (x_compS (ee := eI) (xi_mkP (xa_v (x_primT (xa_p (x_var (d := (eQ eI (eT (eP eI eI)) (eT eI)) a1) 1 rfl) (fun _ => (puQ puI (puT (puP puI puI)) (puT puI)) _) (fun x3 => (xa_v (x_c (eI 0)) (fun x4 => xa_nil)))) (fun _ => op_ixQ0 puI _)) (fun x5 => xa_nil)) rfl puI (fun _ _ h => it_r1 h)) [] (fun x7 (x16 : ((List Int))) => [some ((eL eI) x16), some ((eQ eI (eT (eP eI eI)) (eT eI)) a1), none, none]) (fun x7 => a0) rfl (fun _ => rfl) (fun _ _ => rfl) (fun x7 => by repeat (first | exact wk_nil | apply wk_a | apply wk_s)) (fun x7 x16 x8 => as_nm) (fun x7 x16 x8 => (xt_tst (x_primT (xa_v (x_call (xa_s 0 rfl (xa_v (x_c (eI 2)) (fun x18 => xa_nil)) (fun _ => rfl) (fun _ => puL)) rfl (fun _ _ h => tok__law_pick  _ _ _ h) (fun _ _ => rfl) (fun _ (zz : Int × (List Int)) => [(0, (eL eI) zz.2)]) (fun _ _ => rfl)) (fun x20 => (xa_v (x_c (eI 0)) (fun x21 => xa_nil)))) (fun _ => op_eq eqI (by decide) _ _)))) (fun x7 x16 x8 x10 => (x_var (d := eI x8) 3 rfl)) (.inr puI) (fun x7 x16 x8 x10 x15 => x10.1.2.2) (fun x7 x16 x8 x10 => x10.1.2.2) (fun x7 x16 x8 x10 x15 => by repeat (first | exact wk_nil | apply wk_a | apply wk_s)) (fun x7 x16 x8 x10 => by repeat (first | exact wk_nil | apply wk_a | apply wk_s))) (.inl rfl) (fun x23 => (b_last (b_ret (x_prim (xa_v (X.as (x_lst (xa_v (x_prim (xa_v (x_primT (xa_p (x_var (d := (eQ eI (eT (eP eI eI)) (eT eI)) a1) 1 rfl) (fun _ => (puQ puI (puT (puP puI puI)) (puT puI)) _) (fun x24 => (xa_v (x_c (eI 0)) (fun x25 => xa_nil)))) (fun _ => op_ixQ0 puI _)) (fun x26 => xa_nil)) (fun _ _ h => op_trg1 h)) (fun x28 => (xa_v (x_ifM2 (σ := ((List Int))) (eT eI) (xt_tst (x_primT (xa_s 2 rfl (xa_v (X.as (x_lst xa_nil rfl (by decide)) (fun x29 => (eL eI) ([] : (List Int))) rfl) (fun x30 => xa_nil)) (fun _ => rfl) (fun _ => puL)) (fun _ => op_ne (eqL eqI) (by decide) _ _))) (fun x31 => (x_primT (xa_s 2 rfl xa_nil (fun _ => rfl) (fun _ => puL)) (fun _ => op_tupL puI _))) (fun x31 => (X.as (x_tup (xa_v (x_call (xa_s 0 rfl (xa_v (x_primT (xa_p (x_var (d := (eQ eI (eT (eP eI eI)) (eT eI)) a1) 1 rfl) (fun _ => (puQ puI (puT (puP puI puI)) (puT puI)) _) (fun x32 => (xa_v (x_c (eI 0)) (fun x33 => xa_nil)))) (fun _ => op_ixQ0 puI _)) (fun x34 => xa_nil)) (fun _ => rfl) (fun _ => puL)) rfl (fun _ _ h => tok__law_pick  _ _ _ h) (fun _ _ => rfl) (fun _ (zz : Int × (List Int)) => [(0, (eL eI) zz.2)]) (fun _ _ => rfl)) (fun x36 => xa_nil)) rfl (by decide)) (fun x37 => (eT eI) [x37.1.2.1]) rfl)) (fun x31 x38 => x23.2.2) (fun x31 x39 => x39.1.2.2) (fun x31 x40 => [some ((eL eI) x40), some ((eQ eI (eT (eP eI eI)) (eT eI)) a1), some ((eL eI) x23.2.1), none]) (fun x31 x38 => by repeat (first | exact wk_nil | apply wk_a | apply wk_s)) (fun x31 x39 => by repeat (first | exact wk_nil | apply wk_a | apply wk_s))) (fun x43 => xa_nil)))) rfl (by decide)) (fun x44 => (eL (eT eI)) [x44.1.2, x44.2.1.2.1]) rfl) (fun x45 => (xa_v (x_call (xa_s 0 rfl (xa_v (x_c (eI 2)) (fun x46 => xa_nil)) (fun _ => rfl) (fun _ => puL)) rfl (fun _ _ h => tok__law_pick  _ _ _ h) (fun _ _ => rfl) (fun _ (zz : Int × (List Int)) => [(0, (eL eI) zz.2)]) (fun _ _ => rfl)) (fun x48 => xa_nil)))) (fun _ _ h => op_ixL (puT puI) h)) (fun x50 => (x50.2, x50.1.2.1.2.2)) (.inl rfl) (fun x50 => qf_ret rfl (by repeat (first | exact wk_nil | apply wk_a | apply wk_s))))))) (by dsimp only [p__law_some])) rfl (by simp [okM]) (fun z => (coll_0P rfl (coll_0P rfl coll_nilP)))
theorem tok__law_passed (a0 : (Int × (List (Int × Int)) × (List Int))) (a1 : (List Int)) (a2 : Int) : ∀ z, p__law_passed a0 a1 a2 = some z → f__law_passed [(eQ eI (eT (eP eI eI)) (eT eI)) a0, (eT eI) a1, eI a2] = .ok ((eP (eT eI) eI) z) [(eQ eI (eT (eP eI eI)) (eT eI)) a0, (eT eI) a1, eI a2] :=
  fn_t (p0 := [some ((eQ eI (eT (eP eI eI)) (eT eI)) a0), some ((eT eI) a1), some (eI a2), none, none, none]) (m := p__law_passed a0 a1 a2) (rv := fun (z : ((List Int) × Int)) => (eP (eT eI) eI) z) (q := fun (z : ((List Int) × Int)) => [some ((eQ eI (eT (eP eI eI)) (eT eI)) a0), some ((eT eI) a1), none, none, none, none]) (outs := fun z => [(eQ eI (eT (eP eI eI)) (eT eI)) a0, (eT eI) a1, eI a2]) (B.cv (b_set (x_primT (xa_p (x_var (d := (eT eI) a1) 1 rfl) (fun _ => (puT puI) _) (fun x4 => xa_nil)) (fun _ => op_lstT puI _)) (.inl rfl) (fun x5 => (b_for (xi_mk (xa_v (x_primT (xa_p (x_var (d := (eQ eI (eT (eP eI eI)) (eT eI)) a0) 0 rfl) (fun _ => (puQ puI (puT (puP puI puI)) (puT puI)) _) (fun x6 => (xa_v (x_c (eI 1)) (fun x7 => xa_nil)))) (fun _ => op_ixQ1 (puT (puP puI puI)) _)) (fun x8 => xa_nil)) rfl (puP puI (puP puI puI)) (fun _ => it_eT _)) (fun x9 (x10 : (Int × (List Int))) => [some ((eQ eI (eT (eP eI eI)) (eT eI)) a0), some ((eT eI) a1), some (eI x10.1), some ((eL eI) x10.2), none, none]) (fun x9 => (a2, a1)) (fun _ => rfl) (fun x9 => by repeat (first | exact wk_nil | apply wk_a | apply wk_s)) (fun x9 x10 x11 => (as_tp (ass_cons as_nm (ass_cons as_nm ass_nil)))) (fun x9 x10 x11 => (b_last (b_if (xt_tst (x_primT (xa_p (x_var (d := eI x10.1) 2 rfl) (fun _ => puI _) (fun x14 => (xa_p (x_var (d := (eP eI eI) x11.2) 5 rfl) (fun _ => (puP puI puI) _) (fun x15 => xa_nil)))) (fun _ => op_inP _ _))) (fun x16 => (b_asc (b_set (x_prim (xa_p (x_var (d := (eP eI eI) x11.2) 5 rfl) (fun _ => (puP puI puI) _) (fun x17 => (xa_v (x_prim (xa_s 3 rfl (xa_p (x_var (d := eI x11.1) 4 rfl) (fun _ => puI _) (fun x18 => xa_nil)) (fun _ => rfl) (fun _ => puL)) (fun _ _ h => op_ixL puI h)) (fun x20 => xa_nil)))) (fun _ _ h => op_ixPd puI h)) (.inl rfl) (fun x22 => (b_setIx (e1 := eI) (x_primT (xa_v (x_c (eI 1)) (fun x23 => (xa_v (x_prim (xa_s 3 rfl (xa_p (x_var (d := eI x11.1) 4 rfl) (fun _ => puI _) (fun x24 => xa_nil)) (fun _ => rfl) (fun _ => puL)) (fun _ _ h => op_ixL puI h)) (fun x26 => xa_nil)))) (fun _ => op_sub' _ _)) puI (fun _ => ⟨_, rfl⟩) (fun x27 => (x_var (d := eI x11.1) 4 rfl)) (fun _ _ => .inl rfl) (fun _ _ => rfl) (fun x27 x28 x29 => (b_endC (z := (x22.2, x29)) (by repeat (first | exact wk_nil | apply wk_a | apply wk_s))))))))) (fun x16 => (b_skip (b_endC (z := (x10.1, x10.2)) (by repeat (first | exact wk_nil | apply wk_a | apply wk_s)))))))) (fun x9 x10 => (b_last (b_ret (X.as (x_tup (xa_v (x_primT (xa_s 3 rfl xa_nil (fun _ => rfl) (fun _ => puL)) (fun _ => op_tupL puI _)) (fun x31 => (xa_v (x_idx (x_primT (xa_p (x_var (d := (eQ eI (eT (eP eI eI)) (eT eI)) a0) 0 rfl) (fun _ => (puQ puI (puT (puP puI puI)) (puT puI)) _) (fun x32 => (xa_v (x_c (eI 2)) (fun x33 => xa_nil)))) (fun _ => op_ixQ2 (puT puI) _)) (fun _ => rfl) (fun x34 => (x_var (d := eI x10.1) 2 rfl)) (fun _ _ _ h => op_idx h)) (fun x36 => xa_nil)))) rfl (by decide)) (fun x37 => (eP (eT eI) eI) (x10.2, x37.2.1.2.2)) rfl) (fun x38 => (x10.2, x38.2.1.2.2)) (.inl rfl) (fun x38 => qf_ret rfl (by repeat (first | exact wk_nil | apply wk_a | apply wk_s))))))))) (by dsimp only [p__law_passed])) rfl (by simp [okM, (puI _)]) (fun z => (coll_0P rfl (coll_0P rfl (coll_1P coll_nilP))))
theorem tok__law_ends (a0 : (Int × (List (Int × Int)) × (List Int))) (a1 : (List Int)) : ∀ z, p__law_ends a0 a1 = some z → f__law_ends [(eQ eI (eT (eP eI eI)) (eT eI)) a0, (eT eI) a1] = .ok ((eT eI) z) [(eQ eI (eT (eP eI eI)) (eT eI)) a0, (eT eI) a1] :=
  fn_t (p0 := [some ((eQ eI (eT (eP eI eI)) (eT eI)) a0), some ((eT eI) a1), none, none, none, none, none]) (m := p__law_ends a0 a1) (rv := fun (z : (List Int)) => (eT eI) z) (q := fun (z : (List Int)) => [some ((eQ eI (eT (eP eI eI)) (eT eI)) a0), some ((eT eI) a1), none, none, none, none, none]) (outs := fun z => [(eQ eI (eT (eP eI eI)) (eT eI)) a0, (eT eI) a1]) (B.cv (b_set (x_primT (xa_p (x_var (d := (eT eI) a1) 1 rfl) (fun _ => (puT puI) _) (fun x3 => xa_nil)) (fun _ => op_lstT puI _)) (.inl rfl) (fun x4 => (b_for (xi_mk (xa_v (x_primT (xa_p (x_var (d := (eQ eI (eT (eP eI eI)) (eT eI)) a0) 0 rfl) (fun _ => (puQ puI (puT (puP puI puI)) (puT puI)) _) (fun x5 => (xa_v (x_c (eI 1)) (fun x6 => xa_nil)))) (fun _ => op_ixQ1 (puT (puP puI puI)) _)) (fun x7 => xa_nil)) rfl (puP puI puI) (fun _ => it_T _)) (fun x8 (x9 : ((List Int))) => [some ((eQ eI (eT (eP eI eI)) (eT eI)) a0), some ((eT eI) a1), some ((eL eI) x9), none, none, none, none]) (fun x8 => a1) (fun _ => rfl) (fun x8 => by repeat (first | exact wk_nil | apply wk_a | apply wk_s)) (fun x8 x9 x10 => (as_tp (ass_cons as_nm (ass_cons as_nm ass_nil)))) (fun x8 x9 x10 => (b_setL eI (x_primT (xa_v (x_prim (xa_s 2 rfl (xa_p (x_var (d := eI x10.1) 3 rfl) (fun _ => puI _) (fun x13 => xa_nil)) (fun _ => rfl) (fun _ => puL)) (fun _ _ h => op_ixL puI h)) (fun x15 => (xa_v (x_prim (xa_s 2 rfl (xa_p (x_var (d := eI x10.2) 4 rfl) (fun _ => puI _) (fun x16 => xa_nil)) (fun _ => rfl) (fun _ => puL)) (fun _ _ h => op_ixL puI h)) (fun x18 => xa_nil)))) (fun _ => op_add _ _)) (.inl rfl) (fun x19 x20 => (b_setIx (e1 := eI) (x_primT (xa_p (x_var (d := eI x20) 5 rfl) (fun _ => puI _) (fun x22 => (xa_v (x_primT (xa_p (x_var (d := eI x20) 5 rfl) (fun _ => puI _) (fun x23 => (xa_v (x_c (eI 2)) (fun x24 => xa_nil)))) (fun _ => op_divC (by decide +kernel))) (fun x25 => xa_nil)))) (fun _ => op_sub' _ _)) puI (fun _ => ⟨_, rfl⟩) (fun x26 => (x_var (d := eI x10.1) 3 rfl)) (fun _ _ => .inl rfl) (fun _ _ => rfl) (fun x26 x27 x28 => (b_last (b_setIx (e1 := eI) (x_primT (xa_p (x_var (d := eI x20) 5 rfl) (fun _ => puI _) (fun x30 => (xa_v (x_c (eI 2)) (fun x31 => xa_nil)))) (fun _ => op_divC (by decide +kernel))) puI (fun _ => ⟨_, rfl⟩) (fun x32 => (x_var (d := eI x10.2) 4 rfl)) (fun _ _ => .inl rfl) (fun _ _ => rfl) (fun x32 x33 x34 => (b_endC (z := x34) (by repeat (first | exact wk_nil | apply wk_a | apply wk_s))))))))))) (fun x8 x9 => (b_last (b_ret (x_primT (xa_v (x_mapP (ee := eI) (xi_mk (xa_v (x_primT (xa_p (x_var (d := (eQ eI (eT (eP eI eI)) (eT eI)) a0) 0 rfl) (fun _ => (puQ puI (puT (puP puI puI)) (puT puI)) _) (fun x36 => (xa_v (x_c (eI 2)) (fun x37 => xa_nil)))) (fun _ => op_ixQ2 (puT puI) _)) (fun x38 => xa_nil)) rfl puI (fun _ => it_T _)) rfl (fun x39 x40 => as_nm) (fun x39 x40 => (x_prim (xa_s 2 rfl (xa_p (x_var (d := eI x40) 6 rfl) (fun _ => puI _) (fun x43 => xa_nil)) (fun _ => rfl) (fun _ => puL)) (fun _ _ h => op_ixL puI h))) (.inl rfl) (fun x39 x40 => ((atI x9 x40)).bind fun t44 => some t44) (fun _ _ => by repeat (first | exact wk_nil | apply wk_a | apply wk_s)) (by intro x y z h; simp only [] at h ⊢; repeat (first | (obtain ⟨hl, h⟩ := lim_inv h; simp only [lim_of hl]) | (obtain ⟨_, h1, h⟩ := Option.bind_eq_some_iff.mp h; simp only [h1, Option.bind_some] at h ⊢) | (cases h; rfl)))) (fun x47 => xa_nil)) (fun _ => op_tupL puI _)) (fun x48 => x48.1.2.1) (.inl rfl) (fun x48 => qf_ret rfl (by repeat (first | exact wk_nil | apply wk_a | apply wk_s))))))))) (by dsimp only [p__law_ends])) rfl (by simp [okM]) (fun z => (coll_0P rfl (coll_0P rfl coll_nilP)))
theorem tok__law_more (a0 : (List Int)) (a1 : Int) : ∀ z, p__law_more a0 a1 = some z → f__law_more [(eT eI) a0, eI a1] = .ok ((eT eI) z) [(eT eI) a0, eI a1] :=
  fn_t (p0 := [some ((eT eI) a0), some (eI a1)]) (m := p__law_more a0 a1) (rv := fun (z : (List Int)) => (eT eI) z) (q := fun (z : (List Int)) => [some ((eT eI) a0), some (eI a1)]) (outs := fun z => [(eT eI) a0, eI a1]) (B.cv (b_last (b_ret (x_prim (xa_v (x_prim (xa_v (x_sl (x_var (d := (eT eI) a0) 0 rfl) (fun x3 => xpr_none) (fun x3 x4 => (xpr_some (x_var (d := eI a1) 1 rfl))) (fun _ _ _ => op_slT puI _ _ _)) (fun x6 => (xa_v (X.as (x_tup (xa_v (x_primT (xa_v (x_prim (xa_p (x_var (d := (eT eI) a0) 0 rfl) (fun _ => (puT puI) _) (fun x7 => (xa_p (x_var (d := eI a1) 1 rfl) (fun _ => puI _) (fun x8 => xa_nil)))) (fun _ _ h => op_ixT puI h)) (fun x10 => (xa_v (x_c (eI 1)) (fun x11 => xa_nil)))) (fun _ => op_add _ _)) (fun x12 => xa_nil)) rfl (by decide)) (fun x13 => (eT eI) [(x13.1.1.2 + (1 : Int))]) rfl) (fun x14 => xa_nil)))) (fun _ _ h => op_catT puI h)) (fun x16 => (xa_v (x_sl (x_var (d := (eT eI) a0) 0 rfl) (fun x19 => (xpr_some (x_primT (xa_p (x_var (d := eI a1) 1 rfl) (fun _ => puI _) (fun x22 => (xa_v (x_c (eI 1)) (fun x23 => xa_nil)))) (fun _ => op_add _ _)))) (fun x19 x20 => xpr_none) (fun _ _ _ => op_slT puI _ _ _)) (fun x24 => xa_nil)))) (fun _ _ h => op_catT puI h)) (fun x26 => x26.2) (.inl rfl) (fun x26 => qf_ret rfl (by repeat (first | exact wk_nil | apply wk_a | apply wk_s))))) (by dsimp only [p__law_more])) rfl (by simp [okM]) (fun z => (coll_0P rfl (coll_0P rfl coll_nilP)))
theorem tok__law_even (a0 : (Int × (List (Int × Int)) × (List Int))) (a1 : (List Int)) : ∀ z, p__law_even a0 a1 = some z → f__law_even [(eQ eI (eT (eP eI eI)) (eT eI)) a0, (eT eI) a1] = .ok (eB z) [(eQ eI (eT (eP eI eI)) (eT eI)) a0, (eT eI) a1] :=
  fn_t (p0 := [some ((eQ eI (eT (eP eI eI)) (eT eI)) a0), some ((eT eI) a1), none, none, none]) (m := p__law_even a0 a1) (rv := fun (z : Bool) => eB z) (q := fun (z : Bool) => [some ((eQ eI (eT (eP eI eI)) (eT eI)) a0), some ((eT eI) a1), none, none, none]) (outs := fun z => [(eQ eI (eT (eP eI eI)) (eT eI)) a0, (eT eI) a1]) (B.cv (b_forR (xi_mk (xa_p (x_var (d := (eT eI) a1) 1 rfl) (fun _ => (puT puI) _) (fun x3 => xa_nil)) rfl puI (fun _ => it_T _)) (fun x4 (x5 : Unit) => [some ((eQ eI (eT (eP eI eI)) (eT eI)) a0), some ((eT eI) a1), none, none, none]) (fun x4 => ()) (fun (z : Bool) => eB z) (fun x4 x38 => [some ((eQ eI (eT (eP eI eI)) (eT eI)) a0), some ((eT eI) a1), none, none, none]) (fun z => z) (fun _ => rfl) (fun x4 => by repeat (first | exact wk_nil | apply wk_a | apply wk_s)) (fun x4 x5 x6 => as_nm) (fun x4 x5 x6 => (b_set (x_primT (xa_v (x_mapT (ee := eI) (xi_mkP (xa_v (x_primT (xa_p (x_var (d := (eQ eI (eT (eP eI eI)) (eT eI)) a0) 0 rfl) (fun _ => (puQ puI (puT (puP puI puI)) (puT puI)) _) (fun x9 => (xa_v (x_c (eI 0)) (fun x10 => xa_nil)))) (fun _ => op_ixQ0 puI _)) (fun x11 => xa_nil)) rfl puI (fun _ _ h => it_r1 h)) rfl (fun x13 x14 => as_nm) (fun x13 x14 => (x_primT (xa_v (x_primT (xa_v (x_c (eI 2)) (fun x17 => (xa_v (x_c (eI 60)) (fun x18 => xa_nil)))) (fun _ => op_powC (c := 1152921504606846976) (by decide +kernel) (by decide +kernel))) (fun x19 => (xa_v (x_primT (xa_v (x_primT (xa_p (x_var (d := eI x14) 4 rfl) (fun _ => puI _) (fun x20 => (xa_p (x_var (d := eI x6) 2 rfl) (fun _ => puI _) (fun x21 => xa_nil)))) (fun _ => op_eq eqI (by decide) _ _)) (fun x22 => xa_nil)) (fun _ => op_intB _)) (fun x23 => xa_nil)))) (fun _ => op_mulL (by decide +kernel)))) (.inl rfl) (fun _ _ => by repeat (first | exact wk_nil | apply wk_a | apply wk_s))) (fun x26 => xa_nil)) (fun _ => op_tupL puI _)) (.inl rfl) (fun x27 => (b_last (b_if (xt_tst (x_primT (xa_v (x_prim (xa_v (x_callP (xa_p (x_var (d := (eQ eI (eT (eP eI eI)) (eT eI)) a0) 0 rfl) (fun _ => (puQ puI (puT (puP puI puI)) (puT puI)) _) (fun x28 => (xa_p (x_var (d := (eT eI) x27.1.2.1) 3 rfl) (fun _ => (puT puI) _) (fun x29 => xa_nil)))) rfl (fun _ _ h => tok__law_ends  _ _ _ h)) (fun x31 => xa_nil)) (fun _ _ h => op_lenSet h)) (fun x33 => (xa_v (x_c (eI 1)) (fun x34 => xa_nil)))) (fun _ => op_gt' _ _))) (fun x35 => (b_ret (x_c (eB false)) (fun x36 => (Lf.ret false)) (.inl rfl) (fun x36 => ql_ret rfl (by repeat (first | exact wk_nil | apply wk_a | apply wk_s))))) (fun x35 => (b_skip (b_endL (z := ()) (by repeat (first | exact wk_nil | apply wk_a | apply wk_s)))))))))) (fun x4 x38 => qf_ret rfl (by repeat (first | exact wk_nil | apply wk_a | apply wk_s))) (fun x4 x5 => (b_last (b_ret (x_c (eB true)) (fun x37 => true) (.inl rfl) (fun x37 => qf_ret rfl (by repeat (first | exact wk_nil | apply wk_a | apply wk_s))))))) (by dsimp only [p__law_even])) rfl (by simp [okM]) (fun z => (coll_0P rfl (coll_0P rfl coll_nilP)))
theorem tok__law_evened (n : Nat) (a0 : (List Int)) : ∀ z, p__law_evened n a0 = some z → f__law_evened n [(eL eI) a0] = .ok ((eQ eI (eT (eP eI eI)) (eT eI)) z.1) [(eL eI) z.2] :=
  fn_t (p0 := [some ((eL eI) a0), none, none, none, none, none, none, none]) (m := p__law_evened n a0) (rv := fun (z : ((Int × (List (Int × Int)) × (List Int)) × (List Int))) => (eQ eI (eT (eP eI eI)) (eT eI)) z.1) (q := fun (z : ((Int × (List (Int × Int)) × (List Int)) × (List Int))) => [some ((eL eI) z.2), none, none, none, none, none, none, none]) (outs := fun z => [(eL eI) z.2]) (B.cv (b_set (x_call (xa_s 0 rfl (xa_v (x_c (eI 8)) (fun x2 => xa_nil)) (fun _ => rfl) (fun _ => puL)) rfl (fun _ _ h => tok__law_pick  _ _ _ h) (fun _ _ => rfl) (fun _ (zz : Int × (List Int)) => [(0, (eL eI) zz.2)]) (fun _ _ => rfl)) (.inl rfl) (fun x4 => (b_if (xt_tst (x_primT (xa_p (x_var (d := eI x4.2.1) 1 rfl) (fun _ => puI _) (fun x5 => (xa_v (x_c (eI 0)) (fun x6 => xa_nil)))) (fun _ => op_eq eqI (by decide) _ _))) (fun x7 => (b_ret (x_call (xa_s 0 rfl xa_nil (fun _ => rfl) (fun _ => puL)) rfl (fun _ _ h => tok__law_net n _ _ h) (fun _ _ => rfl) (fun _ (zz : (Int × (List (Int × Int)) × (List Int)) × (List Int)) => [(0, (eL eI) zz.2)]) (fun _ _ => rfl)) (fun x9 => (x9.2.1, x9.2.2)) (.inl rfl) (fun x9 => qf_ret rfl (by repeat (first | exact wk_nil | apply wk_a | apply wk_s))))) (fun x7 => (b_skip (b_if (xt_tst (x_primT (xa_p (x_var (d := eI x4.2.1) 1 rfl) (fun _ => puI _) (fun x10 => (xa_v (x_c (eI 3)) (fun x11 => xa_nil)))) (fun _ => op_lt' _ _))) (fun x12 => (b_ret (x_callP (xa_v (x_prim (xa_v (X.as (x_lst (xa_v (x_c (eI 0)) (fun x13 => (xa_v (x_c (eI 2)) (fun x14 => xa_nil)))) rfl (by decide)) (fun x15 => (eL eI) [(0 : Int), (2 : Int)]) rfl) (fun x16 => (xa_v (x_call (xa_s 0 rfl (xa_v (x_c (eI 2)) (fun x17 => xa_nil)) (fun _ => rfl) (fun _ => puL)) rfl (fun _ _ h => tok__law_pick  _ _ _ h) (fun _ _ => rfl) (fun _ (zz : Int × (List Int)) => [(0, (eL eI) zz.2)]) (fun _ _ => rfl)) (fun x19 => xa_nil)))) (fun _ _ h => op_ixL puI h)) (fun x21 => (xa_v (x_call (xa_s 0 rfl (xa_v (x_c (eI 3)) (fun x22 => xa_nil)) (fun _ => rfl) (fun _ => puL)) rfl (fun _ _ h => tok__law_pick  _ _ _ h) (fun _ _ => rfl) (fun _ (zz : Int × (List Int)) => [(0, (eL eI) zz.2)]) (fun _ _ => rfl)) (fun x24 => xa_nil)))) rfl (fun _ _ h => tok__law_made n _ _ _ h)) (fun x26 => (x26.2, x26.1.2.1.2.2)) (.inl rfl) (fun x26 => qf_ret rfl (by repeat (first | exact wk_nil | apply wk_a | apply wk_s))))) (fun x12 => (b_skip (b_set (x_prim (xa_v (X.as (x_lst (xa_v (x_c (eI 2)) (fun x27 => (xa_v (x_c (eI 4)) (fun x28 => (xa_v (x_c (eI 4)) (fun x29 => (xa_v (x_c (eI 4)) (fun x30 => (xa_v (x_c (eI 8)) (fun x31 => xa_nil)))))))))) rfl (by decide)) (fun x32 => (eL eI) [(2 : Int), (4 : Int), (4 : Int), (4 : Int), (8 : Int)]) rfl) (fun x33 => (xa_v (x_call (xa_s 0 rfl (xa_v (x_c (eI 5)) (fun x34 => xa_nil)) (fun _ => rfl) (fun _ => puL)) rfl (fun _ _ h => tok__law_pick  _ _ _ h) (fun _ _ => rfl) (fun _ (zz : Int × (List Int)) => [(0, (eL eI) zz.2)]) (fun _ _ => rfl)) (fun x36 => xa_nil)))) (fun _ _ h => op_ixL puI h)) (.inl rfl) (fun x38 => (b_set (x_compU (ee := (eP eI eI)) (xi_mk (xa_v (x_callP (xa_v (X.as (x_frzF puI (x_prim (xa_p (x_var (d := eI x38.2) 2 rfl) (fun _ => puI _) (fun x39 => xa_nil)) (fun _ _ h => op_lrg1 h))) (fun x41 => (eF eI) x41.2) rfl) (fun x42 => xa_nil)) rfl (fun _ _ h => tok__law_block n _ _ h)) (fun x44 => xa_nil)) rfl (puP puI puI) (fun _ => it_L _)) [] (fun x45 (x64 : ((List Int))) => [some ((eL eI) x64), some (eI x4.2.1), some (eI x38.2), none, none, none, none, none]) (fun x45 => x38.1.2.1.2.2) rfl (fun _ => rfl) (fun _ _ => rfl) (fun x45 => by repeat (first | exact wk_nil | apply wk_a | apply wk_s)) (fun x45 x64 x46 => (as_tp (ass_cons as_nm (ass_cons as_nm ass_nil)))) (fun x45 x64 x46 => (x_prim (xa_v (X.as (x_lst (xa_v (X.as (x_tup (xa_p (x_var (d := eI x46.1) 4 rfl) (fun _ => puI _) (fun x66 => (xa_p (x_var (d := eI x46.2) 5 rfl) (fun _ => puI _) (fun x67 => xa_nil)))) rfl (by decide)) (fun x68 => (eP eI eI) (x46.1, x46.2)) rfl) (fun x69 => (xa_v (X.as (x_tup (xa_p (x_var (d := eI x46.2) 5 rfl) (fun _ => puI _) (fun x70 => (xa_p (x_var (d := eI x46.1) 4 rfl) (fun _ => puI _) (fun x71 => xa_nil)))) rfl (by decide)) (fun x72 => (eP eI eI) (x46.2, x46.1)) rfl) (fun x73 => xa_nil)))) rfl (by decide)) (fun x74 => (eL (eP eI eI)) [(x46.1, x46.2), (x46.2, x46.1)]) rfl) (fun x75 => (xa_v (x_call (xa_s 0 rfl (xa_v (x_c (eI 2)) (fun x76 => xa_nil)) (fun _ => rfl) (fun _ => puL)) rfl (fun _ _ h => tok__law_pick  _ _ _ h) (fun _ _ => rfl) (fun _ (zz : Int × (List Int)) => [(0, (eL eI) zz.2)]) (fun _ _ => rfl)) (fun x78 => xa_nil)))) (fun _ _ h => op_ixL (puP puI puI) h))) (.inl rfl) (fun x45 x64 x46 x63 => x63.1.2.1.2.2) (fun x45 x64 x46 x63 => by repeat (first | exact wk_nil | apply wk_a | apply wk_s)) (fun x45 x64 x46 => by repeat (first | exact wk_nil | apply wk_a | apply wk_s))) (.inl rfl) (fun x81 => (b_for (xi_mkP (xa_v (x_primT (xa_v (x_call (xa_s 0 rfl (xa_v (x_c (eI 4)) (fun x82 => xa_nil)) (fun _ => rfl) (fun _ => puL)) rfl (fun _ _ h => tok__law_pick  _ _ _ h) (fun _ _ => rfl) (fun _ (zz : Int × (List Int)) => [(0, (eL eI) zz.2)]) (fun _ _ => rfl)) (fun x84 => (xa_v (x_primT (xa_v (x_primT (xa_p (x_var (d := eI x38.2) 2 rfl) (fun _ => puI _) (fun x85 => (xa_v (x_c (eI 8)) (fun x86 => xa_nil)))) (fun _ => op_lt' _ _)) (fun x87 => xa_nil)) (fun _ => op_intB _)) (fun x88 => xa_nil)))) (fun _ => op_mulB _ _)) (fun x89 => xa_nil)) rfl puI (fun _ _ h => it_r1 h)) (fun x91 (x92 : ((List Int) × (List (Int × Int)))) => [some ((eL eI) x92.1), some (eI x4.2.1), some (eI x38.2), some ((eL (eP eI eI)) x92.2), none, none, none, none]) (fun x91 => (x91.1.1.1.2.2, x81.2.1)) (fun _ => rfl) (fun x91 => by repeat (first | exact wk_nil | apply wk_a | apply wk_s)) (fun x91 x92 x93 => as_nm) (fun x91 x92 x93 => (b_set (x_call (xa_s 0 rfl (xa_p (x_var (d := eI x38.2) 2 rfl) (fun _ => puI _) (fun x96 => xa_nil)) (fun _ => rfl) (fun _ => puL)) rfl (fun _ _ h => tok__law_pick  _ _ _ h) (fun _ _ => rfl) (fun _ (zz : Int × (List Int)) => [(0, (eL eI) zz.2)]) (fun _ _ => rfl)) (.inl rfl) (fun x98 => (b_last (b_expr (x_mt rfl (xa_v (X.as (x_tup (xa_n 4 rfl (xa_v (x_prim (xa_v (x_primT (xa_v (x_primT (xa_p (x_var (d := eI x98.2.1) 4 rfl) (fun _ => puI _) (fun x100 => (xa_v (x_c (eI 1)) (fun x101 => xa_nil)))) (fun _ => op_add _ _)) (fun x102 => (xa_v (x_call (xa_s 0 rfl (xa_v (x_primT (xa_p (x_var (d := eI x38.2) 2 rfl) (fun _ => puI _) (fun x103 => (xa_v (x_c (eI 1)) (fun x104 => xa_nil)))) (fun _ => op_sub' _ _)) (fun x105 => xa_nil)) (fun _ => rfl) (fun _ => puL)) rfl (fun _ _ h => tok__law_pick  _ _ _ h) (fun _ _ => rfl) (fun _ (zz : Int × (List Int)) => [(0, (eL eI) zz.2)]) (fun _ _ => rfl)) (fun x107 => xa_nil)))) (fun _ => op_add _ _)) (fun x108 => (xa_p (x_var (d := eI x38.2) 2 rfl) (fun _ => puI _) (fun x109 => xa_nil)))) (fun _ _ h => op_mod' h)) (fun x111 => xa_nil)) (fun _ => rfl) (puI _)) rfl (by decide)) (fun x112 => (eP eI eI) (x98.2.1, x112.1.2)) rfl) (fun x113 => xa_nil)) rfl (fun _ => rfl) (fun _ _ h => mt_app' h) (fun _ _ => rfl)) (fun x115 => (b_endC (z := (x115.1.1.1.1.1.2.1.2.2, x115.2)) (by repeat (first | exact wk_nil | apply wk_a | apply wk_s))))))))) (fun x91 x92 => (b_set (x_prim (xa_v (X.as (x_lst (xa_v (x_prim (xa_p (x_var (d := eI x38.2) 2 rfl) (fun _ => puI _) (fun x116 => xa_nil)) (fun _ _ h => op_trg1 h)) (fun x118 => (xa_v (x_call (xa_s 0 rfl (xa_v (x_prim (xa_p (x_var (d := eI x38.2) 2 rfl) (fun _ => puI _) (fun x119 => xa_nil)) (fun _ _ h => op_lrg1 h)) (fun x121 => xa_nil)) (fun _ => rfl) (fun _ => puL)) rfl (fun _ _ h => tok__law_mixed__at1 n _ _ _ h) (fun _ _ => rfl) (fun _ (zz : (List Int) × (List Int)) => [(0, (eL eI) zz.2)]) (fun _ _ => rfl)) (fun x123 => xa_nil)))) rfl (by decide)) (fun x124 => (eL (eT eI)) [x124.1.2, x124.2.1.2.1]) rfl) (fun x125 => (xa_v (x_call (xa_s 0 rfl (xa_v (x_c (eI 2)) (fun x126 => xa_nil)) (fun _ => rfl) (fun _ => puL)) rfl (fun _ _ h => tok__law_pick  _ _ _ h) (fun _ _ => rfl) (fun _ (zz : Int × (List Int)) => [(0, (eL eI) zz.2)]) (fun _ _ => rfl)) (fun x128 => xa_nil)))) (fun _ _ h => op_ixL (puT puI) h)) (.inl rfl) (fun x130 => (b_last (b_ret (X.as (x_tup (xa_p (x_var (d := eI x38.2) 2 rfl) (fun _ => puI _) (fun x131 => (xa_v (x_primT (xa_s 3 rfl xa_nil (fun _ => rfl) (fun _ => puL)) (fun _ => op_tupL (puP puI puI) _)) (fun x132 => (xa_p (x_var (d := (eT eI) x130.2) 7 rfl) (fun _ => (puT puI) _) (fun x133 => xa_nil)))))) rfl (by decide)) (fun x134 => (eQ eI (eT (eP eI eI)) (eT eI)) (x38.2, x92.2, x130.2)) rfl) (fun x135 => ((x38.2, x92.2, x130.2), x130.1.2.1.2.2)) (.inl rfl) (fun x135 => qf_ret rfl (by repeat (first | exact wk_nil | apply wk_a | apply wk_s))))))))))))))))))))) (by dsimp only [p__law_evened])) rfl (by simp [okM]) (fun z => (coll_0P rfl coll_nilP))
theorem tok__law_lowered__at0 (a0 : (List Int)) : ∀ z, p__law_lowered__at0 a0 = some z → f__law_lowered [(eT eI) a0] = .ok ((eT eI) z) [(eT eI) a0] :=
  fn_t (p0 := [some ((eT eI) a0), none]) (m := p__law_lowered__at0 a0) (rv := fun (z : (List Int)) => (eT eI) z) (q := fun (z : (List Int)) => [some ((eT eI) a0), none]) (outs := fun z => [(eT eI) a0]) (B.cv (b_last (b_ret (x_primT (xa_v (x_mapP (ee := eI) (xi_mk (xa_p (x_var (d := (eT eI) a0) 0 rfl) (fun _ => (puT puI) _) (fun x2 => xa_nil)) rfl puI (fun _ => it_T _)) rfl (fun x3 x4 => as_nm) (fun x3 x4 => (x_primT (xa_p (x_var (d := eI x4) 1 rfl) (fun _ => puI _) (fun x7 => (xa_v (x_prim (xa_p (x_var (d := (eT eI) a0) 0 rfl) (fun _ => (puT puI) _) (fun x8 => xa_nil)) (fun _ _ h => minAny_of (op_min1T h))) (fun x10 => xa_nil)))) (fun _ => op_sub' _ _))) (.inl rfl) (fun x3 x4 => ((minO a0)).bind fun t9 => some (x4 - t9)) (fun _ _ => by repeat (first | exact wk_nil | apply wk_a | apply wk_s)) (by intro x y z h; simp only [] at h ⊢; repeat (first | (obtain ⟨hl, h⟩ := lim_inv h; simp only [lim_of hl]) | (obtain ⟨_, h1, h⟩ := Option.bind_eq_some_iff.mp h; simp only [h1, Option.bind_some] at h ⊢) | (cases h; rfl)))) (fun x13 => xa_nil)) (fun _ => op_tupL puI _)) (fun x14 => x14.1.2.1) (.inl rfl) (fun x14 => qf_ret rfl (by repeat (first | exact wk_nil | apply wk_a | apply wk_s))))) (by dsimp only [p__law_lowered__at0])) rfl (by simp [okM]) (fun z => (coll_0P rfl coll_nilP))
theorem tok__law_lowered__at1 (a0 : (List Int)) : ∀ z, p__law_lowered__at1 a0 = some z → f__law_lowered [(eF eI) a0] = .ok ((eT eI) z) [(eF eI) a0] :=
  fn_t (p0 := [some ((eF eI) a0), none]) (m := p__law_lowered__at1 a0) (rv := fun (z : (List Int)) => (eT eI) z) (q := fun (z : (List Int)) => [some ((eF eI) a0), none]) (outs := fun z => [(eF eI) a0]) (B.cv (b_last (b_ret (x_primT (xa_v (x_mapP (ee := eI) (xi_mk (xa_p (x_var (d := (eF eI) a0) 0 rfl) (fun _ => puF _) (fun x2 => xa_nil)) rfl puI (fun _ => it_F _)) rfl (fun x3 x4 => as_nm) (fun x3 x4 => (x_primT (xa_p (x_var (d := eI x4) 1 rfl) (fun _ => puI _) (fun x7 => (xa_v (x_prim (xa_p (x_var (d := (eF eI) a0) 0 rfl) (fun _ => puF _) (fun x8 => xa_nil)) (fun _ _ h => minAny_of (op_min1F h))) (fun x10 => xa_nil)))) (fun _ => op_sub' _ _))) (.inl rfl) (fun x3 x4 => ((minO a0)).bind fun t9 => some (x4 - t9)) (fun _ _ => by repeat (first | exact wk_nil | apply wk_a | apply wk_s)) (by intro x y z h; simp only [] at h ⊢; repeat (first | (obtain ⟨hl, h⟩ := lim_inv h; simp only [lim_of hl]) | (obtain ⟨_, h1, h⟩ := Option.bind_eq_some_iff.mp h; simp only [h1, Option.bind_some] at h ⊢) | (cases h; rfl)))) (fun x13 => xa_nil)) (fun _ => op_tupL puI _)) (fun x14 => x14.1.2.1) (.inl rfl) (fun x14 => qf_ret rfl (by repeat (first | exact wk_nil | apply wk_a | apply wk_s))))) (by dsimp only [p__law_lowered__at1])) rfl (by simp [okM]) (fun z => (coll_0P rfl coll_nilP))
theorem tok__law_lowered__at2 (a0 : (List Int)) : ∀ z, p__law_lowered__at2 a0 = some z → f__law_lowered [(eT eI) a0] = .ok ((eT eI) z) [(eT eI) a0] :=
  fn_t (p0 := [some ((eT eI) a0), none]) (m := p__law_lowered__at2 a0) (rv := fun (z : (List Int)) => (eT eI) z) (q := fun (z : (List Int)) => [some ((eT eI) a0), none]) (outs := fun z => [(eT eI) a0]) (B.cv (b_last (b_ret (x_primT (xa_v (x_mapP (ee := eI) (xi_mk (xa_p (x_var (d := (eT eI) a0) 0 rfl) (fun _ => (puT puI) _) (fun x2 => xa_nil)) rfl puI (fun _ => it_T _)) rfl (fun x3 x4 => as_nm) (fun x3 x4 => (x_primT (xa_p (x_var (d := eI x4) 1 rfl) (fun _ => puI _) (fun x7 => (xa_v (x_prim (xa_p (x_var (d := (eT eI) a0) 0 rfl) (fun _ => (puT puI) _) (fun x8 => xa_nil)) (fun _ _ h => minAny_of (op_min1T h))) (fun x10 => xa_nil)))) (fun _ => op_sub' _ _))) (.inl rfl) (fun x3 x4 => ((minO a0)).bind fun t9 => some (x4 - t9)) (fun _ _ => by repeat (first | exact wk_nil | apply wk_a | apply wk_s)) (by intro x y z h; simp only [] at h ⊢; repeat (first | (obtain ⟨hl, h⟩ := lim_inv h; simp only [lim_of hl]) | (obtain ⟨_, h1, h⟩ := Option.bind_eq_some_iff.mp h; simp only [h1, Option.bind_some] at h ⊢) | (cases h; rfl)))) (fun x13 => xa_nil)) (fun _ => op_tupL puI _)) (fun x14 => x14.1.2.1) (.inl rfl) (fun x14 => qf_ret rfl (by repeat (first | exact wk_nil | apply wk_a | apply wk_s))))) (by dsimp only [p__law_lowered__at2])) rfl (by simp [okM]) (fun z => (coll_0P rfl coll_nilP))
theorem tok__law_all_places (n : Nat) (a0 : (Int × (List (Int × Int)) × (List Int))) (a1 : (List Int)) (a2 : Int) : ∀ z, p__law_all_places n a0 a1 a2 = some z → f__law_all_places n [(eQ eI (eT (eP eI eI)) (eT eI)) a0, (eT eI) a1, eI a2] = .ok ((eO (eF (eP (eT eI) (eT eI)))) z) [(eQ eI (eT (eP eI eI)) (eT eI)) a0, (eT eI) a1, eI a2] :=
  fn_t (p0 := [some ((eQ eI (eT (eP eI eI)) (eT eI)) a0), some ((eT eI) a1), some (eI a2), none, none, none, none, none, none, none, none]) (m := p__law_all_places n a0 a1 a2) (rv := fun (z : (Option (List ((List Int) × (List Int))))) => (eO (eF (eP (eT eI) (eT eI)))) z) (q := fun (z : (Option (List ((List Int) × (List Int))))) => [some ((eQ eI (eT (eP eI eI)) (eT eI)) a0), some ((eT eI) a1), some (eI a2), none, none, none, none, none, none, none, none]) (outs := fun z => [(eQ eI (eT (eP eI eI)) (eT eI)) a0, (eT eI) a1, eI a2]) (B.cv (b_setL (eP (eT eI) (eT eI)) (X.as (x_tup (xa_v (x_prim (xa_v (X.as (x_tup (xa_v (x_c (eI 0)) (fun x4 => xa_nil)) rfl (by decide)) (fun x5 => (eT eI) [(0 : Int)]) rfl) (fun x6 => (xa_v (x_primT (xa_v (x_primT (xa_p (x_var (d := (eQ eI (eT (eP eI eI)) (eT eI)) a0) 0 rfl) (fun _ => (puQ puI (puT (puP puI puI)) (puT puI)) _) (fun x7 => (xa_v (x_c (eI 1)) (fun x8 => xa_nil)))) (fun _ => op_ixQ1 (puT (puP puI puI)) _)) (fun x9 => xa_nil)) (fun _ => op_lenT _)) (fun x10 => xa_nil)))) (fun _ _ h => op_repT' puI h)) (fun x12 => (xa_v (x_prim (xa_v (X.as (x_tup (xa_v (x_c (eI 0)) (fun x13 => xa_nil)) rfl (by decide)) (fun x14 => (eT eI) [(0 : Int)]) rfl) (fun x15 => (xa_v (x_primT (xa_p (x_var (d := (eQ eI (eT (eP eI eI)) (eT eI)) a0) 0 rfl) (fun _ => (puQ puI (puT (puP puI puI)) (puT puI)) _) (fun x16 => (xa_v (x_c (eI 0)) (fun x17 => xa_nil)))) (fun _ => op_ixQ0 puI _)) (fun x18 => xa_nil)))) (fun _ _ h => op_repT' puI h)) (fun x20 => xa_nil)))) rfl (by decide)) (fun x21 => (eP (eT eI) (eT eI)) (x21.1.2, x21.2.1.2)) rfl) (.inl rfl) (fun x22 x23 => (b_par (xa_v (x_newM (f := (kP (kT kI) (kT kI))) (e := eB)) (fun x25 => (xa_v (X.as (x_lst (xa_p (x_var (d := (eP (eT eI) (eT eI)) x23) 3 rfl) (fun _ => (puP (puT puI) (puT puI)) _) (fun x26 => xa_nil)) rfl (by decide)) (fun x27 => (eL (eP (eT eI) (eT eI))) [x23]) rfl) (fun x28 => xa_nil)))) rfl (fun _ => rfl) (fun _ => put2) (fun x29 => (b_while (fun (x30 : ((List (((List Int) × (List Int)) × Bool)) × (List ((List Int) × (List Int))))) => [some ((eQ eI (eT (eP eI eI)) (eT eI)) a0), some ((eT eI) a1), some (eI a2), some ((eP (eT eI) (eT eI)) x23), some ((eM (kP (kT kI) (kT kI)) eB) x30.1), some ((eL (eP (eT eI) (eT eI))) x30.2), none, none, none, none, none]) (([] : (List (((List Int) × (List Int)) × Bool))), [x23]) (fun (z : (Option (List ((List Int) × (List Int))))) => (eO (eF (eP (eT eI) (eT eI)))) z) (fun x81 => [some ((eQ eI (eT (eP eI eI)) (eT eI)) a0), some ((eT eI) a1), some (eI a2), none, none, none, none, none, none, none, none]) (fun z => z) (by repeat (first | exact wk_nil | apply wk_a | apply wk_s)) (fun x30 => (xt_andT (xt_tst (x_primT (xa_s 5 rfl (xa_v (X.as (x_lst xa_nil rfl (by decide)) (fun x32 => (eL (eP (eT eI) (eT eI))) ([] : (List ((List Int) × (List Int))))) rfl) (fun x33 => xa_nil)) (fun _ => rfl) (fun _ => puL)) (fun _ => op_ne (eqL (eqP (eqT eqI) (eqT eqI))) (by decide) _ _))) (fun x34 => (xt_tst (x_primT (xa_v (x_primT (xa_s 4 rfl xa_nil (fun _ => rfl) (fun _ => puM)) (fun _ => op_lenM (kmP (keT keI) (keT keI) (by decide)) _)) (fun x35 => (xa_p (x_var (d := eI a2) 2 rfl) (fun _ => puI _) (fun x36 => xa_nil)))) (fun _ => op_le' _ _)))))) (fun x30 x37 => (b_asg (x_mt rfl xa_nil rfl (fun _ => rfl) (fun _ _ h => mt_popL (puP (puT puI) (puT puI)) h) (fun _ z => (puP (puT puI) (puT puI)) z.1)) (.inl rfl) (fun _ => (as_tp (ass_cons as_nm (ass_cons as_nm ass_nil)))) (fun x39 => (b_last (b_if (xt_tst (x_primT (xa_v (X.as (x_tup (xa_p (x_var (d := (eT eI) x39.2.1.1) 6 rfl) (fun _ => (puT puI) _) (fun x40 => (xa_p (x_var (d := (eT eI) x39.2.1.2) 7 rfl) (fun _ => (puT puI) _) (fun x41 => xa_nil)))) rfl (by decide)) (fun x42 => (eP (eT eI) (eT eI)) (x39.2.1.1, x39.2.1.2)) rfl) (fun x43 => (xa_s 4 rfl xa_nil (fun _ => rfl) (fun _ => puM)))) (fun _ => op_ninMM (kmP (keT keI) (keT keI) (by decide)) _ _))) (fun x44 => (b_asc (b_setM (e1 := eB) (kmP (keT keI) (keT keI) (by decide)) (x_c (eB true)) puB (fun _ => ⟨_, rfl⟩) (fun x45 => (X.as (x_tup (xa_p (x_var (d := (eT eI) x39.2.1.1) 6 rfl) (fun _ => (puT puI) _) (fun x46 => (xa_p (x_var (d := (eT eI) x39.2.1.2) 7 rfl) (fun _ => (puT puI) _) (fun x47 => xa_nil)))) rfl (by decide)) (fun x48 => (eP (eT eI) (eT eI)) (x39.2.1.1, x39.2.1.2)) rfl)) (fun _ _ => .inl rfl) (fun _ _ => rfl) (fun x45 x49 x50 => (b_for (xi_mk (xa_p (x_var (d := (eT eI) a1) 1 rfl) (fun _ => (puT puI) _) (fun x52 => xa_nil)) rfl puI (fun _ => it_T _)) (fun x53 (x54 : ((List ((List Int) × (List Int))))) => [some ((eQ eI (eT (eP eI eI)) (eT eI)) a0), some ((eT eI) a1), some (eI a2), some ((eP (eT eI) (eT eI)) x23), some ((eM (kP (kT kI) (kT kI)) eB) x50), some ((eL (eP (eT eI) (eT eI))) x54), some ((eT eI) x39.2.1.1), some ((eT eI) x39.2.1.2), none, none, none]) (fun x53 => x39.2.2) (fun _ => rfl) (fun x53 => by repeat (first | exact wk_nil | apply wk_a | apply wk_s)) (fun x53 x54 x55 => as_nm) (fun x53 x54 x55 => (b_asg (x_callP (xa_p (x_var (d := (eQ eI (eT (eP eI eI)) (eT eI)) a0) 0 rfl) (fun _ => (puQ puI (puT (puP puI puI)) (puT puI)) _) (fun x58 => (xa_p (x_var (d := (eT eI) x39.2.1.1) 6 rfl) (fun _ => (puT puI) _) (fun x59 => (xa_p (x_var (d := eI x55) 8 rfl) (fun _ => puI _) (fun x60 => xa_nil)))))) rfl (fun _ _ h => tok__law_passed  _ _ _ _ h)) (.inl rfl) (fun _ => (as_tp (ass_cons as_nm (ass_cons as_nm ass_nil)))) (fun x62 => (b_last (b_expr (x_mt rfl (xa_v (X.as (x_tup (xa_p (x_var (d := (eT eI) x62.2.1) 9 rfl) (fun _ => (puT puI) _) (fun x63 => (xa_v (x_callP (xa_v (x_callP (xa_p (x_var (d := (eT eI) x39.2.1.2) 7 rfl) (fun _ => (puT puI) _) (fun x64 => (xa_p (x_var (d := eI x62.2.2) 10 rfl) (fun _ => puI _) (fun x65 => xa_nil)))) rfl (fun _ _ h => tok__law_more  _ _ _ h)) (fun x67 => xa_nil)) rfl (fun _ _ h => tok__law_lowered__at0  _ _ h)) (fun x69 => xa_nil)))) rfl (by decide)) (fun x70 => (eP (eT eI) (eT eI)) (x62.2.1, x70.2.1.2)) rfl) (fun x71 => xa_nil)) rfl (fun _ => rfl) (fun _ _ h => mt_app' h) (fun _ _ => rfl)) (fun x73 => (b_endC (z := x73.2) (by repeat (first | exact wk_nil | apply wk_a | apply wk_s))))))))) (fun x53 x54 => (b_endL (z := (x50, x54)) (by repeat (first | exact wk_nil | apply wk_a | apply wk_s))))))))) (fun x44 => (b_skip (b_endL (z := (x30.1, x39.2.2)) (by repeat (first | exact wk_nil | apply wk_a | apply wk_s)))))))))) (fun x81 => qf_ret rfl (by repeat (first | exact wk_nil | apply wk_a | apply wk_s))) (fun x30 => (b_last (b_ret (x_ifT (eO (eF (eP (eT eI) (eT eI)))) (xt_tst (x_primT (xa_v (x_primT (xa_s 4 rfl xa_nil (fun _ => rfl) (fun _ => puM)) (fun _ => op_lenM (kmP (keT keI) (keT keI) (by decide)) _)) (fun x74 => (xa_p (x_var (d := eI a2) 2 rfl) (fun _ => puI _) (fun x75 => xa_nil)))) (fun _ => op_le' _ _))) (fun x76 => (X.as (X.as (x_frzF (puP (puT puI) (puT puI)) (x_primT (xa_s 4 rfl xa_nil (fun _ => rfl) (fun _ => puM)) (fun _ => op_listM (kmP (keT keI) (keT keI) (by decide)) _))) (fun x77 => (eF (eP (eT eI) (eT eI))) (x30.1.map Prod.fst)) rfl) (fun x78 => (eO (eF (eP (eT eI) (eT eI)))) (some (x30.1.map Prod.fst))) rfl)) (fun x76 => (X.as (x_c PyData.none) (fun x79 => (eO (eF (eP (eT eI) (eT eI)))) none) rfl))) (fun x80 => (if (decide ((x30.1.length : Int) ≤ a2)) = true then (some (x30.1.map Prod.fst)) else none)) (.inr (fun _ => (puO' puF) _)) (fun x80 => qf_ret rfl (by repeat (first | exact wk_nil | apply wk_a | apply wk_s))))))))))) (by dsimp only [p__law_all_places])) rfl (by simp [okM]) (fun z => (coll_0P rfl (coll_0P rfl (coll_0P rfl coll_nilP))))
theorem tok__law_with (n : Nat) (a0 : (List Int)) (a1 : (Int × (List (Int × Int)) × (List Int))) (a2 : (List Int)) (a3 : (List ((List Int) × (List Int)))) : ∀ z, p__law_with n a0 a1 a2 a3 = some z → f__law_with n [(eL eI) a0, (eQ eI (eT (eP eI eI)) (eT eI)) a1, (eT eI) a2, (eF (eP (eT eI) (eT eI))) a3] = .ok ((eF (eP (eT eI) (eT eI))) z.1) [(eL eI) z.2, (eQ eI (eT (eP eI eI)) (eT eI)) a1, (eT eI) a2, (eF (eP (eT eI) (eT eI))) a3] :=
  fn_t (p0 := [some ((eL eI) a0), some ((eQ eI (eT (eP eI eI)) (eT eI)) a1), some ((eT eI) a2), some ((eF (eP (eT eI) (eT eI))) a3), none, none, none, none, none, none, none, none, none]) (m := p__law_with n a0 a1 a2 a3) (rv := fun (z : ((List ((List Int) × (List Int))) × (List Int))) => (eF (eP (eT eI) (eT eI))) z.1) (q := fun (z : ((List ((List Int) × (List Int))) × (List Int))) => [some ((eL eI) z.2), some ((eQ eI (eT (eP eI eI)) (eT eI)) a1), some ((eT eI) a2), some ((eF (eP (eT eI) (eT eI))) a3), none, none, none, none, none, none, none, none, none]) (outs := fun z => [(eL eI) z.2, (eQ eI (eT (eP eI eI)) (eT eI)) a1, (eT eI) a2, (eF (eP (eT eI) (eT eI))) a3]) (B.cv (b_set (x_callP (xa_v (X.as (x_frzF puI (x_compU (ee := eI) (xi_mkP (xa_v (x_primT (xa_p (x_var (d := (eQ eI (eT (eP eI eI)) (eT eI)) a1) 1 rfl) (fun _ => (puQ puI (puT (puP puI puI)) (puT puI)) _) (fun x5 => (xa_v (x_c (eI 0)) (fun x6 => xa_nil)))) (fun _ => op_ixQ0 puI _)) (fun x7 => xa_nil)) rfl puI (fun _ _ h => it_r1 h)) [] (fun x9 (x16 : ((List Int))) => [some ((eL eI) x16), some ((eQ eI (eT (eP eI eI)) (eT eI)) a1), some ((eT eI) a2), some ((eF (eP (eT eI) (eT eI))) a3), none, none, none, none, none, none, none, none, none]) (fun x9 => a0) rfl (fun _ => rfl) (fun _ _ => rfl) (fun x9 => by repeat (first | exact wk_nil | apply wk_a | apply wk_s)) (fun x9 x16 x10 => as_nm) (fun x9 x16 x10 => (x_call (xa_s 0 rfl (xa_v (x_c (eI 3)) (fun x18 => xa_nil)) (fun _ => rfl) (fun _ => puL)) rfl (fun _ _ h => tok__law_pick  _ _ _ h) (fun _ _ => rfl) (fun _ (zz : Int × (List Int)) => [(0, (eL eI) zz.2)]) (fun _ _ => rfl))) (.inl rfl) (fun x9 x16 x10 x15 => x15.2.2) (fun x9 x16 x10 x15 => by repeat (first | exact wk_nil | apply wk_a | apply wk_s)) (fun x9 x16 x10 => by repeat (first | exact wk_nil | apply wk_a | apply wk_s)))) (fun x21 => (eF eI) x21.2.1) rfl) (fun x22 => xa_nil)) rfl (fun _ _ h => tok__law_lowered__at1  _ _ h)) (.inl rfl) (fun x24 => (b_par (xa_v (X.as (x_lst (xa_v (X.as (x_tup (xa_v (x_primT (xa_v (x_compU (ee := eI) (xi_mk (xa_v (x_primT (xa_p (x_var (d := (eQ eI (eT (eP eI eI)) (eT eI)) a1) 1 rfl) (fun _ => (puQ puI (puT (puP puI puI)) (puT puI)) _) (fun x25 => (xa_v (x_c (eI 1)) (fun x26 => xa_nil)))) (fun _ => op_ixQ1 (puT (puP puI puI)) _)) (fun x27 => xa_nil)) rfl (puP puI puI) (fun _ => it_T _)) [] (fun x28 (x35 : ((List Int))) => [some ((eL eI) x35), some ((eQ eI (eT (eP eI eI)) (eT eI)) a1), some ((eT eI) a2), some ((eF (eP (eT eI) (eT eI))) a3), some ((eT eI) x24.2), none, none, none, none, none, none, none, none]) (fun x28 => x24.1.1.2.2) rfl (fun _ => rfl) (fun _ _ => rfl) (fun x28 => by repeat (first | exact wk_nil | apply wk_a | apply wk_s)) (fun x28 x35 x29 => as_nm) (fun x28 x35 x29 => (x_call (xa_s 0 rfl (xa_v (x_c (eI 2)) (fun x37 => xa_nil)) (fun _ => rfl) (fun _ => puL)) rfl (fun _ _ h => tok__law_pick  _ _ _ h) (fun _ _ => rfl) (fun _ (zz : Int × (List Int)) => [(0, (eL eI) zz.2)]) (fun _ _ => rfl))) (.inl rfl) (fun x28 x35 x29 x34 => x34.2.2) (fun x28 x35 x29 x34 => by repeat (first | exact wk_nil | apply wk_a | apply wk_s)) (fun x28 x35 x29 => by repeat (first | exact wk_nil | apply wk_a | apply wk_s))) (fun x40 => xa_nil)) (fun _ => op_tupL puI _)) (fun x41 => (xa_p (x_var (d := (eT eI) x24.2) 4 rfl) (fun _ => (puT puI) _) (fun x42 => xa_nil)))) rfl (by decide)) (fun x43 => (eP (eT eI) (eT eI)) (x43.1.1.2.1, x24.2)) rfl) (fun x44 => xa_nil)) rfl (by decide)) (fun x45 => (eL (eP (eT eI) (eT eI))) [(x45.1.1.1.2.1, x24.2)]) rfl) (fun x46 => (xa_v (x_primT (xa_v (x_mapT (ee := (eP (eP (eT eI) (eT eI)) eB)) (xi_mk (xa_p (x_var (d := (eF (eP (eT eI) (eT eI))) a3) 3 rfl) (fun _ => puF _) (fun x47 => xa_nil)) rfl (puP (puT puI) (puT puI)) (fun _ => it_F _)) rfl (fun x48 x49 => as_nm) (fun x48 x49 => (X.as (x_tup (xa_p (x_var (d := (eP (eT eI) (eT eI)) x49) 9 rfl) (fun _ => (puP (puT puI) (puT puI)) _) (fun x52 => (xa_v (x_c (eB true)) (fun x53 => xa_nil)))) rfl (by decide)) (fun x54 => (eP (eP (eT eI) (eT eI)) eB) (x49, true)) rfl)) (.inl rfl) (fun _ _ => by repeat (first | exact wk_nil | apply wk_a | apply wk_s))) (fun x57 => xa_nil)) (fun _ => op_dictM (kmP (keT keI) (keT keI) (by decide)) puB _)) (fun x58 => xa_nil)))) rfl (fun _ => rfl) (fun _ => put2) (fun x59 => (b_while (fun (x60 : ((List ((List Int) × (List Int))) × (List (((List Int) × (List Int)) × Bool)))) => [some ((eL eI) x59.1.1.1.1.2.2), some ((eQ eI (eT (eP eI eI)) (eT eI)) a1), some ((eT eI) a2), some ((eF (eP (eT eI) (eT eI))) a3), none, none, some ((eL (eP (eT eI) (eT eI))) x60.1), some ((eM (kP (kT kI) (kT kI)) eB) x60.2), none, none, none, none, none]) ([(x59.1.1.1.1.2.1, x24.2)], (mergeM [] x59.2.1.1.2.1)) (fun (z : ((List ((List Int) × (List Int))) × (List Int))) => (eF (eP (eT eI) (eT eI))) z.1) (fun x109 => [some ((eL eI) x109.2), some ((eQ eI (eT (eP eI eI)) (eT eI)) a1), some ((eT eI) a2), some ((eF (eP (eT eI) (eT eI))) a3), none, none, none, none, none, none, none, none, none]) (fun z => z) (by repeat (first | exact wk_nil | apply wk_a | apply wk_s)) (fun x60 => (xt_andT (xt_tst (x_primT (xa_s 6 rfl (xa_v (X.as (x_lst xa_nil rfl (by decide)) (fun x62 => (eL (eP (eT eI) (eT eI))) ([] : (List ((List Int) × (List Int))))) rfl) (fun x63 => xa_nil)) (fun _ => rfl) (fun _ => puL)) (fun _ => op_ne (eqL (eqP (eqT eqI) (eqT eqI))) (by decide) _ _))) (fun x64 => (xt_tst (x_primT (xa_v (x_primT (xa_s 7 rfl xa_nil (fun _ => rfl) (fun _ => puM)) (fun _ => op_lenM (kmP (keT keI) (keT keI) (by decide)) _)) (fun x65 => (xa_v (x_c (eI 1500)) (fun x66 => xa_nil)))) (fun _ => op_lt' _ _)))))) (fun x60 x67 => (b_asg (x_mt rfl xa_nil rfl (fun _ => rfl) (fun _ _ h => mt_popL (puP (puT puI) (puT puI)) h) (fun _ z => (puP (puT puI) (puT puI)) z.1)) (.inl rfl) (fun _ => (as_tp (ass_cons as_nm (ass_cons as_nm ass_nil)))) (fun x69 => (b_last (b_if (xt_tst (x_primT (xa_v (X.as (x_tup (xa_p (x_var (d := (eT eI) x69.2.1.1) 10 rfl) (fun _ => (puT puI) _) (fun x70 => (xa_p (x_var (d := (eT eI) x69.2.1.2) 4 rfl) (fun _ => (puT puI) _) (fun x71 => xa_nil)))) rfl (by decide)) (fun x72 => (eP (eT eI) (eT eI)) (x69.2.1.1, x69.2.1.2)) rfl) (fun x73 => (xa_s 7 rfl xa_nil (fun _ => rfl) (fun _ => puM)))) (fun _ => op_ninMM (kmP (keT keI) (keT keI) (by decide)) _ _))) (fun x74 => (b_asc (b_setM (e1 := eB) (kmP (keT keI) (keT keI) (by decide)) (x_c (eB true)) puB (fun _ => ⟨_, rfl⟩) (fun x75 => (X.as (x_tup (xa_p (x_var (d := (eT eI) x69.2.1.1) 10 rfl) (fun _ => (puT puI) _) (fun x76 => (xa_p (x_var (d := (eT eI) x69.2.1.2) 4 rfl) (fun _ => (puT puI) _) (fun x77 => xa_nil)))) rfl (by decide)) (fun x78 => (eP (eT eI) (eT eI)) (x69.2.1.1, x69.2.1.2)) rfl)) (fun _ _ => .inl rfl) (fun _ _ => rfl) (fun x75 x79 x80 => (b_for (xi_mk (xa_p (x_var (d := (eT eI) a2) 2 rfl) (fun _ => (puT puI) _) (fun x82 => xa_nil)) rfl puI (fun _ => it_T _)) (fun x83 (x84 : ((List ((List Int) × (List Int))))) => [some ((eL eI) x59.1.1.1.1.2.2), some ((eQ eI (eT (eP eI eI)) (eT eI)) a1), some ((eT eI) a2), some ((eF (eP (eT eI) (eT eI))) a3), some ((eT eI) x69.2.1.2), none, some ((eL (eP (eT eI) (eT eI))) x84), some ((eM (kP (kT kI) (kT kI)) eB) x80), none, none, some ((eT eI) x69.2.1.1), none, none]) (fun x83 => x69.2.2) (fun _ => rfl) (fun x83 => by repeat (first | exact wk_nil | apply wk_a | apply wk_s)) (fun x83 x84 x85 => as_nm) (fun x83 x84 x85 => (b_asg (x_callP (xa_p (x_var (d := (eQ eI (eT (eP eI eI)) (eT eI)) a1) 1 rfl) (fun _ => (puQ puI (puT (puP puI puI)) (puT puI)) _) (fun x88 => (xa_p (x_var (d := (eT eI) x69.2.1.1) 10 rfl) (fun _ => (puT puI) _) (fun x89 => (xa_p (x_var (d := eI x85) 5 rfl) (fun _ => puI _) (fun x90 => xa_nil)))))) rfl (fun _ _ h => tok__law_passed  _ _ _ _ h)) (.inl rfl) (fun _ => (as_tp (ass_cons as_nm (ass_cons as_nm ass_nil)))) (fun x92 => (b_last (b_expr (x_mt rfl (xa_v (X.as (x_tup (xa_p (x_var (d := (eT eI) x92.2.1) 11 rfl) (fun _ => (puT puI) _) (fun x93 => (xa_v (x_callP (xa_v (x_callP (xa_p (x_var (d := (eT eI) x69.2.1.2) 4 rfl) (fun _ => (puT puI) _) (fun x94 => (xa_p (x_var (d := eI x92.2.2) 12 rfl) (fun _ => puI _) (fun x95 => xa_nil)))) rfl (fun _ _ h => tok__law_more  _ _ _ h)) (fun x97 => xa_nil)) rfl (fun _ _ h => tok__law_lowered__at2  _ _ h)) (fun x99 => xa_nil)))) rfl (by decide)) (fun x100 => (eP (eT eI) (eT eI)) (x92.2.1, x100.2.1.2)) rfl) (fun x101 => xa_nil)) rfl (fun _ => rfl) (fun _ _ h => mt_app' h) (fun _ _ => rfl)) (fun x103 => (b_endC (z := x103.2) (by repeat (first | exact wk_nil | apply wk_a | apply wk_s))))))))) (fun x83 x84 => (b_endL (z := (x84, x80)) (by repeat (first | exact wk_nil | apply wk_a | apply wk_s))))))))) (fun x74 => (b_skip (b_endL (z := (x69.2.2, x60.2)) (by repeat (first | exact wk_nil | apply wk_a | apply wk_s)))))))))) (fun x109 => qf_ret rfl (by repeat (first | exact wk_nil | apply wk_a | apply wk_s))) (fun x60 => (b_last (b_ret (x_ifT (eF (eP (eT eI) (eT eI))) (xt_tst (x_primT (xa_s 6 rfl (xa_v (X.as (x_lst xa_nil rfl (by decide)) (fun x104 => (eL (eP (eT eI) (eT eI))) ([] : (List ((List Int) × (List Int))))) rfl) (fun x105 => xa_nil)) (fun _ => rfl) (fun _ => puL)) (fun _ => op_eq (eqL (eqP (eqT eqI) (eqT eqI))) (by decide) _ _))) (fun x106 => (X.as (x_frzF (puP (puT puI) (puT puI)) (x_primT (xa_s 7 rfl xa_nil (fun _ => rfl) (fun _ => puM)) (fun _ => op_listM (kmP (keT keI) (keT keI) (by decide)) _))) (fun x107 => (eF (eP (eT eI) (eT eI))) (x60.2.map Prod.fst)) rfl)) (fun x106 => (x_var (d := (eF (eP (eT eI) (eT eI))) a3) 3 rfl))) (fun x108 => ((if (decide (x60.1 = ([] : (List ((List Int) × (List Int)))))) = true then (x60.2.map Prod.fst) else a3), x59.1.1.1.1.2.2)) (.inr (fun _ => puF _)) (fun x108 => qf_ret rfl (by repeat (first | exact wk_nil | apply wk_a | apply wk_s))))))))))) (by dsimp only [p__law_with])) rfl (by simp [okM]) (fun z => (coll_0P rfl (coll_0P rfl (coll_0P rfl (coll_0P rfl coll_nilP)))))
theorem tok_law (n : Nat) (a0 : (List Int)) : ∀ z, p_law n a0 = some z → f_law n [eZ a0] = .ok (eB z) [eZ a0] :=
  fn_t (p0 := [some (eZ a0), none, none, none, none, none, none, none, none, none, none, none]) (m := p_law n a0) (rv := fun (z : Bool) => eB z) (q := fun (z : Bool) => [some (eZ a0), none, none, none, none, none, none, none, none, none, none, none]) (outs := fun z => [eZ a0]) (B.cv (b_forR (xi_mkP (xa_v (x_primT (xa_v (x_c (eI 1)) (fun x2 => (xa_v (x_primT (xa_v (x_primT (xa_p (x_var (d := eZ a0) 0 rfl) (fun _ => puZ _) (fun x3 => xa_nil)) (fun _ => op_lenZ _)) (fun x4 => (xa_v (x_c (eI 4)) (fun x5 => xa_nil)))) (fun _ => op_min2 _ _)) (fun x6 => xa_nil)))) (fun _ => op_max2 _ _)) (fun x7 => xa_nil)) rfl puI (fun _ _ h => it_r1 h)) (fun x9 (x10 : Unit) => [some (eZ a0), none, none, none, none, none, none, none, none, none, none, none]) (fun x9 => ()) (fun (z : Bool) => eB z) (fun x9 x113 => [some (eZ a0), none, none, none, none, none, none, none, none, none, none, none]) (fun z => z) (fun _ => rfl) (fun x9 => by repeat (first | exact wk_nil | apply wk_a | apply wk_s)) (fun x9 x10 x11 => as_nm) (fun x9 x10 x11 => (b_set (x_callP (xa_p (x_var (d := eZ a0) 0 rfl) (fun _ => puZ _) (fun x14 => (xa_p (x_var (d := eI x11) 1 rfl) (fun _ => puI _) (fun x15 => xa_nil)))) rfl (fun _ _ h => tok__law_left  _ _ _ h)) (.inl rfl) (fun x17 => (b_set (x_call (xa_s 2 rfl xa_nil (fun _ => rfl) (fun _ => puL)) rfl (fun _ _ h => tok__law_evened n _ _ h) (fun _ _ => rfl) (fun _ (zz : (Int × (List (Int × Int)) × (List Int)) × (List Int)) => [(2, (eL eI) zz.2)]) (fun _ _ => rfl)) (.inl rfl) (fun x19 => (b_set (x_call (xa_s 2 rfl (xa_p (x_var (d := (eQ eI (eT (eP eI eI)) (eT eI)) x19.2.1) 3 rfl) (fun _ => (puQ puI (puT (puP puI puI)) (puT puI)) _) (fun x20 => xa_nil)) (fun _ => rfl) (fun _ => puL)) rfl (fun _ _ h => tok__law_some  _ _ _ h) (fun _ _ => rfl) (fun _ (zz : (List Int) × (List Int)) => [(2, (eL eI) zz.2)]) (fun _ _ => rfl)) (.inl rfl) (fun x22 => (b_last (b_if (xt_tstA (x_callP (xa_p (x_var (d := (eQ eI (eT (eP eI eI)) (eT eI)) x19.2.1) 3 rfl) (fun _ => (puQ puI (puT (puP puI puI)) (puT puI)) _) (fun x23 => (xa_p (x_var (d := (eT eI) x22.2.1) 4 rfl) (fun _ => (puT puI) _) (fun x24 => xa_nil)))) rfl (fun _ _ h => tok__law_even  _ _ _ h)) (fun _ => tr_B _)) (fun x26 => (b_asc (b_set (x_callP (xa_p (x_var (d := (eQ eI (eT (eP eI eI)) (eT eI)) x19.2.1) 3 rfl) (fun _ => (puQ puI (puT (puP puI puI)) (puT puI)) _) (fun x27 => (xa_p (x_var (d := (eT eI) x22.2.1) 4 rfl) (fun _ => (puT puI) _) (fun x28 => (xa_v (x_c (eI 600)) (fun x29 => xa_nil)))))) rfl (fun _ _ h => tok__law_all_places n _ _ _ _ h)) (.inl rfl) (fun x31 => (b_if (xt_tst (x_primT (xa_p (x_var (d := (eO (eF (eP (eT eI) (eT eI)))) x31.2) 5 rfl) (fun _ => (puO' puF) _) (fun x32 => (xa_v (x_c PyData.none) (fun x33 => xa_nil)))) (fun _ => op_notN (fun _ => rfl) _))) (fun x34 => (b_forR (xi_mk (xa_v (X.as (x_tup (xa_nO 5 (eF (eP (eT eI) (eT eI))) _ rfl (fun x37 => (xa_v (x_call (xa_s 2 rfl (xa_p (x_var (d := (eQ eI (eT (eP eI eI)) (eT eI)) x19.2.1) 3 rfl) (fun _ => (puQ puI (puT (puP puI puI)) (puT puI)) _) (fun x38 => (xa_p (x_var (d := (eT eI) x22.2.1) 4 rfl) (fun _ => (puT puI) _) (fun x39 => (xa_p (x_gt (eF (eP (eT eI) (eT eI))) (x_var (d := (eO (eF (eP (eT eI) (eT eI)))) x31.2) 5 rfl) (fun x41 => x31.2) (fun _ => rfl)) (fun _ => puF _) (fun x42 => xa_nil)))))) (fun _ => rfl) (fun _ => puL)) rfl (fun _ _ h => tok__law_with n _ _ _ _ _ h) (fun _ _ => rfl) (fun _ (zz : (List ((List Int) × (List Int))) × (List Int)) => [(2, (eL eI) zz.2)]) (fun _ _ => rfl)) (fun x44 => xa_nil))) (fun _ _ => rfl) (fun _ => puF _)) rfl (by decide)) (fun x45 => (eT (eF (eP (eT eI) (eT eI)))) [x45.1, x45.2.1.2.1]) rfl) (fun x46 => xa_nil)) rfl puF (fun _ => it_T _)) (fun x47 (x48 : ((List Int))) => [some (eZ a0), some (eI x11), some ((eL eI) x48), some ((eQ eI (eT (eP eI eI)) (eT eI)) x19.2.1), some ((eT eI) x22.2.1), some ((eO (eF (eP (eT eI) (eT eI)))) x31.2), none, none, none, none, none, none]) (fun x47 => x47.1.2.1.2.2) (fun (z : Bool) => eB z) (fun x47 x111 => [some (eZ a0), none, none, none, none, none, none, none, none, none, none, none]) Lf.ret (fun _ => rfl) (fun x47 => by repeat (first | exact wk_nil | apply wk_a | apply wk_s)) (fun x47 x48 x49 => as_nm) (fun x47 x48 x49 => (b_set (x_prim (xa_v (x_mapP (ee := eI) (xi_mk (xa_p (x_var (d := (eF (eP (eT eI) (eT eI))) x49) 6 rfl) (fun _ => puF _) (fun x52 => xa_nil)) rfl (puP (puT puI) (puT puI)) (fun _ => it_F _)) rfl (fun x53 x54 => (as_tp (ass_cons as_nm (ass_cons as_nm ass_nil)))) (fun x53 x54 => (x_prim (xa_p (x_var (d := (eT eI) x54.2) 9 rfl) (fun _ => (puT puI) _) (fun x57 => xa_nil)) (fun _ _ h => op_max1T h))) (.inl rfl) (fun x53 x54 => ((maxO x54.2)).bind fun t58 => some t58) (fun _ _ => by repeat (first | exact wk_nil | apply wk_a | apply wk_s)) (by intro x y z h; simp only [] at h ⊢; repeat (first | (obtain ⟨hl, h⟩ := lim_inv h; simp only [lim_of hl]) | (obtain ⟨_, h1, h⟩ := Option.bind_eq_some_iff.mp h; simp only [h1, Option.bind_some] at h ⊢) | (cases h; rfl)))) (fun x61 => xa_nil)) (fun _ _ h => op_max1L h)) (.inl rfl) (fun x63 => (b_set (x_call (xa_s 2 rfl (xa_p (x_var (d := (eF (eP (eT eI) (eT eI))) x49) 6 rfl) (fun _ => puF _) (fun x64 => xa_nil)) (fun _ => rfl) (fun _ => puL)) rfl (fun _ _ h => tok__law_mixed__at2 n _ _ _ h) (fun _ _ => rfl) (fun _ (zz : (List ((List Int) × (List Int))) × (List Int)) => [(2, (eL eI) zz.2)]) (fun _ _ => rfl)) (.inl rfl) (fun x66 => (b_set (x_prim (xa_p (x_var (d := (eT (eP (eT eI) (eT eI))) x66.2.1) 10 rfl) (fun _ => (puT (puP (puT puI) (puT puI))) _) (fun x67 => xa_nil)) (fun _ _ h => op_repr h)) (.inl rfl) (fun x69 => (b_if (xt_orP (xt_tst (x_primT (xa_v (x_callP (xa_p (x_var (d := (eQ eI (eT (eP eI eI)) (eT eI)) x19.2.1) 3 rfl) (fun _ => (puQ puI (puT (puP puI puI)) (puT puI)) _) (fun x70 => (xa_p (x_var (d := (eT eI) x22.2.1) 4 rfl) (fun _ => (puT puI) _) (fun x71 => (xa_p (x_var (d := eI x63.2) 7 rfl) (fun _ => puI _) (fun x72 => (xa_p (x_var (d := (eT (eP (eT eI) (eT eI))) x66.2.1) 10 rfl) (fun _ => (puT (puP (puT puI) (puT puI))) _) (fun x73 => xa_nil)))))))) rfl (fun _ _ h => tok_shows_reach  _ _ _ _ _ h)) (fun x75 => (xa_v (x_c (eB true)) (fun x76 => xa_nil)))) (fun _ => op_notB _ _))) (fun x77 => (xt_tst (x_primT (xa_v (x_prim (xa_p (x_var (d := (eT (eP (eT eI) (eT eI))) x66.2.1) 10 rfl) (fun _ => (puT (puP (puT puI) (puT puI))) _) (fun x78 => xa_nil)) (fun _ _ h => op_repr h)) (fun x80 => (xa_p (x_var (d := eR x69.2) 11 rfl) (fun _ => puR _) (fun x81 => xa_nil)))) (fun _ => op_ne eqR (by decide) _ _))))) (fun x83 => (b_ret (x_c (eB false)) (fun x84 => (Lf.ret false)) (.inl rfl) (fun x84 => ql_ret rfl (by repeat (first | exact wk_nil | apply wk_a | apply wk_s))))) (fun x83 => (b_skip (b_if (xt_tst (x_primT (xa_v (x_callP (xa_n 3 rfl (xa_n 4 rfl (xa_v (x_primT (xa_v (x_primT (xa_p (x_var (d := eI x63.2) 7 rfl) (fun _ => puI _) (fun x87 => (xa_v (x_c (eI 1)) (fun x88 => xa_nil)))) (fun _ => op_add _ _)) (fun x89 => (xa_v (x_call (xa_s 2 rfl (xa_v (x_c (eI 9)) (fun x90 => xa_nil)) (fun _ => rfl) (fun _ => puL)) rfl (fun _ _ h => tok__law_pick  _ _ _ h) (fun _ _ => rfl) (fun _ (zz : Int × (List Int)) => [(2, (eL eI) zz.2)]) (fun _ _ => rfl)) (fun x92 => xa_nil)))) (fun _ => op_add _ _)) (fun x93 => (xa_p (x_var (d := (eT (eP (eT eI) (eT eI))) x66.2.1) 10 rfl) (fun _ => (puT (puP (puT puI) (puT puI))) _) (fun x94 => xa_nil)))) (fun _ => rfl) ((puT puI) _)) (fun _ => rfl) ((puQ puI (puT (puP puI puI)) (puT puI)) _)) rfl (fun _ _ h => tok_shows_reach  _ _ _ _ _ h)) (fun x96 => (xa_v (x_c (eB true)) (fun x97 => xa_nil)))) (fun _ => op_notB _ _))) (fun x98 => (b_ret (x_c (eB false)) (fun x99 => (Lf.ret false)) (.inl rfl) (fun x99 => ql_ret rfl (by repeat (first | exact wk_nil | apply wk_a | apply wk_s))))) (fun x98 => (b_skip (b_last (b_if (xt_tst (x_primT (xa_v (x_callP (xa_p (x_var (d := (eQ eI (eT (eP eI eI)) (eT eI)) x19.2.1) 3 rfl) (fun _ => (puQ puI (puT (puP puI puI)) (puT puI)) _) (fun x100 => (xa_p (x_var (d := (eT eI) x22.2.1) 4 rfl) (fun _ => (puT puI) _) (fun x101 => (xa_v (x_primT (xa_p (x_var (d := eI x63.2) 7 rfl) (fun _ => puI _) (fun x102 => (xa_v (x_c (eI 1)) (fun x103 => xa_nil)))) (fun _ => op_sub' _ _)) (fun x104 => (xa_p (x_var (d := (eT (eP (eT eI) (eT eI))) x66.2.1) 10 rfl) (fun _ => (puT (puP (puT puI) (puT puI))) _) (fun x105 => xa_nil)))))))) rfl (fun _ _ h => tok_shows_reach  _ _ _ _ _ h)) (fun x107 => (xa_v (x_c (eB false)) (fun x108 => xa_nil)))) (fun _ => op_notB _ _))) (fun x109 => (b_ret (x_c (eB false)) (fun x110 => (Lf.ret false)) (.inl rfl) (fun x110 => ql_ret rfl (by repeat (first | exact wk_nil | apply wk_a | apply wk_s))))) (fun x109 => (b_skip (b_endL (z := x98.1.1.1.2.1.2.2) (by repeat (first | exact wk_nil | apply wk_a | apply wk_s)))))))))))))))))))) (fun x47 x111 => ql_ret rfl (by repeat (first | exact wk_nil | apply wk_a | apply wk_s))) (fun x47 x48 => (b_endL (z := ()) (by repeat (first | exact wk_nil | apply wk_a | apply wk_s)))))) (fun x34 => (b_skip (b_endL (z := ()) (by repeat (first | exact wk_nil | apply wk_a | apply wk_s)))))))))) (fun x26 => (b_skip (b_endL (z := ()) (by repeat (first | exact wk_nil | apply wk_a | apply wk_s)))))))))))))) (fun x9 x113 => qf_ret rfl (by repeat (first | exact wk_nil | apply wk_a | apply wk_s))) (fun x9 x10 => (b_last (b_ret (x_c (eB true)) (fun x112 => true) (.inl rfl) (fun x112 => qf_ret rfl (by repeat (first | exact wk_nil | apply wk_a | apply wk_s))))))) (by dsimp only [p_law])) rfl (by simp [okM]) (fun z => (coll_0P rfl coll_nilP))
/-! digits of a cell's own, else numbers mixed of it and of a count -/
def St3 (s : List Int) : Prop := ∃ a b c : Int, s = [a, b, c] ∧ 0 ≤ a ∧ 0 ≤ b ∧ b < 2147483647 ∧ 0 ≤ c
theorem pick_w {s : List Int} {m : Int} (h : St3 s) (hm : 0 < m) (hm2 : m < 10000000) : Sp (p__law_pick s m) (fun r => 0 ≤ r.1 ∧ r.1 < m ∧ St3 r.2) := by
  obtain ⟨a, b, c, rfl, ha, hb, hb2, hc⟩ := h
  have at2 : ∀ x y z : Int, atI [x, y, z] 2 = some z := fun x y z => rfl
  have set2 : ∀ x y z v : Int, setT [x, y, z] 2 v = some [x, y, v] := fun x y z v => rfl
  unfold p__law_pick
  simp only [at0, at1, at2, set0, set1, set2, Option.bind_some]
  refine w_ite (fun c0 => ?_) fun c0 => ?_
  · rw [modT_of hm, Option.bind_some, divT_of hm (by omega)]
    exact w_some ⟨Int.emod_nonneg _ (by omega), Int.emod_lt_of_pos _ hm, _, _, _, rfl, Int.ediv_nonneg ha (by omega), hb, hb2, hc⟩
  · rw [mulT_l (by omega) (by omega), Option.bind_some, modT_of hm]
    exact w_some ⟨Int.emod_nonneg _ (by omega), Int.emod_lt_of_pos _ hm, _, _, _, rfl, ha, by omega, by omega, by omega⟩
theorem left_w (ns : List Int) (k : Int) (h0 : 0 ≤ k) (h1 : k < 1000000) : Sp (p__law_left ns k) St3 := by
  unfold p__law_left
  refine w_bind (P := fun _ => True) (w_ite (fun c => ?_) fun c => w_some trivial) fun cell _ => ?_
  · have c := of_decide_eq_true c
    rw [modT_of c, Option.bind_some, atI_get' (Int.emod_nonneg _ (by omega)) (Int.emod_lt_of_pos _ c)]
    exact w_some trivial
  · refine w_let fun digits hd => ?_
    rw [mulT_r (by omega) (by omega), Option.bind_some]
    refine w_some ⟨_, _, _, rfl, ?_, Int.emod_nonneg _ (by decide), Int.emod_lt_of_pos _ (by decide), by decide⟩
    rw [hd]
    exact Int.mul_nonneg (Int.emod_nonneg _ (by decide)) (by split <;> decide)
/-! nets that are drawn -/
abbrev Net := Int × List (Int × Int) × List Int
def GoodF (L : Int) (p : Int × Int) : Prop := 0 ≤ p.1 ∧ p.1 < L ∧ 0 ≤ p.2 ∧ p.2 < L ∧ p.1 ≠ p.2
structure GoodN (N : Net) : Prop where
  l1 : 1 ≤ N.1
  l16 : N.1 ≤ 16
  many : N.2.1.length ≤ 128
  forks : ∀ p ∈ N.2.1, GoodF N.1 p
  ends : N.2.2.Perm (rngI 0 N.1.toNat)
theorem GoodN.elen {N : Net} (h : GoodN N) : N.2.2.length = N.1.toNat := by rw [h.ends.length_eq, rngI_len]
theorem GoodN.eget {N : Net} (h : GoodN N) {x : Int} (hx : x ∈ N.2.2) : 0 ≤ x ∧ x < N.1 := by
  have := rngI_mem (h.ends.mem_iff.mp hx)
  have := h.l1
  omega
theorem ring_ne {L a b : Int} (hL : 2 ≤ L) (a0 : 0 ≤ a) (a1 : a < L) (b0 : 0 ≤ b) (b1 : b < L - 1) : (a + 1 + b) % L ≠ a := by
  intro z
  rcases Int.lt_or_le (a + 1 + b) L with y | y
  · rw [Int.emod_eq_of_lt (by omega) y] at z; omega
  · rw [show a + 1 + b = (a + 1 + b - L) + L * 1 by omega, Int.add_mul_emod_self_left, Int.emod_eq_of_lt (by omega) (by omega)] at z; omega
theorem next_ne {L k : Int} (hL : 2 ≤ L) : k % L ≠ (k + 1) % L := by
  intro z
  have q1 := Int.emod_nonneg k (show L ≠ 0 by omega)
  have q2 := Int.emod_lt_of_pos k (show 0 < L by omega)
  have := ring_ne (b := 0) hL q1 q2 (by omega) (by omega)
  apply this
  rw [Int.add_zero, Int.emod_add_emod]
  exact z.symm
theorem perm_pop {α : Type} (lf en : List α) (j : Nat) (hj : j < lf.length) : (lf.eraseIdx j ++ (en ++ [lf[j]])).Perm (lf ++ en) := by
  have e : lf.Perm (lf[j] :: lf.eraseIdx j) := by
    rw [List.eraseIdx_eq_take_drop_succ]
    have z : lf = lf.take j ++ lf[j] :: lf.drop (j + 1) := by
      rw [← List.drop_eq_getElem_cons hj, List.take_append_drop]
    conv => lhs; rw [z]
    exact List.perm_middle
  refine .trans ?_ (e.append_right en).symm
  rw [← List.append_assoc]
  exact (List.perm_append_comm (l₁ := lf.eraseIdx j ++ en) (l₂ := [lf[j]]))
/-! k35's nets: what is drawn -/
def mixedF : (List Int) × (List Int) × (List Int) → Option (Option (Lf ((List Int) × (List Int) × (List Int)) ((List Int) × (List Int)))) := (fun (s7 : ((List Int) × (List Int) × (List Int))) => if (!decide (s7.2.1 = ([] : (List Int)))) = true then (((p__law_pick  s7.1 (s7.2.1.length : Int))).bind fun t13 => ((popT s7.2.1 t13.1)).bind fun t15 => ((appT s7.2.2 t15.1)).bind fun found => some (.go (t13.2, t15.2, found))).bind fun w => some (some w) else some none)
theorem mixed_while : ∀ (m n : Nat) (s xs fs : List Int), xs.length = m → m < n → St3 s → fs.length + m ≤ 100000 →
    Sp (lpW mixedF n (s, xs, fs)) (Go fun w => St3 w.1 ∧ w.2.2.Perm (xs ++ fs))
  | _, 0, _, _, _, _, h, _, _ => by omega
  | 0, n + 1, s, xs, fs, hr, _, hs, _ => by
    have : xs = [] := List.length_eq_zero_iff.mp hr
    subst this
    exact ⟨_, rfl, _, rfl, hs, .refl _⟩
  | m + 1, n + 1, s, xs, fs, hr, hn, hs, hl => by
    have hne : decide (xs = ([] : List Int)) = false := by cases xs with
      | nil => simp at hr
      | cons _ _ => simp
    obtain ⟨u, e, u0, u1, hu⟩ := pick_w hs (m := (xs.length : Int)) (by omega) (by omega)
    have hk : u.1.toNat < xs.length := by omega
    have ep := popT_of (xs := xs) (by omega) u0 (by omega)
    have hp := perm_pop xs fs u.1.toNat hk
    have hlen : (xs.eraseIdx u.1.toNat).length = m := by rw [List.length_eraseIdx_of_lt hk]; omega
    generalize xs.eraseIdx u.1.toNat = xs2 at hp hlen ep
    generalize xs[u.1.toNat] = f at hp ep
    have st : mixedF (s, xs, fs) = some (some (.go (u.2, xs2, fs ++ [f]))) := by
      unfold mixedF
      simp only [hne, Bool.not_false, if_true]
      rw [e, Option.bind_some, ep, Option.bind_some]
      simp only []
      rw [appT_of (by omega)]; rfl
    rw [lpW, st, Option.bind_some]
    obtain ⟨x, x1, y, x2, y1, y2⟩ := mixed_while m n u.2 xs2 (fs ++ [f]) hlen (by omega) hu (by simp; omega)
    exact ⟨x, x1, y, x2, y1, y2.trans hp⟩
theorem mixed_w {n : Nat} {s xs : List Int} (hn : xs.length < n * 256) (hx : xs.length ≤ 100000) (h : St3 s) : Sp (p__law_mixed__at0 n s xs) (fun r => r.1.Perm xs ∧ St3 r.2) := by
  unfold p__law_mixed__at0
  refine w_on (mixed_while _ (n * 256) s xs [] rfl hn h (by simp; omega)) fun w ⟨w1, w2⟩ => w_some ⟨by simpa using w2, w1⟩
theorem w_lcSm {σ α δ : Type} {F : σ → α → Option (Option δ × σ)} (I : σ → Prop) (P : δ → Prop) : ∀ (ys : List α) (s : σ), I s → (∀ y ∈ ys, ∀ s, I s → Sp (F s y) fun r => (∀ d, r.1 = some d → P d) ∧ I r.2) → Sp (lcS F ys s) fun r => (∀ d ∈ r.1, P d) ∧ I r.2 ∧ r.1.length ≤ ys.length
  | [], s, h, _ => ⟨_, rfl, (fun d hd => by cases hd), h, Nat.le_refl _⟩
  | y :: ys, s, h, hs => by
    obtain ⟨⟨o, s1⟩, e, h1, h2⟩ := hs y (List.mem_cons_self ..) s h
    obtain ⟨⟨zs, s2⟩, e2, h3, h4, h5⟩ := w_lcSm I P ys s1 h2 fun y hy => hs y (List.mem_cons_of_mem _ hy)
    cases o with
    | none => exact ⟨(zs, s2), by rw [lcS, e, Option.bind_some]; simp [e2], h3, h4, by rw [List.length_cons]; exact Nat.le_succ_of_le h5⟩
    | some d => exact ⟨(d :: zs, s2), by rw [lcS, e, Option.bind_some]; simp [e2], fun x hx => by
        rcases List.mem_cons.mp hx with rfl | hx
        · exact h1 _ rfl
        · exact h3 x hx, h4, by rw [List.length_cons, List.length_cons]; exact Nat.succ_le_succ h5⟩
theorem some_w {s : List Int} (h : St3 s) {N : Net} (hN : GoodN N) : Sp (p__law_some s N) fun r => (∀ a ∈ r.1, 0 ≤ a ∧ a < N.1) ∧ r.1.length ≤ N.1.toNat ∧ St3 r.2 := by
  have l1 := hN.l1
  have l16 := hN.l16
  have rg : ∀ a ∈ rngI 0 N.1.toNat, 0 ≤ a ∧ a < N.1 := fun a ha => by
    have := rngI_mem ha
    omega
  have rl : (rngI 0 N.1.toNat).length ≤ N.1.toNat := by rw [rngI_len]; exact Nat.le_refl _
  unfold p__law_some
  rw [rngO_of (by omega), Option.bind_some]
  refine w_lim (by omega) ?_
  refine w_bind (w_lcSm St3 (fun a => 0 ≤ a ∧ a < N.1) _ s h fun y hy s hs => ?_) fun t22 ⟨q1, q2, q3⟩ => ?_
  · refine w_bind (pick_w hs (by decide) (by decide)) fun u ⟨_, _, us⟩ => w_ite (fun _ => w_some ⟨(fun d hd => by cases hd; exact rg y hy), us⟩) fun _ => w_some ⟨(fun d hd => by cases hd), us⟩
  · rw [Option.bind_some]
    refine w_bind (P := fun x => (∀ a ∈ x.1, 0 ≤ a ∧ a < N.1) ∧ x.1.length ≤ N.1.toNat ∧ St3 x.2) (w_ite (fun _ => w_some ⟨q1, Nat.le_trans q3 rl, q2⟩) fun _ => ?_) fun x ⟨x1, x2, x3⟩ => ?_
    · refine w_bind (pick_w q2 (by omega) (by omega)) fun u ⟨u0, u1, us⟩ => w_some ⟨fun a ha => by rw [List.mem_singleton.mp ha]; exact ⟨u0, u1⟩, by show 1 ≤ N.1.toNat; omega, us⟩
    · refine w_bind (pick_w x3 (by decide) (by decide)) fun u ⟨u0, u1, us⟩ => ?_
      refine w_bind (w_atI u0 (by simpa using u1)) fun z hz => w_some ?_
      rcases List.mem_cons.mp hz with rfl | hz
      · exact ⟨rg, rl, us⟩
      · rw [List.mem_singleton.mp hz]
        exact ⟨x1, x2, us⟩
/-! nets made, changed; fuel 20 -/
def goodB (N : Net) : Bool := decide (1 ≤ N.1) && decide (N.1 ≤ 16) && decide (N.2.1.length ≤ 8) && N.2.1.all (fun p => decide (0 ≤ p.1) && decide (p.1 < N.1) && decide (0 ≤ p.2) && decide (p.2 < N.1) && decide (p.1 ≠ p.2)) && N.2.2.isPerm (rngI 0 N.1.toNat)
theorem goodB_ok {N : Net} (h : goodB N = true) : GoodN N ∧ N.2.1.length ≤ 8 := by
  unfold goodB at h
  simp only [Bool.and_eq_true, decide_eq_true_eq, List.all_eq_true] at h
  obtain ⟨⟨⟨⟨h1, h2⟩, h3⟩, h4⟩, h5⟩ := h
  exact ⟨⟨h1, h2, by omega, fun p hp => by
    obtain ⟨⟨⟨⟨a, b⟩, c⟩, d⟩, e⟩ := h4 p hp
    exact ⟨a, b, c, d, e⟩, List.isPerm_iff.mp h5⟩, h3⟩
def madeB (way size : Int) : Bool := match p__law_made 64 way size with
  | some N => goodB N && decide (N.1 = (2 : Int) ^ size.toNat)
  | none => false
theorem made_all : ([0, 1, 2] : List Int).all (fun w => ([0, 1, 2] : List Int).all fun s => madeB w s) = true := by decide +kernel
theorem made_w {way size : Int} (w0 : 0 ≤ way) (w1 : way < 3) (s0 : 0 ≤ size) (s1 : size < 3) : Sp (p__law_made 64 way size) fun N => GoodN N ∧ N.2.1.length ≤ 8 ∧ N.1 = (2 : Int) ^ size.toNat := by
  have h := made_all
  rw [List.all_eq_true] at h
  have h := h way (by simp; omega)
  rw [List.all_eq_true] at h
  have h := h size (by simp; omega)
  unfold madeB at h
  split at h
  · rename_i N e
    rw [Bool.and_eq_true, decide_eq_true_eq] at h
    obtain ⟨g, l⟩ := goodB_ok h.1
    exact ⟨N, e, g, l, h.2⟩
  · cases h
theorem swap_perm (l : List Int) (i j : Nat) (hi : i < l.length) (hj : j < l.length) : ((l.set i (l.getD j 0)).set j (l.getD i 0)).Perm l := by
  have h := Array.swap_perm (xs := l.toArray) (i := i) (j := j) (by simpa using hi) (by simpa using hj)
  rw [Array.perm_iff_toList_perm] at h
  rw [List.getD_eq_getElem?_getD, List.getD_eq_getElem?_getD, List.getElem?_eq_getElem hi, List.getElem?_eq_getElem hj]
  simpa [Array.swap_def] using h
theorem cutL_le2 {α : Type} (xs : List α) (l u : Option Int) : (cutL xs l u).length ≤ xs.length := by
  unfold cutL
  simp only [List.length_take, List.length_drop]
  omega
theorem cutL_mem2 {α : Type} {xs : List α} {l u : Option Int} {x : α} (h : x ∈ cutL xs l u) : x ∈ xs := by
  unfold cutL at h
  exact List.mem_of_mem_drop (List.mem_of_mem_take h)
/-! k35: nets changed, drawn, one behind another -/
theorem GoodN.of_forks {N : Net} (h : GoodN N) {fs : List (Int × Int)} (hl : fs.length ≤ 128) (hg : ∀ p ∈ fs, GoodF N.1 p) : GoodN (N.1, fs, N.2.2) := ⟨h.l1, h.l16, hl, hg, h.ends⟩
/-- two neighbouring forks are one and the same -/
def Twin (fs : List (Int × Int)) : Prop := ∃ (a b : List (Int × Int)) (p : Int × Int), fs = a ++ p :: p :: b
theorem changed_w {s : List Int} (h : St3 s) {N : Net} (hN : GoodN N) (hm : N.2.1.length ≤ 100) : Sp (p__law_changed s N) fun r => GoodN r.1 ∧ r.1.1 = N.1 ∧ (r.1.2.1.length ≤ N.2.1.length + 1 ∧ (r.1.2.1.length ≤ N.2.1.length ∨ Twin r.1.2.1)) ∧ St3 r.2 := by
  have l1 := hN.l1
  have l16 := hN.l16
  have el := hN.elen
  unfold p__law_changed
  refine w_bind (pick_w h (by decide) (by decide)) fun u1 ⟨a0, a1, t1⟩ => ?_
  refine w_bind (pick_w t1 (by omega) (by omega)) fun u2 ⟨b0, b1, t2⟩ => ?_
  refine w_bind (pick_w t2 (by omega) (by omega)) fun u3 ⟨c0, c1, t3⟩ => ?_
  obtain ⟨k, hk⟩ : ∃ k : Nat, u2.1 = (k : Int) := ⟨u2.1.toNat, by omega⟩
  have kl : k ≤ N.2.1.length := by omega
  have e0 : cutL N.2.1 none (some u2.1) = N.2.1.take k := by rw [hk, cutL_to]
  have e1 : cutL N.2.1 (some (u2.1 + 1)) none = N.2.1.drop (k + 1) := by rw [show u2.1 + 1 = ((k + 1 : Nat) : Int) by omega, cutL_from]
  have e2 : cutL N.2.1 (some u2.1) none = N.2.1.drop k := by rw [hk, cutL_from]
  have e3 : cutL N.2.1 (some (u2.1 + 2)) none = N.2.1.drop (k + 2) := by rw [show u2.1 + 2 = ((k + 2 : Nat) : Int) by omega, cutL_from]
  have one : ∀ a : Nat, (cutL N.2.1 (some (a : Int)) (some ((a + 1 : Nat) : Int))).length ≤ 1 ∧ (N.2.1.length ≤ a → (cutL N.2.1 (some (a : Int)) (some ((a + 1 : Nat) : Int))).length = 0) := fun a => by
    unfold cutL
    rw [HT.sIx_nat, HT.sIx_nat, List.length_take, List.length_drop]
    omega
  have o1 := one k
  rw [show (((k + 1 : Nat) : Int)) = u2.1 + 1 by omega, ← hk] at o1
  have o2 := one (k + 1)
  rw [show (((k + 1 + 1 : Nat) : Int)) = u2.1 + 2 by omega, show (((k + 1 : Nat) : Int)) = u2.1 + 1 by omega] at o2
  refine w_let fun here hh => ?_
  subst hh
  have gt : ∀ p ∈ N.2.1.take k, GoodF N.1 p := fun p hp => hN.forks p (List.mem_of_mem_take hp)
  have gd : ∀ j, ∀ p ∈ N.2.1.drop j, GoodF N.1 p := fun j p hp => hN.forks p (List.mem_of_mem_drop hp)
  have gc : ∀ a b, ∀ p ∈ cutL N.2.1 a b, GoodF N.1 p := fun a b p hp => hN.forks p (cutL_mem2 hp)
  have lt : (N.2.1.take k).length = k := by rw [List.length_take]; omega
  refine w_ite (fun _ => ?_) fun _ => w_ite (fun _ => ?_) fun _ => w_ite (fun _ => ?_) fun _ => w_ite (fun _ => ?_) fun _ => ?_
  · refine w_lim (by omega) ?_
    rw [e0, e1, catT_of (by rw [List.length_map]; omega), Option.bind_some, catT_of (by simp; omega), Option.bind_some]
    have lb : (N.2.1.take k ++ List.map (fun (y : Int × Int) => (y.2, y.1)) (cutL N.2.1 (some u2.1) (some (u2.1 + 1))) ++ N.2.1.drop (k + 1)).length ≤ N.2.1.length + 1 := by
      rw [List.length_append, List.length_append, List.length_map, List.length_drop, lt]
      omega
    have lb2 : (N.2.1.take k ++ List.map (fun (y : Int × Int) => (y.2, y.1)) (cutL N.2.1 (some u2.1) (some (u2.1 + 1))) ++ N.2.1.drop (k + 1)).length ≤ N.2.1.length := by
      rw [List.length_append, List.length_append, List.length_map, List.length_drop, lt]
      have : k < N.2.1.length ∨ N.2.1.length ≤ k := by omega
      rcases this with q | q
      · omega
      · have := o1.2 q
        omega
    refine w_some ⟨hN.of_forks (by omega) fun p hp => ?_, rfl, ⟨lb, .inl lb2⟩, t3⟩
    rcases List.mem_append.mp hp with hp | hp
    · rcases List.mem_append.mp hp with hp | hp
      · exact gt p hp
      · obtain ⟨q, hq, rfl⟩ := List.mem_map.mp hp
        have g := gc _ _ q hq
        exact ⟨g.2.2.1, g.2.2.2.1, g.1, g.2.1, fun z => g.2.2.2.2 z.symm⟩
    · exact gd _ p hp
  · rw [e0, e1, catT_of (by simp; omega), Option.bind_some]
    have lb : (N.2.1.take k ++ N.2.1.drop (k + 1)).length ≤ N.2.1.length + 1 := by
      rw [List.length_append, List.length_drop, lt]
      omega
    have lb2 : (N.2.1.take k ++ N.2.1.drop (k + 1)).length ≤ N.2.1.length := by
      rw [List.length_append, List.length_drop, lt]
      omega
    refine w_some ⟨hN.of_forks (by omega) fun p hp => ?_, rfl, ⟨lb, .inl lb2⟩, t3⟩
    rcases List.mem_append.mp hp with hp | hp
    · exact gt p hp
    · exact gd _ p hp
  · rw [e0, e2, catT_of (by omega), Option.bind_some, catT_of (by simp; omega), Option.bind_some]
    have lb : (N.2.1.take k ++ cutL N.2.1 (some u2.1) (some (u2.1 + 1)) ++ N.2.1.drop k).length ≤ N.2.1.length + 1 := by
      rw [List.length_append, List.length_append, List.length_drop, lt]
      omega
    have lb2 : (N.2.1.take k ++ cutL N.2.1 (some u2.1) (some (u2.1 + 1)) ++ N.2.1.drop k).length ≤ N.2.1.length ∨ Twin (N.2.1.take k ++ cutL N.2.1 (some u2.1) (some (u2.1 + 1)) ++ N.2.1.drop k) := by
      have : k < N.2.1.length ∨ N.2.1.length ≤ k := by omega
      rcases this with q | q
      · right
        have ec : cutL N.2.1 (some u2.1) (some (u2.1 + 1)) = [N.2.1[k]] := by
          rw [hk, show ((k : Int) + 1) = ((k + 1 : Nat) : Int) by rfl]
          unfold cutL
          rw [HT.sIx_nat, HT.sIx_nat, Nat.min_eq_left (by omega), Nat.min_eq_left (by omega), List.drop_eq_getElem_cons q, show k + 1 - k = 1 by omega]
          rfl
        refine ⟨N.2.1.take k, N.2.1.drop (k + 1), N.2.1[k], ?_⟩
        rw [ec, List.append_assoc, List.drop_eq_getElem_cons q]
        rfl
      · left
        rw [List.length_append, List.length_append, List.length_drop, lt]
        have := o1.2 q
        omega
    refine w_some ⟨hN.of_forks (by omega) fun p hp => ?_, rfl, ⟨lb, lb2⟩, t3⟩
    rcases List.mem_append.mp hp with hp | hp
    · rcases List.mem_append.mp hp with hp | hp
      · exact gt p hp
      · exact gc _ _ p hp
    · exact gd _ p hp
  · rw [e0, e3, catT_of (by omega), Option.bind_some, catT_of (by simp; omega), Option.bind_some, catT_of (by simp; omega), Option.bind_some]
    have lb : (N.2.1.take k ++ cutL N.2.1 (some (u2.1 + 1)) (some (u2.1 + 2)) ++ cutL N.2.1 (some u2.1) (some (u2.1 + 1)) ++ N.2.1.drop (k + 2)).length ≤ N.2.1.length + 1 := by
      rw [List.length_append, List.length_append, List.length_append, List.length_drop, lt]
      have : k < N.2.1.length ∨ N.2.1.length ≤ k := by omega
      rcases this with q | q
      · omega
      · have := o1.2 q
        have := o2.2 (by omega)
        omega
    have lb2 : (N.2.1.take k ++ cutL N.2.1 (some (u2.1 + 1)) (some (u2.1 + 2)) ++ cutL N.2.1 (some u2.1) (some (u2.1 + 1)) ++ N.2.1.drop (k + 2)).length ≤ N.2.1.length := by
      rw [List.length_append, List.length_append, List.length_append, List.length_drop, lt]
      have : k < N.2.1.length ∨ N.2.1.length ≤ k := by omega
      rcases this with q | q
      · omega
      · have := o1.2 q
        have := o2.2 (by omega)
        omega
    refine w_some ⟨hN.of_forks (by omega) fun p hp => ?_, rfl, ⟨lb, .inl lb2⟩, t3⟩
    rcases List.mem_append.mp hp with hp | hp
    · rcases List.mem_append.mp hp with hp | hp
      · rcases List.mem_append.mp hp with hp | hp
        · exact gt p hp
        · exact gc _ _ p hp
      · exact gc _ _ p hp
    · exact gd _ p hp
  · rw [atI_D 0 c0 (by omega), Option.bind_some, atI_D 0 (by decide) (by omega), Option.bind_some, setT_nn (by decide) (by omega), Option.bind_some, setT_nn c0 (by rw [List.length_set]; omega), Option.bind_some]
    refine w_some ⟨⟨l1, l16, hN.many, hN.forks, ?_⟩, rfl, ⟨Nat.le_succ _, .inl (Nat.le_refl _)⟩, t3⟩
    exact (swap_perm N.2.2 0 u3.1.toNat (by omega) (by omega)).trans hN.ends
/-! what comes of counts -/
def manyL (c : List Int) (p : Int × Int) : Int := c.getD p.1.toNat 0 + c.getD p.2.toNat 0
def hafL (c : List Int) (p : Int × Int) : List Int := (c.set p.1.toNat ((manyL c p + 1) / 2)).set p.2.toNat (manyL c p / 2)
def lanesL : List Int → List (Int × Int) → List Int
  | c, [] => c
  | c, p :: fs => lanesL (hafL c p) fs
def totalsL : List Int → List (Int × Int) → List Int
  | _, [] => []
  | c, p :: fs => manyL c p :: totalsL (hafL c p) fs
theorem haf_len (c : List Int) (p : Int × Int) : (hafL c p).length = c.length := by unfold hafL; simp
theorem lanesL_len : ∀ (fs : List (Int × Int)) (c : List Int), (lanesL c fs).length = c.length
  | [], _ => rfl
  | p :: fs, c => by rw [lanesL, lanesL_len fs, haf_len]
theorem totalsL_len : ∀ (fs : List (Int × Int)) (c : List Int), (totalsL c fs).length = fs.length
  | [], _ => rfl
  | p :: fs, c => by rw [totalsL, List.length_cons, List.length_cons, totalsL_len fs]
theorem GoodN.lens {N : Net} (h : GoodN N) {c : List Int} (hc : (c.length : Int) = N.1) : ∀ p ∈ N.2.1, GoodF c.length p := fun p hp => by rw [hc]; exact h.forks p hp
def endsL (N : Net) (c : List Int) : List Int := N.2.2.map fun e => (lanesL c N.2.1).getD e.toNat 0
def turnsL (N : Net) (c : List Int) : List Int := (totalsL c N.2.1).map fun m => m % 2
theorem endsL_len {N : Net} {c : List Int} : (endsL N c).length = N.2.2.length := by unfold endsL; simp
theorem turnsL_len {N : Net} {c : List Int} : (turnsL N c).length = N.2.1.length := by unfold turnsL; rw [List.length_map, totalsL_len]
theorem sum_set : ∀ (xs : List Int) (i : Nat) (v : Int), i < xs.length → (xs.set i v).sum = xs.sum - xs.getD i 0 + v
  | [], i, v, h => by simp at h
  | x :: xs, 0, v, _ => by simp; omega
  | x :: xs, i + 1, v, h => by
    have := sum_set xs i v (by simpa using h)
    rw [List.set_cons_succ, List.sum_cons, List.sum_cons, this, List.getD_cons_succ]; omega
theorem haf_sum {c : List Int} {p : Int × Int} (h : GoodF c.length p) : (hafL c p).sum = c.sum := by
  obtain ⟨g1, g2, g3, g4, g5⟩ := h
  unfold hafL
  rw [sum_set _ _ _ (by rw [List.length_set]; omega), sum_set _ _ _ (by omega)]
  have : (c.set p.1.toNat ((manyL c p + 1) / 2)).getD p.2.toNat 0 = c.getD p.2.toNat 0 := by
    rw [List.getD_eq_getElem?_getD, List.getElem?_set, if_neg (by omega), List.getD_eq_getElem?_getD]
  rw [this]
  have e : manyL c p = c.getD p.1.toNat 0 + c.getD p.2.toNat 0 := rfl
  omega
theorem lanesL_sum : ∀ (fs : List (Int × Int)) (c : List Int), (∀ p ∈ fs, GoodF c.length p) → (lanesL c fs).sum = c.sum
  | [], _, _ => rfl
  | p :: fs, c, h => by
    rw [lanesL, lanesL_sum fs _ fun q hq => by rw [haf_len]; exact h q (List.mem_cons_of_mem _ hq), haf_sum (h p (List.mem_cons_self ..))]
theorem map_range_get (xs : List Int) : (rngI 0 xs.length).map (fun e => xs.getD e.toNat 0) = xs := by
  unfold rngI
  rw [List.map_map]
  refine List.ext_getElem (by simp) fun i h1 h2 => ?_
  rw [List.getElem_map, List.getElem_range]
  simp only [Function.comp]
  rw [show ((0 : Int) + (i : Nat)).toNat = i by omega, List.getD_eq_getElem?_getD, List.getElem?_eq_getElem h2]; rfl
theorem perm_sum : ∀ {a b : List Int}, a.Perm b → a.sum = b.sum := fun h => by
  induction h with
  | nil => rfl
  | cons x _ ih => rw [List.sum_cons, List.sum_cons, ih]
  | swap x y l => simp only [List.sum_cons]; omega
  | trans _ _ a b => exact a.trans b
theorem ends_sum {N : Net} {c : List Int} (h : GoodN N) (hc : (c.length : Int) = N.1) : (endsL N c).sum = c.sum := by
  have h1 := perm_sum (h.ends.map fun e => (lanesL c N.2.1).getD e.toNat 0)
  have h2 : N.1.toNat = (lanesL c N.2.1).length := by rw [lanesL_len]; omega
  unfold endsL
  rw [h1, h2, map_range_get, lanesL_sum _ _ (h.lens hc)]
/-! balls one by one -/
def addL (c : List Int) (a : Nat) (d : Int) : List Int := c.set a (c.getD a 0 + d)
theorem addL_len (c : List Int) (a : Nat) (d : Int) : (addL c a d).length = c.length := by unfold addL; simp
theorem get_set' (c : List Int) (i j : Nat) (v : Int) (h : i < c.length) : (c.set i v).getD j 0 = if i = j then v else c.getD j 0 := by
  rw [List.getD_eq_getElem?_getD, List.getElem?_set, List.getD_eq_getElem?_getD]
  by_cases e : i = j
  · rw [if_pos e, if_pos h, if_pos e]; rfl
  · rw [if_neg e, if_neg e]
theorem ext_D {a b : List Int} (hl : a.length = b.length) (h : ∀ i, i < a.length → a.getD i 0 = b.getD i 0) : a = b := by
  refine List.ext_getElem hl fun i h1 h2 => ?_
  have := h i h1
  rw [List.getD_eq_getElem?_getD, List.getElem?_eq_getElem h1, List.getD_eq_getElem?_getD, List.getElem?_eq_getElem h2] at this
  exact this
theorem add_get {c : List Int} {a : Nat} (d : Int) (h : a < c.length) (i : Nat) : (addL c a d).getD i 0 = if a = i then c.getD a 0 + d else c.getD i 0 := get_set' _ _ _ _ h
theorem haf_get {c : List Int} {p : Int × Int} (h : GoodF c.length p) (i : Nat) : (hafL c p).getD i 0 = if p.2.toNat = i then manyL c p / 2 else if p.1.toNat = i then (manyL c p + 1) / 2 else c.getD i 0 := by
  obtain ⟨g1, g2, g3, g4, g5⟩ := h
  unfold hafL
  rw [get_set' _ _ _ _ (by rw [List.length_set]; omega), get_set' _ _ _ _ (by omega)]
def onF' (a : Int) (p : Int × Int) : Bool := decide (p.1 = a) || decide (p.2 = a)
def nxtL (d t : Int) (p : Int × Int) : Int := if (d = 1) = (t = 0) then p.1 else p.2
theorem nx_p0 (p : Int × Int) : nxtL 1 0 p = p.1 := by simp [nxtL]
theorem nx_p1 (p : Int × Int) : nxtL 1 1 p = p.2 := by simp [nxtL]
theorem nx_m0 (p : Int × Int) : nxtL (-1) 0 p = p.2 := by simp [nxtL]
theorem nx_m1 (p : Int × Int) : nxtL (-1) 1 p = p.1 := by simp [nxtL]
theorem haf_off {c : List Int} {p : Int × Int} (h : GoodF c.length p) {a : Nat} (ha : a < c.length) (d : Int) (ho : onF' a p = false) : hafL (addL c a d) p = addL (hafL c p) a d ∧ manyL (addL c a d) p = manyL c p := by
  obtain ⟨g1, g2, g3, g4, g5⟩ := id h
  unfold onF' at ho
  rw [Bool.or_eq_false_iff] at ho
  have o1 := of_decide_eq_false ho.1
  have o2 := of_decide_eq_false ho.2
  have e : manyL (addL c a d) p = manyL c p := by
    unfold manyL
    rw [add_get d ha, add_get d ha, if_neg (by omega), if_neg (by omega)]
  refine ⟨ext_D (by rw [haf_len, addL_len, addL_len, haf_len]) fun i _ => ?_, e⟩
  rw [haf_get (by rw [addL_len]; exact h), e, add_get (c := c) d ha, add_get (c := hafL c p) d (show a < (hafL c p).length by rw [haf_len]; exact ha) i, haf_get h, haf_get h]
  rw [if_neg (by omega : ¬ p.2.toNat = a), if_neg (by omega : ¬ p.1.toNat = a)]
  by_cases c1 : a = i
  · subst c1
    rw [if_neg (by omega), if_neg (by omega), if_pos rfl, if_pos rfl]
  · rw [if_neg c1, if_neg c1]
theorem haf_on {c : List Int} {p : Int × Int} (h : GoodF c.length p) {a : Nat} (ha : a < c.length) {d : Int} (hd : d = 1 ∨ d = -1) (ho : onF' a p = true) :
    hafL (addL c a d) p = addL (hafL c p) (nxtL d (manyL c p % 2) p).toNat d ∧ manyL (addL c a d) p = manyL c p + d := by
  obtain ⟨g1, g2, g3, g4, g5⟩ := id h
  unfold onF' at ho
  rw [Bool.or_eq_true] at ho
  have e : manyL (addL c a d) p = manyL c p + d := by
    unfold manyL
    rw [add_get d ha, add_get d ha]
    rcases ho with ho | ho
    · have ho := of_decide_eq_true ho
      rw [if_pos (by omega), if_neg (by omega), show a = p.1.toNat by omega]; omega
    · have ho := of_decide_eq_true ho
      rw [if_neg (by omega), if_pos (by omega), show a = p.2.toNat by omega]; omega
  have hn : (nxtL d (manyL c p % 2) p).toNat < c.length := by unfold nxtL; split <;> omega
  refine ⟨ext_D (by rw [haf_len, addL_len, addL_len, haf_len]) fun i _ => ?_, e⟩
  rw [haf_get (by rw [addL_len]; exact h), e, add_get (c := c) d ha, add_get (c := hafL c p) d (show (nxtL d (manyL c p % 2) p).toNat < (hafL c p).length by rw [haf_len]; exact hn) i, haf_get h, haf_get h]
  have hm : manyL c p % 2 = 0 ∨ manyL c p % 2 = 1 := by omega
  have ho' : p.1 = a ∨ p.2 = a := ho.imp of_decide_eq_true of_decide_eq_true
  rcases hd with rfl | rfl <;> rcases hm with hm | hm
  · rw [hm, nx_p0]; (repeat' split) <;> omega
  · rw [hm, nx_p1]; (repeat' split) <;> omega
  · rw [hm, nx_m0]; (repeat' split) <;> omega
  · rw [hm, nx_m1]; (repeat' split) <;> omega
/-- a ball's way: its last lane, the turns behind it -/
def walkL (d : Int) : List (Int × Int) → List Int → Int → Int × List Int
  | p :: fs, t :: ts, a => if onF' a p = true then ((walkL d fs ts (nxtL d t p)).1, (1 - t) :: (walkL d fs ts (nxtL d t p)).2) else ((walkL d fs ts a).1, t :: (walkL d fs ts a).2)
  | _, ts, a => (a, ts)
def modsL (c : List Int) (fs : List (Int × Int)) : List Int := (totalsL c fs).map fun m => m % 2
theorem walk_ok {d : Int} (hd : d = 1 ∨ d = -1) : ∀ (fs : List (Int × Int)) (c : List Int) (a : Int), (∀ p ∈ fs, GoodF c.length p) → 0 ≤ a → a < c.length →
    0 ≤ (walkL d fs (modsL c fs) a).1 ∧ (walkL d fs (modsL c fs) a).1 < c.length ∧ lanesL (addL c a.toNat d) fs = addL (lanesL c fs) (walkL d fs (modsL c fs) a).1.toNat d ∧ modsL (addL c a.toNat d) fs = (walkL d fs (modsL c fs) a).2
  | [], c, a, _, h0, h1 => ⟨h0, h1, rfl, rfl⟩
  | p :: fs, c, a, hg, h0, h1 => by
    have g := hg p (List.mem_cons_self ..)
    have hg' : ∀ q ∈ fs, GoodF (hafL c p).length q := fun q hq => by rw [haf_len]; exact hg q (List.mem_cons_of_mem _ hq)
    have em : modsL c (p :: fs) = manyL c p % 2 :: modsL (hafL c p) fs := rfl
    rw [em, walkL]
    by_cases ho : onF' a p = true
    · rw [if_pos ho]
      have ho' : onF' (a.toNat : Nat) p = true := by rw [show ((a.toNat : Nat) : Int) = a by omega]; exact ho
      obtain ⟨e1, e2⟩ := haf_on g (by omega) hd ho'
      have n0 : 0 ≤ nxtL d (manyL c p % 2) p := by unfold nxtL; have := g.1; have := g.2.2.1; split <;> omega
      have n1 : nxtL d (manyL c p % 2) p < c.length := by unfold nxtL; have := g.2.1; have := g.2.2.2.1; split <;> omega
      obtain ⟨i1, i2, i3, i4⟩ := walk_ok hd fs (hafL c p) (nxtL d (manyL c p % 2) p) hg' n0 (by rw [haf_len]; exact n1)
      rw [haf_len] at i2
      refine ⟨i1, i2, ?_, ?_⟩
      · rw [lanesL, e1, i3]; rfl
      · show manyL (addL c a.toNat d) p % 2 :: modsL (hafL (addL c a.toNat d) p) fs = _
        rw [e1, e2, i4]
        congr 1
        rcases hd with rfl | rfl <;> omega
    · have ho : onF' a p = false := by simpa using ho
      rw [if_neg (by simp [ho])]
      have ho' : onF' (a.toNat : Nat) p = false := by rw [show ((a.toNat : Nat) : Int) = a by omega]; exact ho
      obtain ⟨e1, e2⟩ := haf_off g (by omega) d ho'
      obtain ⟨i1, i2, i3, i4⟩ := walk_ok hd fs (hafL c p) a hg' h0 (by rw [haf_len]; exact h1)
      rw [haf_len] at i2
      refine ⟨i1, i2, ?_, ?_⟩
      · rw [lanesL, e1, i3]; rfl
      · show manyL (addL c a.toNat d) p % 2 :: modsL (hafL (addL c a.toNat d) p) fs = _
        rw [e1, e2, i4]
/-! a ball's end -/
theorem idx_ex (b : Int) : ∀ {xs : List Int}, b ∈ xs → ∃ e : Nat, xs.findIdx? (fun z => decide (z = b)) = some e ∧ xs[e]? = some b
  | [], h => by cases h
  | x :: xs, h => by
    rw [List.findIdx?_cons]
    by_cases c : x = b
    · exact ⟨0, by simp [c], by simp [c]⟩
    · obtain ⟨e, e1, e2⟩ := idx_ex b (xs := xs) (by
        rcases List.mem_cons.mp h with z | z
        · exact absurd z.symm c
        · exact z)
      exact ⟨e + 1, by simp [c, e1], by simpa using e2⟩
theorem GoodN.nodup {N : Net} (h : GoodN N) : N.2.2.Nodup := h.ends.nodup_iff.mpr (by
  unfold rngI
  exact List.Pairwise.map _ (fun a b (z : a ≠ b) => by omega) List.nodup_range)
theorem end_of {N : Net} (h : GoodN N) {b : Int} (b0 : 0 ≤ b) (b1 : b < N.1) : ∃ e : Nat, idxT N.2.2 b = some (e : Int) ∧ e < N.2.2.length ∧ N.2.2[e]? = some b := by
  have hm : b ∈ N.2.2 := h.ends.mem_iff.mpr (by
    unfold rngI
    exact List.mem_map.mpr ⟨b.toNat, List.mem_range.mpr (by omega), by omega⟩)
  obtain ⟨e, e1, e2⟩ := idx_ex b hm
  refine ⟨e, ?_, (List.getElem?_eq_some_iff.mp e2).1, e2⟩
  unfold idxT
  rw [e1]; rfl
theorem ends_add {N : Net} (h : GoodN N) {c : List Int} (hc : (c.length : Int) = N.1) {a : Int} (a0 : 0 ≤ a) (a1 : a < N.1) {d : Int} (hd : d = 1 ∨ d = -1) :
    ∃ e : Nat, idxT N.2.2 (walkL d N.2.1 (turnsL N c) a).1 = some (e : Int) ∧ e < N.2.2.length ∧ turnsL N (addL c a.toNat d) = (walkL d N.2.1 (turnsL N c) a).2 ∧ endsL N (addL c a.toNat d) = addL (endsL N c) e d := by
  obtain ⟨w0, w1, w2, w3⟩ := walk_ok hd N.2.1 c a (h.lens hc) a0 (by omega)
  have w0 : 0 ≤ (walkL d N.2.1 (turnsL N c) a).1 := w0
  have w1 : (walkL d N.2.1 (turnsL N c) a).1 < c.length := w1
  obtain ⟨e, e1, e2, e3⟩ := end_of h w0 (by omega)
  refine ⟨e, e1, e2, w3, ?_⟩
  have w2 : lanesL (addL c a.toNat d) N.2.1 = addL (lanesL c N.2.1) (walkL d N.2.1 (turnsL N c) a).1.toNat d := w2
  refine ext_D (by rw [endsL_len, addL_len, endsL_len]) fun i hi => ?_
  rw [endsL_len] at hi
  have ge : ∀ c : List Int, (endsL N c).getD i 0 = (lanesL c N.2.1).getD (N.2.2[i]).toNat 0 := fun c => by
    unfold endsL
    rw [List.getD_eq_getElem?_getD, List.getElem?_map, List.getElem?_eq_getElem hi]; rfl
  have gb : N.2.2[i] ∈ N.2.2 := List.getElem_mem hi
  have gr := h.eget gb
  rw [ge, w2, add_get d (by rw [lanesL_len]; omega), add_get d (by rw [endsL_len]; exact e2), ge c]
  by_cases c1 : e = i
  · subst c1
    have : N.2.2[e] = (walkL d N.2.1 (turnsL N c) a).1 := by
      rw [List.getElem?_eq_getElem e2] at e3
      exact Option.some.inj e3
    rw [if_pos (by rw [this]), if_pos rfl, ge c, this]
  · have : ¬ (walkL d N.2.1 (turnsL N c) a).1.toNat = (N.2.2[i]).toNat := fun z => c1 (by
      rw [List.getElem?_eq_getElem e2] at e3
      have e3 := Option.some.inj e3
      exact (List.getElem_inj h.nodup).mp (by omega))
    rw [if_neg this, if_neg c1]
/-! the program's walks -/
theorem mods_01 (c : List Int) (fs : List (Int × Int)) : ∀ t ∈ modsL c fs, t = 0 ∨ t = 1 := fun t ht => by
  obtain ⟨m, _, rfl⟩ := List.mem_map.mp ht
  omega
theorem at_mid (l : List Int) (t : Int) (r : List Int) : atI (l ++ t :: r) (l.length : Int) = some t := atI_nat (by rw [List.getElem?_append_right (Nat.le_refl _), Nat.sub_self]; rfl)
theorem set_mid (l : List Int) (t v : Int) (r : List Int) : setT (l ++ t :: r) (l.length : Int) v = some (l ++ v :: r) := by
  rw [setT_nn (by omega) (by simp; omega), Int.toNat_natCast]
  congr 1
  rw [List.set_append_right _ _ (Nat.le_refl _), Nat.sub_self]; rfl
theorem atP0 (p : Int × Int) : atP p 0 = some p.1 := at0 _ _
theorem atP1 (p : Int × Int) : atP p 1 = some p.2 := at1 _ _ _
theorem passed_eq {N : Net} {ts : List Int} (hl : ts.length = N.2.1.length) (h01 : ∀ t ∈ ts, t = 0 ∨ t = 1) (a : Int) : p_passed N ts a = (idxT N.2.2 (walkL 1 N.2.1 ts a).1).bind fun e => some ((walkL 1 N.2.1 ts a).2, e) := by
  unfold p_passed
  have key : ∀ (fs : List (Int × Int)) (done ts : List Int) (a : Int), ts.length = fs.length → (∀ t ∈ ts, t = 0 ∨ t = 1) →
      lpN (fun (s9 : (Int × (List Int))) (y10 : (Int × (Int × Int))) => if ((decide (y10.2.1 = s9.1) || decide (y10.2.2 = s9.1))) = true then ((atI s9.2 y10.1)).bind fun t18 => ((atP y10.2 t18)).bind fun lane => ((atI s9.2 y10.1)).bind fun t24 => ((setT s9.2 y10.1 ((1 : Int) - t24))).bind fun later => some (lane, later) else some (s9.1, s9.2)) (enumT done.length fs) (a, done ++ ts) = some ((walkL 1 fs ts a).1, done ++ (walkL 1 fs ts a).2) := by
    intro fs
    induction fs with
    | nil => intro done ts a hl _; cases ts with
      | nil => rfl
      | cons _ _ => simp at hl
    | cons p fs ih =>
      intro done ts a hl h01
      cases ts with
      | nil => simp at hl
      | cons t ts =>
        have ht := h01 t (List.mem_cons_self ..)
        have h01' : ∀ t ∈ ts, t = 0 ∨ t = 1 := fun t h => h01 t (List.mem_cons_of_mem _ h)
        have hl' : ts.length = fs.length := by simpa using hl
        rw [enumT, lpN, walkL]
        simp only []
        by_cases ho : onF' a p = true
        · rw [if_pos ho, if_pos (by exact ho), at_mid, Option.bind_some]
          have hn : atP p t = some (nxtL 1 t p) := by
            rcases ht with rfl | rfl
            · rw [atP0, nx_p0]
            · rw [atP1, nx_p1]
          rw [hn, Option.bind_some, Option.bind_some, set_mid, Option.bind_some, Option.bind_some]
          have := ih (done ++ [1 - t]) ts (nxtL 1 t p) hl' h01'
          rw [List.length_append, List.length_singleton] at this
          simpa using this
        · rw [if_neg ho, if_neg (by exact ho), Option.bind_some]
          have := ih (done ++ [t]) ts a hl' h01'
          rw [List.length_append, List.length_singleton] at this
          simpa using this
  have := key N.2.1 [] ts a hl h01
  rw [List.nil_append, List.nil_append] at this
  rw [show enumT 0 N.2.1 = enumT ([] : List Int).length N.2.1 from rfl, this, Option.bind_some]
theorem turns_01 (N : Net) (c : List Int) : ∀ t ∈ turnsL N c, t = 0 ∨ t = 1 := mods_01 c N.2.1
theorem passed_one {N : Net} (h : GoodN N) {c : List Int} (hc : (c.length : Int) = N.1) {a : Int} (a0 : 0 ≤ a) (a1 : a < N.1) :
    ∃ e : Nat, p_passed N (turnsL N c) a = some (turnsL N (addL c a.toNat 1), (e : Int)) ∧ e < N.2.2.length ∧ endsL N (addL c a.toNat 1) = addL (endsL N c) e 1 := by
  obtain ⟨e, e1, e2, e3, e4⟩ := ends_add h hc a0 a1 (.inl rfl)
  exact ⟨e, by rw [passed_eq turnsL_len (turns_01 N c), e1, e3]; rfl, e2, e4⟩
theorem haf_zero {n : Nat} {p : Int × Int} (h : GoodF n p) : hafL (List.replicate n 0) p = List.replicate n 0 := by
  have h' : GoodF (List.replicate n (0 : Int)).length p := by rw [List.length_replicate]; exact h
  have gz : ∀ i, (List.replicate n (0 : Int)).getD i 0 = 0 := fun i => by
    rw [List.getD_eq_getElem?_getD, List.getElem?_replicate]; split <;> rfl
  refine ext_D (haf_len _ _) fun i _ => ?_
  rw [haf_get h', gz]
  have : manyL (List.replicate n 0) p = 0 := by unfold manyL; rw [gz, gz]; rfl
  rw [this]
  split
  · rfl
  · split <;> rfl
theorem lanes_zero {n : Nat} : ∀ (fs : List (Int × Int)), (∀ p ∈ fs, GoodF n p) → lanesL (List.replicate n 0) fs = List.replicate n 0 ∧ totalsL (List.replicate n 0) fs = List.replicate fs.length 0
  | [], _ => ⟨rfl, rfl⟩
  | p :: fs, h => by
    obtain ⟨i1, i2⟩ := lanes_zero fs fun q hq => h q (List.mem_cons_of_mem _ hq)
    have e := haf_zero (h p (List.mem_cons_self ..))
    have gz : ∀ i, (List.replicate n (0 : Int)).getD i 0 = 0 := fun i => by
      rw [List.getD_eq_getElem?_getD, List.getElem?_replicate]; split <;> rfl
    have em : manyL (List.replicate n 0) p = 0 := by unfold manyL; rw [gz, gz]; rfl
    exact ⟨by rw [lanesL, e, i1], by rw [totalsL, e, i2, em]; rfl⟩
theorem zero_ok {N : Net} (h : GoodN N) : turnsL N (List.replicate N.1.toNat 0) = List.replicate N.2.1.length 0 ∧ endsL N (List.replicate N.1.toNat 0) = List.replicate N.1.toNat 0 := by
  have l1 := h.l1
  obtain ⟨i1, i2⟩ := lanes_zero (n := N.1.toNat) N.2.1 fun p hp => by rw [show ((N.1.toNat : Nat) : Int) = N.1 by omega]; exact h.forks p hp
  refine ⟨by unfold turnsL; rw [i2]; simp, ?_⟩
  have el := h.elen
  refine ext_D (by rw [endsL_len, List.length_replicate, el]) fun i hi => ?_
  unfold endsL
  rw [i1]
  rw [List.getD_eq_getElem?_getD, List.getElem?_map, List.getD_eq_getElem?_getD, List.getElem?_replicate]
  cases N.2.2[i]? with
  | none => split <;> rfl
  | some x =>
    simp only [Option.map_some, Option.getD_some]
    rw [List.getD_eq_getElem?_getD, List.getElem?_replicate]
    split <;> split <;> rfl
/-! k35: any net, a drawn net -/
theorem any_w {s : List Int} (h : St3 s) : Sp (p__law_any 64 s) fun r => GoodN r.1 ∧ (r.1.2.1.length ≤ 8 ∧ r.1.1 ≤ 6) ∧ St3 r.2 := by
  unfold p__law_any
  refine w_bind (pick_w h (by decide) (by decide)) fun u1 ⟨a0, a1, t1⟩ => ?_
  refine w_bind (w_atI a0 (by simpa using a1)) fun L hL => ?_
  have hL : 1 ≤ L ∧ L ≤ 6 := by
    simp only [List.mem_cons, List.not_mem_nil, or_false] at hL
    omega
  refine w_let fun f0 e0 => ?_
  subst e0
  refine w_bind (pick_w t1 (by decide) (by decide)) fun u2 ⟨b0, b1, t2⟩ => ?_
  refine w_bind (w_atI b0 (by simpa using b1)) fun q hq => ?_
  have hq : 0 ≤ q ∧ q ≤ 8 := by
    simp only [List.mem_cons, List.not_mem_nil, or_false] at hq
    omega
  obtain ⟨many, hmany⟩ : ∃ x, x = q * (if decide (1 < L) = true then 1 else 0) := ⟨_, rfl⟩
  rw [← hmany]
  have hmany : 0 ≤ many ∧ many ≤ 8 ∧ (0 < many → 2 ≤ L) := by
    rw [hmany]
    by_cases c : (1 : Int) < L
    · rw [decide_eq_true c, if_pos rfl]; omega
    · rw [decide_eq_false c, if_neg (by simp)]; omega
  rw [rngO_of (by omega), Option.bind_some]
  refine w_bind (w_lpN (fun i s => s.2.length = i ∧ (∀ p ∈ s.2, GoodF L p) ∧ St3 s.1) ⟨rfl, by simp, t2⟩ fun i s y hy hi => ?_) fun sF hF => ?_
  · obtain ⟨y1, y2⟩ := rngI_get hy
    obtain ⟨h1, h2, h3⟩ := hi
    have hL2 : 2 ≤ L := by omega
    refine w_bind (pick_w h3 (by omega) (by omega)) fun v1 ⟨c0, c1, w1⟩ => ?_
    refine w_bind (pick_w w1 (by omega) (by omega)) fun v2 ⟨d0, d1, w2⟩ => ?_
    rw [modT_of (by omega), Option.bind_some]
    have m0 := Int.emod_nonneg (v1.1 + 1 + v2.1) (show L ≠ 0 by omega)
    have m1 := Int.emod_lt_of_pos (v1.1 + 1 + v2.1) (show 0 < L by omega)
    have g0 : GoodF L (v1.1, (v1.1 + 1 + v2.1) % L) := ⟨c0, c1, m0, m1, fun z => ring_ne hL2 c0 c1 d0 (by omega) z.symm⟩
    rw [catT_of (by simp; omega), Option.bind_some]
    refine w_bind (w_atI (by decide) (by simp)) fun p3 hp3 => ?_
    have g3 : GoodF L p3 := by
      rcases List.mem_append.mp hp3 with z | z
      · exact h2 _ z
      · rw [List.mem_singleton.mp z]; exact g0
    refine w_bind (pick_w w2 (by decide) (by decide)) fun v3 ⟨e0, e1, w3⟩ => ?_
    refine w_bind (w_atI e0 (by simpa using e1)) fun p4 hp4 => ?_
    have g4 : GoodF L p4 := by
      simp only [List.mem_cons, List.not_mem_nil, or_false] at hp4
      rcases hp4 with rfl | rfl | rfl
      · exact g0
      · exact g0
      · exact g3
    rw [appT_of (by omega), Option.bind_some]
    refine w_some ⟨by simp [h1], fun p hp => ?_, w3⟩
    rcases List.mem_append.mp hp with z | z
    · exact h2 p z
    · rw [List.mem_singleton.mp z]; exact g4
  obtain ⟨f1, f2, f3⟩ := hF
  rw [rngI_len] at f1
  rw [rngO_of (by omega), Option.bind_some, Option.bind_some]
  refine w_bind (mixed_w (by rw [rngI_len]; omega) (by rw [rngI_len]; omega) f3) fun r ⟨r1, r2⟩ => ?_
  refine w_bind (pick_w r2 (by decide) (by decide)) fun u ⟨u0, u1, us⟩ => ?_
  refine w_bind (w_atI u0 (by simpa using u1)) fun en hen => ?_
  have pe : en.Perm (rngI 0 L.toNat) := by
    simp only [List.mem_cons, List.not_mem_nil, or_false] at hen
    rcases hen with rfl | rfl
    · exact List.Perm.refl _
    · exact r1
  exact w_some ⟨⟨hL.1, by show L ≤ 16; omega, by show sF.2.length ≤ 128; omega, f2, pe⟩, ⟨by show sF.2.length ≤ 8; omega, hL.2⟩, us⟩
/-- so few forks and lanes that no more than 4000 states are met -/
def FewN (N : Net) : Prop := 2 ^ N.2.1.length * N.1.toNat ≤ 4000 ∨ Twin N.2.1 ∧ 2 ^ (N.2.1.length - 1) * N.1.toNat ≤ 4000
theorem few_of {N : Net} {a b : Nat} (ha : N.2.1.length ≤ a) (hb : N.1.toNat ≤ b) (h : 2 ^ a * b ≤ 4000) : FewN N :=
  .inl (Nat.le_trans (Nat.mul_le_mul (Nat.pow_le_pow_right (by decide) ha) hb) h)
theorem net_w {s : List Int} (h : St3 s) : Sp (p__law_net 64 s) fun r => GoodN r.1 ∧ (r.1.2.1.length ≤ 16 ∧ r.1.1 ≤ 6 ∧ FewN r.1) ∧ St3 r.2 := by
  unfold p__law_net
  refine w_bind (pick_w h (by decide) (by decide)) fun u1 ⟨a0, a1, t1⟩ => ?_
  refine w_ite (fun _ => w_bind (any_w t1) fun r ⟨g, l, t⟩ => w_some ⟨g, ⟨Nat.le_trans l.1 (by decide), l.2, few_of (N := r.1) (a := 8) (b := 6) l.1 (by have := l.2; omega) (by decide)⟩, t⟩) fun _ => ?_
  refine w_bind (pick_w t1 (by decide) (by decide)) fun u2 ⟨b0, b1, t2⟩ => ?_
  refine w_bind (pick_w t2 (by decide) (by decide)) fun u3 ⟨c0, c1, t3⟩ => ?_
  refine w_bind (w_atI c0 (by simpa using c1)) fun sz hsz => ?_
  have hsz : 0 ≤ sz ∧ sz < 3 := by
    simp only [List.mem_cons, List.not_mem_nil, or_false] at hsz
    omega
  refine w_bind (made_w b0 b1 hsz.1 hsz.2) fun N ⟨g, gl, gN⟩ => ?_
  refine w_bind (w_atI a0 (by simpa using a1)) fun q hq => ?_
  have hq : 0 ≤ q ∧ q ≤ 2 := by
    simp only [List.mem_cons, List.not_mem_nil, or_false] at hq
    omega
  refine w_bind (pick_w t3 (by decide) (by decide)) fun u4 ⟨d0, d1, t4⟩ => ?_
  rw [mulT_l (by omega) (by omega), Option.bind_some]
  have hqm : 0 ≤ q * u4.1 ∧ q * u4.1 ≤ 2 := by
    have : u4.1 = 0 ∨ u4.1 = 1 := by omega
    rcases this with z | z <;> rw [z] <;> omega
  rw [rngO_of (by omega), Option.bind_some]
  refine w_bind (w_lpN (fun i s => GoodN s.2 ∧ (s.2.2.1.length ≤ 8 + i ∧ s.2.1 ≤ 4 ∧ (s.2.2.1.length ≤ 9 ∨ Twin s.2.2.1)) ∧ St3 s.1) ⟨g, ⟨by omega, (by
      rw [gN]
      rcases (by omega : sz = 0 ∨ sz = 1 ∨ sz = 2) with rfl | rfl | rfl <;> decide), .inl (by show N.2.1.length ≤ 9; omega)⟩, t4⟩ fun i s y hy hi => ?_) fun sF hF => ?_
  · obtain ⟨y1, y2⟩ := rngI_get hy
    obtain ⟨h1, h2, h3⟩ := hi
    exact w_bind (changed_w h3 h1 (by have := h2.1; omega)) fun r ⟨r1, r2, r3, r4⟩ => w_some ⟨r1, ⟨by show r.1.2.1.length ≤ 8 + (i + 1); have := r3.1; have := h2.1; omega, (by show r.1.1 ≤ 4; rw [r2]; exact h2.2.1), r3.2.imp (fun z => by have := h2.1; show r.1.2.1.length ≤ 9; omega) id⟩, r4⟩
  · obtain ⟨f1, f2, f3⟩ := hF
    rw [rngI_len] at f2
    refine w_some ⟨f1, ⟨by show sF.2.2.1.length ≤ 16; have := f2.1; omega, by show sF.2.1 ≤ 6; have := f2.2.1; omega, ?_⟩, f3⟩
    rcases f2.2.2 with q | q
    · exact few_of (N := sF.2) (a := 9) (b := 4) q (by have := f2.2.1; omega) (by decide)
    · right
      refine ⟨q, Nat.le_trans (Nat.mul_le_mul (Nat.pow_le_pow_right (by decide) (?_ : _ ≤ 9)) (?_ : _ ≤ 4)) (by decide : 2 ^ 9 * 4 ≤ 4000)⟩
      · show sF.2.2.1.length - 1 ≤ 9
        have := f2.1
        omega
      · show sF.2.1.toNat ≤ 4
        have := f2.2.1
        omega
/-! one ball more; balls on their ways; alike rows -/
theorem set_mid2 : ∀ (c : List Int) (a : Nat), a < c.length → c.take a ++ [c.getD a 0 + 1] ++ c.drop (a + 1) = c.set a (c.getD a 0 + 1)
  | x :: c, 0, _ => by simp
  | x :: c, a + 1, h => by
    have := set_mid2 c a (by simpa using h)
    simp only [List.take_succ_cons, List.drop_succ_cons, List.cons_append, List.set_cons_succ, List.getD_cons_succ]
    exact congrArg (x :: ·) this
theorem with_one_eq {c : List Int} {a : Int} (h0 : 0 ≤ a) (h1 : a < c.length) (hl : c.length ≤ 1000) : p_with_one c a = some (addL c a.toNat 1) := by
  unfold p_with_one addL
  have h1' : a.toNat < c.length := by omega
  have e1 : cutL c none (some a) = c.take a.toNat := by rw [show a = ((a.toNat : Nat) : Int) by omega, cutL_to]; rw [Int.toNat_natCast]
  have e2 : cutL c (some (a + 1)) none = c.drop (a.toNat + 1) := by rw [show a + 1 = ((a.toNat + 1 : Nat) : Int) by omega, cutL_from]
  rw [atI_D 0 h0 h1, Option.bind_some, e1, e2, catT_of (by simp; omega), Option.bind_some, catT_of (by simp; omega), Option.bind_some, set_mid2 c _ h1']
theorem walk_rng {n : Int} : ∀ (fs : List (Int × Int)) (ts : List Int) (a : Int), (∀ p ∈ fs, GoodF n p) → ts.length = fs.length → (∀ t ∈ ts, t = 0 ∨ t = 1) → 0 ≤ a → a < n →
    0 ≤ (walkL 1 fs ts a).1 ∧ (walkL 1 fs ts a).1 < n ∧ (walkL 1 fs ts a).2.length = fs.length ∧ ∀ t ∈ (walkL 1 fs ts a).2, t = 0 ∨ t = 1
  | [], ts, a, _, hl, _, h0, h1 => by
    have : ts = [] := List.length_eq_zero_iff.mp hl
    subst this
    exact ⟨h0, h1, rfl, fun t h => by cases h⟩
  | p :: fs, [], a, _, hl, _, _, _ => by cases hl
  | p :: fs, t :: ts, a, hg, hl, h01, h0, h1 => by
    have g := hg p (List.mem_cons_self ..)
    have ht := h01 t (List.mem_cons_self ..)
    rw [walkL]
    by_cases ho : onF' a p = true
    · have hn : 0 ≤ nxtL 1 t p ∧ nxtL 1 t p < n := by
        rcases ht with rfl | rfl
        · rw [nx_p0]; exact ⟨g.1, g.2.1⟩
        · rw [nx_p1]; exact ⟨g.2.2.1, g.2.2.2.1⟩
      obtain ⟨i1, i2, i3, i4⟩ := walk_rng fs ts (nxtL 1 t p) (fun q hq => hg q (List.mem_cons_of_mem _ hq)) (by simpa using hl) (fun u hu => h01 u (List.mem_cons_of_mem _ hu)) hn.1 hn.2
      rw [if_pos ho]
      refine ⟨i1, i2, by simpa using i3, fun u hu => ?_⟩
      rcases List.mem_cons.mp hu with rfl | hu
      · rcases ht with rfl | rfl
        · exact .inr rfl
        · exact .inl rfl
      · exact i4 u hu
    · obtain ⟨i1, i2, i3, i4⟩ := walk_rng fs ts a (fun q hq => hg q (List.mem_cons_of_mem _ hq)) (by simpa using hl) (fun u hu => h01 u (List.mem_cons_of_mem _ hu)) h0 h1
      rw [if_neg ho]
      refine ⟨i1, i2, by simpa using i3, fun u hu => ?_⟩
      rcases List.mem_cons.mp hu with rfl | hu
      · exact ht
      · exact i4 u hu
theorem alikes_ints : ∀ (xs ys : List Int), xs.length = ys.length → alikes (xs.map PyData.int) (ys.map PyData.int) = true
  | [], [], _ => by simp [alikes]
  | [], _ :: _, h => by cases h
  | _ :: _, [], h => by cases h
  | x :: xs, y :: ys, h => by
    rw [List.map_cons, List.map_cons, alikes, alikes_ints xs ys (by simpa using h)]
    simp [alike]
theorem deeps_ints : ∀ xs : List Int, deepsD (xs.map PyData.int) = 0
  | [] => by simp [deepsD]
  | x :: xs => by rw [List.map_cons, deepsD, deeps_ints xs]; simp [deepD]
/-! dicts by their keys -/
section
variable {κ τ : Type} [DecidableEq κ]
def ksM (l : List (κ × τ)) : List κ := l.map Prod.fst
theorem getM_some {l : List (κ × τ)} {k : κ} : (getM l k).isSome = true ↔ k ∈ ksM l := by
  unfold getM ksM
  rw [Option.isSome_map, List.find?_isSome]
  constructor
  · rintro ⟨p, hp, h⟩
    exact List.mem_map.mpr ⟨p, hp, by simpa using h⟩
  · intro h
    obtain ⟨p, hp, rfl⟩ := List.mem_map.mp h
    exact ⟨p, hp, by simp⟩
theorem getM_mem {l : List (κ × τ)} {k : κ} {v : τ} (h : getM l k = some v) : (k, v) ∈ l := by
  unfold getM at h
  obtain ⟨p, hp, rfl⟩ := Option.map_eq_some_iff.mp h
  have h1 := List.mem_of_find?_eq_some hp
  have h2 : p.1 = k := by simpa using List.find?_some hp
  rw [← h2]
  exact h1
theorem any_ks {l : List (κ × τ)} {k : κ} : (l.any fun p => decide (p.1 = k)) = true ↔ k ∈ ksM l := by
  unfold ksM
  rw [List.any_eq_true]
  constructor
  · rintro ⟨p, hp, h⟩
    exact List.mem_map.mpr ⟨p, hp, by simpa using h⟩
  · intro h
    obtain ⟨p, hp, rfl⟩ := List.mem_map.mp h
    exact ⟨p, hp, by simp⟩
theorem ks_put (l : List (κ × τ)) (k : κ) (v : τ) : ksM (putM l k v) = if k ∈ ksM l then ksM l else ksM l ++ [k] := by
  unfold putM
  by_cases h : k ∈ ksM l
  · rw [if_pos (any_ks.mpr h), if_pos h]
    unfold ksM
    rw [List.map_map]
    refine List.map_congr_left fun p _ => ?_
    show (if p.1 = k then (p.1, v) else p).1 = p.1
    split <;> rfl
  · rw [if_neg (fun z => h (any_ks.mp z)), if_neg h]
    unfold ksM
    rw [List.map_append]
    rfl
theorem mem_put {l : List (κ × τ)} {k : κ} {v : τ} {p : κ × τ} (h : p ∈ putM l k v) : p ∈ l ∨ p = (k, v) := by
  unfold putM at h
  split at h
  · obtain ⟨q, hq, e⟩ := List.mem_map.mp h
    by_cases hk : q.1 = k
    · rw [if_pos hk] at e
      right
      rw [← e, hk]
    · rw [if_neg hk] at e
      left
      rw [← e]
      exact hq
  · rcases List.mem_append.mp h with h | h
    · exact .inl h
    · exact .inr (List.mem_singleton.mp h)
theorem len_ks (l : List (κ × τ)) : (ksM l).length = l.length := List.length_map ..
theorem len_put (l : List (κ × τ)) (k : κ) (v : τ) : (putM l k v).length ≤ l.length + 1 := by
  rw [← len_ks, ks_put, ← len_ks l]
  split
  · omega
  · rw [List.length_append, List.length_singleton]
    exact Nat.le_refl _
theorem mem_ks_put {l : List (κ × τ)} {k x : κ} {v : τ} : x ∈ ksM (putM l k v) ↔ x ∈ ksM l ∨ x = k := by
  rw [ks_put]
  split
  · rename_i h
    exact ⟨.inl, fun z => z.elim id fun e => e ▸ h⟩
  · rw [List.mem_append, List.mem_singleton]
theorem nd_put {l : List (κ × τ)} {k : κ} {v : τ} (h : (ksM l).Nodup) : (ksM (putM l k v)).Nodup := by
  rw [ks_put]
  split
  · exact h
  · rename_i hk
    rw [List.nodup_append]
    exact ⟨h, (by simp), fun a ha b hb e => by
      rw [List.mem_singleton] at hb
      rw [e, hb] at ha
      exact hk ha⟩
theorem put_new {l : List (κ × τ)} {k : κ} {v : τ} (h : k ∉ ksM l) : putM l k v = l ++ [(k, v)] := by
  unfold putM
  rw [if_neg fun z => h (any_ks.mp z)]
/-- one dict put behind another that shares no key -/
theorem merge_new : ∀ (more l : List (κ × τ)), (ksM more).Nodup → (∀ k ∈ ksM more, k ∉ ksM l) → mergeM l more = l ++ more
  | [], l, _, _ => by simp [mergeM]
  | (k, v) :: more, l, h, d => by
    have e : mergeM l ((k, v) :: more) = mergeM (putM l k v) more := rfl
    have hn : k ∉ ksM l := d k (by simp [ksM])
    have h1 : (ksM more).Nodup ∧ k ∉ ksM more := by
      have : (k :: ksM more).Nodup := h
      rw [List.nodup_cons] at this
      exact ⟨this.2, this.1⟩
    rw [e, put_new hn, merge_new more (l ++ [(k, v)]) h1.1 fun x hx hm => ?_, List.append_assoc]
    · rfl
    · have : x ∈ ksM l ∨ x = k := by
        unfold ksM at hm ⊢
        rw [List.map_append, List.mem_append] at hm
        exact hm.imp id fun z => by simpa using z
      rcases this with w | w
      · exact d x (by show x ∈ k :: ksM more; exact List.mem_cons_of_mem _ hx) w
      · rw [w] at hx
        exact h1.2 hx
end
/-! places and where they lead -/
abbrev Pl := List Int × List Int
structure OkPl (N : Net) (B : Int) (pl : Pl) : Prop where
  tl : pl.1.length = N.2.1.length
  t01 : ∀ t ∈ pl.1, t = 0 ∨ t = 1
  hl : (pl.2.length : Int) = N.1
  h0 : ∀ h ∈ pl.2, 0 ≤ h
  hB : ∀ h ∈ pl.2, h ≤ B
  low : (0 : Int) ∈ pl.2
theorem OkPl.up {N : Net} {A B : Int} {pl : Pl} (h : OkPl N A pl) (hAB : A ≤ B) : OkPl N B pl := ⟨h.tl, h.t01, h.hl, h.h0, fun x hx => by have := h.hB x hx; omega, h.low⟩
def lowL (hs : List Int) : List Int := hs.map fun h => h - minL hs
def stp (N : Net) (pl : Pl) (a : Int) : Pl := ((walkL 1 N.2.1 pl.1 a).2, lowL (addL pl.2 ((idxT N.2.2 (walkL 1 N.2.1 pl.1 a).1).getD 0).toNat 1))
def endP (N : Net) (pl : Pl) (a : Int) : Int := (idxT N.2.2 (walkL 1 N.2.1 pl.1 a).1).getD 0
theorem step_ok {N : Net} (h : GoodN N) {B : Int} {pl : Pl} (o : OkPl N B pl) {a : Int} (a0 : 0 ≤ a) (a1 : a < N.1) :
    p_passed N pl.1 a = some ((stp N pl a).1, endP N pl a) ∧ p_with_one pl.2 (endP N pl a) = some (addL pl.2 (endP N pl a).toNat 1) ∧ (addL pl.2 (endP N pl a).toNat 1).length = pl.2.length ∧
    (stp N pl a).2 = lowL (addL pl.2 (endP N pl a).toNat 1) ∧ OkPl N (B + 1) (stp N pl a) := by
  have l1 := h.l1
  have l16 := h.l16
  obtain ⟨w0, w1, w2, w3⟩ := walk_rng (n := N.1) N.2.1 pl.1 a h.forks o.tl o.t01 a0 a1
  obtain ⟨e, e1, e2, e3⟩ := end_of h w0 w1
  have ee : endP N pl a = (e : Int) := by unfold endP; rw [e1]; rfl
  have el := h.elen
  have hl := o.hl
  have he : e < pl.2.length := by omega
  refine ⟨by rw [passed_eq o.tl o.t01, e1, ee]; rfl, with_one_eq (by omega) (by omega) (by omega), addL_len _ _ _, rfl, ?_⟩
  have hne : addL pl.2 e 1 ≠ [] := fun z => by
    have := addL_len pl.2 e 1
    rw [z] at this
    simp at this
    omega
  obtain ⟨Q, hQ⟩ : ∃ Q, Q = addL pl.2 e 1 := ⟨_, rfl⟩
  have hs : (stp N pl a).2 = lowL Q := by rw [hQ]; show lowL (addL pl.2 (endP N pl a).toNat 1) = _; rw [ee]; rfl
  have hq : ∀ x ∈ Q, 0 ≤ x ∧ x ≤ B + 1 := fun x hx => by
    rw [hQ] at hx
    unfold addL at hx
    rcases List.mem_or_eq_of_mem_set hx with z | z
    · have := o.h0 x z; have := o.hB x z; omega
    · have g : pl.2.getD e 0 ∈ pl.2 := by
        rw [List.getD_eq_getElem?_getD, List.getElem?_eq_getElem he]
        exact List.getElem_mem he
      have := o.h0 _ g; have := o.hB _ g; omega
  rw [← hQ] at hne
  have m := minL_mem hne
  refine ⟨w2, w3, ?_, fun x hx => ?_, fun x hx => ?_, ?_⟩
  · rw [hs]
    unfold lowL
    rw [List.length_map, hQ, addL_len]
    exact hl
  · rw [hs] at hx
    obtain ⟨y, hy, rfl⟩ := List.mem_map.mp hx
    have := minL_le hy
    omega
  · rw [hs] at hx
    obtain ⟨y, hy, rfl⟩ := List.mem_map.mp hx
    have := (hq _ m).1
    have := (hq _ hy).2
    omega
  · rw [hs]
    exact List.mem_map.mpr ⟨_, m, by omega⟩
theorem low_eq {hs : List Int} (hne : hs ≠ []) (hl : hs.length ≤ 1000) : p__law_lowered__at0 hs = some (lowL hs) ∧ p_lowered hs = some (lowL hs) := by
  constructor
  · unfold p__law_lowered__at0
    rw [lim_of (by omega), mapO_some (g := fun h => h - minL hs) fun h hh => by rw [minO_of hne, Option.bind_some]]
    rfl
  · unfold p_lowered
    rw [minO_of hne, Option.bind_some, lim_of (by omega)]
    rfl
def fstP (N : Net) : Pl := (List.replicate N.2.1.length 0, List.replicate N.1.toNat 0)
theorem fst_ok {N : Net} (h : GoodN N) : OkPl N 0 (fstP N) := by
  have l1 := h.l1
  refine ⟨by simp [fstP], fun t ht => .inl (List.eq_of_mem_replicate ht), by simp [fstP]; omega, fun x hx => by rw [List.eq_of_mem_replicate hx]; exact Int.le_refl _, fun x hx => by rw [List.eq_of_mem_replicate hx]; exact Int.le_refl _, List.mem_replicate.mpr ⟨by omega, rfl⟩⟩
/-! the search: a closed set at its end -/
abbrev Mt45 := List (Pl × Bool)
structure Clo (N : Net) (so : List Int) (B : Int) (met : Mt45) (waits : List Pl) : Prop where
  okm : ∀ k ∈ ksM met, OkPl N (B + met.length) k
  okw : ∀ k ∈ waits, OkPl N (B + met.length) k
  nd : (ksM met).Nodup
  fst : fstP N ∈ ksM met ∨ fstP N ∈ waits
  cl : ∀ k ∈ ksM met, ∀ a ∈ so, stp N k a ∈ ksM met ∨ stp N k a ∈ waits
theorem Clo.old {N : Net} {so : List Int} {B : Int} {met : Mt45} {waits : List Pl} {w : Pl} (c : Clo N so B met (waits ++ [w])) (hw : w ∈ ksM met) : Clo N so B met waits := by
  have mv : ∀ x : Pl, x ∈ ksM met ∨ x ∈ waits ++ [w] → x ∈ ksM met ∨ x ∈ waits := fun x hx => by
    rcases hx with hx | hx
    · exact .inl hx
    · rcases List.mem_append.mp hx with hx | hx
      · exact .inr hx
      · rw [List.mem_singleton.mp hx]; exact .inl hw
  exact ⟨c.okm, fun k hk => c.okw k (List.mem_append_left _ hk), c.nd, mv _ c.fst, fun k hk a ha => mv _ (c.cl k hk a ha)⟩
theorem Clo.new {N : Net} (h : GoodN N) {so : List Int} (hso : ∀ a ∈ so, 0 ≤ a ∧ a < N.1) {B : Int} {met : Mt45} {waits : List Pl} {w : Pl} (c : Clo N so B met (waits ++ [w])) (hw : w ∉ ksM met) : Clo N so B (met ++ [(w, true)]) (waits ++ so.map (stp N w)) := by
  have ks : ksM (met ++ [(w, true)]) = ksM met ++ [w] := by unfold ksM; rw [List.map_append]; rfl
  have ln : ((met ++ [(w, true)]).length : Int) = met.length + 1 := by rw [List.length_append]; simp
  have mv : ∀ x : Pl, x ∈ ksM met ∨ x ∈ waits ++ [w] → x ∈ ksM met ++ [w] ∨ x ∈ waits ++ so.map (stp N w) := fun x hx => by
    rcases hx with hx | hx
    · exact .inl (List.mem_append_left _ hx)
    · rcases List.mem_append.mp hx with hx | hx
      · exact .inr (List.mem_append_left _ hx)
      · exact .inl (List.mem_append_right _ hx)
  have ow := c.okw w (List.mem_append_right _ (List.mem_singleton_self _))
  refine ⟨fun k hk => ?_, fun k hk => ?_, ?_, by rw [ks]; exact mv _ c.fst, fun k hk a ha => ?_⟩
  · rw [ks] at hk
    rw [ln]
    rcases List.mem_append.mp hk with hk | hk
    · exact (c.okm k hk).up (by omega)
    · rw [List.mem_singleton.mp hk]; exact ow.up (by omega)
  · rw [ln]
    rcases List.mem_append.mp hk with hk | hk
    · exact (c.okw k (List.mem_append_left _ hk)).up (by omega)
    · obtain ⟨a, ha, rfl⟩ := List.mem_map.mp hk
      exact (step_ok h ow (hso a ha).1 (hso a ha).2).2.2.2.2.up (by omega)
  · rw [ks]
    exact List.nodup_append.mpr ⟨c.nd, by simp, fun x hx y hy e => hw (by rw [List.mem_singleton.mp hy] at e; rw [← e]; exact hx)⟩
  · rw [ks] at hk ⊢
    rcases List.mem_append.mp hk with hk | hk
    · exact mv _ (c.cl k hk a ha)
    · rw [List.mem_singleton.mp hk]
      exact .inr (List.mem_append_right _ (List.mem_map_of_mem ha))
theorem reach_while {N : Net} (h : GoodN N) {so : List Int} (hso : ∀ a ∈ so, 0 ≤ a ∧ a < N.1) (hs8 : so.length ≤ 8) {B : Int} {cap : Nat} (hcap : cap ≤ 2000) {σ ρ : Type} {F : σ → Option (Option (Lf σ ρ))} {mk : Mt45 → List Pl → σ}
    (h0 : ∀ met, F (mk met []) = some none) (hf : ∀ met waits, cap < met.length → F (mk met waits) = some none)
    (ho : ∀ met waits w, waits.length ≤ 100000 → met.length ≤ cap → w ∈ ksM met → F (mk met (waits ++ [w])) = some (some (.go (mk met waits))))
    (hn : ∀ met waits w, OkPl N (B + met.length) w → waits.length ≤ 100000 → met.length ≤ cap → w ∉ ksM met → F (mk met (waits ++ [w])) = some (some (.go (mk (met ++ [(w, true)]) (waits ++ so.map (stp N w)))))) :
    ∀ (b m : Nat) (met : Mt45) (waits : List Pl), b < m → waits.length + 9 * (cap + 1 - met.length) ≤ b → met.length ≤ cap + 1 → Clo N so B met waits → waits.length ≤ 8 * met.length + 1 →
    Sp (lpW F m (mk met waits)) (Go fun s => ∃ met' waits', s = mk met' waits' ∧ Clo N so B met' waits' ∧ met'.length ≤ cap + 1 ∧ (waits' = [] ∨ cap < met'.length))
  | b, 0, _, _, hb, _, _, _, _ => by omega
  | b, m + 1, met, waits, hb, hm, hc, c, hw => by
    rcases List.eq_nil_or_concat waits with e | ⟨ws, w, e⟩
    · subst e
      exact ⟨.go (mk met []), by rw [lpW, h0, Option.bind_some], _, rfl, met, [], rfl, c, hc, .inl rfl⟩
    · rw [List.concat_eq_append] at e
      subst e
      rw [List.length_append, List.length_singleton] at hm hw
      by_cases hfull : cap < met.length
      · exact ⟨.go (mk met (ws ++ [w])), by rw [lpW, hf _ _ hfull, Option.bind_some], _, rfl, met, _, rfl, c, hc, .inr hfull⟩
      · by_cases hk : w ∈ ksM met
        · rw [lpW, ho met ws w (by omega) (by omega) hk, Option.bind_some]
          exact reach_while h hso hs8 hcap h0 hf ho hn (b - 1) m met ws (by omega) (by omega) hc (c.old hk) (by omega)
        · rw [lpW, hn met ws w (c.okw w (List.mem_append_right _ (List.mem_singleton_self _))) (by omega) (by omega) hk, Option.bind_some]
          refine reach_while h hso hs8 hcap h0 hf ho hn (b - 1) m (met ++ [(w, true)]) (ws ++ so.map (stp N w)) (by omega) ?_ ?_ (c.new h hso hk) ?_
          · rw [List.length_append, List.length_append, List.length_map, List.length_singleton]; omega
          · rw [List.length_append, List.length_singleton]; omega
          · rw [List.length_append, List.length_append, List.length_map, List.length_singleton]; omega
/-- a closed set of places -/
structure Lot (N : Net) (so : List Int) (B : Int) (ps : List Pl) : Prop where
  ok : ∀ k ∈ ps, OkPl N B k
  nd : ps.Nodup
  fst : fstP N ∈ ps
  cl : ∀ k ∈ ps, ∀ a ∈ so, stp N k a ∈ ps
  few : ps.length ≤ 1600
theorem Lot.up {N : Net} {so : List Int} {A B : Int} {ps : List Pl} (h : Lot N so A ps) (hAB : A ≤ B) : Lot N so B ps := ⟨fun k hk => (h.ok k hk).up hAB, h.nd, h.fst, h.cl, h.few⟩
theorem Clo.lot {N : Net} {so : List Int} {B B' : Int} {met : Mt45} (c : Clo N so B met []) (hB : B + met.length ≤ B') (hm : met.length ≤ 1600) : Lot N so B' (ksM met) := by
  have no : ∀ x : Pl, x ∈ ksM met ∨ x ∈ ([] : List Pl) → x ∈ ksM met := fun x hx => hx.resolve_right fun z => by cases z
  exact ⟨fun k hk => (c.okm k hk).up (by omega), c.nd, no _ c.fst, fun k hk a ha => no _ (c.cl k hk a ha), by rw [len_ks]; exact hm⟩
theorem Lot.perm {N : Net} {so : List Int} {B : Int} {ps qs : List Pl} (h : Lot N so B ps) (p : qs.Perm ps) : Lot N so B qs :=
  ⟨fun k hk => h.ok k (p.mem_iff.mp hk), p.nodup_iff.mpr h.nd, p.mem_iff.mpr h.fst, fun k hk a ha => p.mem_iff.mpr (h.cl k (p.mem_iff.mp hk) a ha), by rw [p.length_eq]; exact h.few⟩
/-! the program's look at a closed set -/
theorem spot_w {N : Net} (h : GoodN N) {B : Int} {pl : Pl} (o : OkPl N B pl) : p_is_spot N pl = some true := by
  have l1 := h.l1
  have l16 := h.l16
  have many := h.many
  have tl := o.tl
  have hl := o.hl
  have e1 : p_are_turns N pl.1 = some true := by
    unfold p_are_turns
    have c1 : ((!true) || (!decide ((pl.1.length : Int) = (N.2.1.length : Int)))) = false := by rw [tl, decide_eq_true rfl]; rfl
    rw [c1, if_neg (by simp), lim_of (by omega), mapO_some (g := fun _ => true) fun t ht => by
      unfold p_is_whole
      rcases o.t01 t ht with z | z <;> rw [z] <;> rfl]
    rw [Option.bind_some]
    simp
  have e2 : p_are_heights N pl.2 = some true := by
    unfold p_are_heights
    have c2 : decide ((pl.2.length : Int) = N.1) = true := decide_eq_true hl
    have hne : pl.2 ≠ [] := fun z => by rw [z] at hl; simp at hl; omega
    have mm : minL pl.2 = 0 := by
      have a := o.h0 _ (minL_mem hne)
      have b := minL_le o.low
      omega
    have mo : mapO (fun height => ((p_is_whole height (0 : Int))).bind fun t18 => some t18) pl.2 = some (pl.2.map fun _ => true) := mapO_some fun t ht => by
      unfold p_is_whole
      rw [decide_eq_true (o.h0 t ht)]
      rfl
    have al : List.all (pl.2.map fun _ => true) id = true := by simp
    rw [c2, lim_of (by omega), mo, minO_of hne, mm]
    simp only [Bool.not_true, Bool.false_eq_true, if_false, Option.bind_some, al, decide_true]
  unfold p_is_spot
  simp only [e1, e2, if_true, decide_true, Option.bind_some]
theorem behindP_w {N : Net} (h : GoodN N) {B : Int} {pl : Pl} (o : OkPl N B pl) {so : List Int} (hso : ∀ a ∈ so, 0 ≤ a ∧ a < N.1) (h8 : so.length ≤ 1000) : p_places_behind N so pl = some (so.map fun a => (a, stp N pl a)) := by
  have l1 := h.l1
  have l16 := h.l16
  have hl := o.hl
  have key : ∀ (xs : List Int) (found : List (Int × Pl)), (∀ a ∈ xs, 0 ≤ a ∧ a < N.1) → found.length + xs.length ≤ 1000 →
      lpN (fun (found : ((List (Int × ((List Int) × (List Int)))))) (lane : Int) => ((p_passed N pl.1 lane)).bind fun t18 => ((p_with_one pl.2 t18.2)).bind fun t24 => ((p_lowered t24)).bind fun t26 => ((appT found (lane, (t18.1, t26)))).bind fun found => some found) xs found = some (found ++ xs.map fun a => (a, stp N pl a)) := by
    intro xs
    induction xs with
    | nil => intro found _ _; rw [lpN, List.map_nil, List.append_nil]
    | cons a xs ih =>
      intro found hx hf
      rw [List.length_cons] at hf
      obtain ⟨s1, s2, s3, s4, _⟩ := step_ok h o (hx a (List.mem_cons_self ..)).1 (hx a (List.mem_cons_self ..)).2
      have hne : addL pl.2 (endP N pl a).toNat 1 ≠ [] := fun z => by rw [z] at s3; simp at s3; omega
      have s5 := (low_eq hne (by omega)).2
      rw [lpN, s1, Option.bind_some, s2, Option.bind_some, s5, Option.bind_some, appT_of (by omega), Option.bind_some, Option.bind_some, ih _ (fun b hb => hx b (List.mem_cons_of_mem _ hb)) (by rw [List.length_append]; simp; omega), ← s4]
      rw [List.map_cons, List.append_assoc]
      rfl
  unfold p_places_behind
  rw [Option.bind_some, key so [] hso (by simpa using h8), Option.bind_some]
  rfl
theorem lpR_cut {β ρ : Type} {F : Unit → β → Option (Lf Unit ρ)} {c : β → Bool} {g : ρ} : ∀ ys : List β, (∀ y ∈ ys, F () y = if c y = true then some (Lf.ret g) else some (.go ())) → lpR F ys () = some (if ys.any c = true then .ret g else .go ())
  | [], _ => rfl
  | y :: ys, h => by
    rw [lpR, h y (List.mem_cons_self ..), List.any_cons]
    cases hc : c y with
    | true => rfl
    | false =>
      have ih := lpR_cut ys fun z hz => h z (List.mem_cons_of_mem _ hz)
      rw [Bool.false_or, ← ih]
      rfl
theorem known_ks (ps : List Pl) : ksM (ps.map fun p => (p, true)) = ps := by
  unfold ksM
  rw [List.map_map]
  exact List.map_id _
theorem shows_w {N : Net} (h : GoodN N) {so : List Int} (hso : ∀ a ∈ so, 0 ≤ a ∧ a < N.1) (h8 : so.length ≤ 1000) {B : Int} {ps : List Pl} (l : Lot N so B ps) (far : Int) : p_shows_reach N so far ps = some (!(ps.any fun p => decide (far < maxL p.2))) := by
  have l1 := h.l1
  have l16 := h.l16
  have many := h.many
  have few := l.few
  have m1 : mapO (fun place => ((p_is_spot N place)).bind fun t14 => some t14) ps = some (ps.map fun _ => true) := mapO_some fun p hp => by rw [spot_w h (l.ok p hp)]; rfl
  have a1 : List.all (ps.map fun _ => true) id = true := by simp
  have kn : mergeM ([] : Mt45) (ps.map fun place => (place, true)) = ps.map fun place => (place, true) := by
    have := merge_new (ps.map fun place : Pl => (place, true)) ([] : Mt45) (by rw [known_ks]; exact l.nd) (fun k _ z => by cases z)
    rw [this, List.nil_append]
  have g1 : ∀ k : Pl, (getM (ps.map fun place : Pl => (place, true)) k).isSome = decide (k ∈ ps) := fun k => by
    rw [Bool.eq_iff_iff, getM_some, known_ks, decide_eq_true_iff]
  have fp : p_first_place N = some (fstP N) := by
    unfold p_first_place p_first_turns
    rw [repT_1 (by omega), Option.bind_some, Option.bind_some, repT_1 (by omega), Option.bind_some, Int.toNat_natCast]
    rfl
  have lp := lpR_cut (F := fun (s47 : Unit) (place : ((List Int) × (List Int))) => ((maxO place.2)).bind fun t54 => ((if (decide (far < t54)) = true then some true else ((p_places_behind N so place)).bind fun t61 => lim (t61.length) (some (!(List.all (List.map (fun y => ((getM (ps.map fun place : Pl => (place, true)) y.2).isSome)) t61) id))))).bind fun t71 => if t71 = true then some (Lf.ret (ρ := Bool) false) else some (.go ()))
    (c := fun p : Pl => decide (far < maxL p.2)) (g := false) ps fun p hp => by
      have o := l.ok p hp
      have hne : p.2 ≠ [] := fun z => by have := o.low; rw [z] at this; cases this
      rw [maxO_of hne, Option.bind_some]
      by_cases c : far < maxL p.2
      · rw [if_pos (decide_eq_true c), Option.bind_some, if_pos rfl, if_pos (decide_eq_true c)]
      · rw [if_neg (by simpa using c), behindP_w h o hso h8, Option.bind_some, lim_of (by rw [List.length_map]; omega), Option.bind_some]
        have al : List.all (List.map (fun y : Int × Pl => ((getM (ps.map fun place : Pl => (place, true)) y.2).isSome)) (so.map fun a => (a, stp N p a))) id = true := by
          rw [List.all_eq_true]
          intro b hb
          obtain ⟨y, hy, rfl⟩ := List.mem_map.mp hb
          obtain ⟨a, ha, rfl⟩ := List.mem_map.mp hy
          show (getM _ (stp N p a)).isSome = true
          rw [g1]
          exact decide_eq_true (l.cl p hp a ha)
        rw [al, if_neg (by simp), if_neg (by simpa using c)]
  unfold p_shows_reach
  simp only [Bool.not_true, Bool.false_eq_true, if_false]
  rw [lim_of (by omega), m1, Option.bind_some, a1]
  simp only [Bool.not_true, Option.bind_some, Bool.false_eq_true, if_false]
  rw [lim_of (by omega), kn, List.length_map, decide_eq_true rfl, fp]
  have g2 : decide (fstP N ∈ ps) = true := decide_eq_true l.fst
  simp only [Bool.not_true, Option.bind_some, Bool.false_eq_true, if_false, g1, g2]
  simp only [g1] at lp
  rw [lp, Option.bind_some]
  cases ps.any fun p => decide (far < maxL p.2) <;> rfl
theorem w_lcA {σ β δ : Type} {F : σ → β → Option (Option δ × σ)} {I : Nat → σ → Prop} {P : δ → Prop} : ∀ (ys : List β) (k : Nat) (s0 : σ), I k s0 → (∀ i s y, ys[i]? = some y → I (k + i) s → Sp (F s y) (fun r => ∃ d, r.1 = some d ∧ P d ∧ I (k + i + 1) r.2)) →
    Sp (lcS F ys s0) (fun r => r.1.length = ys.length ∧ (∀ d ∈ r.1, P d) ∧ I (k + ys.length) r.2)
  | [], k, s0, h0, _ => w_some ⟨rfl, by simp, h0⟩
  | y :: ys, k, s0, h0, hs => by
    rw [lcS]
    refine w_bind (hs 0 s0 y rfl h0) fun w ⟨d, e1, e2, e3⟩ => ?_
    refine w_bind (w_lcA (I := I) (P := P) ys (k + 1) w.2 e3 fun i s z hz hi => by
      have := hs (i + 1) s z (by simpa using hz) (by rw [show k + (i + 1) = k + 1 + i by omega]; exact hi)
      rw [show k + (i + 1) + 1 = k + 1 + i + 1 by omega] at this
      exact this) fun r ⟨r1, r2, r3⟩ => ?_
    rw [e1]
    refine w_some ⟨by simp [r1], fun x hx => ?_, by rw [List.length_cons, show k + (ys.length + 1) = k + 1 + ys.length by omega]; exact r3⟩
    rcases List.mem_cons.mp hx with rfl | hx
    · exact e2
    · exact r2 x hx
/-! ends reckoned by the law, stairs -/
theorem law_ends_eq {N : Net} {c : List Int} (h : GoodN N) (hc : (c.length : Int) = N.1) : p__law_ends N c = some (endsL N c) := by
  have key : ∀ (fs : List (Int × Int)) (c : List Int), (∀ p ∈ fs, GoodF c.length p) →
      lpN (fun (row : List Int) (y10 : Int × Int) => ((atI row y10.1)).bind fun t14 => ((atI row y10.2)).bind fun t17 => (some (t14 + t17)).bind fun total => ((setT row y10.1 (total - (total / (2 : Int))))).bind fun row => ((setT row y10.2 (total / (2 : Int)))).bind fun row => some row) fs c = some (lanesL c fs) := by
    intro fs
    induction fs with
    | nil => intro c _; rfl
    | cons p fs ih =>
      intro c hg
      obtain ⟨g1, g2, g3, g4, _⟩ := hg p (List.mem_cons_self ..)
      have ih := ih (hafL c p) (fun q hq => by rw [haf_len]; exact hg q (List.mem_cons_of_mem _ hq))
      rw [lpN]
      rw [atI_D 0 g1 g2, Option.bind_some, atI_D 0 g3 g4, Option.bind_some, Option.bind_some, setT_nn g1 g2, Option.bind_some, setT_nn g3 (by rw [List.length_set]; exact g4), Option.bind_some, Option.bind_some]
      refine Eq.trans ?_ ih
      have : c.getD p.1.toNat 0 + c.getD p.2.toNat 0 - (c.getD p.1.toNat 0 + c.getD p.2.toNat 0) / 2 = (manyL c p + 1) / 2 := by
        unfold manyL
        omega
      rw [this]
      rfl
  unfold p__law_ends
  have h16 := h.l16
  have el := h.elen
  rw [key N.2.1 c (h.lens hc), Option.bind_some, lim_of (by omega), mapO_eq (g := fun e : Int => (lanesL c N.2.1).getD e.toNat 0) fun e he => ?_, Option.bind_some]
  · rfl
  · obtain ⟨e0, e1⟩ := h.eget he
    rw [atI_D 0 e0 (by rw [lanesL_len]; omega)]; rfl
/-! k45 -/
theorem popT_snoc {α : Type} {xs : List α} {x : α} (h : xs.length < 1000000) : popT (xs ++ [x]) (-1) = some (x, xs) := by
  unfold popT
  rw [if_pos (by simp; omega)]
  have : ixN (xs ++ [x]).length (-1) = some xs.length := by
    unfold ixN
    simp
    omega
  rw [this, Option.bind_some, List.eraseIdx_append_of_length_le (Nat.le_refl _), Nat.sub_self]
  simp
/-- what is put off behind a new place -/
theorem waits_w {N : Net} (h : GoodN N) {B : Int} {pl : Pl} (o : OkPl N B pl) {low : List Int → Option (List Int)} (hlow : ∀ hs : List Int, hs ≠ [] → hs.length ≤ 1000 → low hs = some (lowL hs)) : ∀ (so : List Int) (waits : List Pl), (∀ a ∈ so, 0 ≤ a ∧ a < N.1) → waits.length + so.length ≤ 900000 →
    lpN (fun (waits : ((List ((List Int) × (List Int))))) (lane : Int) => ((p__law_passed N pl.1 lane)).bind fun t61 => ((p__law_more pl.2 t61.2)).bind fun t66 => ((low t66)).bind fun t68 => ((appT waits (t61.1, t68))).bind fun waits => some waits) so waits = some (waits ++ so.map (stp N pl))
  | [], waits, _, _ => by rw [lpN, List.map_nil, List.append_nil]
  | a :: so, waits, hx, hf => by
    rw [List.length_cons] at hf
    have l1 := h.l1
    have l16 := h.l16
    have hl := o.hl
    obtain ⟨s1, s2, s3, s4, _⟩ := step_ok h o (hx a (List.mem_cons_self ..)).1 (hx a (List.mem_cons_self ..)).2
    have s1 : p__law_passed N pl.1 a = some ((stp N pl a).1, endP N pl a) := s1
    have s2 : p__law_more pl.2 (endP N pl a) = some (addL pl.2 (endP N pl a).toNat 1) := s2
    have hne : addL pl.2 (endP N pl a).toNat 1 ≠ [] := fun z => by rw [z] at s3; simp at s3; omega
    rw [lpN, s1, Option.bind_some, s2, Option.bind_some, hlow _ hne (by omega), Option.bind_some, appT_of (by omega), Option.bind_some, Option.bind_some, waits_w h o hlow so _ (fun b hb => hx b (List.mem_cons_of_mem _ hb)) (by rw [List.length_append]; simp; omega), ← s4]
    rw [List.map_cons, List.append_assoc]
    rfl
theorem getM_no {met : Mt45} {w : Pl} (h : w ∉ ksM met) : (getM met w).isSome = false := by
  cases e : (getM met w).isSome with
  | false => rfl
  | true => exact absurd (getM_some.mp e) h
theorem all_places_w {N : Net} (h : GoodN N) {so : List Int} (hso : ∀ a ∈ so, 0 ≤ a ∧ a < N.1) (hs8 : so.length ≤ 8) : Sp (p__law_all_places 64 N so 600) (fun r => ∀ ps, r = some ps → Lot N so 700 ps ∧ ps.length ≤ 600) := by
  have l1 := h.l1
  have l16 := h.l16
  have many := h.many
  unfold p__law_all_places
  rw [repT_1 (by omega), Option.bind_some, repT_1 (by omega), Option.bind_some, Option.bind_some, Int.toNat_natCast]
  refine w_on (reach_while h hso hs8 (B := 0) (cap := 600) (by omega) (mk := fun met waits => (met, waits)) (fun met => ?_) (fun met waits hf => ?_) (fun met waits w hl hc hk => ?_) (fun met waits w ow hl hc hk => ?_) 16000 (64 * 256) [] [fstP N] (by omega) (by simp) (by simp) ⟨fun k hk => (by cases hk), fun k hk => by rw [List.mem_singleton.mp hk]; exact (fst_ok h).up (by simp), List.nodup_nil, .inr (List.mem_singleton_self _), fun k hk => (by cases hk)⟩ (by simp)) fun s ⟨met, waits, es, c, hc, hf⟩ => ?_
  · simp
  · have : decide ((met.length : Int) ≤ 600) = false := decide_eq_false (by omega)
    simp only [this, Bool.and_false, Bool.false_eq_true, if_false]
  · have z1 : decide (waits ++ [w] = []) = false := decide_eq_false (by simp)
    have z2 : decide ((met.length : Int) ≤ 600) = true := decide_eq_true (by omega)
    have z3 : (getM met (w.1, w.2)).isSome = true := getM_some.mpr hk
    simp only [z1, z2, Bool.not_false, Bool.and_true, if_true, popT_snoc (show waits.length < 1000000 by omega), Option.bind_some, z3, Bool.not_true, Bool.false_eq_true, if_false]
  · have z1 : decide (waits ++ [w] = []) = false := decide_eq_false (by simp)
    have z2 : decide ((met.length : Int) ≤ 600) = true := decide_eq_true (by omega)
    have z3 : (getM met (w.1, w.2)).isSome = false := getM_no hk
    have z4 : setMO met (w.1, w.2) true = some (met ++ [(w, true)]) := by
      unfold setMO
      rw [if_pos (by omega), put_new hk]
    have z5 := waits_w h ow (low := p__law_lowered__at0) (fun hs a b => (low_eq a b).1) so waits hso (by omega)
    simp only [z1, z2, Bool.not_false, Bool.and_true, if_true, popT_snoc (show waits.length < 1000000 by omega), Option.bind_some, z3, z4, z5]
  · subst es
    refine w_some fun ps hps => ?_
    simp only [] at hps
    by_cases z : (met.length : Int) ≤ 600
    · rw [if_pos (decide_eq_true z)] at hps
      have e : waits = [] := hf.resolve_right (by omega)
      subst e
      cases hps
      have := c.lot (B' := 700) (by omega) (by omega)
      exact ⟨this, by rw [List.length_map]; omega⟩
    · rw [if_neg (by simpa using z)] at hps
      cases hps
theorem with_w {N : Net} (h : GoodN N) {so : List Int} (hso : ∀ a ∈ so, 0 ≤ a ∧ a < N.1) (hs8 : so.length ≤ 8) {st : List Int} (hs : St3 st) {ps : List Pl} (l : Lot N so 700 ps) (hp : ps.length ≤ 600) : Sp (p__law_with 64 st N so ps) (fun r => Lot N so 3000 r.1 ∧ St3 r.2) := by
  have l1 := h.l1
  have l16 := h.l16
  have many := h.many
  unfold p__law_with
  rw [rngO_of (by omega), Option.bind_some]
  refine w_lim (by rw [rngI_len]; omega) ?_
  refine w_bind (w_lcA (I := fun _ s => St3 s) (P := fun d => 0 ≤ d ∧ d ≤ 2) (rngI 0 N.1.toNat) 0 st hs fun i s y hy hi => ?_) fun hgt ⟨g1, g2, g3⟩ => ?_
  · refine w_bind (pick_w hi (by decide) (by decide)) fun u ⟨u0, u1, us⟩ => w_some ⟨_, rfl, ⟨u0, by omega⟩, us⟩
  rw [rngI_len] at g1
  have hne : hgt.1 ≠ [] := fun z => by rw [z] at g1; simp at g1; omega
  have lw : p__law_lowered__at1 hgt.1 = some (lowL hgt.1) := (low_eq hne (by omega)).1
  rw [lw, Option.bind_some]
  refine w_lim (by omega) ?_
  refine w_bind (w_lcA (I := fun _ s => St3 s) (P := fun d => d = 0 ∨ d = 1) N.2.1 0 hgt.2 g3 fun i s y hy hi => ?_) fun tr ⟨t1, t2, t3⟩ => ?_
  · refine w_bind (pick_w hi (by decide) (by decide)) fun u ⟨u0, u1, us⟩ => w_some ⟨_, rfl, by show u.1 = 0 ∨ u.1 = 1; omega, us⟩
  refine w_lim (by omega) ?_
  have kn : mergeM ([] : Mt45) (ps.map fun place => (place, true)) = ps.map fun place => (place, true) := by
    have := merge_new (ps.map fun place : Pl => (place, true)) ([] : Mt45) (by rw [known_ks]; exact l.nd) (fun k _ z => by cases z)
    rw [this, List.nil_append]
  rw [kn]
  have mm := minL_mem hne
  have os : OkPl N 2 (tr.1, lowL hgt.1) := by
    refine ⟨t1, t2, by show ((lowL hgt.1).length : Int) = _; unfold lowL; rw [List.length_map]; omega, fun x hx => ?_, fun x hx => ?_, List.mem_map.mpr ⟨_, mm, by omega⟩⟩
    · obtain ⟨y, hy, rfl⟩ := List.mem_map.mp hx
      have := minL_le hy
      omega
    · obtain ⟨y, hy, rfl⟩ := List.mem_map.mp hx
      have := (g2 y hy).2
      have := (g2 _ mm).1
      omega
  have c0 : Clo N so 700 (ps.map fun place : Pl => (place, true)) [(tr.1, lowL hgt.1)] := by
    refine ⟨fun k hk => ?_, fun k hk => by rw [List.mem_singleton.mp hk]; exact os.up (by omega), by rw [known_ks]; exact l.nd, .inl (by rw [known_ks]; exact l.fst), fun k hk a ha => ?_⟩
    · rw [known_ks] at hk
      exact (l.ok k hk).up (by omega)
    · rw [known_ks] at hk ⊢
      exact .inl (l.cl k hk a ha)
  refine w_on (reach_while h hso hs8 (B := 700) (cap := 1499) (by omega) (mk := fun met waits => (waits, met)) (fun met => ?_) (fun met waits hf => ?_) (fun met waits w hl hc hk => ?_) (fun met waits w ow hl hc hk => ?_) 16000 (64 * 256) _ _ (by omega) (by show 1 + _ ≤ _; omega) (by rw [List.length_map]; omega) c0 (by show 1 ≤ _; omega)) fun s ⟨met, waits, es, c, hc, hf⟩ => ?_
  · simp
  · have : decide ((met.length : Int) < 1500) = false := decide_eq_false (by omega)
    simp only [this, Bool.and_false, Bool.false_eq_true, if_false]
  · have z1 : decide (waits ++ [w] = []) = false := decide_eq_false (by simp)
    have z2 : decide ((met.length : Int) < 1500) = true := decide_eq_true (by omega)
    have z3 : (getM met (w.1, w.2)).isSome = true := getM_some.mpr hk
    simp only [z1, z2, Bool.not_false, Bool.and_true, if_true, popT_snoc (show waits.length < 1000000 by omega), Option.bind_some, z3, Bool.not_true, Bool.false_eq_true, if_false]
  · have z1 : decide (waits ++ [w] = []) = false := decide_eq_false (by simp)
    have z2 : decide ((met.length : Int) < 1500) = true := decide_eq_true (by omega)
    have z3 : (getM met (w.1, w.2)).isSome = false := getM_no hk
    have z4 : setMO met (w.1, w.2) true = some (met ++ [(w, true)]) := by
      unfold setMO
      rw [if_pos (by omega), put_new hk]
    have z5 := waits_w h ow (low := p__law_lowered__at2) (fun hs a b => (low_eq a b).1) so waits hso (by omega)
    simp only [z1, z2, Bool.not_false, Bool.and_true, if_true, popT_snoc (show waits.length < 1000000 by omega), Option.bind_some, z3, z4, z5]
  · subst es
    refine w_some ⟨?_, t3⟩
    show Lot N so 3000 (if decide (waits = []) = true then met.map Prod.fst else ps)
    by_cases z : waits = []
    · subst z
      rw [if_pos (decide_eq_true rfl)]
      have no : ∀ x : Pl, x ∈ ksM met ∨ x ∈ ([] : List Pl) → x ∈ ksM met := fun x hx => hx.resolve_right fun z => by cases z
      exact ⟨fun k hk => (c.okm k hk).up (by omega), c.nd, no _ c.fst, fun k hk a ha => no _ (c.cl k hk a ha), by rw [List.length_map]; omega⟩
    · rw [if_neg (by simpa using z)]
      exact l.up (by omega)
/-! k45: what is drawn; the law -/
theorem placed3 {τ ρ : Type} {F : List Int × List τ × List τ → Option (Option (Lf (List Int × List τ × List τ) ρ))} (h0 : ∀ s fs, F (s, [], fs) = some none)
    (h1 : ∀ s xs fs, xs ≠ [] → F (s, xs, fs) = (((p__law_pick s (xs.length : Int))).bind fun t14 => ((popT xs t14.1)).bind fun t16 => ((appT fs t16.1)).bind fun found => some (.go (t14.2, t16.2, found))).bind fun w => some (some w)) :
    ∀ (m n : Nat) (s : List Int) (xs fs : List τ), xs.length = m → m < n → St3 s → fs.length + m ≤ 100000 → Sp (lpW F n (s, xs, fs)) (Go fun w => St3 w.1 ∧ w.2.2.Perm (xs ++ fs))
  | _, 0, _, _, _, _, h, _, _ => by omega
  | 0, n + 1, s, xs, fs, hr, _, hs, _ => by
    have : xs = [] := List.length_eq_zero_iff.mp hr
    subst this
    exact ⟨_, by rw [lpW, h0, Option.bind_some], _, rfl, hs, .refl _⟩
  | m + 1, n + 1, s, xs, fs, hr, hn, hs, hl => by
    have hne : xs ≠ [] := fun e => by rw [e] at hr; cases hr
    obtain ⟨u, e, u0, u1, hu⟩ := pick_w hs (m := (xs.length : Int)) (by omega) (by omega)
    have hk : u.1.toNat < xs.length := by omega
    have ep := popT_of (xs := xs) (by omega) u0 (by omega)
    have hp := perm_pop xs fs u.1.toNat hk
    have hlen : (xs.eraseIdx u.1.toNat).length = m := by rw [List.length_eraseIdx_of_lt hk]; omega
    have st := h1 s xs fs hne
    generalize xs.eraseIdx u.1.toNat = xs2 at hp hlen ep
    generalize xs[u.1.toNat] = f at hp ep
    rw [e, Option.bind_some, ep, Option.bind_some] at st
    simp only [] at st
    rw [appT_of (by omega)] at st
    rw [lpW, st]
    obtain ⟨x, x1, y, x2, y1, y2⟩ := placed3 h0 h1 m n u.2 xs2 (fs ++ [f]) hlen (by omega) hu (by simp; omega)
    exact ⟨x, x1, y, x2, y1, y2.trans hp⟩
theorem mixed2_w {n : Nat} {s : List Int} {xs : List Pl} (hn : xs.length < n * 256) (hx : xs.length ≤ 90000) (h : St3 s) : Sp (p__law_mixed__at2 n s xs) (fun r => r.1.Perm xs ∧ St3 r.2) := by
  unfold p__law_mixed__at2
  refine w_on (placed3 (fun s fs => ?_) (fun s xs fs hne => ?_) _ (n * 256) s xs [] rfl hn h (by simp; omega)) fun w ⟨w1, w2⟩ => w_some ⟨by simpa using w2, w1⟩
  · simp
  · have : decide (xs = []) = false := decide_eq_false hne
    simp only [this, Bool.not_false, if_true]
def blockB (size : Int) : Bool := match p__law_block 64 (rngI 0 size.toNat) with
  | some fs => fs.all (fun p => decide (0 ≤ p.1) && decide (p.1 < size) && decide (0 ≤ p.2) && decide (p.2 < size) && decide (p.1 ≠ p.2)) && decide (fs.length ≤ 12)
  | none => false
theorem block_all : ([2, 4, 8] : List Int).all blockB = true := by decide +kernel
theorem block_w {size : Int} (h : size = 2 ∨ size = 4 ∨ size = 8) : Sp (p__law_block 64 (rngI 0 size.toNat)) fun fs => (∀ p ∈ fs, GoodF size p) ∧ fs.length ≤ 12 := by
  have a := block_all
  rw [List.all_eq_true] at a
  have b := a size (by simp; exact h)
  unfold blockB at b
  split at b
  · rename_i fs e
    rw [Bool.and_eq_true, decide_eq_true_eq, List.all_eq_true] at b
    refine ⟨fs, e, fun p hp => ?_, b.2⟩
    have := b.1 p hp
    simp only [Bool.and_eq_true, decide_eq_true_eq] at this
    obtain ⟨⟨⟨⟨a, b⟩, c⟩, d⟩, e⟩ := this
    exact ⟨a, b, c, d, e⟩
  · cases b
theorem evened_w {s : List Int} (h : St3 s) : Sp (p__law_evened 64 s) fun r => GoodN r.1 ∧ r.1.1 ≤ 8 ∧ r.1.2.1.length ≤ 16 ∧ St3 r.2 := by
  unfold p__law_evened
  refine w_bind (pick_w h (by decide) (by decide)) fun u1 ⟨a0, a1, t1⟩ => ?_
  refine w_ite (fun _ => w_bind (net_w t1) fun r ⟨g, l, t⟩ => w_some ⟨g, by show r.1.1 ≤ 8; have := l.2.1; omega, l.1, t⟩) fun _ => ?_
  refine w_ite (fun _ => ?_) fun _ => ?_
  · refine w_bind (pick_w t1 (by decide) (by decide)) fun u2 ⟨b0, b1, t2⟩ => ?_
    refine w_bind (w_atI b0 (by simpa using b1)) fun way hway => ?_
    have hway : 0 ≤ way ∧ way < 3 := by
      simp only [List.mem_cons, List.not_mem_nil, or_false] at hway
      omega
    refine w_bind (pick_w t2 (by decide) (by decide)) fun u3 ⟨c0, c1, t3⟩ => ?_
    refine w_bind (made_w hway.1 hway.2 c0 c1) fun N ⟨g, gl, gN⟩ => w_some ⟨g, ?_, by show N.2.1.length ≤ 16; omega, t3⟩
    show N.1 ≤ 8
    rw [gN]
    rcases (by omega : u3.1 = 0 ∨ u3.1 = 1 ∨ u3.1 = 2) with z | z | z <;> rw [z] <;> decide
  · refine w_bind (pick_w t1 (by decide) (by decide)) fun u2 ⟨b0, b1, t2⟩ => ?_
    refine w_bind (w_atI b0 (by simpa using b1)) fun size hsize => ?_
    have hsz : size = 2 ∨ size = 4 ∨ size = 8 := by
      simp only [List.mem_cons, List.not_mem_nil, or_false] at hsize
      omega
    rw [rngO_of (by omega), Option.bind_some]
    refine w_bind (block_w hsz) fun fs ⟨f1, f2⟩ => ?_
    refine w_lim (by omega) ?_
    refine w_bind (w_lcSm St3 (fun p => GoodF size p) fs u2.2 t2 fun y hy s hs => ?_) fun r ⟨r1, r2, r3⟩ => ?_
    · refine w_bind (pick_w hs (by decide) (by decide)) fun v ⟨v0, v1, vs⟩ => ?_
      refine w_bind (w_atI v0 (by simpa using v1)) fun q hq => w_some ⟨fun d hd => ?_, vs⟩
      cases hd
      have g := f1 y hy
      simp only [List.mem_cons, List.not_mem_nil, or_false] at hq
      rcases hq with e | e <;> rw [e]
      · exact g
      · exact ⟨g.2.2.1, g.2.2.2.1, g.1, g.2.1, fun z => g.2.2.2.2 z.symm⟩
    refine w_bind (pick_w r2 (by decide) (by decide)) fun u3 ⟨c0, c1, t3⟩ => ?_
    have hm : 0 ≤ u3.1 * (if decide (size < (8 : Int)) = true then 1 else 0) ∧ u3.1 * (if decide (size < (8 : Int)) = true then 1 else 0) ≤ 3 := by
      split <;> omega
    obtain ⟨mn, hmn⟩ : ∃ x, x = u3.1 * (if decide (size < (8 : Int)) = true then 1 else 0) := ⟨_, rfl⟩
    rw [← hmn] at hm ⊢
    rw [rngO_of (by omega), Option.bind_some]
    refine w_bind (w_lpN (fun i s => s.2.length ≤ 12 + i ∧ (∀ p ∈ s.2, GoodF size p) ∧ St3 s.1) ⟨by show r.1.length ≤ 12 + 0; omega, r1, t3⟩ fun i s y hy hi => ?_) fun sF hF => ?_
    · obtain ⟨y1, y2⟩ := rngI_get hy
      obtain ⟨h1, h2, h3⟩ := hi
      have hL2 : 2 ≤ size := by omega
      refine w_bind (pick_w h3 (by omega) (by omega)) fun v1 ⟨c0, c1, w1⟩ => ?_
      refine w_bind (pick_w w1 (by omega) (by omega)) fun v2 ⟨d0, d1, w2⟩ => ?_
      rw [modT_of (by omega), Option.bind_some]
      have m0 := Int.emod_nonneg (v1.1 + 1 + v2.1) (show size ≠ 0 by omega)
      have m1 := Int.emod_lt_of_pos (v1.1 + 1 + v2.1) (show 0 < size by omega)
      have g0 : GoodF size (v1.1, (v1.1 + 1 + v2.1) % size) := ⟨c0, c1, m0, m1, fun z => ring_ne hL2 c0 c1 d0 (by omega) z.symm⟩
      rw [appT_of (by omega), Option.bind_some]
      refine w_some ⟨by rw [List.length_append]; simp; omega, fun p hp => ?_, w2⟩
      rcases List.mem_append.mp hp with z | z
      · exact h2 p z
      · rw [List.mem_singleton.mp z]; exact g0
    obtain ⟨g1, g2, g3⟩ := hF
    rw [rngI_len] at g1
    rw [Option.bind_some, Option.bind_some]
    have mx : Sp (p__law_mixed__at1 64 sF.1 (rngI 0 size.toNat)) (fun r => r.1.Perm (rngI 0 size.toNat) ∧ St3 r.2) := mixed_w (n := 64) (by rw [rngI_len]; omega) (by rw [rngI_len]; omega) g3
    refine w_bind mx fun q ⟨q1, q2⟩ => ?_
    refine w_bind (pick_w q2 (by decide) (by decide)) fun u ⟨u0, u1, us⟩ => ?_
    refine w_bind (w_atI u0 (by simpa using u1)) fun en hen => ?_
    have pe : en.Perm (rngI 0 size.toNat) := by
      simp only [List.mem_cons, List.not_mem_nil, or_false] at hen
      rcases hen with rfl | rfl
      · exact List.Perm.refl _
      · exact q1
    exact w_some ⟨⟨by show 1 ≤ size; omega, by show size ≤ 16; omega, by show sF.2.length ≤ 128; omega, g2, pe⟩, by show size ≤ 8; omega, by show sF.2.length ≤ 16; omega, us⟩
/-! the text of places is there -/
theorem wt_int {i : Int} (h0 : 0 ≤ i) (h1 : i ≤ 3000) : PyData.weight (eI i) ≤ 12 := by
  show (if (i == 0) = true then 0 else i.natAbs.log2 + 1) ≤ 12
  split
  · omega
  · have hz : i.natAbs ≠ 0 := fun z => by
      have : i = 0 := by omega
      subst this
      simp at *
    have := (Nat.log2_lt hz (k := 12)).mpr (by omega)
    omega
theorem wt_ints : ∀ xs : List Int, (∀ x ∈ xs, 0 ≤ x ∧ x ≤ 3000) → PyData.weightAll (xs.map eI) ≤ 13 * xs.length ∧ shs (xs.map eI) = true ∧ PyData.depthAll (xs.map eI) = 0
  | [], _ => ⟨Nat.le_refl _, rfl, rfl⟩
  | x :: xs, h => by
    obtain ⟨i1, i2, i3⟩ := wt_ints xs fun y hy => h y (List.mem_cons_of_mem _ hy)
    have hx := h x (List.mem_cons_self ..)
    have w := wt_int hx.1 hx.2
    refine ⟨?_, ?_, ?_⟩
    · rw [List.map_cons, PyData.weightAll, List.length_cons]; omega
    · rw [List.map_cons, shs, i2, Bool.and_true]
      show decide (x.natAbs < 10 ^ 12) = true
      exact decide_eq_true (by omega)
    · rw [List.map_cons, PyData.depthAll, i3]
      rfl
theorem wt_pl {N : Net} {pl : Pl} (o : OkPl N 3000 pl) (hF : N.2.1.length ≤ 16) (h8 : N.1 ≤ 8) : PyData.weight (eP (eT eI) (eT eI) pl) ≤ 320 ∧ sh (eP (eT eI) (eT eI) pl) = true ∧ PyData.depth (eP (eT eI) (eT eI) pl) ≤ 2 := by
  have tl := o.tl
  have hl := o.hl
  obtain ⟨a1, a2, a3⟩ := wt_ints pl.1 fun t ht => by rcases o.t01 t ht with z | z <;> omega
  obtain ⟨b1, b2, b3⟩ := wt_ints pl.2 fun t ht => ⟨o.h0 t ht, o.hB t ht⟩
  refine ⟨?_, ?_, ?_⟩
  · show PyData.weightAll (pl.1.map eI) + 1 + (PyData.weightAll (pl.2.map eI) + 1 + 0) ≤ 320
    omega
  · show (shs (pl.1.map eI) && (shs (pl.2.map eI) && true)) = true
    rw [a2, b2]; rfl
  · show max (PyData.depthAll (pl.1.map eI) + 1) (max (PyData.depthAll (pl.2.map eI) + 1) 0) + 1 ≤ 2
    rw [a3, b3]
    decide
theorem wt_pls {N : Net} (hF : N.2.1.length ≤ 16) (h8 : N.1 ≤ 8) : ∀ ps : List Pl, (∀ p ∈ ps, OkPl N 3000 p) → PyData.weightAll (ps.map (eP (eT eI) (eT eI))) ≤ 321 * ps.length ∧ shs (ps.map (eP (eT eI) (eT eI))) = true ∧ PyData.depthAll (ps.map (eP (eT eI) (eT eI))) ≤ 2
  | [], _ => ⟨Nat.le_refl _, rfl, Nat.zero_le _⟩
  | p :: ps, h => by
    obtain ⟨i1, i2, i3⟩ := wt_pls hF h8 ps fun y hy => h y (List.mem_cons_of_mem _ hy)
    obtain ⟨a1, a2, a3⟩ := wt_pl (h p (List.mem_cons_self ..)) hF h8
    refine ⟨?_, ?_, ?_⟩
    · rw [List.map_cons, PyData.weightAll, List.length_cons]; omega
    · rw [List.map_cons, shs, a2, i2]; rfl
    · rw [List.map_cons, PyData.depthAll]; omega
theorem repr_w {N : Net} {so : List Int} {ps : List Pl} (l : Lot N so 3000 ps) (hF : N.2.1.length ≤ 16) (h8 : N.1 ≤ 8) : ∃ z, reprT (eT (eP (eT eI) (eT eI))) ps = some z := by
  obtain ⟨a1, a2, a3⟩ := wt_pls hF h8 ps l.ok
  have few := l.few
  have ok : okR (eT (eP (eT eI) (eT eI)) ps) = true := by
    show (true && shs (ps.map (eP (eT eI) (eT eI))) && decide (PyData.weightAll (ps.map (eP (eT eI) (eT eI))) ≤ 2 ^ 20) && decide (PyData.depthAll (ps.map (eP (eT eI) (eT eI))) + 1 ≤ 40)) = true
    rw [a2, decide_eq_true (show PyData.weightAll (ps.map (eP (eT eI) (eT eI))) ≤ 2 ^ 20 by omega), decide_eq_true (show PyData.depthAll (ps.map (eP (eT eI) (eT eI))) + 1 ≤ 40 by omega)]
    rfl
  unfold reprT
  rw [dif_pos ok]
  exact ⟨_, rfl⟩
theorem lpR_tot {β ρ : Type} {F : Unit → β → Option (Lf Unit ρ)} : ∀ ys : List β, (∀ y ∈ ys, F () y = some (.go ()) ∨ ∃ r, F () y = some (.ret r)) → lpR F ys () = some (.go ()) ∨ ∃ r, lpR F ys () = some (.ret r)
  | [], _ => .inl rfl
  | y :: ys, h => by
    rcases h y (List.mem_cons_self ..) with e | ⟨r, e⟩
    · rw [lpR, e]
      exact lpR_tot ys fun z hz => h z (List.mem_cons_of_mem _ hz)
    · rw [lpR, e]
      exact .inr ⟨r, rfl⟩
theorem even_w {N : Net} (h : GoodN N) {so : List Int} : Sp (p__law_even N so) fun _ => True := by
  have l1 := h.l1
  have l16 := h.l16
  have el := h.elen
  unfold p__law_even
  rcases lpR_tot (F := fun (s5 : Unit) (lane : Int) => ((rngO N.1)).bind fun t12 => lim (t12.length) (((p__law_ends N (List.map (fun one => ((1152921504606846976 : Int) * (if (decide (one = lane)) = true then 1 else 0))) t12))).bind fun t30 => ((lenSetT t30)).bind fun t32 => if (decide ((1 : Int) < t32)) = true then some (Lf.ret (ρ := Bool) false) else some (.go ()))) so (fun a _ => by
    rw [rngO_of (by omega), Option.bind_some, lim_of (by rw [rngI_len]; omega), law_ends_eq h (by rw [List.length_map, rngI_len]; omega), Option.bind_some]
    unfold lenSetT
    rw [if_pos (by rw [endsL_len, el]; omega), Option.bind_some]
    split
    · exact .inr ⟨_, rfl⟩
    · exact .inl rfl) with e | ⟨r, e⟩
  · exact ⟨true, by rw [e]; rfl, trivial⟩
  · exact ⟨r, by rw [e]; rfl, trivial⟩
theorem p_law_true (ns : List Int) (hl : ns.length ≤ 63) : p_law 64 ns = some true := by
  have : Sp (p_law 64 ns) (fun b => b = true) := by
    unfold p_law
    rw [rngO_of (by omega), Option.bind_some]
    refine w_on (w_lpR (fun _ _ => True) trivial fun i s y hy _ => ?_) fun s _ => w_some rfl
    obtain ⟨y1, y2⟩ := rngI_get hy
    refine w_bind (left_w ns y (by omega) (by omega)) fun st hst => ?_
    refine w_bind (evened_w hst) fun r ⟨g, h8, hF, s1⟩ => ?_
    obtain ⟨N, sN⟩ := r
    have g : GoodN N := g
    have h8 : N.1 ≤ 8 := h8
    have hF : N.2.1.length ≤ 16 := hF
    have l1 := g.l1
    refine w_bind (some_w s1 g) fun so ⟨o1, o2, o3⟩ => ?_
    have hs8 : so.1.length ≤ 8 := by omega
    refine w_bind (even_w g) fun ev _ => ?_
    refine w_ite (fun _ => ?_) fun _ => w_go trivial
    refine w_bind (all_places_w g o1 hs8) fun places hpl => ?_
    refine w_ite (fun c => ?_) fun _ => w_go trivial
    obtain ⟨ps, eps⟩ := Option.isSome_iff_exists.mp c
    subst eps
    obtain ⟨lot, p600⟩ := hpl ps rfl
    rw [Option.bind_some, Option.bind_some]
    refine w_bind (with_w g o1 hs8 o3 lot p600) fun w ⟨w1, w2⟩ => ?_
    refine w_on (w_lpR (fun _ s => St3 s) w2 fun i s y hy hs => ?_) fun s hs => w_go trivial
    have hy : y ∈ [ps, w.1] := List.mem_of_getElem? hy
    have ly : Lot N so.1 3000 y := by
      simp only [List.mem_cons, List.not_mem_nil, or_false] at hy
      rcases hy with e | e <;> rw [e]
      · exact lot.up (by omega)
      · exact w1
    have few := ly.few
    refine w_lim (by omega) ?_
    have nep : ∀ p ∈ y, p.2 ≠ [] := fun p hp z => by have := (ly.ok p hp).low; rw [z] at this; cases this
    have mo : mapO (fun y : Pl => ((maxO y.2)).bind fun t58 => some t58) y = some (y.map fun p => maxL p.2) := mapO_some fun p hp => by rw [maxO_of (nep p hp)]; rfl
    have ney : (y.map fun p => maxL p.2) ≠ [] := fun z => by
      have := List.map_eq_nil_iff.mp z
      have f := ly.fst
      rw [this] at f
      cases f
    refine w_eq mo ?_
    refine w_eq (maxO_of ney) ?_
    refine w_bind (mixed2_w (by omega) (by omega) hs) fun t ⟨t1, t2⟩ => ?_
    have lt := ly.perm t1
    obtain ⟨z, ez⟩ := repr_w lt hF h8
    have sw := shows_w g o1 (by omega) lt
    have none_far : ∀ far', maxL (y.map fun p => maxL p.2) ≤ far' → (t.1.any fun p => decide (far' < maxL p.2)) = false := fun far' hf => by
      rw [List.any_eq_false]
      intro p hp
      have hp := t1.mem_iff.mp hp
      have := maxL_le (List.mem_map.mpr ⟨p, hp, rfl⟩ : maxL p.2 ∈ y.map fun p => maxL p.2)
      simp only [decide_eq_true_eq]
      omega
    have some_far : (t.1.any fun p => decide (maxL (y.map fun p => maxL p.2) - 1 < maxL p.2)) = true := by
      obtain ⟨p, hp, ep⟩ := List.mem_map.mp (maxL_mem ney)
      rw [List.any_eq_true]
      exact ⟨p, t1.mem_iff.mpr hp, decide_eq_true (by omega)⟩
    have s1 := sw (maxL (y.map fun p => maxL p.2))
    rw [none_far _ (Int.le_refl _)] at s1
    have s3 := sw (maxL (y.map fun p => maxL p.2) - 1)
    rw [some_far] at s3
    refine w_eq ez ?_
    refine w_eq s1 ?_
    simp only [ez, Bool.not_false, Bool.not_true, Option.bind_some, decide_true, Bool.false_eq_true, if_false]
    refine w_bind (pick_w t2 (by decide) (by decide)) fun u ⟨u0, u1, us⟩ => ?_
    have s2 := sw (maxL (y.map fun p => maxL p.2) + 1 + u.1)
    rw [none_far _ (by omega)] at s2
    simp only [s2, s3, Bool.not_false, Bool.not_true, Option.bind_some, decide_true, Bool.false_eq_true, if_false]
    exact w_go us
  obtain ⟨b, e, rfl⟩ := this
  exact e
theorem law_holds : ∀ ns : List Int, ns.length ≤ 63 → ∃ as, f_law 64 [.dict [(.none, .list (ns.map .int))]] = .ok (.bool true) as := fun ns h => ⟨_, tok_law 64 ns true (p_law_true ns h)⟩
structure Txt (K : PySem.W.Frag) (mg : Str → Option Value) where
  a_passed : Addr
  d_passed : FuncData
  F_passed : Fun K "passed" "passed" s_passed a_passed d_passed
  g_passed : mg "passed" = some (.ref a_passed)
  b_passed : Binds K d_passed ["net", "turns", "lane"] []
  a_with_one : Addr
  d_with_one : FuncData
  F_with_one : Fun K "with_one" "with_one" s_with_one a_with_one d_with_one
  g_with_one : mg "with_one" = some (.ref a_with_one)
  b_with_one : Binds K d_with_one ["counts", "at"] []
  a_first_turns : Addr
  d_first_turns : FuncData
  F_first_turns : Fun K "first_turns" "first_turns" s_first_turns a_first_turns d_first_turns
  g_first_turns : mg "first_turns" = some (.ref a_first_turns)
  b_first_turns : Binds K d_first_turns ["net"] []
  a_lowered : Addr
  d_lowered : FuncData
  F_lowered : Fun K "lowered" "lowered" s_lowered a_lowered d_lowered
  g_lowered : mg "lowered" = some (.ref a_lowered)
  b_lowered : Binds K d_lowered ["heights"] []
  a_places_behind : Addr
  d_places_behind : FuncData
  F_places_behind : Fun K "places_behind" "places_behind" s_places_behind a_places_behind d_places_behind
  g_places_behind : mg "places_behind" = some (.ref a_places_behind)
  b_places_behind : Binds K d_places_behind ["net", "some", "place"] []
  a_first_place : Addr
  d_first_place : FuncData
  F_first_place : Fun K "first_place" "first_place" s_first_place a_first_place d_first_place
  g_first_place : mg "first_place" = some (.ref a_first_place)
  b_first_place : Binds K d_first_place ["net"] []
  a_is_whole : Addr
  d_is_whole : FuncData
  F_is_whole : Fun K "is_whole" "is_whole" s_is_whole a_is_whole d_is_whole
  g_is_whole : mg "is_whole" = some (.ref a_is_whole)
  b_is_whole : Binds K d_is_whole ["thing", "least"] []
  a_are_turns : Addr
  d_are_turns : FuncData
  F_are_turns : Fun K "are_turns" "are_turns" s_are_turns a_are_turns d_are_turns
  g_are_turns : mg "are_turns" = some (.ref a_are_turns)
  b_are_turns : Binds K d_are_turns ["net", "thing"] []
  a_are_heights : Addr
  d_are_heights : FuncData
  F_are_heights : Fun K "are_heights" "are_heights" s_are_heights a_are_heights d_are_heights
  g_are_heights : mg "are_heights" = some (.ref a_are_heights)
  b_are_heights : Binds K d_are_heights ["net", "thing"] []
  a_is_spot : Addr
  d_is_spot : FuncData
  F_is_spot : Fun K "is_spot" "is_spot" s_is_spot a_is_spot d_is_spot
  g_is_spot : mg "is_spot" = some (.ref a_is_spot)
  b_is_spot : Binds K d_is_spot ["net", "thing"] []
  a_shows_reach : Addr
  d_shows_reach : FuncData
  F_shows_reach : Fun K "shows_reach" "shows_reach" s_shows_reach a_shows_reach d_shows_reach
  g_shows_reach : mg "shows_reach" = some (.ref a_shows_reach)
  b_shows_reach : Binds K d_shows_reach ["net", "some", "far", "thing"] []
  a__law_left : Addr
  d__law_left : FuncData
  F__law_left : Fun K "_law_left" "_law_left" s__law_left a__law_left d__law_left
  g__law_left : mg "_law_left" = some (.ref a__law_left)
  b__law_left : Binds K d__law_left ["_law_script", "_law_k"] []
  a__law_pick : Addr
  d__law_pick : FuncData
  F__law_pick : Fun K "_law_pick" "_law_pick" s__law_pick a__law_pick d__law_pick
  g__law_pick : mg "_law_pick" = some (.ref a__law_pick)
  b__law_pick : Binds K d__law_pick ["_law_left_here", "_law_many"] []
  a__law_mixed : Addr
  d__law_mixed : FuncData
  F__law_mixed : Fun K "_law_mixed" "_law_mixed" s__law_mixed a__law_mixed d__law_mixed
  g__law_mixed : mg "_law_mixed" = some (.ref a__law_mixed)
  b__law_mixed : Binds K d__law_mixed ["_law_left_here", "_law_row"] []
  a__law_merger : Addr
  d__law_merger : FuncData
  F__law_merger : Fun K "_law_merger" "_law_merger" s__law_merger a__law_merger d__law_merger
  g__law_merger : mg "_law_merger" = some (.ref a__law_merger)
  b__law_merger : Binds K d__law_merger ["_law_one", "_law_other"] []
  a__law_stairway : Addr
  d__law_stairway : FuncData
  F__law_stairway : Fun K "_law_stairway" "_law_stairway" s__law_stairway a__law_stairway d__law_stairway
  g__law_stairway : mg "_law_stairway" = some (.ref a__law_stairway)
  b__law_stairway : Binds K d__law_stairway ["_law_row"] []
  a__law_block : Addr
  d__law_block : FuncData
  F__law_block : Fun K "_law_block" "_law_block" s__law_block a__law_block d__law_block
  g__law_block : mg "_law_block" = some (.ref a__law_block)
  b__law_block : Binds K d__law_block ["_law_row"] []
  a__law_tree : Addr
  d__law_tree : FuncData
  F__law_tree : Fun K "_law_tree" "_law_tree" s__law_tree a__law_tree d__law_tree
  g__law_tree : mg "_law_tree" = some (.ref a__law_tree)
  b__law_tree : Binds K d__law_tree ["_law_row"] []
  a__law_made : Addr
  d__law_made : FuncData
  F__law_made : Fun K "_law_made" "_law_made" s__law_made a__law_made d__law_made
  g__law_made : mg "_law_made" = some (.ref a__law_made)
  b__law_made : Binds K d__law_made ["_law_way", "_law_k"] []
  a__law_any : Addr
  d__law_any : FuncData
  F__law_any : Fun K "_law_any" "_law_any" s__law_any a__law_any d__law_any
  g__law_any : mg "_law_any" = some (.ref a__law_any)
  b__law_any : Binds K d__law_any ["_law_left_here"] []
  a__law_changed : Addr
  d__law_changed : FuncData
  F__law_changed : Fun K "_law_changed" "_law_changed" s__law_changed a__law_changed d__law_changed
  g__law_changed : mg "_law_changed" = some (.ref a__law_changed)
  b__law_changed : Binds K d__law_changed ["_law_left_here", "_law_net_here"] []
  a__law_net : Addr
  d__law_net : FuncData
  F__law_net : Fun K "_law_net" "_law_net" s__law_net a__law_net d__law_net
  g__law_net : mg "_law_net" = some (.ref a__law_net)
  b__law_net : Binds K d__law_net ["_law_left_here"] []
  a__law_some : Addr
  d__law_some : FuncData
  F__law_some : Fun K "_law_some" "_law_some" s__law_some a__law_some d__law_some
  g__law_some : mg "_law_some" = some (.ref a__law_some)
  b__law_some : Binds K d__law_some ["_law_left_here", "_law_net_here"] []
  a__law_passed : Addr
  d__law_passed : FuncData
  F__law_passed : Fun K "_law_passed" "_law_passed" s__law_passed a__law_passed d__law_passed
  g__law_passed : mg "_law_passed" = some (.ref a__law_passed)
  b__law_passed : Binds K d__law_passed ["_law_net_here", "_law_turns", "_law_lane"] []
  a__law_ends : Addr
  d__law_ends : FuncData
  F__law_ends : Fun K "_law_ends" "_law_ends" s__law_ends a__law_ends d__law_ends
  g__law_ends : mg "_law_ends" = some (.ref a__law_ends)
  b__law_ends : Binds K d__law_ends ["_law_net_here", "_law_counts"] []
  a__law_more : Addr
  d__law_more : FuncData
  F__law_more : Fun K "_law_more" "_law_more" s__law_more a__law_more d__law_more
  g__law_more : mg "_law_more" = some (.ref a__law_more)
  b__law_more : Binds K d__law_more ["_law_counts", "_law_lane"] []
  a__law_even : Addr
  d__law_even : FuncData
  F__law_even : Fun K "_law_even" "_law_even" s__law_even a__law_even d__law_even
  g__law_even : mg "_law_even" = some (.ref a__law_even)
  b__law_even : Binds K d__law_even ["_law_net_here", "_law_some_here"] []
  a__law_evened : Addr
  d__law_evened : FuncData
  F__law_evened : Fun K "_law_evened" "_law_evened" s__law_evened a__law_evened d__law_evened
  g__law_evened : mg "_law_evened" = some (.ref a__law_evened)
  b__law_evened : Binds K d__law_evened ["_law_left_here"] []
  a__law_lowered : Addr
  d__law_lowered : FuncData
  F__law_lowered : Fun K "_law_lowered" "_law_lowered" s__law_lowered a__law_lowered d__law_lowered
  g__law_lowered : mg "_law_lowered" = some (.ref a__law_lowered)
  b__law_lowered : Binds K d__law_lowered ["_law_heights"] []
  a__law_all_places : Addr
  d__law_all_places : FuncData
  F__law_all_places : Fun K "_law_all_places" "_law_all_places" s__law_all_places a__law_all_places d__law_all_places
  g__law_all_places : mg "_law_all_places" = some (.ref a__law_all_places)
  b__law_all_places : Binds K d__law_all_places ["_law_net_here", "_law_some_here", "_law_most"] []
  a__law_with : Addr
  d__law_with : FuncData
  F__law_with : Fun K "_law_with" "_law_with" s__law_with a__law_with d__law_with
  g__law_with : mg "_law_with" = some (.ref a__law_with)
  b__law_with : Binds K d__law_with ["_law_left_here", "_law_net_here", "_law_some_here", "_law_places"] []
  a_law : Addr
  d_law : FuncData
  F_law : Fun K "law" "law" s_law a_law d_law
  g_law : mg "law" = some (.ref a_law)
  b_law : Binds K d_law ["_law_script"] []
  z_abs : mg "abs" = none
  z_all : mg "all" = none
  z_bool : mg "bool" = none
  z_dict : mg "dict" = none
  z_enumerate : mg "enumerate" = none
  z_int : mg "int" = none
  z_isinstance : mg "isinstance" = none
  z_len : mg "len" = none
  z_list : mg "list" = none
  z_max : mg "max" = none
  z_min : mg "min" = none
  z_range : mg "range" = none
  z_repr : mg "repr" = none
  z_set : mg "set" = none
  z_tuple : mg "tuple" = none
  z_zip : mg "zip" = none
section
variable {P : Program} {w : World} {K : PySem.W.Frag} {mg : Str → Option Value} {base : Heap}
theorem ok_passed (T : Txt K mg) : FnOk P w K mg base CX0 1 T.a_passed T.d_passed ["net", "turns", "lane"] (spF K 3 f_passed) :=
  fn_sim T.F_passed sc_passed rfl rfl fun cdv A outer s H E hr => ((ss_cons (ss_asg (so_var (pv 0)) (sg_tup rfl (sgs_cons (sg_name sc_passed.nd rfl (by first | exact .inl rfl | exact .inr rfl) (by rfl)) (sgs_cons (sg_name sc_passed.nd rfl (by first | exact .inl rfl | exact .inr rfl) (by rfl)) (sgs_cons (sg_name sc_passed.nd rfl (by first | exact .inl rfl | exact .inr rfl) (by rfl)) sgs_nil))))) (ss_cons (ss_set sc_passed.nd rfl (by first | exact .inl rfl | exact .inr rfl) (by rfl) (so_callTy call_list_of pr_list (by rfl) T.z_list bt_list (sa_cons (so_var (pv 1)) sa_nil))) (ss_cons (ss_for PassesOwn.never rfl (si_enum (by rfl) T.z_enumerate (sa_cons (so_var (pv 4)) sa_nil)) (sg_tup rfl (sgs_cons (sg_name sc_passed.nd rfl (by first | exact .inl rfl | exact .inr rfl) (by rfl)) (sgs_cons (sg_name sc_passed.nd rfl (by first | exact .inl rfl | exact .inr rfl) (by rfl)) sgs_nil)))
  (ss_one (ss_if (st_cmp (op_inA (units65 hr)) pr_in (so_var (pv 2)) (so_var (pv 8)) (by rfl))
  (ss_cons (ss_set sc_passed.nd rfl (by first | exact .inl rfl | exact .inr rfl) (by rfl) (so_ix (so_var (pv 8)) (so_ix (so_var (pv 6)) (so_var (pv 7))))) (ss_one (ss_setIx (pv 6) (so_var (pv 7)) (so_bin op_sub pr_sub so_int (so_ix (so_var (pv 6)) (so_var (pv 7)))))))
  ss_nil)) lkp_sub) (ss_one (ss_ret (so_tup (sa_cons (so_callTy call_tuple_ofD pr_tuple (by rfl) T.z_tuple bt_tuple (sa_cons (so_var (pv 6)) sa_nil)) (sa_cons (so_idxT (so_var (pv 5)) (so_var (pv 2))) sa_nil)))))))))
theorem ok_with_one (T : Txt K mg) : FnOk P w K mg base CX0 1 T.a_with_one T.d_with_one ["counts", "at"] (spF K 2 f_with_one) :=
  fn_sim T.F_with_one sc_with_one rfl rfl fun cdv A outer s H E hr => ((ss_one (ss_ret (so_bin op_addA pr_add (so_bin op_addA pr_add (so_slice (so_var (pv 0)) sp_none (sp_some (so_var (pv 1)))) (so_tup (sa_cons (so_bin op_addA pr_add (so_ix (so_var (pv 0)) (so_var (pv 1))) so_int) sa_nil))) (so_slice (so_var (pv 0)) (sp_some (so_bin op_addA pr_add (so_var (pv 1)) so_int)) sp_none)))))
theorem ok_first_turns (T : Txt K mg) : FnOk P w K mg base CX0 1 T.a_first_turns T.d_first_turns ["net"] (spF K 1 f_first_turns) :=
  fn_sim T.F_first_turns sc_first_turns rfl rfl fun cdv A outer s H E hr => ((ss_one (ss_ret (so_bin op_mulA pr_mul (so_tup (sa_cons so_int sa_nil)) (so_callB cr_len pr_len (by rfl) T.z_len bt_len (sa_cons (so_ix (so_var (pv 0)) so_int) sa_nil))))))
theorem ok_lowered (T : Txt K mg) : FnOk P w K mg base CX0 1 T.a_lowered T.d_lowered ["heights"] (spF K 1 f_lowered) :=
  fn_sim T.F_lowered sc_lowered rfl rfl fun cdv A outer s H E hr => ((ss_cons (ss_set sc_lowered.nd rfl (by first | exact .inl rfl | exact .inr rfl) (by rfl) (so_callB (cr_minAny rfl hr.units) pr_minAny (by rfl) T.z_min bt_min (sa_cons (so_var (pv 0)) sa_nil))) (ss_one (ss_ret (so_callTy call_tuple_ofD pr_tuple (by rfl) T.z_tuple bt_tuple (sa_cons (so_comp (own := [("height", 2)]) rfl sc_lowered.nd (si_seq (so_var (pv 0))) (blkOk_by (by kernel_rfl)) (fun _ _ _ _ _ => (sg_name sc_lowered.nd rfl (by first | exact .inl rfl | exact .inr rfl) (by rfl))) (fun _ _ _ _ _ => spt_nil) (fun _ _ _ _ _ => (so_bin op_sub pr_sub (so_var (pv 2)) (so_var (pv 1))))) sa_nil))))))
theorem ok_places_behind (T : Txt K mg) : FnOk P w K mg base CX0 2 T.a_places_behind T.d_places_behind ["net", "some", "place"] (spF K 3 f_places_behind) :=
  fn_sim T.F_places_behind sc_places_behind rfl rfl fun cdv A outer s H E hr => ((ss_cons (ss_asg (so_var (pv 2)) (sg_tup rfl (sgs_cons (sg_name sc_places_behind.nd rfl (by first | exact .inl rfl | exact .inr rfl) (by rfl)) (sgs_cons (sg_name sc_places_behind.nd rfl (by first | exact .inl rfl | exact .inr rfl) (by rfl)) sgs_nil)))) (ss_cons (ss_set sc_places_behind.nd rfl (by first | exact .inl rfl | exact .inr rfl) (by rfl) (so_lst sa_nil)) (ss_cons (ss_for PassesOwn.never rfl (si_seq (so_var (pv 1))) (sg_name sc_places_behind.nd rfl (by first | exact .inl rfl | exact .inr rfl) (by rfl))
  (ss_cons (ss_asg (so_call (ok_passed T) (hr.mono (by omega)) (by rfl) T.g_passed T.F_passed.kp T.b_passed (sa_cons (so_var (pv 0)) (sa_cons (so_var (pv 3)) (sa_cons (so_var (pv 6)) sa_nil))) (fun _ _ _ h => mkFn_len h)) (sg_tup rfl (sgs_cons (sg_name sc_places_behind.nd rfl (by first | exact .inl rfl | exact .inr rfl) (by rfl)) (sgs_cons (sg_name sc_places_behind.nd rfl (by first | exact .inl rfl | exact .inr rfl) (by rfl)) sgs_nil)))) (ss_one (ss_expr (so_mt md_app PySem.F.slot_list_append PySem.F.type_list_append mt_append (pv 5) (sa_cons (so_tup (sa_cons (so_var (pv 6)) (sa_cons (so_tup (sa_cons (so_var (pv 7)) (sa_cons (so_call (ok_lowered T) (hr.mono (by omega)) (by rfl) T.g_lowered T.F_lowered.kp T.b_lowered (sa_cons (so_call (ok_with_one T) (hr.mono (by omega)) (by rfl) T.g_with_one T.F_with_one.kp T.b_with_one (sa_cons (so_var (pv 4)) (sa_cons (so_var (pv 8)) sa_nil)) (fun _ _ _ h => mkFn_len h)) sa_nil) (fun _ _ _ h => mkFn_len h)) sa_nil))) sa_nil))) sa_nil))))) lkp_sub) (ss_one (ss_ret (so_var (pv 5))))))))
theorem ok_first_place (T : Txt K mg) : FnOk P w K mg base CX0 2 T.a_first_place T.d_first_place ["net"] (spF K 1 f_first_place) :=
  fn_sim T.F_first_place sc_first_place rfl rfl fun cdv A outer s H E hr => ((ss_one (ss_ret (so_tup (sa_cons (so_call (ok_first_turns T) (hr.mono (by omega)) (by rfl) T.g_first_turns T.F_first_turns.kp T.b_first_turns (sa_cons (so_var (pv 0)) sa_nil) (fun _ _ _ h => mkFn_len h)) (sa_cons (so_bin op_mulA pr_mul (so_tup (sa_cons so_int sa_nil)) (so_ix (so_var (pv 0)) so_int)) sa_nil))))))
theorem ok_is_whole (T : Txt K mg) : FnOk P w K mg base CX0 1 T.a_is_whole T.d_is_whole ["thing", "least"] (spF K 2 f_is_whole) :=
  fn_sim T.F_is_whole sc_is_whole rfl rfl fun cdv A outer s H E hr => ((ss_one (ss_ret (so_and (so_isi .int (by rfl) T.z_isinstance (by rfl) T.z_int (so_var (pv 0))) (so_and (so_not (so_isi .bool (by rfl) T.z_isinstance (by rfl) T.z_bool (so_var (pv 0)))) (so_one (so_cmp op_ge pr_ge (so_var (pv 0)) (so_var (pv 1)) (nomark _))))))))
theorem ok_are_turns (T : Txt K mg) : FnOk P w K mg base CX0 2 T.a_are_turns T.d_are_turns ["net", "thing"] (spF K 2 f_are_turns) :=
  fn_sim T.F_are_turns sc_are_turns rfl rfl fun cdv A outer s H E hr => ((ss_cons (ss_if (st_w (sw_or (st_not (st_any (so_isi .tup (by rfl) T.z_isinstance (by rfl) T.z_tuple (so_var (pv 1))))) (sw_or1 (st_cmp (op_neD hr.units) pr_ne (so_callB cr_len pr_len (by rfl) T.z_len bt_len (sa_cons (so_var (pv 1)) sa_nil)) (so_callB cr_len pr_len (by rfl) T.z_len bt_len (sa_cons (so_ix (so_var (pv 0)) so_int) sa_nil)) (nomark _)))))
  (ss_one (ss_ret so_bl))
  ss_nil) (ss_one (ss_ret (so_callB (cr_all rfl) pr_all (by rfl) T.z_all bt_all (sa_cons (so_comp (own := [("turn", 2)]) rfl sc_are_turns.nd (si_seq (so_var (pv 1))) (blkOk_by (by kernel_rfl)) (fun _ _ _ _ _ => (sg_name sc_are_turns.nd rfl (by first | exact .inl rfl | exact .inr rfl) (by rfl))) (fun _ _ _ _ _ => spt_nil) (fun _ _ _ _ _ => (so_and (so_call (ok_is_whole T) (hr.mono (by omega)) (by rfl) T.g_is_whole T.F_is_whole.kp T.b_is_whole (sa_cons (so_var (pv 2)) (sa_cons so_int sa_nil)) (fun _ _ _ h => mkFn_len h)) (so_one (so_cmp op_lt pr_lt (so_var (pv 2)) so_int (nomark _)))))) sa_nil))))))
theorem ok_are_heights (T : Txt K mg) : FnOk P w K mg base CX0 2 T.a_are_heights T.d_are_heights ["net", "thing"] (spF K 2 f_are_heights) :=
  fn_sim T.F_are_heights sc_are_heights rfl rfl fun cdv A outer s H E hr => ((ss_cons (ss_if (st_w (sw_or (st_not (st_any (so_isi .tup (by rfl) T.z_isinstance (by rfl) T.z_tuple (so_var (pv 1))))) (sw_or (st_cmp (op_neD hr.units) pr_ne (so_callB cr_len pr_len (by rfl) T.z_len bt_len (sa_cons (so_var (pv 1)) sa_nil)) (so_ix (so_var (pv 0)) so_int) (nomark _)) (sw_or1 (st_not (st_any (so_callB (cr_all rfl) pr_all (by rfl) T.z_all bt_all (sa_cons (so_comp (own := [("height", 2)]) rfl sc_are_heights.nd (si_seq (so_var (pv 1))) (blkOk_by (by kernel_rfl)) (fun _ _ _ _ _ => (sg_name sc_are_heights.nd rfl (by first | exact .inl rfl | exact .inr rfl) (by rfl))) (fun _ _ _ _ _ => spt_nil) (fun _ _ _ _ _ => (so_call (ok_is_whole T) (hr.mono (by omega)) (by rfl) T.g_is_whole T.F_is_whole.kp T.b_is_whole (sa_cons (so_var (pv 2)) (sa_cons so_int sa_nil)) (fun _ _ _ h => mkFn_len h)))) sa_nil))))))))
  (ss_one (ss_ret so_bl))
  ss_nil) (ss_one (ss_ret (so_cmp (op_eqD hr.units) pr_eq (so_callB (cr_minAny rfl hr.units) pr_minAny (by rfl) T.z_min bt_min (sa_cons (so_var (pv 1)) sa_nil)) so_int (nomark _))))))
theorem ok_is_spot (T : Txt K mg) : FnOk P w K mg base CX0 3 T.a_is_spot T.d_is_spot ["net", "thing"] (spF K 2 f_is_spot) :=
  fn_sim T.F_is_spot sc_is_spot rfl rfl fun cdv A outer s H E hr => ((ss_one (ss_ret (so_and (so_isi .tup (by rfl) T.z_isinstance (by rfl) T.z_tuple (so_var (pv 1))) (so_and (so_cmp (op_eqD hr.units) pr_eq (so_callB cr_len pr_len (by rfl) T.z_len bt_len (sa_cons (so_var (pv 1)) sa_nil)) so_int (nomark _)) (so_and (so_call (ok_are_turns T) (hr.mono (by omega)) (by rfl) T.g_are_turns T.F_are_turns.kp T.b_are_turns (sa_cons (so_var (pv 0)) (sa_cons (so_ix (so_var (pv 1)) so_int) sa_nil)) (fun _ _ _ h => mkFn_len h)) (so_one (so_call (ok_are_heights T) (hr.mono (by omega)) (by rfl) T.g_are_heights T.F_are_heights.kp T.b_are_heights (sa_cons (so_var (pv 0)) (sa_cons (so_ix (so_var (pv 1)) so_int) sa_nil)) (fun _ _ _ h => mkFn_len h)))))))))
theorem ok_shows_reach (T : Txt K mg) : FnOk P w K mg base CX0 4 T.a_shows_reach T.d_shows_reach ["net", "some", "far", "thing"] (spF K 4 f_shows_reach) :=
  fn_sim T.F_shows_reach sc_shows_reach rfl rfl fun cdv A outer s H E hr => ((ss_cons (ss_if (st_w (sw_or (st_not (st_any (so_isi .tup (by rfl) T.z_isinstance (by rfl) T.z_tuple (so_var (pv 3))))) (sw_or1 (st_not (st_any (so_callB (cr_all rfl) pr_all (by rfl) T.z_all bt_all (sa_cons (so_comp (own := [("place", 4)]) rfl sc_shows_reach.nd (si_seq (so_var (pv 3))) (blkOk_by (by kernel_rfl)) (fun _ _ _ _ _ => (sg_name sc_shows_reach.nd rfl (by first | exact .inl rfl | exact .inr rfl) (by rfl))) (fun _ _ _ _ _ => spt_nil) (fun _ _ _ _ _ => (so_call (ok_is_spot T) (hr.mono (by omega)) (by rfl) T.g_is_spot T.F_is_spot.kp T.b_is_spot (sa_cons (so_var (pv 0)) (sa_cons (so_var (pv 4)) sa_nil)) (fun _ _ _ h => mkFn_len h)))) sa_nil)))))))
  (ss_one (ss_ret so_bl))
  ss_nil) (ss_cons (ss_set sc_shows_reach.nd rfl (by first | exact .inl rfl | exact .inr rfl) (by rfl) (so_callTy (call_dictN (units65 hr) rfl) pr_dictN (by rfl) T.z_dict bt_dict (sa_cons (so_comp (own := [("place", 4)]) rfl sc_shows_reach.nd (si_seq (so_var (pv 3))) (blkOk_by (by kernel_rfl)) (fun _ _ _ _ _ => (sg_name sc_shows_reach.nd rfl (by first | exact .inl rfl | exact .inr rfl) (by rfl))) (fun _ _ _ _ _ => spt_nil) (fun _ _ _ _ _ => (so_tup (sa_cons (so_var (pv 4)) (sa_cons so_bl sa_nil))))) sa_nil))) (ss_cons (ss_if (st_w (sw_or (st_cmp (op_neD hr.units) pr_ne (so_callB cr_lenN pr_lenN (by rfl) T.z_len bt_len (sa_cons (so_var (pv 5)) sa_nil)) (so_callB cr_len pr_len (by rfl) T.z_len bt_len (sa_cons (so_var (pv 3)) sa_nil)) (nomark _)) (sw_or1 (st_cmp (op_ninN (units65 hr)) pr_ninN (so_call (ok_first_place T) (hr.mono (by omega)) (by rfl) T.g_first_place T.F_first_place.kp T.b_first_place (sa_cons (so_var (pv 0)) sa_nil) (fun _ _ _ h => mkFn_len h)) (so_var (pv 5)) (by rfl)))))
  (ss_one (ss_ret so_bl))
  ss_nil) (ss_cons (ss_for PassesOwn.never rfl (si_seq (so_var (pv 3))) (sg_name sc_shows_reach.nd rfl (by first | exact .inl rfl | exact .inr rfl) (by rfl))
  (ss_one (ss_if (st_w (sw_or (st_cmp op_gt pr_gt (so_callB (cr_maxA rfl) pr_max1 (by rfl) T.z_max bt_max (sa_cons (so_ix (so_var (pv 4)) so_int) sa_nil)) (so_var (pv 2)) (nomark _)) (sw_or1 (st_not (st_any (so_callB (cr_all rfl) pr_all (by rfl) T.z_all bt_all (sa_cons (so_comp (own := [("lane", 6), ("further", 7)]) rfl sc_shows_reach.nd (si_seq (so_call (ok_places_behind T) (hr.mono (by omega)) (by rfl) T.g_places_behind T.F_places_behind.kp T.b_places_behind (sa_cons (so_var (pv 0)) (sa_cons (so_var (pv 1)) (sa_cons (so_var (pv 4)) sa_nil))) (fun _ _ _ h => mkFn_len h))) (blkOk_by (by kernel_rfl)) (fun _ _ _ _ _ => (sg_tup rfl (sgs_cons (sg_name sc_shows_reach.nd rfl (by first | exact .inl rfl | exact .inr rfl) (by rfl)) (sgs_cons (sg_name sc_shows_reach.nd rfl (by first | exact .inl rfl | exact .inr rfl) (by rfl)) sgs_nil)))) (fun _ _ _ _ _ => spt_nil) (fun _ _ _ _ _ => (so_cmp (op_inN (units65 hr)) pr_inN (so_var (pv 7)) (so_var (pv 5)) (by rfl)))) sa_nil)))))))
  (ss_one (ss_ret so_bl))
  ss_nil)) lkp_sub) (ss_one (ss_ret so_bl)))))))
theorem ok__law_left (T : Txt K mg) : FnOk P w K mg base CX0 1 T.a__law_left T.d__law_left ["_law_script", "_law_k"] (spF K 2 f__law_left) :=
  fn_sim T.F__law_left sc__law_left rfl rfl fun cdv A outer s H E hr => ((ss_cons (ss_set sc__law_left.nd rfl (by first | exact .inl rfl | exact .inr rfl) (by rfl) so_int) (ss_cons (ss_if (st_cmp op_gt pr_gt (so_callB cr_len pr_len (by rfl) T.z_len bt_len (sa_cons (so_var (pv 0)) sa_nil)) so_int (nomark _))
  (ss_one (ss_set sc__law_left.nd rfl (by first | exact .inl rfl | exact .inr rfl) (by rfl) (so_ix (so_var (pv 0)) (so_bin op_mod pr_mod (so_var (pv 1)) (so_callB cr_len pr_len (by rfl) T.z_len bt_len (sa_cons (so_var (pv 0)) sa_nil))))))
  ss_nil) (ss_cons (ss_set sc__law_left.nd rfl (by first | exact .inl rfl | exact .inr rfl) (by rfl) (so_bin op_mulA pr_mul (so_bin op_mod pr_mod (so_callB call_abs pr_abs (by rfl) T.z_abs bt_abs (sa_cons (so_var (pv 2)) sa_nil)) (so_bin op_pow pr_pow so_int so_int)) (so_callTy call_int1 pr_int (by rfl) T.z_int bt_int (sa_cons (so_cmp op_ge pr_ge (so_callB call_abs pr_abs (by rfl) T.z_abs bt_abs (sa_cons (so_var (pv 2)) sa_nil)) (so_bin op_pow pr_pow so_int so_int) (nomark _)) sa_nil)))) (ss_one (ss_ret (so_lst (sa_cons (so_var (pv 3)) (sa_cons (so_bin op_mod pr_mod (so_bin op_mulA pr_mul (so_bin op_addA pr_add (so_bin op_addA pr_add (so_bin op_mod pr_mod (so_var (pv 2)) so_int) (so_bin op_mulA pr_mul (so_bin op_mulA pr_mul so_int (so_var (pv 1))) (so_var (pv 1)))) so_int) so_int) so_int) (sa_cons so_int sa_nil))))))))))
theorem ok__law_pick (T : Txt K mg) : FnOk P w K mg base CX0 1 T.a__law_pick T.d__law_pick ["_law_left_here", "_law_many"] (spF K 2 f__law_pick) :=
  fn_sim T.F__law_pick sc__law_pick rfl rfl fun cdv A outer s H E hr => ((ss_cons (ss_if (st_cmp op_gt pr_gt (so_ix (so_var (pv 0)) so_int) so_int (nomark _))
  (ss_cons (ss_set sc__law_pick.nd rfl (by first | exact .inl rfl | exact .inr rfl) (by rfl) (so_bin op_mod pr_mod (so_ix (so_var (pv 0)) so_int) (so_var (pv 1)))) (ss_cons (ss_setIx (pv 0) so_int (so_bin op_fdivW pr_div (so_ix (so_var (pv 0)) so_int) (so_var (pv 1)))) (ss_one (ss_ret (so_var (pv 2))))))
  ss_nil) (ss_cons (ss_setIx (pv 0) so_int (so_bin op_addA pr_add (so_ix (so_var (pv 0)) so_int) so_int)) (ss_cons (ss_setIx (pv 0) so_int (so_bin op_mod pr_mod (so_bin op_addA pr_add (so_bin op_addA pr_add (so_bin op_mulA pr_mul (so_ix (so_var (pv 0)) so_int) so_int) so_int) (so_ix (so_var (pv 0)) so_int)) so_int)) (ss_one (ss_ret (so_bin op_mod pr_mod (so_bin op_fdivW pr_div (so_bin op_mod pr_mod (so_bin op_mulA pr_mul (so_ix (so_var (pv 0)) so_int) (so_ix (so_var (pv 0)) so_int)) so_int) so_int) (so_var (pv 1)))))))))
theorem ok__law_mixed (n : Nat) (T : Txt K mg) : FnOk P w K mg base CX0 (n + 2) T.a__law_mixed T.d__law_mixed ["_law_left_here", "_law_row"] (spF K 2 (f__law_mixed n)) :=
  fn_sim T.F__law_mixed sc__law_mixed rfl rfl fun cdv A outer s H E hr => ((ss_cons (ss_par (i := 2) (j := 3) rfl sc__law_mixed.nd rfl rfl (by decide) rfl rfl (by rfl) (by rfl) (sa_cons (so_callTy call_list_of pr_list (by rfl) T.z_list bt_list (sa_cons (so_var (pv 1)) sa_nil)) (sa_cons (so_lst sa_nil) sa_nil))) (ss_cons (ss_while (n * 256) PassesOwn.never (st_cmp (op_neD hr.units) pr_ne (so_var (pv 2)) (so_lst sa_nil) (nomark _))
  (ss_one (ss_expr (so_mt md_app PySem.F.slot_list_append PySem.F.type_list_append mt_append (pv 3) (sa_cons (so_mt md_popAt PySem.F.slot_list_pop PySem.F.type_list_pop mt_popAt (pv 2) (sa_cons (so_call (ok__law_pick T) (hr.mono (by omega)) (by rfl) T.g__law_pick T.F__law_pick.kp T.b__law_pick (sa_cons (so_var (pv 0)) (sa_cons (so_callB cr_len pr_len (by rfl) T.z_len bt_len (sa_cons (so_var (pv 2)) sa_nil)) sa_nil)) (fun _ _ _ h => mkFn_len h)) sa_nil)) sa_nil))))) (ss_one (ss_ret (so_callTy call_tuple_ofD pr_tuple (by rfl) T.z_tuple bt_tuple (sa_cons (so_var (pv 3)) sa_nil)))))))
theorem ok__law_merger : ∀ (n : Nat) (T : Txt K mg), FnOk P w K mg base CX0 (n + 1) T.a__law_merger T.d__law_merger ["_law_one", "_law_other"] (spF K 2 (f__law_merger n))
  | 0, T => fn_sim T.F__law_merger sc__law_merger rfl rfl fun cdv A outer s H E hr => ss_nevers
  | n + 1, T => by
    have ih := ok__law_merger n T
    have hlen := len__law_merger n
    rw [show n + 1 + 1 = (n + 1) + 1 by omega]
    exact fn_sim T.F__law_merger sc__law_merger rfl rfl fun cdv A outer s H E hr => ((ss_cons (ss_if (st_cmp (op_eqD hr.units) pr_eq (so_callB cr_len pr_len (by rfl) T.z_len bt_len (sa_cons (so_var (pv 0)) sa_nil)) so_int (nomark _))
  (ss_one (ss_ret (so_tup (sa_cons (so_lst (sa_cons (so_tup (sa_cons (so_ix (so_var (pv 0)) so_int) (sa_cons (so_ix (so_var (pv 1)) so_int) sa_nil))) sa_nil)) (sa_cons (so_frz (so_lst (sa_cons (so_ix (so_var (pv 0)) so_int) (sa_cons (so_ix (so_var (pv 1)) so_int) sa_nil)))) sa_nil)))))
  ss_nil) (ss_cons (ss_asg (so_call (ih) (hr.mono (by omega)) (by rfl) T.g__law_merger T.F__law_merger.kp T.b__law_merger (sa_cons (so_frz (so_stepF (so_var (pv 0)) sp_none sp_none (sp_some so_int))) (sa_cons (so_frz (so_stepF (so_var (pv 1)) (sp_some so_int) sp_none (sp_some so_int))) sa_nil)) (hlen)) (sg_tup rfl (sgs_cons (sg_name sc__law_merger.nd rfl (by first | exact .inl rfl | exact .inr rfl) (by rfl)) (sgs_cons (sg_name sc__law_merger.nd rfl (by first | exact .inl rfl | exact .inr rfl) (by rfl)) sgs_nil)))) (ss_cons (ss_asg (so_call (ih) (hr.mono (by omega)) (by rfl) T.g__law_merger T.F__law_merger.kp T.b__law_merger (sa_cons (so_frz (so_stepF (so_var (pv 0)) (sp_some so_int) sp_none (sp_some so_int))) (sa_cons (so_frz (so_stepF (so_var (pv 1)) sp_none sp_none (sp_some so_int))) sa_nil)) (hlen)) (sg_tup rfl (sgs_cons (sg_name sc__law_merger.nd rfl (by first | exact .inl rfl | exact .inr rfl) (by rfl)) (sgs_cons (sg_name sc__law_merger.nd rfl (by first | exact .inl rfl | exact .inr rfl) (by rfl)) sgs_nil)))) (ss_cons (ss_par (i := 2) (j := 6) rfl sc__law_merger.nd rfl rfl (by decide) rfl rfl (by rfl) (by rfl) (sa_cons (so_bin op_addA pr_add (so_var (pv 2)) (so_var (pv 4))) (sa_cons (so_lst sa_nil) sa_nil))) (ss_cons (ss_for PassesOwn.never rfl (si_zipF (by rfl) T.z_zip (sa_cons (so_var (pv 3)) (sa_cons (so_var (pv 5)) sa_nil))) (sg_tup rfl (sgs_cons (sg_name sc__law_merger.nd rfl (by first | exact .inl rfl | exact .inr rfl) (by rfl)) (sgs_cons (sg_name sc__law_merger.nd rfl (by first | exact .inl rfl | exact .inr rfl) (by rfl)) sgs_nil)))
  (ss_cons (ss_expr (so_mt md_app PySem.F.slot_list_append PySem.F.type_list_append mt_append (pv 2) (sa_cons (so_tup (sa_cons (so_var (pv 7)) (sa_cons (so_var (pv 8)) sa_nil))) sa_nil))) (ss_one (ss_expr (so_mt md_ext PySem.F.slot_list_extend PySem.F.type_list_extend mt_extend (pv 6) (sa_cons (so_lst (sa_cons (so_var (pv 7)) (sa_cons (so_var (pv 8)) sa_nil))) sa_nil))))) lkp_sub) (ss_one (ss_retT (sa_cons (so_var (pv 2)) (sa_cons (so_frzV (pv 6)) sa_nil))))))))))
theorem ok__law_stairway : ∀ (n : Nat) (T : Txt K mg), FnOk P w K mg base CX0 (n + 2) T.a__law_stairway T.d__law_stairway ["_law_row"] (spF K 1 (f__law_stairway n))
  | 0, T => fn_sim T.F__law_stairway sc__law_stairway rfl rfl fun cdv A outer s H E hr => ss_nevers
  | n + 1, T => by
    have ih := ok__law_stairway n T
    have hlen := len__law_stairway n
    rw [show n + 1 + 2 = (n + 2) + 1 by omega]
    exact fn_sim T.F__law_stairway sc__law_stairway rfl rfl fun cdv A outer s H E hr => ((ss_cons (ss_if (st_cmp (op_eqD hr.units) pr_eq (so_callB cr_len pr_len (by rfl) T.z_len bt_len (sa_cons (so_var (pv 0)) sa_nil)) so_int (nomark _))
  (ss_one (ss_ret (so_tup (sa_cons (so_lst sa_nil) (sa_cons (so_frz (so_callTy call_list_of pr_list (by rfl) T.z_list bt_list (sa_cons (so_var (pv 0)) sa_nil))) sa_nil)))))
  ss_nil) (ss_cons (ss_set sc__law_stairway.nd rfl (by first | exact .inl rfl | exact .inr rfl) (by rfl) (so_bin op_fdivW pr_div (so_callB cr_len pr_len (by rfl) T.z_len bt_len (sa_cons (so_var (pv 0)) sa_nil)) so_int)) (ss_cons (ss_asg (so_call (ih) (hr.mono (by omega)) (by rfl) T.g__law_stairway T.F__law_stairway.kp T.b__law_stairway (sa_cons (so_frz (so_slice (so_var (pv 0)) sp_none (sp_some (so_var (pv 1))))) sa_nil) (hlen)) (sg_tup rfl (sgs_cons (sg_name sc__law_stairway.nd rfl (by first | exact .inl rfl | exact .inr rfl) (by rfl)) (sgs_cons (sg_name sc__law_stairway.nd rfl (by first | exact .inl rfl | exact .inr rfl) (by rfl)) sgs_nil)))) (ss_cons (ss_asg (so_call (ih) (hr.mono (by omega)) (by rfl) T.g__law_stairway T.F__law_stairway.kp T.b__law_stairway (sa_cons (so_frz (so_slice (so_var (pv 0)) (sp_some (so_var (pv 1))) sp_none)) sa_nil) (hlen)) (sg_tup rfl (sgs_cons (sg_name sc__law_stairway.nd rfl (by first | exact .inl rfl | exact .inr rfl) (by rfl)) (sgs_cons (sg_name sc__law_stairway.nd rfl (by first | exact .inl rfl | exact .inr rfl) (by rfl)) sgs_nil)))) (ss_cons (ss_asg (so_call (ok__law_merger n T) (hr.mono (by omega)) (by rfl) T.g__law_merger T.F__law_merger.kp T.b__law_merger (sa_cons (so_var (pv 3)) (sa_cons (so_var (pv 5)) sa_nil)) (fun ds r as h => len__law_merger n ds r as h)) (sg_tup rfl (sgs_cons (sg_name sc__law_stairway.nd rfl (by first | exact .inl rfl | exact .inr rfl) (by rfl)) (sgs_cons (sg_name sc__law_stairway.nd rfl (by first | exact .inl rfl | exact .inr rfl) (by rfl)) sgs_nil)))) (ss_one (ss_ret (so_tup (sa_cons (so_bin op_addA pr_add (so_bin op_addA pr_add (so_var (pv 2)) (so_var (pv 4))) (so_var (pv 6))) (sa_cons (so_var (pv 7)) sa_nil)))))))))))
theorem ok__law_block : ∀ (n : Nat) (T : Txt K mg), FnOk P w K mg base CX0 (n + 1) T.a__law_block T.d__law_block ["_law_row"] (spF K 1 (f__law_block n))
  | 0, T => fn_sim T.F__law_block sc__law_block rfl rfl fun cdv A outer s H E hr => ss_nevers
  | n + 1, T => by
    have ih := ok__law_block n T
    have hlen := len__law_block n
    rw [show n + 1 + 1 = (n + 1) + 1 by omega]
    exact fn_sim T.F__law_block sc__law_block rfl rfl fun cdv A outer s H E hr => ((ss_cons (ss_if (st_cmp (op_eqD hr.units) pr_eq (so_callB cr_len pr_len (by rfl) T.z_len bt_len (sa_cons (so_var (pv 0)) sa_nil)) so_int (nomark _))
  (ss_one (ss_ret (so_lst sa_nil)))
  ss_nil) (ss_cons (ss_set sc__law_block.nd rfl (by first | exact .inl rfl | exact .inr rfl) (by rfl) (so_bin op_fdivW pr_div (so_callB cr_len pr_len (by rfl) T.z_len bt_len (sa_cons (so_var (pv 0)) sa_nil)) so_int)) (ss_cons (ss_setLc (own := [("_law_i", 3)]) rfl sc__law_block.nd rfl rfl (by rfl) (si_range1 (by rfl) T.z_range (sa_cons (so_var (pv 1)) sa_nil)) (blkOk_by (by kernel_rfl)) (fun _ _ _ _ _ => (sg_name sc__law_block.nd rfl (by first | exact .inl rfl | exact .inr rfl) (by rfl))) (fun _ _ _ _ _ => spt_nil) (fun _ _ _ _ _ => (so_tup (sa_cons (so_ix (so_var (pv 0)) (so_var (pv 3))) (sa_cons (so_ix (so_var (pv 0)) (so_bin op_sub pr_sub (so_bin op_sub pr_sub (so_callB cr_len pr_len (by rfl) T.z_len bt_len (sa_cons (so_var (pv 0)) sa_nil)) so_int) (so_var (pv 3)))) sa_nil))))) (ss_one (ss_ret (so_bin op_addA pr_add (so_bin op_addA pr_add (so_var (pv 2)) (so_call (ih) (hr.mono (by omega)) (by rfl) T.g__law_block T.F__law_block.kp T.b__law_block (sa_cons (so_frz (so_slice (so_var (pv 0)) sp_none (sp_some (so_var (pv 1))))) sa_nil) (hlen))) (so_call (ih) (hr.mono (by omega)) (by rfl) T.g__law_block T.F__law_block.kp T.b__law_block (sa_cons (so_frz (so_slice (so_var (pv 0)) (sp_some (so_var (pv 1))) sp_none)) sa_nil) (hlen)))))))))
theorem ok__law_tree : ∀ (n : Nat) (T : Txt K mg), FnOk P w K mg base CX0 (n + 1) T.a__law_tree T.d__law_tree ["_law_row"] (spF K 1 (f__law_tree n))
  | 0, T => fn_sim T.F__law_tree sc__law_tree rfl rfl fun cdv A outer s H E hr => ss_nevers
  | n + 1, T => by
    have ih := ok__law_tree n T
    have hlen := len__law_tree n
    rw [show n + 1 + 1 = (n + 1) + 1 by omega]
    exact fn_sim T.F__law_tree sc__law_tree rfl rfl fun cdv A outer s H E hr => ((ss_cons (ss_if (st_cmp (op_eqD hr.units) pr_eq (so_callB cr_len pr_len (by rfl) T.z_len bt_len (sa_cons (so_var (pv 0)) sa_nil)) so_int (nomark _))
  (ss_one (ss_ret (so_tup (sa_cons (so_lst sa_nil) (sa_cons (so_frz (so_callTy call_list_of pr_list (by rfl) T.z_list bt_list (sa_cons (so_var (pv 0)) sa_nil))) sa_nil)))))
  ss_nil) (ss_cons (ss_set sc__law_tree.nd rfl (by first | exact .inl rfl | exact .inr rfl) (by rfl) (so_bin op_fdivW pr_div (so_callB cr_len pr_len (by rfl) T.z_len bt_len (sa_cons (so_var (pv 0)) sa_nil)) so_int)) (ss_cons (ss_asg (so_call (ih) (hr.mono (by omega)) (by rfl) T.g__law_tree T.F__law_tree.kp T.b__law_tree (sa_cons (so_frz (so_slice (so_var (pv 0)) sp_none (sp_some (so_var (pv 1))))) sa_nil) (hlen)) (sg_tup rfl (sgs_cons (sg_name sc__law_tree.nd rfl (by first | exact .inl rfl | exact .inr rfl) (by rfl)) (sgs_cons (sg_name sc__law_tree.nd rfl (by first | exact .inl rfl | exact .inr rfl) (by rfl)) sgs_nil)))) (ss_cons (ss_asg (so_call (ih) (hr.mono (by omega)) (by rfl) T.g__law_tree T.F__law_tree.kp T.b__law_tree (sa_cons (so_frz (so_slice (so_var (pv 0)) (sp_some (so_var (pv 1))) sp_none)) sa_nil) (hlen)) (sg_tup rfl (sgs_cons (sg_name sc__law_tree.nd rfl (by first | exact .inl rfl | exact .inr rfl) (by rfl)) (sgs_cons (sg_name sc__law_tree.nd rfl (by first | exact .inl rfl | exact .inr rfl) (by rfl)) sgs_nil)))) (ss_cons (ss_set sc__law_tree.nd rfl (by first | exact .inl rfl | exact .inr rfl) (by rfl) (so_lst sa_nil)) (ss_cons (ss_for PassesOwn.never rfl (si_zipF (by rfl) T.z_zip (sa_cons (so_var (pv 3)) (sa_cons (so_var (pv 5)) sa_nil))) (sg_tup rfl (sgs_cons (sg_name sc__law_tree.nd rfl (by first | exact .inl rfl | exact .inr rfl) (by rfl)) (sgs_cons (sg_name sc__law_tree.nd rfl (by first | exact .inl rfl | exact .inr rfl) (by rfl)) sgs_nil)))
  (ss_one (ss_expr (so_mt md_ext PySem.F.slot_list_extend PySem.F.type_list_extend mt_extend (pv 6) (sa_cons (so_lst (sa_cons (so_var (pv 7)) (sa_cons (so_var (pv 8)) sa_nil))) sa_nil)))) lkp_sub) (ss_one (ss_retT (sa_cons (so_bin op_addA pr_add (so_bin op_addA pr_add (so_lst (sa_cons (so_tup (sa_cons (so_ix (so_var (pv 0)) so_int) (sa_cons (so_ix (so_var (pv 0)) (so_var (pv 1))) sa_nil))) sa_nil)) (so_var (pv 2))) (so_var (pv 4))) (sa_cons (so_frzV (pv 6)) sa_nil)))))))))))
theorem ok__law_made (n : Nat) (T : Txt K mg) : FnOk P w K mg base CX0 (n + 3) T.a__law_made T.d__law_made ["_law_way", "_law_k"] (spF K 2 (f__law_made n)) :=
  fn_sim T.F__law_made sc__law_made rfl rfl fun cdv A outer s H E hr => ((ss_cons (ss_set sc__law_made.nd rfl (by first | exact .inl rfl | exact .inr rfl) (by rfl) (so_frz (so_listRg1 rfl (by rfl) T.z_list (by rfl) T.z_range (so_ix (so_lst (sa_cons so_int (sa_cons so_int (sa_cons so_int (sa_cons so_int (sa_cons so_int sa_nil)))))) (so_var (pv 1)))))) (ss_cons (ss_par (i := 3) (j := 4) rfl sc__law_made.nd rfl rfl (by decide) rfl rfl (by rfl) (by rfl) (sa_cons (so_bin op_mulA pr_mul (so_call (ok__law_block n T) (hr.mono (by omega)) (by rfl) T.g__law_block T.F__law_block.kp T.b__law_block (sa_cons (so_var (pv 2)) sa_nil) (fun ds r as h => len__law_block n ds r as h)) (so_var (pv 1))) (sa_cons (so_var (pv 2)) sa_nil))) (ss_cons (ss_if (st_cmp (op_eqD hr.units) pr_eq (so_var (pv 0)) so_int (nomark _))
  (ss_one (ss_asg (so_call (ok__law_stairway n T) (hr.mono (by omega)) (by rfl) T.g__law_stairway T.F__law_stairway.kp T.b__law_stairway (sa_cons (so_var (pv 2)) sa_nil) (fun ds r as h => len__law_stairway n ds r as h)) (sg_tup rfl (sgs_cons (sg_name sc__law_made.nd rfl (by first | exact .inl rfl | exact .inr rfl) (by rfl)) (sgs_cons (sg_name sc__law_made.nd rfl (by first | exact .inl rfl | exact .inr rfl) (by rfl)) sgs_nil)))))
  ss_nil) (ss_cons (ss_if (st_cmp (op_eqD hr.units) pr_eq (so_var (pv 0)) so_int (nomark _))
  (ss_one (ss_asg (so_call (ok__law_tree n T) (hr.mono (by omega)) (by rfl) T.g__law_tree T.F__law_tree.kp T.b__law_tree (sa_cons (so_var (pv 2)) sa_nil) (fun ds r as h => len__law_tree n ds r as h)) (sg_tup rfl (sgs_cons (sg_name sc__law_made.nd rfl (by first | exact .inl rfl | exact .inr rfl) (by rfl)) (sgs_cons (sg_name sc__law_made.nd rfl (by first | exact .inl rfl | exact .inr rfl) (by rfl)) sgs_nil)))))
  ss_nil) (ss_one (ss_ret (so_tup (sa_cons (so_callB cr_len pr_len (by rfl) T.z_len bt_len (sa_cons (so_var (pv 2)) sa_nil)) (sa_cons (so_callTy call_tuple_ofD pr_tuple (by rfl) T.z_tuple bt_tuple (sa_cons (so_var (pv 3)) sa_nil)) (sa_cons (so_callTy call_tuple_ofD pr_tuple (by rfl) T.z_tuple bt_tuple (sa_cons (so_var (pv 4)) sa_nil)) sa_nil)))))))))))
theorem ok__law_any (n : Nat) (T : Txt K mg) : FnOk P w K mg base CX0 (n + 3) T.a__law_any T.d__law_any ["_law_left_here"] (spF K 1 (f__law_any n)) :=
  fn_sim T.F__law_any sc__law_any rfl rfl fun cdv A outer s H E hr => ((ss_cons (ss_set sc__law_any.nd rfl (by first | exact .inl rfl | exact .inr rfl) (by rfl) (so_ix (so_lst (sa_cons so_int (sa_cons so_int (sa_cons so_int (sa_cons so_int (sa_cons so_int (sa_cons so_int (sa_cons so_int (sa_cons so_int sa_nil))))))))) (so_call (ok__law_pick T) (hr.mono (by omega)) (by rfl) T.g__law_pick T.F__law_pick.kp T.b__law_pick (sa_cons (so_var (pv 0)) (sa_cons so_int sa_nil)) (fun _ _ _ h => mkFn_len h)))) (ss_cons (ss_set sc__law_any.nd rfl (by first | exact .inl rfl | exact .inr rfl) (by rfl) (so_lst sa_nil)) (ss_cons (ss_for PassesOwn.never rfl (si_range1 (by rfl) T.z_range (sa_cons (so_bin op_mulA pr_mul (so_ix (so_lst (sa_cons so_int (sa_cons so_int (sa_cons so_int (sa_cons so_int (sa_cons so_int (sa_cons so_int (sa_cons so_int (sa_cons so_int sa_nil))))))))) (so_call (ok__law_pick T) (hr.mono (by omega)) (by rfl) T.g__law_pick T.F__law_pick.kp T.b__law_pick (sa_cons (so_var (pv 0)) (sa_cons so_int sa_nil)) (fun _ _ _ h => mkFn_len h))) (so_callTy call_int1 pr_int (by rfl) T.z_int bt_int (sa_cons (so_cmp op_gt pr_gt (so_var (pv 1)) so_int (nomark _)) sa_nil))) sa_nil)) (sg_name sc__law_any.nd rfl (by first | exact .inl rfl | exact .inr rfl) (by rfl))
  (ss_cons (ss_set sc__law_any.nd rfl (by first | exact .inl rfl | exact .inr rfl) (by rfl) (so_call (ok__law_pick T) (hr.mono (by omega)) (by rfl) T.g__law_pick T.F__law_pick.kp T.b__law_pick (sa_cons (so_var (pv 0)) (sa_cons (so_var (pv 1)) sa_nil)) (fun _ _ _ h => mkFn_len h))) (ss_cons (ss_set sc__law_any.nd rfl (by first | exact .inl rfl | exact .inr rfl) (by rfl) (so_bin op_mod pr_mod (so_bin op_addA pr_add (so_bin op_addA pr_add (so_var (pv 4)) so_int) (so_call (ok__law_pick T) (hr.mono (by omega)) (by rfl) T.g__law_pick T.F__law_pick.kp T.b__law_pick (sa_cons (so_var (pv 0)) (sa_cons (so_bin op_sub pr_sub (so_var (pv 1)) so_int) sa_nil)) (fun _ _ _ h => mkFn_len h))) (so_var (pv 1)))) (ss_one (ss_expr (so_mt md_app PySem.F.slot_list_append PySem.F.type_list_append mt_append (pv 2) (sa_cons (so_ix (so_lst (sa_cons (so_tup (sa_cons (so_var (pv 4)) (sa_cons (so_var (pv 5)) sa_nil))) (sa_cons (so_tup (sa_cons (so_var (pv 4)) (sa_cons (so_var (pv 5)) sa_nil))) (sa_cons (so_ix (so_bin op_addA pr_add (so_var (pv 2)) (so_lst (sa_cons (so_tup (sa_cons (so_var (pv 4)) (sa_cons (so_var (pv 5)) sa_nil))) sa_nil))) so_int) sa_nil)))) (so_call (ok__law_pick T) (hr.mono (by omega)) (by rfl) T.g__law_pick T.F__law_pick.kp T.b__law_pick (sa_cons (so_var (pv 0)) (sa_cons so_int sa_nil)) (fun _ _ _ h => mkFn_len h))) sa_nil)))))) (fun _ h => h)) (ss_cons (ss_set sc__law_any.nd rfl (by first | exact .inl rfl | exact .inr rfl) (by rfl) (so_ix (so_lst (sa_cons (so_tupleRg1 rfl (by rfl) T.z_tuple (by rfl) T.z_range (so_var (pv 1))) (sa_cons (so_call (ok__law_mixed n T) (hr.mono (by omega)) (by rfl) T.g__law_mixed T.F__law_mixed.kp T.b__law_mixed (sa_cons (so_var (pv 0)) (sa_cons (so_listRg1 rfl (by rfl) T.z_list (by rfl) T.z_range (so_var (pv 1))) sa_nil)) (fun ds r as h => len__law_mixed n ds r as h)) sa_nil))) (so_call (ok__law_pick T) (hr.mono (by omega)) (by rfl) T.g__law_pick T.F__law_pick.kp T.b__law_pick (sa_cons (so_var (pv 0)) (sa_cons so_int sa_nil)) (fun _ _ _ h => mkFn_len h)))) (ss_one (ss_ret (so_tup (sa_cons (so_var (pv 1)) (sa_cons (so_callTy call_tuple_ofD pr_tuple (by rfl) T.z_tuple bt_tuple (sa_cons (so_var (pv 2)) sa_nil)) (sa_cons (so_var (pv 6)) sa_nil)))))))))))
theorem ok__law_changed (T : Txt K mg) : FnOk P w K mg base CX0 2 T.a__law_changed T.d__law_changed ["_law_left_here", "_law_net_here"] (spF K 2 f__law_changed) :=
  fn_sim T.F__law_changed sc__law_changed rfl rfl fun cdv A outer s H E hr => ((ss_cons (ss_asg (so_var (pv 1)) (sg_tup rfl (sgs_cons (sg_name sc__law_changed.nd rfl (by first | exact .inl rfl | exact .inr rfl) (by rfl)) (sgs_cons (sg_name sc__law_changed.nd rfl (by first | exact .inl rfl | exact .inr rfl) (by rfl)) (sgs_cons (sg_name sc__law_changed.nd rfl (by first | exact .inl rfl | exact .inr rfl) (by rfl)) sgs_nil))))) (ss_cons (ss_par3 (i := 5) (j := 6) (l := 7) rfl sc__law_changed.nd rfl rfl rfl (by decide) (by decide) (by decide) rfl rfl rfl (by rfl) (by rfl) (by rfl) (sa_cons (so_call (ok__law_pick T) (hr.mono (by omega)) (by rfl) T.g__law_pick T.F__law_pick.kp T.b__law_pick (sa_cons (so_var (pv 0)) (sa_cons so_int sa_nil)) (fun _ _ _ h => mkFn_len h)) (sa_cons (so_call (ok__law_pick T) (hr.mono (by omega)) (by rfl) T.g__law_pick T.F__law_pick.kp T.b__law_pick (sa_cons (so_var (pv 0)) (sa_cons (so_bin op_addA pr_add (so_callB cr_len pr_len (by rfl) T.z_len bt_len (sa_cons (so_var (pv 3)) sa_nil)) so_int) sa_nil)) (fun _ _ _ h => mkFn_len h)) (sa_cons (so_call (ok__law_pick T) (hr.mono (by omega)) (by rfl) T.g__law_pick T.F__law_pick.kp T.b__law_pick (sa_cons (so_var (pv 0)) (sa_cons (so_var (pv 2)) sa_nil)) (fun _ _ _ h => mkFn_len h)) sa_nil)))) (ss_cons (ss_set sc__law_changed.nd rfl (by first | exact .inl rfl | exact .inr rfl) (by rfl) (so_slice (so_var (pv 3)) (sp_some (so_var (pv 6))) (sp_some (so_bin op_addA pr_add (so_var (pv 6)) so_int)))) (ss_cons (ss_if (st_cmp (op_eqD hr.units) pr_eq (so_var (pv 5)) so_int (nomark _))
  (ss_one (ss_ret (so_tup (sa_cons (so_var (pv 2)) (sa_cons (so_bin op_addA pr_add (so_bin op_addA pr_add (so_slice (so_var (pv 3)) sp_none (sp_some (so_var (pv 6)))) (so_callTy call_tuple_ofD pr_tuple (by rfl) T.z_tuple bt_tuple (sa_cons (so_comp (own := [("_law_a", 9), ("_law_b", 10)]) rfl sc__law_changed.nd (si_seq (so_var (pv 8))) (blkOk_by (by kernel_rfl)) (fun _ _ _ _ _ => (sg_tup rfl (sgs_cons (sg_name sc__law_changed.nd rfl (by first | exact .inl rfl | exact .inr rfl) (by rfl)) (sgs_cons (sg_name sc__law_changed.nd rfl (by first | exact .inl rfl | exact .inr rfl) (by rfl)) sgs_nil)))) (fun _ _ _ _ _ => spt_nil) (fun _ _ _ _ _ => (so_tup (sa_cons (so_var (pv 10)) (sa_cons (so_var (pv 9)) sa_nil))))) sa_nil))) (so_slice (so_var (pv 3)) (sp_some (so_bin op_addA pr_add (so_var (pv 6)) so_int)) sp_none)) (sa_cons (so_var (pv 4)) sa_nil))))))
  ss_nil) (ss_cons (ss_if (st_cmp (op_eqD hr.units) pr_eq (so_var (pv 5)) so_int (nomark _))
  (ss_one (ss_ret (so_tup (sa_cons (so_var (pv 2)) (sa_cons (so_bin op_addA pr_add (so_slice (so_var (pv 3)) sp_none (sp_some (so_var (pv 6)))) (so_slice (so_var (pv 3)) (sp_some (so_bin op_addA pr_add (so_var (pv 6)) so_int)) sp_none)) (sa_cons (so_var (pv 4)) sa_nil))))))
  ss_nil) (ss_cons (ss_if (st_cmp (op_eqD hr.units) pr_eq (so_var (pv 5)) so_int (nomark _))
  (ss_one (ss_ret (so_tup (sa_cons (so_var (pv 2)) (sa_cons (so_bin op_addA pr_add (so_bin op_addA pr_add (so_slice (so_var (pv 3)) sp_none (sp_some (so_var (pv 6)))) (so_var (pv 8))) (so_slice (so_var (pv 3)) (sp_some (so_var (pv 6))) sp_none)) (sa_cons (so_var (pv 4)) sa_nil))))))
  ss_nil) (ss_cons (ss_if (st_cmp (op_eqD hr.units) pr_eq (so_var (pv 5)) so_int (nomark _))
  (ss_one (ss_ret (so_tup (sa_cons (so_var (pv 2)) (sa_cons (so_bin op_addA pr_add (so_bin op_addA pr_add (so_bin op_addA pr_add (so_slice (so_var (pv 3)) sp_none (sp_some (so_var (pv 6)))) (so_slice (so_var (pv 3)) (sp_some (so_bin op_addA pr_add (so_var (pv 6)) so_int)) (sp_some (so_bin op_addA pr_add (so_var (pv 6)) so_int)))) (so_var (pv 8))) (so_slice (so_var (pv 3)) (sp_some (so_bin op_addA pr_add (so_var (pv 6)) so_int)) sp_none)) (sa_cons (so_var (pv 4)) sa_nil))))))
  ss_nil) (ss_cons (ss_set sc__law_changed.nd rfl (by first | exact .inl rfl | exact .inr rfl) (by rfl) (so_callTy call_list_of pr_list (by rfl) T.z_list bt_list (sa_cons (so_var (pv 4)) sa_nil))) (ss_cons (ss_setIx2 rfl (pv 11) so_int (pv 11) (so_var (pv 7)) (sa_cons (so_ix (so_var (pv 4)) (so_var (pv 7))) (sa_cons (so_ix (so_var (pv 4)) so_int) sa_nil))) (ss_one (ss_ret (so_tup (sa_cons (so_var (pv 2)) (sa_cons (so_var (pv 3)) (sa_cons (so_callTy call_tuple_ofD pr_tuple (by rfl) T.z_tuple bt_tuple (sa_cons (so_var (pv 11)) sa_nil)) sa_nil))))))))))))))))
theorem ok__law_net (n : Nat) (T : Txt K mg) : FnOk P w K mg base CX0 (n + 4) T.a__law_net T.d__law_net ["_law_left_here"] (spF K 1 (f__law_net n)) :=
  fn_sim T.F__law_net sc__law_net rfl rfl fun cdv A outer s H E hr => ((ss_cons (ss_set sc__law_net.nd rfl (by first | exact .inl rfl | exact .inr rfl) (by rfl) (so_call (ok__law_pick T) (hr.mono (by omega)) (by rfl) T.g__law_pick T.F__law_pick.kp T.b__law_pick (sa_cons (so_var (pv 0)) (sa_cons so_int sa_nil)) (fun _ _ _ h => mkFn_len h))) (ss_cons (ss_if (st_cmp (op_eqD hr.units) pr_eq (so_var (pv 1)) so_int (nomark _))
  (ss_one (ss_ret (so_call (ok__law_any n T) (hr.mono (by omega)) (by rfl) T.g__law_any T.F__law_any.kp T.b__law_any (sa_cons (so_var (pv 0)) sa_nil) (fun ds r as h => len__law_any n ds r as h))))
  ss_nil) (ss_cons (ss_set sc__law_net.nd rfl (by first | exact .inl rfl | exact .inr rfl) (by rfl) (so_call (ok__law_made n T) (hr.mono (by omega)) (by rfl) T.g__law_made T.F__law_made.kp T.b__law_made (sa_cons (so_call (ok__law_pick T) (hr.mono (by omega)) (by rfl) T.g__law_pick T.F__law_pick.kp T.b__law_pick (sa_cons (so_var (pv 0)) (sa_cons so_int sa_nil)) (fun _ _ _ h => mkFn_len h)) (sa_cons (so_ix (so_lst (sa_cons so_int (sa_cons so_int (sa_cons so_int (sa_cons so_int sa_nil))))) (so_call (ok__law_pick T) (hr.mono (by omega)) (by rfl) T.g__law_pick T.F__law_pick.kp T.b__law_pick (sa_cons (so_var (pv 0)) (sa_cons so_int sa_nil)) (fun _ _ _ h => mkFn_len h))) sa_nil)) (fun ds r as h => len__law_made n ds r as h))) (ss_cons (ss_for PassesOwn.never rfl (si_range1 (by rfl) T.z_range (sa_cons (so_bin op_mulA pr_mul (so_ix (so_lst (sa_cons so_int (sa_cons so_int (sa_cons so_int (sa_cons so_int sa_nil))))) (so_var (pv 1))) (so_call (ok__law_pick T) (hr.mono (by omega)) (by rfl) T.g__law_pick T.F__law_pick.kp T.b__law_pick (sa_cons (so_var (pv 0)) (sa_cons so_int sa_nil)) (fun _ _ _ h => mkFn_len h))) sa_nil)) (sg_name sc__law_net.nd rfl (by first | exact .inl rfl | exact .inr rfl) (by rfl))
  (ss_one (ss_set sc__law_net.nd rfl (by first | exact .inl rfl | exact .inr rfl) (by rfl) (so_call (ok__law_changed T) (hr.mono (by omega)) (by rfl) T.g__law_changed T.F__law_changed.kp T.b__law_changed (sa_cons (so_var (pv 0)) (sa_cons (so_var (pv 2)) sa_nil)) (fun _ _ _ h => mkFn_len h)))) (fun _ h => h)) (ss_one (ss_ret (so_var (pv 2)))))))))
theorem ok__law_some (T : Txt K mg) : FnOk P w K mg base CX0 2 T.a__law_some T.d__law_some ["_law_left_here", "_law_net_here"] (spF K 2 f__law_some) :=
  fn_sim T.F__law_some sc__law_some rfl rfl fun cdv A outer s H E hr => ((ss_cons (ss_setLc (own := [("_law_lane", 3)]) rfl sc__law_some.nd rfl rfl (by rfl) (si_range1 (by rfl) T.z_range (sa_cons (so_ix (so_var (pv 1)) so_int) sa_nil)) (blkOk_by (by kernel_rfl)) (fun _ _ _ _ _ => (sg_name sc__law_some.nd rfl (by first | exact .inl rfl | exact .inr rfl) (by rfl))) (fun _ _ _ _ _ => (spt_one (st_cmp (op_eqD hr.units) pr_eq (so_call (ok__law_pick T) (hr.mono (by omega)) (by rfl) T.g__law_pick T.F__law_pick.kp T.b__law_pick (sa_cons (so_var (pv 0)) (sa_cons so_int sa_nil)) (fun _ _ _ h => mkFn_len h)) so_int (nomark _)))) (fun _ _ _ _ _ => (so_var (pv 3)))) (ss_one (ss_ret (so_ix (so_lst (sa_cons (so_tupleRg1 rfl (by rfl) T.z_tuple (by rfl) T.z_range (so_ix (so_var (pv 1)) so_int)) (sa_cons (so_if (st_cmp (op_neD hr.units) pr_ne (so_var (pv 2)) (so_lst sa_nil) (nomark _)) (so_callTy call_tuple_ofD pr_tuple (by rfl) T.z_tuple bt_tuple (sa_cons (so_var (pv 2)) sa_nil)) (so_tup (sa_cons (so_call (ok__law_pick T) (hr.mono (by omega)) (by rfl) T.g__law_pick T.F__law_pick.kp T.b__law_pick (sa_cons (so_var (pv 0)) (sa_cons (so_ix (so_var (pv 1)) so_int) sa_nil)) (fun _ _ _ h => mkFn_len h)) sa_nil))) sa_nil))) (so_call (ok__law_pick T) (hr.mono (by omega)) (by rfl) T.g__law_pick T.F__law_pick.kp T.b__law_pick (sa_cons (so_var (pv 0)) (sa_cons so_int sa_nil)) (fun _ _ _ h => mkFn_len h)))))))
theorem ok__law_passed (T : Txt K mg) : FnOk P w K mg base CX0 1 T.a__law_passed T.d__law_passed ["_law_net_here", "_law_turns", "_law_lane"] (spF K 3 f__law_passed) :=
  fn_sim T.F__law_passed sc__law_passed rfl rfl fun cdv A outer s H E hr => ((ss_cons (ss_set sc__law_passed.nd rfl (by first | exact .inl rfl | exact .inr rfl) (by rfl) (so_callTy call_list_of pr_list (by rfl) T.z_list bt_list (sa_cons (so_var (pv 1)) sa_nil))) (ss_cons (ss_for PassesOwn.never rfl (si_enum (by rfl) T.z_enumerate (sa_cons (so_ix (so_var (pv 0)) so_int) sa_nil)) (sg_tup rfl (sgs_cons (sg_name sc__law_passed.nd rfl (by first | exact .inl rfl | exact .inr rfl) (by rfl)) (sgs_cons (sg_name sc__law_passed.nd rfl (by first | exact .inl rfl | exact .inr rfl) (by rfl)) sgs_nil)))
  (ss_one (ss_if (st_cmp (op_inA (units65 hr)) pr_in (so_var (pv 2)) (so_var (pv 5)) (by rfl))
  (ss_cons (ss_set sc__law_passed.nd rfl (by first | exact .inl rfl | exact .inr rfl) (by rfl) (so_ix (so_var (pv 5)) (so_ix (so_var (pv 3)) (so_var (pv 4))))) (ss_one (ss_setIx (pv 3) (so_var (pv 4)) (so_bin op_sub pr_sub so_int (so_ix (so_var (pv 3)) (so_var (pv 4)))))))
  ss_nil)) (fun _ h => h)) (ss_one (ss_ret (so_tup (sa_cons (so_callTy call_tuple_ofD pr_tuple (by rfl) T.z_tuple bt_tuple (sa_cons (so_var (pv 3)) sa_nil)) (sa_cons (so_idxT (so_ix (so_var (pv 0)) so_int) (so_var (pv 2))) sa_nil))))))))
theorem ok__law_ends (T : Txt K mg) : FnOk P w K mg base CX0 1 T.a__law_ends T.d__law_ends ["_law_net_here", "_law_counts"] (spF K 2 f__law_ends) :=
  fn_sim T.F__law_ends sc__law_ends rfl rfl fun cdv A outer s H E hr => ((ss_cons (ss_set sc__law_ends.nd rfl (by first | exact .inl rfl | exact .inr rfl) (by rfl) (so_callTy call_list_of pr_list (by rfl) T.z_list bt_list (sa_cons (so_var (pv 1)) sa_nil))) (ss_cons (ss_for PassesOwn.never rfl (si_seq (so_ix (so_var (pv 0)) so_int)) (sg_tup rfl (sgs_cons (sg_name sc__law_ends.nd rfl (by first | exact .inl rfl | exact .inr rfl) (by rfl)) (sgs_cons (sg_name sc__law_ends.nd rfl (by first | exact .inl rfl | exact .inr rfl) (by rfl)) sgs_nil)))
  (ss_cons (ss_set sc__law_ends.nd rfl (by first | exact .inl rfl | exact .inr rfl) (by rfl) (so_bin op_addA pr_add (so_ix (so_var (pv 2)) (so_var (pv 3))) (so_ix (so_var (pv 2)) (so_var (pv 4))))) (ss_cons (ss_setIx (pv 2) (so_var (pv 3)) (so_bin op_sub pr_sub (so_var (pv 5)) (so_bin op_fdivW pr_div (so_var (pv 5)) so_int))) (ss_one (ss_setIx (pv 2) (so_var (pv 4)) (so_bin op_fdivW pr_div (so_var (pv 5)) so_int))))) (fun _ h => h)) (ss_one (ss_ret (so_callTy call_tuple_ofD pr_tuple (by rfl) T.z_tuple bt_tuple (sa_cons (so_comp (own := [("_law_lane", 6)]) rfl sc__law_ends.nd (si_seq (so_ix (so_var (pv 0)) so_int)) (blkOk_by (by kernel_rfl)) (fun _ _ _ _ _ => (sg_name sc__law_ends.nd rfl (by first | exact .inl rfl | exact .inr rfl) (by rfl))) (fun _ _ _ _ _ => spt_nil) (fun _ _ _ _ _ => (so_ix (so_var (pv 2)) (so_var (pv 6))))) sa_nil)))))))
theorem ok__law_more (T : Txt K mg) : FnOk P w K mg base CX0 1 T.a__law_more T.d__law_more ["_law_counts", "_law_lane"] (spF K 2 f__law_more) :=
  fn_sim T.F__law_more sc__law_more rfl rfl fun cdv A outer s H E hr => ((ss_one (ss_ret (so_bin op_addA pr_add (so_bin op_addA pr_add (so_slice (so_var (pv 0)) sp_none (sp_some (so_var (pv 1)))) (so_tup (sa_cons (so_bin op_addA pr_add (so_ix (so_var (pv 0)) (so_var (pv 1))) so_int) sa_nil))) (so_slice (so_var (pv 0)) (sp_some (so_bin op_addA pr_add (so_var (pv 1)) so_int)) sp_none)))))
theorem ok__law_even (T : Txt K mg) : FnOk P w K mg base CX0 2 T.a__law_even T.d__law_even ["_law_net_here", "_law_some_here"] (spF K 2 f__law_even) :=
  fn_sim T.F__law_even sc__law_even rfl rfl fun cdv A outer s H E hr => ((ss_cons (ss_for PassesOwn.never rfl (si_seq (so_var (pv 1))) (sg_name sc__law_even.nd rfl (by first | exact .inl rfl | exact .inr rfl) (by rfl))
  (ss_cons (ss_set sc__law_even.nd rfl (by first | exact .inl rfl | exact .inr rfl) (by rfl) (so_callTy call_tuple_ofD pr_tuple (by rfl) T.z_tuple bt_tuple (sa_cons (so_comp (own := [("_law_one", 4)]) rfl sc__law_even.nd (si_range1 (by rfl) T.z_range (sa_cons (so_ix (so_var (pv 0)) so_int) sa_nil)) (blkOk_by (by kernel_rfl)) (fun _ _ _ _ _ => (sg_name sc__law_even.nd rfl (by first | exact .inl rfl | exact .inr rfl) (by rfl))) (fun _ _ _ _ _ => spt_nil) (fun _ _ _ _ _ => (so_bin op_mulA pr_mul (so_bin op_pow pr_pow so_int so_int) (so_callTy call_int1 pr_int (by rfl) T.z_int bt_int (sa_cons (so_cmp (op_eqD hr.units) pr_eq (so_var (pv 4)) (so_var (pv 2)) (nomark _)) sa_nil))))) sa_nil))) (ss_one (ss_if (st_cmp op_gt pr_gt (so_lenSet (by rfl) T.z_len (by rfl) T.z_set (sa_cons (so_call (ok__law_ends T) (hr.mono (by omega)) (by rfl) T.g__law_ends T.F__law_ends.kp T.b__law_ends (sa_cons (so_var (pv 0)) (sa_cons (so_var (pv 3)) sa_nil)) (fun _ _ _ h => mkFn_len h)) sa_nil)) so_int (nomark _))
  (ss_one (ss_ret so_bl))
  ss_nil))) lkp_sub) (ss_one (ss_ret so_bl))))
theorem ok__law_evened (n : Nat) (T : Txt K mg) : FnOk P w K mg base CX0 (n + 5) T.a__law_evened T.d__law_evened ["_law_left_here"] (spF K 1 (f__law_evened n)) :=
  fn_sim T.F__law_evened sc__law_evened rfl rfl fun cdv A outer s H E hr => ((ss_cons (ss_set sc__law_evened.nd rfl (by first | exact .inl rfl | exact .inr rfl) (by rfl) (so_call (ok__law_pick T) (hr.mono (by omega)) (by rfl) T.g__law_pick T.F__law_pick.kp T.b__law_pick (sa_cons (so_var (pv 0)) (sa_cons so_int sa_nil)) (fun _ _ _ h => mkFn_len h))) (ss_cons (ss_if (st_cmp (op_eqD hr.units) pr_eq (so_var (pv 1)) so_int (nomark _))
  (ss_one (ss_ret (so_call (ok__law_net n T) (hr.mono (by omega)) (by rfl) T.g__law_net T.F__law_net.kp T.b__law_net (sa_cons (so_var (pv 0)) sa_nil) (fun ds r as h => len__law_net n ds r as h))))
  ss_nil) (ss_cons (ss_if (st_cmp op_lt pr_lt (so_var (pv 1)) so_int (nomark _))
  (ss_one (ss_ret (so_call (ok__law_made n T) (hr.mono (by omega)) (by rfl) T.g__law_made T.F__law_made.kp T.b__law_made (sa_cons (so_ix (so_lst (sa_cons so_int (sa_cons so_int sa_nil))) (so_call (ok__law_pick T) (hr.mono (by omega)) (by rfl) T.g__law_pick T.F__law_pick.kp T.b__law_pick (sa_cons (so_var (pv 0)) (sa_cons so_int sa_nil)) (fun _ _ _ h => mkFn_len h))) (sa_cons (so_call (ok__law_pick T) (hr.mono (by omega)) (by rfl) T.g__law_pick T.F__law_pick.kp T.b__law_pick (sa_cons (so_var (pv 0)) (sa_cons so_int sa_nil)) (fun _ _ _ h => mkFn_len h)) sa_nil)) (fun ds r as h => len__law_made n ds r as h))))
  ss_nil) (ss_cons (ss_set sc__law_evened.nd rfl (by first | exact .inl rfl | exact .inr rfl) (by rfl) (so_ix (so_lst (sa_cons so_int (sa_cons so_int (sa_cons so_int (sa_cons so_int (sa_cons so_int sa_nil)))))) (so_call (ok__law_pick T) (hr.mono (by omega)) (by rfl) T.g__law_pick T.F__law_pick.kp T.b__law_pick (sa_cons (so_var (pv 0)) (sa_cons so_int sa_nil)) (fun _ _ _ h => mkFn_len h)))) (ss_cons (ss_setLc (own := [("_law_a", 4), ("_law_b", 5)]) rfl sc__law_evened.nd rfl rfl (by rfl) (si_seq (so_call (ok__law_block n T) (hr.mono (by omega)) (by rfl) T.g__law_block T.F__law_block.kp T.b__law_block (sa_cons (so_frz (so_listRg1 rfl (by rfl) T.z_list (by rfl) T.z_range (so_var (pv 2)))) sa_nil) (fun ds r as h => len__law_block n ds r as h))) (blkOk_by (by kernel_rfl)) (fun _ _ _ _ _ => (sg_tup rfl (sgs_cons (sg_name sc__law_evened.nd rfl (by first | exact .inl rfl | exact .inr rfl) (by rfl)) (sgs_cons (sg_name sc__law_evened.nd rfl (by first | exact .inl rfl | exact .inr rfl) (by rfl)) sgs_nil)))) (fun _ _ _ _ _ => spt_nil) (fun _ _ _ _ _ => (so_ix (so_lst (sa_cons (so_tup (sa_cons (so_var (pv 4)) (sa_cons (so_var (pv 5)) sa_nil))) (sa_cons (so_tup (sa_cons (so_var (pv 5)) (sa_cons (so_var (pv 4)) sa_nil))) sa_nil))) (so_call (ok__law_pick T) (hr.mono (by omega)) (by rfl) T.g__law_pick T.F__law_pick.kp T.b__law_pick (sa_cons (so_var (pv 0)) (sa_cons so_int sa_nil)) (fun _ _ _ h => mkFn_len h))))) (ss_cons (ss_for PassesOwn.never rfl (si_range1 (by rfl) T.z_range (sa_cons (so_bin op_mulA pr_mul (so_call (ok__law_pick T) (hr.mono (by omega)) (by rfl) T.g__law_pick T.F__law_pick.kp T.b__law_pick (sa_cons (so_var (pv 0)) (sa_cons so_int sa_nil)) (fun _ _ _ h => mkFn_len h)) (so_callTy call_int1 pr_int (by rfl) T.z_int bt_int (sa_cons (so_cmp op_lt pr_lt (so_var (pv 2)) so_int (nomark _)) sa_nil))) sa_nil)) (sg_name sc__law_evened.nd rfl (by first | exact .inl rfl | exact .inr rfl) (by rfl))
  (ss_cons (ss_set sc__law_evened.nd rfl (by first | exact .inl rfl | exact .inr rfl) (by rfl) (so_call (ok__law_pick T) (hr.mono (by omega)) (by rfl) T.g__law_pick T.F__law_pick.kp T.b__law_pick (sa_cons (so_var (pv 0)) (sa_cons (so_var (pv 2)) sa_nil)) (fun _ _ _ h => mkFn_len h))) (ss_one (ss_expr (so_mt md_app PySem.F.slot_list_append PySem.F.type_list_append mt_append (pv 3) (sa_cons (so_tup (sa_cons (so_var (pv 4)) (sa_cons (so_bin op_mod pr_mod (so_bin op_addA pr_add (so_bin op_addA pr_add (so_var (pv 4)) so_int) (so_call (ok__law_pick T) (hr.mono (by omega)) (by rfl) T.g__law_pick T.F__law_pick.kp T.b__law_pick (sa_cons (so_var (pv 0)) (sa_cons (so_bin op_sub pr_sub (so_var (pv 2)) so_int) sa_nil)) (fun _ _ _ h => mkFn_len h))) (so_var (pv 2))) sa_nil))) sa_nil))))) (fun _ h => h)) (ss_cons (ss_set sc__law_evened.nd rfl (by first | exact .inl rfl | exact .inr rfl) (by rfl) (so_ix (so_lst (sa_cons (so_tupleRg1 rfl (by rfl) T.z_tuple (by rfl) T.z_range (so_var (pv 2))) (sa_cons (so_call (ok__law_mixed n T) (hr.mono (by omega)) (by rfl) T.g__law_mixed T.F__law_mixed.kp T.b__law_mixed (sa_cons (so_var (pv 0)) (sa_cons (so_listRg1 rfl (by rfl) T.z_list (by rfl) T.z_range (so_var (pv 2))) sa_nil)) (fun ds r as h => len__law_mixed n ds r as h)) sa_nil))) (so_call (ok__law_pick T) (hr.mono (by omega)) (by rfl) T.g__law_pick T.F__law_pick.kp T.b__law_pick (sa_cons (so_var (pv 0)) (sa_cons so_int sa_nil)) (fun _ _ _ h => mkFn_len h)))) (ss_one (ss_ret (so_tup (sa_cons (so_var (pv 2)) (sa_cons (so_callTy call_tuple_ofD pr_tuple (by rfl) T.z_tuple bt_tuple (sa_cons (so_var (pv 3)) sa_nil)) (sa_cons (so_var (pv 7)) sa_nil))))))))))))))
theorem ok__law_lowered (T : Txt K mg) : FnOk P w K mg base CX0 1 T.a__law_lowered T.d__law_lowered ["_law_heights"] (spF K 1 f__law_lowered) :=
  fn_sim T.F__law_lowered sc__law_lowered rfl rfl fun cdv A outer s H E hr => ((ss_one (ss_ret (so_callTy call_tuple_ofD pr_tuple (by rfl) T.z_tuple bt_tuple (sa_cons (so_comp (own := [("_law_height", 1)]) rfl sc__law_lowered.nd (si_seq (so_var (pv 0))) (blkOk_by (by kernel_rfl)) (fun _ _ _ _ _ => (sg_name sc__law_lowered.nd rfl (by first | exact .inl rfl | exact .inr rfl) (by rfl))) (fun _ _ _ _ _ => spt_nil) (fun _ _ _ _ _ => (so_bin op_sub pr_sub (so_var (pv 1)) (so_callB (cr_minAny rfl hr.units) pr_minAny (by rfl) T.z_min bt_min (sa_cons (so_var (pv 0)) sa_nil))))) sa_nil)))))
theorem ok__law_all_places (n : Nat) (T : Txt K mg) : FnOk P w K mg base CX0 (n + 2) T.a__law_all_places T.d__law_all_places ["_law_net_here", "_law_some_here", "_law_most"] (spF K 3 (f__law_all_places n)) :=
  fn_sim T.F__law_all_places sc__law_all_places rfl rfl fun cdv A outer s H E hr => ((ss_cons (ss_set sc__law_all_places.nd rfl (by first | exact .inl rfl | exact .inr rfl) (by rfl) (so_tup (sa_cons (so_bin op_mulA pr_mul (so_tup (sa_cons so_int sa_nil)) (so_callB cr_len pr_len (by rfl) T.z_len bt_len (sa_cons (so_ix (so_var (pv 0)) so_int) sa_nil))) (sa_cons (so_bin op_mulA pr_mul (so_tup (sa_cons so_int sa_nil)) (so_ix (so_var (pv 0)) so_int)) sa_nil)))) (ss_cons (ss_par (i := 4) (j := 5) rfl sc__law_all_places.nd rfl rfl (by decide) rfl rfl (by rfl) (by rfl) (sa_cons so_newN (sa_cons (so_lst (sa_cons (so_var (pv 3)) sa_nil)) sa_nil))) (ss_cons (ss_while (n * 256) PassesOwn.never (st_w (sw_and (st_cmp (op_neD hr.units) pr_ne (so_var (pv 5)) (so_lst sa_nil) (nomark _)) (sw_and1 (st_cmp op_le pr_le (so_callB cr_lenN pr_lenN (by rfl) T.z_len bt_len (sa_cons (so_var (pv 4)) sa_nil)) (so_var (pv 2)) (nomark _)))))
  (ss_cons (ss_asg (so_mt0 md_pop PySem.F.slot_list_pop PySem.F.type_list_pop mt_pop (pv 5)) (sg_tup rfl (sgs_cons (sg_name sc__law_all_places.nd rfl (by first | exact .inl rfl | exact .inr rfl) (by rfl)) (sgs_cons (sg_name sc__law_all_places.nd rfl (by first | exact .inl rfl | exact .inr rfl) (by rfl)) sgs_nil)))) (ss_one (ss_if (st_cmp (op_ninN (units65 hr)) pr_ninN (so_tup (sa_cons (so_var (pv 6)) (sa_cons (so_var (pv 7)) sa_nil))) (so_var (pv 4)) (by rfl))
  (ss_cons (ss_setN (units65 hr) (pv 4) (so_tup (sa_cons (so_var (pv 6)) (sa_cons (so_var (pv 7)) sa_nil))) so_bl) (ss_one (ss_for PassesOwn.never rfl (si_seq (so_var (pv 1))) (sg_name sc__law_all_places.nd rfl (by first | exact .inl rfl | exact .inr rfl) (by rfl))
  (ss_cons (ss_asg (so_call (ok__law_passed T) (hr.mono (by omega)) (by rfl) T.g__law_passed T.F__law_passed.kp T.b__law_passed (sa_cons (so_var (pv 0)) (sa_cons (so_var (pv 6)) (sa_cons (so_var (pv 8)) sa_nil))) (fun _ _ _ h => mkFn_len h)) (sg_tup rfl (sgs_cons (sg_name sc__law_all_places.nd rfl (by first | exact .inl rfl | exact .inr rfl) (by rfl)) (sgs_cons (sg_name sc__law_all_places.nd rfl (by first | exact .inl rfl | exact .inr rfl) (by rfl)) sgs_nil)))) (ss_one (ss_expr (so_mt md_app PySem.F.slot_list_append PySem.F.type_list_append mt_append (pv 5) (sa_cons (so_tup (sa_cons (so_var (pv 9)) (sa_cons (so_call (ok__law_lowered T) (hr.mono (by omega)) (by rfl) T.g__law_lowered T.F__law_lowered.kp T.b__law_lowered (sa_cons (so_call (ok__law_more T) (hr.mono (by omega)) (by rfl) T.g__law_more T.F__law_more.kp T.b__law_more (sa_cons (so_var (pv 7)) (sa_cons (so_var (pv 10)) sa_nil)) (fun _ _ _ h => mkFn_len h)) sa_nil) (fun _ _ _ h => mkFn_len h)) sa_nil))) sa_nil))))) lkp_sub)))
  ss_nil)))) (ss_one (ss_ret (so_if (st_cmp op_le pr_le (so_callB cr_lenN pr_lenN (by rfl) T.z_len bt_len (sa_cons (so_var (pv 4)) sa_nil)) (so_var (pv 2)) (nomark _)) (so_frz (so_callTy (cr_listN rfl) pr_listN (by rfl) T.z_list bt_list (sa_cons (so_var (pv 4)) sa_nil))) so_non)))))))
theorem ok__law_with (n : Nat) (T : Txt K mg) : FnOk P w K mg base CX0 (n + 2) T.a__law_with T.d__law_with ["_law_left_here", "_law_net_here", "_law_some_here", "_law_places"] (spF K 4 (f__law_with n)) :=
  fn_sim T.F__law_with sc__law_with rfl rfl fun cdv A outer s H E hr => ((ss_cons (ss_set sc__law_with.nd rfl (by first | exact .inl rfl | exact .inr rfl) (by rfl) (so_call (ok__law_lowered T) (hr.mono (by omega)) (by rfl) T.g__law_lowered T.F__law_lowered.kp T.b__law_lowered (sa_cons (so_frz (so_comp (own := [("_law_lane", 5)]) rfl sc__law_with.nd (si_range1 (by rfl) T.z_range (sa_cons (so_ix (so_var (pv 1)) so_int) sa_nil)) (blkOk_by (by kernel_rfl)) (fun _ _ _ _ _ => (sg_name sc__law_with.nd rfl (by first | exact .inl rfl | exact .inr rfl) (by rfl))) (fun _ _ _ _ _ => spt_nil) (fun _ _ _ _ _ => (so_call (ok__law_pick T) (hr.mono (by omega)) (by rfl) T.g__law_pick T.F__law_pick.kp T.b__law_pick (sa_cons (so_var (pv 0)) (sa_cons so_int sa_nil)) (fun _ _ _ h => mkFn_len h))))) sa_nil) (fun _ _ _ h => mkFn_len h))) (ss_cons (ss_par (i := 6) (j := 7) rfl sc__law_with.nd rfl rfl (by decide) rfl rfl (by rfl) (by rfl) (sa_cons (so_lst (sa_cons (so_tup (sa_cons (so_callTy call_tuple_ofD pr_tuple (by rfl) T.z_tuple bt_tuple (sa_cons (so_comp (own := [("_law_fork", 8)]) rfl sc__law_with.nd (si_seq (so_ix (so_var (pv 1)) so_int)) (blkOk_by (by kernel_rfl)) (fun _ _ _ _ _ => (sg_name sc__law_with.nd rfl (by first | exact .inl rfl | exact .inr rfl) (by rfl))) (fun _ _ _ _ _ => spt_nil) (fun _ _ _ _ _ => (so_call (ok__law_pick T) (hr.mono (by omega)) (by rfl) T.g__law_pick T.F__law_pick.kp T.b__law_pick (sa_cons (so_var (pv 0)) (sa_cons so_int sa_nil)) (fun _ _ _ h => mkFn_len h)))) sa_nil)) (sa_cons (so_var (pv 4)) sa_nil))) sa_nil)) (sa_cons (so_callTy (call_dictN (units65 hr) rfl) pr_dictN (by rfl) T.z_dict bt_dict (sa_cons (so_comp (own := [("_law_place", 9)]) rfl sc__law_with.nd (si_seq (so_var (pv 3))) (blkOk_by (by kernel_rfl)) (fun _ _ _ _ _ => (sg_name sc__law_with.nd rfl (by first | exact .inl rfl | exact .inr rfl) (by rfl))) (fun _ _ _ _ _ => spt_nil) (fun _ _ _ _ _ => (so_tup (sa_cons (so_var (pv 9)) (sa_cons so_bl sa_nil))))) sa_nil)) sa_nil))) (ss_cons (ss_while (n * 256) PassesOwn.never (st_w (sw_and (st_cmp (op_neD hr.units) pr_ne (so_var (pv 6)) (so_lst sa_nil) (nomark _)) (sw_and1 (st_cmp op_lt pr_lt (so_callB cr_lenN pr_lenN (by rfl) T.z_len bt_len (sa_cons (so_var (pv 7)) sa_nil)) so_int (nomark _)))))
  (ss_cons (ss_asg (so_mt0 md_pop PySem.F.slot_list_pop PySem.F.type_list_pop mt_pop (pv 6)) (sg_tup rfl (sgs_cons (sg_name sc__law_with.nd rfl (by first | exact .inl rfl | exact .inr rfl) (by rfl)) (sgs_cons (sg_name sc__law_with.nd rfl (by first | exact .inl rfl | exact .inr rfl) (by rfl)) sgs_nil)))) (ss_one (ss_if (st_cmp (op_ninN (units65 hr)) pr_ninN (so_tup (sa_cons (so_var (pv 10)) (sa_cons (so_var (pv 4)) sa_nil))) (so_var (pv 7)) (by rfl))
  (ss_cons (ss_setN (units65 hr) (pv 7) (so_tup (sa_cons (so_var (pv 10)) (sa_cons (so_var (pv 4)) sa_nil))) so_bl) (ss_one (ss_for PassesOwn.never rfl (si_seq (so_var (pv 2))) (sg_name sc__law_with.nd rfl (by first | exact .inl rfl | exact .inr rfl) (by rfl))
  (ss_cons (ss_asg (so_call (ok__law_passed T) (hr.mono (by omega)) (by rfl) T.g__law_passed T.F__law_passed.kp T.b__law_passed (sa_cons (so_var (pv 1)) (sa_cons (so_var (pv 10)) (sa_cons (so_var (pv 5)) sa_nil))) (fun _ _ _ h => mkFn_len h)) (sg_tup rfl (sgs_cons (sg_name sc__law_with.nd rfl (by first | exact .inl rfl | exact .inr rfl) (by rfl)) (sgs_cons (sg_name sc__law_with.nd rfl (by first | exact .inl rfl | exact .inr rfl) (by rfl)) sgs_nil)))) (ss_one (ss_expr (so_mt md_app PySem.F.slot_list_append PySem.F.type_list_append mt_append (pv 6) (sa_cons (so_tup (sa_cons (so_var (pv 11)) (sa_cons (so_call (ok__law_lowered T) (hr.mono (by omega)) (by rfl) T.g__law_lowered T.F__law_lowered.kp T.b__law_lowered (sa_cons (so_call (ok__law_more T) (hr.mono (by omega)) (by rfl) T.g__law_more T.F__law_more.kp T.b__law_more (sa_cons (so_var (pv 4)) (sa_cons (so_var (pv 12)) sa_nil)) (fun _ _ _ h => mkFn_len h)) sa_nil) (fun _ _ _ h => mkFn_len h)) sa_nil))) sa_nil))))) lkp_sub)))
  ss_nil)))) (ss_one (ss_ret (so_if (st_cmp (op_eqD hr.units) pr_eq (so_var (pv 6)) (so_lst sa_nil) (nomark _)) (so_frz (so_callTy (cr_listN rfl) pr_listN (by rfl) T.z_list bt_list (sa_cons (so_var (pv 7)) sa_nil))) (so_var (pv 3)))))))))
theorem ok_law (n : Nat) (T : Txt K mg) : FnOkG P w K mg base (n + 6) T.a_law T.d_law ["_law_script"] (spF K 1 (f_law n)) :=
  fn_simG T.F_law sc_law rfl rfl fun cdv A outer s H E hG hr => ((ss_cons (ss_for PassesOwn.never rfl (si_range1 (by rfl) T.z_range (sa_cons (so_callB (call_max2 rfl) pr_max2 (by rfl) T.z_max bt_max (sa_cons so_int (sa_cons (so_callB (call_min2 rfl) pr_min2 (by rfl) T.z_min bt_min (sa_cons (so_callB cr_len pr_len (by rfl) T.z_len bt_len (sa_cons (so_var (pv 0)) sa_nil)) (sa_cons so_int sa_nil))) sa_nil))) sa_nil)) (sg_name sc_law.nd rfl (by first | exact .inl rfl | exact .inr rfl) (by rfl))
  (ss_cons (ss_set sc_law.nd rfl (by first | exact .inl rfl | exact .inr rfl) (by rfl) (so_call (ok__law_left T) (hr.mono (by omega)) (by rfl) T.g__law_left T.F__law_left.kp T.b__law_left (sa_cons (so_var (pv 0)) (sa_cons (so_var (pv 1)) sa_nil)) (fun _ _ _ h => mkFn_len h))) (ss_cons (ss_set sc_law.nd rfl (by first | exact .inl rfl | exact .inr rfl) (by rfl) (so_call (ok__law_evened n T) (hr.mono (by omega)) (by rfl) T.g__law_evened T.F__law_evened.kp T.b__law_evened (sa_cons (so_var (pv 2)) sa_nil) (fun ds r as h => len__law_evened n ds r as h))) (ss_cons (ss_set sc_law.nd rfl (by first | exact .inl rfl | exact .inr rfl) (by rfl) (so_call (ok__law_some T) (hr.mono (by omega)) (by rfl) T.g__law_some T.F__law_some.kp T.b__law_some (sa_cons (so_var (pv 2)) (sa_cons (so_var (pv 3)) sa_nil)) (fun _ _ _ h => mkFn_len h))) (ss_one (ss_if (st_any (so_call (ok__law_even T) (hr.mono (by omega)) (by rfl) T.g__law_even T.F__law_even.kp T.b__law_even (sa_cons (so_var (pv 3)) (sa_cons (so_var (pv 4)) sa_nil)) (fun _ _ _ h => mkFn_len h)))
  (ss_cons (ss_set sc_law.nd rfl (by first | exact .inl rfl | exact .inr rfl) (by rfl) (so_call (ok__law_all_places n T) (hr.mono (by omega)) (by rfl) T.g__law_all_places T.F__law_all_places.kp T.b__law_all_places (sa_cons (so_var (pv 3)) (sa_cons (so_var (pv 4)) (sa_cons so_int sa_nil))) (fun ds r as h => len__law_all_places n ds r as h))) (ss_one (ss_if (st_cmp op_isNotA pr_isnot (so_var (pv 5)) so_non (nomark _))
  (ss_one (ss_for PassesOwn.never rfl (si_seq (so_tup (sa_cons (so_var (pv 5)) (sa_cons (so_call (ok__law_with n T) (hr.mono (by omega)) (by rfl) T.g__law_with T.F__law_with.kp T.b__law_with (sa_cons (so_var (pv 2)) (sa_cons (so_var (pv 3)) (sa_cons (so_var (pv 4)) (sa_cons (so_var (pv 5)) sa_nil)))) (fun ds r as h => len__law_with n ds r as h)) sa_nil)))) (sg_name sc_law.nd rfl (by first | exact .inl rfl | exact .inr rfl) (by rfl))
  (ss_cons (ss_set sc_law.nd rfl (by first | exact .inl rfl | exact .inr rfl) (by rfl) (so_callB (cr_maxA rfl) pr_max1 (by rfl) T.z_max bt_max (sa_cons (so_comp (own := [("_law_turns", 8), ("_law_heights", 9)]) rfl sc_law.nd (si_seq (so_var (pv 6))) (blkOk_by (by kernel_rfl)) (fun _ _ _ _ _ => (sg_tup rfl (sgs_cons (sg_name sc_law.nd rfl (by first | exact .inl rfl | exact .inr rfl) (by rfl)) (sgs_cons (sg_name sc_law.nd rfl (by first | exact .inl rfl | exact .inr rfl) (by rfl)) sgs_nil)))) (fun _ _ _ _ _ => spt_nil) (fun _ _ _ _ _ => (so_callB (cr_maxA rfl) pr_max1 (by rfl) T.z_max bt_max (sa_cons (so_var (pv 9)) sa_nil)))) sa_nil))) (ss_cons (ss_set sc_law.nd rfl (by first | exact .inl rfl | exact .inr rfl) (by rfl) (so_call (ok__law_mixed n T) (hr.mono (by omega)) (by rfl) T.g__law_mixed T.F__law_mixed.kp T.b__law_mixed (sa_cons (so_var (pv 2)) (sa_cons (so_var (pv 6)) sa_nil)) (fun ds r as h => len__law_mixed n ds r as h))) (ss_cons (ss_set sc_law.nd rfl (by first | exact .inl rfl | exact .inr rfl) (by rfl) (so_callB (call_reprG hG hr.units) pr_repr (by rfl) T.z_repr bt_repr (sa_cons (so_var (pv 10)) sa_nil))) (ss_cons (ss_if (st_w (sw_or (st_cmp op_isNotA pr_isnot (so_call (ok_shows_reach T) (hr.mono (by omega)) (by rfl) T.g_shows_reach T.F_shows_reach.kp T.b_shows_reach (sa_cons (so_var (pv 3)) (sa_cons (so_var (pv 4)) (sa_cons (so_var (pv 7)) (sa_cons (so_var (pv 10)) sa_nil)))) (fun _ _ _ h => mkFn_len h)) so_bl (nomark _)) (sw_or1 (st_cmp (op_neD hr.units) pr_ne (so_callB (call_reprG hG hr.units) pr_repr (by rfl) T.z_repr bt_repr (sa_cons (so_var (pv 10)) sa_nil)) (so_var (pv 11)) (nomark _)))))
  (ss_one (ss_ret so_bl))
  ss_nil) (ss_cons (ss_if (st_cmp op_isNotA pr_isnot (so_call (ok_shows_reach T) (hr.mono (by omega)) (by rfl) T.g_shows_reach T.F_shows_reach.kp T.b_shows_reach (sa_cons (so_var (pv 3)) (sa_cons (so_var (pv 4)) (sa_cons (so_bin op_addA pr_add (so_bin op_addA pr_add (so_var (pv 7)) so_int) (so_call (ok__law_pick T) (hr.mono (by omega)) (by rfl) T.g__law_pick T.F__law_pick.kp T.b__law_pick (sa_cons (so_var (pv 2)) (sa_cons so_int sa_nil)) (fun _ _ _ h => mkFn_len h))) (sa_cons (so_var (pv 10)) sa_nil)))) (fun _ _ _ h => mkFn_len h)) so_bl (nomark _))
  (ss_one (ss_ret so_bl))
  ss_nil) (ss_one (ss_if (st_cmp op_isNotA pr_isnot (so_call (ok_shows_reach T) (hr.mono (by omega)) (by rfl) T.g_shows_reach T.F_shows_reach.kp T.b_shows_reach (sa_cons (so_var (pv 3)) (sa_cons (so_var (pv 4)) (sa_cons (so_bin op_sub pr_sub (so_var (pv 7)) so_int) (sa_cons (so_var (pv 10)) sa_nil)))) (fun _ _ _ h => mkFn_len h)) so_bl (nomark _))
  (ss_one (ss_ret so_bl))
  ss_nil))))))) (fun _ h => h)))
  ss_nil)))
  ss_nil))))) (fun _ h => h)) (ss_one (ss_ret so_bl))))
end
theorem all_mk {l : PySem.W.OpenLaw} {w : World} {K : PySem.W.Frag} {h : Heap} {mg : Str → Option Value} {fa f1 f2 f3 f4 f5 f6 f7 f8 f9 f10 f11 f12 f13 f14 f15 f16 f17 f18 f19 f20 f21 f22 f23 f24 f25 f26 f27 f28 f29 f30 f31 f32 : Addr} (n : Nat) (X : K.In h) (G : h.Ns mainGlobals mg) (hfa : mg "law" = some (.ref fa))
    {od1 an1 od2 an2 od3 an3 od4 an4 od5 an5 od6 an6 od7 an7 od8 an8 od9 an9 od10 an10 od11 an11 od12 an12 od13 an13 od14 an14 od15 an15 od16 an16 od17 an17 od18 an18 od19 an19 od20 an20 od21 an21 od22 an22 od23 an23 od24 an24 od25 an25 od26 an26 od27 an27 od28 an28 od29 an29 od30 an30 od31 an31 od32 an32 : Option Addr} {sl1 sl2 sl3 sl4 sl5 sl6 sl7 sl8 sl9 sl10 sl11 sl12 sl13 sl14 sl15 sl16 sl17 sl18 sl19 sl20 sl21 sl22 sl23 sl24 sl25 sl26 sl27 sl28 sl29 sl30 sl31 sl32 : Array (Option Value)} {oc1 kV1 dc1 pm1 cd1 ct1 oc2 kV2 dc2 pm2 cd2 ct2 oc3 kV3 dc3 pm3 cd3 ct3 oc4 kV4 dc4 pm4 cd4 ct4 oc5 kV5 dc5 pm5 cd5 ct5 oc6 kV6 dc6 pm6 cd6 ct6 oc7 kV7 dc7 pm7 cd7 ct7 oc8 kV8 dc8 pm8 cd8 ct8 oc9 kV9 dc9 pm9 cd9 ct9 oc10 kV10 dc10 pm10 cd10 ct10 oc11 kV11 dc11 pm11 cd11 ct11 oc12 kV12 dc12 pm12 cd12 ct12 oc13 kV13 dc13 pm13 cd13 ct13 oc14 kV14 dc14 pm14 cd14 ct14 oc15 kV15 dc15 pm15 cd15 ct15 oc16 kV16 dc16 pm16 cd16 ct16 oc17 kV17 dc17 pm17 cd17 ct17 oc18 kV18 dc18 pm18 cd18 ct18 oc19 kV19 dc19 pm19 cd19 ct19 oc20 kV20 dc20 pm20 cd20 ct20 oc21 kV21 dc21 pm21 cd21 ct21 oc22 kV22 dc22 pm22 cd22 ct22 oc23 kV23 dc23 pm23 cd23 ct23 oc24 kV24 dc24 pm24 cd24 ct24 oc25 kV25 dc25 pm25 cd25 ct25 oc26 kV26 dc26 pm26 cd26 ct26 oc27 kV27 dc27 pm27 cd27 ct27 oc28 kV28 dc28 pm28 cd28 ct28 oc29 kV29 dc29 pm29 cd29 ct29 oc30 kV30 dc30 pm30 cd30 ct30 oc31 kV31 dc31 pm31 cd31 ct31 oc32 kV32 dc32 pm32 cd32 ct32 : Value}
    (a1 : PySem.W.nsIn K mainGlobals "passed" = some (some (.ref f1))) (l1 : K.lookup f1 = some ⟨oc1, od1, .func (PySem.W.fnOf "passed" "passed" (defArgs s_passed) (defBody s_passed) (defScope s_passed) .none kV1 dc1 pm1 an1 cd1 ct1), sl1⟩) (c1 : PySem.W.codeIn K cd1 "passed" = true) (k1 : PySem.W.keepIn K (.ref f1) = true)
    (a2 : PySem.W.nsIn K mainGlobals "with_one" = some (some (.ref f2))) (l2 : K.lookup f2 = some ⟨oc2, od2, .func (PySem.W.fnOf "with_one" "with_one" (defArgs s_with_one) (defBody s_with_one) (defScope s_with_one) .none kV2 dc2 pm2 an2 cd2 ct2), sl2⟩) (c2 : PySem.W.codeIn K cd2 "with_one" = true) (k2 : PySem.W.keepIn K (.ref f2) = true)
    (a3 : PySem.W.nsIn K mainGlobals "first_turns" = some (some (.ref f3))) (l3 : K.lookup f3 = some ⟨oc3, od3, .func (PySem.W.fnOf "first_turns" "first_turns" (defArgs s_first_turns) (defBody s_first_turns) (defScope s_first_turns) .none kV3 dc3 pm3 an3 cd3 ct3), sl3⟩) (c3 : PySem.W.codeIn K cd3 "first_turns" = true) (k3 : PySem.W.keepIn K (.ref f3) = true)
    (a4 : PySem.W.nsIn K mainGlobals "lowered" = some (some (.ref f4))) (l4 : K.lookup f4 = some ⟨oc4, od4, .func (PySem.W.fnOf "lowered" "lowered" (defArgs s_lowered) (defBody s_lowered) (defScope s_lowered) .none kV4 dc4 pm4 an4 cd4 ct4), sl4⟩) (c4 : PySem.W.codeIn K cd4 "lowered" = true) (k4 : PySem.W.keepIn K (.ref f4) = true)
    (a5 : PySem.W.nsIn K mainGlobals "places_behind" = some (some (.ref f5))) (l5 : K.lookup f5 = some ⟨oc5, od5, .func (PySem.W.fnOf "places_behind" "places_behind" (defArgs s_places_behind) (defBody s_places_behind) (defScope s_places_behind) .none kV5 dc5 pm5 an5 cd5 ct5), sl5⟩) (c5 : PySem.W.codeIn K cd5 "places_behind" = true) (k5 : PySem.W.keepIn K (.ref f5) = true)
    (a6 : PySem.W.nsIn K mainGlobals "first_place" = some (some (.ref f6))) (l6 : K.lookup f6 = some ⟨oc6, od6, .func (PySem.W.fnOf "first_place" "first_place" (defArgs s_first_place) (defBody s_first_place) (defScope s_first_place) .none kV6 dc6 pm6 an6 cd6 ct6), sl6⟩) (c6 : PySem.W.codeIn K cd6 "first_place" = true) (k6 : PySem.W.keepIn K (.ref f6) = true)
    (a7 : PySem.W.nsIn K mainGlobals "is_whole" = some (some (.ref f7))) (l7 : K.lookup f7 = some ⟨oc7, od7, .func (PySem.W.fnOf "is_whole" "is_whole" (defArgs s_is_whole) (defBody s_is_whole) (defScope s_is_whole) .none kV7 dc7 pm7 an7 cd7 ct7), sl7⟩) (c7 : PySem.W.codeIn K cd7 "is_whole" = true) (k7 : PySem.W.keepIn K (.ref f7) = true)
    (a8 : PySem.W.nsIn K mainGlobals "are_turns" = some (some (.ref f8))) (l8 : K.lookup f8 = some ⟨oc8, od8, .func (PySem.W.fnOf "are_turns" "are_turns" (defArgs s_are_turns) (defBody s_are_turns) (defScope s_are_turns) .none kV8 dc8 pm8 an8 cd8 ct8), sl8⟩) (c8 : PySem.W.codeIn K cd8 "are_turns" = true) (k8 : PySem.W.keepIn K (.ref f8) = true)
    (a9 : PySem.W.nsIn K mainGlobals "are_heights" = some (some (.ref f9))) (l9 : K.lookup f9 = some ⟨oc9, od9, .func (PySem.W.fnOf "are_heights" "are_heights" (defArgs s_are_heights) (defBody s_are_heights) (defScope s_are_heights) .none kV9 dc9 pm9 an9 cd9 ct9), sl9⟩) (c9 : PySem.W.codeIn K cd9 "are_heights" = true) (k9 : PySem.W.keepIn K (.ref f9) = true)
    (a10 : PySem.W.nsIn K mainGlobals "is_spot" = some (some (.ref f10))) (l10 : K.lookup f10 = some ⟨oc10, od10, .func (PySem.W.fnOf "is_spot" "is_spot" (defArgs s_is_spot) (defBody s_is_spot) (defScope s_is_spot) .none kV10 dc10 pm10 an10 cd10 ct10), sl10⟩) (c10 : PySem.W.codeIn K cd10 "is_spot" = true) (k10 : PySem.W.keepIn K (.ref f10) = true)
    (a11 : PySem.W.nsIn K mainGlobals "shows_reach" = some (some (.ref f11))) (l11 : K.lookup f11 = some ⟨oc11, od11, .func (PySem.W.fnOf "shows_reach" "shows_reach" (defArgs s_shows_reach) (defBody s_shows_reach) (defScope s_shows_reach) .none kV11 dc11 pm11 an11 cd11 ct11), sl11⟩) (c11 : PySem.W.codeIn K cd11 "shows_reach" = true) (k11 : PySem.W.keepIn K (.ref f11) = true)
    (a12 : PySem.W.nsIn K mainGlobals "_law_left" = some (some (.ref f12))) (l12 : K.lookup f12 = some ⟨oc12, od12, .func (PySem.W.fnOf "_law_left" "_law_left" (defArgs s__law_left) (defBody s__law_left) (defScope s__law_left) .none kV12 dc12 pm12 an12 cd12 ct12), sl12⟩) (c12 : PySem.W.codeIn K cd12 "_law_left" = true) (k12 : PySem.W.keepIn K (.ref f12) = true)
    (a13 : PySem.W.nsIn K mainGlobals "_law_pick" = some (some (.ref f13))) (l13 : K.lookup f13 = some ⟨oc13, od13, .func (PySem.W.fnOf "_law_pick" "_law_pick" (defArgs s__law_pick) (defBody s__law_pick) (defScope s__law_pick) .none kV13 dc13 pm13 an13 cd13 ct13), sl13⟩) (c13 : PySem.W.codeIn K cd13 "_law_pick" = true) (k13 : PySem.W.keepIn K (.ref f13) = true)
    (a14 : PySem.W.nsIn K mainGlobals "_law_mixed" = some (some (.ref f14))) (l14 : K.lookup f14 = some ⟨oc14, od14, .func (PySem.W.fnOf "_law_mixed" "_law_mixed" (defArgs s__law_mixed) (defBody s__law_mixed) (defScope s__law_mixed) .none kV14 dc14 pm14 an14 cd14 ct14), sl14⟩) (c14 : PySem.W.codeIn K cd14 "_law_mixed" = true) (k14 : PySem.W.keepIn K (.ref f14) = true)
    (a15 : PySem.W.nsIn K mainGlobals "_law_merger" = some (some (.ref f15))) (l15 : K.lookup f15 = some ⟨oc15, od15, .func (PySem.W.fnOf "_law_merger" "_law_merger" (defArgs s__law_merger) (defBody s__law_merger) (defScope s__law_merger) .none kV15 dc15 pm15 an15 cd15 ct15), sl15⟩) (c15 : PySem.W.codeIn K cd15 "_law_merger" = true) (k15 : PySem.W.keepIn K (.ref f15) = true)
    (a16 : PySem.W.nsIn K mainGlobals "_law_stairway" = some (some (.ref f16))) (l16 : K.lookup f16 = some ⟨oc16, od16, .func (PySem.W.fnOf "_law_stairway" "_law_stairway" (defArgs s__law_stairway) (defBody s__law_stairway) (defScope s__law_stairway) .none kV16 dc16 pm16 an16 cd16 ct16), sl16⟩) (c16 : PySem.W.codeIn K cd16 "_law_stairway" = true) (k16 : PySem.W.keepIn K (.ref f16) = true)
    (a17 : PySem.W.nsIn K mainGlobals "_law_block" = some (some (.ref f17))) (l17 : K.lookup f17 = some ⟨oc17, od17, .func (PySem.W.fnOf "_law_block" "_law_block" (defArgs s__law_block) (defBody s__law_block) (defScope s__law_block) .none kV17 dc17 pm17 an17 cd17 ct17), sl17⟩) (c17 : PySem.W.codeIn K cd17 "_law_block" = true) (k17 : PySem.W.keepIn K (.ref f17) = true)
    (a18 : PySem.W.nsIn K mainGlobals "_law_tree" = some (some (.ref f18))) (l18 : K.lookup f18 = some ⟨oc18, od18, .func (PySem.W.fnOf "_law_tree" "_law_tree" (defArgs s__law_tree) (defBody s__law_tree) (defScope s__law_tree) .none kV18 dc18 pm18 an18 cd18 ct18), sl18⟩) (c18 : PySem.W.codeIn K cd18 "_law_tree" = true) (k18 : PySem.W.keepIn K (.ref f18) = true)
    (a19 : PySem.W.nsIn K mainGlobals "_law_made" = some (some (.ref f19))) (l19 : K.lookup f19 = some ⟨oc19, od19, .func (PySem.W.fnOf "_law_made" "_law_made" (defArgs s__law_made) (defBody s__law_made) (defScope s__law_made) .none kV19 dc19 pm19 an19 cd19 ct19), sl19⟩) (c19 : PySem.W.codeIn K cd19 "_law_made" = true) (k19 : PySem.W.keepIn K (.ref f19) = true)
    (a20 : PySem.W.nsIn K mainGlobals "_law_any" = some (some (.ref f20))) (l20 : K.lookup f20 = some ⟨oc20, od20, .func (PySem.W.fnOf "_law_any" "_law_any" (defArgs s__law_any) (defBody s__law_any) (defScope s__law_any) .none kV20 dc20 pm20 an20 cd20 ct20), sl20⟩) (c20 : PySem.W.codeIn K cd20 "_law_any" = true) (k20 : PySem.W.keepIn K (.ref f20) = true)
    (a21 : PySem.W.nsIn K mainGlobals "_law_changed" = some (some (.ref f21))) (l21 : K.lookup f21 = some ⟨oc21, od21, .func (PySem.W.fnOf "_law_changed" "_law_changed" (defArgs s__law_changed) (defBody s__law_changed) (defScope s__law_changed) .none kV21 dc21 pm21 an21 cd21 ct21), sl21⟩) (c21 : PySem.W.codeIn K cd21 "_law_changed" = true) (k21 : PySem.W.keepIn K (.ref f21) = true)
    (a22 : PySem.W.nsIn K mainGlobals "_law_net" = some (some (.ref f22))) (l22 : K.lookup f22 = some ⟨oc22, od22, .func (PySem.W.fnOf "_law_net" "_law_net" (defArgs s__law_net) (defBody s__law_net) (defScope s__law_net) .none kV22 dc22 pm22 an22 cd22 ct22), sl22⟩) (c22 : PySem.W.codeIn K cd22 "_law_net" = true) (k22 : PySem.W.keepIn K (.ref f22) = true)
    (a23 : PySem.W.nsIn K mainGlobals "_law_some" = some (some (.ref f23))) (l23 : K.lookup f23 = some ⟨oc23, od23, .func (PySem.W.fnOf "_law_some" "_law_some" (defArgs s__law_some) (defBody s__law_some) (defScope s__law_some) .none kV23 dc23 pm23 an23 cd23 ct23), sl23⟩) (c23 : PySem.W.codeIn K cd23 "_law_some" = true) (k23 : PySem.W.keepIn K (.ref f23) = true)
    (a24 : PySem.W.nsIn K mainGlobals "_law_passed" = some (some (.ref f24))) (l24 : K.lookup f24 = some ⟨oc24, od24, .func (PySem.W.fnOf "_law_passed" "_law_passed" (defArgs s__law_passed) (defBody s__law_passed) (defScope s__law_passed) .none kV24 dc24 pm24 an24 cd24 ct24), sl24⟩) (c24 : PySem.W.codeIn K cd24 "_law_passed" = true) (k24 : PySem.W.keepIn K (.ref f24) = true)
    (a25 : PySem.W.nsIn K mainGlobals "_law_ends" = some (some (.ref f25))) (l25 : K.lookup f25 = some ⟨oc25, od25, .func (PySem.W.fnOf "_law_ends" "_law_ends" (defArgs s__law_ends) (defBody s__law_ends) (defScope s__law_ends) .none kV25 dc25 pm25 an25 cd25 ct25), sl25⟩) (c25 : PySem.W.codeIn K cd25 "_law_ends" = true) (k25 : PySem.W.keepIn K (.ref f25) = true)
    (a26 : PySem.W.nsIn K mainGlobals "_law_more" = some (some (.ref f26))) (l26 : K.lookup f26 = some ⟨oc26, od26, .func (PySem.W.fnOf "_law_more" "_law_more" (defArgs s__law_more) (defBody s__law_more) (defScope s__law_more) .none kV26 dc26 pm26 an26 cd26 ct26), sl26⟩) (c26 : PySem.W.codeIn K cd26 "_law_more" = true) (k26 : PySem.W.keepIn K (.ref f26) = true)
    (a27 : PySem.W.nsIn K mainGlobals "_law_even" = some (some (.ref f27))) (l27 : K.lookup f27 = some ⟨oc27, od27, .func (PySem.W.fnOf "_law_even" "_law_even" (defArgs s__law_even) (defBody s__law_even) (defScope s__law_even) .none kV27 dc27 pm27 an27 cd27 ct27), sl27⟩) (c27 : PySem.W.codeIn K cd27 "_law_even" = true) (k27 : PySem.W.keepIn K (.ref f27) = true)
    (a28 : PySem.W.nsIn K mainGlobals "_law_evened" = some (some (.ref f28))) (l28 : K.lookup f28 = some ⟨oc28, od28, .func (PySem.W.fnOf "_law_evened" "_law_evened" (defArgs s__law_evened) (defBody s__law_evened) (defScope s__law_evened) .none kV28 dc28 pm28 an28 cd28 ct28), sl28⟩) (c28 : PySem.W.codeIn K cd28 "_law_evened" = true) (k28 : PySem.W.keepIn K (.ref f28) = true)
    (a29 : PySem.W.nsIn K mainGlobals "_law_lowered" = some (some (.ref f29))) (l29 : K.lookup f29 = some ⟨oc29, od29, .func (PySem.W.fnOf "_law_lowered" "_law_lowered" (defArgs s__law_lowered) (defBody s__law_lowered) (defScope s__law_lowered) .none kV29 dc29 pm29 an29 cd29 ct29), sl29⟩) (c29 : PySem.W.codeIn K cd29 "_law_lowered" = true) (k29 : PySem.W.keepIn K (.ref f29) = true)
    (a30 : PySem.W.nsIn K mainGlobals "_law_all_places" = some (some (.ref f30))) (l30 : K.lookup f30 = some ⟨oc30, od30, .func (PySem.W.fnOf "_law_all_places" "_law_all_places" (defArgs s__law_all_places) (defBody s__law_all_places) (defScope s__law_all_places) .none kV30 dc30 pm30 an30 cd30 ct30), sl30⟩) (c30 : PySem.W.codeIn K cd30 "_law_all_places" = true) (k30 : PySem.W.keepIn K (.ref f30) = true)
    (a31 : PySem.W.nsIn K mainGlobals "_law_with" = some (some (.ref f31))) (l31 : K.lookup f31 = some ⟨oc31, od31, .func (PySem.W.fnOf "_law_with" "_law_with" (defArgs s__law_with) (defBody s__law_with) (defScope s__law_with) .none kV31 dc31 pm31 an31 cd31 ct31), sl31⟩) (c31 : PySem.W.codeIn K cd31 "_law_with" = true) (k31 : PySem.W.keepIn K (.ref f31) = true)
    (a32 : PySem.W.nsIn K mainGlobals "law" = some (some (.ref f32))) (l32 : K.lookup f32 = some ⟨oc32, od32, .func (PySem.W.fnOf "law" "law" (defArgs s_law) (defBody s_law) (defScope s_law) .none kV32 dc32 pm32 an32 cd32 ct32), sl32⟩) (c32 : PySem.W.codeIn K cd32 "law" = true) (k32 : PySem.W.keepIn K (.ref f32) = true)
    (z_abs : PySem.W.nsIn K mainGlobals "abs" = some none)
    (z_all : PySem.W.nsIn K mainGlobals "all" = some none)
    (z_bool : PySem.W.nsIn K mainGlobals "bool" = some none)
    (z_dict : PySem.W.nsIn K mainGlobals "dict" = some none)
    (z_enumerate : PySem.W.nsIn K mainGlobals "enumerate" = some none)
    (z_int : PySem.W.nsIn K mainGlobals "int" = some none)
    (z_isinstance : PySem.W.nsIn K mainGlobals "isinstance" = some none)
    (z_len : PySem.W.nsIn K mainGlobals "len" = some none)
    (z_list : PySem.W.nsIn K mainGlobals "list" = some none)
    (z_max : PySem.W.nsIn K mainGlobals "max" = some none)
    (z_min : PySem.W.nsIn K mainGlobals "min" = some none)
    (z_range : PySem.W.nsIn K mainGlobals "range" = some none)
    (z_repr : PySem.W.nsIn K mainGlobals "repr" = some none)
    (z_set : PySem.W.nsIn K mainGlobals "set" = some none)
    (z_tuple : PySem.W.nsIn K mainGlobals "tuple" = some none)
    (z_zip : PySem.W.nsIn K mainGlobals "zip" = some none)
    : ∃ fd : FuncData, (∀ (s : Shared) (v : Value), BindsTo s fd ⟨[v], []⟩ [("_law_script", v)]) ∧ ∀ base : Heap, K.In base → base.Ns mainGlobals mg → FnOkG l.prog w K mg base (n + 6) fa fd ["_law_script"] (spF K 1 (f_law n)) := by
  have e := hfa.symm.trans (PySem.W.mg_of X G a32)
  have e2 : f32 = fa := by cases e; rfl
  subst e2
  have F1 := fun_mk (st := s_passed) l1 c1 k1
  have b1 := F1.binds (ps := ["net", "turns", "lane"]) fun _ _ _ _ _ _ us hl => match us, hl with | [_, _, _], _ => rfl
  have F2 := fun_mk (st := s_with_one) l2 c2 k2
  have b2 := F2.binds (ps := ["counts", "at"]) fun _ _ _ _ _ _ us hl => match us, hl with | [_, _], _ => rfl
  have F3 := fun_mk (st := s_first_turns) l3 c3 k3
  have b3 := F3.binds (ps := ["net"]) fun _ _ _ _ _ _ us hl => match us, hl with | [_], _ => rfl
  have F4 := fun_mk (st := s_lowered) l4 c4 k4
  have b4 := F4.binds (ps := ["heights"]) fun _ _ _ _ _ _ us hl => match us, hl with | [_], _ => rfl
  have F5 := fun_mk (st := s_places_behind) l5 c5 k5
  have b5 := F5.binds (ps := ["net", "some", "place"]) fun _ _ _ _ _ _ us hl => match us, hl with | [_, _, _], _ => rfl
  have F6 := fun_mk (st := s_first_place) l6 c6 k6
  have b6 := F6.binds (ps := ["net"]) fun _ _ _ _ _ _ us hl => match us, hl with | [_], _ => rfl
  have F7 := fun_mk (st := s_is_whole) l7 c7 k7
  have b7 := F7.binds (ps := ["thing", "least"]) fun _ _ _ _ _ _ us hl => match us, hl with | [_, _], _ => rfl
  have F8 := fun_mk (st := s_are_turns) l8 c8 k8
  have b8 := F8.binds (ps := ["net", "thing"]) fun _ _ _ _ _ _ us hl => match us, hl with | [_, _], _ => rfl
  have F9 := fun_mk (st := s_are_heights) l9 c9 k9
  have b9 := F9.binds (ps := ["net", "thing"]) fun _ _ _ _ _ _ us hl => match us, hl with | [_, _], _ => rfl
  have F10 := fun_mk (st := s_is_spot) l10 c10 k10
  have b10 := F10.binds (ps := ["net", "thing"]) fun _ _ _ _ _ _ us hl => match us, hl with | [_, _], _ => rfl
  have F11 := fun_mk (st := s_shows_reach) l11 c11 k11
  have b11 := F11.binds (ps := ["net", "some", "far", "thing"]) fun _ _ _ _ _ _ us hl => match us, hl with | [_, _, _, _], _ => rfl
  have F12 := fun_mk (st := s__law_left) l12 c12 k12
  have b12 := F12.binds (ps := ["_law_script", "_law_k"]) fun _ _ _ _ _ _ us hl => match us, hl with | [_, _], _ => rfl
  have F13 := fun_mk (st := s__law_pick) l13 c13 k13
  have b13 := F13.binds (ps := ["_law_left_here", "_law_many"]) fun _ _ _ _ _ _ us hl => match us, hl with | [_, _], _ => rfl
  have F14 := fun_mk (st := s__law_mixed) l14 c14 k14
  have b14 := F14.binds (ps := ["_law_left_here", "_law_row"]) fun _ _ _ _ _ _ us hl => match us, hl with | [_, _], _ => rfl
  have F15 := fun_mk (st := s__law_merger) l15 c15 k15
  have b15 := F15.binds (ps := ["_law_one", "_law_other"]) fun _ _ _ _ _ _ us hl => match us, hl with | [_, _], _ => rfl
  have F16 := fun_mk (st := s__law_stairway) l16 c16 k16
  have b16 := F16.binds (ps := ["_law_row"]) fun _ _ _ _ _ _ us hl => match us, hl with | [_], _ => rfl
  have F17 := fun_mk (st := s__law_block) l17 c17 k17
  have b17 := F17.binds (ps := ["_law_row"]) fun _ _ _ _ _ _ us hl => match us, hl with | [_], _ => rfl
  have F18 := fun_mk (st := s__law_tree) l18 c18 k18
  have b18 := F18.binds (ps := ["_law_row"]) fun _ _ _ _ _ _ us hl => match us, hl with | [_], _ => rfl
  have F19 := fun_mk (st := s__law_made) l19 c19 k19
  have b19 := F19.binds (ps := ["_law_way", "_law_k"]) fun _ _ _ _ _ _ us hl => match us, hl with | [_, _], _ => rfl
  have F20 := fun_mk (st := s__law_any) l20 c20 k20
  have b20 := F20.binds (ps := ["_law_left_here"]) fun _ _ _ _ _ _ us hl => match us, hl with | [_], _ => rfl
  have F21 := fun_mk (st := s__law_changed) l21 c21 k21
  have b21 := F21.binds (ps := ["_law_left_here", "_law_net_here"]) fun _ _ _ _ _ _ us hl => match us, hl with | [_, _], _ => rfl
  have F22 := fun_mk (st := s__law_net) l22 c22 k22
  have b22 := F22.binds (ps := ["_law_left_here"]) fun _ _ _ _ _ _ us hl => match us, hl with | [_], _ => rfl
  have F23 := fun_mk (st := s__law_some) l23 c23 k23
  have b23 := F23.binds (ps := ["_law_left_here", "_law_net_here"]) fun _ _ _ _ _ _ us hl => match us, hl with | [_, _], _ => rfl
  have F24 := fun_mk (st := s__law_passed) l24 c24 k24
  have b24 := F24.binds (ps := ["_law_net_here", "_law_turns", "_law_lane"]) fun _ _ _ _ _ _ us hl => match us, hl with | [_, _, _], _ => rfl
  have F25 := fun_mk (st := s__law_ends) l25 c25 k25
  have b25 := F25.binds (ps := ["_law_net_here", "_law_counts"]) fun _ _ _ _ _ _ us hl => match us, hl with | [_, _], _ => rfl
  have F26 := fun_mk (st := s__law_more) l26 c26 k26
  have b26 := F26.binds (ps := ["_law_counts", "_law_lane"]) fun _ _ _ _ _ _ us hl => match us, hl with | [_, _], _ => rfl
  have F27 := fun_mk (st := s__law_even) l27 c27 k27
  have b27 := F27.binds (ps := ["_law_net_here", "_law_some_here"]) fun _ _ _ _ _ _ us hl => match us, hl with | [_, _], _ => rfl
  have F28 := fun_mk (st := s__law_evened) l28 c28 k28
  have b28 := F28.binds (ps := ["_law_left_here"]) fun _ _ _ _ _ _ us hl => match us, hl with | [_], _ => rfl
  have F29 := fun_mk (st := s__law_lowered) l29 c29 k29
  have b29 := F29.binds (ps := ["_law_heights"]) fun _ _ _ _ _ _ us hl => match us, hl with | [_], _ => rfl
  have F30 := fun_mk (st := s__law_all_places) l30 c30 k30
  have b30 := F30.binds (ps := ["_law_net_here", "_law_some_here", "_law_most"]) fun _ _ _ _ _ _ us hl => match us, hl with | [_, _, _], _ => rfl
  have F31 := fun_mk (st := s__law_with) l31 c31 k31
  have b31 := F31.binds (ps := ["_law_left_here", "_law_net_here", "_law_some_here", "_law_places"]) fun _ _ _ _ _ _ us hl => match us, hl with | [_, _, _, _], _ => rfl
  have F32 := fun_mk (st := s_law) l32 c32 k32
  have b32 := F32.binds (ps := ["_law_script"]) fun _ _ _ _ _ _ us hl => match us, hl with | [_], _ => rfl
  let T : Txt K mg := { a_passed := f1, d_passed := _, F_passed := F1, g_passed := PySem.W.mg_of X G a1, b_passed := b1, a_with_one := f2, d_with_one := _, F_with_one := F2, g_with_one := PySem.W.mg_of X G a2, b_with_one := b2, a_first_turns := f3, d_first_turns := _, F_first_turns := F3, g_first_turns := PySem.W.mg_of X G a3, b_first_turns := b3, a_lowered := f4, d_lowered := _, F_lowered := F4, g_lowered := PySem.W.mg_of X G a4, b_lowered := b4, a_places_behind := f5, d_places_behind := _, F_places_behind := F5, g_places_behind := PySem.W.mg_of X G a5, b_places_behind := b5, a_first_place := f6, d_first_place := _, F_first_place := F6, g_first_place := PySem.W.mg_of X G a6, b_first_place := b6, a_is_whole := f7, d_is_whole := _, F_is_whole := F7, g_is_whole := PySem.W.mg_of X G a7, b_is_whole := b7, a_are_turns := f8, d_are_turns := _, F_are_turns := F8, g_are_turns := PySem.W.mg_of X G a8, b_are_turns := b8, a_are_heights := f9, d_are_heights := _, F_are_heights := F9, g_are_heights := PySem.W.mg_of X G a9, b_are_heights := b9, a_is_spot := f10, d_is_spot := _, F_is_spot := F10, g_is_spot := PySem.W.mg_of X G a10, b_is_spot := b10, a_shows_reach := f11, d_shows_reach := _, F_shows_reach := F11, g_shows_reach := PySem.W.mg_of X G a11, b_shows_reach := b11, a__law_left := f12, d__law_left := _, F__law_left := F12, g__law_left := PySem.W.mg_of X G a12, b__law_left := b12, a__law_pick := f13, d__law_pick := _, F__law_pick := F13, g__law_pick := PySem.W.mg_of X G a13, b__law_pick := b13, a__law_mixed := f14, d__law_mixed := _, F__law_mixed := F14, g__law_mixed := PySem.W.mg_of X G a14, b__law_mixed := b14, a__law_merger := f15, d__law_merger := _, F__law_merger := F15, g__law_merger := PySem.W.mg_of X G a15, b__law_merger := b15, a__law_stairway := f16, d__law_stairway := _, F__law_stairway := F16, g__law_stairway := PySem.W.mg_of X G a16, b__law_stairway := b16, a__law_block := f17, d__law_block := _, F__law_block := F17, g__law_block := PySem.W.mg_of X G a17, b__law_block := b17, a__law_tree := f18, d__law_tree := _, F__law_tree := F18, g__law_tree := PySem.W.mg_of X G a18, b__law_tree := b18, a__law_made := f19, d__law_made := _, F__law_made := F19, g__law_made := PySem.W.mg_of X G a19, b__law_made := b19, a__law_any := f20, d__law_any := _, F__law_any := F20, g__law_any := PySem.W.mg_of X G a20, b__law_any := b20, a__law_changed := f21, d__law_changed := _, F__law_changed := F21, g__law_changed := PySem.W.mg_of X G a21, b__law_changed := b21, a__law_net := f22, d__law_net := _, F__law_net := F22, g__law_net := PySem.W.mg_of X G a22, b__law_net := b22, a__law_some := f23, d__law_some := _, F__law_some := F23, g__law_some := PySem.W.mg_of X G a23, b__law_some := b23, a__law_passed := f24, d__law_passed := _, F__law_passed := F24, g__law_passed := PySem.W.mg_of X G a24, b__law_passed := b24, a__law_ends := f25, d__law_ends := _, F__law_ends := F25, g__law_ends := PySem.W.mg_of X G a25, b__law_ends := b25, a__law_more := f26, d__law_more := _, F__law_more := F26, g__law_more := PySem.W.mg_of X G a26, b__law_more := b26, a__law_even := f27, d__law_even := _, F__law_even := F27, g__law_even := PySem.W.mg_of X G a27, b__law_even := b27, a__law_evened := f28, d__law_evened := _, F__law_evened := F28, g__law_evened := PySem.W.mg_of X G a28, b__law_evened := b28, a__law_lowered := f29, d__law_lowered := _, F__law_lowered := F29, g__law_lowered := PySem.W.mg_of X G a29, b__law_lowered := b29, a__law_all_places := f30, d__law_all_places := _, F__law_all_places := F30, g__law_all_places := PySem.W.mg_of X G a30, b__law_all_places := b30, a__law_with := f31, d__law_with := _, F__law_with := F31, g__law_with := PySem.W.mg_of X G a31, b__law_with := b31, a_law := f32, d_law := _, F_law := F32, g_law := PySem.W.mg_of X G a32, b_law := b32, z_abs := PySem.W.mg_none_of X G z_abs, z_all := PySem.W.mg_none_of X G z_all, z_bool := PySem.W.mg_none_of X G z_bool, z_dict := PySem.W.mg_none_of X G z_dict, z_enumerate := PySem.W.mg_none_of X G z_enumerate, z_int := PySem.W.mg_none_of X G z_int, z_isinstance := PySem.W.mg_none_of X G z_isinstance, z_len := PySem.W.mg_none_of X G z_len, z_list := PySem.W.mg_none_of X G z_list, z_max := PySem.W.mg_none_of X G z_max, z_min := PySem.W.mg_none_of X G z_min, z_range := PySem.W.mg_none_of X G z_range, z_repr := PySem.W.mg_none_of X G z_repr, z_set := PySem.W.mg_none_of X G z_set, z_tuple := PySem.W.mg_none_of X G z_tuple, z_zip := PySem.W.mg_none_of X G z_zip }
  exact ⟨PySem.W.fnOf "law" "law" (defArgs s_law) (defBody s_law) (defScope s_law) .none kV32 dc32 pm32 an32 cd32 ct32, fun s v => .of_eq rfl, fun base _ _ => (ok_law n T)⟩
end Sim

open PySem PySem.W PyProof.Rows in
set_option maxRecDepth 100000 in
set_option maxHeartbeats 0 in
theorem PySem.Challenge.cw_stairlanes_k45_places_taken_holds : PySem.Challenge.rw_stairlanes_k45_places_taken.Holds := by
  w_on; o_law; k_head; (case hw => w_witness2)
  k_fill
  refine Sim.walk_ofG (l := PySem.Challenge.rw_stairlanes_k45_places_taken) (n := 63) (k := (64 + 6)) (x := "_law_script") (sp := fun K => Sim.spF K 1 (Sim.f_law 64)) rfl (by decide) rfl ⟨rfl, by decide, by decide⟩ (fun w h Y => PySem.W.kIn_of Y) ?F (fun K H a ns h1 h2 h3 => Sim.spF_law Sim.law_holds K H a ns h1 h2 h3)
  case F =>
    intro w mg fa h KX G hmg
    refine' Sim.all_mk 64 KX G hmg ?a1 ?l1 ?c1 ?k1 ?a2 ?l2 ?c2 ?k2 ?a3 ?l3 ?c3 ?k3 ?a4 ?l4 ?c4 ?k4 ?a5 ?l5 ?c5 ?k5 ?a6 ?l6 ?c6 ?k6 ?a7 ?l7 ?c7 ?k7 ?a8 ?l8 ?c8 ?k8 ?a9 ?l9 ?c9 ?k9 ?a10 ?l10 ?c10 ?k10 ?a11 ?l11 ?c11 ?k11 ?a12 ?l12 ?c12 ?k12 ?a13 ?l13 ?c13 ?k13 ?a14 ?l14 ?c14 ?k14 ?a15 ?l15 ?c15 ?k15 ?a16 ?l16 ?c16 ?k16 ?a17 ?l17 ?c17 ?k17 ?a18 ?l18 ?c18 ?k18 ?a19 ?l19 ?c19 ?k19 ?a20 ?l20 ?c20 ?k20 ?a21 ?l21 ?c21 ?k21 ?a22 ?l22 ?c22 ?k22 ?a23 ?l23 ?c23 ?k23 ?a24 ?l24 ?c24 ?k24 ?a25 ?l25 ?c25 ?k25 ?a26 ?l26 ?c26 ?k26 ?a27 ?l27 ?c27 ?k27 ?a28 ?l28 ?c28 ?k28 ?a29 ?l29 ?c29 ?k29 ?a30 ?l30 ?c30 ?k30 ?a31 ?l31 ?c31 ?k31 ?a32 ?l32 ?c32 ?k32 ?z_abs ?z_all ?z_bool ?z_dict ?z_enumerate ?z_int ?z_isinstance ?z_len ?z_list ?z_max ?z_min ?z_range ?z_repr ?z_set ?z_tuple ?z_zip
    (case a1 => k_is); (case l1 => k_is); (case c1 => k_is); (case k1 => k_is); (case a2 => k_is); (case l2 => k_is); (case c2 => k_is); (case k2 => k_is); (case a3 => k_is); (case l3 => k_is); (case c3 => k_is); (case k3 => k_is); (case a4 => k_is); (case l4 => k_is); (case c4 => k_is); (case k4 => k_is); (case a5 => k_is); (case l5 => k_is); (case c5 => k_is); (case k5 => k_is); (case a6 => k_is); (case l6 => k_is); (case c6 => k_is); (case k6 => k_is); (case a7 => k_is); (case l7 => k_is); (case c7 => k_is); (case k7 => k_is); (case a8 => k_is); (case l8 => k_is); (case c8 => k_is); (case k8 => k_is); (case a9 => k_is); (case l9 => k_is); (case c9 => k_is); (case k9 => k_is); (case a10 => k_is); (case l10 => k_is); (case c10 => k_is); (case k10 => k_is); (case a11 => k_is); (case l11 => k_is); (case c11 => k_is); (case k11 => k_is); (case a12 => k_is); (case l12 => k_is); (case c12 => k_is); (case k12 => k_is); (case a13 => k_is); (case l13 => k_is); (case c13 => k_is); (case k13 => k_is); (case a14 => k_is); (case l14 => k_is); (case c14 => k_is); (case k14 => k_is); (case a15 => k_is); (case l15 => k_is); (case c15 => k_is); (case k15 => k_is); (case a16 => k_is); (case l16 => k_is); (case c16 => k_is); (case k16 => k_is); (case a17 => k_is); (case l17 => k_is); (case c17 => k_is); (case k17 => k_is); (case a18 => k_is); (case l18 => k_is); (case c18 => k_is); (case k18 => k_is); (case a19 => k_is); (case l19 => k_is); (case c19 => k_is); (case k19 => k_is); (case a20 => k_is); (case l20 => k_is); (case c20 => k_is); (case k20 => k_is); (case a21 => k_is); (case l21 => k_is); (case c21 => k_is); (case k21 => k_is); (case a22 => k_is); (case l22 => k_is); (case c22 => k_is); (case k22 => k_is); (case a23 => k_is); (case l23 => k_is); (case c23 => k_is); (case k23 => k_is); (case a24 => k_is); (case l24 => k_is); (case c24 => k_is); (case k24 => k_is); (case a25 => k_is); (case l25 => k_is); (case c25 => k_is); (case k25 => k_is); (case a26 => k_is); (case l26 => k_is); (case c26 => k_is); (case k26 => k_is); (case a27 => k_is); (case l27 => k_is); (case c27 => k_is); (case k27 => k_is); (case a28 => k_is); (case l28 => k_is); (case c28 => k_is); (case k28 => k_is); (case a29 => k_is); (case l29 => k_is); (case c29 => k_is); (case k29 => k_is); (case a30 => k_is); (case l30 => k_is); (case c30 => k_is); (case k30 => k_is); (case a31 => k_is); (case l31 => k_is); (case c31 => k_is); (case k31 => k_is); (case a32 => k_is); (case l32 => k_is); (case c32 => k_is); (case k32 => k_is); (case z_abs => k_is); (case z_all => k_is); (case z_bool => k_is); (case z_dict => k_is); (case z_enumerate => k_is); (case z_int => k_is); (case z_isinstance => k_is); (case z_len => k_is); (case z_list => k_is); (case z_max => k_is); (case z_min => k_is); (case z_range => k_is); (case z_repr => k_is); (case z_set => k_is); (case z_tuple => k_is); (case z_zip => k_is)
