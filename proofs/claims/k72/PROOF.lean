import PyProof.Rows.All
import Wide.All
import OpenK.AllK
import Wide.FinOn
import HandS.ForMost
import HandS.TupAny
import HandS.TupMul
import HandS.Wide
import HandS.WideBits
import KE.KDictKeyed
import KE.KeyNested
import HandS.TupLe
import HandS.IsInst
import HandS.Deep
import HandS.SortInts
import HandS.NoneIn
import HandS.Walk
import HandS.Zip
import KE.GoesEnum
import KE.KTupSum
import PyProof.MinMaxWalk
import KE.KEqSeq
import HandS.Conv
import HandS.Style
import PyProof.Rows.SortShell
import PyProof.SeqIndex
import HandS.More
import PyProof.EqAt
import KE.KIntText
import KE.GoesZip
import KE.KDictZip
import KE.LtSeq
import KE.KSortTup
import HandS.SortRule
import HandS.ExcValue
import PyProof.ListNew
import HandS.SetFor
import PyProof.ReprLen
import HandS.Iter
import HandS.Dict
import KE.DataMinMax
import KE.KDictWalk
import KE.KDictPairs
import PyProof.Rows.SeqRoads
import PyProof.Rows.SeqItemCall
import KE.KDictSum
import KE.KDictItemsList
import PyProof.DictItems
import KE.KDictCopyH
import KE.KEqDict
import KE.KDictDisplayH
import KE.DataCmp
import HandS.WordsDict
import PyProof.DictUpdate
import HandS.RaiseMore
import PyProof.CallStr
import PyProof.FString2
import KE.BitLaws
import PySem.Challenge.RW_stairlanes_k72_bars_of_anything
set_option Elab.async false
set_option linter.all false
set_option maxRecDepth 100000
set_option autoImplicit false
set_option maxHeartbeats 4000000
set_option exponentiation.threshold 20000
namespace Sim
open PySem PySem.Spec L2
open AutoSeq1 (wpAny_loadPart')
def SqD (K : PySem.W.Frag) (H : Hp) (a : Addr) (xs : List V) : Prop :=
  (∃ o : Obj, H a = some (.frz o (.tup xs)) ∧ o.dict = none) ∨
    ∃ (o : Obj) (its : Array Value) (n : Nat), K.lookup a = some o ∧ o.cls = .type "tuple" ∧ o.dict = none ∧ o.data = .seq its n ∧ its.size ≤ sizeLine ∧ Vals xs its.toList
theorem SqD.sq {K : PySem.W.Frag} {H : Hp} {a : Addr} {xs : List V} (h : SqD K H a xs) : SqT K H a xs := by
  rcases h with ⟨o, h, _⟩ | ⟨o, its, n, h1, h2, _, h3, h4, h5⟩
  · exact .inl (.inr ⟨o, h⟩)
  · exact .inr ⟨o, its, n, h1, h2, h3, h4, h5⟩
theorem SqD.of {K : PySem.W.Frag} {H : Hp} {a : Addr} {o : Obj} {xs : List V} (h : H a = some (.frz o (.tup xs))) (n : o.dict = none) : SqD K H a xs := .inl ⟨o, h, n⟩
/-- a new tuple -/
def rNewT (xs : List V) (H : Hp) (Q : VK) : Prop := ∀ p o, H p = none → o.dict = none → Q (.ref p) (upd H p (.frz o (.tup xs)))
section
variable {X : Cx} {pins : List (Addr × Obj)} {σ : St} {H : Hp} {s : Shared} {xs : List V} {its : List Value} {Q : VK}
theorem lay_tup {t' : Nat} (I : Inv X pins σ H s) (r : Vals xs its) (z : xs.length ≤ sizeLine) (q : rNewT xs H Q) :
    EP X pins σ Q (.ref s.heap.objs.size) { s with heap := s.heap.push { cls := .type "tuple", data := .seq its.toArray }, toks := t' } := by
  have e : (s.heap.push { cls := .type "tuple", data := .seq its.toArray }).get? s.heap.objs.size = some { cls := .type "tuple", data := .seq its.toArray } := Heap.get?_push_size _ rfl
  refine ⟨.ref s.heap.objs.size, _, I.laid (t' := t') (o := .frz { cls := .type "tuple", data := .seq its.toArray } (.tup xs)) (fun b ob q => Heap.get?_push_of_some _ q) (Nat.le_refl _) ⟨e, z, its, r, ⟨_, e, rfl, _, rfl⟩⟩, rfl, q _ _ (I.hok.fresh (Nat.le_refl _)) rfl⟩
def tTupD (t : TA) : TE := fun σ H Q => t σ H fun xs H1 => xs.length ≤ sizeLine ∧ rNewT xs H1 Q
theorem pe_tupD {es : List Expr} {t : TA} {pos : Pos} {x1 : Nat} (h : PA X es t) : PE X (.Tuple es x1 pos) (tTupD t) := by
  refine ⟨fun pins s σ H Q I hq => ?_⟩
  exact wpAny_Tuple_spliced (thn (h.run pos pins s σ H _ I hq) fun us s1 ⟨xs, H1, I1, r, z, q⟩ => ⟨by rw [← r.length]; exact z, lay_tup (t' := s1.toks) I1 r z q⟩)
theorem call_tuple_ofD : CallR X (.type "tuple") (fun xs H Q => ∃ p ys, xs = [.ref p] ∧ ((SqL X.K H p ys ∧ rNewT ys H Q) ∨ (SqT X.K H p ys ∧ Q (.ref p) H))) := by
  intro pins s σ H xs us Q I r h
  obtain ⟨p, ys, rfl, h⟩ := h
  obtain ⟨u, rfl, rx⟩ := vals1 r
  cases rx
  rcases h with ⟨hq, q⟩ | ⟨hq, q⟩
  · obtain ⟨its, r', pl, hz⟩ := I.list hq
    have hlen := r'.length
    refine call_tuple_list pl.isList (fun h' kp => ?_) (by simp only [List.size_toArray] <;> omega)
    have I1 : Inv X pins σ H { s with heap := h' } := I.kept (t' := s.toks) kp
    exact lay_tup (t' := s.toks) I1 r' hz q
  · obtain ⟨its, r', pl, hz⟩ := I.tuple hq
    exact call_tuple_same pl ⟨.ref p, H, I, rfl, q⟩
def rSlD (K : PySem.W.Frag) : V → Option Int → Option Int → Hp → VK → Prop := fun x lo hi H Q => ∃ a xs, x = .ref a ∧ SqT K H a xs ∧
  (HT.sIx xs.length 0 lo = 0 ∧ HT.sIx xs.length xs.length hi = xs.length → Q (.ref a) H) ∧ (¬ (HT.sIx xs.length 0 lo = 0 ∧ HT.sIx xs.length xs.length hi = xs.length) → rNewT (cutV xs lo hi) H Q)
theorem sl_tupD : SlR X (rSlD X.K) := by
  intro pins s σ H x v vl vu lo hi sl Q I rx hs pl pu h
  obtain ⟨a, xs, rfl, hx, q1, q2⟩ := h
  cases rx
  obtain ⟨its, r, ht, hz⟩ := I.tuple hx
  have hlen : its.toArray.size = xs.length := by rw [List.size_toArray]; exact r.length.symm
  refine ⟨"tuple", _, PyProof.Rows.slot_tuple_getitem.lookup, ht.typeIs, ?_⟩
  by_cases hw : HT.sIx xs.length 0 lo = 0 ∧ HT.sIx xs.length xs.length hi = xs.length
  · exact getItem_tuple_whole ht hs pl pu (by rw [hlen]; exact hw) ⟨.ref a, H, I, rfl, q1 hw⟩
  · refine HT.getItem_tuple_cut ht hs pl pu (by rw [hlen]; exact hw) ?_ (by rw [hlen]; exact hz)
    rw [hlen]
    exact lay_tup (t' := s.toks) I ((r.drop (HT.sIx xs.length 0 lo)).take (HT.sIx xs.length xs.length hi - HT.sIx xs.length 0 lo)) (Nat.le_trans (cutV_length xs lo hi) hz) (q2 hw)
def rCatD (K : PySem.W.Frag) : R2 := fun x y H Q => ∃ a b xs ys, x = .ref a ∧ y = .ref b ∧ SqT K H a xs ∧ SqT K H b ys ∧ xs.length + ys.length ≤ sizeLine ∧
  (xs = [] → Q (.ref b) H) ∧ (xs ≠ [] → ys = [] → Q (.ref a) H) ∧ (xs ≠ [] → ys ≠ [] → rNewT (xs ++ ys) H Q)
theorem op_catD : OpR X (binaryOp .Add) (rCatD X.K) := by
  intro pins s σ H x y v u Q I rx ry h
  obtain ⟨a, b, xs, ys, rfl, rfl, ha, hb, hz, q0, q1, q2⟩ := h
  cases rx
  cases ry
  obtain ⟨its, r1, p1, _⟩ := I.tuple ha
  obtain ⟨its2, r2, p2, _⟩ := I.tuple hb
  by_cases hx : xs = []
  · subst hx
    cases r1
    exact cat_tup0 p1 p2 ⟨.ref b, H, I, rfl, q0 rfl⟩
  · refine HT.cat_tup p1 p2 (fun z => hx (r1.nil_iff.mp z)) (fun z => ⟨.ref a, H, I, rfl, q1 hx (r2.nil_iff.mp z)⟩) (fun z => ?_) (by rw [← r1.length, ← r2.length]; exact hz)
    exact lay_tup (t' := s.toks) I (r1.append r2) (by rw [List.length_append]; exact hz) (q2 hx fun w => z (r2.nil_iff.mpr w))
theorem tuple_mulS (l : Addr) (items : Array Value) (n : Nat) (dd : Option Addr) (sl : Array (Option Value)) (x : Int) (u : Tok) (c0 : (decide (x < -(2 ^ 63)) || decide (x ≥ 2 ^ 63)) = false) (c1 : (items.isEmpty || x == 1) = true) :
    Meets (Builtin.«tuple.__mul__» ⟨[.ref l, .int x u], []⟩) (fun _ R s => s.heap.get? l = some { cls := .type "tuple", dict := dd, data := .seq items n, slots := sl } ∧ R (.ok (.ret (Value.ref l))) s) :=
  .of_wp fun prog w A R s h => by
    obtain ⟨hp, g, d, tk, os⟩ := s
    obtain ⟨hl, h⟩ := h
    have f1 := AutoSeq1.idx_int
    wp_walk using wpAny_loadPart' hl
    repeat (first
      | (refine wpAny_ite_false (decide_eq_false (by rw [c0]; exact Bool.false_ne_true)) ?_; wp_walk using wpAny_loadPart' hl)
      | (refine wpAny_ite_true (decide_eq_true (by rw [c1])) ?_; wp_walk using wpAny_loadPart' hl))
    exact ⟨_, rfl, h⟩
theorem tuple_mul0 (l : Addr) (items : Array Value) (n : Nat) (dd : Option Addr) (sl : Array (Option Value)) (x : Int) (u : Tok) (c0 : (decide (x < -(2 ^ 63)) || decide (x ≥ 2 ^ 63)) = false) (c1 : (items.isEmpty || x == 1) = false) (c2 : (decide (x ≤ 0) || items.isEmpty) = true) :
    Meets (Builtin.«tuple.__mul__» ⟨[.ref l, .int x u], []⟩) (fun _ R s => s.heap.get? l = some { cls := .type "tuple", dict := dd, data := .seq items n, slots := sl } ∧
      R (.ok (.ret (Value.ref s.heap.objs.size))) { s with heap := s.heap.push { cls := Value.type "tuple", data := Data.seq #[] }, toks := s.toks }) :=
  .of_wp fun prog w A R s h => by
    obtain ⟨hp, g, d, tk, os⟩ := s
    obtain ⟨hl, h⟩ := h
    have f1 := AutoSeq1.idx_int
    wp_walk using wpAny_loadPart' hl
    repeat (first
      | (refine wpAny_ite_false (decide_eq_false (by rw [c0]; exact Bool.false_ne_true)) ?_; wp_walk using wpAny_loadPart' hl)
      | (refine wpAny_ite_false (decide_eq_false (by rw [c1]; exact Bool.false_ne_true)) ?_; wp_walk using wpAny_loadPart' hl)
      | (refine wpAny_ite_true (decide_eq_true (by rw [c2])) ?_; wp_walk using wpAny_loadPart' hl)
      | (refine wpAny_ite_false (decide_eq_false (by decide)) ?_; wp_walk using wpAny_loadPart' hl))
    exact ⟨_, rfl, h⟩
def rRepD (K : PySem.W.Frag) : R2 := fun x y H Q => ∃ l k xs, x = .ref l ∧ y = .int k ∧ SqT K H l xs ∧ -1000 ≤ k ∧ k ≤ 1000 ∧ xs.length ≤ 1000 ∧
  (xs = [] ∨ k = 1 → Q (.ref l) H) ∧ (xs ≠ [] → k ≠ 1 → rNewT (List.replicate k.toNat xs).flatten H Q)
theorem op_repD : OpR X (binaryOp .Mult) (rRepD X.K) := by
  intro pins s σ H x y v u Q I rx ry h
  obtain ⟨l, k, xs, rfl, rfl, hT, h1, h2, hz, q1, q2⟩ := h
  cases rx
  obtain ⟨t, rfl⟩ := ry
  obtain ⟨its, r, ⟨⟨cls, dd, data, sl⟩, ho, hc, n, hd⟩, hs⟩ := I.tuple hT
  simp only at hc hd
  subst hc hd
  have hle : its.length = xs.length := r.length.symm
  have hsz0 : its.toArray.size = xs.length := by rw [List.size_toArray, hle]
  have hm : ((its.toArray.size : Nat) : Int) * k ≤ 1000000 := by
    rw [hsz0]
    rcases Int.lt_or_le k 0 with hk | hk
    · have : ((xs.length : Nat) : Int) * k ≤ 0 := Int.mul_nonpos_of_nonneg_of_nonpos (by omega) (by omega)
      omega
    · have a1 : ((xs.length : Nat) : Int) * k ≤ 1000 * k := Int.mul_le_mul_of_nonneg_right (by omega) (by omega)
      omega
  have flen : (List.replicate k.toNat its).flatten.length ≤ 1000000 := by
    rw [PyProof.Rows.lm_len_rep_flat, hle]
    have a1 : k.toNat * xs.length ≤ 1000 * 1000 := Nat.mul_le_mul (by omega) hz
    omega
  have flen2 : (List.replicate k.toNat xs).flatten.length ≤ sizeLine := by
    rw [PyProof.Rows.lm_len_rep_flat, sizeLine_eq]
    have a1 : k.toNat * xs.length ≤ 1000 * 1000 := Nat.mul_le_mul (by omega) hz
    omega
  have c0 : (decide (k < -(2 ^ 63)) || decide (k ≥ 2 ^ 63)) = false := by
    rw [decide_eq_false (by omega), decide_eq_false (by omega)] <;> rfl
  have go : ∀ {Q' : Value → Shared → Prop}, wpAny (model X.prog X.w) (X.A) (call (.builtin "tuple.__mul__") [.ref l, .int k t]) Q' X.xe s → wpAny (model X.prog X.w) X.A (binaryOp .Mult (.ref l) (.int k t)) Q' X.xe s := fun {Q'} z =>
    wpAny_binaryOp_repeat_ref (T := "tuple") (U := "int") (by decide) ⟨_, ho, rfl⟩ (fun s' => typeIs_int s' k t) noFill_tuple_mul F.fills_int_mul F.slot_int_rmul repeat_tuple F.slot_int_index.lookup
      (call_meets F.slot_int_rmul (typeIs_int s k t) F.entry_int_rmul (F.args_int_rmul_2 _ _) (int_rmul_tuple k t l its.toArray n dd sl) ⟨ho, rfl, ⟨_, ho, rfl⟩, z⟩)
  refine go ?_
  cases c1 : (its.toArray.isEmpty || k == 1) with
  | true =>
    refine call_meets F.slot_tuple_mul ⟨_, ho, rfl⟩ F.entry_tuple_mul (F.args_tuple_mul_2 _ _) (tuple_mulS l its.toArray n dd sl k t c0 c1) ⟨ho, .ref l, H, I, rfl, q1 ?_⟩
    rw [Bool.or_eq_true] at c1
    rcases c1 with z | z
    · left
      have : its.length = 0 := by
        cases its with
        | nil => rfl
        | cons a b => simp at z
      exact List.eq_nil_of_length_eq_zero (by omega)
    · right
      exact eq_of_beq z
  | false =>
    have c1' := c1
    rw [Bool.or_eq_false_iff] at c1'
    have hne : xs ≠ [] := fun e => by
      subst e
      cases r
      simp at c1'
    have hk1 : k ≠ 1 := fun e => by rw [e] at c1'; simp at c1'
    cases c2 : (decide (k ≤ 0) || its.toArray.isEmpty) with
    | true =>
      refine call_meets F.slot_tuple_mul ⟨_, ho, rfl⟩ F.entry_tuple_mul (F.args_tuple_mul_2 _ _) (tuple_mul0 l its.toArray n dd sl k t c0 c1 c2) ⟨ho, ?_⟩
      rw [c1'.1, Bool.or_false] at c2
      have hk : k.toNat = 0 := by have := of_decide_eq_true c2; omega
      have e0 : (List.replicate k.toNat xs).flatten = [] := by rw [hk]; rfl
      have q3 := q2 hne hk1
      rw [e0] at q3
      exact lay_tup (t' := s.toks) I (its := []) .nil (Nat.zero_le _) q3
    | false =>
      have c4 : Builtin.Tuple.tupleTooMany (((its.toArray.size : Nat) : Int) * k) = false := by
        unfold Builtin.Tuple.tupleTooMany
        rw [sizeLine_eq]
        exact decide_eq_false (by omega)
      refine call_meets F.slot_tuple_mul ⟨_, ho, rfl⟩ F.entry_tuple_mul (F.args_tuple_mul_2 _ _) (tuple_mulW l its.toArray n dd sl k t c0 c1 c2 (by omega) c4 (by rw [size_rep, List.size_toArray, sizeLine_eq]; omega)) ⟨ho, ?_⟩
      rw [size_rep]
      exact lay_tup (t' := s.toks) I (r.rep k.toNat) flen2 (q2 hne hk1)
end
end Sim
namespace Sim
open PySem PySem.Spec L2
abbrev D := PyData
abbrev Sg := List (Option D)
/-- an outcome -/
inductive Res (α : Type) where
  | ok (a : α) (s : Sg)
  | exc (c : Str) (v : D) (s : Sg)
  | bad
def Res.bind {α β : Type} (m : Res α) (k : α → Sg → Res β) : Res β :=
  match m with
  | .ok a s => k a s
  | .exc c v s => .exc c v s
  | .bad => .bad
theorem bind_ok {α β : Type} (a : α) (s : Sg) (k : α → Sg → Res β) : (Res.ok a s).bind k = k a s := rfl
theorem bind_inv {α β : Type} {m : Res α} {k : α → Sg → Res β} {b : β} {s : Sg} (h : m.bind k = .ok b s) : ∃ a s1, m = .ok a s1 ∧ k a s1 = .ok b s := by
  cases m with
  | ok a s1 => exact ⟨a, s1, rfl, h⟩
  | exc c v s1 => cases h
  | bad => cases h
/-- an operand: a value, or what a slot holds -/
inductive Rf where
  | val (d : D)
  | slot (i : Nat)
def rd (r : Rf) (s : Sg) : Option D :=
  match r with
  | .val d => some d
  | .slot i => (s[i]?).join
def rds : List Rf → Sg → Option (List D)
  | [], _ => some []
  | r :: rs, s => match rd r s with
    | none => none
    | some d => match rds rs s with
      | none => none
      | some ds => some (d :: ds)
abbrev O := Sg → Res Rf
abbrev AL := Sg → Res (List Rf)
abbrev T := Sg → Res Bool
inductive Fl where
  | nx | rt (d : D) | bk | ct
abbrev S := Sg → Res Fl
/-- a list that never changes is told so -/
def frzT : List (D × D) → Bool
  | [(.none, .list _)] => true
  | [(.none, .dict _)] => true
  | _ => false
mutual
/-- no list that may change, no object within -/
def pur : D → Bool
  | .list _ => false
  | .dict kvs => frzT kvs
  | .tuple xs => purs xs
  | .none => true
  | .bool _ => true
  | .int _ => true
  | .str _ => true
def purs : List D → Bool
  | [] => true
  | x :: xs => pur x && purs xs
end
mutual
/-- nothing told by a dict within -/
def noD : D → Bool
  | .list xs => noDs xs
  | .dict _ => false
  | .tuple xs => noDs xs
  | .none => true
  | .bool _ => true
  | .int _ => true
  | .str _ => true
def noDs : List D → Bool
  | [] => true
  | x :: xs => noD x && noDs xs
end
/-- a list that never changes -/
def SqF (K : PySem.W.Frag) (H : Hp) (a : Addr) (xs : List V) : Prop :=
  (∃ o, H a = some (.frz o (.lst xs))) ∨
    ∃ (o : Obj) (its : Array Value) (n : Nat), K.lookup a = some o ∧ o.cls = .type "list" ∧ o.dict = none ∧ o.data = .seq its n ∧ its.size ≤ sizeLine ∧ Vals xs its.toList
theorem SqF.sq {K : PySem.W.Frag} {H : Hp} {a : Addr} {xs : List V} (h : SqF K H a xs) : SqL K H a xs := by
  rcases h with h | h
  · exact .inl (.inr h)
  · exact .inr h
/-- the entries of a dict whose keys are tuples, as they stand in its object -/
def RawO (a : Addr) (es : List (NestedKey × Addr × V)) (o : Obj) : HO := .ext fun h => es.length ≤ sizeLine ∧ (a == sysModules) = false ∧ (es.map (·.1)).Nodup ∧ h.get? a = some o ∧
  ∃ (ents : Array DictEntry) (ep : Nat), o.ExactDict ∧ o.data = .dict ents ep ∧
    Paired (fun (p : NestedKey × Addr × V) (e : DictEntry) => (∀ w, e.hash = p.1.hash w) ∧ e.key = .ref p.2.1 ∧ RelV p.2.2 e.val) es ents.toList
/-- an object that may change: a list, a dict, an instance -/
inductive MO
  | lst (xs : List V)
  | dct (kvs : List (Key × V))
  | dcn (a : Addr) (es : List (NestedKey × Addr × V)) (o : Obj)
  | ins (C dx : Addr) (fs : List (Str × V))
def MO.ho : MO → HO
  | .lst xs => .lst xs
  | .dct kvs => .dK kvs
  | .dcn a es o => RawO a es o
  | .ins C dx fs => .ins C dx fs
def isMut : HO → Bool
  | .lst _ => true
  | .dK _ => true
  | .ins _ _ _ => true
  | .ext _ => true
  | _ => false
/-- a key as it is told -/
def kD : Key → D
  | .inl i => .int i
  | .inr x => .str x
mutual
def nkD : NestedKey → D
  | .none => .none
  | .num i => .int i
  | .text x => .str x
  | .tup ks => .tuple (nkDs ks)
def nkDs : List NestedKey → List D
  | [] => []
  | k :: ks => nkD k :: nkDs ks
end
def zkd {κ : Type} (f : κ → D) : List κ → List D → List (D × D)
  | k :: ks, d :: ds => (f k, d) :: zkd f ks ds
  | _, _ => []
mutual
inductive Own (K : PySem.W.Frag) (H : Hp) : D → V → List Addr → Prop
  | non : Own K H .none .non []
  | bl (b : Bool) : Own K H (.bool b) (.bl b) []
  | int (i : Int) : Own K H (.int i) (.int i) []
  | str (x : Str) : Own K H (.str x) (.str x) []
  | tup {a : Addr} {xs : List V} {ds : List D} {F : List Addr} : SqD K H a xs → OwnA K H ds xs F → Own K H (.tuple ds) (.ref a) F
  | frz {a : Addr} {xs : List V} {ds : List D} : SqF K H a xs → OwnA K H ds xs [] → Own K H (.dict [(.none, .list ds)]) (.ref a) []
  | frd {a : Addr} {o : Obj} : H a = some (.frz o (.dK [])) → Own K H (.dict [(.none, .dict [])]) (.ref a) []
  | dct {a : Addr} {kvs : List (Key × V)} {ds : List D} {F : List Addr} : H a = some (.dK kvs) → OwnA K H ds (kvs.map Prod.snd) F → a ∉ F → Own K H (.dict ((.bool true, .none) :: zkd kD (kvs.map Prod.fst) ds)) (.ref a) (a :: F)
  | dcn {a : Addr} {es : List (NestedKey × Addr × V)} {o : Obj} {ds : List D} : H a = some (RawO a es o) → OwnA K H (es.map fun e => nkD e.1) (es.map fun e => V.ref e.2.1) [] → OwnA K H ds (es.map fun e => e.2.2) [] → Own K H (.dict ((.bool true, .int 0) :: zkd nkD (es.map fun e => e.1) ds)) (.ref a) [a]
  | ins {a C dx : Addr} {fs : List (Str × V)} {ds : List D} {F : List Addr} : H a = some (.ins C dx fs) → OwnA K H ds (fs.map Prod.snd) F → a ∉ F → Own K H (.dict ((.bool false, .int (C : Nat)) :: zkd PyData.str (fs.map Prod.fst) ds)) (.ref a) (a :: F)
  | lst {a : Addr} {xs : List V} {ds : List D} {F : List Addr} : H a = some (.lst xs) → OwnA K H ds xs F → a ∉ F → Own K H (.list ds) (.ref a) (a :: F)
inductive OwnA (K : PySem.W.Frag) (H : Hp) : List D → List V → List Addr → Prop
  | nil : OwnA K H [] [] []
  | cons {v : V} {vs : List V} {d : D} {ds : List D} {F G : List Addr} : Own K H d v F → OwnA K H ds vs G → (∀ a, a ∈ F → a ∉ G) → OwnA K H (d :: ds) (v :: vs) (F ++ G)
end
section
variable {K : PySem.W.Frag} {H H' : Hp}
mutual
theorem Own.dp : ∀ {d : D} {v : V} {F : List Addr}, Own K H d v F → noD d = true → Dp K H v d
  | _, _, _, .non, _ => .non
  | _, _, _, .bl b, _ => .bl b
  | _, _, _, .int b, _ => .int b
  | _, _, _, .str b, _ => .str b
  | _, _, _, .frz _ _, p => by simp [noD] at p
  | _, _, _, .frd _, p => by simp [noD] at p
  | _, _, _, .dct _ _ _, p => by simp [noD] at p
  | _, _, _, .dcn _ _ _, p => by simp [noD] at p
  | _, _, _, .ins _ _ _, p => by simp [noD] at p
  | _, _, _, .lst h t _, p => .lst (SqL.of h) (OwnA.dp t (by simpa [noD] using p))
  | _, _, _, .tup h t, p => .tup h.sq (OwnA.dp t (by simpa [noD] using p))
theorem OwnA.dp : ∀ {ds : List D} {vs : List V} {F : List Addr}, OwnA K H ds vs F → noDs ds = true → DpAll K H vs ds
  | _, _, _, .nil, _ => .nil
  | _, _, _, .cons h t _, p => by
    simp only [noDs, Bool.and_eq_true] at p
    exact .cons (Own.dp h p.1) (OwnA.dp t p.2)
end
mutual
theorem Own.pur : ∀ {d : D} {v : V} {F : List Addr}, Own K H d v F → pur d = true → F = []
  | _, _, _, .non, _ => rfl
  | _, _, _, .bl b, _ => rfl
  | _, _, _, .int b, _ => rfl
  | _, _, _, .str b, _ => rfl
  | _, _, _, .lst _ _ _, p => by simp [Sim.pur] at p
  | _, _, _, .frz _ _, _ => rfl
  | _, _, _, .frd _, _ => rfl
  | _, _, _, .dct _ _ _, p => by simp [Sim.pur, frzT] at p
  | _, _, _, .dcn _ _ _, p => by simp [Sim.pur, frzT] at p
  | _, _, _, .ins _ _ _, p => by simp [Sim.pur, frzT] at p
  | _, _, _, .tup h t, p => OwnA.pur t (by simpa [Sim.pur] using p)
theorem OwnA.pur : ∀ {ds : List D} {vs : List V} {F : List Addr}, OwnA K H ds vs F → purs ds = true → F = []
  | _, _, _, .nil, _ => rfl
  | _, _, _, .cons h t _, p => by
    simp only [purs, Bool.and_eq_true] at p
    rw [Own.pur h p.1, OwnA.pur t p.2]
    rfl
end
mutual
theorem Own.mem : ∀ {d : D} {v : V} {F : List Addr}, Own K H d v F → ∀ a, a ∈ F → ∃ xs : MO, H a = some xs.ho
  | _, _, _, .non, _, h => by simp at h
  | _, _, _, .bl b, _, h => by simp at h
  | _, _, _, .int b, _, h => by simp at h
  | _, _, _, .str b, _, h => by simp at h
  | _, _, _, .frz _ _, _, h => by simp at h
  | _, _, _, .frd _, _, h => by simp at h
  | _, _, _, .dct e t _, a, h => by
    rcases List.mem_cons.mp h with rfl | h
    · exact ⟨.dct _, e⟩
    · exact OwnA.mem t a h
  | _, _, _, .dcn e _ _, a, h => by rw [List.mem_singleton.mp h]; exact ⟨.dcn _ _ _, e⟩
  | _, _, _, .ins e t _, a, h => by
    rcases List.mem_cons.mp h with rfl | h
    · exact ⟨.ins _ _ _, e⟩
    · exact OwnA.mem t a h
  | _, _, _, .lst e t _, a, h => by
    rcases List.mem_cons.mp h with rfl | h
    · exact ⟨.lst _, e⟩
    · exact OwnA.mem t a h
  | _, _, _, .tup _ t, a, h => OwnA.mem t a h
theorem OwnA.mem : ∀ {ds : List D} {vs : List V} {F : List Addr}, OwnA K H ds vs F → ∀ a, a ∈ F → ∃ xs : MO, H a = some xs.ho
  | _, _, _, .nil, _, h => by simp at h
  | _, _, _, .cons h1 t _, a, h => by
    rcases List.mem_append.mp h with h | h
    · exact Own.mem h1 a h
    · exact OwnA.mem t a h
end
/-- the change of a heap: but the lists at Fa all stands -/
structure Chg (Fa : Addr → Prop) (H H' : Hp) : Prop where
  keep : ∀ a o, H a = some o → (¬ Fa a ∨ isMut o = false) → H' a = some o
  there : ∀ a, H' a = none → H a = none
theorem Chg.refl (Fa : Addr → Prop) (H : Hp) : Chg Fa H H := ⟨fun _ _ h _ => h, fun _ h => h⟩
theorem Chg.same {Fa : Addr → Prop} (h : Same H H') : Chg Fa H H' := ⟨fun _ _ e _ => h _ _ e, fun _ e => h.free e⟩
theorem Chg.sqD {Fa : Addr → Prop} (c : Chg Fa H H') {a : Addr} {xs : List V} (h : SqD K H a xs) : SqD K H' a xs := by
  rcases h with ⟨o, h, n⟩ | h
  · exact .inl ⟨o, c.keep _ _ h (.inr rfl), n⟩
  · exact .inr h
theorem Chg.sqF {Fa : Addr → Prop} (c : Chg Fa H H') {a : Addr} {xs : List V} (h : SqF K H a xs) : SqF K H' a xs := by
  rcases h with ⟨o, h⟩ | h
  · exact .inl ⟨o, c.keep _ _ h (.inr rfl)⟩
  · exact .inr h
mutual
theorem Own.chg {Fa : Addr → Prop} (c : Chg Fa H H') : ∀ {d : D} {v : V} {F : List Addr}, Own K H d v F → (∀ a, a ∈ F → ¬ Fa a) → Own K H' d v F
  | _, _, _, .non, _ => .non
  | _, _, _, .bl b, _ => .bl b
  | _, _, _, .int b, _ => .int b
  | _, _, _, .str b, _ => .str b
  | _, _, _, .lst h t n, q => .lst (c.keep _ _ h (.inl (q _ (List.mem_cons_self ..)))) (OwnA.chg c t fun a ha => q a (List.mem_cons_of_mem _ ha)) n
  | _, _, _, .frz h t, q => .frz (c.sqF h) (OwnA.chg c t q)
  | _, _, _, .frd h, q => .frd (c.keep _ _ h (.inr rfl))
  | _, _, _, .dct h t n, q => .dct (c.keep _ _ h (.inl (q _ (List.mem_cons_self ..)))) (OwnA.chg c t fun a ha => q a (List.mem_cons_of_mem _ ha)) n
  | _, _, _, .dcn h t t2, q => .dcn (c.keep _ _ h (.inl (q _ (List.mem_cons_self ..)))) (OwnA.chg c t fun a ha => by cases ha) (OwnA.chg c t2 fun a ha => by cases ha)
  | _, _, _, .ins h t n, q => .ins (c.keep _ _ h (.inl (q _ (List.mem_cons_self ..)))) (OwnA.chg c t fun a ha => q a (List.mem_cons_of_mem _ ha)) n
  | _, _, _, .tup h t, q => .tup (c.sqD h) (OwnA.chg c t q)
theorem OwnA.chg {Fa : Addr → Prop} (c : Chg Fa H H') : ∀ {ds : List D} {vs : List V} {F : List Addr}, OwnA K H ds vs F → (∀ a, a ∈ F → ¬ Fa a) → OwnA K H' ds vs F
  | _, _, _, .nil, _ => .nil
  | _, _, _, .cons h t n, q => .cons (Own.chg c h fun a ha => q a (List.mem_append_left _ ha)) (OwnA.chg c t fun a ha => q a (List.mem_append_right _ ha)) n
end
theorem Own.same (h : Same H H') {d : D} {v : V} {F : List Addr} (o : Own K H d v F) : Own K H' d v F := o.chg (Fa := fun _ => False) (.same h) fun _ _ z => z
theorem OwnA.len : ∀ {ds : List D} {vs : List V} {F : List Addr}, OwnA K H ds vs F → vs.length = ds.length
  | _, _, _, .nil => rfl
  | _, _, _, .cons _ t _ => by rw [List.length_cons, List.length_cons, OwnA.len t]
end
end Sim
namespace Sim
open PySem PySem.Spec L2
abbrev Fp := Nat → List Addr
def InF (Fs : Fp) : Addr → Prop := fun a => ∃ i, a ∈ Fs i
/-- the slots' values, as they are told, stand -/
structure RelS (K : PySem.W.Frag) (H : Hp) (s : Sg) (σ : St) (Fs : Fp) : Prop where
  len : s.length = σ.length
  has : ∀ i d, s[i]? = some (some d) → ∃ v, σ[i]? = some (some v) ∧ Own K H d v (Fs i)
  off : ∀ i, (∀ d, s[i]? ≠ some (some d)) → Fs i = []
  dis : ∀ i j a, a ∈ Fs i → a ∈ Fs j → i = j
/-- from one heap to a later one -/
structure Ev (H : Hp) (Fs : Fp) (H' : Hp) (Fs' : Fp) : Prop where
  chg : Chg (InF Fs) H H'
  new : ∀ i a, a ∈ Fs' i → a ∈ Fs i ∨ H a = none
section
variable {K : PySem.W.Frag} {H H1 H' : Hp} {s s' : Sg} {σ σ' : St} {Fs Fs1 Fs' : Fp}
theorem RelS.mem (R : RelS K H s σ Fs) {i : Nat} {a : Addr} (h : a ∈ Fs i) : ∃ xs : MO, H a = some xs.ho := by
  cases e : s[i]? with
  | none =>
    rw [R.off i (fun d z => by rw [e] at z; cases z)] at h
    cases h
  | some o =>
    cases o with
    | none =>
      rw [R.off i (fun d z => by rw [e] at z; cases z)] at h
      cases h
    | some d =>
      obtain ⟨v, _, q⟩ := R.has i d e
      exact q.mem a h
theorem Ev.refl (H : Hp) (Fs : Fp) : Ev H Fs H Fs := ⟨.refl _ _, fun _ _ h => .inl h⟩
theorem Ev.same (Fs : Fp) (h : Same H H') : Ev H Fs H' Fs := ⟨.same h, fun _ _ h => .inl h⟩
theorem Ev.trans (a : Ev H Fs H1 Fs1) (b : Ev H1 Fs1 H' Fs') : Ev H Fs H' Fs' := by
  refine ⟨⟨fun x o e c => ?_, fun x e => a.chg.there x (b.chg.there x e)⟩, fun i x h => ?_⟩
  · have e1 := a.chg.keep x o e c
    refine b.chg.keep x o e1 (c.imp (fun n z => ?_) id)
    obtain ⟨i, hi⟩ := z
    rcases a.new i x hi with q | q
    · exact n ⟨i, q⟩
    · rw [e] at q; cases q
  · rcases b.new i x h with q | q
    · exact a.new i x q
    · exact .inr (a.chg.there x q)
theorem RelS.same (R : RelS K H s σ Fs) (h : Same H H') : RelS K H' s σ Fs :=
  ⟨R.len, fun i d e => by
    obtain ⟨v, hv, q⟩ := R.has i d e
    exact ⟨v, hv, q.same h⟩, R.off, R.dis⟩
/-- what stands apart from the slots -/
structure Apart (K : PySem.W.Frag) (H : Hp) (Fs : Fp) (d : D) (v : V) (F : List Addr) : Prop where
  own : Own K H d v F
  dis : ∀ i a, a ∈ Fs i → a ∉ F
theorem Apart.ev {d : D} {v : V} {F : List Addr} (A : Apart K H Fs d v F) (e : Ev H Fs H' Fs') : Apart K H' Fs' d v F := by
  refine ⟨A.own.chg e.chg fun a ha ⟨i, hi⟩ => A.dis i a hi ha, fun i a hi ha => ?_⟩
  rcases e.new i a hi with q | q
  · exact A.dis i a q ha
  · obtain ⟨xs, z⟩ := A.own.mem a ha
    rw [q] at z; cases z
/-- operands as they came -/
inductive Rfs (K : PySem.W.Frag) (H : Hp) (σ : St) (Fs : Fp) : List Rf → List V → List (List Addr) → Prop
  | nil : Rfs K H σ Fs [] [] []
  | val {d : D} {v : V} {F : List Addr} {rs : List Rf} {vs : List V} {Gs : List (List Addr)} : Apart K H Fs d v F → (∀ G, G ∈ Gs → ∀ a, a ∈ F → a ∉ G) → Rfs K H σ Fs rs vs Gs → Rfs K H σ Fs (.val d :: rs) (v :: vs) (F :: Gs)
  | slot {i : Nat} {v : V} {rs : List Rf} {vs : List V} {Gs : List (List Addr)} : σ[i]? = some (some v) → Rfs K H σ Fs rs vs Gs → Rfs K H σ Fs (.slot i :: rs) (v :: vs) ([] :: Gs)
theorem Rfs.mem {rs : List Rf} {vs : List V} {Gs : List (List Addr)} (r : Rfs K H σ Fs rs vs Gs) : ∀ G, G ∈ Gs → ∀ a, a ∈ G → ∃ xs : MO, H a = some xs.ho := by
  induction r with
  | nil => intro G h; cases h
  | val A _ _ ih =>
    intro G h a ha
    rcases List.mem_cons.mp h with rfl | h
    · exact A.own.mem a ha
    · exact ih G h a ha
  | slot _ _ ih =>
    intro G h a ha
    rcases List.mem_cons.mp h with rfl | h
    · cases ha
    · exact ih G h a ha
theorem join_some {i : Nat} {d : D} (e : (s[i]?).join = some d) : s[i]? = some (some d) := by
  cases h : s[i]? with
  | none => rw [h] at e; cases e
  | some o => rw [h] at e; rw [show o = some d from e]
/-- values that are told -/
inductive RdA (K : PySem.W.Frag) (H : Hp) : List V → List D → Prop
  | nil : RdA K H [] []
  | cons {v : V} {d : D} {F : List Addr} {vs : List V} {ds : List D} : Own K H d v F → RdA K H vs ds → RdA K H (v :: vs) (d :: ds)
theorem Rfs.dp (R : RelS K H s σ Fs) {rs : List Rf} {vs : List V} {Gs : List (List Addr)} (r : Rfs K H σ Fs rs vs Gs) : ∀ {ds : List D}, rds rs s = some ds → RdA K H vs ds := by
  induction r with
  | nil => intro ds e; cases e; exact .nil
  | @val d v F rs vs Gs A _ _ ih =>
    intro ds e
    unfold rds at e
    simp only [rd] at e
    split at e
    · cases e
    · rename_i es h; cases e; exact .cons A.own (ih h)
  | @slot i v rs vs Gs hv _ ih =>
    intro ds e
    unfold rds at e
    simp only [rd] at e
    split at e
    · cases e
    · rename_i d hd
      split at e
      · cases e
      · rename_i es h
        cases e
        obtain ⟨v', hv', q⟩ := R.has _ _ (join_some hd)
        rw [hv] at hv'
        cases hv'
        exact .cons q (ih h)
/-- one operand as it came -/
inductive RfOk (K : PySem.W.Frag) (H : Hp) (σ : St) (Fs : Fp) : Rf → V → List Addr → Prop
  | val {d : D} {v : V} {F : List Addr} : Apart K H Fs d v F → RfOk K H σ Fs (.val d) v F
  | slot {i : Nat} {v : V} : σ[i]? = some (some v) → RfOk K H σ Fs (.slot i) v []
theorem RfOk.ev {r : Rf} {v : V} {F : List Addr} (h : RfOk K H σ Fs r v F) (e : Ev H Fs H' Fs') : RfOk K H' σ Fs' r v F := by
  cases h with
  | val A => exact .val (A.ev e)
  | slot h => exact .slot h
theorem RfOk.mem {r : Rf} {v : V} {F : List Addr} (h : RfOk K H σ Fs r v F) : ∀ a, a ∈ F → ∃ xs : MO, H a = some xs.ho := by
  cases h with
  | val A => exact A.own.mem
  | slot h => intro a h; cases h
theorem RfOk.dp (R : RelS K H s σ Fs) {r : Rf} {v : V} {F : List Addr} (h : RfOk K H σ Fs r v F) {d : D} (e : rd r s = some d) : ∃ F', Own K H d v F' := by
  cases h with
  | val A => cases e; exact ⟨_, A.own⟩
  | slot h =>
    obtain ⟨v', hv', q⟩ := R.has _ _ (join_some e)
    rw [h] at hv'
    cases hv'
    exact ⟨_, q⟩
end
section
variable (K : PySem.W.Frag)
def tO (g : O) : TE := fun σ H Q => ∃ s Fs r s', RelS K H s σ Fs ∧ g s = .ok r s' ∧
  ∀ v H' Fs' F, RelS K H' s' σ Fs' → Ev H Fs H' Fs' → RfOk K H' σ Fs' r v F → (∀ a, a ∈ F → H a = none) → Q v H'
def tA (g : AL) : TA := fun σ H Q => ∃ s Fs rs s', RelS K H s σ Fs ∧ g s = .ok rs s' ∧
  ∀ vs H' Fs' Gs, RelS K H' s' σ Fs' → Ev H Fs H' Fs' → Rfs K H' σ Fs' rs vs Gs → (∀ G, G ∈ Gs → ∀ a, a ∈ G → H a = none) → Q vs H'
def tT (g : T) : TT := fun σ H Q => ∃ s Fs b s', RelS K H s σ Fs ∧ g s = .ok b s' ∧ ∀ H' Fs', RelS K H' s' σ Fs' → Ev H Fs H' Fs' → Q b H'
end
def SimO (X : Cx) (e : Expr) (g : O) : Prop := PE X e (tO X.K g)
def SimA (X : Cx) (es : List Expr) (g : AL) : Prop := PA X es (tA X.K g)
def SimT (X : Cx) (e : Expr) (g : T) : Prop := PT X e (tT X.K g)
theorem pe_imp {X : Cx} {e : Expr} {t t' : TE} (h : PE X e t) (i : ∀ σ H Q, t' σ H Q → t σ H Q) : PE X e t' := ⟨fun pins s σ H Q I q => h.run pins s σ H Q I (i σ H Q q)⟩
theorem pt_imp {X : Cx} {e : Expr} {t t' : TT} (h : PT X e t) (i : ∀ σ H Q, t' σ H Q → t σ H Q) : PT X e t' := ⟨fun pins s σ H Q I q => h.run pins s σ H Q I (i σ H Q q)⟩
theorem pa_imp {X : Cx} {e : List Expr} {t t' : TA} (h : PA X e t) (i : ∀ σ H Q, t' σ H Q → t σ H Q) : PA X e t' := ⟨fun pos pins s σ H Q I q => h.run pos pins s σ H Q I (i σ H Q q)⟩
def aNil : AL := fun s => .ok [] s
def aCons (g : O) (h : AL) : AL := fun s => (g s).bind fun r s1 => (h s1).bind fun rs s2 => .ok (r :: rs) s2
section
variable {X : Cx} {K : PySem.W.Frag}
theorem tA_nil {σ : St} {H : Hp} {Q : List V → Hp → Prop} (h : tA K aNil σ H Q) : tNil σ H Q := by
  obtain ⟨s, Fs, rs, s', R, e, q⟩ := h
  cases e
  exact q [] H Fs [] R (.refl _ _) .nil (by intro G h; cases h)
theorem tA_cons {g : O} {gs : AL} {σ : St} {H : Hp} {Q : List V → Hp → Prop} (h : tA K (aCons g gs) σ H Q) : tCons (tO K g) (tA K gs) σ H Q := by
  obtain ⟨s, Fs, rs, s', R, e, q⟩ := h
  obtain ⟨r, s1, e1, e⟩ := bind_inv e
  obtain ⟨rs1, s2, e2, e⟩ := bind_inv e
  cases e
  refine ⟨s, Fs, r, s1, R, e1, fun v H1 Fs1 F R1 E1 k1 n1 => ⟨s1, Fs1, rs1, s', R1, e2, fun vs H2 Fs2 Gs R2 E2 k2 n2 => ?_⟩⟩
  have k1' := k1.ev E2
  have nn : ∀ G, G ∈ Gs → ∀ a, a ∈ G → H a = none := fun G hG a ha => E1.chg.there a (n2 G hG a ha)
  cases k1' with
  | val A =>
    refine q _ H2 Fs2 (F :: Gs) R2 (E1.trans E2) (.val A (fun G hG a ha hb => ?_) k2) (fun G hG a ha => ?_)
    · obtain ⟨xs, z⟩ := k1.mem a ha
      rw [n2 G hG a hb] at z; cases z
    · rcases List.mem_cons.mp hG with rfl | hG
      · exact n1 a ha
      · exact nn G hG a ha
  | slot hv =>
    refine q _ H2 Fs2 ([] :: Gs) R2 (E1.trans E2) (.slot hv k2) (fun G hG a ha => ?_)
    rcases List.mem_cons.mp hG with rfl | hG
    · cases ha
    · exact nn G hG a ha
theorem sa_nil : SimA X [] aNil := pa_imp pa_nil fun _ _ _ h => tA_nil h
theorem sa_cons {e : Expr} {es : List Expr} {g : O} {gs : AL} (ha : SimO X e g) (hr : SimA X es gs) (hs : starEach (e :: es) X.env = (false, eval e X.env) :: starEach es X.env := by rfl) : SimA X (e :: es) (aCons g gs) :=
  pa_imp (pa_cons ha hr hs) fun _ _ _ h => tA_cons h
theorem tO_mono {g : O} {σ : St} {H : Hp} {Q Q' : VK} (i : ∀ v H, Q v H → Q' v H) (h : tO K g σ H Q) : tO K g σ H Q' := by
  obtain ⟨s, Fs, r, s', R, e, q⟩ := h
  exact ⟨s, Fs, r, s', R, e, fun v H' Fs' F a b c d => i _ _ (q v H' Fs' F a b c d)⟩
theorem tA_mono {g : AL} {σ : St} {H : Hp} {Q Q' : List V → Hp → Prop} (i : ∀ v H, Q v H → Q' v H) (h : tA K g σ H Q) : tA K g σ H Q' := by
  obtain ⟨s, Fs, r, s', R, e, q⟩ := h
  exact ⟨s, Fs, r, s', R, e, fun v H' Fs' F a b c d => i _ _ (q v H' Fs' F a b c d)⟩
theorem tA1 {a : O} {σ : St} {H : Hp} {Q : List V → Hp → Prop} (h : tA K (aCons a aNil) σ H Q) : tO K a σ H fun x H1 => Q [x] H1 :=
  tO_mono (fun _ _ h => by have z := tA_nil h; exact z) (tA_cons h)
theorem tA2 {a b : O} {σ : St} {H : Hp} {Q : List V → Hp → Prop} (h : tA K (aCons a (aCons b aNil)) σ H Q) : tO K a σ H fun x H1 => tO K b σ H1 fun y H2 => Q [x, y] H2 :=
  tO_mono (fun _ _ h => by have z := tA1 h; exact z) (tA_cons h)
end
def NewV (K : PySem.W.Frag) (H : Hp) (d : D) (v : V) (H' : Hp) : Prop := Same H H' ∧ ∃ F, Own K H' d v F ∧ ∀ a, a ∈ F → H a = none
def PrimR (K : PySem.W.Frag) (r : List V → Hp → VK → Prop) (f : List D → Option D) : Prop :=
  ∀ vs ds d H Q, RdA K H vs ds → f ds = some d → (∀ v H', NewV K H d v H' → Q v H') → r vs H Q
def oPrim (f : List D → Option D) (g : AL) : O := fun s => (g s).bind fun rs s1 => match rds rs s1 with
  | none => .bad
  | some ds => match f ds with
    | none => .bad
    | some d => .ok (.val d) s1
section
variable {X : Cx} {K : PySem.W.Frag} {H H' : Hp}
theorem NewV.ok {s : Sg} {σ : St} {Fs : Fp} {d : D} {v : V} (R : RelS K H s σ Fs) (h : NewV K H d v H') : RelS K H' s σ Fs ∧ Ev H Fs H' Fs ∧ ∃ F, RfOk K H' σ Fs (.val d) v F ∧ ∀ a, a ∈ F → H a = none := by
  obtain ⟨sm, F, o, n⟩ := h
  refine ⟨R.same sm, .same _ sm, F, .val ⟨o, fun i a hi ha => ?_⟩, n⟩
  obtain ⟨xs, z⟩ := R.mem hi
  rw [n a ha] at z; cases z
theorem prim {r : List V → Hp → VK → Prop} {f : List D → Option D} {g : AL} (hp : PrimR K r f) {σ : St} {H : Hp} {Q : VK} (h : tO K (oPrim f g) σ H Q) : tA K g σ H fun vs H1 => r vs H1 Q := by
  obtain ⟨s, Fs, rf, s', R, e, q⟩ := h
  obtain ⟨rs, s1, e1, e⟩ := bind_inv e
  refine ⟨s, Fs, rs, s1, R, e1, fun vs H1 Fs1 Gs R1 E1 k1 n1 => ?_⟩
  split at e
  · cases e
  · rename_i ds hds
    split at e
    · cases e
    · rename_i d hd
      cases e
      refine hp vs ds d H1 Q (k1.dp R1 hds) hd fun v H2 hv => ?_
      obtain ⟨R2, E2, F, k, n⟩ := hv.ok R1
      exact q v H2 Fs1 F R2 (E1.trans E2) k fun a ha => E1.chg.there a (n a ha)
theorem NewV.sc {d : D} {v : V} (h : Own K H d v []) : NewV K H d v H := ⟨Same.refl _, [], h, fun _ z => by cases z⟩
theorem NewV.pu {d : D} {v : V} {F : List Addr} (h : Own K H d v F) (p : pur d = true) : NewV K H d v H := .sc (by rw [h.pur p] at h; exact h)
/-- a new object -/
theorem same_new {a : Addr} {o : HO} (h : H a = none) : Same H (upd H a o) := fun b x e => by rw [upd_ne (ne_of_none e h)]; exact e
theorem NewV.tup {ds : List D} {vs : List V} {a : Addr} {o : Obj} (h : OwnA K H ds vs []) (n : H a = none) (nd : o.dict = none) : NewV K H (.tuple ds) (.ref a) (upd H a (.frz o (.tup vs))) := by
  have sm : Same H (upd H a (.frz o (.tup vs))) := same_new n
  exact ⟨sm, [], .tup (SqD.of upd_same nd) (h.chg (Fa := fun _ => False) (.same sm) fun _ _ z => z), fun _ z => by cases z⟩
theorem NewV.lst {ds : List D} {vs : List V} {a : Addr} (h : OwnA K H ds vs []) (n : H a = none) : NewV K H (.list ds) (.ref a) (upd H a (.lst vs)) := by
  have sm : Same H (upd H a (.lst vs)) := same_new n
  exact ⟨sm, [a], .lst upd_same (h.chg (Fa := fun _ => False) (.same sm) fun _ _ z => z) (by simp), fun b z => by rw [List.mem_singleton.mp z]; exact n⟩
end
end Sim
namespace Sim
open PySem PySem.Spec L2
theorem big_le : 1000000 ≤ sizeLine := by decide
def u2 (r : R2) : List V → Hp → VK → Prop
  | [x, y], H, Q => r x y H Q
  | _, _, _ => False
def u1 (r : V → Hp → VK → Prop) : List V → Hp → VK → Prop
  | [x], H, Q => r x H Q
  | _, _, _ => False
def mulOk (a b : Int) : Bool := (decide (-(2 ^ 64) < a) && decide (a < 2 ^ 64)) || (decide (-(2 ^ 64) < b) && decide (b < 2 ^ 64)) || decide (a.natAbs.log2 + b.natAbs.log2 < 1000000)
def pAdd : List D → Option D
  | [.int a, .int b] => some (.int (a + b))
  | [.str a, .str b] => if a.length + b.length ≤ 1000000 then some (.str (a ++ b)) else none
  | [.list a, .list b] => if a.length + b.length ≤ 1000000 ∧ purs a = true ∧ purs b = true then some (.list (a ++ b)) else none
  | [.tuple a, .tuple b] => if a.length + b.length ≤ 1000000 ∧ purs a = true ∧ purs b = true then some (.tuple (a ++ b)) else none
  | _ => none
def pSub : List D → Option D
  | [.int a, .int b] => some (.int (a - b))
  | _ => none
def pMul : List D → Option D
  | [.int a, .int b] => if mulOk a b = true then some (.int (a * b)) else none
  | [.tuple a, .int b] => if -1000 ≤ b ∧ b ≤ 1000 ∧ a.length ≤ 1000 ∧ purs a = true then some (.tuple (List.replicate b.toNat a).flatten) else none
  | [.list a, .int b] => if b < 2 ^ 63 ∧ -(2 ^ 63) ≤ b ∧ a.length * b.toNat ≤ 1000000 ∧ purs a = true then some (.list (List.replicate b.toNat a).flatten) else none
  | _ => none
def pDiv : List D → Option D
  | [.int a, .int b] => if 0 < b ∧ b.natAbs.log2 < 9000 then some (.int (a / b)) else none
  | _ => none
def pMod : List D → Option D
  | [.int a, .int b] => if 0 < b then some (.int (a % b)) else none
  | _ => none
def pPow : List D → Option D
  | [.int a, .int b] => if 0 ≤ b ∧ b ≤ 1000000 ∧ a.natAbs < 2 ^ 64 then some (.int (a ^ b.toNat)) else none
  | _ => none
def pShl : List D → Option D
  | [.int a, .int b] => if 0 ≤ b ∧ b ≤ 1000000 ∧ a.natAbs < 2 ^ 64 then some (.int (a * 2 ^ b.toNat)) else none
  | _ => none
def pShr : List D → Option D
  | [.int a, .int b] => if 0 ≤ b then some (.int (a / 2 ^ b.toNat)) else none
  | _ => none
def pAnd : List D → Option D
  | [.int a, .int b] => some (.int (Builtin.bitAnd a b))
  | _ => none
def pNeg : List D → Option D
  | [.int a] => some (.int (-a))
  | _ => none
def pLt : List D → Option D
  | [.int a, .int b] => some (.bool (decide (a < b)))
  | _ => none
def pLe : List D → Option D
  | [.int a, .int b] => some (.bool (decide (a ≤ b)))
  | _ => none
def pGt : List D → Option D
  | [.int a, .int b] => some (.bool (decide (b < a)))
  | _ => none
def pGe : List D → Option D
  | [.int a, .int b] => some (.bool (decide (b ≤ a)))
  | _ => none
/-- what may be compared by == -/
def shp (d : D) : Bool := SeqAt.shaped d && noD d
def pEq : List D → Option D
  | [a, b] => if shp a = true ∧ shp b = true then some (.bool (PyData.eqv a b)) else none
  | _ => none
def pNe : List D → Option D
  | [a, b] => if shp a = true ∧ shp b = true then some (.bool (!PyData.eqv a b)) else none
  | _ => none
def isN : D → Bool
  | .none => true
  | _ => false
def pIsN : List D → Option D
  | [a, .none] => some (.bool (isN a))
  | [.bool a, .bool b] => some (.bool (decide (a = b)))
  | _ => none
def pNotN : List D → Option D
  | [a, .none] => some (.bool (!isN a))
  | [.bool a, .bool b] => some (.bool (!decide (a = b)))
  | _ => none
def pIn : List D → Option D
  | [a, .list b] => if shp a = true ∧ shp (.list b) = true then some (.bool (b.any fun z => PyData.eqv z a)) else none
  | [a, .tuple b] => if fl a = true ∧ b.all fl = true then some (.bool (b.any fun z => PyData.eqv z a)) else none
  | [.str a, .str b] => some (.bool (!(Builtin.Str.occurrences b a 0 b.length 1).isEmpty))
  | _ => none
where fl : D → Bool
  | .none => true
  | .bool _ => true
  | .int _ => true
  | .str _ => true
  | _ => false
section
variable {K : PySem.W.Frag}
theorem RdA.two {H : Hp} {vs : List V} {a b : D} (h : RdA K H vs [a, b]) : ∃ x y F G, vs = [x, y] ∧ Own K H a x F ∧ Own K H b y G := by
  cases h with
  | cons o h =>
    cases h with
    | cons o2 h =>
      cases h
      exact ⟨_, _, _, _, rfl, o, o2⟩
theorem RdA.one {H : Hp} {vs : List V} {a : D} (h : RdA K H vs [a]) : ∃ x F, vs = [x] ∧ Own K H a x F := by
  cases h with
  | cons o h =>
    cases h
    exact ⟨_, _, rfl, o⟩
theorem RdA.zero {H : Hp} {vs : List V} (h : RdA K H vs []) : vs = [] := by
  cases h
  rfl
theorem purs_app {a b : List D} : purs (a ++ b) = (purs a && purs b) := by
  induction a with
  | nil => simp [purs]
  | cons x a ih => simp [purs, ih, Bool.and_assoc]
theorem OwnA.nil2 {H : Hp} {v : V} {vs : List V} {d : D} {ds : List D} (h : OwnA K H (d :: ds) (v :: vs) []) : Own K H d v [] ∧ OwnA K H ds vs [] := by
  generalize e : ([] : List Addr) = F at h
  cases h with
  | @cons _ _ _ _ F G o t n =>
    have e1 : F = [] ∧ G = [] := List.append_eq_nil_iff.mp e.symm
    obtain ⟨rfl, rfl⟩ := e1
    exact ⟨o, t⟩
theorem OwnA.cons0 {H : Hp} {v : V} {vs : List V} {d : D} {ds : List D} (o : Own K H d v []) (t : OwnA K H ds vs []) : OwnA K H (d :: ds) (v :: vs) [] := OwnA.cons (F := []) (G := []) o t (by simp)
theorem OwnA.app {H : Hp} : ∀ {as bs : List D} {vs ws : List V}, OwnA K H as vs [] → OwnA K H bs ws [] → OwnA K H (as ++ bs) (vs ++ ws) []
  | [], _, [], _, _, g => g
  | _ :: _, _, _ :: _, _, h, g => .cons0 h.nil2.1 (OwnA.app h.nil2.2 g)
  | [], _, _ :: _, _, h, _ => nomatch h
  | _ :: _, _, [], _, h, _ => nomatch h
theorem OwnA.rep {H : Hp} {as : List D} {vs : List V} (h : OwnA K H as vs []) : ∀ k : Nat, OwnA K H (List.replicate k as).flatten (List.replicate k vs).flatten []
  | 0 => .nil
  | k + 1 => by
    rw [List.replicate_succ, List.replicate_succ, List.flatten_cons, List.flatten_cons]
    exact h.app (OwnA.rep h k)
theorem OwnA.take {H : Hp} : ∀ {as : List D} {vs : List V}, OwnA K H as vs [] → ∀ n, OwnA K H (as.take n) (vs.take n) []
  | [], [], _, _ => by simp; exact .nil
  | _ :: _, _ :: _, _, 0 => .nil
  | _ :: _, _ :: _, h, n + 1 => .cons0 h.nil2.1 (OwnA.take h.nil2.2 n)
  | [], _ :: _, h, _ => nomatch h
  | _ :: _, [], h, _ => nomatch h
theorem OwnA.drop {H : Hp} : ∀ {as : List D} {vs : List V}, OwnA K H as vs [] → ∀ n, OwnA K H (as.drop n) (vs.drop n) []
  | [], [], _, _ => by simp; exact .nil
  | _ :: _, _ :: _, h, 0 => h
  | _ :: _, _ :: _, h, n + 1 => OwnA.drop h.nil2.2 n
  | [], _ :: _, h, _ => nomatch h
  | _ :: _, [], h, _ => nomatch h
theorem OwnA.get {H : Hp} : ∀ {as : List D} {vs : List V} {F : List Addr}, OwnA K H as vs F → ∀ (i : Nat) (d : D), as[i]? = some d → ∃ v G, vs[i]? = some v ∧ Own K H d v G ∧ ∀ a, a ∈ G → a ∈ F
  | [], _, _, _, i, d, e => by simp at e
  | d :: ds, _, _, h, 0, d', e => by
    simp at e
    subst e
    cases h with
    | cons o t n => exact ⟨_, _, rfl, o, fun a h => List.mem_append_left _ h⟩
  | d :: ds, _, _, h, i + 1, d', e => by
    cases h with
    | cons o t n =>
      obtain ⟨v', G', h1, h2, h3⟩ := OwnA.get t i d' (by simpa using e)
      exact ⟨v', G', by simpa using h1, h2, fun a h => List.mem_append_right _ (h3 a h)⟩
def rAddA (K : PySem.W.Frag) : R2 := fun x y H Q => rI0 (fun i j => .int (i + j)) x y H Q ∨ (∃ i j, x = .str i ∧ y = .str j ∧ i.length + j.length ≤ sizeLine ∧ Q (.str (i ++ j)) H) ∨ rCat x y H Q ∨ rCatD K x y H Q
theorem op_addA {X : Cx} : OpR X (binaryOp .Add) (rAddA X.K) := op_add.or (op_add_str.or (op_cat.or op_catD))
theorem pr_add : PrimR K (u2 (rAddA K)) pAdd := by
  intro vs ds d H Q h e q
  unfold pAdd at e
  split at e
  · obtain ⟨x, y, F, G, rfl, o1, o2⟩ := h.two
    cases o1; cases o2; cases e
    exact .inl ⟨_, _, rfl, rfl, q _ _ (.sc (.int _))⟩
  · obtain ⟨x, y, F, G, rfl, o1, o2⟩ := h.two
    split at e
    · rename_i hl
      cases o1; cases o2; cases e
      exact .inr (.inl ⟨_, _, rfl, rfl, Nat.le_trans hl big_le, q _ _ (.sc (.str _))⟩)
    · cases e
  · obtain ⟨x, y, F, G, rfl, o1, o2⟩ := h.two
    split at e
    · rename_i hl
      cases e
      cases o1 with
      | lst e1 t1 n1 =>
        cases o2 with
        | lst e2 t2 n2 =>
          have l1 := t1.len
          have l2 := t2.len
          refine .inr (.inr (.inl ⟨_, _, _, _, rfl, rfl, e1, e2, by have := big_le; omega, fun p hp => q _ _ (.lst ?_ hp)⟩))
          have p1 := t1.pur hl.2.1
          have p2 := t2.pur hl.2.2
          subst p1; subst p2
          exact t1.app t2
    · cases e
  · obtain ⟨x, y, F, G, rfl, o1, o2⟩ := h.two
    split at e
    · rename_i a b hl
      cases e
      cases o1 with
      | tup e1 t1 =>
        cases o2 with
        | tup e2 t2 =>
          have l1 := t1.len
          have l2 := t2.len
          have p1 := t1.pur hl.2.1
          have p2 := t2.pur hl.2.2
          subst p1; subst p2
          refine .inr (.inr (.inr ⟨_, _, _, _, rfl, rfl, e1.sq, e2.sq, by have := big_le; omega, fun z => ?_, fun _ z => ?_, fun _ _ p o hp hn => q _ _ (.tup (t1.app t2) hp hn)⟩))
          · subst z
            cases t1
            exact q _ _ (.sc (.tup e2 t2))
          · subst z
            cases t2
            rw [List.append_nil] at q
            exact q _ _ (.sc (.tup e1 t1))
    · cases e
  · cases e
theorem pr_sub : PrimR K (u2 (rI0 fun i j => .int (i - j))) pSub := by
  intro vs ds d H Q h e q
  unfold pSub at e
  split at e
  · obtain ⟨x, y, F, G, rfl, o1, o2⟩ := h.two
    cases o1; cases o2; cases e
    exact ⟨_, _, rfl, rfl, q _ _ (.sc (.int _))⟩
  · cases e
def CMulA (i j : Int) : Prop := CMul i j ∨ CMulW i j
theorem CMulA.ok {i j : Int} (h : CMulA i j) : IntMulOk i j := h.elim CMul.ok CMulW.ok
def rMulA (K : PySem.W.Frag) : R2 := fun x y H Q => rI CMulA (fun i j => .int (i * j)) x y H Q ∨ rRep x y H Q ∨ rRepD K x y H Q
theorem op_mulA {X : Cx} : OpR X (binaryOp .Mult) (rMulA X.K) := (opI fun _ _ _ _ _ _ _ hc q => PyProof.Rows.mul_int q hc.ok).or (op_rep.or op_repD)
theorem pr_mul : PrimR K (u2 (rMulA K)) pMul := by
  intro vs ds d H Q h e q
  unfold pMul at e
  split at e
  · obtain ⟨x, y, F, G, rfl, o1, o2⟩ := h.two
    split at e
    · rename_i hm
      cases o1; cases o2; cases e
      refine .inl ⟨_, _, rfl, rfl, ?_, q _ _ (.sc (.int _))⟩
      unfold mulOk at hm
      simp only [Bool.or_eq_true, Bool.and_eq_true, decide_eq_true_eq] at hm
      rcases hm with hm | hm
      · exact .inl hm
      · exact .inr hm
    · cases e
  · obtain ⟨x, y, F, G, rfl, o1, o2⟩ := h.two
    split at e
    · rename_i hm
      cases o2; cases e
      cases o1 with
      | tup e1 t1 =>
        have p1 := t1.pur hm.2.2.2
        subst p1
        have l1 := t1.len
        refine .inr (.inr ⟨_, _, _, rfl, rfl, e1.sq, hm.1, hm.2.1, by omega, fun z => ?_, fun _ _ p o hp hn => q _ _ (.tup (t1.rep _) hp hn)⟩)
        rcases z with z | z
        · subst z
          have e0 := t1.len
          cases t1
          rw [List.flatten_replicate_nil] at q
          exact q _ _ (.sc (.tup e1 .nil))
        · subst z
          simp only [Int.toNat_one, List.replicate_one, List.flatten_singleton] at q
          exact q _ _ (.sc (.tup e1 t1))
    · cases e
  · obtain ⟨x, y, F, G, rfl, o1, o2⟩ := h.two
    split at e
    · rename_i hm
      cases o2; cases e
      cases o1 with
      | lst e1 t1 n1 =>
        have l1 := t1.len
        have p1 := t1.pur hm.2.2.2
        subst p1
        refine .inr (.inl ⟨_, _, _, rfl, rfl, e1, hm.2.1, hm.1, ?_, fun p hp => q _ _ (.lst (t1.rep _) hp)⟩)
        rw [l1]
        exact Nat.le_trans hm.2.2.1 big_le
    · cases e
  · cases e
theorem pr_div : PrimR K (u2 (rI CDivW fun i j => .int (i / j))) pDiv := by
  intro vs ds d H Q h e q
  unfold pDiv at e
  split at e
  · obtain ⟨x, y, F, G, rfl, o1, o2⟩ := h.two
    split at e
    · rename_i hm
      cases o1; cases o2; cases e
      exact ⟨_, _, rfl, rfl, hm, q _ _ (.sc (.int _))⟩
    · cases e
  · cases e
theorem pr_mod : PrimR K (u2 (rI (fun _ j => 0 < j) fun i j => .int (i % j))) pMod := by
  intro vs ds d H Q h e q
  unfold pMod at e
  split at e
  · obtain ⟨x, y, F, G, rfl, o1, o2⟩ := h.two
    split at e
    · rename_i hm
      cases o1; cases o2; cases e
      exact ⟨_, _, rfl, rfl, hm, q _ _ (.sc (.int _))⟩
    · cases e
  · cases e
theorem pr_pow : PrimR K (u2 (rI CPow fun i j => .int (i ^ j.toNat))) pPow := by
  intro vs ds d H Q h e q
  unfold pPow at e
  split at e
  · obtain ⟨x, y, F, G, rfl, o1, o2⟩ := h.two
    split at e
    · rename_i hm
      cases o1; cases o2; cases e
      exact ⟨_, _, rfl, rfl, hm, q _ _ (.sc (.int _))⟩
    · cases e
  · cases e
theorem pr_shl : PrimR K (u2 (rI CPow fun i j => .int (i * 2 ^ j.toNat))) pShl := by
  intro vs ds d H Q h e q
  unfold pShl at e
  split at e
  · obtain ⟨x, y, F, G, rfl, o1, o2⟩ := h.two
    split at e
    · rename_i hm
      cases o1; cases o2; cases e
      exact ⟨_, _, rfl, rfl, hm, q _ _ (.sc (.int _))⟩
    · cases e
  · cases e
theorem pr_shr : PrimR K (u2 (rI (fun _ j => 0 ≤ j) fun i j => .int (i / 2 ^ j.toNat))) pShr := by
  intro vs ds d H Q h e q
  unfold pShr at e
  split at e
  · obtain ⟨x, y, F, G, rfl, o1, o2⟩ := h.two
    split at e
    · rename_i hm
      cases o1; cases o2; cases e
      exact ⟨_, _, rfl, rfl, hm, q _ _ (.sc (.int _))⟩
    · cases e
  · cases e
theorem pr_and : PrimR K (u2 (rI0 fun i j => .int (Builtin.bitAnd i j))) pAnd := by
  intro vs ds d H Q h e q
  unfold pAnd at e
  split at e
  · obtain ⟨x, y, F, G, rfl, o1, o2⟩ := h.two
    cases o1; cases o2; cases e
    exact ⟨_, _, rfl, rfl, q _ _ (.sc (.int _))⟩
  · cases e
theorem pr_neg : PrimR K (u1 (rU fun i => .int (-i))) pNeg := by
  intro vs ds d H Q h e q
  unfold pNeg at e
  split at e
  · obtain ⟨x, F, rfl, o1⟩ := h.one
    cases o1; cases e
    exact ⟨_, rfl, q _ _ (.sc (.int _))⟩
  · cases e
theorem pr_lt : PrimR K (u2 (rI0 fun i j => .bl (decide (i < j)))) pLt := by
  intro vs ds d H Q h e q
  unfold pLt at e
  split at e
  · obtain ⟨x, y, F, G, rfl, o1, o2⟩ := h.two
    cases o1; cases o2; cases e
    exact ⟨_, _, rfl, rfl, q _ _ (.sc (.bl _))⟩
  · cases e
theorem pr_le : PrimR K (u2 (rI0 fun i j => .bl (decide (i ≤ j)))) pLe := by
  intro vs ds d H Q h e q
  unfold pLe at e
  split at e
  · obtain ⟨x, y, F, G, rfl, o1, o2⟩ := h.two
    cases o1; cases o2; cases e
    exact ⟨_, _, rfl, rfl, q _ _ (.sc (.bl _))⟩
  · cases e
theorem pr_gt : PrimR K (u2 (rI0 fun i j => .bl (decide (j < i)))) pGt := by
  intro vs ds d H Q h e q
  unfold pGt at e
  split at e
  · obtain ⟨x, y, F, G, rfl, o1, o2⟩ := h.two
    cases o1; cases o2; cases e
    exact ⟨_, _, rfl, rfl, q _ _ (.sc (.bl _))⟩
  · cases e
theorem pr_ge : PrimR K (u2 (rI0 fun i j => .bl (decide (j ≤ i)))) pGe := by
  intro vs ds d H Q h e q
  unfold pGe at e
  split at e
  · obtain ⟨x, y, F, G, rfl, o1, o2⟩ := h.two
    cases o1; cases o2; cases e
    exact ⟨_, _, rfl, rfl, q _ _ (.sc (.bl _))⟩
  · cases e
theorem pr_eq : PrimR K (u2 (rEqD K)) pEq := by
  intro vs ds d H Q h e q
  unfold pEq at e
  split at e
  · obtain ⟨x, y, F, G, rfl, o1, o2⟩ := h.two
    split at e
    · rename_i hm
      cases e
      simp only [shp, Bool.and_eq_true] at hm
      exact ⟨_, _, o1.dp hm.1.2, o2.dp hm.2.2, hm.1.1, hm.2.1, q _ _ (.sc (.bl _))⟩
    · cases e
  · cases e
theorem pr_ne : PrimR K (u2 (rNeD K)) pNe := by
  intro vs ds d H Q h e q
  unfold pNe at e
  split at e
  · obtain ⟨x, y, F, G, rfl, o1, o2⟩ := h.two
    split at e
    · rename_i hm
      cases e
      simp only [shp, Bool.and_eq_true] at hm
      exact ⟨_, _, o1.dp hm.1.2, o2.dp hm.2.2, hm.1.1, hm.2.1, q _ _ (.sc (.bl _))⟩
    · cases e
  · cases e
theorem isN_of {H : Hp} {d : D} {v : V} {F : List Addr} (o : Own K H d v F) : decide (v = V.non) = isN d := by
  cases o <;> rfl
def rIsA : R2 := fun x y H Q => (y = .non ∧ Q (.bl (decide (x = .non))) H) ∨ (∃ a b, x = .bl a ∧ y = .bl b ∧ Q (.bl (decide (a = b))) H)
theorem op_isA {X : Cx} : OpR X (compareOp .Is) rIsA := op_isN.or op_is_bl
theorem pr_is : PrimR K (u2 rIsA) pIsN := by
  intro vs ds d H Q h e q
  unfold pIsN at e
  split at e
  · obtain ⟨x, y, F, G, rfl, o1, o2⟩ := h.two
    cases o2; cases e
    refine .inl ⟨rfl, ?_⟩
    rw [isN_of o1]
    exact q _ _ (.sc (.bl _))
  · obtain ⟨x, y, F, G, rfl, o1, o2⟩ := h.two
    cases o1; cases o2; cases e
    exact .inr ⟨_, _, rfl, rfl, q _ _ (.sc (.bl _))⟩
  · cases e
def rIsNotA : R2 := fun x y H Q => (y = .non ∧ Q (.bl (!decide (x = .non))) H) ∨ (∃ a b, x = .bl a ∧ y = .bl b ∧ Q (.bl (!decide (a = b))) H)
theorem op_isNotA {X : Cx} : OpR X (compareOp .IsNot) rIsNotA := op_notN.or op_isnot_bl
theorem pr_isnot : PrimR K (u2 rIsNotA) pNotN := by
  intro vs ds d H Q h e q
  unfold pNotN at e
  split at e
  · obtain ⟨x, y, F, G, rfl, o1, o2⟩ := h.two
    cases o2; cases e
    refine .inl ⟨rfl, ?_⟩
    rw [isN_of o1]
    exact q _ _ (.sc (.bl _))
  · obtain ⟨x, y, F, G, rfl, o1, o2⟩ := h.two
    cases o1; cases o2; cases e
    exact .inr ⟨_, _, rfl, rfl, q _ _ (.sc (.bl _))⟩
  · cases e
end
end Sim
namespace Sim
open PySem PySem.Spec L2
def oV (i : Nat) : O := fun s => match (s[i]?).join with
  | some _ => .ok (.slot i) s
  | none => .bad
def oC (d : D) : O := fun s => .ok (.val d) s
def o1 (f : List D → Option D) (a : O) : O := oPrim f (aCons a aNil)
def o2 (f : List D → Option D) (a b : O) : O := oPrim f (aCons a (aCons b aNil))
def tst (g : O) : T := fun s => (g s).bind fun r s1 => match rd r s1 with
  | some (.bool b) => .ok b s1
  | _ => .bad
def oAnd (g h : O) : O := fun s => (g s).bind fun r s1 => match rd r s1 with
  | some (.bool true) => h s1
  | some (.bool false) => .ok (.val (.bool false)) s1
  | _ => .bad
def oOr (g h : O) : O := fun s => (g s).bind fun r s1 => match rd r s1 with
  | some (.bool true) => .ok (.val (.bool true)) s1
  | some (.bool false) => h s1
  | _ => .bad
def oNot (g : O) : O := fun s => (g s).bind fun r s1 => match rd r s1 with
  | some (.bool b) => .ok (.val (.bool (!b))) s1
  | _ => .bad
def tAnd (t u : T) : T := fun s => (t s).bind fun b s1 => if b = true then u s1 else .ok false s1
def tOr (t u : T) : T := fun s => (t s).bind fun b s1 => if b = true then .ok true s1 else u s1
def tNot (t : T) : T := fun s => (t s).bind fun b s1 => .ok (!b) s1
def oIf (c : T) (a b : O) : O := fun s => (c s).bind fun k s1 => if k = true then a s1 else b s1
def oChain (f f' : List D → Option D) (a b c : O) : O := fun s => (a s).bind fun ra s1 => (b s1).bind fun rb s2 => match rds [ra, rb] s2 with
  | none => .bad
  | some ds => match f ds with
    | some (.bool true) => (c s2).bind fun rc s3 => (match rds [rb, rc] s3 with
      | none => .bad
      | some es => match f' es with
        | none => .bad
        | some d => .ok (.val d) s3)
    | some (.bool false) => .ok (.val (.bool false)) s2
    | _ => .bad
/-- a value for oneself: a slot's only where nothing in it may change -/
def own (r : Rf) (s : Sg) : Option D := match r with
  | .val d => some d
  | .slot i => match (s[i]?).join with
    | none => none
    | some d => if pur d = true then some d else none
def owns : List Rf → Sg → Option (List D)
  | [], _ => some []
  | r :: rs, s => match own r s with
    | none => none
    | some d => match owns rs s with
      | none => none
      | some ds => some (d :: ds)
def oTup (g : AL) : O := fun s => (g s).bind fun rs s1 => match owns rs s1 with
  | none => .bad
  | some ds => if ds.length ≤ 1000000 then .ok (.val (.tuple ds)) s1 else .bad
def oLst (g : AL) : O := fun s => (g s).bind fun rs s1 => match owns rs s1 with
  | none => .bad
  | some ds => if ds.length ≤ 1000000 then .ok (.val (.list ds)) s1 else .bad
def puO (o : Option D) : Option D := match o with
  | none => none
  | some d => if pur d = true then some d else none
def pIx : List D → Option D
  | [.list ds, .int i] => puO (atI ds i)
  | [.tuple ds, .int i] => puO (atI ds i)
  | [.dict [(.none, .list ds)], .int i] => puO (atI ds i)
  | [.str z, .int i] => if z.length ≤ 1000000 then (match atI z.cps.toList i with
    | none => none
    | some c => some (.str ⟨#[c]⟩)) else none
  | _ => none
def cutL {α : Type} (xs : List α) (lo hi : Option Int) : List α := (xs.drop (HT.sIx xs.length 0 lo)).take (HT.sIx xs.length xs.length hi - HT.sIx xs.length 0 lo)
def slD : D → Option Int → Option Int → Option D
  | .list ds, lo, hi => if purs ds = true then some (.list (cutL ds lo hi)) else none
  | .tuple ds, lo, hi => if purs ds = true then some (.tuple (cutL ds lo hi)) else none
  | .dict [(.none, .list ds)], lo, hi => some (.list (cutL ds lo hi))
  | .str z, lo, hi => if z.length ≤ 1000000 then some (.str (cutS z lo hi)) else none
  | _, _, _ => none
def prt (p : Option O) : Sg → Res (Option Int) := match p with
  | none => fun s => .ok none s
  | some g => fun s => (g s).bind fun r s1 => match rd r s1 with
    | some (.int i) => .ok (some i) s1
    | _ => .bad
def oSl (g : O) (lo hi : Option O) : O := fun s => (g s).bind fun r s1 => (prt lo s1).bind fun l s2 => (prt hi s2).bind fun u s3 => match rd r s3 with
  | none => .bad
  | some d => match slD d l u with
    | none => .bad
    | some d' => .ok (.val d') s3
section
variable {X : Cx} {K : PySem.W.Frag} {H : Hp} {σ : St} {Q : VK}
theorem so_var {i : Nat} {x : Str} {pos : Pos} (h : PE X (.Name x pos) (tVar i)) : SimO X (.Name x pos) (oV i) := by
  refine pe_imp h fun σ H Q h => ?_
  obtain ⟨s, Fs, r, s', R, e, q⟩ := h
  unfold oV at e
  split at e
  · rename_i d hd
    cases e
    obtain ⟨v, hv, o⟩ := R.has i d (join_some hd)
    exact ⟨v, hv, q v H Fs [] R (.refl _ _) (.slot hv) (by intro a h; cases h)⟩
  · cases e
theorem tO_c {d : D} {v : V} (o : ∀ H, Own K H d v []) (h : tO K (oC d) σ H Q) : tC v σ H Q := by
  obtain ⟨s, Fs, r, s', R, e, q⟩ := h
  cases e
  exact q v H Fs [] R (.refl _ _) (.val ⟨o H, fun _ _ _ z => by cases z⟩) (by intro a h; cases h)
theorem so_int {i : Int} {j : Nat} {pos : Pos} : SimO X (.Constant (.int i) j pos) (oC (.int i)) := pe_imp pe_int fun _ _ _ h => tO_c (fun _ => .int i) h
theorem so_bl {b : Bool} {j : Nat} {pos : Pos} : SimO X (.Constant (.bool b) j pos) (oC (.bool b)) := pe_imp pe_bl fun _ _ _ h => tO_c (fun _ => .bl b) h
theorem so_non {j : Nat} {pos : Pos} : SimO X (.Constant .none j pos) (oC .none) := pe_imp pe_non fun _ _ _ h => tO_c (fun _ => .non) h
theorem so_str {x : Str} {j : Nat} {pos : Pos} : SimO X (.Constant (.str x) j pos) (oC (.str x)) := pe_imp pe_str fun _ _ _ h => tO_c (fun _ => .str x) h
variable {a b c : Expr} {ga gb gc : O} {pos : Pos}
theorem so_bin {op : Operator} {r : R2} {f : List D → Option D} (ho : OpR X (binaryOp op) r) (hp : PrimR X.K (u2 r) f) (ha : SimO X a ga) (hb : SimO X b gb) : SimO X (.BinOp a op b pos) (o2 f ga gb) :=
  pe_imp (pe_op ho ha hb) fun _ _ _ h => by have z := tA2 (prim hp h); exact z
theorem so_un {op : UnaryOp} {r : V → Hp → VK → Prop} {f : List D → Option D} (ho : UnR X (unaryOp op) r) (hp : PrimR X.K (u1 r) f) (ha : SimO X a ga) : SimO X (.UnaryOp op a pos) (o1 f ga) :=
  pe_imp (pe_un ho ha) fun _ _ _ h => by have z := tA1 (prim hp h); exact z
theorem so_cmp {op : CmpOp} {r : R2} {f : List D → Option D} (ho : OpR X (compareOp op) r) (hp : PrimR X.K (u2 r) f) (ha : SimO X a ga) (hb : SimO X b gb) (hm : behindInMarks op b = false) : SimO X (.Compare a [op] [b] pos) (o2 f ga gb) :=
  pe_imp (pe_cmpR ho ha hb hm) fun _ _ _ h => by have z := tA2 (prim hp h); exact z
theorem tT_tst {g : O} {Q : Bool → Hp → Prop} (h : tT K (tst g) σ H Q) : tO K g σ H fun x H1 => ∃ k, x = .bl k ∧ Q k H1 := by
  obtain ⟨s, Fs, b, s', R, e, q⟩ := h
  obtain ⟨r, s1, e1, e⟩ := bind_inv e
  refine ⟨s, Fs, r, s1, R, e1, fun v H1 Fs1 F R1 E1 k1 n1 => ?_⟩
  split at e
  · rename_i b' hb
    cases e
    obtain ⟨F', o⟩ := k1.dp R1 hb
    cases o
    exact ⟨_, rfl, q H1 Fs1 R1 E1⟩
  · cases e
theorem st_cmp {op : CmpOp} {r : R2} {f : List D → Option D} (ho : OpR X (compareOp op) r) (hp : PrimR X.K (u2 r) f) (ha : SimO X a ga) (hb : SimO X b gb) (hm : behindInMarks op b = false) : SimT X (.Compare a [op] [b] pos) (tst (o2 f ga gb)) :=
  pt_imp (pt_cmpR ho ha hb hm) fun _ _ _ h => by have z := tA2 (prim hp (tT_tst h)); exact z
theorem tT_and {t u : T} {Q : Bool → Hp → Prop} (h : tT K (tAnd t u) σ H Q) : L2.tAnd (tT K t) (tT K u) σ H Q := by
  obtain ⟨s, Fs, b, s', R, e, q⟩ := h
  obtain ⟨b1, s1, e1, e⟩ := bind_inv e
  refine ⟨s, Fs, b1, s1, R, e1, fun H1 Fs1 R1 E1 => ?_⟩
  cases b1 with
  | true => exact ⟨s1, Fs1, b, s', R1, e, fun H2 Fs2 R2 E2 => q H2 Fs2 R2 (E1.trans E2)⟩
  | false => cases e; exact q H1 Fs1 R1 E1
theorem tT_or {t u : T} {Q : Bool → Hp → Prop} (h : tT K (tOr t u) σ H Q) : L2.tOr (tT K t) (tT K u) σ H Q := by
  obtain ⟨s, Fs, b, s', R, e, q⟩ := h
  obtain ⟨b1, s1, e1, e⟩ := bind_inv e
  refine ⟨s, Fs, b1, s1, R, e1, fun H1 Fs1 R1 E1 => ?_⟩
  cases b1 with
  | false => exact ⟨s1, Fs1, b, s', R1, e, fun H2 Fs2 R2 E2 => q H2 Fs2 R2 (E1.trans E2)⟩
  | true => cases e; exact q H1 Fs1 R1 E1
theorem tT_not {t : T} {Q : Bool → Hp → Prop} (h : tT K (tNot t) σ H Q) : L2.tNot (tT K t) σ H Q := by
  obtain ⟨s, Fs, b, s', R, e, q⟩ := h
  obtain ⟨b1, s1, e1, e⟩ := bind_inv e
  refine ⟨s, Fs, b1, s1, R, e1, fun H1 Fs1 R1 E1 => ?_⟩
  cases e
  exact q H1 Fs1 R1 E1
/-- and, or, whatever the whole is -/
def SimW (X : Cx) (e : Expr) (g : T) : Prop := PW X e (tT X.K g)
theorem pw_imp {e : Expr} {t t' : TT} (h : PW X e t) (i : ∀ σ H Q, t' σ H Q → t σ H Q) : PW X e t' := ⟨fun wh pins s σ H Q I q => h.run wh pins s σ H Q I (i σ H Q q)⟩
theorem sw_and1 {t : T} (ha : SimT X a t) : SimW X (.BoolOp .And [a] pos) t := pw_and1 ha
theorem sw_or1 {t : T} (ha : SimT X a t) : SimW X (.BoolOp .Or [a] pos) t := pw_or1 ha
theorem sw_and {rest : List Expr} {t u : T} (ha : SimT X a t) (hb : SimW X (.BoolOp .And (b :: rest) pos) u) : SimW X (.BoolOp .And (a :: b :: rest) pos) (tAnd t u) := pw_imp (pw_and ha hb) fun _ _ _ h => tT_and h
theorem sw_or {rest : List Expr} {t u : T} (ha : SimT X a t) (hb : SimW X (.BoolOp .Or (b :: rest) pos) u) : SimW X (.BoolOp .Or (a :: b :: rest) pos) (tOr t u) := pw_imp (pw_or ha hb) fun _ _ _ h => tT_or h
theorem st_w {e : Expr} {t : T} (h : SimW X e t) : SimT X e t := PW.pt h
theorem st_not {t : T} (ha : SimT X a t) : SimT X (.UnaryOp .Not a pos) (tNot t) := pt_imp (pt_not ha) fun _ _ _ h => tT_not h
theorem tO_and {g h : O} (z : tO K (oAnd g h) σ H Q) : tAndV (tO K g) (tO K h) σ H Q := by
  obtain ⟨s, Fs, r, s', R, e, q⟩ := z
  obtain ⟨r1, s1, e1, e⟩ := bind_inv e
  refine ⟨s, Fs, r1, s1, R, e1, fun v H1 Fs1 F R1 E1 k1 n1 => ?_⟩
  split at e
  · rename_i hb
    obtain ⟨F', o⟩ := k1.dp R1 hb
    cases o
    exact ⟨true, rfl, s1, Fs1, r, s', R1, e, fun v H2 Fs2 F2 R2 E2 k2 n2 => q v H2 Fs2 F2 R2 (E1.trans E2) k2 fun a ha => E1.chg.there a (n2 a ha)⟩
  · rename_i hb
    obtain ⟨F', o⟩ := k1.dp R1 hb
    cases o
    cases e
    exact ⟨false, rfl, q _ H1 Fs1 [] R1 E1 (.val ⟨.bl _, fun _ _ _ z => by cases z⟩) (by intro a h; cases h)⟩
  · cases e
theorem tO_not {g : O} (z : tO K (oNot g) σ H Q) : tNotV (tO K g) σ H Q := by
  obtain ⟨s, Fs, r, s', R, e, q⟩ := z
  obtain ⟨r1, s1, e1, e⟩ := bind_inv e
  refine ⟨s, Fs, r1, s1, R, e1, fun v H1 Fs1 F R1 E1 k1 n1 => ?_⟩
  split at e
  · rename_i b hb
    obtain ⟨F', o⟩ := k1.dp R1 hb
    cases o
    cases e
    exact ⟨b, rfl, q _ H1 Fs1 [] R1 E1 (.val ⟨.bl _, fun _ _ _ z => by cases z⟩) (by intro a h; cases h)⟩
  · cases e
theorem so_one {op : BoolOp} (h : SimO X a ga) : SimO X (.BoolOp op [a] pos) ga := pe_one h
theorem so_and {rest : List Expr} (ha : SimO X a ga) (hb : SimO X (.BoolOp .And (b :: rest) pos) gb) : SimO X (.BoolOp .And (a :: b :: rest) pos) (oAnd ga gb) := pe_imp (pe_and ha hb) fun _ _ _ h => tO_and h
theorem so_not (ha : SimO X a ga) : SimO X (.UnaryOp .Not a pos) (oNot ga) := pe_imp (pe_not ha) fun _ _ _ h => tO_not h
theorem rfs2 {Fs : Fp} {r1 r2 : Rf} {x y : V} {F G : List Addr} (k1 : RfOk K H σ Fs r1 x F) (k2 : RfOk K H σ Fs r2 y G) {s : Sg} (R : RelS K H s σ Fs) {ds : List D} (e : rds [r1, r2] s = some ds) : RdA K H [x, y] ds := by
  unfold rds at e
  split at e
  · cases e
  · rename_i d1 h1
    split at e
    · cases e
    · rename_i es h2
      cases e
      obtain ⟨F1, o1⟩ := k1.dp R h1
      unfold rds at h2
      split at h2
      · cases h2
      · rename_i d2 h3
        cases h2
        obtain ⟨F2, o2⟩ := k2.dp R h3
        exact .cons o1 (.cons o2 .nil)
theorem tO_chain {r r' : R2} {f f' : List D → Option D} (hp : PrimR K (u2 r) f) (hp' : PrimR K (u2 r') f') (z : tO K (oChain f f' ga gb gc) σ H Q) : tChain r r' (tO K ga) (tO K gb) (tO K gc) σ H Q := by
  obtain ⟨s, Fs, rf, s', R, e, q⟩ := z
  obtain ⟨r1, s1, e1, e⟩ := bind_inv e
  refine ⟨s, Fs, r1, s1, R, e1, fun x H1 Fs1 F1 R1 E1 k1 n1 => ?_⟩
  obtain ⟨r2, s2, e2, e⟩ := bind_inv e
  refine ⟨s1, Fs1, r2, s2, R1, e2, fun y H2 Fs2 F2 R2 E2 k2 n2 => ?_⟩
  split at e
  · cases e
  · rename_i ds hds
    have rr := rfs2 (k1.ev E2) k2 R2 hds
    split at e
    · rename_i hf
      refine hp [x, y] ds _ H2 _ rr hf fun v H3 hv => ?_
      obtain ⟨R3, E3, F3, k3, n3⟩ := hv.ok R2
      cases k3 with
      | val A3 =>
        cases A3.own
        refine ⟨true, rfl, iteT ?_⟩
        obtain ⟨r4, s4, e4, e⟩ := bind_inv e
        refine ⟨s2, Fs2, r4, s4, R3, e4, fun w H4 Fs4 F4 R4 E4 k4 n4 => ?_⟩
        split at e
        · cases e
        · rename_i es hes
          split at e
          · cases e
          · rename_i d hd
            cases e
            have rr' := rfs2 ((k2.ev E3).ev E4) k4 R4 hes
            refine hp' [y, w] es d H4 Q rr' hd fun v H5 hv => ?_
            obtain ⟨R5, E5, F5, k5, n5⟩ := hv.ok R4
            exact q v H5 Fs4 F5 R5 ((((E1.trans E2).trans E3).trans E4).trans E5) k5 fun a ha => (((E1.trans E2).trans E3).trans E4).chg.there a (n5 a ha)
    · rename_i hf
      cases e
      refine hp [x, y] ds _ H2 _ rr hf fun v H3 hv => ?_
      obtain ⟨R3, E3, F3, k3, n3⟩ := hv.ok R2
      have k3' := k3
      cases k3 with
      | val A3 =>
        cases A3.own
        exact ⟨false, rfl, iteF (q _ H3 Fs2 _ R3 ((E1.trans E2).trans E3) k3' (by intro a h; cases h))⟩
    · cases e
theorem so_chain {op op' : CmpOp} {r r' : R2} {f f' : List D → Option D} (ho : OpR X (compareOp op) r) (hp : PrimR X.K (u2 r) f) (ho' : OpR X (compareOp op') r') (hp' : PrimR X.K (u2 r') f') (ha : SimO X a ga) (hb : SimO X b gb) (hc : SimO X c gc)
    (hm : lastMarks [op, op'] [b, c] = false := by with_unfolding_all rfl) : SimO X (.Compare a [op, op'] [b, c] pos) (oChain f f' ga gb gc) := pe_imp (pe_chain ho ho' ha hb hc hm) fun _ _ _ h => tO_chain hp hp' h
theorem Rfs.own {s : Sg} {Fs : Fp} (R : RelS K H s σ Fs) {rs : List Rf} {vs : List V} {Gs : List (List Addr)} (r : Rfs K H σ Fs rs vs Gs) : ∀ {ds : List D}, owns rs s = some ds → OwnA K H ds vs Gs.flatten ∧ ∀ i a, a ∈ Fs i → a ∉ Gs.flatten := by
  induction r with
  | nil => intro ds e; cases e; exact ⟨.nil, by simp⟩
  | @val d v F rs vs Gs A n _ ih =>
    intro ds e
    unfold owns at e
    simp only [Sim.own] at e
    split at e
    · cases e
    · rename_i es h
      cases e
      obtain ⟨h1, h2⟩ := ih h
      rw [List.flatten_cons]
      refine ⟨.cons A.own h1 fun a ha hb => ?_, fun i a hi ha => ?_⟩
      · obtain ⟨G, hG, hb⟩ := List.mem_flatten.mp hb
        exact n G hG a ha hb
      · rcases List.mem_append.mp ha with ha | ha
        · exact A.dis i a hi ha
        · exact h2 i a hi ha
  | @slot i v rs vs Gs hv _ ih =>
    intro ds e
    unfold owns at e
    simp only [Sim.own] at e
    split at e
    · cases e
    · rename_i d hd
      split at e
      · cases e
      · rename_i es h
        cases e
        split at hd
        · cases hd
        · rename_i d' hd'
          split at hd
          · rename_i hp
            cases hd
            obtain ⟨h1, h2⟩ := ih h
            obtain ⟨v', hv', o⟩ := R.has i d (join_some hd')
            rw [hv] at hv'
            cases hv'
            have e0 := o.pur hp
            rw [e0] at o
            rw [List.flatten_cons]
            exact ⟨OwnA.cons (F := []) o h1 (by simp), h2⟩
          · cases hd
theorem tO_tup {g : AL} (z : tO K (oTup g) σ H Q) : tTupD (tA K g) σ H Q := by
  obtain ⟨s, Fs, rf, s', R, e, q⟩ := z
  obtain ⟨rs, s1, e1, e⟩ := bind_inv e
  refine ⟨s, Fs, rs, s1, R, e1, fun vs H1 Fs1 Gs R1 E1 k1 n1 => ?_⟩
  split at e
  · cases e
  · rename_i ds hds
    split at e
    · rename_i hl
      cases e
      obtain ⟨o, dj⟩ := k1.own R1 hds
      refine ⟨by rw [o.len]; exact Nat.le_trans hl big_le, fun p ob hp hn => ?_⟩
      have sm : Same H1 (upd H1 p (.frz ob (.tup vs))) := same_new hp
      refine q _ _ Fs1 Gs.flatten (R1.same sm) (E1.trans (.same _ sm)) (.val ⟨.tup (SqD.of upd_same hn) (o.chg (Fa := fun _ => False) (.same sm) fun _ _ z => z), dj⟩) fun a ha => ?_
      obtain ⟨G, hG, hb⟩ := List.mem_flatten.mp ha
      exact n1 G hG a hb
    · cases e
theorem tO_lst {g : AL} (z : tO K (oLst g) σ H Q) : tLst (tA K g) σ H Q := by
  obtain ⟨s, Fs, rf, s', R, e, q⟩ := z
  obtain ⟨rs, s1, e1, e⟩ := bind_inv e
  refine ⟨s, Fs, rs, s1, R, e1, fun vs H1 Fs1 Gs R1 E1 k1 n1 => ?_⟩
  split at e
  · cases e
  · rename_i ds hds
    split at e
    · rename_i hl
      cases e
      obtain ⟨o, dj⟩ := k1.own R1 hds
      refine ⟨by rw [o.len]; exact Nat.le_trans hl big_le, fun p hp => ?_⟩
      have sm : Same H1 (upd H1 p (.lst vs)) := same_new hp
      have np : p ∉ Gs.flatten := fun z => by
        obtain ⟨xs, w⟩ := o.mem p z
        rw [hp] at w; cases w
      refine q _ _ Fs1 (p :: Gs.flatten) (R1.same sm) (E1.trans (.same _ sm)) (.val ⟨.lst upd_same (o.chg (Fa := fun _ => False) (.same sm) fun _ _ z => z) np, fun i a hi ha => ?_⟩) fun a ha => ?_
      · rcases List.mem_cons.mp ha with rfl | ha
        · obtain ⟨xs, w⟩ := R1.mem hi
          rw [hp] at w; cases w
        · exact dj i a hi ha
      · rcases List.mem_cons.mp ha with rfl | ha
        · exact E1.chg.there _ hp
        · obtain ⟨G, hG, hb⟩ := List.mem_flatten.mp ha
          exact n1 G hG a hb
    · cases e
theorem so_tup {es : List Expr} {k : Nat} {g : AL} (h : SimA X es g) : SimO X (.Tuple es k pos) (oTup g) := pe_imp (pe_tupD h) fun _ _ _ h => tO_tup h
theorem so_lst {es : List Expr} {g : AL} (h : SimA X es g) : SimO X (.List es pos) (oLst g) := pe_imp (pe_lst h) fun _ _ _ h => tO_lst h
theorem atI_own {ds : List D} {vs : List V} {F : List Addr} (t : OwnA K H ds vs F) {i : Int} {d : D} (e : puO (atI ds i) = some d) : ∃ v, atI vs i = some v ∧ Own K H d v [] ∧ pur d = true := by
  unfold puO at e
  split at e
  · cases e
  · rename_i d' h
    split at e
    · rename_i hp
      cases e
      unfold atI at h ⊢
      rw [t.len]
      cases hj : ixN ds.length i with
      | none => rw [hj] at h; cases h
      | some j =>
        rw [hj] at h
        obtain ⟨v, G, hv, o, _⟩ := t.get j d h
        have e0 := o.pur hp
        rw [e0] at o
        exact ⟨v, hv, o, hp⟩
    · cases e
theorem pr_ix : PrimR K (u2 (rIx K)) pIx := by
  intro vs ds d H Q h e q
  unfold pIx at e
  split at e
  · obtain ⟨x, y, F, G, rfl, o1, o2⟩ := h.two
    cases o2
    cases o1 with
    | lst h1 t n =>
      obtain ⟨v, hv, o, hp⟩ := atI_own t e
      exact .inl ⟨_, _, _, v, rfl, rfl, SqL.of h1, hv, q _ _ (.sc o)⟩
  · obtain ⟨x, y, F, G, rfl, o1, o2⟩ := h.two
    cases o2
    cases o1 with
    | tup h1 t =>
      obtain ⟨v, hv, o, hp⟩ := atI_own t e
      exact .inr (.inl ⟨_, _, _, v, rfl, rfl, h1.sq, hv, q _ _ (.sc o)⟩)
  · obtain ⟨x, y, F, G, rfl, o1, o2⟩ := h.two
    cases o2
    cases o1 with
    | frz h1 t =>
      obtain ⟨v, hv, o, hp⟩ := atI_own t e
      exact .inl ⟨_, _, _, v, rfl, rfl, h1.sq, hv, q _ _ (.sc o)⟩
  · obtain ⟨x, y, F, G, rfl, o1, o2⟩ := h.two
    cases o2; cases o1
    split at e
    · rename_i hz
      split at e
      · cases e
      · rename_i c hc
        cases e
        exact .inr (.inr ⟨_, _, c, rfl, rfl, Nat.le_trans hz big_le, hc, q _ _ (.sc (.str _))⟩)
    · cases e
  · cases e
theorem so_ix (ha : SimO X a ga) (hb : SimO X b gb) (hs : PlainIx b := by exact fun _ _ => rfl) : SimO X (.Subscript a b pos) (o2 pIx ga gb) := pe_imp (pe_ix ix_seq ha hb hs) fun _ _ _ h => by have z := tA2 (prim pr_ix h); exact z
def SimP (X : Cx) (e : Option Expr) (p : Option O) : Prop :=
  PO X e fun σ H Q => ∃ s Fs o s', RelS X.K H s σ Fs ∧ prt p s = .ok o s' ∧ ∀ H' Fs', RelS X.K H' s' σ Fs' → Ev H Fs H' Fs' → Q o H'
theorem po_imp {e : Option Expr} {t t' : TO} (h : PO X e t) (i : ∀ σ H Q, t' σ H Q → t σ H Q) : PO X e t' := ⟨fun pins s σ H Q I q => h.run pins s σ H Q I (i σ H Q q)⟩
theorem sp_none : SimP X none none := po_imp po_none fun σ H Q ⟨s, Fs, o, s', R, e, q⟩ => by
  cases e
  exact q H Fs R (.refl _ _)
theorem sp_some (ha : SimO X a ga) : SimP X (some a) (some ga) := po_imp (po_some ha) fun σ H Q ⟨s, Fs, o, s', R, e, q⟩ => by
  obtain ⟨r, s1, e1, e⟩ := bind_inv e
  refine ⟨s, Fs, r, s1, R, e1, fun v H1 Fs1 F R1 E1 k1 n1 => ?_⟩
  split at e
  · rename_i i hb
    cases e
    obtain ⟨F', o⟩ := k1.dp R1 hb
    cases o
    exact ⟨_, rfl, q H1 Fs1 R1 E1⟩
  · cases e
def rSlAll (K : PySem.W.Frag) : V → Option Int → Option Int → Hp → VK → Prop := fun x lo hi H Q => rSlL K x lo hi H Q ∨ rSlD K x lo hi H Q ∨ rSlS x lo hi H Q
theorem cutL_whole {α : Type} {xs : List α} {lo hi : Option Int} (h : HT.sIx xs.length 0 lo = 0 ∧ HT.sIx xs.length xs.length hi = xs.length) : cutL xs lo hi = xs := by
  unfold cutL
  rw [h.1, h.2]
  simp
theorem OwnA.cut {ds : List D} {vs : List V} (t : OwnA K H ds vs []) (lo hi : Option Int) : OwnA K H (cutL ds lo hi) (cutV vs lo hi) [] := by
  unfold cutL cutV
  rw [t.len]
  exact (t.drop _).take _
theorem sl_all {d d' : D} {l u : Option Int} {v : V} {F : List Addr} (o : Own K H d v F) (e : slD d l u = some d') (q : ∀ v H', NewV K H d' v H' → Q v H') : rSlAll K v l u H Q := by
  unfold slD at e
  split at e
  · split at e
    · rename_i hp
      cases e
      cases o with
      | lst h1 t n =>
        have e0 := t.pur hp
        subst e0
        exact .inl ⟨_, _, rfl, SqL.of h1, fun p hp => q _ _ (.lst (t.cut l u) hp)⟩
    · cases e
  · split at e
    · rename_i hp
      cases e
      cases o with
      | tup h1 t =>
        have e0 := t.pur hp
        subst e0
        refine .inr (.inl ⟨_, _, rfl, h1.sq, fun hw => q _ _ (.sc ?_), fun _ p ob hp hn => q _ _ (.tup (t.cut l u) hp hn)⟩)
        rw [t.len] at hw
        rw [cutL_whole hw]
        exact .tup h1 t
    · cases e
  · cases e
    cases o with
    | frz h1 t => exact .inl ⟨_, _, rfl, h1.sq, fun p hp => q _ _ (.lst (t.cut l u) hp)⟩
  · split at e
    · rename_i hz
      cases e
      cases o
      exact .inr (.inr ⟨_, rfl, Nat.le_trans hz big_le, q _ _ (.sc (.str _))⟩)
    · cases e
  · cases e
theorem so_slice {lo hi : Option Expr} {l u : Option O} {p2 : Pos} (ha : SimO X a ga) (hl : SimP X lo l) (hu : SimP X hi u) : SimO X (.Subscript a (.Slice lo hi none p2) pos) (oSl ga l u) := by
  refine pe_imp (pe_slice (r := rSlAll X.K) (sl_list.or (sl_tupD.or sl_str)) ha hl hu) fun σ H Q z => ?_
  obtain ⟨s, Fs, rf, s', R, e, q⟩ := z
  obtain ⟨r, s1, e1, e⟩ := bind_inv e
  refine ⟨s, Fs, r, s1, R, e1, fun v H1 Fs1 F R1 E1 k1 n1 => ?_⟩
  obtain ⟨l', s2, e2, e⟩ := bind_inv e
  refine ⟨s1, Fs1, l', s2, R1, e2, fun H2 Fs2 R2 E2 => ?_⟩
  obtain ⟨u', s3, e3, e⟩ := bind_inv e
  refine ⟨s2, Fs2, u', s3, R2, e3, fun H3 Fs3 R3 E3 => ?_⟩
  split at e
  · cases e
  · rename_i d hd
    split at e
    · cases e
    · rename_i d' hd'
      cases e
      obtain ⟨F', o⟩ := ((k1.ev E2).ev E3).dp R3 hd
      refine sl_all o hd' fun v' H4 hv => ?_
      obtain ⟨R4, E4, F4, k4, n4⟩ := hv.ok R3
      exact q v' H4 Fs3 F4 R4 (((E1.trans E2).trans E3).trans E4) k4 fun a ha => ((E1.trans E2).trans E3).chg.there a (n4 a ha)
theorem so_callB {x : Str} {p : Pos} {e : Expr} {es : List Expr} {g : AL} {id : String} {r : List V → Hp → VK → Prop} {f : List D → Option D} (hc : CallR X (.builtin id) r) (hp : PrimR X.K r f) (hg : Gl X x) (hm : X.mg x = none) (hv : bootBuiltins x = some (.builtin id)) (ha : SimA X (e :: es) g)
    (hn : x ≠ "__name__" := by decide) (hdb : (x == ("__debug__" : Str)) = false := by decide) (he : starEach (e :: es) X.env = (false, eval e X.env) :: starEach es X.env := by rfl) (hpl : (backTo pos (starEach es X.env)).any (·.1) = false := by rfl) :
    SimO X (.Call (.Name x p) (e :: es) [] pos) (oPrim f g) := pe_imp (pe_callB hc hg hm hv ha hn hdb he hpl) fun _ _ _ h => prim hp h
theorem so_callTy {x : Str} {p : Pos} {e : Expr} {es : List Expr} {g : AL} {T : String} {r : List V → Hp → VK → Prop} {f : List D → Option D} (hc : CallR X (.type T) r) (hp : PrimR X.K r f) (hg : Gl X x) (hm : X.mg x = none) (hv : bootBuiltins x = some (.type T)) (ha : SimA X (e :: es) g)
    (hn : x ≠ "__name__" := by decide) (hdb : (x == ("__debug__" : Str)) = false := by decide) (he : starEach (e :: es) X.env = (false, eval e X.env) :: starEach es X.env := by rfl) (hpl : (backTo pos (starEach es X.env)).any (·.1) = false := by rfl) :
    SimO X (.Call (.Name x p) (e :: es) [] pos) (oPrim f g) := pe_imp (pe_callTy hc hg hm hv ha hn hdb he hpl) fun _ _ _ h => prim hp h
end
end Sim
namespace Sim
open PySem PySem.Spec L2
def upF (Fs : Fp) (i : Nat) (F : List Addr) : Fp := fun j => if j = i then F else Fs j
def Lk (lk : Nat → Bool) (σ σ' : St) : Prop := ∀ i, lk i = true → σ'[i]? = σ[i]?
theorem Lk.refl (lk : Nat → Bool) (σ : St) : Lk lk σ σ := fun _ _ => rfl
theorem Lk.trans {lk : Nat → Bool} {σ σ1 σ' : St} (a : Lk lk σ σ1) (b : Lk lk σ1 σ') : Lk lk σ σ' := fun i h => (b i h).trans (a i h)
theorem Lk.set {lk : Nat → Bool} {σ : St} {i : Nat} {v : Option V} (h : lk i = false) : Lk lk σ (σ.set i v) := fun j hj => by
  rw [List.getElem?_set_ne]
  intro e
  subst e
  rw [h] at hj
  cases hj
section
variable {K : PySem.W.Frag} {H H1 H' : Hp} {s s' : Sg} {σ σ' : St} {Fs Fs1 Fs' : Fp}
/-- a slot gets what stands apart -/
theorem RelS.put (R : RelS K H s σ Fs) {d : D} {v : V} {F : List Addr} (A : Apart K H Fs d v F) (i : Nat) : ∃ Fs', RelS K H (s.set i (some d)) (σ.set i (some v)) Fs' ∧ ∀ j a, a ∈ Fs' j → (a ∈ Fs j ∧ j ≠ i) ∨ (a ∈ F ∧ j = i) := by
  by_cases hi : i < s.length
  · refine ⟨upF Fs i F, ⟨by rw [List.length_set, List.length_set, R.len], fun j d' e => ?_, fun j h => ?_, fun j k a h1 h2 => ?_⟩, fun j a h => ?_⟩
    · by_cases hj : j = i
      · subst hj
        rw [List.getElem?_set_self hi] at e
        cases e
        refine ⟨v, by rw [List.getElem?_set_self (by rw [← R.len]; exact hi)], ?_⟩
        unfold upF
        rw [if_pos rfl]
        exact A.own
      · rw [List.getElem?_set_ne (Ne.symm hj)] at e
        obtain ⟨v', hv', o⟩ := R.has j d' e
        refine ⟨v', by rw [List.getElem?_set_ne (Ne.symm hj)]; exact hv', ?_⟩
        unfold upF
        rw [if_neg hj]
        exact o
    · unfold upF
      by_cases hj : j = i
      · subst hj
        exact absurd (List.getElem?_set_self hi) (h d)
      · rw [if_neg hj]
        exact R.off j fun d' e => h d' (by rw [List.getElem?_set_ne (Ne.symm hj)]; exact e)
    · unfold upF at h1 h2
      split at h1
      · split at h2
        · omega
        · exact absurd h1 (A.dis k a h2)
      · split at h2
        · exact absurd h2 (A.dis j a h1)
        · exact R.dis j k a h1 h2
    · unfold upF at h
      split at h
      · exact .inr ⟨h, by assumption⟩
      · exact .inl ⟨h, by assumption⟩
  · have e1 : s.set i (some d) = s := by rw [List.set_eq_of_length_le (by omega)]
    have e2 : σ.set i (some v) = σ := by rw [List.set_eq_of_length_le (by rw [← R.len]; omega)]
    rw [e1, e2]
    refine ⟨Fs, R, fun j a h => .inl ⟨h, ?_⟩⟩
    rintro rfl
    rw [R.off j (fun d e => by rw [List.getElem?_eq_none (by omega)] at e; cases e)] at h
    cases h
/-- a slot is emptied -/
theorem RelS.drop (R : RelS K H s σ Fs) (i : Nat) : RelS K H (s.set i none) σ (upF Fs i []) := by
  refine ⟨by rw [List.length_set, R.len], fun j d' e => ?_, fun j h => ?_, fun j k a h1 h2 => ?_⟩
  · by_cases hj : j = i
    · subst hj
      by_cases hi : j < s.length
      · rw [List.getElem?_set_self hi] at e; cases e
      · rw [List.getElem?_eq_none (by rw [List.length_set]; omega)] at e; cases e
    · rw [List.getElem?_set_ne (Ne.symm hj)] at e
      obtain ⟨v', hv', o⟩ := R.has j d' e
      refine ⟨v', hv', ?_⟩
      unfold upF
      rw [if_neg hj]
      exact o
  · unfold upF
    by_cases hj : j = i
    · rw [if_pos hj]
    · rw [if_neg hj]
      exact R.off j fun d' e => h d' (by rw [List.getElem?_set_ne (Ne.symm hj)]; exact e)
  · unfold upF at h1 h2
    split at h1
    · cases h1
    · split at h2
      · cases h2
      · exact R.dis j k a h1 h2
/-- the list of a slot is written -/
theorem RelS.wr (R : RelS K H s σ Fs) {i : Nat} {ds ds' : List D} {l : Addr} {vs vs' : List V} {F F' Fd : List Addr} (e : s[i]? = some (some (.list ds))) (ev : σ[i]? = some (some (.ref l))) (hl : H l = some (.lst vs)) (eF : Fs i = l :: F)
    (o : OwnA K H ds' vs' F') (n : l ∉ F') (hF : ∀ a, a ∈ F' → a ∈ F ∨ a ∈ Fd) (hd : ∀ j a, a ∈ Fs j → a ∉ Fd) :
    ∃ Fs', RelS K (upd H l (.lst vs')) (s.set i (some (.list ds'))) σ Fs' ∧ Chg (InF Fs) H (upd H l (.lst vs')) ∧ ∀ j a, a ∈ Fs' j → a ∈ Fs j ∨ a ∈ Fd := by
  have hi : i < s.length := by
    rcases Nat.lt_or_ge i s.length with h | h
    · exact h
    · rw [List.getElem?_eq_none h] at e; cases e
  have li : l ∈ Fs i := by rw [eF]; exact List.mem_cons_self ..
  have chg : Chg (fun a => a = l) H (upd H l (.lst vs')) := ⟨fun a ob e c => by
    by_cases ha : a = l
    · subst ha
      rcases c with c | c
      · exact absurd rfl c
      · rw [hl] at e
        cases e
        cases c
    · rw [upd_ne ha]; exact e, fun a e => by
    by_cases ha : a = l
    · subst ha; rw [upd_same] at e; cases e
    · rw [upd_ne ha] at e; exact e⟩
  refine ⟨upF Fs i (l :: F'), ⟨by rw [List.length_set, R.len], fun j d' e' => ?_, fun j h => ?_, fun j k a h1 h2 => ?_⟩, ⟨fun a ob e c => chg.keep a ob e (c.imp (fun z w => z ⟨i, by rw [w]; exact li⟩) id), chg.there⟩, fun j a h => ?_⟩
  · by_cases hj : j = i
    · subst hj
      rw [List.getElem?_set_self hi] at e'
      cases e'
      refine ⟨_, ev, ?_⟩
      unfold upF
      rw [if_pos rfl]
      exact .lst upd_same (o.chg chg fun a ha w => n (by rw [← w]; exact ha)) n
    · rw [List.getElem?_set_ne (Ne.symm hj)] at e'
      obtain ⟨v', hv', o'⟩ := R.has j d' e'
      refine ⟨v', hv', ?_⟩
      unfold upF
      rw [if_neg hj]
      exact o'.chg chg fun a ha w => hj (R.dis j i l (by rw [← w]; exact ha) li)
  · unfold upF
    by_cases hj : j = i
    · subst hj
      exact absurd (List.getElem?_set_self hi) (h _)
    · rw [if_neg hj]
      exact R.off j fun d' e => h d' (by rw [List.getElem?_set_ne (Ne.symm hj)]; exact e)
  · have key : ∀ {m : Nat}, m ≠ i → a ∈ l :: F' → a ∈ Fs m → False := fun {m} hm g1 g2 => by
      rcases List.mem_cons.mp g1 with e3 | g1
      · exact hm (R.dis m i a g2 (by rw [e3]; exact li))
      · rcases hF a g1 with q | q
        · exact hm (R.dis m i a g2 (by rw [eF]; exact List.mem_cons_of_mem _ q))
        · exact hd m a g2 q
    by_cases hj : j = i
    · by_cases hk : k = i
      · omega
      · unfold upF at h1 h2
        rw [if_pos hj] at h1
        rw [if_neg hk] at h2
        exact (key hk h1 h2).elim
    · by_cases hk : k = i
      · unfold upF at h1 h2
        rw [if_neg hj] at h1
        rw [if_pos hk] at h2
        exact (key hj h2 h1).elim
      · unfold upF at h1 h2
        rw [if_neg hj] at h1
        rw [if_neg hk] at h2
        exact R.dis j k a h1 h2
  · unfold upF at h
    split at h
    · rename_i hj
      subst hj
      rcases List.mem_cons.mp h with rfl | h
      · exact .inl li
      · rcases hF a h with q | q
        · exact .inl (by rw [eF]; exact List.mem_cons_of_mem _ q)
        · exact .inr q
    · exact .inl h
theorem own_list {H : Hp} {ds : List D} {v : V} {G : List Addr} (h : Own K H (.list ds) v G) : ∃ l vs F, v = .ref l ∧ G = l :: F ∧ H l = some (.lst vs) ∧ OwnA K H ds vs F ∧ l ∉ F := by
  cases h with
  | lst h1 t n => exact ⟨_, _, _, rfl, rfl, h1, t, n⟩
theorem own_tup {H : Hp} {ds : List D} {v : V} {G : List Addr} (h : Own K H (.tuple ds) v G) : ∃ a vs, v = .ref a ∧ SqT K H a vs ∧ OwnA K H ds vs G := by
  cases h with
  | tup h1 t => exact ⟨_, _, rfl, h1.sq, t⟩
theorem OwnA.snoc {H : Hp} {d : D} {v : V} {G : List Addr} (o : Own K H d v G) : ∀ {ds : List D} {vs : List V} {F : List Addr}, OwnA K H ds vs F → (∀ a, a ∈ F → a ∉ G) → ∃ F', OwnA K H (ds ++ [d]) (vs ++ [v]) F' ∧ ∀ a, a ∈ F' → a ∈ F ∨ a ∈ G
  | [], _, _, t, _ => by
    cases t
    refine ⟨G ++ [], .cons o .nil (by simp), fun a h => ?_⟩
    rw [List.append_nil] at h
    exact .inr h
  | d' :: ds, _, _, t, n => by
    cases t with
    | @cons v' vs _ _ F1 F2 o' t n' =>
      obtain ⟨F', h1, h2⟩ := OwnA.snoc o t fun a ha => n a (List.mem_append_right _ ha)
      refine ⟨F1 ++ F', .cons o' h1 fun a ha hb => ?_, fun a h => ?_⟩
      · rcases h2 a hb with q | q
        · exact n' a ha q
        · exact n a (List.mem_append_left _ ha) q
      · rcases List.mem_append.mp h with q | q
        · exact .inl (List.mem_append_left _ q)
        · rcases h2 a q with q | q
          · exact .inl (List.mem_append_right _ q)
          · exact .inr q
theorem OwnA.put {H : Hp} {d : D} {v : V} (o : Own K H d v []) : ∀ {ds : List D} {vs : List V} {F : List Addr} (j : Nat), OwnA K H ds vs F → ∃ F', OwnA K H (ds.set j d) (vs.set j v) F' ∧ ∀ a, a ∈ F' → a ∈ F
  | [], _, _, _, t => by
    cases t
    exact ⟨[], .nil, by simp⟩
  | d' :: ds, _, _, 0, t => by
    cases t with
    | @cons v' vs _ _ F1 F2 o' t n' => exact ⟨[] ++ F2, .cons o t (by simp), fun a h => List.mem_append_right _ (by simpa using h)⟩
  | d' :: ds, _, _, j + 1, t => by
    cases t with
    | @cons v' vs _ _ F1 F2 o' t n' =>
      obtain ⟨F', h1, h2⟩ := OwnA.put o j t
      refine ⟨F1 ++ F', .cons o' h1 fun a ha hb => n' a ha (h2 a hb), fun a h => ?_⟩
      rcases List.mem_append.mp h with q | q
      · exact List.mem_append_left _ q
      · exact List.mem_append_right _ (h2 a q)
end
inductive Tg where
  | nm (i : Nat)
  | tp (l : List Tg)
  | ls (l : List Tg)
mutual
def asg : Tg → D → Sg → Option Sg
  | .nm i, d, s => some (s.set i (some d))
  | .tp l, .tuple ds, s => asgs l ds s
  | .tp _, _, _ => none
  | .ls l, .list ds, s => asgs l ds s
  | .ls _, _, _ => none
def asgs : List Tg → List D → Sg → Option Sg
  | [], [], s => some s
  | t :: l, d :: ds, s => match asg t d s with
    | none => none
    | some s1 => asgs l ds s1
  | _, _, _ => none
end
section
variable (K : PySem.W.Frag) (lk : Nat → Bool)
def tG (t : Tg) : TG := fun v σ H Q => ∃ s Fs d F s', RelS K H s σ Fs ∧ Apart K H Fs d v F ∧ asg t d s = some s' ∧ ∀ σ' Fs', RelS K H s' σ' Fs' → (∀ i a, a ∈ Fs' i → a ∈ Fs i ∨ a ∈ F) → Lk lk σ σ' → Q σ' H
def tGs (l : List Tg) : TGs := fun vs σ H Q => ∃ s Fs ds F s', RelS K H s σ Fs ∧ OwnA K H ds vs F ∧ (∀ i a, a ∈ Fs i → a ∉ F) ∧ asgs l ds s = some s' ∧ ∀ σ' Fs', RelS K H s' σ' Fs' → (∀ i a, a ∈ Fs' i → a ∈ Fs i ∨ a ∈ F) → Lk lk σ σ' → Q σ' H
end
def SimG (X : Cx) (lk : Nat → Bool) (e : Expr) (t : Tg) : Prop := PG X e (tG X.K lk t)
def SimGs (X : Cx) (lk : Nat → Bool) (es : List Expr) (l : List Tg) : Prop := PGs X es (tGs X.K lk l)
section
variable {X : Cx} {lk : Nat → Bool} {pos : Pos} {K : PySem.W.Frag}
theorem pg_imp {e : Expr} {t t' : TG} (h : PG X e t) (i : ∀ v σ H Q, t' v σ H Q → t v σ H Q) : PG X e t' := ⟨fun pins s σ H v u Q I r q => h.run pins s σ H v u Q I r (i v σ H Q q)⟩
theorem pgs_imp {e : List Expr} {t t' : TGs} (h : PGs X e t) (i : ∀ v σ H Q, t' v σ H Q → t v σ H Q) : PGs X e t' := ⟨fun pins s σ H v u Q I r q => h.run pins s σ H v u Q I r (i v σ H Q q)⟩
theorem tG_nm {i : Nat} (hl : lk i = false) {v : V} {σ : St} {H : Hp} {Q : St → Hp → Prop} (h : tG K lk (.nm i) v σ H Q) : gName i v σ H Q := by
  obtain ⟨s, Fs, d, F, s', R, A, e, q⟩ := h
  simp only [asg] at e
  cases e
  obtain ⟨Fs', R', n⟩ := R.put A i
  exact q _ Fs' R' (fun j a h => (n j a h).imp And.left And.left) (.set hl)
theorem sg_name {i : Nat} {x : Str} (hN : X.N.Nodup) (hi : X.N[i]? = some x) (hx : Loc X.env.scope x) (hl : lk i = false) (hf : X.fn x = true ∨ X.env.scope.names.lookup x = some .local := by first | exact .inl rfl | exact .inr rfl | assumption) : SimG X lk (.Name x pos) (.nm i) :=
  pg_imp (pg_name hN hi hx hf) fun _ _ _ _ h => tG_nm hl h
theorem tGs_nil {vs : List V} {σ : St} {H : Hp} {Q : St → Hp → Prop} (h : tGs K lk [] vs σ H Q) : gNil vs σ H Q := by
  obtain ⟨s, Fs, ds, F, s', R, o, dj, e, q⟩ := h
  cases ds with
  | nil =>
    simp only [asgs] at e
    cases e
    cases o
    exact ⟨rfl, q σ Fs R (fun _ _ h => .inl h) (.refl _ _)⟩
  | cons d ds => simp [asgs] at e
theorem tGs_cons {t : Tg} {l : List Tg} {vs : List V} {σ : St} {H : Hp} {Q : St → Hp → Prop} (h : tGs K lk (t :: l) vs σ H Q) : gCons (tG K lk t) (tGs K lk l) vs σ H Q := by
  obtain ⟨s, Fs, ds, F, s', R, o, dj, e, q⟩ := h
  cases ds with
  | nil => simp [asgs] at e
  | cons d ds =>
    simp only [asgs] at e
    split at e
    · cases e
    · rename_i s1 h1
      cases o with
      | @cons v vs _ _ F1 F2 o1 o2 n =>
        refine ⟨v, vs, rfl, s, Fs, d, F1, s1, R, ⟨o1, fun i a hi ha => dj i a hi (List.mem_append_left _ ha)⟩, h1, fun σ1 Fs1 R1 n1 L1 => ⟨s1, Fs1, ds, F2, s', R1, o2, fun i a hi ha => ?_, e, fun σ2 Fs2 R2 n2 L2 => ?_⟩⟩
        · rcases n1 i a hi with z | z
          · exact dj i a z (List.mem_append_right _ ha)
          · exact n a z ha
        · refine q σ2 Fs2 R2 (fun i a h => ?_) (L1.trans L2)
          rcases n2 i a h with z | z
          · rcases n1 i a z with z | z
            · exact .inl z
            · exact .inr (List.mem_append_left _ z)
          · exact .inr (List.mem_append_right _ z)
theorem sgs_nil : SimGs X lk [] [] := pgs_imp pgs_nil fun _ _ _ _ h => tGs_nil h
theorem sgs_cons {e : Expr} {es : List Expr} {t : Tg} {l : List Tg} (h1 : SimG X lk e t) (h2 : SimGs X lk es l) (hs : (assignEach (e :: es) X.env).map (·.2) = assign e X.env :: (assignEach es X.env).map (·.2) := by rfl) : SimGs X lk (e :: es) (t :: l) :=
  pgs_imp (pgs_cons h1 h2 hs) fun _ _ _ _ h => tGs_cons h
theorem asgs_len {l : List Tg} : ∀ {ds : List D} {s s' : Sg}, asgs l ds s = some s' → ds.length = l.length := by
  induction l with
  | nil => intro ds s s' h; cases ds with
    | nil => rfl
    | cons d ds => simp [asgs] at h
  | cons t l ih => intro ds s s' h; cases ds with
    | nil => simp [asgs] at h
    | cons d ds =>
      simp only [asgs] at h
      split at h
      · cases h
      · rw [List.length_cons, List.length_cons, ih h]
theorem sg_tup {es : List Expr} {k : Nat} {l : List Tg} (hc : X.calm = true) (h : SimGs X lk es l) (hn : (assignEach es X.env).length = l.length := by rfl) (hst : (assignEach es X.env).findIdx? (·.1) = none := by rfl) : SimG X lk (.Tuple es k pos) (.tp l) := by
  refine pg_imp (pg_tup hc h hn hst) fun v σ H Q z => ?_
  obtain ⟨s, Fs, d, F, s', R, A, e, q⟩ := z
  cases d with
  | tuple ds =>
    simp only [asg] at e
    obtain ⟨a, vs, rfl, hq, o⟩ := own_tup A.own
    exact ⟨a, vs, rfl, hq, by rw [o.len, asgs_len e], s, Fs, ds, F, s', R, o, A.dis, e, q⟩
  | _ => simp [asg] at e
end
/-- a list taken apart -/
theorem sg_lst {X : Cx} {lk : Nat → Bool} {pos : Pos} {es : List Expr} {k : Nat} {l : List Tg} (hc : X.calm = true) (h : SimGs X lk es l) (hn : (assignEach es X.env).length = l.length := by rfl) (hst : (assignEach es X.env).findIdx? (·.1) = none := by rfl) : SimG X lk (.Tuple es k pos) (.ls l) := by
  refine pg_imp (pg_unl hc h hn hst) fun v σ H Q z => ?_
  obtain ⟨s, Fs, d, F, s', R, A, e, q⟩ := z
  cases d with
  | list ds =>
    simp only [asg] at e
    obtain ⟨a, vs, F', rfl, rfl, hl, o, n⟩ := own_list A.own
    exact ⟨a, vs, rfl, SqL.of hl, by rw [o.len, asgs_len e], s, Fs, ds, F', s', R, o, fun i a hi ha => A.dis i a hi (List.mem_cons_of_mem _ ha), e, fun σ' Fs' R' n' L' => q σ' Fs' R' (fun i a h => (n' i a h).imp id (List.mem_cons_of_mem _)) L'⟩
  | _ => simp [asg] at e
section
variable (K : PySem.W.Frag) (lk : Nat → Bool)
def PostS (D : Ends) (σ : St) (H : Hp) (Fs : Fp) (s' : Sg) (fl : Fl) : Prop := match fl with
  | .nx => ∀ σ' H' Fs', RelS K H' s' σ' Fs' → Ev H Fs H' Fs' → Lk lk σ σ' → D.nx σ' H'
  | .bk => ∀ σ' H' Fs', RelS K H' s' σ' Fs' → Ev H Fs H' Fs' → Lk lk σ σ' → D.bk σ' H'
  | .ct => ∀ σ' H' Fs', RelS K H' s' σ' Fs' → Ev H Fs H' Fs' → Lk lk σ σ' → D.ct σ' H'
  | .rt d => ∀ v σ' H' Fs' F, RelS K H' s' σ' Fs' → Ev H Fs H' Fs' → Lk lk σ σ' → Own K H' d v F → (∀ a, a ∈ F → H a = none ∨ ∃ i, lk i = false ∧ a ∈ Fs i) → (∀ i a, lk i = true → a ∈ Fs' i → a ∉ F) → D.rt v H'
def tS (g : S) : TS := fun D σ H => ∃ s Fs fl s', RelS K H s σ Fs ∧ g s = .ok fl s' ∧ PostS K lk D σ H Fs s' fl
end
def SimS (X : Cx) (lk : Nat → Bool) (st : Stmt) (g : S) : Prop := PS X st (tS X.K lk g)
def SimSs (X : Cx) (lk : Nat → Bool) (st : List Stmt) (g : S) : Prop := PSs X st (tS X.K lk g)
theorem ps_imp {X : Cx} {e : Stmt} {t t' : TS} (h : PS X e t) (i : ∀ D σ H, t' D σ H → t D σ H) : PS X e t' := ⟨fun pins s σ H D I q => h.run pins s σ H D I (i D σ H q)⟩
theorem pss_imp {X : Cx} {e : List Stmt} {t t' : TS} (h : PSs X e t) (i : ∀ D σ H, t' D σ H → t D σ H) : PSs X e t' := ⟨fun pins s σ H D I q => h.run pins s σ H D I (i D σ H q)⟩
def sSkip : S := fun s => .ok .nx s
def sSeq (g h : S) : S := fun s => (g s).bind fun fl s1 => match fl with
  | .nx => h s1
  | fl => .ok fl s1
def sExpr (g : O) : S := fun s => (g s).bind fun _ s1 => .ok .nx s1
def sRet (lk : Nat → Bool) (g : O) : S := fun s => (g s).bind fun r s1 => match r with
  | .val d => .ok (.rt d) s1
  | .slot i => match (s1[i]?).join with
    | none => .bad
    | some d => if pur d = true ∨ lk i = false then .ok (.rt d) s1 else .bad
def sRetN : S := fun s => .ok (.rt .none) s
def sBreak : S := fun s => .ok .bk s
def sCont : S := fun s => .ok .ct s
def sIf (t : T) (g h : S) : S := fun s => (t s).bind fun b s1 => if b = true then g s1 else h s1
def sAsg (t : Tg) (g : O) : S := fun s => (g s).bind fun r s1 => match own r s1 with
  | none => .bad
  | some d => match asg t d s1 with
    | none => .bad
    | some s2 => .ok .nx s2
def sSet (i : Nat) (g : O) : S := sAsg (.nm i) g
/-- x[k] = e -/
def sSetIx (i : Nat) (gi g : O) : S := fun s => (g s).bind fun r s1 => (oV i s1).bind fun _ s1 => (gi s1).bind fun ri s2 => match own r s2, rd ri s2, (s2[i]?).join with
  | some d, some (.int k), some (.list ds) => if pur d = true then (match ixN ds.length k with
    | none => .bad
    | some j => .ok .nx (s2.set i (some (.list (ds.set j d))))) else .bad
  | _, _, _ => .bad
section
variable {X : Cx} {lk : Nat → Bool} {pos : Pos} {K : PySem.W.Frag} {g h : S} {D : Ends} {σ : St} {H : Hp} {ga gb : O} {e : Expr}
theorem ss_nil : SimSs X lk [] sSkip := pss_imp pss_nil fun D σ H ⟨s, Fs, fl, s', R, e, q⟩ => by
  cases e
  exact q σ H Fs R (.refl _ _) (.refl _ _)
/-- what follows a first part -/
theorem tS_after {s : Sg} {Fs Fs1 : Fp} {σ1 : St} {H1 : Hp} {s1 s' : Sg} {fl : Fl} (R1 : RelS K H1 s1 σ1 Fs1) (E1 : Ev H Fs H1 Fs1) (L1 : Lk lk σ σ1) (e : h s1 = .ok fl s')
    (q : PostS K lk D σ H Fs s' fl) :
    tS K lk h D σ1 H1 := by
  refine ⟨s1, Fs1, fl, s', R1, e, ?_⟩
  cases fl with
  | nx => exact fun σ' H' Fs' R' E' L' => q σ' H' Fs' R' (E1.trans E') (L1.trans L')
  | bk => exact fun σ' H' Fs' R' E' L' => q σ' H' Fs' R' (E1.trans E') (L1.trans L')
  | ct => exact fun σ' H' Fs' R' E' L' => q σ' H' Fs' R' (E1.trans E') (L1.trans L')
  | rt d =>
    refine fun v σ' H' Fs' F R' E' L' o n m => q v σ' H' Fs' F R' (E1.trans E') (L1.trans L') o (fun a ha => ?_) m
    rcases n a ha with z | ⟨i, hi, z⟩
    · exact .inl (E1.chg.there a z)
    · rcases E1.new i a z with z | z
      · exact .inr ⟨i, hi, z⟩
      · exact .inl z
theorem tS_seq (z : tS K lk (sSeq g h) D σ H) : tSeq (tS K lk g) (tS K lk h) D σ H := by
  obtain ⟨s, Fs, fl, s', R, e, q⟩ := z
  obtain ⟨f1, s1, e1, e⟩ := bind_inv e
  refine ⟨s, Fs, f1, s1, R, e1, ?_⟩
  cases f1 with
  | nx => exact fun σ1 H1 Fs1 R1 E1 L1 => tS_after (s := s) R1 E1 L1 e q
  | bk => cases e; exact q
  | ct => cases e; exact q
  | rt d => cases e; exact q
theorem ss_cons {st : Stmt} {rest : List Stmt} (h1 : SimS X lk st g) (h2 : SimSs X lk rest h) : SimSs X lk (st :: rest) (sSeq g h) := pss_imp (pss_cons h1 h2) fun _ _ _ z => tS_seq z
theorem ss_one {st : Stmt} (h1 : SimS X lk st g) : SimSs X lk [st] g := pss_one h1
theorem ss_expr (he : SimO X e ga) (hs : swapsWith e none pos.line X.env = pure false := by rfl) : SimS X lk (.Expr e pos) (sExpr ga) := by
  refine ps_imp (ps_expr he hs) fun D σ H z => ?_
  obtain ⟨s, Fs, fl, s', R, e, q⟩ := z
  obtain ⟨r, s1, e1, e⟩ := bind_inv e
  refine ⟨s, Fs, r, s1, R, e1, fun v H1 Fs1 F R1 E1 k1 n1 => ?_⟩
  cases e
  exact q σ H1 Fs1 R1 E1 (.refl _ _)
theorem ss_ret (he : SimO X e ga) : SimS X lk (.Return (some e) pos) (sRet lk ga) := by
  refine ps_imp (ps_ret he) fun D σ H z => ?_
  obtain ⟨s, Fs, fl, s', R, e, q⟩ := z
  obtain ⟨r, s1, e1, e⟩ := bind_inv e
  refine ⟨s, Fs, r, s1, R, e1, fun v H1 Fs1 F R1 E1 k1 n1 => ?_⟩
  cases k1 with
  | val A =>
    cases e
    exact q v σ H1 Fs1 F R1 E1 (.refl _ _) A.own (fun a ha => .inl (n1 a ha)) fun i a _ hi ha => A.dis i a hi ha
  | @slot i v hv =>
    simp only at e
    split at e
    · cases e
    · rename_i d hd
      split at e
      · rename_i hp
        cases e
        obtain ⟨v', hv', o⟩ := R1.has i d (join_some hd)
        rw [hv] at hv'
        cases hv'
        refine q v σ H1 Fs1 (Fs1 i) R1 E1 (.refl _ _) o (fun a ha => ?_) fun j a hj hi ha => ?_
        · rcases hp with hp | hp
          · rw [o.pur hp] at ha; cases ha
          · rcases E1.new i a ha with z | z
            · exact .inr ⟨i, hp, z⟩
            · exact .inl z
        · rcases hp with hp | hp
          · rw [o.pur hp] at ha; cases ha
          · have := R1.dis j i a hi ha
            subst this
            rw [hp] at hj; cases hj
      · cases e
theorem ss_if {c : Expr} {as bs : List Stmt} {t : T} (hc : SimT X c t) (ha : SimSs X lk as g) (hb : SimSs X lk bs h) : SimS X lk (.If c as bs pos) (sIf t g h) := by
  refine ps_imp (ps_if hc ha hb) fun D σ H z => ?_
  obtain ⟨s, Fs, fl, s', R, e, q⟩ := z
  obtain ⟨b, s1, e1, e⟩ := bind_inv e
  refine ⟨s, Fs, b, s1, R, e1, fun H1 Fs1 R1 E1 => ?_⟩
  cases b with
  | true => exact iteT (tS_after (s := s) R1 E1 (.refl _ _) e q)
  | false => exact iteF (tS_after (s := s) R1 E1 (.refl _ _) e q)
theorem rfOk_own {Fs : Fp} {r : Rf} {v : V} {F : List Addr} {s : Sg} {d : Sim.D} (k : RfOk K H σ Fs r v F) (R : RelS K H s σ Fs) (e : own r s = some d) : Apart K H Fs d v F := by
  cases k with
  | val A => cases e; exact A
  | @slot i v hv =>
    simp only [own] at e
    split at e
    · cases e
    · rename_i d' hd
      split at e
      · rename_i hp
        cases e
        obtain ⟨v', hv', o⟩ := R.has i d (join_some hd)
        rw [hv] at hv'
        cases hv'
        rw [o.pur hp] at o
        exact ⟨o, fun _ _ _ z => by cases z⟩
      · cases e
theorem tS_asg {t : Tg} (z : tS K lk (sAsg t ga) D σ H) : tAsg (tO K ga) (tG K lk t) D σ H := by
  obtain ⟨s, Fs, fl, s', R, e, q⟩ := z
  obtain ⟨r, s1, e1, e⟩ := bind_inv e
  refine ⟨s, Fs, r, s1, R, e1, fun v H1 Fs1 F R1 E1 k1 n1 => ?_⟩
  split at e
  · cases e
  · rename_i d hd
    split at e
    · cases e
    · rename_i s2 hs2
      cases e
      refine ⟨s1, Fs1, d, F, _, R1, rfOk_own k1 R1 hd, hs2, fun σ2 Fs2 R2 n2 L2 => q σ2 H1 Fs2 R2 ⟨E1.chg, fun i a h => ?_⟩ L2⟩
      rcases n2 i a h with z | z
      · exact E1.new i a z
      · exact .inr (n1 a z)
theorem ss_asg {tg : Expr} {t : Tg} (he : SimO X e ga) (hg : SimG X lk tg t) (hs : swapsWithSole [tg] e pos.line X.env = pure false := by rfl) (hw : swappedStores [tg] e X.env = pure none := by rfl)
    (h1 : (assignEach [tg] X.env).map (·.2) = [assign tg X.env] := by rfl) : SimS X lk (.Assign [tg] e pos) (sAsg t ga) := ps_imp (ps_asg he hg hs hw h1) fun _ _ _ z => tS_asg z
theorem ss_set {i : Nat} {x : Str} {pos' : Pos} (hN : X.N.Nodup) (hi : X.N[i]? = some x) (hx : Loc X.env.scope x) (hl : lk i = false) (he : SimO X e ga) (hs : swapsWith e (some (.Name x pos')) pos.line X.env = pure false := by rfl) (hf : X.fn x = true ∨ X.env.scope.names.lookup x = some .local := by first | exact .inl rfl | exact .inr rfl | assumption) :
    SimS X lk (.Assign [.Name x pos'] e pos) (sSet i ga) := ps_imp (ps_set hN hi hx he hs hf) fun D σ H z => tO_mono (fun v H h => by have w := tG_nm hl h; exact w) (tS_asg z)
theorem ss_setIx {i : Nat} {x : Str} {ix : Expr} {p1 p2 : Pos} (hv : PE X (.Name x p1) (tVar i)) (hix : SimO X ix gb) (he : SimO X e ga)
    (ha : ∀ v, assign (.Subscript (.Name x p1) ix p2) X.env v = (do
      let ov ← holding [v] (eval (.Name x p1) X.env)
      let iv ← holding [v, ov] (eval ix X.env)
      standAt p2
      holding [v, ov, iv] (setItem ov iv v)
      release [v, ov, iv] []) := by intro _; rfl)
    (hs : swapsWithSole [.Subscript (.Name x p1) ix p2] e pos.line X.env = pure false := by rfl) (hw : swappedStores [.Subscript (.Name x p1) ix p2] e X.env = pure none := by rfl)
    (h1 : (assignEach [.Subscript (.Name x p1) ix p2] X.env).map (·.2) = [assign (.Subscript (.Name x p1) ix p2) X.env] := by rfl) : SimS X lk (.Assign [.Subscript (.Name x p1) ix p2] e pos) (sSetIx i gb ga) := by
  refine ps_imp (ps_asg he (pg_sub hv hix set_list ha) hs hw h1) fun D σ H z => ?_
  obtain ⟨s, Fs, fl, s', R, e, q⟩ := z
  obtain ⟨r, s1, e1, e⟩ := bind_inv e
  refine ⟨s, Fs, r, s1, R, e1, fun v H1 Fs1 F R1 E1 k1 n1 => ?_⟩
  obtain ⟨rv, s1', e1', e⟩ := bind_inv e
  unfold oV at e1'
  split at e1'
  · rename_i d0 hd0
    cases e1'
    obtain ⟨vl, hvl, _⟩ := R1.has i d0 (join_some hd0)
    refine ⟨vl, hvl, ?_⟩
    obtain ⟨ri, s2, e2, e⟩ := bind_inv e
    refine ⟨s1, Fs1, ri, s2, R1, e2, fun vi H2 Fs2 F2 R2 E2 k2 n2 => ?_⟩
    split at e
    · rename_i d k ds hd hk hs2
      split at e
      · rename_i hp
        split at e
        · cases e
        · rename_i j hj
          cases e
          obtain ⟨vl', hvl', o⟩ := R2.has i _ (join_some hs2)
          rw [hvl] at hvl'
          cases hvl'
          obtain ⟨l, vs, F0, rfl, eF, hl, t, nl⟩ := own_list o
          obtain ⟨F', oi⟩ := k2.dp R2 hk
          cases oi
          have A := rfOk_own (k1.ev E2) R2 hd
          have o1 := A.own
          rw [o1.pur hp] at o1
          obtain ⟨F3, t3, hF3⟩ := OwnA.put o1 j t
          refine ⟨l, vs, k, j, rfl, rfl, hl, by rw [t.len]; exact hj, ?_⟩
          obtain ⟨Fs3, R3, C3, n3⟩ := R2.wr (join_some hs2) hvl hl eF t3 (fun z => nl (hF3 _ z)) (fun a ha => .inl (hF3 a ha)) (Fd := []) (by simp)
          refine q σ _ Fs3 R3 ((E1.trans E2).trans ⟨C3, fun j a h => (n3 j a h).imp id (fun z => by cases z)⟩) (.refl _ _)
      · cases e
    · cases e
  · cases e1'
end
end Sim
namespace Sim
open PySem PySem.Spec L2
def lks : List Rf → List D → List (Nat × D)
  | .slot i :: rs, d :: ds => if pur d = true then lks rs ds else (i, d) :: lks rs ds
  | .val _ :: rs, _ :: ds => lks rs ds
  | _, _ => []
def lockS : List (Nat × D) → Sg → Sg
  | [], s => s
  | p :: l, s => lockS l (s.set p.1 none)
def unlockS : List (Nat × D) → Sg → Sg
  | [], s => s
  | p :: l, s => unlockS l (s.set p.1 (some p.2))
def nodupB : List Nat → Bool
  | [] => true
  | x :: l => !l.contains x && nodupB l
/-- what is closed, stands apart -/
inductive Hid (K : PySem.W.Frag) (H : Hp) (σ : St) (Fs : Fp) : List (Nat × D) → List (List Addr) → Prop
  | nil : Hid K H σ Fs [] []
  | cons {i : Nat} {d : D} {v : V} {F : List Addr} {l : List (Nat × D)} {Gs : List (List Addr)} : σ[i]? = some (some v) → Apart K H Fs d v F → (∀ G, G ∈ Gs → ∀ a, a ∈ F → a ∉ G) → Hid K H σ Fs l Gs → Hid K H σ Fs ((i, d) :: l) (F :: Gs)
/-- where what is closed comes from -/
def From (H0 : Hp) (Fs0 : Fp) : List (Nat × D) → List (List Addr) → Prop
  | [], [] => True
  | p :: l, F :: Gs => (∀ a, a ∈ F → a ∈ Fs0 p.1 ∨ H0 a = none) ∧ From H0 Fs0 l Gs
  | _, _ => False
section
variable {K : PySem.W.Frag} {H H1 H' H0 : Hp} {s s' : Sg} {σ σ' : St} {Fs Fs1 Fs' Fs0 : Fp} {l : List (Nat × D)} {Gs : List (List Addr)}
theorem Hid.ev (h : Hid K H σ Fs l Gs) (e : Ev H Fs H' Fs') (L : ∀ p, p ∈ l → σ'[p.1]? = σ[p.1]?) : Hid K H' σ' Fs' l Gs := by
  induction h with
  | nil => exact .nil
  | @cons i d v F l Gs hv A n _ ih =>
    exact .cons ((L _ (List.mem_cons_self ..)).trans hv) (A.ev e) n (ih fun p hp => L p (List.mem_cons_of_mem _ hp))
theorem Hid.mem (h : Hid K H σ Fs l Gs) : ∀ G, G ∈ Gs → ∀ a, a ∈ G → (∃ xs : MO, H a = some xs.ho) ∧ ∀ i, a ∉ Fs i := by
  induction h with
  | nil => intro G h; cases h
  | cons hv A n _ ih =>
    intro G h a ha
    rcases List.mem_cons.mp h with rfl | h
    · exact ⟨A.own.mem a ha, fun i hi => A.dis i a hi ha⟩
    · exact ih G h a ha
theorem From.trans (h : From H Fs l Gs) (e : ∀ i a, a ∈ Fs i → a ∈ Fs0 i ∨ H0 a = none) (t : ∀ a, H a = none → H0 a = none) : From H0 Fs0 l Gs := by
  induction l generalizing Gs with
  | nil => cases Gs with
    | nil => trivial
    | cons _ _ => exact h.elim
  | cons p l ih => cases Gs with
    | nil => exact h.elim
    | cons F Gs =>
      refine ⟨fun a ha => ?_, ih h.2⟩
      rcases h.1 a ha with z | z
      · exact e _ a z
      · exact .inr (t a z)
theorem nodupB_cons {x : Nat} {l : List Nat} (h : nodupB (x :: l) = true) : x ∉ l ∧ nodupB l = true := by
  simp only [nodupB, Bool.and_eq_true, Bool.not_eq_true', List.contains_eq_mem, decide_eq_false_iff_not] at h
  exact h
theorem RelS.lock (R : RelS K H s σ Fs) (hs : ∀ p, p ∈ l → s[p.1]? = some (some p.2)) (nd : nodupB (l.map (·.1)) = true) :
    ∃ Fs' Gs, RelS K H (lockS l s) σ Fs' ∧ Hid K H σ Fs' l Gs ∧ (∀ j a, a ∈ Fs' j → a ∈ Fs j) ∧ From H Fs l Gs := by
  induction l generalizing s Fs with
  | nil => exact ⟨Fs, [], R, .nil, fun _ _ h => h, trivial⟩
  | cons p l ih =>
    obtain ⟨n1, n2⟩ := nodupB_cons nd
    obtain ⟨v, hv, o⟩ := R.has p.1 p.2 (hs p (List.mem_cons_self ..))
    obtain ⟨Fs', Gs, R', hd, sub, fr⟩ := ih (R.drop p.1) (fun q hq => by
      rw [List.getElem?_set_ne]
      · exact hs q (List.mem_cons_of_mem _ hq)
      · intro e
        refine n1 ?_
        show p.1 ∈ _
        rw [e]
        exact List.mem_map_of_mem (f := fun x : Nat × D => x.1) hq) n2
    have sub2 : ∀ j a, a ∈ upF Fs p.1 [] j → a ∈ Fs j ∧ j ≠ p.1 := fun j a h => by
      unfold upF at h
      split at h
      · cases h
      · exact ⟨h, by assumption⟩
    refine ⟨Fs', Fs p.1 :: Gs, R', .cons hv ⟨o, fun i a hi ha => ?_⟩ (fun G hG a ha hb => ?_) hd, fun j a h => (sub2 j a (sub j a h)).1, fun a h => .inl h, fr.trans (fun i a h => .inl (sub2 i a h).1) fun _ h => h⟩
    · obtain ⟨h1, h2⟩ := sub2 i a (sub i a hi)
      exact h2 (R.dis i p.1 a h1 ha)
    · -- a closed one's places are another slot's
      have key : ∀ (l : List (Nat × D)) (Gs : List (List Addr)), From H (upF Fs p.1 []) l Gs → G ∈ Gs → ∃ i, a ∈ upF Fs p.1 [] i ∨ H a = none := fun l => by
        induction l with
        | nil => intro Gs h1 h2; cases Gs with
          | nil => cases h2
          | cons _ _ => exact h1.elim
        | cons q l ih => intro Gs h1 h2; cases Gs with
          | nil => cases h2
          | cons F Gs =>
            rcases List.mem_cons.mp h2 with rfl | h2
            · exact ⟨q.1, h1.1 a hb⟩
            · exact ih Gs h1.2 h2
      obtain ⟨i, hi | hi⟩ := key l Gs fr hG
      · obtain ⟨h1, h2⟩ := sub2 i a hi
        exact h2 (R.dis i p.1 a h1 ha)
      · obtain ⟨xs, w⟩ := o.mem a ha
        rw [hi] at w; cases w
theorem RelS.unlock (R : RelS K H s σ Fs) (hd : Hid K H σ Fs l Gs) (fr : From H0 Fs0 l Gs) :
    ∃ Fs', RelS K H (unlockS l s) σ Fs' ∧ ∀ j a, a ∈ Fs' j → a ∈ Fs j ∨ ((a ∈ Fs0 j ∨ H0 a = none) ∧ ∃ G, G ∈ Gs ∧ a ∈ G) := by
  induction l generalizing s Fs Gs with
  | nil =>
    cases hd
    exact ⟨Fs, R, fun _ _ h => .inl h⟩
  | cons p l ih =>
    cases hd with
    | @cons i d v F l Gs hv A n hd =>
      obtain ⟨Fs1, R1, n1⟩ := R.put A i
      have e : σ.set i (some v) = σ := by
        obtain ⟨hi, e⟩ := List.getElem?_eq_some_iff.mp hv
        rw [← e, List.set_getElem_self]
      rw [e] at R1
      have hd1 : Hid K H σ Fs1 l Gs := by
        clear ih R fr
        induction hd with
        | nil => exact .nil
        | @cons j d' v' F' l Gs hv' A' n' hd' ih' =>
          refine .cons hv' ⟨A'.own, fun k a hk ha => ?_⟩ n' (ih' fun G hG => n G (List.mem_cons_of_mem _ hG))
          rcases n1 k a hk with z | z
          · exact A'.dis k a z.1 ha
          · exact n F' (List.mem_cons_self ..) a z.1 ha
      obtain ⟨Fs', R', n2⟩ := ih (s := s.set i (some d)) R1 hd1 fr.2
      refine ⟨Fs', R', fun j a h => ?_⟩
      rcases n2 j a h with z | ⟨z, G, hG, ha⟩
      · rcases n1 j a z with w | w
        · exact .inl w.1
        · refine .inr ⟨?_, F, List.mem_cons_self .., w.1⟩
          rw [w.2]
          exact fr.1 a w.1
      · exact .inr ⟨z, G, List.mem_cons_of_mem _ hG, ha⟩
end
abbrev I := Sg → Res (List D × List (Nat × D))
structure WalkD (K : PySem.W.Frag) (J : It) (G : Hp → Prop) (es : List D) : Prop where
  goes : ∀ i H, i < es.length → G H → J.go i H
  stops : ∀ H, G H → J.stop es.length H
  yields : ∀ i H x H', i < es.length → G H → J.yld i H x H' → ∃ d, es[i]? = some d ∧ Same H H' ∧ Own K H' d x []
def tI (K : PySem.W.Frag) (g : I) : TI := fun σ H R => ∃ s Fs es l s', RelS K H s σ Fs ∧ g s = .ok (es, l) s' ∧
  ∀ J H1 Fs1 Gs (G : Hp → Prop), RelS K H1 s' σ Fs1 → Chg (InF Fs) H H1 → (∀ j a, a ∈ Fs1 j → a ∈ Fs j ∨ H a = none) → Hid K H1 σ Fs1 l Gs → From H Fs l Gs → WalkD K J G es →
    (∀ H2 Fs2, Ev H1 Fs1 H2 Fs2 → G H2) → R J H1
def SimI (X : Cx) (tg iter : Expr) (g : I) : Prop := PI X tg iter (tI X.K g)
theorem pi_imp {X : Cx} {tg e : Expr} {t t' : TI} (h : PI X tg e t) (i : ∀ σ H Q, t' σ H Q → t σ H Q) : PI X tg e t' := ⟨fun pins s σ H Q I q => h.run pins s σ H Q I (i σ H Q q)⟩
/-- from operands that stand: items -/
def mkI (itm : List D → Option (List D)) (g : AL) : I := fun s => (g s).bind fun rs s1 => match rds rs s1 with
  | none => .bad
  | some ds => match itm ds with
    | none => .bad
    | some es => if purs es = true ∧ nodupB ((lks rs ds).map (·.1)) = true then .ok (es, lks rs ds) (lockS (lks rs ds) s1) else .bad
section
variable {X : Cx} {K : PySem.W.Frag}
theorem lks_has {H : Hp} {s : Sg} {σ : St} {Fs : Fp} {rs : List Rf} {vs : List V} {Gs : List (List Addr)} (r : Rfs K H σ Fs rs vs Gs) : ∀ {ds : List D}, rds rs s = some ds → ∀ p, p ∈ lks rs ds → s[p.1]? = some (some p.2) := by
  induction r with
  | nil => intro ds e p h; cases e; simp [lks] at h
  | @val d v F rs vs Gs A n _ ih =>
    intro ds e p h
    unfold rds at e
    simp only [rd] at e
    split at e
    · cases e
    · rename_i es he
      cases e
      exact ih he p (by simpa [lks] using h)
  | @slot i v rs vs Gs hv _ ih =>
    intro ds e p h
    unfold rds at e
    simp only [rd] at e
    split at e
    · cases e
    · rename_i d hd
      split at e
      · cases e
      · rename_i es he
        cases e
        unfold lks at h
        split at h
        · exact ih he p h
        · rcases List.mem_cons.mp h with rfl | h
          · exact join_some hd
          · exact ih he p h
/-- the operands stand through what a loop does -/
theorem lks_stand {H H2 : Hp} {s : Sg} {σ : St} {Fs Fs1 Fs2 : Fp} (R : RelS K H s σ Fs) (sub : ∀ j a, a ∈ Fs1 j → a ∈ Fs j) (e : Ev H Fs1 H2 Fs2) {l : List (Nat × D)} {Gl : List (List Addr)} (hd : Hid K H σ Fs1 l Gl) :
    ∀ {rs : List Rf} {vs : List V} {Gs : List (List Addr)}, Rfs K H σ Fs rs vs Gs → ∀ {ds : List D}, rds rs s = some ds → (∀ p, p ∈ lks rs ds → p ∈ l) → RdA K H2 vs ds := by
  intro rs vs Gs r
  induction r with
  | nil => intro ds e _; cases e; exact .nil
  | @val d v F rs vs Gs A n _ ih =>
    intro ds e' h
    unfold rds at e'
    simp only [rd] at e'
    split at e'
    · cases e'
    · rename_i es he
      cases e'
      have A1 : Apart K H Fs1 d v F := ⟨A.own, fun i a hi ha => A.dis i a (sub i a hi) ha⟩
      exact .cons (A1.ev e).own (ih he fun p hp => h p (by simpa [lks] using hp))
  | @slot i v rs vs Gs hv _ ih =>
    intro ds e' h
    unfold rds at e'
    simp only [rd] at e'
    split at e'
    · cases e'
    · rename_i d hd0
      split at e'
      · cases e'
      · rename_i es he
        cases e'
        obtain ⟨v', hv', o⟩ := R.has i d (join_some hd0)
        rw [hv] at hv'
        cases hv'
        by_cases hp : pur d = true
        · rw [o.pur hp] at o
          refine .cons (o.chg e.chg fun _ z => by cases z) (ih he fun p hp' => h p ?_)
          unfold lks
          rw [if_pos hp]
          exact hp'
        · have hm : (i, d) ∈ l := h (i, d) (by unfold lks; rw [if_neg hp]; exact List.mem_cons_self ..)
          have key : ∀ {l : List (Nat × D)} {Gl : List (List Addr)}, Hid K H σ Fs1 l Gl → (i, d) ∈ l → ∃ F, Apart K H Fs1 d v F := fun {l Gl} q => by
            induction q with
            | nil => intro h; cases h
            | @cons j d' v' F l Gl hv' A n _ ih =>
              intro h
              rcases List.mem_cons.mp h with z | h
              · cases z
                rw [hv] at hv'
                cases hv'
                exact ⟨F, A⟩
              · exact ih h
          obtain ⟨F, A⟩ := key hd hm
          refine .cons (A.ev e).own (ih he fun p hp' => h p ?_)
          unfold lks
          rw [if_neg hp]
          exact List.mem_cons_of_mem _ hp'
/-- the rule of a walk over operands: J as the values say -/
theorem mkI_ok {itm : List D → Option (List D)} {g : AL} {σ : St} {H : Hp} {R : It → Hp → Prop} (h : tI K (mkI itm g) σ H R) {w : List V → Hp → (It → Hp → Prop) → Prop}
    (hw : ∀ vs ds es H R, RdA K H vs ds → itm ds = some es → purs es = true → (∀ J, WalkD K J (fun H2 => RdA K H2 vs ds) es → R J H) → w vs H R) : tA K g σ H fun vs H1 => w vs H1 R := by
  obtain ⟨s, Fs, es, l, s', R0, e, q⟩ := h
  obtain ⟨rs, s1, e1, e⟩ := bind_inv e
  refine ⟨s, Fs, rs, s1, R0, e1, fun vs H1 Fs1 Gs R1 E1 k1 n1 => ?_⟩
  split at e
  · cases e
  · rename_i ds hds
    split at e
    · cases e
    · rename_i es' hes
      split at e
      · rename_i hp
        cases e
        obtain ⟨Fs2, Gl, R2, hd, sub, fr⟩ := R1.lock (lks_has k1 hds) hp.2
        refine hw vs ds es H1 R (k1.dp R1 hds) hes hp.1 fun J W => ?_
        refine q J H1 Fs2 Gl _ R2 E1.chg (fun j a h => E1.new j a (sub j a h)) hd (fr.trans E1.new fun a h => E1.chg.there a h) W fun H2 Fs3 E => ?_
        exact lks_stand R1 sub E hd k1 hds fun p h => h
      · cases e
theorem purs_get {es : List D} (h : purs es = true) {i : Nat} {d : D} (e : es[i]? = some d) : pur d = true := by
  induction es generalizing i with
  | nil => simp at e
  | cons x es ih =>
    simp only [purs, Bool.and_eq_true] at h
    cases i with
    | zero => simp at e; rw [← e]; exact h.1
    | succ i => exact ih h.2 (by simpa using e)
theorem OwnA.at {H : Hp} {ds : List D} {vs : List V} {F : List Addr} (t : OwnA K H ds vs F) (p : purs ds = true) {i : Nat} {x : V} (e : vs[i]? = some x) : ∃ d, ds[i]? = some d ∧ Own K H d x [] := by
  have hl := t.len
  have hi : i < ds.length := by rw [← hl]; exact (List.getElem?_eq_some_iff.mp e).1
  obtain ⟨v, G, hv, o, _⟩ := t.get i ds[i] (List.getElem?_eq_getElem hi)
  rw [e] at hv
  cases hv
  have pp := purs_get p (List.getElem?_eq_getElem hi)
  rw [o.pur pp] at o
  exact ⟨_, List.getElem?_eq_getElem hi, o⟩
/-- plain: a list, a tuple, a list that never changes -/
def itP : List D → Option (List D)
  | [.list ds] => some ds
  | [.tuple ds] => some ds
  | [.dict [(.none, .list ds)]] => some ds
  | _ => none
def wP (K : PySem.W.Frag) : List V → Hp → (It → Hp → Prop) → Prop := fun vs H R => ∃ a, vs = [.ref a] ∧ ((∃ xs, SqL K H a xs) ∧ R (Itl K a) H ∨ (∃ xs, SqT K H a xs) ∧ R (Itt K a) H)
theorem rd_list {H : Hp} {a : Addr} {ds : List D} (h : RdA K H [.ref a] [.list ds]) : ∃ xs F, SqL K H a xs ∧ OwnA K H ds xs F := by
  cases h with
  | cons o _ =>
    cases o with
    | lst h t n => exact ⟨_, _, SqL.of h, t⟩
theorem rd_tup {H : Hp} {a : Addr} {ds : List D} (h : RdA K H [.ref a] [.tuple ds]) : ∃ xs F, SqT K H a xs ∧ OwnA K H ds xs F := by
  cases h with
  | cons o _ =>
    cases o with
    | tup h t => exact ⟨_, _, h.sq, t⟩
theorem rd_frz {H : Hp} {a : Addr} {ds : List D} (h : RdA K H [.ref a] [.dict [(.none, .list ds)]]) : ∃ xs F, SqL K H a xs ∧ OwnA K H ds xs F := by
  cases h with
  | cons o _ =>
    cases o with
    | frz h t => exact ⟨_, _, h.sq, t⟩
theorem walkD_l {a : Addr} {ds : List D} {G : Hp → Prop} (p : purs ds = true) (h : ∀ H, G H → ∃ xs F, SqL K H a xs ∧ OwnA K H ds xs F) : WalkD K (Itl K a) G ds := by
  refine ⟨fun i H hi g => ?_, fun H g => ?_, fun i H x H' hi g y => ?_⟩
  · obtain ⟨xs, F, hq, t⟩ := h H g
    have hl := t.len
    exact ⟨xs, xs[i]'(by omega), hq, List.getElem?_eq_getElem _⟩
  · obtain ⟨xs, F, hq, t⟩ := h H g
    have hl := t.len
    exact ⟨xs, hq, by omega⟩
  · obtain ⟨xs, F, hq, t⟩ := h H g
    obtain ⟨rfl, y⟩ := y
    obtain ⟨d, hd, o⟩ := t.at p (y xs hq)
    exact ⟨d, hd, Same.refl _, o⟩
theorem walkD_t {a : Addr} {ds : List D} {G : Hp → Prop} (p : purs ds = true) (h : ∀ H, G H → ∃ xs F, SqT K H a xs ∧ OwnA K H ds xs F) : WalkD K (Itt K a) G ds := by
  refine ⟨fun i H hi g => ?_, fun H g => ?_, fun i H x H' hi g y => ?_⟩
  · obtain ⟨xs, F, hq, t⟩ := h H g
    have hl := t.len
    exact ⟨xs, xs[i]'(by omega), hq, List.getElem?_eq_getElem _⟩
  · obtain ⟨xs, F, hq, t⟩ := h H g
    have hl := t.len
    exact ⟨xs, hq, by omega⟩
  · obtain ⟨xs, F, hq, t⟩ := h H g
    obtain ⟨rfl, y⟩ := y
    obtain ⟨d, hd, o⟩ := t.at p (y xs hq)
    exact ⟨d, hd, Same.refl _, o⟩
theorem wP_ok : ∀ (vs : List V) (ds es : List D) (H : Hp) (R : It → Hp → Prop), RdA K H vs ds → itP ds = some es → purs es = true → (∀ J, WalkD K J (fun H2 => RdA K H2 vs ds) es → R J H) → wP K vs H R := by
  intro vs ds es H R h e p q
  unfold itP at e
  split at e
  · cases e
    obtain ⟨x, F, rfl, o⟩ := h.one
    cases o with
    | lst h1 t n => exact ⟨_, rfl, .inl ⟨⟨_, SqL.of h1⟩, q _ (walkD_l p fun H2 g => rd_list g)⟩⟩
  · cases e
    obtain ⟨x, F, rfl, o⟩ := h.one
    cases o with
    | tup h1 t => exact ⟨_, rfl, .inr ⟨⟨_, h1.sq⟩, q _ (walkD_t p fun H2 g => rd_tup g)⟩⟩
  · cases e
    obtain ⟨x, F, rfl, o⟩ := h.one
    cases o with
    | frz h1 t => exact ⟨_, rfl, .inl ⟨⟨_, h1.sq⟩, q _ (walkD_l p fun H2 g => rd_frz g)⟩⟩
  · cases e
/-- over a list or a tuple -/
theorem pi_seq {tg e : Expr} {te : TE} (he : PE X e te) : PI X tg e (fun σ H R => te σ H fun x H1 => wP X.K [x] H1 R) := by
  refine ⟨fun pins s σ H R I h => ?_⟩
  -- the value is known only when it is there: both rules run on the same evaluation
  refine thn (he.run pins s σ H _ I h) fun v s1 ⟨x, H1, I1, r1, a, ex, q⟩ => ?_
  have ex' : x = V.ref a := by cases ex; rfl
  subst ex'
  rcases q with ⟨⟨xs, hq⟩, q⟩ | ⟨⟨xs, hq⟩, q⟩
  · cases r1
    obtain ⟨its, rv, p, hz⟩ := I1.list hq
    refine wpAny_pyIter_list p.isList ?_
    refine ⟨s1.heap.objs.size, [s1.heap.objs.size], _, _, H1, rfl, I1.kept (t' := s1.toks) fun b o e => Heap.get?_push_of_some _ e, turn_list a _, ⟨_, Heap.get?_push_size _ rfl, rfl, rfl⟩, fun b hb => ?_, q⟩
    have e : b = s1.heap.objs.size := by simpa using hb
    subst e
    exact I1.fpOk (Nat.le_refl _) (I1.hok.fresh (Nat.le_refl _))
  · cases r1
    obtain ⟨its, rv, p, hz⟩ := I1.tuple hq
    refine wpAny_pyIter_tuple (show s1.heap.IsTuple a its.toArray from p) ?_
    refine ⟨s1.heap.objs.size, [s1.heap.objs.size], _, _, H1, rfl, I1.kept (t' := s1.toks) fun b o e => Heap.get?_push_of_some _ e, turn_tuple a _, ⟨_, Heap.get?_push_size _ rfl, rfl, rfl⟩, fun b hb => ?_, q⟩
    have e : b = s1.heap.objs.size := by simpa using hb
    subst e
    exact I1.fpOk (Nat.le_refl _) (I1.hok.fresh (Nat.le_refl _))
theorem si_seq {tg e : Expr} {ga : O} (he : SimO X e ga) : SimI X tg e (mkI itP (aCons ga aNil)) :=
  pi_imp (pi_seq he) fun _ _ _ h => by have z := tA1 (mkI_ok h wP_ok); exact z
def rngD (lo : Int) (n : Nat) : List D := (List.range n).map fun i => .int (lo + (i : Nat))
def itR1 : List D → Option (List D)
  | [.int j] => if -1000000 < j ∧ j < 1000000 then some (rngD 0 j.toNat) else none
  | _ => none
def itR2 : List D → Option (List D)
  | [.int i, .int j] => if -1000000 < i ∧ i < 1000000 ∧ -1000000 < j ∧ j < 1000000 then some (rngD i (j - i).toNat) else none
  | _ => none
theorem rngD_len (lo : Int) (n : Nat) : (rngD lo n).length = n := by unfold rngD; simp
theorem walkD_r {lo : Int} {n : Nat} {G : Hp → Prop} : WalkD K (Itr lo n) G (rngD lo n) := by
  refine ⟨fun i H hi g => by rw [rngD_len] at hi; exact hi, fun H g => by rw [rngD_len]; exact Nat.le_refl _, fun i H x H' hi g y => ?_⟩
  obtain ⟨rfl, rfl⟩ := y
  rw [rngD_len] at hi
  refine ⟨.int (lo + (i : Nat)), ?_, Same.refl _, .int _⟩
  unfold rngD
  rw [List.getElem?_map, List.getElem?_range hi]
  rfl
theorem si_range1 {tg a : Expr} {ga : O} {p pos : Pos} (hg : Gl X "range") (hm : X.mg "range" = none) (ha : SimA X [a] (aCons ga aNil)) (hs : starEach [a] X.env = [(false, eval a X.env)] := by rfl) : SimI X tg (.Call (.Name "range" p) [a] [] pos) (mkI itR1 (aCons ga aNil)) := by
  refine pi_imp (pi_range1 hg hm ha hs) fun σ H R h => ?_
  exact mkI_ok h (w := fun vs H1 R => ∃ j : Int, vs = [.int j] ∧ -(2 ^ 62) ≤ j ∧ j < 2 ^ 62 ∧ R (Itr 0 j.toNat) H1) (fun vs ds es H R h e p q => by
    unfold itR1 at e
    split at e
    · obtain ⟨x, F, rfl, o⟩ := h.one
      cases o
      split at e
      · rename_i hj
        cases e
        exact ⟨_, rfl, by omega, by omega, q _ walkD_r⟩
      · cases e
    · cases e)
end
end Sim
namespace Sim
open PySem PySem.Spec L2
open Sem (wp)
theorem meets_enumerate_newB1 {v : Value} {o : Obj} {H : Heap → Prop} (B : Begins v o H) :
    Meets (Builtin.«enumerate.__new__» ⟨[.type "enumerate", v], []⟩) (fun _ R s => H s.heap ∧
      R (.ok (.ret (.ref (s.heap.push o).objs.size))) { s with heap := (s.heap.push o).push { cls := .type "enumerate", data := .fields #[.none, .bool false, .ref s.heap.objs.size, rawInt 0, .none, .none] } }) :=
  .of_wp fun prog w A R s h => by
    obtain ⟨hp, g, d, tk, os⟩ := s; obtain ⟨h1, h⟩ := h
    have hsub := sub_enumerate
    have q1 : ∀ {A' : Around} {E : Value → Shared → Prop} {Q : Value → Shared → Prop}, Q (.ref hp.objs.size) ⟨hp.push o, g, d, tk, os⟩ → wpAny (model prog w) A' (pyIter v) Q E ⟨hp, g, d, tk, os⟩ :=
      fun q => B.iter prog w _ _ ⟨hp, g, d, tk, os⟩ _ h1 q
    wp_walk using q1
    refine wpAny_stack_any fun st => wpAny_pure ?_
    split
    · rename_i c _ _ _ _ _
      cases (c == Value.type "enumerate")
      · wp_walk using q1
        exact ⟨_, rfl, h⟩
      · wp_walk using q1
        exact ⟨_, rfl, h⟩
    · wp_walk using q1
      exact ⟨_, rfl, h⟩
theorem enum_begins1 {prog : Program} {w : World} {A : Around} {E : Value → Shared → Prop} {s : Shared} {v : Value} {o : Obj} {H : Heap → Prop} {Q : Value → Shared → Prop} (B : Begins v o H) (h1 : H s.heap)
    (h : ∀ h', IsEnum h' (s.heap.objs.size + 1) s.heap.objs.size 0 .none → h'.get? s.heap.objs.size = some o → h'.objs.size = s.heap.objs.size + 2 →
      (∀ b o, s.heap.get? b = some o → h'.get? b = some o) → Q (.ref (s.heap.objs.size + 1)) { s with heap := h' }) :
    wpAny (model prog w) A (call (.type "enumerate") [v]) Q E s := by
  refine callType_new F.called_enumerate (by decide) (F.typeCall_enumerate_1 _) (F.newCall_enumerate_1 _) (fun obj => F.args_object_init_2 obj _) F.entry_enumerate_new
    (meets_enumerate_newB1 B) ⟨h1, ?_⟩
  have hz : (s.heap.push o).objs.size = s.heap.objs.size + 1 := Heap.size_push ..
  show _ ∧ _
  rw [hz]
  have he : IsEnum ((s.heap.push o).push { cls := .type "enumerate", data := .fields #[.none, .bool false, .ref s.heap.objs.size, rawInt 0, .none, .none] }) (s.heap.objs.size + 1) s.heap.objs.size 0 .none := by
    have := Heap.get?_push_size (s.heap.push o) (o := { cls := .type "enumerate", data := .fields #[.none, .bool false, .ref s.heap.objs.size, rawInt 0, .none, .none] }) rfl
    rw [hz] at this; exact this
  refine ⟨⟨_, he, rfl⟩, h _ he (Heap.get?_push_of_some _ (Heap.get?_push_size _ B.free)) (by rw [Heap.size_push, hz]) fun b o x => Heap.get?_push_of_some _ (Heap.get?_push_of_some _ x)⟩
def Sq2 (K : PySem.W.Frag) (H : Hp) (k : Bool) (a : Addr) (xs : List V) : Prop := match k with
  | true => SqL K H a xs
  | false => SqT K H a xs
def SrcH (h : Heap) (k : Bool) (a : Addr) (items : Array Value) : Prop := match k with
  | true => h.IsList a items
  | false => h.IsTuple a items
def ItH (h : Heap) (k : Bool) (it a : Addr) (i : Nat) : Prop := match k with
  | true => h.IsListIter it a i
  | false => h.IsTupleIter it a i
theorem sq2_src {X : Cx} {pins : List (Addr × Obj)} {σ : St} {H : Hp} {s : Shared} {k : Bool} {a : Addr} {xs : List V} (I : Inv X pins σ H s) (h : Sq2 X.K H k a xs) : ∃ its : List Value, Vals xs its ∧ SrcH s.heap k a its.toArray ∧ xs.length ≤ sizeLine := by
  cases k with
  | true =>
    obtain ⟨its, r, p, z⟩ := I.list h
    exact ⟨its, r, p.isList, z⟩
  | false =>
    obtain ⟨its, r, p, z⟩ := I.tuple h
    exact ⟨its, r, p, z⟩
theorem sq2_inj {X : Cx} {pins : List (Addr × Obj)} {σ : St} {H : Hp} {s : Shared} {k : Bool} {a : Addr} {xs ys : List V} (I : Inv X pins σ H s) (h : Sq2 X.K H k a xs) (h2 : Sq2 X.K H k a ys) : xs = ys := by
  cases k with
  | true => exact I.list_inj h h2
  | false => exact I.tuple_inj h h2
theorem itH_obj {h : Heap} {k : Bool} {it a : Addr} {i : Nat} (st : ItH h k it a i) : ∃ o, h.get? it = some o ∧ ∀ v, o.data ≠ .cell v := by
  cases k with
  | true =>
    obtain ⟨o, ho, hc, hd⟩ := st
    exact ⟨o, ho, fun v q => by rw [hd] at q; cases q⟩
  | false =>
    obtain ⟨o, ho, hc, hd⟩ := st
    exact ⟨o, ho, fun v q => by rw [hd] at q; cases q⟩
theorem itH_at {h h' : Heap} {k : Bool} {it a : Addr} {i : Nat} (st : ItH h k it a i) (q : ∀ o, h.get? it = some o → h'.get? it = some o) : ItH h' k it a i := by
  cases k with
  | true => exact Heap.IsListIter.at st q
  | false => exact Heap.IsTupleIter.at st q
theorem itH_lt {h : Heap} {k : Bool} {it a : Addr} {i : Nat} (st : ItH h k it a i) : it < h.objs.size := by
  obtain ⟨o, ho, _⟩ := itH_obj st
  exact Heap.lt_size ho
theorem src_apart {h : Heap} {k k2 : Bool} {it b a : Addr} {i : Nat} {items : Array Value} (st : ItH h k it b i) (ht : SrcH h k2 a items) : a ≠ it := by
  rintro rfl
  have e1 : ∃ o, h.get? a = some o ∧ (o.cls = .type "list_iterator" ∨ o.cls = .type "tuple_iterator") := by
    cases k with
    | true => obtain ⟨o, ho, hc, _⟩ := st; exact ⟨o, ho, .inl hc⟩
    | false => obtain ⟨o, ho, hc, _⟩ := st; exact ⟨o, ho, .inr hc⟩
  have e2 : ∃ o, h.get? a = some o ∧ (o.cls = .type "list" ∨ o.cls = .type "tuple") := by
    cases k2 with
    | true => obtain ⟨o, ho, hc, _⟩ := ht; exact ⟨o, ho, .inl hc⟩
    | false => obtain ⟨o, ho, hc, _⟩ := ht; exact ⟨o, ho, .inr hc⟩
  obtain ⟨o, ho, hc⟩ := e1
  obtain ⟨o', ho', hc'⟩ := e2
  rw [ho] at ho'
  cases ho'
  rcases hc with hc | hc <;> rcases hc' with hc' | hc' <;> rw [hc] at hc' <;> injection hc' with z <;> exact absurd z (by decide)
theorem src_cls {h : Heap} {k : Bool} {a : Addr} {items : Array Value} (ht : SrcH h k a items) {o : Obj} (ho : h.get? a = some o) : o.cls = .type "list" ∨ o.cls = .type "tuple" := by
  cases k with
  | true => obtain ⟨o', ho', hc, _⟩ := ht; rw [ho] at ho'; cases ho'; exact .inl hc
  | false => obtain ⟨o', ho', hc, _⟩ := ht; rw [ho] at ho'; cases ho'; exact .inr hc
theorem draws_src {prog : Program} {w : World} {A : Around} (hh : A.handled = none) (k : Bool) (it a : Addr) (hne : a ≠ it) (items : Array Value) :
    Draws prog w A it [it, a] items.size (fun i v => items[i]? = some v) (fun i h => ItH h k it a i ∧ SrcH h k a items) := by
  cases k with
  | true => exact Draws.list hh it a hne items
  | false => exact Draws.tuple hh it a hne items
theorem begins_src (k : Bool) (a : Addr) (items : Array Value) : ∃ o, Begins (.ref a) o (fun h => SrcH h k a items) ∧ ∀ (h : Heap) (it : Addr), h.get? it = some o → ItH h k it a 0 := by
  cases k with
  | true => exact ⟨_, begins_list a items, fun h it e => ⟨_, e, rfl, rfl⟩⟩
  | false => exact ⟨_, begins_tuple a items, fun h it e => ⟨_, e, rfl, rfl⟩⟩
def IteA (K : PySem.W.Frag) (k : Bool) (a : Addr) : It :=
  ⟨fun i H => ∃ (xs : List V) (x : V), Sq2 K H k a xs ∧ xs[i]? = some x, fun i H v H' => ∃ T o x, v = .ref T ∧ H T = none ∧ o.dict = none ∧ H' = upd H T (.frz o (.tup [.int (i : Nat), x])) ∧ ∀ xs, Sq2 K H k a xs → xs[i]? = some x, fun i H => ∃ xs : List V, Sq2 K H k a xs ∧ xs.length = i⟩
theorem enum_apart {h : Heap} {k : Bool} {e a : Addr} {i : Addr} {c : Int} {old : Value} {items : Array Value} (he : IsEnum h e i c old) (ht : SrcH h k a items) : e ≠ a := by
  rintro rfl
  have he' : h.get? e = some _ := he
  rcases src_cls ht he' with z | z <;> injection z with z <;> exact absurd z (by decide)
theorem turn_enumA {P : Program} {w : World} {K : PySem.W.Frag} {elts : List Expr} {kk : Nat} {tpos : Pos} (k : Bool) (a e it : Addr) :
    Turn P w K (.Tuple elts kk tpos) (IteA K k a) [e, it] e (fun i h => (∃ old, IsEnum h e it ((i : Nat) : Int) old) ∧ ItH h k it a i ∧ e ≠ it) where
  mem := by simp
  obj := fun i h st b hb => by
    obtain ⟨⟨old, he⟩, hi, _⟩ := st
    have e' : b = e ∨ b = it := by simpa using hb
    rcases e' with z | z
    · rw [z]; exact ⟨_, he, fun v q => nomatch q⟩
    · rw [z]; exact itH_obj hi
  keep := fun i h h' st k => let ⟨⟨old, he⟩, hi, hne⟩ := st; ⟨⟨old, k e (by simp) _ he⟩, itH_at hi fun o q => k it (by simp) o q, hne⟩
  item := by
    intro X hP hw hK hc i pins s σ H E I hf st hg
    subst hP hw hK
    obtain ⟨⟨old, he⟩, hit, hne⟩ := st
    obtain ⟨xs, x, hq, hx⟩ := hg
    obtain ⟨its, rv, ht, hz⟩ := sq2_src I hq
    obtain ⟨u, hu, ru⟩ := rv.get hx
    have hel : e < s.heap.objs.size := Heap.lt_size he
    have hil := itH_lt hit
    have hai := src_apart hit ht
    have hea := enum_apart he ht
    have hh : X.A.in1.handled = none := I.ok.hd hc
    have hlt : i < its.toArray.size := by
      have := (List.getElem?_eq_some_iff.mp hu).1
      simpa using this
    refine wpAny_pyNext_enum_itemC (draws_src hh k it a hai its.toArray) he ⟨hit, ht⟩ hlt hne (by simp [hne, hea]) fun x' h' tk hP ho hst hT hsz hk => ?_
    have hxu : x' = u := by
      have q : its.toArray[i]? = some u := by simpa using hu
      rw [q] at hP
      exact (Option.some.inj hP).symm
    subst hxu
    refine ⟨_, rfl, wpAny_letOwnedTupleGo_enum (s := { s with heap := h', toks := tk + 1 }) ho fun h'' he' sb => ?_⟩
    have hT2 : h''.get? s.heap.objs.size = some { cls := .type "tuple", data := .seq #[.int i tk, x'] } := (sb.2 _ (Nat.ne_of_gt hel)).trans hT
    have new : ObjOk X.prog X.w (upd H s.heap.objs.size (.frz { cls := .type "tuple", data := .seq #[.int i tk, x'] } (.tup [.int (i : Nat), x]))) h'' s.heap.objs.size (.frz { cls := .type "tuple", data := .seq #[.int i tk, x'] } (.tup [.int (i : Nat), x])) :=
      ⟨hT2, by show 2 ≤ sizeLine; decide, [.int i tk, x'], .cons ⟨_, rfl⟩ (.cons ru .nil), ⟨_, hT2, rfl, _, rfl⟩⟩
    have I1 : Inv X pins σ (upd H s.heap.objs.size (.frz { cls := .type "tuple", data := .seq #[.int i tk, x'] } (.tup [.int (i : Nat), x]))) { s with heap := h'', toks := tk + 1 } :=
      I.turnedNew (ch := [e, it]) (fun b ob hb q => (sb.2 b (fun z => hb (by simp [z]))).trans (hk b ob (fun z => hb (by simp [z])) (fun z => hb (by simp [z])) q)) hf (Nat.le_refl _) new
    refine ⟨.ref s.heap.objs.size, _, I1, rfl, ⟨_, _, x, rfl, I.hok.fresh (Nat.le_refl _), rfl, rfl, fun ys hy => by rw [sq2_inj I hy hq]; exact hx⟩, ⟨⟨x', ?_⟩, itH_at hst.1 fun o q => (sb.2 it (Ne.symm hne)).trans q, hne⟩, fun b hb => ?_⟩
    · have e1 : ((i + 1 : Nat) : Int) = (i : Int) + 1 := by omega
      rw [e1]; exact he'
    · have hb' : b < s.heap.objs.size := by
        have e' : b = e ∨ b = it := by simpa using hb
        rcases e' with z | z
        · rw [z]; exact hel
        · rw [z]; exact hil
      rw [upd_ne (Nat.ne_of_lt hb')]
      exact (hf b hb).1
  done := by
    intro X hP hw hK hc i pins s σ H E I hf st hg
    subst hP hw hK
    obtain ⟨⟨old, he⟩, hit, hne⟩ := st
    obtain ⟨xs, hq, hx⟩ := hg
    obtain ⟨its, rv, ht, hz⟩ := sq2_src I hq
    obtain ⟨f0, f1, f2, f3, f4, f5⟩ := hf it (by simp)
    have hl := rv.length
    have hai := src_apart hit ht
    have hh : X.A.in1.handled = none := I.ok.hd hc
    have hi : i = its.toArray.size := by rw [List.size_toArray]; omega
    subst hi
    exact wpAny_pyNext_enum_endD (draws_src hh k it a hai its.toArray) he ⟨hit, ht⟩ fun h' eb => ⟨rfl, I.turned (t' := s.toks) (fun b o hb q => eb b o hb q) f0 f1 f3 f4 f5⟩
  self := fun A i s Q E st h => let ⟨⟨_, he⟩, _⟩ := st; wpAny_pyIter_enum he h
def iEnumA (K : PySem.W.Frag) (ta : TA) : TI := fun σ H R => ta σ H fun vs H1 => ∃ k a xs, vs = [.ref a] ∧ Sq2 K H1 k a xs ∧ R (IteA K k a) H1
theorem pi_enumA {X : Cx} {e : Expr} {ta : TA} {p pos tpos : Pos} {elts : List Expr} {kk : Nat} (hg : Gl X "enumerate") (hm : X.mg "enumerate" = none) (ha : PA X [e] ta) (hs : starEach [e] X.env = [(false, eval e X.env)] := by rfl) :
    PI X (.Tuple elts kk tpos) (.Call (.Name "enumerate" p) [e] [] pos) (iEnumA X.K ta) := by
  refine ⟨fun pins s σ H R I h => ?_⟩
  refine PyProof.Rows.Call_ (ld_blt I hg hm PyProof.Rows.boot_enumerate (PyProof.Rows.callWith_type1 (thn (ha.run pos pins s σ H _ I h) fun us s1 ⟨vs, H1, I1, r1, q1⟩ => ?_) hs rfl))
  obtain ⟨k, a, xs, ex, hq, q⟩ := q1
  subst ex
  cases r1 with
  | cons r rr =>
    cases rr
    cases r
    have fin : ∀ b, b ∈ [s1.heap.objs.size + 1, s1.heap.objs.size] → FpOk X pins H1 b := fun b hb => by
      have e' : b = s1.heap.objs.size + 1 ∨ b = s1.heap.objs.size := by simpa using hb
      have hle : s1.heap.objs.size ≤ b := by
        rcases e' with z | z
        · rw [z]; exact Nat.le_add_right _ _
        · rw [z]; exact Nat.le_refl _
      exact I1.fpOk hle (I1.hok.fresh hle)
    obtain ⟨its, rv, ht, hz⟩ := sq2_src I1 hq
    obtain ⟨o, B, hB⟩ := begins_src k a its.toArray
    refine enum_begins1 B ht fun h' he hit hsz hk => wpAny_pyIter_enum he ?_
    have I2 : Inv X pins σ H1 { s1 with heap := h' } := I1.kept (t' := s1.toks) hk
    exact ⟨s1.heap.objs.size + 1, [s1.heap.objs.size + 1, s1.heap.objs.size], _, _, H1, rfl, I2, turn_enumA k a (s1.heap.objs.size + 1) s1.heap.objs.size, ⟨⟨.none, he⟩, hB _ _ hit, Nat.succ_ne_self _⟩, fin, q⟩
def ItzA (K : PySem.W.Frag) (k l : Bool) (a b : Addr) : It :=
  ⟨fun i H => ∃ (xs ys : List V) (x y : V), Sq2 K H k a xs ∧ Sq2 K H l b ys ∧ xs[i]? = some x ∧ ys[i]? = some y,
    fun i H v H' => ∃ T o x y, v = .ref T ∧ H T = none ∧ o.dict = none ∧ H' = upd H T (.frz o (.tup [x, y])) ∧ (∀ xs, Sq2 K H k a xs → xs[i]? = some x) ∧ ∀ ys, Sq2 K H l b ys → ys[i]? = some y,
    fun i H => ∃ xs ys : List V, Sq2 K H k a xs ∧ Sq2 K H l b ys ∧ i = min xs.length ys.length⟩
def ZSt (h : Heap) (k l : Bool) (z TI TO i1 i2 a b : Addr) (f0 : Value) (i : Nat) : Prop :=
  IsZip h z TI TO f0 ∧ IsTupOf2 h TI (.ref i1) (.ref i2) ∧ (∃ x y, IsTupOf2 h TO x y) ∧ ItH h k i1 a i ∧ ItH h l i2 b i
structure ZAp (z TI TO i1 i2 : Addr) : Prop where
  TIz : TI ≠ z
  TOz : TO ≠ z
  TITO : TI ≠ TO
  TIi1 : TI ≠ i1
  TIi2 : TI ≠ i2
  zi1 : z ≠ i1
  zi2 : z ≠ i2
  Ti1 : TO ≠ i1
  Ti2 : TO ≠ i2
  ii : i1 ≠ i2
theorem zap (n : Nat) : ZAp (n + 4) (n + 2) (n + 3) n (n + 1) := by
  constructor <;> (intro e; have e' : (_ : Nat) = _ := e; omega)
theorem zsep {h : Heap} {k l : Bool} {z TI TO i1 i2 a b : Addr} {f0 : Value} {i : Nat} {xs ys : Array Value} (D : ZAp z TI TO i1 i2) (st : ZSt h k l z TI TO i1 i2 a b f0 i) (h1 : SrcH h k a xs) (h2 : SrcH h l b ys) (hTO : TO ≠ a ∧ TO ≠ b) : ZipSep2 z TI TO i1 i2 [i1, a] [i2, b] := by
  have hz : h.get? z = some _ := st.1
  have za : ∀ {k a} {xs : Array Value}, SrcH h k a xs → z ≠ a := fun {k a xs} hh e => by
    subst e
    rcases src_cls hh hz with w | w <;> injection w with w <;> exact absurd w (by decide)
  have ia := src_apart st.2.2.2.1 h2
  have ib := src_apart st.2.2.2.2 h1
  exact ⟨D.TIz, D.TOz, D.TITO, D.TIi1, by simp, by simp [D.zi1, za h1], by simp [D.Ti1, hTO.1], D.TIi2, by simp, by simp [D.zi2, za h2], by simp [D.Ti2, hTO.2], by simp [D.ii, ia.symm], by simp [D.ii.symm, ib.symm]⟩
/-- the source's place isn't the iterator's own -/
theorem src_ne {X : Cx} {pins : List (Addr × Obj)} {H : Hp} {k : Bool} {a : Addr} {xs : List V} {T : Addr} (hf : FpOk X pins H T) (hq : Sq2 X.K H k a xs) {s : Shared} {σ : St} (I : Inv X pins σ H s) : T ≠ a := by
  rintro rfl
  have n := hf.1
  have key : ∀ {u : HO}, ¬ Rd H T u := fun {u} r => by
    rcases r with r | ⟨o, r⟩
    · rw [n] at r; cases r
    · rw [n] at r; cases r
  have kk : ∀ {o : Obj}, X.K.lookup T = some o → False := fun {o} hk => by
    have e1 : X.base.get? T = some o := I.ok.mod.kin T o hk
    have e2 := Heap.lt_size e1
    rcases hf.2.2.2.1 with z | z
    · exact I.ok.noex T o e1 z
    · exact absurd (Nat.lt_of_lt_of_le e2 (Nat.le_trans I.ok.bsz z)) (Nat.lt_irrefl _)
  cases k with
  | true =>
    rcases hq with r | ⟨o, _, _, hk, _⟩
    · exact key r
    · exact kk hk
  | false =>
    rcases hq with r | ⟨o, _, _, hk, _⟩
    · exact key r
    · exact kk hk
theorem turn_zipA {P : Program} {w : World} {K : PySem.W.Frag} {elts : List Expr} {kk : Nat} {tpos : Pos} (k l : Bool) {z TI TO i1 i2 : Addr} (a b : Addr) (D : ZAp z TI TO i1 i2) :
    Turn P w K (.Tuple elts kk tpos) (ItzA K k l a b) [z, TI, TO, i1, i2] z (fun i h => ZSt h k l z TI TO i1 i2 a b .none i) where
  mem := by simp
  obj := fun i h st c hc => by
    obtain ⟨hz, hTI, ⟨x, y, hTO⟩, h1, h2⟩ := st
    have e' : c = z ∨ c = TI ∨ c = TO ∨ c = i1 ∨ c = i2 := by simpa using hc
    rcases e' with q | q | q | q | q
    · rw [q]; exact ⟨_, hz, fun v q => nomatch q⟩
    · rw [q]; exact ⟨_, hTI, fun v q => nomatch q⟩
    · rw [q]; exact ⟨_, hTO, fun v q => nomatch q⟩
    · rw [q]; exact itH_obj h1
    · rw [q]; exact itH_obj h2
  keep := fun i h h' st k => by
    obtain ⟨hz, hTI, ⟨x, y, hTO⟩, h1, h2⟩ := st
    exact ⟨k z (by simp) _ hz, k TI (by simp) _ hTI, ⟨x, y, k TO (by simp) _ hTO⟩, itH_at h1 fun o q => k i1 (by simp) o q, itH_at h2 fun o q => k i2 (by simp) o q⟩
  item := by
    intro X hP hw hK hc i pins s σ H E I hf st hg
    subst hP hw hK
    obtain ⟨xs, ys, x, y, hqx, hqy, hx, hy⟩ := hg
    obtain ⟨its, rv, p, _⟩ := sq2_src I hqx
    obtain ⟨its2, rv2, p2, _⟩ := sq2_src I hqy
    obtain ⟨u, hu, ru⟩ := rv.get hx
    obtain ⟨u2, hu2, ru2⟩ := rv2.get hy
    have S := zsep D st p p2 ⟨src_ne (hf TO (by simp)) hqx I, src_ne (hf TO (by simp)) hqy I⟩
    obtain ⟨hz, hTI, ⟨x0, y0, hTO⟩, h1, h2⟩ := st
    have hzl : z < s.heap.objs.size := Heap.lt_size hz
    have hh : X.A.in1.handled = none := I.ok.hd hc
    have lt1 : i < its.toArray.size := by have := (List.getElem?_eq_some_iff.mp hu).1; simpa using this
    have lt2 : i < its2.toArray.size := by have := (List.getElem?_eq_some_iff.mp hu2).1; simpa using this
    refine wpAny_pyNext_zipD2_item S (draws_src hh k i1 a (src_apart h1 p) its.toArray) (draws_src hh l i2 b (src_apart h2 p2) its2.toArray) hz hTI hTO ⟨h1, p⟩ ⟨h2, p2⟩ lt1 lt2 fun v1 v2 h' tk q1 q2 z' TO' st1 st2 hT hsz hk => ?_
    have e1 : v1 = u := by
      have q : its.toArray[i]? = some u := by simpa using hu
      rw [q] at q1; exact (Option.some.inj q1).symm
    have e2 : v2 = u2 := by
      have q : its2.toArray[i]? = some u2 := by simpa using hu2
      rw [q] at q2; exact (Option.some.inj q2).symm
    subst e1 e2
    refine ⟨_, rfl, wpAny_letOwnedTupleGo_zip (s := { s with heap := h', toks := tk }) z' fun h'' z'' sb => ?_⟩
    have hT2 : h''.get? s.heap.objs.size = some { cls := .type "tuple", data := .seq #[v1, v2] } := (sb.2 _ (Nat.ne_of_gt hzl)).trans hT
    have new : ObjOk X.prog X.w (upd H s.heap.objs.size (.frz { cls := .type "tuple", data := .seq #[v1, v2] } (.tup [x, y]))) h'' s.heap.objs.size (.frz { cls := .type "tuple", data := .seq #[v1, v2] } (.tup [x, y])) :=
      ⟨hT2, by show 2 ≤ sizeLine; decide, [v1, v2], .cons ru (.cons ru2 .nil), ⟨_, hT2, rfl, _, rfl⟩⟩
    have I1 : Inv X pins σ (upd H s.heap.objs.size (.frz { cls := .type "tuple", data := .seq #[v1, v2] } (.tup [x, y]))) { s with heap := h'', toks := tk } :=
      I.turnedNew (ch := [z, TI, TO, i1, i2]) (fun c o hb q => (sb.2 c (fun q' => hb (by simp [q']))).trans (hk c o (fun q' => hb (by simp [q'])) (fun q' => hb (by simp [q'])) (fun q' => hb (by simp [q'])) (fun q' => hb (by simp [q'])) q)) hf (Nat.le_refl _) new
    refine ⟨.ref s.heap.objs.size, _, I1, rfl, ⟨_, _, x, y, rfl, I.hok.fresh (Nat.le_refl _), rfl, rfl, fun l hl => by rw [sq2_inj I hl hqx]; exact hx, fun l hl => by rw [sq2_inj I hl hqy]; exact hy⟩, ⟨z'', ?_, ⟨v1, v2, ?_⟩, ?_, ?_⟩, fun c hcm => ?_⟩
    · exact (sb.2 _ D.TIz).trans (hk _ _ D.TIz D.TITO D.TIi1 D.TIi2 hTI)
    · exact (sb.2 _ D.TOz).trans TO'
    · exact itH_at st1.1 fun o q => (sb.2 _ D.zi1.symm).trans q
    · exact itH_at st2.1 fun o q => (sb.2 _ D.zi2.symm).trans q
    · have hlt : c < s.heap.objs.size := by
        have e' : c = z ∨ c = TI ∨ c = TO ∨ c = i1 ∨ c = i2 := by simpa using hcm
        rcases e' with q | q | q | q | q
        · rw [q]; exact hzl
        · rw [q]; exact Heap.lt_size hTI
        · rw [q]; exact Heap.lt_size hTO
        · rw [q]; exact itH_lt h1
        · rw [q]; exact itH_lt h2
      rw [upd_ne (Nat.ne_of_lt hlt)]
      exact (hf c hcm).1
  done := by
    intro X hP hw hK hc i pins s σ H E I hf st hg
    subst hP hw hK
    obtain ⟨xs, ys, hqx, hqy, hend⟩ := hg
    obtain ⟨its, rv, p, _⟩ := sq2_src I hqx
    obtain ⟨its2, rv2, p2, _⟩ := sq2_src I hqy
    have S := zsep D st p p2 ⟨src_ne (hf TO (by simp)) hqx I, src_ne (hf TO (by simp)) hqy I⟩
    obtain ⟨hz, hTI, ⟨x0, y0, hTO⟩, h1, h2⟩ := st
    have hh : X.A.in1.handled = none := I.ok.hd hc
    have l1 := rv.length
    have l2 := rv2.length
    exact wpAny_pyNext_zipD2_end S (draws_src hh k i1 a (src_apart h1 p) its.toArray) (draws_src hh l i2 b (src_apart h2 p2) its2.toArray) hz hTI hTO ⟨h1, p⟩ ⟨h2, p2⟩ (by simp; omega) (by simp; omega) (by simp; omega)
      fun h' tk hk => ⟨rfl, I.turnedL (t' := tk) (ch := [z, TI, TO, i1, i2]) (fun c o hb q => hk c o (fun q' => hb (by simp [q'])) (fun q' => hb (by simp [q'])) (fun q' => hb (by simp [q'])) (fun q' => hb (by simp [q'])) q) hf⟩
  self := fun A i s Q E st h => wpAny_pyIter_zip st.1 h
def iZipA (K : PySem.W.Frag) (ta : TA) : TI := fun σ H R => ta σ H fun vs H1 => ∃ k l a b xs ys, vs = [.ref a, .ref b] ∧ Sq2 K H1 k a xs ∧ Sq2 K H1 l b ys ∧ R (ItzA K k l a b) H1
theorem pi_zipA {X : Cx} {e e2 : Expr} {ta : TA} {p pos tpos : Pos} {elts : List Expr} {kk : Nat} (hg : Gl X "zip") (hm : X.mg "zip" = none) (ha : PA X [e, e2] ta)
    (hs : starEach [e, e2] X.env = (false, eval e X.env) :: starEach [e2] X.env := by rfl) (hpl : (backTo pos (starEach [e2] X.env)).any (·.1) = false := by rfl) :
    PI X (.Tuple elts kk tpos) (.Call (.Name "zip" p) [e, e2] [] pos) (iZipA X.K ta) := by
  refine ⟨fun pins s σ H R I h => ?_⟩
  refine PyProof.Rows.Call_ (ld_blt I hg hm PyProof.Rows.boot_zip (PyProof.Rows.callWith_type1 (thn (ha.run pos pins s σ H _ I h) fun us s1 ⟨vs, H1, I1, r1, q1⟩ => ?_) hs hpl))
  obtain ⟨k, l, a, b, xs, ys, ex, hqx, hqy, q⟩ := q1
  subst ex
  cases r1 with
  | cons r rr =>
    cases rr with
    | cons r' rr =>
      cases rr
      cases r
      cases r'
      have fresh5 : ∀ c, c ∈ [s1.heap.objs.size + 4, s1.heap.objs.size + 2, s1.heap.objs.size + 3, s1.heap.objs.size, s1.heap.objs.size + 1] → FpOk X pins H1 c := fun c hcm => by
        have e' : c = s1.heap.objs.size + 4 ∨ c = s1.heap.objs.size + 2 ∨ c = s1.heap.objs.size + 3 ∨ c = s1.heap.objs.size ∨ c = s1.heap.objs.size + 1 := by simpa using hcm
        have hle : s1.heap.objs.size ≤ c := by omega
        exact I1.fpOk hle (I1.hok.fresh hle)
      obtain ⟨its, rv, p1, _⟩ := sq2_src I1 hqx
      obtain ⟨its2, rv2, p2, _⟩ := sq2_src I1 hqy
      obtain ⟨o1, B1, hB1⟩ := begins_src k a its.toArray
      obtain ⟨o2, B2, hB2⟩ := begins_src l b its2.toArray
      refine zip_begins2 B1 B2 p1 p2 fun h' hz hTI hTO h1 h2 hsz hk => wpAny_pyIter_zip hz ?_
      have I2 : Inv X pins σ H1 { s1 with heap := h' } := I1.kept (t' := s1.toks) hk
      exact ⟨s1.heap.objs.size + 4, [s1.heap.objs.size + 4, s1.heap.objs.size + 2, s1.heap.objs.size + 3, s1.heap.objs.size, s1.heap.objs.size + 1], _, _, H1, rfl, I2,
        turn_zipA k l a b (zap s1.heap.objs.size), ⟨hz, hTI, ⟨_, _, hTO⟩, hB1 _ _ h1, hB2 _ _ h2⟩, fresh5, q⟩
def enumD : Nat → List D → List D
  | _, [] => []
  | n, d :: ds => .tuple [.int (n : Int), d] :: enumD (n + 1) ds
def zipD : List D → List D → List D
  | d :: ds, e :: es => .tuple [d, e] :: zipD ds es
  | _, _ => []
def itE : List D → Option (List D)
  | [.list ds] => some (enumD 0 ds)
  | [.tuple ds] => some (enumD 0 ds)
  | [.dict [(.none, .list ds)]] => some (enumD 0 ds)
  | _ => none
def itZ : List D → Option (List D)
  | [.list ds, .list es] => some (zipD ds es)
  | [.tuple ds, .tuple es] => some (zipD ds es)
  | [.list ds, .tuple es] => some (zipD ds es)
  | [.tuple ds, .list es] => some (zipD ds es)
  | _ => none
theorem enumD_len : ∀ (n : Nat) (ds : List D), (enumD n ds).length = ds.length
  | _, [] => rfl
  | n, _ :: ds => by rw [enumD, List.length_cons, List.length_cons, enumD_len (n + 1) ds]
theorem enumD_get : ∀ (n : Nat) (ds : List D) (i : Nat) (d : D), ds[i]? = some d → (enumD n ds)[i]? = some (.tuple [.int ((n + i : Nat) : Int), d])
  | _, [], _, _, h => by simp at h
  | n, x :: ds, 0, d, h => by simp at h; subst h; rfl
  | n, x :: ds, i + 1, d, h => by
    have := enumD_get (n + 1) ds i d (by simpa using h)
    rw [enumD, List.getElem?_cons_succ, this]
    congr 5
    omega
theorem enumD_purs : ∀ (n : Nat) (ds : List D), purs (enumD n ds) = purs ds
  | _, [] => rfl
  | n, d :: ds => by simp [enumD, purs, pur, enumD_purs (n + 1) ds]
theorem zipD_len : ∀ (ds es : List D), (zipD ds es).length = min ds.length es.length
  | [], _ => by simp [zipD]
  | _ :: _, [] => by simp [zipD]
  | _ :: ds, _ :: es => by simp [zipD, zipD_len ds es]
theorem zipD_get : ∀ (ds es : List D) (i : Nat) (d e : D), ds[i]? = some d → es[i]? = some e → (zipD ds es)[i]? = some (.tuple [d, e])
  | [], _, _, _, _, h, _ => by simp at h
  | _ :: _, [], _, _, _, _, h => by simp at h
  | x :: ds, y :: es, 0, d, e, h, h2 => by simp at h h2; subst h; subst h2; rfl
  | x :: ds, y :: es, i + 1, d, e, h, h2 => by
    rw [zipD, List.getElem?_cons_succ]
    exact zipD_get ds es i d e (by simpa using h) (by simpa using h2)
section
variable {X : Cx} {K : PySem.W.Frag}
theorem pair_own {H H' : Hp} {T : Addr} {ob : Obj} {x y : V} {d e : D} (hT : H T = none) (hn : ob.dict = none) (hH : H' = upd H T (.frz ob (.tup [x, y]))) (o1 : Own K H d x []) (o2 : Own K H e y []) : Same H H' ∧ Own K H' (.tuple [d, e]) (.ref T) [] := by
  subst hH
  have sm : Same H (upd H T (.frz ob (.tup [x, y]))) := same_new hT
  exact ⟨sm, .tup (SqD.of upd_same hn) (.cons0 (o1.same sm) (.cons0 (o2.same sm) .nil))⟩
theorem purs_zip {ds es : List D} : ∀ {i : Nat} {d e : D}, purs (zipD ds es) = true → ds[i]? = some d → es[i]? = some e → pur d = true ∧ pur e = true := fun {i d e} p h1 h2 => by
  have := purs_get p (zipD_get ds es i d e h1 h2)
  simpa [pur, purs] using this
theorem walkD_e {k : Bool} {a : Addr} {ds : List D} {G : Hp → Prop} (p : purs ds = true) (h : ∀ H, G H → ∃ xs F, Sq2 K H k a xs ∧ OwnA K H ds xs F) : WalkD K (IteA K k a) G (enumD 0 ds) := by
  refine ⟨fun i H hi g => ?_, fun H g => ?_, fun i H x H' hi g y => ?_⟩
  · obtain ⟨xs, F, hq, t⟩ := h H g
    have hl := t.len
    rw [enumD_len] at hi
    exact ⟨xs, xs[i]'(by omega), hq, List.getElem?_eq_getElem _⟩
  · obtain ⟨xs, F, hq, t⟩ := h H g
    have hl := t.len
    rw [enumD_len]
    exact ⟨xs, hq, by omega⟩
  · obtain ⟨xs, F, hq, t⟩ := h H g
    obtain ⟨T, ob, x', rfl, hT, hn, hH, y⟩ := y
    obtain ⟨d, hd, o⟩ := t.at p (y xs hq)
    obtain ⟨sm, o2⟩ := pair_own hT hn hH (.int (i : Nat)) o
    exact ⟨_, by rw [enumD_get 0 ds i d hd, Nat.zero_add], sm, o2⟩
theorem si_enum {e : Expr} {ga : O} {p pos tpos : Pos} {elts : List Expr} {kk : Nat} (hg : Gl X "enumerate") (hm : X.mg "enumerate" = none) (ha : SimA X [e] (aCons ga aNil)) (hs : starEach [e] X.env = [(false, eval e X.env)] := by rfl) :
    SimI X (.Tuple elts kk tpos) (.Call (.Name "enumerate" p) [e] [] pos) (mkI itE (aCons ga aNil)) := by
  refine pi_imp (pi_enumA hg hm ha hs) fun σ H R h => ?_
  exact mkI_ok h (w := fun vs H1 R => ∃ k a xs, vs = [.ref a] ∧ Sq2 X.K H1 k a xs ∧ R (IteA X.K k a) H1) (fun vs ds es H R h e p q => by
    unfold itE at e
    split at e
    · cases e
      rw [enumD_purs] at p
      obtain ⟨x, F, rfl, o⟩ := h.one
      cases o with
      | lst h1 t n => exact ⟨true, _, _, rfl, SqL.of h1, q _ (walkD_e p fun H2 g => rd_list g)⟩
    · cases e
      rw [enumD_purs] at p
      obtain ⟨x, F, rfl, o⟩ := h.one
      cases o with
      | tup h1 t => exact ⟨false, _, _, rfl, h1.sq, q _ (walkD_e p fun H2 g => rd_tup g)⟩
    · cases e
      rw [enumD_purs] at p
      obtain ⟨x, F, rfl, o⟩ := h.one
      cases o with
      | frz h1 t => exact ⟨true, _, _, rfl, h1.sq, q _ (walkD_e p fun H2 g => rd_frz g)⟩
    · cases e)
/-- a list or a tuple, told -/
def seqD : Bool → List D → D
  | true, ds => .list ds
  | false, ds => .tuple ds
theorem rd_seq {H : Hp} {k : Bool} {ds : List D} {v : V} {F : List Addr} (o : Own K H (seqD k ds) v F) : ∃ a xs G, v = .ref a ∧ Sq2 K H k a xs ∧ OwnA K H ds xs G := by
  cases k with
  | true =>
    obtain ⟨l, vs, F', rfl, _, hl, t, _⟩ := own_list o
    exact ⟨l, vs, F', rfl, SqL.of hl, t⟩
  | false =>
    obtain ⟨a, vs, rfl, hq, t⟩ := own_tup o
    exact ⟨a, vs, _, rfl, hq, t⟩
theorem OwnA.at0 {H : Hp} {ds : List D} {vs : List V} {F : List Addr} (t : OwnA K H ds vs F) {i : Nat} {x : V} (e : vs[i]? = some x) : ∃ d G, ds[i]? = some d ∧ Own K H d x G := by
  have hl := t.len
  have hi : i < ds.length := by rw [← hl]; exact (List.getElem?_eq_some_iff.mp e).1
  obtain ⟨v, G, hv, o, _⟩ := t.get i ds[i] (List.getElem?_eq_getElem hi)
  rw [e] at hv
  cases hv
  exact ⟨_, _, List.getElem?_eq_getElem hi, o⟩
theorem rd2_seq {H : Hp} {k l : Bool} {a b : Addr} {ds es : List D} (h : RdA K H [.ref a, .ref b] [seqD k ds, seqD l es]) : ∃ xs ys F G, Sq2 K H k a xs ∧ OwnA K H ds xs F ∧ Sq2 K H l b ys ∧ OwnA K H es ys G := by
  obtain ⟨x, y, F, G, e, o1, o2⟩ := h.two
  cases e
  obtain ⟨a', xs, G1, e1, h1, t1⟩ := rd_seq o1
  obtain ⟨b', ys, G2, e2, h2, t2⟩ := rd_seq o2
  cases e1
  cases e2
  exact ⟨_, _, _, _, h1, t1, h2, t2⟩
theorem walkD_z {k l : Bool} {a b : Addr} {ds es : List D} (p : purs (zipD ds es) = true) : WalkD K (ItzA K k l a b) (fun H2 => RdA K H2 [.ref a, .ref b] [seqD k ds, seqD l es]) (zipD ds es) := by
  refine ⟨fun i H hi g => ?_, fun H g => ?_, fun i H x H' hi g y => ?_⟩
  · obtain ⟨xs, ys, F, G, hq, t, hq2, t2⟩ := rd2_seq g
    have hl := t.len
    have hl2 := t2.len
    rw [zipD_len] at hi
    exact ⟨xs, ys, xs[i]'(by omega), ys[i]'(by omega), hq, hq2, List.getElem?_eq_getElem _, List.getElem?_eq_getElem _⟩
  · obtain ⟨xs, ys, F, G, hq, t, hq2, t2⟩ := rd2_seq g
    have hl := t.len
    have hl2 := t2.len
    rw [zipD_len]
    exact ⟨xs, ys, hq, hq2, by omega⟩
  · obtain ⟨xs, ys, F, G, hq, t, hq2, t2⟩ := rd2_seq g
    obtain ⟨T, ob, x', y', rfl, hT, hn, hH, y1, y2⟩ := y
    obtain ⟨d, F1, hd, o1⟩ := t.at0 (y1 xs hq)
    obtain ⟨e, F2, he, o2⟩ := t2.at0 (y2 ys hq2)
    obtain ⟨p1, p2⟩ := purs_zip p hd he
    rw [o1.pur p1] at o1
    rw [o2.pur p2] at o2
    obtain ⟨sm, o3⟩ := pair_own hT hn hH o1 o2
    exact ⟨_, zipD_get ds es i d e hd he, sm, o3⟩
theorem itZ_inv {ds : List D} {es : List D} (h : itZ ds = some es) : ∃ k l xs ys, ds = [seqD k xs, seqD l ys] ∧ es = zipD xs ys := by
  unfold itZ at h
  split at h
  · cases h; exact ⟨true, true, _, _, rfl, rfl⟩
  · cases h; exact ⟨false, false, _, _, rfl, rfl⟩
  · cases h; exact ⟨true, false, _, _, rfl, rfl⟩
  · cases h; exact ⟨false, true, _, _, rfl, rfl⟩
  · cases h
theorem wZ_ok : ∀ (vs : List V) (ds es : List D) (H : Hp) (R : It → Hp → Prop), RdA K H vs ds → itZ ds = some es → purs es = true → (∀ J, WalkD K J (fun H2 => RdA K H2 vs ds) es → R J H) →
    ∃ k l a b xs ys, vs = [.ref a, .ref b] ∧ Sq2 K H k a xs ∧ Sq2 K H l b ys ∧ R (ItzA K k l a b) H := by
  intro vs ds es H R h e p q
  obtain ⟨k, l, xs, ys, rfl, rfl⟩ := itZ_inv e
  obtain ⟨x, y, F, G, rfl, o1, o2⟩ := h.two
  obtain ⟨a, xs', G1, rfl, h1, t1⟩ := rd_seq o1
  obtain ⟨b, ys', G2, rfl, h2, t2⟩ := rd_seq o2
  exact ⟨k, l, a, b, xs', ys', rfl, h1, h2, q _ (walkD_z p)⟩
theorem si_zip {e e2 : Expr} {g : AL} {p pos tpos : Pos} {elts : List Expr} {kk : Nat} (hg : Gl X "zip") (hm : X.mg "zip" = none) (ha : SimA X [e, e2] g)
    (hs : starEach [e, e2] X.env = (false, eval e X.env) :: starEach [e2] X.env := by rfl) (hpl : (backTo pos (starEach [e2] X.env)).any (·.1) = false := by rfl) :
    SimI X (.Tuple elts kk tpos) (.Call (.Name "zip" p) [e, e2] [] pos) (mkI itZ g) :=
  pi_imp (pi_zipA hg hm ha hs hpl) fun σ H R h => mkI_ok h wZ_ok
end
end Sim
namespace Sim
open PySem PySem.Spec L2
def loopS (t : Tg) (g : S) : List D → S
  | [] => fun s => .ok .nx s
  | d :: ds => fun s => match asg t d s with
    | none => .bad
    | some s1 => (g s1).bind fun fl s2 => match fl with
      | .nx => loopS t g ds s2
      | .ct => loopS t g ds s2
      | .bk => .ok .nx s2
      | .rt d => .ok (.rt d) s2
def sFor (lk' : Nat → Bool) (it : I) (t : Tg) (g : S) : S := fun s => (it s).bind fun p s1 =>
  if (p.2.all fun q => lk' q.1) = true then (loopS t g p.1 s1).bind fun fl s2 => .ok fl (unlockS p.2 s2) else .bad
section
variable {X : Cx} {lk lk' : Nat → Bool} {pos : Pos} {K : PySem.W.Frag}
/-- the closed slots are opened again -/
theorem finish {H0 H1 Hc : Hp} {s1 sc : Sg} {σ σc : St} {Fs0 Fs1 Fsc : Fp} {l : List (Nat × D)} {Gl : List (List Addr)} (E01 : Ev H0 Fs0 H1 Fs1) (hd : Hid K H1 σ Fs1 l Gl) (fr : From H0 Fs0 l Gl)
    (R : RelS K Hc sc σc Fsc) (E : Ev H1 Fs1 Hc Fsc) (L : ∀ p, p ∈ l → σc[p.1]? = σ[p.1]?) :
    ∃ Fs', RelS K Hc (unlockS l sc) σc Fs' ∧ Ev H0 Fs0 Hc Fs' ∧ ∀ j a, a ∈ Fs' j → a ∈ Fsc j ∨ ((∃ xs : MO, Hc a = some xs.ho) ∧ (H1 a ≠ none) ∧ (∀ i, a ∉ Fs1 i) ∧ ∀ i, a ∉ Fsc i) := by
  have hd' := hd.ev E L
  obtain ⟨Fs', R', n⟩ := R.unlock hd' fr
  refine ⟨Fs', R', ⟨(E01.trans E).chg, fun j a h => ?_⟩, fun j a h => ?_⟩
  · rcases n j a h with z | ⟨z, _⟩
    · exact (E01.trans E).new j a z
    · exact z
  · rcases n j a h with z | ⟨_, G, hG, ha⟩
    · exact .inl z
    · obtain ⟨h1, h2⟩ := hd'.mem G hG a ha
      obtain ⟨⟨xs, h3⟩, h4⟩ := hd.mem G hG a ha
      exact .inr ⟨h1, by rw [h3]; simp, h4, h2⟩
theorem ss_for {tg iter : Expr} {body : List Stmt} {it : I} {t : Tg} {g : S} (hp : PassesOwn (model X.prog X.w) X.A X.env X.xe) (hc : X.calm = true) (hi : SimI X tg iter it) (hg : SimG X lk' tg t) (hb : SimSs X lk' body g)
    (hlk : ∀ i, lk i = true → lk' i = true) (hs : ∀ x, foldedSetIterable iter X.env x = pure x := by intro _; rfl) : SimS X lk (.For tg iter body [] pos) (sFor lk' it t g) := by
  refine ps_imp (ps_for hp hc hi hg hb hs) fun D σ H z => ?_
  obtain ⟨s, Fs, fl, s', R, e, q⟩ := z
  obtain ⟨⟨es, l⟩, s1, e1, e⟩ := bind_inv e
  refine ⟨s, Fs, es, l, s1, R, e1, fun J H1 Fs1 Gl G R1 C1 n1 hd fr W hG => ?_⟩
  have E01 : Ev H Fs H1 Fs1 := ⟨C1, n1⟩
  split at e
  · rename_i hall
    obtain ⟨fl', s2, e2, e⟩ := bind_inv e
    have hL : ∀ {σc : St}, Lk lk' σ σc → ∀ p, p ∈ l → σc[p.1]? = σ[p.1]? := fun {σc} L p hp => L p.1 (List.all_eq_true.mp hall p hp)
    have done : ∀ {σc : St} {Hc : Hp} {sc : Sg} {Fsc : Fp}, RelS X.K Hc sc σc Fsc → Ev H1 Fs1 Hc Fsc → Lk lk' σ σc → Res.ok fl' s2 = Res.ok Fl.nx sc → D.nx σc Hc := by
      intro σc Hc sc Fsc Rc Ec Lc ee
      cases ee
      cases e
      obtain ⟨Fs', R', E', _⟩ := finish (s1 := s1) E01 hd fr Rc Ec (hL Lc)
      exact q σc Hc Fs' R' E' fun i hi => Lc i (hlk i hi)
    refine ⟨fun i m σc Hc => m = es.length - i ∧ i ≤ es.length ∧ ∃ sc Fsc, RelS X.K Hc sc σc Fsc ∧ Ev H1 Fs1 Hc Fsc ∧ Lk lk' σ σc ∧ loopS t g (es.drop i) sc = .ok fl' s2,
      ⟨es.length, by simp, Nat.zero_le _, s1, Fs1, R1, .refl _ _, .refl _ _, e2⟩, ?_⟩
    rintro i m σc Hc ⟨rfl, hi, sc, Fsc, Rc, Ec, Lc, ec⟩
    by_cases hlt : i < es.length
    · refine .inr ⟨W.goes i Hc hlt (hG Hc Fsc Ec), fun σ' H' => i + 1 ≤ es.length ∧ ∃ sc Fsc, RelS X.K H' sc σ' Fsc ∧ Ev H1 Fs1 H' Fsc ∧ Lk lk' σ σ' ∧ loopS t g (es.drop (i + 1)) sc = .ok fl' s2, fun σ' H' ⟨h1, h2⟩ => ⟨es.length - (i + 1), by omega, rfl, h1, h2⟩, fun x H' y => ?_⟩
      obtain ⟨d, hd1, sm, o⟩ := W.yields i Hc x H' hlt (hG Hc Fsc Ec) y
      have ed : es.drop i = d :: es.drop (i + 1) := by
        rw [List.drop_eq_getElem_cons hlt]
        rw [List.getElem?_eq_getElem hlt] at hd1
        rw [Option.some.inj hd1]
      rw [ed] at ec
      unfold loopS at ec
      split at ec
      · cases ec
      · rename_i s3 hs3
        obtain ⟨fl3, s4, e4, ec⟩ := bind_inv ec
        refine ⟨sc, Fsc, d, [], s3, Rc.same sm, ⟨o, fun _ _ _ z => by cases z⟩, hs3, fun σ2 Fs2 R2 n2 L2 => ?_⟩
        have E2 : Ev H1 Fs1 H' Fs2 := Ec.trans ⟨.same sm, fun j a h => .inl ((n2 j a h).resolve_right (by simp))⟩
        refine ⟨s3, Fs2, fl3, s4, R2, e4, ?_⟩
        cases fl3 with
        | nx => exact fun σ' H'' Fs' R' E' L' => ⟨hlt, s4, Fs', R', E2.trans E', (Lc.trans L2).trans L', ec⟩
        | ct => exact fun σ' H'' Fs' R' E' L' => ⟨hlt, s4, Fs', R', E2.trans E', (Lc.trans L2).trans L', ec⟩
        | bk => exact fun σ' H'' Fs' R' E' L' => done R' (E2.trans E') ((Lc.trans L2).trans L') ec.symm
        | rt d =>
          cases ec
          cases e
          refine fun v σ' H'' Fs' F R' E' L' o n m => ?_
          have E3 := E2.trans E'
          obtain ⟨Fs'', R'', E'', nn⟩ := finish (s1 := s1) E01 hd fr R' E3 (hL ((Lc.trans L2).trans L'))
          have hF : ∀ a, a ∈ F → H1 a = none ∨ ∃ i, lk' i = false ∧ a ∈ Fs1 i := fun a ha => by
            rcases n a ha with z | ⟨k, hk, z⟩
            · exact .inl (E2.chg.there a z)
            · rcases E2.new k a z with z | z
              · exact .inr ⟨k, hk, z⟩
              · exact .inl z
          refine q v σ' H'' Fs'' F R'' E'' (fun i hi => ((Lc.trans L2).trans L') i (hlk i hi)) o (fun a ha => ?_) fun k a hk hk2 ha => ?_
          · rcases hF a ha with z | ⟨k, hk, z⟩
            · exact .inl (C1.there a z)
            · rcases n1 k a z with z | z
              · refine .inr ⟨k, ?_, z⟩
                cases hq : lk k with
                | false => rfl
                | true => rw [hlk k hq] at hk; cases hk
              · exact .inl z
          · rcases nn k a hk2 with z | ⟨_, h1, h2, h3⟩
            · exact m k a (hlk k hk) z ha
            · rcases hF a ha with z | ⟨k', _, z⟩
              · exact h1 z
              · exact h2 k' z
    · have ei : i = es.length := by omega
      subst ei
      rw [List.drop_length] at ec
      exact .inl ⟨W.stops Hc (hG Hc Fsc Ec), done Rc Ec Lc ec.symm⟩
  · cases e
end
section
variable {X : Cx} {lk : Nat → Bool} {pos : Pos} {K : PySem.W.Frag}
end
def clrS : List Nat → Sg → Sg
  | [], s => s
  | v :: vs, s => (clrS vs s).set v none
def ownSl : List Nat → Sg → List (Nat × D)
  | [], _ => []
  | v :: vs, s => match (s[v]?).join with
    | some d => (v, d) :: ownSl vs s
    | none => ownSl vs s
def compL (t : Tg) (c : T) (e : O) (vs : List Nat) : List D → List D → Sg → Res (List D)
  | [], acc, s => .ok acc s
  | d :: ds, acc, s => match asg t d s with
    | none => .bad
    | some s1 => (c s1).bind fun b s2 => if b = true then (e s2).bind fun r s3 => (match own r s3 with
        | none => .bad
        | some y => if acc.length < 1000000 then compL t c e vs ds (acc ++ [y]) (clrS vs s3) else .bad)
      else compL t c e vs ds acc (clrS vs s2)
def oComp (it : I) (t : Tg) (c : T) (e : O) (vs : List Nat) : O := fun s => (it s).bind fun p s1 =>
  if nodupB ((ownSl vs s1).map (·.1)) = true then (compL t c e vs p.1 [] (clrS vs (lockS (ownSl vs s1) s1))).bind fun acc s2 => .ok (.val (.list acc)) (unlockS (ownSl vs s1 ++ p.2) s2) else .bad
def tYesT : T := fun s => .ok true s
def SimPT (X : Cx) (ifs : List Expr) (c : T) : Prop := PTs X ifs (tT X.K c)
section
variable {X : Cx} {K : PySem.W.Frag}
theorem pts_imp {X : Cx} {e : List Expr} {t t' : TT} (h : PTs X e t) (i : ∀ σ H Q, t' σ H Q → t σ H Q) : PTs X e t' := ⟨fun pins s σ H Q I q => h.run pins s σ H Q I (i σ H Q q)⟩
theorem spt_nil : SimPT X [] tYesT := pts_imp pts_nil fun σ H Q ⟨s, Fs, b, s', R, e, q⟩ => by
  cases e
  exact q H Fs R (.refl _ _)
theorem clrS_len : ∀ (vs : List Nat) (s : Sg), (clrS vs s).length = s.length
  | [], _ => rfl
  | v :: vs, s => by rw [clrS, List.length_set, clrS_len vs s]
theorem clrS_some {vs : List Nat} {s : Sg} {i : Nat} {d : D} (h : (clrS vs s)[i]? = some (some d)) : s[i]? = some (some d) ∧ i ∉ vs := by
  induction vs with
  | nil => exact ⟨h, by simp⟩
  | cons v vs ih =>
    unfold clrS at h
    by_cases hi : v = i
    · subst hi
      by_cases hv : v < (clrS vs s).length
      · rw [List.getElem?_set_self hv] at h; cases h
      · rw [List.getElem?_eq_none (by simpa using hv)] at h; cases h
    · rw [List.getElem?_set_ne hi] at h
      obtain ⟨h1, h2⟩ := ih h
      exact ⟨h1, by simp only [List.mem_cons, not_or]; exact ⟨fun e => hi e.symm, h2⟩⟩
theorem wipe_get {σ : St} {vs : List Nat} {i : Nat} (h : i ∉ vs) : (wipe σ vs)[i]? = σ[i]? := by
  induction vs with
  | nil => rfl
  | cons v vs ih =>
    simp only [List.mem_cons, not_or] at h
    unfold wipe
    rw [List.getElem?_set_ne (fun e => h.1 e.symm), ih h.2]
/-- the own names' slots are emptied, on both sides -/
theorem RelS.clr {H : Hp} {s : Sg} {σ : St} {Fs : Fp} (R : RelS K H s σ Fs) (vs : List Nat) : ∃ Fs', RelS K H (clrS vs s) (wipe σ vs) Fs' ∧ ∀ j a, a ∈ Fs' j → a ∈ Fs j ∧ j ∉ vs := by
  refine ⟨fun j => if j ∈ vs then [] else Fs j, ⟨by rw [clrS_len, wipe_length, R.len], fun i d e => ?_, fun i h => ?_, fun i j a h1 h2 => ?_⟩, fun j a h => ?_⟩
  · obtain ⟨e1, e2⟩ := clrS_some e
    obtain ⟨v, hv, o⟩ := R.has i d e1
    refine ⟨v, by rw [wipe_get e2]; exact hv, ?_⟩
    simp only [if_neg e2]
    exact o
  · by_cases hi : i ∈ vs
    · simp only [if_pos hi]
    · simp only [if_neg hi]
      refine R.off i fun d e => h d ?_
      have key : ∀ (vs : List Nat), i ∉ vs → (clrS vs s)[i]? = s[i]? := fun vs => by
        induction vs with
        | nil => intro _; rfl
        | cons v vs ih =>
          intro h
          simp only [List.mem_cons, not_or] at h
          unfold clrS
          rw [List.getElem?_set_ne (fun e => h.1 e.symm), ih h.2]
      rw [key vs hi]
      exact e
  · split at h1
    · cases h1
    · split at h2
      · cases h2
      · exact R.dis i j a h1 h2
  · have h : a ∈ (if j ∈ vs then [] else Fs j) := h
    split at h
    · cases h
    · exact ⟨h, by assumption⟩
/-- a state without the own names stands for the block's outer slots too -/
theorem RelS.unwipe {H : Hp} {s : Sg} {σ : St} {Fs : Fp} {vs : List Nat} (R : RelS K H s (wipe σ vs) Fs) : RelS K H s σ Fs := by
  refine ⟨by rw [R.len, wipe_length], fun i d e => ?_, R.off, R.dis⟩
  obtain ⟨v, hv, o⟩ := R.has i d e
  exact ⟨v, (wipe_some hv).1, o⟩
theorem ownSl_has {s : Sg} : ∀ {vs : List Nat} {p : Nat × D}, p ∈ ownSl vs s → s[p.1]? = some (some p.2) ∧ p.1 ∈ vs
  | [], _, h => by cases h
  | v :: vs, p, h => by
    unfold ownSl at h
    split at h
    · rename_i d hd
      rcases List.mem_cons.mp h with rfl | h
      · exact ⟨join_some hd, List.mem_cons_self ..⟩
      · obtain ⟨h1, h2⟩ := ownSl_has h
        exact ⟨h1, List.mem_cons_of_mem _ h2⟩
    · obtain ⟨h1, h2⟩ := ownSl_has h
      exact ⟨h1, List.mem_cons_of_mem _ h2⟩
/-- an object that no slot holds changes -/
theorem RelS.out {H : Hp} {s : Sg} {σ : St} {Fs : Fp} (R : RelS K H s σ Fs) {D' : Addr} {acc acc' : List V} (h : H D' = some (.lst acc)) (n : ∀ i, D' ∉ Fs i) : RelS K (upd H D' (.lst acc')) s σ Fs ∧ Chg (fun a => a = D') H (upd H D' (.lst acc')) := by
  have chg : Chg (fun a => a = D') H (upd H D' (.lst acc')) := ⟨fun a ob e c => by
    by_cases ha : a = D'
    · subst ha
      rcases c with c | c
      · exact absurd rfl c
      · rw [h] at e
        cases e
        cases c
    · rw [upd_ne ha]; exact e, fun a e => by
    by_cases ha : a = D'
    · subst ha; rw [upd_same] at e; cases e
    · rw [upd_ne ha] at e; exact e⟩
  refine ⟨⟨R.len, fun i d e => ?_, R.off, R.dis⟩, chg⟩
  obtain ⟨v, hv, o⟩ := R.has i d e
  exact ⟨v, hv, o.chg chg fun a ha w => n i (by rw [← w]; exact ha)⟩
theorem Hid.sub {H : Hp} {σ : St} {Fs Fs' : Fp} {l : List (Nat × D)} {Gs : List (List Addr)} (h : Hid K H σ Fs l Gs) (e : ∀ j a, a ∈ Fs' j → a ∈ Fs j) : Hid K H σ Fs' l Gs := by
  induction h with
  | nil => exact .nil
  | cons hv A n _ ih => exact .cons hv ⟨A.own, fun i a hi ha => A.dis i a (e i a hi) ha⟩ n ih
theorem Hid.append {H : Hp} {σ : St} {Fs : Fp} {l l2 : List (Nat × D)} {Gs Gs2 : List (List Addr)} (h : Hid K H σ Fs l Gs) (h2 : Hid K H σ Fs l2 Gs2) (n : ∀ G, G ∈ Gs → ∀ G2, G2 ∈ Gs2 → ∀ a, a ∈ G → a ∉ G2) : Hid K H σ Fs (l ++ l2) (Gs ++ Gs2) := by
  induction h with
  | nil => exact h2
  | @cons i d v F l Gs hv A n' _ ih =>
    refine .cons hv A (fun G hG a ha hb => ?_) (ih fun G hG => n G (List.mem_cons_of_mem _ hG))
    rcases List.mem_append.mp hG with hG | hG
    · exact n' G hG a ha hb
    · exact n F (List.mem_cons_self ..) G hG a ha hb
theorem From.append {H : Hp} {Fs : Fp} {l l2 : List (Nat × D)} {Gs Gs2 : List (List Addr)} (h : From H Fs l Gs) (h2 : From H Fs l2 Gs2) : From H Fs (l ++ l2) (Gs ++ Gs2) := by
  induction l generalizing Gs with
  | nil => cases Gs with
    | nil => exact h2
    | cons _ _ => exact h.elim
  | cons p l ih => cases Gs with
    | nil => exact h.elim
    | cons F Gs => exact ⟨h.1, ih h.2⟩
theorem From.mem {H : Hp} {Fs : Fp} {l : List (Nat × D)} {Gs : List (List Addr)} (h : From H Fs l Gs) : ∀ G, G ∈ Gs → ∀ a, a ∈ G → (∃ i, a ∈ Fs i) ∨ H a = none := by
  induction l generalizing Gs with
  | nil => cases Gs with
    | nil => intro G h; cases h
    | cons _ _ => exact h.elim
  | cons p l ih => cases Gs with
    | nil => exact h.elim
    | cons F Gs =>
      intro G hG a ha
      rcases List.mem_cons.mp hG with rfl | hG
      · exact (h.1 a ha).imp (fun z => ⟨_, z⟩) id
      · exact ih h.2 G hG a ha
mutual
theorem asg_len : ∀ {t : Tg} {d : Sim.D} {s s' : Sg}, asg t d s = some s' → s'.length = s.length
  | .nm i, d, s, s', h => by
    simp only [asg] at h
    cases h
    rw [List.length_set]
  | .tp l, .tuple ds, s, s', h => asgs_len2 (by simpa [asg] using h)
  | .tp l, .none, s, s', h => by simp [asg] at h
  | .tp l, .bool _, s, s', h => by simp [asg] at h
  | .tp l, .int _, s, s', h => by simp [asg] at h
  | .tp l, .str _, s, s', h => by simp [asg] at h
  | .tp l, .list _, s, s', h => by simp [asg] at h
  | .tp l, .dict _, s, s', h => by simp [asg] at h
  | .ls l, .list ds, s, s', h => asgs_len2 (by simpa [asg] using h)
  | .ls l, .none, s, s', h => by simp [asg] at h
  | .ls l, .bool _, s, s', h => by simp [asg] at h
  | .ls l, .int _, s, s', h => by simp [asg] at h
  | .ls l, .str _, s, s', h => by simp [asg] at h
  | .ls l, .tuple _, s, s', h => by simp [asg] at h
  | .ls l, .dict _, s, s', h => by simp [asg] at h
theorem asgs_len2 : ∀ {l : List Tg} {ds : List Sim.D} {s s' : Sg}, asgs l ds s = some s' → s'.length = s.length
  | [], [], s, s', h => by
    simp only [asgs] at h
    cases h
    rfl
  | [], _ :: _, s, s', h => by simp [asgs] at h
  | _ :: _, [], s, s', h => by simp [asgs] at h
  | t :: l, d :: ds, s, s', h => by
    simp only [asgs] at h
    split at h
    · cases h
    · rename_i s1 h1
      rw [asgs_len2 h, asg_len h1]
end
def lkc (vs : List Nat) : Nat → Bool := fun i => !vs.contains i
theorem wipe_lk {vs : List Nat} {σ σ2 : St} (hl : σ2.length = σ.length) (h : Lk (lkc vs) (wipe σ vs) σ2) : wipe σ2 vs = wipe σ vs := by
  have key : ∀ (σ : St) (vs : List Nat) (i : Nat), i ∈ vs → (wipe σ vs)[i]? = if i < σ.length then some none else none := fun σ vs i => by
    induction vs with
    | nil => intro h; cases h
    | cons v vs ih =>
      intro h
      unfold wipe
      by_cases hv : v = i
      · subst hv
        by_cases hx : v < σ.length
        · rw [List.getElem?_set_self (by rw [wipe_length]; exact hx), if_pos hx]
        · rw [List.getElem?_eq_none (by rw [List.length_set, wipe_length]; omega), if_neg hx]
      · rw [List.getElem?_set_ne hv]
        exact ih ((List.mem_cons.mp h).resolve_left fun e => hv e.symm)
  refine List.ext_getElem? fun i => ?_
  by_cases hi : i ∈ vs
  · rw [key _ _ i hi, key _ _ i hi, hl]
  · rw [wipe_get hi]
    have := h i (by unfold lkc; simp [hi])
    rw [this]
theorem tO_comp {it : I} {t : Tg} {c : T} {e : O} {vs : List Nat} {σ : St} {H : Hp} {Q : VK} (z : tO K (oComp it t c e vs) σ H Q) : tLc (tI K it) (tG K (lkc vs) t) (tT K c) (tO K e) vs σ H Q := by
  obtain ⟨s, Fs, rf, s', R, e0, q⟩ := z
  obtain ⟨⟨es, l⟩, s1, e1, e0⟩ := bind_inv e0
  refine ⟨s, Fs, es, l, s1, R, e1, fun J H1 Fs1 Gl G R1 C1 n1 hd fr W hG => ?_⟩
  split at e0
  · rename_i hnd
    obtain ⟨accF, s2, e2, e0⟩ := bind_inv e0
    obtain ⟨Fs2, Gl2, R2, hd2, sub2, fr2⟩ := R1.lock (fun p hp => (ownSl_has hp).1) hnd
    obtain ⟨Fs3, R3, sub3⟩ := R2.clr vs
    have sub : ∀ j a, a ∈ Fs3 j → a ∈ Fs1 j := fun j a h => sub2 j a (sub3 j a h).1
    have E01 : Ev H Fs H1 Fs3 := ⟨C1, fun j a h => n1 j a (sub j a h)⟩
    have hdA : Hid K H1 σ Fs3 (ownSl vs s1 ++ l) (Gl2 ++ Gl) := (hd2.sub fun j a h => (sub3 j a h).1).append (hd.sub sub) fun G2 hG2 G hG a ha hb => by
      obtain ⟨⟨xs, hx⟩, hn⟩ := hd.mem G hG a hb
      rcases fr2.mem G2 hG2 a ha with ⟨i, z⟩ | z
      · exact hn i z
      · rw [hx] at z; cases z
    have frA : From H Fs (ownSl vs s1 ++ l) (Gl2 ++ Gl) := (fr2.trans n1 fun a h => C1.there a h).append fr
    intro Dn hDn
    have smD : Same H1 (upd H1 Dn (.lst [])) := same_new hDn
    have nD3 : ∀ i, Dn ∉ Fs3 i := fun i h => by
      obtain ⟨xs, w⟩ := R3.mem h
      rw [hDn] at w; cases w
    refine ⟨fun i m Hc => m = es.length - i ∧ i ≤ es.length ∧ ∃ sc Fsc acc accV Facc, RelS K Hc sc (wipe σ vs) Fsc ∧ Ev H1 Fs3 Hc Fsc ∧ Hc Dn = some (.lst accV) ∧ OwnA K Hc acc accV Facc ∧ Dn ∉ Facc ∧ (∀ i, Dn ∉ Fsc i) ∧ (∀ i a, a ∈ Fsc i → a ∉ Facc) ∧ (∀ a, a ∈ Facc → H1 a = none) ∧
      compL t c e vs (es.drop i) acc sc = .ok accF s2, ⟨es.length, by simp, Nat.zero_le _, _, Fs3, [], [], [], R3.same smD, .same _ smD, upd_same, .nil, by simp, nD3, by simp, by simp, e2⟩, ?_⟩
    rintro i m Hc ⟨rfl, hi, sc, Fsc, acc, accV, Facc, Rc, Ec, hDc, oa, nDa, nDf, dja, fra, ec⟩
    have EG : Ev H1 Fs1 Hc Fsc → G Hc := hG Hc Fsc
    have Ec1 : Ev H1 Fs1 Hc Fsc := ⟨⟨fun a o ho cc => Ec.chg.keep a o ho (cc.imp (fun z w => z (w.imp fun i => sub i a)) id), Ec.chg.there⟩, fun j a h => (Ec.new j a h).imp (sub j a) id⟩
    by_cases hlt : i < es.length
    · refine .inr ⟨W.goes i Hc hlt (EG Ec1), fun H' => i + 1 ≤ es.length ∧ ∃ sc Fsc acc accV Facc, RelS K H' sc (wipe σ vs) Fsc ∧ Ev H1 Fs3 H' Fsc ∧ H' Dn = some (.lst accV) ∧ OwnA K H' acc accV Facc ∧ Dn ∉ Facc ∧ (∀ i, Dn ∉ Fsc i) ∧ (∀ i a, a ∈ Fsc i → a ∉ Facc) ∧ (∀ a, a ∈ Facc → H1 a = none) ∧
        compL t c e vs (es.drop (i + 1)) acc sc = .ok accF s2, fun H' ⟨h1, h2⟩ => ⟨es.length - (i + 1), by omega, rfl, h1, h2⟩, fun x H' y => ?_⟩
      obtain ⟨d, hd1, sm, o⟩ := W.yields i Hc x H' hlt (EG Ec1) y
      have ed : es.drop i = d :: es.drop (i + 1) := by
        rw [List.drop_eq_getElem_cons hlt]
        rw [List.getElem?_eq_getElem hlt] at hd1
        rw [Option.some.inj hd1]
      rw [ed] at ec
      unfold compL at ec
      split at ec
      · cases ec
      · rename_i s3 hs3
        obtain ⟨b, s4, e4, ec⟩ := bind_inv ec
        refine ⟨sc, Fsc, d, [], s3, Rc.same sm, ⟨o, fun _ _ _ z => by cases z⟩, hs3, fun σ2 Fs4 R4 n4 L4 => ?_⟩
        have hw : wipe σ2 vs = wipe σ vs := wipe_lk (by
          have l1 := R4.len
          have l2 := Rc.len
          have l3 := asg_len hs3
          rw [wipe_length] at l2
          omega) L4
        refine ⟨hw, ?_⟩
        · skip
          have E4 : Ev H1 Fs3 H' Fs4 := Ec.trans ⟨.same sm, fun j a h => .inl ((n4 j a h).resolve_right (by simp))⟩
          have nD4 : ∀ i, Dn ∉ Fs4 i := fun i h => nDf i ((n4 i Dn h).resolve_right (by simp))
          have dj4 : ∀ i a, a ∈ Fs4 i → a ∉ Facc := fun i a h => dja i a ((n4 i a h).resolve_right (by simp))
          refine ⟨s3, Fs4, b, s4, R4, e4, fun H3 Fs5 R5 E5 => ?_⟩
          -- what a test or an item's reckoning leaves of the new list
          have keepD : ∀ {H3 : Hp} {Fs5 : Fp}, Ev H' Fs4 H3 Fs5 → H3 Dn = some (.lst accV) ∧ OwnA K H3 acc accV Facc ∧ (∀ i, Dn ∉ Fs5 i) ∧ (∀ i a, a ∈ Fs5 i → a ∉ Facc) := fun {H3 Fs5} E5 => by
            have h1 : H' Dn = some (.lst accV) := sm _ _ hDc
            have o1 : OwnA K H' acc accV Facc := oa.chg (Fa := fun _ => False) (.same sm) fun _ _ z => z
            refine ⟨E5.chg.keep _ _ h1 (.inl fun ⟨i, w⟩ => nD4 i w), o1.chg E5.chg fun a ha ⟨i, w⟩ => dj4 i a w ha, fun i h => ?_, fun i a h ha => ?_⟩
            · rcases E5.new i Dn h with w | w
              · exact nD4 i w
              · rw [h1] at w; cases w
            · rcases E5.new i a h with w | w
              · exact dj4 i a w ha
              · obtain ⟨xs, z⟩ := o1.mem a ha
                rw [w] at z; cases z
          cases b with
          | false =>
            rw [if_neg Bool.false_ne_true] at ec
            refine iteF ⟨hlt, ?_⟩
            obtain ⟨h1, h2, h3, h4⟩ := keepD E5
            obtain ⟨Fs6, R6, sub6⟩ := R5.clr vs
            rw [hw] at R6
            exact ⟨_, Fs6, acc, accV, Facc, R6, E4.trans ⟨E5.chg, fun j a h => E5.new j a (sub6 j a h).1⟩, h1, h2, nDa, fun i h => h3 i (sub6 i _ h).1, fun i a h => h4 i a (sub6 i a h).1, fra, ec⟩
          | true =>
            rw [if_pos rfl] at ec
            refine iteT ?_
            obtain ⟨r, s6, e6, ec⟩ := bind_inv ec
            refine ⟨s4, Fs5, r, s6, R5, e6, fun v H4 Fs6 F R6 E6 k6 n6 => ?_⟩
            split at ec
            · cases ec
            · rename_i y hy
              split at ec
              · rename_i hlen
                have A6 := rfOk_own k6 R6 hy
                have E56 := E5.trans E6
                obtain ⟨h1, h2, h3, h4⟩ := keepD E56
                have n6' : ∀ a, a ∈ F → H' a = none := fun a ha => E5.chg.there a (n6 a ha)
                have h1' : H' Dn = some (.lst accV) := sm _ _ hDc
                have o1' : OwnA K H' acc accV Facc := oa.chg (Fa := fun _ => False) (.same sm) fun _ _ z => z
                obtain ⟨Facc', t', hF'⟩ := OwnA.snoc A6.own h2 fun a ha hb => by
                  obtain ⟨xs, z⟩ := o1'.mem a ha
                  rw [n6' a hb] at z; cases z
                have nDn : Dn ∉ Facc' := fun w => by
                  rcases hF' Dn w with w | w
                  · exact nDa w
                  · rw [n6' Dn w] at h1'; cases h1'
                refine ⟨accV, h1, by rw [h2.len]; exact Nat.lt_of_lt_of_le hlen big_le, hlt, ?_⟩
                obtain ⟨R7, C7⟩ := R6.out (acc' := accV ++ [v]) h1 h3
                obtain ⟨Fs8, R8, sub8⟩ := R7.clr vs
                rw [hw] at R8
                refine ⟨_, Fs8, acc ++ [y], accV ++ [v], Facc', R8, ?_, upd_same, t'.chg C7 fun a ha w => nDn (by rw [← w]; exact ha), nDn, fun i h => h3 i (sub8 i _ h).1, fun i a h ha => ?_, fun a ha => ?_, ec⟩
                · have E7 := E4.trans E56
                  refine ⟨⟨fun a ob ho cc => ?_, fun a ha => E7.chg.there a (C7.there a ha)⟩, fun j a h => E7.new j a (sub8 j a h).1⟩
                  refine C7.keep a ob (E7.chg.keep a ob ho cc) (.inl fun w => ?_)
                  rw [w, hDn] at ho; cases ho
                · rcases hF' a ha with w | w
                  · exact h4 i a (sub8 i a h).1 w
                  · exact A6.dis i a (sub8 i a h).1 w
                · rcases hF' a ha with w | w
                  · exact fra a w
                  · exact E4.chg.there a (n6' a w)
              · cases ec
    · have ei : i = es.length := by omega
      subst ei
      rw [List.drop_length] at ec
      cases ec
      cases e0
      refine .inl ⟨W.stops Hc (EG Ec1), ?_⟩
      obtain ⟨Fs', R', E', nn⟩ := finish (s1 := s1) E01 hdA frA Rc.unwipe Ec fun _ _ => rfl
      refine q (.ref Dn) Hc Fs' (Dn :: Facc) R' E' (.val ⟨.lst hDc oa nDa, fun j a h ha => ?_⟩) fun a ha => ?_
      · rcases nn j a h with w | ⟨_, w, _, _⟩
        · rcases List.mem_cons.mp ha with rfl | ha
          · exact nDf j w
          · exact dja j a w ha
        · rcases List.mem_cons.mp ha with rfl | ha
          · exact w hDn
          · exact w (fra a ha)
      · rcases List.mem_cons.mp ha with rfl | ha
        · exact C1.there _ hDn
        · exact C1.there _ (fra a ha)
  · cases e0
theorem so_comp {elt tg iter : Expr} {ifs : List Expr} {scope : Scope} {own : List (Str × Nat)} {pos : Pos} {it : I} {t : Tg} {c : T} {e : O} (hc : X.calm = true) (hN : X.N.Nodup) (hi : SimI X tg iter it) (ok : BlkOk X.N X.env.scope scope own)
    (hg : ∀ (s : Shared) (H : Hp) (C : Addr) (cl : List (Str × Addr)) (fp : List Addr), SimG (X.blk s H scope (compEnvC scope cl C X.env) fp) (lkc (own.map (·.2))) tg t) (ht : ∀ (s : Shared) (H : Hp) (C : Addr) (cl : List (Str × Addr)) (fp : List Addr), SimPT (X.blk s H scope (compEnvC scope cl C X.env) fp) ifs c)
    (he : ∀ (s : Shared) (H : Hp) (C : Addr) (cl : List (Str × Addr)) (fp : List Addr), SimO (X.blk s H scope (compEnvC scope cl C X.env) fp) elt e) (hs : ∀ x, foldedSetIterable iter X.env x = pure x := by intro _; rfl) :
    SimO X (.ListComp elt [⟨tg, iter, ifs, 0⟩] scope pos) (oComp it t c e (own.map (·.2))) := by
  have hg' : ∀ (s : Shared) (H : Hp) (C : Addr) (cl : List (Str × Addr)) (fp : List Addr), PG (X.blk s H scope (compEnvC scope cl C X.env) fp) tg (tG X.K (lkc (own.map (·.2))) t) := hg
  have ht' : ∀ (s : Shared) (H : Hp) (C : Addr) (cl : List (Str × Addr)) (fp : List Addr), PTs (X.blk s H scope (compEnvC scope cl C X.env) fp) ifs (tT X.K c) := ht
  have he' : ∀ (s : Shared) (H : Hp) (C : Addr) (cl : List (Str × Addr)) (fp : List Addr), PE (X.blk s H scope (compEnvC scope cl C X.env) fp) elt (tO X.K e) := he
  exact pe_imp (pe_lc hc hN hi ok hg' ht' he' hs) fun σ H Q z => tO_comp z
end
end Sim
namespace Sim
open PySem PySem.Spec L2
inductive FRes where
  | ok (r : D) (as : List D)
  | exc (c : Str) (v : D)
  | bad
abbrev Fn := List D → FRes
/-- the arguments, each with the places that it holds -/
inductive OwnLs (K : PySem.W.Frag) (H : Hp) : List D → List V → List (List Addr) → Prop
  | nil : OwnLs K H [] [] []
  | cons {d : D} {v : V} {F : List Addr} {ds : List D} {vs : List V} {Fl : List (List Addr)} : Own K H d v F → (∀ G, G ∈ Fl → ∀ a, a ∈ F → a ∉ G) → OwnLs K H ds vs Fl → OwnLs K H (d :: ds) (v :: vs) (F :: Fl)
def NewL (H : Hp) : List (List Addr) → List (List Addr) → Prop
  | [], [] => True
  | F :: Fl, F' :: Fl' => (∀ a, a ∈ F' → a ∈ F ∨ H a = none) ∧ NewL H Fl Fl'
  | _, _ => False
def spF (K : PySem.W.Frag) (n : Nat) (f : Fn) : Sp := fun vs H Q E => ∃ ds Fl r as, f ds = .ok r as ∧ vs.length = n ∧ OwnLs K H ds vs Fl ∧
  ∀ v H' Fl' F, OwnLs K H' as vs Fl' → Chg (fun a => ∃ G, G ∈ Fl ∧ a ∈ G) H H' → NewL H Fl Fl' → Own K H' r v F → (∀ a, a ∈ F → H a = none) → (∀ G, G ∈ Fl' → ∀ a, a ∈ G → a ∉ F) → Q v H'
def lkz : List Rf → List D → List D → List (Nat × D)
  | .slot i :: rs, d :: ds, a :: as => if pur d = true then lkz rs ds as else (i, a) :: lkz rs ds as
  | .val _ :: rs, _ :: ds, _ :: as => lkz rs ds as
  | _, _, _ => []
def oCall (f : Fn) (g : AL) : O := fun s => (g s).bind fun rs s1 => match rds rs s1 with
  | none => .bad
  | some ds => if nodupB ((lks rs ds).map (·.1)) = true then (match f ds with
      | .ok r as => .ok (.val r) (unlockS (lkz rs ds as) (lockS (lks rs ds) s1))
      | .exc c v => .exc c v s1
      | .bad => .bad) else .bad
section
variable {K : PySem.W.Frag} {H H' : Hp} {σ : St} {Fs : Fp}
theorem OwnLs.mem {ds : List D} {vs : List V} {Fl : List (List Addr)} (h : OwnLs K H ds vs Fl) : ∀ G, G ∈ Fl → ∀ a, a ∈ G → ∃ xs : MO, H a = some xs.ho := by
  induction h with
  | nil => intro G h; cases h
  | cons o _ _ ih =>
    intro G hG a ha
    rcases List.mem_cons.mp hG with rfl | hG
    · exact o.mem a ha
    · exact ih G hG a ha
theorem OwnLs.len {ds : List D} {vs : List V} {Fl : List (List Addr)} (h : OwnLs K H ds vs Fl) : vs.length = ds.length := by
  induction h with
  | nil => rfl
  | cons _ _ _ ih => rw [List.length_cons, List.length_cons, ih]
/-- which argument is which closed slot's -/
def Al : List Rf → List D → List (List Addr) → List (List Addr) → Prop
  | [], [], [], [] => True
  | .val _ :: rs, _ :: ds, Gl, _ :: Fl => Al rs ds Gl Fl
  | .slot _ :: rs, d :: ds, Gl, F :: Fl => if pur d = true then Al rs ds Gl Fl else (match Gl with
    | [] => False
    | G :: Gl => G = F ∧ Al rs ds Gl Fl)
  | _, _, _, _ => False
/-- the operands of a call as its arguments -/
theorem args_own {s : Sg} {FsL : Fp} (R : RelS K H s σ Fs) {rs : List Rf} {vs : List V} {Gs : List (List Addr)} (r : Rfs K H σ Fs rs vs Gs) : ∀ {ds : List D} {Gl : List (List Addr)}, rds rs s = some ds → Hid K H σ FsL (lks rs ds) Gl → From H Fs (lks rs ds) Gl →
    ∃ Fl, OwnLs K H ds vs Fl ∧ (∀ F, F ∈ Fl → ∀ a, a ∈ F → (∃ G, G ∈ Gs ∧ a ∈ G) ∨ ∃ G, G ∈ Gl ∧ a ∈ G) ∧ Al rs ds Gl Fl := by
  induction r with
  | nil =>
    intro ds Gl e hd _
    cases e
    cases hd
    exact ⟨[], .nil, by simp, trivial⟩
  | @val d v F rs vs Gs A n r ih =>
    intro ds Gl e hd fr
    unfold rds at e
    simp only [rd] at e
    split at e
    · cases e
    · rename_i es he
      cases e
      obtain ⟨Fl, h1, h2, h0⟩ := ih he (by simpa [lks] using hd) (by simpa [lks] using fr)
      refine ⟨F :: Fl, .cons A.own (fun G hG a ha hb => ?_) h1, fun G hG a ha => ?_, by simpa [Al] using h0⟩
      · rcases h2 G hG a hb with ⟨G', hG', h⟩ | ⟨G', hG', h⟩
        · exact n G' hG' a ha h
        · rcases fr.mem G' (by simpa [lks] using hG') a h with ⟨i, z⟩ | z
          · exact A.dis i a z ha
          · obtain ⟨xs, w⟩ := A.own.mem a ha
            rw [z] at w; cases w
      · rcases List.mem_cons.mp hG with rfl | hG
        · exact .inl ⟨_, List.mem_cons_self .., ha⟩
        · rcases h2 G hG a ha with ⟨G', hG', h⟩ | h
          · exact .inl ⟨G', List.mem_cons_of_mem _ hG', h⟩
          · exact .inr h
  | @slot i v rs vs Gs hv r ih =>
    intro ds Gl e hd fr
    unfold rds at e
    simp only [rd] at e
    split at e
    · cases e
    · rename_i d hd0
      split at e
      · cases e
      · rename_i es he
        cases e
        obtain ⟨v', hv', o⟩ := R.has i d (join_some hd0)
        rw [hv] at hv'
        cases hv'
        by_cases hp : pur d = true
        · have el : lks (.slot i :: rs) (d :: es) = lks rs es := by rw [lks, if_pos hp]
          rw [el] at hd fr
          obtain ⟨Fl, h1, h2, h0⟩ := ih he hd fr
          rw [o.pur hp] at o
          refine ⟨[] :: Fl, .cons o (by simp) h1, fun G hG a ha => ?_, by unfold Al; rw [if_pos hp]; exact h0⟩
          rcases List.mem_cons.mp hG with rfl | hG
          · cases ha
          · rcases h2 G hG a ha with ⟨G', hG', h⟩ | h
            · exact .inl ⟨G', List.mem_cons_of_mem _ hG', h⟩
            · exact .inr h
        · have el : lks (.slot i :: rs) (d :: es) = (i, d) :: lks rs es := by rw [lks, if_neg hp]
          rw [el] at hd fr
          cases hd with
          | @cons _ _ v2 F _ Gl hv2 A n hd =>
            rw [hv] at hv2
            cases hv2
            obtain ⟨Fl, h1, h2, h0⟩ := ih he hd fr.2
            refine ⟨F :: Fl, .cons A.own (fun G hG a ha hb => ?_) h1, fun G hG a ha => ?_, by unfold Al; rw [if_neg hp]; exact ⟨rfl, h0⟩⟩
            · rcases h2 G hG a hb with ⟨G', hG', h⟩ | ⟨G', hG', h⟩
              · -- another operand's own value stands apart from all slots
                have key : ∀ {rs : List Rf} {vs : List V} {Gs : List (List Addr)}, Rfs K H σ Fs rs vs Gs → G' ∈ Gs → ∀ i, a ∉ Fs i := fun {rs vs Gs} r => by
                  induction r with
                  | nil => intro h; cases h
                  | val A _ _ ih =>
                    intro hh i hi
                    rcases List.mem_cons.mp hh with e1 | hh
                    · exact A.dis i a hi (by rw [← e1]; exact h)
                    · exact ih hh i hi
                  | slot _ _ ih =>
                    intro hh i hi
                    rcases List.mem_cons.mp hh with e1 | hh
                    · rw [e1] at h; cases h
                    · exact ih hh i hi
                rcases fr.1 a ha with z | z
                · exact key r hG' _ z
                · obtain ⟨xs, w⟩ := A.own.mem a ha
                  rw [z] at w; cases w
              · exact n G' hG' a ha h
            · rcases List.mem_cons.mp hG with rfl | hG
              · exact .inr ⟨_, List.mem_cons_self .., ha⟩
              · rcases h2 G hG a ha with ⟨G', hG', h⟩ | ⟨G', hG', h⟩
                · exact .inl ⟨G', List.mem_cons_of_mem _ hG', h⟩
                · exact .inr ⟨G', List.mem_cons_of_mem _ hG', h⟩
/-- behind the call: what the slots' lists came to -/
theorem args_back {H0 : Hp} {Fs0 FsL : Fp} {s : Sg} (R : RelS K H s σ Fs) {rs : List Rf} {vs : List V} {Gs : List (List Addr)} (r : Rfs K H σ Fs rs vs Gs) : ∀ {ds as : List D} {Gl Fl Fl' : List (List Addr)}, rds rs s = some ds → Hid K H σ FsL (lks rs ds) Gl → From H0 Fs0 (lks rs ds) Gl → Al rs ds Gl Fl →
    OwnLs K H ds vs Fl → OwnLs K H' as vs Fl' → NewL H Fl Fl' → (∀ i a, a ∈ FsL i → (∀ F, F ∈ Fl → a ∉ F) ∧ H a ≠ none) → (∀ a, H a = none → H0 a = none) →
    ∃ Gl', Hid K H' σ FsL (lkz rs ds as) Gl' ∧ From H0 Fs0 (lkz rs ds as) Gl' ∧ ∀ G, G ∈ Gl' → G ∈ Fl' := by
  induction r with
  | nil =>
    intro ds as Gl Fl Fl' e hd fr al o o' nl _ _
    cases e
    exact ⟨[], .nil, trivial, by simp⟩
  | @val d v F rs vs Gs A n r ih =>
    intro ds as Gl Fl Fl' e hd fr al o o' nl ap th
    unfold rds at e
    simp only [rd] at e
    split at e
    · cases e
    · rename_i es he
      cases e
      cases o with
      | cons o1 n1 o =>
        cases o' with
        | cons o1' n1' o' =>
          obtain ⟨Gl', h1, h2, h3⟩ := ih he (by simpa [lks] using hd) (by simpa [lks] using fr) (by simpa [Al] using al) o o' nl.2 (fun i a h => ⟨fun F hF => (ap i a h).1 F (List.mem_cons_of_mem _ hF), (ap i a h).2⟩) th
          exact ⟨Gl', by simpa [lkz] using h1, by simpa [lkz] using h2, fun G hG => List.mem_cons_of_mem _ (h3 G hG)⟩
  | @slot i v rs vs Gs hv r ih =>
    intro ds as Gl Fl Fl' e hd fr al o o' nl ap th
    unfold rds at e
    simp only [rd] at e
    split at e
    · cases e
    · rename_i d hd0
      split at e
      · cases e
      · rename_i es he
        cases e
        cases o with
        | @cons _ _ F0 _ _ Fl0 o1 n1 o =>
          cases o' with
          | @cons a' _ F' as' _ Fl' o1' n1' o' =>
            have ap' : ∀ i a, a ∈ FsL i → (∀ F, F ∈ Fl0 → a ∉ F) ∧ H a ≠ none := fun i a h => ⟨fun F hF => (ap i a h).1 F (List.mem_cons_of_mem _ hF), (ap i a h).2⟩
            by_cases hp : pur d = true
            · have el : lks (.slot i :: rs) (d :: es) = lks rs es := by rw [lks, if_pos hp]
              have el' : lkz (.slot i :: rs) (d :: es) (a' :: as') = lkz rs es as' := by rw [lkz, if_pos hp]
              rw [el] at hd fr
              rw [el']
              obtain ⟨Gl', h1, h2, h3⟩ := ih he hd fr (by unfold Al at al; rw [if_pos hp] at al; exact al) o o' nl.2 ap' th
              exact ⟨Gl', h1, h2, fun G hG => List.mem_cons_of_mem _ (h3 G hG)⟩
            · have el : lks (.slot i :: rs) (d :: es) = (i, d) :: lks rs es := by rw [lks, if_neg hp]
              have el' : lkz (.slot i :: rs) (d :: es) (a' :: as') = (i, a') :: lkz rs es as' := by rw [lkz, if_neg hp]
              rw [el] at hd fr
              rw [el']
              cases hd with
              | @cons _ _ v2 F _ Gl hv2 A n hd =>
                rw [hv] at hv2
                cases hv2
                unfold Al at al
                rw [if_neg hp] at al
                obtain ⟨e0, al⟩ := al
                subst e0
                obtain ⟨Gl', h1, h2, h3⟩ := ih he hd fr.2 al o o' nl.2 ap' th
                refine ⟨F' :: Gl', .cons hv ⟨o1', fun j a hj ha => ?_⟩ (fun G hG a ha hb => n1' G (h3 G hG) a ha hb) h1, ⟨fun a ha => ?_, h2⟩, fun G hG => ?_⟩
                · rcases nl.1 a ha with z | z
                  · exact (ap j a hj).1 _ (List.mem_cons_self ..) z
                  · exact (ap j a hj).2 z
                · rcases nl.1 a ha with z | z
                  · exact fr.1 a z
                  · exact .inr (th a z)
                · rcases List.mem_cons.mp hG with rfl | hG
                  · exact List.mem_cons_self ..
                  · exact List.mem_cons_of_mem _ (h3 G hG)
theorem NewL.mem {Fl Fl' : List (List Addr)} (h : NewL H Fl Fl') : ∀ G, G ∈ Fl' → ∀ a, a ∈ G → (∃ F, F ∈ Fl ∧ a ∈ F) ∨ H a = none := by
  induction Fl generalizing Fl' with
  | nil => cases Fl' with
    | nil => intro G h; cases h
    | cons _ _ => exact h.elim
  | cons F Fl ih => cases Fl' with
    | nil => exact h.elim
    | cons F' Fl' =>
      intro G hG a ha
      rcases List.mem_cons.mp hG with rfl | hG
      · exact (h.1 a ha).imp (fun z => ⟨F, List.mem_cons_self .., z⟩) id
      · exact (ih h.2 G hG a ha).imp (fun ⟨F, h1, h2⟩ => ⟨F, List.mem_cons_of_mem _ h1, h2⟩) id
theorem tO_call {f : Fn} {n : Nat} {g : AL} {Q : VK} {E : XK} (z : tO K (oCall f g) σ H Q) (hn : ∀ ds r as, f ds = .ok r as → ds.length = n) : tA K g σ H fun vs H1 => spF K n f vs H1 Q E := by
  obtain ⟨s, Fs, rf, s', R, e, q⟩ := z
  obtain ⟨rs, s1, e1, e⟩ := bind_inv e
  refine ⟨s, Fs, rs, s1, R, e1, fun vs H1 Fs1 Gs R1 E1 k1 n1 => ?_⟩
  split at e
  · cases e
  · rename_i ds hds
    split at e
    · rename_i hnd
      split at e
      · rename_i r as hf
        cases e
        obtain ⟨FsL, Gl, RL, hd, sub, fr⟩ := R1.lock (lks_has k1 hds) hnd
        obtain ⟨Fl, ol, hl, al⟩ := args_own (FsL := FsL) R1 k1 hds hd fr
        have apart : ∀ i a, a ∈ FsL i → (∀ F, F ∈ Fl → a ∉ F) ∧ H1 a ≠ none := fun i a h => by
          refine ⟨fun F hF ha => ?_, fun w => ?_⟩
          · rcases hl F hF a ha with ⟨G, hG, hb⟩ | ⟨G, hG, hb⟩
            · have key : ∀ {rs : List Rf} {vs : List V} {Gs : List (List Addr)}, Rfs K H1 σ Fs1 rs vs Gs → G ∈ Gs → ∀ i, a ∉ Fs1 i := fun {rs vs Gs} r => by
                induction r with
                | nil => intro h; cases h
                | val A _ _ ih =>
                  intro hh i hi
                  rcases List.mem_cons.mp hh with e1 | hh
                  · exact A.dis i a hi (by rw [← e1]; exact hb)
                  · exact ih hh i hi
                | slot _ _ ih =>
                  intro hh i hi
                  rcases List.mem_cons.mp hh with e1 | hh
                  · rw [e1] at hb; cases hb
                  · exact ih hh i hi
              exact key k1 hG i (sub i a h)
            · exact (hd.mem G hG a hb).2 i h
          · obtain ⟨xs, y⟩ := RL.mem h
            rw [w] at y; cases y
        refine ⟨ds, Fl, r, as, hf, by rw [ol.len]; exact hn _ _ _ hf, ol, fun v H2 Fl' F ol' c nl o nF dj => ?_⟩
        have R2 : RelS K H2 (lockS (lks rs ds) s1) σ FsL := ⟨RL.len, fun i d e => by
          obtain ⟨v, hv, o⟩ := RL.has i d e
          exact ⟨v, hv, o.chg c fun a ha ⟨G, hG, hb⟩ => (apart i a ha).1 G hG hb⟩, RL.off, RL.dis⟩
        obtain ⟨Gl', hd', fr', sub'⟩ := args_back (H0 := H) (Fs0 := Fs) R1 k1 hds hd (fr.trans E1.new fun a h => E1.chg.there a h) al ol ol' nl apart fun a h => E1.chg.there a h
        obtain ⟨Fs', R', n'⟩ := R2.unlock hd' fr'
        refine q v H2 Fs' F R' ⟨⟨fun a ob ho cc => ?_, fun a h => E1.chg.there a (c.there a h)⟩, fun j a h => ?_⟩ (.val ⟨o, fun j a h ha => ?_⟩) fun a ha => E1.chg.there a (nF a ha)
        · refine c.keep a ob (E1.chg.keep a ob ho cc) (cc.imp (fun w ⟨G, hG, hb⟩ => ?_) id)
          rcases hl G hG a hb with ⟨G', hG', h⟩ | ⟨G', hG', h⟩
          · rw [n1 G' hG' a h] at ho; cases ho
          · rcases fr.mem G' hG' a h with ⟨i, z⟩ | z
            · rcases E1.new i a z with z | z
              · exact w ⟨i, z⟩
              · rw [z] at ho; cases ho
            · rw [E1.chg.there a z] at ho; cases ho
        · rcases n' j a h with z | ⟨z, _⟩
          · exact E1.new j a (sub j a z)
          · exact z
        · rcases n' j a h with z | ⟨_, G, hG, hb⟩
          · exact (apart j a z).2 (nF a ha)
          · exact dj G (sub' G hG) a hb ha
      · cases e
      · cases e
    · cases e
end
def coll : List Nat → List D → Nat → Sg → Option (List D)
  | [], [], _, _ => some []
  | m :: ms, d :: ds, j, s => match coll ms ds (j + 1) s with
    | none => none
    | some as => if m = 0 then (match (s[j]?).join with
      | none => none
      | some d' => some (d' :: as)) else some (d :: as)
  | _, _, _, _ => none
/-- which parameters' names keep what they hold -/
def lkM (ms : List Nat) : Nat → Bool := fun i => ms[i]? == some 0
def okM : List Nat → List D → Bool
  | [], [] => true
  | m :: ms, d :: ds => (m == 0 || pur d) && okM ms ds
  | _, _ => false
/-- n names in all, the parameters by their modes: 0 keeps its name's value, 1 holds what has no list -/
def mkFn (ms : List Nat) (n : Nat) (g : S) : Fn := fun ds => if okM ms ds = true then (match g (ds.map some ++ List.replicate (n - ds.length) none) with
    | .ok fl s => (match coll ms ds 0 s with
      | none => .bad
      | some as => (match fl with
        | .nx => .ok .none as
        | .rt d => .ok d as
        | _ => .bad))
    | .exc c v _ => .exc c v
    | .bad => .bad) else .bad
section
variable {K : PySem.W.Frag} {H H' : Hp}
theorem okM_len : ∀ {ms : List Nat} {ds : List D}, okM ms ds = true → ds.length = ms.length
  | [], [], _ => rfl
  | m :: ms, d :: ds, h => by
    simp only [okM, Bool.and_eq_true] at h
    rw [List.length_cons, List.length_cons, okM_len h.2]
  | [], _ :: _, h => by simp [okM] at h
  | _ :: _, [], h => by simp [okM] at h
theorem mkFn_len {ms : List Nat} {n : Nat} {g : S} {ds : List D} {r : D} {as : List D} (h : mkFn ms n g ds = .ok r as) : ds.length = ms.length := by
  unfold mkFn at h
  split at h
  · rename_i hk
    exact okM_len hk
  · cases h
/-- the arguments as the first slots -/
theorem relS_start {ds : List D} {vs : List V} {Fl : List (List Addr)} (h : OwnLs K H ds vs Fl) (m : Nat) : RelS K H (ds.map some ++ List.replicate m none) (vs.map some ++ List.replicate m none) (fun j => Fl.getD j []) := by
  have hl := h.len
  have key : ∀ (i : Nat) (d : D), ds[i]? = some d → ∃ v F, vs[i]? = some v ∧ Fl[i]? = some F ∧ Own K H d v F := by
    clear hl
    induction h with
    | nil => intro i d h; simp at h
    | @cons d v F ds vs Fl o n _ ih =>
      intro i d' e
      cases i with
      | zero => simp at e; subst e; exact ⟨v, F, rfl, rfl, o⟩
      | succ i => exact ih i d' (by simpa using e)
  have lenF : Fl.length = ds.length := by
    clear key hl
    induction h with
    | nil => rfl
    | cons _ _ _ ih => rw [List.length_cons, List.length_cons, ih]
  have dj : ∀ (i j : Nat) (F G : List Addr) (a : Addr), Fl[i]? = some F → Fl[j]? = some G → a ∈ F → a ∈ G → i = j := by
    clear key hl lenF
    induction h with
    | nil => intro i j F G a h; simp at h
    | @cons d v F0 ds vs Fl o n _ ih =>
      intro i j F G a h1 h2 h3 h4
      cases i with
      | zero => cases j with
        | zero => rfl
        | succ j =>
          simp at h1
          subst h1
          exact absurd h4 (n G (List.mem_of_getElem? (by simpa using h2)) a h3)
      | succ i => cases j with
        | zero =>
          simp at h2
          subst h2
          exact absurd h3 (n F (List.mem_of_getElem? (by simpa using h1)) a h4)
        | succ j => rw [ih i j F G a (by simpa using h1) (by simpa using h2) h3 h4]
  refine ⟨by simp [hl], fun i d e => ?_, fun i e => ?_, fun i j a h1 h2 => ?_⟩
  · by_cases hi : i < ds.length
    · rw [List.getElem?_append_left (by simpa using hi), List.getElem?_map] at e
      cases hd : ds[i]? with
      | none => rw [hd] at e; cases e
      | some d' =>
        rw [hd] at e
        cases e
        obtain ⟨v, F, hv, hF, o⟩ := key i d hd
        refine ⟨v, by rw [List.getElem?_append_left (by simp; omega), List.getElem?_map, hv]; rfl, ?_⟩
        show Own K H d v (Fl.getD i [])
        rw [List.getD_eq_getElem?_getD, hF]
        exact o
    · rw [List.getElem?_append_right (by simpa using hi), List.getElem?_replicate] at e
      split at e <;> cases e
  · show Fl.getD i [] = []
    by_cases hi : i < ds.length
    · exfalso
      refine e ds[i] ?_
      rw [List.getElem?_append_left (by simpa using hi), List.getElem?_map, List.getElem?_eq_getElem hi]
      rfl
    · rw [List.getD_eq_getElem?_getD, List.getElem?_eq_none (by omega)]
      rfl
  · have f1 : ∀ {i : Nat}, a ∈ Fl.getD i [] → ∃ F, Fl[i]? = some F ∧ a ∈ F := fun {i} h => by
      rw [List.getD_eq_getElem?_getD] at h
      cases e : Fl[i]? with
      | none => rw [e] at h; cases h
      | some F => rw [e] at h; exact ⟨F, rfl, h⟩
    obtain ⟨F, e1, m1⟩ := f1 h1
    obtain ⟨G, e2, m2⟩ := f1 h2
    exact dj i j F G a e1 e2 m1 m2
/-- the arguments behind the body -/
theorem coll_own {Fs' : Fp} {s : Sg} {σ' : St} (R : RelS K H' s σ' Fs') (c : Chg (fun _ => True) H H') (new : ∀ i a, a ∈ Fs' i → H' a ≠ none) : ∀ {ms : List Nat} {ds : List D} {vs : List V} {Fl : List (List Addr)} {as : List D} (j : Nat),
    OwnLs K H ds vs Fl → okM ms ds = true → coll ms ds j s = some as → (∀ i, i < ms.length → ms[i]? = some 0 → σ'[j + i]? = (vs[i]?).map some) → (∀ i a, a ∈ Fs' (j + i) → i < Fl.length → a ∈ Fl.getD i [] ∨ H a = none) →
    ∃ Fl', OwnLs K H' as vs Fl' ∧ NewL H Fl Fl' ∧ ∀ G, G ∈ Fl' → ∀ a, a ∈ G → ∃ i, j ≤ i ∧ ms[i - j]? = some 0 ∧ a ∈ Fs' i := by
  intro ms
  induction ms with
  | nil =>
    intro ds vs Fl as j o ok e L n
    cases ds with
    | cons _ _ => simp [okM] at ok
    | nil =>
      simp only [coll] at e
      cases e
      cases o
      exact ⟨[], .nil, trivial, by simp⟩
  | cons m ms ih =>
    intro ds vs Fl as j o ok e L n
    cases ds with
    | nil => simp [okM] at ok
    | cons d ds =>
      simp only [okM, Bool.and_eq_true, Bool.or_eq_true, beq_iff_eq] at ok
      simp only [coll] at e
      split at e
      · cases e
      · rename_i as' hc
        cases o with
        | @cons _ v F _ vs Fl o1 n1 o =>
          obtain ⟨Fl', h1, h2, h3⟩ := ih (j + 1) o ok.2 hc (fun i hi hm => by
            have := L (i + 1) (by simpa using hi) (by simpa using hm)
            rw [show j + 1 + i = j + (i + 1) by omega, this]
            simp) (fun i a ha hi => by
            have := n (i + 1) a (by rw [show j + (i + 1) = j + 1 + i by omega]; exact ha) (by simpa using hi)
            simpa using this)
          have h3' : ∀ G, G ∈ Fl' → ∀ a, a ∈ G → ∃ i, j < i ∧ (m :: ms)[i - j]? = some 0 ∧ a ∈ Fs' i := fun G hG a ha => by
            obtain ⟨i, q1, q2, q3⟩ := h3 G hG a ha
            refine ⟨i, by omega, ?_, q3⟩
            rw [show i - j = (i - (j + 1)) + 1 by omega, List.getElem?_cons_succ]
            exact q2
          split at e
          · rename_i hm
            subst hm
            split at e
            · cases e
            · rename_i d' hd'
              cases e
              obtain ⟨v', hv', o'⟩ := R.has j d' (join_some hd')
              have := L 0 (by simp) rfl
              rw [Nat.add_zero, hv'] at this
              simp at this
              subst this
              refine ⟨Fs' j :: Fl', .cons o' (fun G hG a ha hb => ?_) h1, ⟨fun a ha => ?_, h2⟩, fun G hG a ha => ?_⟩
              · obtain ⟨i, q1, _, q3⟩ := h3' G hG a hb
                have := R.dis j i a ha q3
                omega
              · have := n 0 a (by simpa using ha) (by simp)
                simpa using this
              · rcases List.mem_cons.mp hG with rfl | hG
                · exact ⟨j, Nat.le_refl _, by simp, ha⟩
                · obtain ⟨i, q1, q2, q3⟩ := h3' G hG a ha
                  exact ⟨i, Nat.le_of_lt q1, q2, q3⟩
          · rename_i hm
            cases e
            have hp : pur d = true := ok.1.resolve_left hm
            have e0 := o1.pur hp
            subst e0
            refine ⟨[] :: Fl', .cons (o1.chg c fun _ z => by cases z) (by simp) h1, ⟨by simp, h2⟩, fun G hG a ha => ?_⟩
            rcases List.mem_cons.mp hG with rfl | hG
            · cases ha
            · obtain ⟨i, q1, q2, q3⟩ := h3' G hG a ha
              exact ⟨i, Nat.le_of_lt q1, q2, q3⟩
end
end Sim
namespace Sim
open PySem PySem.Spec L2
theorem getD_of {Fl : List (List Addr)} {i : Nat} {a : Addr} (h : a ∈ Fl.getD i []) : ∃ G, Fl[i]? = some G ∧ a ∈ G := by
  rw [List.getD_eq_getElem?_getD] at h
  cases e : Fl[i]? with
  | none => rw [e] at h; cases h
  | some F => rw [e] at h; exact ⟨F, rfl, h⟩
theorem OwnLs.pure_at {K : PySem.W.Frag} {H : Hp} : ∀ {ms : List Nat} {ds : List D} {vs : List V} {Fl : List (List Addr)}, OwnLs K H ds vs Fl → okM ms ds = true → ∀ i, ms[i]? ≠ some 0 → Fl.getD i [] = []
  | [], [], _, _, o, _, i, _ => by cases o; simp
  | m :: ms, d :: ds, _, _, o, ok, 0, h => by
    cases o with
    | @cons _ _ F _ _ Fl o1 n1 o =>
      simp only [okM, Bool.and_eq_true, Bool.or_eq_true, beq_iff_eq] at ok
      have hp : pur d = true := ok.1.resolve_left fun e => h (by rw [e]; rfl)
      simpa using o1.pur hp
  | m :: ms, d :: ds, _, _, o, ok, i + 1, h => by
    cases o with
    | @cons _ _ F _ _ Fl o1 n1 o =>
      simp only [okM, Bool.and_eq_true] at ok
      have := OwnLs.pure_at o ok.2 i (by simpa using h)
      simpa using this
  | [], _ :: _, _, _, _, ok, _, _ => by simp [okM] at ok
  | _ :: _, [], _, _, _, ok, _, _ => by simp [okM] at ok
section
variable {P : Program} {w : World} {K : PySem.W.Frag} {mg : Str → Option Value} {base : Heap}
theorem fn_sim {x qual : Str} {st : Stmt} {f : Addr} {fd : FuncData} {N ps : List Str} {ms : List Nat} {n k : Nat} {g : S} (F : Fun K x qual st f fd) (Sc : FnScope N ps (defScope st)) (hn : N.length = n) (hm : ms.length = ps.length)
    (hb : ∀ (cdv : Value) (A : Around) (outer : List Env) (s : Shared) (H : Hp) (E : XK), Room k (A.deeper (PyProof.Rows.envOfC qual (defScope st) s.heap.objs.size f cdv)) →
      SimSs (cxOf CX0 P w K mg base N qual (defScope st) f cdv A outer s H E).nox (lkM ms) (defBody st) g) : FnOk P w K mg base CX0 (k + 1) f fd ps (spF K ps.length (mkFn ms n g)) := by
  refine F.ok Sc (fun vs H Q E h => ?_) (fun cdv A outer s H vs Q E hr h => ⟨_, hb cdv A outer s H E hr, ?_⟩)
  · obtain ⟨ds, Fl, r, as, hf, hl, _⟩ := h
    exact hl
  · obtain ⟨ds, Fl, r, as, hf, hl, ol, q⟩ := h
    unfold mkFn at hf
    split at hf
    · rename_i hok
      have hlm := okM_len hok
      split at hf
      · rename_i fl s' hg
        split at hf
        · cases hf
        · rename_i as' hc
          have est : L2.start N vs = vs.map some ++ List.replicate (n - ds.length) none := by
            unfold L2.start
            rw [hn, ← ol.len]
          have R0 := relS_start ol (n - ds.length)
          rw [est]
          refine ⟨_, _, fl, s', R0, hg, ?_⟩
          have fin : ∀ {σ' : St} {H' : Hp} {Fs' : Fp}, RelS K H' s' σ' Fs' → Ev H (fun j => Fl.getD j []) H' Fs' → Lk (lkM ms) (vs.map some ++ List.replicate (n - ds.length) none) σ' →
              ∃ Fl', OwnLs K H' as' vs Fl' ∧ NewL H Fl Fl' ∧ (Chg (fun a => ∃ G, G ∈ Fl ∧ a ∈ G) H H') ∧ ∀ G, G ∈ Fl' → ∀ a, a ∈ G → ∃ i, lkM ms i = true ∧ a ∈ Fs' i := by
            intro σ' H' Fs' R' E' L'
            have c2 : Chg (fun a => ∃ G, G ∈ Fl ∧ a ∈ G) H H' := ⟨fun a ob ho cc => E'.chg.keep a ob ho (cc.imp (fun z ⟨i, hi⟩ => by
              obtain ⟨G, hG, ha⟩ := getD_of hi
              exact z ⟨G, List.mem_of_getElem? hG, ha⟩) id), E'.chg.there⟩
            have c3 : Chg (fun _ => True) H H' := ⟨fun a ob ho cc => E'.chg.keep a ob ho (.inr (cc.resolve_left fun z => z trivial)), E'.chg.there⟩
            obtain ⟨Fl', h1, h2, h3⟩ := coll_own (Fs' := Fs') R' c3 (fun i a h => by
              obtain ⟨xs, z⟩ := R'.mem h
              rw [z]
              simp) 0 ol hok hc (fun i hi h0 => by
                have := L' i (by unfold lkM; rw [h0]; rfl)
                rw [Nat.zero_add, this, List.getElem?_append_left (by rw [List.length_map, ol.len, hlm]; exact hi), List.getElem?_map]) (fun i a ha hi => by
                rw [Nat.zero_add] at ha
                exact E'.new i a ha)
            refine ⟨Fl', h1, h2, c2, fun G hG a ha => ?_⟩
            obtain ⟨i, _, q2, q3⟩ := h3 G hG a ha
            exact ⟨i, by unfold lkM; rw [Nat.sub_zero] at q2; rw [q2]; rfl, q3⟩
          cases fl with
          | nx =>
            cases hf
            intro σ' H' Fs' R' E' L'
            obtain ⟨Fl', h1, h2, c2, _⟩ := fin R' E' L'
            exact q .non H' Fl' [] h1 c2 h2 .non (by simp) (by simp)
          | rt d =>
            cases hf
            intro v σ' H' Fs' F' R' E' L' o nn m
            obtain ⟨Fl', h1, h2, c2, h3⟩ := fin R' E' L'
            refine q v H' Fl' F' h1 c2 h2 o (fun a ha => ?_) fun G hG a ha hb => ?_
            · rcases nn a ha with z | ⟨i, hi, z⟩
              · exact z
              · exfalso
                have z' : a ∈ Fl.getD i [] := z
                rw [ol.pure_at hok i (fun e => by unfold lkM at hi; rw [e] at hi; cases hi)] at z'
                cases z'
            · obtain ⟨i, hi, q3⟩ := h3 G hG a ha
              exact m i a hi q3 hb
          | bk => cases hf
          | ct => cases hf
      · cases hf
      · cases hf
    · cases hf
end
section
variable {X : Cx} {k : Nat} {f : Addr} {fd : FuncData} {ps : List Str} {fn : Fn} {x : Str} {p pos : Pos} {e : Expr} {es : List Expr} {g : AL}
theorem so_call (F : FnOk X.prog X.w X.K X.mg X.base CX0 k f fd ps (spF X.K ps.length fn)) (hr : Room k X.A) (hg : Gl X x) (hm : X.mg x = some (.ref f)) (hk : PySem.W.keepIn X.K (.ref f) = true) (hb : Binds X.K fd ps []) (ha : SimA X (e :: es) g)
    (hn : ∀ ds r as, fn ds = .ok r as → ds.length = ps.length) (hdb : (x == ("__debug__" : Str)) = false := by decide) (he : starEach (e :: es) X.env = (false, eval e X.env) :: starEach es X.env := by rfl) (hpl : (backTo pos (starEach es X.env)).any (·.1) = false := by rfl) :
    SimO X (.Call (.Name x p) (e :: es) [] pos) (oCall fn g) := by
  refine pe_imp (pe_call F hr hg hm hk hb .nil pass0 ha hdb he hpl) fun σ H Q z => ?_
  have z' := tO_call (E := E0) z hn
  exact tA_mono (fun vs H h => by rw [List.append_nil]; exact h) z'
end
end Sim
namespace Sim
open PySem PySem.Spec L2
def intsD : List D → Option (List Int)
  | [] => some []
  | .int i :: ds => (intsD ds).map (i :: ·)
  | _ => none
def bools : List D → Option (List Bool)
  | [] => some []
  | .bool i :: ds => (bools ds).map (i :: ·)
  | _ => none
def seqOf : D → Option (List D)
  | .list ds => some ds
  | .tuple ds => some ds
  | .dict [(.none, .list ds)] => some ds
  | _ => none
def maxL : List Int → Int
  | [] => 0
  | n :: ns => ns.foldl max n
theorem foldl_max : ∀ (ns : List Int) (n : Int), (ns.foldl max n = n ∨ ns.foldl max n ∈ ns) ∧ n ≤ ns.foldl max n ∧ ∀ y, y ∈ ns → y ≤ ns.foldl max n
  | [], n => ⟨.inl rfl, Int.le_refl _, by simp⟩
  | m :: ns, n => by
    obtain ⟨h1, h2, h3⟩ := foldl_max ns (max n m)
    rw [List.foldl_cons]
    refine ⟨?_, Int.le_trans (Int.le_max_left n m) h2, fun y hy => ?_⟩
    · rcases h1 with h1 | h1
      · rw [h1]
        rcases Int.le_total n m with z | z
        · rw [Int.max_eq_right z]; exact .inr (List.mem_cons_self ..)
        · rw [Int.max_eq_left z]; exact .inl rfl
      · exact .inr (List.mem_cons_of_mem _ h1)
    · rcases List.mem_cons.mp hy with rfl | hy
      · exact Int.le_trans (Int.le_max_right n y) h2
      · exact h3 y hy
theorem maxL_mem {ns : List Int} (h : ns ≠ []) : maxL ns ∈ ns := by
  cases ns with
  | nil => exact absurd rfl h
  | cons n ns =>
    rcases (foldl_max ns n).1 with z | z
    · show List.foldl max n ns ∈ _
      rw [z]; exact List.mem_cons_self ..
    · exact List.mem_cons_of_mem _ z
theorem maxL_le {ns : List Int} {y : Int} (h : y ∈ ns) : y ≤ maxL ns := by
  cases ns with
  | nil => cases h
  | cons n ns =>
    rcases List.mem_cons.mp h with rfl | h
    · exact (foldl_max ns y).2.1
    · exact (foldl_max ns n).2.2 y h
theorem maxL_eq {ns : List Int} {m : Int} (h : m ∈ ns) (h2 : ∀ y, y ∈ ns → y ≤ m) : maxL ns = m :=
  Int.le_antisymm (h2 _ (maxL_mem (by rintro rfl; cases h))) (maxL_le h)
def pLen : List D → Option D
  | [.str z] => if z.length ≤ 1000000 then some (.int z.length) else none
  | [d] => match seqOf d with
    | some ds => some (.int ds.length)
    | none => none
  | _ => none
def pAbs : List D → Option D
  | [.int i] => some (.int (if i < 0 then -i else i))
  | _ => none
def pInt : List D → Option D
  | [.int i] => some (.int i)
  | [.bool k] => some (.int (if k then 1 else 0))
  | _ => none
def pMax2 : List D → Option D
  | [.int i, .int j] => some (.int (max i j))
  | _ => none
def pMin2 : List D → Option D
  | [.int i, .int j] => some (.int (min i j))
  | _ => none
def intsOf (d : D) : Option (List Int) := match seqOf d with
  | some ds => intsD ds
  | none => none
def pSum : List D → Option D
  | [d] => (intsOf d).map fun ns => .int ns.sum
  | _ => none
def pMax1 : List D → Option D
  | [d] => match intsOf d with
    | some (n :: ns) => some (.int (maxL (n :: ns)))
    | _ => none
  | _ => none
def pTuple : List D → Option D
  | [d] => match seqOf d with
    | some ds => if purs ds = true then some (.tuple ds) else none
    | none => none
  | _ => none
def pList : List D → Option D
  | [d] => match seqOf d with
    | some ds => if purs ds = true then some (.list ds) else none
    | none => none
  | _ => none
def pDivmod : List D → Option D
  | [.int i, .int j] => if 0 < j ∧ j < 1000000 then some (.tuple [.int (i / j), .int (i % j)]) else none
  | _ => none
def pAll : List D → Option D
  | [.list ds] => (bools ds).map fun bs => .bool (bs.all id)
  | _ => none
def pAny : List D → Option D
  | [.list ds] => (bools ds).map fun bs => .bool (bs.any id)
  | _ => none
section
variable {K : PySem.W.Frag} {H : Hp}
theorem own_ints : ∀ {ds : List D} {vs : List V} {F : List Addr} {ns : List Int}, OwnA K H ds vs F → intsD ds = some ns → vs = ns.map V.int
  | [], _, _, _, h, e => by cases h; cases e; rfl
  | d :: ds, _, _, _, h, e => by
    cases h with
    | cons o t n =>
      cases o with
      | int i =>
        simp only [intsD] at e
        cases hi : intsD ds with
        | none => rw [hi] at e; cases e
        | some ns' =>
          rw [hi] at e
          cases e
          rw [own_ints t hi]
          rfl
      | _ => simp [intsD] at e
theorem own_bools : ∀ {ds : List D} {vs : List V} {F : List Addr} {ns : List Bool}, OwnA K H ds vs F → bools ds = some ns → vs = ns.map V.bl
  | [], _, _, _, h, e => by cases h; cases e; rfl
  | d :: ds, _, _, _, h, e => by
    cases h with
    | cons o t n =>
      cases o with
      | bl i =>
        simp only [bools] at e
        cases hi : bools ds with
        | none => rw [hi] at e; cases e
        | some ns' =>
          rw [hi] at e
          cases e
          rw [own_bools t hi]
          rfl
      | _ => simp [bools] at e
theorem own_seq {d : D} {v : V} {F : List Addr} {ds : List D} (o : Own K H d v F) (e : seqOf d = some ds) : ∃ a xs G, v = .ref a ∧ (SqL K H a xs ∨ SqT K H a xs) ∧ OwnA K H ds xs G ∧ (purs ds = true → G = [] ∧ (∀ e2, d = .tuple e2 → SqD K H a xs)) ∧ ((∃ e2, d = .tuple e2) ∨ SqL K H a xs) := by
  unfold seqOf at e
  split at e
  · cases e
    cases o with
    | lst h t n => exact ⟨_, _, _, rfl, .inl (SqL.of h), t, fun p => ⟨t.pur p, fun _ z => by cases z⟩, .inr (SqL.of h)⟩
  · cases e
    cases o with
    | tup h t => exact ⟨_, _, _, rfl, .inr h.sq, t, fun p => ⟨t.pur p, fun _ _ => h⟩, .inl ⟨_, rfl⟩⟩
  · cases e
    cases o with
    | frz h t => exact ⟨_, _, _, rfl, .inl h.sq, t, fun p => ⟨rfl, fun _ z => by cases z⟩, .inr h.sq⟩
  · cases e
end
section
variable {prog : Program} {w : World} {A : Around} {E : Value → Shared → Prop} {s : Shared} {t : Addr} {xs : Array (Int × Tok)}
theorem max_intTup {Q : Value → Shared → Prop} (hh : A.handled = none) (ht : s.heap.IsTuple t (intItems xs)) (hne : 0 < xs.size)
    (h : ∀ v h' tk, (intItems xs)[argBest (fun i j => decide (numAt xs i > numAt xs j)) (xs.size - 1)]? = some v → (∀ b o, s.heap.get? b = some o → h'.get? b = some o) → Q v { s with heap := h', toks := tk }) :
    wpAny (model prog w) A (call (.builtin "max") [.ref t]) Q E s := by
  obtain ⟨o, ho, hc, n, hd⟩ := id ht
  have hn : t ≠ s.heap.objs.size := Nat.ne_of_lt (Heap.lt_size ho)
  refine call_max_walk (wpAny_pyIter_tuple ht ?_)
  refine ⟨_, _, _, _, _, _, _, rfl, Walks.tuple (A := A.in1) hh _ t hn (intItems xs), ⟨⟨_, Heap.get?_push_size _ rfl, rfl, rfl⟩, ht.at fun o e => Heap.get?_push_of_some _ e⟩, fun b hb => ?_, by simpa [intItems] using hne, CmpOf.ints_gt (numAt xs) (fun _ _ => intItems_at), fun v h' tk hP hk => ?_⟩
  · rcases List.mem_cons.mp hb with rfl | hb
    · exact Heap.lt_size (Heap.get?_push_size _ rfl)
    · obtain rfl := List.mem_singleton.mp hb
      exact Heap.lt_size (Heap.get?_push_of_some _ ho)
  · exact h v h' tk (by simpa [intItems] using hP) fun b o e => hk b o (fun hb => absurd (Heap.lt_size e) ((List.mem_singleton.mp hb) ▸ Nat.lt_irrefl _)) (Heap.get?_push_of_some _ e)
end
section
variable {X : Cx}
def rMaxA (K : PySem.W.Frag) : List V → Hp → VK → Prop := fun vs H Q => ∃ (a : Addr) (ns : List Int), vs = [V.ref a] ∧ (SqL K H a (ns.map V.int) ∨ SqT K H a (ns.map V.int)) ∧ ns ≠ [] ∧ Q (.int (maxL ns)) H
theorem cr_maxA (hc : X.calm = true) : CallR X (.builtin "max") (rMaxA X.K) := by
  intro pins s σ H vs us Q I r h
  obtain ⟨a, ns, rfl, hs, hne, q⟩ := h
  have hl0 : 0 < ns.length := List.length_pos_iff.mpr hne
  rcases hs with hs | hs
  · exact cr_max hc pins s σ H _ us Q I r ⟨a, ns, rfl, hs, hl0, fun m h1 h2 => by rw [maxL_eq h1 h2] at q; exact q⟩
  · obtain ⟨its, rv, hl, _⟩ := I.tuple hs
    rw [Vals.ref1 r]
    have hi := rv.ints
    obtain ⟨xs, e⟩ := hi.allInts.items
    have hn : numsOf (intItems xs).toList = ns := by rw [← e]; exact hi.numsOf
    rw [PySem.nums_intItems] at hn
    have hl' : s.heap.IsTuple a its.toArray := hl
    rw [e] at hl'
    subst hn
    have hsz : 0 < xs.size := by simpa using hl0
    refine max_intTup (I.ok.hd hc) hl' hsz fun v h' tk hv hk => ?_
    obtain ⟨t, rfl⟩ := intItems_at hv
    obtain ⟨h1, h2⟩ := argBest_gt (numAt xs) (xs.size - 1)
    refine ⟨.int _, H, I.kept hk, ⟨_, rfl⟩, ?_⟩
    rw [maxL_eq (m := numAt xs (argBest (fun i j => decide (numAt xs i > numAt xs j)) (xs.size - 1))) ?_ fun y hy => ?_] at q
    · exact q
    · rw [numAt_eq]; exact PySem.getD_mem (by rw [List.length_map, Array.length_toList]; omega)
    · obtain ⟨j, hj, rfl⟩ := mem_getD hy
      rw [List.length_map, Array.length_toList] at hj
      rw [← numAt_eq]; exact h2 j (by omega)
end
end Sim
namespace Sim
open PySem PySem.Spec L2
section
variable {K : PySem.W.Frag}
def rLenA (K : PySem.W.Frag) : List V → Hp → VK → Prop := fun xs H Q => (∃ p ys, xs = [V.ref p] ∧ (SqL K H p ys ∨ SqT K H p ys) ∧ Q (.int ys.length) H) ∨ ∃ z, xs = [V.str z] ∧ z.length ≤ sizeLine ∧ Q (.int z.length) H
theorem CallR.or {X : Cx} {f : Value} {r r' : List V → Hp → VK → Prop} (h : CallR X f r) (h' : CallR X f r') : CallR X f (fun xs H Q => r xs H Q ∨ r' xs H Q) := fun pins s σ H xs us Q I rv q =>
  q.elim (h pins s σ H xs us Q I rv) (h' pins s σ H xs us Q I rv)
theorem cr_len {X : Cx} : CallR X (.builtin "len") (rLenA X.K) := CallR.or call_len_seq call_len_str
theorem pr_len : PrimR K (rLenA K) pLen := by
  intro vs ds d H Q h e q
  unfold pLen at e
  split at e
  · obtain ⟨x, F, rfl, o⟩ := h.one
    cases o
    split at e
    · rename_i hz
      cases e
      exact .inr ⟨_, rfl, Nat.le_trans hz big_le, q _ _ (.sc (.int _))⟩
    · cases e
  · obtain ⟨x, F, rfl, o⟩ := h.one
    split at e
    · rename_i es hs
      cases e
      obtain ⟨a, xs, G, rfl, hq, t, _⟩ := own_seq o hs
      refine .inl ⟨_, _, rfl, hq, ?_⟩
      rw [t.len]
      exact q _ _ (.sc (.int _))
    · cases e
  · cases e
theorem pr_int : PrimR K (fun xs H Q => (∃ i, xs = [V.int i] ∧ Q (.int i) H) ∨ ∃ k, xs = [V.bl k] ∧ Q (.int (if k then 1 else 0)) H) pInt := by
  intro vs ds d H Q h e q
  unfold pInt at e
  split at e
  · obtain ⟨x, F, rfl, o⟩ := h.one
    cases o; cases e
    exact .inl ⟨_, rfl, q _ _ (.sc (.int _))⟩
  · obtain ⟨x, F, rfl, o⟩ := h.one
    cases o; cases e
    exact .inr ⟨_, rfl, q _ _ (.sc (.int _))⟩
  · cases e
theorem pr_max2 : PrimR K (fun xs H Q => ∃ i j : Int, xs = [V.int i, .int j] ∧ Q (.int (if j > i then j else i)) H) pMax2 := by
  intro vs ds d H Q h e q
  unfold pMax2 at e
  split at e
  · rename_i i j
    obtain ⟨x, y, F, G, rfl, o, o2⟩ := h.two
    cases o; cases o2; cases e
    refine ⟨_, _, rfl, ?_⟩
    have z : (if j > i then j else i) = max i j := by split <;> omega
    rw [z]
    exact q _ _ (.sc (.int _))
  · cases e
theorem pr_min2 : PrimR K (fun xs H Q => ∃ i j : Int, xs = [V.int i, .int j] ∧ Q (.int (if j < i then j else i)) H) pMin2 := by
  intro vs ds d H Q h e q
  unfold pMin2 at e
  split at e
  · rename_i i j
    obtain ⟨x, y, F, G, rfl, o, o2⟩ := h.two
    cases o; cases o2; cases e
    refine ⟨_, _, rfl, ?_⟩
    have z : (if j < i then j else i) = min i j := by split <;> omega
    rw [z]
    exact q _ _ (.sc (.int _))
  · cases e
theorem own_intsOf {H : Hp} {d : D} {v : V} {F : List Addr} {ns : List Int} (o : Own K H d v F) (e : intsOf d = some ns) : ∃ a, v = .ref a ∧ (SqL K H a (ns.map V.int) ∨ SqT K H a (ns.map V.int)) := by
  unfold intsOf at e
  split at e
  · rename_i es hs
    obtain ⟨a, xs, G, rfl, hq, t, _⟩ := own_seq o hs
    rw [own_ints t e] at hq
    exact ⟨a, rfl, hq⟩
  · cases e
theorem pr_max1 : PrimR K (rMaxA K) pMax1 := by
  intro vs ds d H Q h e q
  unfold pMax1 at e
  split at e
  · obtain ⟨x, F, rfl, o⟩ := h.one
    split at e
    · rename_i hi
      cases e
      obtain ⟨a, rfl, hq⟩ := own_intsOf o hi
      exact ⟨a, _, rfl, hq, by simp, q _ _ (.sc (.int _))⟩
    · cases e
  · cases e
theorem pr_tuple : PrimR K (fun xs H Q => ∃ p ys, xs = [V.ref p] ∧ ((SqL K H p ys ∧ rNewT ys H Q) ∨ (SqT K H p ys ∧ Q (.ref p) H))) pTuple := by
  intro vs ds d H Q h e q
  unfold pTuple at e
  split at e
  · obtain ⟨x, F, rfl, o⟩ := h.one
    split at e
    · rename_i es hs
      split at e
      · rename_i hp
        cases e
        obtain ⟨a, xs, G, rfl, hq, t, h1, h2⟩ := own_seq o hs
        obtain ⟨rfl, h3⟩ := h1 hp
        refine ⟨a, xs, rfl, ?_⟩
        rcases h2 with ⟨e2, h2⟩ | h2
        · exact .inr ⟨(h3 e2 h2).sq, q _ _ (.sc (.tup (h3 e2 h2) t))⟩
        · exact .inl ⟨h2, fun p ob hp hn => q _ _ (.tup t hp hn)⟩
      · cases e
    · cases e
  · cases e
theorem pr_list : PrimR K (fun xs H Q => ∃ p ys, xs = [V.ref p] ∧ (SqL K H p ys ∨ SqT K H p ys) ∧ ∀ l, H l = none → Q (.ref l) (upd H l (.lst ys))) pList := by
  intro vs ds d H Q h e q
  unfold pList at e
  split at e
  · obtain ⟨x, F, rfl, o⟩ := h.one
    split at e
    · rename_i es hs
      split at e
      · rename_i hp
        cases e
        obtain ⟨a, xs, G, rfl, hq, t, h1, h2⟩ := own_seq o hs
        obtain ⟨rfl, h1⟩ := h1 hp
        exact ⟨_, _, rfl, hq, fun l hl => q _ _ (.lst t hl)⟩
      · cases e
    · cases e
  · cases e
theorem pr_all : PrimR K (rAll K) pAll := by
  intro vs ds d H Q h e q
  unfold pAll at e
  split at e
  · obtain ⟨x, F, rfl, o⟩ := h.one
    rename_i es
    cases hi : bools es with
    | none => rw [hi] at e; cases e
    | some ns =>
      rw [hi] at e
      cases e
      cases o with
      | lst h1 t n =>
        rw [own_bools t hi] at h1
        exact ⟨_, _, rfl, SqL.of h1, q _ _ (.sc (.bl _))⟩
  · cases e
end
theorem bt_len : bootBuiltins "len" = some (.builtin "len") := by decide +kernel
theorem bt_max : bootBuiltins "max" = some (.builtin "max") := by decide +kernel
theorem bt_min : bootBuiltins "min" = some (.builtin "min") := by decide +kernel
theorem bt_all : bootBuiltins "all" = some (.builtin "all") := by decide +kernel
theorem bt_sorted : bootBuiltins "sorted" = some (.builtin "sorted") := by decide +kernel
theorem bt_isinstance : bootBuiltins "isinstance" = some (.builtin "isinstance") := by decide +kernel
theorem bt_int : bootBuiltins "int" = some (.type "int") := by decide +kernel
theorem bt_str : bootBuiltins "str" = some (.type "str") := by decide +kernel
theorem bt_list : bootBuiltins "list" = some (.type "list") := by decide +kernel
theorem bt_tuple : bootBuiltins "tuple" = some (.type "tuple") := by decide +kernel
inductive Kd where
  | int | bool | str | tup | lst
def kdN : Kd → Str
  | .int => "int"
  | .bool => "bool"
  | .str => "str"
  | .tup => "tuple"
  | .lst => "list"
def kdT : Kd → String
  | .int => "int"
  | .bool => "bool"
  | .str => "str"
  | .tup => "tuple"
  | .lst => "list"
def frdB : List (D × D) → Bool
  | [(.none, .dict _)] => true
  | _ => false
def isK : Kd → D → Bool
  | .int, .int _ => true
  | .int, .bool _ => true
  | .bool, .bool _ => true
  | .str, .str _ => true
  | .tup, .tuple _ => true
  | .lst, .list _ => true
  | .lst, .dict kvs => !frdB kvs
  | _, _ => false
def okD : D → Bool
  | .dict kvs => frzT kvs
  | _ => true
def pIsi (k : Kd) : List D → Option D
  | [d] => if okD d = true then some (.bool (isK k d)) else none
  | _ => none
def tyN : D → String
  | .none => "NoneType"
  | .bool _ => "bool"
  | .int _ => "int"
  | .str _ => "str"
  | .tuple _ => "tuple"
  | .list _ => "list"
  | .dict kvs => if frdB kvs = true then "dict" else "list"
theorem kit_d (k : Kd) (d : D) : kitB (tyN d) (kdT k) = some (isK k d) := by
  cases d with
  | dict kvs =>
    cases hk : frdB kvs <;> cases k <;> simp only [tyN, kdT, isK, hk, if_true, if_false, Bool.false_eq_true, Bool.not_true, Bool.not_false] <;> decide +kernel
  | _ => cases k <;> simp only [tyN, kdT, isK] <;> decide +kernel
theorem own_ty {K : PySem.W.Frag} {H : Hp} {d : D} {v : V} {F : List Addr} (o : Own K H d v F) (ok : okD d = true) : TyX K H v (.type (tyN d)) := by
  cases o with
  | dct _ _ _ => simp [okD, frzT] at ok
  | dcn _ _ _ => simp [okD, frzT] at ok
  | ins _ _ _ => simp [okD, frzT] at ok
  | non => exact .base .non
  | bl b => exact .base (.bl b)
  | int b => exact .base (.int b)
  | str b => exact .base (.str b)
  | tup h t =>
    rcases h with ⟨o, h, _⟩ | ⟨o, its, n, h1, h2, _⟩
    · exact .fTuple h
    · exact .kTuple h1 h2
  | frz h t =>
    rcases h with ⟨o, h⟩ | ⟨o, its, n, h1, h2, _⟩
    · exact .base (.frz h)
    · exact .kList h1 h2
  | frd h => exact .fDict h
  | lst h t n => exact .base (.lst h)
def rIsiK (K : PySem.W.Frag) (k : Kd) : List V → Hp → VK → Prop := fun vs H Q => rIsi K (vs ++ [.ty (kdT k)]) H Q
theorem pr_isi {K : PySem.W.Frag} (k : Kd) : PrimR K (rIsiK K k) (pIsi k) := by
  intro vs ds d H Q h e q
  unfold pIsi at e
  split at e
  · obtain ⟨x, F, rfl, o⟩ := h.one
    split at e
    · rename_i ok
      cases e
      exact ⟨x, _, _, _, _, rfl, .ty _, own_ty o ok, kit_ty (kit_d k _), q _ _ (.sc (.bl _))⟩
    · cases e
  · cases e
theorem so_isi {X : Cx} {e : Expr} {ga : O} {p p2 pos : Pos} (k : Kd) (hg : Gl X "isinstance") (hm : X.mg "isinstance" = none) (hg2 : Gl X (kdN k)) (hm2 : X.mg (kdN k) = none) (ha : SimO X e ga)
    (he : starEach (e :: [.Name (kdN k) p2]) X.env = (false, eval e X.env) :: starEach [.Name (kdN k) p2] X.env := by rfl) (hpl : (backTo pos (starEach [.Name (kdN k) p2] X.env)).any (·.1) = false := by rfl)
    (hs2 : starEach [.Name (kdN k) p2] X.env = (false, eval (.Name (kdN k) p2) X.env) :: starEach [] X.env := by rfl) : SimO X (.Call (.Name "isinstance" p) [e, .Name (kdN k) p2] [] pos) (o1 (pIsi k) ga) := by
  have hb : bootBuiltins (kdN k) = some (.type (kdT k)) := by cases k <;> decide +kernel
  have hn : kdN k ≠ "__name__" := by cases k <;> decide
  have hd : (kdN k == ("__debug__" : Str)) = false := by cases k <;> decide
  refine pe_imp (pe_callB call_isi hg hm bt_isinstance (pa_cons ha (pa_cons (pe_bltn hg2 hm2 hb (v := .ty (kdT k)) rfl hn hd) pa_nil hs2) he) (he := he) (hpl := hpl)) fun σ H Q h => ?_
  have z := tA1 (prim (pr_isi k) h)
  exact z
end Sim
namespace Sim
open PySem PySem.Spec L2
/-- x.m(args): the list that x's slot holds, as it becomes; what is given -/
def oMt (f : List D → List D → Option (List D × D)) (i : Nat) (g : AL) : O := fun s => (oV i s).bind fun _ s => match (s[i]?).join with
  | some (.list _) => (g s).bind fun rs s1 => (match (s1[i]?).join, owns rs s1 with
    | some (.list ds), some as => (match f ds as with
      | some (ds', d) => if pur d = true then .ok (.val d) (s1.set i (some (.list ds'))) else .bad
      | none => .bad)
    | _, _ => .bad)
  | _ => .bad
/-- what a rule of a method asks: the list becomes .., the answer -/
def MtD (K : PySem.W.Frag) (r : V → List V → Hp → VK → Prop) (f : List D → List D → Option (List D × D)) : Prop :=
  ∀ (l : Addr) (vs : List V) (F : List Addr) (ds as : List D) (ws : List V) (G : List Addr) (ds' : List D) (d : D) (H : Hp) (Q : VK),
    H l = some (.lst vs) → OwnA K H ds vs F → l ∉ F → OwnA K H as ws G → (∀ a, a ∈ G → a ∉ l :: F) → f ds as = some (ds', d) → pur d = true →
    (∀ vs' F' v, OwnA K H ds' vs' F' → (∀ a, a ∈ F' → a ∈ F ∨ a ∈ G) → Own K H d v [] → Q v (upd H l (.lst vs'))) → r (.ref l) ws H Q
theorem Ev.step {H H1 H' : Hp} {Fs Fs1 Fs' : Fp} (a : Ev H Fs H1 Fs1) (c : Chg (InF Fs1) H1 H') (n : ∀ i x, x ∈ Fs' i → x ∈ Fs i ∨ H x = none) : Ev H Fs H' Fs' := by
  refine ⟨⟨fun x o e cc => c.keep x o (a.chg.keep x o e cc) (cc.imp (fun n z => ?_) id), fun x e => a.chg.there x (c.there x e)⟩, n⟩
  obtain ⟨i, hi⟩ := z
  rcases a.new i x hi with q | q
  · exact n ⟨i, q⟩
  · rw [e] at q; cases q
section
variable {X : Cx} {K : PySem.W.Frag} {σ : St} {H : Hp} {Q : VK}
theorem tO_mt {f : List D → List D → Option (List D × D)} {r : V → List V → Hp → VK → Prop} {i : Nat} {g : AL} (hr : MtD K r f) (z : tO K (oMt f i g) σ H Q) : tBM K "list" r (tVar i) (tA K g) σ H Q := by
  obtain ⟨s, Fs, rf, s', R, e, q⟩ := z
  obtain ⟨r0, s0, e0, e⟩ := bind_inv e
  unfold oV at e0
  split at e0
  · rename_i d0 hd0
    cases e0
    split at e
    · rename_i ds0 hds0
      rw [hd0] at hds0
      cases hds0
      obtain ⟨v0, hv0, o0⟩ := R.has i _ (join_some hd0)
      obtain ⟨l, vs0, F0, rfl, hF0, hl0, t0, n0⟩ := own_list o0
      refine ⟨.ref l, hv0, .inl ⟨rfl, _, SqL.of hl0⟩, ?_⟩
      obtain ⟨rs, s1, e1, e⟩ := bind_inv e
      refine ⟨s, Fs, rs, s1, R, e1, fun ws H1 Fs1 Gs R1 E1 k1 n1 => ?_⟩
      split at e
      · rename_i ds as hds has
        split at e
        · rename_i ds' d hf
          split at e
          · rename_i hp
            cases e
            obtain ⟨v1, hv1, o1⟩ := R1.has i _ (join_some hds)
            rw [hv0] at hv1
            cases hv1
            obtain ⟨l', vs, F, e2, hF, hl, t, n⟩ := own_list o1
            cases e2
            obtain ⟨oa, dj⟩ := k1.own R1 has
            have li : ∀ a, a ∈ Gs.flatten → a ∉ l :: F := fun a ha hb => dj i a (by rw [hF]; exact hb) ha
            refine hr l vs F ds as ws Gs.flatten ds' d H1 Q hl t n oa li hf hp fun vs' F' v o' sub ov => ?_
            have n' : l ∉ F' := fun h => by
              rcases sub l h with z | z
              · exact n z
              · exact li l z (List.mem_cons_self ..)
            obtain ⟨Fs2, R2, c2, w2⟩ := R1.wr (Fd := Gs.flatten) (join_some hds) hv0 hl hF o' n' sub (fun j a ha => dj j a ha)
            have ch : Chg (fun a => a = l) H1 (upd H1 l (.lst vs')) := ⟨fun a ob e c => by
              by_cases ha : a = l
              · subst ha
                rcases c with c | c
                · exact absurd rfl c
                · rw [hl] at e
                  cases e
                  cases c
              · rw [upd_ne ha]; exact e, fun a e => by
              by_cases ha : a = l
              · subst ha; rw [upd_same] at e; cases e
              · rw [upd_ne ha] at e; exact e⟩
            refine q v _ Fs2 [] R2 (E1.step c2 fun j a ha => ?_) (.val ⟨ov.chg ch (fun _ z => nomatch z), fun _ _ _ z => nomatch z⟩) (fun _ z => nomatch z)
            rcases w2 j a ha with z | z
            · exact E1.new j a z
            · obtain ⟨G, hG, hb⟩ := List.mem_flatten.mp z
              exact .inr (n1 G hG a hb)
          · cases e
        · cases e
      · cases e
    · cases e
  · cases e0
theorem so_mt {f : List D → List D → Option (List D × D)} {r : V → List V → Hp → VK → Prop} {i : Nat} {g : AL} {x name : Str} {id : String} {p apos cpos : Pos} {e : Expr} {es : List Expr} (hr : MtD X.K r f) (slot : Slot "list" name id) (hty : typeOf (.builtin id) = pure (.type "method_descriptor")) (hm : MtR X id r)
    (ho : PE X (.Name x p) (tVar i)) (ha : SimA X (e :: es) g)
    (hbase : attributeBase (.Name x p) name X.env (eval (.Name x p) X.env) = eval (.Name x p) X.env := by rfl)
    (hfew : ((backTo cpos (starEach (e :: es) X.env)).all (fun x => !x.1) && (backToKw cpos (keywordEach [] X.env)).all (fun x => x.1.isSome)
      && decide ((e :: es).length + ([] : List Keyword).length + (if ([] : List Keyword).isEmpty then 0 else 1) < 30)) = true := by rfl)
    (hline : (apos.endLine == cpos.line) = true := by rfl) (hs : starEach (e :: es) X.env = (false, eval e X.env) :: starEach es X.env := by rfl) (hplain : (backTo cpos (starEach es X.env)).any (·.1) = false := by rfl) :
    SimO X (.Call (.Attribute (.Name x p) name apos) (e :: es) [] cpos) (oMt f i g) :=
  pe_imp (pe_bm PySem.F.plainAttrs_list slot hty hm ho ha hbase hfew hline hs hplain) fun _ _ _ h => tO_mt hr h
end
def mApp : List D → List D → Option (List D × D)
  | ds, [d] => if ds.length < 1000000 then some (ds ++ [d], .none) else none
  | _, _ => none
def mIns : List D → List D → Option (List D × D)
  | ds, [.int i, d] => if ds.length < 1000000 ∧ 0 ≤ i ∧ i < 1000000 ∧ pur d = true ∧ purs ds = true then some (ds.take i.toNat ++ [d] ++ ds.drop i.toNat, .none) else none
  | _, _ => none
section
variable {K : PySem.W.Frag} {H : Hp}
theorem owna1 {d : D} {vs : List V} {F : List Addr} (h : OwnA K H [d] vs F) : ∃ v, vs = [v] ∧ Own K H d v F := by
  cases h with
  | @cons v _ _ _ F G o t n =>
    cases t
    rw [List.append_nil]
    exact ⟨v, rfl, o⟩
theorem owna2 {d d2 : D} {vs : List V} {F : List Addr} (h : OwnA K H [d, d2] vs F) : ∃ v v2 F1 F2, vs = [v, v2] ∧ Own K H d v F1 ∧ Own K H d2 v2 F2 ∧ F = F1 ++ F2 := by
  cases h with
  | @cons v _ _ _ F G o t n =>
    obtain ⟨v2, rfl, o2⟩ := owna1 t
    exact ⟨v, v2, _, _, rfl, o, o2, rfl⟩
theorem md_app : MtD K rAppend mApp := by
  intro l vs F ds as ws G ds' d H Q hl t n oa li hf hp q
  unfold mApp at hf
  split at hf
  · rename_i ds y
    split at hf
    · rename_i hz
      cases hf
      obtain ⟨v, rfl, o⟩ := owna1 oa
      obtain ⟨F', t', sub⟩ := OwnA.snoc o t fun a ha hb => li a hb (List.mem_cons_of_mem _ ha)
      refine ⟨l, _, v, rfl, rfl, hl, ?_, q _ F' .non t' sub .non⟩
      rw [t.len]
      exact Nat.lt_of_lt_of_le hz big_le
    · cases hf
  · cases hf
theorem md_ins : MtD K (fun x vs H Q => ∃ (l : Addr) (xs : List V) (i : Int) (y : V), x = .ref l ∧ vs = [.int i, y] ∧ H l = some (.lst xs) ∧ xs.length < sizeLine ∧ 0 ≤ i ∧ i < 2 ^ 63 ∧
    Q .non (upd H l (.lst (xs.take i.toNat ++ [y] ++ xs.drop i.toNat)))) mIns := by
  intro l vs F ds as ws G ds' d H Q hl t n oa li hf hp q
  unfold mIns at hf
  split at hf
  · rename_i ds i y
    split at hf
    · rename_i hz
      cases hf
      obtain ⟨v, v2, F1, F2, rfl, o, o2, _⟩ := owna2 oa
      cases o
      have e0 := o2.pur hz.2.2.2.1
      subst e0
      have e1 := t.pur hz.2.2.2.2
      subst e1
      refine ⟨l, _, i, v2, rfl, rfl, hl, ?_, hz.2.1, by omega, q _ [] .non (((t.take _).app (OwnA.cons0 o2 .nil)).app (t.drop _)) (fun _ z => nomatch z) .non⟩
      rw [t.len]
      exact Nat.lt_of_lt_of_le hz.1 big_le
    · cases hf
  · cases hf
end
end Sim
namespace Sim
open PySem PySem.Spec L2
def truD : D → Option Bool
  | .none => some false
  | .bool b => some b
  | .int i => some (i != 0)
  | .str z => if z.length ≤ 1000000 then some ((z.length : Int) != 0) else none
  | .list ds => some (!ds.isEmpty)
  | .tuple ds => some (!ds.isEmpty)
  | .dict [(.none, .list ds)] => some (!ds.isEmpty)
  | .dict _ => none
def tstA (g : O) : T := fun s => (g s).bind fun r s1 => match rd r s1 with
  | some d => (match truD d with
    | some b => .ok b s1
    | none => .bad)
  | none => .bad
theorem OwnA.emp {K : PySem.W.Frag} {H : Hp} {ds : List D} {vs : List V} {F : List Addr} (t : OwnA K H ds vs F) : ds.isEmpty = vs.isEmpty := by
  cases t <;> rfl
section
variable {X : Cx} {K : PySem.W.Frag} {H : Hp} {σ : St} {Q : VK} {a : Expr} {ga : O}
theorem tT_tstA {g : O} {Q : Bool → Hp → Prop} (h : tT K (tstA g) σ H Q) : tO K g σ H fun x H1 => ∃ k, TruV K x H1 k ∧ Q k H1 := by
  obtain ⟨s, Fs, b, s', R, e, q⟩ := h
  obtain ⟨r, s1, e1, e⟩ := bind_inv e
  refine ⟨s, Fs, r, s1, R, e1, fun v H1 Fs1 F R1 E1 k1 n1 => ?_⟩
  split at e
  · rename_i d hb
    split at e
    · rename_i b' ht
      cases e
      obtain ⟨F', o⟩ := k1.dp R1 hb
      refine ⟨b, ?_, q H1 Fs1 R1 E1⟩
      cases o with
      | frd _ => simp [truD] at ht
      | dct _ _ _ => simp [truD] at ht
      | dcn _ _ _ => simp [truD] at ht
      | ins _ _ _ => simp [truD] at ht
      | non => cases ht; rfl
      | bl b => cases ht; rfl
      | int i => cases ht; rfl
      | str z =>
        simp only [truD] at ht
        split at ht
        · rename_i hz
          cases ht
          exact ⟨Nat.le_trans hz big_le, rfl⟩
        · cases ht
      | tup h t =>
        cases ht
        exact .inr (.inl ⟨_, h.sq, by rw [t.emp]⟩)
      | frz h t =>
        cases ht
        exact .inl ⟨_, h.sq, by rw [t.emp]⟩
      | lst h t n =>
        cases ht
        exact .inl ⟨_, SqL.of h, by rw [t.emp]⟩
    · cases e
  · cases e
theorem st_any (ha : SimO X a ga) (he : ∀ whole, isTrue a X.env whole = (do let v ← whole; standAt a.pos; holding [v] (truthy v)) := by intro _; rfl) : SimT X a (tstA ga) :=
  pt_imp (pt_truth ha he) fun _ _ _ h => tT_tstA h
end
section
variable {X : Cx} {lk : Nat → Bool}
end
/-- more slots held -/
def lkp (is : List Nat) (lk : Nat → Bool) : Nat → Bool := fun j => is.contains j || lk j
theorem lkp_sub {is : List Nat} {lk : Nat → Bool} : ∀ i, lk i = true → lkp is lk i = true := fun i h => by unfold lkp; rw [h, Bool.or_true]
theorem units65 {k : Nat} {A : Around} (r : Room k A) : A.units + 65 < cLine := by have := r.un; omega
theorem spF_law {f : Fn} (hf : ∀ ns : List Int, ns.length ≤ 63 → ∃ as, f [.dict [(.none, .list (ns.map .int))]] = .ok (.bool true) as) (K : PySem.W.Frag) (H : Hp) (a : Addr) (ns : List Int) (h1 : ns.length ≤ 63) (h2 : Only H) (h3 : SqL K H a (ns.map V.int)) :
    spF K 1 f [.ref a] H (fun v _ => v = .bl true) fun _ _ _ => False := by
  obtain ⟨as, e⟩ := hf ns h1
  have hq : SqF K H a (ns.map V.int) := by
    rcases h3 with (h | ⟨o, h⟩) | h
    · rcases h2 a with z | ⟨o, xs, z⟩ <;> rw [h] at z <;> cases z
    · exact .inl ⟨o, h⟩
    · exact .inr h
  have ho : ∀ ns : List Int, OwnA K H (ns.map .int) (ns.map V.int) [] := fun ns => by
    induction ns with
    | nil => exact .nil
    | cons n ns ih => exact OwnA.cons0 (.int n) ih
  refine ⟨_, [[]], _, as, e, rfl, .cons (.frz hq (ho ns)) (by simp) .nil, fun v H' Fl' F h c n o _ _ => ?_⟩
  cases o
  rfl
end Sim
namespace Sim
open PySem PySem.Spec L2
@[simp] theorem ev_ok {α β : Type} (a : α) (s : Sg) (k : α → Sg → Res β) : (Res.ok a s).bind k = k a s := rfl
@[simp] theorem ev_exc {α β : Type} (c : Str) (v : D) (s : Sg) (k : α → Sg → Res β) : (Res.exc c v s).bind k = .exc c v s := rfl
@[simp] theorem ev_bad {α β : Type} (k : α → Sg → Res β) : (Res.bad : Res α).bind k = .bad := rfl
@[simp] theorem rd_val (d : D) (s : Sg) : rd (.val d) s = some d := rfl
@[simp] theorem rd_slot (i : Nat) (s : Sg) : rd (.slot i) s = (s[i]?).join := rfl
def rdsK (a : Option D) (b : Option (List D)) : Option (List D) := match a with
  | none => none
  | some d => match b with
    | none => none
    | some ds => some (d :: ds)
@[simp] theorem rds_nil (s : Sg) : rds [] s = some [] := rfl
@[simp] theorem rds_cons (r : Rf) (rs : List Rf) (s : Sg) : rds (r :: rs) s = rdsK (rd r s) (rds rs s) := rfl
@[simp] theorem rdsK_some (d : D) (ds : List D) : rdsK (some d) (some ds) = some (d :: ds) := rfl
def ownK : Option D → Option D
  | none => none
  | some d => if pur d = true then some d else none
@[simp] theorem own_val (d : D) (s : Sg) : own (.val d) s = some d := rfl
@[simp] theorem own_slot (i : Nat) (s : Sg) : own (.slot i) s = ownK (s[i]?).join := rfl
@[simp] theorem ownK_some (d : D) : ownK (some d) = if pur d = true then some d else none := rfl
@[simp] theorem owns_nil (s : Sg) : owns [] s = some [] := rfl
@[simp] theorem owns_cons (r : Rf) (rs : List Rf) (s : Sg) : owns (r :: rs) s = rdsK (own r s) (owns rs s) := rfl
@[simp] theorem pur_non : pur .none = true := by rfl
@[simp] theorem pur_bool (b : Bool) : pur (.bool b) = true := by rfl
@[simp] theorem pur_int (b : Int) : pur (.int b) = true := by rfl
@[simp] theorem pur_str (b : Str) : pur (.str b) = true := by rfl
@[simp] theorem pur_tuple (b : List D) : pur (.tuple b) = purs b := by simp [pur]
@[simp] theorem pur_list (b : List D) : pur (.list b) = false := by simp [pur]
@[simp] theorem pur_frz (b : List D) : pur (.dict [(.none, .list b)]) = true := by simp [pur, frzT]
@[simp] theorem purs_nil : purs [] = true := by rfl
@[simp] theorem purs_cons (d : D) (b : List D) : purs (d :: b) = (pur d && purs b) := by simp [purs]
@[simp] theorem purs_ints (l : List Int) : purs (l.map .int) = true := by induction l <;> simp_all
@[simp] theorem purs_map {α : Type} (f : α → Int) (l : List α) : purs (l.map fun a => .int (f a)) = true := by induction l <;> simp_all
@[simp] theorem purs_mapB {α : Type} (f : α → Bool) (l : List α) : purs (l.map fun a => .bool (f a)) = true := by induction l <;> simp_all
@[simp] theorem purs_append (a b : List D) : purs (a ++ b) = (purs a && purs b) := purs_app
def oVK (i : Nat) (s : Sg) : Option D → Res Rf
  | some _ => .ok (.slot i) s
  | none => .bad
@[simp] theorem ev_oV (i : Nat) (s : Sg) : oV i s = oVK i s (s[i]?).join := by
  unfold oV oVK; rfl
@[simp] theorem ev_oVK (i : Nat) (s : Sg) (d : D) : oVK i s (some d) = .ok (.slot i) s := rfl
@[simp] theorem ev_oC (d : D) (s : Sg) : oC d s = .ok (.val d) s := rfl
@[simp] theorem ev_aNil (s : Sg) : aNil s = .ok [] s := rfl
def consK2 (r : Rf) (rs : List Rf) (s : Sg) : Res (List Rf) := .ok (r :: rs) s
def consK (h : AL) (r : Rf) (s : Sg) : Res (List Rf) := (h s).bind (consK2 r)
@[simp] theorem ev_aCons (g : O) (h : AL) (s : Sg) : aCons g h s = (g s).bind (consK h) := rfl
@[simp] theorem ev_consK (h : AL) (r : Rf) (s : Sg) : consK h r s = (h s).bind (consK2 r) := rfl
@[simp] theorem ev_consK2 (r : Rf) (rs : List Rf) (s : Sg) : consK2 r rs s = .ok (r :: rs) s := rfl
def primK3 (s : Sg) : Option D → Res Rf
  | none => .bad
  | some d => .ok (.val d) s
def primK2 (f : List D → Option D) (s : Sg) : Option (List D) → Res Rf
  | none => .bad
  | some ds => primK3 s (f ds)
def primK (f : List D → Option D) (rs : List Rf) (s : Sg) : Res Rf := primK2 f s (rds rs s)
@[simp] theorem ev_prim (f : List D → Option D) (g : AL) (s : Sg) : oPrim f g s = (g s).bind (primK f) := by
  unfold oPrim; refine congrArg (Res.bind _) ?_; funext rs s1; unfold primK primK2; cases rds rs s1 <;> rfl
@[simp] theorem ev_primK (f : List D → Option D) (rs : List Rf) (s : Sg) : primK f rs s = primK2 f s (rds rs s) := rfl
@[simp] theorem ev_primK2 (f : List D → Option D) (ds : List D) (s : Sg) : primK2 f s (some ds) = primK3 s (f ds) := rfl
@[simp] theorem ev_primK3 (d : D) (s : Sg) : primK3 s (some d) = .ok (.val d) s := rfl
@[simp] theorem ev_o1 (f : List D → Option D) (a : O) (s : Sg) : o1 f a s = ((a s).bind (consK aNil)).bind (primK f) := by unfold o1; rw [ev_prim]; rfl
@[simp] theorem ev_o2 (f : List D → Option D) (a b : O) (s : Sg) : o2 f a b s = ((a s).bind (consK (aCons b aNil))).bind (primK f) := by unfold o2; rw [ev_prim]; rfl
def tstK2 (s : Sg) : Option D → Res Bool
  | some (.bool b) => .ok b s
  | _ => .bad
def tstK (r : Rf) (s : Sg) : Res Bool := tstK2 s (rd r s)
@[simp] theorem ev_tst (g : O) (s : Sg) : tst g s = (g s).bind tstK := rfl
@[simp] theorem ev_tstK (r : Rf) (s : Sg) : tstK r s = tstK2 s (rd r s) := rfl
@[simp] theorem ev_tstK2 (s : Sg) (b : Bool) : tstK2 s (some (.bool b)) = .ok b s := rfl
def tstAK3 (s : Sg) : Option Bool → Res Bool
  | some b => .ok b s
  | none => .bad
def tstAK2 (s : Sg) : Option D → Res Bool
  | some d => tstAK3 s (truD d)
  | none => .bad
def tstAK (r : Rf) (s : Sg) : Res Bool := tstAK2 s (rd r s)
@[simp] theorem ev_tstA (g : O) (s : Sg) : tstA g s = (g s).bind tstAK := by
  unfold tstA; refine congrArg (Res.bind _) ?_; funext r s1; unfold tstAK tstAK2; cases rd r s1 with
  | none => rfl
  | some d => cases h : truD d <;> simp [h, tstAK3]
@[simp] theorem ev_tstAK (r : Rf) (s : Sg) : tstAK r s = tstAK2 s (rd r s) := rfl
@[simp] theorem ev_tstAK2 (s : Sg) (d : D) : tstAK2 s (some d) = tstAK3 s (truD d) := rfl
@[simp] theorem ev_tstAK3 (s : Sg) (b : Bool) : tstAK3 s (some b) = .ok b s := rfl
@[simp] theorem tru_bool (b : Bool) : truD (.bool b) = some b := rfl
@[simp] theorem tru_int (b : Int) : truD (.int b) = some (b != 0) := rfl
@[simp] theorem tru_list (b : List D) : truD (.list b) = some (!b.isEmpty) := rfl
@[simp] theorem tru_tuple (b : List D) : truD (.tuple b) = some (!b.isEmpty) := rfl
def andK2 (h : O) (s : Sg) : Option D → Res Rf
  | some (.bool true) => h s
  | some (.bool false) => .ok (.val (.bool false)) s
  | _ => .bad
def andK (h : O) (r : Rf) (s : Sg) : Res Rf := andK2 h s (rd r s)
@[simp] theorem ev_oAnd (g h : O) (s : Sg) : oAnd g h s = (g s).bind (andK h) := rfl
@[simp] theorem ev_andK (h : O) (r : Rf) (s : Sg) : andK h r s = andK2 h s (rd r s) := rfl
@[simp] theorem ev_andK2 (h : O) (s : Sg) (b : Bool) : andK2 h s (some (.bool b)) = if b = true then h s else .ok (.val (.bool false)) s := by cases b <;> rfl
def orK2 (h : O) (s : Sg) : Option D → Res Rf
  | some (.bool true) => .ok (.val (.bool true)) s
  | some (.bool false) => h s
  | _ => .bad
def orK (h : O) (r : Rf) (s : Sg) : Res Rf := orK2 h s (rd r s)
@[simp] theorem ev_oOr (g h : O) (s : Sg) : oOr g h s = (g s).bind (orK h) := rfl
@[simp] theorem ev_orK (h : O) (r : Rf) (s : Sg) : orK h r s = orK2 h s (rd r s) := rfl
@[simp] theorem ev_orK2 (h : O) (s : Sg) (b : Bool) : orK2 h s (some (.bool b)) = if b = true then .ok (.val (.bool true)) s else h s := by cases b <;> rfl
def notK2 (s : Sg) : Option D → Res Rf
  | some (.bool b) => .ok (.val (.bool (!b))) s
  | _ => .bad
def notK (r : Rf) (s : Sg) : Res Rf := notK2 s (rd r s)
@[simp] theorem ev_oNot (g : O) (s : Sg) : oNot g s = (g s).bind notK := rfl
@[simp] theorem ev_notK (r : Rf) (s : Sg) : notK r s = notK2 s (rd r s) := rfl
@[simp] theorem ev_notK2 (s : Sg) (b : Bool) : notK2 s (some (.bool b)) = .ok (.val (.bool (!b))) s := rfl
def tAndK (u : T) (b : Bool) (s : Sg) : Res Bool := if b = true then u s else .ok false s
@[simp] theorem ev_tAnd (t u : T) (s : Sg) : tAnd t u s = (t s).bind (tAndK u) := rfl
@[simp] theorem ev_tAndK (u : T) (b : Bool) (s : Sg) : tAndK u b s = if b = true then u s else .ok false s := rfl
def tOrK (u : T) (b : Bool) (s : Sg) : Res Bool := if b = true then .ok true s else u s
@[simp] theorem ev_tOr (t u : T) (s : Sg) : tOr t u s = (t s).bind (tOrK u) := rfl
@[simp] theorem ev_tOrK (u : T) (b : Bool) (s : Sg) : tOrK u b s = if b = true then .ok true s else u s := rfl
def tNotK (b : Bool) (s : Sg) : Res Bool := .ok (!b) s
@[simp] theorem ev_tNot (t : T) (s : Sg) : tNot t s = (t s).bind tNotK := rfl
@[simp] theorem ev_tNotK (b : Bool) (s : Sg) : tNotK b s = .ok (!b) s := rfl
def oIfK (a b : O) (k : Bool) (s : Sg) : Res Rf := if k = true then a s else b s
@[simp] theorem ev_oIf (c : T) (a b : O) (s : Sg) : oIf c a b s = (c s).bind (oIfK a b) := rfl
@[simp] theorem ev_oIfK (a b : O) (k : Bool) (s : Sg) : oIfK a b k s = if k = true then a s else b s := rfl
def chK4 (s : Sg) : Option D → Res Rf
  | none => .bad
  | some d => .ok (.val d) s
def chK3 (f' : List D → Option D) (s : Sg) : Option (List D) → Res Rf
  | none => .bad
  | some es => chK4 s (f' es)
def chK2c (f' : List D → Option D) (rb rc : Rf) (s : Sg) : Res Rf := chK3 f' s (rds [rb, rc] s)
def chK2b (f' : List D → Option D) (c : O) (rb : Rf) (s : Sg) : Option D → Res Rf
  | some (.bool true) => (c s).bind (chK2c f' rb)
  | some (.bool false) => .ok (.val (.bool false)) s
  | _ => .bad
def chK2a (f f' : List D → Option D) (c : O) (rb : Rf) (s : Sg) : Option (List D) → Res Rf
  | none => .bad
  | some ds => chK2b f' c rb s (f ds)
def chK1 (f f' : List D → Option D) (c : O) (ra rb : Rf) (s : Sg) : Res Rf := chK2a f f' c rb s (rds [ra, rb] s)
def chK0 (f f' : List D → Option D) (b c : O) (ra : Rf) (s : Sg) : Res Rf := (b s).bind (chK1 f f' c ra)
@[simp] theorem ev_chain (f f' : List D → Option D) (a b c : O) (s : Sg) : oChain f f' a b c s = (a s).bind (chK0 f f' b c) := by
  unfold oChain; refine congrArg (Res.bind _) ?_; funext ra s1; unfold chK0; refine congrArg (Res.bind _) ?_; funext rb s2; unfold chK1 chK2a
  cases rds [ra, rb] s2 with
  | none => rfl
  | some ds =>
    show _ = chK2b f' c rb s2 (f ds)
    unfold chK2b
    cases hf : f ds with
    | none => simp [hf]
    | some d => cases d with
      | bool b => cases b with
        | false => simp [hf]
        | true =>
          simp only [hf]
          refine congrArg (Res.bind _) ?_; funext rc s3; unfold chK2c chK3
          cases rds [rb, rc] s3 with
          | none => rfl
          | some es => cases hg : f' es <;> simp [hg, chK4]
      | _ => simp [hf]
@[simp] theorem ev_chK0 (f f' : List D → Option D) (b c : O) (ra : Rf) (s : Sg) : chK0 f f' b c ra s = (b s).bind (chK1 f f' c ra) := rfl
@[simp] theorem ev_chK1 (f f' : List D → Option D) (c : O) (ra rb : Rf) (s : Sg) : chK1 f f' c ra rb s = chK2a f f' c rb s (rds [ra, rb] s) := rfl
@[simp] theorem ev_chK2a (f f' : List D → Option D) (c : O) (rb : Rf) (s : Sg) (ds : List D) : chK2a f f' c rb s (some ds) = chK2b f' c rb s (f ds) := rfl
@[simp] theorem ev_chK2b (f' : List D → Option D) (c : O) (rb : Rf) (s : Sg) (b : Bool) : chK2b f' c rb s (some (.bool b)) = if b = true then (c s).bind (chK2c f' rb) else .ok (.val (.bool false)) s := by cases b <;> rfl
@[simp] theorem ev_chK2c (f' : List D → Option D) (rb rc : Rf) (s : Sg) : chK2c f' rb rc s = chK3 f' s (rds [rb, rc] s) := rfl
@[simp] theorem ev_chK3 (f' : List D → Option D) (s : Sg) (ds : List D) : chK3 f' s (some ds) = chK4 s (f' ds) := rfl
@[simp] theorem ev_chK4 (s : Sg) (d : D) : chK4 s (some d) = .ok (.val d) s := rfl
def tupK2 (s : Sg) : Option (List D) → Res Rf
  | none => .bad
  | some ds => if ds.length ≤ 1000000 then .ok (.val (.tuple ds)) s else .bad
def tupK (rs : List Rf) (s : Sg) : Res Rf := tupK2 s (owns rs s)
@[simp] theorem ev_oTup (g : AL) (s : Sg) : oTup g s = (g s).bind tupK := rfl
@[simp] theorem ev_tupK (rs : List Rf) (s : Sg) : tupK rs s = tupK2 s (owns rs s) := rfl
@[simp] theorem ev_tupK2 (s : Sg) (ds : List D) : tupK2 s (some ds) = if ds.length ≤ 1000000 then .ok (.val (.tuple ds)) s else .bad := rfl
def lstK2 (s : Sg) : Option (List D) → Res Rf
  | none => .bad
  | some ds => if ds.length ≤ 1000000 then .ok (.val (.list ds)) s else .bad
def lstK (rs : List Rf) (s : Sg) : Res Rf := lstK2 s (owns rs s)
@[simp] theorem ev_oLst (g : AL) (s : Sg) : oLst g s = (g s).bind lstK := rfl
@[simp] theorem ev_lstK (rs : List Rf) (s : Sg) : lstK rs s = lstK2 s (owns rs s) := rfl
@[simp] theorem ev_lstK2 (s : Sg) (ds : List D) : lstK2 s (some ds) = if ds.length ≤ 1000000 then .ok (.val (.list ds)) s else .bad := rfl
def prtK2 (s : Sg) : Option D → Res (Option Int)
  | some (.int i) => .ok (some i) s
  | _ => .bad
def prtK (r : Rf) (s : Sg) : Res (Option Int) := prtK2 s (rd r s)
@[simp] theorem ev_prt_none (s : Sg) : prt none s = .ok none s := rfl
@[simp] theorem ev_prt_some (g : O) (s : Sg) : prt (some g) s = (g s).bind prtK := rfl
@[simp] theorem ev_prtK (r : Rf) (s : Sg) : prtK r s = prtK2 s (rd r s) := rfl
@[simp] theorem ev_prtK2 (s : Sg) (i : Int) : prtK2 s (some (.int i)) = .ok (some i) s := rfl
def slK5 (s : Sg) : Option D → Res Rf
  | none => .bad
  | some d => .ok (.val d) s
def slK4 (l u : Option Int) (s : Sg) : Option D → Res Rf
  | none => .bad
  | some d => slK5 s (slD d l u)
def slK3 (r : Rf) (l u : Option Int) (s : Sg) : Res Rf := slK4 l u s (rd r s)
def slK2 (hi : Option O) (r : Rf) (l : Option Int) (s : Sg) : Res Rf := (prt hi s).bind (slK3 r l)
def slK1 (lo hi : Option O) (r : Rf) (s : Sg) : Res Rf := (prt lo s).bind (slK2 hi r)
@[simp] theorem ev_oSl (g : O) (lo hi : Option O) (s : Sg) : oSl g lo hi s = (g s).bind (slK1 lo hi) := by
  unfold oSl; refine congrArg (Res.bind _) ?_; funext r s1; unfold slK1; refine congrArg (Res.bind _) ?_; funext l s2; unfold slK2; refine congrArg (Res.bind _) ?_; funext u s3; unfold slK3 slK4
  cases rd r s3 with
  | none => rfl
  | some d => cases h : slD d l u <;> simp [h, slK5]
@[simp] theorem ev_slK1 (lo hi : Option O) (r : Rf) (s : Sg) : slK1 lo hi r s = (prt lo s).bind (slK2 hi r) := rfl
@[simp] theorem ev_slK2 (hi : Option O) (r : Rf) (l : Option Int) (s : Sg) : slK2 hi r l s = (prt hi s).bind (slK3 r l) := rfl
@[simp] theorem ev_slK3 (r : Rf) (l u : Option Int) (s : Sg) : slK3 r l u s = slK4 l u s (rd r s) := rfl
@[simp] theorem ev_slK4 (d : D) (l u : Option Int) (s : Sg) : slK4 l u s (some d) = slK5 s (slD d l u) := rfl
@[simp] theorem ev_slK5 (d : D) (s : Sg) : slK5 s (some d) = .ok (.val d) s := rfl
def callK3 (rs : List Rf) (ds : List D) (s : Sg) : FRes → Res Rf
  | .ok r as => .ok (.val r) (unlockS (lkz rs ds as) (lockS (lks rs ds) s))
  | .exc c v => .exc c v s
  | .bad => .bad
def callK2 (f : Fn) (rs : List Rf) (s : Sg) : Option (List D) → Res Rf
  | none => .bad
  | some ds => if nodupB ((lks rs ds).map (·.1)) = true then callK3 rs ds s (f ds) else .bad
def callK (f : Fn) (rs : List Rf) (s : Sg) : Res Rf := callK2 f rs s (rds rs s)
@[simp] theorem ev_oCall (f : Fn) (g : AL) (s : Sg) : oCall f g s = (g s).bind (callK f) := by
  unfold oCall; refine congrArg (Res.bind _) ?_; funext rs s1; unfold callK callK2
  cases rds rs s1 with
  | none => rfl
  | some ds =>
    simp only
    split
    · cases h : f ds <;> simp [h, callK3]
    · rfl
@[simp] theorem ev_callK (f : Fn) (rs : List Rf) (s : Sg) : callK f rs s = callK2 f rs s (rds rs s) := rfl
@[simp] theorem ev_callK2 (f : Fn) (rs : List Rf) (s : Sg) (ds : List D) : callK2 f rs s (some ds) = if nodupB ((lks rs ds).map (·.1)) = true then callK3 rs ds s (f ds) else .bad := rfl
@[simp] theorem ev_callK3 (rs : List Rf) (ds : List D) (s : Sg) (r : D) (as : List D) : callK3 rs ds s (.ok r as) = .ok (.val r) (unlockS (lkz rs ds as) (lockS (lks rs ds) s)) := rfl
@[simp] theorem lks_nil : lks [] [] = [] := rfl
@[simp] theorem lks_slot (i : Nat) (rs : List Rf) (d : D) (ds : List D) : lks (.slot i :: rs) (d :: ds) = if pur d = true then lks rs ds else (i, d) :: lks rs ds := rfl
@[simp] theorem lks_val (x : D) (rs : List Rf) (d : D) (ds : List D) : lks (.val x :: rs) (d :: ds) = lks rs ds := rfl
@[simp] theorem lkz_nil : lkz [] [] [] = [] := rfl
@[simp] theorem lkz_slot (i : Nat) (rs : List Rf) (d : D) (ds : List D) (a : D) (as : List D) : lkz (.slot i :: rs) (d :: ds) (a :: as) = if pur d = true then lkz rs ds as else (i, a) :: lkz rs ds as := rfl
@[simp] theorem lkz_val (x : D) (rs : List Rf) (d : D) (ds : List D) (a : D) (as : List D) : lkz (.val x :: rs) (d :: ds) (a :: as) = lkz rs ds as := rfl
@[simp] theorem lockS_nil (s : Sg) : lockS [] s = s := rfl
@[simp] theorem lockS_cons (p : Nat × D) (l : List (Nat × D)) (s : Sg) : lockS (p :: l) s = lockS l (s.set p.1 none) := rfl
@[simp] theorem unlockS_nil (s : Sg) : unlockS [] s = s := rfl
@[simp] theorem unlockS_cons (p : Nat × D) (l : List (Nat × D)) (s : Sg) : unlockS (p :: l) s = unlockS l (s.set p.1 (some p.2)) := rfl
@[simp] theorem nodupB_nil : nodupB [] = true := rfl
@[simp] theorem ev_nodupB (x : Nat) (l : List Nat) : nodupB (x :: l) = (!l.contains x && nodupB l) := rfl
@[simp] theorem clrS_nil (s : Sg) : clrS [] s = s := rfl
@[simp] theorem clrS_cons (v : Nat) (vs : List Nat) (s : Sg) : clrS (v :: vs) s = (clrS vs s).set v none := rfl
def ownSlK (v : Nat) (l : List (Nat × D)) : Option D → List (Nat × D)
  | some d => (v, d) :: l
  | none => l
@[simp] theorem ownSl_nil (s : Sg) : ownSl [] s = [] := rfl
@[simp] theorem ownSl_cons (v : Nat) (vs : List Nat) (s : Sg) : ownSl (v :: vs) s = ownSlK v (ownSl vs s) (s[v]?).join := by
  unfold ownSlK; rw [ownSl] <;> try (cases (s[v]?).join <;> rfl)
@[simp] theorem ownSlK_some (v : Nat) (l : List (Nat × D)) (d : D) : ownSlK v l (some d) = (v, d) :: l := rfl
@[simp] theorem ownSlK_none (v : Nat) (l : List (Nat × D)) : ownSlK v l none = l := rfl
def mtK4 (i : Nat) (s : Sg) : Option (List D × D) → Res Rf
  | some (ds', d) => if pur d = true then .ok (.val d) (s.set i (some (.list ds'))) else .bad
  | none => .bad
def mtK3 (f : List D → List D → Option (List D × D)) (i : Nat) (s : Sg) : Option D → Option (List D) → Res Rf
  | some (.list ds), some as => mtK4 i s (f ds as)
  | _, _ => .bad
def mtK2 (f : List D → List D → Option (List D × D)) (i : Nat) (rs : List Rf) (s : Sg) : Res Rf := mtK3 f i s (s[i]?).join (owns rs s)
def mtK1 (f : List D → List D → Option (List D × D)) (i : Nat) (g : AL) (s : Sg) : Option D → Res Rf
  | some (.list _) => (g s).bind (mtK2 f i)
  | _ => .bad
def mtK (f : List D → List D → Option (List D × D)) (i : Nat) (g : AL) (_ : Rf) (s : Sg) : Res Rf := mtK1 f i g s (s[i]?).join
@[simp] theorem ev_oMt (f : List D → List D → Option (List D × D)) (i : Nat) (g : AL) (s : Sg) : oMt f i g s = (oV i s).bind (mtK f i g) := by
  unfold oMt; refine congrArg (Res.bind _) ?_; funext r s1; unfold mtK
  cases h : (s1[i]?).join with
  | none => rfl
  | some d => cases d with
    | list ds =>
      refine congrArg (Res.bind (g s1)) ?_
      funext rs s2; unfold mtK2
      cases h1 : (s2[i]?).join with
      | none => rfl
      | some d2 => cases d2 with
        | list ds2 => cases h2 : owns rs s2 with
          | none => rfl
          | some as => cases hf : f ds2 as <;> simp [hf, mtK3, mtK4]
        | _ => rfl
    | _ => rfl
@[simp] theorem ev_mtK (f : List D → List D → Option (List D × D)) (i : Nat) (g : AL) (r : Rf) (s : Sg) : mtK f i g r s = mtK1 f i g s (s[i]?).join := rfl
@[simp] theorem ev_mtK1 (f : List D → List D → Option (List D × D)) (i : Nat) (g : AL) (ds : List D) (s : Sg) : mtK1 f i g s (some (.list ds)) = (g s).bind (mtK2 f i) := rfl
@[simp] theorem ev_mtK2 (f : List D → List D → Option (List D × D)) (i : Nat) (rs : List Rf) (s : Sg) : mtK2 f i rs s = mtK3 f i s (s[i]?).join (owns rs s) := rfl
@[simp] theorem ev_mtK3 (f : List D → List D → Option (List D × D)) (i : Nat) (s : Sg) (ds as : List D) : mtK3 f i s (some (.list ds)) (some as) = mtK4 i s (f ds as) := rfl
@[simp] theorem ev_mtK4 (i : Nat) (s : Sg) (ds : List D) (d : D) : mtK4 i s (some (ds, d)) = if pur d = true then .ok (.val d) (s.set i (some (.list ds))) else .bad := rfl
@[simp] theorem ev_sSkip (s : Sg) : sSkip s = .ok .nx s := rfl
@[simp] theorem ev_sBreak (s : Sg) : sBreak s = .ok .bk s := rfl
@[simp] theorem ev_sCont (s : Sg) : sCont s = .ok .ct s := rfl
@[simp] theorem ev_sRetN (s : Sg) : sRetN s = .ok (.rt .none) s := rfl
def seqK (h : S) (fl : Fl) (s : Sg) : Res Fl := match fl with
  | .nx => h s
  | fl => .ok fl s
@[simp] theorem ev_sSeq (g h : S) (s : Sg) : sSeq g h s = (g s).bind (seqK h) := rfl
@[simp] theorem ev_seqK_nx (h : S) (s : Sg) : seqK h .nx s = h s := rfl
@[simp] theorem ev_seqK_rt (h : S) (d : D) (s : Sg) : seqK h (.rt d) s = .ok (.rt d) s := rfl
@[simp] theorem ev_seqK_bk (h : S) (s : Sg) : seqK h .bk s = .ok .bk s := rfl
@[simp] theorem ev_seqK_ct (h : S) (s : Sg) : seqK h .ct s = .ok .ct s := rfl
def exprK (_ : Rf) (s : Sg) : Res Fl := .ok .nx s
@[simp] theorem ev_sExpr (g : O) (s : Sg) : sExpr g s = (g s).bind exprK := rfl
@[simp] theorem ev_exprK (r : Rf) (s : Sg) : exprK r s = .ok .nx s := rfl
def retK2 (lk : Nat → Bool) (i : Nat) (s : Sg) : Option D → Res Fl
  | none => .bad
  | some d => if pur d = true ∨ lk i = false then .ok (.rt d) s else .bad
def retK (lk : Nat → Bool) (r : Rf) (s : Sg) : Res Fl := match r with
  | .val d => .ok (.rt d) s
  | .slot i => retK2 lk i s (s[i]?).join
@[simp] theorem ev_sRet (lk : Nat → Bool) (g : O) (s : Sg) : sRet lk g s = (g s).bind (retK lk) := by
  unfold sRet; refine congrArg (Res.bind _) ?_; funext r s1; cases r <;> rfl
@[simp] theorem ev_retK_val (lk : Nat → Bool) (d : D) (s : Sg) : retK lk (.val d) s = .ok (.rt d) s := rfl
@[simp] theorem ev_retK_slot (lk : Nat → Bool) (i : Nat) (s : Sg) : retK lk (.slot i) s = retK2 lk i s (s[i]?).join := rfl
@[simp] theorem ev_retK2 (lk : Nat → Bool) (i : Nat) (s : Sg) (d : D) : retK2 lk i s (some d) = if pur d = true ∨ lk i = false then .ok (.rt d) s else .bad := rfl
def ifK (g h : S) (b : Bool) (s : Sg) : Res Fl := if b = true then g s else h s
@[simp] theorem ev_sIf (t : T) (g h : S) (s : Sg) : sIf t g h s = (t s).bind (ifK g h) := rfl
@[simp] theorem ev_ifK (g h : S) (b : Bool) (s : Sg) : ifK g h b s = if b = true then g s else h s := rfl
def asgK3 : Option Sg → Res Fl
  | none => .bad
  | some s => .ok .nx s
def asgK2 (t : Tg) (s : Sg) : Option D → Res Fl
  | none => .bad
  | some d => asgK3 (asg t d s)
def asgK (t : Tg) (r : Rf) (s : Sg) : Res Fl := asgK2 t s (own r s)
@[simp] theorem ev_sAsg (t : Tg) (g : O) (s : Sg) : sAsg t g s = (g s).bind (asgK t) := by
  unfold sAsg; refine congrArg (Res.bind _) ?_; funext r s1; unfold asgK asgK2
  cases own r s1 with
  | none => rfl
  | some d => cases h : asg t d s1 <;> simp [h, asgK3]
@[simp] theorem ev_sSet (i : Nat) (g : O) (s : Sg) : sSet i g s = (g s).bind (asgK (.nm i)) := ev_sAsg _ _ _
@[simp] theorem ev_asgK (t : Tg) (r : Rf) (s : Sg) : asgK t r s = asgK2 t s (own r s) := rfl
@[simp] theorem ev_asgK2 (t : Tg) (d : D) (s : Sg) : asgK2 t s (some d) = asgK3 (asg t d s) := rfl
@[simp] theorem ev_asgK3 (s : Sg) : asgK3 (some s) = .ok .nx s := rfl
@[simp] theorem asg_nm (i : Nat) (d : D) (s : Sg) : asg (.nm i) d s = some (s.set i (some d)) := by simp [asg]
@[simp] theorem asg_tp (l : List Tg) (ds : List D) (s : Sg) : asg (.tp l) (.tuple ds) s = asgs l ds s := by simp [asg]
@[simp] theorem asgs_nil (s : Sg) : asgs [] [] s = some s := by simp [asgs]
def asgsK (l : List Tg) (ds : List D) : Option Sg → Option Sg
  | none => none
  | some s => asgs l ds s
@[simp] theorem asgs_cons (t : Tg) (l : List Tg) (d : D) (ds : List D) (s : Sg) : asgs (t :: l) (d :: ds) s = asgsK l ds (asg t d s) := by
  rw [asgs]; unfold asgsK; cases asg t d s <;> rfl
@[simp] theorem asgsK_some (l : List Tg) (ds : List D) (s : Sg) : asgsK l ds (some s) = asgs l ds s := rfl
def ixK4 (i : Nat) (d : D) (ds : List D) (s : Sg) : Option Nat → Res Fl
  | none => .bad
  | some j => .ok .nx (s.set i (some (.list (ds.set j d))))
def ixK3 (i : Nat) (s : Sg) : Option D → Option D → Option D → Res Fl
  | some d, some (.int k), some (.list ds) => if pur d = true then ixK4 i d ds s (ixN ds.length k) else .bad
  | _, _, _ => .bad
def ixK2 (i : Nat) (r : Rf) (ri : Rf) (s : Sg) : Res Fl := ixK3 i s (own r s) (rd ri s) (s[i]?).join
def ixK1 (i : Nat) (gi : O) (r : Rf) (_ : Rf) (s : Sg) : Res Fl := (gi s).bind (ixK2 i r)
def ixK (i : Nat) (gi : O) (r : Rf) (s : Sg) : Res Fl := (oV i s).bind (ixK1 i gi r)
@[simp] theorem ev_sSetIx (i : Nat) (gi g : O) (s : Sg) : sSetIx i gi g s = (g s).bind (ixK i gi) := by
  unfold sSetIx; refine congrArg (Res.bind _) ?_; funext r s1; unfold ixK; refine congrArg (Res.bind _) ?_; funext r2 s2; unfold ixK1; refine congrArg (Res.bind _) ?_; funext ri s3; unfold ixK2
  cases h1 : own r s3 with
  | none => rfl
  | some d => cases h2 : rd ri s3 with
    | none => rfl
    | some k => cases k with
      | int k => cases h3 : (s3[i]?).join with
        | none => rfl
        | some ds => cases ds with
          | list ds => cases h4 : ixN ds.length k <;> simp [h4, ixK3, ixK4]
          | _ => rfl
      | _ => rfl
@[simp] theorem ev_ixK (i : Nat) (gi : O) (r : Rf) (s : Sg) : ixK i gi r s = (oV i s).bind (ixK1 i gi r) := rfl
@[simp] theorem ev_ixK1 (i : Nat) (gi : O) (r r2 : Rf) (s : Sg) : ixK1 i gi r r2 s = (gi s).bind (ixK2 i r) := rfl
@[simp] theorem ev_ixK2 (i : Nat) (r ri : Rf) (s : Sg) : ixK2 i r ri s = ixK3 i s (own r s) (rd ri s) (s[i]?).join := rfl
@[simp] theorem ev_ixK3 (i : Nat) (s : Sg) (d : D) (k : Int) (ds : List D) : ixK3 i s (some d) (some (.int k)) (some (.list ds)) = if pur d = true then ixK4 i d ds s (ixN ds.length k) else .bad := rfl
@[simp] theorem ev_ixK4 (i : Nat) (s : Sg) (d : D) (j : Nat) (ds : List D) : ixK4 i d ds s (some j) = .ok .nx (s.set i (some (.list (ds.set j d)))) := rfl
def mkK2 (fl : Fl) : Option (List D) → FRes
  | none => .bad
  | some as => match fl with
    | .nx => .ok .none as
    | .rt d => .ok d as
    | _ => .bad
def mkK (ms : List Nat) (ds : List D) : Res Fl → FRes
  | .ok fl s => mkK2 fl (coll ms ds 0 s)
  | .exc c v _ => .exc c v
  | .bad => .bad
theorem ev_mkFn (ms : List Nat) (n : Nat) (g : S) (ds : List D) : mkFn ms n g ds = if okM ms ds = true then mkK ms ds (g (ds.map some ++ List.replicate (n - ds.length) none)) else .bad := by
  unfold mkFn
  split
  · unfold mkK
    cases g (ds.map some ++ List.replicate (n - ds.length) none) with
    | ok fl s =>
      simp only
      cases h : coll ms ds 0 s with
      | none => simp [h, mkK2]
      | some as => cases fl <;> simp [h, mkK2]
    | exc c v s => rfl
    | bad => rfl
  · rfl
@[simp] theorem ev_mkK (ms : List Nat) (ds : List D) (fl : Fl) (s : Sg) : mkK ms ds (.ok fl s) = mkK2 fl (coll ms ds 0 s) := rfl
@[simp] theorem ev_mkK2_rt (d : D) (as : List D) : mkK2 (.rt d) (some as) = .ok d as := rfl
@[simp] theorem ev_mkK2_nx (as : List D) : mkK2 .nx (some as) = .ok .none as := rfl
@[simp] theorem coll_nil (j : Nat) (s : Sg) : coll [] [] j s = some [] := rfl
def collK0 (a : Option D) (b : Option (List D)) : Option (List D) := match b with
  | none => none
  | some as => match a with
    | none => none
    | some d' => some (d' :: as)
@[simp] theorem coll_0 (ms : List Nat) (d : D) (ds : List D) (j : Nat) (s : Sg) : coll (0 :: ms) (d :: ds) j s = collK0 (s[j]?).join (coll ms ds (j + 1) s) := by
  rw [coll]; unfold collK0; cases coll ms ds (j + 1) s <;> rfl
@[simp] theorem coll_1 (ms : List Nat) (d : D) (ds : List D) (j : Nat) (s : Sg) : coll (1 :: ms) (d :: ds) j s = collK0 (some d) (coll ms ds (j + 1) s) := by
  rw [coll]; unfold collK0; cases coll ms ds (j + 1) s <;> rfl
@[simp] theorem collK0_some (d : D) (as : List D) : collK0 (some d) (some as) = some (d :: as) := rfl
@[simp] theorem okM_nil : okM [] [] = true := rfl
@[simp] theorem okM_cons (m : Nat) (ms : List Nat) (d : D) (ds : List D) : okM (m :: ms) (d :: ds) = ((m == 0 || pur d) && okM ms ds) := rfl
def mkIK3 (rs : List Rf) (ds : List D) (s : Sg) : Option (List D) → Res (List D × List (Nat × D))
  | none => .bad
  | some es => if purs es = true ∧ nodupB ((lks rs ds).map (·.1)) = true then .ok (es, lks rs ds) (lockS (lks rs ds) s) else .bad
def mkIK2 (itm : List D → Option (List D)) (rs : List Rf) (s : Sg) : Option (List D) → Res (List D × List (Nat × D))
  | none => .bad
  | some ds => mkIK3 rs ds s (itm ds)
def mkIK (itm : List D → Option (List D)) (rs : List Rf) (s : Sg) : Res (List D × List (Nat × D)) := mkIK2 itm rs s (rds rs s)
@[simp] theorem ev_mkI (itm : List D → Option (List D)) (g : AL) (s : Sg) : mkI itm g s = (g s).bind (mkIK itm) := by
  unfold mkI; refine congrArg (Res.bind _) ?_; funext rs s1; unfold mkIK mkIK2
  cases rds rs s1 with
  | none => rfl
  | some ds => cases h : itm ds <;> simp [h, mkIK3]
@[simp] theorem ev_mkIK (itm : List D → Option (List D)) (rs : List Rf) (s : Sg) : mkIK itm rs s = mkIK2 itm rs s (rds rs s) := rfl
@[simp] theorem ev_mkIK2 (itm : List D → Option (List D)) (rs : List Rf) (s : Sg) (ds : List D) : mkIK2 itm rs s (some ds) = mkIK3 rs ds s (itm ds) := rfl
@[simp] theorem ev_mkIK3 (rs : List Rf) (ds : List D) (s : Sg) (es : List D) : mkIK3 rs ds s (some es) = if purs es = true ∧ nodupB ((lks rs ds).map (·.1)) = true then .ok (es, lks rs ds) (lockS (lks rs ds) s) else .bad := rfl
def forK2 (l : List (Nat × D)) (fl : Fl) (s : Sg) : Res Fl := .ok fl (unlockS l s)
def forK (lk : Nat → Bool) (t : Tg) (g : S) (p : List D × List (Nat × D)) (s : Sg) : Res Fl := if (p.2.all fun q => lk q.1) = true then (loopS t g p.1 s).bind (forK2 p.2) else .bad
@[simp] theorem ev_sFor (lk : Nat → Bool) (it : I) (t : Tg) (g : S) (s : Sg) : sFor lk it t g s = (it s).bind (forK lk t g) := rfl
@[simp] theorem ev_forK (lk : Nat → Bool) (t : Tg) (g : S) (es : List D) (l : List (Nat × D)) (s : Sg) : forK lk t g (es, l) s = if (l.all fun q => lk q.1) = true then (loopS t g es s).bind (forK2 l) else .bad := rfl
@[simp] theorem ev_forK2 (l : List (Nat × D)) (fl : Fl) (s : Sg) : forK2 l fl s = .ok fl (unlockS l s) := rfl
def compK2 (l : List (Nat × D)) (acc : List D) (s : Sg) : Res Rf := .ok (.val (.list acc)) (unlockS l s)
def compK (t : Tg) (c : T) (e : O) (vs : List Nat) (p : List D × List (Nat × D)) (s : Sg) : Res Rf :=
  if nodupB ((ownSl vs s).map (·.1)) = true then (compL t c e vs p.1 [] (clrS vs (lockS (ownSl vs s) s))).bind (compK2 (ownSl vs s ++ p.2)) else .bad
@[simp] theorem ev_oComp (it : I) (t : Tg) (c : T) (e : O) (vs : List Nat) (s : Sg) : oComp it t c e vs s = (it s).bind (compK t c e vs) := rfl
@[simp] theorem ev_compK (t : Tg) (c : T) (e : O) (vs : List Nat) (es : List D) (l : List (Nat × D)) (s : Sg) : compK t c e vs (es, l) s =
  if nodupB ((ownSl vs s).map (·.1)) = true then (compL t c e vs es [] (clrS vs (lockS (ownSl vs s) s))).bind (compK2 (ownSl vs s ++ l)) else .bad := rfl
@[simp] theorem ev_compK2 (l : List (Nat × D)) (acc : List D) (s : Sg) : compK2 l acc s = .ok (.val (.list acc)) (unlockS l s) := rfl
@[simp] theorem ev_tYes (s : Sg) : tYesT s = .ok true s := rfl
@[simp] theorem ev_add (a b : Int) : pAdd [.int a, .int b] = some (.int (a + b)) := rfl
@[simp] theorem ev_addL (a b : List D) : pAdd [.list a, .list b] = if a.length + b.length ≤ 1000000 ∧ purs a = true ∧ purs b = true then some (.list (a ++ b)) else none := rfl
@[simp] theorem ev_addT (a b : List D) : pAdd [.tuple a, .tuple b] = if a.length + b.length ≤ 1000000 ∧ purs a = true ∧ purs b = true then some (.tuple (a ++ b)) else none := rfl
@[simp] theorem ev_sub (a b : Int) : pSub [.int a, .int b] = some (.int (a - b)) := rfl
@[simp] theorem ev_mul (a b : Int) : pMul [.int a, .int b] = if mulOk a b = true then some (.int (a * b)) else none := rfl
@[simp] theorem ev_div (a b : Int) : pDiv [.int a, .int b] = if 0 < b ∧ b.natAbs.log2 < 9000 then some (.int (a / b)) else none := rfl
@[simp] theorem ev_mod (a b : Int) : pMod [.int a, .int b] = if 0 < b then some (.int (a % b)) else none := rfl
@[simp] theorem ev_pow (a b : Int) : pPow [.int a, .int b] = if 0 ≤ b ∧ b ≤ 1000000 ∧ a.natAbs < 2 ^ 64 then some (.int (a ^ b.toNat)) else none := rfl
@[simp] theorem ev_shl (a b : Int) : pShl [.int a, .int b] = if 0 ≤ b ∧ b ≤ 1000000 ∧ a.natAbs < 2 ^ 64 then some (.int (a * 2 ^ b.toNat)) else none := rfl
@[simp] theorem ev_neg (a : Int) : pNeg [.int a] = some (.int (-a)) := rfl
@[simp] theorem ev_lt (a b : Int) : pLt [.int a, .int b] = some (.bool (decide (a < b))) := rfl
@[simp] theorem ev_le (a b : Int) : pLe [.int a, .int b] = some (.bool (decide (a ≤ b))) := rfl
@[simp] theorem ev_gt (a b : Int) : pGt [.int a, .int b] = some (.bool (decide (b < a))) := rfl
@[simp] theorem ev_ge (a b : Int) : pGe [.int a, .int b] = some (.bool (decide (b ≤ a))) := rfl
@[simp] theorem ev_eq (a b : D) : pEq [a, b] = if shp a = true ∧ shp b = true then some (.bool (PyData.eqv a b)) else none := rfl
@[simp] theorem ev_ne (a b : D) : pNe [a, b] = if shp a = true ∧ shp b = true then some (.bool (!PyData.eqv a b)) else none := rfl
@[simp] theorem ev_isB (a b : Bool) : pIsN [.bool a, .bool b] = some (.bool (decide (a = b))) := rfl
@[simp] theorem ev_notB (a b : Bool) : pNotN [.bool a, .bool b] = some (.bool (!decide (a = b))) := rfl
@[simp] theorem ev_isN (a : D) : pIsN [a, .none] = some (.bool (isN a)) := rfl
@[simp] theorem ev_notN (a : D) : pNotN [a, .none] = some (.bool (!isN a)) := rfl
@[simp] theorem ev_inT (a : D) (b : List D) : pIn [a, .tuple b] = if pIn.fl a = true ∧ b.all pIn.fl = true then some (.bool (b.any fun z => PyData.eqv z a)) else none := by cases a <;> rfl
@[simp] theorem ev_ixL (ds : List D) (i : Int) : pIx [.list ds, .int i] = puO (atI ds i) := rfl
@[simp] theorem ev_ixT (ds : List D) (i : Int) : pIx [.tuple ds, .int i] = puO (atI ds i) := rfl
@[simp] theorem ev_ixF (ds : List D) (i : Int) : pIx [.dict [(.none, .list ds)], .int i] = puO (atI ds i) := rfl
@[simp] theorem ev_puO (d : D) : puO (some d) = if pur d = true then some d else none := rfl
@[simp] theorem ev_slL (ds : List D) (l u : Option Int) : slD (.list ds) l u = if purs ds = true then some (.list (cutL ds l u)) else none := rfl
@[simp] theorem ev_slT (ds : List D) (l u : Option Int) : slD (.tuple ds) l u = if purs ds = true then some (.tuple (cutL ds l u)) else none := rfl
@[simp] theorem ev_slF (ds : List D) (l u : Option Int) : slD (.dict [(.none, .list ds)]) l u = some (.list (cutL ds l u)) := rfl
@[simp] theorem ev_lenL (ds : List D) : pLen [.list ds] = some (.int ds.length) := rfl
@[simp] theorem ev_lenT (ds : List D) : pLen [.tuple ds] = some (.int ds.length) := rfl
@[simp] theorem ev_lenF (ds : List D) : pLen [.dict [(.none, .list ds)]] = some (.int ds.length) := rfl
@[simp] theorem ev_abs (i : Int) : pAbs [.int i] = some (.int (if i < 0 then -i else i)) := rfl
@[simp] theorem ev_intI (i : Int) : pInt [.int i] = some (.int i) := rfl
@[simp] theorem ev_intB (k : Bool) : pInt [.bool k] = some (.int (if k then 1 else 0)) := rfl
@[simp] theorem ev_max2 (i j : Int) : pMax2 [.int i, .int j] = some (.int (max i j)) := rfl
@[simp] theorem ev_min2 (i j : Int) : pMin2 [.int i, .int j] = some (.int (min i j)) := rfl
@[simp] theorem ev_tupL (ds : List D) : pTuple [.list ds] = if purs ds = true then some (.tuple ds) else none := rfl
@[simp] theorem ev_tupT (ds : List D) : pTuple [.tuple ds] = if purs ds = true then some (.tuple ds) else none := rfl
@[simp] theorem ev_lstL (ds : List D) : pList [.list ds] = if purs ds = true then some (.list ds) else none := rfl
@[simp] theorem ev_lstT (ds : List D) : pList [.tuple ds] = if purs ds = true then some (.list ds) else none := rfl
@[simp] theorem ev_divmod (i j : Int) : pDivmod [.int i, .int j] = if 0 < j ∧ j < 1000000 then some (.tuple [.int (i / j), .int (i % j)]) else none := rfl
@[simp] theorem bools_map {α : Type} (f : α → Bool) (l : List α) : bools (l.map fun a => .bool (f a)) = some (l.map f) := by
  induction l with
  | nil => rfl
  | cons a l ih => simp [bools, ih]
@[simp] theorem intsD_map {α : Type} (f : α → Int) (l : List α) : intsD (l.map fun a => .int (f a)) = some (l.map f) := by
  induction l with
  | nil => rfl
  | cons a l ih => simp [intsD, ih]
@[simp] theorem intsD_int (l : List Int) : intsD (l.map .int) = some l := by
  induction l with
  | nil => rfl
  | cons a l ih => simp [intsD, ih]
@[simp] theorem ev_all (ds : List D) : pAll [.list ds] = (bools ds).map fun bs => .bool (bs.all id) := rfl
@[simp] theorem ev_any (ds : List D) : pAny [.list ds] = (bools ds).map fun bs => .bool (bs.any id) := rfl
@[simp] theorem ev_sumL (ds : List D) : pSum [.list ds] = (intsD ds).map fun ns => .int ns.sum := rfl
@[simp] theorem ev_sumT (ds : List D) : pSum [.tuple ds] = (intsD ds).map fun ns => .int ns.sum := rfl
theorem ev_max1T (ds : List D) (ns : List Int) (h : intsD ds = some ns) (h2 : ns ≠ []) : pMax1 [.tuple ds] = some (.int (maxL ns)) := by
  unfold pMax1 intsOf seqOf; simp only [h]; cases ns with
  | nil => exact absurd rfl h2
  | cons a l => rfl
@[simp] theorem ev_itPL (ds : List D) : itP [.list ds] = some ds := rfl
@[simp] theorem ev_itPT (ds : List D) : itP [.tuple ds] = some ds := rfl
@[simp] theorem ev_itPF (ds : List D) : itP [.dict [(.none, .list ds)]] = some ds := rfl
@[simp] theorem ev_itEL (ds : List D) : itE [.list ds] = some (enumD 0 ds) := rfl
@[simp] theorem ev_itET (ds : List D) : itE [.tuple ds] = some (enumD 0 ds) := rfl
@[simp] theorem ev_itEF (ds : List D) : itE [.dict [(.none, .list ds)]] = some (enumD 0 ds) := rfl
@[simp] theorem purs_enumD (n : Nat) (ds : List D) : purs (enumD n ds) = purs ds := enumD_purs n ds
@[simp] theorem purs_rngD (lo : Int) (n : Nat) : purs (rngD lo n) = true := by unfold rngD; exact purs_map _ _
@[simp] theorem ev_itR1 (j : Int) : itR1 [.int j] = if -1000000 < j ∧ j < 1000000 then some (rngD 0 j.toNat) else none := rfl
@[simp] theorem ev_itR2 (i j : Int) : itR2 [.int i, .int j] = if -1000000 < i ∧ i < 1000000 ∧ -1000000 < j ∧ j < 1000000 then some (rngD i (j - i).toNat) else none := rfl
@[simp] theorem ev_itZLL (a b : List D) : itZ [.list a, .list b] = some (zipD a b) := rfl
@[simp] theorem ev_itZTT (a b : List D) : itZ [.tuple a, .tuple b] = some (zipD a b) := rfl
@[simp] theorem ev_itZLT (a b : List D) : itZ [.list a, .tuple b] = some (zipD a b) := rfl
@[simp] theorem ev_itZTL (a b : List D) : itZ [.tuple a, .list b] = some (zipD a b) := rfl
@[simp] theorem ev_mApp (ds : List D) (d : D) : mApp ds [d] = if ds.length < 1000000 then some (ds ++ [d], .none) else none := rfl
@[simp] theorem ev_isi (k : Kd) (d : D) : pIsi k [d] = if okD d = true then some (.bool (isK k d)) else none := rfl
@[simp] theorem lkM_eq (ms : List Nat) (i : Nat) : lkM ms i = (ms[i]? == some 0) := rfl
@[simp] theorem lkp_eq (is : List Nat) (lk : Nat → Bool) (i : Nat) : lkp is lk i = (is.contains i || lk i) := rfl
@[simp] theorem eqv_int (a b : Int) : PyData.eqv (.int a) (.int b) = decide (a = b) := by
  first | rfl | simp [PyData.eqv] | (unfold PyData.eqv; simp)
@[simp] theorem eqv_bool (a b : Bool) : PyData.eqv (.bool a) (.bool b) = decide (a = b) := by
  first | (cases a <;> cases b <;> rfl) | simp [PyData.eqv]
end Sim
namespace Sim
open PySem PySem.Spec L2
theorem lay_ints : ∀ ns : List Int, PyData.canLayAll0 (ns.map PyData.int) = true
  | [] => rfl
  | _ :: r => by simp [PyData.canLayAll0, PyData.canLay0, lay_ints r]
theorem depth_ints : ∀ ns : List Int, PyData.depthAll (ns.map PyData.int) = 0
  | [] => rfl
  | _ :: r => by simp [PyData.depthAll, PyData.depth, depth_ints r]
theorem noD_ints : ∀ ns : List Int, noDs (ns.map PyData.int) = true
  | [] => rfl
  | _ :: r => by simp [noDs, noD, noD_ints r]
@[simp] theorem shp_int (i : Int) : shp (.int i) = true := by simp [shp, SeqAt.shaped, PyData.canLay0, PyData.depth, noD]
@[simp] theorem shp_bool (i : Bool) : shp (.bool i) = true := by simp [shp, SeqAt.shaped, PyData.canLay0, PyData.depth, noD]
@[simp] theorem shp_tupI (ns : List Int) : shp (.tuple (ns.map PyData.int)) = true := by
  simp [shp, SeqAt.shaped, PyData.canLay0, PyData.depth, lay_ints, depth_ints, noD, noD_ints]
@[simp] theorem shp_lstI (ns : List Int) : shp (.list (ns.map PyData.int)) = true := by
  simp [shp, SeqAt.shaped, PyData.canLay0, PyData.depth, lay_ints, depth_ints, noD, noD_ints]
theorem eqvAll_ints : ∀ ns ms : List Int, PyData.eqvAll (ns.map PyData.int) (ms.map PyData.int) = decide (ns = ms)
  | [], [] => by simp [PyData.eqvAll]
  | [], _ :: _ => by simp [PyData.eqvAll]
  | _ :: _, [] => by simp [PyData.eqvAll]
  | a :: r, b :: t => by
    simp only [List.map_cons, PyData.eqvAll, eqv_int, eqvAll_ints r t]
    by_cases h : a = b <;> by_cases h' : r = t <;> simp [h, h']
@[simp] theorem eqv_tupI (ns ms : List Int) : PyData.eqv (.tuple (ns.map PyData.int)) (.tuple (ms.map PyData.int)) = decide (ns = ms) := by
  simp only [PyData.eqv]; exact eqvAll_ints ns ms
@[simp] theorem eqv_lstI (ns ms : List Int) : PyData.eqv (.list (ns.map PyData.int)) (.list (ms.map PyData.int)) = decide (ns = ms) := by
  simp only [PyData.eqv]; exact eqvAll_ints ns ms
@[simp] theorem cutL_to {α : Type} (xs : List α) (n : Nat) : cutL xs none (some (n : Int)) = xs.take n := by
  unfold cutL
  rw [HT.sIx_nat, HT.sIx_none, Nat.sub_zero, List.drop_zero]
  rcases Nat.le_total n xs.length with h | h
  · rw [Nat.min_eq_left h]
  · rw [Nat.min_eq_right h, List.take_length, List.take_of_length_le h]
@[simp] theorem cutL_from {α : Type} (xs : List α) (n : Nat) : cutL xs (some (n : Int)) none = xs.drop n := by
  unfold cutL
  rw [HT.sIx_nat, HT.sIx_none]
  rcases Nat.le_total n xs.length with h | h
  · rw [Nat.min_eq_left h, List.take_of_length_le (by simp)]
  · rw [Nat.min_eq_right h, Nat.sub_self, List.take_zero, List.drop_of_length_le h]
/-- a number's length in bits is small -/
theorem log2_lt {n : Nat} {k : Nat} (h : n < 2 ^ k) (hk : 0 < k) : n.log2 < k := by
  by_cases h0 : n = 0
  · subst h0; simpa using hk
  · exact (Nat.log2_lt h0).mpr h
theorem mulOk_l {a b : Int} (h1 : -(2 ^ 64) < a) (h2 : a < 2 ^ 64) : mulOk a b = true := by unfold mulOk; simp only [decide_eq_true h1, decide_eq_true h2, Bool.and_self, Bool.true_or, Bool.or_true]
theorem mulOk_r {a b : Int} (h1 : -(2 ^ 64) < b) (h2 : b < 2 ^ 64) : mulOk a b = true := by unfold mulOk; simp only [decide_eq_true h1, decide_eq_true h2, Bool.and_self, Bool.true_or, Bool.or_true]
@[simp] theorem loop_nil (t : Tg) (g : S) (s : Sg) : loopS t g [] s = .ok .nx s := rfl
def loopK2 (t : Tg) (g : S) (ds : List D) (fl : Fl) (s : Sg) : Res Fl := match fl with
  | .nx => loopS t g ds s
  | .ct => loopS t g ds s
  | .bk => .ok .nx s
  | .rt d => .ok (.rt d) s
def loopK1 (t : Tg) (g : S) (ds : List D) : Option Sg → Res Fl
  | none => .bad
  | some s => (g s).bind (loopK2 t g ds)
@[simp] theorem loop_cons (t : Tg) (g : S) (d : D) (ds : List D) (s : Sg) : loopS t g (d :: ds) s = loopK1 t g ds (asg t d s) := by
  rw [loopS]; dsimp only; unfold loopK1; cases asg t d s <;> rfl
@[simp] theorem loopK1_some (t : Tg) (g : S) (ds : List D) (s : Sg) : loopK1 t g ds (some s) = (g s).bind (loopK2 t g ds) := rfl
@[simp] theorem loopK2_nx (t : Tg) (g : S) (ds : List D) (s : Sg) : loopK2 t g ds .nx s = loopS t g ds s := rfl
@[simp] theorem loopK2_ct (t : Tg) (g : S) (ds : List D) (s : Sg) : loopK2 t g ds .ct s = loopS t g ds s := rfl
@[simp] theorem loopK2_bk (t : Tg) (g : S) (ds : List D) (s : Sg) : loopK2 t g ds .bk s = .ok .nx s := rfl
@[simp] theorem loopK2_rt (t : Tg) (g : S) (ds : List D) (d : D) (s : Sg) : loopK2 t g ds (.rt d) s = .ok (.rt d) s := rfl
@[simp] theorem comp_nil (t : Tg) (c : T) (e : O) (vs : List Nat) (acc : List D) (s : Sg) : compL t c e vs [] acc s = .ok acc s := rfl
def cmK5 (t : Tg) (c : T) (e : O) (vs : List Nat) (ds acc : List D) (s : Sg) : Option D → Res (List D)
  | none => .bad
  | some y => if acc.length < 1000000 then compL t c e vs ds (acc ++ [y]) (clrS vs s) else .bad
def cmK4 (t : Tg) (c : T) (e : O) (vs : List Nat) (ds acc : List D) (r : Rf) (s : Sg) : Res (List D) := cmK5 t c e vs ds acc s (own r s)
def cmK3 (t : Tg) (c : T) (e : O) (vs : List Nat) (ds acc : List D) (b : Bool) (s : Sg) : Res (List D) := if b = true then (e s).bind (cmK4 t c e vs ds acc) else compL t c e vs ds acc (clrS vs s)
def cmK1 (t : Tg) (c : T) (e : O) (vs : List Nat) (ds acc : List D) : Option Sg → Res (List D)
  | none => .bad
  | some s => (c s).bind (cmK3 t c e vs ds acc)
@[simp] theorem comp_cons (t : Tg) (c : T) (e : O) (vs : List Nat) (d : D) (ds acc : List D) (s : Sg) : compL t c e vs (d :: ds) acc s = cmK1 t c e vs ds acc (asg t d s) := by
  rw [compL]; unfold cmK1
  cases asg t d s with
  | none => rfl
  | some s1 =>
    simp only
    refine congrArg (Res.bind _) ?_
    funext b s2
    unfold cmK3
    split
    · refine congrArg (Res.bind _) ?_
      funext r s3
      unfold cmK4 cmK5
      cases own r s3 <;> rfl
    · rfl
@[simp] theorem cmK1_some (t : Tg) (c : T) (e : O) (vs : List Nat) (ds acc : List D) (s : Sg) : cmK1 t c e vs ds acc (some s) = (c s).bind (cmK3 t c e vs ds acc) := rfl
@[simp] theorem cmK3_eq (t : Tg) (c : T) (e : O) (vs : List Nat) (ds acc : List D) (b : Bool) (s : Sg) : cmK3 t c e vs ds acc b s = if b = true then (e s).bind (cmK4 t c e vs ds acc) else compL t c e vs ds acc (clrS vs s) := rfl
@[simp] theorem cmK4_eq (t : Tg) (c : T) (e : O) (vs : List Nat) (ds acc : List D) (r : Rf) (s : Sg) : cmK4 t c e vs ds acc r s = cmK5 t c e vs ds acc s (own r s) := rfl
@[simp] theorem cmK5_some (t : Tg) (c : T) (e : O) (vs : List Nat) (ds acc : List D) (s : Sg) (y : D) : cmK5 t c e vs ds acc s (some y) = if acc.length < 1000000 then compL t c e vs ds (acc ++ [y]) (clrS vs s) else .bad := rfl
end Sim
namespace Sim
open PySem PySem.Spec L2
theorem for_ok {lk : Nat → Bool} {it : I} {t : Tg} {g : S} {s s1 s2 : Sg} {es : List D} {l : List (Nat × D)} {fl : Fl} (h1 : it s = .ok (es, l) s1) (h2 : (l.all fun q => lk q.1) = true) (h3 : loopS t g es s1 = .ok fl s2) : sFor lk it t g s = .ok fl (unlockS l s2) := by
  rw [ev_sFor, h1, ev_ok, ev_forK, if_pos h2, h3]; rfl
theorem mkFn_rt {ms : List Nat} {n : Nat} {g : S} {ds as : List D} {r : D} {s : Sg} (h1 : okM ms ds = true) (h2 : g (ds.map some ++ List.replicate (n - ds.length) none) = .ok (.rt r) s) (h3 : coll ms ds 0 s = some as) : mkFn ms n g ds = .ok r as := by
  rw [ev_mkFn, if_pos h1, h2, ev_mkK, h3]; rfl
theorem mkFn_nx {ms : List Nat} {n : Nat} {g : S} {ds as : List D} {s : Sg} (h1 : okM ms ds = true) (h2 : g (ds.map some ++ List.replicate (n - ds.length) none) = .ok .nx s) (h3 : coll ms ds 0 s = some as) : mkFn ms n g ds = .ok .none as := by
  rw [ev_mkFn, if_pos h1, h2, ev_mkK, h3]; rfl
theorem oCall_ok {f : Fn} {g : AL} {s s1 : Sg} {rs : List Rf} {ds as : List D} {r : D} (h1 : g s = .ok rs s1) (h2 : rds rs s1 = some ds) (h3 : nodupB ((lks rs ds).map (·.1)) = true) (h4 : f ds = .ok r as) : oCall f g s = .ok (.val r) (unlockS (lkz rs ds as) (lockS (lks rs ds) s1)) := by
  rw [ev_oCall, h1, ev_ok, ev_callK, h2, ev_callK2, if_pos h3, h4]; rfl
@[simp] theorem purs_takeI (A : List Int) (n : Nat) : purs (List.take n (A.map PyData.int)) = true := by rw [← List.map_take]; exact purs_ints _
@[simp] theorem purs_dropI (A : List Int) (n : Nat) : purs (List.drop n (A.map PyData.int)) = true := by rw [← List.map_drop]; exact purs_ints _
end Sim
namespace Sim
open PySem PySem.Spec L2
def pickL {α : Type} (xs : List α) (lo hi st : Option Int) : List α :=
  (sliceRange (sliceBounds lo hi st xs.length).1 (sliceBounds lo hi st xs.length).2.1 (sliceBounds lo hi st xs.length).2.2).filterMap (xs[·]?)
section
open PyProof.Rows
variable {prog : Program} {w : World} {A : Around} {E : Value → Shared → Prop} {s : Shared}
theorem fm_all {α β : Type} {f : α → Option β} {g : α → β} : ∀ l : List α, (∀ m ∈ l, f m = some (g m)) → l.filterMap f = l.map g
  | [], _ => rfl
  | a :: l, h => by rw [List.filterMap_cons_some (h a (List.mem_cons_self ..)), fm_all l fun m hm => h m (List.mem_cons_of_mem _ hm)]; rfl
theorem pick_rev (l : List Value) : ((List.range l.length).filterMap fun (m : Nat) => l.toArray[(((l.length : Nat) : Int) - 1 + (m : Int) * (-1)).toNat]?) = l.reverse := by
  rw [fm_all (g := fun m => (l.reverse[m]?).getD .none) _ fun m hm => ?_]
  · refine List.ext_getElem (by simp) fun i h1 h2 => ?_
    simp only [List.getElem_map, List.getElem_range]
    rw [List.getElem?_eq_getElem h2]; rfl
  · have hm := List.mem_range.mp hm
    have e : (((l.length : Nat) : Int) - 1 + (m : Int) * (-1)).toNat = l.length - 1 - m := by omega
    rw [e, List.getElem?_reverse hm]
    simp only [List.getElem?_toArray]
    rw [List.getElem?_eq_getElem (by omega)]; rfl
theorem sliceApplied_rev {sl : Addr} {vs : Value} {n : Nat} {Q : Int × Int × Nat → Shared → Prop} (hs : s.heap.IsSliceOf sl .none .none vs) (ps : IsPart vs (some (-1)))
    (h : Q (((n : Int) - 1), -1, n) s) : wpAny (model prog w) A (Builtin.Slice.sliceApplied (.ref sl) (pure (n : Int))) Q E s := by
  obtain ⟨os, hos, hcs, hds⟩ := id hs
  unfold Builtin.Slice.sliceApplied Builtin.Slice.sliceFields
  refine wpAny_bind (wpAny_bind (wpAny_field hos hds (x := .none) rfl (wpAny_bind (wpAny_field hos hds (x := .none) rfl (wpAny_bind (wpAny_field hos hds (x := vs) rfl (wpAny_pure ?_)))))))
  refine wpAny_bind (HT.slicePart_ ps ?_)
  show wpAny _ _ (if ((-1 : Int) == 0) = true then _ else _) _ _ s
  rw [if_neg (by decide)]
  refine wpAny_bind (slicePart_none (wpAny_bind (slicePart_none (wpAny_bind (wpAny_pure ?_)))))
  have e1 : Builtin.Slice.sliceAdjust none none (-1) (n : Int) = ((n : Int) - 1, -1) := by
    unfold Builtin.Slice.sliceAdjust; simp
  have e2 : Builtin.Slice.slicePlaces ((n : Int) - 1) (-1) (-1) = n := by
    unfold Builtin.Slice.slicePlaces
    simp
    omega
  show wpAny _ _ (match Builtin.Slice.sliceAdjust none none (-1) (n : Int) with | (lo, hi) => pure (lo, (-1 : Int), Builtin.Slice.slicePlaces lo hi (-1))) _ _ s
  rw [e1]
  show wpAny _ _ (pure ((n : Int) - 1, (-1 : Int), Builtin.Slice.slicePlaces ((n : Int) - 1) (-1) (-1))) _ _ s
  rw [e2]
  exact wpAny_pure h
theorem getItem_tuple_rev {t sl : Addr} {its : List Value} {vs : Value} {Q : Value → Shared → Prop} (ht : IsTup s.heap t its.toArray) (hs : s.heap.IsSliceOf sl .none .none vs) (ps : IsPart vs (some (-1)))
    (h : Q (.ref s.heap.objs.size) { s with heap := s.heap.push { cls := .type "tuple", data := .seq its.reverse.toArray } })
    (hsz : its.length ≤ sizeLine) : wpAny (model prog w) A (getItem (.ref t) (.ref sl)) Q E s := by
  have htake : sizeOk (.seq its.reverse.toArray) := by
    show its.reverse.toArray.size ≤ sizeLine
    rw [List.size_toArray, List.length_reverse]
    exact hsz
  obtain ⟨os, hos, hcs, hds⟩ := id hs
  have hTs : s.TypeIs (.ref sl) "slice" := ⟨os, hos, hcs⟩
  unfold getItem
  try with_reducible refine wpAny_holding ?_
  first | refine wpAny_bind (wpAny_pure ?_) | skip
  refine wpAny_bind (wpAny_sequenceKey ht.typeIs (by decide) ?_)
  refine wpAny_bind (wpAny_callSpecial?_slot (name := Str.ofString "__getitem__") ht.typeIs PyProof.Rows.slot_tuple_getitem
    (wpAny_call_entry PyProof.Rows.slot_tuple_getitem ht.typeIs entry_tuple_getitem ?_ (args_tuple_getitem _ _)))
  show wpAny _ _ (Builtin.Tuple.tupleItemsOf (.ref t) >>= _) _ _ s
  refine wpAny_bind (tupleItemsOf_ ht ?_)
  refine wpAny_bind (wpAny_typeOf hTs ?_)
  rw [if_pos (by decide)]
  refine wpAny_bind (sliceApplied_rev (n := its.toArray.size) hs ps ?_)
  have hno : ¬ ((((its.toArray.size : Int) - 1) == 0 && (-1 : Int) == 1 && (its.toArray.size) == its.toArray.size) = true) := by
    intro q
    rw [Bool.and_eq_true, Bool.and_eq_true] at q
    have := eq_of_beq q.1.2
    omega
  show wpAny _ _ (if (((its.toArray.size : Int) - 1) == 0 && (-1 : Int) == 1 && (its.toArray.size) == its.toArray.size) = true then _ else _) _ _ s
  rw [if_neg hno, List.size_toArray, pick_rev]
  first
    | exact wpAny_bind (m := Builtin.Tuple.tupleExact _) (wpAny_newObj_type (wpAny_pure ⟨_, rfl, wpAny_pure h⟩) htake)
    | exact wpAny_bind (m := Builtin.Tuple.tupleExact _) (wpAny_newObj_type (wpAny_bind (wpAny_pure (wpAny_pure ⟨_, rfl, wpAny_pure h⟩))) htake)
    | exact wpAny_bind (wpAny_bind (m := Builtin.Tuple.tupleExact _) (wpAny_newObj_type (wpAny_pure (wpAny_pure ⟨_, rfl, wpAny_pure h⟩)) htake))
    | exact wpAny_bind (wpAny_bind (m := Builtin.Tuple.tupleExact _) (wpAny_newObj_type (wpAny_pure ⟨_, rfl, wpAny_pure h⟩) htake))
end
def stD : D → Option Int → Option Int → Option Int → Option D
  | .list ds, lo, hi, st => if purs ds = true ∧ st ≠ some 0 ∧ (pickL ds lo hi st).length ≤ 1000000 then some (.list (pickL ds lo hi st)) else none
  | .tuple ds, none, none, some (-1) => if purs ds = true ∧ ds.length ≤ 1000000 then some (.tuple ds.reverse) else none
  | _, _, _, _ => none
def oSt (g : O) (lo hi st : Option O) : O := fun s => (g s).bind fun r s1 => (prt lo s1).bind fun l s2 => (prt hi s2).bind fun u s3 => (prt st s3).bind fun t s4 => match rd r s4 with
  | none => .bad
  | some d => match stD d l u t with
    | none => .bad
    | some d' => .ok (.val d') s4
theorem vals_pick {xs : List V} {us : List Value} (r : Vals xs us) : ∀ ix : List Nat, Vals (ix.filterMap (xs[·]?)) (ix.filterMap (us[·]?))
  | [] => .nil
  | i :: ix => by
    have key : ∀ {xs : List V} {us : List Value}, Vals xs us → ∀ i : Nat, (xs[i]? = none ∧ us[i]? = none) ∨ ∃ x u, xs[i]? = some x ∧ us[i]? = some u ∧ RelV x u := by
      intro xs us r
      induction r with
      | nil => intro i; exact .inl ⟨rfl, rfl⟩
      | cons h t ih =>
        intro i
        cases i with
        | zero => exact .inr ⟨_, _, rfl, rfl, h⟩
        | succ i => simpa using ih i
    rcases key r i with ⟨h1, h2⟩ | ⟨x, u, h1, h2, h3⟩
    · rw [List.filterMap_cons_none h1, List.filterMap_cons_none h2]
      exact vals_pick r ix
    · rw [List.filterMap_cons_some h1, List.filterMap_cons_some h2]
      exact .cons h3 (vals_pick r ix)
section
variable {K : PySem.W.Frag} {H : Hp}
theorem OwnA.pick {ds : List D} {vs : List V} (t : OwnA K H ds vs []) : ∀ ix : List Nat, OwnA K H (ix.filterMap (ds[·]?)) (ix.filterMap (vs[·]?)) []
  | [] => .nil
  | i :: ix => by
    have hl := t.len
    by_cases hi : i < ds.length
    · obtain ⟨v, G, hv, o, sub⟩ := t.get i ds[i] (List.getElem?_eq_getElem hi)
      have : G = [] := by
        cases G with
        | nil => rfl
        | cons a G => exact absurd (sub a (List.mem_cons_self ..)) (by simp)
      subst this
      rw [List.filterMap_cons_some (List.getElem?_eq_getElem hi), List.filterMap_cons_some hv]
      exact .cons0 o (OwnA.pick t ix)
    · rw [List.filterMap_cons_none (List.getElem?_eq_none (by omega)), List.filterMap_cons_none (List.getElem?_eq_none (by omega))]
      exact OwnA.pick t ix
variable {X : Cx} {a : Expr} {ga : O} {pos p2 : Pos}
theorem stD_inv {d d' : D} {l u t : Option Int} (h : stD d l u t = some d') : (∃ ds, d = .list ds ∧ d' = .list (pickL ds l u t) ∧ purs ds = true ∧ t ≠ some 0 ∧ (pickL ds l u t).length ≤ 1000000) ∨ (∃ ds, d = .tuple ds ∧ l = none ∧ u = none ∧ t = some (-1) ∧ d' = .tuple ds.reverse ∧ purs ds = true ∧ ds.length ≤ 1000000) := by
  unfold stD at h
  split at h
  · split at h
    · rename_i hp
      cases h
      exact .inl ⟨_, rfl, rfl, hp⟩
    · cases h
  · split at h
    · rename_i hp
      cases h
      exact .inr ⟨_, rfl, rfl, rfl, rfl, rfl, hp⟩
    · cases h
  · cases h
theorem vals_rev {xs : List V} {us : List Value} (r : Vals xs us) : Vals xs.reverse us.reverse := by
  induction r with
  | nil => exact .nil
  | cons h _ ih => rw [List.reverse_cons, List.reverse_cons]; exact ih.append (.cons h .nil)
theorem owna_rev {K : PySem.W.Frag} {H : Hp} : ∀ {ds : List D} {vs : List V} {F : List Addr}, OwnA K H ds vs F → purs ds = true → OwnA K H ds.reverse vs.reverse []
  | [], _, _, .nil, _ => .nil
  | d :: ds, _, _, @OwnA.cons _ _ v vs _ _ F G o t n, p => by
    simp only [purs, Bool.and_eq_true] at p
    have e := o.pur p.1
    subst e
    rw [List.reverse_cons, List.reverse_cons]
    have : ∀ {as : List D} {us : List V}, OwnA K H as us [] → OwnA K H (as ++ [d]) (us ++ [v]) [] := by
      intro as us h
      generalize hG : ([] : List Addr) = G at h
      induction as generalizing us G with
      | nil =>
        cases h
        rw [hG]
        rw [← hG] at *
        exact .cons0 o .nil
      | cons a as ih =>
        cases h with
        | @cons v1 vs1 _ _ F1 G1 o1 t1 n1 =>
          have h1 : F1 = [] := by cases F1 with
            | nil => rfl
            | cons _ _ => cases hG
          have h2 : G1 = [] := by rw [h1] at hG; exact hG.symm
          subst h1
          subst h2
          exact .cons0 o1 (ih _ rfl t1)
    exact this (owna_rev t p.2)
theorem so_step {lo hi : Option Expr} {st : Expr} {l u t : Option O} (ha : SimO X a ga) (hl : SimP X lo l) (hu : SimP X hi u) (hs : SimP X (some st) t) : SimO X (.Subscript a (.Slice lo hi (some st) p2) pos) (oSt ga l u t) := by
  refine ⟨fun pins s σ H Q I z => ?_⟩
  obtain ⟨sg, Fs, rf, sg', R, e, q⟩ := z
  obtain ⟨r, g1, e1, e⟩ := bind_inv e
  obtain ⟨l', g2, e2, e⟩ := bind_inv e
  obtain ⟨u', g3, e3, e⟩ := bind_inv e
  obtain ⟨t', g4, e4, e⟩ := bind_inv e
  refine PyProof.Rows.Subscript_ (thn (ha.run pins s σ H (fun v H1 => ∃ Fs1 F, RelS X.K H1 g1 σ Fs1 ∧ Ev H Fs H1 Fs1 ∧ RfOk X.K H1 σ Fs1 r v F) I ⟨sg, Fs, r, g1, R, e1, fun v H1 Fs1 F R1 E1 k1 n1 => ⟨Fs1, F, R1, E1, k1⟩⟩) fun v s1 ⟨x, H1, I1, r1, Fs1, F, R1, E1, k1⟩ => ?_)
  refine wpAny_Slice (thn (hl.run pins s1 σ H1 (fun o H2 => o = l' ∧ ∃ Fs2, RelS X.K H2 g2 σ Fs2 ∧ Ev H1 Fs1 H2 Fs2) I1 ⟨g1, Fs1, l', g2, R1, e2, fun H2 Fs2 R2 E2 => ⟨rfl, Fs2, R2, E2⟩⟩) fun vl s2 ⟨o1, H2, I2, pl, eo1, Fs2, R2, E2⟩ => ?_)
  subst eo1
  refine thn (hu.run pins s2 σ H2 (fun o H3 => o = u' ∧ ∃ Fs3, RelS X.K H3 g3 σ Fs3 ∧ Ev H2 Fs2 H3 Fs3) I2 ⟨g2, Fs2, u', g3, R2, e3, fun H3 Fs3 R3 E3 => ⟨rfl, Fs3, R3, E3⟩⟩) fun vu s3 ⟨o2, H3, I3, pu, eo2, Fs3, R3, E3⟩ => ?_
  subst eo2
  refine thn (hs.run pins s3 σ H3 (fun o H4 => o = t' ∧ ∃ Fs4, RelS X.K H4 g4 σ Fs4 ∧ Ev H3 Fs3 H4 Fs4) I3 ⟨g3, Fs3, t', g4, R3, e4, fun H4 Fs4 R4 E4 => ⟨rfl, Fs4, R4, E4⟩⟩) fun vs s4 ⟨o3, H4, I4, ps, eo3, Fs4, R4, E4⟩ => ?_
  subst eo3
  split at e
  · cases e
  · rename_i d hd
    split at e
    · cases e
    · rename_i d' hd'
      cases e
      obtain ⟨F', o⟩ := (((k1.ev E2).ev E3).ev E4).dp R4 hd
      rcases stD_inv hd' with ⟨ds, rfl, rfl, hp⟩ | ⟨ds, rfl, rfl, rfl, rfl, rfl, hp⟩
      · ·
          obtain ⟨ad, xs, F0, rfl, rfl, hx, tt, nn⟩ := own_list o
          have e0 := tt.pur hp.1
          subst e0
          cases r1
          have I5 : Inv X pins σ H4 { s4 with heap := s4.heap.push { cls := .type "slice", data := .fields #[vl, vu, vs] } } := I4.kept (t' := s4.toks) fun b ob q => Heap.get?_push_of_some _ q
          obtain ⟨its, rr, ht, hz⟩ := I5.list (SqL.of hx)
          have hlen := rr.length
          show wpAny (model X.prog X.w) X.A (PyProof.Rows.subscriptTail a (.Slice lo hi (some st) p2) (.ref ad) (.ref s4.heap.objs.size)) (EP X pins σ Q) X.xe { s4 with heap := s4.heap.push { cls := .type "slice", data := .fields #[vl, vu, vs] } }
          refine PyProof.Rows.tail_any (ops := [.ref ad, .ref s4.heap.objs.size]) ht.isList.typeIs (PySem.slot_list_getitem.lookup) ?_ (by with_unfolding_all rfl)
          refine wpAny_getItem_list_slice ht.isList (Heap.IsSliceOf.new _ vl vu vs) pl pu ps hp.2.1 ?_ (by rw [List.size_toArray]; omega)
          have ep : slicePick its.toArray o1 o2 o3 = (pickL its o1 o2 o3).toArray := by
            unfold slicePick pickL
            simp only [List.size_toArray, List.getElem?_toArray]
          have nv : NewV X.K H4 (.list (pickL ds o1 o2 o3)) (.ref (s4.heap.push { cls := .type "slice", data := .fields #[vl, vu, vs] }).objs.size) (upd H4 (s4.heap.push { cls := .type "slice", data := .fields #[vl, vu, vs] }).objs.size (.lst (pickL xs o1 o2 o3))) := by
            refine .lst ?_ (I5.hok.fresh (Nat.le_refl _))
            unfold pickL
            rw [tt.len]
            exact tt.pick _
          obtain ⟨R5, E5, F5, k5, n5⟩ := nv.ok R4
          have lp : (pickL xs o1 o2 o3).length = (pickL ds o1 o2 o3).length := by
            unfold pickL
            rw [tt.len]
            exact (tt.pick _).len
          rw [ep]
          refine ⟨.ref _, _, I5.laid (t' := s4.toks) (o := .lst (pickL xs o1 o2 o3)) (fun b ob q => Heap.get?_push_of_some _ q) (Nat.le_refl _) ?_, rfl, ?_⟩
          · refine ⟨by rw [lp]; exact Nat.le_trans hp.2.2 big_le, _, 0, ?_, Heap.get?_push_size _ rfl⟩
            unfold pickL
            rw [hlen]
            exact vals_pick rr _
          · have fr := (((E1.trans E2).trans E3).trans E4)
            exact q _ _ Fs4 F5 R5 (fr.trans E5) k5 fun a ha => fr.chg.there a (n5 a ha)
      · ·
          cases o with
          | @tup ad xs _ _ hx tt =>
            have e0 := tt.pur hp.1
            subst e0
            cases r1
            have I5 : Inv X pins σ H4 { s4 with heap := s4.heap.push { cls := .type "slice", data := .fields #[vl, vu, vs] } } := I4.kept (t' := s4.toks) fun b ob q => Heap.get?_push_of_some _ q
            obtain ⟨its, rr, ht, hz⟩ := I5.tuple hx.sq
            have hlen := rr.length
            cases pl
            cases pu
            show wpAny (model X.prog X.w) X.A (PyProof.Rows.subscriptTail a (.Slice lo hi (some st) p2) (.ref ad) (.ref s4.heap.objs.size)) (EP X pins σ Q) X.xe { s4 with heap := s4.heap.push { cls := .type "slice", data := .fields #[.none, .none, vs] } }
            refine PyProof.Rows.tail_any (ops := [.ref ad, .ref s4.heap.objs.size]) ht.typeIs (PyProof.Rows.slot_tuple_getitem.lookup) ?_ (by with_unfolding_all rfl)
            refine getItem_tuple_rev ht (Heap.IsSliceOf.new _ .none .none vs) ps ?_ (by rw [← hlen]; exact hz)
            have ll : xs.reverse.length ≤ sizeLine := by rw [List.length_reverse]; exact hz
            refine lay_tup (t' := s4.toks) I5 (vals_rev rr) ll fun p ob hpn hd => ?_
            have nv : NewV X.K H4 (.tuple ds.reverse) (.ref p) (upd H4 p (.frz ob (.tup xs.reverse))) := .tup (owna_rev tt hp.1) hpn hd
            obtain ⟨R5, E5, F5, k5, n5⟩ := nv.ok R4
            have fr := (((E1.trans E2).trans E3).trans E4)
            exact q _ _ Fs4 F5 R5 (fr.trans E5) k5 fun a ha => fr.chg.there a (n5 a ha)
def pTupleRg : List D → Option D
  | [.int j] => if -1000000 < j ∧ j < 1000000 then some (.tuple (rngD 0 j.toNat)) else none
  | [.int i, .int j] => if -1000000 < i ∧ i < 1000000 ∧ -1000000 < j ∧ j < 1000000 then some (.tuple (rngD i (j - i).toNat)) else none
  | _ => none
theorem own_rgV (i j : Int) : OwnA K H (rngD i (j - i).toNat) (rgV i j) [] := by
  unfold rngD rgV
  generalize (List.range (j - i).toNat) = l
  induction l with
  | nil => exact .nil
  | cons n l ih => exact .cons0 (.int _) ih
def rTRg : List V → Hp → VK → Prop := fun vs H Q => (∃ j, vs = [.int j] ∧ RgOk 0 j ∧ rNewT (rgV 0 j) H Q) ∨ ∃ i j, vs = [.int i, .int j] ∧ RgOk i j ∧ rNewT (rgV i j) H Q
theorem pr_trg : PrimR K rTRg pTupleRg := by
  intro vs ds d H Q h e q
  unfold pTupleRg at e
  split at e
  · obtain ⟨x, F, rfl, o⟩ := h.one
    cases o
    split at e
    · rename_i j hj
      cases e
      have z := own_rgV (K := K) (H := H) 0 j
      rw [Int.sub_zero] at z
      exact .inl ⟨_, rfl, ⟨by omega, by omega, by omega, by omega, by omega⟩, fun p ob hp hn => q _ _ (.tup z hp hn)⟩
    · cases e
  · obtain ⟨x, y, F, G, rfl, o, o2⟩ := h.two
    cases o; cases o2
    split at e
    · rename_i i j hj
      cases e
      exact .inr ⟨_, _, rfl, ⟨by omega, by omega, by omega, by omega, by omega⟩, fun p ob hp hn => q _ _ (.tup (own_rgV i j) hp hn)⟩
    · cases e
  · cases e
def tTupRgD (te : St → Hp → (Int → Int → Hp → Prop) → Prop) : TE := fun σ H Q => te σ H fun a b H1 => RgOk a b ∧ rNewT (rgV a b) H1 Q
theorem pe_tupRgD {e : Expr} {te : St → Hp → (Int → Int → Hp → Prop) → Prop} {p pos : Pos} (hc : X.calm = true) (hg : Gl X "tuple") (hm : X.mg "tuple" = none) (he : PRg X e te) (na : starEach [e] X.env = (false, eval e X.env) :: starEach [] X.env := by rfl) : PE X (.Call (.Name "tuple" p) [e] [] pos) (tTupRgD te) := by
  refine ⟨fun pins s σ H Q I h => ?_⟩
  refine PyProof.Rows.Call_ (ld_blt I hg hm bt_tuple (PyProof.Rows.callWith_type1 (PyProof.Rows.args_cons (thn (he pins s σ H _ I h) fun x s1 ⟨r, a, b, t, u, v, H1, ex, hr, I1, ok, q⟩ => PyProof.Rows.args_nil ?_) na) na))
  subst ex
  obtain ⟨b1, b2, b3, b4, b5⟩ := ok
  refine call_tuple_range (n := (b - a).toNat) (I1.ok.hd hc) hr (small_one b1 b2 b3 b4) (PyProof.Rows.rangeSize_nat a b) b5 fun h' tk acc hk hi => ?_
  have I2 : L2.Inv X pins σ H1 { s1 with heap := h', toks := tk } := I1.kept hk
  have z := lay_tup (t' := tk) I2 (vals_rg hi) (by rw [rgV_length, sizeLine_eq]; omega) q
  rw [Array.toArray_toList] at z
  exact z
variable {b : Expr} {p pos2 : Pos} {gb : O}
theorem so_tupleRg1 (hc : X.calm = true) (hg : Gl X "tuple") (hm : X.mg "tuple" = none) (hg2 : Gl X "range") (hm2 : X.mg "range" = none) (ha : SimO X a ga) (na : starEach [a] X.env = (false, eval a X.env) :: starEach [] X.env := by rfl)
    (nr : starEach [.Call (.Name "range" p2) [a] [] pos2] X.env = (false, eval (.Call (.Name "range" p2) [a] [] pos2) X.env) :: starEach [] X.env := by rfl) : SimO X (.Call (.Name "tuple" p) [.Call (.Name "range" p2) [a] [] pos2] [] pos) (oPrim pTupleRg (aCons ga aNil)) :=
  pe_imp (pe_tupRgD hc hg hm (prg_1 hg2 hm2 ha na) nr) fun σ H Q h => by
    have z := tA1 (prim pr_trg h)
    refine tO_mono (fun v H1 w => ?_) z
    rcases w with ⟨j, e, w⟩ | ⟨i, j, e, w⟩
    · cases e; exact ⟨_, rfl, w⟩
    · cases e
end
end Sim
namespace SimSrt
open PySem PyProof.Rows Srt SrtO
section
variable {prog : Program} {w : World} {A : Around} {E : Value → Shared → Prop} {s : Shared}
theorem collect_tup {l : Addr} {vs : List Value} {Q : List Value → Shared → Prop} (hl : s.heap.IsTuple l vs.toArray)
    (h : Q vs { s with heap := (s.heap.push (seqObj "list" #[] 0)).update s.heap.objs.size (Obj.mapSeq (· ++ vs.toArray)) }) (hsz : vs.length ≤ sizeLine) :
    wpAny (model prog w) A (collect (.ref l)) Q E s := by
  obtain ⟨o, ho, hc, n, hd⟩ := id hl
  unfold collect
  refine wpAny_bind (wpAny_runValue (codeAny_builtin entry_proto_collect' ?_))
  show wpAny _ _ (do again (.builtin "list.__iadd__" ⟨[← newList [], .ref l], []⟩)) _ _ s
  refine wpAny_bind (wpAny_newList (wpAny_pure ⟨Code.quiet_builtin _ (by decide +kernel), codeAny_builtin entry_list_iadd' ?_⟩))
  show wpAny _ _ (Builtin.List.listExtendWith (.ref s.heap.objs.size) (.ref l) (.ref s.heap.objs.size)) _ _ { s with heap := s.heap.push (seqObj "list" #[] 0) }
  unfold Builtin.List.listExtendWith
  have ho' : (s.heap.push (seqObj "list" #[] 0)).get? l = some o := Heap.get?_push_of_some _ ho
  refine wpAny_bind (wpAny_typeOf (T := "tuple") ⟨o, ho', hc⟩ ?_)
  have ht : (Value.type "tuple" == Value.type "tuple") = true := by rfl
  rw [if_pos (by rw [ht]; simp)]
  refine wpAny_bind (listItems_at ho' hd ?_)
  refine wpAny_bind (listItems_at (xs := #[]) (n := 0) (Heap.get?_push_size _ rfl) rfl ?_)
  rw [if_neg (by simp)]
  refine wpAny_bind (listUpdate_at (xs := #[]) (n := 0) (Heap.get?_push_size _ rfl) rfl ?_ (Nat.zero_le _) (by show (#[] ++ vs.toArray).size ≤ sizeLine + 1; simp only [Array.size_append, List.size_toArray, List.length_nil]; omega))
  refine wpAny_pure ?_
  show wpAny (model prog w) A (do
      let o ← load s.heap.objs.size
      match o.data with
      | .seq xs _ => pure xs.toList
      | _ => unsupported "internal:collect") Q E { s with heap := (s.heap.push (seqObj "list" #[] 0)).update s.heap.objs.size (Obj.mapSeq (· ++ vs.toArray)) }
  refine wpAny_bind (wpAny_load (get?_update_seq (Heap.get?_push_size _ rfl) _) ?_)
  show wpAny _ _ (pure ((#[] : Array Value) ++ vs.toArray).toList) Q E _
  rw [show ((#[] : Array Value) ++ vs.toArray).toList = vs by simp]
  exact wpAny_pure h
theorem sorted_ordT {l : Addr} {vs : List Value} {ltv : Value → Value → Bool} {Q : Value → Shared → Prop} (O : Swo ltv) (hl : s.heap.IsTuple l vs.toArray) (hz : vs.length ≤ sizeLine)
    (hS : 2 ≤ vs.length → ∀ (h₁ : Heap) (a : Addr), h₁.get? a = some (seqObj "list" vs.toArray 0) → (∀ b o, s.heap.get? b = some o → b ≠ a ∧ h₁.get? b = some o) → SortableO prog w A.in1.in1 { s with heap := h₁ } a vs ltv)
    (h : ∀ out : List Value, Srtd ltv out → Stb ltv out vs → Q (.ref (s.heap.objs.size + 1)) { s with heap := sortedAll s.heap vs out.toArray }) :
    wpAny (model prog w) A (call (.builtin "sorted") [.ref l]) Q E s := by
  refine Calls.call_function_entry kind_sorted plain_sorted entry_sorted (args_sorted1 _) ?_
  unfold Builtin.«sorted»
  refine wpAny_bind (m := checkCount "sorted" 1 1 _) (wpAny_pure ?_)
  refine wpAny_bind (collect_tup hl ?_ hz)
  refine wpAny_bind (wpAny_newList ?_ hz)
  have hsz : ((s.heap.push (seqObj "list" #[] 0)).update s.heap.objs.size (Obj.mapSeq (· ++ vs.toArray))).objs.size = s.heap.objs.size + 1 := by
    rw [Heap.size_update, size_push']
  have hoL : (((s.heap.push (seqObj "list" #[] 0)).update s.heap.objs.size (Obj.mapSeq (· ++ vs.toArray))).push (seqObj "list" vs.toArray 0)).get? (s.heap.objs.size + 1) = some (seqObj "list" vs.toArray 0) := by
    rw [← hsz]; exact Heap.get?_push_size _ rfl
  have keep : ∀ b o, s.heap.get? b = some o → b ≠ s.heap.objs.size + 1 ∧ (((s.heap.push (seqObj "list" #[] 0)).update s.heap.objs.size (Obj.mapSeq (· ++ vs.toArray))).push (seqObj "list" vs.toArray 0)).get? b = some o := fun b o q => by
    have hlt : b < s.heap.objs.size := Heap.lt_size q
    refine ⟨Nat.ne_of_lt (Nat.lt_succ_of_lt hlt), Heap.get?_push_of_some _ ?_⟩
    rw [Heap.get?_update_ne _ _ _ _ (Nat.ne_of_lt hlt)]
    exact Heap.get?_push_of_some _ q
  show wpAny _ _ _ _ _ { s with heap := ((s.heap.push (seqObj "list" #[] 0)).update s.heap.objs.size (Obj.mapSeq (· ++ vs.toArray))).push (seqObj "list" vs.toArray 0) }
  rw [hsz]
  refine wpAny_bind (wpAny_holding (wpAny_call_entry slot_list_sort ⟨_, hoL, rfl⟩ entry_list_sort (list_sort_ord O hoL hz (fun h2 => hS h2 _ _ hoL keep) fun out hs hb => ⟨_, rfl, ?_⟩) (args_list_sort _)))
  exact wpAny_pure ⟨_, rfl, h out hs hb⟩
end
end SimSrt
namespace Sim
open PySem PySem.Spec L2
def rSortA (K : PySem.W.Frag) : List V → Hp → VK → Prop := fun vs H Q => ∃ (a : Addr) (ns : List Int), vs = [V.ref a] ∧ (SqL K H a (ns.map V.int) ∨ SqT K H a (ns.map V.int)) ∧ ∀ (ns' : List Int) (p : Addr), ns'.Perm ns → ns'.Pairwise (· ≤ ·) → H p = none → Q (.ref p) (upd H p (.lst (ns'.map V.int)))
theorem cr_sortA {X : Cx} : CallR X (.builtin "sorted") (rSortA X.K) := by
  intro pins s σ H vs us Q I r h
  obtain ⟨a, ns, rfl, hs, q⟩ := h
  rcases hs with hs | hs
  · exact cr_sortedI pins s σ H _ us Q I r ⟨a, ns, rfl, hs, q⟩
  · obtain ⟨its, rv, hl, hz⟩ := I.tuple hs
    rw [Vals.ref1 r]
    have hi := rv.ints
    refine SimSrt.sorted_ordT SrtO.swo_int hl (by rw [← rv.length]; exact hz) (fun h2 h₁ a' _ _ => SrtO.ints_sortable hi h2) fun out h1 h2 => ?_
    obtain ⟨k1, k2, k3⟩ := SrtO.ints_out hi h1 h2
    obtain ⟨ep, he'⟩ := PyProof.Rows.sortedAll_at s.heap its out.toArray
    have hlen : ((out.map SrtO.iv).map V.int).length ≤ sizeLine := by
      rw [List.length_map, k2.length_eq]
      rw [List.length_map] at hz
      exact hz
    exact ⟨.ref _, upd H (s.heap.objs.size + 1) (.lst ((out.map SrtO.iv).map V.int)), I.laid (t' := s.toks) (fun _ _ => PyProof.Rows.sortedAll_old) (Nat.le_succ _) ⟨hlen, out, ep, vals_of_ints k1, he'⟩, rfl, q _ _ k2 k3 (I.hok.fresh (Nat.le_succ _))⟩
/-- numbers, rising -/
def insI (n : Int) : List Int → List Int
  | [] => [n]
  | m :: l => if n ≤ m then n :: m :: l else m :: insI n l
def sortI : List Int → List Int
  | [] => []
  | n :: l => insI n (sortI l)
theorem insI_perm (n : Int) : ∀ l : List Int, (insI n l).Perm (n :: l)
  | [] => .refl _
  | m :: l => by
    unfold insI
    split
    · exact .refl _
    · exact ((insI_perm n l).cons m).trans (.swap n m l)
theorem sortI_perm : ∀ l : List Int, (sortI l).Perm l
  | [] => .refl _
  | n :: l => (insI_perm n (sortI l)).trans ((sortI_perm l).cons n)
theorem insI_rise (n : Int) : ∀ l : List Int, l.Pairwise (· ≤ ·) → (insI n l).Pairwise (· ≤ ·)
  | [], _ => by simp [insI]
  | m :: l, h => by
    rw [List.pairwise_cons] at h
    unfold insI
    split
    · rename_i hnm
      rw [List.pairwise_cons, List.pairwise_cons]
      refine ⟨fun x hx => ?_, h⟩
      rcases List.mem_cons.mp hx with rfl | hx
      · exact hnm
      · exact Int.le_trans hnm (h.1 x hx)
    · rename_i hnm
      rw [List.pairwise_cons]
      refine ⟨fun x hx => ?_, insI_rise n l h.2⟩
      rcases List.mem_cons.mp ((insI_perm n l).mem_iff.mp hx) with rfl | hx
      · omega
      · exact h.1 x hx
theorem sortI_rise : ∀ l : List Int, (sortI l).Pairwise (· ≤ ·)
  | [] => .nil
  | n :: l => insI_rise n _ (sortI_rise l)
theorem rise_eq : ∀ {a b : List Int}, a.Perm b → a.Pairwise (· ≤ ·) → b.Pairwise (· ≤ ·) → a = b := fun {a b} p h1 h2 =>
  p.eq_of_pairwise (fun x y _ _ h h' => Int.le_antisymm h h') h1 h2
def pSorted : List D → Option D
  | [d] => (intsOf d).map fun ns => .list ((sortI ns).map .int)
  | _ => none
theorem own_intL {K : PySem.W.Frag} {H : Hp} : ∀ ns : List Int, OwnA K H (ns.map .int) (ns.map V.int) []
  | [] => .nil
  | n :: ns => .cons0 (.int n) (own_intL ns)
theorem pr_sorted {K : PySem.W.Frag} : PrimR K (rSortA K) pSorted := by
  intro vs ds d H Q h e q
  unfold pSorted at e
  split at e
  · obtain ⟨x, F, rfl, o⟩ := h.one
    rename_i d'
    cases hi : intsOf d' with
    | none => rw [hi] at e; cases e
    | some ns =>
      rw [hi] at e
      cases e
      obtain ⟨a, rfl, hq⟩ := own_intsOf o hi
      refine ⟨a, ns, rfl, hq, fun ns' p hp hr hn => ?_⟩
      have := rise_eq (hp.trans (sortI_perm ns).symm) hr (sortI_rise ns)
      subst this
      exact q _ _ (.lst (own_intL _) hn)
  · cases e
end Sim
namespace Sim
open PySem PySem.Spec L2
section
variable {X : Cx}
variable {o e : Expr} {es : List Expr} {to : TE} {t : TA} {name : Str} {apos cpos : Pos} {T id : String} {r : V → List V → Hp → VK → Prop}
end
def putAll : List Nat → List D → Sg → Sg
  | i :: l, d :: ds, s => putAll l ds (s.set i (some d))
  | _, _, s => s
def sPar (l : List Nat) (g : AL) : S := fun s => (g s).bind fun rs s1 => match owns rs s1 with
  | none => .bad
  | some ds => if ds.length = l.length then .ok .nx (putAll l ds s1) else .bad
section
variable {X : Cx} {lk : Nat → Bool}
theorem ss_par {i j : Nat} {x y : Str} {a b : Expr} {g : AL} {px py pt pos pt2 : Pos} {kt k2 : Nat} (hc : X.calm = true) (hN : X.N.Nodup) (hi : X.N[i]? = some x) (hj : X.N[j]? = some y) (hij : i ≠ j)
    (hx : X.env.scope.names.lookup x = some .local) (hy : X.env.scope.names.lookup y = some .local) (li : lk i = false) (lj : lk j = false) (ha : SimA X [a, b] g)
    (hw : swappedStores [.Tuple [.Name x px, .Name y py] kt pt] (.Tuple [a, b] k2 pt2) X.env = pure (some [x, y]) := by rfl)
    (hs : swapsWithSole [.Tuple [.Name x px, .Name y py] kt pt] (.Tuple [a, b] k2 pt2) pos.line X.env = pure false := by rfl) :
    SimS X lk (.Assign [.Tuple [.Name x px, .Name y py] kt pt] (.Tuple [a, b] k2 pt2) pos) (sPar [i, j] g) := by
  refine ps_imp (ps_par hc hN hi hj hij hx hy ha hw hs) fun D σ H z => ?_
  obtain ⟨s, Fs, fl, s', R, e, q⟩ := z
  obtain ⟨rs, s1, e1, e⟩ := bind_inv e
  refine ⟨s, Fs, rs, s1, R, e1, fun vs H1 Fs1 Gs R1 E1 k1 n1 => ?_⟩
  split at e
  · cases e
  · rename_i ds hds
    split at e
    · rename_i hl
      cases e
      obtain ⟨oa, dj⟩ := k1.own R1 hds
      match ds, hl with
      | [d1, d2], _ =>
        have gf : ∀ a, a ∈ Gs.flatten → H a = none := fun a ha => by
          obtain ⟨G, hG, hb⟩ := List.mem_flatten.mp ha
          exact n1 G hG a hb
        generalize hGf : Gs.flatten = GF at *
        cases oa with
        | @cons v1 _ _ _ F1 F2' o1 t1 nn =>
          obtain ⟨v2, rfl, o2⟩ := owna1 t1
          refine ⟨v1, v2, rfl, ?_⟩
          obtain ⟨FsA, RA, nA⟩ := R1.put ⟨o1, fun k a hk ha => dj k a hk (List.mem_append_left _ ha)⟩ i
          obtain ⟨FsB, RB, nB⟩ := RA.put ⟨o2, fun k a hk ha => by
            rcases nA k a hk with ⟨w, _⟩ | ⟨w, _⟩
            · exact dj k a w (List.mem_append_right _ ha)
            · exact nn a w ha⟩ j
          refine q _ H1 FsB RB ⟨E1.chg, fun k a h => ?_⟩ ((Lk.set li).trans (Lk.set lj))
          rcases nB k a h with ⟨w, _⟩ | ⟨w, _⟩
          · rcases nA k a w with ⟨w, _⟩ | ⟨w, _⟩
            · exact E1.new k a w
            · exact .inr (gf a (List.mem_append_left _ w))
          · exact .inr (gf a (List.mem_append_right _ w))
    · cases e
end
end Sim
namespace Sim
open PySem PySem.Spec L2
def ownR (lk : Nat → Bool) (r : Rf) (s : Sg) : Option D := match r with
  | .val d => some d
  | .slot i => match (s[i]?).join with
    | none => none
    | some d => if pur d = true ∨ lk i = false then some d else none
def ownsR (lk : Nat → Bool) : List Rf → Sg → Option (List D)
  | [], _ => some []
  | r :: rs, s => match ownR lk r s with
    | none => none
    | some d => match ownsR lk rs s with
      | none => none
      | some ds => some (d :: ds)
def sRetT (lk : Nat → Bool) (g : AL) : S := fun s => (g s).bind fun rs s1 => match ownsR lk rs s1 with
  | none => .bad
  | some ds => if ds.length ≤ 1000000 ∧ nodupB ((lks rs ds).map (·.1)) = true then .ok (.rt (.tuple ds)) s1 else .bad
section
variable {K : PySem.W.Frag} {H : Hp} {s : Sg} {σ : St} {Fs : Fp} {lk : Nat → Bool}
theorem Rfs.off {rs : List Rf} {vs : List V} {Gs : List (List Addr)} (r : Rfs K H σ Fs rs vs Gs) : ∀ G, G ∈ Gs → ∀ i a, a ∈ Fs i → a ∉ G := by
  induction r with
  | nil => intro G h; cases h
  | val A _ _ ih =>
    intro G h i a ha
    rcases List.mem_cons.mp h with rfl | h
    · exact A.dis i a ha
    · exact ih G h i a ha
  | slot _ _ ih =>
    intro G h i a ha
    rcases List.mem_cons.mp h with rfl | h
    · intro z; cases z
    · exact ih G h i a ha
theorem Rfs.ownR (R : RelS K H s σ Fs) {rs : List Rf} {vs : List V} {Gs : List (List Addr)} (r : Rfs K H σ Fs rs vs Gs) : ∀ {ds : List D}, ownsR lk rs s = some ds → nodupB ((lks rs ds).map (·.1)) = true →
    ∃ F, OwnA K H ds vs F ∧ ∀ a, a ∈ F → (∃ G, G ∈ Gs ∧ a ∈ G) ∨ ∃ i, i ∈ (lks rs ds).map (·.1) ∧ lk i = false ∧ a ∈ Fs i := by
  induction r with
  | nil => intro ds e _; cases e; exact ⟨[], .nil, fun a h => by cases h⟩
  | @val d v F rs vs Gs A dj rr ih =>
    intro ds e n
    unfold ownsR at e
    simp only [Sim.ownR] at e
    split at e
    · cases e
    · rename_i es h
      cases e
      obtain ⟨F', o, q⟩ := ih h n
      refine ⟨F ++ F', .cons A.own o fun a ha hb => ?_, fun a ha => ?_⟩
      · rcases q a hb with ⟨G, hG, z⟩ | ⟨i, _, _, z⟩
        · exact dj G hG a ha z
        · exact A.dis i a z ha
      · rcases List.mem_append.mp ha with h | h
        · exact .inl ⟨F, List.mem_cons_self .., h⟩
        · rcases q a h with ⟨G, hG, z⟩ | z
          · exact .inl ⟨G, List.mem_cons_of_mem _ hG, z⟩
          · exact .inr z
  | @slot i v rs vs Gs hv rr ih =>
    intro ds e n
    unfold ownsR at e
    simp only [Sim.ownR] at e
    split at e
    · cases e
    · rename_i d hd
      split at e
      · cases e
      · rename_i es h
        cases e
        split at hd
        · cases hd
        · rename_i d' hd'
          split at hd
          · rename_i hp
            cases hd
            obtain ⟨v', hv', o⟩ := R.has _ _ (join_some hd')
            rw [hv] at hv'
            cases hv'
            by_cases c : pur d = true
            · rw [lks_slot, if_pos c] at n
              obtain ⟨F', o', q⟩ := ih h n
              have e0 := o.pur c
              rw [e0] at o
              refine ⟨[] ++ F', .cons o o' (fun a z => by cases z), fun a ha => ?_⟩
              rw [lks_slot, if_pos c]
              rcases q a ha with ⟨G, hG, z⟩ | z
              · exact .inl ⟨G, List.mem_cons_of_mem _ hG, z⟩
              · exact .inr z
            · rw [lks_slot, if_neg c] at n
              rw [List.map_cons, ev_nodupB, Bool.and_eq_true] at n
              obtain ⟨n1, n2⟩ := n
              simp only [Bool.not_eq_true', List.contains_eq_mem, decide_eq_false_iff_not] at n1
              obtain ⟨F', o', q⟩ := ih h n2
              refine ⟨Fs i ++ F', .cons o o' fun a ha hb => ?_, fun a ha => ?_⟩
              · rcases q a hb with ⟨G, hG, z⟩ | ⟨j, hj, _, z⟩
                · exact rr.off G hG i a ha z
                · have := R.dis i j a ha z
                  subst this
                  exact n1 hj
              · rw [lks_slot, if_neg c, List.map_cons]
                rcases List.mem_append.mp ha with z | z
                · exact .inr ⟨i, List.mem_cons_self .., hp.resolve_left c, z⟩
                · rcases q a z with ⟨G, hG, z⟩ | ⟨j, hj, z⟩
                  · exact .inl ⟨G, List.mem_cons_of_mem _ hG, z⟩
                  · exact .inr ⟨j, List.mem_cons_of_mem _ hj, z⟩
          · cases hd
end
section
variable {X : Cx} {lk : Nat → Bool} {pos p2 : Pos} {es : List Expr} {g : AL} {x1 : Nat}
theorem ss_retT (ha : SimA X es g) : SimS X lk (.Return (some (.Tuple es x1 p2)) pos) (sRetT lk g) := by
  refine ps_imp (ps_ret (pe_tupD ha)) fun D σ H z => ?_
  obtain ⟨s, Fs, fl, s', R, e, q⟩ := z
  obtain ⟨rs, s1, e1, e⟩ := bind_inv e
  refine ⟨s, Fs, rs, s1, R, e1, fun vs H1 Fs1 Gs R1 E1 k1 n1 => ?_⟩
  split at e
  · cases e
  · rename_i ds hds
    split at e
    · rename_i hc
      cases e
      obtain ⟨F, o, hF⟩ := k1.ownR R1 hds hc.2
      refine ⟨by rw [o.len]; exact Nat.le_trans hc.1 big_le, fun p ob hp hd => ?_⟩
      have sm : Same H1 (upd H1 p (.frz ob (.tup vs))) := same_new hp
      refine q _ σ _ Fs1 F (R1.same sm) (E1.trans (.same _ sm)) (.refl _ _) (.tup (SqD.of upd_same hd) (o.chg (Fa := fun _ => False) (.same sm) fun _ _ z => z)) (fun a ha => ?_) fun i a hi ha hb => ?_
      · rcases hF a ha with ⟨G, hG, z⟩ | ⟨i, _, hi, z⟩
        · exact .inl (n1 G hG a z)
        · rcases E1.new i a z with z | z
          · exact .inr ⟨i, hi, z⟩
          · exact .inl z
      · rcases hF a hb with ⟨G, hG, z⟩ | ⟨j, _, hj, z⟩
        · exact k1.off G hG i a ha z
        · have := R1.dis i j a ha z
          subst this
          rw [hi] at hj; cases hj
    · cases e
end
end Sim
namespace Sim
open PySem PySem.Spec L2
section
open PySem.Calls PySem.NumText PyProof.Rows
def tenL (n : Nat) : List Nat := 49 :: List.replicate n 48
def tenS (n : Nat) : Str := ⟨(tenL n).toArray⟩
section
variable {M : Model} {A : Around} {E : Value → Shared → Prop} {s : Shared}
/-- how many signs a numeral may have: as it was at first -/
def Dg (h : Heap) : Prop := ∃ K : PySem.W.Frag, K.In h ∧ PySem.W.nsIn K cStatics "sys.int_max_str_digits" = some none
theorem intMax_any {Q : Nat → Shared → Prop} (hn : Dg s.heap) (h : Q 4300 s) : wpAny M A Builtin.intMaxStrDigits Q E s := by
  obtain ⟨K, hK, e⟩ := hn
  unfold Builtin.intMaxStrDigits
  exact wpAny_bind ((PySem.W.looks_nsIn hK e).here (wpAny_pure h))
theorem wp_textL {Q : Value → Shared → Prop} {v : Value} {text : List Nat} {n : Int}
    (hs : ¬ (text.takeWhile (· != 0)).length ≤ 640) (hr : (int_private% "readNumeral") 4300 10 (text.takeWhile (· != 0)) = (int_private% "Numeral.value") n)
    (ha : ((text.takeWhile (· != 0)).length == text.length) = true) (hn : Dg s.heap) (h : Q (.int n s.toks) { s with toks := s.toks + 1 }) :
    wpAny M A ((int_private% "intFromText") v text 10) Q E s := by
  obtain ⟨hp, g, d, tk, os⟩ := s
  repeat (any_goals (first
    | assumption
    | (with_reducible refine wpAny_ite_false (decide_eq_false hs) ?_)
    | (with_reducible refine intMax_any hn ?_)
    | (with_reducible refine wpAny_ite_true (decide_eq_true ha) ?_)
    | wp_step))
  all_goals (try rw [hr])
  all_goals (try dsimp only)
  repeat (any_goals (first
    | assumption
    | (with_reducible refine wpAny_ite_true (decide_eq_true ha) ?_)
    | wp_step))
theorem meets_textL {x : PySem.Str} {u : Tok} {n : Int} (hl : ¬ (numSeenOf x).length ≤ 640) (hx : x.length ≤ sizeLine) (hn : PySem.intText? x = some n) : Meets (Builtin.«int.__new__» ⟨[.type "int", .str x u], []⟩) (fun _ R s => Dg s.heap ∧ R (.ok (.ret (.int n s.toks))) { s with toks := s.toks + 1 }) :=
  .of_wp fun prog w A R s h => by
    obtain ⟨hp, g, d, tk, os⟩ := s
    obtain ⟨hd, h⟩ := h
    have f1 := F.conv_sub_int
    have f2 := F.madeHere_int
    have f3 := PySem.W.KIN.str_int
    have f4 := PySem.W.KIN.str_idx
    have f5 := PySem.W.KIN.str_trunc
    have f6 : typeOf (.str x u) = pure (.type "str") := rfl
    have hr : (int_private% "readNumeral") 4300 10 (numSeenOf x) = (int_private% "Numeral.value") n ∧ ((numSeenOf x).length == (numTextOf x).length) = true := by
      rcases read4300 x hx with ⟨m, h1, h2, h3⟩ | ⟨h1, _⟩
      · rw [hn] at h1
        injection h1 with h1
        subst h1
        exact ⟨h3, h2⟩
      · rw [hn] at h1
        cases h1
    have hk := PySem.W.KIN.Hid.mk (And.intro hl hr)
    clear hl hr hn hx
    repeat (any_goals (first
      | assumption
      | ((with_reducible show wpAny _ _ ((int_private% "intFromText") _ _ _) _ _ _); refine wp_textL hk.out.1 hk.out.2.1 hk.out.2.2 hd ?_)
      | wp_step))
    all_goals first | exact ⟨_, rfl, h⟩ | skip
end
theorem ten_take (n : Nat) : (tenL n).takeWhile (· != 0) = tenL n := by
  have : ∀ l : List Nat, (∀ x ∈ l, x ≠ 0) → l.takeWhile (· != 0) = l := by
    intro l
    induction l with
    | nil => intro _; rfl
    | cons a l ih => intro h; rw [List.takeWhile_cons_of_pos (by simpa using h a (by simp)), ih fun x hx => h x (List.mem_cons_of_mem _ hx)]
  refine this _ fun x hx => ?_
  rcases List.mem_cons.mp hx with rfl | hx
  · decide
  · rw [List.eq_of_mem_replicate hx]; decide
theorem ten_text (n : Nat) : numTextOf (tenS n) = tenL n := by
  have : (tenS n).cps.all (· < 128) = true := by
    show (tenL n).toArray.all _ = true
    rw [List.all_toArray]
    refine List.all_eq_true.mpr fun x hx => ?_
    rcases List.mem_cons.mp hx with rfl | hx
    · decide
    · rw [List.eq_of_mem_replicate hx]; decide
  unfold numTextOf
  rw [if_pos this]; rfl
theorem ten_seen (n : Nat) : numSeenOf (tenS n) = tenL n := by
  unfold numSeenOf
  rw [ten_text, ten_take]
theorem ten_fold : ∀ (n : Nat) (a : Array Nat), (List.replicate n 48).foldlM (PySem.NumText.step 10) (a, true) = some (a ++ Array.replicate n 0, true)
  | 0, a => by simp
  | n + 1, a => by
    rw [List.replicate_succ, List.foldlM_cons]
    have : PySem.NumText.step 10 (a, true) 48 = some (a.push 0, true) := rfl
    rw [this]
    show (List.replicate n 48).foldlM (PySem.NumText.step 10) (a.push 0, true) = _
    rw [ten_fold n]
    congr 2
    apply Array.ext'
    simp [List.replicate_succ]
theorem ten_core (n : Nat) : core (tenL n) = tenL n := by
  unfold core
  have h1 : (tenL n).dropWhile blank = tenL n := by
    unfold tenL
    rw [List.dropWhile_cons_of_neg (by decide)]
  rw [h1]
  show ((tenL n).reverse.dropWhile blank).reverse = tenL n
  have h2 : (tenL n).reverse.dropWhile blank = (tenL n).reverse := by
    unfold tenL
    rw [List.reverse_cons, List.reverse_replicate]
    cases n with
    | zero => rfl
    | succ n => rw [List.replicate_succ, List.cons_append, List.dropWhile_cons_of_neg (by decide)]
  rw [h2, List.reverse_reverse]
theorem ten_worth : ∀ (n a : Nat), (List.replicate n 0).foldl (fun acc d => acc * 10 + d) a = a * 10 ^ n
  | 0, a => by simp
  | n + 1, a => by
    rw [List.replicate_succ, List.foldl_cons, ten_worth n, Nat.pow_succ, Nat.add_zero, Nat.mul_assoc, Nat.mul_comm 10]
@[irreducible] def tenN (n : Nat) : Int := ((10 ^ n : Nat) : Int)
theorem ten_int (n : Nat) (h : n + 1 ≤ 4300) : PySem.intText? (tenS n) = some (tenN n) := by
  unfold tenN
  have hd : PySem.NumText.digits? 10 (core (numSeenOf (tenS n))) = some (#[1] ++ Array.replicate n 0) := by
    rw [ten_seen, ten_core]
    unfold PySem.NumText.digits? tenL
    rw [List.foldlM_cons]
    have : PySem.NumText.step 10 (#[], false) 49 = some (#[1], true) := rfl
    rw [this]
    show ((List.replicate n 48).foldlM (PySem.NumText.step 10) (#[1], true)).bind _ = _
    rw [ten_fold]; rfl
  unfold PySem.intText?
  rw [ten_text, ten_seen, if_pos (by simp)]
  rw [ten_seen] at hd
  rw [hd]
  simp only []
  rw [if_pos (by simp; omega)]
  have hs : (sign ((tenL n).dropWhile blank)).1 = false := by
    unfold tenL
    rw [List.dropWhile_cons_of_neg (by decide)]; rfl
  unfold worth
  rw [hs]
  simp only [Bool.false_eq_true, if_false]
  congr 2
  rw [← Array.foldl_toList]
  simp only [Array.toList_append, Array.toList_replicate]
  show (1 :: List.replicate n 0).foldl _ 0 = _
  rw [List.foldl_cons, ten_worth]
  simp
end
def repS (a : Str) (n : Int) : Str := ⟨(List.replicate n.toNat a.cps).foldl (· ++ ·) #[]⟩
def pMulS : List D → Option D
  | [.str a, .int b] => if a.length = 1 ∧ 2 ≤ b ∧ b ≤ 100000 then some (.str (repS a b)) else none
  | _ => none
def pIntTen (n : Nat) : List D → Option D
  | [.str z] => if z = tenS n then some (.int (tenN n)) else none
  | _ => none
section
variable {X : Cx}
theorem op_mulS : OpR X (binaryOp .Mult) (fun x y H Q => ∃ a n, x = .str a ∧ y = .int n ∧ a.length = 1 ∧ 2 ≤ n ∧ n ≤ 100000 ∧ Q (.str (repS a n)) H) := by
  intro pins s σ H x y v u Q I rx ry h
  obtain ⟨a, n, rfl, rfl, ha, h1, h2, q⟩ := h
  obtain ⟨t, rfl⟩ := rx
  obtain ⟨t2, rfl⟩ := ry
  have c0 : (decide (n < -(2 ^ 63 : Int)) || decide (n ≥ 2 ^ 63)) = false := by
    rw [decide_eq_false (by omega), decide_eq_false (by omega)] <;> rfl
  have c1 : (n == 1 || a.length == 0) = false := by
    rw [ha]
    simp
    omega
  have len : ∀ (k : Nat) (acc : Array Nat), ((List.replicate k a.cps).foldl (· ++ ·) acc).size = acc.size + k := by
    intro k
    induction k with
    | zero => intro acc; rfl
    | succ k ih =>
      intro acc
      rw [List.replicate_succ, List.foldl_cons, ih, Array.size_append]
      have : a.cps.size = 1 := ha
      omega
  have hz : (repS a n).length ≤ sizeLine := by
    show ((List.replicate n.toNat a.cps).foldl (· ++ ·) #[]).size ≤ sizeLine
    rw [len, sizeLine_eq]
    simp
    omega
  refine P.mul_str c0 (fun _ _ => ?_) (fun _ _ => ?_) ?_
  · rw [ha]
    have : (1 : Int) ≤ (2 ^ 63 - 1) / n := by
      rw [Int.le_ediv_iff_mul_le (by omega)]
      omega
    omega
  · rw [ha]
    unfold Builtin.Str.tooLong
    rw [sizeLine_eq]
    exact decide_eq_false (by omega)
  · rw [if_neg (by omega), if_neg (by rw [c1]; exact Bool.false_ne_true)]
    exact ⟨hz, .str (repS a n), H, I.tok _, ⟨_, rfl⟩, q⟩
theorem pr_mulS {K : PySem.W.Frag} : PrimR K (u2 fun x y H Q => ∃ a n, x = .str a ∧ y = .int n ∧ a.length = 1 ∧ 2 ≤ n ∧ n ≤ 100000 ∧ Q (.str (repS a n)) H) pMulS := by
  intro vs ds d H Q h e q
  unfold pMulS at e
  split at e
  · obtain ⟨x, y, F, G, rfl, o1, o2⟩ := h.two
    split at e
    · rename_i hc
      cases e
      cases o1
      cases o2
      exact ⟨_, _, rfl, rfl, hc.1, hc.2.1, hc.2.2, q _ _ (.sc (.str _))⟩
    · cases e
  · cases e
open PySem.Calls PySem.NumText PyProof.Rows in
theorem call_int_ten (hd : PySem.W.nsIn X.K cStatics "sys.int_max_str_digits" = some none) (n : Nat) (h1 : 640 ≤ n) (h2 : n ≤ 4200) : CallR X (.type "int") (fun xs H Q => xs = [.str (tenS n)] ∧ Q (.int (tenN n)) H) := by
  intro pins s σ H xs us Q I rs h
  obtain ⟨rfl, q⟩ := h
  cases rs with
  | cons r1 rs =>
    cases rs
    obtain ⟨t, rfl⟩ := r1
    have e := ten_int n (by omega)
    have hl : ¬ (numSeenOf (tenS n)).length ≤ 640 := by
      rw [ten_seen]
      unfold tenL
      rw [List.length_cons, List.length_replicate]; omega
    have hx : (tenS n).length ≤ sizeLine := by
      show (tenL n).toArray.size ≤ sizeLine
      rw [List.size_toArray, sizeLine_eq]
      unfold tenL
      rw [List.length_cons, List.length_replicate]; omega
    exact call_int_1 (meets_textL hl hx e) ⟨⟨X.K, I.kIn, hd⟩, rfl, .int _, H, I.tok _, ⟨_, rfl⟩, q⟩
theorem pr_intTen {K : PySem.W.Frag} (n : Nat) : PrimR K (fun xs H Q => xs = [.str (tenS n)] ∧ Q (.int (tenN n)) H) (pIntTen n) := by
  intro vs ds d H Q h e q
  unfold pIntTen at e
  split at e
  · obtain ⟨x, F, rfl, o⟩ := h.one
    split at e
    · rename_i hc
      subst hc
      cases e
      cases o
      exact ⟨rfl, q _ _ (.sc (.int _))⟩
    · cases e
  · cases e
def oTen (n : Nat) : O := oPrim (pIntTen n) (aCons (o2 pAdd (oC (.str "1")) (o2 pMulS (oC (.str "0")) (oC (.int (n : Int))))) aNil)
theorem rep_len : ∀ (k : Nat) (acc : Array Nat), (List.replicate k (#[48] : Array Nat)).foldl (· ++ ·) acc = acc ++ (List.replicate k 48).toArray
  | 0, acc => by simp
  | k + 1, acc => by
    rw [List.replicate_succ, List.foldl_cons, rep_len k, List.replicate_succ]
    apply Array.ext'
    simp
theorem rep_eq (n : Nat) : repS ⟨#[48]⟩ n = ⟨(List.replicate n 48).toArray⟩ := by
  unfold repS
  rw [rep_len, Int.toNat_natCast]
  simp
theorem ten_eq (n : Nat) (h : n + 1 ≤ 1000000) : pAdd [.str "1", .str (repS "0" n)] = some (.str (tenS n)) := by
  have h0 : ("0" : Str) = ⟨#[48]⟩ := by decide +kernel
  have h1 : ("1" : Str) = ⟨#[49]⟩ := by decide +kernel
  rw [h0, h1, rep_eq]
  have l2 : (⟨(List.replicate n 48).toArray⟩ : Str).length = n := by
    show (List.replicate n 48).toArray.size = n
    rw [List.size_toArray, List.length_replicate]
  have l1 : (⟨#[49]⟩ : Str).length = 1 := rfl
  show (if (⟨#[49]⟩ : Str).length + (⟨(List.replicate n 48).toArray⟩ : Str).length ≤ 1000000 then some (PyData.str (_ ++ _)) else none) = _
  rw [l2, l1, if_pos (by omega)]
  refine congrArg (fun z => some (PyData.str z)) ?_
  show (⟨#[49] ++ (List.replicate n 48).toArray⟩ : Str) = ⟨(49 :: List.replicate n 48).toArray⟩
  congr 1
  apply Array.ext'
  simp
theorem ev_ten (n : Nat) (h1 : 2 ≤ n) (h2 : n ≤ 100000) (s : Sg) : oTen n s = .ok (.val (.int (tenN n))) s := by
  have h0 : ("0" : Str).length = 1 := by decide +kernel
  have m : pMulS [.str "0", .int (n : Int)] = some (.str (repS "0" n)) := by
    show (if ("0" : Str).length = 1 ∧ 2 ≤ (n : Int) ∧ (n : Int) ≤ 100000 then some (PyData.str (repS "0" n)) else none) = _
    rw [if_pos ⟨h0, by omega, by omega⟩]
  have t : pIntTen n [.str (tenS n)] = some (.int (tenN n)) := by
    show (if tenS n = tenS n then some (PyData.int (tenN n)) else none) = _
    rw [if_pos rfl]
  have t2 := ten_eq n (by omega)
  unfold oTen
  rw [ev_prim, ev_aCons, ev_o2, ev_oC, ev_ok, ev_consK, ev_aCons, ev_o2, ev_oC, ev_ok, ev_consK, ev_aCons, ev_oC, ev_ok, ev_consK, ev_aNil, ev_ok, ev_consK2, ev_ok, ev_consK2, ev_ok, ev_primK]
  rw [rds_cons, rd_val, rds_cons, rd_val, rds_nil, rdsK_some, rdsK_some, ev_primK2, m, ev_primK3, ev_ok, ev_consK, ev_aNil, ev_ok, ev_consK2, ev_ok, ev_consK2, ev_ok, ev_primK]
  rw [rds_cons, rd_val, rds_cons, rd_val, rds_nil, rdsK_some, rdsK_some, ev_primK2, t2, ev_primK3, ev_ok, ev_consK, ev_aNil, ev_ok, ev_consK2, ev_ok, ev_primK]
  rw [rds_cons, rd_val, rds_nil, rdsK_some, ev_primK2, t, ev_primK3]
end
end Sim
namespace Sim
open PySem PySem.Spec L2
section
variable {X : Cx} {K : PySem.W.Frag} {lk : Nat → Bool}
end
end Sim
namespace Sim
open PySem PySem.Spec L2
section
variable {K : PySem.W.Frag} {H : Hp}
end
section
variable {X : Cx}
end
end Sim
namespace Sim
open PySem PySem.Spec L2
open Sem (wp)
section
variable {prog : Program} {w : World} {A : Around} {E : Value → Shared → Prop} {s : Shared} {z TI TO i1 i2 : Addr} {fp1 fp2 : List Addr} {n1 n2 i : Nat} {P1 P2 : Nat → Value → Prop} {St1 St2 : Nat → Heap → Prop} {a1 a2 : Value} {f : Value} {b : Bool}
end
end Sim
namespace Sim
open PySem PySem.Spec L2
open Sem (wp)
end Sim
namespace Sim
open PySem PySem.Spec L2
open Sem (wp)
section
variable {prog : Program} {w : World} {A : Around} {E : Value → Shared → Prop} {k l : Bool} {z TI TO i1 i2 a b S : Addr} {xs ys : Array Value} {n0 : Nat}
/-- all but these stands -/
def KeepBut (fp : List Addr) (s s' : Shared) : Prop := (∀ c o, c ∉ fp → s.heap.get? c = some o → s'.heap.get? c = some o) ∧ s'.gens = s.gens ∧ s'.drawn = s.drawn ∧ s'.os = s.os
theorem KeepBut.trans {fp : List Addr} {s s' s'' : Shared} (h : KeepBut fp s s') (h' : KeepBut fp s' s'') : KeepBut fp s s'' :=
  ⟨fun c o q e => h'.1 c o q (h.1 c o q e), h'.2.1.trans h.2.1, h'.2.2.1.trans h.2.2.1, h'.2.2.2.trans h.2.2.2⟩
end
end Sim
namespace Sim
open PySem PySem.Spec L2 PySem.SeqAt
mutual
def flat : D → List Int
  | .int i => [i]
  | .tuple ds => flats ds
  | _ => []
def flats : List D → List Int
  | [] => []
  | d :: ds => flat d ++ flats ds
end
mutual
/-- of one shape, numbers within -/
def alike : D → D → Bool
  | .int _, .int _ => true
  | .tuple ds, .tuple es => alikes ds es
  | _, _ => false
def alikes : List D → List D → Bool
  | [], [] => true
  | d :: ds, e :: es => alike d e && alikes ds es
  | _, _ => false
end
mutual
/-- how deep, 0 a number -/
def deepD : D → Nat
  | .tuple ds => 1 + deepsD ds
  | _ => 0
def deepsD : List D → Nat
  | [] => 0
  | d :: ds => max (deepD d) (deepsD ds)
end
mutual
def Rn (h : Heap) : D → Value → Prop
  | .int i, v => ∃ t, v = .int i t
  | .tuple ds, v => ∃ a o xs n, v = .ref a ∧ h.get? a = some o ∧ o.cls = .type "tuple" ∧ o.data = .seq xs n ∧ Rns h ds xs.toList
  | _, _ => False
def Rns (h : Heap) : List D → List Value → Prop
  | [], [] => True
  | d :: ds, v :: vs => Rn h d v ∧ Rns h ds vs
  | _, _ => False
end
def lexI : List Int → List Int → Bool
  | [], [] => false
  | [], _ :: _ => true
  | _ :: _, [] => false
  | x :: xs, y :: ys => if x = y then lexI xs ys else decide (x < y)
theorem lexI_cons (x y : Int) (xs ys : List Int) : lexI (x :: xs) (y :: ys) = if x = y then lexI xs ys else decide (x < y) := rfl
theorem lexI_app : ∀ (a a' b b' : List Int), a.length = a'.length → lexI (a ++ b) (a' ++ b') = if a = a' then lexI b b' else lexI a a'
  | [], [], b, b', _ => by rw [if_pos rfl]; rfl
  | x :: a, y :: a', b, b', h => by
    have ih := lexI_app a a' b b' (by simpa using h)
    simp only [List.cons_append, lexI_cons]
    by_cases e : x = y
    · subst e
      simp only [if_true, ih]
      by_cases e2 : a = a'
      · simp [e2]
      · simp [e2]
    · simp [e]
  | [], _ :: _, _, _, h => by simp at h
  | _ :: _, [], _, _, h => by simp at h
theorem lexI_asym : ∀ a b : List Int, lexI a b = true → lexI b a = false
  | [], [], h => by cases h
  | [], _ :: _, _ => rfl
  | _ :: _, [], h => by cases h
  | x :: a, y :: b, h => by
    rw [lexI_cons] at h ⊢
    by_cases e : x = y
    · rw [if_pos e] at h
      rw [if_pos e.symm]
      exact lexI_asym a b h
    · rw [if_neg e] at h
      rw [if_neg (Ne.symm e)]
      have := of_decide_eq_true h
      exact decide_eq_false (by omega)
theorem lexI_tr : ∀ a b c : List Int, lexI b a = false → lexI c b = false → lexI c a = false
  | [], b, c, h1, h2 => by
    cases c with
    | nil => rfl
    | cons z c => rfl
  | x :: a, [], c, h1, h2 => by cases h1
  | x :: a, y :: b, [], h1, h2 => by cases h2
  | x :: a, y :: b, z :: c, h1, h2 => by
    rw [lexI_cons] at h1 h2 ⊢
    by_cases e1 : y = x
    · subst e1
      rw [if_pos rfl] at h1
      by_cases e2 : z = y
      · subst e2
        rw [if_pos rfl] at h2 ⊢
        exact lexI_tr a b c h1 h2
      · rw [if_neg e2] at h2 ⊢
        exact h2
    · rw [if_neg e1] at h1
      have g1 := of_decide_eq_false h1
      by_cases e2 : z = y
      · subst e2
        rw [if_neg e1]
        exact h1
      · rw [if_neg e2] at h2
        have g2 := of_decide_eq_false h2
        rw [if_neg (by omega)]
        exact decide_eq_false (by omega)
theorem swo_flat {α : Type} (k : α → List Int) : SrtO.Swo (fun v u : α => lexI (k v) (k u)) := ⟨fun x y h => lexI_asym _ _ h, fun x y z h1 h2 => lexI_tr _ _ _ h1 h2⟩
mutual
theorem alike_len : ∀ d e : D, alike d e = true → (flat d).length = (flat e).length
  | .int _, .int _, _ => rfl
  | .tuple ds, .tuple es, h => by
    have h : alikes ds es = true := by simpa [alike] using h
    exact alikes_len ds es h
  | .none, _, h | .bool _, _, h | .str _, _, h | .list _, _, h | .dict _, _, h => by simp [alike] at h
  | .int _, .none, h | .int _, .bool _, h | .int _, .str _, h | .int _, .list _, h | .int _, .dict _, h | .int _, .tuple _, h => by simp [alike] at h
  | .tuple _, .none, h | .tuple _, .bool _, h | .tuple _, .str _, h | .tuple _, .list _, h | .tuple _, .dict _, h | .tuple _, .int _, h => by simp [alike] at h
theorem alikes_len : ∀ ds es : List D, alikes ds es = true → (flats ds).length = (flats es).length
  | [], [], _ => rfl
  | d :: ds, e :: es, h => by
    simp only [alikes, Bool.and_eq_true] at h
    show (flat d ++ flats ds).length = (flat e ++ flats es).length
    rw [List.length_append, List.length_append, alike_len d e h.1, alikes_len ds es h.2]
  | [], _ :: _, h | _ :: _, [], h => by simp [alikes] at h
end
theorem alikes_size : ∀ ds es : List D, alikes ds es = true → ds.length = es.length
  | [], [], _ => rfl
  | d :: ds, e :: es, h => by
    simp only [alikes, Bool.and_eq_true] at h
    exact congrArg (· + 1) (alikes_size ds es h.2)
  | [], _ :: _, h | _ :: _, [], h => by simp [alikes] at h
theorem app_inj {a a' b b' : List Int} (h : a.length = a'.length) : a ++ b = a' ++ b' ↔ a = a' ∧ b = b' := ⟨fun e => List.append_inj e h, fun ⟨e, e'⟩ => by rw [e, e']⟩
theorem Rns.len : ∀ {h : Heap} {ds : List D} {vs : List Value}, Rns h ds vs → vs.length = ds.length
  | _, [], [], _ => rfl
  | _, d :: ds, v :: vs, r => congrArg (· + 1) (Rns.len r.2)
  | _, [], _ :: _, r => r.elim
  | _, _ :: _, [], r => r.elim
/-- keeps all tuples -/
def KeepT (h h' : Heap) : Prop := ∀ b o, h.get? b = some o → o.cls = .type "tuple" → h'.get? b = some o
mutual
theorem Rn.keep {h h' : Heap} (k : KeepT h h') : ∀ {d : D} {v : Value}, Rn h d v → Rn h' d v
  | .int _, _, r => r
  | .tuple ds, _, ⟨a, o, xs, n, e, ho, hc, hd, r⟩ => ⟨a, o, xs, n, e, k a o ho hc, hc, hd, Rns.keep k r⟩
  | .none, _, r | .bool _, _, r | .str _, _, r | .list _, _, r | .dict _, _, r => r.elim
theorem Rns.keep {h h' : Heap} (k : KeepT h h') : ∀ {ds : List D} {vs : List Value}, Rns h ds vs → Rns h' ds vs
  | [], [], _ => trivial
  | _ :: _, _ :: _, r => ⟨Rn.keep k r.1, Rns.keep k r.2⟩
  | [], _ :: _, r => r.elim
  | _ :: _, [], r => r.elim
end
mutual
theorem Rn.inj {h : Heap} : ∀ {d d' : D} {v : Value}, Rn h d v → Rn h d' v → d = d'
  | .int i, d', v, ⟨t, e⟩, r' => by
    subst e
    cases d' with
    | int j => obtain ⟨u, e⟩ := r'; cases e; rfl
    | tuple es => obtain ⟨a, o, xs, n, e, _⟩ := r'; cases e
    | _ => exact r'.elim
  | .tuple ds, d', v, ⟨a, o, xs, n, e, ho, hc, hd, r⟩, r' => by
    subst e
    cases d' with
    | int j => obtain ⟨u, e⟩ := r'; cases e
    | tuple es =>
      obtain ⟨a', o', xs', n', e', ho', hc', hd', r'⟩ := r'
      cases e'
      rw [ho] at ho'
      cases ho'
      rw [hd] at hd'
      cases hd'
      rw [Rns.inj r r']
    | _ => exact r'.elim
  | .none, _, _, r, _ | .bool _, _, _, r, _ | .str _, _, _, r, _ | .list _, _, _, r, _ | .dict _, _, _, r, _ => r.elim
theorem Rns.inj {h : Heap} : ∀ {ds ds' : List D} {vs : List Value}, Rns h ds vs → Rns h ds' vs → ds = ds'
  | [], [], _, _, _ => rfl
  | d :: ds, d' :: ds', v :: vs, r, r' => by rw [Rn.inj r.1 r'.1, Rns.inj r.2 r'.2]
  | [], _ :: _, [], _, r' => r'.elim
  | [], _ :: _, _ :: _, r, _ => r.elim
  | _ :: _, [], [], r, _ => r.elim
  | _ :: _, [], _ :: _, _, r' => r'.elim
  | _ :: _, _ :: _, [], r, _ => r.elim
end
theorem Rns.at {h : Heap} : ∀ {ds : List D} {vs : List Value}, Rns h ds vs → ∀ (j : Nat) (l : j < vs.length) (l2 : j < ds.length), Rn h ds[j] vs[j]
  | d :: ds, v :: vs, r, 0, _, _ => r.1
  | d :: ds, v :: vs, r, j + 1, l, l2 => Rns.at r.2 j (by simpa using l) (by simpa using l2)
  | [], [], _, _, l, _ => absurd l (by simp)
  | [], _ :: _, r, _, _, _ => r.elim
  | _ :: _, [], r, _, _, _ => r.elim
theorem alikes_at : ∀ {ds es : List D}, alikes ds es = true → ∀ (j : Nat) (l : j < ds.length) (l2 : j < es.length), alike ds[j] es[j] = true
  | d :: ds, e :: es, h, 0, _, _ => by simp only [alikes, Bool.and_eq_true] at h; exact h.1
  | d :: ds, e :: es, h, j + 1, l, l2 => by simp only [alikes, Bool.and_eq_true] at h; exact alikes_at h.2 j (by simpa using l) (by simpa using l2)
  | [], _, _, _, l, _ => absurd l (by simp)
  | _ :: _, [], _, _, _, l => absurd l (by simp)
theorem deeps_at : ∀ (ds : List D) (j : Nat) (l : j < ds.length), deepD ds[j] ≤ deepsD ds
  | d :: ds, 0, _ => Nat.le_max_left _ _
  | d :: ds, j + 1, l => Nat.le_trans (deeps_at ds j (by simpa using l)) (Nat.le_max_right _ _)
  | [], _, l => absurd l (by simp)
theorem all_flats : ∀ (ds es : List D), alikes ds es = true → (List.range ds.length).all (fun j => decide (flat (ds.getD j .none) = flat (es.getD j .none))) = decide (flats ds = flats es)
  | [], [], _ => by simp [flats]
  | d :: ds, e :: es, h => by
    simp only [alikes, Bool.and_eq_true] at h
    have ih := all_flats ds es h.2
    rw [List.length_cons, List.range_succ_eq_map, List.all_cons, List.all_map]
    have e1 : ((fun j => decide (flat ((d :: ds).getD j .none) = flat ((e :: es).getD j .none))) ∘ Nat.succ) = fun j => decide (flat (ds.getD j .none) = flat (es.getD j .none)) := by funext j; simp
    rw [e1, ih]
    show (decide (flat d = flat e) && decide (flats ds = flats es)) = decide (flat d ++ flats ds = flat e ++ flats es)
    have := app_inj (b := flats ds) (b' := flats es) (alike_len d e h.1)
    rw [← Bool.decide_and]
    exact decide_eq_decide.mpr this.symm
  | [], _ :: _, h | _ :: _, [], h => by simp [alikes] at h
theorem firstLt_flats (ds es : List D) : ∀ (n i : Nat) , alikes ds es = true → ds.length - i = n → i ≤ ds.length →
    firstLt (fun j => decide (flat (ds.getD j .none) = flat (es.getD j .none))) (fun j => lexI (flat (ds.getD j .none)) (flat (es.getD j .none))) false ((List.range ds.length).drop i) = lexI (flats (ds.drop i)) (flats (es.drop i)) := by
  intro n
  induction n with
  | zero =>
    intro i h hn hi
    have e : i = ds.length := by omega
    subst e
    rw [List.drop_of_length_le (by simp), List.drop_of_length_le (Nat.le_refl _), List.drop_of_length_le (by rw [alikes_size ds es h]; exact Nat.le_refl _)]
    rfl
  | succ n ih =>
    intro i h hn hi
    have l : i < ds.length := by omega
    have l2 : i < es.length := by rw [← alikes_size ds es h]; exact l
    have hd : (List.range ds.length).drop i = i :: (List.range ds.length).drop (i + 1) := by rw [List.drop_eq_getElem_cons (by simpa using l)]; simp
    rw [hd, List.drop_eq_getElem_cons l, List.drop_eq_getElem_cons l2]
    show _ = lexI (flat ds[i] ++ flats (ds.drop (i + 1))) (flat es[i] ++ flats (es.drop (i + 1)))
    rw [lexI_app _ _ _ _ (alike_len _ _ (alikes_at h i l l2))]
    have g1 : ds.getD i .none = ds[i] := by simp [List.getD, l]
    have g2 : es.getD i .none = es[i] := by simp [List.getD, l2]
    by_cases c : flat ds[i] = flat es[i]
    · rw [firstLt_yes (by rw [g1, g2]; exact decide_eq_true c), if_pos c]
      exact ih (i + 1) h (by omega) (by omega)
    · rw [firstLt_no (by rw [g1, g2]; exact decide_eq_false c), if_neg c, g1, g2]
theorem rn_eq : ∀ (m : Nat) (d e : D), deepD d < m → ∀ {A : Around} {s : Shared} {v u : Value}, Rn s.heap d v → Rn s.heap e u → alike d e = true → A.units + deepD d < cLine → EqAt A s v u (decide (flat d = flat e))
  | 0, _, _, h, _, _, _, _, _, _, _, _ => absurd h (Nat.not_lt_zero _)
  | m + 1, d, e, hm, A, s, v, u, r, r', h, hu => by
    cases d with
    | int i =>
      cases e with
      | int j =>
        obtain ⟨t, e1⟩ := r
        obtain ⟨t', e2⟩ := r'
        subst e1 e2
        have := EqAt.int_int (A := A) (s := s) i t j t'
        have e : decide (flat (.int i) = flat (.int j)) = (i == j) := by
          show decide ([i] = [j]) = _
          by_cases c : i = j
          · subst c; simp
          · simp [c]
        rw [e]; exact this
      | _ => simp [alike] at h
    | tuple ds =>
      cases e with
      | tuple es =>
        obtain ⟨a, o, xs, n, e1, ho, hc, hd, r⟩ := r
        obtain ⟨a', o', xs', n', e2, ho', hc', hd', r'⟩ := r'
        have h : alikes ds es = true := by simpa [alike] using h
        have hu : A.units + (1 + deepsD ds) < cLine := hu
        have hm : 1 + deepsD ds < m + 1 := hm
        subst e1 e2
        by_cases c : a = a'
        · subst c
          rw [ho] at ho'
          cases ho'
          rw [hd] at hd'
          cases hd'
          have := Rns.inj r r'
          subst this
          rw [decide_eq_true rfl]
          exact EqAt.same _
        · have l1 := Rns.len r
          have l2 := Rns.len r'
          have ls := alikes_size ds es h
          rw [Array.length_toList] at l1 l2
          have k := RcAt.tuples (A := A) (s := s) (e := fun j => decide (flat (ds.getD j .none) = flat (es.getD j .none))) ⟨o, ho, hc, n, hd⟩ ⟨o', ho', hc', n', hd'⟩ (by omega) (fun j h1 h2 => ?_)
          · refine EqAt.of_refs c ?_
            have e3 : ((List.range (min xs.size xs'.size)).all (fun j => decide (flat (ds.getD j .none) = flat (es.getD j .none))) && xs.size == xs'.size) = decide (flat (.tuple ds) = flat (.tuple es)) := by
              rw [l1, l2, ← ls, Nat.min_self, all_flats ds es h]
              simp only [flat, BEq.rfl, Bool.and_true]
              exact decide_eq_decide.mpr Iff.rfl
            rw [e3] at k
            exact k
          · have q1 : j < ds.length := by omega
            have q2 : j < es.length := by omega
            have g1 : ds.getD j .none = ds[j] := by simp [List.getD, q1]
            have g2 : es.getD j .none = es[j] := by simp [List.getD, q2]
            rw [g1, g2]
            have z1 := Rns.at r j (by simpa using h1) q1
            have z2 := Rns.at r' j (by simpa using h2) q2
            rw [Array.getElem_toList] at z1 z2
            have := deeps_at ds j q1
            exact rn_eq m ds[j] es[j] (by omega) z1 z2 (alikes_at h j q1 q2) (by show A.units + 1 + _ < _; omega)
      | _ => simp [alike] at h
    | _ => exact r.elim
theorem rn_lt : ∀ (m : Nat) (d e : D), deepD d < m → ∀ {A : Around} {s : Shared} {v u : Value}, Rn s.heap d v → Rn s.heap e u → alike d e = true → A.units + deepD d < cLine → RcLt A s v u (lexI (flat d) (flat e))
  | 0, _, _, h, _, _, _, _, _, _, _, _ => absurd h (Nat.not_lt_zero _)
  | m + 1, d, e, hm, A, s, v, u, r, r', h, hu => by
    cases d with
    | int i =>
      cases e with
      | int j =>
        obtain ⟨t, e1⟩ := r
        obtain ⟨t', e2⟩ := r'
        subst e1 e2
        intro prog w E Q q
        have e : lexI (flat (.int i)) (flat (.int j)) = decide (i < j) := by
          show lexI [i] [j] = _
          rw [lexI_cons]
          by_cases c : i = j
          · subst c; simp [lexI]
          · rw [if_neg c]
        rw [e] at q
        exact (PyProof.Rows.lt_int q : wpAny (model prog w) A (compareOp .Lt (.int i t) (.int j t')) Q E s)
      | _ => simp [alike] at h
    | tuple ds =>
      cases e with
      | tuple es =>
        obtain ⟨a, o, xs, n, e1, ho, hc, hd, r⟩ := r
        obtain ⟨a', o', xs', n', e2, ho', hc', hd', r'⟩ := r'
        have h : alikes ds es = true := by simpa [alike] using h
        have hu : A.units + (1 + deepsD ds) < cLine := hu
        have hm : 1 + deepsD ds < m + 1 := hm
        subst e1 e2
        have l1 := Rns.len r
        have l2 := Rns.len r'
        have ls := alikes_size ds es h
        rw [Array.length_toList] at l1 l2
        have it : ∀ j (h1 : j < xs.size) (h2 : j < xs'.size), Rn s.heap (ds.getD j .none) xs[j] ∧ Rn s.heap (es.getD j .none) xs'[j] ∧ alike (ds.getD j .none) (es.getD j .none) = true ∧ deepD (ds.getD j .none) ≤ deepsD ds := fun j h1 h2 => by
          have q1 : j < ds.length := by omega
          have q2 : j < es.length := by omega
          have g1 : ds.getD j .none = ds[j] := by simp [List.getD, q1]
          have g2 : es.getD j .none = es[j] := by simp [List.getD, q2]
          rw [g1, g2]
          have z1 := Rns.at r j (by simpa using h1) q1
          have z2 := Rns.at r' j (by simpa using h2) q2
          rw [Array.getElem_toList] at z1 z2
          exact ⟨z1, z2, alikes_at h j q1 q2, deeps_at ds j q1⟩
        have k := RcLt.tuples (A := A) (s := s) (e := fun j => decide (flat (ds.getD j .none) = flat (es.getD j .none))) (r := fun j => lexI (flat (ds.getD j .none)) (flat (es.getD j .none))) ⟨o, ho, hc, n, hd⟩ ⟨o', ho', hc', n', hd'⟩ (by omega)
          (fun j h1 h2 => by
            obtain ⟨z1, z2, z3, z4⟩ := it j h1 h2
            exact rn_eq m _ _ (by omega) z1 z2 z3 (by show A.units + 1 + _ < _; omega))
          (fun j h1 h2 _ => by
            obtain ⟨z1, z2, z3, z4⟩ := it j h1 h2
            exact rn_lt m _ _ (by omega) z1 z2 z3 (by show A.units + 1 + _ < _; omega))
        have e3 : firstLt (fun j => decide (flat (ds.getD j .none) = flat (es.getD j .none))) (fun j => lexI (flat (ds.getD j .none)) (flat (es.getD j .none))) (decide (xs.size < xs'.size)) (List.range (min xs.size xs'.size)) = lexI (flat (.tuple ds)) (flat (.tuple es)) := by
          rw [l1, l2, ← ls, Nat.min_self, decide_eq_false (Nat.lt_irrefl _)]
          exact firstLt_flats ds es _ 0 h rfl (Nat.zero_le _)
        rw [e3] at k
        exact k
      | _ => simp [alike] at h
    | _ => exact r.elim
section
variable {prog : Program} {w : World} {A : Around} {s : Shared}
theorem kat_rn {b : Bool} {Q : Bool → Shared → Prop} {B : Nat} (hu : A.units + B < cLine) : ∀ (ds es : List D) (vs us : List Value) (i : Nat), Rns s.heap ds vs → Rns s.heap es us → alikes ds es = true → deepsD ds ≤ B → (i = 0 → b = true → ∀ d ∈ ds.head?, ∃ n, d = .int n) →
    Q (lexI (flats ds) (flats es)) s → PySem.W.KatLex prog w A b false Q (vs.zip us) i s
  | [], [], [], [], _, _, _, _, _, _, q => q
  | d :: ds, e :: es, v :: vs, u :: us, i, r, r', h, hB, h0, q => by
    simp only [alikes, Bool.and_eq_true] at h
    have hB : max (deepD d) (deepsD ds) ≤ B := hB
    have q : Q (lexI (flat d ++ flats ds) (flat e ++ flats es)) s := q
    rw [lexI_app _ _ _ _ (alike_len d e h.1)] at q
    refine PySem.W.kat_cons (rn_eq _ d e (Nat.lt_succ_self _) r.1 r'.1 h.1 (by omega) prog w _ _ ?_)
    refine PySem.W.kat_go (fun c => ?_) (fun c => ?_)
    · have c := of_decide_eq_true c
      rw [if_pos c] at q
      exact PySem.W.kat_yes (kat_rn hu ds es vs us (i + 1) r.2 r'.2 h.2 (by omega) (fun z => absurd z (by omega)) q)
    · have c := of_decide_eq_false c
      rw [if_neg c] at q
      refine PySem.W.kat_no ?_
      by_cases z : (b && i == 0) = true
      · rw [z]
        obtain ⟨n, rfl⟩ := h0 (by simpa using (Bool.and_eq_true_iff.mp z).2) (Bool.and_eq_true_iff.mp z).1 d rfl
        cases e with
        | int m =>
          obtain ⟨t, e1⟩ := r.1
          obtain ⟨t', e2⟩ := r'.1
          subst e1 e2
          have e3 : lexI (flat (.int n)) (flat (.int m)) = decide (n < m) := by
            show lexI [n] [m] = _
            rw [lexI_cons, if_neg (fun x => c (by rw [x]))]
          rw [e3] at q
          exact PyProof.Rows.oneLt_int q
        | _ => simp [alike] at h
      · have z : (b && i == 0) = false := by simpa using z
        rw [z]
        exact PySem.W.kat_one _ _ (rn_lt _ d e (Nat.lt_succ_self _) r.1 r'.1 h.1 (by omega) prog w _ _ q)
  | [], [], _ :: _, _, _, r, _, _, _, _, _ => r.elim
  | [], [], [], _ :: _, _, _, r, _, _, _, _ => r.elim
  | _ :: _, _, [], _, _, r, _, _, _, _, _ => r.elim
  | _ :: _, _ :: _, _ :: _, [], _, _, r, _, _, _, _ => r.elim
  | [], _ :: _, _, _, _, _, _, h, _, _, _ | _ :: _, [], _, _, _, _, _, h, _, _, _ => by simp [alikes] at h
end
end Sim
namespace Sim
open PySem PySem.Spec L2 PySem.SeqAt SrtO
section
variable {prog : Program} {w : World} {A : Around} {s : Shared}
theorem rn_firsts {h : Heap} {k : Value → D} : ∀ {vs : List Value}, (∀ v ∈ vs, ∃ c cs, k v = .tuple (c :: cs) ∧ Rn h (k v) v) → ∃ fs : List Value, PySem.W.KatTups h vs fs ∧ fs.length = vs.length ∧ ∀ f ∈ fs, ∃ v ∈ vs, ∃ c cs, k v = .tuple (c :: cs) ∧ Rn h c f
  | [], _ => ⟨[], PySem.W.KatTups.nil, rfl, fun _ hm => by simp at hm⟩
  | v :: vs, hp => by
    obtain ⟨fs, h1, h2, h3⟩ := rn_firsts (vs := vs) fun v' hm => hp v' (List.mem_cons_of_mem _ hm)
    obtain ⟨c, cs, e, r⟩ := hp v (List.mem_cons_self ..)
    rw [e] at r
    obtain ⟨a, o, xs, n, e2, ho, hc, hd, r⟩ := r
    subst e2
    obtain ⟨xl⟩ := xs
    cases xl with
    | nil => exact r.elim
    | cons x xl =>
      refine ⟨x :: fs, PySem.W.KatTups.cons ho hc hd (by simp) h1, by rw [List.length_cons, List.length_cons, h2], fun f hm => ?_⟩
      rcases List.mem_cons.mp hm with rfl | hm
      · exact ⟨_, List.mem_cons_self .., c, cs, e, r.1⟩
      · obtain ⟨v', m', z⟩ := h3 f hm
        exact ⟨v', List.mem_cons_of_mem _ m', z⟩
theorem rn_sortable {a : Addr} {vs : List Value} {k : Value → D} {B : Nat} (h0 : 0 < vs.length) (hr : ∀ v ∈ vs, ∃ c cs, k v = .tuple (c :: cs) ∧ Rn s.heap (k v) v) (hal : ∀ v ∈ vs, ∀ u ∈ vs, alike (k v) (k u) = true) (hB : ∀ v ∈ vs, deepD (k v) ≤ B) (hu : A.units + B < cLine)
    (ha : ∀ o, s.heap.get? a = some o → o.cls ≠ .type "tuple") : SortableO prog w A s a vs fun v u => lexI (flat (k v)) (flat (k u)) := by
  intro h' keep
  have hk : KeepT s.heap h' := fun b o e c => keep b o (fun z => by subst z; exact ha o e c) e
  have hp : ∀ v ∈ vs, ∃ c cs, k v = .tuple (c :: cs) ∧ Rn h' (k v) v := fun v hm => by
    obtain ⟨c, cs, e, r⟩ := hr v hm
    exact ⟨c, cs, e, r.keep hk⟩
  obtain ⟨fs, h1, h2, h3⟩ := rn_firsts hp
  obtain ⟨v0, hv0⟩ : ∃ v0, v0 ∈ vs := by
    cases vs with
    | nil => exact absurd h0 (by simp)
    | cons v vs => exact ⟨v, List.mem_cons_self ..⟩
  obtain ⟨c0, cs0, e0, r0⟩ := hp v0 hv0
  -- the comparison, whichever kind
  have cmp : ∀ b : Bool, (b = true → ∃ n, c0 = .int n) → Cmp prog w A { s with heap := h' } (PyProof.Rows.tuples' b) (fun p => p.1 ∈ vs) (lt2 fun v u => lexI (flat (k v)) (flat (k u))) := by
    intro b hb p q hm hm'
    obtain ⟨c, cs, e, r⟩ := hp _ hm
    obtain ⟨c', cs', e', r'⟩ := hp _ hm'
    have al := hal _ hm _ hm'
    have al0 := hal _ hm _ hv0
    have dB := hB _ hm
    show wpAny (model prog w) A (PyProof.Rows.keyLt' (PyProof.Rows.tuples' b) p.1 q.1) (fun z s' => s' = { s with heap := h' } ∧ z = lexI (flat (k p.1)) (flat (k q.1))) (fun _ _ => False) { s with heap := h' }
    rw [e] at r al al0 dB ⊢
    rw [e'] at r' al ⊢
    rw [e0] at al0
    obtain ⟨a, o, xs, n, ev, ho, hc, hd, r⟩ := r
    obtain ⟨a', o', xs', n', ev', ho', hc', hd', r'⟩ := r'
    rw [ev, ev']
    have l1 := Rns.len r
    have l2 := Rns.len r'
    have al : alikes (c :: cs) (c' :: cs') = true := by simpa [alike] using al
    have al0 : alikes (c :: cs) (c0 :: cs0) = true := by simpa [alike] using al0
    have ls := alikes_size _ _ al
    rw [Array.length_toList] at l1 l2
    have dB : 1 + deepsD (c :: cs) ≤ B := dB
    refine PySem.W.kat_lt ho hd ho' hd' ?_
    rw [show decide (xs.size < xs'.size) = false from decide_eq_false (by omega)]
    refine kat_rn (s := { s with heap := h' }) (B := B) hu (c :: cs) (c' :: cs') _ _ 0 r r' al (by omega) (fun _ hb' d hd => ?_) ⟨rfl, rfl⟩
    have : d = c := by simpa using hd.symm
    subst this
    obtain ⟨n, rfl⟩ := hb hb'
    simp only [alikes, Bool.and_eq_true] at al0
    cases d with
    | int m => exact ⟨m, rfl⟩
    | _ => simp [alike] at al0
  have frs : ∀ f ∈ fs, ∃ c, Rn h' c f ∧ alike c c0 = true := fun f hf => by
    obtain ⟨v, hv, c, cs, e, r⟩ := h3 f hf
    refine ⟨c, r, ?_⟩
    have := hal v hv v0 hv0
    rw [e, e0] at this
    have : alikes (c :: cs) (c0 :: cs0) = true := by simpa [alike] using this
    simp only [alikes, Bool.and_eq_true] at this
    exact this.1
  cases c0 with
  | int n0 =>
    refine ⟨PyProof.Rows.tuples' true, fun Q E hq => ?_, cmp true fun _ => ⟨_, rfl⟩⟩
    refine PySem.W.kat_kind (s := { s with heap := h' }) (T := .type "int") h1 (by omega) (fun f hm => ?_) (by rfl) ?_
    · obtain ⟨c, r, al⟩ := frs f hm
      cases c with
      | int m =>
        obtain ⟨t, rfl⟩ := r
        exact PySem.W.Looks.now
      | _ => simp [alike] at al
    · have e : (Value.type "int" != Value.type "tuple") = true := by first | decide +kernel | rfl | decide
      rw [e]
      exact hq
  | tuple ds0 =>
    refine ⟨PyProof.Rows.tuples' false, fun Q E hq => ?_, cmp false fun z => by cases z⟩
    refine PySem.W.kat_kind (s := { s with heap := h' }) (T := .type "tuple") h1 (by omega) (fun f hm => ?_) (by rfl) ?_
    · obtain ⟨c, r, al⟩ := frs f hm
      cases c with
      | tuple es =>
        obtain ⟨a, o, xs, n, rfl, ho, hc, hd, _⟩ := r
        have z : PySem.W.Looks (model prog w) h' (typeOf (.ref a)) o.cls := (PySem.W.Looks.ld ho).andThen .now
        rw [hc] at z
        exact z
      | _ => simp [alike] at al
    · have e : (Value.type "tuple" != Value.type "tuple") = false := by first | decide +kernel | rfl | decide
      rw [e]
      exact hq
  | none => have z := hal v0 hv0 v0 hv0; rw [e0] at z; simp [alike, alikes] at z
  | bool _ => have z := hal v0 hv0 v0 hv0; rw [e0] at z; simp [alike, alikes] at z
  | str _ => have z := hal v0 hv0 v0 hv0; rw [e0] at z; simp [alike, alikes] at z
  | list _ => have z := hal v0 hv0 v0 hv0; rw [e0] at z; simp [alike, alikes] at z
  | dict _ => have z := hal v0 hv0 v0 hv0; rw [e0] at z; simp [alike, alikes] at z
end
section
variable {α : Type}
def insF (k : α → List Int) (d : α) : List α → List α
  | [] => [d]
  | e :: l => if lexI (k e) (k d) = true then e :: insF k d l else d :: e :: l
def sortF (k : α → List Int) : List α → List α
  | [] => []
  | d :: l => insF k d (sortF k l)
theorem insF_perm (k : α → List Int) (d : α) : ∀ l, (insF k d l).Perm (d :: l)
  | [] => .refl _
  | e :: l => by
    unfold insF
    split
    · exact ((insF_perm k d l).cons e).trans (.swap d e l)
    · exact .refl _
theorem sortF_perm (k : α → List Int) : ∀ l : List α, (sortF k l).Perm l
  | [] => .refl _
  | d :: l => (insF_perm k d _).trans ((sortF_perm k l).cons d)
abbrev ltF (k : α → List Int) (x y : α) : Bool := lexI (k x) (k y)
theorem insF_srt (k : α → List Int) (d : α) : ∀ l, Srtd (ltF k) l → Srtd (ltF k) (insF k d l)
  | [], _ => List.pairwise_singleton _ _
  | e :: l, h => by
    obtain ⟨h1, h2⟩ := List.pairwise_cons.mp h
    unfold insF
    split
    · rename_i c
      refine List.pairwise_cons.mpr ⟨fun x hx => ?_, insF_srt k d l h2⟩
      rcases List.mem_cons.mp ((insF_perm k d l).mem_iff.mp hx) with rfl | hx
      · exact lexI_asym _ _ c
      · exact h1 x hx
    · rename_i c
      have c : lexI (k e) (k d) = false := by simpa using c
      refine List.pairwise_cons.mpr ⟨fun x hx => ?_, h⟩
      rcases List.mem_cons.mp hx with rfl | hx
      · exact c
      · exact lexI_tr _ _ _ c (h1 x hx)
theorem sortF_srt (k : α → List Int) : ∀ l : List α, Srtd (ltF k) (sortF k l)
  | [] => .nil
  | d :: l => insF_srt k d _ (sortF_srt k l)
theorem insF_stb (k : α → List Int) (d : α) : ∀ l, Stb (ltF k) (insF k d l) (d :: l)
  | [] => Stb.refl _
  | e :: l => by
    have ih := insF_stb k d l
    unfold insF
    split
    · rename_i c
      refine ⟨(ih.perm.cons e).trans (.swap d e l), fun x => ?_⟩
      have z := ih.cls x
      -- not both are as x
      by_cases q1 : eqv (ltF k) x e = true
      · have q2 : ¬ eqv (ltF k) x d = true := fun q2 => by
          have a1 := eqv_iff.mp q1
          have a2 := eqv_iff.mp q2
          have := lexI_tr _ _ _ a2.1 a1.2
          have c' : lexI (k e) (k d) = true := c
          rw [this] at c'
          cases c'
        rw [List.filter_cons_of_pos q1, z, List.filter_cons_of_neg q2, List.filter_cons_of_neg q2, List.filter_cons_of_pos q1]
      · rw [List.filter_cons_of_neg q1, z]
        by_cases q2 : eqv (ltF k) x d = true
        · rw [List.filter_cons_of_pos q2, List.filter_cons_of_pos q2, List.filter_cons_of_neg q1]
        · rw [List.filter_cons_of_neg q2, List.filter_cons_of_neg q2, List.filter_cons_of_neg q1]
    · exact Stb.refl _
theorem sortF_stb (k : α → List Int) : ∀ l : List α, Stb (ltF k) (sortF k l) l
  | [] => Stb.refl _
  | d :: l => by
    have h1 := insF_stb k d (sortF k l)
    have h2 := sortF_stb k l
    refine ⟨h1.perm.trans (h2.perm.cons d), fun x => (h1.cls x).trans ?_⟩
    by_cases q : eqv (ltF k) x d = true
    · rw [List.filter_cons_of_pos q, List.filter_cons_of_pos q, h2.cls x]
    · rw [List.filter_cons_of_neg q, List.filter_cons_of_neg q, h2.cls x]
theorem sortF_uniq {k : α → List Int} {l m : List α} (h1 : Srtd (ltF k) l) (h2 : Stb (ltF k) l m) : l = sortF k m := by
  refine stb_uniq (swo_flat k) h1 (sortF_srt k m) ⟨h2.perm.trans (sortF_perm k m).symm, fun x => ?_⟩
  rw [h2.cls x, (sortF_stb k m).cls x]
end
/-- what can be sorted so: tuples, not empty, of one shape, not deep -/
def okN : List D → Bool
  | [] => true
  | d :: ds => (match d with | .tuple (_ :: _) => true | _ => false) && decide (deepD d ≤ 8) && (d :: ds).all fun e => alike d e
mutual
theorem alike_symm : ∀ d e : D, alike d e = true → alike e d = true
  | .int _, .int _, _ => rfl
  | .tuple ds, .tuple es, h => by
    have h : alikes ds es = true := by simpa [alike] using h
    show alikes es ds = true
    exact alikes_symm ds es h
  | .none, _, h | .bool _, _, h | .str _, _, h | .list _, _, h | .dict _, _, h => by simp [alike] at h
  | .int _, .none, h | .int _, .bool _, h | .int _, .str _, h | .int _, .list _, h | .int _, .dict _, h | .int _, .tuple _, h => by simp [alike] at h
  | .tuple _, .none, h | .tuple _, .bool _, h | .tuple _, .str _, h | .tuple _, .list _, h | .tuple _, .dict _, h | .tuple _, .int _, h => by simp [alike] at h
theorem alikes_symm : ∀ ds es : List D, alikes ds es = true → alikes es ds = true
  | [], [], _ => rfl
  | d :: ds, e :: es, h => by
    simp only [alikes, Bool.and_eq_true] at h ⊢
    exact ⟨alike_symm d e h.1, alikes_symm ds es h.2⟩
  | [], _ :: _, h | _ :: _, [], h => by simp [alikes] at h
end
mutual
theorem alike_trans : ∀ d e f : D, alike d e = true → alike e f = true → alike d f = true
  | .int _, .int _, .int _, _, _ => rfl
  | .tuple ds, .tuple es, .tuple fs, h, h2 => by
    have h : alikes ds es = true := by simpa [alike] using h
    have h2 : alikes es fs = true := by simpa [alike] using h2
    show alikes ds fs = true
    exact alikes_trans ds es fs h h2
  | .none, _, _, h, _ | .bool _, _, _, h, _ | .str _, _, _, h, _ | .list _, _, _, h, _ | .dict _, _, _, h, _ => by simp [alike] at h
  | .int _, .none, _, h, _ | .int _, .bool _, _, h, _ | .int _, .str _, _, h, _ | .int _, .list _, _, h, _ | .int _, .dict _, _, h, _ | .int _, .tuple _, _, h, _ => by simp [alike] at h
  | .tuple _, .none, _, h, _ | .tuple _, .bool _, _, h, _ | .tuple _, .str _, _, h, _ | .tuple _, .list _, _, h, _ | .tuple _, .dict _, _, h, _ | .tuple _, .int _, _, h, _ => by simp [alike] at h
  | .int _, .int _, .none, _, h | .int _, .int _, .bool _, _, h | .int _, .int _, .str _, _, h | .int _, .int _, .list _, _, h | .int _, .int _, .dict _, _, h | .int _, .int _, .tuple _, _, h => by simp [alike] at h
  | .tuple _, .tuple _, .none, _, h | .tuple _, .tuple _, .bool _, _, h | .tuple _, .tuple _, .str _, _, h | .tuple _, .tuple _, .list _, _, h | .tuple _, .tuple _, .dict _, _, h | .tuple _, .tuple _, .int _, _, h => by simp [alike] at h
theorem alikes_trans : ∀ ds es fs : List D, alikes ds es = true → alikes es fs = true → alikes ds fs = true
  | [], [], [], _, _ => rfl
  | d :: ds, e :: es, f :: fs, h, h2 => by
    simp only [alikes, Bool.and_eq_true] at h h2 ⊢
    exact ⟨alike_trans d e f h.1 h2.1, alikes_trans ds es fs h.2 h2.2⟩
  | [], _ :: _, _, h, _ | _ :: _, [], _, h, _ => by simp [alikes] at h
  | [], [], _ :: _, _, h | _ :: _, _ :: _, [], _, h => by simp [alikes] at h
end
mutual
theorem alike_deep : ∀ d e : D, alike d e = true → deepD d = deepD e
  | .int _, .int _, _ => rfl
  | .tuple ds, .tuple es, h => by
    have h : alikes ds es = true := by simpa [alike] using h
    show 1 + deepsD ds = 1 + deepsD es
    rw [alikes_deep ds es h]
  | .none, _, h | .bool _, _, h | .str _, _, h | .list _, _, h | .dict _, _, h => by simp [alike] at h
  | .int _, .none, h | .int _, .bool _, h | .int _, .str _, h | .int _, .list _, h | .int _, .dict _, h | .int _, .tuple _, h => by simp [alike] at h
  | .tuple _, .none, h | .tuple _, .bool _, h | .tuple _, .str _, h | .tuple _, .list _, h | .tuple _, .dict _, h | .tuple _, .int _, h => by simp [alike] at h
theorem alikes_deep : ∀ ds es : List D, alikes ds es = true → deepsD ds = deepsD es
  | [], [], _ => rfl
  | d :: ds, e :: es, h => by
    simp only [alikes, Bool.and_eq_true] at h
    show max _ _ = max _ _
    rw [alike_deep d e h.1, alikes_deep ds es h.2]
  | [], _ :: _, h | _ :: _, [], h => by simp [alikes] at h
end
theorem okN_all {ds : List D} (h : okN ds = true) : ∀ d ∈ ds, (∃ c cs, d = .tuple (c :: cs)) ∧ deepD d ≤ 8 ∧ ∀ e ∈ ds, alike d e = true := by
  cases ds with
  | nil => intro d hd; cases hd
  | cons d0 ds =>
    simp only [okN, Bool.and_eq_true, decide_eq_true_eq, List.all_eq_true] at h
    obtain ⟨⟨h1, h2⟩, h3⟩ := h
    have h0 : ∃ c cs, d0 = .tuple (c :: cs) := by
      split at h1
      · exact ⟨_, _, rfl⟩
      · cases h1
    intro d hd
    have z := h3 d hd
    refine ⟨?_, by rw [← alike_deep _ _ z]; exact h2, fun e he => alike_trans _ _ _ (alike_symm _ _ z) (h3 e he)⟩
    obtain ⟨c, cs, rfl⟩ := h0
    cases d with
    | tuple es =>
      cases es with
      | nil => simp [alike, alikes] at z
      | cons e es => exact ⟨e, es, rfl⟩
    | _ => simp [alike] at z
section
variable {X : Cx} {pins : List (Addr × Obj)} {σ : St} {H : Hp} {s : Shared}
mutual
theorem own_rn (I : Inv X pins σ H s) : ∀ (d : D) (v : V) (u : Value) (F : List Addr), Own X.K H d v F → RelV v u → alike d d = true → Rn s.heap d u
  | .int i, _, _, _, h, r, _ => by
    cases h
    obtain ⟨t, rfl⟩ := r
    exact ⟨t, rfl⟩
  | .tuple ds, _, _, _, h, r, al => by
    cases h with
    | tup hs ha =>
      cases r
      obtain ⟨its, rv, ⟨o, ho, hc, n, hd⟩, _⟩ := I.tuple hs.sq
      have al : alikes ds ds = true := by simpa [alike] using al
      exact ⟨_, o, _, n, rfl, ho, hc, hd, owns_rn I ds _ its _ ha rv al⟩
  | .none, _, _, _, _, _, h | .bool _, _, _, _, _, _, h | .str _, _, _, _, _, _, h | .list _, _, _, _, _, _, h | .dict _, _, _, _, _, _, h => by simp [alike] at h
theorem owns_rn (I : Inv X pins σ H s) : ∀ (ds : List D) (vs : List V) (us : List Value) (F : List Addr), OwnA X.K H ds vs F → Vals vs us → alikes ds ds = true → Rns s.heap ds us
  | [], _, _, _, h, r, _ => by
    cases h
    cases r
    trivial
  | d :: ds, _, _, _, h, r, al => by
    simp only [alikes, Bool.and_eq_true] at al
    cases h with
    | cons h1 h2 =>
      cases r with
      | cons r1 r2 => exact ⟨own_rn I d _ _ _ h1 r1 al.1, owns_rn I ds _ _ _ h2 r2 al.2⟩
end
theorem OwnA.at1 {K : PySem.W.Frag} {H : Hp} : ∀ {ds : List D} {vs : List V}, OwnA K H ds vs [] → ∀ (us : List Value), Vals vs us → ∀ u ∈ us, ∃ d ∈ ds, ∃ v, RelV v u ∧ Own K H d v []
  | [], _, h, us, r, u, hu => by
    cases h
    cases r
    cases hu
  | d :: ds, v :: vs, h, _, r, u, hu => by
    obtain ⟨o1, o2⟩ := OwnA.nil2 h
    cases r with
    | cons r1 r2 =>
      rcases List.mem_cons.mp hu with rfl | hu
      · exact ⟨d, List.mem_cons_self .., v, r1, o1⟩
      · obtain ⟨d', m, v', r', o'⟩ := OwnA.at1 o2 _ r2 u hu
        exact ⟨d', List.mem_cons_of_mem _ m, v', r', o'⟩
theorem own_back {K : PySem.W.Frag} {H : Hp} {k : Value → D} : ∀ (out : List Value), (∀ u ∈ out, ∃ v, RelV v u ∧ Own K H (k u) v []) → ∃ ys, Vals ys out ∧ OwnA K H (out.map k) ys []
  | [], _ => ⟨[], .nil, .nil⟩
  | u :: out, h => by
    obtain ⟨v, r, o⟩ := h u (List.mem_cons_self ..)
    obtain ⟨ys, r2, o2⟩ := own_back out fun u' hu' => h u' (List.mem_cons_of_mem _ hu')
    exact ⟨v :: ys, .cons r r2, OwnA.cons0 o o2⟩
/-- a reading of the items -/
theorem rns_key {h : Heap} : ∀ {ds : List D} {us : List Value}, Rns h ds us → ∀ (k : Value → D), (∀ u d, d ∈ ds → Rn h d u → k u = d) → us.map k = ds
  | [], [], _, _, _ => rfl
  | d :: ds, u :: us, r, k, hk => by rw [List.map_cons, hk u d (List.mem_cons_self ..) r.1, rns_key r.2 k fun u d m => hk u d (List.mem_cons_of_mem _ m)]
  | [], _ :: _, r, _, _ => r.elim
  | _ :: _, [], r, _, _ => r.elim
open Classical in
noncomputable def keyR (h : Heap) (ds : List D) (u : Value) : D := if e : ∃ d, d ∈ ds ∧ Rn h d u then e.choose else .none
theorem keyR_eq {h : Heap} {ds : List D} {u : Value} {d : D} (m : d ∈ ds) (r : Rn h d u) : keyR h ds u = d := by
  unfold keyR
  have e : ∃ d, d ∈ ds ∧ Rn h d u := ⟨d, m, r⟩
  rw [dif_pos e]
  exact Rn.inj e.choose_spec.2 r
theorem sort_known {its : List Value} {xs : List V} {ds : List D} (I : Inv X pins σ H s) (rv : Vals xs its) (ho : OwnA X.K H ds xs []) (ok : okN ds = true) :
    ∀ out : List Value, Srtd (fun v u => lexI (flat (keyR s.heap ds v)) (flat (keyR s.heap ds u))) out → Stb (fun v u => lexI (flat (keyR s.heap ds v)) (flat (keyR s.heap ds u))) out its → ∃ ys, Vals ys out ∧ OwnA X.K H (sortF flat ds) ys [] ∧ ys.length = xs.length := by
  intro out h1 h2
  have okd := okN_all ok
  have als : alikes ds ds = true := by
    have : ∀ l : List D, (∀ d ∈ l, alike d d = true) → alikes l l = true := by
      intro l
      induction l with
      | nil => intro _; rfl
      | cons d l ih => intro h; simp only [alikes, Bool.and_eq_true]; exact ⟨h d (List.mem_cons_self ..), ih fun e he => h e (List.mem_cons_of_mem _ he)⟩
    exact this ds fun d hd => (okd d hd).2.2 d hd
  have rn := owns_rn I ds xs its _ ho rv als
  have hk := rns_key rn (keyR s.heap ds) fun u d m r => keyR_eq m r
  have hb : Stb (ltF flat) (out.map (keyR s.heap ds)) ds := by
    have z := Stb.map (lt := ltF flat) (swo_flat flat) (keyR s.heap ds) h2
    rw [hk] at z
    exact z
  have hs : out.map (keyR s.heap ds) = sortF flat ds := sortF_uniq (srtd_map h1) hb
  obtain ⟨ys, ry, oy⟩ := own_back (K := X.K) (H := H) (k := keyR s.heap ds) out fun u hu => by
    have hu' := h2.perm.mem_iff.mp hu
    obtain ⟨d, m, v, r, o⟩ := OwnA.at1 ho its rv u hu'
    have := own_rn I d v u _ o r ((okd d m).2.2 d m)
    rw [keyR_eq m this]
    exact ⟨v, r, o⟩
  rw [hs] at oy
  exact ⟨ys, ry, oy, by rw [ry.length, h2.len, ← rv.length]⟩
/-- the sort of such values, laid: what is handed to all rules that sort -/
theorem sort_laid {its : List Value} {xs : List V} {ds : List D} {Q : VK} (I : Inv X pins σ H s) (rv : Vals xs its) (ho : OwnA X.K H ds xs []) (ok : okN ds = true) (hz : xs.length ≤ sizeLine)
    (q : ∀ ys p, OwnA X.K H (sortF flat ds) ys [] → H p = none → Q (.ref p) (upd H p (.lst ys))) :
    ∀ out : List Value, Srtd (fun v u => lexI (flat (keyR s.heap ds v)) (flat (keyR s.heap ds u))) out → Stb (fun v u => lexI (flat (keyR s.heap ds v)) (flat (keyR s.heap ds u))) out its → EP X pins σ Q (.ref (s.heap.objs.size + 1)) { s with heap := PyProof.Rows.sortedAll s.heap its out.toArray } := by
  intro out h1 h2
  obtain ⟨ys, ry, oy, ly⟩ := sort_known I rv ho ok out h1 h2
  obtain ⟨ep, he'⟩ := PyProof.Rows.sortedAll_at s.heap its out.toArray
  exact ⟨.ref _, upd H (s.heap.objs.size + 1) (.lst ys), I.laid (t' := s.toks) (fun _ _ => PyProof.Rows.sortedAll_old) (Nat.le_succ _) ⟨by rw [ly]; exact hz, out, ep, ry, he'⟩, rfl, q _ _ oy (I.hok.fresh (Nat.le_succ _))⟩
theorem sort_able {its : List Value} {xs : List V} {ds : List D} (I : Inv X pins σ H s) (hu : X.A.units + 65 < cLine) (rv : Vals xs its) (ho : OwnA X.K H ds xs []) (ok : okN ds = true) (h2 : 2 ≤ its.length) (h₁ : Heap) (a : Addr) (ha : h₁.get? a = some (PyProof.Rows.seqObj "list" its.toArray 0)) (k : ∀ b o, s.heap.get? b = some o → b ≠ a ∧ h₁.get? b = some o) :
    SortableO X.prog X.w X.A.in1.in1 { s with heap := h₁ } a its fun v u => lexI (flat (keyR s.heap ds v)) (flat (keyR s.heap ds u)) := by
  have okd := okN_all ok
  have kr : ∀ v ∈ its, keyR s.heap ds v ∈ ds ∧ Rn s.heap (keyR s.heap ds v) v := fun v hv => by
    obtain ⟨d, m, x, r, o⟩ := OwnA.at1 ho its rv v hv
    have := own_rn I d x v _ o r ((okd d m).2.2 d m)
    rw [keyR_eq m this]
    exact ⟨m, this⟩
  refine rn_sortable (B := 8) (by omega) (fun v hv => ?_) (fun v hv u hu => (okd _ (kr v hv).1).2.2 _ (kr u hu).1) (fun v hv => (okd _ (kr v hv).1).2.1) (by show X.A.units + 1 + 1 + 8 < cLine; omega) fun o e => ?_
  · obtain ⟨c, cs, e⟩ := (okd _ (kr v hv).1).1
    refine ⟨c, cs, e, (kr v hv).2.keep fun b o e _ => (k b o e).2⟩
  · have e' : some o = some (PyProof.Rows.seqObj "list" its.toArray 0) := e.symm.trans ha
    cases e'
    intro c
    exact absurd (Value.type.inj c) (by decide)
/-- sorted of a list or a tuple of such -/
def rSortN (K : PySem.W.Frag) : List V → Hp → VK → Prop := fun vs H Q => ∃ (a : Addr) (xs : List V) (ds : List D), vs = [V.ref a] ∧ (SqL K H a xs ∨ SqT K H a xs) ∧ OwnA K H ds xs [] ∧ okN ds = true ∧ ∀ ys p, OwnA K H (sortF flat ds) ys [] → H p = none → Q (.ref p) (upd H p (.lst ys))
theorem cr_sortN (hu : X.A.units + 65 < cLine) : CallR X (.builtin "sorted") (rSortN X.K) := by
  intro pins s σ H vs us Q I r h
  obtain ⟨a, xs, ds, rfl, hs, ho, ok, q⟩ := h
  rw [Vals.ref1 r]
  rcases hs with hs | hs
  · obtain ⟨its, rv, hl, hz⟩ := I.list hs
    exact sorted_ord (swo_flat fun v => flat (keyR s.heap ds v)) hl.isList (by rw [← rv.length]; exact hz) (fun h2 h₁ a' ha' k => sort_able I hu rv ho ok h2 h₁ a' ha' k) (sort_laid I rv ho ok hz q)
  · obtain ⟨its, rv, hl, hz⟩ := I.tuple hs
    exact SimSrt.sorted_ordT (swo_flat fun v => flat (keyR s.heap ds v)) hl (by rw [← rv.length]; exact hz) (fun h2 h₁ a' ha' k => sort_able I hu rv ho ok h2 h₁ a' ha' k) (sort_laid I rv ho ok hz q)
def pSortN : List D → Option D
  | [.list ds] => if okN ds && purs ds then some (.list (sortF flat ds)) else none
  | [.tuple ds] => if okN ds && purs ds then some (.list (sortF flat ds)) else none
  | _ => none
theorem pr_sortN {K : PySem.W.Frag} : PrimR K (rSortN K) pSortN := by
  intro vs ds d H Q h e q
  unfold pSortN at e
  split at e
  · obtain ⟨x, F, rfl, o⟩ := h.one
    split at e
    · rename_i ds c
      cases e
      rw [Bool.and_eq_true] at c
      cases o with
      | lst h1 t n =>
        have := t.pur c.2
        subst this
        exact ⟨_, _, ds, rfl, .inl (SqL.of h1), t, c.1, fun ys p oy hp => q _ _ (.lst oy hp)⟩
    · cases e
  · obtain ⟨x, F, rfl, o⟩ := h.one
    split at e
    · rename_i ds c
      cases e
      rw [Bool.and_eq_true] at c
      cases o with
      | tup h1 t =>
        have := t.pur c.2
        subst this
        exact ⟨_, _, ds, rfl, .inr h1.sq, t, c.1, fun ys p oy hp => q _ _ (.lst oy hp)⟩
    · cases e
  · cases e
end
end Sim
namespace Sim
open PySem PySem.Spec L2 PySem.SeqAt SrtO
section
variable {X : Cx} {pins : List (Addr × Obj)} {σ : St} {H : Hp} {s : Shared}
end
section
variable {k l : Bool} {a b : Addr} {xs ys : Array Value}
end
end Sim
namespace Sim
open PySem PySem.Spec L2 PySem.SeqAt SrtO
section
variable {prog : Program} {w : World} {A : Around} {E : Value → Shared → Prop} {s : Shared} {k l : Bool} {z TI TO i1 i2 a b : Addr} {xs ys : Array Value}
end
end Sim
namespace Sim
open PySem PySem.Spec L2 PySem.SeqAt SrtO
def seqLT : D → Option (List D)
  | .list ds => some ds
  | .tuple ds => some ds
  | _ => none
section
variable {X : Cx} {e e2 : Expr} {ta : TA} {p pos p2 pos2 : Pos}
end
end Sim
namespace Sim
open PySem PySem.Spec L2 PySem.SeqAt SrtO
section
variable {X : Cx} {e e2 : Expr} {ta : TA} {p pos p2 pos2 : Pos}
variable {g : AL}
end
end Sim
namespace Sim
open PySem PySem.Spec L2
section
variable {X : Cx}
def rSortAny (K : PySem.W.Frag) : List V → Hp → VK → Prop := fun vs H Q => rSortA K vs H Q ∨ rSortN K vs H Q
theorem cr_sortAny (hu : X.A.units + 65 < cLine) : CallR X (.builtin "sorted") (rSortAny X.K) := by
  intro pins s σ H vs us Q I r h
  rcases h with h | h
  · exact cr_sortA pins s σ H vs us Q I r h
  · exact cr_sortN hu pins s σ H vs us Q I r h
def pSortAny (l : List D) : Option D := match pSorted l with
  | some d => some d
  | none => pSortN l
theorem pr_sortAny {K : PySem.W.Frag} : PrimR K (rSortAny K) pSortAny := by
  intro vs ds d H Q h e q
  unfold pSortAny at e
  split at e
  · rename_i d' e'
    cases e
    exact .inl (pr_sorted vs ds d H Q h e' q)
  · exact .inr (pr_sortN vs ds d H Q h e q)
theorem so_globI {x : Str} {i : Int} {t : Tok} {pos : Pos} (hg : Gl X x) (hm : X.mg x = some (.int i t)) (hd : (x == ("__debug__" : Str)) = false := by decide) : SimO X (.Name x pos) (oC (.int i)) :=
  pe_imp (pe_glob (v := .int i) hg hm ⟨t, rfl⟩ hd) fun _ _ _ h => tO_c (fun _ => .int i) h
end
end Sim
namespace Sim
open PySem PySem.Spec L2
def dd : List Int → List Int
  | [] => []
  | x :: xs => if x ∈ xs then dd xs else x :: dd xs
section
variable {X : Cx} {a : Expr} {ta : TA} {p p2 q pos : Pos}
variable {ga : AL}
end
end Sim
namespace Sim
open PySem PySem.Spec L2
mutual
/-- ints of short text, and tuples of such -/
def sh : D → Bool
  | .int i => decide (i.natAbs < 10 ^ 12)
  | .tuple xs => shs xs
  | _ => false
def shs : List D → Bool
  | [] => true
  | x :: xs => sh x && shs xs
end
mutual
theorem sh_show : ∀ d : D, sh d = true → d.showable = true ∧ d.hasDict = false ∧ d.leavesShort 13 = true
  | .int i, h => by
    rw [sh, decide_eq_true_eq] at h
    refine ⟨?_, by simp only [PyData.hasDict], by simp only [PyData.leavesShort, decide_eq_true_eq]; exact PyData.shown_int_le h⟩
    simp only [PyData.showable, decide_eq_true_eq]
    by_cases h0 : i.natAbs = 0
    · rw [h0]; decide
    · rw [Nat.log2_lt h0]
      exact Nat.lt_of_lt_of_le h (by decide +kernel)
  | .tuple xs, h => by
    have := shs_show xs (by rw [sh] at h; exact h)
    exact ⟨by simp only [PyData.showable]; exact this.1, by simp only [PyData.hasDict]; exact this.2.1, by simp only [PyData.leavesShort]; exact this.2.2⟩
  | .none, h => by simp [sh] at h
  | .bool _, h => by simp [sh] at h
  | .str _, h => by simp [sh] at h
  | .list _, h => by simp [sh] at h
  | .dict _, h => by simp [sh] at h
theorem shs_show : ∀ ds : List D, shs ds = true → PyData.showableAll ds = true ∧ PyData.hasDictAll ds = false ∧ PyData.leavesShortAll 13 ds = true
  | [], _ => ⟨rfl, rfl, rfl⟩
  | x :: xs, h => by
    rw [shs, Bool.and_eq_true] at h
    have h1 := sh_show x h.1
    have h2 := shs_show xs h.2
    refine ⟨by simp only [PyData.showableAll, h1.1, h2.1, Bool.and_self], by simp only [PyData.hasDictAll, h1.2.1, h2.2.1, Bool.or_self], by simp only [PyData.leavesShortAll, h1.2.2, h2.2.2, Bool.and_self]⟩
end
section
variable {X : Cx}
end
end Sim
namespace Sim
open PySem PySem.Spec L2
structure FnOkG (P : Program) (w : World) (K : PySem.W.Frag) (mg : Str → Option Value) (base : Heap) (k : Nat) (f : Addr) (fd : FuncData) (ps : List Str) (sp : Sp) : Prop where
  len : ∀ vs H Q E, sp vs H Q E → vs.length = ps.length
  run : ∀ (A : Around) (outer : List Env) (s : Shared) (H : Hp) (args : Args) (us : List Value) (vs : List V) (Q : VK) (E : XK), A.guards = some [] → Room k A → Env0 P w K mg base A outer s H →
    BindsTo s fd args (ps.zip us) → Vals vs us → sp vs H Q E → codeAny (model P w) A (.call (.ref f) args) (CR CX0 outer P w H s Q E) s
theorem FnOkG.of {P : Program} {w : World} {K : PySem.W.Frag} {mg : Str → Option Value} {base : Heap} {k : Nat} {f : Addr} {fd : FuncData} {ps : List Str} {sp : Sp} (F : FnOk P w K mg base CX0 k f fd ps sp) : FnOkG P w K mg base k f fd ps sp :=
  ⟨F.len, fun A outer s H args us vs Q E _ hr e0 hb r h => F.run A outer s H args us vs Q E hr e0 hb r h⟩
section
variable {P : Program} {w : World} {K : PySem.W.Frag} {mg : Str → Option Value} {base : Heap}
theorem fnG {x qual : Str} {st : Stmt} {f : Addr} {fd : FuncData} {N ps : List Str} {k : Nat} {sp : Sp} (F : Fun K x qual st f fd) (S : FnScope N ps (defScope st)) (len : ∀ vs H Q E, sp vs H Q E → vs.length = ps.length)
    (hbody : ∀ (cdv : Value) (A : Around) (outer : List Env) (s : Shared) (H : Hp) (vs : List V) (Q : VK) (E : XK), A.guards = some [] → Room k (A.deeper (PyProof.Rows.envOfC qual (defScope st) s.heap.objs.size f cdv)) → sp vs H Q E →
      ∃ t, PSs (cxOf CX0 P w K mg base N qual (defScope st) f cdv A outer s H E).nox (defBody st) t ∧ t { nx := fun _ H' => Q .non H', rt := Q } (L2.start N vs) H) : FnOkG P w K mg base (k + 1) f fd ps sp := by
  obtain ⟨oc, od, kV, doc, pm, an, cdv, ct, osl, rfl, lk, hcd⟩ := F.ex
  refine ⟨len, fun A outer s H args us vs Q E hG hr e0 hb r hsp => ?_⟩
  have into : ∀ {b : Addr} {o : Obj}, base.get? b = some o → s.heap.get? b = some o := fun {b o} e => (e0.bs b o e).1
  refine Att.call_fn (e0.mod.kin.keeps fun b o e => into e) (e0.mod.nolimit.keeps fun b o e => into e) lk hcd hr.depth hb ?_ (fun s1 x => ?_) S.co S.gen S.kind
  · refine List.all_eq_true.mpr fun y hy => ?_
    have := S.par y.1 (List.of_mem_zip hy).1
    rcases this with q | q <;> rw [q] <;> rfl
  · obtain ⟨t, ht, hq⟩ := hbody cdv A outer s H vs Q E hG (hr.deeper _) hsp
    have I := inv_start (CX := CX0) (E := E) S hr.hd e0 (len _ _ _ _ hsp) r x
    refine wpAny_mono (ht.nox.run [] s1 (L2.start N vs) H _ I hq) (fun fl s' z => ?_) fun e s' z => z
    cases fl with
    | ret u =>
      obtain ⟨v, σ', H', J, rv, q⟩ := z
      exact ⟨v, H', J.os, J.bare, J.base, J.hok, rv, q⟩
    | next =>
      obtain ⟨σ', H', J, q⟩ := z
      exact ⟨.non, H', J.os, J.bare, J.base, J.hok, rfl, q⟩
    | brk =>
      obtain ⟨_, _, _, q⟩ := z
      exact q.elim
    | cont =>
      obtain ⟨_, _, _, q⟩ := z
      exact q.elim
theorem fn_simG {x qual : Str} {st : Stmt} {f : Addr} {fd : FuncData} {N ps : List Str} {ms : List Nat} {n k : Nat} {g : S} (F : Fun K x qual st f fd) (Sc : FnScope N ps (defScope st)) (hn : N.length = n) (hm : ms.length = ps.length)
    (hb : ∀ (cdv : Value) (A : Around) (outer : List Env) (s : Shared) (H : Hp) (E : XK), A.guards = some [] → Room k (A.deeper (PyProof.Rows.envOfC qual (defScope st) s.heap.objs.size f cdv)) →
      SimSs (cxOf CX0 P w K mg base N qual (defScope st) f cdv A outer s H E).nox (lkM ms) (defBody st) g) : FnOkG P w K mg base (k + 1) f fd ps (spF K ps.length (mkFn ms n g)) := by
  refine fnG F Sc (fun vs H Q E h => ?_) (fun cdv A outer s H vs Q E hG hr h => ⟨_, hb cdv A outer s H E hG hr, ?_⟩)
  · obtain ⟨ds, Fl, r, as, hf, hl, _⟩ := h
    exact hl
  · obtain ⟨ds, Fl, r, as, hf, hl, ol, q⟩ := h
    unfold mkFn at hf
    split at hf
    · rename_i hok
      have hlm := okM_len hok
      split at hf
      · rename_i fl s' hg
        split at hf
        · cases hf
        · rename_i as' hc
          have est : L2.start N vs = vs.map some ++ List.replicate (n - ds.length) none := by
            unfold L2.start
            rw [hn, ← ol.len]
          have R0 := relS_start ol (n - ds.length)
          rw [est]
          refine ⟨_, _, fl, s', R0, hg, ?_⟩
          have fin : ∀ {σ' : St} {H' : Hp} {Fs' : Fp}, RelS K H' s' σ' Fs' → Ev H (fun j => Fl.getD j []) H' Fs' → Lk (lkM ms) (vs.map some ++ List.replicate (n - ds.length) none) σ' →
              ∃ Fl', OwnLs K H' as' vs Fl' ∧ NewL H Fl Fl' ∧ (Chg (fun a => ∃ G, G ∈ Fl ∧ a ∈ G) H H') ∧ ∀ G, G ∈ Fl' → ∀ a, a ∈ G → ∃ i, lkM ms i = true ∧ a ∈ Fs' i := by
            intro σ' H' Fs' R' E' L'
            have c2 : Chg (fun a => ∃ G, G ∈ Fl ∧ a ∈ G) H H' := ⟨fun a ob ho cc => E'.chg.keep a ob ho (cc.imp (fun z ⟨i, hi⟩ => by
              obtain ⟨G, hG, ha⟩ := getD_of hi
              exact z ⟨G, List.mem_of_getElem? hG, ha⟩) id), E'.chg.there⟩
            have c3 : Chg (fun _ => True) H H' := ⟨fun a ob ho cc => E'.chg.keep a ob ho (.inr (cc.resolve_left fun z => z trivial)), E'.chg.there⟩
            obtain ⟨Fl', h1, h2, h3⟩ := coll_own (Fs' := Fs') R' c3 (fun i a h => by
              obtain ⟨xs, z⟩ := R'.mem h
              rw [z]
              simp) 0 ol hok hc (fun i hi h0 => by
                have := L' i (by unfold lkM; rw [h0]; rfl)
                rw [Nat.zero_add, this, List.getElem?_append_left (by rw [List.length_map, ol.len, hlm]; exact hi), List.getElem?_map]) (fun i a ha hi => by
                rw [Nat.zero_add] at ha
                exact E'.new i a ha)
            refine ⟨Fl', h1, h2, c2, fun G hG a ha => ?_⟩
            obtain ⟨i, _, q2, q3⟩ := h3 G hG a ha
            exact ⟨i, by unfold lkM; rw [Nat.sub_zero] at q2; rw [q2]; rfl, q3⟩
          cases fl with
          | nx =>
            cases hf
            intro σ' H' Fs' R' E' L'
            obtain ⟨Fl', h1, h2, c2, _⟩ := fin R' E' L'
            exact q .non H' Fl' [] h1 c2 h2 .non (by simp) (by simp)
          | rt d =>
            cases hf
            intro v σ' H' Fs' F' R' E' L' o nn m
            obtain ⟨Fl', h1, h2, c2, h3⟩ := fin R' E' L'
            refine q v H' Fl' F' h1 c2 h2 o (fun a ha => ?_) fun G hG a ha hb => ?_
            · rcases nn a ha with z | ⟨i, hi, z⟩
              · exact z
              · exfalso
                have z' : a ∈ Fl.getD i [] := z
                rw [ol.pure_at hok i (fun e => by unfold lkM at hi; rw [e] at hi; cases hi)] at z'
                cases z'
            · obtain ⟨i, hi, q3⟩ := h3 G hG a ha
              exact m i a hi q3 hb
          | bk => cases hf
          | ct => cases hf
      · cases hf
      · cases hf
    · cases hf
end
section
open PyProof.Rows
theorem law_callG {P : Program} {w : World} {K : PySem.W.Frag} {mg mb : Str → Option Value} {k : Nat} {fa a : Addr} {fd : FuncData} {x : Str} {sp : Sp} {s₁ : Shared} {vs : List Value} {ns : List Int}
    (KX : K.In s₁.heap) (hns : s₁.heap.Ns mainGlobals mg) (hb : s₁.heap.Ns builtinsNs mb) (hbb : ∀ x : Str, x ≠ "__name__" → mb x = bootBuiltins x) (hlim : s₁.heap.NoLimit) (hg : s₁.gens = #[])
    (ha : s₁.heap.get? a = some { cls := .type "list", data := .seq vs.toArray }) (hi : IntsAre vs ns) (hl : ns.length ≤ sizeLine) (hr : Room k callerA)
    (F : ∀ base : Heap, K.In base → base.Ns mainGlobals mg → FnOkG P w K mg base k fa fd [x] sp) (hbind : ∀ (s : Shared) (u : Value), BindsTo s fd ⟨[u], []⟩ [(x, u)])
    (hsp : ∀ H : Hp, Only H → SqL K H a (ns.map V.int) → sp [.ref a] H (fun v _ => v = .bl true) fun _ _ _ => False) :
    codeAny (model P w) callerA (.call (.ref fa) ⟨[.ref a], []⟩) (fun r s' => r = .ok (.ret (.bool true)) ∧ OldK s₁.heap s'.heap ∧ s'.os = s₁.os ∧ AllBare s'.gens) s₁ := by
  have rv := vals_ints hi
  let H : Hp := fun b => if b = a ∧ K.lookup a = none then some (.frz { cls := .type "list", data := .seq vs.toArray } (.lst (ns.map V.int))) else none
  have hH : ∀ b u, H b = some u → b = a ∧ K.lookup a = none ∧ u = .frz { cls := .type "list", data := .seq vs.toArray } (.lst (ns.map V.int)) := fun b u e => by
    have e' : (if b = a ∧ K.lookup a = none then some (HO.frz { cls := .type "list", data := .seq vs.toArray } (.lst (ns.map V.int))) else none) = some u := e
    split at e'
    · rename_i h
      exact ⟨h.1, h.2, (Option.some.inj e').symm⟩
    · cases e'
  have only : Only H := fun b => by
    cases e : H b with
    | none => exact .inl rfl
    | some u => exact .inr ⟨_, _, congrArg some (hH b u e).2.2⟩
  have hok : HOk P w H s₁.heap := fun b u e => by
    obtain ⟨rfl, _, rfl⟩ := hH b u e
    exact ⟨ha, by rw [List.length_map]; exact hl, vs, _, rv, ha⟩
  have sq : SqL K H a (ns.map V.int) := by
    cases e : K.lookup a with
    | none => exact .inl (.inr ⟨{ cls := .type "list", data := .seq vs.toArray }, if_pos ⟨rfl, e⟩⟩)
    | some o =>
      have e2 := KX a o e
      rw [ha] at e2
      cases e2
      exact .inr ⟨_, vs.toArray, _, e, rfl, rfl, rfl, by rw [List.size_toArray, hi.length]; exact hl, by simpa using rv⟩
  have free : ∀ {b : Addr} {o : Obj}, s₁.heap.get? b = some o → (K.lookup b ≠ none ∨ ∃ es ep, o.data = .dict es ep) → H b = none := fun {b o} e z => by
    cases q : H b with
    | none => rfl
    | some u =>
      obtain ⟨rfl, hk, _⟩ := hH b u q
      rcases z with z | ⟨es, ep, z⟩
      · exact absurd hk z
      · rw [ha] at e
        cases e
        cases (show Data.seq vs.toArray _ = Data.dict es ep from z)
  have nsH : ∀ {b : Addr} {m : Str → Option Value}, s₁.heap.Ns b m → (hidT s₁.heap H).Ns b m := fun ⟨o, es, ep, e, d, r⟩ => ⟨o, es, ep, hidT_get e (free e (.inr ⟨es, ep, d⟩)), d, r⟩
  have kH : K.In (hidT s₁.heap H) := fun b o e => hidT_get (KX b o e) (free (KX b o e) (.inl (by rw [e]; simp)))
  have e0 : Env0 P w K mg (hidT s₁.heap H) callerA [] s₁ H :=
    ⟨rfl, ⟨kH, nsH hns, ⟨mb, nsH hb, hbb⟩, let ⟨mc, h1, h2⟩ := hlim; ⟨mc, nsH h1, h2⟩⟩, fun b o e => of_hidT e, Nat.le_of_eq (hidT_size _ _), trivial, fun b z => absurd (show b ∈ ([] : List Addr) from z) (by simp), hok, .of_eq hg⟩
  refine codeAny_mono ((F _ kH (nsH hns)).run callerA [] s₁ H ⟨[.ref a], []⟩ [.ref a] [.ref a] _ _ rfl hr e0 (hbind s₁ (.ref a)) (.cons rfl .nil) (hsp H only sq)) fun r s' h => ?_
  cases r with
  | error e => exact False.elim h
  | ok fl =>
    cases fl with
    | ret u =>
      obtain ⟨v, H', os, bare, un, hok', rv', q⟩ := h
      obtain rfl : v = .bl true := q
      obtain rfl : u = Value.bool true := rv'
      refine ⟨rfl, .of_keep fun b o e => ?_, os, bare⟩
      rcases only b with q | ⟨ob, xs, q⟩
      · exact un.keep b o e q (fun z => absurd (show b ∈ ([] : List Addr) from z) (by simp)) (by simp)
      · have e1 := (hok b _ q).1
        rw [e] at e1
        cases e1
        exact (hok' b _ (un.frzs b _ _ q)).1
    | next => exact False.elim h
    | brk => exact False.elim h
    | cont => exact False.elim h
theorem walk_ofG {l : PySem.W.OpenLaw} {n k : Nat} {q : Program} {loose : List Str} {XP : (Str → Option Value) → Heap → Prop} {YP : World → Heap → Prop} {d : DefRec} {K : Params → PySem.W.Frag} {sp : PySem.W.Frag → Sp} {x : Str}
    (hn : l.most = some n) (hn2 : n ≤ sizeLine) (hdf : d.params.defaults = []) (hr : Room k callerA)
    (hY : ∀ (w : World) (h : Heap), YP w h → (K w.params).In h)
    (F : ∀ (w : World) (mg : Str → Option Value) (fa : Addr) (h : Heap), (K w.params).In h → h.Ns mainGlobals mg → mg d.name = some (.ref fa) →
      ∃ fd : FuncData, (∀ (s : Shared) (u : Value), BindsTo s fd ⟨[u], []⟩ [(x, u)]) ∧
        ∀ base : Heap, (K w.params).In base → base.Ns mainGlobals mg → FnOkG l.prog w (K w.params) mg base k fa fd [x] (sp (K w.params)))
    (hsp : ∀ (K : PySem.W.Frag) (H : Hp) (a : Addr) (ns : List Int), ns.length ≤ n → Only H → SqL K H a (ns.map V.int) → sp K [.ref a] H (fun v _ => v = .bl true) fun _ _ _ => False) :
    PySem.W.WalkO q loose XP YP l.row.toRowW d [] (fun f vs => PySem.call f vs) := by
  refine Att.attach_call hn hdf fun w s₀ s₁ mg mb fa o pm cd doc a vs ns G Y ho hd hcd hmg hobj hints hlen hg => ?_
  obtain ⟨fd, hb, hF⟩ := F w mg fa _ (hY w _ Y) G.T.g hmg
  exact law_callG (hY w _ Y) G.T.g G.T.b G.T.builtins G.T.nolimit hg hobj hints (Nat.le_trans hlen hn2) hr hF hb fun H hO hS => hsp _ H a ns hlen hO hS
end
end Sim
namespace Sim
open PySem PySem.Spec L2
section
variable {X : Cx} {K : PySem.W.Frag}
end
end Sim
namespace Sim
open PySem PySem.Spec L2
def TabIs : List DictEntry → List (Int × Int) → Prop
  | [], [] => True
  | e :: es, p :: tab => (e.hash = hashInt p.1 ∧ (∃ t, e.key = .int p.1 t) ∧ ∃ u, e.val = .int p.2 u) ∧ TabIs es tab
  | _, _ => False
def IntDict (K : PySem.W.Frag) (a : Addr) (tab : List (Int × Int)) : Prop := ∃ (es : List DictEntry) (n : Nat), K.lookup a = some ⟨.type "dict", none, .dict es.toArray n, #[]⟩ ∧ (a == sysModules) = false ∧ TabIs es tab
def tabV (tab : List (Int × Int)) (k : Int) : V := match tab.find? fun p => decide (p.1 = k) with
  | some p => .int p.2
  | none => .non
def tabD (tab : List (Int × Int)) (k : Int) : D := match tab.find? fun p => decide (p.1 = k) with
  | some p => .int p.2
  | none => .none
theorem tab_find : ∀ (es : List DictEntry) (tab : List (Int × Int)), TabIs es tab → ∀ k, RelV (tabV tab k) (((es.find? fun e => Value.isInt k e.key).map (·.val)).getD .none)
  | [], [], _, k => rfl
  | [], _ :: _, h, _ => by cases h
  | _ :: _, [], h, _ => by cases h
  | e :: es, p :: tab, ⟨⟨_, ⟨t, ht⟩, u, hu⟩, r⟩, k => by
    unfold tabV
    rw [List.find?_cons, List.find?_cons, ht]
    by_cases c : p.1 = k
    · have c2 : Value.isInt k (.int p.1 t) = true := by show (p.1 == k) = true; rw [c]; exact beq_self_eq_true k
      rw [c2, decide_eq_true c]
      show RelV (.int p.2) e.val
      rw [hu]
      exact ⟨u, rfl⟩
    · have c2 : Value.isInt k (.int p.1 t) = false := by
        show (p.1 == k) = false
        exact beq_eq_false_iff_ne.mpr c
      rw [c2, decide_eq_false c]
      exact tab_find es tab r k
theorem tab_keys {prog : Program} {w : World} : ∀ (es : List DictEntry) (tab : List (Int × Int)), TabIs es tab → ∀ e ∈ es, ∃ k, (intKind prog w).is k e.key = true ∧ e.hash = (intKind prog w).hash k
  | [], _, _, _, h => by cases h
  | _ :: _, [], h, _, _ => by cases h
  | e :: es, p :: tab, ⟨⟨hh, ⟨t, ht⟩, _⟩, r⟩, x, hx => by
    rcases List.mem_cons.mp hx with rfl | hx
    · refine ⟨p.1, ?_, hh⟩
      rw [ht]
      show (p.1 == p.1) = true
      exact beq_self_eq_true p.1
    · exact tab_keys es tab r x hx
def pGetD (tab : List (Int × Int)) : List D → Option D
  | [.int k] => some (tabD tab k)
  | _ => none
def rGetD (tab : List (Int × Int)) : V → Hp → VK → Prop := fun x H Q => ∃ k, x = .int k ∧ Q (tabV tab k) H
section
variable {X : Cx} {e : Expr} {x : Str} {p apos cpos : Pos} {tab : List (Int × Int)} {a : Addr}
theorem pe_kget {ty : TE} (hg : Gl X x) (hm : X.mg x = some (.ref a)) (hD : IntDict X.K a tab) (he : PE X e ty) (m : M1 X (.Name x p) "get" apos e cpos) (hd : (x == ("__debug__" : Str)) = false := by decide) :
    PE X (.Call (.Attribute (.Name x p) "get" apos) [e] [] cpos) (fun σ H Q => ty σ H fun y H1 => rGetD tab y H1 Q) := by
  refine ⟨fun pins s σ H Q I h => ?_⟩
  obtain ⟨es, n, hl, hs, ht⟩ := hD
  have dct : ∀ {s : Shared} {H : Hp} {σ : St}, Inv X pins σ H s → s.heap.MapOf (intKind X.prog X.w) a (fun k => findBy (intKind X.prog X.w).is es.toArray k) := fun {s H σ} J =>
    ⟨_, es.toArray, n, J.kIn _ _ hl, ⟨rfl, rfl, rfl⟩, rfl, fun e he => tab_keys es tab ht e (by simpa using he), fun _ => rfl⟩
  refine wpAny_Call_method m.base m.few m.line PySem.F.plainAttrs_dict PySem.F.slot_dict_get PySem.F.type_dict_get (thn ((pe_glob (v := .ref a) hg hm rfl hd).run pins s σ H (fun v H1 => v = .ref a ∧ H1 = H) I ⟨rfl, rfl⟩) fun u s1 ⟨x, H1, I1, rx, ex, eH⟩ => ?_)
  subst ex
  subst eH
  obtain rfl : u = Value.ref a := rx
  refine ⟨(dct I1).typeIs, fun b q => ?_, ?_⟩
  · cases q
    exact ⟨_, I1.kIn _ _ hl, rfl⟩
  rw [m.trees]
  refine Calls.callWith_builtin rfl (Calls.evalArgs_plain (Calls.spliced_cons (thn (he.run pins s1 σ H1 _ I1 h) fun iv s2 ⟨y, H2, I2, ry, k, ek, q2⟩ => Calls.spliced_nil ?_)))
  subst ek
  obtain ⟨t, rfl⟩ := ry
  refine call_meetsIn PySem.F.slot_dict_get (dct I2).typeIs PySem.F.entry_dict_get (PySem.F.args_dict_get_2 _ _) (meets_dict_get (intKind X.prog X.w) a (k := k) (by show (k == k) = true; exact beq_self_eq_true k) hs) ⟨_, dct I2, ⟨tabV tab k, H2, I2.tok _, ?_, q2⟩⟩
  have := tab_find es tab ht k
  unfold findBy
  rw [List.find?_toArray]
  exact this
theorem pr_getD {K : PySem.W.Frag} : PrimR K (u1 (rGetD tab)) (pGetD tab) := by
  intro vs ds d H Q h e q
  unfold pGetD at e
  split at e
  · obtain ⟨x, F, rfl, o⟩ := h.one
    cases o
    cases e
    refine ⟨_, rfl, q _ _ ?_⟩
    unfold tabV tabD
    split
    · exact NewV.sc (.int _)
    · exact NewV.sc .non
  · cases e
theorem so_getD {g : O} (hg : Gl X x) (hm : X.mg x = some (.ref a)) (hD : IntDict X.K a tab) (he : SimO X e g) (m : M1 X (.Name x p) "get" apos e cpos := by exact ⟨by rfl, by rfl, by rfl, by rfl⟩) (hd : (x == ("__debug__" : Str)) = false := by decide) :
    SimO X (.Call (.Attribute (.Name x p) "get" apos) [e] [] cpos) (o1 (pGetD tab) g) :=
  pe_imp (pe_kget hg hm hD he m hd) fun _ _ _ h => by have z := tA1 (prim pr_getD h); exact z
end
end Sim
namespace Sim
open PySem PySem.Spec L2
section
variable {X : Cx}
end
end Sim
namespace Sim
open PySem PySem.Spec L2
section
variable {X : Cx} {pos : Pos}
inductive SelOk (X : Cx) (n : Nat) : List Addr → List Fn → Prop
  | nil : SelOk X n [] []
  | cons {k : Nat} {f : Addr} {fd : FuncData} {ps : List Str} {fn : Fn} {as : List Addr} {fns : List Fn} : FnOk X.prog X.w X.K X.mg X.base CX0 k f fd ps (spF X.K n fn) → Room k X.A → PySem.W.keepIn X.K (.ref f) = true → Binds X.K fd ps [] → (∀ ds r as, fn ds = .ok r as → ds.length = n) → SelOk X n as fns → SelOk X n (f :: as) (fn :: fns)
theorem SelOk.get {n : Nat} {as : List Addr} {fns : List Fn} (h : SelOk X n as fns) : ∀ {i : Nat} {fn : Fn}, fns[i]? = some fn → ∃ k f fd ps, as[i]? = some f ∧ FnOk X.prog X.w X.K X.mg X.base CX0 k f fd ps (spF X.K n fn) ∧ Room k X.A ∧ PySem.W.keepIn X.K (.ref f) = true ∧ Binds X.K fd ps [] ∧ (∀ ds r as, fn ds = .ok r as → ds.length = n) := by
  induction h with
  | nil => intro i fn e; simp at e
  | cons a b c d e _ ih =>
    intro i fn e'
    cases i with
    | zero => cases e'; exact ⟨_, _, _, _, rfl, a, b, c, d, e⟩
    | succ i => exact ih e'
end
end Sim
namespace Sim
open PySem PySem.Spec L2
section
variable {X : Cx} {k : Nat} {f : Addr} {fd : FuncData} {ps : List Str} {fn : Fn} {x : Str} {p pos : Pos}
end
end Sim
namespace Sim
open PySem PySem.Spec L2
section
variable {K : PySem.W.Frag} {H H' : Hp}
theorem OwnLs.get {K : PySem.W.Frag} {H : Hp} : ∀ {ds : List D} {vs : List V} {Fl : List (List Addr)}, OwnLs K H ds vs Fl → ∀ {i : Nat} {d : D}, ds[i]? = some d → ∃ v F, vs[i]? = some v ∧ Fl[i]? = some F ∧ Own K H d v F
  | _, _, _, .cons (v := v) (F := F) o n r, 0, d', e => by
    simp at e
    subst e
    exact ⟨v, F, rfl, rfl, o⟩
  | _, _, _, .cons o n r, i + 1, d', e => by
    obtain ⟨v, F, h1, h2, h3⟩ := r.get (i := i) (by simpa using e)
    exact ⟨v, F, by simpa using h1, by simpa using h2, h3⟩
theorem OwnLs.lenF {K : PySem.W.Frag} {H : Hp} {ds : List D} {vs : List V} {Fl : List (List Addr)} (o : OwnLs K H ds vs Fl) : Fl.length = ds.length := by
  induction o with
  | nil => rfl
  | cons _ _ _ ih => rw [List.length_cons, List.length_cons, ih]
end
section
variable {P : Program} {w : World} {K : PySem.W.Frag} {mg : Str → Option Value} {base : Heap}
end
end Sim
namespace Sim
open PySem PySem.Spec L2
section
open PyProof.Rows
variable {prog : Program} {w : World} {A : Around} {E : Value → Shared → Prop} {s : Shared}
end
section
variable {X : Cx} {a : Expr} {ga : O} {pos p2 : Pos}
end
end Sim
namespace Sim
open PySem PySem.Spec L2
section
variable {X : Cx}
end
end Sim
namespace Sim
open PySem PySem.Spec L2
section
open PySem.Calls PySem.NumText PyProof.Rows
@[irreducible] def ninN (n : Nat) : Int := ((10 ^ n : Nat) : Int) - 1
end
end Sim
namespace Sim
open PySem PySem.Spec L2
def oFrz (g : O) : O := fun s => (g s).bind fun r s1 => match r with
  | .val (.list ds) => if purs ds = true then .ok (.val (.dict [(.none, .list ds)])) s1 else .bad
  | _ => .bad
section
variable {X : Cx} {e : Expr} {ga : O}
theorem so_frz (ha : SimO X e ga) : SimO X e (oFrz ga) := by
  refine ⟨fun pins s σ H Q I z => ?_⟩
  obtain ⟨sg, Fs, rf, sg', R, e0, q⟩ := z
  obtain ⟨r, s1, e1, e2⟩ := bind_inv e0
  refine thn (ha.run pins s σ H (fun v H1 => ∃ Fs1 F, RelS X.K H1 s1 σ Fs1 ∧ Ev H Fs H1 Fs1 ∧ RfOk X.K H1 σ Fs1 r v F ∧ ∀ a, a ∈ F → H a = none) I ⟨sg, Fs, r, s1, R, e1, fun v H1 Fs1 F R1 E1 k1 n1 => ⟨Fs1, F, R1, E1, k1, n1⟩⟩) fun v s2 ⟨x, H1, I1, r1, Fs1, F, R1, E1, k1, n1⟩ => ?_
  clear e0
  split at e2
  · rename_i _ ds
    split at e2
    · rename_i hp
      cases e2
      cases k1 with
      | val A =>
        obtain ⟨a, xs, F0, rfl, rfl, hx, tt, nn⟩ := own_list A.own
        have e3 := tt.pur hp
        subst e3
        obtain ⟨od, I2⟩ := I1.lock hx trivial
        have na : H a = none := n1 a (List.mem_cons_self ..)
        have c : Chg (fun b => b = a) H1 (upd H1 a (.frz od (.lst xs))) := ⟨fun b o hb cc => by
          by_cases hba : b = a
          · subst hba
            rw [hx] at hb
            cases hb
            rcases cc with z | z
            · exact absurd rfl z
            · cases z
          · rw [upd_ne hba]; exact hb, fun b hb => by
          by_cases hba : b = a
          · subst hba
            rw [upd_same] at hb
            cases hb
          · rwa [upd_ne hba] at hb⟩
        have R2 : RelS X.K (upd H1 a (.frz od (.lst xs))) _ σ Fs1 := ⟨R1.len, fun i d ed => by
          obtain ⟨v', hv', o⟩ := R1.has i d ed
          exact ⟨v', hv', o.chg c fun b hb z => by
            subst z
            exact A.dis i b hb (List.mem_cons_self ..)⟩, R1.off, R1.dis⟩
        have E2 : Ev H Fs (upd H1 a (.frz od (.lst xs))) Fs1 := ⟨⟨fun b o hb cc => by
          have hba : b ≠ a := fun z => by rw [z, na] at hb; cases hb
          rw [upd_ne hba]
          exact E1.chg.keep b o hb cc, fun b hb => by
          by_cases hba : b = a
          · rw [hba]; exact na
          · rw [upd_ne hba] at hb
            exact E1.chg.there b hb⟩, E1.new⟩
        have o2 : OwnA X.K (upd H1 a (.frz od (.lst xs))) _ xs [] := OwnA.chg c tt (by simp)
        exact ⟨.ref a, _, I2, r1, q (.ref a) _ Fs1 [] R2 E2 (.val ⟨.frz (.inl ⟨od, upd_same ..⟩) o2, by simp⟩) (by simp)⟩
    · cases e2
  · cases e2
end
end Sim
namespace Sim
open PySem PySem.Spec L2
mutual
/-- no text within -/
def noTx : NestedKey → Bool
  | .none => true
  | .num _ => true
  | .text _ => false
  | .tup ks => noTxs ks
def noTxs : List NestedKey → Bool
  | [] => true
  | k :: ks => noTx k && noTxs ks
end
def tupN : NestedKey → Bool
  | .tup _ => true
  | _ => false
def kOk (k : NestedKey) : Bool := tupN k && noTx k && decide (k.depth ≤ 8)
def reN (l : List (NestedKey × D)) : D := .dict ((.bool true, .int 0) :: l.map fun p => (nkD p.1, p.2))
theorem kOk_dp {k : NestedKey} (h : kOk k = true) : k.depth ≤ 8 := by
  unfold kOk at h
  simp only [Bool.and_eq_true, decide_eq_true_eq] at h
  exact h.2
theorem kOk_tup {k : NestedKey} (h : kOk k = true) : ∃ ks, k = .tup ks := by
  unfold kOk at h
  simp only [Bool.and_eq_true] at h
  cases k with
  | tup ks => exact ⟨ks, rfl⟩
  | _ => exact absurd h.1.1 (by simp [tupN])
theorem zkd_map {κ : Type} (f : κ → D) : ∀ {ks : List κ} {ds : List D}, ks.length = ds.length → zkd f ks ds = (ks.zip ds).map fun p => (f p.1, p.2)
  | [], [], _ => rfl
  | k :: ks, d :: ds, h => by
    rw [zkd, List.zip_cons_cons, List.map_cons, zkd_map f (by simpa using h)]
  | [], _ :: _, h => by simp at h
  | _ :: _, [], h => by simp at h
abbrev NE := NestedKey × Addr × V
def getE (es : List NE) (k : NestedKey) : Option V := (es.find? fun e => decide (e.1 = k)).map fun e => e.2.2
def putE (es : List NE) (k : NestedKey) (b : Addr) (v : V) : List NE :=
  if (es.any fun e => decide (e.1 = k)) = true then es.map (fun e => if e.1 = k then (e.1, e.2.1, v) else e) else es ++ [(k, b, v)]
section
variable {X : Cx} {pins : List (Addr × Obj)} {σ : St} {H : Hp} {s : Shared}
mutual
theorem key_is (I : L2.Inv X pins σ H s) : ∀ (k : NestedKey) {v : V} {F : List Addr} {u : Value}, Own X.K H (nkD k) v F → RelV v u → NestedIs s.heap k u
  | .none, v, F, u, o, r => by
    rw [nkD] at o
    cases o
    obtain rfl : u = Value.none := r
    exact .none
  | .num i, v, F, u, o, r => by
    rw [nkD] at o
    cases o
    obtain ⟨t, rfl⟩ := (show ∃ t, u = Value.int i t from r)
    exact .int i t
  | .text x, v, F, u, o, r => by
    rw [nkD] at o
    cases o
    obtain ⟨t, rfl⟩ := (show ∃ t, u = Value.str x t from r)
    exact .text x t
  | .tup ks, v, F, u, o, r => by
    rw [nkD] at o
    cases o with
    | tup h t =>
      rename_i a xs
      obtain rfl : u = Value.ref a := r
      obtain ⟨its, rr, ⟨ob, ho, hc, n, hd⟩, _⟩ := I.tuple h.sq
      exact .tup ho hc hd (keys_are I ks t rr)
theorem keys_are (I : L2.Inv X pins σ H s) : ∀ (ks : List NestedKey) {vs : List V} {F : List Addr} {us : List Value}, OwnA X.K H (nkDs ks) vs F → Vals vs us → NestedAll s.heap ks us
  | [], vs, F, us, o, r => by
    rw [nkDs] at o
    cases o
    cases r
    exact .nil
  | k :: ks, vs, F, us, o, r => by
    rw [nkDs] at o
    cases o with
    | cons o t n =>
      cases r with
      | cons r1 r2 => exact .cons (key_is I k o r1) (keys_are I ks t r2)
end
abbrev EX : List NE → List (NestedKey × Addr × Value) → Prop := Paired fun p q => p.1 = q.1 ∧ p.2.1 = q.2.1 ∧ RelV p.2.2 q.2.2
theorem EX.fst : ∀ {es : List NE} {xs : List (NestedKey × Addr × Value)}, EX es xs → es.map (fun e => e.1) = xs.map fun x => x.1
  | _, _, .nil => rfl
  | _, _, .cons h t => by rw [List.map_cons, List.map_cons, h.1, EX.fst t]
theorem EX.get {k : NestedKey} : ∀ {es : List NE} {xs : List (NestedKey × Addr × Value)}, EX es xs → RelO (getE es k) ((atKey xs k).map (·.2))
  | _, _, .nil => True.intro
  | e :: es, x :: xs, .cons h t => by
    have ih := EX.get (k := k) t
    unfold getE atKey at ih ⊢
    rw [List.find?_cons, List.find?_cons]
    by_cases c : e.1 = k
    · have c' : x.1 = k := h.1.symm.trans c
      rw [decide_eq_true c, decide_eq_true c']
      exact h.2.2
    · have c' : ¬ x.1 = k := fun z => c (h.1.trans z)
      rw [decide_eq_false c, decide_eq_false c']
      exact ih
theorem EX.any {k : NestedKey} {es : List NE} {xs : List (NestedKey × Addr × Value)} (h : EX es xs) : (es.any fun e => decide (e.1 = k)) = (atKey xs k).isSome := by
  induction h with
  | nil => rfl
  | @cons e x es xs h t ih =>
    unfold atKey at ih ⊢
    rw [List.any_cons, List.find?_cons, ih]
    by_cases c : e.1 = k
    · have c' : x.1 = k := h.1.symm.trans c
      rw [decide_eq_true c, decide_eq_true c']; rfl
    · have c' : ¬ x.1 = k := fun z => c (h.1.trans z)
      rw [decide_eq_false c, decide_eq_false c']; rfl
theorem EX.put {k : NestedKey} {b : Addr} {v : V} {u : Value} (r : RelV v u) {es : List NE} {xs : List (NestedKey × Addr × Value)} (h : EX es xs) : EX (putE es k b v) (storedH xs k b u) := by
  unfold putE storedH
  rw [h.any]
  split
  · rename_i hc0
    clear hc0
    induction h with
    | nil => exact .nil
    | @cons e x es xs h t ih =>
      rw [List.map_cons, List.map_cons]
      refine .cons ?_ ih
      unfold putAt
      by_cases c : e.1 = k
      · rw [if_pos c, if_pos (h.1.symm.trans c)]; exact ⟨h.1, h.2.1, r⟩
      · rw [if_neg c, if_neg (fun z => c (h.1.trans z))]; exact h
  · exact Paired.snoc h ⟨rfl, rfl, r⟩
theorem EX.mem : ∀ {es : List NE} {xs : List (NestedKey × Addr × Value)}, EX es xs → ∀ x, x ∈ xs → ∃ e, e ∈ es ∧ e.1 = x.1 ∧ e.2.1 = x.2.1
  | _, _, .nil, x, h => by cases h
  | p :: es, q :: xs, .cons hh t, x, hx => by
    rcases List.mem_cons.mp hx with rfl | hx
    · exact ⟨p, List.mem_cons_self .., hh.1, hh.2.1⟩
    · obtain ⟨e, h1, h2⟩ := EX.mem t x hx
      exact ⟨e, List.mem_cons_of_mem _ h1, h2⟩
end
end Sim
namespace Sim
open PySem PySem.Spec L2
/-- the value y is the key k -/
structure KeyN (K : PySem.W.Frag) (H : Hp) (k : NestedKey) (y : V) : Prop where
  own : Own K H (nkD k) y []
  ok : kOk k = true
theorem KeyN.ref {K : PySem.W.Frag} {H : Hp} {k : NestedKey} {y : V} (h : KeyN K H k y) : ∃ b, y = .ref b := by
  obtain ⟨o, ok⟩ := h
  obtain ⟨ks, rfl⟩ := kOk_tup ok
  rw [nkD] at o
  cases o with
  | tup _ _ => exact ⟨_, rfl⟩
section
variable {X : Cx} {pins : List (Addr × Obj)} {σ : St} {H : Hp} {s : Shared}
theorem KeyN.is {k : NestedKey} {b : Addr} (I : L2.Inv X pins σ H s) (h : KeyN X.K H k (.ref b)) : (nestedKind X.prog X.w).is s.heap k b := ⟨key_is I k h.own rfl, kOk_dp h.ok⟩
variable {o e : Expr} {es : List Expr} {to : TE} {t : TA} {name : Str} {apos cpos : Pos} {id : String} {r : V → List V → Hp → VK → Prop}
end
end Sim
namespace SimSrt
open PySem PyProof.Rows Srt SrtO
section
variable {prog : Program} {w : World} {A : Around} {E : Value → Shared → Prop} {s : Shared}
end
end SimSrt
namespace Sim
open PySem PySem.Spec L2
open PyProof.Rows hiding St
section
variable {X : Cx} {pins : List (Addr × Obj)} {σ : St} {H : Hp} {s : Shared}
end
end Sim
namespace Sim
open PySem PySem.Spec L2
open PyProof.Rows hiding St
section
variable {prog : Program} {w : World} {A : Around} {E : Value → Shared → Prop} {s : Shared}
end
section
variable {X : Cx} {pins : List (Addr × Obj)} {σ : St} {H : Hp} {s : Shared}
end
section
variable {P : Program} {w : World} {K : PySem.W.Frag} {tg : Expr} {d : Addr} {o : Obj} {ents : Array DictEntry} {ep : Nat}
end
section
variable {X : Cx} {tg e : Expr} {td : TE} {apos cpos : Pos}
end
end Sim
namespace Sim
open PySem PySem.Spec L2
section
variable {K : PySem.W.Frag}
end
section
variable {X : Cx} {a b : Expr} {ga gb : O} {pos : Pos}
end
section
variable {X : Cx} {K : PySem.W.Frag} {σ : St} {H : Hp} {Q : VK}
end
end Sim
namespace Sim
open PySem PySem.Spec L2
section
variable {K : PySem.W.Frag} {H H' : Hp} {s : Sg} {σ : St} {Fs : Fp}
end
section
variable {K : PySem.W.Frag} {H H' : Hp}
theorem KeyN.chg {Fa : Addr → Prop} (c : Chg Fa H H') {k : NestedKey} {y : V} (h : KeyN K H k y) : KeyN K H' k y := ⟨h.own.chg c (fun _ z => by cases z), h.ok⟩
end
section
variable {X : Cx} {lk : Nat → Bool} {pos : Pos} {ga gb : O} {e : Expr}
end
section
variable {X : Cx} {K : PySem.W.Frag} {σ : St} {H : Hp} {Q : VK}
end
end Sim
namespace Sim
open PySem PySem.Spec L2
section
variable {X : Cx} {K : PySem.W.Frag}
variable {tg e : Expr} {ga : O}
end
end Sim
namespace SimMin
open PySem PySem.Spec PySem.W
section
variable {prog : Program} {w : World} {A : Around} {E : Value → Shared → Prop} {s : Shared}
end
end SimMin
namespace Sim
open PySem PySem.Spec L2
section
variable {X : Cx}
end
end Sim
namespace Sim
open PySem PySem.Spec L2
def toKy : D → Option Key
  | .int i => some (.inl i)
  | .str x => some (.inr x)
  | _ => none
theorem toKy_kD (k : Key) : toKy (kD k) = some k := by cases k <;> rfl
def unKE : List (D × D) → Option (List (Key × D))
  | [] => some []
  | p :: ps => (toKy p.1).bind fun k => (unKE ps).map ((k, p.2) :: ·)
def unK : D → Option (List (Key × D))
  | .dict ((.bool true, .none) :: es) => unKE es
  | _ => none
def reK (l : List (Key × D)) : D := .dict ((.bool true, .none) :: l.map fun p => (kD p.1, p.2))
theorem unKE_zkd : ∀ {ks : List Key} {ds : List D} {l : List (Key × D)}, ks.length = ds.length → unKE (zkd kD ks ds) = some l → l.map Prod.fst = ks ∧ l.map Prod.snd = ds
  | [], [], l, _, h => by
    rw [show zkd kD [] [] = [] from rfl, unKE] at h
    cases h; exact ⟨rfl, rfl⟩
  | k :: ks, d :: ds, l, hl, h => by
    rw [zkd, unKE, toKy_kD] at h
    obtain ⟨l', e', rfl⟩ := Option.map_eq_some_iff.mp h
    obtain ⟨a1, a2⟩ := unKE_zkd (by simpa using hl) e'
    exact ⟨by rw [List.map_cons, a1], by rw [List.map_cons, a2]⟩
  | [], _ :: _, _, h, _ => by simp at h
  | _ :: _, [], _, h, _ => by simp at h
section
variable {K : PySem.W.Frag} {H : Hp}
structure DK (K : PySem.W.Frag) (H : Hp) (a : Addr) (kvs : List (Key × V)) (l : List (Key × D)) (F : List Addr) : Prop where
  at_ : H a = some (.dK kvs)
  keys : kvs.map Prod.fst = l.map Prod.fst
  vals : OwnA K H (l.map Prod.snd) (kvs.map Prod.snd) F
  out : a ∉ F
theorem own_K {d : D} {v : V} {F : List Addr} {l : List (Key × D)} (o : Own K H d v F) (e : unK d = some l) : ∃ a kvs F', v = .ref a ∧ F = a :: F' ∧ DK K H a kvs l F' := by
  cases o with
  | dct h t n =>
    rename_i a kvs ds F'
    have e : unKE (zkd kD (kvs.map Prod.fst) ds) = some l := e
    have hl : (kvs.map Prod.fst).length = ds.length := by
      have := t.len
      rw [List.length_map] at this ⊢
      exact this
    obtain ⟨a1, a2⟩ := unKE_zkd hl e
    exact ⟨a, kvs, F', rfl, rfl, h, a1.symm, by rw [a2]; exact t, n⟩
  | _ => simp [unK] at e
theorem own_reK {a : Addr} {kvs : List (Key × V)} {l : List (Key × D)} {F : List Addr} (h : DK K H a kvs l F) : Own K H (reK l) (.ref a) (a :: F) := by
  have z := Own.dct h.at_ h.vals h.out
  have hl : (kvs.map Prod.fst).length = (l.map Prod.snd).length := by rw [h.keys, List.length_map, List.length_map]
  rw [zkd_map kD hl, h.keys] at z
  have e2 : (l.map Prod.fst).zip (l.map Prod.snd) = l := by
    clear z hl h
    induction l with
    | nil => rfl
    | cons p l ih => rw [List.map_cons, List.map_cons, List.zip_cons_cons, ih]
  rw [e2] at z
  exact z
end
section
variable {X : Cx} {a b : Expr} {ga gb : O} {pos : Pos}
def oNewK : O := fun s => .ok (.val (reK [])) s
theorem so_newK : SimO X (.Dict [] [] pos) oNewK := pe_imp pe_dnewK fun σ H Q z => by
  obtain ⟨s, Fs, r, s', R, e, q⟩ := z
  cases e
  intro p hp
  have sm : Same H (upd H p (.dK [])) := same_new hp
  have nv : NewV X.K H (reK []) (.ref p) (upd H p (.dK [])) := ⟨sm, [p], own_reK (kvs := []) ⟨upd_same, rfl, .nil, by simp⟩, fun b z => by rw [List.mem_singleton.mp z]; exact hp⟩
  obtain ⟨R2, E2, F, k, n⟩ := nv.ok R
  exact q _ _ Fs F R2 E2 k n
end
section
variable {K : PySem.W.Frag} {H : Hp}
end
end Sim
namespace Sim
open PySem PySem.Spec L2
section
variable {K : PySem.W.Frag} {H : Hp} {X : Cx}
end
section
variable {X : Cx} {lk : Nat → Bool} {pos : Pos} {ga gb : O} {e : Expr}
end
section
variable {X : Cx} {K : PySem.W.Frag} {σ : St} {H : Hp} {Q : VK}
end
end Sim
namespace Sim
open PySem PySem.Spec L2
def rEqE (K : PySem.W.Frag) : R2 := fun x y H Q => ∃ a b xs, x = .ref a ∧ y = .ref b ∧ SqT K H a xs ∧ SqT K H b [] ∧ Q (.bl xs.isEmpty) H
def pEqE : List D → Option D
  | [.tuple ds, .tuple []] => some (.bool ds.isEmpty)
  | _ => none
theorem op_eqE {X : Cx} (hu : X.A.units < cLine) : OpR X (compareOp .Eq) (rEqE X.K) := by
  intro pins s σ H x y v u Q I rx ry h
  obtain ⟨a, b, xs, rfl, rfl, ha, hb, q⟩ := h
  cases rx; cases ry
  obtain ⟨its, rv, p, hz⟩ := I.tuple ha
  obtain ⟨its2, rv2, p2, hz2⟩ := I.tuple hb
  have e2 : its2 = [] := by
    cases its2 with
    | nil => rfl
    | cons c cs => cases rv2
  subst e2
  have z := SeqAt.RcAt.tuples (A := X.A) (e := fun _ => true) (show s.heap.IsTuple a its.toArray from p) (show s.heap.IsTuple b ([] : List Value).toArray from p2) hu (fun j _ h2 => by simp at h2)
  refine z X.prog X.w _ _ ?_
  refine ⟨.bl xs.isEmpty, H, I, ?_, q⟩
  have hl : its.length = xs.length := rv.length.symm
  have : ((List.range (min its.toArray.size ([] : List Value).toArray.size)).all (fun _ => true) && its.toArray.size == ([] : List Value).toArray.size) = xs.isEmpty := by
    simp [hl]
    cases xs <;> simp
  rw [this]; rfl
section
variable {K : PySem.W.Frag}
theorem pr_eqE : PrimR K (u2 (rEqE K)) pEqE := by
  intro vs ds d H Q h e q
  unfold pEqE at e
  split at e
  · obtain ⟨x, y, F, G, rfl, o1, o2⟩ := h.two
    cases e
    cases o1 with
    | tup h1 t1 =>
      cases o2 with
      | tup h2 t2 =>
        cases t2
        refine ⟨_, _, _, rfl, rfl, h1.sq, h2.sq, ?_⟩
        have hl := t1.len
        have emp : ∀ {xs : List V} {ds : List D}, xs.length = ds.length → xs.isEmpty = ds.isEmpty := fun {xs ds} h => by
          cases xs <;> cases ds <;> simp at h ⊢
        rw [emp (by first | exact hl | exact hl.symm)]
        exact q _ _ (.sc (.bl _))
  · cases e
end
def oFrd (g : O) : O := fun s => (g s).bind fun r s1 => match r with
  | .val d => if (unK d).map (·.isEmpty) = some true then .ok (.val (.dict [(.none, .dict [])])) s1 else .bad
  | _ => .bad
section
variable {X : Cx} {e : Expr} {ga : O}
theorem so_frd (ha : SimO X e ga) : SimO X e (oFrd ga) := by
  refine ⟨fun pins s σ H Q I z => ?_⟩
  obtain ⟨sg, Fs, rf, sg', R, e0, q⟩ := z
  obtain ⟨r, s1, e1, e2⟩ := bind_inv e0
  refine thn (ha.run pins s σ H (fun v H1 => ∃ Fs1 F, RelS X.K H1 s1 σ Fs1 ∧ Ev H Fs H1 Fs1 ∧ RfOk X.K H1 σ Fs1 r v F ∧ ∀ a, a ∈ F → H a = none) I ⟨sg, Fs, r, s1, R, e1, fun v H1 Fs1 F R1 E1 k1 n1 => ⟨Fs1, F, R1, E1, k1, n1⟩⟩) fun v s2 ⟨x, H1, I1, r1, Fs1, F, R1, E1, k1, n1⟩ => ?_
  clear e0
  split at e2
  · rename_i _ d
    split at e2
    · rename_i hp
      cases e2
      cases k1 with
      | val A =>
        obtain ⟨l0, hl0, hp⟩ := Option.map_eq_some_iff.mp hp
        have hl0' : l0 = [] := by cases l0 <;> simp at hp ⊢
        subst hl0'
        obtain ⟨a, kvs, F0, rfl, rfl, hd⟩ := own_K A.own hl0
        have hk : kvs = [] := by
          have := congrArg List.length hd.keys
          simpa using this
        subst hk
        have hx := hd.at_
        obtain ⟨od, I2⟩ := I1.lock hx trivial
        have na : H a = none := n1 a (List.mem_cons_self ..)
        have c : Chg (fun b => b = a) H1 (upd H1 a (.frz od (.dK []))) := ⟨fun b o hb cc => by
          by_cases hba : b = a
          · subst hba
            rw [hx] at hb
            cases hb
            rcases cc with z | z
            · exact absurd rfl z
            · cases z
          · rw [upd_ne hba]; exact hb, fun b hb => by
          by_cases hba : b = a
          · subst hba
            rw [upd_same] at hb
            cases hb
          · rwa [upd_ne hba] at hb⟩
        have R2 : RelS X.K (upd H1 a (.frz od (.dK []))) _ σ Fs1 := ⟨R1.len, fun i d ed => by
          obtain ⟨v', hv', o⟩ := R1.has i d ed
          exact ⟨v', hv', o.chg c fun b hb z => by
            subst z
            exact A.dis i b hb (List.mem_cons_self ..)⟩, R1.off, R1.dis⟩
        have E2 : Ev H Fs (upd H1 a (.frz od (.dK []))) Fs1 := ⟨⟨fun b o hb cc => by
          have hba : b ≠ a := fun z => by rw [z, na] at hb; cases hb
          rw [upd_ne hba]
          exact E1.chg.keep b o hb cc, fun b hb => by
          by_cases hba : b = a
          · rw [hba]; exact na
          · rw [upd_ne hba] at hb
            exact E1.chg.there b hb⟩, E1.new⟩
        exact ⟨.ref a, _, I2, r1, q (.ref a) _ Fs1 [] R2 E2 (.val ⟨.frd (upd_same ..), by simp⟩) (by simp)⟩
    · cases e2
  · cases e2
end
end Sim
namespace Sim
open PySem PySem.Spec L2
section
variable {X : Cx} {x : Str} {p pos : Pos} {es : List Expr} {ga : AL} {i : Nat}
end
end Sim
namespace Sim
open PySem PySem.Spec L2
section
variable {X : Cx} {x : Str} {p : Pos} {i : Nat}
end
end Sim
namespace Sim
open PySem PySem.Spec L2
def thawF : List (D × D) → D
  | [(.none, .list ds)] => .list ds
  | kvs => .dict kvs
mutual
def thaw : D → D
  | .tuple ds => .tuple (thaws ds)
  | .dict kvs => thawF kvs
  | .none => .none
  | .bool b => .bool b
  | .int i => .int i
  | .str x => .str x
  | .list ds => .list ds
def thaws : List D → List D
  | [] => []
  | d :: ds => thaw d :: thaws ds
end
section
variable {K : PySem.W.Frag} {H : Hp}
mutual
theorem Own.dpT : ∀ {d : D} {v : V} {F : List Addr}, Own K H d v F → noD (thaw d) = true → Dp K H v (thaw d)
  | _, _, _, .non, _ => by rw [thaw]; exact .non
  | _, _, _, .bl b, _ => by rw [thaw]; exact .bl b
  | _, _, _, .int b, _ => by rw [thaw]; exact .int b
  | _, _, _, .str b, _ => by rw [thaw]; exact .str b
  | _, _, _, .frz h t, p => by
    rw [thaw, thawF] at p ⊢
    exact .lst h.sq (OwnA.dp t (by simpa [noD] using p))
  | _, _, _, .frd _, p => by rw [thaw, thawF] at p; simp [noD] at p; intro ds z; cases z
  | _, _, _, .dct _ _ _, p => by rw [thaw, thawF] at p; simp [noD] at p; intro ds z; cases z
  | _, _, _, .dcn _ _ _, p => by rw [thaw, thawF] at p; simp [noD] at p; intro ds z; cases z
  | _, _, _, .ins _ _ _, p => by rw [thaw, thawF] at p; simp [noD] at p; intro ds z; cases z
  | _, _, _, .lst h t _, p => by rw [thaw] at p ⊢; exact .lst (SqL.of h) (OwnA.dp t (by simpa [noD] using p))
  | _, _, _, .tup h t, p => by rw [thaw] at p ⊢; exact .tup h.sq (OwnA.dpT t (by simpa [noD] using p))
theorem OwnA.dpT : ∀ {ds : List D} {vs : List V} {F : List Addr}, OwnA K H ds vs F → noDs (thaws ds) = true → DpAll K H vs (thaws ds)
  | _, _, _, .nil, _ => by rw [thaws]; exact .nil
  | _, _, _, .cons h t _, p => by
    rw [thaws] at p ⊢
    simp only [noDs, Bool.and_eq_true] at p
    exact .cons (Own.dpT h p.1) (OwnA.dpT t p.2)
end
end
/-- what is shown as a whole -/
def okT (d : D) : Bool := noD d && d.showable && !d.hasDict && d.leavesShort 13 && decide (d.weight ≤ 2 ^ 20) && decide (d.depth ≤ 40)
def strA : D → Option Str
  | .none => some "None"
  | .bool b => some (if b then ("True" : Str) else ("False" : Str))
  | .int i => if i.natAbs.log2 < 1920 then some (toString i : String) else none
  | .str x => some x
  | .tuple ds => if okT (.tuple (thaws ds)) = true then some (PyData.shown (.tuple (thaws ds))) else none
  | .dict [(.none, .list ds)] => if okT (.list ds) = true then some (PyData.shown (.list ds)) else none
  | .dict [(.none, .dict [])] => some (PyData.shown (.dict []))
  | _ => none
def pStrA : List D → Option D
  | [d] => (strA d).map .str
  | _ => none
def rStrA (K : PySem.W.Frag) : List V → Hp → VK → Prop := fun xs H Q => ∃ v t, xs = [v] ∧ Q (.str t) H ∧
  ((v = .non ∧ t = Str.ofString "None") ∨ (∃ b, v = .bl b ∧ t = if b then ("True" : Str) else ("False" : Str)) ∨ (∃ i, v = .int i ∧ i.natAbs.log2 < 1920 ∧ t = Str.ofString (toString i)) ∨ v = .str t ∨
    (∃ a od, v = .ref a ∧ H a = some (.frz od (.dK [])) ∧ t = PyData.shown (.dict [])) ∨ (∃ a d, v = .ref a ∧ Dp K H v d ∧ okT d = true ∧ t = d.shown))
section
variable {prog : Program} {w : World} {A : Around} {E : Value → Shared → Prop} {s : Shared}
theorem str_of_boolV {b : Bool} {Q : Value → Shared → Prop} (h : Q (.str (if b then ("True" : Str) else ("False" : Str)) s.toks) { s with toks := s.toks + 1 }) : wpAny (model prog w) A (call (.type "str") [.bool b]) Q E s :=
  callType_new F.called_str (by decide) (F.typeCall_str_1 _) (F.newCall_str_1 _) (fun obj => F.args_object_init_2 obj _) F.entry_str_new
    (meets_str_new (S := fun _ R s => R (.ok (.ret (.str (if b then ("True" : Str) else ("False" : Str)) s.toks))) { s with toks := s.toks + 1 }) fun _ _ _ _ s hq =>
      wpAny_strOf_gives rfl (typeIs_bool s b) F.slot_bool_str F.slot_bool_repr F.entry_bool_repr (F.args_bool_repr_1 _) (gives_bool_repr b) hq (hsz := by cases b <;> decide)) ⟨typeIs_str _ _ _, h⟩
theorem str_of_noneV {Q : Value → Shared → Prop} (h : Q (.str ("None" : String) s.toks) { s with toks := s.toks + 1 }) : wpAny (model prog w) A (call (.type "str") [.none]) Q E s :=
  callType_new F.called_str (by decide) (F.typeCall_str_1 _) (F.newCall_str_1 _) (fun obj => F.args_object_init_2 obj _) F.entry_str_new
    (meets_str_new (S := fun _ R s => R (.ok (.ret (.str ("None" : String) s.toks))) { s with toks := s.toks + 1 }) fun _ _ _ _ s hq =>
      wpAny_strOf_gives rfl (typeIs_none s) F.slot_NoneType_str F.slot_NoneType_repr F.entry_NoneType_repr (F.args_NoneType_repr_1 _) gives_none_repr hq (hsz := by decide)) ⟨typeIs_str _ _ _, h⟩
end
section
variable {X : Cx}
theorem call_strA (hG : X.A.guards = some []) (hu : X.A.units + 64 < cLine) : CallR X (.type "str") (rStrA X.K) := by
  intro pins s σ H xs us Q I r h
  obtain ⟨v, t, rfl, q, h⟩ := h
  obtain ⟨u, rfl, rx⟩ := vals1 r
  rcases h with ⟨rfl, rfl⟩ | ⟨b, rfl, rfl⟩ | ⟨i, rfl, hz, rfl⟩ | rfl | ⟨a, od, rfl, hd, rfl⟩ | ⟨a, d, rfl, hd, ok, rfl⟩
  · cases rx
    exact str_of_noneV ⟨.str _, H, I.tok _, ⟨_, rfl⟩, q⟩
  · cases rx
    exact str_of_boolV ⟨.str _, H, I.tok _, ⟨_, rfl⟩, q⟩
  · obtain ⟨tk, rfl⟩ := rx
    exact PySem.P.str_of_int hz ⟨.str _, H, I.tok _, ⟨_, rfl⟩, q⟩
  · obtain ⟨tk, rfl⟩ := rx
    exact PySem.P.str_of_str ⟨.str _, H, I, ⟨tk, rfl⟩, q⟩
  · cases rx
    obtain ⟨_, hs, vs, rel, o, es, ep, eo, exd, hdat, _, prs, _⟩ := dk_rd I.hok (.inr ⟨od, hd⟩)
    cases rel
    have he : es.toList = [] := by
      cases hh : es.toList with
      | nil => rfl
      | cons e r => rw [hh] at prs; cases prs
    have rd : Reads s.heap (.ref a) (.dict []) (a :: ([] ++ [])) := .dict eo exd.1 hdat (by rw [he]; exact .nil) (by rw [he]; exact .nil)
    refine str_of_reads (h₀ := s.heap) rd rfl (fun _ hm => ?_) hG (by show X.A.units + (PyData.depth (.dict []) + 3) < cLine; have : PyData.depth (.dict []) ≤ 2 := by decide +kernel
                                                                      omega) (fun b o e => e) (fun h' t tk kp => ?_) (by decide +kernel)
    · have : sysModules = a := by simpa using hm
      rw [this] at hs
      simp at hs
    · exact ⟨.str _, H, I.kept (t' := tk) kp, ⟨t, rfl⟩, q⟩
  · obtain ⟨as, rd⟩ := Dp.reads I d _ u hd rx
    simp only [okT, Bool.and_eq_true, decide_eq_true_eq, Bool.not_eq_true'] at ok
    obtain ⟨⟨⟨⟨⟨h1, h2⟩, h3⟩, h4⟩, h5⟩, h6⟩ := ok
    cases rx
    refine str_of_reads (h₀ := s.heap) rd h2 (PyData.noDict_hsm h3) hG (by omega) (fun b o e => e) (fun h' t tk kp => ?_) (PyData.shown_fits (B := 13) (by decide) (by decide) h4 h5)
    exact ⟨.str _, H, I.kept (t' := tk) kp, ⟨t, rfl⟩, q⟩
theorem pr_strA {K : PySem.W.Frag} : PrimR K (rStrA K) pStrA := by
  intro vs ds d H Q h e q
  unfold pStrA at e
  split at e
  · obtain ⟨x, F, rfl, o⟩ := h.one
    obtain ⟨t, et, rfl⟩ := Option.map_eq_some_iff.mp e
    refine ⟨x, t, rfl, q _ _ (NewV.sc (.str _)), ?_⟩
    unfold strA at et
    split at et
    · cases et; cases o; exact .inl ⟨rfl, rfl⟩
    · cases et; cases o; exact .inr (.inl ⟨_, rfl, rfl⟩)
    · split at et
      · rename_i hz
        cases et; cases o; exact .inr (.inr (.inl ⟨_, rfl, hz, rfl⟩))
      · cases et
    · cases et; cases o; exact .inr (.inr (.inr (.inl rfl)))
    · split at et
      · rename_i ds ok
        cases et
        have hn : noD (.tuple (thaws ds)) = true := by
          simp only [okT, Bool.and_eq_true] at ok
          exact ok.1.1.1.1.1
        have hd := o.dpT (by rw [thaw]; exact hn)
        rw [thaw] at hd
        cases o
        exact .inr (.inr (.inr (.inr (.inr ⟨_, _, rfl, hd, ok, rfl⟩))))
      · cases et
    · split at et
      · rename_i ds ok
        cases et
        have hn : noD (.list ds) = true := by
          simp only [okT, Bool.and_eq_true] at ok
          exact ok.1.1.1.1.1
        have hd := o.dpT (by rw [thaw, thawF]; exact hn)
        rw [thaw, thawF] at hd
        cases hd with
        | lst h1 h2 => exact .inr (.inr (.inr (.inr (.inr ⟨_, _, rfl, .lst h1 h2, ok, rfl⟩))))
      · cases et
    · cases et
      cases o with
      | frd hf => exact .inr (.inr (.inr (.inr (.inl ⟨_, _, rfl, hf, rfl⟩))))
    · cases et
  · cases e
end
end Sim
namespace Sim
open PySem PySem.Spec L2
abbrev Pt := List (Option D)
def gtP : Pt → Nat → Option D
  | [], _ => none
  | o :: _, 0 => o
  | _ :: p, n + 1 => gtP p n
def stP : Pt → Nat → Option D → Pt
  | [], _, _ => []
  | _ :: p, 0, o => o :: p
  | q :: p, n + 1, o => q :: stP p n o
structure Mt (p : Pt) (s : Sg) : Prop where
  len : p.length = s.length
  has : ∀ i d, gtP p i = some d → s[i]? = some (some d)
structure Wk (q p : Pt) : Prop where
  len : q.length = p.length
  has : ∀ i d, gtP q i = some d → gtP p i = some d
theorem stP_len : ∀ (p : Pt) (i : Nat) (o : Option D), (stP p i o).length = p.length
  | [], _, _ => rfl
  | _ :: _, 0, _ => rfl
  | _ :: p, i + 1, o => congrArg (· + 1) (stP_len p i o)
theorem gtP_stP : ∀ (p : Pt) (i j : Nat) (o : Option D), gtP (stP p i o) j = if i = j ∧ i < p.length then o else gtP p j
  | [], i, j, o => by rw [if_neg (by simp)]; rfl
  | a :: p, 0, 0, o => by simp [stP, gtP]
  | a :: p, 0, j + 1, o => by simp [stP, gtP]
  | a :: p, i + 1, 0, o => by simp [stP, gtP]
  | a :: p, i + 1, j + 1, o => by
    show gtP (stP p i o) j = _
    rw [gtP_stP p i j o]
    simp [gtP]
theorem Mt.get {p : Pt} {s : Sg} (h : Mt p s) {i : Nat} {d : D} (e : gtP p i = some d) : (s[i]?).join = some d := by rw [h.has i d e]; rfl
theorem Mt.put {p : Pt} {s : Sg} (h : Mt p s) (i : Nat) (d : D) : Mt (stP p i (some d)) (s.set i (some d)) := by
  refine ⟨by rw [stP_len, List.length_set, h.len], fun j e hj => ?_⟩
  rw [gtP_stP] at hj
  rw [List.getElem?_set]
  by_cases c : i = j
  · subst c
    by_cases c2 : i < p.length
    · rw [if_pos ⟨rfl, c2⟩] at hj
      rw [if_pos rfl, if_pos (by rw [← h.len]; exact c2), hj]
    · rw [if_neg (by simp [c2])] at hj
      have := h.has i e hj
      rw [List.getElem?_eq_none (by rw [← h.len]; omega)] at this
      cases this
  · rw [if_neg (by simp [c])] at hj
    rw [if_neg c]
    exact h.has j e hj
theorem Mt.off {p : Pt} {s : Sg} (h : Mt p s) (i : Nat) (o : Option D) : Mt (stP p i none) (s.set i o) := by
  refine ⟨by rw [stP_len, List.length_set, h.len], fun j e hj => ?_⟩
  rw [gtP_stP] at hj
  rw [List.getElem?_set]
  by_cases c : i = j
  · subst c
    by_cases c2 : i < p.length
    · rw [if_pos ⟨rfl, c2⟩] at hj; cases hj
    · rw [if_neg (by simp [c2])] at hj
      have := h.has i e hj
      rw [List.getElem?_eq_none (by rw [← h.len]; omega)] at this
      cases this
  · rw [if_neg (by simp [c])] at hj
    rw [if_neg c]
    exact h.has j e hj
theorem Mt.wk {q p : Pt} {s : Sg} (h : Mt p s) (w : Wk q p) : Mt q s := ⟨w.len.trans h.len, fun i d e => h.has i d (w.has i d e)⟩
theorem Mt.refl (s : Sg) : Mt s s := by
  refine ⟨rfl, fun i d e => ?_⟩
  induction s generalizing i with
  | nil => cases e
  | cons o s ih =>
    cases i with
    | zero => have e : o = some d := e; rw [e]; rfl
    | succ i => rw [List.getElem?_cons_succ]; exact ih i e
theorem wk_nil : Wk [] [] := ⟨rfl, fun _ _ e => by cases e⟩
theorem wk_a {q p : Pt} {o : Option D} (h : Wk q p) : Wk (none :: q) (o :: p) := ⟨congrArg (· + 1) h.len, fun i d e => by
  cases i with
  | zero => cases e
  | succ i => exact h.has i d e⟩
theorem wk_s {q p : Pt} {o : Option D} (h : Wk q p) : Wk (o :: q) (o :: p) := ⟨congrArg (· + 1) h.len, fun i d e => by
  cases i with
  | zero => exact e
  | succ i => exact h.has i d e⟩
theorem Wk.refl (p : Pt) : Wk p p := ⟨rfl, fun _ _ e => e⟩
abbrev eI : Int → D := PyData.int
abbrev eB : Bool → D := PyData.bool
abbrev eS : Str → D := PyData.str
def eU : Unit → D := fun _ => PyData.none
def eL {α : Type} (e : α → D) (xs : List α) : D := .list (xs.map e)
def eT {α : Type} (e : α → D) (xs : List α) : D := .tuple (xs.map e)
def eZ (xs : List Int) : D := .dict [(.none, .list (xs.map .int))]
def eP {α β : Type} (a : α → D) (b : β → D) (x : α × β) : D := .tuple [a x.1, b x.2]
def eQ {α β γ : Type} (a : α → D) (b : β → D) (c : γ → D) (x : α × β × γ) : D := .tuple [a x.1, b x.2.1, c x.2.2]
def eO {α : Type} (e : α → D) : Option α → D
  | none => PyData.none
  | some x => e x
/-- nothing in it changes -/
def Pu {α : Type} (e : α → D) : Prop := ∀ x, pur (e x) = true
theorem puI : Pu eI := fun _ => rfl
theorem puB : Pu eB := fun _ => rfl
theorem puS : Pu eS := fun _ => rfl
theorem puU : Pu eU := fun _ => rfl
theorem puZ : Pu eZ := fun xs => pur_frz _
theorem purs_pu {α : Type} {e : α → D} (h : Pu e) : ∀ xs : List α, purs (xs.map e) = true
  | [] => rfl
  | x :: xs => by rw [List.map_cons, purs_cons, h x, purs_pu h xs]; rfl
theorem puT {α : Type} {e : α → D} (h : Pu e) : Pu (eT e) := fun xs => by rw [eT, pur_tuple, purs_pu h]
theorem puP {α β : Type} {a : α → D} {b : β → D} (h : Pu a) (h2 : Pu b) : Pu (eP a b) := fun x => by rw [eP, pur_tuple, purs_cons, purs_cons, h, h2]; rfl
theorem puQ {α β γ : Type} {a : α → D} {b : β → D} {c : γ → D} (h : Pu a) (h2 : Pu b) (h3 : Pu c) : Pu (eQ a b c) := fun x => by rw [eQ, pur_tuple, purs_cons, purs_cons, purs_cons, h, h2, h3]; rfl
theorem puO' {α : Type} {e : α → D} (h : Pu e) : Pu (eO e) := fun x => by
  cases x with
  | none => rfl
  | some x => exact h x
def Rd (vl : Bool) (p : Pt) (r : Rf) (d : D) : Prop := r = .val d ∨ (vl = false ∧ ∃ i, r = .slot i ∧ gtP p i = some d)
section
variable {α β δ γ : Type}
theorem Rd.rd {vl : Bool} {p : Pt} {r : Rf} {d : D} {s : Sg} (h : Rd vl p r d) (m : Mt p s) : rd r s = some d := by
  rcases h with rfl | ⟨_, i, rfl, e⟩
  · rfl
  · exact m.get e
theorem Rd.own {vl : Bool} {p : Pt} {r : Rf} {d : D} {s : Sg} (h : Rd vl p r d) (m : Mt p s) (c : vl = true ∨ pur d = true) : own r s = some d := by
  rcases h with rfl | ⟨e0, i, rfl, e⟩
  · rfl
  · rcases c with c | c
    · rw [e0] at c; cases c
    · rw [own_slot, m.get e, ownK_some, if_pos c]
def X (vl : Bool) (p : Pt) (g : O) (v : α → D) (q : α → Pt) (F : (α → Option γ) → Option γ) : Prop :=
  ∀ k z, F k = some z → ∃ x, k x = some z ∧ ∀ s, Mt p s → ∃ r s', g s = .ok r s' ∧ Mt (q x) s' ∧ Rd vl (q x) r (v x)
theorem x_var {p : Pt} (i : Nat) {d : D} (h : gtP p i = some d) : X (γ := γ) false p (oV i) (fun _ : Unit => d) (fun _ => p) (fun k => k ()) :=
  fun k z e => ⟨(), e, fun s m => ⟨.slot i, s, by rw [ev_oV, m.get h, ev_oVK], m, .inr ⟨rfl, i, rfl, h⟩⟩⟩
theorem x_c {p : Pt} (d : D) : X (γ := γ) true p (oC d) (fun _ : Unit => d) (fun _ => p) (fun k => k ()) :=
  fun k z e => ⟨(), e, fun s m => ⟨.val d, s, rfl, m, .inl rfl⟩⟩
/-- told otherwise: the same value by another name -/
theorem X.as {p : Pt} {g : O} {v : α → D} {q : α → Pt} {F : (α → Option γ) → Option γ} {vl : Bool} (h : X vl p g v q F) (v' : α → D) (e : v = v') : X vl p g v' q F := e ▸ h
inductive AK where
  | v | s (i : Nat)
def Rk (p : Pt) : List AK → List Rf → List D → Prop
  | [], [], [] => True
  | .v :: ks, r :: rs, d :: ds => (Rd false p r d ∧ (r = .val d ∨ pur d = true)) ∧ Rk p ks rs ds
  | .s i :: ks, r :: rs, d :: ds => (r = .slot i ∧ gtP p i = some d ∧ pur d = false) ∧ Rk p ks rs ds
  | _, _, _ => False
theorem Rk.rds {p : Pt} {s : Sg} (m : Mt p s) : ∀ {ks : List AK} {rs : List Rf} {ds : List D}, Rk p ks rs ds → rds rs s = some ds
  | [], [], [], _ => rfl
  | .v :: ks, r :: rs, d :: ds, h => by rw [rds_cons, h.1.1.rd m, Rk.rds m h.2]; rfl
  | .s i :: ks, r :: rs, d :: ds, h => by rw [rds_cons, h.1.1, rd_slot, m.get h.1.2.1, Rk.rds m h.2]; rfl
theorem Rk.owns {p : Pt} {s : Sg} (m : Mt p s) : ∀ {ks : List AK} {rs : List Rf} {ds : List D}, Rk p ks rs ds → (∀ k ∈ ks, k = .v) → owns rs s = some ds
  | [], [], [], _, _ => rfl
  | .v :: ks, r :: rs, d :: ds, h, a => by
    have o : own r s = some d := by
      rcases h.1.2 with z | z
      · rw [z]; rfl
      · exact h.1.1.own m (.inr z)
    rw [owns_cons, o, Rk.owns m h.2 fun k hk => a k (List.mem_cons_of_mem _ hk)]; rfl
  | .s i :: ks, r :: rs, d :: ds, h, a => by have := a _ (List.mem_cons_self ..); cases this
def kl : List AK → List D → List (Nat × D)
  | .s i :: ks, d :: ds => (i, d) :: kl ks ds
  | .v :: ks, _ :: ds => kl ks ds
  | _, _ => []
theorem Rk.lks {p : Pt} : ∀ {ks : List AK} {rs : List Rf} {ds : List D}, Rk p ks rs ds → lks rs ds = kl ks ds
  | [], [], [], _ => rfl
  | .v :: ks, r :: rs, d :: ds, h => by
    cases r with
    | val x => rw [lks_val, Rk.lks h.2]; rfl
    | slot i =>
      rcases h.1.2 with z | z
      · cases z
      · rw [lks_slot, if_pos z, Rk.lks h.2]; rfl
  | .s i :: ks, r :: rs, d :: ds, h => by
    rw [h.1.1, lks_slot, if_neg (by rw [h.1.2.2]; simp), Rk.lks h.2]; rfl
theorem Rk.lkz {p : Pt} : ∀ {ks : List AK} {rs : List Rf} {ds as : List D}, Rk p ks rs ds → as.length = ds.length → lkz rs ds as = kl ks as
  | [], [], [], [], _, _ => rfl
  | .v :: ks, r :: rs, d :: ds, a :: as, h, l => by
    have l : as.length = ds.length := by simpa using l
    cases r with
    | val x => rw [lkz_val, Rk.lkz h.2 l]; rfl
    | slot i =>
      rcases h.1.2 with z | z
      · cases z
      · rw [lkz_slot, if_pos z, Rk.lkz h.2 l]; rfl
  | .s i :: ks, r :: rs, d :: ds, a :: as, h, l => by
    have l : as.length = ds.length := by simpa using l
    rw [h.1.1, lkz_slot, if_neg (by rw [h.1.2.2]; simp), Rk.lkz h.2 l]; rfl
def AK.isV : AK → Bool
  | .v => true
  | .s _ => false
theorem kv {ks : List AK} (h : ks.all AK.isV = true) : ∀ k ∈ ks, k = .v := fun k hk => by
  have := List.all_eq_true.mp h k hk
  cases k with
  | v => rfl
  | s i => cases this
theorem Rk.len {p : Pt} : ∀ {ks : List AK} {rs : List Rf} {ds : List D}, Rk p ks rs ds → ds.length = ks.length
  | [], [], [], _ => rfl
  | .v :: ks, r :: rs, d :: ds, h => congrArg (· + 1) (Rk.len h.2)
  | .s i :: ks, r :: rs, d :: ds, h => congrArg (· + 1) (Rk.len h.2)
def XA (p : Pt) (gs : AL) (ks : List AK) (vs : α → List D) (q : α → Pt) (F : (α → Option γ) → Option γ) : Prop :=
  ∀ k z, F k = some z → ∃ x, k x = some z ∧ ∀ s, Mt p s → ∃ rs s', gs s = .ok rs s' ∧ Mt (q x) s' ∧ Rk (q x) ks rs (vs x)
theorem xa_nil {p : Pt} : XA (γ := γ) p aNil [] (fun _ : Unit => []) (fun _ => p) (fun k => k ()) :=
  fun k z e => ⟨(), e, fun s m => ⟨[], s, rfl, m, trivial⟩⟩
section
variable {p : Pt} {g : O} {gs : AL} {v : α → D} {q : α → Pt} {F : (α → Option γ) → Option γ} {vl : Bool}
  {ks : List AK} {vs : α → β → List D} {q2 : α → β → Pt} {F2 : α → (β → Option γ) → Option γ}
/-- a value ahead of more -/
theorem xa_v (h : X true p g v q F) (h2 : ∀ x, XA (q x) gs ks (vs x) (q2 x) (F2 x)) :
    XA p (aCons g gs) (.v :: ks) (fun w : α × β => v w.1 :: vs w.1 w.2) (fun w => q2 w.1 w.2) (fun k => F fun x => F2 x fun y => k (x, y)) := fun k z e => by
  obtain ⟨x, e1, h⟩ := h _ z e
  obtain ⟨y, e2, h2⟩ := h2 x _ z e1
  refine ⟨(x, y), e2, fun s m => ?_⟩
  obtain ⟨r, s1, a1, a2, a3⟩ := h s m
  obtain ⟨rs, s2, b1, b2, b3⟩ := h2 s1 a2
  have a3 : r = .val (v x) := by
    rcases a3 with a3 | ⟨a3, _⟩
    · exact a3
    · cases a3
  refine ⟨r :: rs, s2, by rw [ev_aCons, a1, ev_ok, ev_consK, b1, ev_ok, ev_consK2], b2, ⟨.inl a3, .inl a3⟩, b3⟩
/-- what never changes, ahead of what changes nothing -/
theorem xa_p {vs : α → β → List D} (h : X vl p g v q F) (hp : ∀ x, pur (v x) = true) (h2 : ∀ x, XA (q x) gs ks (vs x) (fun _ => q x) (F2 x)) :
    XA p (aCons g gs) (.v :: ks) (fun w : α × β => v w.1 :: vs w.1 w.2) (fun w => q w.1) (fun k => F fun x => F2 x fun y => k (x, y)) := fun k z e => by
  obtain ⟨x, e1, h⟩ := h _ z e
  obtain ⟨y, e2, h2⟩ := h2 x _ z e1
  refine ⟨(x, y), e2, fun s m => ?_⟩
  obtain ⟨r, s1, a1, a2, a3⟩ := h s m
  obtain ⟨rs, s2, b1, b2, b3⟩ := h2 s1 a2
  exact ⟨r :: rs, s2, by rw [ev_aCons, a1, ev_ok, ev_consK, b1, ev_ok, ev_consK2], b2, ⟨a3.imp id fun z => ⟨rfl, z.2⟩, .inr (hp x)⟩, b3⟩
/-- a name that keeps what never changes, ahead of anything -/
theorem xa_n {vs : β → List D} {q2 : β → Pt} {F2 : (β → Option γ) → Option γ} (i : Nat) {d : D} (h0 : gtP p i = some d) (h2 : XA p gs ks vs q2 F2) (h1 : ∀ y, gtP (q2 y) i = some d) (hp : pur d = true) :
    XA p (aCons (oV i) gs) (.v :: ks) (fun w : β => d :: vs w) (fun w => q2 w) F2 := fun k z e => by
  obtain ⟨y, e2, h2⟩ := h2 _ z e
  refine ⟨y, e2, fun s m => ?_⟩
  obtain ⟨rs, s2, b1, b2, b3⟩ := h2 s m
  exact ⟨.slot i :: rs, s2, by rw [ev_aCons, ev_oV, m.get h0, ev_oVK, ev_ok, ev_consK, b1, ev_ok, ev_consK2], b2, ⟨.inr ⟨rfl, i, rfl, h1 y⟩, .inr hp⟩, b3⟩
/-- a name of a list -/
theorem xa_s {vs : β → List D} {q2 : β → Pt} {F2 : (β → Option γ) → Option γ} {d : β → D} {d0 : D} (i : Nat) (h0 : gtP p i = some d0) (h2 : XA p gs ks vs q2 F2) (h1 : ∀ y, gtP (q2 y) i = some (d y)) (hp : ∀ y, pur (d y) = false) :
    XA p (aCons (oV i) gs) (.s i :: ks) (fun w : β => d w :: vs w) (fun w => q2 w) F2 := fun k z e => by
  obtain ⟨y, e2, h2⟩ := h2 _ z e
  refine ⟨y, e2, fun s m => ?_⟩
  obtain ⟨rs, s2, b1, b2, b3⟩ := h2 s m
  exact ⟨.slot i :: rs, s2, by rw [ev_aCons, ev_oV, m.get h0, ev_oVK, ev_ok, ev_consK, b1, ev_ok, ev_consK2], b2, ⟨rfl, h1 y, hp y⟩, b3⟩
end
section
variable {p : Pt} {gs : AL} {q : α → Pt} {F : (α → Option γ) → Option γ} {ks : List AK} {vs : α → List D}
theorem x_prim {f : List D → Option D} {m : α → Option β} {rv : α → β → D} (h : XA p gs ks vs q F) (hf : ∀ x z, m x = some z → f (vs x) = some (rv x z)) :
    X true p (oPrim f gs) (fun w : α × β => rv w.1 w.2) (fun w => q w.1) (fun k => F fun x => (m x).bind fun z => k (x, z)) := fun k z e => by
  obtain ⟨x, e1, h⟩ := h _ z e
  obtain ⟨y, e2, e3⟩ := Option.bind_eq_some_iff.mp e1
  refine ⟨(x, y), e3, fun s mm => ?_⟩
  obtain ⟨rs, s2, b1, b2, b3⟩ := h s mm
  exact ⟨.val (rv x y), s2, by rw [ev_prim, b1, ev_ok, ev_primK, b3.rds b2, ev_primK2, hf x y e2, ev_primK3], b2, .inl rfl⟩
theorem x_primT {f : List D → Option D} {rv : α → D} (h : XA p gs ks vs q F) (hf : ∀ x, f (vs x) = some (rv x)) :
    X true p (oPrim f gs) rv q F := fun k z e => by
  obtain ⟨x, e1, h⟩ := h _ z e
  refine ⟨x, e1, fun s mm => ?_⟩
  obtain ⟨rs, s2, b1, b2, b3⟩ := h s mm
  exact ⟨.val (rv x), s2, by rw [ev_prim, b1, ev_ok, ev_primK, b3.rds b2, ev_primK2, hf x, ev_primK3], b2, .inl rfl⟩
theorem x_tup (h : XA p gs ks vs q F) (hk : ks.all AK.isV = true) (hl : ks.length ≤ 1000000) : X true p (oTup gs) (fun x => .tuple (vs x)) q F := fun k z e => by
  obtain ⟨x, e1, h⟩ := h _ z e
  refine ⟨x, e1, fun s mm => ?_⟩
  obtain ⟨rs, s2, b1, b2, b3⟩ := h s mm
  exact ⟨.val (.tuple (vs x)), s2, by rw [ev_oTup, b1, ev_ok, ev_tupK, b3.owns b2 (kv hk), ev_tupK2, if_pos (by rw [b3.len]; exact hl)], b2, .inl rfl⟩
theorem x_lst (h : XA p gs ks vs q F) (hk : ks.all AK.isV = true) (hl : ks.length ≤ 1000000) : X true p (oLst gs) (fun x => .list (vs x)) q F := fun k z e => by
  obtain ⟨x, e1, h⟩ := h _ z e
  refine ⟨x, e1, fun s mm => ?_⟩
  obtain ⟨rs, s2, b1, b2, b3⟩ := h s mm
  exact ⟨.val (.list (vs x)), s2, by rw [ev_oLst, b1, ev_ok, ev_lstK, b3.owns b2 (kv hk), ev_lstK2, if_pos (by rw [b3.len]; exact hl)], b2, .inl rfl⟩
def lkP : List (Nat × D) → Pt → Pt
  | [], p => p
  | a :: l, p => lkP l (stP p a.1 none)
def ulP : List (Nat × D) → Pt → Pt
  | [], p => p
  | a :: l, p => ulP l (stP p a.1 (some a.2))
theorem Mt.lk : ∀ (l : List (Nat × D)) {p : Pt} {s : Sg}, Mt p s → Mt (lkP l p) (lockS l s)
  | [], _, _, h => h
  | a :: l, _, _, h => by rw [lockS_cons]; exact Mt.lk l (h.off a.1 none)
theorem Mt.ul : ∀ (l : List (Nat × D)) {p : Pt} {s : Sg}, Mt p s → Mt (ulP l p) (unlockS l s)
  | [], _, _, h => h
  | a :: l, _, _, h => by rw [unlockS_cons]; exact Mt.ul l (h.put a.1 a.2)
def kn : List AK → List Nat
  | [] => []
  | .s i :: ks => i :: kn ks
  | .v :: ks => kn ks
theorem kl_kn : ∀ (ks : List AK) (ds : List D), ds.length = ks.length → (kl ks ds).map (·.1) = kn ks
  | [], [], _ => rfl
  | .v :: ks, d :: ds, h1 => kl_kn ks ds (by simpa using h1)
  | .s i :: ks, d :: ds, h1 => by
    have := kl_kn ks ds (by simpa using h1)
    simp [kl, kn, this]
theorem ul_go : ∀ (L : List (Nat × D)) (p : Pt) (s : Sg), p.length = s.length → (∀ i d, gtP p i = some d → i ∈ L.map (·.1) ∨ s[i]? = some (some d)) → Mt (ulP L p) (unlockS L s)
  | [], p, s, l, h => ⟨l, fun i d e => (h i d e).elim (fun z => by cases z) id⟩
  | a :: L, p, s, l, h => by
    rw [unlockS_cons]
    refine ul_go L _ _ (by rw [stP_len, List.length_set, l]) fun i d e => ?_
    rw [gtP_stP] at e
    rw [List.getElem?_set]
    by_cases c : a.1 = i
    · right
      by_cases c2 : a.1 < p.length
      · rw [if_pos ⟨c, c2⟩] at e
        rw [if_pos c, if_pos (by omega), e]
      · rw [if_neg (by simp [c2])] at e
        exact absurd (by have : ∀ (p : Pt) (i : Nat) (d : D), gtP p i = some d → i < p.length := by
                            intro p
                            induction p with
                            | nil => intro i d h; cases h
                            | cons o p ih =>
                              intro i d h
                              cases i with
                              | zero => exact Nat.zero_lt_succ _
                              | succ i => exact Nat.succ_lt_succ (ih i d h)
                         rw [c]; exact this p i d e) c2
    · rw [if_neg (by simp [c])] at e
      rw [if_neg c]
      rcases h i d e with z | z
      · rw [List.map_cons] at z
        rcases List.mem_cons.mp z with z | z
        · exact absurd z.symm c
        · exact .inl z
      · exact .inr z
/-- a call: m is what the callee tells, its arguments as they are then -/
theorem x_call {f : Fn} {m : α → Option β} {rv : α → β → D} {as : α → β → List D} (h : XA p gs ks vs q F) (hn : nodupB (kn ks) = true)
    (hf : ∀ x z, m x = some z → f (vs x) = .ok (rv x z) (as x z)) (hl : ∀ x z, (as x z).length = (vs x).length) (L : α → β → List (Nat × D)) (hL : ∀ x z, kl ks (as x z) = L x z) :
    X true p (oCall f gs) (fun w : α × β => rv w.1 w.2) (fun w => ulP (L w.1 w.2) (q w.1)) (fun k => F fun x => (m x).bind fun z => k (x, z)) := fun k z e => by
  obtain ⟨x, e1, h⟩ := h _ z e
  obtain ⟨y, e2, e3⟩ := Option.bind_eq_some_iff.mp e1
  refine ⟨(x, y), e3, fun s mm => ?_⟩
  obtain ⟨rs, s2, b1, b2, b3⟩ := h s mm
  refine ⟨.val (rv x y), _, oCall_ok b1 (b3.rds b2) (by rw [b3.lks, kl_kn _ _ b3.len, hn]) (hf x y e2), ?_, .inl rfl⟩
  rw [b3.lks, b3.lkz (hl x y), hL]
  have ll : ∀ (L : List (Nat × D)) (s : Sg), (lockS L s).length = s.length := by
    intro L
    induction L with
    | nil => intro s; rfl
    | cons a L ih => intro s; rw [lockS_cons, ih, List.length_set]
  refine ul_go _ _ _ (by rw [ll, b2.len]) fun i d e => ?_
  by_cases c : i ∈ (L x y).map (·.1)
  · exact .inl c
  · right
    have k1 : (L x y).map (·.1) = kn ks := by rw [← hL, kl_kn _ _ (by rw [hl, b3.len])]
    have k2 : (kl ks (vs x)).map (·.1) = kn ks := kl_kn _ _ b3.len
    have lg : ∀ (L : List (Nat × D)) (s : Sg), i ∉ L.map (·.1) → (lockS L s)[i]? = s[i]? := by
      intro L
      induction L with
      | nil => intro s _; rfl
      | cons a L ih =>
        intro s h
        rw [List.map_cons] at h
        rw [lockS_cons, ih _ (fun z => h (List.mem_cons_of_mem _ z)), List.getElem?_set, if_neg (fun z => h (by rw [← z]; exact List.mem_cons_self ..))]
    rw [lg _ _ (by rw [k2, ← k1]; exact c)]
    exact b2.has i d e
/-- a call by which no list changes -/
theorem x_callP {f : Fn} {m : α → Option β} {rv : α → β → D} (h : XA p gs ks vs q F) (hn : nodupB (kn ks) = true)
    (hf : ∀ x z, m x = some z → f (vs x) = .ok (rv x z) (vs x)) :
    X true p (oCall f gs) (fun w : α × β => rv w.1 w.2) (fun w => q w.1) (fun k => F fun x => (m x).bind fun z => k (x, z)) := fun k z e => by
  obtain ⟨x, e1, h⟩ := h _ z e
  obtain ⟨y, e2, e3⟩ := Option.bind_eq_some_iff.mp e1
  refine ⟨(x, y), e3, fun s mm => ?_⟩
  obtain ⟨rs, s2, b1, b2, b3⟩ := h s mm
  refine ⟨.val (rv x y), _, oCall_ok b1 (b3.rds b2) (by rw [b3.lks, kl_kn _ _ b3.len, hn]) (hf x y e2), ?_, .inl rfl⟩
  rw [b3.lks, b3.lkz rfl]
  have key : ∀ (ks : List AK) (rs : List Rf) (ds : List D), Rk (q x) ks rs ds → ∀ i d, (i, d) ∈ kl ks ds → gtP (q x) i = some d := by
    intro ks
    induction ks with
    | nil => intro rs ds h i d hm; cases ds <;> simp [kl] at hm
    | cons a ks ih =>
      intro rs ds h i d hm
      cases a with
      | v =>
        cases rs with
        | nil => cases ds <;> exact h.elim
        | cons r rs => cases ds with
          | nil => exact h.elim
          | cons e ds => exact ih rs ds h.2 i d hm
      | s j =>
        cases rs with
        | nil => cases ds <;> exact h.elim
        | cons r rs => cases ds with
          | nil => exact h.elim
          | cons e ds =>
            rcases List.mem_cons.mp hm with z | z
            · cases z; exact h.1.2.1
            · exact ih rs ds h.2 i d z
  have kk := key ks rs (vs x) b3
  generalize kl ks (vs x) = L at kk
  clear key
  -- what is closed and opened again is as it was
  have go : ∀ (L : List (Nat × D)), (∀ i d, (i, d) ∈ L → gtP (q x) i = some d) → ∀ s', s'.length = (q x).length → (∀ i d, gtP (q x) i = some d → (i, d) ∈ L ∨ s'[i]? = some (some d)) → Mt (q x) (unlockS L s') := by
    intro L
    induction L with
    | nil => intro _ s' hl h; exact ⟨hl.symm, fun i d e => (h i d e).elim (fun z => by cases z) id⟩
    | cons a L ih =>
      intro hk s' hl h
      rw [unlockS_cons]
      refine ih (fun i d z => hk i d (List.mem_cons_of_mem _ z)) _ (by rw [List.length_set, hl]) fun i d e => ?_
      have ha := hk a.1 a.2 (List.mem_cons_self ..)
      rw [List.getElem?_set]
      by_cases c : a.1 = i
      · rw [if_pos c]
        rw [c, e] at ha
        cases ha
        have : i < s'.length := by
          have := b2.has i a.2 e
          have l2 := b2.len
          rcases Nat.lt_or_ge i s'.length with z | z
          · exact z
          · rw [List.getElem?_eq_none (by omega)] at this; cases this
        right
        rw [if_pos (by omega)]
      · rw [if_neg c]
        rcases h i d e with z | z
        · rcases List.mem_cons.mp z with z | z
          · exact absurd (by rw [← z]) c
          · exact .inl z
        · exact .inr z
  refine go L kk _ ?_ fun i d e => ?_
  · have : ∀ (L : List (Nat × D)) (s : Sg), (lockS L s).length = s.length := by
      intro L
      induction L with
      | nil => intro s; rfl
      | cons a L ih => intro s; rw [lockS_cons, ih, List.length_set]
    rw [this, b2.len]
  · have : ∀ (L : List (Nat × D)) (s : Sg), (∀ i d, (i, d) ∈ L → gtP (q x) i = some d) → s[i]? = some (some d) → (i, d) ∈ L ∨ (lockS L s)[i]? = some (some d) := by
      intro L
      induction L with
      | nil => intro s _ h; exact .inr h
      | cons a L ih =>
        intro s hk h
        rw [lockS_cons]
        by_cases c : a.1 = i
        · have ha := hk a.1 a.2 (List.mem_cons_self ..)
          rw [c, e] at ha
          cases ha
          left
          rw [← c]
          exact List.mem_cons_self ..
        · exact (ih (s.set a.1 none) (fun i d z => hk i d (List.mem_cons_of_mem _ z)) (by rw [List.getElem?_set, if_neg c]; exact h)).imp (List.mem_cons_of_mem _) id
    exact this L s2 kk (b2.has i d e)
end
end
end Sim
namespace Sim
open PySem PySem.Spec L2
section
variable {α β δ γ σ τ : Type}
theorem only {γ : Type} {β : Type} (z : γ) (y0 : β) : ∃ k : β → Option γ, k y0 = some z ∧ ∀ y, k y = some z → y = y0 := by
  classical
  refine ⟨fun y => if y = y0 then some z else none, by simp, fun y h => ?_⟩
  by_cases c : y = y0
  · exact c
  · simp [c] at h
def XT (p : Pt) (t : T) (b : α → Bool) (q : α → Pt) (F : (α → Option γ) → Option γ) : Prop :=
  ∀ k z, F k = some z → ∃ x, k x = some z ∧ ∀ s, Mt p s → ∃ s', t s = .ok (b x) s' ∧ Mt (q x) s'
section
variable {p : Pt} {g : O} {t u : T} {b : α → Bool} {q : α → Pt} {F : (α → Option γ) → Option γ} {vl : Bool} {v : α → D}
theorem xt_tst (h : X vl p g (fun x => .bool (b x)) q F) : XT p (tst g) b q F := fun k z e => by
  obtain ⟨x, e1, h⟩ := h k z e
  refine ⟨x, e1, fun s m => ?_⟩
  obtain ⟨r, s', h1, h2, h3⟩ := h s m
  exact ⟨s', by rw [ev_tst, h1, ev_ok, ev_tstK, h3.rd h2, ev_tstK2], h2⟩
theorem xt_tstA (h : X vl p g v q F) (ht : ∀ x, truD (v x) = some (b x)) : XT p (tstA g) b q F := fun k z e => by
  obtain ⟨x, e1, h⟩ := h k z e
  refine ⟨x, e1, fun s m => ?_⟩
  obtain ⟨r, s', h1, h2, h3⟩ := h s m
  exact ⟨s', by rw [ev_tstA, h1, ev_ok, ev_tstAK, h3.rd h2, ev_tstAK2, ht x, ev_tstAK3], h2⟩
theorem xt_not (h : XT p t b q F) : XT p (tNot t) (fun x => !b x) q F := fun k z e => by
  obtain ⟨x, e1, h⟩ := h k z e
  refine ⟨x, e1, fun s m => ?_⟩
  obtain ⟨s', h1, h2⟩ := h s m
  exact ⟨s', by rw [ev_tNot, h1, ev_ok, ev_tNotK], h2⟩
theorem xt_yes : XT (γ := γ) p tYesT (fun _ : Unit => true) (fun _ => p) (fun k => k ()) := fun k z e => ⟨(), e, fun s m => ⟨s, rfl, m⟩⟩
variable {c : α → β → Bool} {q2 : α → β → Pt}
theorem xt_andT {y0 : α → β} (h : XT p t b q F) (h2 : ∀ x, XT (γ := γ) (q x) u (c x) (fun _ => q x) (fun k => k (y0 x))) : XT p (tAnd t u) (fun x => b x && c x (y0 x)) q F := fun k z e => by
  obtain ⟨x, e1, h⟩ := h k z e
  refine ⟨x, e1, fun s m => ?_⟩
  obtain ⟨s', a1, a2⟩ := h s m
  obtain ⟨k2, k3, k4⟩ := only z (y0 x)
  obtain ⟨y, e2, h2⟩ := h2 x k2 z k3
  rw [k4 y e2] at h2
  obtain ⟨s2, b1, b2⟩ := h2 s' a2
  cases hb : b x with
  | true => exact ⟨s2, by rw [ev_tAnd, a1, ev_ok, ev_tAndK, if_pos hb, b1]; simp [hb], b2⟩
  | false => exact ⟨s', by rw [ev_tAnd, a1, ev_ok, ev_tAndK, if_neg (by simp [hb])]; simp [hb], a2⟩
theorem xt_andP {F2 : α → (β → Option Bool) → Option Bool} (h : XT p t b q F) (h2 : ∀ x, XT (q x) u (c x) (fun _ => q x) (F2 x)) :
    XT p (tAnd t u) (fun w : α × Bool => w.2) (fun w => q w.1) (fun k => F fun x => (if b x = true then F2 x (fun y => some (c x y)) else some false).bind fun z => k (x, z)) := fun k z e => by
  obtain ⟨x, e1, h⟩ := h _ z e
  obtain ⟨w, e2, e3⟩ := Option.bind_eq_some_iff.mp e1
  refine ⟨(x, w), e3, fun s m => ?_⟩
  obtain ⟨s', a1, a2⟩ := h s m
  cases hb : b x with
  | true =>
    rw [if_pos hb] at e2
    obtain ⟨y, e4, h2⟩ := h2 x _ w e2
    obtain ⟨s2, b1, b2⟩ := h2 s' a2
    cases e4
    exact ⟨s2, by rw [ev_tAnd, a1, ev_ok, ev_tAndK, if_pos hb, b1], b2⟩
  | false =>
    rw [if_neg (by simp [hb])] at e2
    cases e2
    exact ⟨s', by rw [ev_tAnd, a1, ev_ok, ev_tAndK, if_neg (by simp [hb])], a2⟩
theorem xt_orP {F2 : α → (β → Option Bool) → Option Bool} (h : XT p t b q F) (h2 : ∀ x, XT (q x) u (c x) (fun _ => q x) (F2 x)) :
    XT p (tOr t u) (fun w : α × Bool => w.2) (fun w => q w.1) (fun k => F fun x => (if b x = true then some true else F2 x (fun y => some (c x y))).bind fun z => k (x, z)) := fun k z e => by
  obtain ⟨x, e1, h⟩ := h _ z e
  obtain ⟨w, e2, e3⟩ := Option.bind_eq_some_iff.mp e1
  refine ⟨(x, w), e3, fun s m => ?_⟩
  obtain ⟨s', a1, a2⟩ := h s m
  cases hb : b x with
  | true =>
    rw [if_pos hb] at e2
    cases e2
    exact ⟨s', by rw [ev_tOr, a1, ev_ok, ev_tOrK, if_pos hb], a2⟩
  | false =>
    rw [if_neg (by simp [hb])] at e2
    obtain ⟨y, e4, h2⟩ := h2 x _ w e2
    obtain ⟨s2, b1, b2⟩ := h2 s' a2
    cases e4
    exact ⟨s2, by rw [ev_tOr, a1, ev_ok, ev_tOrK, if_neg (by simp [hb]), b1], b2⟩
end
section
variable {p : Pt} {g h' : O} {t : T} {b : α → Bool} {q : α → Pt} {F : (α → Option γ) → Option γ} {vl vl2 : Bool} {c : α → β → Bool}
theorem x_not (h : X vl p g (fun x => .bool (b x)) q F) : X true p (oNot g) (fun x => .bool (!b x)) q F := fun k z e => by
  obtain ⟨x, e1, h⟩ := h k z e
  refine ⟨x, e1, fun s m => ?_⟩
  obtain ⟨r, s', h1, h2, h3⟩ := h s m
  exact ⟨_, s', by rw [ev_oNot, h1, ev_ok, ev_notK, h3.rd h2, ev_notK2], h2, .inl rfl⟩
theorem x_andP {F2 : α → (β → Option Bool) → Option Bool} (h : X vl p g (fun x => .bool (b x)) q F) (h2 : ∀ x, X vl2 (q x) h' (fun y => .bool (c x y)) (fun _ => q x) (F2 x)) :
    X false p (oAnd g h') (fun w : α × Bool => .bool w.2) (fun w => q w.1) (fun k => F fun x => (if b x = true then F2 x (fun y => some (c x y)) else some false).bind fun z => k (x, z)) := fun k z e => by
  obtain ⟨x, e1, h⟩ := h _ z e
  obtain ⟨w, e2, e3⟩ := Option.bind_eq_some_iff.mp e1
  refine ⟨(x, w), e3, fun s m => ?_⟩
  obtain ⟨r, s', a1, a2, a3⟩ := h s m
  cases hb : b x with
  | true =>
    rw [if_pos hb] at e2
    obtain ⟨y, e4, h2⟩ := h2 x _ w e2
    obtain ⟨r2, s2, b1, b2, b3⟩ := h2 s' a2
    cases e4
    exact ⟨r2, s2, by rw [ev_oAnd, a1, ev_ok, ev_andK, a3.rd a2, ev_andK2, if_pos hb, b1], b2, b3.imp id fun z => ⟨rfl, z.2⟩⟩
  | false =>
    rw [if_neg (by simp [hb])] at e2
    cases e2
    exact ⟨_, s', by rw [ev_oAnd, a1, ev_ok, ev_andK, a3.rd a2, ev_andK2, if_neg (by simp [hb])], a2, .inl rfl⟩
end
section
variable {p : Pt} {g h' : O} {t : T} {b : α → Bool} {q : α → Pt} {F : (α → Option γ) → Option γ} {vl vl2 : Bool}
end
/-- a chain of two comparisons -/
theorem x_chain {p : Pt} {a b c : O} {f f' : List D → Option D} {q : α → Pt} {F : (α → Option γ) → Option γ} {v1 v2 : α → D} {v3 : α → β → D} {y0 : α → β} {b1 b2 : α → Bool} {vl : Bool} {ks : List AK}
    (h : XA p (aCons a (aCons b aNil)) ks (fun x => [v1 x, v2 x]) q F) (h2 : ∀ x, X (γ := γ) vl (q x) c (v3 x) (fun _ => q x) (fun k => k (y0 x))) (hf : ∀ x, f [v1 x, v2 x] = some (.bool (b1 x))) (hf' : ∀ x, f' [v2 x, v3 x (y0 x)] = some (.bool (b2 x))) :
    X true p (oChain f f' a b c) (fun x => .bool (b1 x && b2 x)) q F := fun k z e => by
  obtain ⟨x, e1, h⟩ := h k z e
  refine ⟨x, e1, fun s m => ?_⟩
  obtain ⟨rs, s', a1, a2, a3⟩ := h s m
  obtain ⟨k2, k3, k4⟩ := only z (y0 x)
  obtain ⟨y, e2, h2⟩ := h2 x k2 z k3
  rw [k4 y e2] at h2
  obtain ⟨r, s2, c1, c2, c3⟩ := h2 s' a2
  obtain ⟨ra, s1, d1, d2⟩ := bind_inv a1
  obtain ⟨rl, s3, d3, d4⟩ := bind_inv d2
  obtain ⟨rb, s4, d5, d6⟩ := bind_inv d3
  cases d6
  cases d4
  have e3 := a3.rds a2
  have e4 : rds [rb, r] s2 = some [v2 x, v3 x (y0 x)] := by
    have z : rd rb s2 = some (v2 x) := by
      have : rds [ra, rb] s' = some [v1 x, v2 x] := e3
      cases ks with
      | nil => exact a3.elim
      | cons k1 ks => cases ks with
        | nil => cases k1 <;> exact a3.2.elim
        | cons k2 ks =>
          cases k1 <;> cases k2
          · exact a3.2.1.1.rd c2
          · rw [a3.2.1.1, rd_slot, c2.get a3.2.1.2.1]
          · exact a3.2.1.1.rd c2
          · rw [a3.2.1.1, rd_slot, c2.get a3.2.1.2.1]
    rw [rds_cons, rds_cons, rds_nil, z, c3.rd c2]; rfl
  cases hb : b1 x with
  | true =>
    refine ⟨.val (.bool (b2 x)), s2, ?_, c2, .inl (by simp [hb])⟩
    rw [ev_chain, d1, ev_ok, ev_chK0, d5, ev_ok, ev_chK1, e3, ev_chK2a, hf x, ev_chK2b, if_pos hb, c1, ev_ok, ev_chK2c, e4, ev_chK3, hf' x, ev_chK4]
  | false =>
    refine ⟨.val (.bool false), s', ?_, a2, .inl (by simp [hb])⟩
    rw [ev_chain, d1, ev_ok, ev_chK0, d5, ev_ok, ev_chK1, e3, ev_chK2a, hf x, ev_chK2b, if_neg (by simp [hb])]
end
end Sim
namespace Sim
open PySem PySem.Spec L2
section
variable {α β δ γ σ τ ρ : Type}
def As (t : Tg) (d : D) (p p' : Pt) : Prop := ∀ s, Mt p s → ∃ s', asg t d s = some s' ∧ Mt p' s'
def Ass (l : List Tg) (ds : List D) (p p' : Pt) : Prop := ∀ s, Mt p s → ∃ s', asgs l ds s = some s' ∧ Mt p' s'
theorem as_nm {i : Nat} {d : D} {p : Pt} : As (.nm i) d p (stP p i (some d)) := fun s m => ⟨_, asg_nm i d s, m.put i d⟩
theorem as_tp {l : List Tg} {ds : List D} {p p' : Pt} (h : Ass l ds p p') : As (.tp l) (.tuple ds) p p' := fun s m => by
  obtain ⟨s', e, m'⟩ := h s m
  exact ⟨s', by rw [asg_tp, e], m'⟩
theorem as_ls {l : List Tg} {ds : List D} {p p' : Pt} (h : Ass l ds p p') : As (.ls l) (.list ds) p p' := fun s m => by
  obtain ⟨s', e, m'⟩ := h s m
  exact ⟨s', by rw [show asg (.ls l) (.list ds) s = asgs l ds s by simp [asg], e], m'⟩
def un2 : List α → Option (α × α)
  | [x, y] => some (x, y)
  | _ => none
theorem x_un2 {vl : Bool} {p : Pt} {g : O} {e : τ → D} {xs : α → List τ} {q : α → Pt} {F : (α → Option γ) → Option γ} (h : X vl p g (fun x => eL e (xs x)) q F) :
    X vl p g (fun w : α × (τ × τ) => .list [e w.2.1, e w.2.2]) (fun w => q w.1) (fun k => F fun x => (un2 (xs x)).bind fun z => k (x, z)) := fun k z e0 => by
  obtain ⟨x, e1, h⟩ := h _ z e0
  obtain ⟨y, e2, e3⟩ := Option.bind_eq_some_iff.mp e1
  have : xs x = [y.1, y.2] := by
    unfold un2 at e2
    split at e2
    · rename_i a b hx
      cases e2; exact hx
    · cases e2
  refine ⟨(x, y), e3, fun s m => ?_⟩
  have := h s m
  simp only [*] at this
  exact this
theorem ass_nil {p : Pt} : Ass [] [] p p := fun s m => ⟨s, asgs_nil s, m⟩
theorem ass_cons {t : Tg} {l : List Tg} {d : D} {ds : List D} {p p1 p2 : Pt} (h : As t d p p1) (h2 : Ass l ds p1 p2) : Ass (t :: l) (d :: ds) p p2 := fun s m => by
  obtain ⟨s', e, m'⟩ := h s m
  obtain ⟨s2, e2, m2⟩ := h2 s' m'
  exact ⟨s2, by rw [asgs_cons, e, asgsK_some, e2], m2⟩
def XI (p : Pt) (it : I) (ey : β → D) (ys : α → List β) (lk : α → List (Nat × D)) (q : α → Pt) (F : (α → Option γ) → Option γ) : Prop :=
  ∀ k z, F k = some z → ∃ x, k x = some z ∧ (∀ i d, (i, d) ∈ lk x → gtP (q x) i = some d) ∧ ∀ s, Mt p s → ∃ s1, it s = .ok ((ys x).map ey, lk x) (lockS (lk x) s1) ∧ Mt (q x) s1
theorem kl_has {p : Pt} : ∀ (ks : List AK) (rs : List Rf) (ds : List D), Rk p ks rs ds → ∀ i d, (i, d) ∈ kl ks ds → gtP p i = some d
  | [], [], [], _, i, d, hm => by cases hm
  | .v :: ks, r :: rs, e :: ds, h, i, d, hm => kl_has ks rs ds h.2 i d hm
  | .s j :: ks, r :: rs, e :: ds, h, i, d, hm => by
    rcases List.mem_cons.mp hm with z | z
    · cases z; exact h.1.2.1
    · exact kl_has ks rs ds h.2 i d z
section
variable {p : Pt} {gs : AL} {ks : List AK} {vs : α → List D} {q : α → Pt} {F : (α → Option γ) → Option γ} {itm : List D → Option (List D)} {ey : β → D}
theorem xi_mk {ys : α → List β} (h : XA p gs ks vs q F) (hn : nodupB (kn ks) = true) (hp : Pu ey) (hi : ∀ x, itm (vs x) = some ((ys x).map ey)) (hM : Nonempty Sg := ⟨[]⟩) :
    XI p (mkI itm gs) ey ys (fun x => kl ks (vs x)) q F := fun k z e => by
  obtain ⟨x, e1, h⟩ := h k z e
  by_cases c : ∃ s, Mt p s
  · obtain ⟨s0, m0⟩ := c
    refine ⟨x, e1, ?_, fun s m => ?_⟩
    · obtain ⟨rs, s', a1, a2, a3⟩ := h s0 m0
      exact kl_has ks rs (vs x) a3
    · obtain ⟨rs, s', a1, a2, a3⟩ := h s m
      refine ⟨s', ?_, a2⟩
      rw [ev_mkI, a1, ev_ok, ev_mkIK, a3.rds a2, ev_mkIK2, hi x, ev_mkIK3, a3.lks, kl_kn _ _ a3.len, if_pos ⟨purs_pu hp _, hn⟩]
  · exfalso
    exact c (by
      refine ⟨p, Mt.refl p⟩)
theorem xi_mkP {ys : α → δ → List β} {m : α → Option δ} (h : XA p gs ks vs q F) (hn : nodupB (kn ks) = true) (hp : Pu ey) (hi : ∀ x z, m x = some z → itm (vs x) = some ((ys x z).map ey)) :
    XI p (mkI itm gs) ey (fun w : α × δ => ys w.1 w.2) (fun w => kl ks (vs w.1)) (fun w => q w.1) (fun k => F fun x => (m x).bind fun z => k (x, z)) := fun k z e => by
  obtain ⟨x, e1, h⟩ := h _ z e
  obtain ⟨y, e2, e3⟩ := Option.bind_eq_some_iff.mp e1
  refine ⟨(x, y), e3, ?_, fun s m => ?_⟩
  · obtain ⟨rs, s', a1, a2, a3⟩ := h p (Mt.refl p)
    exact kl_has ks rs (vs x) a3
  · obtain ⟨rs, s', a1, a2, a3⟩ := h s m
    refine ⟨s', ?_, a2⟩
    rw [ev_mkI, a1, ev_ok, ev_mkIK, a3.rds a2, ev_mkIK2, hi x y e2, ev_mkIK3, a3.lks, kl_kn _ _ a3.len, if_pos ⟨purs_pu hp _, hn⟩]
end
def B (p : Pt) (g : S) (m : Option γ) (Q : γ → Fl → Sg → Prop) : Prop := ∀ z, m = some z → ∀ s, Mt p s → ∃ fl s', g s = .ok fl s' ∧ Q z fl s'
inductive Lf (σ ρ : Type) where
  | go (x : σ) | brk (x : σ) | ret (z : ρ)
def Lf.on (w : Lf σ ρ) (f : σ → τ) (g : ρ → τ) : τ := match w with
  | .go x => f x
  | .brk x => f x
  | .ret z => g z
@[simp] theorem Lf.on_go (x : σ) (f : σ → τ) (g : ρ → τ) : (Lf.go x : Lf σ ρ).on f g = f x := rfl
@[simp] theorem Lf.on_brk (x : σ) (f : σ → τ) (g : ρ → τ) : (Lf.brk x : Lf σ ρ).on f g = f x := rfl
@[simp] theorem Lf.on_ret (z : ρ) (f : σ → τ) (g : ρ → τ) : (Lf.ret z : Lf σ ρ).on f g = g z := rfl
def Qn (q : γ → Pt) : γ → Fl → Sg → Prop := fun z fl s => fl = .nx ∧ Mt (q z) s
def QF (rv : γ → D) (q : γ → Pt) : γ → Fl → Sg → Prop := fun z fl s => (fl = .rt (rv z) ∨ (fl = .nx ∧ rv z = .none)) ∧ Mt (q z) s
def Qc (q : σ → Pt) : σ → Fl → Sg → Prop := fun z fl s => (fl = .nx ∨ fl = .ct) ∧ Mt (q z) s
def QL (qb : σ → Pt) (rv : ρ → D) (qi : ρ → Pt) : Lf σ ρ → Fl → Sg → Prop
  | .go x, fl, s => (fl = .nx ∨ fl = .ct) ∧ Mt (qb x) s
  | .brk x, fl, s => fl = .bk ∧ Mt (qb x) s
  | .ret z, fl, s => fl = .rt (rv z) ∧ Mt (qi z) s
theorem B.cv {p : Pt} {g : S} {m m' : Option γ} {Q : γ → Fl → Sg → Prop} (h : B p g m Q) (e : m = m') : B p g m' Q := e ▸ h
section
variable {p : Pt} {g h th el rest : S} {m : Option γ} {Q : γ → Fl → Sg → Prop}
theorem seq_skip (g : S) (s : Sg) : sSeq g sSkip s = g s := by
  rw [ev_sSeq]
  cases h : g s with
  | ok fl s1 => cases fl <;> rfl
  | exc c v s1 => rfl
  | bad => rfl
theorem seq_asc (a b c : S) (s : Sg) : sSeq (sSeq a b) c s = sSeq a (sSeq b c) s := by
  rw [ev_sSeq, ev_sSeq, ev_sSeq]
  cases h : a s with
  | ok fl s1 => cases fl <;> rfl
  | exc c v s1 => rfl
  | bad => rfl
theorem b_last (h : B p (sSeq g sSkip) m Q) : B p g m Q := fun z e s mm => by
  obtain ⟨fl, s', h1, h2⟩ := h z e s mm
  exact ⟨fl, s', by rw [← h1, seq_skip], h2⟩
theorem b_asc {a b c : S} (h : B p (sSeq a (sSeq b c)) m Q) : B p (sSeq (sSeq a b) c) m Q := fun z e s mm => by
  obtain ⟨fl, s', h1, h2⟩ := h z e s mm
  exact ⟨fl, s', by rw [← h1, seq_asc], h2⟩
theorem b_skip (h : B p rest m Q) : B p (sSeq sSkip rest) m Q := fun z e s mm => by
  obtain ⟨fl, s', h1, h2⟩ := h z e s mm
  exact ⟨fl, s', h1, h2⟩
theorem b_end {q : γ → Pt} {z : γ} (w : Wk (q z) p) : B p sSkip (some z) (Qn q) := fun z' e s mm => by cases e; exact ⟨.nx, s, rfl, rfl, mm.wk w⟩
theorem b_endC {q : γ → Pt} {z : γ} (w : Wk (q z) p) : B p sSkip (some z) (Qc q) := fun z' e s mm => by cases e; exact ⟨.nx, s, rfl, .inl rfl, mm.wk w⟩
theorem b_endL {qb : σ → Pt} {rv : ρ → D} {qi : ρ → Pt} {z : σ} (w : Wk (qb z) p) : B p sSkip (some (.go z)) (QL qb rv qi) := fun z' e s mm => by cases e; exact ⟨.nx, s, rfl, .inl rfl, mm.wk w⟩
section
variable {e : O} {v : α → D} {q : α → Pt} {F : (α → Option γ) → Option γ} {vl : Bool} {M : α → Option γ} {i : Nat}
theorem b_set (h : X vl p e v q F) (c : vl = true ∨ ∀ x, pur (v x) = true) (hr : ∀ x, B (stP (q x) i (some (v x))) rest (M x) Q) : B p (sSeq (sSet i e) rest) (F M) Q := fun z e0 s mm => by
  obtain ⟨x, e1, h⟩ := h M z e0
  obtain ⟨r, s1, a1, a2, a3⟩ := h s mm
  obtain ⟨fl, s', h1, h2⟩ := hr x z e1 _ (a2.put i (v x))
  refine ⟨fl, s', ?_, h2⟩
  rw [ev_sSeq, ev_sSet, a1, ev_ok, ev_asgK, a3.own a2 (c.imp id fun c => c x), ev_asgK2, asg_nm, ev_asgK3, ev_ok, ev_seqK_nx, h1]
theorem b_setL {τ : Type} (e1 : τ → D) {vv : α → τ} {M : α → τ → Option γ} (h : X vl p e (fun x => e1 (vv x)) q F) (c : vl = true ∨ ∀ x, pur (e1 (vv x)) = true) (hr : ∀ x y, B (stP (q x) i (some (e1 y))) rest (M x y) Q) : B p (sSeq (sSet i e) rest) (F fun x => (some (vv x)).bind (M x)) Q :=
  b_set h c fun x => hr x (vv x)
theorem b_asg {t : Tg} {p' : α → Pt} (h : X vl p e v q F) (c : vl = true ∨ ∀ x, pur (v x) = true) (ha : ∀ x, As t (v x) (q x) (p' x)) (hr : ∀ x, B (p' x) rest (M x) Q) : B p (sSeq (sAsg t e) rest) (F M) Q := fun z e0 s mm => by
  obtain ⟨x, e1, h⟩ := h M z e0
  obtain ⟨r, s1, a1, a2, a3⟩ := h s mm
  obtain ⟨s2, b1, b2⟩ := ha x s1 a2
  obtain ⟨fl, s', h1, h2⟩ := hr x z e1 _ b2
  refine ⟨fl, s', ?_, h2⟩
  rw [ev_sSeq, ev_sAsg, a1, ev_ok, ev_asgK, a3.own a2 (c.imp id fun c => c x), ev_asgK2, b1, ev_asgK3, ev_ok, ev_seqK_nx, h1]
theorem b_expr (h : X vl p e v q F) (hr : ∀ x, B (q x) rest (M x) Q) : B p (sSeq (sExpr e) rest) (F M) Q := fun z e0 s mm => by
  obtain ⟨x, e1, h⟩ := h M z e0
  obtain ⟨r, s1, a1, a2, a3⟩ := h s mm
  obtain ⟨fl, s', h1, h2⟩ := hr x z e1 _ a2
  refine ⟨fl, s', ?_, h2⟩
  rw [ev_sSeq, ev_sExpr, a1, ev_ok, ev_exprK, ev_ok, ev_seqK_nx, h1]
theorem b_par {l : List Nat} {gs : AL} {ks : List AK} {vs : α → List D} (h : XA p gs ks vs q F) (hk : ks.all AK.isV = true) (hl : ∀ x, (vs x).length = l.length) {p' : α → Pt} (hp : ∀ x s, Mt (q x) s → Mt (p' x) (putAll l (vs x) s))
    (hr : ∀ x, B (p' x) rest (M x) Q) : B p (sSeq (sPar l gs) rest) (F M) Q := fun z e0 s mm => by
  obtain ⟨x, e1, h⟩ := h M z e0
  obtain ⟨rs, s1, a1, a2, a3⟩ := h s mm
  obtain ⟨fl, s', h1, h2⟩ := hr x z e1 _ (hp x s1 a2)
  refine ⟨fl, s', ?_, h2⟩
  have : sPar l gs s = .ok .nx (putAll l (vs x) s1) := by
    unfold sPar
    rw [a1, ev_ok]
    simp only [a3.owns a2 (kv hk)]
    rw [if_pos (hl x)]
  rw [ev_sSeq, this, ev_ok, ev_seqK_nx, h1]
theorem put2 {i j : Nat} {a b : D} {p : Pt} : ∀ s, Mt p s → Mt (stP (stP p i (some a)) j (some b)) (putAll [i, j] [a, b] s) := fun s m => (m.put i a).put j b
theorem b_ret {lk : Nat → Bool} (h : X vl p e v q F) (R : α → γ) (c : vl = true ∨ ∀ x, pur (v x) = true) (hQ : ∀ x s, Mt (q x) s → Q (R x) (.rt (v x)) s) : B p (sSeq (sRet lk e) rest) (F fun x => some (R x)) Q := fun z e0 s mm => by
  obtain ⟨x, e1, h⟩ := h _ z e0
  cases e1
  obtain ⟨r, s1, a1, a2, a3⟩ := h s mm
  refine ⟨.rt (v x), s1, ?_, hQ x s1 a2⟩
  rw [ev_sSeq, ev_sRet, a1, ev_ok]
  rcases a3 with rfl | ⟨hv, i, rfl, hg⟩
  · rfl
  · rcases c with c | c
    · rw [hv] at c; cases c
    · rw [ev_retK_slot, a2.get hg, ev_retK2, if_pos (.inl (c x))]; rfl
/-- a tuple is given, with lists of one's own in it -/
theorem ownsR_of {p : Pt} {s : Sg} {lk : Nat → Bool} (m : Mt p s) : ∀ {ks : List AK} {rs : List Rf} {ds : List D}, Rk p ks rs ds → (kn ks).all (fun i => !lk i) = true → ownsR lk rs s = some ds
  | [], [], [], _, _ => rfl
  | .v :: ks, r :: rs, d :: ds, h, a => by
    have ih := ownsR_of m h.2 a
    have o : ownR lk r s = some d := by
      rcases h.1.2 with z | z
      · rw [z]; rfl
      · rcases h.1.1 with z2 | ⟨_, i, z2, z3⟩
        · rw [z2]; rfl
        · rw [z2]
          unfold ownR
          simp only [m.get z3, z, true_or, if_true]
    unfold ownsR
    rw [o, ih]
  | .s i :: ks, r :: rs, d :: ds, h, a => by
    have a : (!lk i && (kn ks).all fun i => !lk i) = true := a
    rw [Bool.and_eq_true] at a
    have ih := ownsR_of m h.2 a.2
    have o : ownR lk r s = some d := by
      rw [h.1.1]
      unfold ownR
      have : lk i = false := by simpa using a.1
      simp only [m.get h.1.2.1, this, or_true, if_true]
    unfold ownsR
    rw [o, ih]
theorem b_retT {lk : Nat → Bool} {gs : AL} {ks : List AK} {vs : α → List D} (h : XA p gs ks vs q F) (hk : (kn ks).all (fun i => !lk i) = true) (hn : nodupB (kn ks) = true) (hl : ks.length ≤ 1000000) (R : α → γ) (hQ : ∀ x s, Mt (q x) s → Q (R x) (.rt (.tuple (vs x))) s) :
    B p (sSeq (sRetT lk gs) rest) (F fun x => some (R x)) Q := fun z e0 s mm => by
  obtain ⟨x, e1, h⟩ := h _ z e0
  cases e1
  obtain ⟨rs, s1, a1, a2, a3⟩ := h s mm
  refine ⟨.rt (.tuple (vs x)), s1, ?_, hQ x s1 a2⟩
  have : sRetT lk gs s = .ok (.rt (.tuple (vs x))) s1 := by
    unfold sRetT
    rw [a1, ev_ok, ownsR_of a2 a3 hk]
    simp only []
    rw [if_pos ⟨by rw [a3.len]; exact hl, by rw [a3.lks, kl_kn _ _ a3.len, hn]⟩]
  rw [ev_sSeq, this, ev_ok, ev_seqK_rt]
theorem qf_ret {rv : γ → D} {q : γ → Pt} {z : γ} {d : D} (e : d = rv z) (w : Wk (q z) p) : ∀ s, Mt p s → QF rv q z (.rt d) s := fun s m => ⟨.inl (by rw [e]), m.wk w⟩
theorem ql_ret {qb : σ → Pt} {rv : ρ → D} {qi : ρ → Pt} {z : ρ} {d : D} (e : d = rv z) (w : Wk (qi z) p) : ∀ s, Mt p s → QL qb rv qi (.ret z) (.rt d) s := fun s m => ⟨by rw [e], m.wk w⟩
/-- x[k] = e -/
def setT (xs : List τ) (k : Int) (v : τ) : Option (List τ) := (ixN xs.length k).map fun j => xs.set j v
theorem b_setIx {ga : O} {e1 : τ → D} {vx : α → τ} {β : Type} {vk : α → β → Int} {q2 : α → β → Pt} {F2 : α → (β → Option γ) → Option γ} {xs : α → β → List τ} {M : α → β → List τ → Option γ} {vl2 : Bool}
    (h : X vl p e (fun x => e1 (vx x)) q F) (hp : Pu e1) (hi : ∀ x, ∃ d, gtP (q x) i = some d) (h2 : ∀ x, X vl2 (q x) ga (fun y => .int (vk x y)) (q2 x) (F2 x)) (hv : ∀ x y, vl = true ∨ q2 x y = q x) (hi2 : ∀ x y, gtP (q2 x y) i = some (eL e1 (xs x y)))
    (hr : ∀ x y ys, B (stP (q2 x y) i (some (eL e1 ys))) rest (M x y ys) Q) : B p (sSeq (sSetIx i ga e) rest) (F fun x => F2 x fun y => (setT (xs x y) (vk x y) (vx x)).bind (M x y)) Q := fun z e0 s mm => by
  obtain ⟨x, e2, h⟩ := h _ z e0
  obtain ⟨y, e3, h2⟩ := h2 x _ z e2
  obtain ⟨ys, e4, e5⟩ := Option.bind_eq_some_iff.mp e3
  obtain ⟨r, s1, a1, a2, a3⟩ := h s mm
  obtain ⟨r2, s2, b1, b2, b3⟩ := h2 s1 a2
  unfold setT at e4
  obtain ⟨j, e6, e7⟩ := Option.map_eq_some_iff.mp e4
  have b4 := b2.put i (eL e1 ys)
  obtain ⟨fl, s', h1, h2⟩ := hr x y ys z e5 _ b4
  refine ⟨fl, s', ?_, h2⟩
  obtain ⟨d0, hd0⟩ := hi x
  have o : own r s2 = some (e1 (vx x)) := by
    rcases hv x y with c | c
    · rcases a3 with rfl | ⟨c2, _⟩
      · rfl
      · rw [c] at c2; cases c2
    · rw [c] at b2
      exact Rd.own a3 b2 (.inr (hp _))
  have l : (List.map e1 (xs x y)).length = (xs x y).length := by simp
  rw [ev_sSeq, ev_sSetIx, a1, ev_ok, ev_ixK, ev_oV, a2.get hd0, ev_oVK, ev_ok, ev_ixK1, b1, ev_ok, ev_ixK2, o, b3.rd b2, b2.get (hi2 x y)]
  show ((ixK3 i s2 (some (e1 (vx x))) (some (.int (vk x y))) (some (.list ((xs x y).map e1)))).bind (seqK rest)) = _
  rw [ev_ixK3, if_pos (hp _), l, e6, ev_ixK4, ev_ok, ev_seqK_nx, ← h1]
  refine congrArg rest (congrArg (fun d => s2.set i (some d)) ?_)
  rw [← e7, eL, List.map_set]
end
section
variable {t : T} {b : α → Bool} {q : α → Pt} {F : (α → Option γ) → Option γ}
/-- what is behind stands behind both -/
theorem b_if {m1 m2 : α → Option γ} (h : XT p t b q F) (h1 : ∀ x, B (q x) (sSeq th rest) (m1 x) Q) (h2 : ∀ x, B (q x) (sSeq el rest) (m2 x) Q) :
    B p (sSeq (sIf t th el) rest) (F fun x => if b x = true then m1 x else m2 x) Q := fun z e0 s mm => by
  obtain ⟨x, e1, h⟩ := h _ z e0
  obtain ⟨s1, a1, a2⟩ := h s mm
  cases hb : b x with
  | true =>
    rw [if_pos hb] at e1
    obtain ⟨fl, s', b1, b2⟩ := h1 x z e1 s1 a2
    refine ⟨fl, s', ?_, b2⟩
    rw [ev_sSeq, ev_sIf, a1, ev_ok, ev_ifK, if_pos hb, ← b1, ev_sSeq]
  | false =>
    rw [if_neg (by simp [hb])] at e1
    obtain ⟨fl, s', b1, b2⟩ := h2 x z e1 s1 a2
    refine ⟨fl, s', ?_, b2⟩
    rw [ev_sSeq, ev_sIf, a1, ev_ok, ev_ifK, if_neg (by simp [hb]), ← b1, ev_sSeq]
/-- both go on, with the same names told -/
theorem b_ifj {m1 m2 : α → Option τ} {M : α → τ → Option γ} (h : XT p t b q F) (qj : α → τ → Pt) (h1 : ∀ x, B (q x) th (m1 x) (Qn (qj x))) (h2 : ∀ x, B (q x) el (m2 x) (Qn (qj x)))
    (hr : ∀ x y, B (qj x y) rest (M x y) Q) : B p (sSeq (sIf t th el) rest) (F fun x => (if b x = true then m1 x else m2 x).bind (M x)) Q := fun z e0 s mm => by
  obtain ⟨x, e1, h⟩ := h _ z e0
  obtain ⟨y, e2, e3⟩ := Option.bind_eq_some_iff.mp e1
  obtain ⟨s1, a1, a2⟩ := h s mm
  cases hb : b x with
  | true =>
    rw [if_pos hb] at e2
    obtain ⟨fl, s2, b1, b2, b3⟩ := h1 x y e2 s1 a2
    subst b2
    obtain ⟨fl, s', c1, c2⟩ := hr x y z e3 s2 b3
    refine ⟨fl, s', ?_, c2⟩
    rw [ev_sSeq, ev_sIf, a1, ev_ok, ev_ifK, if_pos hb, b1, ev_ok, ev_seqK_nx, c1]
  | false =>
    rw [if_neg (by simp [hb])] at e2
    obtain ⟨fl, s2, b1, b2, b3⟩ := h2 x y e2 s1 a2
    subst b2
    obtain ⟨fl, s', c1, c2⟩ := hr x y z e3 s2 b3
    refine ⟨fl, s', ?_, c2⟩
    rw [ev_sSeq, ev_sIf, a1, ev_ok, ev_ifK, if_neg (by simp [hb]), b1, ev_ok, ev_seqK_nx, c1]
end
def lpN (F : σ → β → Option σ) : List β → σ → Option σ
  | [], s => some s
  | y :: ys, s => (F s y).bind (lpN F ys)
def lpR (F : σ → β → Option (Lf σ ρ)) : List β → σ → Option (Lf σ ρ)
  | [], s => some (.go s)
  | y :: ys, s => (F s y).bind fun w => match w with
    | .go s => lpR F ys s
    | .brk s => some (.go s)
    | .ret z => some (.ret z)
theorem loop_N {t : Tg} {g : S} {ey : β → D} {qb : σ → Pt} {pb : σ → β → Pt} {mb : σ → β → Option σ} (hT : ∀ x y, As t (ey y) (qb x) (pb x y)) (hb : ∀ x y, B (pb x y) g (mb x y) (Qc qb)) :
    ∀ (ys : List β) (x x' : σ) (s : Sg), lpN mb ys x = some x' → Mt (qb x) s → ∃ s', loopS t g (ys.map ey) s = .ok .nx s' ∧ Mt (qb x') s'
  | [], x, x', s, e, m => by cases e; exact ⟨s, rfl, m⟩
  | y :: ys, x, x', s, e, m => by
    obtain ⟨x1, e1, e2⟩ := Option.bind_eq_some_iff.mp e
    obtain ⟨s1, a1, a2⟩ := hT x y s m
    obtain ⟨fl, s2, b1, b2, b3⟩ := hb x y x1 e1 s1 a2
    obtain ⟨s', c1, c2⟩ := loop_N hT hb ys x1 x' s2 e2 b3
    refine ⟨s', ?_, c2⟩
    rw [List.map_cons, loop_cons, a1, loopK1_some, b1, ev_ok]
    rcases b2 with rfl | rfl <;> exact c1
theorem loop_R {t : Tg} {g : S} {ey : β → D} {qb : σ → Pt} {pb : σ → β → Pt} {mb : σ → β → Option (Lf σ ρ)} {rv : ρ → D} {qi : ρ → Pt} (hT : ∀ x y, As t (ey y) (qb x) (pb x y)) (hb : ∀ x y, B (pb x y) g (mb x y) (QL qb rv qi)) :
    ∀ (ys : List β) (x : σ) (w : Lf σ ρ) (s : Sg), lpR mb ys x = some w → Mt (qb x) s → (∃ x' s', w = .go x' ∧ loopS t g (ys.map ey) s = .ok .nx s' ∧ Mt (qb x') s') ∨ (∃ z s', w = .ret z ∧ loopS t g (ys.map ey) s = .ok (.rt (rv z)) s' ∧ Mt (qi z) s')
  | [], x, x', s, e, m => by cases e; exact .inl ⟨x, s, rfl, rfl, m⟩
  | y :: ys, x, x', s, e, m => by
    obtain ⟨w, e1, e2⟩ := Option.bind_eq_some_iff.mp e
    obtain ⟨s1, a1, a2⟩ := hT x y s m
    obtain ⟨fl, s2, b1, b2⟩ := hb x y w e1 s1 a2
    cases w with
    | go x1 =>
      have ih := loop_R hT hb ys x1 x' s2 e2 b2.2
      have key : loopS t g ((y :: ys).map ey) s = loopS t g (ys.map ey) s2 := by
        rw [List.map_cons, loop_cons, a1, loopK1_some, b1, ev_ok]
        rcases b2.1 with rfl | rfl <;> rfl
      rw [key]
      exact ih
    | brk x1 =>
      cases e2
      refine .inl ⟨x1, s2, rfl, ?_, b2.2⟩
      rw [List.map_cons, loop_cons, a1, loopK1_some, b1, ev_ok, b2.1]; rfl
    | ret z =>
      cases e2
      refine .inr ⟨z, s2, rfl, ?_, b2.2⟩
      rw [List.map_cons, loop_cons, a1, loopK1_some, b1, ev_ok, b2.1]; rfl
section
variable {it : I} {ey : β → D} {ys : α → List β} {lk : α → List (Nat × D)} {q : α → Pt} {F : (α → Option γ) → Option γ} {lkf : Nat → Bool} {t : Tg} {pb : α → σ → β → Pt}
theorem b_for {mb : α → σ → β → Option σ} {M : α → σ → Option γ} (h : XI p it ey ys lk q F) (qb : α → σ → Pt) (s0 : α → σ) (hl : ∀ x, ((lk x).all fun q => lkf q.1) = true) (h0 : ∀ x, Wk (qb x (s0 x)) (lkP (lk x) (q x)))
    (hT : ∀ x s y, As t (ey y) (qb x s) (pb x s y)) (hb : ∀ x s y, B (pb x s y) g (mb x s y) (Qc (qb x))) (hr : ∀ x s, B (ulP (lk x) (qb x s)) rest (M x s) Q) :
    B p (sSeq (sFor lkf it t g) rest) (F fun x => (lpN (fun s y => mb x s y) (ys x) (s0 x)).bind (M x)) Q := fun z e0 s mm => by
  obtain ⟨x, e1, hx, h⟩ := h _ z e0
  obtain ⟨s1, a1, a2⟩ := h s mm
  obtain ⟨x', e2, e3⟩ := Option.bind_eq_some_iff.mp e1
  obtain ⟨s2, b1, b2⟩ := loop_N (hT x) (hb x) (ys x) (s0 x) x' _ e2 ((a2.lk _).wk (h0 x))
  obtain ⟨fl, s', c1, c2⟩ := hr x x' z e3 _ (b2.ul (lk x))
  refine ⟨fl, s', ?_, c2⟩
  rw [ev_sSeq, for_ok a1 (hl x) b1, ev_ok, ev_seqK_nx, c1]
theorem b_forR {mb : α → σ → β → Option (Lf σ ρ)} {M : α → σ → Option γ} (h : XI p it ey ys lk q F) (qb : α → σ → Pt) (s0 : α → σ) (rv : ρ → D) (qi : α → ρ → Pt) (R : ρ → γ) (hl : ∀ x, ((lk x).all fun q => lkf q.1) = true) (h0 : ∀ x, Wk (qb x (s0 x)) (lkP (lk x) (q x)))
    (hT : ∀ x s y, As t (ey y) (qb x s) (pb x s y)) (hb : ∀ x s y, B (pb x s y) g (mb x s y) (QL (qb x) rv (qi x))) (hR : ∀ x z s, Mt (ulP (lk x) (qi x z)) s → Q (R z) (.rt (rv z)) s) (hr : ∀ x s, B (ulP (lk x) (qb x s)) rest (M x s) Q) :
    B p (sSeq (sFor lkf it t g) rest) (F fun x => (lpR (fun s y => mb x s y) (ys x) (s0 x)).bind fun w => w.on (M x) (fun z => some (R z))) Q := fun z e0 s mm => by
  obtain ⟨x, e1, hx, h⟩ := h _ z e0
  obtain ⟨s1, a1, a2⟩ := h s mm
  obtain ⟨w, e2, e3⟩ := Option.bind_eq_some_iff.mp e1
  rcases loop_R (hT x) (hb x) (ys x) (s0 x) w _ e2 ((a2.lk _).wk (h0 x)) with ⟨x', s2, rfl, b1, b2⟩ | ⟨z', s2, rfl, b1, b2⟩
  · obtain ⟨fl, s', c1, c2⟩ := hr x x' z e3 _ (b2.ul (lk x))
    refine ⟨fl, s', ?_, c2⟩
    rw [ev_sSeq, for_ok a1 (hl x) b1, ev_ok, ev_seqK_nx, c1]
  · cases e3
    refine ⟨.rt (rv z'), _, ?_, hR x z' _ (b2.ul (lk x))⟩
    rw [ev_sSeq, for_ok a1 (hl x) b1, ev_ok, ev_seqK_rt]
end
end
theorem puL {e : α → D} {xs : List α} : pur (eL e xs) = false := pur_list _
theorem fn_t {ms : List Nat} {n : Nat} {g : S} {ds : List D} {p0 : Pt} {m : Option γ} {rv : γ → D} {q : γ → Pt} {outs : γ → List D} (hb : B p0 g m (QF rv q)) (h0 : ds.map some ++ List.replicate (n - ds.length) none = p0) (h1 : okM ms ds = true)
    (h2 : ∀ z s, Mt (q z) s → coll ms ds 0 s = some (outs z)) : ∀ z, m = some z → mkFn ms n g ds = .ok (rv z) (outs z) := fun z e => by
  obtain ⟨fl, s', a1, a2, a3⟩ := hb z e p0 (Mt.refl _)
  rw [← h0] at a1
  rcases a2 with rfl | ⟨rfl, e2⟩
  · exact mkFn_rt h1 a1 (h2 z s' a3)
  · rw [e2]; exact mkFn_nx h1 a1 (h2 z s' a3)
theorem coll_nilP {p : Pt} {j : Nat} : ∀ s, Mt p s → coll [] [] j s = some [] := fun s _ => rfl
theorem coll_0P {p : Pt} {j : Nat} {ms : List Nat} {d d' : D} {ds as : List D} (h : gtP p j = some d') (h2 : ∀ s, Mt p s → coll ms ds (j + 1) s = some as) : ∀ s, Mt p s → coll (0 :: ms) (d :: ds) j s = some (d' :: as) := fun s m => by
  rw [coll_0, m.get h, h2 s m]; rfl
end
end Sim
namespace Sim
open PySem PySem.Spec L2
def lim {α : Type} (n : Nat) (m : Option α) : Option α := if n ≤ 1000000 then m else none
theorem lim_of {α : Type} {n : Nat} {m : Option α} (h : n ≤ 1000000) : lim n m = m := if_pos h
section
variable {α β δ γ σ τ ρ ε ζ : Type}
def XPr (p : Pt) (po : Option O) (l : α → Option Int) (F : (α → Option γ) → Option γ) : Prop :=
  ∀ k z, F k = some z → ∃ x, k x = some z ∧ ∀ s, Mt p s → ∃ s', prt po s = .ok (l x) s' ∧ Mt p s'
theorem xpr_none {p : Pt} : XPr (γ := γ) p none (fun _ : Unit => none) (fun k => k ()) := fun k z e => ⟨(), e, fun s m => ⟨s, rfl, m⟩⟩
theorem xpr_some {p : Pt} {g : O} {i : α → Int} {F : (α → Option γ) → Option γ} {vl : Bool} (h : X vl p g (fun x => .int (i x)) (fun _ => p) F) : XPr p (some g) (fun x => some (i x)) F := fun k z e => by
  obtain ⟨x, e1, h⟩ := h k z e
  refine ⟨x, e1, fun s m => ?_⟩
  obtain ⟨r, s', a1, a2, a3⟩ := h s m
  exact ⟨s', by rw [ev_prt_some, a1, ev_ok, ev_prtK, a3.rd a2, ev_prtK2], a2⟩
section
variable {p : Pt} {g : O} {lo hi st : Option O} {v : α → D} {q : α → Pt} {F : (α → Option γ) → Option γ} {vl : Bool} {l : α → β → Option Int} {F1 : α → (β → Option γ) → Option γ}
  {u : α → β → δ → Option Int} {F2 : α → β → (δ → Option γ) → Option γ}
theorem x_sl {rv : α → β → δ → D} (h : X vl p g v q F) (h1 : ∀ x, XPr (q x) lo (l x) (F1 x)) (h2 : ∀ x y, XPr (q x) hi (u x y) (F2 x y)) (hs : ∀ x y w, slD (v x) (l x y) (u x y w) = some (rv x y w)) :
    X true p (oSl g lo hi) (fun w : α × β × δ => rv w.1 w.2.1 w.2.2) (fun w => q w.1) (fun k => F fun x => F1 x fun y => F2 x y fun w => k (x, y, w)) := fun k z e => by
  obtain ⟨x, e1, h⟩ := h _ z e
  obtain ⟨y, e2, h1⟩ := h1 x _ z e1
  obtain ⟨w, e3, h2⟩ := h2 x y _ z e2
  refine ⟨(x, y, w), e3, fun s m => ?_⟩
  obtain ⟨r, s1, a1, a2, a3⟩ := h s m
  obtain ⟨s2, b1, b2⟩ := h1 s1 a2
  obtain ⟨s3, c1, c2⟩ := h2 s2 b2
  exact ⟨.val (rv x y w), s3, by rw [ev_oSl, a1, ev_ok, ev_slK1, b1, ev_ok, ev_slK2, c1, ev_ok, ev_slK3, a3.rd c2, ev_slK4, hs, ev_slK5], c2, .inl rfl⟩
end
section
variable {p : Pt} {g : O} {lo hi st : Option O} {v : α → D} {q : α → Pt} {F : (α → Option γ) → Option γ} {vl : Bool} {l : α → β → Option Int} {F1 : α → (β → Option γ) → Option γ}
  {u : α → β → δ → Option Int} {F2 : α → β → (δ → Option γ) → Option γ}
theorem x_stT {t : α → β → δ → ε → Option Int} {F3 : α → β → δ → (ε → Option γ) → Option γ} {rv : α → β → δ → ε → D} (h : X vl p g v q F) (h1 : ∀ x, XPr (q x) lo (l x) (F1 x)) (h2 : ∀ x y, XPr (q x) hi (u x y) (F2 x y))
    (h3 : ∀ x y w, XPr (q x) st (t x y w) (F3 x y w)) (hs : ∀ x y w w2, stD (v x) (l x y) (u x y w) (t x y w w2) = some (rv x y w w2)) :
    X true p (oSt g lo hi st) (fun w : α × β × δ × ε => rv w.1 w.2.1 w.2.2.1 w.2.2.2) (fun w => q w.1) (fun k => F fun x => F1 x fun y => F2 x y fun w => F3 x y w fun w2 => k (x, y, w, w2)) := fun k z e => by
  obtain ⟨x, e1, h⟩ := h _ z e
  obtain ⟨y, e2, h1⟩ := h1 x _ z e1
  obtain ⟨w, e3, h2⟩ := h2 x y _ z e2
  obtain ⟨w2, e4, h3⟩ := h3 x y w _ z e3
  refine ⟨(x, y, w, w2), e4, fun s mm => ?_⟩
  obtain ⟨r, s1, a1, a2, a3⟩ := h s mm
  obtain ⟨s2, b1, b2⟩ := h1 s1 a2
  obtain ⟨s3, c1, c2⟩ := h2 s2 b2
  obtain ⟨s4, d1, d2⟩ := h3 s3 c2
  refine ⟨.val (rv x y w w2), s4, ?_, d2, .inl rfl⟩
  show ((g s).bind fun r s1 => (prt lo s1).bind fun l s2 => (prt hi s2).bind fun u s3 => (prt st s3).bind fun t s4 => _) = _
  simp only [a1, ev_ok, b1, c1, d1, a3.rd d2, hs x y w w2]
end
theorem x_ten {p : Pt} (n : Nat) (h1 : 2 ≤ n) (h2 : n ≤ 100000) : X (γ := γ) true p (oTen n) (fun _ : Unit => .int (tenN n)) (fun _ => p) (fun k => k ()) :=
  fun k z e => ⟨(), e, fun s m => ⟨_, s, ev_ten n h1 h2 s, m, .inl rfl⟩⟩
theorem x_mt {p : Pt} {gs : AL} {ks : List AK} {vs : α → List D} {q : α → Pt} {F : (α → Option γ) → Option γ} {f : List D → List D → Option (List D × D)} {i : Nat} {e : τ → D} {x0 : List τ} {xs : α → List τ} {m : α → Option β} {xs' : α → β → List τ} {rv : α → β → D}
    (h0 : gtP p i = some (eL e x0)) (h : XA p gs ks vs q F) (hk : ks.all AK.isV = true) (h1 : ∀ x, gtP (q x) i = some (eL e (xs x))) (hf : ∀ x z, m x = some z → f ((xs x).map e) (vs x) = some ((xs' x z).map e, rv x z)) (hp : ∀ x z, pur (rv x z) = true) :
    X true p (oMt f i gs) (fun w : α × β => rv w.1 w.2) (fun w => stP (q w.1) i (some (eL e (xs' w.1 w.2)))) (fun k => F fun x => (m x).bind fun z => k (x, z)) := fun k z e0 => by
  obtain ⟨x, e1, h⟩ := h _ z e0
  obtain ⟨y, e2, e3⟩ := Option.bind_eq_some_iff.mp e1
  refine ⟨(x, y), e3, fun s mm => ?_⟩
  obtain ⟨rs, s2, b1, b2, b3⟩ := h s mm
  refine ⟨.val (rv x y), s2.set i (some (eL e (xs' x y))), ?_, b2.put i _, .inl rfl⟩
  have g1 : (s[i]?).join = some (.list (x0.map e)) := mm.get h0
  have g2 : (s2[i]?).join = some (.list ((xs x).map e)) := b2.get (h1 x)
  rw [ev_oMt, ev_oV, g1, ev_oVK, ev_ok, ev_mtK, g1, ev_mtK1, b1, ev_ok, ev_mtK2, g2, b3.owns b2 (kv hk), ev_mtK3, hf x y e2, ev_mtK4, if_pos (hp x y)]
  rfl
def clP : List Nat → Pt → Pt
  | [], p => p
  | v :: vs, p => stP (clP vs p) v none
theorem Mt.cl : ∀ (vs : List Nat) {p : Pt} {s : Sg}, Mt p s → Mt (clP vs p) (clrS vs s)
  | [], _, _, h => h
  | v :: vs, _, _, h => by rw [clrS_cons]; exact (Mt.cl vs h).off v none
theorem own_mem : ∀ {vs : List Nat} {s : Sg} {i : Nat} {d : D}, (i, d) ∈ ownSl vs s ↔ i ∈ vs ∧ (s[i]?).join = some d
  | [], s, i, d => by simp
  | v :: vs, s, i, d => by
    rw [ownSl_cons]
    cases h : (s[v]?).join with
    | none =>
      rw [ownSlK_none, own_mem]
      constructor
      · rintro ⟨a, b⟩; exact ⟨List.mem_cons_of_mem _ a, b⟩
      · rintro ⟨a, b⟩
        rcases List.mem_cons.mp a with rfl | a
        · rw [h] at b; cases b
        · exact ⟨a, b⟩
    | some e =>
      rw [ownSlK_some, List.mem_cons, own_mem]
      constructor
      · rintro (a | ⟨a, b⟩)
        · cases a; exact ⟨List.mem_cons_self .., h⟩
        · exact ⟨List.mem_cons_of_mem _ a, b⟩
      · rintro ⟨a, b⟩
        rcases List.mem_cons.mp a with rfl | a
        · rw [h] at b; cases b; exact .inl rfl
        · exact .inr ⟨a, b⟩
theorem own_nodup : ∀ {vs : List Nat} {s : Sg}, nodupB vs = true → nodupB ((ownSl vs s).map (·.1)) = true
  | [], s, _ => by simp
  | v :: vs, s, h => by
    rw [ev_nodupB, Bool.and_eq_true] at h
    rw [ownSl_cons]
    have ih := own_nodup (s := s) h.2
    cases e : (s[v]?).join with
    | none => rw [ownSlK_none]; exact ih
    | some d =>
      rw [ownSlK_some, List.map_cons, ev_nodupB, ih, Bool.and_true]
      have h1 := h.1
      simp only [Bool.not_eq_true', List.contains_eq_mem, decide_eq_false_iff_not] at h1 ⊢
      intro z
      obtain ⟨a, ha, hb⟩ := List.mem_map.mp z
      obtain ⟨a1, a2⟩ := a
      have hb : a1 = v := hb
      subst hb
      exact h1 (own_mem.mp ha).1
theorem lock_get : ∀ {L : List (Nat × D)} {s : Sg} {i : Nat}, (∀ d, (i, d) ∉ L) → (lockS L s)[i]? = s[i]?
  | [], s, i, _ => rfl
  | a :: L, s, i, h => by
    rw [lockS_cons, lock_get fun d z => h d (List.mem_cons_of_mem _ z), List.getElem?_set, if_neg]
    intro z
    exact h a.2 (by rw [← z]; exact List.mem_cons_self ..)
theorem lock_len : ∀ (L : List (Nat × D)) (s : Sg), (lockS L s).length = s.length
  | [], _ => rfl
  | a :: L, s => by rw [lockS_cons, lock_len L, List.length_set]
theorem unlock_len : ∀ (L : List (Nat × D)) (s : Sg), (unlockS L s).length = s.length
  | [], _ => rfl
  | a :: L, s => by rw [unlockS_cons, unlock_len L, List.length_set]
theorem clr_len : ∀ (vs : List Nat) (s : Sg), (clrS vs s).length = s.length
  | [], _ => rfl
  | v :: vs, s => by rw [clrS_cons, List.length_set, clr_len vs]
theorem unlock_get : ∀ {L : List (Nat × D)} {s : Sg} {i : Nat} {d : D}, (∀ d', (i, d') ∈ L → d' = d) → i < s.length → ((∃ d', (i, d') ∈ L) ∨ s[i]? = some (some d)) → (unlockS L s)[i]? = some (some d)
  | [], s, i, d, _, _, h => by
    rcases h with ⟨d', h⟩ | h
    · cases h
    · exact h
  | a :: L, s, i, d, h1, h2, h => by
    rw [unlockS_cons]
    refine unlock_get (fun d' z => h1 d' (List.mem_cons_of_mem _ z)) (by rw [List.length_set]; exact h2) ?_
    rw [List.getElem?_set]
    by_cases c : a.1 = i
    · right
      rw [if_pos c, if_pos (by omega), h1 a.2 (by rw [← c]; exact List.mem_cons_self ..)]
    · rw [if_neg c]
      rcases h with ⟨d', h⟩ | h
      · rcases List.mem_cons.mp h with z | z
        · exact absurd (by rw [← z]) c
        · exact .inl ⟨d', z⟩
      · exact .inr h
theorem gtP_lt : ∀ {p : Pt} {i : Nat} {d : D}, gtP p i = some d → i < p.length
  | [], _, _, h => by cases h
  | _ :: _, 0, _, _ => Nat.zero_lt_succ _
  | _ :: p, i + 1, _, h => Nat.succ_lt_succ (gtP_lt (p := p) h)
theorem clP_get : ∀ {vs : List Nat} {p : Pt} {i : Nat} {d : D}, gtP (clP vs p) i = some d → i ∉ vs ∧ gtP p i = some d
  | [], _, _, _, h => ⟨by simp, h⟩
  | v :: vs, p, i, d, h => by
    have hh : gtP (stP (clP vs p) v none) i = some d := h
    have h : gtP (stP (clP vs p) v none) i = some d := h
    rw [gtP_stP] at h
    by_cases c : v = i ∧ v < (clP vs p).length
    · rw [if_pos c] at h; cases h
    · rw [if_neg c] at h
      obtain ⟨h1, h2⟩ := clP_get h
      refine ⟨fun z => ?_, h2⟩
      rcases List.mem_cons.mp z with rfl | z
      · exact c ⟨rfl, by have := gtP_lt hh; rw [stP_len] at this; exact this⟩
      · exact h1 z
theorem clr_get : ∀ {vs : List Nat} {s : Sg} {i : Nat}, i ∉ vs → (clrS vs s)[i]? = s[i]?
  | [], _, _, _ => rfl
  | v :: vs, s, i, h => by
    rw [clrS_cons, List.getElem?_set, if_neg (fun z => h (by rw [z]; exact List.mem_cons_self ..)), clr_get fun z => h (List.mem_cons_of_mem _ z)]
theorem cl_own {vs : List Nat} {p : Pt} {s s0 : Sg} (m : Mt p s) : Mt (clP vs p) (clrS vs (lockS (ownSl vs s0) s)) := by
  have e : ∀ vs : List Nat, (clP vs p).length = p.length := by
    intro vs
    induction vs with
    | nil => rfl
    | cons v vs ih => show (stP _ _ _).length = _; rw [stP_len, ih]
  refine ⟨by rw [e, clr_len, lock_len, m.len], fun i d h => ?_⟩
  obtain ⟨h1, h2⟩ := clP_get h
  rw [clr_get h1, lock_get fun d' z => h1 (own_mem.mp z).1]
  exact m.has i d h2
def lcS (F : σ → β → Option (Option δ × σ)) : List β → σ → Option (List δ × σ)
  | [], s => some ([], s)
  | y :: ys, s => (F s y).bind fun w => (lcS F ys w.2).bind fun r => some ((match w.1 with
    | some d => d :: r.1
    | none => r.1), r.2)
theorem comp_S {t : Tg} {c : T} {e : O} {vs : List Nat} {ey : β → D} {ee : δ → D} {qb : σ → Pt} {F : σ → β → Option (Option δ × σ)}
    (hs : ∀ u y w, F u y = some w → ∀ s, Mt (qb u) s → ∃ s1 s2 b, asg t (ey y) s = some s1 ∧ c s1 = .ok b s2 ∧ ((b = false ∧ w.1 = none ∧ Mt (qb w.2) (clrS vs s2)) ∨ (b = true ∧ ∃ d r s3, w.1 = some d ∧ e s2 = .ok r s3 ∧ own r s3 = some (ee d) ∧ Mt (qb w.2) (clrS vs s3)))) :
    ∀ (ys : List β) (u : σ) (acc : List D) (z : List δ × σ) (s : Sg), lcS F ys u = some z → acc.length + ys.length ≤ 1000000 → Mt (qb u) s → ∃ s', compL t c e vs (ys.map ey) acc s = .ok (acc ++ z.1.map ee) s' ∧ Mt (qb z.2) s'
  | [], u, acc, z, s, h, _, m => by cases h; exact ⟨s, by simp, m⟩
  | y :: ys, u, acc, z, s, h, hl, m => by
    obtain ⟨w, e1, e2⟩ := Option.bind_eq_some_iff.mp h
    obtain ⟨r, e3, e4⟩ := Option.bind_eq_some_iff.mp e2
    rw [List.length_cons] at hl
    obtain ⟨s1, s2, b, a1, a2, a3⟩ := hs u y w e1 s m
    rcases a3 with ⟨rfl, hw, m2⟩ | ⟨rfl, d, rr, s3, hw, b1, b2, m2⟩
    · obtain ⟨s', c1, c2⟩ := comp_S hs ys w.2 acc r _ e3 (by omega) m2
      cases e4
      refine ⟨s', ?_, c2⟩
      rw [hw]
      rw [List.map_cons, compL]
      simp only [a1, a2, ev_ok, Bool.false_eq_true, if_false, c1]
    · obtain ⟨s', c1, c2⟩ := comp_S hs ys w.2 (acc ++ [ee d]) r _ e3 (by rw [List.length_append, List.length_singleton]; omega) m2
      cases e4
      refine ⟨s', ?_, c2⟩
      rw [hw]
      rw [List.map_cons, compL]
      simp only [a1, a2, ev_ok, if_true, b1, b2]
      rw [if_pos (by omega), c1]
      simp
section
variable {p : Pt} {it : I} {ey : β → D} {ys : α → List β} {lk : α → List (Nat × D)} {q : α → Pt} {F : (α → Option γ) → Option γ} {t : Tg} {c : T} {e : O} {vs : List Nat} {ee : δ → D}
theorem x_compG {qb : α → σ → Pt} {s0 : α → σ} {G : α → σ → β → Option (Option δ × σ)} {p' : α → σ → Pt} (h : XI p it ey ys lk q F) (hv : nodupB vs = true) (h0 : ∀ x, Wk (qb x (s0 x)) (clP vs (lkP (lk x) (q x))))
    (hs : ∀ x u y w, G x u y = some w → ∀ s, Mt (qb x u) s → ∃ s1 s2 b, asg t (ey y) s = some s1 ∧ c s1 = .ok b s2 ∧ ((b = false ∧ w.1 = none ∧ Mt (qb x w.2) (clrS vs s2)) ∨ (b = true ∧ ∃ d r s3, w.1 = some d ∧ e s2 = .ok r s3 ∧ own r s3 = some (ee d) ∧ Mt (qb x w.2) (clrS vs s3))))
    (hp : ∀ x u, (p' x u).length = (qb x u).length ∧ (qb x u).length = (q x).length ∧ ∀ i d, gtP (p' x u) i = some d → gtP (q x) i = some d ∧ (i ∈ vs ∨ i ∈ (lk x).map (·.1)) ∨ gtP (qb x u) i = some d ∧ i ∉ vs ∧ i ∉ (lk x).map (·.1)) :
    X true p (oComp it t c e vs) (fun w : α × List δ × σ => eL ee w.2.1) (fun w => p' w.1 w.2.2) (fun k => F fun x => lim (ys x).length ((lcS (G x) (ys x) (s0 x)).bind fun z => k (x, z))) := fun k z e0 => by
  obtain ⟨x, e1, hx, h⟩ := h _ z e0
  unfold lim at e1
  by_cases hl : (ys x).length ≤ 1000000
  · rw [if_pos hl] at e1
    obtain ⟨w, e2, e3⟩ := Option.bind_eq_some_iff.mp e1
    refine ⟨(x, w), e3, fun s mm => ?_⟩
    obtain ⟨s1, a1, a2⟩ := h s mm
    obtain ⟨s2, b1, b2⟩ := comp_S (hs x) (ys x) (s0 x) [] w _ e2 (by simpa using hl) ((cl_own (vs := vs) (s0 := lockS (lk x) s1) (a2.lk (lk x))).wk (h0 x))
    refine ⟨.val (eL ee w.1), unlockS (ownSl vs (lockS (lk x) s1) ++ lk x) s2, ?_, ?_, .inl rfl⟩
    · unfold oComp
      rw [a1, ev_ok, if_pos (own_nodup hv), b1, ev_ok]
      rfl
    · obtain ⟨l1, l2, l3⟩ := hp x w.2
      refine ⟨by rw [unlock_len, l1, b2.len], fun i d hi => ?_⟩
      have hi2 : i < s2.length := by rw [← b2.len, ← l1]; exact gtP_lt hi
      refine unlock_get (fun d' z => ?_) hi2 ?_
      · rcases l3 i d hi with ⟨z1, z2⟩ | ⟨z1, z2, z3⟩
        · rcases List.mem_append.mp z with y | y
          · obtain ⟨y1, y2⟩ := own_mem.mp y
            by_cases c : ∃ d2, (i, d2) ∈ lk x
            · obtain ⟨d2, c⟩ := c
              have : ∀ (L : List (Nat × D)) (s : Sg), (i, d2) ∈ L → (lockS L s)[i]?.join = none := by
                intro L
                induction L with
                | nil => intro s z; cases z
                | cons a L ih =>
                  intro s z
                  rw [lockS_cons]
                  by_cases c2 : ∃ d3, (i, d3) ∈ L
                  · obtain ⟨d3, c2⟩ := c2
                    have : ∀ (L : List (Nat × D)) (s : Sg), ((s[i]?).join = none ∨ ∃ d3, (i, d3) ∈ L) → (lockS L s)[i]?.join = none := by
                      intro L
                      induction L with
                      | nil => intro s z; rcases z with z | ⟨_, z⟩; exact z; cases z
                      | cons b L ih =>
                        intro s z
                        rw [lockS_cons]
                        refine ih _ ?_
                        rw [List.getElem?_set]
                        by_cases c : b.1 = i
                        · left; rw [if_pos c]; split <;> rfl
                        · rw [if_neg c]
                          rcases z with z | ⟨d4, z⟩
                          · exact .inl z
                          · rcases List.mem_cons.mp z with z | z
                            · exact absurd (by rw [← z]) c
                            · exact .inr ⟨d4, z⟩
                    exact this L _ (.inr ⟨d3, c2⟩)
                  · rw [lock_get (fun d3 z => c2 ⟨d3, z⟩), List.getElem?_set]
                    rcases List.mem_cons.mp z with z | z
                    · have : a.1 = i := by rw [← z]
                      rw [if_pos this]; split <;> rfl
                    · exact absurd ⟨d2, z⟩ c2
              rw [this (lk x) s1 c] at y2
              cases y2
            · rw [lock_get (fun d3 z => c ⟨d3, z⟩)] at y2
              have := a2.get z1
              rw [y2] at this
              cases this; rfl
          · have := hx i d' y
            rw [z1] at this
            cases this; rfl
        · rcases List.mem_append.mp z with y | y
          · exact absurd (own_mem.mp y).1 z2
          · exact absurd (List.mem_map.mpr ⟨_, y, rfl⟩) z3
      · rcases l3 i d hi with ⟨z1, z2⟩ | ⟨z1, z2, z3⟩
        · left
          by_cases c : i ∈ (lk x).map (·.1)
          · obtain ⟨a, ha, hb⟩ := List.mem_map.mp c
            obtain ⟨a1', a2'⟩ := a
            have hb : a1' = i := hb
            subst hb
            exact ⟨a2', List.mem_append_right _ ha⟩
          · rcases z2 with z2 | z2
            · refine ⟨d, List.mem_append_left _ (own_mem.mpr ⟨z2, ?_⟩)⟩
              rw [lock_get (fun d3 z => c (List.mem_map.mpr ⟨_, z, rfl⟩))]
              exact a2.get z1
            · exact absurd z2 c
        · right; exact b2.has i d z1
  · rw [if_neg hl] at e1; cases e1
end
theorem clP_len : ∀ (vs : List Nat) (p : Pt), (clP vs p).length = p.length
  | [], _ => rfl
  | v :: vs, p => by show (stP _ _ _).length = _; rw [stP_len, clP_len vs]
theorem lkP_len : ∀ (L : List (Nat × D)) (p : Pt), (lkP L p).length = p.length
  | [], _ => rfl
  | a :: L, p => by show (lkP L (stP p a.1 none)).length = _; rw [lkP_len L, stP_len]
theorem clP_keep : ∀ {vs : List Nat} {p : Pt} {i : Nat}, i ∉ vs → gtP (clP vs p) i = gtP p i
  | [], _, _, _ => rfl
  | v :: vs, p, i, h => by
    show gtP (stP (clP vs p) v none) i = _
    rw [gtP_stP, if_neg, clP_keep fun z => h (List.mem_cons_of_mem _ z)]
    rintro ⟨z, _⟩
    exact h (by rw [z]; exact List.mem_cons_self ..)
theorem lkP_keep : ∀ {L : List (Nat × D)} {p : Pt} {i : Nat}, i ∉ L.map (·.1) → gtP (lkP L p) i = gtP p i
  | [], _, _, _ => rfl
  | a :: L, p, i, h => by
    show gtP (lkP L (stP p a.1 none)) i = _
    rw [lkP_keep (fun z => h (by rw [List.map_cons]; exact List.mem_cons_of_mem _ z)), gtP_stP, if_neg]
    rintro ⟨z, _⟩
    exact h (by rw [List.map_cons, z]; exact List.mem_cons_self ..)
section
variable {p : Pt} {it : I} {ey : β → D} {ys : α → List β} {lk : α → List (Nat × D)} {q : α → Pt} {F : (α → Option γ) → Option γ} {t : Tg} {c : T} {e : O} {vs : List Nat} {ee : δ → D}
theorem X.cvF {p : Pt} {g : O} {v : α → D} {q : α → Pt} {F F' : (α → Option γ) → Option γ} {vl : Bool} (h : X vl p g v q F) (e : F = F') : X vl p g v q F' := e ▸ h
theorem pureP {x : α} : (q x).length = (clP vs (lkP (lk x) (q x))).length ∧ (clP vs (lkP (lk x) (q x))).length = (q x).length ∧ ∀ i d, gtP (q x) i = some d → gtP (q x) i = some d ∧ (i ∈ vs ∨ i ∈ (lk x).map (·.1)) ∨ gtP (clP vs (lkP (lk x) (q x))) i = some d ∧ i ∉ vs ∧ i ∉ (lk x).map (·.1) := by
  have e : (clP vs (lkP (lk x) (q x))).length = (q x).length := by rw [clP_len, lkP_len]
  refine ⟨e.symm, e, fun i d hi => ?_⟩
  by_cases c : i ∈ vs ∨ i ∈ (lk x).map (·.1)
  · exact .inl ⟨hi, c⟩
  · have c1 : i ∉ vs := fun z => c (.inl z)
    have c2 : i ∉ (lk x).map (·.1) := fun z => c (.inr z)
    exact .inr ⟨by rw [clP_keep c1, lkP_keep c2, hi], c1, c2⟩
/-- nothing changes -/
theorem x_compP {vl : Bool} {pb : α → β → Pt} {cv : α → β → ε → Bool} {Fc : α → β → (ε → Option (Option δ × Unit)) → Option (Option δ × Unit)}
    {ev : α → β → ε → ζ → δ} {Fe : α → β → ε → (ζ → Option (Option δ × Unit)) → Option (Option δ × Unit)}
    (h : XI p it ey ys lk q F) (hv : nodupB vs = true) (hT : ∀ x y, As t (ey y) (clP vs (lkP (lk x) (q x))) (pb x y))
    (hc : ∀ x y, XT (pb x y) c (cv x y) (fun _ => pb x y) (Fc x y)) (he : ∀ x y w, X vl (pb x y) e (fun w2 => ee (ev x y w w2)) (fun _ => pb x y) (Fe x y w)) (ho : vl = true ∨ Pu ee)
    (hn : ∀ x y, Wk (clP vs (lkP (lk x) (q x))) (clP vs (pb x y))) :
    X true p (oComp it t c e vs) (fun w : α × List δ × Unit => eL ee w.2.1) (fun w => q w.1)
      (fun k => F fun x => lim (ys x).length ((lcS (fun _ y => Fc x y fun w => if cv x y w = true then Fe x y w fun w2 => some (some (ev x y w w2), ()) else some (none, ())) (ys x) ()).bind fun z => k (x, z))) :=
  x_compG (G := fun x _ y => Fc x y fun w => if cv x y w = true then Fe x y w fun w2 => some (some (ev x y w w2), ()) else some (none, ())) (qb := fun x _ => clP vs (lkP (lk x) (q x))) (s0 := fun _ => ()) (p' := fun x _ => q x) h hv (fun x => Wk.refl _) (fun x u y w e1 s m => by
    obtain ⟨s1, a1, a2⟩ := hT x y s m
    obtain ⟨w1, e2, hc⟩ := hc x y _ _ e1
    obtain ⟨s2, b1, b2⟩ := hc s1 a2
    refine ⟨s1, s2, _, a1, b1, ?_⟩
    cases hb : cv x y w1 with
    | false =>
      rw [if_neg (by simp [hb])] at e2
      cases e2
      exact .inl ⟨rfl, rfl, (b2.cl vs).wk (hn x y)⟩
    | true =>
      rw [if_pos hb] at e2
      obtain ⟨w2, e3, he⟩ := he x y w1 _ _ e2
      obtain ⟨r, s3, c1, c2, c3⟩ := he s2 b2
      cases e3
      exact .inr ⟨rfl, _, r, s3, rfl, c1, c3.own c2 (ho.imp id fun z => z _), (c2.cl vs).wk (hn x y)⟩) (fun x u => pureP)
theorem lcS_map (f : β → δ) : ∀ ys : List β, lcS (fun (_ : Unit) y => some (some (f y), ())) ys () = some (ys.map f, ())
  | [] => rfl
  | y :: ys => by
    show (lcS _ ys ()).bind _ = _
    rw [lcS_map f ys]; rfl
def mapO (f : β → Option δ) : List β → Option (List δ)
  | [] => some []
  | y :: ys => (f y).bind fun z => (mapO f ys).bind fun zs => some (z :: zs)
theorem mapO_some {f : β → Option δ} {g : β → δ} : ∀ {ys : List β}, (∀ y ∈ ys, f y = some (g y)) → mapO f ys = some (ys.map g)
  | [], _ => rfl
  | y :: ys, h => by
    rw [mapO, h y (List.mem_cons_self ..), mapO_some fun z hz => h z (List.mem_cons_of_mem _ hz)]; rfl
/-- every one, each sure to be told -/
theorem x_mapT {vl : Bool} {pb : α → β → Pt} {ev : α → β → ζ → δ} {y1 : α → β → ζ}
    (h : XI p it ey ys lk q F) (hv : nodupB vs = true) (hT : ∀ x y, As t (ey y) (clP vs (lkP (lk x) (q x))) (pb x y))
    (he : ∀ x y, X (γ := Option δ × Unit) vl (pb x y) e (fun w2 => ee (ev x y w2)) (fun _ => pb x y) (fun k => k (y1 x y))) (ho : vl = true ∨ Pu ee)
    (hn : ∀ x y, Wk (clP vs (lkP (lk x) (q x))) (clP vs (pb x y))) :
    X true p (oComp it t tYesT e vs) (fun w : α × List δ × Unit => eL ee w.2.1) (fun w => q w.1) (fun k => F fun x => lim (ys x).length (k (x, (ys x).map (fun y => ev x y (y1 x y)), ()))) := by
  refine (x_compP (cv := fun _ _ (_ : Unit) => true) (ev := fun x y _ => ev x y) h hv hT (fun x y => xt_yes) (fun x y _ => he x y) ho hn).cvF (funext fun k => congrArg F (funext fun x => congrArg (lim _) ?_))
  have := lcS_map (fun y => ev x y (y1 x y)) (ys x)
  show (lcS (fun _ y => some (some (ev x y (y1 x y)), ())) (ys x) ()).bind _ = _
  rw [this]; rfl
/-- every one, each perhaps told -/
theorem x_mapP {vl : Bool} {pb : α → β → Pt} {ev : α → β → ζ → δ} {Fe : α → β → (ζ → Option (Option δ × Unit)) → Option (Option δ × Unit)}
    (h : XI p it ey ys lk q F) (hv : nodupB vs = true) (hT : ∀ x y, As t (ey y) (clP vs (lkP (lk x) (q x))) (pb x y))
    (he : ∀ x y, X vl (pb x y) e (fun w2 => ee (ev x y w2)) (fun _ => pb x y) (Fe x y)) (ho : vl = true ∨ Pu ee) (Ge : α → β → Option δ)
    (hn : ∀ x y, Wk (clP vs (lkP (lk x) (q x))) (clP vs (pb x y))) (hg : ∀ x y z, Ge x y = some z → Fe x y (fun w2 => some (some (ev x y w2), ())) = some (some z, ())) :
    X true p (oComp it t tYesT e vs) (fun w : α × List δ × Unit => eL ee w.2.1) (fun w => q w.1) (fun k => F fun x => lim (ys x).length ((mapO (Ge x) (ys x)).bind fun zs => k (x, zs, ()))) := by
  have key : ∀ (x : α) (l : List β), lcS (fun (_ : Unit) y => (Ge x y).bind fun z => some (some z, ())) l () = (mapO (Ge x) l).bind fun zs => some (zs, ()) := by
    intro x l
    induction l with
    | nil => rfl
    | cons y l ih =>
      show ((Ge x y).bind _).bind _ = ((Ge x y).bind _).bind _
      cases h : Ge x y with
      | none => rfl
      | some z =>
        rw [Option.bind_some, Option.bind_some, Option.bind_some, ih]
        cases h2 : mapO (Ge x) l <;> rfl
  have hh := x_compG (γ := γ) (e := e) (ee := ee) (c := tYesT) (G := fun x (_ : Unit) y => (Ge x y).bind fun z => some (some z, ())) (qb := fun x _ => clP vs (lkP (lk x) (q x))) (s0 := fun _ => ()) (p' := fun x _ => q x) h hv (fun x => Wk.refl _) (fun x u y w e1 s m => by
    obtain ⟨s1, a1, a2⟩ := hT x y s m
    obtain ⟨z, e2, e3⟩ := Option.bind_eq_some_iff.mp e1
    cases e3
    obtain ⟨w2, e4, he⟩ := he x y _ _ (hg x y z e2)
    obtain ⟨r, s3, c1, c2, c3⟩ := he s1 a2
    have e5 : ev x y w2 = z := by cases e4; rfl
    refine ⟨s1, s1, true, a1, rfl, .inr ⟨rfl, z, r, s3, rfl, c1, ?_, (c2.cl vs).wk (hn x y)⟩⟩
    rw [c3.own c2 (ho.imp id fun z => z _)]
    show some (ee (ev x y w2)) = _
    rw [e5]) (fun x u => pureP)
  refine hh.cvF (funext fun k => congrArg F (funext fun x => congrArg (lim _) ?_))
  show (lcS (fun (_ : Unit) y => (Ge x y).bind fun z => some (some z, ())) (ys x) ()).bind _ = _
  rw [key x (ys x)]
  cases mapO (Ge x) (ys x) <;> rfl
end
end
end Sim
namespace Sim
open PySem PySem.Spec L2
section
variable {α β δ : Type}
structure Eqv [DecidableEq α] (n : Nat) (e : α → D) : Prop where
  lay : ∀ x, PyData.canLay0 (e x) = true
  dep : ∀ x, PyData.depth (e x) ≤ n
  nod : ∀ x, noD (e x) = true
  eq : ∀ x y, PyData.eqv (e x) (e y) = decide (x = y)
theorem eqI : Eqv 0 eI := ⟨fun _ => rfl, fun _ => Nat.le_refl _, fun _ => rfl, fun x y => by simp [PyData.eqv]; rfl⟩
theorem eqv_all [DecidableEq α] {n : Nat} {e : α → D} (h : Eqv n e) : ∀ xs ys : List α, PyData.eqvAll (xs.map e) (ys.map e) = decide (xs = ys)
  | [], [] => by simp [PyData.eqvAll]
  | [], _ :: _ => by simp [PyData.eqvAll]
  | _ :: _, [] => by simp [PyData.eqvAll]
  | x :: xs, y :: ys => by
    rw [List.map_cons, List.map_cons, PyData.eqvAll, h.eq, eqv_all h xs ys, Bool.eq_iff_iff]
    simp
theorem lay_all {n : Nat} [DecidableEq α] {e : α → D} (h : Eqv n e) : ∀ xs : List α, PyData.canLayAll0 (xs.map e) = true ∧ PyData.depthAll (xs.map e) ≤ n ∧ noDs (xs.map e) = true
  | [] => ⟨rfl, Nat.zero_le _, rfl⟩
  | x :: xs => by
    obtain ⟨a, b, c⟩ := lay_all h xs
    refine ⟨?_, ?_, ?_⟩
    · rw [List.map_cons, PyData.canLayAll0, h.lay, a]; rfl
    · rw [List.map_cons, PyData.depthAll]; exact Nat.max_le.mpr ⟨h.dep x, b⟩
    · rw [List.map_cons, noDs, h.nod, c]; rfl
theorem eqL [DecidableEq α] {n : Nat} {e : α → D} (h : Eqv n e) : Eqv (n + 1) (eL e) :=
  ⟨fun x => by rw [eL, PyData.canLay0]; exact (lay_all h x).1, fun x => by rw [eL, PyData.depth]; have := (lay_all h x).2.1; omega, fun x => by rw [eL, noD]; exact (lay_all h x).2.2, fun x y => by rw [eL, eL, PyData.eqv, eqv_all h]⟩
theorem eqP [DecidableEq α] [DecidableEq β] {n m : Nat} {a : α → D} {b : β → D} (h : Eqv n a) (h2 : Eqv m b) : Eqv (max n m + 1) (eP a b) :=
  ⟨fun x => by simp [eP, PyData.canLay0, PyData.canLayAll0, h.lay, h2.lay], fun x => by simp [eP, PyData.depth, PyData.depthAll]; have := h.dep x.1; have := h2.dep x.2; omega, fun x => by simp [eP, noD, noDs, h.nod, h2.nod],
   fun x y => by
    obtain ⟨x1, x2⟩ := x
    obtain ⟨y1, y2⟩ := y
    rw [eP, eP, PyData.eqv, PyData.eqvAll, PyData.eqvAll, PyData.eqvAll, h.eq, h2.eq, Bool.eq_iff_iff]
    simp⟩
theorem Eqv.shp [DecidableEq α] {n : Nat} {e : α → D} (h : Eqv n e) (z : n ≤ 64) (x : α) : shp (e x) = true := by
  have := h.dep x
  simp only [Sim.shp, SeqAt.shaped, h.lay, h.nod, Bool.true_and, Bool.and_true, decide_eq_true_eq]
  omega
theorem op_eq [DecidableEq α] {n : Nat} {e : α → D} (h : Eqv n e) (z : n ≤ 64) (x y : α) : pEq [e x, e y] = some (.bool (decide (x = y))) := by
  rw [ev_eq, if_pos ⟨h.shp z x, h.shp z y⟩, h.eq]
theorem op_ne [DecidableEq α] {n : Nat} {e : α → D} (h : Eqv n e) (z : n ≤ 64) (x y : α) : pNe [e x, e y] = some (.bool (!decide (x = y))) := by
  rw [ev_ne, if_pos ⟨h.shp z x, h.shp z y⟩, h.eq]
theorem op_add (i j : Int) : pAdd [.int i, .int j] = some (.int (i + j)) := rfl
theorem op_sub' (i j : Int) : pSub [.int i, .int j] = some (.int (i - j)) := rfl
theorem op_neg (i : Int) : pNeg [.int i] = some (.int (-i)) := rfl
theorem op_lt' (i j : Int) : pLt [.int i, .int j] = some (.bool (decide (i < j))) := rfl
theorem op_le' (i j : Int) : pLe [.int i, .int j] = some (.bool (decide (i ≤ j))) := rfl
theorem op_gt' (i j : Int) : pGt [.int i, .int j] = some (.bool (decide (j < i))) := rfl
theorem op_ge' (i j : Int) : pGe [.int i, .int j] = some (.bool (decide (j ≤ i))) := rfl
theorem op_mulL {a b : Int} (h : -(2 ^ 64) < a ∧ a < 2 ^ 64) : pMul [.int a, .int b] = some (.int (a * b)) := by
  rw [ev_mul, if_pos (mulOk_l h.1 h.2)]
theorem op_mulR {a b : Int} (h : -(2 ^ 64) < b ∧ b < 2 ^ 64) : pMul [.int a, .int b] = some (.int (a * b)) := by
  rw [ev_mul, if_pos (mulOk_r h.1 h.2)]
theorem op_mulB (a : Int) (b : Bool) : pMul [.int a, .int (if b = true then 1 else 0)] = some (.int (a * (if b = true then 1 else 0))) :=
  op_mulR (by cases b <;> decide)
def mulT (a b : Int) : Option Int := if mulOk a b = true then some (a * b) else none
theorem op_mul {a b z : Int} (h : mulT a b = some z) : pMul [.int a, .int b] = some (.int z) := by
  unfold mulT at h
  split at h
  · rename_i c; cases h; rw [ev_mul, if_pos c]
  · cases h
theorem op_divC {i c : Int} (h : 0 < c ∧ c.natAbs.log2 < 9000) : pDiv [.int i, .int c] = some (.int (i / c)) := by rw [ev_div, if_pos h]
theorem op_modC {i c : Int} (h : 0 < c) : pMod [.int i, .int c] = some (.int (i % c)) := by rw [ev_mod, if_pos h]
def divT (a b : Int) : Option Int := if 0 < b ∧ b.natAbs.log2 < 9000 then some (a / b) else none
theorem op_div {a b z : Int} (h : divT a b = some z) : pDiv [.int a, .int b] = some (.int z) := by
  unfold divT at h
  split at h
  · rename_i c; cases h; rw [ev_div, if_pos c]
  · cases h
def modT (a b : Int) : Option Int := if 0 < b then some (a % b) else none
theorem op_mod' {a b z : Int} (h : modT a b = some z) : pMod [.int a, .int b] = some (.int z) := by
  unfold modT at h
  split at h
  · rename_i c; cases h; rw [ev_mod, if_pos c]
  · cases h
theorem op_powC {a b c : Int} (h : 0 ≤ b ∧ b ≤ 1000000 ∧ a.natAbs < 2 ^ 64) (e : a ^ b.toNat = c) : pPow [.int a, .int b] = some (.int c) := by rw [ev_pow, if_pos h, e]
def shlT (a b : Int) : Option Int := if 0 ≤ b ∧ b ≤ 1000000 ∧ a.natAbs < 2 ^ 64 then some (a * 2 ^ b.toNat) else none
theorem op_shl' {a b z : Int} (h : shlT a b = some z) : pShl [.int a, .int b] = some (.int z) := by
  unfold shlT at h
  split at h
  · rename_i c; cases h; rw [ev_shl, if_pos c]
  · cases h
def shrT (a b : Int) : Option Int := if 0 ≤ b then some (a / 2 ^ b.toNat) else none
theorem op_shr' {a b z : Int} (h : shrT a b = some z) : pShr [.int a, .int b] = some (.int z) := by
  unfold shrT at h
  split at h
  · rename_i c; cases h; show (if 0 ≤ b then _ else _) = _; rw [if_pos c]
  · cases h
theorem op_and' (i j : Int) : pAnd [.int i, .int j] = some (.int (Builtin.bitAnd i j)) := rfl
theorem op_max2 (i j : Int) : pMax2 [.int i, .int j] = some (.int (max i j)) := rfl
theorem op_min2 (i j : Int) : pMin2 [.int i, .int j] = some (.int (min i j)) := rfl
theorem op_intB (b : Bool) : pInt [.bool b] = some (.int (if b = true then 1 else 0)) := rfl
theorem atI_map {e : α → D} {xs : List α} {i : Int} {z : α} (h : atI xs i = some z) : atI (xs.map e) i = some (e z) := by
  unfold atI at h ⊢
  obtain ⟨j, h1, h2⟩ := Option.bind_eq_some_iff.mp h
  rw [List.length_map, h1]
  show (xs.map e)[j]? = _
  rw [List.getElem?_map, h2]; rfl
theorem op_ixL {e : α → D} (p : Pu e) {xs : List α} {i : Int} {z : α} (h : atI xs i = some z) : pIx [eL e xs, .int i] = some (e z) := by
  rw [eL, ev_ixL, atI_map h, ev_puO, if_pos (p z)]
theorem op_ixT {e : α → D} (p : Pu e) {xs : List α} {i : Int} {z : α} (h : atI xs i = some z) : pIx [eT e xs, .int i] = some (e z) := by
  rw [eT, ev_ixT, atI_map h, ev_puO, if_pos (p z)]
theorem op_ixZ {xs : List Int} {i z : Int} (h : atI xs i = some z) : pIx [eZ xs, .int i] = some (.int z) := by
  rw [eZ, ev_ixF, atI_map h, ev_puO, if_pos (pur_int _)]
theorem op_ixQ0 {a : α → D} {b : β → D} {c : δ → D} (p : Pu a) (x : α × β × δ) : pIx [eQ a b c x, .int 0] = some (a x.1) := by
  show puO (some (a x.1)) = _
  rw [ev_puO, if_pos (p _)]
theorem op_ixQ1 {a : α → D} {b : β → D} {c : δ → D} (p : Pu b) (x : α × β × δ) : pIx [eQ a b c x, .int 1] = some (b x.2.1) := by
  show puO (some (b x.2.1)) = _
  rw [ev_puO, if_pos (p _)]
theorem op_ixQ2 {a : α → D} {b : β → D} {c : δ → D} (p : Pu c) (x : α × β × δ) : pIx [eQ a b c x, .int 2] = some (c x.2.2) := by
  show puO (some (c x.2.2)) = _
  rw [ev_puO, if_pos (p _)]
theorem op_lenL {e : α → D} (xs : List α) : pLen [eL e xs] = some (.int (xs.length : Int)) := by rw [eL, ev_lenL, List.length_map]
theorem op_lenZ (xs : List Int) : pLen [eZ xs] = some (.int (xs.length : Int)) := by rw [eZ, ev_lenF, List.length_map]
def maxO (xs : List Int) : Option Int := if xs = [] then none else some (maxL xs)
theorem op_max1T {xs : List Int} {z : Int} (h : maxO xs = some z) : pMax1 [eT eI xs] = some (.int z) := by
  unfold maxO at h
  split at h
  · cases h
  · rename_i c; cases h; exact ev_max1T _ _ (intsD_int _) c
theorem op_tupL {e : α → D} (p : Pu e) (xs : List α) : pTuple [eL e xs] = some (eT e xs) := by rw [eL, ev_tupL, if_pos (purs_pu p xs)]; rfl
theorem op_lstT {e : α → D} (p : Pu e) (xs : List α) : pList [eT e xs] = some (eL e xs) := by rw [eT, ev_lstT, if_pos (purs_pu p xs)]; rfl
theorem op_all (xs : List Bool) : pAll [eL eB xs] = some (.bool (xs.all id)) := by
  have : bools (xs.map PyData.bool) = some xs := by have := bools_map (fun b => b) xs; rw [List.map_id'] at this; exact this
  rw [eL, ev_all]
  show (bools (xs.map PyData.bool)).map _ = _
  rw [this]; rfl
def catT (xs ys : List α) : Option (List α) := if xs.length + ys.length ≤ 1000000 then some (xs ++ ys) else none
theorem op_catL {e : α → D} (p : Pu e) {xs ys z : List α} (h : catT xs ys = some z) : pAdd [eL e xs, eL e ys] = some (eL e z) := by
  unfold catT at h
  split at h
  · rename_i c; cases h; rw [eL, eL, ev_addL, if_pos ⟨by simpa using c, purs_pu p _, purs_pu p _⟩, ← List.map_append]; rfl
  · cases h
theorem op_catT {e : α → D} (p : Pu e) {xs ys z : List α} (h : catT xs ys = some z) : pAdd [eT e xs, eT e ys] = some (eT e z) := by
  unfold catT at h
  split at h
  · rename_i c; cases h; rw [eT, eT, ev_addT, if_pos ⟨by simpa using c, purs_pu p _, purs_pu p _⟩, ← List.map_append]; rfl
  · cases h
def repT (xs : List α) (n : Int) : Option (List α) := if -1000 ≤ n ∧ n ≤ 1000 ∧ xs.length ≤ 1000 then some (List.replicate n.toNat xs).flatten else none
theorem op_repL {e : α → D} (p : Pu e) {xs z : List α} {n : Int} (h : repT xs n = some z) : pMul [eL e xs, .int n] = some (eL e z) := by
  unfold repT at h
  split at h
  · rename_i c
    cases h
    obtain ⟨c1, c2, c3⟩ := c
    show (if n < 2 ^ 63 ∧ -(2 ^ 63) ≤ n ∧ (xs.map e).length * n.toNat ≤ 1000000 ∧ purs (xs.map e) = true then _ else _) = _
    rw [if_pos ⟨by omega, by omega, by rw [List.length_map]; exact Nat.le_trans (Nat.mul_le_mul c3 (show n.toNat ≤ 1000 by omega)) (by decide), purs_pu p xs⟩]
    simp [eL]
  · cases h
theorem op_repT' {e : α → D} (p : Pu e) {xs z : List α} {n : Int} (h : repT xs n = some z) : pMul [eT e xs, .int n] = some (eT e z) := by
  unfold repT at h
  split at h
  · rename_i c
    cases h
    obtain ⟨c1, c2, c3⟩ := c
    show (if -1000 ≤ n ∧ n ≤ 1000 ∧ (xs.map e).length ≤ 1000 ∧ purs (xs.map e) = true then _ else _) = _
    rw [if_pos ⟨c1, c2, by rw [List.length_map]; exact c3, purs_pu p xs⟩]
    simp [eT]
  · cases h
theorem cutL_map {e : α → β} (xs : List α) (l u : Option Int) : cutL (xs.map e) l u = (cutL xs l u).map e := by
  unfold cutL
  rw [List.length_map, List.map_take, List.map_drop]
theorem op_slT {e : α → D} (p : Pu e) (xs : List α) (l u : Option Int) : slD (eT e xs) l u = some (eT e (cutL xs l u)) := by
  rw [eT, ev_slT, if_pos (purs_pu p xs), cutL_map]; rfl
theorem op_revP {a : α → D} {b : β → D} (p : Pu a) (p2 : Pu b) (x : α × β) : stD (eP a b x) none none (some (-1)) = some (eP b a (x.2, x.1)) := by
  show (if purs [a x.1, b x.2] = true ∧ [a x.1, b x.2].length ≤ 1000000 then some (PyData.tuple [a x.1, b x.2].reverse) else none) = _
  rw [if_pos ⟨by simp [p x.1, p2 x.2], by simp⟩]; rfl
theorem op_sortL (xs : List Int) : pSorted [eL eI xs] = some (eL eI (sortI xs)) := by
  show (intsOf (.list (xs.map PyData.int))).map _ = _
  show (intsD (xs.map PyData.int)).map _ = _
  rw [intsD_int]; rfl
def rngI (lo : Int) (n : Nat) : List Int := (List.range n).map fun i => lo + (i : Nat)
theorem rngD_I (lo : Int) (n : Nat) : rngD lo n = (rngI lo n).map eI := by unfold rngD rngI; simp
def rngO (j : Int) : Option (List Int) := if -1000000 < j ∧ j < 1000000 then some (rngI 0 j.toNat) else none
theorem it_r1 {j : Int} {z : List Int} (h : rngO j = some z) : itR1 [.int j] = some (z.map eI) := by
  unfold rngO at h
  split at h
  · rename_i c
    cases h
    show (if -1000000 < j ∧ j < 1000000 then some (rngD 0 j.toNat) else none) = _
    rw [if_pos c, rngD_I]
  · cases h
theorem op_trg1 {j : Int} {z : List Int} (h : rngO j = some z) : pTupleRg [.int j] = some (eT eI z) := by
  unfold rngO at h
  split at h
  · rename_i c
    cases h
    show (if -1000000 < j ∧ j < 1000000 then some (PyData.tuple (rngD 0 j.toNat)) else none) = _
    rw [if_pos c, rngD_I]; rfl
  · cases h
theorem it_L {e : α → D} (xs : List α) : itP [eL e xs] = some (xs.map e) := rfl
theorem it_T {e : α → D} (xs : List α) : itP [eT e xs] = some (xs.map e) := rfl
def enumT : Nat → List α → List (Int × α)
  | _, [] => []
  | n, x :: xs => ((n : Int), x) :: enumT (n + 1) xs
theorem enumD_T {e : α → D} : ∀ (n : Nat) (xs : List α), enumD n (xs.map e) = (enumT n xs).map (eP eI e)
  | _, [] => rfl
  | n, x :: xs => by rw [List.map_cons, enumD, enumD_T (n + 1) xs]; rfl
theorem it_eT {e : α → D} (xs : List α) : itE [eT e xs] = some ((enumT 0 xs).map (eP eI e)) := by
  show some (enumD 0 (xs.map e)) = _
  rw [enumD_T]
theorem zipD_T {a : α → D} {b : β → D} : ∀ (xs : List α) (ys : List β), zipD (xs.map a) (ys.map b) = (xs.zip ys).map (eP a b)
  | [], _ => rfl
  | _ :: _, [] => rfl
  | x :: xs, y :: ys => by rw [List.map_cons, List.map_cons, zipD, zipD_T xs ys]; rfl
theorem it_zTT {a : α → D} {b : β → D} (xs : List α) (ys : List β) : itZ [eT a xs, eT b ys] = some ((xs.zip ys).map (eP a b)) := congrArg some (zipD_T xs ys)
def appT (xs : List α) (x : α) : Option (List α) := if xs.length < 1000000 then some (xs ++ [x]) else none
theorem mt_app' {e : α → D} {xs : List α} {x : α} {z : List α} (h : appT xs x = some z) : mApp (xs.map e) [e x] = some (z.map e, .none) := by
  unfold appT at h
  split at h
  · rename_i c; cases h; show (if (xs.map e).length < 1000000 then _ else _) = _; rw [List.length_map, if_pos c, List.map_append]; rfl
  · cases h
def insT (xs : List α) (i : Int) (x : α) : Option (List α) := if xs.length < 1000000 ∧ 0 ≤ i ∧ i < 1000000 then some (xs.take i.toNat ++ [x] ++ xs.drop i.toNat) else none
theorem mt_ins' {e : α → D} (p : Pu e) {xs : List α} {i : Int} {x : α} {z : List α} (h : insT xs i x = some z) : mIns (xs.map e) [.int i, e x] = some (z.map e, .none) := by
  unfold insT at h
  split at h
  · rename_i c
    cases h
    show (if (xs.map e).length < 1000000 ∧ 0 ≤ i ∧ i < 1000000 ∧ pur (e x) = true ∧ purs (xs.map e) = true then _ else _) = _
    rw [List.length_map, if_pos ⟨c.1, c.2.1, c.2.2, p x, purs_pu p xs⟩]
    simp
  · cases h
def idxT (xs : List Int) (y : Int) : Option Int := (xs.findIdx? fun z => decide (z = y)).map fun (j : Nat) => (j : Int)
theorem op_isN {e : α → D} (h : ∀ x, isN (e x) = false) (x : Option α) : pIsN [eO e x, .none] = some (.bool x.isNone) := by
  cases x with
  | none => rfl
  | some x => show pIsN [e x, .none] = _; rw [ev_isN, h]; rfl
theorem op_notN {e : α → D} (h : ∀ x, isN (e x) = false) (x : Option α) : pNotN [eO e x, .none] = some (.bool x.isSome) := by
  cases x with
  | none => rfl
  | some x => show pNotN [e x, .none] = _; rw [ev_notN, h]; rfl
theorem tr_B (b : Bool) : truD (.bool b) = some b := rfl
end
end Sim
namespace Sim
open PySem PySem.Spec L2
end Sim
namespace Sim
open PySem PySem.Spec L2
def Sp {α : Type} (m : Option α) (Q : α → Prop) : Prop := ∃ x, m = some x ∧ Q x
section
variable {α β γ σ ρ τ δ : Type}
theorem Sp.mono {m : Option α} {P Q : α → Prop} (h : Sp m P) (i : ∀ x, P x → Q x) : Sp m Q := by
  obtain ⟨x, e, p⟩ := h
  exact ⟨x, e, i x p⟩
theorem w_some {x : α} {Q : α → Prop} (h : Q x) : Sp (some x) Q := ⟨x, rfl, h⟩
theorem w_bind {m : Option α} {k : α → Option β} {P : α → Prop} {Q : β → Prop} (h : Sp m P) (h2 : ∀ x, P x → Sp (k x) Q) : Sp (m.bind k) Q := by
  obtain ⟨x, rfl, p⟩ := h
  exact h2 x p
theorem w_let {x : α} {k : α → Option β} {Q : β → Prop} (h2 : ∀ y, y = x → Sp (k y) Q) : Sp ((some x).bind k) Q := h2 x rfl
theorem w_ite {c : Bool} {a b : Option α} {Q : α → Prop} (h1 : c = true → Sp a Q) (h2 : c = false → Sp b Q) : Sp (if c = true then a else b) Q := by
  cases c with
  | true => exact h1 rfl
  | false => exact h2 rfl
theorem w_lpN {F : σ → β → Option σ} (I : Nat → σ → Prop) {ys : List β} {s0 : σ} (h0 : I 0 s0) (hs : ∀ i s y, ys[i]? = some y → I i s → Sp (F s y) (I (i + 1))) : Sp (lpN F ys s0) (I ys.length) := by
  have key : ∀ (zs : List β) (k : Nat) (s : σ), I k s → (∀ i s y, zs[i]? = some y → I (k + i) s → Sp (F s y) (I (k + i + 1))) → Sp (lpN F zs s) (I (k + zs.length)) := by
    intro zs
    induction zs with
    | nil => intro k s h _; exact ⟨s, rfl, h⟩
    | cons y zs ih =>
      intro k s h hs
      refine w_bind (hs 0 s y rfl h) fun s1 h1 => ?_
      have := ih (k + 1) s1 h1 fun i s y hy hi => by
        have := hs (i + 1) s y (by simpa using hy) (by rw [show k + (i + 1) = k + 1 + i by omega]; exact hi)
        rw [show k + (i + 1) + 1 = k + 1 + i + 1 by omega] at this
        exact this
      rw [show k + 1 + zs.length = k + (y :: zs).length by rw [List.length_cons]; omega] at this
      exact this
  have := key ys 0 s0 h0 fun i s y hy hi => by simpa using hs i s y hy (by simpa using hi)
  simpa using this
/-- of a loop that may leave: it goes on to its end -/
def Go (P : σ → Prop) : Lf σ ρ → Prop := fun w => ∃ s, w = .go s ∧ P s
theorem w_go {x : σ} {P : σ → Prop} (h : P x) : Sp (some (Lf.go x : Lf σ ρ)) (Go P) := ⟨_, rfl, x, rfl, h⟩
theorem w_lpR {F : σ → β → Option (Lf σ ρ)} (I : Nat → σ → Prop) {ys : List β} {s0 : σ} (h0 : I 0 s0) (hs : ∀ i s y, ys[i]? = some y → I i s → Sp (F s y) (Go (I (i + 1)))) : Sp (lpR F ys s0) (Go (I ys.length)) := by
  have key : ∀ (zs : List β) (k : Nat) (s : σ), I k s → (∀ i s y, zs[i]? = some y → I (k + i) s → Sp (F s y) (Go (I (k + i + 1)))) → Sp (lpR F zs s) (Go (I (k + zs.length))) := by
    intro zs
    induction zs with
    | nil => intro k s h _; exact ⟨_, rfl, s, rfl, h⟩
    | cons y zs ih =>
      intro k s h hs
      refine w_bind (hs 0 s y rfl h) fun w hw => ?_
      obtain ⟨s1, rfl, h1⟩ := hw
      have := ih (k + 1) s1 h1 fun i s y hy hi => by
        have := hs (i + 1) s y (by simpa using hy) (by rw [show k + (i + 1) = k + 1 + i by omega]; exact hi)
        rw [show k + (i + 1) + 1 = k + 1 + i + 1 by omega] at this
        exact this
      rw [show k + 1 + zs.length = k + (y :: zs).length by rw [List.length_cons]; omega] at this
      exact this
  have := key ys 0 s0 h0 fun i s y hy hi => by simpa using hs i s y hy (by simpa using hi)
  simpa using this
theorem w_on {m : Option (Lf σ ρ)} {f : σ → Option τ} {g : ρ → Option τ} {P : σ → Prop} {Q : τ → Prop} (h : Sp m (Go P)) (h2 : ∀ s, P s → Sp (f s) Q) : Sp (m.bind fun w => w.on f g) Q := by
  obtain ⟨w, rfl, s, rfl, hp⟩ := h
  exact h2 s hp
theorem mapO_eq {f : β → Option δ} {g : β → δ} {ys : List β} (h : ∀ y ∈ ys, f y = some (g y)) : mapO f ys = some (ys.map g) := mapO_some h
theorem ixN_nn {n : Nat} {i : Int} (h0 : 0 ≤ i) (h : i < n) : ixN n i = some i.toNat := by unfold ixN; rw [if_pos h0, if_pos h]
theorem atI_nn {xs : List α} {i : Int} (h0 : 0 ≤ i) (h : i < xs.length) : atI xs i = xs[i.toNat]? := by
  unfold atI; rw [ixN_nn h0 h]; rfl
theorem atI_get' {xs : List α} {i : Int} (h0 : 0 ≤ i) (h : i < xs.length) : atI xs i = some (xs[i.toNat]'(by omega)) := by
  rw [atI_nn h0 h, List.getElem?_eq_getElem]
theorem atI_D {xs : List α} {i : Int} (d : α) (h0 : 0 ≤ i) (h : i < xs.length) : atI xs i = some (xs.getD i.toNat d) := by
  rw [atI_nn h0 h, List.getD_eq_getElem?_getD, List.getElem?_eq_getElem (by omega)]; rfl
theorem w_atI {xs : List α} {i : Int} (h0 : 0 ≤ i) (h : i < xs.length) : Sp (atI xs i) (fun x => x ∈ xs) := by
  rw [atI_get' h0 h]; exact w_some (List.getElem_mem _)
theorem atI_lastne {xs : List α} (h : xs ≠ []) : atI xs (-1) = some (xs.getLast h) := by
  have e := List.dropLast_concat_getLast h
  have z := L2.atI_last xs.dropLast (xs.getLast h)
  rw [e] at z; exact z
theorem setT_nn {xs : List α} {i : Int} {v : α} (h0 : 0 ≤ i) (h : i < xs.length) : setT xs i v = some (xs.set i.toNat v) := by unfold setT; rw [ixN_nn h0 h]; rfl
theorem appT_of {xs : List α} {x : α} (h : xs.length < 1000000) : appT xs x = some (xs ++ [x]) := if_pos h
theorem catT_of {xs ys : List α} (h : xs.length + ys.length ≤ 1000000) : catT xs ys = some (xs ++ ys) := if_pos h
theorem rngO_of {j : Int} (h : -1000000 < j ∧ j < 1000000) : rngO j = some (rngI 0 j.toNat) := if_pos h
theorem modT_of {a b : Int} (h : 0 < b) : modT a b = some (a % b) := if_pos h
theorem divT_of {a b : Int} (h : 0 < b) (h2 : b < 1000000000000000000000000) : divT a b = some (a / b) := by
  refine if_pos ⟨h, Nat.lt_of_lt_of_le (log2_lt (k := 80) (by omega) (by decide)) (by decide)⟩
theorem mulT_l {a b : Int} (h : -(2 ^ 64) < a) (h2 : a < 2 ^ 64) : mulT a b = some (a * b) := by unfold mulT; rw [if_pos (mulOk_l h h2)]
theorem mulT_r {a b : Int} (h : -(2 ^ 64) < b) (h2 : b < 2 ^ 64) : mulT a b = some (a * b) := by unfold mulT; rw [if_pos (mulOk_r h h2)]
theorem repT_of {xs : List α} {n : Int} (h : -1000 ≤ n ∧ n ≤ 1000) (h2 : xs.length ≤ 1000) : repT xs n = some (List.replicate n.toNat xs).flatten := if_pos ⟨h.1, h.2, h2⟩
theorem repT_1 {x : α} {n : Int} (h : -1000 ≤ n ∧ n ≤ 1000) : repT [x] n = some (List.replicate n.toNat x) := by
  rw [repT_of h (by simp)]
  have : ∀ k : Nat, (List.replicate k [x]).flatten = List.replicate k x := by
    intro k
    induction k with
    | zero => rfl
    | succ k ih => rw [List.replicate_succ, List.flatten_cons, ih]; rfl
  rw [this]
theorem insT_of {xs : List α} {i : Int} {x : α} (h : xs.length < 1000000) (h0 : 0 ≤ i) (h1 : i < 1000000) : insT xs i x = some (xs.take i.toNat ++ [x] ++ xs.drop i.toNat) := if_pos ⟨h, h0, h1⟩
theorem maxO_of {xs : List Int} (h : xs ≠ []) : maxO xs = some (maxL xs) := if_neg h
@[simp] theorem at0 (a : α) (l : List α) : atI (a :: l) 0 = some a := by
  rw [atI_nn (by decide) (by rw [List.length_cons]; omega)]; rfl
@[simp] theorem at1 (a b : α) (l : List α) : atI (a :: b :: l) 1 = some b := by
  rw [atI_nn (by decide) (by simp only [List.length_cons]; omega)]; rfl
@[simp] theorem at2 (a b c : α) (l : List α) : atI (a :: b :: c :: l) 2 = some c := by
  rw [atI_nn (by decide) (by simp only [List.length_cons]; omega)]; rfl
@[simp] theorem set0 (a v : α) (l : List α) : setT (a :: l) 0 v = some (v :: l) := by
  rw [setT_nn (by decide) (by rw [List.length_cons]; omega)]; rfl
@[simp] theorem set1 (a b v : α) (l : List α) : setT (a :: b :: l) 1 v = some (a :: v :: l) := by
  rw [setT_nn (by decide) (by simp only [List.length_cons]; omega)]; rfl
@[simp] theorem set2 (a b c v : α) (l : List α) : setT (a :: b :: c :: l) 2 v = some (a :: b :: v :: l) := by
  rw [setT_nn (by decide) (by simp only [List.length_cons]; omega)]; rfl
theorem rngI_len (lo : Int) (n : Nat) : (rngI lo n).length = n := by unfold rngI; simp
theorem rngI_get {lo : Int} {n i : Nat} {y : Int} (h : (rngI lo n)[i]? = some y) : y = lo + i ∧ i < n := by
  unfold rngI at h
  rw [List.getElem?_map] at h
  obtain ⟨j, h1, h2⟩ := Option.map_eq_some_iff.mp h
  obtain ⟨h3, h4⟩ := List.getElem?_eq_some_iff.mp h1
  rw [List.getElem_range] at h4
  subst h4
  exact ⟨h2.symm, by simpa using h3⟩
theorem rngI_mem {lo : Int} {n : Nat} {y : Int} (h : y ∈ rngI lo n) : lo ≤ y ∧ y < lo + n := by
  unfold rngI at h
  obtain ⟨j, h1, h2⟩ := List.mem_map.mp h
  have := List.mem_range.mp h1
  omega
theorem rngI_succ (lo : Int) (n : Nat) : rngI lo (n + 1) = lo :: rngI (lo + 1) n := by
  unfold rngI
  rw [List.range_succ_eq_map, List.map_cons, List.map_map]
  refine congr (congrArg _ (by simp)) (List.map_congr_left fun i _ => ?_)
  simp only [Function.comp]
  omega
theorem enumT_len : ∀ (n : Nat) (xs : List α), (enumT n xs).length = xs.length
  | _, [] => rfl
  | n, x :: xs => by rw [enumT, List.length_cons, List.length_cons, enumT_len]
theorem enumT_get : ∀ {n : Nat} {xs : List α} {i : Nat} {y : Int × α}, (enumT n xs)[i]? = some y → y.1 = (n + i : Nat) ∧ xs[i]? = some y.2
  | n, [], i, y, h => by simp [enumT] at h
  | n, x :: xs, 0, y, h => by simp [enumT] at h; subst h; exact ⟨by simp, rfl⟩
  | n, x :: xs, i + 1, y, h => by
    rw [enumT, List.getElem?_cons_succ] at h
    obtain ⟨h1, h2⟩ := enumT_get h
    exact ⟨by rw [h1]; omega, by rw [List.getElem?_cons_succ]; exact h2⟩
theorem rngI_snoc (lo : Int) (n : Nat) : rngI lo (n + 1) = rngI lo n ++ [lo + n] := by
  unfold rngI
  rw [List.range_succ, List.map_append]; rfl
end
end Sim
namespace Sim
open PySem PySem.Spec L2
section
variable {α β : Type}
/-- how a kind of values is sorted -/
structure Flt (e : α → D) (f : α → List Int) : Prop where
  fl : ∀ x, flat (e x) = f x
  al : ∀ x y, alike (e x) (e y) = true
  tp : ∀ x, (match e x with | .tuple (_ :: _) => true | _ => false) = true
  dp : ∀ x, deepD (e x) ≤ 8
theorem Flt.ok {e : α → D} {f : α → List Int} (h : Flt e f) : ∀ xs : List α, okN (xs.map e) = true
  | [] => rfl
  | x :: xs => by
    rw [List.map_cons]
    simp only [okN, Bool.and_eq_true, decide_eq_true_eq, List.all_eq_true]
    refine ⟨⟨h.tp x, h.dp x⟩, fun d hd => ?_⟩
    rw [← List.map_cons] at hd
    obtain ⟨y, _, rfl⟩ := List.mem_map.mp hd
    exact h.al x y
theorem op_sortL' (xs : List Int) : pSortAny [eL eI xs] = some (eL eI (sortI xs)) := by unfold pSortAny; rw [op_sortL]
/-- a list or a tuple -/
inductive SqE (e : α → D) : (List α → D) → Prop
  | l : SqE e (eL e)
  | t : SqE e (eT e)
theorem SqE.seq {e : α → D} {g : List α → D} (h : SqE e g) (xs : List α) : seqLT (g xs) = some (xs.map e) := by cases h <;> rfl
theorem op_notB (a b : Bool) : pNotN [eB a, eB b] = some (eB (!decide (a = b))) := rfl
end
end Sim
namespace Sim
open PySem PySem.Spec L2
theorem lim_inv {α : Type} {n : Nat} {m : Option α} {z : α} (h : lim n m = some z) : n ≤ 1000000 ∧ m = some z := by
  unfold lim at h
  split at h
  · rename_i c; exact ⟨c, h⟩
  · cases h
theorem x_get {α γ τ : Type} {vl : Bool} {p : Pt} {g : O} {e : τ → D} {o : α → Option τ} {q : α → Pt} {F : (α → Option γ) → Option γ} (h : X vl p g (fun x => eO e (o x)) q F) :
    X vl p g (fun w : α × τ => e w.2) (fun w => q w.1) (fun k => F fun x => (o x).bind fun z => k (x, z)) := fun k z e0 => by
  obtain ⟨x, e1, h⟩ := h _ z e0
  obtain ⟨y, e2, e3⟩ := Option.bind_eq_some_iff.mp e1
  refine ⟨(x, y), e3, fun s mm => ?_⟩
  obtain ⟨r, s', a1, a2, a3⟩ := h s mm
  have a3 : Rd vl (q x) r (eO e (o x)) := a3
  rw [e2] at a3
  exact ⟨r, s', a1, a2, a3⟩
theorem x_gt {α γ τ : Type} {vl : Bool} {p : Pt} {g : O} {v : α → D} {q : α → Pt} {F : (α → Option γ) → Option γ} (e : τ → D) (h : X vl p g v q F) (o : α → Option τ) (hv : ∀ x, v x = eO e (o x)) :
    X vl p g (fun w : α × τ => e w.2) (fun w => q w.1) (fun k => F fun x => (o x).bind fun z => k (x, z)) := by
  obtain rfl : v = fun x => eO e (o x) := funext hv
  exact x_get h
def getT (tab : List (Int × Int)) (k : Int) : Option Int := (tab.find? fun p => decide (p.1 = k)).map (·.2)
theorem op_getD (tab : List (Int × Int)) (k : Int) : pGetD tab [eI k] = some (eO eI (getT tab k)) := by
  show some (tabD tab k) = _
  unfold tabD getT
  cases tab.find? fun p => decide (p.1 = k) with
  | none => rfl
  | some p => rfl
section
variable {α : Type}
/-- the text of ints and tuples is plain -/
theorem sok_append {a b : Str} (ha : PyData.strOk a = true) (hb : PyData.strOk b = true) : PyData.strOk (a ++ b) = true := by
  unfold PyData.strOk at *
  rw [Str.cps_append, Array.all_append, ha, hb]; rfl
theorem sok_of (s : String) : PyData.strOk (Str.ofString s) = true := by
  unfold PyData.strOk
  rw [Str.ofString_eq_toList]
  rw [Array.all_eq_true_iff_forall_mem]
  intro c hc
  rw [List.mem_toArray, List.mem_map] at hc
  obtain ⟨d, _, rfl⟩ := hc
  have := d.valid
  rw [decide_eq_true_eq]
  rcases this with h | ⟨_, h⟩
  · have : d.toNat < 0xd800 := h
    omega
  · exact h
theorem sok_join (t : Str) (ht : PyData.strOk t = true) : ∀ ss : List Str, (∀ s ∈ ss, PyData.strOk s = true) → PyData.strOk (Str.join t ss) = true
  | [], _ => by rw [Str.join]; simp [PyData.strOk, Str.empty]
  | [x], h => by rw [Str.join]; exact h x (by simp)
  | x :: y :: r, h => by
    rw [Str.join]
    · exact sok_append (sok_append (h x (by simp)) ht) (sok_join t ht (y :: r) fun s hs => h s (List.mem_cons_of_mem _ hs))
    · simp
/-- a text without odd signs -/
abbrev Txt8 := { x : Str // PyData.strOk x = true }
abbrev eR : Txt8 → D := fun x => PyData.str x.1
theorem puR : Pu eR := fun _ => rfl
theorem eqR : Eqv 0 eR := ⟨fun x => x.2, fun _ => Nat.le_refl _, fun _ => rfl, fun x y => by
  show (x.1 == y.1) = decide (x = y)
  rw [Bool.eq_iff_iff, decide_eq_true_eq, beq_iff_eq, Subtype.ext_iff]⟩
end
end Sim
namespace Sim
open PySem PySem.Spec L2
section
variable {α β γ δ : Type}
end
end Sim
namespace Sim
open PySem PySem.Spec L2
abbrev PD := {d : D // pur d = true}
def eV (d : PD) : D := d.1
theorem puV : Pu eV := fun d => d.2
def toPD {α : Type} {e : α → D} (h : Pu e) (x : α) : PD := ⟨e x, h x⟩
def dP (o : Option D) : Option PD := o.bind fun d => if h : pur d = true then some ⟨d, h⟩ else none
theorem dP_ok {o : Option D} {z : PD} (h : dP o = some z) : o = some (eV z) := by
  obtain ⟨d, e, h⟩ := Option.bind_eq_some_iff.mp h
  split at h
  · cases h; exact e
  · cases h
def dB : Option D → Option Bool
  | some (.bool b) => some b
  | _ => none
theorem dB_ok {o : Option D} {z : Bool} (h : dB o = some z) : o = some (eB z) := by
  unfold dB at h
  split at h
  · cases h; rfl
  · cases h
def dI : Option D → Option Int
  | some (.int b) => some b
  | _ => none
theorem dI_ok {o : Option D} {z : Int} (h : dI o = some z) : o = some (eI z) := by
  unfold dI at h
  split at h
  · cases h; rfl
  · cases h
/-- a thing read as one of a known kind -/
def DnOk {τ : Type} (e : τ → D) (r : D → Option τ) : Prop := ∀ d z, r d = some z → d = e z
def rI : D → Option Int
  | .int i => some i
  | _ => none
def rU : D → Option Unit
  | .none => some ()
  | _ => none
def rV (d : D) : Option PD := if h : pur d = true then some ⟨d, h⟩ else none
def rT {τ : Type} (r : D → Option τ) : D → Option (List τ)
  | .tuple ds => mapO r ds
  | _ => none
def rP {τ σ : Type} (a : D → Option τ) (b : D → Option σ) : D → Option (τ × σ)
  | .tuple [x, y] => (a x).bind fun u => (b y).bind fun v => some (u, v)
  | _ => none
theorem dnI : DnOk eI rI := fun d z h => by cases d <;> simp [rI] at h; rw [h]
theorem dnV : DnOk eV rV := fun d z h => by
  unfold rV at h
  split at h
  · cases h; rfl
  · cases h
theorem mapO_dn {τ : Type} {e : τ → D} {r : D → Option τ} (h : DnOk e r) : ∀ {ds : List D} {zs : List τ}, mapO r ds = some zs → ds = zs.map e
  | [], zs, e0 => by cases e0; rfl
  | d :: ds, zs, e0 => by
    rw [mapO] at e0
    obtain ⟨z, e1, e0⟩ := Option.bind_eq_some_iff.mp e0
    obtain ⟨zs', e2, e0⟩ := Option.bind_eq_some_iff.mp e0
    cases e0
    rw [List.map_cons, h d z e1, mapO_dn h e2]
theorem dnT {τ : Type} {e : τ → D} {r : D → Option τ} (h : DnOk e r) : DnOk (eT e) (rT r) := fun d z e0 => by
  unfold rT at e0
  split at e0
  · rw [mapO_dn h e0]; rfl
  · cases e0
theorem dnP {τ σ : Type} {e : τ → D} {f : σ → D} {a : D → Option τ} {b : D → Option σ} (h : DnOk e a) (h2 : DnOk f b) : DnOk (eP e f) (rP a b) := fun d z e0 => by
  unfold rP at e0
  split at e0
  · obtain ⟨u, e1, e0⟩ := Option.bind_eq_some_iff.mp e0
    obtain ⟨v, e2, e0⟩ := Option.bind_eq_some_iff.mp e0
    cases e0
    rw [h _ _ e1, h2 _ _ e2]; rfl
  · cases e0
section
variable {α γ τ : Type}
theorem x_dn {vl : Bool} {p : Pt} {g : O} {v : α → D} {q : α → Pt} {F : (α → Option γ) → Option γ} (e : τ → D) {r : D → Option τ} (hr : DnOk e r) (h : X vl p g v q F) (o : α → PD) (hv : ∀ x, v x = eV (o x)) :
    X vl p g (fun w : α × τ => e w.2) (fun w => q w.1) (fun k => F fun x => (r (o x).1).bind fun z => k (x, z)) := fun k z e0 => by
  obtain ⟨x, e1, h⟩ := h _ z e0
  obtain ⟨y, e2, e3⟩ := Option.bind_eq_some_iff.mp e1
  refine ⟨(x, y), e3, fun s mm => ?_⟩
  obtain ⟨r', s', a1, a2, a3⟩ := h s mm
  have a3 : Rd vl (q x) r' (v x) := a3
  rw [hv x, show eV (o x) = (o x).1 from rfl, hr _ _ e2] at a3
  exact ⟨r', s', a1, a2, a3⟩
end
theorem okD_pur {d : D} (h : pur d = true) : okD d = true := by
  cases d with
  | dict kvs => simpa [pur, okD] using h
  | _ => rfl
theorem op_isiD (k : Kd) (d : PD) : pIsi k [eV d] = some (eB (isK k d.1)) := by
  show (if okD d.1 = true then _ else _) = _
  rw [if_pos (okD_pur d.2)]; rfl
/-- what is walked in a thing -/
def seqV (d : PD) : Option (List PD) := (itP [d.1]).bind fun ds => mapO rV ds
theorem it_V {d : PD} {ys : List PD} (h : seqV d = some ys) : itP [eV d] = some (ys.map eV) := by
  obtain ⟨ds, e1, e2⟩ := Option.bind_eq_some_iff.mp h
  rw [show eV d = d.1 from rfl, e1, mapO_dn dnV e2]
/-- its truth -/
theorem tr_isN (d : PD) : pIsN [eV d, .none] = some (eB (isN d.1)) := rfl
theorem tr_notN (d : PD) : pNotN [eV d, .none] = some (eB (!isN d.1)) := rfl
section
variable {α γ : Type}
theorem x_slP {β δ ε : Type} {p : Pt} {g : O} {lo hi : Option O} {v : α → D} {q : α → Pt} {F : (α → Option γ) → Option γ} {vl : Bool} {l : α → β → Option Int} {F1 : α → (β → Option γ) → Option γ}
    {u : α → β → δ → Option Int} {F2 : α → β → (δ → Option γ) → Option γ} {m : α → β → δ → Option ε} {rv : α → β → δ → ε → D} (h : X vl p g v q F) (h1 : ∀ x, XPr (q x) lo (l x) (F1 x)) (h2 : ∀ x y, XPr (q x) hi (u x y) (F2 x y)) (hs : ∀ x y w z, m x y w = some z → slD (v x) (l x y) (u x y w) = some (rv x y w z)) :
    X true p (oSl g lo hi) (fun w : α × β × δ × ε => rv w.1 w.2.1 w.2.2.1 w.2.2.2) (fun w => q w.1) (fun k => F fun x => F1 x fun y => F2 x y fun w => (m x y w).bind fun z => k (x, y, w, z)) := fun k z e => by
  obtain ⟨x, e1, h⟩ := h _ z e
  obtain ⟨y, e2, h1⟩ := h1 x _ z e1
  obtain ⟨w, e3, h2⟩ := h2 x y _ z e2
  obtain ⟨w3, e5, e6⟩ := Option.bind_eq_some_iff.mp e3
  refine ⟨(x, y, w, w3), e6, fun s m => ?_⟩
  obtain ⟨r, s1, a1, a2, a3⟩ := h s m
  obtain ⟨s2, b1, b2⟩ := h1 s1 a2
  obtain ⟨s3, c1, c2⟩ := h2 s2 b2
  exact ⟨.val (rv x y w w3), s3, by rw [ev_oSl, a1, ev_ok, ev_slK1, b1, ev_ok, ev_slK2, c1, ev_ok, ev_slK3, a3.rd c2, ev_slK4, hs x y w w3 e5, ev_slK5], c2, .inl rfl⟩
/-- a slice of a thing -/
theorem op_slV {d : PD} {l u : Option Int} {z : PD} (h : dP (slD d.1 l u) = some z) : slD (eV d) l u = some (eV z) := dP_ok h
end
end Sim
namespace Sim
open PySem PySem.Spec L2
section
variable {β γ : Type}
end
end Sim
namespace Sim
open PySem PySem.Spec L2
section
variable {α β γ δ σ ρ : Type} {X : Cx} {p : Pt}
end
end Sim
namespace Sim
open PySem PySem.Spec L2
section
variable {α β γ δ σ ρ τ : Type} {p : Pt}
end
end Sim
namespace Sim
open PySem PySem.Spec L2
section
variable {α β γ : Type} {p : Pt}
end
end Sim
namespace Sim
open PySem PySem.Spec L2
section
variable {α β γ : Type}
def cM (f : α → NestedKey) (e : β → D) (l : List (α × β)) : List (NestedKey × D) := l.map fun p => (f p.1, e p.2)
def eM (f : α → NestedKey) (e : β → D) (l : List (α × β)) : D := reN (cM f e l)
section
variable [DecidableEq α]
variable {ek : α → D} {f : α → NestedKey} {e : β → D}
end
end
section
variable {α β γ δ ρ : Type} {p : Pt} {gs : AL} {q : α → Pt} {F : (α → Option γ) → Option γ} {ks : List AK} {vs : α → List D} {i : Nat}
end
section
variable {α γ κ τ : Type} {p : Pt} {e : O} {q : α → Pt} {F : (α → Option γ) → Option γ} {vl : Bool} {i : Nat} {rest : S} {Q : γ → Fl → Sg → Prop} [DecidableEq κ]
end
end Sim
namespace Sim
open PySem PySem.Spec L2
def koI (i : Int) : Key := .inl i
section
variable {α β γ : Type}
def cK (f : α → Key) (e : β → D) (l : List (α × β)) : List (Key × D) := l.map fun p => (f p.1, e p.2)
def eK (f : α → Key) (e : β → D) (l : List (α × β)) : D := reK (cK f e l)
variable [DecidableEq α] {ek : α → D} {f : α → Key} {e : β → D}
end
section
variable {α β γ δ ρ : Type} {p : Pt} {gs : AL} {q : α → Pt} {F : (α → Option γ) → Option γ} {ks : List AK} {i : Nat}
theorem x_newK {κ τ : Type} {f : κ → Key} {e : τ → D} : X (γ := γ) true p oNewK (fun _ : Unit => eK f e []) (fun _ => p) (fun k => k ()) :=
  fun k z e0 => ⟨(), e0, fun s m => ⟨.val _, s, rfl, m, .inl rfl⟩⟩
end
section
variable {α γ κ τ : Type} {p : Pt} {e : O} {q : α → Pt} {F : (α → Option γ) → Option γ} {vl : Bool} {i : Nat} {rest : S} {Q : γ → Fl → Sg → Prop} [DecidableEq κ]
end
end Sim
namespace Sim
open PySem PySem.Spec L2
def frzV {τ : Type} {e : τ → D} (h : Pu e) (xs : List τ) : PD := ⟨.dict [(.none, .list (xs.map e))], pur_frz _⟩
def frdV : PD := ⟨.dict [(.none, .dict [])], rfl⟩
def lstV (d : PD) : Option (List PD) := match d.1 with
  | .tuple _ => seqV d
  | _ => none
theorem op_lstV {d : PD} {xs : List PD} (h : lstV d = some xs) : pList [eV d] = some (eL eV xs) := by
  obtain ⟨d, hd⟩ := d
  cases d with
  | tuple ds =>
    have h : seqV ⟨.tuple ds, hd⟩ = some xs := h
    have := it_V h
    have e2 : ds = xs.map eV := by
      have h2 : some ds = some (xs.map eV) := this
      cases h2; rfl
    have hp : purs ds = true := by
      have : pur (.tuple ds) = true := hd
      simpa [pur] using this
    show (if purs ds = true then some (PyData.list ds) else none) = some (eL eV xs)
    rw [if_pos hp, e2]; rfl
  | _ => cases h
section
variable {α β γ : Type} {p : Pt} {g : O} {q : α → Pt} {F : (α → Option γ) → Option γ}
theorem x_frz {τ : Type} {e : τ → D} {v : α → List τ} (h : Pu e) (hx : X true p g (fun x => eL e (v x)) q F) : X true p (oFrz g) (fun x => eV (frzV h (v x))) q F := fun k z e0 => by
  obtain ⟨x, e1, hx⟩ := hx _ z e0
  refine ⟨x, e1, fun s mm => ?_⟩
  obtain ⟨r, s2, b1, b2, b3⟩ := hx s mm
  have : r = .val (eL e (v x)) := by
    rcases b3 with rfl | ⟨c, _⟩
    · rfl
    · cases c
  subst this
  refine ⟨.val (eV (frzV h (v x))), s2, ?_, b2, .inl rfl⟩
  unfold oFrz
  rw [b1, bind_ok]
  show (if purs ((v x).map e) = true then _ else _) = _
  rw [if_pos (purs_pu h _)]
  rfl
theorem x_frd {κ τ : Type} {f : κ → Key} {e : τ → D} (hx : X true p g (fun _ : α => eK f e []) q F) : X true p (oFrd g) (fun _ => eV frdV) q F := fun k z e0 => by
  obtain ⟨x, e1, hx⟩ := hx _ z e0
  refine ⟨x, e1, fun s mm => ?_⟩
  obtain ⟨r, s2, b1, b2, b3⟩ := hx s mm
  have : r = .val (eK f e []) := by
    rcases b3 with rfl | ⟨c, _⟩
    · rfl
    · cases c
  subst this
  refine ⟨.val (eV frdV), s2, ?_, b2, .inl rfl⟩
  unfold oFrd
  rw [b1, bind_ok]
  rfl
end
end Sim
namespace Sim
open PySem PySem.Spec L2
def eF {τ : Type} (e : τ → D) (xs : List τ) : D := .dict [(.none, .list (xs.map e))]
section
variable {α β γ : Type} {p : Pt} {g : O} {ga : AL} {q : α → Pt} {F : (α → Option γ) → Option γ} {ks : List AK} {i : Nat}
end
end Sim
namespace Sim
open PySem PySem.Spec L2
section
variable {γ : Type} {p : Pt} {i : Nat}
end
end Sim
namespace Sim
open PySem PySem.Spec L2
/-- str of a thing of any kind -/
def strV (d : PD) : Option Txt8 := (strA d.1).bind fun t => if h : PyData.strOk t = true then some ⟨t, h⟩ else none
theorem op_strV {d : PD} {z : Txt8} (h : strV d = some z) : pStrA [eV d] = some (eR z) := by
  obtain ⟨t, e, h⟩ := Option.bind_eq_some_iff.mp h
  split at h
  · cases h
    show (strA d.1).map PyData.str = _
    rw [e]; rfl
  · cases h
end Sim
namespace Sim
open PySem PySem.Spec L2
def topS (i : Nat) : Stmt := PySem.Challenge.pw_stairlanes_k72_bars_of_anything.main.body.getD i (.Pass ⟨0, 0, 0, 0⟩)
abbrev s_compared : Stmt := topS 1
theorem sc_compared : FnScope ["net", "row", "lanes", "one", "other", "lesser", "greater", "lane"] ["net", "row"] (defScope s_compared) := ⟨rfl, rfl, rfl, by decide +kernel, rfl, by decide +kernel, by decide +kernel⟩
def b_compared : S :=
  (sSeq (sSet 2 (oPrim pList (aCons (oV 1) aNil))) (sSeq (sFor (lkM [0, 0]) (mkI itP (aCons (o2 pIx (oV 0) (oC (.int 1))) aNil)) (.tp [(.nm 3), (.nm 4)])
  (sSeq (sAsg (.ls [(.nm 5), (.nm 6)]) (oPrim pSortAny (aCons (oLst (aCons (o2 pIx (oV 2) (oV 3)) (aCons (o2 pIx (oV 2) (oV 4)) aNil))) aNil))) (sSeq (sSetIx 2 (oV 3) (oV 6)) (sSetIx 2 (oV 4) (oV 5))))) (sRet (lkM [0, 0]) (oPrim pTuple (aCons (oComp (mkI itP (aCons (o2 pIx (oV 0) (oC (.int 2))) aNil)) (.nm 7) tYesT (o2 pIx (oV 2) (oV 7)) [7]) aNil)))))
def f_compared : Fn := mkFn [0, 0] 8 b_compared
abbrev s_falls : Stmt := topS 2
theorem sc_falls : FnScope ["row", "one", "other"] ["row"] (defScope s_falls) := ⟨rfl, rfl, rfl, by decide +kernel, rfl, by decide +kernel, by decide +kernel⟩
def b_falls : S :=
  (sRet (lkM [0]) (oPrim pAll (aCons (oComp (mkI itZ (aCons (oV 0) (aCons (oSl (oV 0) (some (oC (.int 1))) none) aNil))) (.tp [(.nm 1), (.nm 2)]) tYesT (o2 pGe (oV 1) (oV 2)) [1, 2]) aNil)))
def f_falls : Fn := mkFn [0] 3 b_falls
abbrev s_layers : Stmt := topS 4
theorem sc_layers : FnScope ["net", "reached", "found", "one", "other", "layer"] ["net"] (defScope s_layers) := ⟨rfl, rfl, rfl, by decide +kernel, rfl, by decide +kernel, by decide +kernel⟩
def b_layers : S :=
  (sSeq (sSet 1 (o2 pMul (oLst (aCons (oC (.int 0)) aNil)) (o2 pIx (oV 0) (oC (.int 0))))) (sSeq (sSet 2 (oLst aNil)) (sSeq (sFor (lkM [0]) (mkI itP (aCons (o2 pIx (oV 0) (oC (.int 1))) aNil)) (.tp [(.nm 3), (.nm 4)])
  (sSeq (sSet 5 (o2 pAdd (oC (.int 1)) (oPrim pMax2 (aCons (o2 pIx (oV 1) (oV 3)) (aCons (o2 pIx (oV 1) (oV 4)) aNil))))) (sSeq (sSetIx 1 (oV 3) (oV 5)) (sSeq (sSetIx 1 (oV 4) (oV 5)) (sExpr (oMt mApp 2 (aCons (oV 5) aNil))))))) (sRet (lkM [0]) (oPrim pTuple (aCons (oV 2) aNil))))))
def f_layers : Fn := mkFn [0] 6 b_layers
abbrev s_depth : Stmt := topS 5
theorem sc_depth : FnScope ["net"] ["net"] (defScope s_depth) := ⟨rfl, rfl, rfl, by decide +kernel, rfl, by decide +kernel, by decide +kernel⟩
def b_depth : S :=
  (sRet (lkM [0]) (oPrim pMax1 (aCons (o2 pAdd (oTup (aCons (oC (.int 0)) aNil)) (oCall f_layers (aCons (oV 0) aNil))) aNil)))
def f_depth : Fn := mkFn [0] 1 b_depth
abbrev s_fork_totals : Stmt := topS 7
theorem sc_fork_totals : FnScope ["net", "counts", "lanes", "totals", "one", "other", "many"] ["net", "counts"] (defScope s_fork_totals) := ⟨rfl, rfl, rfl, by decide +kernel, rfl, by decide +kernel, by decide +kernel⟩
def b_fork_totals : S :=
  (sSeq (sSet 2 (oPrim pList (aCons (oV 1) aNil))) (sSeq (sSet 3 (oLst aNil)) (sSeq (sFor (lkM [0, 0]) (mkI itP (aCons (o2 pIx (oV 0) (oC (.int 1))) aNil)) (.tp [(.nm 4), (.nm 5)])
  (sSeq (sSet 6 (o2 pAdd (o2 pIx (oV 2) (oV 4)) (o2 pIx (oV 2) (oV 5)))) (sSeq (sExpr (oMt mApp 3 (aCons (oV 6) aNil))) (sSeq (sSetIx 2 (oV 4) (o2 pDiv (o2 pAdd (oV 6) (oC (.int 1))) (oC (.int 2)))) (sSetIx 2 (oV 5) (o2 pDiv (oV 6) (oC (.int 2)))))))) (sRetT (lkM [0, 0]) (aCons (oV 3) (aCons (oV 2) aNil))))))
def f_fork_totals : Fn := mkFn [0, 0] 7 b_fork_totals
abbrev s_ends_of : Stmt := topS 8
theorem sc_ends_of : FnScope ["net", "counts", "totals", "lanes", "lane"] ["net", "counts"] (defScope s_ends_of) := ⟨rfl, rfl, rfl, by decide +kernel, rfl, by decide +kernel, by decide +kernel⟩
def b_ends_of : S :=
  (sSeq (sAsg (.tp [(.nm 2), (.nm 3)]) (oCall f_fork_totals (aCons (oV 0) (aCons (oV 1) aNil)))) (sRet (lkM [0, 0]) (oPrim pTuple (aCons (oComp (mkI itP (aCons (o2 pIx (oV 0) (oC (.int 2))) aNil)) (.nm 4) tYesT (o2 pIx (oV 3) (oV 4)) [4]) aNil))))
def f_ends_of : Fn := mkFn [0, 0] 5 b_ends_of
abbrev s_shares : Stmt := topS 10
theorem sc_shares : FnScope ["net", "many", "found", "lane", "counts"] ["net"] (defScope s_shares) := ⟨rfl, rfl, rfl, by decide +kernel, rfl, by decide +kernel, by decide +kernel⟩
def b_shares : S :=
  (sSeq (sSet 1 (o2 pShl (oC (.int 1)) (oCall f_depth (aCons (oV 0) aNil)))) (sSeq (sSet 2 (oLst aNil)) (sSeq (sFor (lkM [0]) (mkI itR1 (aCons (o2 pIx (oV 0) (oC (.int 0))) aNil)) (.nm 3)
  (sSeq (sSet 4 (o2 pAdd (o2 pAdd (o2 pMul (oTup (aCons (oC (.int 0)) aNil)) (oV 3)) (oTup (aCons (oV 1) aNil))) (o2 pMul (oTup (aCons (oC (.int 0)) aNil)) (o2 pSub (o2 pSub (o2 pIx (oV 0) (oC (.int 0))) (oC (.int 1))) (oV 3))))) (sExpr (oMt mApp 2 (aCons (oCall f_ends_of (aCons (oV 0) (aCons (oV 4) aNil))) aNil))))) (sRet (lkM [0]) (oPrim pTuple (aCons (oV 2) aNil))))))
def f_shares : Fn := mkFn [0] 5 b_shares
abbrev s_least_depth : Stmt := topS 14
theorem sc_least_depth : FnScope ["lanes"] ["lanes"] (defScope s_least_depth) := ⟨rfl, rfl, rfl, by decide +kernel, rfl, by decide +kernel, by decide +kernel⟩
def b_least_depth : S :=
  (sRet (lkM [0]) (o1 (pGetD [((1 : Int), (0 : Int)), ((2 : Int), (1 : Int)), ((4 : Int), (3 : Int)), ((8 : Int), (6 : Int)), ((16 : Int), (9 : Int))]) (oV 0)))
def f_least_depth : Fn := mkFn [0] 1 b_least_depth
abbrev s_is_shallow : Stmt := topS 15
theorem sc_is_shallow : FnScope ["net", "least"] ["net"] (defScope s_is_shallow) := ⟨rfl, rfl, rfl, by decide +kernel, rfl, by decide +kernel, by decide +kernel⟩
def b_is_shallow : S :=
  (sSeq (sSet 1 (oCall f_least_depth (aCons (o2 pIx (oV 0) (oC (.int 0))) aNil))) (sRet (lkM [0]) (oAnd (o2 pNotN (oV 1) (oC .none)) (o2 pLt (oCall f_depth (aCons (oV 0) aNil)) (oV 1)))))
def f_is_shallow : Fn := mkFn [0] 2 b_is_shallow
abbrev s_share_bar : Stmt := topS 16
theorem sc_share_bar : FnScope ["net", "lane", "row", "end", "many"] ["net"] (defScope s_share_bar) := ⟨rfl, rfl, rfl, by decide +kernel, rfl, by decide +kernel, by decide +kernel⟩
def b_share_bar : S :=
  (sSeq (sFor (lkM [0]) (mkI itE (aCons (oCall f_shares (aCons (oV 0) aNil)) aNil)) (.tp [(.nm 1), (.nm 2)])
  (sFor (lkp [2] (lkM [0])) (mkI itE (aCons (oV 2) aNil)) (.tp [(.nm 3), (.nm 4)])
  (sIf (tst (o2 pNe (o2 pMul (o2 pIx (oV 0) (oC (.int 0))) (oV 4)) (o2 pShl (oC (.int 1)) (oCall f_depth (aCons (oV 0) aNil)))))
  (sRet (lkp [2] (lkM [0])) (oTup (aCons (oC (.str "share")) (aCons (oV 1) (aCons (oV 3) aNil)))))
  sSkip))) (sRet (lkM [0]) (oC .none)))
def f_share_bar : Fn := mkFn [0] 5 b_share_bar
abbrev s_bits_of : Stmt := topS 17
theorem sc_bits_of : FnScope ["number", "many", "place"] ["number", "many"] (defScope s_bits_of) := ⟨rfl, rfl, rfl, by decide +kernel, rfl, by decide +kernel, by decide +kernel⟩
def b_bits_of : S :=
  (sRet (lkM [0, 0]) (oPrim pTuple (aCons (oComp (mkI itR1 (aCons (oV 1) aNil)) (.nm 2) tYesT (o2 pAnd (o2 pShr (oV 0) (o2 pSub (o2 pSub (oV 1) (oC (.int 1))) (oV 2))) (oC (.int 1))) [2]) aNil)))
def f_bits_of : Fn := mkFn [0, 0] 3 b_bits_of
abbrev s_row_bar : Stmt := topS 18
theorem sc_row_bar : FnScope ["net", "number", "row"] ["net"] (defScope s_row_bar) := ⟨rfl, rfl, rfl, by decide +kernel, rfl, by decide +kernel, by decide +kernel⟩
def b_row_bar : S :=
  (sSeq (sFor (lkM [0]) (mkI itR1 (aCons (o2 pShl (oC (.int 1)) (o2 pIx (oV 0) (oC (.int 0)))) aNil)) (.nm 1)
  (sSeq (sSet 2 (oCall f_bits_of (aCons (oV 1) (aCons (o2 pIx (oV 0) (oC (.int 0))) aNil)))) (sIf (tNot (tstA (oCall f_falls (aCons (oCall f_compared (aCons (oV 0) (aCons (oV 2) aNil))) aNil))))
  (sRet (lkM [0]) (oTup (aCons (oC (.str "row")) (aCons (oV 2) aNil))))
  sSkip))) (sRet (lkM [0]) (oC .none)))
def f_row_bar : Fn := mkFn [0] 3 b_row_bar
abbrev s_bar : Stmt := topS 19
theorem sc_bar : FnScope ["net", "found"] ["net"] (defScope s_bar) := ⟨rfl, rfl, rfl, by decide +kernel, rfl, by decide +kernel, by decide +kernel⟩
def b_bar : S :=
  (sSeq (sIf (tst (o2 pIsN (oCall f_least_depth (aCons (o2 pIx (oV 0) (oC (.int 0))) aNil)) (oC .none)))
  (sRet (lkM [0]) (oTup (aCons (oC (.str "lanes")) aNil)))
  sSkip) (sSeq (sIf (tstA (oCall f_is_shallow (aCons (oV 0) aNil)))
  (sRet (lkM [0]) (oTup (aCons (oC (.str "depth")) aNil)))
  sSkip) (sSeq (sSet 1 (oCall f_share_bar (aCons (oV 0) aNil))) (sSeq (sIf (tAnd (tst (o2 pIsN (oV 1) (oC .none))) (tst (o2 pLe (o2 pIx (oV 0) (oC (.int 0))) (oC (.int 8)))))
  (sSet 1 (oCall f_row_bar (aCons (oV 0) aNil)))
  sSkip) (sRet (lkM [0]) (oV 1))))))
def f_bar : Fn := mkFn [0] 2 b_bar
abbrev s_is_below : Stmt := topS 21
theorem sc_is_below : FnScope ["thing", "most"] ["thing", "most"] (defScope s_is_below) := ⟨rfl, rfl, rfl, by decide +kernel, rfl, by decide +kernel, by decide +kernel⟩
def b_is_below : S :=
  (sRet (lkM [0, 0]) (oAnd (o1 (pIsi .int) (oV 0)) (oAnd (oNot (o1 (pIsi .bool) (oV 0))) (oChain pLe pLt (oC (.int 0)) (oV 0) (oV 1)))))
def f_is_below : Fn := mkFn [0, 0] 2 b_is_below
abbrev s_is_share_bar : Stmt := topS 22
theorem sc_is_share_bar : FnScope ["net", "rest", "one", "lane", "end"] ["net", "rest"] (defScope s_is_share_bar) := ⟨rfl, rfl, rfl, by decide +kernel, rfl, by decide +kernel, by decide +kernel⟩
def b_is_share_bar : S :=
  (sSeq (sIf (tOr (tst (o2 pNe (oPrim pLen (aCons (oV 1) aNil)) (oC (.int 2)))) (tNot (tstA (oPrim pAll (aCons (oComp (mkI itP (aCons (oV 1) aNil)) (.nm 2) tYesT (oCall f_is_below (aCons (oV 2) (aCons (o2 pIx (oV 0) (oC (.int 0))) aNil))) [2]) aNil)))))
  (sRet (lkM [0, 0]) (oC (.bool false)))
  sSkip) (sSeq (sAsg (.tp [(.nm 3), (.nm 4)]) (oV 1)) (sRet (lkM [0, 0]) (o2 pNe (o2 pMul (o2 pIx (oV 0) (oC (.int 0))) (o2 pIx (o2 pIx (oCall f_shares (aCons (oV 0) aNil)) (oV 3)) (oV 4))) (o2 pShl (oC (.int 1)) (oCall f_depth (aCons (oV 0) aNil)))))))
def f_is_share_bar : Fn := mkFn [0, 0] 5 b_is_share_bar
abbrev s_is_row_bar : Stmt := topS 23
theorem sc_is_row_bar : FnScope ["net", "rest", "one"] ["net", "rest"] (defScope s_is_row_bar) := ⟨rfl, rfl, rfl, by decide +kernel, rfl, by decide +kernel, by decide +kernel⟩
def b_is_row_bar : S :=
  (sSeq (sIf (tOr (tst (o2 pNe (oPrim pLen (aCons (oV 1) aNil)) (oC (.int 1)))) (tOr (tNot (tstA (o1 (pIsi .tup) (o2 pIx (oV 1) (oC (.int 0)))))) (tst (o2 pNe (oPrim pLen (aCons (o2 pIx (oV 1) (oC (.int 0))) aNil)) (o2 pIx (oV 0) (oC (.int 0)))))))
  (sRet (lkM [0, 0]) (oC (.bool false)))
  sSkip) (sRet (lkM [0, 0]) (oAnd (oPrim pAll (aCons (oComp (mkI itP (aCons (o2 pIx (oV 1) (oC (.int 0))) aNil)) (.nm 2) tYesT (oCall f_is_below (aCons (oV 2) (aCons (oC (.int 2)) aNil))) [2]) aNil)) (oNot (oCall f_falls (aCons (oCall f_compared (aCons (oV 0) (aCons (o2 pIx (oV 1) (oC (.int 0))) aNil))) aNil))))))
def f_is_row_bar : Fn := mkFn [0, 0] 3 b_is_row_bar
abbrev s_shows_bar : Stmt := topS 24
theorem sc_shows_bar : FnScope ["net", "thing", "word", "rest"] ["net", "thing"] (defScope s_shows_bar) := ⟨rfl, rfl, rfl, by decide +kernel, rfl, by decide +kernel, by decide +kernel⟩
def b_shows_bar : S :=
  (sSeq (sIf (tOr (tNot (tstA (o1 (pIsi .tup) (oV 1)))) (tOr (tst (o2 pEq (oPrim pLen (aCons (oV 1) aNil)) (oC (.int 0)))) (tNot (tstA (o1 (pIsi .str) (o2 pIx (oV 1) (oC (.int 0))))))))
  (sRet (lkM [0, 0]) (oC (.bool false)))
  sSkip) (sSeq (sPar [2, 3] (aCons (o2 pIx (oV 1) (oC (.int 0))) (aCons (oSl (oV 1) (some (oC (.int 1))) none) aNil))) (sSeq (sIf (tst (o2 pEq (oV 2) (oC (.str "lanes"))))
  (sRet (lkM [0, 0]) (oAnd (o2 pEqE (oV 3) (oTup aNil)) (o2 pIsN (oCall f_least_depth (aCons (o2 pIx (oV 0) (oC (.int 0))) aNil)) (oC .none))))
  sSkip) (sSeq (sIf (tst (o2 pEq (oV 2) (oC (.str "depth"))))
  (sRet (lkM [0, 0]) (oAnd (o2 pEqE (oV 3) (oTup aNil)) (oCall f_is_shallow (aCons (oV 0) aNil))))
  sSkip) (sSeq (sIf (tst (o2 pEq (oV 2) (oC (.str "share"))))
  (sRet (lkM [0, 0]) (oCall f_is_share_bar (aCons (oV 0) (aCons (oV 3) aNil))))
  sSkip) (sRet (lkM [0, 0]) (oAnd (o2 pEq (oV 2) (oC (.str "row"))) (oCall f_is_row_bar (aCons (oV 0) (aCons (oV 3) aNil))))))))))
def f_shows_bar : Fn := mkFn [0, 0] 4 b_shows_bar
abbrev s__law_cell_at : Stmt := topS 26
theorem sc__law_cell_at : FnScope ["_law_script", "_law_k"] ["_law_script", "_law_k"] (defScope s__law_cell_at) := ⟨rfl, rfl, rfl, by decide +kernel, rfl, by decide +kernel, by decide +kernel⟩
def b__law_cell_at : S :=
  (sSeq (sIf (tst (o2 pLt (oV 1) (oPrim pLen (aCons (oV 0) aNil))))
  (sRet (lkM [0, 0]) (o2 pIx (oV 0) (oV 1)))
  sSkip) (sRet (lkM [0, 0]) (oC (.int 0))))
def f__law_cell_at : Fn := mkFn [0, 0] 2 b__law_cell_at
abbrev s__law_left : Stmt := topS 27
theorem sc__law_left : FnScope ["_law_script", "_law_k", "_law_cell", "_law_seed"] ["_law_script", "_law_k"] (defScope s__law_left) := ⟨rfl, rfl, rfl, by decide +kernel, rfl, by decide +kernel, by decide +kernel⟩
def b__law_left : S :=
  (sSeq (sSet 2 (oCall f__law_cell_at (aCons (oV 0) (aCons (o2 pMod (oV 1) (oPrim pMax2 (aCons (oC (.int 1)) (aCons (oPrim pLen (aCons (oV 0) aNil)) aNil)))) aNil)))) (sSeq (sSet 3 (o2 pMod (o2 pMul (o2 pAdd (o2 pAdd (o2 pMod (oV 2) (oC (.int 2147483629))) (o2 pMul (o2 pMul (oC (.int 7919)) (oV 1)) (oV 1))) (oC (.int 11))) (oC (.int 48271))) (oC (.int 2147483647)))) (sRet (lkM [0, 0]) (oLst (aCons (o2 pMod (o2 pMul (oV 2) (oPrim pInt (aCons (o2 pGe (oV 2) (o2 pPow (oC (.int 10)) (oC (.int 18)))) aNil))) (oTen 4000)) (aCons (oV 3) aNil))))))
def f__law_left : Fn := mkFn [0, 0] 4 b__law_left
abbrev s__law_pick : Stmt := topS 28
theorem sc__law_pick : FnScope ["_law_left_here", "_law_many", "_law_digit"] ["_law_left_here", "_law_many"] (defScope s__law_pick) := ⟨rfl, rfl, rfl, by decide +kernel, rfl, by decide +kernel, by decide +kernel⟩
def b__law_pick : S :=
  (sSeq (sIf (tst (o2 pGt (o2 pIx (oV 0) (oC (.int 0))) (oC (.int 0))))
  (sSeq (sSet 2 (o2 pMod (o2 pIx (oV 0) (oC (.int 0))) (oV 1))) (sSeq (sSetIx 0 (oC (.int 0)) (o2 pDiv (o2 pIx (oV 0) (oC (.int 0))) (oV 1))) (sRet (lkM [0, 0]) (oV 2))))
  sSkip) (sSeq (sSetIx 0 (oC (.int 1)) (o2 pMod (o2 pAdd (o2 pMul (o2 pIx (oV 0) (oC (.int 1))) (oC (.int 48271))) (oC (.int 12345))) (oC (.int 2147483647)))) (sRet (lkM [0, 0]) (o2 pMod (o2 pMod (o2 pMul (o2 pIx (oV 0) (oC (.int 1))) (o2 pIx (oV 0) (oC (.int 1)))) (oC (.int 1999999973))) (oV 1)))))
def f__law_pick : Fn := mkFn [0, 0] 3 b__law_pick
abbrev s__law_net : Stmt := topS 29
theorem sc__law_net : FnScope ["_law_left_here", "_law_most", "_law_lanes", "_law_forks", "_law_k", "_law_one", "_law_fork", "_law_way", "_law_ends", "_law_lane"] ["_law_left_here", "_law_most"] (defScope s__law_net) := ⟨rfl, rfl, rfl, by decide +kernel, rfl, by decide +kernel, by decide +kernel⟩
def b__law_net : S :=
  (sSeq (sSet 2 (o2 pIx (oLst (aCons (oC (.int 2)) (aCons (oC (.int 3)) (aCons (oC (.int 4)) (aCons (oC (.int 2)) (aCons (oC (.int 4)) (aCons (oC (.int 5)) (aCons (oC (.int 8)) (aCons (oC (.int 6)) (aCons (oC (.int 1)) (aCons (oC (.int 16)) aNil))))))))))) (oCall f__law_pick (aCons (oV 0) (aCons (oC (.int 10)) aNil))))) (sSeq (sSet 3 (oLst aNil)) (sSeq (sFor (lkM [0, 0]) (mkI itR1 (aCons (o2 pMul (o2 pIx (oLst (aCons (oC (.int 0)) (aCons (oC (.int 1)) (aCons (oC (.int 2)) (aCons (oC (.int 3)) (aCons (oC (.int 5)) (aCons (oC (.int 8)) (aCons (oC (.int 12)) (aCons (oV 1) aNil))))))))) (oCall f__law_pick (aCons (oV 0) (aCons (oC (.int 8)) aNil)))) (oPrim pInt (aCons (o2 pGt (oV 2) (oC (.int 1))) aNil))) aNil)) (.nm 4)
  (sSeq (sSet 5 (oCall f__law_pick (aCons (oV 0) (aCons (oV 2) aNil)))) (sSeq (sSet 6 (oTup (aCons (oV 5) (aCons (o2 pMod (o2 pAdd (o2 pAdd (oV 5) (oC (.int 1))) (oCall f__law_pick (aCons (oV 0) (aCons (oPrim pMax2 (aCons (oC (.int 1)) (aCons (o2 pSub (oV 2) (oC (.int 1))) aNil))) aNil)))) (oV 2)) aNil)))) (sSeq (sSet 7 (oCall f__law_pick (aCons (oV 0) (aCons (oC (.int 6)) aNil)))) (sSeq (sIf (tAnd (tst (o2 pNe (oV 3) (oLst aNil))) (tst (o2 pLt (oV 7) (oC (.int 2)))))
  (sSet 6 (o2 pIx (oLst (aCons (o2 pIx (oV 3) (o1 pNeg (oC (.int 1)))) (aCons (oSt (o2 pIx (oV 3) (o1 pNeg (oC (.int 1)))) none none (some (o1 pNeg (oC (.int 1))))) aNil))) (oV 7)))
  sSkip) (sExpr (oMt mApp 3 (aCons (oV 6) aNil)))))))) (sSeq (sSet 8 (oLst aNil)) (sSeq (sFor (lkM [0, 0]) (mkI itR1 (aCons (oV 2) aNil)) (.nm 9)
  (sExpr (oMt mIns 8 (aCons (oCall f__law_pick (aCons (oV 0) (aCons (o2 pAdd (oPrim pLen (aCons (oV 8) aNil)) (oC (.int 1))) aNil))) (aCons (oV 9) aNil))))) (sRet (lkM [0, 0]) (oTup (aCons (oV 2) (aCons (oPrim pTuple (aCons (oV 3) aNil)) (aCons (o2 pIx (oLst (aCons (oPrim pTuple (aCons (oV 8) aNil)) (aCons (oPrim (pTupleRg) (aCons (oV 2) aNil)) aNil))) (oCall f__law_pick (aCons (oV 0) (aCons (oC (.int 2)) aNil)))) aNil))))))))))
def f__law_net : Fn := mkFn [0, 0] 10 b__law_net
abbrev s__law_odd : Stmt := topS 30
theorem sc__law_odd : FnScope ["_law_lanes", "_law_row", "_law_some"] ["_law_lanes"] (defScope s__law_odd) := ⟨rfl, rfl, rfl, by decide +kernel, rfl, by decide +kernel, by decide +kernel⟩
def b__law_odd : S :=
  (sSeq (sSet 1 (o2 pMul (oTup (aCons (oC (.int 0)) aNil)) (oV 0))) (sSeq (sSet 2 (oLst (aCons (oC .none) (aCons (oC (.bool true)) (aCons (oC (.int 0)) (aCons (oC (.str "")) (aCons (oC (.str "lanes")) (aCons (oC (.str "depth")) (aCons (oFrz (oLst aNil)) (aCons (oFrd oNewK) (aCons (oTup aNil) (aCons (oTup (aCons (oC .none) aNil)) (aCons (oTup (aCons (oC (.int 0)) aNil)) (aCons (oTup (aCons (oC (.str "lanes")) (aCons (oC (.int 0)) aNil))) (aCons (oTup (aCons (oC (.str "depth")) (aCons (oC .none) aNil))) aNil))))))))))))))) (sSeq (sSet 2 (o2 pAdd (oV 2) (oLst (aCons (oTup (aCons (oTup (aCons (oC (.str "lanes")) aNil)) aNil)) (aCons (oFrz (oLst (aCons (oC (.str "lanes")) aNil))) (aCons (oFrz (oLst (aCons (oC (.str "depth")) aNil))) (aCons (oTup (aCons (oC (.str "Lanes")) aNil)) (aCons (oTup (aCons (oC (.str "share")) aNil)) (aCons (oTup (aCons (oC (.str "share")) (aCons (oC (.int 0)) aNil))) (aCons (oTup (aCons (oC (.str "share")) (aCons (oC (.int 0)) (aCons (oV 0) aNil)))) aNil)))))))))) (sSeq (sExpr (oMt mApp 2 (aCons (oTup (aCons (oC (.str "share")) (aCons (o1 pNeg (oC (.int 1))) (aCons (oC (.int 0)) aNil)))) aNil))) (sSeq (sSet 2 (o2 pAdd (oV 2) (oLst (aCons (oTup (aCons (oC (.str "share")) (aCons (oV 0) (aCons (oC (.int 0)) aNil)))) (aCons (oTup (aCons (oC (.str "share")) (aCons (oC (.bool true)) (aCons (oC (.int 0)) aNil)))) (aCons (oTup (aCons (oC (.str "share")) (aCons (oC (.str "0")) (aCons (oC (.int 0)) aNil)))) (aCons (oTup (aCons (oC (.str "share")) (aCons (oC (.int 0)) (aCons (oC .none) aNil)))) (aCons (oTup (aCons (oC (.str "share")) (aCons (oC (.int 0)) (aCons (oC (.int 0)) (aCons (oC (.int 0)) aNil))))) aNil)))))))) (sSeq (sSet 2 (o2 pAdd (oV 2) (oLst (aCons (oTup (aCons (oC (.str "row")) aNil)) (aCons (oTup (aCons (oC (.str "row")) (aCons (o2 pAdd (oV 1) (oTup (aCons (oC (.int 0)) aNil))) aNil))) (aCons (oTup (aCons (oC (.str "row")) (aCons (oSl (oV 1) (some (oC (.int 1))) none) aNil))) (aCons (oTup (aCons (oC (.str "row")) (aCons (oFrz (oPrim pList (aCons (oV 1) aNil))) aNil))) (aCons (oTup (aCons (oC (.str "row")) (aCons (oV 1) (aCons (oC (.int 0)) aNil)))) (aCons (oTup (aCons (oC (.str "row")) (aCons (oC (.int 0)) aNil))) aNil))))))))) (sSeq (sSet 2 (o2 pAdd (oV 2) (oLst (aCons (oTup (aCons (oC (.str "row")) (aCons (o2 pAdd (oTup (aCons (oC (.int 2)) aNil)) (oSl (oV 1) (some (oC (.int 1))) none)) aNil))) (aCons (oTup (aCons (oC (.str "row")) (aCons (o2 pAdd (oTup (aCons (oC (.bool true)) aNil)) (oSl (oV 1) (some (oC (.int 1))) none)) aNil))) (aCons (oTup (aCons (oC (.str "row")) (aCons (o2 pAdd (oTup (aCons (oC .none) aNil)) (oSl (oV 1) (some (oC (.int 1))) none)) aNil))) (aCons (oTup (aCons (oC (.str "row")) (aCons (oC .none) aNil))) aNil))))))) (sRet (lkM [0]) (o2 pAdd (oV 2) (oLst (aCons (oTup (aCons (oC (.str "row")) (aCons (o2 pAdd (oSl (oV 1) (some (oC (.int 1))) none) (oTup (aCons (oC (.str "1")) aNil))) aNil))) (aCons (oTup (aCons (oC (.str "row")) (aCons (o2 pAdd (oSl (oV 1) (some (oC (.int 1))) none) (oTup (aCons (o1 pNeg (oC (.int 1))) aNil))) aNil))) (aCons (oTup (aCons (oC (.str "none")) aNil)) (aCons (oTup (aCons (oC (.str "bar")) (aCons (oC (.int 0)) (aCons (oC (.int 0)) aNil)))) (aCons (oTup (aCons (oFrz (oLst aNil)) (aCons (oC (.int 0)) (aCons (oC (.int 0)) aNil)))) aNil)))))))))))))))
def f__law_odd : Fn := mkFn [0] 3 b__law_odd
abbrev s_law : Stmt := topS 31
theorem sc_law : FnScope ["_law_script", "_law_k", "_law_left_here", "_law_net_here", "_law_told", "_law_things", "_law_thing", "_law_text"] ["_law_script"] (defScope s_law) := ⟨rfl, rfl, rfl, by decide +kernel, rfl, by decide +kernel, by decide +kernel⟩
def b_law : S :=
  (sSeq (sFor (lkM [0]) (mkI itR1 (aCons (oPrim pMax2 (aCons (oC (.int 6)) (aCons (oPrim pMin2 (aCons (oC (.int 20)) (aCons (oPrim pLen (aCons (oV 0) aNil)) aNil))) aNil))) aNil)) (.nm 1)
  (sSeq (sSet 2 (oCall f__law_left (aCons (oV 0) (aCons (oV 1) aNil)))) (sSeq (sSet 3 (oCall f__law_net (aCons (oV 2) (aCons (oC (.int 20)) aNil)))) (sSeq (sSet 4 (oCall f_bar (aCons (oV 3) aNil))) (sSeq (sIf (tAnd (tst (o2 pNotN (oV 4) (oC .none))) (tst (o2 pNotN (oCall f_shows_bar (aCons (oV 3) (aCons (oV 4) aNil))) (oC (.bool true)))))
  (sRet (lkM [0]) (oC (.bool false)))
  sSkip) (sSeq (sSet 5 (oCall f__law_odd (aCons (o2 pIx (oV 3) (oC (.int 0))) aNil))) (sSeq (sIf (tst (o2 pNotN (oV 4) (oC .none)))
  (sSet 5 (o2 pAdd (oV 5) (oLst (aCons (oFrz (oPrim pList (aCons (oV 4) aNil))) (aCons (oTup (aCons (oV 4) aNil)) (aCons (o2 pAdd (oV 4) (oTup (aCons (oC (.int 0)) aNil))) (aCons (o2 pAdd (oV 4) (oSl (oV 4) none (some (oC (.int 1))))) (aCons (oFrz (oLst (aCons (oV 4) aNil))) (aCons (oSl (oV 4) none (some (oC (.int 0)))) aNil)))))))))
  sSkip) (sSeq (sFor (lkp [5] (lkM [0])) (mkI itP (aCons (oV 5) aNil)) (.nm 6)
  (sSeq (sSet 7 (oPrim pStrA (aCons (oV 6) aNil))) (sIf (tOr (tst (o2 pNotN (oCall f_shows_bar (aCons (oV 3) (aCons (oV 6) aNil))) (oC (.bool false)))) (tst (o2 pNe (oPrim pStrA (aCons (oV 6) aNil)) (oV 7))))
  (sRet (lkp [5] (lkM [0])) (oC (.bool false)))
  sSkip))) (sIf (tAnd (tst (o2 pNotN (oV 4) (oC .none))) (tst (o2 pNotN (oCall f_shows_bar (aCons (oV 3) (aCons (oV 4) aNil))) (oC (.bool true)))))
  (sRet (lkM [0]) (oC (.bool false)))
  sSkip))))))))) (sRet (lkM [0]) (oC (.bool true))))
def f_law : Fn := mkFn [0] 8 b_law
def p_compared (net : (Int × (List (Int × Int)) × (List Int))) (row : (List Int)) : Option (List Int) :=
  ((lpN (fun (lanes : ((List Int))) (y10 : (Int × Int)) => ((atI lanes y10.1)).bind fun t14 => ((atI lanes y10.2)).bind fun t17 => ((un2 (sortI [t14, t17]))).bind fun t21 => ((setT lanes y10.1 t21.2)).bind fun lanes => ((setT lanes y10.2 t21.1)).bind fun lanes => some lanes) net.2.1 row)).bind fun lanes => lim (net.2.2.length) (((mapO (fun lane => ((atI lanes lane)).bind fun t39 => some t39) net.2.2)).bind fun t41 => some t41)
def p_falls (row : (List Int)) : Option Bool :=
  lim ((List.zip row (cutL row (some (1 : Int)) none)).length) (some (List.all (List.map (fun y => (decide (y.2 ≤ y.1))) (List.zip row (cutL row (some (1 : Int)) none))) id))
def p_layers (net : (Int × (List (Int × Int)) × (List Int))) : Option (List Int) :=
  ((repT [(0 : Int)] net.1)).bind fun reached => (some ([] : (List Int))).bind fun found => ((lpN (fun (s18 : ((List Int) × (List Int))) (y19 : (Int × Int)) => ((atI s18.1 y19.1)).bind fun t24 => ((atI s18.1 y19.2)).bind fun t27 => (some ((1 : Int) + (max t24 t27))).bind fun layer => ((setT s18.1 y19.1 layer)).bind fun reached => ((setT reached y19.2 layer)).bind fun reached => ((appT s18.2 layer)).bind fun found => some (reached, found)) net.2.1 (reached, found))).bind fun s18 => some s18.2
def p_depth (net : (Int × (List (Int × Int)) × (List Int))) : Option Int :=
  ((p_layers  net)).bind fun t6 => ((catT [(0 : Int)] t6)).bind fun t8 => ((maxO t8)).bind fun t10 => some t10
def p_fork_totals (net : (Int × (List (Int × Int)) × (List Int))) (counts : (List Int)) : Option ((List Int) × (List Int)) :=
  (some ([] : (List Int))).bind fun totals => ((lpN (fun (s13 : ((List Int) × (List Int))) (y14 : (Int × Int)) => ((atI s13.1 y14.1)).bind fun t18 => ((atI s13.1 y14.2)).bind fun t21 => (some (t18 + t21)).bind fun many => ((appT s13.2 many)).bind fun totals => ((setT s13.1 y14.1 ((many + (1 : Int)) / (2 : Int)))).bind fun lanes => ((setT lanes y14.2 (many / (2 : Int)))).bind fun lanes => some (lanes, totals)) net.2.1 (counts, totals))).bind fun s13 => some (s13.2, s13.1)
def p_ends_of (net : (Int × (List (Int × Int)) × (List Int))) (counts : (List Int)) : Option (List Int) :=
  ((p_fork_totals  net counts)).bind fun t5 => lim (net.2.2.length) (((mapO (fun lane => ((atI t5.2 lane)).bind fun t15 => some t15) net.2.2)).bind fun t17 => some t17)
def p_shares (net : (Int × (List (Int × Int)) × (List Int))) : Option (List (List Int)) :=
  ((p_depth  net)).bind fun t4 => ((shlT (1 : Int) t4)).bind fun many => (some ([] : (List (List Int)))).bind fun found => ((rngO net.1)).bind fun t15 => ((lpN (fun (found : ((List (List Int)))) (lane : Int) => ((repT [(0 : Int)] lane)).bind fun t25 => ((catT t25 [many])).bind fun t30 => ((repT [(0 : Int)] ((net.1 - (1 : Int)) - lane))).bind fun t42 => ((catT t30 t42)).bind fun counts => ((p_ends_of  net counts)).bind fun t48 => ((appT found t48)).bind fun found => some found) t15 found)).bind fun found => some found
def p_least_depth (lanes : Int) : Option (Option Int) :=
  some (getT [((1 : Int), (0 : Int)), ((2 : Int), (1 : Int)), ((4 : Int), (3 : Int)), ((8 : Int), (6 : Int)), ((16 : Int), (9 : Int))] lanes)
def p_is_shallow (net : (Int × (List (Int × Int)) × (List Int))) : Option Bool :=
  ((p_least_depth  net.1)).bind fun least => ((if least.isSome = true then ((p_depth  net)).bind fun t11 => (least).bind fun t13 => some (decide (t11 < t13)) else some false)).bind fun t16 => some t16
def p_share_bar (net : (Int × (List (Int × Int)) × (List Int))) : Option (Option (Str × Int × Int)) :=
  ((p_shares  net)).bind fun t3 => (((lpR (fun (s6 : Unit) (y7 : (Int × (List Int))) => (((lpR (fun (s12 : Unit) (y13 : (Int × Int)) => ((mulT net.1 y13.2)).bind fun t20 => ((p_depth  net)).bind fun t24 => ((shlT (1 : Int) t24)).bind fun t26 => if (!decide (t20 = t26)) = true then some (Lf.ret (some (("share" : Str), y7.1, y13.1))) else some (.go ())) (enumT 0 y7.2) ()).bind fun w => w.on (fun s12 => some (.go ())) (fun z => some (Lf.ret z))))) (enumT 0 t3) ()).bind fun w => w.on (fun s6 => some none) (fun z => some (z))))
def p_bits_of (number : Int) (many : Int) : Option (List Int) :=
  ((rngO many)).bind fun t4 => lim (t4.length) (((mapO (fun place => ((shrT number ((many - (1 : Int)) - place))).bind fun t15 => some (Builtin.bitAnd t15 (1 : Int))) t4)).bind fun t19 => some t19)
def p_row_bar (net : (Int × (List (Int × Int)) × (List Int))) : Option (Option (Str × (List Int))) :=
  ((shlT (1 : Int) net.1)).bind fun t6 => ((rngO t6)).bind fun t8 => (((lpR (fun (s10 : Unit) (number : Int) => ((p_bits_of  number net.1)).bind fun row => ((p_compared  net row)).bind fun t22 => ((p_falls  t22)).bind fun t24 => if (!t24) = true then some (Lf.ret (some (("row" : Str), row))) else some (.go ())) t8 ()).bind fun w => w.on (fun s10 => some none) (fun z => some (z))))
def p_bar (net : (Int × (List (Int × Int)) × (List Int))) : Option PD :=
  ((p_least_depth  net.1)).bind fun t5 => if t5.isNone = true then some (toPD (puT puS) [("lanes" : Str)]) else ((p_is_shallow  net)).bind fun t14 => if t14 = true then some (toPD (puT puS) [("depth" : Str)]) else ((p_share_bar  net)).bind fun t21 => (some (toPD (puO' (puQ puS puI puI)) t21)).bind fun found => ((if ((isN (found).1) && (decide (net.1 ≤ (8 : Int)))) = true then ((p_row_bar  net)).bind fun t35 => (some (toPD (puO' (puP puS (puT puI))) t35)).bind fun found => some found else some found)).bind fun found => some found
def p_is_below (thing : PD) (most : Int) : Option Bool :=
  ((if (isK .int (thing).1) = true then ((if (!(isK .bool (thing).1)) = true then ((rI (thing).1)).bind fun t8 => some ((decide ((0 : Int) ≤ t8)) && (decide (t8 < most))) else some false)).bind fun t12 => some t12 else some false)).bind fun t13 => some t13
def p_is_share_bar (net : (Int × (List (Int × Int)) × (List Int))) (rest_ : PD) : Option Bool :=
  ((dI (pLen [eV rest_]))).bind fun t4 => ((if (!decide (t4 = (2 : Int))) = true then some true else ((seqV rest_)).bind fun t9 => lim (t9.length) (((mapO (fun one => ((p_is_below  one net.1)).bind fun t18 => some t18) t9)).bind fun t20 => some (!(List.all t20 id))))).bind fun t22 => if t22 = true then some false else (((rP rV rV) (rest_).1)).bind fun t25 => ((p_shares  net)).bind fun t32 => ((rI (t25.1).1)).bind fun t34 => ((atI t32 t34)).bind fun t37 => ((rI (t25.2).1)).bind fun t39 => ((atI t37 t39)).bind fun t42 => ((mulT net.1 t42)).bind fun t44 => ((p_depth  net)).bind fun t48 => ((shlT (1 : Int) t48)).bind fun t50 => some (!decide (t44 = t50))
def p_is_row_bar (net : (Int × (List (Int × Int)) × (List Int))) (rest_ : PD) : Option Bool :=
  ((dI (pLen [eV rest_]))).bind fun t4 => ((if (!decide (t4 = (1 : Int))) = true then some true else ((dP (pIx [eV rest_, eI (0 : Int)]))).bind fun t10 => ((if (!(isK .tup (t10).1)) = true then some true else ((dP (pIx [eV rest_, eI (0 : Int)]))).bind fun t15 => ((dI (pLen [eV t15]))).bind fun t17 => some (!decide (t17 = net.1)))).bind fun t22 => some t22)).bind fun t23 => if t23 = true then some false else ((dP (pIx [eV rest_, eI (0 : Int)]))).bind fun t28 => ((seqV t28)).bind fun t30 => lim (t30.length) (((mapO (fun one => ((p_is_below  one (2 : Int))).bind fun t37 => some t37) t30)).bind fun t39 => ((if (List.all t39 id) = true then ((dP (pIx [eV rest_, eI (0 : Int)]))).bind fun t45 => (((rT rI) (t45).1)).bind fun t46 => ((p_compared  net t46)).bind fun t49 => ((p_falls  t49)).bind fun t51 => some (!t51) else some false)).bind fun t52 => some t52)
def p_shows_bar (net : (Int × (List (Int × Int)) × (List Int))) (thing : PD) : Option Bool :=
  ((if (!(isK .tup (thing).1)) = true then some true else ((dI (pLen [eV thing]))).bind fun t6 => ((if (decide (t6 = (0 : Int))) = true then some true else ((dP (pIx [eV thing, eI (0 : Int)]))).bind fun t12 => some (!(isK .str (t12).1)))).bind fun t14 => some t14)).bind fun t15 => if t15 = true then some false else ((dP (pIx [eV thing, eI (0 : Int)]))).bind fun t20 => ((dP (slD (thing).1 (some (1 : Int)) none))).bind fun t25 => ((dB (pEq [eV t20, eS ("lanes" : Str)]))).bind fun t30 => if t30 = true then ((dB (pEqE [eV t25, (eT eI) ([] : (List Int))]))).bind fun t35 => ((if t35 = true then ((p_least_depth  net.1)).bind fun t40 => some t40.isNone else some false)).bind fun t43 => some t43 else ((dB (pEq [eV t20, eS ("depth" : Str)]))).bind fun t47 => if t47 = true then ((dB (pEqE [eV t25, (eT eI) ([] : (List Int))]))).bind fun t52 => ((if t52 = true then ((p_is_shallow  net)).bind fun t55 => some t55 else some false)).bind fun t56 => some t56 else ((dB (pEq [eV t20, eS ("share" : Str)]))).bind fun t60 => if t60 = true then ((p_is_share_bar  net t25)).bind fun t64 => some t64 else ((dB (pEq [eV t20, eS ("row" : Str)]))).bind fun t68 => ((if t68 = true then ((p_is_row_bar  net t25)).bind fun t72 => some t72 else some false)).bind fun t73 => some t73
def p__law_cell_at (script : (List Int)) (k : Int) : Option Int :=
  if (decide (k < (script.length : Int))) = true then ((atI script k)).bind fun t9 => some t9 else some (0 : Int)
def p__law_left (script : (List Int)) (k : Int) : Option (List Int) :=
  ((modT k (max (1 : Int) (script.length : Int)))).bind fun t9 => ((p__law_cell_at  script t9)).bind fun cell => ((mulT ((7919 : Int) * k) k)).bind fun t20 => (some (((((cell % (2147483629 : Int)) + t20) + (11 : Int)) * (48271 : Int)) % (2147483647 : Int))).bind fun seed => ((modT (cell * (if (decide ((1000000000000000000 : Int) ≤ cell)) = true then 1 else 0)) (tenN 4000))).bind fun t40 => some [t40, seed]
def p__law_pick (left_here : (List Int)) (many : Int) : Option (Int × (List Int)) :=
  ((atI left_here (0 : Int))).bind fun t4 => if (decide ((0 : Int) < t4)) = true then ((atI left_here (0 : Int))).bind fun t9 => ((modT t9 many)).bind fun digit => ((atI left_here (0 : Int))).bind fun t15 => ((divT t15 many)).bind fun t18 => ((setT left_here (0 : Int) t18)).bind fun left_here => some (digit, left_here) else ((atI left_here (1 : Int))).bind fun t25 => ((setT left_here (1 : Int) (((t25 * (48271 : Int)) + (12345 : Int)) % (2147483647 : Int)))).bind fun left_here => ((atI left_here (1 : Int))).bind fun t37 => ((atI left_here (1 : Int))).bind fun t40 => ((mulT t37 t40)).bind fun t42 => ((modT (t42 % (1999999973 : Int)) many)).bind fun t47 => some (t47, left_here)
def p__law_net (left_here : (List Int)) (most : Int) : Option ((Int × (List (Int × Int)) × (List Int)) × (List Int)) :=
  ((p__law_pick  left_here (10 : Int))).bind fun t16 => ((atI [(2 : Int), (3 : Int), (4 : Int), (2 : Int), (4 : Int), (5 : Int), (8 : Int), (6 : Int), (1 : Int), (16 : Int)] t16.1)).bind fun lanes => (some ([] : (List (Int × Int)))).bind fun forks => ((p__law_pick  t16.2 (8 : Int))).bind fun t35 => ((atI [(0 : Int), (1 : Int), (2 : Int), (3 : Int), (5 : Int), (8 : Int), (12 : Int), most] t35.1)).bind fun t37 => ((rngO (t37 * (if (decide ((1 : Int) < lanes)) = true then 1 else 0)))).bind fun t44 => ((lpN (fun (s46 : ((List Int) × (List (Int × Int)))) (k : Int) => ((p__law_pick  s46.1 lanes)).bind fun t51 => ((p__law_pick  t51.2 (max (1 : Int) (lanes - (1 : Int))))).bind fun t62 => ((modT ((t51.1 + (1 : Int)) + t62.1) lanes)).bind fun t66 => (some (t51.1, t66)).bind fun fork => ((p__law_pick  t62.2 (6 : Int))).bind fun t73 => ((if ((!decide (s46.2 = ([] : (List (Int × Int))))) && (decide (t73.1 < (2 : Int)))) = true then ((atI s46.2 (-(1 : Int)))).bind fun t83 => ((atI s46.2 (-(1 : Int)))).bind fun t87 => ((atI [t83, (t87.2, t87.1)] t73.1)).bind fun fork => some fork else some fork)).bind fun fork => ((appT s46.2 fork)).bind fun forks => some (t73.2, forks)) t44 (t35.2, forks))).bind fun s46 => (some ([] : (List Int))).bind fun ends => ((rngO lanes)).bind fun t108 => ((lpN (fun (s110 : ((List Int) × (List Int))) (lane : Int) => ((p__law_pick  s110.1 ((s110.2.length : Int) + (1 : Int)))).bind fun t117 => ((insT s110.2 t117.1 lane)).bind fun ends => some (t117.2, ends)) t108 (s46.1, ends))).bind fun s110 => ((rngO lanes)).bind fun t126 => ((p__law_pick  s110.1 (2 : Int))).bind fun t131 => ((atI [s110.2, t126] t131.1)).bind fun t133 => some ((lanes, s46.2, t133), t131.2)
def p__law_odd (lanes : Int) : Option (List PD) :=
  ((repT [(0 : Int)] lanes)).bind fun row => (some [(toPD puU ()), (toPD puB true), (toPD puI (0 : Int)), (toPD puS ("" : Str)), (toPD puS ("lanes" : Str)), (toPD puS ("depth" : Str)), (frzV puI ([] : (List Int))), frdV, (toPD (puT puI) ([] : (List Int))), (toPD (puT puU) [()]), (toPD (puT puI) [(0 : Int)]), (toPD (puP puS puI) (("lanes" : Str), (0 : Int))), (toPD (puP puS puU) (("depth" : Str), ()))]).bind fun some_ => ((catT some_ [(toPD (puT (puT puS)) [[("lanes" : Str)]]), (frzV puS [("lanes" : Str)]), (frzV puS [("depth" : Str)]), (toPD (puT puS) [("Lanes" : Str)]), (toPD (puT puS) [("share" : Str)]), (toPD (puP puS puI) (("share" : Str), (0 : Int))), (toPD (puQ puS puI puI) (("share" : Str), (0 : Int), lanes))])).bind fun some_ => ((appT some_ (toPD (puQ puS puI puI) (("share" : Str), (-(1 : Int)), (0 : Int))))).bind fun some_ => ((catT some_ [(toPD (puQ puS puI puI) (("share" : Str), lanes, (0 : Int))), (toPD (puQ puS puB puI) (("share" : Str), true, (0 : Int))), (toPD (puQ puS puS puI) (("share" : Str), ("0" : Str), (0 : Int))), (toPD (puQ puS puI puU) (("share" : Str), (0 : Int), ())), (toPD (puT puV) [(toPD puS ("share" : Str)), (toPD puI (0 : Int)), (toPD puI (0 : Int)), (toPD puI (0 : Int))])])).bind fun some_ => ((catT row [(0 : Int)])).bind fun t144 => ((catT some_ [(toPD (puT puS) [("row" : Str)]), (toPD (puP puS (puT puI)) (("row" : Str), t144)), (toPD (puP puS (puT puI)) (("row" : Str), (cutL row (some (1 : Int)) none))), (toPD (puP puS puV) (("row" : Str), (frzV puI row))), (toPD (puQ puS (puT puI) puI) (("row" : Str), row, (0 : Int))), (toPD (puP puS puI) (("row" : Str), (0 : Int)))])).bind fun some_ => ((catT [(2 : Int)] (cutL row (some (1 : Int)) none))).bind fun t187 => ((dP (pAdd [(eT eB) [true], (eT eI) (cutL row (some (1 : Int)) none)]))).bind fun t200 => ((dP (pAdd [(eT eU) [()], (eT eI) (cutL row (some (1 : Int)) none)]))).bind fun t213 => ((catT some_ [(toPD (puP puS (puT puI)) (("row" : Str), t187)), (toPD (puP puS puV) (("row" : Str), t200)), (toPD (puP puS puV) (("row" : Str), t213)), (toPD (puP puS puU) (("row" : Str), ()))])).bind fun some_ => ((dP (pAdd [(eT eI) (cutL row (some (1 : Int)) none), (eT eS) [("1" : Str)]]))).bind fun t235 => ((catT (cutL row (some (1 : Int)) none) [(-(1 : Int))])).bind fun t249 => ((catT some_ [(toPD (puP puS puV) (("row" : Str), t235)), (toPD (puP puS (puT puI)) (("row" : Str), t249)), (toPD (puT puS) [("none" : Str)]), (toPD (puQ puS puI puI) (("bar" : Str), (0 : Int), (0 : Int))), (toPD (puQ puV puI puI) ((frzV puI ([] : (List Int))), (0 : Int), (0 : Int)))])).bind fun t274 => some t274
def p_law (script : (List Int)) : Option Bool :=
  ((rngO (max (6 : Int) (min (20 : Int) (script.length : Int))))).bind fun t8 => (((lpR (fun (s10 : Unit) (k : Int) => ((p__law_left  script k)).bind fun left_here => ((p__law_net  left_here (20 : Int))).bind fun t19 => ((p_bar  t19.1)).bind fun told => ((if (!isN (told).1) = true then ((p_shows_bar  t19.1 told)).bind fun t29 => some (!decide (t29 = true)) else some false)).bind fun t32 => if t32 = true then some (Lf.ret false) else ((p__law_odd  t19.1.1)).bind fun things => ((if (!isN (told).1) = true then ((lstV told)).bind fun t44 => ((dP (pAdd [eV told, (eT eI) [(0 : Int)]]))).bind fun t55 => ((dP (slD (told).1 none (some (1 : Int))))).bind fun t61 => ((dP (pAdd [eV told, eV t61]))).bind fun t63 => ((dP (slD (told).1 none (some (0 : Int))))).bind fun t72 => ((catT things [(frzV puV t44), (toPD (puT puV) [told]), t55, t63, (frzV puV [told]), t72])).bind fun things => some things else some things)).bind fun things => (((lpR (fun (s81 : Unit) (thing : PD) => ((strV thing)).bind fun text => ((p_shows_bar  t19.1 thing)).bind fun t90 => ((if (!decide (t90 = false)) = true then some true else ((strV thing)).bind fun t95 => some (!decide (t95 = text)))).bind fun t98 => if t98 = true then some (Lf.ret false) else some (.go ())) things ()).bind fun w => w.on (fun s81 => ((if (!isN (told).1) = true then ((p_shows_bar  t19.1 told)).bind fun t106 => some (!decide (t106 = true)) else some false)).bind fun t109 => if t109 = true then some (Lf.ret false) else some (.go ())) (fun z => some (Lf.ret z))))) t8 ()).bind fun w => w.on (fun s10 => some true) (fun z => some (z))))
theorem tok_compared (a0 : (Int × (List (Int × Int)) × (List Int))) (a1 : (List Int)) : ∀ z, p_compared a0 a1 = some z → f_compared [(eQ eI (eT (eP eI eI)) (eT eI)) a0, (eT eI) a1] = .ok ((eT eI) z) [(eQ eI (eT (eP eI eI)) (eT eI)) a0, (eT eI) a1] :=
  fn_t (p0 := [some ((eQ eI (eT (eP eI eI)) (eT eI)) a0), some ((eT eI) a1), none, none, none, none, none, none]) (m := p_compared a0 a1) (rv := fun (z : (List Int)) => (eT eI) z) (q := fun (z : (List Int)) => [some ((eQ eI (eT (eP eI eI)) (eT eI)) a0), some ((eT eI) a1), none, none, none, none, none, none]) (outs := fun z => [(eQ eI (eT (eP eI eI)) (eT eI)) a0, (eT eI) a1]) (B.cv (b_set (x_primT (xa_p (x_var (d := (eT eI) a1) 1 rfl) (fun _ => (puT puI) _) (fun x3 => xa_nil)) (fun _ => op_lstT puI _)) (.inl rfl) (fun x4 => (b_for (xi_mk (xa_v (x_primT (xa_p (x_var (d := (eQ eI (eT (eP eI eI)) (eT eI)) a0) 0 rfl) (fun _ => (puQ puI (puT (puP puI puI)) (puT puI)) _) (fun x5 => (xa_v (x_c (eI 1)) (fun x6 => xa_nil)))) (fun _ => op_ixQ1 (puT (puP puI puI)) _)) (fun x7 => xa_nil)) rfl (puP puI puI) (fun _ => it_T _)) (fun x8 (x9 : ((List Int))) => [some ((eQ eI (eT (eP eI eI)) (eT eI)) a0), some ((eT eI) a1), some ((eL eI) x9), none, none, none, none, none]) (fun x8 => a1) (fun _ => rfl) (fun x8 => by repeat (first | exact wk_nil | apply wk_a | apply wk_s)) (fun x8 x9 x10 => (as_tp (ass_cons as_nm (ass_cons as_nm ass_nil)))) (fun x8 x9 x10 => (b_asg (x_un2 (e := eI) (x_primT (xa_v (X.as (x_lst (xa_v (x_prim (xa_s 2 rfl (xa_p (x_var (d := eI x10.1) 3 rfl) (fun _ => puI _) (fun x13 => xa_nil)) (fun _ => rfl) (fun _ => puL)) (fun _ _ h => op_ixL puI h)) (fun x15 => (xa_v (x_prim (xa_s 2 rfl (xa_p (x_var (d := eI x10.2) 4 rfl) (fun _ => puI _) (fun x16 => xa_nil)) (fun _ => rfl) (fun _ => puL)) (fun _ _ h => op_ixL puI h)) (fun x18 => xa_nil)))) rfl (by decide)) (fun x19 => (eL eI) [x19.1.2, x19.2.1.2]) rfl) (fun x20 => xa_nil)) (fun _ => op_sortL' _))) (.inl rfl) (fun _ => (as_ls (ass_cons as_nm (ass_cons as_nm ass_nil)))) (fun x22 => (b_setIx (e1 := eI) (x_var (d := eI x22.2.2) 6 rfl) puI (fun _ => ⟨_, rfl⟩) (fun x23 => (x_var (d := eI x10.1) 3 rfl)) (fun _ _ => .inr rfl) (fun _ _ => rfl) (fun x23 x24 x25 => (b_last (b_setIx (e1 := eI) (x_var (d := eI x22.2.1) 5 rfl) puI (fun _ => ⟨_, rfl⟩) (fun x27 => (x_var (d := eI x10.2) 4 rfl)) (fun _ _ => .inr rfl) (fun _ _ => rfl) (fun x27 x28 x29 => (b_endC (z := x29) (by repeat (first | exact wk_nil | apply wk_a | apply wk_s))))))))))) (fun x8 x9 => (b_last (b_ret (x_primT (xa_v (x_mapP (ee := eI) (xi_mk (xa_v (x_primT (xa_p (x_var (d := (eQ eI (eT (eP eI eI)) (eT eI)) a0) 0 rfl) (fun _ => (puQ puI (puT (puP puI puI)) (puT puI)) _) (fun x31 => (xa_v (x_c (eI 2)) (fun x32 => xa_nil)))) (fun _ => op_ixQ2 (puT puI) _)) (fun x33 => xa_nil)) rfl puI (fun _ => it_T _)) rfl (fun x34 x35 => as_nm) (fun x34 x35 => (x_prim (xa_s 2 rfl (xa_p (x_var (d := eI x35) 7 rfl) (fun _ => puI _) (fun x38 => xa_nil)) (fun _ => rfl) (fun _ => puL)) (fun _ _ h => op_ixL puI h))) (.inl rfl) (fun x34 x35 => ((atI x9 x35)).bind fun t39 => some t39) (fun _ _ => by repeat (first | exact wk_nil | apply wk_a | apply wk_s)) (by intro x y z h; simp only [] at h ⊢; repeat (first | (obtain ⟨hl, h⟩ := lim_inv h; simp only [lim_of hl]) | (obtain ⟨_, h1, h⟩ := Option.bind_eq_some_iff.mp h; simp only [h1, Option.bind_some] at h ⊢) | (cases h; rfl)))) (fun x42 => xa_nil)) (fun _ => op_tupL puI _)) (fun x43 => x43.1.2.1) (.inl rfl) (fun x43 => qf_ret rfl (by repeat (first | exact wk_nil | apply wk_a | apply wk_s))))))))) (by dsimp only [p_compared])) rfl (by simp [okM]) (fun z => (coll_0P rfl (coll_0P rfl coll_nilP)))
theorem tok_falls (a0 : (List Int)) : ∀ z, p_falls a0 = some z → f_falls [(eT eI) a0] = .ok (eB z) [(eT eI) a0] :=
  fn_t (p0 := [some ((eT eI) a0), none, none]) (m := p_falls a0) (rv := fun (z : Bool) => eB z) (q := fun (z : Bool) => [some ((eT eI) a0), none, none]) (outs := fun z => [(eT eI) a0]) (B.cv (b_last (b_ret (x_primT (xa_v (x_mapT (ee := eB) (xi_mk (xa_p (x_var (d := (eT eI) a0) 0 rfl) (fun _ => (puT puI) _) (fun x2 => (xa_v (x_sl (x_var (d := (eT eI) a0) 0 rfl) (fun x3 => (xpr_some (x_c (eI 1)))) (fun x3 x4 => xpr_none) (fun _ _ _ => op_slT puI _ _ _)) (fun x6 => xa_nil)))) rfl (puP puI puI) (fun _ => it_zTT _ _)) rfl (fun x7 x8 => (as_tp (ass_cons as_nm (ass_cons as_nm ass_nil)))) (fun x7 x8 => (x_primT (xa_p (x_var (d := eI x8.1) 1 rfl) (fun _ => puI _) (fun x11 => (xa_p (x_var (d := eI x8.2) 2 rfl) (fun _ => puI _) (fun x12 => xa_nil)))) (fun _ => op_ge' _ _))) (.inl rfl) (fun _ _ => by repeat (first | exact wk_nil | apply wk_a | apply wk_s))) (fun x15 => xa_nil)) (fun _ => op_all _)) (fun x16 => (List.all x16.1.2.1 id)) (.inl rfl) (fun x16 => qf_ret rfl (by repeat (first | exact wk_nil | apply wk_a | apply wk_s))))) (by dsimp only [p_falls])) rfl (by simp [okM]) (fun z => (coll_0P rfl coll_nilP))
theorem tok_layers (a0 : (Int × (List (Int × Int)) × (List Int))) : ∀ z, p_layers a0 = some z → f_layers [(eQ eI (eT (eP eI eI)) (eT eI)) a0] = .ok ((eT eI) z) [(eQ eI (eT (eP eI eI)) (eT eI)) a0] :=
  fn_t (p0 := [some ((eQ eI (eT (eP eI eI)) (eT eI)) a0), none, none, none, none, none]) (m := p_layers a0) (rv := fun (z : (List Int)) => (eT eI) z) (q := fun (z : (List Int)) => [some ((eQ eI (eT (eP eI eI)) (eT eI)) a0), none, none, none, none, none]) (outs := fun z => [(eQ eI (eT (eP eI eI)) (eT eI)) a0]) (B.cv (b_set (x_prim (xa_v (X.as (x_lst (xa_v (x_c (eI 0)) (fun x2 => xa_nil)) rfl (by decide)) (fun x3 => (eL eI) [(0 : Int)]) rfl) (fun x4 => (xa_v (x_primT (xa_p (x_var (d := (eQ eI (eT (eP eI eI)) (eT eI)) a0) 0 rfl) (fun _ => (puQ puI (puT (puP puI puI)) (puT puI)) _) (fun x5 => (xa_v (x_c (eI 0)) (fun x6 => xa_nil)))) (fun _ => op_ixQ0 puI _)) (fun x7 => xa_nil)))) (fun _ _ h => op_repL puI h)) (.inl rfl) (fun x9 => (b_setL (eL eI) (X.as (x_lst xa_nil rfl (by decide)) (fun x10 => (eL eI) ([] : (List Int))) rfl) (.inl rfl) (fun x11 x12 => (b_for (xi_mk (xa_v (x_primT (xa_p (x_var (d := (eQ eI (eT (eP eI eI)) (eT eI)) a0) 0 rfl) (fun _ => (puQ puI (puT (puP puI puI)) (puT puI)) _) (fun x14 => (xa_v (x_c (eI 1)) (fun x15 => xa_nil)))) (fun _ => op_ixQ1 (puT (puP puI puI)) _)) (fun x16 => xa_nil)) rfl (puP puI puI) (fun _ => it_T _)) (fun x17 (x18 : ((List Int) × (List Int))) => [some ((eQ eI (eT (eP eI eI)) (eT eI)) a0), some ((eL eI) x18.1), some ((eL eI) x18.2), none, none, none]) (fun x17 => (x9.2, x12)) (fun _ => rfl) (fun x17 => by repeat (first | exact wk_nil | apply wk_a | apply wk_s)) (fun x17 x18 x19 => (as_tp (ass_cons as_nm (ass_cons as_nm ass_nil)))) (fun x17 x18 x19 => (b_setL eI (x_primT (xa_v (x_c (eI 1)) (fun x22 => (xa_v (x_primT (xa_v (x_prim (xa_s 1 rfl (xa_p (x_var (d := eI x19.1) 3 rfl) (fun _ => puI _) (fun x23 => xa_nil)) (fun _ => rfl) (fun _ => puL)) (fun _ _ h => op_ixL puI h)) (fun x25 => (xa_v (x_prim (xa_s 1 rfl (xa_p (x_var (d := eI x19.2) 4 rfl) (fun _ => puI _) (fun x26 => xa_nil)) (fun _ => rfl) (fun _ => puL)) (fun _ _ h => op_ixL puI h)) (fun x28 => xa_nil)))) (fun _ => op_max2 _ _)) (fun x29 => xa_nil)))) (fun _ => op_add _ _)) (.inl rfl) (fun x30 x31 => (b_setIx (e1 := eI) (x_var (d := eI x31) 5 rfl) puI (fun _ => ⟨_, rfl⟩) (fun x33 => (x_var (d := eI x19.1) 3 rfl)) (fun _ _ => .inr rfl) (fun _ _ => rfl) (fun x33 x34 x35 => (b_setIx (e1 := eI) (x_var (d := eI x31) 5 rfl) puI (fun _ => ⟨_, rfl⟩) (fun x37 => (x_var (d := eI x19.2) 4 rfl)) (fun _ _ => .inr rfl) (fun _ _ => rfl) (fun x37 x38 x39 => (b_last (b_expr (x_mt rfl (xa_p (x_var (d := eI x31) 5 rfl) (fun _ => puI _) (fun x41 => xa_nil)) rfl (fun _ => rfl) (fun _ _ h => mt_app' h) (fun _ _ => rfl)) (fun x43 => (b_endC (z := (x39, x43.2)) (by repeat (first | exact wk_nil | apply wk_a | apply wk_s))))))))))))) (fun x17 x18 => (b_last (b_ret (x_primT (xa_s 2 rfl xa_nil (fun _ => rfl) (fun _ => puL)) (fun _ => op_tupL puI _)) (fun x44 => x18.2) (.inl rfl) (fun x44 => qf_ret rfl (by repeat (first | exact wk_nil | apply wk_a | apply wk_s))))))))))) (by dsimp only [p_layers])) rfl (by simp [okM]) (fun z => (coll_0P rfl coll_nilP))
theorem tok_depth (a0 : (Int × (List (Int × Int)) × (List Int))) : ∀ z, p_depth a0 = some z → f_depth [(eQ eI (eT (eP eI eI)) (eT eI)) a0] = .ok (eI z) [(eQ eI (eT (eP eI eI)) (eT eI)) a0] :=
  fn_t (p0 := [some ((eQ eI (eT (eP eI eI)) (eT eI)) a0)]) (m := p_depth a0) (rv := fun (z : Int) => eI z) (q := fun (z : Int) => [some ((eQ eI (eT (eP eI eI)) (eT eI)) a0)]) (outs := fun z => [(eQ eI (eT (eP eI eI)) (eT eI)) a0]) (B.cv (b_last (b_ret (x_prim (xa_v (x_prim (xa_v (X.as (x_tup (xa_v (x_c (eI 0)) (fun x2 => xa_nil)) rfl (by decide)) (fun x3 => (eT eI) [(0 : Int)]) rfl) (fun x4 => (xa_v (x_callP (xa_p (x_var (d := (eQ eI (eT (eP eI eI)) (eT eI)) a0) 0 rfl) (fun _ => (puQ puI (puT (puP puI puI)) (puT puI)) _) (fun x5 => xa_nil)) rfl (fun _ _ h => tok_layers  _ _ h)) (fun x7 => xa_nil)))) (fun _ _ h => op_catT puI h)) (fun x9 => xa_nil)) (fun _ _ h => op_max1T h)) (fun x11 => x11.2) (.inl rfl) (fun x11 => qf_ret rfl (by repeat (first | exact wk_nil | apply wk_a | apply wk_s))))) (by dsimp only [p_depth])) rfl (by simp [okM]) (fun z => (coll_0P rfl coll_nilP))
theorem tok_fork_totals (a0 : (Int × (List (Int × Int)) × (List Int))) (a1 : (List Int)) : ∀ z, p_fork_totals a0 a1 = some z → f_fork_totals [(eQ eI (eT (eP eI eI)) (eT eI)) a0, (eT eI) a1] = .ok ((eP (eL eI) (eL eI)) z) [(eQ eI (eT (eP eI eI)) (eT eI)) a0, (eT eI) a1] :=
  fn_t (p0 := [some ((eQ eI (eT (eP eI eI)) (eT eI)) a0), some ((eT eI) a1), none, none, none, none, none]) (m := p_fork_totals a0 a1) (rv := fun (z : ((List Int) × (List Int))) => (eP (eL eI) (eL eI)) z) (q := fun (z : ((List Int) × (List Int))) => [some ((eQ eI (eT (eP eI eI)) (eT eI)) a0), some ((eT eI) a1), none, none, none, none, none]) (outs := fun z => [(eQ eI (eT (eP eI eI)) (eT eI)) a0, (eT eI) a1]) (B.cv (b_set (x_primT (xa_p (x_var (d := (eT eI) a1) 1 rfl) (fun _ => (puT puI) _) (fun x3 => xa_nil)) (fun _ => op_lstT puI _)) (.inl rfl) (fun x4 => (b_setL (eL eI) (X.as (x_lst xa_nil rfl (by decide)) (fun x5 => (eL eI) ([] : (List Int))) rfl) (.inl rfl) (fun x6 x7 => (b_for (xi_mk (xa_v (x_primT (xa_p (x_var (d := (eQ eI (eT (eP eI eI)) (eT eI)) a0) 0 rfl) (fun _ => (puQ puI (puT (puP puI puI)) (puT puI)) _) (fun x9 => (xa_v (x_c (eI 1)) (fun x10 => xa_nil)))) (fun _ => op_ixQ1 (puT (puP puI puI)) _)) (fun x11 => xa_nil)) rfl (puP puI puI) (fun _ => it_T _)) (fun x12 (x13 : ((List Int) × (List Int))) => [some ((eQ eI (eT (eP eI eI)) (eT eI)) a0), some ((eT eI) a1), some ((eL eI) x13.1), some ((eL eI) x13.2), none, none, none]) (fun x12 => (a1, x7)) (fun _ => rfl) (fun x12 => by repeat (first | exact wk_nil | apply wk_a | apply wk_s)) (fun x12 x13 x14 => (as_tp (ass_cons as_nm (ass_cons as_nm ass_nil)))) (fun x12 x13 x14 => (b_setL eI (x_primT (xa_v (x_prim (xa_s 2 rfl (xa_p (x_var (d := eI x14.1) 4 rfl) (fun _ => puI _) (fun x17 => xa_nil)) (fun _ => rfl) (fun _ => puL)) (fun _ _ h => op_ixL puI h)) (fun x19 => (xa_v (x_prim (xa_s 2 rfl (xa_p (x_var (d := eI x14.2) 5 rfl) (fun _ => puI _) (fun x20 => xa_nil)) (fun _ => rfl) (fun _ => puL)) (fun _ _ h => op_ixL puI h)) (fun x22 => xa_nil)))) (fun _ => op_add _ _)) (.inl rfl) (fun x23 x24 => (b_expr (x_mt rfl (xa_p (x_var (d := eI x24) 6 rfl) (fun _ => puI _) (fun x26 => xa_nil)) rfl (fun _ => rfl) (fun _ _ h => mt_app' h) (fun _ _ => rfl)) (fun x28 => (b_setIx (e1 := eI) (x_primT (xa_v (x_primT (xa_p (x_var (d := eI x24) 6 rfl) (fun _ => puI _) (fun x29 => (xa_v (x_c (eI 1)) (fun x30 => xa_nil)))) (fun _ => op_add _ _)) (fun x31 => (xa_v (x_c (eI 2)) (fun x32 => xa_nil)))) (fun _ => op_divC (by decide +kernel))) puI (fun _ => ⟨_, rfl⟩) (fun x33 => (x_var (d := eI x14.1) 4 rfl)) (fun _ _ => .inl rfl) (fun _ _ => rfl) (fun x33 x34 x35 => (b_last (b_setIx (e1 := eI) (x_primT (xa_p (x_var (d := eI x24) 6 rfl) (fun _ => puI _) (fun x37 => (xa_v (x_c (eI 2)) (fun x38 => xa_nil)))) (fun _ => op_divC (by decide +kernel))) puI (fun _ => ⟨_, rfl⟩) (fun x39 => (x_var (d := eI x14.2) 5 rfl)) (fun _ _ => .inl rfl) (fun _ _ => rfl) (fun x39 x40 x41 => (b_endC (z := (x41, x28.2)) (by repeat (first | exact wk_nil | apply wk_a | apply wk_s))))))))))))) (fun x12 x13 => (b_last (b_retT (xa_s 3 rfl (xa_s 2 rfl xa_nil (fun _ => rfl) (fun _ => puL)) (fun _ => rfl) (fun _ => puL)) rfl rfl (by decide) (fun x43 => (x13.2, x13.1)) (fun x43 => qf_ret rfl (by repeat (first | exact wk_nil | apply wk_a | apply wk_s))))))))))) (by dsimp only [p_fork_totals])) rfl (by simp [okM]) (fun z => (coll_0P rfl (coll_0P rfl coll_nilP)))
theorem tok_ends_of (a0 : (Int × (List (Int × Int)) × (List Int))) (a1 : (List Int)) : ∀ z, p_ends_of a0 a1 = some z → f_ends_of [(eQ eI (eT (eP eI eI)) (eT eI)) a0, (eT eI) a1] = .ok ((eT eI) z) [(eQ eI (eT (eP eI eI)) (eT eI)) a0, (eT eI) a1] :=
  fn_t (p0 := [some ((eQ eI (eT (eP eI eI)) (eT eI)) a0), some ((eT eI) a1), none, none, none]) (m := p_ends_of a0 a1) (rv := fun (z : (List Int)) => (eT eI) z) (q := fun (z : (List Int)) => [some ((eQ eI (eT (eP eI eI)) (eT eI)) a0), some ((eT eI) a1), none, none, none]) (outs := fun z => [(eQ eI (eT (eP eI eI)) (eT eI)) a0, (eT eI) a1]) (B.cv (b_asg (x_callP (xa_p (x_var (d := (eQ eI (eT (eP eI eI)) (eT eI)) a0) 0 rfl) (fun _ => (puQ puI (puT (puP puI puI)) (puT puI)) _) (fun x3 => (xa_p (x_var (d := (eT eI) a1) 1 rfl) (fun _ => (puT puI) _) (fun x4 => xa_nil)))) rfl (fun _ _ h => tok_fork_totals  _ _ _ h)) (.inl rfl) (fun _ => (as_tp (ass_cons as_nm (ass_cons as_nm ass_nil)))) (fun x6 => (b_last (b_ret (x_primT (xa_v (x_mapP (ee := eI) (xi_mk (xa_v (x_primT (xa_p (x_var (d := (eQ eI (eT (eP eI eI)) (eT eI)) a0) 0 rfl) (fun _ => (puQ puI (puT (puP puI puI)) (puT puI)) _) (fun x7 => (xa_v (x_c (eI 2)) (fun x8 => xa_nil)))) (fun _ => op_ixQ2 (puT puI) _)) (fun x9 => xa_nil)) rfl puI (fun _ => it_T _)) rfl (fun x10 x11 => as_nm) (fun x10 x11 => (x_prim (xa_s 3 rfl (xa_p (x_var (d := eI x11) 4 rfl) (fun _ => puI _) (fun x14 => xa_nil)) (fun _ => rfl) (fun _ => puL)) (fun _ _ h => op_ixL puI h))) (.inl rfl) (fun x10 x11 => ((atI x6.2.2 x11)).bind fun t15 => some t15) (fun _ _ => by repeat (first | exact wk_nil | apply wk_a | apply wk_s)) (by intro x y z h; simp only [] at h ⊢; repeat (first | (obtain ⟨hl, h⟩ := lim_inv h; simp only [lim_of hl]) | (obtain ⟨_, h1, h⟩ := Option.bind_eq_some_iff.mp h; simp only [h1, Option.bind_some] at h ⊢) | (cases h; rfl)))) (fun x18 => xa_nil)) (fun _ => op_tupL puI _)) (fun x19 => x19.1.2.1) (.inl rfl) (fun x19 => qf_ret rfl (by repeat (first | exact wk_nil | apply wk_a | apply wk_s))))))) (by dsimp only [p_ends_of])) rfl (by simp [okM]) (fun z => (coll_0P rfl (coll_0P rfl coll_nilP)))
theorem tok_shares (a0 : (Int × (List (Int × Int)) × (List Int))) : ∀ z, p_shares a0 = some z → f_shares [(eQ eI (eT (eP eI eI)) (eT eI)) a0] = .ok ((eT (eT eI)) z) [(eQ eI (eT (eP eI eI)) (eT eI)) a0] :=
  fn_t (p0 := [some ((eQ eI (eT (eP eI eI)) (eT eI)) a0), none, none, none, none]) (m := p_shares a0) (rv := fun (z : (List (List Int))) => (eT (eT eI)) z) (q := fun (z : (List (List Int))) => [some ((eQ eI (eT (eP eI eI)) (eT eI)) a0), none, none, none, none]) (outs := fun z => [(eQ eI (eT (eP eI eI)) (eT eI)) a0]) (B.cv (b_set (x_prim (xa_v (x_c (eI 1)) (fun x2 => (xa_v (x_callP (xa_p (x_var (d := (eQ eI (eT (eP eI eI)) (eT eI)) a0) 0 rfl) (fun _ => (puQ puI (puT (puP puI puI)) (puT puI)) _) (fun x3 => xa_nil)) rfl (fun _ _ h => tok_depth  _ _ h)) (fun x5 => xa_nil)))) (fun _ _ h => op_shl' h)) (.inl rfl) (fun x7 => (b_setL (eL (eT eI)) (X.as (x_lst xa_nil rfl (by decide)) (fun x8 => (eL (eT eI)) ([] : (List (List Int)))) rfl) (.inl rfl) (fun x9 x10 => (b_for (xi_mkP (xa_v (x_primT (xa_p (x_var (d := (eQ eI (eT (eP eI eI)) (eT eI)) a0) 0 rfl) (fun _ => (puQ puI (puT (puP puI puI)) (puT puI)) _) (fun x12 => (xa_v (x_c (eI 0)) (fun x13 => xa_nil)))) (fun _ => op_ixQ0 puI _)) (fun x14 => xa_nil)) rfl puI (fun _ _ h => it_r1 h)) (fun x16 (x17 : ((List (List Int)))) => [some ((eQ eI (eT (eP eI eI)) (eT eI)) a0), some (eI x7.2), some ((eL (eT eI)) x17), none, none]) (fun x16 => x10) (fun _ => rfl) (fun x16 => by repeat (first | exact wk_nil | apply wk_a | apply wk_s)) (fun x16 x17 x18 => as_nm) (fun x16 x17 x18 => (b_set (x_prim (xa_v (x_prim (xa_v (x_prim (xa_v (X.as (x_tup (xa_v (x_c (eI 0)) (fun x21 => xa_nil)) rfl (by decide)) (fun x22 => (eT eI) [(0 : Int)]) rfl) (fun x23 => (xa_p (x_var (d := eI x18) 3 rfl) (fun _ => puI _) (fun x24 => xa_nil)))) (fun _ _ h => op_repT' puI h)) (fun x26 => (xa_v (X.as (x_tup (xa_p (x_var (d := eI x7.2) 1 rfl) (fun _ => puI _) (fun x27 => xa_nil)) rfl (by decide)) (fun x28 => (eT eI) [x7.2]) rfl) (fun x29 => xa_nil)))) (fun _ _ h => op_catT puI h)) (fun x31 => (xa_v (x_prim (xa_v (X.as (x_tup (xa_v (x_c (eI 0)) (fun x32 => xa_nil)) rfl (by decide)) (fun x33 => (eT eI) [(0 : Int)]) rfl) (fun x34 => (xa_v (x_primT (xa_v (x_primT (xa_v (x_primT (xa_p (x_var (d := (eQ eI (eT (eP eI eI)) (eT eI)) a0) 0 rfl) (fun _ => (puQ puI (puT (puP puI puI)) (puT puI)) _) (fun x35 => (xa_v (x_c (eI 0)) (fun x36 => xa_nil)))) (fun _ => op_ixQ0 puI _)) (fun x37 => (xa_v (x_c (eI 1)) (fun x38 => xa_nil)))) (fun _ => op_sub' _ _)) (fun x39 => (xa_p (x_var (d := eI x18) 3 rfl) (fun _ => puI _) (fun x40 => xa_nil)))) (fun _ => op_sub' _ _)) (fun x41 => xa_nil)))) (fun _ _ h => op_repT' puI h)) (fun x43 => xa_nil)))) (fun _ _ h => op_catT puI h)) (.inl rfl) (fun x45 => (b_last (b_expr (x_mt rfl (xa_v (x_callP (xa_p (x_var (d := (eQ eI (eT (eP eI eI)) (eT eI)) a0) 0 rfl) (fun _ => (puQ puI (puT (puP puI puI)) (puT puI)) _) (fun x46 => (xa_p (x_var (d := (eT eI) x45.2) 4 rfl) (fun _ => (puT puI) _) (fun x47 => xa_nil)))) rfl (fun _ _ h => tok_ends_of  _ _ _ h)) (fun x49 => xa_nil)) rfl (fun _ => rfl) (fun _ _ h => mt_app' h) (fun _ _ => rfl)) (fun x51 => (b_endC (z := x51.2) (by repeat (first | exact wk_nil | apply wk_a | apply wk_s))))))))) (fun x16 x17 => (b_last (b_ret (x_primT (xa_s 2 rfl xa_nil (fun _ => rfl) (fun _ => puL)) (fun _ => op_tupL (puT puI) _)) (fun x52 => x17) (.inl rfl) (fun x52 => qf_ret rfl (by repeat (first | exact wk_nil | apply wk_a | apply wk_s))))))))))) (by dsimp only [p_shares])) rfl (by simp [okM]) (fun z => (coll_0P rfl coll_nilP))
theorem tok_least_depth (a0 : Int) : ∀ z, p_least_depth a0 = some z → f_least_depth [eI a0] = .ok ((eO eI) z) [eI a0] :=
  fn_t (p0 := [some (eI a0)]) (m := p_least_depth a0) (rv := fun (z : (Option Int)) => (eO eI) z) (q := fun (z : (Option Int)) => [some (eI a0)]) (outs := fun z => [eI a0]) (B.cv (b_last (b_ret (x_primT (xa_p (x_var (d := eI a0) 0 rfl) (fun _ => puI _) (fun x2 => xa_nil)) (fun _ => op_getD [((1 : Int), (0 : Int)), ((2 : Int), (1 : Int)), ((4 : Int), (3 : Int)), ((8 : Int), (6 : Int)), ((16 : Int), (9 : Int))] _)) (fun x3 => (getT [((1 : Int), (0 : Int)), ((2 : Int), (1 : Int)), ((4 : Int), (3 : Int)), ((8 : Int), (6 : Int)), ((16 : Int), (9 : Int))] a0)) (.inl rfl) (fun x3 => qf_ret rfl (by repeat (first | exact wk_nil | apply wk_a | apply wk_s))))) (by dsimp only [p_least_depth])) rfl (by simp [okM]) (fun z => (coll_0P rfl coll_nilP))
theorem tok_is_shallow (a0 : (Int × (List (Int × Int)) × (List Int))) : ∀ z, p_is_shallow a0 = some z → f_is_shallow [(eQ eI (eT (eP eI eI)) (eT eI)) a0] = .ok (eB z) [(eQ eI (eT (eP eI eI)) (eT eI)) a0] :=
  fn_t (p0 := [some ((eQ eI (eT (eP eI eI)) (eT eI)) a0), none]) (m := p_is_shallow a0) (rv := fun (z : Bool) => eB z) (q := fun (z : Bool) => [some ((eQ eI (eT (eP eI eI)) (eT eI)) a0), none]) (outs := fun z => [(eQ eI (eT (eP eI eI)) (eT eI)) a0]) (B.cv (b_set (x_callP (xa_v (x_primT (xa_p (x_var (d := (eQ eI (eT (eP eI eI)) (eT eI)) a0) 0 rfl) (fun _ => (puQ puI (puT (puP puI puI)) (puT puI)) _) (fun x2 => (xa_v (x_c (eI 0)) (fun x3 => xa_nil)))) (fun _ => op_ixQ0 puI _)) (fun x4 => xa_nil)) rfl (fun _ _ h => tok_least_depth  _ _ h)) (.inl rfl) (fun x6 => (b_last (b_ret (x_andP (x_primT (xa_p (x_var (d := (eO eI) x6.2) 1 rfl) (fun _ => (puO' puI) _) (fun x7 => (xa_v (x_c PyData.none) (fun x8 => xa_nil)))) (fun _ => op_notN (fun _ => rfl) _)) (fun x9 => (x_primT (xa_v (x_callP (xa_p (x_var (d := (eQ eI (eT (eP eI eI)) (eT eI)) a0) 0 rfl) (fun _ => (puQ puI (puT (puP puI puI)) (puT puI)) _) (fun x10 => xa_nil)) rfl (fun _ _ h => tok_depth  _ _ h)) (fun x12 => (xa_p (x_gt eI (x_var (d := (eO eI) x6.2) 1 rfl) (fun x14 => x6.2) (fun _ => rfl)) (fun _ => puI _) (fun x15 => xa_nil)))) (fun _ => op_lt' _ _)))) (fun x17 => x17.2) (.inr (fun _ => puB _)) (fun x17 => qf_ret rfl (by repeat (first | exact wk_nil | apply wk_a | apply wk_s))))))) (by dsimp only [p_is_shallow])) rfl (by simp [okM]) (fun z => (coll_0P rfl coll_nilP))
theorem tok_share_bar (a0 : (Int × (List (Int × Int)) × (List Int))) : ∀ z, p_share_bar a0 = some z → f_share_bar [(eQ eI (eT (eP eI eI)) (eT eI)) a0] = .ok ((eO (eQ eS eI eI)) z) [(eQ eI (eT (eP eI eI)) (eT eI)) a0] :=
  fn_t (p0 := [some ((eQ eI (eT (eP eI eI)) (eT eI)) a0), none, none, none, none]) (m := p_share_bar a0) (rv := fun (z : (Option (Str × Int × Int))) => (eO (eQ eS eI eI)) z) (q := fun (z : (Option (Str × Int × Int))) => [some ((eQ eI (eT (eP eI eI)) (eT eI)) a0), none, none, none, none]) (outs := fun z => [(eQ eI (eT (eP eI eI)) (eT eI)) a0]) (B.cv (b_forR (xi_mk (xa_v (x_callP (xa_p (x_var (d := (eQ eI (eT (eP eI eI)) (eT eI)) a0) 0 rfl) (fun _ => (puQ puI (puT (puP puI puI)) (puT puI)) _) (fun x2 => xa_nil)) rfl (fun _ _ h => tok_shares  _ _ h)) (fun x4 => xa_nil)) rfl (puP puI (puT puI)) (fun _ => it_eT _)) (fun x5 (x6 : Unit) => [some ((eQ eI (eT (eP eI eI)) (eT eI)) a0), none, none, none, none]) (fun x5 => ()) (fun (z : (Option (Str × Int × Int))) => (eO (eQ eS eI eI)) z) (fun x5 x36 => [some ((eQ eI (eT (eP eI eI)) (eT eI)) a0), none, none, none, none]) (fun z => z) (fun _ => rfl) (fun x5 => by repeat (first | exact wk_nil | apply wk_a | apply wk_s)) (fun x5 x6 x7 => (as_tp (ass_cons as_nm (ass_cons as_nm ass_nil)))) (fun x5 x6 x7 => (b_last (b_forR (xi_mk (xa_p (x_var (d := (eT eI) x7.2) 2 rfl) (fun _ => (puT puI) _) (fun x10 => xa_nil)) rfl (puP puI puI) (fun _ => it_eT _)) (fun x11 (x12 : Unit) => [some ((eQ eI (eT (eP eI eI)) (eT eI)) a0), some (eI x7.1), some ((eT eI) x7.2), none, none]) (fun x11 => ()) (fun (z : (Option (Str × Int × Int))) => (eO (eQ eS eI eI)) z) (fun x11 x34 => [some ((eQ eI (eT (eP eI eI)) (eT eI)) a0), none, none, none, none]) Lf.ret (fun _ => rfl) (fun x11 => by repeat (first | exact wk_nil | apply wk_a | apply wk_s)) (fun x11 x12 x13 => (as_tp (ass_cons as_nm (ass_cons as_nm ass_nil)))) (fun x11 x12 x13 => (b_last (b_if (xt_tst (x_primT (xa_v (x_prim (xa_v (x_primT (xa_p (x_var (d := (eQ eI (eT (eP eI eI)) (eT eI)) a0) 0 rfl) (fun _ => (puQ puI (puT (puP puI puI)) (puT puI)) _) (fun x16 => (xa_v (x_c (eI 0)) (fun x17 => xa_nil)))) (fun _ => op_ixQ0 puI _)) (fun x18 => (xa_p (x_var (d := eI x13.2) 4 rfl) (fun _ => puI _) (fun x19 => xa_nil)))) (fun _ _ h => op_mul h)) (fun x21 => (xa_v (x_prim (xa_v (x_c (eI 1)) (fun x22 => (xa_v (x_callP (xa_p (x_var (d := (eQ eI (eT (eP eI eI)) (eT eI)) a0) 0 rfl) (fun _ => (puQ puI (puT (puP puI puI)) (puT puI)) _) (fun x23 => xa_nil)) rfl (fun _ _ h => tok_depth  _ _ h)) (fun x25 => xa_nil)))) (fun _ _ h => op_shl' h)) (fun x27 => xa_nil)))) (fun _ => op_ne eqI (by decide) _ _))) (fun x28 => (b_ret (X.as (x_tup (xa_v (x_c (eS "share")) (fun x29 => (xa_p (x_var (d := eI x7.1) 1 rfl) (fun _ => puI _) (fun x30 => (xa_p (x_var (d := eI x13.1) 3 rfl) (fun _ => puI _) (fun x31 => xa_nil)))))) rfl (by decide)) (fun x32 => (eQ eS eI eI) (("share" : Str), x7.1, x13.1)) rfl) (fun x33 => (Lf.ret (some (("share" : Str), x7.1, x13.1)))) (.inl rfl) (fun x33 => ql_ret rfl (by repeat (first | exact wk_nil | apply wk_a | apply wk_s))))) (fun x28 => (b_skip (b_endL (z := ()) (by repeat (first | exact wk_nil | apply wk_a | apply wk_s)))))))) (fun x11 x34 => ql_ret rfl (by repeat (first | exact wk_nil | apply wk_a | apply wk_s))) (fun x11 x12 => (b_endL (z := ()) (by repeat (first | exact wk_nil | apply wk_a | apply wk_s))))))) (fun x5 x36 => qf_ret rfl (by repeat (first | exact wk_nil | apply wk_a | apply wk_s))) (fun x5 x6 => (b_last (b_ret (x_c PyData.none) (fun x35 => none) (.inl rfl) (fun x35 => qf_ret rfl (by repeat (first | exact wk_nil | apply wk_a | apply wk_s))))))) (by dsimp only [p_share_bar])) rfl (by simp [okM]) (fun z => (coll_0P rfl coll_nilP))
theorem tok_bits_of (a0 : Int) (a1 : Int) : ∀ z, p_bits_of a0 a1 = some z → f_bits_of [eI a0, eI a1] = .ok ((eT eI) z) [eI a0, eI a1] :=
  fn_t (p0 := [some (eI a0), some (eI a1), none]) (m := p_bits_of a0 a1) (rv := fun (z : (List Int)) => (eT eI) z) (q := fun (z : (List Int)) => [some (eI a0), some (eI a1), none]) (outs := fun z => [eI a0, eI a1]) (B.cv (b_last (b_ret (x_primT (xa_v (x_mapP (ee := eI) (xi_mkP (xa_p (x_var (d := eI a1) 1 rfl) (fun _ => puI _) (fun x3 => xa_nil)) rfl puI (fun _ _ h => it_r1 h)) rfl (fun x5 x6 => as_nm) (fun x5 x6 => (x_primT (xa_v (x_prim (xa_p (x_var (d := eI a0) 0 rfl) (fun _ => puI _) (fun x9 => (xa_v (x_primT (xa_v (x_primT (xa_p (x_var (d := eI a1) 1 rfl) (fun _ => puI _) (fun x10 => (xa_v (x_c (eI 1)) (fun x11 => xa_nil)))) (fun _ => op_sub' _ _)) (fun x12 => (xa_p (x_var (d := eI x6) 2 rfl) (fun _ => puI _) (fun x13 => xa_nil)))) (fun _ => op_sub' _ _)) (fun x14 => xa_nil)))) (fun _ _ h => op_shr' h)) (fun x16 => (xa_v (x_c (eI 1)) (fun x17 => xa_nil)))) (fun _ => op_and' _ _))) (.inl rfl) (fun x5 x6 => ((shrT a0 ((a1 - (1 : Int)) - x6))).bind fun t15 => some (Builtin.bitAnd t15 (1 : Int))) (fun _ _ => by repeat (first | exact wk_nil | apply wk_a | apply wk_s)) (by intro x y z h; simp only [] at h ⊢; repeat (first | (obtain ⟨hl, h⟩ := lim_inv h; simp only [lim_of hl]) | (obtain ⟨_, h1, h⟩ := Option.bind_eq_some_iff.mp h; simp only [h1, Option.bind_some] at h ⊢) | (cases h; rfl)))) (fun x20 => xa_nil)) (fun _ => op_tupL puI _)) (fun x21 => x21.1.2.1) (.inl rfl) (fun x21 => qf_ret rfl (by repeat (first | exact wk_nil | apply wk_a | apply wk_s))))) (by dsimp only [p_bits_of])) rfl (by simp [okM]) (fun z => (coll_0P rfl (coll_0P rfl coll_nilP)))
theorem tok_row_bar (a0 : (Int × (List (Int × Int)) × (List Int))) : ∀ z, p_row_bar a0 = some z → f_row_bar [(eQ eI (eT (eP eI eI)) (eT eI)) a0] = .ok ((eO (eP eS (eT eI))) z) [(eQ eI (eT (eP eI eI)) (eT eI)) a0] :=
  fn_t (p0 := [some ((eQ eI (eT (eP eI eI)) (eT eI)) a0), none, none]) (m := p_row_bar a0) (rv := fun (z : (Option (Str × (List Int)))) => (eO (eP eS (eT eI))) z) (q := fun (z : (Option (Str × (List Int)))) => [some ((eQ eI (eT (eP eI eI)) (eT eI)) a0), none, none]) (outs := fun z => [(eQ eI (eT (eP eI eI)) (eT eI)) a0]) (B.cv (b_forR (xi_mkP (xa_v (x_prim (xa_v (x_c (eI 1)) (fun x2 => (xa_v (x_primT (xa_p (x_var (d := (eQ eI (eT (eP eI eI)) (eT eI)) a0) 0 rfl) (fun _ => (puQ puI (puT (puP puI puI)) (puT puI)) _) (fun x3 => (xa_v (x_c (eI 0)) (fun x4 => xa_nil)))) (fun _ => op_ixQ0 puI _)) (fun x5 => xa_nil)))) (fun _ _ h => op_shl' h)) (fun x7 => xa_nil)) rfl puI (fun _ _ h => it_r1 h)) (fun x9 (x10 : Unit) => [some ((eQ eI (eT (eP eI eI)) (eT eI)) a0), none, none]) (fun x9 => ()) (fun (z : (Option (Str × (List Int)))) => (eO (eP eS (eT eI))) z) (fun x9 x31 => [some ((eQ eI (eT (eP eI eI)) (eT eI)) a0), none, none]) (fun z => z) (fun _ => rfl) (fun x9 => by repeat (first | exact wk_nil | apply wk_a | apply wk_s)) (fun x9 x10 x11 => as_nm) (fun x9 x10 x11 => (b_set (x_callP (xa_p (x_var (d := eI x11) 1 rfl) (fun _ => puI _) (fun x14 => (xa_v (x_primT (xa_p (x_var (d := (eQ eI (eT (eP eI eI)) (eT eI)) a0) 0 rfl) (fun _ => (puQ puI (puT (puP puI puI)) (puT puI)) _) (fun x15 => (xa_v (x_c (eI 0)) (fun x16 => xa_nil)))) (fun _ => op_ixQ0 puI _)) (fun x17 => xa_nil)))) rfl (fun _ _ h => tok_bits_of  _ _ _ h)) (.inl rfl) (fun x19 => (b_last (b_if (xt_not (xt_tstA (x_callP (xa_v (x_callP (xa_p (x_var (d := (eQ eI (eT (eP eI eI)) (eT eI)) a0) 0 rfl) (fun _ => (puQ puI (puT (puP puI puI)) (puT puI)) _) (fun x20 => (xa_p (x_var (d := (eT eI) x19.2) 2 rfl) (fun _ => (puT puI) _) (fun x21 => xa_nil)))) rfl (fun _ _ h => tok_compared  _ _ _ h)) (fun x23 => xa_nil)) rfl (fun _ _ h => tok_falls  _ _ h)) (fun _ => tr_B _))) (fun x25 => (b_ret (X.as (x_tup (xa_v (x_c (eS "row")) (fun x26 => (xa_p (x_var (d := (eT eI) x19.2) 2 rfl) (fun _ => (puT puI) _) (fun x27 => xa_nil)))) rfl (by decide)) (fun x28 => (eP eS (eT eI)) (("row" : Str), x19.2)) rfl) (fun x29 => (Lf.ret (some (("row" : Str), x19.2)))) (.inl rfl) (fun x29 => ql_ret rfl (by repeat (first | exact wk_nil | apply wk_a | apply wk_s))))) (fun x25 => (b_skip (b_endL (z := ()) (by repeat (first | exact wk_nil | apply wk_a | apply wk_s)))))))))) (fun x9 x31 => qf_ret rfl (by repeat (first | exact wk_nil | apply wk_a | apply wk_s))) (fun x9 x10 => (b_last (b_ret (x_c PyData.none) (fun x30 => none) (.inl rfl) (fun x30 => qf_ret rfl (by repeat (first | exact wk_nil | apply wk_a | apply wk_s))))))) (by dsimp only [p_row_bar])) rfl (by simp [okM]) (fun z => (coll_0P rfl coll_nilP))
theorem tok_bar (a0 : (Int × (List (Int × Int)) × (List Int))) : ∀ z, p_bar a0 = some z → f_bar [(eQ eI (eT (eP eI eI)) (eT eI)) a0] = .ok (eV z) [(eQ eI (eT (eP eI eI)) (eT eI)) a0] :=
  fn_t (p0 := [some ((eQ eI (eT (eP eI eI)) (eT eI)) a0), none]) (m := p_bar a0) (rv := fun (z : PD) => eV z) (q := fun (z : PD) => [some ((eQ eI (eT (eP eI eI)) (eT eI)) a0), none]) (outs := fun z => [(eQ eI (eT (eP eI eI)) (eT eI)) a0]) (B.cv (b_if (xt_tst (x_primT (xa_v (x_callP (xa_v (x_primT (xa_p (x_var (d := (eQ eI (eT (eP eI eI)) (eT eI)) a0) 0 rfl) (fun _ => (puQ puI (puT (puP puI puI)) (puT puI)) _) (fun x2 => (xa_v (x_c (eI 0)) (fun x3 => xa_nil)))) (fun _ => op_ixQ0 puI _)) (fun x4 => xa_nil)) rfl (fun _ _ h => tok_least_depth  _ _ h)) (fun x6 => (xa_v (x_c PyData.none) (fun x7 => xa_nil)))) (fun _ => op_isN (fun _ => rfl) _))) (fun x8 => (b_ret (X.as (X.as (x_tup (xa_v (x_c (eS "lanes")) (fun x9 => xa_nil)) rfl (by decide)) (fun x10 => (eT eS) [("lanes" : Str)]) rfl) (fun x11 => eV (toPD (puT puS) [("lanes" : Str)])) rfl) (fun x12 => (toPD (puT puS) [("lanes" : Str)])) (.inl rfl) (fun x12 => qf_ret rfl (by repeat (first | exact wk_nil | apply wk_a | apply wk_s))))) (fun x8 => (b_skip (b_if (xt_tstA (x_callP (xa_p (x_var (d := (eQ eI (eT (eP eI eI)) (eT eI)) a0) 0 rfl) (fun _ => (puQ puI (puT (puP puI puI)) (puT puI)) _) (fun x13 => xa_nil)) rfl (fun _ _ h => tok_is_shallow  _ _ h)) (fun _ => tr_B _)) (fun x15 => (b_ret (X.as (X.as (x_tup (xa_v (x_c (eS "depth")) (fun x16 => xa_nil)) rfl (by decide)) (fun x17 => (eT eS) [("depth" : Str)]) rfl) (fun x18 => eV (toPD (puT puS) [("depth" : Str)])) rfl) (fun x19 => (toPD (puT puS) [("depth" : Str)])) (.inl rfl) (fun x19 => qf_ret rfl (by repeat (first | exact wk_nil | apply wk_a | apply wk_s))))) (fun x15 => (b_skip (b_setL eV (X.as (x_callP (xa_p (x_var (d := (eQ eI (eT (eP eI eI)) (eT eI)) a0) 0 rfl) (fun _ => (puQ puI (puT (puP puI puI)) (puT puI)) _) (fun x20 => xa_nil)) rfl (fun _ _ h => tok_share_bar  _ _ h)) (fun x22 => eV (toPD (puO' (puQ puS puI puI)) x22.2)) rfl) (.inl rfl) (fun x23 x24 => (b_ifj (xt_andT (xt_tst (x_primT (xa_p (x_var (d := eV x24) 1 rfl) (fun _ => puV _) (fun x26 => (xa_v (x_c PyData.none) (fun x27 => xa_nil)))) (fun _ => tr_isN _))) (fun x28 => (xt_tst (x_primT (xa_v (x_primT (xa_p (x_var (d := (eQ eI (eT (eP eI eI)) (eT eI)) a0) 0 rfl) (fun _ => (puQ puI (puT (puP puI puI)) (puT puI)) _) (fun x29 => (xa_v (x_c (eI 0)) (fun x30 => xa_nil)))) (fun _ => op_ixQ0 puI _)) (fun x31 => (xa_v (x_c (eI 8)) (fun x32 => xa_nil)))) (fun _ => op_le' _ _))))) (fun x33 (x40 : (PD)) => [some ((eQ eI (eT (eP eI eI)) (eT eI)) a0), some (eV x40)]) (fun x33 => (b_last (b_setL eV (X.as (x_callP (xa_p (x_var (d := (eQ eI (eT (eP eI eI)) (eT eI)) a0) 0 rfl) (fun _ => (puQ puI (puT (puP puI puI)) (puT puI)) _) (fun x34 => xa_nil)) rfl (fun _ _ h => tok_row_bar  _ _ h)) (fun x36 => eV (toPD (puO' (puP puS (puT puI))) x36.2)) rfl) (.inl rfl) (fun x37 x38 => (b_end (z := x38) (by repeat (first | exact wk_nil | apply wk_a | apply wk_s))))))) (fun x33 => (b_end (z := x24) (by repeat (first | exact wk_nil | apply wk_a | apply wk_s)))) (fun x33 x40 => (b_last (b_ret (x_var (d := eV x40) 1 rfl) (fun x42 => x40) (.inr (fun _ => puV _)) (fun x42 => qf_ret rfl (by repeat (first | exact wk_nil | apply wk_a | apply wk_s))))))))))))))) (by dsimp only [p_bar])) rfl (by simp [okM]) (fun z => (coll_0P rfl coll_nilP))
theorem tok_is_below (a0 : PD) (a1 : Int) : ∀ z, p_is_below a0 a1 = some z → f_is_below [eV a0, eI a1] = .ok (eB z) [eV a0, eI a1] :=
  fn_t (p0 := [some (eV a0), some (eI a1)]) (m := p_is_below a0 a1) (rv := fun (z : Bool) => eB z) (q := fun (z : Bool) => [some (eV a0), some (eI a1)]) (outs := fun z => [eV a0, eI a1]) (B.cv (b_last (b_ret (x_andP (x_primT (xa_p (x_var (d := eV a0) 0 rfl) (fun _ => puV _) (fun x3 => xa_nil)) (fun _ => op_isiD .int _)) (fun x4 => (x_andP (x_not (x_primT (xa_p (x_var (d := eV a0) 0 rfl) (fun _ => puV _) (fun x5 => xa_nil)) (fun _ => op_isiD .bool _))) (fun x6 => (x_chain (xa_v (x_c (eI 0)) (fun x7 => (xa_p (x_dn eI dnI (x_var (d := eV a0) 0 rfl) (fun x9 => a0) (fun _ => rfl)) (fun _ => puI _) (fun x10 => xa_nil)))) (fun x11 => (x_var (d := eI a1) 1 rfl)) (fun _ => op_le' _ _) (fun _ => op_lt' _ _)))))) (fun x14 => x14.2) (.inr (fun _ => puB _)) (fun x14 => qf_ret rfl (by repeat (first | exact wk_nil | apply wk_a | apply wk_s))))) (by dsimp only [p_is_below])) rfl (by simp [okM]) (fun z => (coll_0P rfl (coll_0P rfl coll_nilP)))
theorem tok_is_share_bar (a0 : (Int × (List (Int × Int)) × (List Int))) (a1 : PD) : ∀ z, p_is_share_bar a0 a1 = some z → f_is_share_bar [(eQ eI (eT (eP eI eI)) (eT eI)) a0, eV a1] = .ok (eB z) [(eQ eI (eT (eP eI eI)) (eT eI)) a0, eV a1] :=
  fn_t (p0 := [some ((eQ eI (eT (eP eI eI)) (eT eI)) a0), some (eV a1), none, none, none]) (m := p_is_share_bar a0 a1) (rv := fun (z : Bool) => eB z) (q := fun (z : Bool) => [some ((eQ eI (eT (eP eI eI)) (eT eI)) a0), some (eV a1), none, none, none]) (outs := fun z => [(eQ eI (eT (eP eI eI)) (eT eI)) a0, eV a1]) (B.cv (b_if (xt_orP (xt_tst (x_primT (xa_v (x_prim (xa_p (x_var (d := eV a1) 1 rfl) (fun _ => puV _) (fun x3 => xa_nil)) (fun _ _ h => dI_ok h)) (fun x5 => (xa_v (x_c (eI 2)) (fun x6 => xa_nil)))) (fun _ => op_ne eqI (by decide) _ _))) (fun x7 => (xt_not (xt_tstA (x_primT (xa_v (x_mapP (ee := eB) (xi_mkP (xa_p (x_var (d := eV a1) 1 rfl) (fun _ => puV _) (fun x8 => xa_nil)) rfl puV (fun _ _ h => it_V h)) rfl (fun x10 x11 => as_nm) (fun x10 x11 => (x_callP (xa_p (x_var (d := eV x11) 2 rfl) (fun _ => puV _) (fun x14 => (xa_v (x_primT (xa_p (x_var (d := (eQ eI (eT (eP eI eI)) (eT eI)) a0) 0 rfl) (fun _ => (puQ puI (puT (puP puI puI)) (puT puI)) _) (fun x15 => (xa_v (x_c (eI 0)) (fun x16 => xa_nil)))) (fun _ => op_ixQ0 puI _)) (fun x17 => xa_nil)))) rfl (fun _ _ h => tok_is_below  _ _ _ h))) (.inl rfl) (fun x10 x11 => ((p_is_below  x11 a0.1)).bind fun t18 => some t18) (fun _ _ => by repeat (first | exact wk_nil | apply wk_a | apply wk_s)) (by intro x y z h; simp only [] at h ⊢; repeat (first | (obtain ⟨hl, h⟩ := lim_inv h; simp only [lim_of hl]) | (obtain ⟨_, h1, h⟩ := Option.bind_eq_some_iff.mp h; simp only [h1, Option.bind_some] at h ⊢) | (cases h; rfl)))) (fun x21 => xa_nil)) (fun _ => op_all _)) (fun _ => tr_B _))))) (fun x23 => (b_ret (x_c (eB false)) (fun x24 => false) (.inl rfl) (fun x24 => qf_ret rfl (by repeat (first | exact wk_nil | apply wk_a | apply wk_s))))) (fun x23 => (b_skip (b_asg (x_dn (eP eV eV) (dnP dnV dnV) (x_var (d := eV a1) 1 rfl) (fun x26 => a1) (fun _ => rfl)) (.inr (fun _ => (puP puV puV) _)) (fun _ => (as_tp (ass_cons as_nm (ass_cons as_nm ass_nil)))) (fun x27 => (b_last (b_ret (x_primT (xa_v (x_prim (xa_v (x_primT (xa_p (x_var (d := (eQ eI (eT (eP eI eI)) (eT eI)) a0) 0 rfl) (fun _ => (puQ puI (puT (puP puI puI)) (puT puI)) _) (fun x28 => (xa_v (x_c (eI 0)) (fun x29 => xa_nil)))) (fun _ => op_ixQ0 puI _)) (fun x30 => (xa_v (x_prim (xa_v (x_prim (xa_v (x_callP (xa_p (x_var (d := (eQ eI (eT (eP eI eI)) (eT eI)) a0) 0 rfl) (fun _ => (puQ puI (puT (puP puI puI)) (puT puI)) _) (fun x31 => xa_nil)) rfl (fun _ _ h => tok_shares  _ _ h)) (fun x33 => (xa_p (x_dn eI dnI (x_var (d := eV x27.2.1) 3 rfl) (fun x35 => x27.2.1) (fun _ => rfl)) (fun _ => puI _) (fun x36 => xa_nil)))) (fun _ _ h => op_ixT (puT puI) h)) (fun x38 => (xa_p (x_dn eI dnI (x_var (d := eV x27.2.2) 4 rfl) (fun x40 => x27.2.2) (fun _ => rfl)) (fun _ => puI _) (fun x41 => xa_nil)))) (fun _ _ h => op_ixT puI h)) (fun x43 => xa_nil)))) (fun _ _ h => op_mul h)) (fun x45 => (xa_v (x_prim (xa_v (x_c (eI 1)) (fun x46 => (xa_v (x_callP (xa_p (x_var (d := (eQ eI (eT (eP eI eI)) (eT eI)) a0) 0 rfl) (fun _ => (puQ puI (puT (puP puI puI)) (puT puI)) _) (fun x47 => xa_nil)) rfl (fun _ _ h => tok_depth  _ _ h)) (fun x49 => xa_nil)))) (fun _ _ h => op_shl' h)) (fun x51 => xa_nil)))) (fun _ => op_ne eqI (by decide) _ _)) (fun x52 => (!decide (x52.1.2 = x52.2.1.2))) (.inl rfl) (fun x52 => qf_ret rfl (by repeat (first | exact wk_nil | apply wk_a | apply wk_s)))))))))) (by dsimp only [p_is_share_bar])) rfl (by simp [okM]) (fun z => (coll_0P rfl (coll_0P rfl coll_nilP)))
theorem tok_is_row_bar (a0 : (Int × (List (Int × Int)) × (List Int))) (a1 : PD) : ∀ z, p_is_row_bar a0 a1 = some z → f_is_row_bar [(eQ eI (eT (eP eI eI)) (eT eI)) a0, eV a1] = .ok (eB z) [(eQ eI (eT (eP eI eI)) (eT eI)) a0, eV a1] :=
  fn_t (p0 := [some ((eQ eI (eT (eP eI eI)) (eT eI)) a0), some (eV a1), none]) (m := p_is_row_bar a0 a1) (rv := fun (z : Bool) => eB z) (q := fun (z : Bool) => [some ((eQ eI (eT (eP eI eI)) (eT eI)) a0), some (eV a1), none]) (outs := fun z => [(eQ eI (eT (eP eI eI)) (eT eI)) a0, eV a1]) (B.cv (b_if (xt_orP (xt_tst (x_primT (xa_v (x_prim (xa_p (x_var (d := eV a1) 1 rfl) (fun _ => puV _) (fun x3 => xa_nil)) (fun _ _ h => dI_ok h)) (fun x5 => (xa_v (x_c (eI 1)) (fun x6 => xa_nil)))) (fun _ => op_ne eqI (by decide) _ _))) (fun x7 => (xt_orP (xt_not (xt_tstA (x_primT (xa_v (x_prim (xa_p (x_var (d := eV a1) 1 rfl) (fun _ => puV _) (fun x8 => (xa_v (x_c (eI 0)) (fun x9 => xa_nil)))) (fun _ _ h => dP_ok h)) (fun x11 => xa_nil)) (fun _ => op_isiD .tup _)) (fun _ => tr_B _))) (fun x12 => (xt_tst (x_primT (xa_v (x_prim (xa_v (x_prim (xa_p (x_var (d := eV a1) 1 rfl) (fun _ => puV _) (fun x13 => (xa_v (x_c (eI 0)) (fun x14 => xa_nil)))) (fun _ _ h => dP_ok h)) (fun x16 => xa_nil)) (fun _ _ h => dI_ok h)) (fun x18 => (xa_v (x_primT (xa_p (x_var (d := (eQ eI (eT (eP eI eI)) (eT eI)) a0) 0 rfl) (fun _ => (puQ puI (puT (puP puI puI)) (puT puI)) _) (fun x19 => (xa_v (x_c (eI 0)) (fun x20 => xa_nil)))) (fun _ => op_ixQ0 puI _)) (fun x21 => xa_nil)))) (fun _ => op_ne eqI (by decide) _ _))))))) (fun x24 => (b_ret (x_c (eB false)) (fun x25 => false) (.inl rfl) (fun x25 => qf_ret rfl (by repeat (first | exact wk_nil | apply wk_a | apply wk_s))))) (fun x24 => (b_skip (b_last (b_ret (x_andP (x_primT (xa_v (x_mapP (ee := eB) (xi_mkP (xa_v (x_prim (xa_p (x_var (d := eV a1) 1 rfl) (fun _ => puV _) (fun x26 => (xa_v (x_c (eI 0)) (fun x27 => xa_nil)))) (fun _ _ h => dP_ok h)) (fun x29 => xa_nil)) rfl puV (fun _ _ h => it_V h)) rfl (fun x31 x32 => as_nm) (fun x31 x32 => (x_callP (xa_p (x_var (d := eV x32) 2 rfl) (fun _ => puV _) (fun x35 => (xa_v (x_c (eI 2)) (fun x36 => xa_nil)))) rfl (fun _ _ h => tok_is_below  _ _ _ h))) (.inl rfl) (fun x31 x32 => ((p_is_below  x32 (2 : Int))).bind fun t37 => some t37) (fun _ _ => by repeat (first | exact wk_nil | apply wk_a | apply wk_s)) (by intro x y z h; simp only [] at h ⊢; repeat (first | (obtain ⟨hl, h⟩ := lim_inv h; simp only [lim_of hl]) | (obtain ⟨_, h1, h⟩ := Option.bind_eq_some_iff.mp h; simp only [h1, Option.bind_some] at h ⊢) | (cases h; rfl)))) (fun x40 => xa_nil)) (fun _ => op_all _)) (fun x41 => (x_not (x_callP (xa_v (x_callP (xa_p (x_var (d := (eQ eI (eT (eP eI eI)) (eT eI)) a0) 0 rfl) (fun _ => (puQ puI (puT (puP puI puI)) (puT puI)) _) (fun x42 => (xa_v (x_dn (eT eI) (dnT dnI) (x_prim (xa_p (x_var (d := eV a1) 1 rfl) (fun _ => puV _) (fun x43 => (xa_v (x_c (eI 0)) (fun x44 => xa_nil)))) (fun _ _ h => dP_ok h)) (fun x47 => x47.2) (fun _ => rfl)) (fun x48 => xa_nil)))) rfl (fun _ _ h => tok_compared  _ _ _ h)) (fun x50 => xa_nil)) rfl (fun _ _ h => tok_falls  _ _ h))))) (fun x53 => x53.2) (.inr (fun _ => puB _)) (fun x53 => qf_ret rfl (by repeat (first | exact wk_nil | apply wk_a | apply wk_s)))))))) (by dsimp only [p_is_row_bar])) rfl (by simp [okM]) (fun z => (coll_0P rfl (coll_0P rfl coll_nilP)))
theorem tok_shows_bar (a0 : (Int × (List (Int × Int)) × (List Int))) (a1 : PD) : ∀ z, p_shows_bar a0 a1 = some z → f_shows_bar [(eQ eI (eT (eP eI eI)) (eT eI)) a0, eV a1] = .ok (eB z) [(eQ eI (eT (eP eI eI)) (eT eI)) a0, eV a1] :=
  fn_t (p0 := [some ((eQ eI (eT (eP eI eI)) (eT eI)) a0), some (eV a1), none, none]) (m := p_shows_bar a0 a1) (rv := fun (z : Bool) => eB z) (q := fun (z : Bool) => [some ((eQ eI (eT (eP eI eI)) (eT eI)) a0), some (eV a1), none, none]) (outs := fun z => [(eQ eI (eT (eP eI eI)) (eT eI)) a0, eV a1]) (B.cv (b_if (xt_orP (xt_not (xt_tstA (x_primT (xa_p (x_var (d := eV a1) 1 rfl) (fun _ => puV _) (fun x3 => xa_nil)) (fun _ => op_isiD .tup _)) (fun _ => tr_B _))) (fun x4 => (xt_orP (xt_tst (x_primT (xa_v (x_prim (xa_p (x_var (d := eV a1) 1 rfl) (fun _ => puV _) (fun x5 => xa_nil)) (fun _ _ h => dI_ok h)) (fun x7 => (xa_v (x_c (eI 0)) (fun x8 => xa_nil)))) (fun _ => op_eq eqI (by decide) _ _))) (fun x9 => (xt_not (xt_tstA (x_primT (xa_v (x_prim (xa_p (x_var (d := eV a1) 1 rfl) (fun _ => puV _) (fun x10 => (xa_v (x_c (eI 0)) (fun x11 => xa_nil)))) (fun _ _ h => dP_ok h)) (fun x13 => xa_nil)) (fun _ => op_isiD .str _)) (fun _ => tr_B _))))))) (fun x16 => (b_ret (x_c (eB false)) (fun x17 => false) (.inl rfl) (fun x17 => qf_ret rfl (by repeat (first | exact wk_nil | apply wk_a | apply wk_s))))) (fun x16 => (b_skip (b_par (xa_v (x_prim (xa_p (x_var (d := eV a1) 1 rfl) (fun _ => puV _) (fun x18 => (xa_v (x_c (eI 0)) (fun x19 => xa_nil)))) (fun _ _ h => dP_ok h)) (fun x21 => (xa_v (x_slP (x_var (d := eV a1) 1 rfl) (fun x22 => (xpr_some (x_c (eI 1)))) (fun x22 x23 => xpr_none) (fun _ _ _ _ h => op_slV h)) (fun x26 => xa_nil)))) rfl (fun _ => rfl) (fun _ => put2) (fun x27 => (b_if (xt_tst (x_prim (xa_p (x_var (d := eV x27.1.2) 2 rfl) (fun _ => puV _) (fun x28 => (xa_v (x_c (eS "lanes")) (fun x29 => xa_nil)))) (fun _ _ h => dB_ok h))) (fun x31 => (b_ret (x_andP (x_prim (xa_p (x_var (d := eV x27.2.1.2.2.2) 3 rfl) (fun _ => puV _) (fun x32 => (xa_v (X.as (x_tup xa_nil rfl (by decide)) (fun x33 => (eT eI) ([] : (List Int))) rfl) (fun x34 => xa_nil)))) (fun _ _ h => dB_ok h)) (fun x36 => (x_primT (xa_v (x_callP (xa_v (x_primT (xa_p (x_var (d := (eQ eI (eT (eP eI eI)) (eT eI)) a0) 0 rfl) (fun _ => (puQ puI (puT (puP puI puI)) (puT puI)) _) (fun x37 => (xa_v (x_c (eI 0)) (fun x38 => xa_nil)))) (fun _ => op_ixQ0 puI _)) (fun x39 => xa_nil)) rfl (fun _ _ h => tok_least_depth  _ _ h)) (fun x41 => (xa_v (x_c PyData.none) (fun x42 => xa_nil)))) (fun _ => op_isN (fun _ => rfl) _)))) (fun x44 => x44.2) (.inr (fun _ => puB _)) (fun x44 => qf_ret rfl (by repeat (first | exact wk_nil | apply wk_a | apply wk_s))))) (fun x31 => (b_skip (b_if (xt_tst (x_prim (xa_p (x_var (d := eV x27.1.2) 2 rfl) (fun _ => puV _) (fun x45 => (xa_v (x_c (eS "depth")) (fun x46 => xa_nil)))) (fun _ _ h => dB_ok h))) (fun x48 => (b_ret (x_andP (x_prim (xa_p (x_var (d := eV x27.2.1.2.2.2) 3 rfl) (fun _ => puV _) (fun x49 => (xa_v (X.as (x_tup xa_nil rfl (by decide)) (fun x50 => (eT eI) ([] : (List Int))) rfl) (fun x51 => xa_nil)))) (fun _ _ h => dB_ok h)) (fun x53 => (x_callP (xa_p (x_var (d := (eQ eI (eT (eP eI eI)) (eT eI)) a0) 0 rfl) (fun _ => (puQ puI (puT (puP puI puI)) (puT puI)) _) (fun x54 => xa_nil)) rfl (fun _ _ h => tok_is_shallow  _ _ h)))) (fun x57 => x57.2) (.inr (fun _ => puB _)) (fun x57 => qf_ret rfl (by repeat (first | exact wk_nil | apply wk_a | apply wk_s))))) (fun x48 => (b_skip (b_if (xt_tst (x_prim (xa_p (x_var (d := eV x27.1.2) 2 rfl) (fun _ => puV _) (fun x58 => (xa_v (x_c (eS "share")) (fun x59 => xa_nil)))) (fun _ _ h => dB_ok h))) (fun x61 => (b_ret (x_callP (xa_p (x_var (d := (eQ eI (eT (eP eI eI)) (eT eI)) a0) 0 rfl) (fun _ => (puQ puI (puT (puP puI puI)) (puT puI)) _) (fun x62 => (xa_p (x_var (d := eV x27.2.1.2.2.2) 3 rfl) (fun _ => puV _) (fun x63 => xa_nil)))) rfl (fun _ _ h => tok_is_share_bar  _ _ _ h)) (fun x65 => x65.2) (.inl rfl) (fun x65 => qf_ret rfl (by repeat (first | exact wk_nil | apply wk_a | apply wk_s))))) (fun x61 => (b_skip (b_last (b_ret (x_andP (x_prim (xa_p (x_var (d := eV x27.1.2) 2 rfl) (fun _ => puV _) (fun x66 => (xa_v (x_c (eS "row")) (fun x67 => xa_nil)))) (fun _ _ h => dB_ok h)) (fun x69 => (x_callP (xa_p (x_var (d := (eQ eI (eT (eP eI eI)) (eT eI)) a0) 0 rfl) (fun _ => (puQ puI (puT (puP puI puI)) (puT puI)) _) (fun x70 => (xa_p (x_var (d := eV x27.2.1.2.2.2) 3 rfl) (fun _ => puV _) (fun x71 => xa_nil)))) rfl (fun _ _ h => tok_is_row_bar  _ _ _ h)))) (fun x74 => x74.2) (.inr (fun _ => puB _)) (fun x74 => qf_ret rfl (by repeat (first | exact wk_nil | apply wk_a | apply wk_s))))))))))))))))))) (by dsimp only [p_shows_bar])) rfl (by simp [okM]) (fun z => (coll_0P rfl (coll_0P rfl coll_nilP)))
theorem tok__law_cell_at (a0 : (List Int)) (a1 : Int) : ∀ z, p__law_cell_at a0 a1 = some z → f__law_cell_at [eZ a0, eI a1] = .ok (eI z) [eZ a0, eI a1] :=
  fn_t (p0 := [some (eZ a0), some (eI a1)]) (m := p__law_cell_at a0 a1) (rv := fun (z : Int) => eI z) (q := fun (z : Int) => [some (eZ a0), some (eI a1)]) (outs := fun z => [eZ a0, eI a1]) (B.cv (b_if (xt_tst (x_primT (xa_p (x_var (d := eI a1) 1 rfl) (fun _ => puI _) (fun x3 => (xa_v (x_primT (xa_p (x_var (d := eZ a0) 0 rfl) (fun _ => puZ _) (fun x4 => xa_nil)) (fun _ => op_lenZ _)) (fun x5 => xa_nil)))) (fun _ => op_lt' _ _))) (fun x6 => (b_ret (x_prim (xa_p (x_var (d := eZ a0) 0 rfl) (fun _ => puZ _) (fun x7 => (xa_p (x_var (d := eI a1) 1 rfl) (fun _ => puI _) (fun x8 => xa_nil)))) (fun _ _ h => op_ixZ h)) (fun x10 => x10.2) (.inl rfl) (fun x10 => qf_ret rfl (by repeat (first | exact wk_nil | apply wk_a | apply wk_s))))) (fun x6 => (b_skip (b_last (b_ret (x_c (eI 0)) (fun x11 => (0 : Int)) (.inl rfl) (fun x11 => qf_ret rfl (by repeat (first | exact wk_nil | apply wk_a | apply wk_s)))))))) (by dsimp only [p__law_cell_at])) rfl (by simp [okM]) (fun z => (coll_0P rfl (coll_0P rfl coll_nilP)))
theorem tok__law_left (a0 : (List Int)) (a1 : Int) : ∀ z, p__law_left a0 a1 = some z → f__law_left [eZ a0, eI a1] = .ok ((eL eI) z) [eZ a0, eI a1] :=
  fn_t (p0 := [some (eZ a0), some (eI a1), none, none]) (m := p__law_left a0 a1) (rv := fun (z : (List Int)) => (eL eI) z) (q := fun (z : (List Int)) => [some (eZ a0), some (eI a1), none, none]) (outs := fun z => [eZ a0, eI a1]) (B.cv (b_set (x_callP (xa_p (x_var (d := eZ a0) 0 rfl) (fun _ => puZ _) (fun x3 => (xa_v (x_prim (xa_p (x_var (d := eI a1) 1 rfl) (fun _ => puI _) (fun x4 => (xa_v (x_primT (xa_v (x_c (eI 1)) (fun x5 => (xa_v (x_primT (xa_p (x_var (d := eZ a0) 0 rfl) (fun _ => puZ _) (fun x6 => xa_nil)) (fun _ => op_lenZ _)) (fun x7 => xa_nil)))) (fun _ => op_max2 _ _)) (fun x8 => xa_nil)))) (fun _ _ h => op_mod' h)) (fun x10 => xa_nil)))) rfl (fun _ _ h => tok__law_cell_at  _ _ _ h)) (.inl rfl) (fun x12 => (b_setL eI (x_primT (xa_v (x_primT (xa_v (x_primT (xa_v (x_primT (xa_v (x_primT (xa_p (x_var (d := eI x12.2) 2 rfl) (fun _ => puI _) (fun x13 => (xa_v (x_c (eI 2147483629)) (fun x14 => xa_nil)))) (fun _ => op_modC (by decide +kernel))) (fun x15 => (xa_v (x_prim (xa_v (x_primT (xa_v (x_c (eI 7919)) (fun x16 => (xa_p (x_var (d := eI a1) 1 rfl) (fun _ => puI _) (fun x17 => xa_nil)))) (fun _ => op_mulL (by decide +kernel))) (fun x18 => (xa_p (x_var (d := eI a1) 1 rfl) (fun _ => puI _) (fun x19 => xa_nil)))) (fun _ _ h => op_mul h)) (fun x21 => xa_nil)))) (fun _ => op_add _ _)) (fun x22 => (xa_v (x_c (eI 11)) (fun x23 => xa_nil)))) (fun _ => op_add _ _)) (fun x24 => (xa_v (x_c (eI 48271)) (fun x25 => xa_nil)))) (fun _ => op_mulR (by decide +kernel))) (fun x26 => (xa_v (x_c (eI 2147483647)) (fun x27 => xa_nil)))) (fun _ => op_modC (by decide +kernel))) (.inl rfl) (fun x28 x29 => (b_last (b_ret (X.as (x_lst (xa_v (x_prim (xa_v (x_primT (xa_p (x_var (d := eI x12.2) 2 rfl) (fun _ => puI _) (fun x31 => (xa_v (x_primT (xa_v (x_primT (xa_p (x_var (d := eI x12.2) 2 rfl) (fun _ => puI _) (fun x32 => (xa_v (x_primT (xa_v (x_c (eI 10)) (fun x33 => (xa_v (x_c (eI 18)) (fun x34 => xa_nil)))) (fun _ => op_powC (c := 1000000000000000000) (by decide +kernel) (by decide +kernel))) (fun x35 => xa_nil)))) (fun _ => op_ge' _ _)) (fun x36 => xa_nil)) (fun _ => op_intB _)) (fun x37 => xa_nil)))) (fun _ => op_mulB _ _)) (fun x38 => (xa_v (x_ten 4000 (by decide) (by decide)) (fun x39 => xa_nil)))) (fun _ _ h => op_mod' h)) (fun x41 => (xa_p (x_var (d := eI x29) 3 rfl) (fun _ => puI _) (fun x42 => xa_nil)))) rfl (by decide)) (fun x43 => (eL eI) [x43.1.2, x29]) rfl) (fun x44 => [x44.1.2, x29]) (.inl rfl) (fun x44 => qf_ret rfl (by repeat (first | exact wk_nil | apply wk_a | apply wk_s))))))))) (by dsimp only [p__law_left])) rfl (by simp [okM]) (fun z => (coll_0P rfl (coll_0P rfl coll_nilP)))
theorem tok__law_pick (a0 : (List Int)) (a1 : Int) : ∀ z, p__law_pick a0 a1 = some z → f__law_pick [(eL eI) a0, eI a1] = .ok (eI z.1) [(eL eI) z.2, eI a1] :=
  fn_t (p0 := [some ((eL eI) a0), some (eI a1), none]) (m := p__law_pick a0 a1) (rv := fun (z : (Int × (List Int))) => eI z.1) (q := fun (z : (Int × (List Int))) => [some ((eL eI) z.2), some (eI a1), none]) (outs := fun z => [(eL eI) z.2, eI a1]) (B.cv (b_if (xt_tst (x_primT (xa_v (x_prim (xa_s 0 rfl (xa_v (x_c (eI 0)) (fun x3 => xa_nil)) (fun _ => rfl) (fun _ => puL)) (fun _ _ h => op_ixL puI h)) (fun x5 => (xa_v (x_c (eI 0)) (fun x6 => xa_nil)))) (fun _ => op_gt' _ _))) (fun x7 => (b_asc (b_set (x_prim (xa_v (x_prim (xa_s 0 rfl (xa_v (x_c (eI 0)) (fun x8 => xa_nil)) (fun _ => rfl) (fun _ => puL)) (fun _ _ h => op_ixL puI h)) (fun x10 => (xa_p (x_var (d := eI a1) 1 rfl) (fun _ => puI _) (fun x11 => xa_nil)))) (fun _ _ h => op_mod' h)) (.inl rfl) (fun x13 => (b_asc (b_setIx (e1 := eI) (x_prim (xa_v (x_prim (xa_s 0 rfl (xa_v (x_c (eI 0)) (fun x14 => xa_nil)) (fun _ => rfl) (fun _ => puL)) (fun _ _ h => op_ixL puI h)) (fun x16 => (xa_p (x_var (d := eI a1) 1 rfl) (fun _ => puI _) (fun x17 => xa_nil)))) (fun _ _ h => op_div h)) puI (fun _ => ⟨_, rfl⟩) (fun x19 => (x_c (eI 0))) (fun _ _ => .inl rfl) (fun _ _ => rfl) (fun x19 x20 x21 => (b_ret (x_var (d := eI x13.2) 2 rfl) (fun x23 => (x13.2, x21)) (.inr (fun _ => puI _)) (fun x23 => qf_ret rfl (by repeat (first | exact wk_nil | apply wk_a | apply wk_s))))))))))) (fun x7 => (b_skip (b_setIx (e1 := eI) (x_primT (xa_v (x_primT (xa_v (x_primT (xa_v (x_prim (xa_s 0 rfl (xa_v (x_c (eI 1)) (fun x24 => xa_nil)) (fun _ => rfl) (fun _ => puL)) (fun _ _ h => op_ixL puI h)) (fun x26 => (xa_v (x_c (eI 48271)) (fun x27 => xa_nil)))) (fun _ => op_mulR (by decide +kernel))) (fun x28 => (xa_v (x_c (eI 12345)) (fun x29 => xa_nil)))) (fun _ => op_add _ _)) (fun x30 => (xa_v (x_c (eI 2147483647)) (fun x31 => xa_nil)))) (fun _ => op_modC (by decide +kernel))) puI (fun _ => ⟨_, rfl⟩) (fun x32 => (x_c (eI 1))) (fun _ _ => .inl rfl) (fun _ _ => rfl) (fun x32 x33 x34 => (b_last (b_ret (x_prim (xa_v (x_primT (xa_v (x_prim (xa_v (x_prim (xa_s 0 rfl (xa_v (x_c (eI 1)) (fun x36 => xa_nil)) (fun _ => rfl) (fun _ => puL)) (fun _ _ h => op_ixL puI h)) (fun x38 => (xa_v (x_prim (xa_s 0 rfl (xa_v (x_c (eI 1)) (fun x39 => xa_nil)) (fun _ => rfl) (fun _ => puL)) (fun _ _ h => op_ixL puI h)) (fun x41 => xa_nil)))) (fun _ _ h => op_mul h)) (fun x43 => (xa_v (x_c (eI 1999999973)) (fun x44 => xa_nil)))) (fun _ => op_modC (by decide +kernel))) (fun x45 => (xa_p (x_var (d := eI a1) 1 rfl) (fun _ => puI _) (fun x46 => xa_nil)))) (fun _ _ h => op_mod' h)) (fun x48 => (x48.2, x34)) (.inl rfl) (fun x48 => qf_ret rfl (by repeat (first | exact wk_nil | apply wk_a | apply wk_s)))))))))) (by dsimp only [p__law_pick])) rfl (by simp [okM]) (fun z => (coll_0P rfl (coll_0P rfl coll_nilP)))
theorem tok__law_net (a0 : (List Int)) (a1 : Int) : ∀ z, p__law_net a0 a1 = some z → f__law_net [(eL eI) a0, eI a1] = .ok ((eQ eI (eT (eP eI eI)) (eT eI)) z.1) [(eL eI) z.2, eI a1] :=
  fn_t (p0 := [some ((eL eI) a0), some (eI a1), none, none, none, none, none, none, none, none]) (m := p__law_net a0 a1) (rv := fun (z : ((Int × (List (Int × Int)) × (List Int)) × (List Int))) => (eQ eI (eT (eP eI eI)) (eT eI)) z.1) (q := fun (z : ((Int × (List (Int × Int)) × (List Int)) × (List Int))) => [some ((eL eI) z.2), some (eI a1), none, none, none, none, none, none, none, none]) (outs := fun z => [(eL eI) z.2, eI a1]) (B.cv (b_set (x_prim (xa_v (X.as (x_lst (xa_v (x_c (eI 2)) (fun x3 => (xa_v (x_c (eI 3)) (fun x4 => (xa_v (x_c (eI 4)) (fun x5 => (xa_v (x_c (eI 2)) (fun x6 => (xa_v (x_c (eI 4)) (fun x7 => (xa_v (x_c (eI 5)) (fun x8 => (xa_v (x_c (eI 8)) (fun x9 => (xa_v (x_c (eI 6)) (fun x10 => (xa_v (x_c (eI 1)) (fun x11 => (xa_v (x_c (eI 16)) (fun x12 => xa_nil)))))))))))))))))))) rfl (by decide)) (fun x13 => (eL eI) [(2 : Int), (3 : Int), (4 : Int), (2 : Int), (4 : Int), (5 : Int), (8 : Int), (6 : Int), (1 : Int), (16 : Int)]) rfl) (fun x14 => (xa_v (x_call (xa_s 0 rfl (xa_v (x_c (eI 10)) (fun x15 => xa_nil)) (fun _ => rfl) (fun _ => puL)) rfl (fun _ _ h => tok__law_pick  _ _ _ h) (fun _ _ => rfl) (fun _ (zz : Int × (List Int)) => [(0, (eL eI) zz.2)]) (fun _ _ => rfl)) (fun x17 => xa_nil)))) (fun _ _ h => op_ixL puI h)) (.inl rfl) (fun x19 => (b_setL (eL (eP eI eI)) (X.as (x_lst xa_nil rfl (by decide)) (fun x20 => (eL (eP eI eI)) ([] : (List (Int × Int)))) rfl) (.inl rfl) (fun x21 x22 => (b_for (xi_mkP (xa_v (x_primT (xa_v (x_prim (xa_v (X.as (x_lst (xa_v (x_c (eI 0)) (fun x24 => (xa_v (x_c (eI 1)) (fun x25 => (xa_v (x_c (eI 2)) (fun x26 => (xa_v (x_c (eI 3)) (fun x27 => (xa_v (x_c (eI 5)) (fun x28 => (xa_v (x_c (eI 8)) (fun x29 => (xa_v (x_c (eI 12)) (fun x30 => (xa_p (x_var (d := eI a1) 1 rfl) (fun _ => puI _) (fun x31 => xa_nil)))))))))))))))) rfl (by decide)) (fun x32 => (eL eI) [(0 : Int), (1 : Int), (2 : Int), (3 : Int), (5 : Int), (8 : Int), (12 : Int), a1]) rfl) (fun x33 => (xa_v (x_call (xa_s 0 rfl (xa_v (x_c (eI 8)) (fun x34 => xa_nil)) (fun _ => rfl) (fun _ => puL)) rfl (fun _ _ h => tok__law_pick  _ _ _ h) (fun _ _ => rfl) (fun _ (zz : Int × (List Int)) => [(0, (eL eI) zz.2)]) (fun _ _ => rfl)) (fun x36 => xa_nil)))) (fun _ _ h => op_ixL puI h)) (fun x38 => (xa_v (x_primT (xa_v (x_primT (xa_p (x_var (d := eI x19.2) 2 rfl) (fun _ => puI _) (fun x39 => (xa_v (x_c (eI 1)) (fun x40 => xa_nil)))) (fun _ => op_gt' _ _)) (fun x41 => xa_nil)) (fun _ => op_intB _)) (fun x42 => xa_nil)))) (fun _ => op_mulB _ _)) (fun x43 => xa_nil)) rfl puI (fun _ _ h => it_r1 h)) (fun x45 (x46 : ((List Int) × (List (Int × Int)))) => [some ((eL eI) x46.1), some (eI a1), some (eI x19.2), some ((eL (eP eI eI)) x46.2), none, none, none, none, none, none]) (fun x45 => (x45.1.1.1.1.2.1.2.2, x22)) (fun _ => rfl) (fun x45 => by repeat (first | exact wk_nil | apply wk_a | apply wk_s)) (fun x45 x46 x47 => as_nm) (fun x45 x46 x47 => (b_set (x_call (xa_s 0 rfl (xa_p (x_var (d := eI x19.2) 2 rfl) (fun _ => puI _) (fun x50 => xa_nil)) (fun _ => rfl) (fun _ => puL)) rfl (fun _ _ h => tok__law_pick  _ _ _ h) (fun _ _ => rfl) (fun _ (zz : Int × (List Int)) => [(0, (eL eI) zz.2)]) (fun _ _ => rfl)) (.inl rfl) (fun x52 => (b_setL (eP eI eI) (X.as (x_tup (xa_n 5 rfl (xa_v (x_prim (xa_v (x_primT (xa_v (x_primT (xa_p (x_var (d := eI x52.2.1) 5 rfl) (fun _ => puI _) (fun x54 => (xa_v (x_c (eI 1)) (fun x55 => xa_nil)))) (fun _ => op_add _ _)) (fun x56 => (xa_v (x_call (xa_s 0 rfl (xa_v (x_primT (xa_v (x_c (eI 1)) (fun x57 => (xa_v (x_primT (xa_p (x_var (d := eI x19.2) 2 rfl) (fun _ => puI _) (fun x58 => (xa_v (x_c (eI 1)) (fun x59 => xa_nil)))) (fun _ => op_sub' _ _)) (fun x60 => xa_nil)))) (fun _ => op_max2 _ _)) (fun x61 => xa_nil)) (fun _ => rfl) (fun _ => puL)) rfl (fun _ _ h => tok__law_pick  _ _ _ h) (fun _ _ => rfl) (fun _ (zz : Int × (List Int)) => [(0, (eL eI) zz.2)]) (fun _ _ => rfl)) (fun x63 => xa_nil)))) (fun _ => op_add _ _)) (fun x64 => (xa_p (x_var (d := eI x19.2) 2 rfl) (fun _ => puI _) (fun x65 => xa_nil)))) (fun _ _ h => op_mod' h)) (fun x67 => xa_nil)) (fun _ => rfl) (puI _)) rfl (by decide)) (fun x68 => (eP eI eI) (x52.2.1, x68.1.2)) rfl) (.inl rfl) (fun x69 x70 => (b_set (x_call (xa_s 0 rfl (xa_v (x_c (eI 6)) (fun x72 => xa_nil)) (fun _ => rfl) (fun _ => puL)) rfl (fun _ _ h => tok__law_pick  _ _ _ h) (fun _ _ => rfl) (fun _ (zz : Int × (List Int)) => [(0, (eL eI) zz.2)]) (fun _ _ => rfl)) (.inl rfl) (fun x74 => (b_ifj (xt_andT (xt_tst (x_primT (xa_s 3 rfl (xa_v (X.as (x_lst xa_nil rfl (by decide)) (fun x75 => (eL (eP eI eI)) ([] : (List (Int × Int)))) rfl) (fun x76 => xa_nil)) (fun _ => rfl) (fun _ => puL)) (fun _ => op_ne (eqL (eqP eqI eqI)) (by decide) _ _))) (fun x77 => (xt_tst (x_primT (xa_p (x_var (d := eI x74.2.1) 7 rfl) (fun _ => puI _) (fun x78 => (xa_v (x_c (eI 2)) (fun x79 => xa_nil)))) (fun _ => op_lt' _ _))))) (fun x80 (x98 : ((Int × Int))) => [some ((eL eI) x74.2.2), some (eI a1), some (eI x19.2), some ((eL (eP eI eI)) x46.2), some (eI x47), some (eI x52.2.1), some ((eP eI eI) x98), some (eI x74.2.1), none, none]) (fun x80 => (b_last (b_set (x_prim (xa_v (X.as (x_lst (xa_v (x_prim (xa_s 3 rfl (xa_v (x_primT (xa_v (x_c (eI 1)) (fun x81 => xa_nil)) (fun _ => op_neg _)) (fun x82 => xa_nil)) (fun _ => rfl) (fun _ => puL)) (fun _ _ h => op_ixL (puP puI puI) h)) (fun x84 => (xa_v (x_stT (x_prim (xa_s 3 rfl (xa_v (x_primT (xa_v (x_c (eI 1)) (fun x85 => xa_nil)) (fun _ => op_neg _)) (fun x86 => xa_nil)) (fun _ => rfl) (fun _ => puL)) (fun _ _ h => op_ixL (puP puI puI) h)) (fun x88 => xpr_none) (fun x88 x89 => xpr_none) (fun x88 x89 x90 => (xpr_some (x_primT (xa_v (x_c (eI 1)) (fun x91 => xa_nil)) (fun _ => op_neg _)))) (fun _ _ _ _ => op_revP puI puI _)) (fun x92 => xa_nil)))) rfl (by decide)) (fun x93 => (eL (eP eI eI)) [x93.1.2, (x93.2.1.1.2.2, x93.2.1.1.2.1)]) rfl) (fun x94 => (xa_p (x_var (d := eI x74.2.1) 7 rfl) (fun _ => puI _) (fun x95 => xa_nil)))) (fun _ _ h => op_ixL (puP puI puI) h)) (.inl rfl) (fun x97 => (b_end (z := x97.2) (by repeat (first | exact wk_nil | apply wk_a | apply wk_s))))))) (fun x80 => (b_end (z := x70) (by repeat (first | exact wk_nil | apply wk_a | apply wk_s)))) (fun x80 x98 => (b_last (b_expr (x_mt rfl (xa_p (x_var (d := (eP eI eI) x98) 6 rfl) (fun _ => (puP puI puI) _) (fun x100 => xa_nil)) rfl (fun _ => rfl) (fun _ _ h => mt_app' h) (fun _ _ => rfl)) (fun x102 => (b_endC (z := (x74.2.2, x102.2)) (by repeat (first | exact wk_nil | apply wk_a | apply wk_s))))))))))))))) (fun x45 x46 => (b_setL (eL eI) (X.as (x_lst xa_nil rfl (by decide)) (fun x103 => (eL eI) ([] : (List Int))) rfl) (.inl rfl) (fun x104 x105 => (b_for (xi_mkP (xa_p (x_var (d := eI x19.2) 2 rfl) (fun _ => puI _) (fun x107 => xa_nil)) rfl puI (fun _ _ h => it_r1 h)) (fun x109 (x110 : ((List Int) × (List Int))) => [some ((eL eI) x110.1), some (eI a1), some (eI x19.2), some ((eL (eP eI eI)) x46.2), none, none, none, none, some ((eL eI) x110.2), none]) (fun x109 => (x46.1, x105)) (fun _ => rfl) (fun x109 => by repeat (first | exact wk_nil | apply wk_a | apply wk_s)) (fun x109 x110 x111 => as_nm) (fun x109 x110 x111 => (b_last (b_expr (x_mt rfl (xa_v (x_call (xa_s 0 rfl (xa_v (x_primT (xa_v (x_primT (xa_s 8 rfl xa_nil (fun _ => rfl) (fun _ => puL)) (fun _ => op_lenL _)) (fun x114 => (xa_v (x_c (eI 1)) (fun x115 => xa_nil)))) (fun _ => op_add _ _)) (fun x116 => xa_nil)) (fun _ => rfl) (fun _ => puL)) rfl (fun _ _ h => tok__law_pick  _ _ _ h) (fun _ _ => rfl) (fun _ (zz : Int × (List Int)) => [(0, (eL eI) zz.2)]) (fun _ _ => rfl)) (fun x118 => (xa_p (x_var (d := eI x111) 9 rfl) (fun _ => puI _) (fun x119 => xa_nil)))) rfl (fun _ => rfl) (fun _ _ h => mt_ins' puI h) (fun _ _ => rfl)) (fun x121 => (b_endC (z := (x121.1.1.2.2, x121.2)) (by repeat (first | exact wk_nil | apply wk_a | apply wk_s))))))) (fun x109 x110 => (b_last (b_ret (X.as (x_tup (xa_n 2 rfl (xa_v (x_primT (xa_s 3 rfl xa_nil (fun _ => rfl) (fun _ => puL)) (fun _ => op_tupL (puP puI puI) _)) (fun x123 => (xa_v (x_prim (xa_v (X.as (x_lst (xa_v (x_primT (xa_s 8 rfl xa_nil (fun _ => rfl) (fun _ => puL)) (fun _ => op_tupL puI _)) (fun x124 => (xa_v (x_prim (xa_p (x_var (d := eI x19.2) 2 rfl) (fun _ => puI _) (fun x125 => xa_nil)) (fun _ _ h => op_trg1 h)) (fun x127 => xa_nil)))) rfl (by decide)) (fun x128 => (eL (eT eI)) [x110.2, x128.2.1.2]) rfl) (fun x129 => (xa_v (x_call (xa_s 0 rfl (xa_v (x_c (eI 2)) (fun x130 => xa_nil)) (fun _ => rfl) (fun _ => puL)) rfl (fun _ _ h => tok__law_pick  _ _ _ h) (fun _ _ => rfl) (fun _ (zz : Int × (List Int)) => [(0, (eL eI) zz.2)]) (fun _ _ => rfl)) (fun x132 => xa_nil)))) (fun _ _ h => op_ixL (puT puI) h)) (fun x134 => xa_nil)))) (fun _ => rfl) (puI _)) rfl (by decide)) (fun x135 => (eQ eI (eT (eP eI eI)) (eT eI)) (x19.2, x46.2, x135.2.1.2)) rfl) (fun x136 => ((x19.2, x46.2, x136.2.1.2), x136.2.1.1.2.1.2.2)) (.inl rfl) (fun x136 => qf_ret rfl (by repeat (first | exact wk_nil | apply wk_a | apply wk_s))))))))))))))) (by dsimp only [p__law_net])) rfl (by simp [okM]) (fun z => (coll_0P rfl (coll_0P rfl coll_nilP)))
theorem tok__law_odd (a0 : Int) : ∀ z, p__law_odd a0 = some z → f__law_odd [eI a0] = .ok ((eL eV) z) [eI a0] :=
  fn_t (p0 := [some (eI a0), none, none]) (m := p__law_odd a0) (rv := fun (z : (List PD)) => (eL eV) z) (q := fun (z : (List PD)) => [some (eI a0), none, none]) (outs := fun z => [eI a0]) (B.cv (b_set (x_prim (xa_v (X.as (x_tup (xa_v (x_c (eI 0)) (fun x2 => xa_nil)) rfl (by decide)) (fun x3 => (eT eI) [(0 : Int)]) rfl) (fun x4 => (xa_p (x_var (d := eI a0) 0 rfl) (fun _ => puI _) (fun x5 => xa_nil)))) (fun _ _ h => op_repT' puI h)) (.inl rfl) (fun x7 => (b_setL (eL eV) (X.as (x_lst (xa_v (X.as (x_c PyData.none) (fun x8 => eV (toPD puU ())) rfl) (fun x9 => (xa_v (X.as (x_c (eB true)) (fun x10 => eV (toPD puB true)) rfl) (fun x11 => (xa_v (X.as (x_c (eI 0)) (fun x12 => eV (toPD puI (0 : Int))) rfl) (fun x13 => (xa_v (X.as (x_c (eS "")) (fun x14 => eV (toPD puS ("" : Str))) rfl) (fun x15 => (xa_v (X.as (x_c (eS "lanes")) (fun x16 => eV (toPD puS ("lanes" : Str))) rfl) (fun x17 => (xa_v (X.as (x_c (eS "depth")) (fun x18 => eV (toPD puS ("depth" : Str))) rfl) (fun x19 => (xa_v (X.as (x_frz puI (X.as (x_lst xa_nil rfl (by decide)) (fun x20 => (eL eI) ([] : (List Int))) rfl)) (fun x21 => eV (frzV puI ([] : (List Int)))) rfl) (fun x22 => (xa_v (X.as (x_frd (f := koI) (e := eI) x_newK) (fun x23 => eV frdV) rfl) (fun x24 => (xa_v (X.as (X.as (x_tup xa_nil rfl (by decide)) (fun x25 => (eT eI) ([] : (List Int))) rfl) (fun x26 => eV (toPD (puT puI) ([] : (List Int)))) rfl) (fun x27 => (xa_v (X.as (X.as (x_tup (xa_v (x_c PyData.none) (fun x28 => xa_nil)) rfl (by decide)) (fun x29 => (eT eU) [()]) rfl) (fun x30 => eV (toPD (puT puU) [()])) rfl) (fun x31 => (xa_v (X.as (X.as (x_tup (xa_v (x_c (eI 0)) (fun x32 => xa_nil)) rfl (by decide)) (fun x33 => (eT eI) [(0 : Int)]) rfl) (fun x34 => eV (toPD (puT puI) [(0 : Int)])) rfl) (fun x35 => (xa_v (X.as (X.as (x_tup (xa_v (x_c (eS "lanes")) (fun x36 => (xa_v (x_c (eI 0)) (fun x37 => xa_nil)))) rfl (by decide)) (fun x38 => (eP eS eI) (("lanes" : Str), (0 : Int))) rfl) (fun x39 => eV (toPD (puP puS puI) (("lanes" : Str), (0 : Int)))) rfl) (fun x40 => (xa_v (X.as (X.as (x_tup (xa_v (x_c (eS "depth")) (fun x41 => (xa_v (x_c PyData.none) (fun x42 => xa_nil)))) rfl (by decide)) (fun x43 => (eP eS eU) (("depth" : Str), ())) rfl) (fun x44 => eV (toPD (puP puS puU) (("depth" : Str), ()))) rfl) (fun x45 => xa_nil)))))))))))))))))))))))))) rfl (by decide)) (fun x46 => (eL eV) [(toPD puU ()), (toPD puB true), (toPD puI (0 : Int)), (toPD puS ("" : Str)), (toPD puS ("lanes" : Str)), (toPD puS ("depth" : Str)), (frzV puI ([] : (List Int))), frdV, (toPD (puT puI) ([] : (List Int))), (toPD (puT puU) [()]), (toPD (puT puI) [(0 : Int)]), (toPD (puP puS puI) (("lanes" : Str), (0 : Int))), (toPD (puP puS puU) (("depth" : Str), ()))]) rfl) (.inl rfl) (fun x47 x48 => (b_set (x_prim (xa_s 2 rfl (xa_v (X.as (x_lst (xa_v (X.as (X.as (x_tup (xa_v (X.as (x_tup (xa_v (x_c (eS "lanes")) (fun x50 => xa_nil)) rfl (by decide)) (fun x51 => (eT eS) [("lanes" : Str)]) rfl) (fun x52 => xa_nil)) rfl (by decide)) (fun x53 => (eT (eT eS)) [[("lanes" : Str)]]) rfl) (fun x54 => eV (toPD (puT (puT puS)) [[("lanes" : Str)]])) rfl) (fun x55 => (xa_v (X.as (x_frz puS (X.as (x_lst (xa_v (x_c (eS "lanes")) (fun x56 => xa_nil)) rfl (by decide)) (fun x57 => (eL eS) [("lanes" : Str)]) rfl)) (fun x58 => eV (frzV puS [("lanes" : Str)])) rfl) (fun x59 => (xa_v (X.as (x_frz puS (X.as (x_lst (xa_v (x_c (eS "depth")) (fun x60 => xa_nil)) rfl (by decide)) (fun x61 => (eL eS) [("depth" : Str)]) rfl)) (fun x62 => eV (frzV puS [("depth" : Str)])) rfl) (fun x63 => (xa_v (X.as (X.as (x_tup (xa_v (x_c (eS "Lanes")) (fun x64 => xa_nil)) rfl (by decide)) (fun x65 => (eT eS) [("Lanes" : Str)]) rfl) (fun x66 => eV (toPD (puT puS) [("Lanes" : Str)])) rfl) (fun x67 => (xa_v (X.as (X.as (x_tup (xa_v (x_c (eS "share")) (fun x68 => xa_nil)) rfl (by decide)) (fun x69 => (eT eS) [("share" : Str)]) rfl) (fun x70 => eV (toPD (puT puS) [("share" : Str)])) rfl) (fun x71 => (xa_v (X.as (X.as (x_tup (xa_v (x_c (eS "share")) (fun x72 => (xa_v (x_c (eI 0)) (fun x73 => xa_nil)))) rfl (by decide)) (fun x74 => (eP eS eI) (("share" : Str), (0 : Int))) rfl) (fun x75 => eV (toPD (puP puS puI) (("share" : Str), (0 : Int)))) rfl) (fun x76 => (xa_v (X.as (X.as (x_tup (xa_v (x_c (eS "share")) (fun x77 => (xa_v (x_c (eI 0)) (fun x78 => (xa_p (x_var (d := eI a0) 0 rfl) (fun _ => puI _) (fun x79 => xa_nil)))))) rfl (by decide)) (fun x80 => (eQ eS eI eI) (("share" : Str), (0 : Int), a0)) rfl) (fun x81 => eV (toPD (puQ puS puI puI) (("share" : Str), (0 : Int), a0))) rfl) (fun x82 => xa_nil)))))))))))))) rfl (by decide)) (fun x83 => (eL eV) [(toPD (puT (puT puS)) [[("lanes" : Str)]]), (frzV puS [("lanes" : Str)]), (frzV puS [("depth" : Str)]), (toPD (puT puS) [("Lanes" : Str)]), (toPD (puT puS) [("share" : Str)]), (toPD (puP puS puI) (("share" : Str), (0 : Int))), (toPD (puQ puS puI puI) (("share" : Str), (0 : Int), a0))]) rfl) (fun x84 => xa_nil)) (fun _ => rfl) (fun _ => puL)) (fun _ _ h => op_catL puV h)) (.inl rfl) (fun x86 => (b_expr (x_mt rfl (xa_v (X.as (X.as (x_tup (xa_v (x_c (eS "share")) (fun x87 => (xa_v (x_primT (xa_v (x_c (eI 1)) (fun x88 => xa_nil)) (fun _ => op_neg _)) (fun x89 => (xa_v (x_c (eI 0)) (fun x90 => xa_nil)))))) rfl (by decide)) (fun x91 => (eQ eS eI eI) (("share" : Str), (-(1 : Int)), (0 : Int))) rfl) (fun x92 => eV (toPD (puQ puS puI puI) (("share" : Str), (-(1 : Int)), (0 : Int)))) rfl) (fun x93 => xa_nil)) rfl (fun _ => rfl) (fun _ _ h => mt_app' h) (fun _ _ => rfl)) (fun x95 => (b_set (x_prim (xa_s 2 rfl (xa_v (X.as (x_lst (xa_v (X.as (X.as (x_tup (xa_v (x_c (eS "share")) (fun x96 => (xa_p (x_var (d := eI a0) 0 rfl) (fun _ => puI _) (fun x97 => (xa_v (x_c (eI 0)) (fun x98 => xa_nil)))))) rfl (by decide)) (fun x99 => (eQ eS eI eI) (("share" : Str), a0, (0 : Int))) rfl) (fun x100 => eV (toPD (puQ puS puI puI) (("share" : Str), a0, (0 : Int)))) rfl) (fun x101 => (xa_v (X.as (X.as (x_tup (xa_v (x_c (eS "share")) (fun x102 => (xa_v (x_c (eB true)) (fun x103 => (xa_v (x_c (eI 0)) (fun x104 => xa_nil)))))) rfl (by decide)) (fun x105 => (eQ eS eB eI) (("share" : Str), true, (0 : Int))) rfl) (fun x106 => eV (toPD (puQ puS puB puI) (("share" : Str), true, (0 : Int)))) rfl) (fun x107 => (xa_v (X.as (X.as (x_tup (xa_v (x_c (eS "share")) (fun x108 => (xa_v (x_c (eS "0")) (fun x109 => (xa_v (x_c (eI 0)) (fun x110 => xa_nil)))))) rfl (by decide)) (fun x111 => (eQ eS eS eI) (("share" : Str), ("0" : Str), (0 : Int))) rfl) (fun x112 => eV (toPD (puQ puS puS puI) (("share" : Str), ("0" : Str), (0 : Int)))) rfl) (fun x113 => (xa_v (X.as (X.as (x_tup (xa_v (x_c (eS "share")) (fun x114 => (xa_v (x_c (eI 0)) (fun x115 => (xa_v (x_c PyData.none) (fun x116 => xa_nil)))))) rfl (by decide)) (fun x117 => (eQ eS eI eU) (("share" : Str), (0 : Int), ())) rfl) (fun x118 => eV (toPD (puQ puS puI puU) (("share" : Str), (0 : Int), ()))) rfl) (fun x119 => (xa_v (X.as (X.as (x_tup (xa_v (X.as (x_c (eS "share")) (fun x120 => eV (toPD puS ("share" : Str))) rfl) (fun x121 => (xa_v (X.as (x_c (eI 0)) (fun x122 => eV (toPD puI (0 : Int))) rfl) (fun x123 => (xa_v (X.as (x_c (eI 0)) (fun x124 => eV (toPD puI (0 : Int))) rfl) (fun x125 => (xa_v (X.as (x_c (eI 0)) (fun x126 => eV (toPD puI (0 : Int))) rfl) (fun x127 => xa_nil)))))))) rfl (by decide)) (fun x128 => (eT eV) [(toPD puS ("share" : Str)), (toPD puI (0 : Int)), (toPD puI (0 : Int)), (toPD puI (0 : Int))]) rfl) (fun x129 => eV (toPD (puT puV) [(toPD puS ("share" : Str)), (toPD puI (0 : Int)), (toPD puI (0 : Int)), (toPD puI (0 : Int))])) rfl) (fun x130 => xa_nil)))))))))) rfl (by decide)) (fun x131 => (eL eV) [(toPD (puQ puS puI puI) (("share" : Str), a0, (0 : Int))), (toPD (puQ puS puB puI) (("share" : Str), true, (0 : Int))), (toPD (puQ puS puS puI) (("share" : Str), ("0" : Str), (0 : Int))), (toPD (puQ puS puI puU) (("share" : Str), (0 : Int), ())), (toPD (puT puV) [(toPD puS ("share" : Str)), (toPD puI (0 : Int)), (toPD puI (0 : Int)), (toPD puI (0 : Int))])]) rfl) (fun x132 => xa_nil)) (fun _ => rfl) (fun _ => puL)) (fun _ _ h => op_catL puV h)) (.inl rfl) (fun x134 => (b_set (x_prim (xa_s 2 rfl (xa_v (X.as (x_lst (xa_v (X.as (X.as (x_tup (xa_v (x_c (eS "row")) (fun x135 => xa_nil)) rfl (by decide)) (fun x136 => (eT eS) [("row" : Str)]) rfl) (fun x137 => eV (toPD (puT puS) [("row" : Str)])) rfl) (fun x138 => (xa_v (X.as (X.as (x_tup (xa_v (x_c (eS "row")) (fun x139 => (xa_v (x_prim (xa_p (x_var (d := (eT eI) x7.2) 1 rfl) (fun _ => (puT puI) _) (fun x140 => (xa_v (X.as (x_tup (xa_v (x_c (eI 0)) (fun x141 => xa_nil)) rfl (by decide)) (fun x142 => (eT eI) [(0 : Int)]) rfl) (fun x143 => xa_nil)))) (fun _ _ h => op_catT puI h)) (fun x145 => xa_nil)))) rfl (by decide)) (fun x146 => (eP eS (eT eI)) (("row" : Str), x146.2.1.2)) rfl) (fun x147 => eV (toPD (puP puS (puT puI)) (("row" : Str), x147.2.1.2))) rfl) (fun x148 => (xa_v (X.as (X.as (x_tup (xa_v (x_c (eS "row")) (fun x149 => (xa_v (x_sl (x_var (d := (eT eI) x7.2) 1 rfl) (fun x150 => (xpr_some (x_c (eI 1)))) (fun x150 x151 => xpr_none) (fun _ _ _ => op_slT puI _ _ _)) (fun x153 => xa_nil)))) rfl (by decide)) (fun x154 => (eP eS (eT eI)) (("row" : Str), (cutL x7.2 (some (1 : Int)) none))) rfl) (fun x155 => eV (toPD (puP puS (puT puI)) (("row" : Str), (cutL x7.2 (some (1 : Int)) none)))) rfl) (fun x156 => (xa_v (X.as (X.as (x_tup (xa_v (x_c (eS "row")) (fun x157 => (xa_v (X.as (x_frz puI (x_primT (xa_p (x_var (d := (eT eI) x7.2) 1 rfl) (fun _ => (puT puI) _) (fun x158 => xa_nil)) (fun _ => op_lstT puI _))) (fun x159 => eV (frzV puI x7.2)) rfl) (fun x160 => xa_nil)))) rfl (by decide)) (fun x161 => (eP eS eV) (("row" : Str), (frzV puI x7.2))) rfl) (fun x162 => eV (toPD (puP puS puV) (("row" : Str), (frzV puI x7.2)))) rfl) (fun x163 => (xa_v (X.as (X.as (x_tup (xa_v (x_c (eS "row")) (fun x164 => (xa_p (x_var (d := (eT eI) x7.2) 1 rfl) (fun _ => (puT puI) _) (fun x165 => (xa_v (x_c (eI 0)) (fun x166 => xa_nil)))))) rfl (by decide)) (fun x167 => (eQ eS (eT eI) eI) (("row" : Str), x7.2, (0 : Int))) rfl) (fun x168 => eV (toPD (puQ puS (puT puI) puI) (("row" : Str), x7.2, (0 : Int)))) rfl) (fun x169 => (xa_v (X.as (X.as (x_tup (xa_v (x_c (eS "row")) (fun x170 => (xa_v (x_c (eI 0)) (fun x171 => xa_nil)))) rfl (by decide)) (fun x172 => (eP eS eI) (("row" : Str), (0 : Int))) rfl) (fun x173 => eV (toPD (puP puS puI) (("row" : Str), (0 : Int)))) rfl) (fun x174 => xa_nil)))))))))))) rfl (by decide)) (fun x175 => (eL eV) [(toPD (puT puS) [("row" : Str)]), (toPD (puP puS (puT puI)) (("row" : Str), x175.2.1.2.1.2)), (toPD (puP puS (puT puI)) (("row" : Str), (cutL x7.2 (some (1 : Int)) none))), (toPD (puP puS puV) (("row" : Str), (frzV puI x7.2))), (toPD (puQ puS (puT puI) puI) (("row" : Str), x7.2, (0 : Int))), (toPD (puP puS puI) (("row" : Str), (0 : Int)))]) rfl) (fun x176 => xa_nil)) (fun _ => rfl) (fun _ => puL)) (fun _ _ h => op_catL puV h)) (.inl rfl) (fun x178 => (b_set (x_prim (xa_s 2 rfl (xa_v (X.as (x_lst (xa_v (X.as (X.as (x_tup (xa_v (x_c (eS "row")) (fun x179 => (xa_v (x_prim (xa_v (X.as (x_tup (xa_v (x_c (eI 2)) (fun x180 => xa_nil)) rfl (by decide)) (fun x181 => (eT eI) [(2 : Int)]) rfl) (fun x182 => (xa_v (x_sl (x_var (d := (eT eI) x7.2) 1 rfl) (fun x183 => (xpr_some (x_c (eI 1)))) (fun x183 x184 => xpr_none) (fun _ _ _ => op_slT puI _ _ _)) (fun x186 => xa_nil)))) (fun _ _ h => op_catT puI h)) (fun x188 => xa_nil)))) rfl (by decide)) (fun x189 => (eP eS (eT eI)) (("row" : Str), x189.2.1.2)) rfl) (fun x190 => eV (toPD (puP puS (puT puI)) (("row" : Str), x190.2.1.2))) rfl) (fun x191 => (xa_v (X.as (X.as (x_tup (xa_v (x_c (eS "row")) (fun x192 => (xa_v (x_prim (xa_v (X.as (x_tup (xa_v (x_c (eB true)) (fun x193 => xa_nil)) rfl (by decide)) (fun x194 => (eT eB) [true]) rfl) (fun x195 => (xa_v (x_sl (x_var (d := (eT eI) x7.2) 1 rfl) (fun x196 => (xpr_some (x_c (eI 1)))) (fun x196 x197 => xpr_none) (fun _ _ _ => op_slT puI _ _ _)) (fun x199 => xa_nil)))) (fun _ _ h => dP_ok h)) (fun x201 => xa_nil)))) rfl (by decide)) (fun x202 => (eP eS eV) (("row" : Str), x202.2.1.2)) rfl) (fun x203 => eV (toPD (puP puS puV) (("row" : Str), x203.2.1.2))) rfl) (fun x204 => (xa_v (X.as (X.as (x_tup (xa_v (x_c (eS "row")) (fun x205 => (xa_v (x_prim (xa_v (X.as (x_tup (xa_v (x_c PyData.none) (fun x206 => xa_nil)) rfl (by decide)) (fun x207 => (eT eU) [()]) rfl) (fun x208 => (xa_v (x_sl (x_var (d := (eT eI) x7.2) 1 rfl) (fun x209 => (xpr_some (x_c (eI 1)))) (fun x209 x210 => xpr_none) (fun _ _ _ => op_slT puI _ _ _)) (fun x212 => xa_nil)))) (fun _ _ h => dP_ok h)) (fun x214 => xa_nil)))) rfl (by decide)) (fun x215 => (eP eS eV) (("row" : Str), x215.2.1.2)) rfl) (fun x216 => eV (toPD (puP puS puV) (("row" : Str), x216.2.1.2))) rfl) (fun x217 => (xa_v (X.as (X.as (x_tup (xa_v (x_c (eS "row")) (fun x218 => (xa_v (x_c PyData.none) (fun x219 => xa_nil)))) rfl (by decide)) (fun x220 => (eP eS eU) (("row" : Str), ())) rfl) (fun x221 => eV (toPD (puP puS puU) (("row" : Str), ()))) rfl) (fun x222 => xa_nil)))))))) rfl (by decide)) (fun x223 => (eL eV) [(toPD (puP puS (puT puI)) (("row" : Str), x223.1.2.1.2)), (toPD (puP puS puV) (("row" : Str), x223.2.1.2.1.2)), (toPD (puP puS puV) (("row" : Str), x223.2.2.1.2.1.2)), (toPD (puP puS puU) (("row" : Str), ()))]) rfl) (fun x224 => xa_nil)) (fun _ => rfl) (fun _ => puL)) (fun _ _ h => op_catL puV h)) (.inl rfl) (fun x226 => (b_last (b_ret (x_prim (xa_s 2 rfl (xa_v (X.as (x_lst (xa_v (X.as (X.as (x_tup (xa_v (x_c (eS "row")) (fun x227 => (xa_v (x_prim (xa_v (x_sl (x_var (d := (eT eI) x7.2) 1 rfl) (fun x228 => (xpr_some (x_c (eI 1)))) (fun x228 x229 => xpr_none) (fun _ _ _ => op_slT puI _ _ _)) (fun x231 => (xa_v (X.as (x_tup (xa_v (x_c (eS "1")) (fun x232 => xa_nil)) rfl (by decide)) (fun x233 => (eT eS) [("1" : Str)]) rfl) (fun x234 => xa_nil)))) (fun _ _ h => dP_ok h)) (fun x236 => xa_nil)))) rfl (by decide)) (fun x237 => (eP eS eV) (("row" : Str), x237.2.1.2)) rfl) (fun x238 => eV (toPD (puP puS puV) (("row" : Str), x238.2.1.2))) rfl) (fun x239 => (xa_v (X.as (X.as (x_tup (xa_v (x_c (eS "row")) (fun x240 => (xa_v (x_prim (xa_v (x_sl (x_var (d := (eT eI) x7.2) 1 rfl) (fun x241 => (xpr_some (x_c (eI 1)))) (fun x241 x242 => xpr_none) (fun _ _ _ => op_slT puI _ _ _)) (fun x244 => (xa_v (X.as (x_tup (xa_v (x_primT (xa_v (x_c (eI 1)) (fun x245 => xa_nil)) (fun _ => op_neg _)) (fun x246 => xa_nil)) rfl (by decide)) (fun x247 => (eT eI) [(-(1 : Int))]) rfl) (fun x248 => xa_nil)))) (fun _ _ h => op_catT puI h)) (fun x250 => xa_nil)))) rfl (by decide)) (fun x251 => (eP eS (eT eI)) (("row" : Str), x251.2.1.2)) rfl) (fun x252 => eV (toPD (puP puS (puT puI)) (("row" : Str), x252.2.1.2))) rfl) (fun x253 => (xa_v (X.as (X.as (x_tup (xa_v (x_c (eS "none")) (fun x254 => xa_nil)) rfl (by decide)) (fun x255 => (eT eS) [("none" : Str)]) rfl) (fun x256 => eV (toPD (puT puS) [("none" : Str)])) rfl) (fun x257 => (xa_v (X.as (X.as (x_tup (xa_v (x_c (eS "bar")) (fun x258 => (xa_v (x_c (eI 0)) (fun x259 => (xa_v (x_c (eI 0)) (fun x260 => xa_nil)))))) rfl (by decide)) (fun x261 => (eQ eS eI eI) (("bar" : Str), (0 : Int), (0 : Int))) rfl) (fun x262 => eV (toPD (puQ puS puI puI) (("bar" : Str), (0 : Int), (0 : Int)))) rfl) (fun x263 => (xa_v (X.as (X.as (x_tup (xa_v (X.as (x_frz puI (X.as (x_lst xa_nil rfl (by decide)) (fun x264 => (eL eI) ([] : (List Int))) rfl)) (fun x265 => eV (frzV puI ([] : (List Int)))) rfl) (fun x266 => (xa_v (x_c (eI 0)) (fun x267 => (xa_v (x_c (eI 0)) (fun x268 => xa_nil)))))) rfl (by decide)) (fun x269 => (eQ eV eI eI) ((frzV puI ([] : (List Int))), (0 : Int), (0 : Int))) rfl) (fun x270 => eV (toPD (puQ puV puI puI) ((frzV puI ([] : (List Int))), (0 : Int), (0 : Int)))) rfl) (fun x271 => xa_nil)))))))))) rfl (by decide)) (fun x272 => (eL eV) [(toPD (puP puS puV) (("row" : Str), x272.1.2.1.2)), (toPD (puP puS (puT puI)) (("row" : Str), x272.2.1.2.1.2)), (toPD (puT puS) [("none" : Str)]), (toPD (puQ puS puI puI) (("bar" : Str), (0 : Int), (0 : Int))), (toPD (puQ puV puI puI) ((frzV puI ([] : (List Int))), (0 : Int), (0 : Int)))]) rfl) (fun x273 => xa_nil)) (fun _ => rfl) (fun _ => puL)) (fun _ _ h => op_catL puV h)) (fun x275 => x275.2) (.inl rfl) (fun x275 => qf_ret rfl (by repeat (first | exact wk_nil | apply wk_a | apply wk_s))))))))))))))))))) (by dsimp only [p__law_odd])) rfl (by simp [okM]) (fun z => (coll_0P rfl coll_nilP))
theorem tok_law (a0 : (List Int)) : ∀ z, p_law a0 = some z → f_law [eZ a0] = .ok (eB z) [eZ a0] :=
  fn_t (p0 := [some (eZ a0), none, none, none, none, none, none, none]) (m := p_law a0) (rv := fun (z : Bool) => eB z) (q := fun (z : Bool) => [some (eZ a0), none, none, none, none, none, none, none]) (outs := fun z => [eZ a0]) (B.cv (b_forR (xi_mkP (xa_v (x_primT (xa_v (x_c (eI 6)) (fun x2 => (xa_v (x_primT (xa_v (x_c (eI 20)) (fun x3 => (xa_v (x_primT (xa_p (x_var (d := eZ a0) 0 rfl) (fun _ => puZ _) (fun x4 => xa_nil)) (fun _ => op_lenZ _)) (fun x5 => xa_nil)))) (fun _ => op_min2 _ _)) (fun x6 => xa_nil)))) (fun _ => op_max2 _ _)) (fun x7 => xa_nil)) rfl puI (fun _ _ h => it_r1 h)) (fun x9 (x10 : Unit) => [some (eZ a0), none, none, none, none, none, none, none]) (fun x9 => ()) (fun (z : Bool) => eB z) (fun x9 x114 => [some (eZ a0), none, none, none, none, none, none, none]) (fun z => z) (fun _ => rfl) (fun x9 => by repeat (first | exact wk_nil | apply wk_a | apply wk_s)) (fun x9 x10 x11 => as_nm) (fun x9 x10 x11 => (b_set (x_callP (xa_p (x_var (d := eZ a0) 0 rfl) (fun _ => puZ _) (fun x14 => (xa_p (x_var (d := eI x11) 1 rfl) (fun _ => puI _) (fun x15 => xa_nil)))) rfl (fun _ _ h => tok__law_left  _ _ _ h)) (.inl rfl) (fun x17 => (b_set (x_call (xa_s 2 rfl (xa_v (x_c (eI 20)) (fun x18 => xa_nil)) (fun _ => rfl) (fun _ => puL)) rfl (fun _ _ h => tok__law_net  _ _ _ h) (fun _ _ => rfl) (fun _ (zz : (Int × (List (Int × Int)) × (List Int)) × (List Int)) => [(2, (eL eI) zz.2)]) (fun _ _ => rfl)) (.inl rfl) (fun x20 => (b_set (x_callP (xa_p (x_var (d := (eQ eI (eT (eP eI eI)) (eT eI)) x20.2.1) 3 rfl) (fun _ => (puQ puI (puT (puP puI puI)) (puT puI)) _) (fun x21 => xa_nil)) rfl (fun _ _ h => tok_bar  _ _ h)) (.inl rfl) (fun x23 => (b_if (xt_andP (xt_tst (x_primT (xa_p (x_var (d := eV x23.2) 4 rfl) (fun _ => puV _) (fun x24 => (xa_v (x_c PyData.none) (fun x25 => xa_nil)))) (fun _ => tr_notN _))) (fun x26 => (xt_tst (x_primT (xa_v (x_callP (xa_p (x_var (d := (eQ eI (eT (eP eI eI)) (eT eI)) x20.2.1) 3 rfl) (fun _ => (puQ puI (puT (puP puI puI)) (puT puI)) _) (fun x27 => (xa_p (x_var (d := eV x23.2) 4 rfl) (fun _ => puV _) (fun x28 => xa_nil)))) rfl (fun _ _ h => tok_shows_bar  _ _ _ h)) (fun x30 => (xa_v (x_c (eB true)) (fun x31 => xa_nil)))) (fun _ => op_notB _ _))))) (fun x33 => (b_ret (x_c (eB false)) (fun x34 => (Lf.ret false)) (.inl rfl) (fun x34 => ql_ret rfl (by repeat (first | exact wk_nil | apply wk_a | apply wk_s))))) (fun x33 => (b_skip (b_set (x_callP (xa_v (x_primT (xa_p (x_var (d := (eQ eI (eT (eP eI eI)) (eT eI)) x20.2.1) 3 rfl) (fun _ => (puQ puI (puT (puP puI puI)) (puT puI)) _) (fun x35 => (xa_v (x_c (eI 0)) (fun x36 => xa_nil)))) (fun _ => op_ixQ0 puI _)) (fun x37 => xa_nil)) rfl (fun _ _ h => tok__law_odd  _ _ h)) (.inl rfl) (fun x39 => (b_ifj (xt_tst (x_primT (xa_p (x_var (d := eV x23.2) 4 rfl) (fun _ => puV _) (fun x40 => (xa_v (x_c PyData.none) (fun x41 => xa_nil)))) (fun _ => tr_notN _))) (fun x42 (x78 : ((List PD))) => [some (eZ a0), some (eI x11), some ((eL eI) x20.2.2), some ((eQ eI (eT (eP eI eI)) (eT eI)) x20.2.1), some (eV x23.2), some ((eL eV) x78), none, none]) (fun x42 => (b_last (b_set (x_prim (xa_s 5 rfl (xa_v (X.as (x_lst (xa_v (X.as (x_frz puV (x_prim (xa_p (x_var (d := eV x23.2) 4 rfl) (fun _ => puV _) (fun x43 => xa_nil)) (fun _ _ h => op_lstV h))) (fun x45 => eV (frzV puV x45.2)) rfl) (fun x46 => (xa_v (X.as (X.as (x_tup (xa_p (x_var (d := eV x23.2) 4 rfl) (fun _ => puV _) (fun x47 => xa_nil)) rfl (by decide)) (fun x48 => (eT eV) [x23.2]) rfl) (fun x49 => eV (toPD (puT puV) [x23.2])) rfl) (fun x50 => (xa_v (x_prim (xa_p (x_var (d := eV x23.2) 4 rfl) (fun _ => puV _) (fun x51 => (xa_v (X.as (x_tup (xa_v (x_c (eI 0)) (fun x52 => xa_nil)) rfl (by decide)) (fun x53 => (eT eI) [(0 : Int)]) rfl) (fun x54 => xa_nil)))) (fun _ _ h => dP_ok h)) (fun x56 => (xa_v (x_prim (xa_p (x_var (d := eV x23.2) 4 rfl) (fun _ => puV _) (fun x57 => (xa_v (x_slP (x_var (d := eV x23.2) 4 rfl) (fun x58 => xpr_none) (fun x58 x59 => (xpr_some (x_c (eI 1)))) (fun _ _ _ _ h => op_slV h)) (fun x62 => xa_nil)))) (fun _ _ h => dP_ok h)) (fun x64 => (xa_v (X.as (x_frz puV (X.as (x_lst (xa_p (x_var (d := eV x23.2) 4 rfl) (fun _ => puV _) (fun x65 => xa_nil)) rfl (by decide)) (fun x66 => (eL eV) [x23.2]) rfl)) (fun x67 => eV (frzV puV [x23.2])) rfl) (fun x68 => (xa_v (x_slP (x_var (d := eV x23.2) 4 rfl) (fun x69 => xpr_none) (fun x69 x70 => (xpr_some (x_c (eI 0)))) (fun _ _ _ _ h => op_slV h)) (fun x73 => xa_nil)))))))))))) rfl (by decide)) (fun x74 => (eL eV) [(frzV puV x74.1.2), (toPD (puT puV) [x23.2]), x74.2.2.1.2, x74.2.2.2.1.2, (frzV puV [x23.2]), x74.2.2.2.2.2.1.2.2.2]) rfl) (fun x75 => xa_nil)) (fun _ => rfl) (fun _ => puL)) (fun _ _ h => op_catL puV h)) (.inl rfl) (fun x77 => (b_end (z := x77.2) (by repeat (first | exact wk_nil | apply wk_a | apply wk_s))))))) (fun x42 => (b_end (z := x39.2) (by repeat (first | exact wk_nil | apply wk_a | apply wk_s)))) (fun x42 x78 => (b_forR (xi_mk (xa_s 5 rfl xa_nil (fun _ => rfl) (fun _ => puL)) rfl puV (fun _ => it_L _)) (fun x80 (x81 : Unit) => [some (eZ a0), some (eI x11), some ((eL eI) x20.2.2), some ((eQ eI (eT (eP eI eI)) (eT eI)) x20.2.1), some (eV x23.2), none, none, none]) (fun x80 => ()) (fun (z : Bool) => eB z) (fun x80 x112 => [some (eZ a0), none, none, none, none, none, none, none]) Lf.ret (fun _ => rfl) (fun x80 => by repeat (first | exact wk_nil | apply wk_a | apply wk_s)) (fun x80 x81 x82 => as_nm) (fun x80 x81 x82 => (b_set (x_prim (xa_p (x_var (d := eV x82) 6 rfl) (fun _ => puV _) (fun x85 => xa_nil)) (fun _ _ h => op_strV h)) (.inl rfl) (fun x87 => (b_last (b_if (xt_orP (xt_tst (x_primT (xa_v (x_callP (xa_p (x_var (d := (eQ eI (eT (eP eI eI)) (eT eI)) x20.2.1) 3 rfl) (fun _ => (puQ puI (puT (puP puI puI)) (puT puI)) _) (fun x88 => (xa_p (x_var (d := eV x82) 6 rfl) (fun _ => puV _) (fun x89 => xa_nil)))) rfl (fun _ _ h => tok_shows_bar  _ _ _ h)) (fun x91 => (xa_v (x_c (eB false)) (fun x92 => xa_nil)))) (fun _ => op_notB _ _))) (fun x93 => (xt_tst (x_primT (xa_v (x_prim (xa_p (x_var (d := eV x82) 6 rfl) (fun _ => puV _) (fun x94 => xa_nil)) (fun _ _ h => op_strV h)) (fun x96 => (xa_p (x_var (d := eR x87.2) 7 rfl) (fun _ => puR _) (fun x97 => xa_nil)))) (fun _ => op_ne eqR (by decide) _ _))))) (fun x99 => (b_ret (x_c (eB false)) (fun x100 => (Lf.ret false)) (.inl rfl) (fun x100 => ql_ret rfl (by repeat (first | exact wk_nil | apply wk_a | apply wk_s))))) (fun x99 => (b_skip (b_endL (z := ()) (by repeat (first | exact wk_nil | apply wk_a | apply wk_s)))))))))) (fun x80 x112 => ql_ret rfl (by repeat (first | exact wk_nil | apply wk_a | apply wk_s))) (fun x80 x81 => (b_last (b_if (xt_andP (xt_tst (x_primT (xa_p (x_var (d := eV x23.2) 4 rfl) (fun _ => puV _) (fun x101 => (xa_v (x_c PyData.none) (fun x102 => xa_nil)))) (fun _ => tr_notN _))) (fun x103 => (xt_tst (x_primT (xa_v (x_callP (xa_p (x_var (d := (eQ eI (eT (eP eI eI)) (eT eI)) x20.2.1) 3 rfl) (fun _ => (puQ puI (puT (puP puI puI)) (puT puI)) _) (fun x104 => (xa_p (x_var (d := eV x23.2) 4 rfl) (fun _ => puV _) (fun x105 => xa_nil)))) rfl (fun _ _ h => tok_shows_bar  _ _ _ h)) (fun x107 => (xa_v (x_c (eB true)) (fun x108 => xa_nil)))) (fun _ => op_notB _ _))))) (fun x110 => (b_ret (x_c (eB false)) (fun x111 => (Lf.ret false)) (.inl rfl) (fun x111 => ql_ret rfl (by repeat (first | exact wk_nil | apply wk_a | apply wk_s))))) (fun x110 => (b_skip (b_endL (z := ()) (by repeat (first | exact wk_nil | apply wk_a | apply wk_s))))))))))))))))))))))) (fun x9 x114 => qf_ret rfl (by repeat (first | exact wk_nil | apply wk_a | apply wk_s))) (fun x9 x10 => (b_last (b_ret (x_c (eB true)) (fun x113 => true) (.inl rfl) (fun x113 => qf_ret rfl (by repeat (first | exact wk_nil | apply wk_a | apply wk_s))))))) (by dsimp only [p_law])) rfl (by simp [okM]) (fun z => (coll_0P rfl coll_nilP))
/-! digits picked of a cell's own and of numbers mixed -/
def St2 (s : List Int) : Prop := ∃ a b : Int, s = [a, b] ∧ 0 ≤ a ∧ 0 ≤ b ∧ b < 2147483647
theorem pick_w {s : List Int} {m : Int} (h : St2 s) (hm : 0 < m) (hm2 : m < 1000000) : Sp (p__law_pick s m) (fun r => 0 ≤ r.1 ∧ r.1 < m ∧ St2 r.2) := by
  obtain ⟨a, b, rfl, ha, hb, hb2⟩ := h
  unfold p__law_pick
  simp only [at0, at1, set0, set1, Option.bind_some]
  refine w_ite (fun c0 => ?_) fun c0 => ?_
  · rw [modT_of hm, Option.bind_some, divT_of hm (by omega)]
    exact w_some ⟨Int.emod_nonneg _ (by omega), Int.emod_lt_of_pos _ hm, _, _, rfl, Int.ediv_nonneg ha (by omega), hb, hb2⟩
  · rw [mulT_l (by omega) (by omega), Option.bind_some, modT_of hm]
    exact w_some ⟨Int.emod_nonneg _ (by omega), Int.emod_lt_of_pos _ hm, _, _, rfl, ha, by omega, by omega⟩
theorem tenN_pos (n : Nat) : 0 < tenN n := by
  unfold tenN
  exact Int.natCast_pos.mpr (Nat.pow_pos (by decide))
theorem cell_at_w (ns : List Int) (k : Int) (h : 0 ≤ k) : Sp (p__law_cell_at ns k) (fun _ => True) := by
  unfold p__law_cell_at
  refine w_ite (fun c => ?_) fun c => w_some trivial
  have c := of_decide_eq_true c
  rw [atI_get' h c]
  exact w_some trivial
theorem left_w (ns : List Int) (k : Int) (h0 : 0 ≤ k) (h1 : k < 1000000) : Sp (p__law_left ns k) St2 := by
  unfold p__law_left
  have hp : 0 < max (1 : Int) (ns.length : Int) := by omega
  rw [modT_of hp, Option.bind_some]
  refine w_bind (cell_at_w ns _ (Int.emod_nonneg _ (by omega))) fun cell _ => ?_
  rw [mulT_r (by omega) (by omega), Option.bind_some]
  refine w_let fun seed hs => ?_
  rw [modT_of (tenN_pos 4000), Option.bind_some]
  refine w_some ⟨_, _, rfl, Int.emod_nonneg _ (by have := tenN_pos 4000; omega), ?_, ?_⟩
  · rw [hs]; exact Int.emod_nonneg _ (by decide)
  · rw [hs]; exact Int.emod_lt_of_pos _ (by decide)
/-! nets that are drawn -/
abbrev Net := Int × List (Int × Int) × List Int
def GoodF (L : Int) (p : Int × Int) : Prop := 0 ≤ p.1 ∧ p.1 < L ∧ 0 ≤ p.2 ∧ p.2 < L ∧ p.1 ≠ p.2
structure GoodN (N : Net) : Prop where
  l1 : 1 ≤ N.1
  l16 : N.1 ≤ 16
  many : N.2.1.length ≤ 128
  forks : ∀ p ∈ N.2.1, GoodF N.1 p
  ends : N.2.2.Perm (rngI 0 N.1.toNat)
theorem GoodN.elen {N : Net} (h : GoodN N) : N.2.2.length = N.1.toNat := by rw [h.ends.length_eq, rngI_len]
theorem GoodN.eget {N : Net} (h : GoodN N) {x : Int} (hx : x ∈ N.2.2) : 0 ≤ x ∧ x < N.1 := by
  have := rngI_mem (h.ends.mem_iff.mp hx)
  have := h.l1
  omega
theorem ring_ne {L a b : Int} (hL : 2 ≤ L) (a0 : 0 ≤ a) (a1 : a < L) (b0 : 0 ≤ b) (b1 : b < L - 1) : (a + 1 + b) % L ≠ a := by
  intro z
  rcases Int.lt_or_le (a + 1 + b) L with y | y
  · rw [Int.emod_eq_of_lt (by omega) y] at z; omega
  · rw [show a + 1 + b = (a + 1 + b - L) + L * 1 by omega, Int.add_mul_emod_self_left, Int.emod_eq_of_lt (by omega) (by omega)] at z; omega
theorem next_ne {L k : Int} (hL : 2 ≤ L) : k % L ≠ (k + 1) % L := by
  intro z
  have q1 := Int.emod_nonneg k (show L ≠ 0 by omega)
  have q2 := Int.emod_lt_of_pos k (show 0 < L by omega)
  have := ring_ne (b := 0) hL q1 q2 (by omega) (by omega)
  apply this
  rw [Int.add_zero, Int.emod_add_emod]
  exact z.symm
theorem perm_pop {α : Type} (lf en : List α) (j : Nat) (hj : j < lf.length) : (lf.eraseIdx j ++ (en ++ [lf[j]])).Perm (lf ++ en) := by
  have e : lf.Perm (lf[j] :: lf.eraseIdx j) := by
    rw [List.eraseIdx_eq_take_drop_succ]
    have z : lf = lf.take j ++ lf[j] :: lf.drop (j + 1) := by
      rw [← List.drop_eq_getElem_cons hj, List.take_append_drop]
    conv => lhs; rw [z]
    exact List.perm_middle
  refine .trans ?_ (e.append_right en).symm
  rw [← List.append_assoc]
  exact (List.perm_append_comm (l₁ := lf.eraseIdx j ++ en) (l₂ := [lf[j]]))
theorem ins_perm {α : Type} (xs : List α) (k : Nat) (x : α) : (xs.take k ++ [x] ++ xs.drop k).Perm (xs ++ [x]) := by
  rw [List.append_assoc]
  have h : xs ++ [x] = (xs.take k ++ xs.drop k) ++ [x] := by rw [List.take_append_drop]
  rw [h, List.append_assoc]
  exact .append_left _ List.perm_append_comm
theorem net_w {s : List Int} (h : St2 s) {most : Int} (hm0 : 0 ≤ most) (hm1 : most ≤ 128) : Sp (p__law_net s most) (fun r => GoodN r.1 ∧ r.1.2.1.length ≤ max 12 most.toNat ∧ St2 r.2) := by
  unfold p__law_net
  refine w_bind (pick_w h (by decide) (by decide)) fun r1 ⟨a0, a1, s1⟩ => ?_
  refine w_bind (P := fun x => 1 ≤ x ∧ x ≤ 16) ((w_atI a0 (by simpa using a1)).mono fun x hx => by
    simp only [List.mem_cons, List.not_mem_nil, or_false] at hx; omega) fun L hL => ?_
  refine w_let fun f0 hf0 => ?_
  subst hf0
  refine w_bind (pick_w s1 (by decide) (by decide)) fun r2 ⟨b0, b1, s2⟩ => ?_
  refine w_bind (P := fun x => 0 ≤ x ∧ (x ≤ 12 ∨ x ≤ most)) ((w_atI b0 (by simpa using b1)).mono fun x hx => by
    simp only [List.mem_cons, List.not_mem_nil, or_false] at hx; omega) fun m0 hm => ?_
  obtain ⟨many, hmany⟩ : ∃ x, x = m0 * (if decide (1 < L) = true then 1 else 0) := ⟨_, rfl⟩
  rw [← hmany]
  have hmany : 0 ≤ many ∧ (many ≤ 12 ∨ many ≤ most) ∧ (0 < many → 2 ≤ L) := by
    rw [hmany]
    by_cases c : (1 : Int) < L
    · rw [decide_eq_true c, if_pos rfl]; omega
    · rw [decide_eq_false c, if_neg (by simp)]; omega
  rw [rngO_of (by omega), Option.bind_some]
  refine w_bind (w_lpN (fun i s => s.2.length = i ∧ (∀ p ∈ s.2, GoodF L p) ∧ St2 s.1) ⟨rfl, by simp, s2⟩ fun i s y hy hi => ?_) fun sF hF => ?_
  · obtain ⟨y1, y2⟩ := rngI_get hy
    obtain ⟨h1, h2, h3⟩ := hi
    have hL2 : 2 ≤ L := by omega
    refine w_bind (pick_w h3 (by omega) (by omega)) fun u1 ⟨c0, c1, t1⟩ => ?_
    refine w_bind (pick_w t1 (by omega) (by omega)) fun u2 ⟨d0, d1, t2⟩ => ?_
    rw [modT_of (by omega), Option.bind_some]
    refine w_let fun fork hfork => ?_
    refine w_bind (pick_w t2 (by decide) (by decide)) fun u3 ⟨e0, e1, t3⟩ => ?_
    have m0 := Int.emod_nonneg (u1.1 + 1 + u2.1) (show L ≠ 0 by omega)
    have m1 := Int.emod_lt_of_pos (u1.1 + 1 + u2.1) (show 0 < L by omega)
    have g0 : GoodF L fork := by
      rw [hfork]
      exact ⟨c0, c1, m0, m1, fun z => ring_ne hL2 c0 c1 d0 (by omega) z.symm⟩
    refine w_bind (P := GoodF L) ?_ fun q1 hq1 => ?_
    · refine w_ite (fun c => ?_) fun c => w_some g0
      rw [Bool.and_eq_true] at c
      have hne : s.2 ≠ [] := by simpa using c.1
      have hlt : u3.1 < 2 := of_decide_eq_true c.2
      rw [atI_lastne hne, Option.bind_some, Option.bind_some]
      have hg := h2 _ (List.getLast_mem hne)
      refine w_bind (w_atI e0 (by simpa using hlt)) fun q hq => w_some ?_
      simp only [List.mem_cons, List.not_mem_nil, or_false] at hq
      rcases hq with rfl | rfl
      · exact hg
      · exact ⟨hg.2.2.1, hg.2.2.2.1, hg.1, hg.2.1, fun z => hg.2.2.2.2 z.symm⟩
    rw [appT_of (by omega), Option.bind_some]
    refine w_some ⟨by simp [h1], fun p hp => ?_, t3⟩
    rcases List.mem_append.mp hp with z | z
    · exact h2 p z
    · rw [List.mem_singleton.mp z]; exact hq1
  obtain ⟨f1, f2, f3⟩ := hF
  rw [rngI_len] at f1
  rw [Option.bind_some, rngO_of (by omega), Option.bind_some]
  refine w_bind (w_lpN (fun i s => s.2.length = i ∧ s.2.Perm (rngI 0 i) ∧ St2 s.1) ⟨rfl, .refl _, f3⟩ fun i s y hy hi => ?_) fun sE hE => ?_
  · obtain ⟨y1, y2⟩ := rngI_get hy
    obtain ⟨h1, h2, h3⟩ := hi
    refine w_bind (pick_w h3 (by omega) (by omega)) fun u1 ⟨c0, c1, t1⟩ => ?_
    rw [insT_of (by omega) c0 (by omega), Option.bind_some]
    refine w_some ⟨by simp; omega, ?_, t1⟩
    refine (ins_perm _ _ _).trans ?_
    rw [rngI_snoc, y1]
    exact h2.append_right _
  obtain ⟨e1, e2, e3⟩ := hE
  rw [rngI_len] at e1 e2
  rw [Option.bind_some]
  refine w_bind (pick_w e3 (by decide) (by decide)) fun u ⟨u0, u1, us⟩ => ?_
  refine w_bind (P := fun en => List.Perm en (rngI 0 L.toNat)) ((w_atI u0 (by simpa using u1)).mono fun x hx => by
    simp only [List.mem_cons, List.not_mem_nil, or_false] at hx
    rcases hx with rfl | rfl
    · exact e2
    · exact .refl _) fun en hen => ?_
  exact w_some ⟨⟨by show 1 ≤ L; omega, by show L ≤ 16; omega, by show sF.2.length ≤ 128; omega, f2, hen⟩, by show sF.2.length ≤ _; omega, us⟩
/-! what comes of counts -/
def manyL (c : List Int) (p : Int × Int) : Int := c.getD p.1.toNat 0 + c.getD p.2.toNat 0
def hafL (c : List Int) (p : Int × Int) : List Int := (c.set p.1.toNat ((manyL c p + 1) / 2)).set p.2.toNat (manyL c p / 2)
def lanesL : List Int → List (Int × Int) → List Int
  | c, [] => c
  | c, p :: fs => lanesL (hafL c p) fs
def totalsL : List Int → List (Int × Int) → List Int
  | _, [] => []
  | c, p :: fs => manyL c p :: totalsL (hafL c p) fs
theorem haf_len (c : List Int) (p : Int × Int) : (hafL c p).length = c.length := by unfold hafL; simp
theorem lanesL_len : ∀ (fs : List (Int × Int)) (c : List Int), (lanesL c fs).length = c.length
  | [], _ => rfl
  | p :: fs, c => by rw [lanesL, lanesL_len fs, haf_len]
theorem totalsL_len : ∀ (fs : List (Int × Int)) (c : List Int), (totalsL c fs).length = fs.length
  | [], _ => rfl
  | p :: fs, c => by rw [totalsL, List.length_cons, List.length_cons, totalsL_len fs]
theorem GoodN.lens {N : Net} (h : GoodN N) {c : List Int} (hc : (c.length : Int) = N.1) : ∀ p ∈ N.2.1, GoodF c.length p := fun p hp => by rw [hc]; exact h.forks p hp
theorem totals_eq {N : Net} {c : List Int} (hg : ∀ p ∈ N.2.1, GoodF c.length p) (hm : N.2.1.length ≤ 100000) : p_fork_totals N c = some (totalsL c N.2.1, lanesL c N.2.1) := by
  unfold p_fork_totals
  rw [Option.bind_some]
  have key : ∀ (fs : List (Int × Int)) (c fo : List Int), (∀ p ∈ fs, GoodF c.length p) → fo.length + fs.length ≤ 100000 →
      lpN (fun (s13 : ((List Int) × (List Int))) (y14 : (Int × Int)) => ((atI s13.1 y14.1)).bind fun t18 => ((atI s13.1 y14.2)).bind fun t21 => (some (t18 + t21)).bind fun many => ((appT s13.2 many)).bind fun totals => ((setT s13.1 y14.1 ((many + (1 : Int)) / (2 : Int)))).bind fun lanes => ((setT lanes y14.2 (many / (2 : Int)))).bind fun lanes => some (lanes, totals)) fs (c, fo) = some (lanesL c fs, fo ++ totalsL c fs) := by
    intro fs
    induction fs with
    | nil => intro c fo _ _; simp [lpN, lanesL, totalsL]
    | cons p fs ih =>
      intro c fo hg hl
      rw [List.length_cons] at hl
      obtain ⟨g1, g2, g3, g4, _⟩ := hg p (List.mem_cons_self ..)
      have ih := ih (hafL c p) (fo ++ [manyL c p]) (fun q hq => by rw [haf_len]; exact hg q (List.mem_cons_of_mem _ hq)) (by simp; omega)
      rw [lpN]
      simp only []
      rw [atI_D 0 g1 g2, Option.bind_some, atI_D 0 g3 g4, Option.bind_some, Option.bind_some, appT_of (by omega), Option.bind_some, setT_nn g1 g2, Option.bind_some, setT_nn g3 (by rw [List.length_set]; exact g4), Option.bind_some, Option.bind_some]
      refine Eq.trans ?_ (ih.trans ?_)
      · rfl
      · simp [lanesL, totalsL]
  rw [key N.2.1 c [] hg (by simpa using hm), Option.bind_some]
  rfl
def endsL (N : Net) (c : List Int) : List Int := N.2.2.map fun e => (lanesL c N.2.1).getD e.toNat 0
def turnsL (N : Net) (c : List Int) : List Int := (totalsL c N.2.1).map fun m => m % 2
theorem ends_eq {N : Net} {c : List Int} (h : GoodN N) (hc : (c.length : Int) = N.1) : p_ends_of N c = some (endsL N c) := by
  unfold p_ends_of
  have h16 := h.l16
  have hm := h.many
  have el := h.elen
  rw [totals_eq (h.lens hc) (by omega), Option.bind_some, lim_of (by omega), mapO_eq (g := fun e : Int => (lanesL c N.2.1).getD e.toNat 0) fun e he => ?_, Option.bind_some]
  · rfl
  · obtain ⟨e0, e1⟩ := h.eget he
    rw [atI_D 0 e0 (by rw [lanesL_len]; omega)]; rfl
theorem endsL_len {N : Net} {c : List Int} : (endsL N c).length = N.2.2.length := by unfold endsL; simp
theorem turnsL_len {N : Net} {c : List Int} : (turnsL N c).length = N.2.1.length := by unfold turnsL; rw [List.length_map, totalsL_len]
theorem sum_set : ∀ (xs : List Int) (i : Nat) (v : Int), i < xs.length → (xs.set i v).sum = xs.sum - xs.getD i 0 + v
  | [], i, v, h => by simp at h
  | x :: xs, 0, v, _ => by simp; omega
  | x :: xs, i + 1, v, h => by
    have := sum_set xs i v (by simpa using h)
    rw [List.set_cons_succ, List.sum_cons, List.sum_cons, this, List.getD_cons_succ]; omega
theorem haf_sum {c : List Int} {p : Int × Int} (h : GoodF c.length p) : (hafL c p).sum = c.sum := by
  obtain ⟨g1, g2, g3, g4, g5⟩ := h
  unfold hafL
  rw [sum_set _ _ _ (by rw [List.length_set]; omega), sum_set _ _ _ (by omega)]
  have : (c.set p.1.toNat ((manyL c p + 1) / 2)).getD p.2.toNat 0 = c.getD p.2.toNat 0 := by
    rw [List.getD_eq_getElem?_getD, List.getElem?_set, if_neg (by omega), List.getD_eq_getElem?_getD]
  rw [this]
  have e : manyL c p = c.getD p.1.toNat 0 + c.getD p.2.toNat 0 := rfl
  omega
theorem lanesL_sum : ∀ (fs : List (Int × Int)) (c : List Int), (∀ p ∈ fs, GoodF c.length p) → (lanesL c fs).sum = c.sum
  | [], _, _ => rfl
  | p :: fs, c, h => by
    rw [lanesL, lanesL_sum fs _ fun q hq => by rw [haf_len]; exact h q (List.mem_cons_of_mem _ hq), haf_sum (h p (List.mem_cons_self ..))]
theorem map_range_get (xs : List Int) : (rngI 0 xs.length).map (fun e => xs.getD e.toNat 0) = xs := by
  unfold rngI
  rw [List.map_map]
  refine List.ext_getElem (by simp) fun i h1 h2 => ?_
  rw [List.getElem_map, List.getElem_range]
  simp only [Function.comp]
  rw [show ((0 : Int) + (i : Nat)).toNat = i by omega, List.getD_eq_getElem?_getD, List.getElem?_eq_getElem h2]; rfl
theorem perm_sum : ∀ {a b : List Int}, a.Perm b → a.sum = b.sum := fun h => by
  induction h with
  | nil => rfl
  | cons x _ ih => rw [List.sum_cons, List.sum_cons, ih]
  | swap x y l => simp only [List.sum_cons]; omega
  | trans _ _ a b => exact a.trans b
theorem ends_sum {N : Net} {c : List Int} (h : GoodN N) (hc : (c.length : Int) = N.1) : (endsL N c).sum = c.sum := by
  have h1 := perm_sum (h.ends.map fun e => (lanesL c N.2.1).getD e.toNat 0)
  have h2 : N.1.toNat = (lanesL c N.2.1).length := by rw [lanesL_len]; omega
  unfold endsL
  rw [h1, h2, map_range_get, lanesL_sum _ _ (h.lens hc)]
/-! layers -/
def layY (re : List Int) (p : Int × Int) : Int := 1 + max (re.getD p.1.toNat 0) (re.getD p.2.toNat 0)
def laySet (re : List Int) (p : Int × Int) : List Int := (re.set p.1.toNat (layY re p)).set p.2.toNat (layY re p)
def layersL : List Int → List (Int × Int) → List Int
  | _, [] => []
  | re, p :: fs => layY re p :: layersL (laySet re p) fs
theorem layersL_len : ∀ (fs : List (Int × Int)) (re : List Int), (layersL re fs).length = fs.length
  | [], _ => rfl
  | p :: fs, re => by rw [layersL, List.length_cons, List.length_cons, layersL_len fs]
theorem lay_len (re : List Int) (p : Int × Int) : (laySet re p).length = re.length := by unfold laySet; simp
def layOf (N : Net) : List Int := layersL (List.replicate N.1.toNat 0) N.2.1
theorem layers_eq {N : Net} (h : GoodN N) : p_layers N = some (layOf N) := by
  have h1 := h.l1
  have h16 := h.l16
  have hm := h.many
  unfold p_layers
  rw [repT_1 (by omega), Option.bind_some, Option.bind_some]
  have key : ∀ (fs : List (Int × Int)) (re fo : List Int), (∀ p ∈ fs, GoodF re.length p) → fo.length + fs.length ≤ 1000 →
      (lpN (fun (s18 : ((List Int) × (List Int))) (y19 : (Int × Int)) => ((atI s18.1 y19.1)).bind fun t24 => ((atI s18.1 y19.2)).bind fun t27 => (some ((1 : Int) + (max t24 t27))).bind fun layer => ((setT s18.1 y19.1 layer)).bind fun reached => ((setT reached y19.2 layer)).bind fun reached => ((appT s18.2 layer)).bind fun found => some (reached, found)) fs (re, fo)).map (·.2) = some (fo ++ layersL re fs) := by
    intro fs
    induction fs with
    | nil => intro re fo _ _; simp [lpN, layersL]
    | cons p fs ih =>
      intro re fo hg hl
      rw [List.length_cons] at hl
      obtain ⟨g1, g2, g3, g4, _⟩ := hg p (List.mem_cons_self ..)
      have ih := ih (laySet re p) (fo ++ [layY re p]) (fun q hq => by rw [lay_len]; exact hg q (List.mem_cons_of_mem _ hq)) (by simp; omega)
      rw [lpN]
      simp only []
      rw [atI_D 0 g1 g2, Option.bind_some, atI_D 0 g3 g4, Option.bind_some, Option.bind_some, setT_nn g1 g2, Option.bind_some, setT_nn g3 (by rw [List.length_set]; exact g4), Option.bind_some, appT_of (by omega), Option.bind_some, Option.bind_some]
      rw [show (List.set (re.set p.1.toNat (1 + max (re.getD p.1.toNat 0) (re.getD p.2.toNat 0))) p.2.toNat (1 + max (re.getD p.1.toNat 0) (re.getD p.2.toNat 0))) = laySet re p from rfl, show 1 + max (re.getD p.1.toNat 0) (re.getD p.2.toNat 0) = layY re p from rfl, ih]
      simp [layersL]
  have := key N.2.1 (List.replicate N.1.toNat 0) [] (fun p hp => by
    rw [List.length_replicate]
    have := h.forks p hp
    rw [show ((N.1.toNat : Nat) : Int) = N.1 by omega]
    exact this) (by simp; omega)
  obtain ⟨x, e1, e2⟩ := Option.map_eq_some_iff.mp this
  rw [e1, Option.bind_some, e2]
  rfl
def mx0 (l : List Int) : Int := maxL (0 :: l)
theorem mx0_ge {l : List Int} {x : Int} (h : x ∈ l) : x ≤ mx0 l := maxL_le (List.mem_cons_of_mem _ h)
theorem mx0_nn (l : List Int) : 0 ≤ mx0 l := maxL_le (List.mem_cons_self ..)
theorem mx0_mem (l : List Int) : mx0 l = 0 ∨ mx0 l ∈ l := by
  have := maxL_mem (ns := 0 :: l) (by simp)
  rcases List.mem_cons.mp this with z | z
  · exact .inl z
  · exact .inr z
theorem mx0_le {l : List Int} {m : Int} (h0 : 0 ≤ m) (h : ∀ x ∈ l, x ≤ m) : mx0 l ≤ m := by
  rcases mx0_mem l with z | z
  · omega
  · exact h _ z
abbrev Dn := List ((Int × Int) × Int)
def onB (a : Int) (q : (Int × Int) × Int) : Bool := decide (q.1.1 = a) || decide (q.1.2 = a)
def onM (dn : Dn) (a : Int) : Int := mx0 ((dn.filter (onB a)).map (·.2))
def lawLay : Dn → List (Int × Int) → List Int
  | _, [] => []
  | dn, p :: fs => (1 + mx0 ((dn.filter fun q => onB p.1 q || onB p.2 q).map (·.2))) :: lawLay (dn ++ [(p, 1 + mx0 ((dn.filter fun q => onB p.1 q || onB p.2 q).map (·.2)))]) fs
theorem onM_two (dn : Dn) (a b : Int) : mx0 ((dn.filter fun q => onB a q || onB b q).map (·.2)) = max (onM dn a) (onM dn b) := by
  refine Int.le_antisymm (mx0_le (Int.le_trans (mx0_nn _) (Int.le_max_left ..)) fun x hx => ?_) (Int.max_le.mpr ⟨mx0_le (mx0_nn _) fun x hx => ?_, mx0_le (mx0_nn _) fun x hx => ?_⟩)
  · obtain ⟨q, hq, rfl⟩ := List.mem_map.mp hx
    obtain ⟨hq, hc⟩ := List.mem_filter.mp hq
    rcases Bool.or_eq_true_iff.mp hc with c | c
    · exact Int.le_trans (mx0_ge (List.mem_map.mpr ⟨q, List.mem_filter.mpr ⟨hq, c⟩, rfl⟩)) (Int.le_max_left ..)
    · exact Int.le_trans (mx0_ge (List.mem_map.mpr ⟨q, List.mem_filter.mpr ⟨hq, c⟩, rfl⟩)) (Int.le_max_right ..)
  · obtain ⟨q, hq, rfl⟩ := List.mem_map.mp hx
    obtain ⟨hq, hc⟩ := List.mem_filter.mp hq
    exact mx0_ge (List.mem_map.mpr ⟨q, List.mem_filter.mpr ⟨hq, by simp [hc]⟩, rfl⟩)
  · obtain ⟨q, hq, rfl⟩ := List.mem_map.mp hx
    obtain ⟨hq, hc⟩ := List.mem_filter.mp hq
    exact mx0_ge (List.mem_map.mpr ⟨q, List.mem_filter.mpr ⟨hq, by simp [hc]⟩, rfl⟩)
theorem onM_add (dn : Dn) (p : Int × Int) (y a : Int) (hy : onB a (p, y) = true → onM dn a ≤ y) (h0 : 0 ≤ y) : onM (dn ++ [(p, y)]) a = if onB a (p, y) = true then y else onM dn a := by
  unfold onM
  rw [List.filter_append]
  split
  · rename_i h
    rw [List.filter_cons_of_pos h, List.map_append]
    refine Int.le_antisymm (mx0_le h0 fun x hx => ?_) (mx0_ge (by simp))
    rcases List.mem_append.mp hx with z | z
    · exact Int.le_trans (mx0_ge z) (hy h)
    · simp at z; omega
  · rename_i h
    rw [List.filter_cons_of_neg h]
    simp
theorem lay_eq : ∀ (fs : List (Int × Int)) (re : List Int) (dn : Dn), (∀ p ∈ fs, GoodF (re.length : Int) p) → (∀ a : Nat, a < re.length → re.getD a 0 = onM dn a) → layersL re fs = lawLay dn fs
  | [], _, _, _, _ => rfl
  | (a, b) :: fs, re, dn, hg, hr => by
    obtain ⟨g1, g2, g3, g4, g5⟩ := hg (a, b) (List.mem_cons_self ..)
    have g1 : 0 ≤ a := g1
    have g2 : a < re.length := g2
    have g3 : 0 ≤ b := g3
    have g4 : b < re.length := g4
    have r1 := hr a.toNat (by omega)
    have r2 := hr b.toNat (by omega)
    rw [Int.toNat_of_nonneg g1] at r1
    rw [Int.toNat_of_nonneg g3] at r2
    have ey : layY re (a, b) = 1 + mx0 ((dn.filter fun q => onB a q || onB b q).map (·.2)) := by
      rw [onM_two]
      show 1 + max (re.getD a.toNat 0) (re.getD b.toNat 0) = _
      rw [r1, r2]
    have eM := onM_two dn a b
    rw [layersL, lawLay, ← ey]
    refine congrArg _ (lay_eq fs _ _ (fun q hq => ?_) fun c hc => ?_)
    · have : (laySet re (a, b)).length = re.length := by unfold laySet; simp
      rw [this]
      exact hg q (List.mem_cons_of_mem _ hq)
    · have hl : (laySet re (a, b)).length = re.length := by unfold laySet; simp
      rw [hl] at hc
      have old := hr c hc
      have y1 : onM dn a ≤ layY re (a, b) := by rw [ey, eM]; have := Int.le_max_left (onM dn a) (onM dn b); omega
      have y2 : onM dn b ≤ layY re (a, b) := by rw [ey, eM]; have := Int.le_max_right (onM dn a) (onM dn b); omega
      have y0 : 0 ≤ layY re (a, b) := by rw [ey]; have := mx0_nn ((dn.filter fun q => onB a q || onB b q).map (·.2)); omega
      rw [onM_add dn (a, b) _ (c : Int) (fun h => by
        unfold onB at h
        simp at h
        rcases h with z | z
        · rw [← z]; exact y1
        · rw [← z]; exact y2) y0]
      unfold laySet
      rw [List.getD_eq_getElem?_getD, List.getElem?_set, List.getElem?_set]
      rw [List.getD_eq_getElem?_getD] at old
      have ob : onB (c : Int) ((a, b), layY re (a, b)) = (decide (a = c) || decide (b = c)) := rfl
      by_cases c2 : b.toNat = c
      · have : b = (c : Int) := by omega
        rw [ob]
        simp [c2, this, hc]
      · have nb : ¬ b = (c : Int) := by omega
        by_cases c1 : a.toNat = c
        · have : a = (c : Int) := by omega
          rw [ob]
          simp [c2, c1, this, hc]
        · have na : ¬ a = (c : Int) := by omega
          rw [ob]
          simp [c2, c1, nb, na]
          simpa using old
/-! balls one by one -/
def addL (c : List Int) (a : Nat) (d : Int) : List Int := c.set a (c.getD a 0 + d)
theorem addL_len (c : List Int) (a : Nat) (d : Int) : (addL c a d).length = c.length := by unfold addL; simp
theorem get_set' (c : List Int) (i j : Nat) (v : Int) (h : i < c.length) : (c.set i v).getD j 0 = if i = j then v else c.getD j 0 := by
  rw [List.getD_eq_getElem?_getD, List.getElem?_set, List.getD_eq_getElem?_getD]
  by_cases e : i = j
  · rw [if_pos e, if_pos h, if_pos e]; rfl
  · rw [if_neg e, if_neg e]
theorem ext_D {a b : List Int} (hl : a.length = b.length) (h : ∀ i, i < a.length → a.getD i 0 = b.getD i 0) : a = b := by
  refine List.ext_getElem hl fun i h1 h2 => ?_
  have := h i h1
  rw [List.getD_eq_getElem?_getD, List.getElem?_eq_getElem h1, List.getD_eq_getElem?_getD, List.getElem?_eq_getElem h2] at this
  exact this
theorem add_get {c : List Int} {a : Nat} (d : Int) (h : a < c.length) (i : Nat) : (addL c a d).getD i 0 = if a = i then c.getD a 0 + d else c.getD i 0 := get_set' _ _ _ _ h
theorem haf_get {c : List Int} {p : Int × Int} (h : GoodF c.length p) (i : Nat) : (hafL c p).getD i 0 = if p.2.toNat = i then manyL c p / 2 else if p.1.toNat = i then (manyL c p + 1) / 2 else c.getD i 0 := by
  obtain ⟨g1, g2, g3, g4, g5⟩ := h
  unfold hafL
  rw [get_set' _ _ _ _ (by rw [List.length_set]; omega), get_set' _ _ _ _ (by omega)]
def onF' (a : Int) (p : Int × Int) : Bool := decide (p.1 = a) || decide (p.2 = a)
def nxtL (d t : Int) (p : Int × Int) : Int := if (d = 1) = (t = 0) then p.1 else p.2
theorem nx_p0 (p : Int × Int) : nxtL 1 0 p = p.1 := by simp [nxtL]
theorem nx_p1 (p : Int × Int) : nxtL 1 1 p = p.2 := by simp [nxtL]
theorem nx_m0 (p : Int × Int) : nxtL (-1) 0 p = p.2 := by simp [nxtL]
theorem nx_m1 (p : Int × Int) : nxtL (-1) 1 p = p.1 := by simp [nxtL]
theorem haf_off {c : List Int} {p : Int × Int} (h : GoodF c.length p) {a : Nat} (ha : a < c.length) (d : Int) (ho : onF' a p = false) : hafL (addL c a d) p = addL (hafL c p) a d ∧ manyL (addL c a d) p = manyL c p := by
  obtain ⟨g1, g2, g3, g4, g5⟩ := id h
  unfold onF' at ho
  rw [Bool.or_eq_false_iff] at ho
  have o1 := of_decide_eq_false ho.1
  have o2 := of_decide_eq_false ho.2
  have e : manyL (addL c a d) p = manyL c p := by
    unfold manyL
    rw [add_get d ha, add_get d ha, if_neg (by omega), if_neg (by omega)]
  refine ⟨ext_D (by rw [haf_len, addL_len, addL_len, haf_len]) fun i _ => ?_, e⟩
  rw [haf_get (by rw [addL_len]; exact h), e, add_get (c := c) d ha, add_get (c := hafL c p) d (show a < (hafL c p).length by rw [haf_len]; exact ha) i, haf_get h, haf_get h]
  rw [if_neg (by omega : ¬ p.2.toNat = a), if_neg (by omega : ¬ p.1.toNat = a)]
  by_cases c1 : a = i
  · subst c1
    rw [if_neg (by omega), if_neg (by omega), if_pos rfl, if_pos rfl]
  · rw [if_neg c1, if_neg c1]
theorem haf_on {c : List Int} {p : Int × Int} (h : GoodF c.length p) {a : Nat} (ha : a < c.length) {d : Int} (hd : d = 1 ∨ d = -1) (ho : onF' a p = true) :
    hafL (addL c a d) p = addL (hafL c p) (nxtL d (manyL c p % 2) p).toNat d ∧ manyL (addL c a d) p = manyL c p + d := by
  obtain ⟨g1, g2, g3, g4, g5⟩ := id h
  unfold onF' at ho
  rw [Bool.or_eq_true] at ho
  have e : manyL (addL c a d) p = manyL c p + d := by
    unfold manyL
    rw [add_get d ha, add_get d ha]
    rcases ho with ho | ho
    · have ho := of_decide_eq_true ho
      rw [if_pos (by omega), if_neg (by omega), show a = p.1.toNat by omega]; omega
    · have ho := of_decide_eq_true ho
      rw [if_neg (by omega), if_pos (by omega), show a = p.2.toNat by omega]; omega
  have hn : (nxtL d (manyL c p % 2) p).toNat < c.length := by unfold nxtL; split <;> omega
  refine ⟨ext_D (by rw [haf_len, addL_len, addL_len, haf_len]) fun i _ => ?_, e⟩
  rw [haf_get (by rw [addL_len]; exact h), e, add_get (c := c) d ha, add_get (c := hafL c p) d (show (nxtL d (manyL c p % 2) p).toNat < (hafL c p).length by rw [haf_len]; exact hn) i, haf_get h, haf_get h]
  have hm : manyL c p % 2 = 0 ∨ manyL c p % 2 = 1 := by omega
  have ho' : p.1 = a ∨ p.2 = a := ho.imp of_decide_eq_true of_decide_eq_true
  rcases hd with rfl | rfl <;> rcases hm with hm | hm
  · rw [hm, nx_p0]; (repeat' split) <;> omega
  · rw [hm, nx_p1]; (repeat' split) <;> omega
  · rw [hm, nx_m0]; (repeat' split) <;> omega
  · rw [hm, nx_m1]; (repeat' split) <;> omega
/-- a ball's way: its last lane, the turns behind it -/
def modsL (c : List Int) (fs : List (Int × Int)) : List Int := (totalsL c fs).map fun m => m % 2
/-! a ball's end -/
theorem idx_ex (b : Int) : ∀ {xs : List Int}, b ∈ xs → ∃ e : Nat, xs.findIdx? (fun z => decide (z = b)) = some e ∧ xs[e]? = some b
  | [], h => by cases h
  | x :: xs, h => by
    rw [List.findIdx?_cons]
    by_cases c : x = b
    · exact ⟨0, by simp [c], by simp [c]⟩
    · obtain ⟨e, e1, e2⟩ := idx_ex b (xs := xs) (by
        rcases List.mem_cons.mp h with z | z
        · exact absurd z.symm c
        · exact z)
      exact ⟨e + 1, by simp [c, e1], by simpa using e2⟩
theorem GoodN.nodup {N : Net} (h : GoodN N) : N.2.2.Nodup := h.ends.nodup_iff.mpr (by
  unfold rngI
  exact List.Pairwise.map _ (fun a b (z : a ≠ b) => by omega) List.nodup_range)
theorem end_of {N : Net} (h : GoodN N) {b : Int} (b0 : 0 ≤ b) (b1 : b < N.1) : ∃ e : Nat, idxT N.2.2 b = some (e : Int) ∧ e < N.2.2.length ∧ N.2.2[e]? = some b := by
  have hm : b ∈ N.2.2 := h.ends.mem_iff.mpr (by
    unfold rngI
    exact List.mem_map.mpr ⟨b.toNat, List.mem_range.mpr (by omega), by omega⟩)
  obtain ⟨e, e1, e2⟩ := idx_ex b hm
  refine ⟨e, ?_, (List.getElem?_eq_some_iff.mp e2).1, e2⟩
  unfold idxT
  rw [e1]; rfl
/-! the program's walks -/
theorem mods_01 (c : List Int) (fs : List (Int × Int)) : ∀ t ∈ modsL c fs, t = 0 ∨ t = 1 := fun t ht => by
  obtain ⟨m, _, rfl⟩ := List.mem_map.mp ht
  omega
theorem at_mid (l : List Int) (t : Int) (r : List Int) : atI (l ++ t :: r) (l.length : Int) = some t := atI_nat (by rw [List.getElem?_append_right (Nat.le_refl _), Nat.sub_self]; rfl)
theorem set_mid (l : List Int) (t v : Int) (r : List Int) : setT (l ++ t :: r) (l.length : Int) v = some (l ++ v :: r) := by
  rw [setT_nn (by omega) (by simp; omega), Int.toNat_natCast]
  congr 1
  rw [List.set_append_right _ _ (Nat.le_refl _), Nat.sub_self]; rfl
theorem turns_01 (N : Net) (c : List Int) : ∀ t ∈ turnsL N c, t = 0 ∨ t = 1 := mods_01 c N.2.1
theorem haf_zero {n : Nat} {p : Int × Int} (h : GoodF n p) : hafL (List.replicate n 0) p = List.replicate n 0 := by
  have h' : GoodF (List.replicate n (0 : Int)).length p := by rw [List.length_replicate]; exact h
  have gz : ∀ i, (List.replicate n (0 : Int)).getD i 0 = 0 := fun i => by
    rw [List.getD_eq_getElem?_getD, List.getElem?_replicate]; split <;> rfl
  refine ext_D (haf_len _ _) fun i _ => ?_
  rw [haf_get h', gz]
  have : manyL (List.replicate n 0) p = 0 := by unfold manyL; rw [gz, gz]; rfl
  rw [this]
  split
  · rfl
  · split <;> rfl
theorem lanes_zero {n : Nat} : ∀ (fs : List (Int × Int)), (∀ p ∈ fs, GoodF n p) → lanesL (List.replicate n 0) fs = List.replicate n 0 ∧ totalsL (List.replicate n 0) fs = List.replicate fs.length 0
  | [], _ => ⟨rfl, rfl⟩
  | p :: fs, h => by
    obtain ⟨i1, i2⟩ := lanes_zero fs fun q hq => h q (List.mem_cons_of_mem _ hq)
    have e := haf_zero (h p (List.mem_cons_self ..))
    have gz : ∀ i, (List.replicate n (0 : Int)).getD i 0 = 0 := fun i => by
      rw [List.getD_eq_getElem?_getD, List.getElem?_replicate]; split <;> rfl
    have em : manyL (List.replicate n 0) p = 0 := by unfold manyL; rw [gz, gz]; rfl
    exact ⟨by rw [lanesL, e, i1], by rw [totalsL, e, i2, em]; rfl⟩
theorem zero_ok {N : Net} (h : GoodN N) : turnsL N (List.replicate N.1.toNat 0) = List.replicate N.2.1.length 0 ∧ endsL N (List.replicate N.1.toNat 0) = List.replicate N.1.toNat 0 := by
  have l1 := h.l1
  obtain ⟨i1, i2⟩ := lanes_zero (n := N.1.toNat) N.2.1 fun p hp => by rw [show ((N.1.toNat : Nat) : Int) = N.1 by omega]; exact h.forks p hp
  refine ⟨by unfold turnsL; rw [i2]; simp, ?_⟩
  have el := h.elen
  refine ext_D (by rw [endsL_len, List.length_replicate, el]) fun i hi => ?_
  unfold endsL
  rw [i1]
  rw [List.getD_eq_getElem?_getD, List.getElem?_map, List.getD_eq_getElem?_getD, List.getElem?_replicate]
  cases N.2.2[i]? with
  | none => split <;> rfl
  | some x =>
    simp only [Option.map_some, Option.getD_some]
    rw [List.getD_eq_getElem?_getD, List.getElem?_replicate]
    split <;> split <;> rfl
/-! counts and so many more -/
def addV (c : List Int) (t : Int) (d : List Int) : List Int := List.zipWith (fun x y => x + t * y) c d
theorem addV_len {c d : List Int} (t : Int) (h : d.length = c.length) : (addV c t d).length = c.length := by unfold addV; rw [List.length_zipWith, h, Nat.min_self]
theorem addV_get {c d : List Int} (t : Int) (h : d.length = c.length) (i : Nat) : (addV c t d).getD i 0 = c.getD i 0 + t * d.getD i 0 := by
  unfold addV
  simp only [List.getD_eq_getElem?_getD, List.getElem?_zipWith]
  by_cases hi : i < c.length
  · rw [List.getElem?_eq_getElem hi, List.getElem?_eq_getElem (by omega : i < d.length)]; rfl
  · rw [List.getElem?_eq_none (by omega), List.getElem?_eq_none (by omega)]; simp
theorem many_add {c d : List Int} (t : Int) (h : d.length = c.length) (p : Int × Int) : manyL (addV c t d) p = manyL c p + t * manyL d p := by
  unfold manyL
  rw [addV_get t h, addV_get t h, Int.mul_add]; omega
theorem haf_add {c d : List Int} {t : Int} (h : d.length = c.length) {p : Int × Int} (g : GoodF c.length p) (he : manyL d p % 2 = 0) : hafL (addV c t d) p = addV (hafL c p) t (hafL d p) := by
  have hd : (hafL d p).length = (hafL c p).length := by rw [haf_len, haf_len, h]
  obtain ⟨k, hk⟩ : ∃ k, manyL d p = 2 * k := ⟨manyL d p / 2, by omega⟩
  refine ext_D (by rw [haf_len, addV_len t h, addV_len t hd, haf_len]) fun i _ => ?_
  rw [haf_get (by rw [addV_len t h]; exact g), addV_get t hd, haf_get g, haf_get (by rw [h]; exact g), addV_get t h, many_add t h, hk, show t * (2 * k) = 2 * (t * k) by rw [Int.mul_left_comm]]
  rw [show (2 * k) / 2 = k by omega, show (2 * k + 1) / 2 = k by omega]
  split
  · omega
  · split
    · omega
    · rfl
theorem even_lin {t : Int} : ∀ (fs : List (Int × Int)) (c d : List Int), (∀ p ∈ fs, GoodF c.length p) → d.length = c.length → (∀ m ∈ totalsL d fs, m % 2 = 0) →
    lanesL (addV c t d) fs = addV (lanesL c fs) t (lanesL d fs) ∧ (totalsL (addV c t d) fs).map (fun m => m % 2) = (totalsL c fs).map fun m => m % 2
  | [], c, d, _, _, _ => ⟨rfl, rfl⟩
  | p :: fs, c, d, hg, h, he => by
    have e0 := he (manyL d p) (List.mem_cons_self ..)
    have e := haf_add (t := t) h (hg p (List.mem_cons_self ..)) e0
    obtain ⟨i1, i2⟩ := even_lin (t := t) fs (hafL c p) (hafL d p) (fun q hq => by rw [haf_len]; exact hg q (List.mem_cons_of_mem _ hq)) (by rw [haf_len, haf_len, h]) fun m hm => he m (List.mem_cons_of_mem _ hm)
    refine ⟨by rw [lanesL, e, i1]; rfl, ?_⟩
    rw [totalsL, totalsL, e, List.map_cons, List.map_cons, i2, many_add t h]
    congr 1
    obtain ⟨k, hk⟩ : ∃ k, manyL d p = 2 * k := ⟨manyL d p / 2, by omega⟩
    rw [hk, show t * (2 * k) = 2 * (t * k) by rw [Int.mul_left_comm]]
    omega
theorem lay_get0 {re : List Int} {p : Int × Int} (h : GoodF re.length p) (i : Nat) : (laySet re p).getD i 0 = if p.2.toNat = i then layY re p else if p.1.toNat = i then layY re p else re.getD i 0 := by
  obtain ⟨g1, g2, g3, g4, g5⟩ := h
  unfold laySet
  rw [get_set' _ _ _ _ (by rw [List.length_set]; omega), get_set' _ _ _ _ (by omega)]
theorem pow_dvd {a b : Nat} {x : Int} (h : b ≤ a) (hx : (2 : Int) ^ a ∣ x) : (2 : Int) ^ b ∣ x := Int.dvd_trans ⟨2 ^ (a - b), by rw [← Int.pow_add]; congr 1; omega⟩ hx
theorem div_all {D : Int} : ∀ (fs : List (Int × Int)) (re d : List Int), (∀ p ∈ fs, GoodF d.length p) → re.length = d.length → (∀ y ∈ layersL re fs, y ≤ D) → (∀ i, (2 : Int) ^ (D - re.getD i 0).toNat ∣ d.getD i 0) → ∀ m ∈ totalsL d fs, m % 2 = 0
  | [], _, _, _, _, _, _, m, hm => by cases hm
  | p :: fs, re, d, hg, hl, hy, hd, m, hm => by
    have g := hg p (List.mem_cons_self ..)
    have g' : GoodF re.length p := by rw [hl]; exact g
    have y1 : layY re p ≤ D := hy _ (by rw [layersL]; exact List.mem_cons_self ..)
    have ha : (2 : Int) ^ ((D - layY re p).toNat + 1) ∣ manyL d p := by
      have h1 := hd p.1.toNat
      have h2 := hd p.2.toNat
      have y2 : layY re p = 1 + max (re.getD p.1.toNat 0) (re.getD p.2.toNat 0) := rfl
      exact Int.dvd_add (pow_dvd (by omega) h1) (pow_dvd (by omega) h2)
    obtain ⟨k, hk⟩ := ha
    have hk2 : manyL d p = 2 * (2 ^ (D - layY re p).toNat * k) := by rw [hk, Int.pow_succ, Int.mul_comm (2 ^ _) 2, Int.mul_assoc]
    rcases List.mem_cons.mp hm with rfl | hm
    · omega
    · refine div_all fs (laySet re p) (hafL d p) (fun q hq => by rw [haf_len]; exact hg q (List.mem_cons_of_mem _ hq)) (by rw [lay_len, haf_len, hl]) (fun y h => hy y (by rw [layersL]; exact List.mem_cons_of_mem _ h)) (fun i => ?_) m hm
      rw [lay_get0 g', haf_get g]
      have e1 : manyL d p / 2 = 2 ^ (D - layY re p).toNat * k := by omega
      have e2 : (manyL d p + 1) / 2 = 2 ^ (D - layY re p).toNat * k := by omega
      by_cases c1 : p.2.toNat = i
      · rw [if_pos c1, if_pos c1, e1]; exact ⟨k, rfl⟩
      · rw [if_neg c1, if_neg c1]
        by_cases c2 : p.1.toNat = i
        · rw [if_pos c2, if_pos c2, e2]; exact ⟨k, rfl⟩
        · rw [if_neg c2, if_neg c2]; exact hd i
theorem GoodN.lensZ {N : Net} (h : GoodN N) : ∀ p ∈ N.2.1, GoodF (List.replicate N.1.toNat (0 : Int)).length p := by
  have := h.l1
  rw [List.length_replicate, show ((N.1.toNat : Nat) : Int) = N.1 by omega]; exact h.forks
theorem depth_eq {N : Net} (h : GoodN N) : p_depth N = some (mx0 (layOf N)) := by
  have hm := h.many
  have hl : (layOf N).length = N.2.1.length := layersL_len _ _
  unfold p_depth
  rw [layers_eq h, Option.bind_some, catT_of (by simp; omega), Option.bind_some, maxO_of (by simp)]
  rfl
/-! shares -/
def uniL (L lane : Nat) (m : Int) : List Int := List.replicate lane 0 ++ [m] ++ List.replicate (L - 1 - lane) 0
theorem uni_len {L lane : Nat} (m : Int) (h : lane < L) : (uniL L lane m).length = L := by unfold uniL; simp; omega
theorem uni_get {L lane : Nat} (m : Int) (i : Nat) : (uniL L lane m).getD i 0 = if i = lane then m else 0 := by
  unfold uniL
  rw [List.getD_eq_getElem?_getD, List.append_assoc]
  by_cases h : i < lane
  · rw [List.getElem?_append_left (by simpa using h), List.getElem?_replicate, if_pos h, if_neg (by omega)]; rfl
  · rw [List.getElem?_append_right (by simpa using h), List.length_replicate]
    by_cases e : i = lane
    · rw [e, Nat.sub_self, if_pos rfl]; rfl
    · obtain ⟨k, hk⟩ : ∃ k, i - lane = k + 1 := ⟨i - lane - 1, by omega⟩
      rw [hk, if_neg e]
      simp only [List.singleton_append, List.getElem?_cons_succ, List.getElem?_replicate]
      split <;> rfl
def dep (N : Net) : Nat := (mx0 (layOf N)).toNat
theorem dep_small {N : Net} (h : GoodN N) : ∀ (D : Int), D = mx0 (layOf N) → 0 ≤ D := fun D e => by rw [e]; exact mx0_nn _
theorem lay_bound : ∀ (fs : List (Int × Int)) (re : List Int) (M : Int), (∀ p ∈ fs, GoodF re.length p) → (∀ i, re.getD i 0 ≤ M) → ∀ y ∈ layersL re fs, y ≤ M + fs.length
  | [], _, _, _, _, y, h => by cases h
  | p :: fs, re, M, hg, hM, y, h => by
    have g := hg p (List.mem_cons_self ..)
    have b : layY re p ≤ M + 1 := by
      have := hM p.1.toNat
      have := hM p.2.toNat
      unfold layY; omega
    rw [layersL] at h
    rw [List.length_cons]
    rcases List.mem_cons.mp h with rfl | h
    · omega
    · have := lay_bound fs (laySet re p) (M + 1) (fun q hq => by rw [lay_len]; exact hg q (List.mem_cons_of_mem _ hq)) (fun i => by
        rw [lay_get0 g]
        have := hM i
        split
        · exact b
        · split
          · exact b
          · omega) y h
      omega
theorem zero_get (n i : Nat) : (List.replicate n (0 : Int)).getD i 0 = 0 := by
  rw [List.getD_eq_getElem?_getD, List.getElem?_replicate]; split <;> rfl
theorem dep_le {N : Net} (h : GoodN N) : mx0 (layOf N) ≤ 128 := by
  refine mx0_le (by decide) fun y hy => ?_
  have := lay_bound N.2.1 _ 0 h.lensZ (fun i => by rw [zero_get]; exact Int.le_refl _) y hy
  have := h.many
  omega
theorem shares_eq {N : Net} (h : GoodN N) : p_shares N = some ((rngI 0 N.1.toNat).map fun l => endsL N (uniL N.1.toNat l.toNat (2 ^ (mx0 (layOf N)).toNat))) := by
  unfold p_shares
  have l1 := h.l1
  have l16 := h.l16
  have d0 := mx0_nn (layOf N)
  have d1 := dep_le h
  rw [depth_eq h, Option.bind_some, show shlT (1 : Int) (mx0 (layOf N)) = some (1 * 2 ^ (mx0 (layOf N)).toNat) from if_pos ⟨d0, by omega, by decide⟩, Option.bind_some, Int.one_mul, Option.bind_some, rngO_of (by omega), Option.bind_some]
  generalize (2 : Int) ^ (mx0 (layOf N)).toNat = m
  have key : ∀ (k : Nat) (lo : Nat) (acc : List (List Int)), lo + k ≤ N.1.toNat → acc.length + k ≤ 1000 →
      lpN (fun (found : ((List (List Int)))) (lane : Int) => ((repT [(0 : Int)] lane)).bind fun t25 => ((catT t25 [m])).bind fun t30 => ((repT [(0 : Int)] ((N.1 - (1 : Int)) - lane))).bind fun t42 => ((catT t30 t42)).bind fun counts => ((p_ends_of  N counts)).bind fun t48 => ((appT found t48)).bind fun found => some found) (rngI lo k) acc = some (acc ++ (rngI lo k).map fun l => endsL N (uniL N.1.toNat l.toNat m)) := by
    intro k
    induction k with
    | zero => intro lo acc _ _; simp [rngI, lpN]
    | succ k ih =>
      intro lo acc h1 h2
      rw [rngI_succ, lpN, repT_1 (by omega), Option.bind_some, catT_of (by simp; omega), Option.bind_some, repT_1 (by omega), Option.bind_some, catT_of (by simp; omega), Option.bind_some]
      have eu : List.replicate (lo : Int).toNat 0 ++ [m] ++ List.replicate (N.1 - 1 - (lo : Int)).toNat 0 = uniL N.1.toNat (lo : Int).toNat m := by
        unfold uniL
        rw [show (N.1 - 1 - (lo : Int)).toNat = N.1.toNat - 1 - (lo : Int).toNat by omega]
      rw [eu, ends_eq h (by rw [uni_len _ (by omega)]; omega), Option.bind_some, appT_of (by omega), Option.bind_some, Option.bind_some]
      have := ih (lo + 1) (acc ++ [endsL N (uniL N.1.toNat (lo : Int).toNat m)]) (by omega) (by simp; omega)
      rw [show ((lo : Int) + 1) = ((lo + 1 : Nat) : Int) by omega, this, List.map_cons, List.append_assoc]; rfl
  have := key N.1.toNat 0 [] (by omega) (by simp; omega)
  rw [show (((0 : Nat) : Int)) = 0 from rfl] at this
  rw [this, Option.bind_some, List.nil_append]
theorem uni_even {N : Net} (h : GoodN N) {lane : Nat} (hl : lane < N.1.toNat) : ∀ m ∈ totalsL (uniL N.1.toNat lane (2 ^ (mx0 (layOf N)).toNat)) N.2.1, m % 2 = 0 := by
  have l1 := h.l1
  have e := uni_len (2 ^ (mx0 (layOf N)).toNat) hl
  refine div_all (D := mx0 (layOf N)) N.2.1 (List.replicate N.1.toNat 0) _ (h.lens (by rw [e]; omega)) (by rw [e, List.length_replicate]) (fun y hy => mx0_ge hy) fun i => ?_
  rw [zero_get, uni_get, Int.sub_zero]
  split
  · exact ⟨1, by omega⟩
  · exact ⟨0, by omega⟩
theorem lpN_fold {σ β : Type} {F : σ → β → Option σ} {f : σ → β → σ} (I : σ → Prop) : ∀ (ys : List β) (s : σ), I s → (∀ y ∈ ys, ∀ s, I s → F s y = some (f s y) ∧ I (f s y)) → lpN F ys s = some (ys.foldl f s) ∧ I (ys.foldl f s)
  | [], s, h, _ => ⟨rfl, h⟩
  | y :: ys, s, h, hs => by
    obtain ⟨e, i⟩ := hs y (List.mem_cons_self ..) s h
    rw [lpN, e, Option.bind_some, List.foldl_cons]
    exact lpN_fold I ys (f s y) i fun z hz => hs z (List.mem_cons_of_mem _ hz)
/-! rows compared -/
theorem sort_perm {a b : List Int} (h : a.Perm b) : sortI a = sortI b := rise_eq (((sortI_perm a).trans h).trans (sortI_perm b).symm) (sortI_rise a) (sortI_rise b)
def cmpL (c : List Int) (p : Int × Int) : List Int := (c.set p.1.toNat (max (c.getD p.1.toNat 0) (c.getD p.2.toNat 0))).set p.2.toNat (min (c.getD p.1.toNat 0) (c.getD p.2.toNat 0))
theorem cmp_len (c : List Int) (p : Int × Int) : (cmpL c p).length = c.length := by unfold cmpL; simp
def rowL (N : Net) (row : List Int) : List Int := N.2.2.map fun l => (N.2.1.foldl cmpL row).getD l.toNat 0
theorem un2_sort (a b : Int) : un2 (sortI [a, b]) = some (min a b, max a b) := by
  by_cases h : a ≤ b
  · have : sortI [a, b] = [a, b] := by simp [sortI, insI, h]
    rw [this, Int.min_eq_left h, Int.max_eq_right h]; rfl
  · have : sortI [a, b] = [b, a] := by simp [sortI, insI, h]
    rw [this, Int.min_eq_right (by omega), Int.max_eq_left (by omega)]; rfl
theorem ends_map {N : Net} (h : GoodN N) {c : List Int} (hc : (c.length : Int) = N.1) : mapO (fun l => (atI c l).bind fun t => some t) N.2.2 = some (N.2.2.map fun l => c.getD l.toNat 0) := by
  refine mapO_eq fun l hl => ?_
  have := h.eget hl
  rw [atI_D 0 (by omega) (by omega), Option.bind_some]
theorem compared_eq {N : Net} (h : GoodN N) {row : List Int} (hr : (row.length : Int) = N.1) : p_compared N row = some (rowL N row) := by
  unfold p_compared
  have l1 := h.l1
  have l16 := h.l16
  have el := h.elen
  obtain ⟨e, i⟩ := lpN_fold (F := fun (lanes : ((List Int))) (y10 : (Int × Int)) => ((atI lanes y10.1)).bind fun t14 => ((atI lanes y10.2)).bind fun t17 => ((un2 (sortI [t14, t17]))).bind fun t21 => ((setT lanes y10.1 t21.2)).bind fun lanes => ((setT lanes y10.2 t21.1)).bind fun lanes => some lanes)
    (f := cmpL) (fun c => (c.length : Int) = N.1) N.2.1 row hr fun p hp c hc => by
      obtain ⟨g1, g2, g3, g4, g5⟩ := h.forks p hp
      refine ⟨?_, by rw [cmp_len]; exact hc⟩
      simp only [atI_D 0 g1 (by omega : p.1 < c.length), atI_D 0 g3 (by omega : p.2 < c.length), Option.bind_some, un2_sort]
      rw [setT_nn g1 (by omega), Option.bind_some, setT_nn g3 (by simp; omega), Option.bind_some]; rfl
  rw [e, Option.bind_some, lim_of (by omega), ends_map h i]; rfl
/-! bars -/
def depN (N : Net) : Int := mx0 (layOf N)
def lstD (L : Int) : Option Int := getT [((1 : Int), (0 : Int)), ((2 : Int), (1 : Int)), ((4 : Int), (3 : Int)), ((8 : Int), (6 : Int)), ((16 : Int), (9 : Int))] L
def shrs (N : Net) : List (List Int) := (rngI 0 N.1.toNat).map fun l => endsL N (uniL N.1.toNat l.toNat (2 ^ (mx0 (layOf N)).toNat))
def shOf (N : Net) (l e : Int) : Int := ((shrs N).getD l.toNat []).getD e.toNat 0
def badS (N : Net) (l e : Int) : Bool := !decide (N.1 * shOf N l e = 2 ^ (depN N).toNat)
def fallsL (row : List Int) : Bool := List.all (List.map (fun y : Int × Int => (decide (y.2 ≤ y.1))) (List.zip row (row.drop 1))) id
theorem falls_eq {row : List Int} (h : row.length ≤ 1000) : p_falls row = some (fallsL row) := by
  unfold p_falls
  have e : cutL row (some (1 : Int)) none = row.drop 1 := cutL_from row 1
  rw [e, lim_of (by rw [List.length_zip]; omega)]
  rfl
theorem rowL_len (N : Net) (row : List Int) : (rowL N row).length = N.2.2.length := by unfold rowL; simp
theorem least_eq (L : Int) : p_least_depth L = some (lstD L) := rfl
def shallow (N : Net) : Bool := match lstD N.1 with
  | some t => decide (depN N < t)
  | none => false
theorem shallow_eq {N : Net} (h : GoodN N) : p_is_shallow N = some (shallow N) := by
  unfold p_is_shallow shallow
  rw [least_eq, Option.bind_some]
  cases e : lstD N.1 with
  | none => rfl
  | some t =>
    simp only [Option.isSome_some, if_true, Option.bind_some]
    rw [depth_eq h, Option.bind_some, Option.bind_some]
    rfl
theorem rngI_nth {n l : Nat} (h : l < n) : (rngI 0 n)[l]? = some (l : Int) := by
  unfold rngI
  rw [List.getElem?_map, List.getElem?_range h]
  simp
theorem shrs_len (N : Net) : (shrs N).length = N.1.toNat := by unfold shrs; rw [List.length_map, rngI_len]
theorem shrs_get {N : Net} (h : GoodN N) {l : Nat} (hl : l < N.1.toNat) : ((shrs N).getD l []).length = N.1.toNat := by
  unfold shrs
  rw [List.getD_eq_getElem?_getD, List.getElem?_map, rngI_nth hl]
  show (endsL N _).length = _
  rw [endsL_len, h.elen]
theorem pow2_eq {N : Net} (h : GoodN N) : shlT (1 : Int) (depN N) = some (2 ^ (depN N).toNat) := by
  have d0 := mx0_nn (layOf N)
  have d1 := dep_le h
  have := h.many
  rw [show shlT (1 : Int) (depN N) = some (1 * 2 ^ (depN N).toNat) from if_pos ⟨d0, by show mx0 (layOf N) ≤ _; omega, by decide⟩, Int.one_mul]
def bitsL (L : Nat) (n : Int) : List Int := (rngI 0 L).map fun p => n / 2 ^ ((L : Int) - 1 - p).toNat % 2
theorem bitsL_len (L : Nat) (n : Int) : (bitsL L n).length = L := by unfold bitsL; rw [List.length_map, rngI_len]
theorem bits01 {L : Nat} {n : Int} : ∀ x ∈ bitsL L n, 0 ≤ x ∧ x < 2 := fun x hx => by
  obtain ⟨p, _, rfl⟩ := List.mem_map.mp hx
  omega
/-- what a bar may be -/
inductive BarOf (N : Net) : D → Prop
  | lanes : lstD N.1 = none → BarOf N (.tuple [.str "lanes"])
  | depth {t : Int} : lstD N.1 = some t → depN N < t → BarOf N (.tuple [.str "depth"])
  | share {t : Int} {l e : Nat} : lstD N.1 = some t → t ≤ depN N → l < N.1.toNat → e < N.1.toNat → badS N l e = true → (∀ l' e' : Nat, (l' < l ∨ l' = l ∧ e' < e) → e' < N.1.toNat → badS N l' e' = false) → BarOf N (.tuple [.str "share", .int l, .int e])
  | row {t : Int} {n : Nat} : lstD N.1 = some t → t ≤ depN N → (∀ l e : Nat, l < N.1.toNat → e < N.1.toNat → badS N l e = false) → N.1 ≤ 8 → n < 2 ^ N.1.toNat → fallsL (rowL N (bitsL N.1.toNat n)) = false → (∀ m : Nat, m < n → fallsL (rowL N (bitsL N.1.toNat m)) = true) → BarOf N (.tuple [.str "row", .tuple ((bitsL N.1.toNat n).map PyData.int)])
  | none {t : Int} : lstD N.1 = some t → t ≤ depN N → (∀ l e : Nat, l < N.1.toNat → e < N.1.toNat → badS N l e = false) → (N.1 ≤ 8 → ∀ m : Nat, m < 2 ^ N.1.toNat → fallsL (rowL N (bitsL N.1.toNat m)) = true) → BarOf N .none
/-- the first turn of a walk that returns -/
theorem lpR_first {σ β ρ : Type} {F : σ → β → Option (Lf σ ρ)} {Q : Option (Lf σ ρ) → Prop} {s0 : σ} : ∀ (ys : List β) (n : Nat) (P : Nat → Prop), P n → (∀ i y, ys[i]? = some y → P (n + i) → (F s0 y = some (.go s0) ∧ P (n + i + 1)) ∨ (∃ z, F s0 y = some (.ret z) ∧ Q (some (.ret z)))) → (P (n + ys.length) → Q (some (.go s0))) → Q (lpR F ys s0)
  | [], n, P, h0, _, hd => hd h0
  | y :: ys, n, P, h0, hs, hd => by
    rcases hs 0 y rfl h0 with ⟨e, h1⟩ | ⟨z, e, hq⟩
    · rw [lpR, e]
      refine lpR_first ys (n + 1) P h1 (fun i y' hy hp => ?_) (fun hp => hd (by rw [List.length_cons, show n + (ys.length + 1) = n + 1 + ys.length by omega]; exact hp))
      have := hs (i + 1) y' hy (by rw [show n + (i + 1) = n + 1 + i by omega]; exact hp)
      rwa [show n + (i + 1) + 1 = n + 1 + i + 1 by omega] at this
    · rw [lpR, e]; exact hq
theorem share_w {N : Net} (h : GoodN N) : (p_share_bar N = some none ∧ ∀ l e : Nat, l < N.1.toNat → e < N.1.toNat → badS N l e = false) ∨ ∃ l e : Nat, p_share_bar N = some (some (("share" : Str), (l : Int), (e : Int))) ∧ l < N.1.toNat ∧ e < N.1.toNat ∧ badS N l e = true ∧ ∀ l' e' : Nat, (l' < l ∨ l' = l ∧ e' < e) → e' < N.1.toNat → badS N l' e' = false := by
  have sl := shrs_len N
  have l1 := h.l1
  have l16 := h.l16
  have key : ∀ Q : Option (Option (Str × Int × Int)) → Prop, ((∀ l e : Nat, l < N.1.toNat → e < N.1.toNat → badS N l e = false) → Q (some none)) → (∀ l e : Nat, l < N.1.toNat → e < N.1.toNat → badS N l e = true → (∀ l' e' : Nat, (l' < l ∨ l' = l ∧ e' < e) → e' < N.1.toNat → badS N l' e' = false) → Q (some (some (("share" : Str), (l : Int), (e : Int))))) → Q (p_share_bar N) := by
    intro Q q0 q1
    unfold p_share_bar
    rw [shares_eq h, Option.bind_some]
    change Q (Option.bind (lpR _ (enumT 0 (shrs N)) ()) _)
    refine lpR_first (Q := fun m : Option (Lf Unit (Option (Str × Int × Int))) => Q (m.bind fun w => w.on (fun _ => some none) (fun z => some z))) (enumT 0 (shrs N)) 0 (fun i => ∀ l e : Nat, l < i → l < N.1.toNat → e < N.1.toNat → badS N l e = false) (fun l e z => by omega) (fun i y hy hp => ?_) fun hp => ?_
    · obtain ⟨y1, y2⟩ := enumT_get hy
      rw [Nat.zero_add] at y1 hp ⊢
      have hi : i < N.1.toNat := by
        have := (List.getElem?_eq_some_iff.mp y2).1
        omega
      have yl : y.2 = (shrs N).getD i [] := by rw [List.getD_eq_getElem?_getD, y2]; rfl
      have ylen : y.2.length = N.1.toNat := by rw [yl, shrs_get h hi]
      refine lpR_first (Q := fun m : Option (Lf Unit (Option (Str × Int × Int))) => ((m.bind fun w => w.on (fun _ => some (Lf.go () : Lf Unit (Option (Str × Int × Int)))) (fun z => some (Lf.ret z))) = some (Lf.go ()) ∧ ∀ l e : Nat, l < i + 1 → l < N.1.toNat → e < N.1.toNat → badS N l e = false) ∨ ∃ z, (m.bind fun w => w.on (fun _ => some (Lf.go () : Lf Unit (Option (Str × Int × Int)))) (fun z => some (Lf.ret z))) = some (Lf.ret z) ∧ Q (some z)) (enumT 0 y.2) 0 (fun j => ∀ e : Nat, e < j → e < N.1.toNat → badS N i e = false) (fun e z => by omega) (fun j x hx hj => ?_) fun hj => ?_
      · obtain ⟨x1, x2⟩ := enumT_get hx
        rw [Nat.zero_add] at x1 hj ⊢
        have hj' : j < N.1.toNat := by
          have := (List.getElem?_eq_some_iff.mp x2).1
          omega
        have xv : x.2 = shOf N i j := by
          unfold shOf
          rw [Int.toNat_natCast, Int.toNat_natCast, ← yl, List.getD_eq_getElem?_getD, x2]; rfl
        rw [mulT_l (by omega) (by omega), Option.bind_some, depth_eq h, Option.bind_some, show shlT (1 : Int) (mx0 (layOf N)) = some (2 ^ (depN N).toNat) from pow2_eq h, Option.bind_some, xv]
        cases hb : badS N i j with
        | false =>
          left
          have hb' : decide (N.1 * shOf N i j = 2 ^ (depN N).toNat) = true := by
            unfold badS at hb
            simpa using hb
          rw [hb']
          refine ⟨rfl, fun e he he2 => ?_⟩
          by_cases c : e = j
          · rw [c]; exact hb
          · exact hj e (by omega) he2
        | true =>
          right
          have hb' : decide (N.1 * shOf N i j = 2 ^ (depN N).toNat) = false := by
            unfold badS at hb
            simpa using hb
          rw [hb']
          refine ⟨_, rfl, .inr ⟨_, rfl, ?_⟩⟩
          show Q (some (some (("share" : Str), y.1, x.1)))
          rw [y1, x1]
          refine q1 i j hi hj' hb fun l' e' hl he => ?_
          rcases hl with hl | ⟨rfl, hl⟩
          · exact hp l' e' hl (by omega) he
          · exact hj e' hl he
      · refine .inl ⟨rfl, fun l e hl hl2 he => ?_⟩
        by_cases c : l = i
        · rw [c]
          refine hj e ?_ he
          rw [enumT_len]
          omega
        · exact hp l e (by omega) hl2 he
    · refine q0 fun l e hl he => hp l e ?_ hl he
      rw [enumT_len]
      omega
  refine key (fun o => (o = some none ∧ ∀ l e : Nat, l < N.1.toNat → e < N.1.toNat → badS N l e = false) ∨ ∃ l e : Nat, o = some (some (("share" : Str), (l : Int), (e : Int))) ∧ l < N.1.toNat ∧ e < N.1.toNat ∧ badS N l e = true ∧ ∀ l' e' : Nat, (l' < l ∨ l' = l ∧ e' < e) → e' < N.1.toNat → badS N l' e' = false) (fun q => .inl ⟨rfl, q⟩) fun l e a b c d => .inr ⟨l, e, rfl, a, b, c, d⟩
theorem bits_eq {L n : Nat} (hL : L ≤ 16) : p_bits_of n L = some (bitsL L n) := by
  unfold p_bits_of
  rw [rngO_of (by omega), Option.bind_some, lim_of (by rw [rngI_len]; omega), mapO_eq (g := fun p : Int => (n : Int) / 2 ^ ((L : Int) - 1 - p).toNat % 2) fun p hp => ?_, Option.bind_some]
  · rfl
  · have := rngI_mem hp
    rw [show shrT (n : Int) ((L : Int) - 1 - p) = some ((n : Int) / 2 ^ ((L : Int) - 1 - p).toNat) from if_pos (by omega), Option.bind_some, PyProof.Rows.bitAnd_m1]
theorem rowbar_w {N : Net} (h : GoodN N) (h8 : N.1 ≤ 8) : (p_row_bar N = some none ∧ ∀ m : Nat, m < 2 ^ N.1.toNat → fallsL (rowL N (bitsL N.1.toNat m)) = true) ∨ ∃ n : Nat, p_row_bar N = some (some (("row" : Str), bitsL N.1.toNat n)) ∧ n < 2 ^ N.1.toNat ∧ fallsL (rowL N (bitsL N.1.toNat n)) = false ∧ ∀ m : Nat, m < n → fallsL (rowL N (bitsL N.1.toNat m)) = true := by
  have l1 := h.l1
  have hp : 2 ^ N.1.toNat ≤ 256 := Nat.le_trans (Nat.pow_le_pow_right (by decide) (show N.1.toNat ≤ 8 by omega)) (by decide)
  have hN : N.1 = (N.1.toNat : Int) := by omega
  have es : shlT (1 : Int) N.1 = some ((2 ^ N.1.toNat : Nat) : Int) := by
    rw [show shlT (1 : Int) N.1 = some (1 * 2 ^ N.1.toNat) from if_pos ⟨by omega, by omega, by decide⟩, Int.one_mul]
    rw [Int.natCast_pow]; rfl
  have key : ∀ Q : Option (Option (Str × List Int)) → Prop, ((∀ m : Nat, m < 2 ^ N.1.toNat → fallsL (rowL N (bitsL N.1.toNat m)) = true) → Q (some none)) → (∀ n : Nat, n < 2 ^ N.1.toNat → fallsL (rowL N (bitsL N.1.toNat n)) = false → (∀ m : Nat, m < n → fallsL (rowL N (bitsL N.1.toNat m)) = true) → Q (some (some (("row" : Str), bitsL N.1.toNat n)))) → Q (p_row_bar N) := by
    intro Q q0 q1
    unfold p_row_bar
    generalize hT : 2 ^ N.1.toNat = T at *
    rw [es, Option.bind_some, rngO_of (by omega), Option.bind_some, Int.toNat_natCast]
    refine lpR_first (Q := fun m : Option (Lf Unit (Option (Str × List Int))) => Q (m.bind fun w => w.on (fun _ => some none) (fun z => some z))) (rngI 0 T) 0 (fun i => ∀ m : Nat, m < i → fallsL (rowL N (bitsL N.1.toNat m)) = true) (fun m z => by omega) (fun i y hy hpp => ?_) fun hpp => ?_
    · obtain ⟨y1, y2⟩ := rngI_get hy
      rw [Nat.zero_add] at hpp ⊢
      have y1 : y = (i : Int) := by omega
      have e1 : p_bits_of y N.1 = some (bitsL N.1.toNat i) := by
        rw [y1]
        conv => lhs; rw [hN]
        exact bits_eq (by omega)
      have bl := bitsL_len N.1.toNat i
      rw [e1, Option.bind_some, compared_eq h (by omega), Option.bind_some, falls_eq (by rw [rowL_len, h.elen]; omega), Option.bind_some]
      cases hf : fallsL (rowL N (bitsL N.1.toNat i)) with
      | true =>
        refine .inl ⟨rfl, fun m hm => ?_⟩
        by_cases c : m = i
        · rw [c]; exact hf
        · exact hpp m (by omega)
      | false => exact .inr ⟨_, rfl, q1 i (by omega) hf hpp⟩
    · refine q0 fun m hm => hpp m ?_
      rw [rngI_len]; omega
  exact key (fun o => (o = some none ∧ ∀ m : Nat, m < 2 ^ N.1.toNat → fallsL (rowL N (bitsL N.1.toNat m)) = true) ∨ ∃ n : Nat, o = some (some (("row" : Str), bitsL N.1.toNat n)) ∧ n < 2 ^ N.1.toNat ∧ fallsL (rowL N (bitsL N.1.toNat n)) = false ∧ ∀ m : Nat, m < n → fallsL (rowL N (bitsL N.1.toNat m)) = true) (fun q => .inl ⟨rfl, q⟩) fun n a b c => .inr ⟨n, rfl, a, b, c⟩
/-- the bar of a net -/
theorem bar_w {N : Net} (h : GoodN N) : ∃ d : PD, p_bar N = some d ∧ BarOf N d.1 := by
  unfold p_bar
  rw [least_eq, Option.bind_some, shallow_eq h]
  cases e : lstD N.1 with
  | none => exact ⟨_, rfl, .lanes e⟩
  | some t =>
    simp only [Option.isNone_some, Bool.false_eq_true, if_false, Option.bind_some]
    have hs : shallow N = decide (depN N < t) := by unfold shallow; rw [e]
    rw [hs]
    by_cases c : depN N < t
    · rw [decide_eq_true c]
      exact ⟨_, rfl, .depth e c⟩
    · rw [decide_eq_false c]
      simp only [Bool.false_eq_true, if_false]
      rcases share_w h with ⟨e1, a⟩ | ⟨l, f, e1, a, b, cc, dd⟩
      · rw [e1, Option.bind_some]
        by_cases c8 : N.1 ≤ 8
        · rcases rowbar_w h c8 with ⟨e2, q⟩ | ⟨n, e2, q1, q2, q3⟩
          · refine ⟨⟨.none, rfl⟩, ?_, .none e (by omega) a fun _ => q⟩
            rw [decide_eq_true c8]
            show ((p_row_bar N).bind _).bind _ = _
            rw [e2]; rfl
          · refine ⟨toPD (puO' (puP puS (puT puI))) (some (("row" : Str), bitsL N.1.toNat n)), ?_, .row e (by omega) a c8 q1 q2 q3⟩
            rw [decide_eq_true c8]
            show ((p_row_bar N).bind _).bind _ = _
            rw [e2]; rfl
        · refine ⟨⟨.none, rfl⟩, ?_, .none e (by omega) a fun z => absurd z c8⟩
          rw [decide_eq_false c8]
          rfl
      · rw [e1, Option.bind_some]
        exact ⟨toPD (puO' (puQ puS puI puI)) (some (("share" : Str), (l : Int), (f : Int))), rfl, .share e (by omega) a b cc dd⟩
/-! bars looked at -/
def pI (i : Int) : PD := ⟨.int i, puI i⟩
theorem below_int (i m : Int) : p_is_below (pI i) m = some (decide (0 ≤ i) && decide (i < m)) := rfl
theorem shows_lanes {N : Net} (hp : pur (.tuple [.str "lanes"]) = true) : p_shows_bar N ⟨.tuple [.str "lanes"], hp⟩ = some (lstD N.1).isNone := by
  kernel_rfl
theorem shows_depth0 {N : Net} (hp : pur (.tuple [.str "depth"]) = true) : p_shows_bar N ⟨.tuple [.str "depth"], hp⟩ = ((p_is_shallow N).bind fun t55 => some t55).bind fun t56 => some t56 := by
  kernel_rfl
theorem shows_depth {N : Net} (h : GoodN N) (hp : pur (.tuple [.str "depth"]) = true) : p_shows_bar N ⟨.tuple [.str "depth"], hp⟩ = some (shallow N) := by
  rw [shows_depth0, shallow_eq h]; rfl
theorem shows_share0 {N : Net} {l e : Int} (hp : pur (.tuple [.str "share", .int l, .int e]) = true) : p_shows_bar N ⟨.tuple [.str "share", .int l, .int e], hp⟩ = (p_is_share_bar N ⟨.tuple [.int l, .int e], rfl⟩).bind fun t64 => some t64 := by
  kernel_rfl
theorem shows_row0 {N : Net} {rs : List D} (hr : purs rs = true) (hp : pur (.tuple [.str "row", .tuple rs]) = true) : p_shows_bar N ⟨.tuple [.str "row", .tuple rs], hp⟩ = (p_is_row_bar N ⟨.tuple [.tuple rs], by rw [pur_tuple, purs_cons, pur_tuple, hr]; rfl⟩).bind fun t64 => some t64 := by
  unfold p_shows_bar
  have e1 : slD (.tuple [.str "row", .tuple rs]) (some 1) none = some (.tuple [.tuple rs]) := by
    show (if purs [.str "row", .tuple rs] = true then _ else _) = _
    rw [if_pos (by rw [purs_cons, purs_cons, pur_tuple, hr]; rfl)]; rfl
  have e2 : dP (slD (.tuple [.str "row", .tuple rs]) (some 1) none) = some ⟨.tuple [.tuple rs], by rw [pur_tuple, purs_cons, pur_tuple, hr]; rfl⟩ := by
    rw [e1]
    unfold dP
    rw [Option.bind_some, dif_pos (by rw [pur_tuple, purs_cons, pur_tuple, hr]; rfl)]
  have e3 : dP (pIx [eV ⟨.tuple [.str "row", .tuple rs], hp⟩, eI 0]) = some ⟨.str "row", rfl⟩ := rfl
  have e4 : ∀ hh, (dI (pLen [eV ⟨.tuple [.str "row", .tuple rs], hh⟩])) = some 2 := fun hh => rfl
  have w1 : dB (pEq [eV ⟨.str "row", rfl⟩, eS "lanes"]) = some false := by kernel_rfl
  have w2 : dB (pEq [eV ⟨.str "row", rfl⟩, eS "depth"]) = some false := by kernel_rfl
  have w3 : dB (pEq [eV ⟨.str "row", rfl⟩, eS "share"]) = some false := by kernel_rfl
  have w4 : dB (pEq [eV ⟨.str "row", rfl⟩, eS "row"]) = some true := by kernel_rfl
  simp only [e2, e3, e4, w1, w2, w3, w4, Option.bind_some, isK]
  simp
theorem share_look {N : Net} (h : GoodN N) {l e : Int} (l0 : 0 ≤ l) (l1 : l < N.1) (e0 : 0 ≤ e) (e1 : e < N.1) (hp : pur (.tuple [.str "share", .int l, .int e]) = true) : p_shows_bar N ⟨.tuple [.str "share", .int l, .int e], hp⟩ = some (badS N l e) := by
  have n1 := h.l1
  have n16 := h.l16
  have sl := shrs_len N
  have sg := shrs_get h (l := l.toNat) (by omega)
  rw [shows_share0]
  unfold p_is_share_bar
  have q1 : dI (pLen [eV ⟨.tuple [.int l, .int e], rfl⟩]) = some 2 := rfl
  have q2 : seqV ⟨.tuple [.int l, .int e], rfl⟩ = some [pI l, pI e] := rfl
  have q3 : rP rV rV (.tuple [.int l, .int e]) = some (pI l, pI e) := rfl
  have q4 : mapO (fun one => (p_is_below one N.1).bind fun t18 => some t18) [pI l, pI e] = some [true, true] := by
    rw [mapO, mapO, mapO, below_int, below_int, decide_eq_true l0, decide_eq_true l1, decide_eq_true e0, decide_eq_true e1]; rfl
  simp only [q1, q2, q3, q4, Option.bind_some, decide_true, Bool.not_true, Bool.false_eq_true, if_false]
  rw [lim_of (by simp), Option.bind_some]
  simp only [List.all_cons, List.all_nil, id, Bool.and_self, Bool.not_true, Bool.false_eq_true, if_false]
  rw [shares_eq h, Option.bind_some]
  show ((some l).bind _).bind _ = _
  rw [Option.bind_some, atI_D [] l0 (by show l < ((shrs N).length : Int); rw [sl]; omega), Option.bind_some]
  show ((some e).bind _).bind _ = _
  rw [Option.bind_some, atI_D 0 e0 (by show e < (((shrs N).getD l.toNat []).length : Int); rw [sg]; omega), Option.bind_some, mulT_l (by have := h.l16; omega) (by omega), Option.bind_some, depth_eq h, Option.bind_some, show shlT (1 : Int) (mx0 (layOf N)) = some (2 ^ (depN N).toNat) from pow2_eq h, Option.bind_some]
  rfl
theorem below_row {rs : List Int} (h : ∀ x ∈ rs, 0 ≤ x ∧ x < 2) : ∃ ys : List PD, mapO rV (rs.map PyData.int) = some ys ∧ ys.length = rs.length ∧ mapO (fun one => (p_is_below one 2).bind fun t37 => some t37) ys = some (rs.map fun _ => true) := by
  induction rs with
  | nil => exact ⟨[], rfl, rfl, rfl⟩
  | cons x rs ih =>
    obtain ⟨ys, e1, e0, e2⟩ := ih fun y hy => h y (List.mem_cons_of_mem _ hy)
    obtain ⟨a, b⟩ := h x (List.mem_cons_self ..)
    refine ⟨pI x :: ys, ?_, by rw [List.length_cons, List.length_cons, e0], ?_⟩
    · rw [List.map_cons, mapO, e1]; rfl
    · rw [mapO, below_int, decide_eq_true a, decide_eq_true b, e2]; rfl
theorem rT_ints (rs : List Int) : rT rI (.tuple (rs.map PyData.int)) = some rs := by
  show mapO rI (rs.map PyData.int) = _
  induction rs with
  | nil => rfl
  | cons x rs ih => rw [List.map_cons, mapO, ih]; rfl
theorem row_look {N : Net} (h : GoodN N) {rs : List Int} (hl : (rs.length : Int) = N.1) (h01 : ∀ x ∈ rs, 0 ≤ x ∧ x < 2) (hp : pur (.tuple [.str "row", .tuple (rs.map PyData.int)]) = true) : p_shows_bar N ⟨.tuple [.str "row", .tuple (rs.map PyData.int)], hp⟩ = some (!fallsL (rowL N rs)) := by
  have l16 := h.l16
  have hpu : purs (rs.map PyData.int) = true := purs_pu puI rs
  have ht : pur (.tuple (rs.map PyData.int)) = true := by rw [pur_tuple]; exact hpu
  rw [shows_row0 hpu]
  obtain ⟨ys, y1, y0, y2⟩ := below_row h01
  unfold p_is_row_bar
  have q0 : pIx [.tuple [.tuple (rs.map PyData.int)], .int 0] = some (.tuple (rs.map PyData.int)) := by
    show puO (some (.tuple (rs.map PyData.int))) = _
    show (if pur (.tuple (rs.map PyData.int)) = true then _ else _) = _
    rw [if_pos ht]
  have q1 : ∀ hh, dP (pIx [eV ⟨.tuple [.tuple (rs.map PyData.int)], hh⟩, eI 0]) = some ⟨.tuple (rs.map PyData.int), ht⟩ := fun hh => by
    show dP (pIx [.tuple [.tuple (rs.map PyData.int)], .int 0]) = _
    rw [q0]
    unfold dP
    rw [Option.bind_some, dif_pos ht]
  have q2 : ∀ hh, dI (pLen [eV ⟨.tuple [.tuple (rs.map PyData.int)], hh⟩]) = some 1 := fun hh => rfl
  have q3 : dI (pLen [eV ⟨.tuple (rs.map PyData.int), ht⟩]) = some N.1 := by
    show some (((rs.map PyData.int).length : Nat) : Int) = _
    rw [List.length_map, hl]
  have q4 : seqV ⟨.tuple (rs.map PyData.int), ht⟩ = some ys := by
    unfold seqV
    show (some (rs.map PyData.int)).bind _ = _
    rw [Option.bind_some, y1]
  have q5 : (rs.map fun _ => true).all id = true := by rw [List.all_eq_true]; intro x hx; obtain ⟨_, _, rfl⟩ := List.mem_map.mp hx; rfl
  simp only [q1, q2, q3, q4, Option.bind_some, decide_true, Bool.not_true, Bool.false_eq_true, if_false, isK]
  rw [lim_of (by omega), y2, Option.bind_some, q5]
  simp only [if_true]
  rw [rT_ints, Option.bind_some, compared_eq h hl, Option.bind_some, falls_eq (by rw [rowL_len, h.elen]; omega), Option.bind_some, Option.bind_some, Option.bind_some]
mutual
def shX : D → Bool
  | .int i => decide (i.natAbs < 10 ^ 12)
  | .tuple xs => shXs xs
  | .list xs => shXs xs
  | .str x => x == ("share" : Str) || (x == ("row" : Str) || (x == ("lanes" : Str) || x == ("depth" : Str)))
  | .none => true
  | .bool _ => true
  | .dict _ => false
def shXs : List D → Bool
  | [] => true
  | x :: xs => shX x && shXs xs
end
theorem w_share : PyData.strOk (PyData.shown (.str "share")) = true ∧ PyData.leavesShort 13 (.str "share") = true := by decide +kernel
theorem w_row : PyData.strOk (PyData.shown (.str "row")) = true ∧ PyData.leavesShort 13 (.str "row") = true := by decide +kernel
theorem w_lanes : PyData.strOk (PyData.shown (.str "lanes")) = true ∧ PyData.leavesShort 13 (.str "lanes") = true := by decide +kernel
theorem w_depth : PyData.strOk (PyData.shown (.str "depth")) = true ∧ PyData.leavesShort 13 (.str "depth") = true := by decide +kernel
theorem wX {x : Str} (h : shX (.str x) = true) : PyData.strOk (PyData.shown (.str x)) = true ∧ PyData.leavesShort 13 (.str x) = true := by
  rw [shX, Bool.or_eq_true, Bool.or_eq_true, Bool.or_eq_true, beq_iff_eq, beq_iff_eq, beq_iff_eq, beq_iff_eq] at h
  rcases h with rfl | rfl | rfl | rfl
  · exact w_share
  · exact w_row
  · exact w_lanes
  · exact w_depth
theorem sok_from : ∀ (ts : List Str) (k : Nat) (acc : Str), PyData.strOk acc = true → (∀ s ∈ ts, PyData.strOk s = true) → PyData.strOk (textFrom k acc ts) = true
  | [], k, acc, h, _ => h
  | t :: r, k, acc, h, h2 => by
    show PyData.strOk (textFrom (k + 1) (acc ++ (if k > 0 then ", " else "" : String) ++ t) r) = true
    refine sok_from r (k + 1) _ (sok_append (sok_append h ?_) (h2 t (by simp))) fun s hs => h2 s (List.mem_cons_of_mem _ hs)
    split <;> exact sok_of _
mutual
theorem sokX : ∀ d : D, shX d = true → PyData.strOk d.shown = true
  | .int i, _ => by rw [PyData.shown]; exact sok_of _
  | .tuple xs, h => by
    rw [PyData.shown]
    unfold tupleText
    refine sok_append (sok_append (sok_of _) (sok_join _ (sok_of _) _ (sokXs xs (by rw [shX] at h; exact h)))) ?_
    split <;> exact sok_of _
  | .list xs, h => by
    rw [PyData.shown]
    exact sok_append (sok_from _ _ _ (sok_of _) (sokXs xs (by rw [shX] at h; exact h))) (sok_of _)
  | .none, _ => by decide +kernel
  | .bool b, _ => by cases b <;> decide +kernel
  | .str x, h => (wX h).1
  | .dict _, h => by simp [shX] at h
theorem sokXs : ∀ ds : List D, shXs ds = true → ∀ s ∈ PyData.shownAll ds, PyData.strOk s = true
  | [], _, _, hs => by rw [PyData.shownAll] at hs; cases hs
  | x :: xs, h, s, hs => by
    rw [shXs, Bool.and_eq_true] at h
    rw [PyData.shownAll] at hs
    rcases List.mem_cons.mp hs with e | e
    · subst e; exact sokX x h.1
    · exact sokXs xs h.2 s e
end
mutual
theorem showX : ∀ d : D, shX d = true → d.showable = true ∧ d.hasDict = false ∧ d.leavesShort 13 = true ∧ noD d = true
  | .int i, h => by
    have := sh_show (.int i) (by rw [sh]; rw [shX] at h; exact h)
    exact ⟨this.1, this.2.1, this.2.2, by simp [noD]⟩
  | .tuple xs, h => by
    have := showXs xs (by rw [shX] at h; exact h)
    exact ⟨by simp only [PyData.showable]; exact this.1, by simp only [PyData.hasDict]; exact this.2.1, by simp only [PyData.leavesShort]; exact this.2.2.1, by simp only [noD]; exact this.2.2.2⟩
  | .list xs, h => by
    have := showXs xs (by rw [shX] at h; exact h)
    exact ⟨by simp only [PyData.showable]; exact this.1, by simp only [PyData.hasDict]; exact this.2.1, by simp only [PyData.leavesShort]; exact this.2.2.1, by simp only [noD]; exact this.2.2.2⟩
  | .none, _ => ⟨rfl, rfl, rfl, by simp [noD]⟩
  | .bool b, _ => ⟨rfl, rfl, rfl, by simp [noD]⟩
  | .str x, h => ⟨rfl, rfl, (wX h).2, by simp [noD]⟩
  | .dict _, h => by simp [shX] at h
theorem showXs : ∀ ds : List D, shXs ds = true → PyData.showableAll ds = true ∧ PyData.hasDictAll ds = false ∧ PyData.leavesShortAll 13 ds = true ∧ noDs ds = true
  | [], _ => ⟨rfl, rfl, rfl, by simp [noDs]⟩
  | x :: xs, h => by
    rw [shXs, Bool.and_eq_true] at h
    have h1 := showX x h.1
    have h2 := showXs xs h.2
    refine ⟨by simp only [PyData.showableAll, h1.1, h2.1, Bool.and_self], by simp only [PyData.hasDictAll, h1.2.1, h2.2.1, Bool.or_self], by simp only [PyData.leavesShortAll, h1.2.2.1, h2.2.2.1, Bool.and_self], by simp only [noDs, h1.2.2.2, h2.2.2.2, Bool.and_self]⟩
end
def okX (d : D) : Bool := shX d && decide (d.weight ≤ 2 ^ 20) && decide (d.depth ≤ 40)
theorem okX_ok {d : D} (h : okX d = true) : okT d = true ∧ PyData.strOk d.shown = true := by
  unfold okX at h
  rw [Bool.and_eq_true, Bool.and_eq_true] at h
  obtain ⟨⟨h1, h2⟩, h3⟩ := h
  obtain ⟨a, b, c, e⟩ := showX d h1
  refine ⟨?_, sokX d h1⟩
  unfold okT
  rw [a, b, c, e, h2, h3]
  rfl
def txB : D → Bool
  | .tuple ds => okX (.tuple (thaws ds))
  | .dict [(.none, .list ds)] => okX (.list ds)
  | _ => false
theorem txB_ok {t : PD} (h : txB t.1 = true) : ∃ x, strV t = some x := by
  obtain ⟨d, hd⟩ := t
  unfold txB at h
  unfold strV
  split at h
  · rename_i ds e
    have e : d = _ := e
    subst e
    obtain ⟨h1, h2⟩ := okX_ok h
    have : strA (.tuple ds) = some (PyData.shown (.tuple (thaws ds))) := by
      show (if okT (.tuple (thaws ds)) = true then some (PyData.shown (.tuple (thaws ds))) else none) = _
      rw [if_pos h1]
    rw [this, Option.bind_some, dif_pos h2]
    exact ⟨_, rfl⟩
  · rename_i ds e
    have e : d = _ := e
    subst e
    obtain ⟨h1, h2⟩ := okX_ok h
    have : strA (.dict [(.none, .list ds)]) = some (PyData.shown (.list ds)) := by
      show (if okT (.list ds) = true then some (PyData.shown (.list ds)) else none) = _
      rw [if_pos h1]
    rw [this, Option.bind_some, dif_pos h2]
    exact ⟨_, rfl⟩
  · cases h
def goodX (N : Net) (t : PD) : Bool := txB t.1 && (match p_shows_bar N t with
  | some false => true
  | _ => false)
theorem goodX_ok {N : Net} {t : PD} (h : goodX N t = true) : (∃ x, strV t = some x) ∧ p_shows_bar N t = some false := by
  unfold goodX at h
  rw [Bool.and_eq_true] at h
  refine ⟨txB_ok h.1, ?_⟩
  have h2 := h.2
  split at h2
  · assumption
  · cases h2
theorem isN_none {d : D} (h : isN d = false) : d ≠ .none := fun z => by rw [z] at h; cases h
/-- what bar tells is taken -/
theorem bar_taken {N : Net} (h : GoodN N) {d : PD} (b : BarOf N d.1) (hn : d.1 ≠ .none) : p_shows_bar N d = some true := by
  have l1 := h.l1
  obtain ⟨d, hp⟩ := d
  cases b with
  | lanes e => rw [shows_lanes, e]; rfl
  | depth e c =>
    rw [shows_depth h]
    unfold shallow
    rw [e]
    simp only [decide_eq_true c]
  | share e c a1 a2 a3 a4 => rw [share_look h (by omega) (by omega) (by omega) (by omega), a3]
  | row e c a1 a2 a3 a4 a5 => rw [row_look h (by rw [bitsL_len]; omega) bits01, a4]; rfl
  | none => exact absurd rfl hn

/-! things that are no bar -/
def goodB (N : Net) (t : PD) : Bool := (strV t).isSome && (match p_shows_bar N t with
  | some false => true
  | _ => false)
theorem goodB_ok {N : Net} {t : PD} (h : goodB N t = true) : (∃ x, strV t = some x) ∧ p_shows_bar N t = some false := by
  unfold goodB at h
  rw [Bool.and_eq_true] at h
  refine ⟨Option.isSome_iff_exists.mp h.1, ?_⟩
  have h2 := h.2
  split at h2
  · assumption
  · cases h2
def oddB (N : Net) : Bool := match p__law_odd N.1 with
  | some ts => decide (ts.length ≤ 100) && ts.all (goodB N)
  | none => false
theorem odd_1 (fs : List (Int × Int)) (es : List Int) : oddB ((1 : Int), fs, es) = true := by kernel_rfl
theorem odd_2 (fs : List (Int × Int)) (es : List Int) : oddB ((2 : Int), fs, es) = true := by kernel_rfl
theorem odd_3 (fs : List (Int × Int)) (es : List Int) : oddB ((3 : Int), fs, es) = true := by kernel_rfl
theorem odd_4 (fs : List (Int × Int)) (es : List Int) : oddB ((4 : Int), fs, es) = true := by kernel_rfl
theorem odd_5 (fs : List (Int × Int)) (es : List Int) : oddB ((5 : Int), fs, es) = true := by kernel_rfl
theorem odd_6 (fs : List (Int × Int)) (es : List Int) : oddB ((6 : Int), fs, es) = true := by kernel_rfl
theorem odd_7 (fs : List (Int × Int)) (es : List Int) : oddB ((7 : Int), fs, es) = true := by kernel_rfl
theorem odd_8 (fs : List (Int × Int)) (es : List Int) : oddB ((8 : Int), fs, es) = true := by kernel_rfl
theorem odd_9 (fs : List (Int × Int)) (es : List Int) : oddB ((9 : Int), fs, es) = true := by kernel_rfl
theorem odd_10 (fs : List (Int × Int)) (es : List Int) : oddB ((10 : Int), fs, es) = true := by kernel_rfl
theorem odd_11 (fs : List (Int × Int)) (es : List Int) : oddB ((11 : Int), fs, es) = true := by kernel_rfl
theorem odd_12 (fs : List (Int × Int)) (es : List Int) : oddB ((12 : Int), fs, es) = true := by kernel_rfl
theorem odd_13 (fs : List (Int × Int)) (es : List Int) : oddB ((13 : Int), fs, es) = true := by kernel_rfl
theorem odd_14 (fs : List (Int × Int)) (es : List Int) : oddB ((14 : Int), fs, es) = true := by kernel_rfl
theorem odd_15 (fs : List (Int × Int)) (es : List Int) : oddB ((15 : Int), fs, es) = true := by kernel_rfl
theorem odd_16 (fs : List (Int × Int)) (es : List Int) : oddB ((16 : Int), fs, es) = true := by kernel_rfl
theorem odd_all {N : Net} (h : 1 ≤ N.1 ∧ N.1 ≤ 16) : oddB N = true := by
  obtain ⟨L, fs, es⟩ := N
  simp only [] at h
  rcases (by omega : L = 1 ∨ L = 2 ∨ L = 3 ∨ L = 4 ∨ L = 5 ∨ L = 6 ∨ L = 7 ∨ L = 8 ∨ L = 9 ∨ L = 10 ∨ L = 11 ∨ L = 12 ∨ L = 13 ∨ L = 14 ∨ L = 15 ∨ L = 16) with rfl | rfl | rfl | rfl | rfl | rfl | rfl | rfl | rfl | rfl | rfl | rfl | rfl | rfl | rfl | rfl
  · exact odd_1 fs es
  · exact odd_2 fs es
  · exact odd_3 fs es
  · exact odd_4 fs es
  · exact odd_5 fs es
  · exact odd_6 fs es
  · exact odd_7 fs es
  · exact odd_8 fs es
  · exact odd_9 fs es
  · exact odd_10 fs es
  · exact odd_11 fs es
  · exact odd_12 fs es
  · exact odd_13 fs es
  · exact odd_14 fs es
  · exact odd_15 fs es
  · exact odd_16 fs es
def six (told : PD) : Option (List PD) := (lstV told).bind fun t44 => ((dP (pAdd [eV told, (eT eI) [(0 : Int)]]))).bind fun t55 => ((dP (slD (told).1 none (some (1 : Int))))).bind fun t61 => ((dP (pAdd [eV told, eV t61]))).bind fun t63 => ((dP (slD (told).1 none (some (0 : Int))))).bind fun t72 => some [(frzV puV t44), (toPD (puT puV) [told]), t55, t63, (frzV puV [told]), t72]
def sixB (N : Net) (told : PD) : Bool := match six told with
  | some xs => decide (xs.length = 6) && xs.all (goodX N)
  | none => false
theorem six_lanes (N : Net) : sixB N ⟨.tuple [.str "lanes"], rfl⟩ = true := by kernel_rfl
theorem six_depth (N : Net) : sixB N ⟨.tuple [.str "depth"], rfl⟩ = true := by kernel_rfl
def toldS (l e : Nat) : PD := ⟨.tuple [.str "share", .int l, .int e], rfl⟩
def toldR (L n : Nat) : PD := toPD (puP puS (puT puI)) (("row" : Str), bitsL L n)
theorem six_share_0 (N : Net) : ((List.range 16).all fun e => sixB N (toldS 0 e)) = true := by kernel_rfl
theorem six_share_1 (N : Net) : ((List.range 16).all fun e => sixB N (toldS 1 e)) = true := by kernel_rfl
theorem six_share_2 (N : Net) : ((List.range 16).all fun e => sixB N (toldS 2 e)) = true := by kernel_rfl
theorem six_share_3 (N : Net) : ((List.range 16).all fun e => sixB N (toldS 3 e)) = true := by kernel_rfl
theorem six_share_4 (N : Net) : ((List.range 16).all fun e => sixB N (toldS 4 e)) = true := by kernel_rfl
theorem six_share_5 (N : Net) : ((List.range 16).all fun e => sixB N (toldS 5 e)) = true := by kernel_rfl
theorem six_share_6 (N : Net) : ((List.range 16).all fun e => sixB N (toldS 6 e)) = true := by kernel_rfl
theorem six_share_7 (N : Net) : ((List.range 16).all fun e => sixB N (toldS 7 e)) = true := by kernel_rfl
theorem six_share_8 (N : Net) : ((List.range 16).all fun e => sixB N (toldS 8 e)) = true := by kernel_rfl
theorem six_share_9 (N : Net) : ((List.range 16).all fun e => sixB N (toldS 9 e)) = true := by kernel_rfl
theorem six_share_10 (N : Net) : ((List.range 16).all fun e => sixB N (toldS 10 e)) = true := by kernel_rfl
theorem six_share_11 (N : Net) : ((List.range 16).all fun e => sixB N (toldS 11 e)) = true := by kernel_rfl
theorem six_share_12 (N : Net) : ((List.range 16).all fun e => sixB N (toldS 12 e)) = true := by kernel_rfl
theorem six_share_13 (N : Net) : ((List.range 16).all fun e => sixB N (toldS 13 e)) = true := by kernel_rfl
theorem six_share_14 (N : Net) : ((List.range 16).all fun e => sixB N (toldS 14 e)) = true := by kernel_rfl
theorem six_share_15 (N : Net) : ((List.range 16).all fun e => sixB N (toldS 15 e)) = true := by kernel_rfl
theorem six_share (N : Net) (l e : Nat) (hl : l < 16) (he : e < 16) : sixB N (toldS l e) = true := by
  have key : ∀ k, ((List.range 16).all fun e => sixB N (toldS k e)) = true → sixB N (toldS k e) = true := fun k h => List.all_eq_true.mp h e (List.mem_range.mpr he)
  rcases (by omega : l = 0 ∨ l = 1 ∨ l = 2 ∨ l = 3 ∨ l = 4 ∨ l = 5 ∨ l = 6 ∨ l = 7 ∨ l = 8 ∨ l = 9 ∨ l = 10 ∨ l = 11 ∨ l = 12 ∨ l = 13 ∨ l = 14 ∨ l = 15) with rfl | rfl | rfl | rfl | rfl | rfl | rfl | rfl | rfl | rfl | rfl | rfl | rfl | rfl | rfl | rfl
  · exact key _ (six_share_0 N)
  · exact key _ (six_share_1 N)
  · exact key _ (six_share_2 N)
  · exact key _ (six_share_3 N)
  · exact key _ (six_share_4 N)
  · exact key _ (six_share_5 N)
  · exact key _ (six_share_6 N)
  · exact key _ (six_share_7 N)
  · exact key _ (six_share_8 N)
  · exact key _ (six_share_9 N)
  · exact key _ (six_share_10 N)
  · exact key _ (six_share_11 N)
  · exact key _ (six_share_12 N)
  · exact key _ (six_share_13 N)
  · exact key _ (six_share_14 N)
  · exact key _ (six_share_15 N)
theorem six_row1 (N : Net) : ((List.range 2).all fun n => sixB N (toldR 1 n)) = true := by kernel_rfl
theorem six_row2 (N : Net) : ((List.range 4).all fun n => sixB N (toldR 2 n)) = true := by kernel_rfl
theorem six_row4 (N : Net) : ((List.range 16).all fun n => sixB N (toldR 4 n)) = true := by kernel_rfl
theorem six_row8_0 (N : Net) : ((List.range 8).all fun n => sixB N (toldR 8 (0 + n))) = true := by kernel_rfl
theorem six_row8_1 (N : Net) : ((List.range 8).all fun n => sixB N (toldR 8 (8 + n))) = true := by kernel_rfl
theorem six_row8_2 (N : Net) : ((List.range 8).all fun n => sixB N (toldR 8 (16 + n))) = true := by kernel_rfl
theorem six_row8_3 (N : Net) : ((List.range 8).all fun n => sixB N (toldR 8 (24 + n))) = true := by kernel_rfl
theorem six_row8_4 (N : Net) : ((List.range 8).all fun n => sixB N (toldR 8 (32 + n))) = true := by kernel_rfl
theorem six_row8_5 (N : Net) : ((List.range 8).all fun n => sixB N (toldR 8 (40 + n))) = true := by kernel_rfl
theorem six_row8_6 (N : Net) : ((List.range 8).all fun n => sixB N (toldR 8 (48 + n))) = true := by kernel_rfl
theorem six_row8_7 (N : Net) : ((List.range 8).all fun n => sixB N (toldR 8 (56 + n))) = true := by kernel_rfl
theorem six_row8_8 (N : Net) : ((List.range 8).all fun n => sixB N (toldR 8 (64 + n))) = true := by kernel_rfl
theorem six_row8_9 (N : Net) : ((List.range 8).all fun n => sixB N (toldR 8 (72 + n))) = true := by kernel_rfl
theorem six_row8_10 (N : Net) : ((List.range 8).all fun n => sixB N (toldR 8 (80 + n))) = true := by kernel_rfl
theorem six_row8_11 (N : Net) : ((List.range 8).all fun n => sixB N (toldR 8 (88 + n))) = true := by kernel_rfl
theorem six_row8_12 (N : Net) : ((List.range 8).all fun n => sixB N (toldR 8 (96 + n))) = true := by kernel_rfl
theorem six_row8_13 (N : Net) : ((List.range 8).all fun n => sixB N (toldR 8 (104 + n))) = true := by kernel_rfl
theorem six_row8_14 (N : Net) : ((List.range 8).all fun n => sixB N (toldR 8 (112 + n))) = true := by kernel_rfl
theorem six_row8_15 (N : Net) : ((List.range 8).all fun n => sixB N (toldR 8 (120 + n))) = true := by kernel_rfl
theorem six_row8_16 (N : Net) : ((List.range 8).all fun n => sixB N (toldR 8 (128 + n))) = true := by kernel_rfl
theorem six_row8_17 (N : Net) : ((List.range 8).all fun n => sixB N (toldR 8 (136 + n))) = true := by kernel_rfl
theorem six_row8_18 (N : Net) : ((List.range 8).all fun n => sixB N (toldR 8 (144 + n))) = true := by kernel_rfl
theorem six_row8_19 (N : Net) : ((List.range 8).all fun n => sixB N (toldR 8 (152 + n))) = true := by kernel_rfl
theorem six_row8_20 (N : Net) : ((List.range 8).all fun n => sixB N (toldR 8 (160 + n))) = true := by kernel_rfl
theorem six_row8_21 (N : Net) : ((List.range 8).all fun n => sixB N (toldR 8 (168 + n))) = true := by kernel_rfl
theorem six_row8_22 (N : Net) : ((List.range 8).all fun n => sixB N (toldR 8 (176 + n))) = true := by kernel_rfl
theorem six_row8_23 (N : Net) : ((List.range 8).all fun n => sixB N (toldR 8 (184 + n))) = true := by kernel_rfl
theorem six_row8_24 (N : Net) : ((List.range 8).all fun n => sixB N (toldR 8 (192 + n))) = true := by kernel_rfl
theorem six_row8_25 (N : Net) : ((List.range 8).all fun n => sixB N (toldR 8 (200 + n))) = true := by kernel_rfl
theorem six_row8_26 (N : Net) : ((List.range 8).all fun n => sixB N (toldR 8 (208 + n))) = true := by kernel_rfl
theorem six_row8_27 (N : Net) : ((List.range 8).all fun n => sixB N (toldR 8 (216 + n))) = true := by kernel_rfl
theorem six_row8_28 (N : Net) : ((List.range 8).all fun n => sixB N (toldR 8 (224 + n))) = true := by kernel_rfl
theorem six_row8_29 (N : Net) : ((List.range 8).all fun n => sixB N (toldR 8 (232 + n))) = true := by kernel_rfl
theorem six_row8_30 (N : Net) : ((List.range 8).all fun n => sixB N (toldR 8 (240 + n))) = true := by kernel_rfl
theorem six_row8_31 (N : Net) : ((List.range 8).all fun n => sixB N (toldR 8 (248 + n))) = true := by kernel_rfl
theorem six_row8 (N : Net) (n : Nat) (hn : n < 256) : sixB N (toldR 8 n) = true := by
  have key : ∀ k, ((List.range 8).all fun e => sixB N (toldR 8 (8 * k + e))) = true → n / 8 = k → sixB N (toldR 8 n) = true := fun k h e => by
    have := List.all_eq_true.mp h (n % 8) (List.mem_range.mpr (by omega))
    rwa [show 8 * k + n % 8 = n by omega] at this
  rcases (by omega : n / 8 = 0 ∨ n / 8 = 1 ∨ n / 8 = 2 ∨ n / 8 = 3 ∨ n / 8 = 4 ∨ n / 8 = 5 ∨ n / 8 = 6 ∨ n / 8 = 7 ∨ n / 8 = 8 ∨ n / 8 = 9 ∨ n / 8 = 10 ∨ n / 8 = 11 ∨ n / 8 = 12 ∨ n / 8 = 13 ∨ n / 8 = 14 ∨ n / 8 = 15 ∨ n / 8 = 16 ∨ n / 8 = 17 ∨ n / 8 = 18 ∨ n / 8 = 19 ∨ n / 8 = 20 ∨ n / 8 = 21 ∨ n / 8 = 22 ∨ n / 8 = 23 ∨ n / 8 = 24 ∨ n / 8 = 25 ∨ n / 8 = 26 ∨ n / 8 = 27 ∨ n / 8 = 28 ∨ n / 8 = 29 ∨ n / 8 = 30 ∨ n / 8 = 31) with e | e | e | e | e | e | e | e | e | e | e | e | e | e | e | e | e | e | e | e | e | e | e | e | e | e | e | e | e | e | e | e
  · exact key 0 (six_row8_0 N) e
  · exact key 1 (six_row8_1 N) e
  · exact key 2 (six_row8_2 N) e
  · exact key 3 (six_row8_3 N) e
  · exact key 4 (six_row8_4 N) e
  · exact key 5 (six_row8_5 N) e
  · exact key 6 (six_row8_6 N) e
  · exact key 7 (six_row8_7 N) e
  · exact key 8 (six_row8_8 N) e
  · exact key 9 (six_row8_9 N) e
  · exact key 10 (six_row8_10 N) e
  · exact key 11 (six_row8_11 N) e
  · exact key 12 (six_row8_12 N) e
  · exact key 13 (six_row8_13 N) e
  · exact key 14 (six_row8_14 N) e
  · exact key 15 (six_row8_15 N) e
  · exact key 16 (six_row8_16 N) e
  · exact key 17 (six_row8_17 N) e
  · exact key 18 (six_row8_18 N) e
  · exact key 19 (six_row8_19 N) e
  · exact key 20 (six_row8_20 N) e
  · exact key 21 (six_row8_21 N) e
  · exact key 22 (six_row8_22 N) e
  · exact key 23 (six_row8_23 N) e
  · exact key 24 (six_row8_24 N) e
  · exact key 25 (six_row8_25 N) e
  · exact key 26 (six_row8_26 N) e
  · exact key 27 (six_row8_27 N) e
  · exact key 28 (six_row8_28 N) e
  · exact key 29 (six_row8_29 N) e
  · exact key 30 (six_row8_30 N) e
  · exact key 31 (six_row8_31 N) e
theorem lstD_some {L t : Int} (h : 1 ≤ L ∧ L ≤ 8) (e : lstD L = some t) : L = 1 ∨ L = 2 ∨ L = 4 ∨ L = 8 := by
  rcases (by omega : L = 1 ∨ L = 2 ∨ L = 3 ∨ L = 4 ∨ L = 5 ∨ L = 6 ∨ L = 7 ∨ L = 8) with rfl | rfl | rfl | rfl | rfl | rfl | rfl | rfl
  · omega
  · omega
  · exact absurd e (by rw [show lstD 3 = none from rfl]; simp)
  · omega
  · exact absurd e (by rw [show lstD 5 = none from rfl]; simp)
  · exact absurd e (by rw [show lstD 6 = none from rfl]; simp)
  · exact absurd e (by rw [show lstD 7 = none from rfl]; simp)
  · omega
theorem six_all {N : Net} (g : GoodN N) {d : PD} (b : BarOf N d.1) (hn : d.1 ≠ .none) : sixB N d = true := by
  have l1 := g.l1
  have l16 := g.l16
  obtain ⟨d, hd⟩ := d
  cases b with
  | lanes e => exact six_lanes N
  | depth e c => exact six_depth N
  | @share t l e' e c a1 a2 a3 a4 =>
    exact six_share N l e' (by omega) (by omega)
  | @row t n e c a1 a2 a3 a4 a5 =>
    have hL := lstD_some ⟨l1, a2⟩ e
    have pick : ∀ (L m : Nat), N.1 = (L : Int) → 2 ^ L = m → ((List.range m).all fun n => sixB N (toldR L n)) = true → sixB N (toldR N.1.toNat n) = true := fun L m hL hm h => by
      rw [List.all_eq_true] at h
      have : N.1.toNat = L := by omega
      rw [this] at a3 ⊢
      exact h n (List.mem_range.mpr (by rw [← hm]; exact a3))
    have key : sixB N (toldR N.1.toNat n) = true := by
      rcases hL with z | z | z | z
      · exact pick 1 2 z rfl (six_row1 N)
      · exact pick 2 4 z rfl (six_row2 N)
      · exact pick 4 16 z rfl (six_row4 N)
      · exact pick 8 256 z rfl (List.all_eq_true.mpr fun n hn => six_row8 N n (List.mem_range.mp hn))
    exact key
  | none => exact absurd rfl hn
theorem p_law_true (ns : List Int) (hl : ns.length ≤ 63) : p_law ns = some true := by
  have : Sp (p_law ns) (fun b => b = true) := by
    unfold p_law
    rw [rngO_of (by omega), Option.bind_some]
    refine w_on (w_lpR (fun _ _ => True) trivial fun i s y hy _ => ?_) fun s hs => w_some rfl
    obtain ⟨y1, y2⟩ := rngI_get hy
    refine w_bind (left_w ns y (by omega) (by omega)) fun st hst => ?_
    refine w_bind (net_w hst (by decide) (by decide)) fun r ⟨hN, _, hs⟩ => ?_
    generalize r.1 = N at hN
    have l1 := hN.l1
    have l16 := hN.l16
    obtain ⟨told, hb, bo⟩ := bar_w hN
    rw [hb, Option.bind_some]
    have taken : ((if (!isN (told).1) = true then ((p_shows_bar N told)).bind fun t29 => some (!decide (t29 = true)) else some false)) = some false := by
      cases h : isN told.1 with
      | true => rfl
      | false =>
        rw [if_pos (by rfl), bar_taken hN bo (isN_none h), Option.bind_some]
        rfl
    simp only [taken, Option.bind_some, Bool.false_eq_true, if_false]
    have ho := odd_all (N := N) ⟨l1, l16⟩
    unfold oddB at ho
    cases e : p__law_odd N.1 with
    | none => rw [e] at ho; cases ho
    | some ts =>
      rw [e] at ho
      simp only [Bool.and_eq_true, decide_eq_true_eq, List.all_eq_true] at ho
      rw [Option.bind_some]
      refine w_bind (P := fun xs => ∀ t ∈ xs, (∃ x, strV t = some x) ∧ p_shows_bar N t = some false) ?_ fun xs hxs => ?_
      · refine w_ite (fun c => ?_) fun c => w_some fun t ht => goodB_ok (ho.2 t ht)
        have hn : isN told.1 = false := by
          cases h : isN told.1 with
          | true => rw [h] at c; cases c
          | false => rfl
        have h6 := six_all hN bo (isN_none hn)
        unfold sixB at h6
        cases e6 : six told with
        | none => rw [e6] at h6; cases h6
        | some ys =>
          rw [e6] at h6
          simp only [Bool.and_eq_true, decide_eq_true_eq, List.all_eq_true] at h6
          unfold six at e6
          obtain ⟨t1, f1, e6⟩ := Option.bind_eq_some_iff.mp e6
          obtain ⟨t2, f2, e6⟩ := Option.bind_eq_some_iff.mp e6
          obtain ⟨t3, f3, e6⟩ := Option.bind_eq_some_iff.mp e6
          obtain ⟨t4, f4, e6⟩ := Option.bind_eq_some_iff.mp e6
          obtain ⟨t5, f5, e6⟩ := Option.bind_eq_some_iff.mp e6
          cases e6
          rw [f1, Option.bind_some, f2, Option.bind_some, f3, Option.bind_some, f4, Option.bind_some, f5, Option.bind_some, catT_of (by simp; omega), Option.bind_some]
          refine w_some fun t ht => ?_
          rcases List.mem_append.mp ht with z | z
          · exact goodB_ok (ho.2 t z)
          · exact goodX_ok (h6.2 t z)
      · refine w_on (w_lpR (fun _ _ => True) trivial fun j t d hd _ => ?_) fun s _ => w_go trivial
        obtain ⟨⟨x, e1⟩, e2⟩ := hxs d (List.mem_of_getElem? hd)
        rw [e1, Option.bind_some, e2, Option.bind_some]
        simp only [decide_true, Bool.not_true, Bool.false_eq_true, if_false, Option.bind_some]
        exact w_go trivial
  obtain ⟨b, e, rfl⟩ := this
  exact e
theorem law_holds : ∀ ns : List Int, ns.length ≤ 63 → ∃ as, f_law [.dict [(.none, .list (ns.map .int))]] = .ok (.bool true) as := fun ns h => ⟨_, tok_law ns true (p_law_true ns h)⟩
structure Txt (K : PySem.W.Frag) (mg : Str → Option Value) where
  a_compared : Addr
  d_compared : FuncData
  F_compared : Fun K "compared" "compared" s_compared a_compared d_compared
  g_compared : mg "compared" = some (.ref a_compared)
  b_compared : Binds K d_compared ["net", "row"] []
  a_falls : Addr
  d_falls : FuncData
  F_falls : Fun K "falls" "falls" s_falls a_falls d_falls
  g_falls : mg "falls" = some (.ref a_falls)
  b_falls : Binds K d_falls ["row"] []
  a_layers : Addr
  d_layers : FuncData
  F_layers : Fun K "layers" "layers" s_layers a_layers d_layers
  g_layers : mg "layers" = some (.ref a_layers)
  b_layers : Binds K d_layers ["net"] []
  a_depth : Addr
  d_depth : FuncData
  F_depth : Fun K "depth" "depth" s_depth a_depth d_depth
  g_depth : mg "depth" = some (.ref a_depth)
  b_depth : Binds K d_depth ["net"] []
  a_fork_totals : Addr
  d_fork_totals : FuncData
  F_fork_totals : Fun K "fork_totals" "fork_totals" s_fork_totals a_fork_totals d_fork_totals
  g_fork_totals : mg "fork_totals" = some (.ref a_fork_totals)
  b_fork_totals : Binds K d_fork_totals ["net", "counts"] []
  a_ends_of : Addr
  d_ends_of : FuncData
  F_ends_of : Fun K "ends_of" "ends_of" s_ends_of a_ends_of d_ends_of
  g_ends_of : mg "ends_of" = some (.ref a_ends_of)
  b_ends_of : Binds K d_ends_of ["net", "counts"] []
  a_shares : Addr
  d_shares : FuncData
  F_shares : Fun K "shares" "shares" s_shares a_shares d_shares
  g_shares : mg "shares" = some (.ref a_shares)
  b_shares : Binds K d_shares ["net"] []
  a_least_depth : Addr
  d_least_depth : FuncData
  F_least_depth : Fun K "least_depth" "least_depth" s_least_depth a_least_depth d_least_depth
  g_least_depth : mg "least_depth" = some (.ref a_least_depth)
  b_least_depth : Binds K d_least_depth ["lanes"] []
  a_is_shallow : Addr
  d_is_shallow : FuncData
  F_is_shallow : Fun K "is_shallow" "is_shallow" s_is_shallow a_is_shallow d_is_shallow
  g_is_shallow : mg "is_shallow" = some (.ref a_is_shallow)
  b_is_shallow : Binds K d_is_shallow ["net"] []
  a_share_bar : Addr
  d_share_bar : FuncData
  F_share_bar : Fun K "share_bar" "share_bar" s_share_bar a_share_bar d_share_bar
  g_share_bar : mg "share_bar" = some (.ref a_share_bar)
  b_share_bar : Binds K d_share_bar ["net"] []
  a_bits_of : Addr
  d_bits_of : FuncData
  F_bits_of : Fun K "bits_of" "bits_of" s_bits_of a_bits_of d_bits_of
  g_bits_of : mg "bits_of" = some (.ref a_bits_of)
  b_bits_of : Binds K d_bits_of ["number", "many"] []
  a_row_bar : Addr
  d_row_bar : FuncData
  F_row_bar : Fun K "row_bar" "row_bar" s_row_bar a_row_bar d_row_bar
  g_row_bar : mg "row_bar" = some (.ref a_row_bar)
  b_row_bar : Binds K d_row_bar ["net"] []
  a_bar : Addr
  d_bar : FuncData
  F_bar : Fun K "bar" "bar" s_bar a_bar d_bar
  g_bar : mg "bar" = some (.ref a_bar)
  b_bar : Binds K d_bar ["net"] []
  a_is_below : Addr
  d_is_below : FuncData
  F_is_below : Fun K "is_below" "is_below" s_is_below a_is_below d_is_below
  g_is_below : mg "is_below" = some (.ref a_is_below)
  b_is_below : Binds K d_is_below ["thing", "most"] []
  a_is_share_bar : Addr
  d_is_share_bar : FuncData
  F_is_share_bar : Fun K "is_share_bar" "is_share_bar" s_is_share_bar a_is_share_bar d_is_share_bar
  g_is_share_bar : mg "is_share_bar" = some (.ref a_is_share_bar)
  b_is_share_bar : Binds K d_is_share_bar ["net", "rest"] []
  a_is_row_bar : Addr
  d_is_row_bar : FuncData
  F_is_row_bar : Fun K "is_row_bar" "is_row_bar" s_is_row_bar a_is_row_bar d_is_row_bar
  g_is_row_bar : mg "is_row_bar" = some (.ref a_is_row_bar)
  b_is_row_bar : Binds K d_is_row_bar ["net", "rest"] []
  a_shows_bar : Addr
  d_shows_bar : FuncData
  F_shows_bar : Fun K "shows_bar" "shows_bar" s_shows_bar a_shows_bar d_shows_bar
  g_shows_bar : mg "shows_bar" = some (.ref a_shows_bar)
  b_shows_bar : Binds K d_shows_bar ["net", "thing"] []
  a__law_cell_at : Addr
  d__law_cell_at : FuncData
  F__law_cell_at : Fun K "_law_cell_at" "_law_cell_at" s__law_cell_at a__law_cell_at d__law_cell_at
  g__law_cell_at : mg "_law_cell_at" = some (.ref a__law_cell_at)
  b__law_cell_at : Binds K d__law_cell_at ["_law_script", "_law_k"] []
  a__law_left : Addr
  d__law_left : FuncData
  F__law_left : Fun K "_law_left" "_law_left" s__law_left a__law_left d__law_left
  g__law_left : mg "_law_left" = some (.ref a__law_left)
  b__law_left : Binds K d__law_left ["_law_script", "_law_k"] []
  a__law_pick : Addr
  d__law_pick : FuncData
  F__law_pick : Fun K "_law_pick" "_law_pick" s__law_pick a__law_pick d__law_pick
  g__law_pick : mg "_law_pick" = some (.ref a__law_pick)
  b__law_pick : Binds K d__law_pick ["_law_left_here", "_law_many"] []
  a__law_net : Addr
  d__law_net : FuncData
  F__law_net : Fun K "_law_net" "_law_net" s__law_net a__law_net d__law_net
  g__law_net : mg "_law_net" = some (.ref a__law_net)
  b__law_net : Binds K d__law_net ["_law_left_here", "_law_most"] []
  a__law_odd : Addr
  d__law_odd : FuncData
  F__law_odd : Fun K "_law_odd" "_law_odd" s__law_odd a__law_odd d__law_odd
  g__law_odd : mg "_law_odd" = some (.ref a__law_odd)
  b__law_odd : Binds K d__law_odd ["_law_lanes"] []
  a_law : Addr
  d_law : FuncData
  F_law : Fun K "law" "law" s_law a_law d_law
  g_law : mg "law" = some (.ref a_law)
  b_law : Binds K d_law ["_law_script"] []
  z_all : mg "all" = none
  z_bool : mg "bool" = none
  z_enumerate : mg "enumerate" = none
  z_int : mg "int" = none
  z_isinstance : mg "isinstance" = none
  z_len : mg "len" = none
  z_list : mg "list" = none
  z_max : mg "max" = none
  z_min : mg "min" = none
  z_range : mg "range" = none
  z_sorted : mg "sorted" = none
  z_str : mg "str" = none
  z_tuple : mg "tuple" = none
  z_zip : mg "zip" = none
  t_LEAST_DEPTHS : Addr
  m_LEAST_DEPTHS : mg "LEAST_DEPTHS" = some (.ref t_LEAST_DEPTHS)
  i_LEAST_DEPTHS : IntDict K t_LEAST_DEPTHS [((1 : Int), (0 : Int)), ((2 : Int), (1 : Int)), ((4 : Int), (3 : Int)), ((8 : Int), (6 : Int)), ((16 : Int), (9 : Int))]
  t_MOST_LANES_OF_ROWS : Tok
  m_MOST_LANES_OF_ROWS : mg "MOST_LANES_OF_ROWS" = some (.int 8 t_MOST_LANES_OF_ROWS)
  k_dig : PySem.W.nsIn K cStatics "sys.int_max_str_digits" = some none
section
variable {P : Program} {w : World} {K : PySem.W.Frag} {mg : Str → Option Value} {base : Heap}
theorem ok_compared (T : Txt K mg) : FnOk P w K mg base CX0 1 T.a_compared T.d_compared ["net", "row"] (spF K 2 f_compared) :=
  fn_sim T.F_compared sc_compared rfl rfl fun cdv A outer s H E hr => ((ss_cons (ss_set sc_compared.nd rfl (by first | exact .inl rfl | exact .inr rfl) (by rfl) (so_callTy call_list_of pr_list (by rfl) T.z_list bt_list (sa_cons (so_var (pv 1)) sa_nil))) (ss_cons (ss_for PassesOwn.never rfl (si_seq (so_ix (so_var (pv 0)) so_int)) (sg_tup rfl (sgs_cons (sg_name sc_compared.nd rfl (by first | exact .inl rfl | exact .inr rfl) (by rfl)) (sgs_cons (sg_name sc_compared.nd rfl (by first | exact .inl rfl | exact .inr rfl) (by rfl)) sgs_nil)))
  (ss_cons (ss_asg (so_callB (cr_sortAny (units65 hr)) pr_sortAny (by rfl) T.z_sorted bt_sorted (sa_cons (so_lst (sa_cons (so_ix (so_var (pv 2)) (so_var (pv 3))) (sa_cons (so_ix (so_var (pv 2)) (so_var (pv 4))) sa_nil))) sa_nil)) (sg_lst rfl (sgs_cons (sg_name sc_compared.nd rfl (by first | exact .inl rfl | exact .inr rfl) (by rfl)) (sgs_cons (sg_name sc_compared.nd rfl (by first | exact .inl rfl | exact .inr rfl) (by rfl)) sgs_nil)))) (ss_cons (ss_setIx (pv 2) (so_var (pv 3)) (so_var (pv 6))) (ss_one (ss_setIx (pv 2) (so_var (pv 4)) (so_var (pv 5)))))) (fun _ h => h)) (ss_one (ss_ret (so_callTy call_tuple_ofD pr_tuple (by rfl) T.z_tuple bt_tuple (sa_cons (so_comp (own := [("lane", 7)]) rfl sc_compared.nd (si_seq (so_ix (so_var (pv 0)) so_int)) (blkOk_by (by kernel_rfl)) (fun _ _ _ _ _ => (sg_name sc_compared.nd rfl (by first | exact .inl rfl | exact .inr rfl) (by rfl))) (fun _ _ _ _ _ => spt_nil) (fun _ _ _ _ _ => (so_ix (so_var (pv 2)) (so_var (pv 7))))) sa_nil)))))))
theorem ok_falls (T : Txt K mg) : FnOk P w K mg base CX0 1 T.a_falls T.d_falls ["row"] (spF K 1 f_falls) :=
  fn_sim T.F_falls sc_falls rfl rfl fun cdv A outer s H E hr => ((ss_one (ss_ret (so_callB (cr_all rfl) pr_all (by rfl) T.z_all bt_all (sa_cons (so_comp (own := [("one", 1), ("other", 2)]) rfl sc_falls.nd (si_zip (by rfl) T.z_zip (sa_cons (so_var (pv 0)) (sa_cons (so_slice (so_var (pv 0)) (sp_some so_int) sp_none) sa_nil))) (blkOk_by (by kernel_rfl)) (fun _ _ _ _ _ => (sg_tup rfl (sgs_cons (sg_name sc_falls.nd rfl (by first | exact .inl rfl | exact .inr rfl) (by rfl)) (sgs_cons (sg_name sc_falls.nd rfl (by first | exact .inl rfl | exact .inr rfl) (by rfl)) sgs_nil)))) (fun _ _ _ _ _ => spt_nil) (fun _ _ _ _ _ => (so_cmp op_ge pr_ge (so_var (pv 1)) (so_var (pv 2)) (nomark _)))) sa_nil)))))
theorem ok_layers (T : Txt K mg) : FnOk P w K mg base CX0 1 T.a_layers T.d_layers ["net"] (spF K 1 f_layers) :=
  fn_sim T.F_layers sc_layers rfl rfl fun cdv A outer s H E hr => ((ss_cons (ss_set sc_layers.nd rfl (by first | exact .inl rfl | exact .inr rfl) (by rfl) (so_bin op_mulA pr_mul (so_lst (sa_cons so_int sa_nil)) (so_ix (so_var (pv 0)) so_int))) (ss_cons (ss_set sc_layers.nd rfl (by first | exact .inl rfl | exact .inr rfl) (by rfl) (so_lst sa_nil)) (ss_cons (ss_for PassesOwn.never rfl (si_seq (so_ix (so_var (pv 0)) so_int)) (sg_tup rfl (sgs_cons (sg_name sc_layers.nd rfl (by first | exact .inl rfl | exact .inr rfl) (by rfl)) (sgs_cons (sg_name sc_layers.nd rfl (by first | exact .inl rfl | exact .inr rfl) (by rfl)) sgs_nil)))
  (ss_cons (ss_set sc_layers.nd rfl (by first | exact .inl rfl | exact .inr rfl) (by rfl) (so_bin op_addA pr_add so_int (so_callB (call_max2 rfl) pr_max2 (by rfl) T.z_max bt_max (sa_cons (so_ix (so_var (pv 1)) (so_var (pv 3))) (sa_cons (so_ix (so_var (pv 1)) (so_var (pv 4))) sa_nil))))) (ss_cons (ss_setIx (pv 1) (so_var (pv 3)) (so_var (pv 5))) (ss_cons (ss_setIx (pv 1) (so_var (pv 4)) (so_var (pv 5))) (ss_one (ss_expr (so_mt md_app PySem.F.slot_list_append PySem.F.type_list_append mt_append (pv 2) (sa_cons (so_var (pv 5)) sa_nil))))))) (fun _ h => h)) (ss_one (ss_ret (so_callTy call_tuple_ofD pr_tuple (by rfl) T.z_tuple bt_tuple (sa_cons (so_var (pv 2)) sa_nil))))))))
theorem ok_depth (T : Txt K mg) : FnOk P w K mg base CX0 2 T.a_depth T.d_depth ["net"] (spF K 1 f_depth) :=
  fn_sim T.F_depth sc_depth rfl rfl fun cdv A outer s H E hr => ((ss_one (ss_ret (so_callB (cr_maxA rfl) pr_max1 (by rfl) T.z_max bt_max (sa_cons (so_bin op_addA pr_add (so_tup (sa_cons so_int sa_nil)) (so_call (ok_layers T) (hr.mono (by omega)) (by rfl) T.g_layers T.F_layers.kp T.b_layers (sa_cons (so_var (pv 0)) sa_nil) (fun _ _ _ h => mkFn_len h))) sa_nil)))))
theorem ok_fork_totals (T : Txt K mg) : FnOk P w K mg base CX0 1 T.a_fork_totals T.d_fork_totals ["net", "counts"] (spF K 2 f_fork_totals) :=
  fn_sim T.F_fork_totals sc_fork_totals rfl rfl fun cdv A outer s H E hr => ((ss_cons (ss_set sc_fork_totals.nd rfl (by first | exact .inl rfl | exact .inr rfl) (by rfl) (so_callTy call_list_of pr_list (by rfl) T.z_list bt_list (sa_cons (so_var (pv 1)) sa_nil))) (ss_cons (ss_set sc_fork_totals.nd rfl (by first | exact .inl rfl | exact .inr rfl) (by rfl) (so_lst sa_nil)) (ss_cons (ss_for PassesOwn.never rfl (si_seq (so_ix (so_var (pv 0)) so_int)) (sg_tup rfl (sgs_cons (sg_name sc_fork_totals.nd rfl (by first | exact .inl rfl | exact .inr rfl) (by rfl)) (sgs_cons (sg_name sc_fork_totals.nd rfl (by first | exact .inl rfl | exact .inr rfl) (by rfl)) sgs_nil)))
  (ss_cons (ss_set sc_fork_totals.nd rfl (by first | exact .inl rfl | exact .inr rfl) (by rfl) (so_bin op_addA pr_add (so_ix (so_var (pv 2)) (so_var (pv 4))) (so_ix (so_var (pv 2)) (so_var (pv 5))))) (ss_cons (ss_expr (so_mt md_app PySem.F.slot_list_append PySem.F.type_list_append mt_append (pv 3) (sa_cons (so_var (pv 6)) sa_nil))) (ss_cons (ss_setIx (pv 2) (so_var (pv 4)) (so_bin op_fdivW pr_div (so_bin op_addA pr_add (so_var (pv 6)) so_int) so_int)) (ss_one (ss_setIx (pv 2) (so_var (pv 5)) (so_bin op_fdivW pr_div (so_var (pv 6)) so_int)))))) (fun _ h => h)) (ss_one (ss_retT (sa_cons (so_var (pv 3)) (sa_cons (so_var (pv 2)) sa_nil))))))))
theorem ok_ends_of (T : Txt K mg) : FnOk P w K mg base CX0 2 T.a_ends_of T.d_ends_of ["net", "counts"] (spF K 2 f_ends_of) :=
  fn_sim T.F_ends_of sc_ends_of rfl rfl fun cdv A outer s H E hr => ((ss_cons (ss_asg (so_call (ok_fork_totals T) (hr.mono (by omega)) (by rfl) T.g_fork_totals T.F_fork_totals.kp T.b_fork_totals (sa_cons (so_var (pv 0)) (sa_cons (so_var (pv 1)) sa_nil)) (fun _ _ _ h => mkFn_len h)) (sg_tup rfl (sgs_cons (sg_name sc_ends_of.nd rfl (by first | exact .inl rfl | exact .inr rfl) (by rfl)) (sgs_cons (sg_name sc_ends_of.nd rfl (by first | exact .inl rfl | exact .inr rfl) (by rfl)) sgs_nil)))) (ss_one (ss_ret (so_callTy call_tuple_ofD pr_tuple (by rfl) T.z_tuple bt_tuple (sa_cons (so_comp (own := [("lane", 4)]) rfl sc_ends_of.nd (si_seq (so_ix (so_var (pv 0)) so_int)) (blkOk_by (by kernel_rfl)) (fun _ _ _ _ _ => (sg_name sc_ends_of.nd rfl (by first | exact .inl rfl | exact .inr rfl) (by rfl))) (fun _ _ _ _ _ => spt_nil) (fun _ _ _ _ _ => (so_ix (so_var (pv 3)) (so_var (pv 4))))) sa_nil))))))
theorem ok_shares (T : Txt K mg) : FnOk P w K mg base CX0 3 T.a_shares T.d_shares ["net"] (spF K 1 f_shares) :=
  fn_sim T.F_shares sc_shares rfl rfl fun cdv A outer s H E hr => ((ss_cons (ss_set sc_shares.nd rfl (by first | exact .inl rfl | exact .inr rfl) (by rfl) (so_bin op_shl pr_shl so_int (so_call (ok_depth T) (hr.mono (by omega)) (by rfl) T.g_depth T.F_depth.kp T.b_depth (sa_cons (so_var (pv 0)) sa_nil) (fun _ _ _ h => mkFn_len h)))) (ss_cons (ss_set sc_shares.nd rfl (by first | exact .inl rfl | exact .inr rfl) (by rfl) (so_lst sa_nil)) (ss_cons (ss_for PassesOwn.never rfl (si_range1 (by rfl) T.z_range (sa_cons (so_ix (so_var (pv 0)) so_int) sa_nil)) (sg_name sc_shares.nd rfl (by first | exact .inl rfl | exact .inr rfl) (by rfl))
  (ss_cons (ss_set sc_shares.nd rfl (by first | exact .inl rfl | exact .inr rfl) (by rfl) (so_bin op_addA pr_add (so_bin op_addA pr_add (so_bin op_mulA pr_mul (so_tup (sa_cons so_int sa_nil)) (so_var (pv 3))) (so_tup (sa_cons (so_var (pv 1)) sa_nil))) (so_bin op_mulA pr_mul (so_tup (sa_cons so_int sa_nil)) (so_bin op_sub pr_sub (so_bin op_sub pr_sub (so_ix (so_var (pv 0)) so_int) so_int) (so_var (pv 3)))))) (ss_one (ss_expr (so_mt md_app PySem.F.slot_list_append PySem.F.type_list_append mt_append (pv 2) (sa_cons (so_call (ok_ends_of T) (hr.mono (by omega)) (by rfl) T.g_ends_of T.F_ends_of.kp T.b_ends_of (sa_cons (so_var (pv 0)) (sa_cons (so_var (pv 4)) sa_nil)) (fun _ _ _ h => mkFn_len h)) sa_nil))))) (fun _ h => h)) (ss_one (ss_ret (so_callTy call_tuple_ofD pr_tuple (by rfl) T.z_tuple bt_tuple (sa_cons (so_var (pv 2)) sa_nil))))))))
theorem ok_least_depth (T : Txt K mg) : FnOk P w K mg base CX0 1 T.a_least_depth T.d_least_depth ["lanes"] (spF K 1 f_least_depth) :=
  fn_sim T.F_least_depth sc_least_depth rfl rfl fun cdv A outer s H E hr => ((ss_one (ss_ret (so_getD (by rfl) T.m_LEAST_DEPTHS T.i_LEAST_DEPTHS (so_var (pv 0))))))
theorem ok_is_shallow (T : Txt K mg) : FnOk P w K mg base CX0 3 T.a_is_shallow T.d_is_shallow ["net"] (spF K 1 f_is_shallow) :=
  fn_sim T.F_is_shallow sc_is_shallow rfl rfl fun cdv A outer s H E hr => ((ss_cons (ss_set sc_is_shallow.nd rfl (by first | exact .inl rfl | exact .inr rfl) (by rfl) (so_call (ok_least_depth T) (hr.mono (by omega)) (by rfl) T.g_least_depth T.F_least_depth.kp T.b_least_depth (sa_cons (so_ix (so_var (pv 0)) so_int) sa_nil) (fun _ _ _ h => mkFn_len h))) (ss_one (ss_ret (so_and (so_cmp op_isNotA pr_isnot (so_var (pv 1)) so_non (nomark _)) (so_one (so_cmp op_lt pr_lt (so_call (ok_depth T) (hr.mono (by omega)) (by rfl) T.g_depth T.F_depth.kp T.b_depth (sa_cons (so_var (pv 0)) sa_nil) (fun _ _ _ h => mkFn_len h)) (so_var (pv 1)) (nomark _))))))))
theorem ok_share_bar (T : Txt K mg) : FnOk P w K mg base CX0 4 T.a_share_bar T.d_share_bar ["net"] (spF K 1 f_share_bar) :=
  fn_sim T.F_share_bar sc_share_bar rfl rfl fun cdv A outer s H E hr => ((ss_cons (ss_for PassesOwn.never rfl (si_enum (by rfl) T.z_enumerate (sa_cons (so_call (ok_shares T) (hr.mono (by omega)) (by rfl) T.g_shares T.F_shares.kp T.b_shares (sa_cons (so_var (pv 0)) sa_nil) (fun _ _ _ h => mkFn_len h)) sa_nil)) (sg_tup rfl (sgs_cons (sg_name sc_share_bar.nd rfl (by first | exact .inl rfl | exact .inr rfl) (by rfl)) (sgs_cons (sg_name sc_share_bar.nd rfl (by first | exact .inl rfl | exact .inr rfl) (by rfl)) sgs_nil)))
  (ss_one (ss_for PassesOwn.never rfl (si_enum (by rfl) T.z_enumerate (sa_cons (so_var (pv 2)) sa_nil)) (sg_tup rfl (sgs_cons (sg_name sc_share_bar.nd rfl (by first | exact .inl rfl | exact .inr rfl) (by rfl)) (sgs_cons (sg_name sc_share_bar.nd rfl (by first | exact .inl rfl | exact .inr rfl) (by rfl)) sgs_nil)))
  (ss_one (ss_if (st_cmp (op_neD hr.units) pr_ne (so_bin op_mulA pr_mul (so_ix (so_var (pv 0)) so_int) (so_var (pv 4))) (so_bin op_shl pr_shl so_int (so_call (ok_depth T) (hr.mono (by omega)) (by rfl) T.g_depth T.F_depth.kp T.b_depth (sa_cons (so_var (pv 0)) sa_nil) (fun _ _ _ h => mkFn_len h))) (nomark _))
  (ss_one (ss_ret (so_tup (sa_cons so_str (sa_cons (so_var (pv 1)) (sa_cons (so_var (pv 3)) sa_nil))))))
  ss_nil)) lkp_sub)) (fun _ h => h)) (ss_one (ss_ret so_non))))
theorem ok_bits_of (T : Txt K mg) : FnOk P w K mg base CX0 1 T.a_bits_of T.d_bits_of ["number", "many"] (spF K 2 f_bits_of) :=
  fn_sim T.F_bits_of sc_bits_of rfl rfl fun cdv A outer s H E hr => ((ss_one (ss_ret (so_callTy call_tuple_ofD pr_tuple (by rfl) T.z_tuple bt_tuple (sa_cons (so_comp (own := [("place", 2)]) rfl sc_bits_of.nd (si_range1 (by rfl) T.z_range (sa_cons (so_var (pv 1)) sa_nil)) (blkOk_by (by kernel_rfl)) (fun _ _ _ _ _ => (sg_name sc_bits_of.nd rfl (by first | exact .inl rfl | exact .inr rfl) (by rfl))) (fun _ _ _ _ _ => spt_nil) (fun _ _ _ _ _ => (so_bin op_and pr_and (so_bin op_shr pr_shr (so_var (pv 0)) (so_bin op_sub pr_sub (so_bin op_sub pr_sub (so_var (pv 1)) so_int) (so_var (pv 2)))) so_int))) sa_nil)))))
theorem ok_row_bar (T : Txt K mg) : FnOk P w K mg base CX0 2 T.a_row_bar T.d_row_bar ["net"] (spF K 1 f_row_bar) :=
  fn_sim T.F_row_bar sc_row_bar rfl rfl fun cdv A outer s H E hr => ((ss_cons (ss_for PassesOwn.never rfl (si_range1 (by rfl) T.z_range (sa_cons (so_bin op_shl pr_shl so_int (so_ix (so_var (pv 0)) so_int)) sa_nil)) (sg_name sc_row_bar.nd rfl (by first | exact .inl rfl | exact .inr rfl) (by rfl))
  (ss_cons (ss_set sc_row_bar.nd rfl (by first | exact .inl rfl | exact .inr rfl) (by rfl) (so_call (ok_bits_of T) (hr.mono (by omega)) (by rfl) T.g_bits_of T.F_bits_of.kp T.b_bits_of (sa_cons (so_var (pv 1)) (sa_cons (so_ix (so_var (pv 0)) so_int) sa_nil)) (fun _ _ _ h => mkFn_len h))) (ss_one (ss_if (st_not (st_any (so_call (ok_falls T) (hr.mono (by omega)) (by rfl) T.g_falls T.F_falls.kp T.b_falls (sa_cons (so_call (ok_compared T) (hr.mono (by omega)) (by rfl) T.g_compared T.F_compared.kp T.b_compared (sa_cons (so_var (pv 0)) (sa_cons (so_var (pv 2)) sa_nil)) (fun _ _ _ h => mkFn_len h)) sa_nil) (fun _ _ _ h => mkFn_len h))))
  (ss_one (ss_ret (so_tup (sa_cons so_str (sa_cons (so_var (pv 2)) sa_nil)))))
  ss_nil))) (fun _ h => h)) (ss_one (ss_ret so_non))))
theorem ok_bar (T : Txt K mg) : FnOk P w K mg base CX0 5 T.a_bar T.d_bar ["net"] (spF K 1 f_bar) :=
  fn_sim T.F_bar sc_bar rfl rfl fun cdv A outer s H E hr => ((ss_cons (ss_if (st_cmp op_isA pr_is (so_call (ok_least_depth T) (hr.mono (by omega)) (by rfl) T.g_least_depth T.F_least_depth.kp T.b_least_depth (sa_cons (so_ix (so_var (pv 0)) so_int) sa_nil) (fun _ _ _ h => mkFn_len h)) so_non (nomark _))
  (ss_one (ss_ret (so_tup (sa_cons so_str sa_nil))))
  ss_nil) (ss_cons (ss_if (st_any (so_call (ok_is_shallow T) (hr.mono (by omega)) (by rfl) T.g_is_shallow T.F_is_shallow.kp T.b_is_shallow (sa_cons (so_var (pv 0)) sa_nil) (fun _ _ _ h => mkFn_len h)))
  (ss_one (ss_ret (so_tup (sa_cons so_str sa_nil))))
  ss_nil) (ss_cons (ss_set sc_bar.nd rfl (by first | exact .inl rfl | exact .inr rfl) (by rfl) (so_call (ok_share_bar T) (hr.mono (by omega)) (by rfl) T.g_share_bar T.F_share_bar.kp T.b_share_bar (sa_cons (so_var (pv 0)) sa_nil) (fun _ _ _ h => mkFn_len h))) (ss_cons (ss_if (st_w (sw_and (st_cmp op_isA pr_is (so_var (pv 1)) so_non (nomark _)) (sw_and1 (st_cmp op_le pr_le (so_ix (so_var (pv 0)) so_int) (so_globI (by rfl) T.m_MOST_LANES_OF_ROWS) (nomark _)))))
  (ss_one (ss_set sc_bar.nd rfl (by first | exact .inl rfl | exact .inr rfl) (by rfl) (so_call (ok_row_bar T) (hr.mono (by omega)) (by rfl) T.g_row_bar T.F_row_bar.kp T.b_row_bar (sa_cons (so_var (pv 0)) sa_nil) (fun _ _ _ h => mkFn_len h))))
  ss_nil) (ss_one (ss_ret (so_var (pv 1)))))))))
theorem ok_is_below (T : Txt K mg) : FnOk P w K mg base CX0 1 T.a_is_below T.d_is_below ["thing", "most"] (spF K 2 f_is_below) :=
  fn_sim T.F_is_below sc_is_below rfl rfl fun cdv A outer s H E hr => ((ss_one (ss_ret (so_and (so_isi .int (by rfl) T.z_isinstance (by rfl) T.z_int (so_var (pv 0))) (so_and (so_not (so_isi .bool (by rfl) T.z_isinstance (by rfl) T.z_bool (so_var (pv 0)))) (so_one (so_chain op_le pr_le op_lt pr_lt so_int (so_var (pv 0)) (so_var (pv 1)))))))))
theorem ok_is_share_bar (T : Txt K mg) : FnOk P w K mg base CX0 4 T.a_is_share_bar T.d_is_share_bar ["net", "rest"] (spF K 2 f_is_share_bar) :=
  fn_sim T.F_is_share_bar sc_is_share_bar rfl rfl fun cdv A outer s H E hr => ((ss_cons (ss_if (st_w (sw_or (st_cmp (op_neD hr.units) pr_ne (so_callB cr_len pr_len (by rfl) T.z_len bt_len (sa_cons (so_var (pv 1)) sa_nil)) so_int (nomark _)) (sw_or1 (st_not (st_any (so_callB (cr_all rfl) pr_all (by rfl) T.z_all bt_all (sa_cons (so_comp (own := [("one", 2)]) rfl sc_is_share_bar.nd (si_seq (so_var (pv 1))) (blkOk_by (by kernel_rfl)) (fun _ _ _ _ _ => (sg_name sc_is_share_bar.nd rfl (by first | exact .inl rfl | exact .inr rfl) (by rfl))) (fun _ _ _ _ _ => spt_nil) (fun _ _ _ _ _ => (so_call (ok_is_below T) (hr.mono (by omega)) (by rfl) T.g_is_below T.F_is_below.kp T.b_is_below (sa_cons (so_var (pv 2)) (sa_cons (so_ix (so_var (pv 0)) so_int) sa_nil)) (fun _ _ _ h => mkFn_len h)))) sa_nil)))))))
  (ss_one (ss_ret so_bl))
  ss_nil) (ss_cons (ss_asg (so_var (pv 1)) (sg_tup rfl (sgs_cons (sg_name sc_is_share_bar.nd rfl (by first | exact .inl rfl | exact .inr rfl) (by rfl)) (sgs_cons (sg_name sc_is_share_bar.nd rfl (by first | exact .inl rfl | exact .inr rfl) (by rfl)) sgs_nil)))) (ss_one (ss_ret (so_cmp (op_neD hr.units) pr_ne (so_bin op_mulA pr_mul (so_ix (so_var (pv 0)) so_int) (so_ix (so_ix (so_call (ok_shares T) (hr.mono (by omega)) (by rfl) T.g_shares T.F_shares.kp T.b_shares (sa_cons (so_var (pv 0)) sa_nil) (fun _ _ _ h => mkFn_len h)) (so_var (pv 3))) (so_var (pv 4)))) (so_bin op_shl pr_shl so_int (so_call (ok_depth T) (hr.mono (by omega)) (by rfl) T.g_depth T.F_depth.kp T.b_depth (sa_cons (so_var (pv 0)) sa_nil) (fun _ _ _ h => mkFn_len h))) (nomark _)))))))
theorem ok_is_row_bar (T : Txt K mg) : FnOk P w K mg base CX0 2 T.a_is_row_bar T.d_is_row_bar ["net", "rest"] (spF K 2 f_is_row_bar) :=
  fn_sim T.F_is_row_bar sc_is_row_bar rfl rfl fun cdv A outer s H E hr => ((ss_cons (ss_if (st_w (sw_or (st_cmp (op_neD hr.units) pr_ne (so_callB cr_len pr_len (by rfl) T.z_len bt_len (sa_cons (so_var (pv 1)) sa_nil)) so_int (nomark _)) (sw_or (st_not (st_any (so_isi .tup (by rfl) T.z_isinstance (by rfl) T.z_tuple (so_ix (so_var (pv 1)) so_int)))) (sw_or1 (st_cmp (op_neD hr.units) pr_ne (so_callB cr_len pr_len (by rfl) T.z_len bt_len (sa_cons (so_ix (so_var (pv 1)) so_int) sa_nil)) (so_ix (so_var (pv 0)) so_int) (nomark _))))))
  (ss_one (ss_ret so_bl))
  ss_nil) (ss_one (ss_ret (so_and (so_callB (cr_all rfl) pr_all (by rfl) T.z_all bt_all (sa_cons (so_comp (own := [("one", 2)]) rfl sc_is_row_bar.nd (si_seq (so_ix (so_var (pv 1)) so_int)) (blkOk_by (by kernel_rfl)) (fun _ _ _ _ _ => (sg_name sc_is_row_bar.nd rfl (by first | exact .inl rfl | exact .inr rfl) (by rfl))) (fun _ _ _ _ _ => spt_nil) (fun _ _ _ _ _ => (so_call (ok_is_below T) (hr.mono (by omega)) (by rfl) T.g_is_below T.F_is_below.kp T.b_is_below (sa_cons (so_var (pv 2)) (sa_cons so_int sa_nil)) (fun _ _ _ h => mkFn_len h)))) sa_nil)) (so_one (so_not (so_call (ok_falls T) (hr.mono (by omega)) (by rfl) T.g_falls T.F_falls.kp T.b_falls (sa_cons (so_call (ok_compared T) (hr.mono (by omega)) (by rfl) T.g_compared T.F_compared.kp T.b_compared (sa_cons (so_var (pv 0)) (sa_cons (so_ix (so_var (pv 1)) so_int) sa_nil)) (fun _ _ _ h => mkFn_len h)) sa_nil) (fun _ _ _ h => mkFn_len h)))))))))
theorem ok_shows_bar (T : Txt K mg) : FnOk P w K mg base CX0 5 T.a_shows_bar T.d_shows_bar ["net", "thing"] (spF K 2 f_shows_bar) :=
  fn_sim T.F_shows_bar sc_shows_bar rfl rfl fun cdv A outer s H E hr => ((ss_cons (ss_if (st_w (sw_or (st_not (st_any (so_isi .tup (by rfl) T.z_isinstance (by rfl) T.z_tuple (so_var (pv 1))))) (sw_or (st_cmp (op_eqD hr.units) pr_eq (so_callB cr_len pr_len (by rfl) T.z_len bt_len (sa_cons (so_var (pv 1)) sa_nil)) so_int (nomark _)) (sw_or1 (st_not (st_any (so_isi .str (by rfl) T.z_isinstance (by rfl) T.z_str (so_ix (so_var (pv 1)) so_int))))))))
  (ss_one (ss_ret so_bl))
  ss_nil) (ss_cons (ss_par (i := 2) (j := 3) rfl sc_shows_bar.nd rfl rfl (by decide) rfl rfl (by rfl) (by rfl) (sa_cons (so_ix (so_var (pv 1)) so_int) (sa_cons (so_slice (so_var (pv 1)) (sp_some so_int) sp_none) sa_nil))) (ss_cons (ss_if (st_cmp (op_eqD hr.units) pr_eq (so_var (pv 2)) so_str (nomark _))
  (ss_one (ss_ret (so_and (so_cmp (op_eqE (Nat.lt_of_le_of_lt (Nat.le_add_right _ 65) (units65 hr))) pr_eqE (so_var (pv 3)) (so_tup sa_nil) (nomark _)) (so_one (so_cmp op_isA pr_is (so_call (ok_least_depth T) (hr.mono (by omega)) (by rfl) T.g_least_depth T.F_least_depth.kp T.b_least_depth (sa_cons (so_ix (so_var (pv 0)) so_int) sa_nil) (fun _ _ _ h => mkFn_len h)) so_non (nomark _))))))
  ss_nil) (ss_cons (ss_if (st_cmp (op_eqD hr.units) pr_eq (so_var (pv 2)) so_str (nomark _))
  (ss_one (ss_ret (so_and (so_cmp (op_eqE (Nat.lt_of_le_of_lt (Nat.le_add_right _ 65) (units65 hr))) pr_eqE (so_var (pv 3)) (so_tup sa_nil) (nomark _)) (so_one (so_call (ok_is_shallow T) (hr.mono (by omega)) (by rfl) T.g_is_shallow T.F_is_shallow.kp T.b_is_shallow (sa_cons (so_var (pv 0)) sa_nil) (fun _ _ _ h => mkFn_len h))))))
  ss_nil) (ss_cons (ss_if (st_cmp (op_eqD hr.units) pr_eq (so_var (pv 2)) so_str (nomark _))
  (ss_one (ss_ret (so_call (ok_is_share_bar T) (hr.mono (by omega)) (by rfl) T.g_is_share_bar T.F_is_share_bar.kp T.b_is_share_bar (sa_cons (so_var (pv 0)) (sa_cons (so_var (pv 3)) sa_nil)) (fun _ _ _ h => mkFn_len h))))
  ss_nil) (ss_one (ss_ret (so_and (so_cmp (op_eqD hr.units) pr_eq (so_var (pv 2)) so_str (nomark _)) (so_one (so_call (ok_is_row_bar T) (hr.mono (by omega)) (by rfl) T.g_is_row_bar T.F_is_row_bar.kp T.b_is_row_bar (sa_cons (so_var (pv 0)) (sa_cons (so_var (pv 3)) sa_nil)) (fun _ _ _ h => mkFn_len h))))))))))))
theorem ok__law_cell_at (T : Txt K mg) : FnOk P w K mg base CX0 1 T.a__law_cell_at T.d__law_cell_at ["_law_script", "_law_k"] (spF K 2 f__law_cell_at) :=
  fn_sim T.F__law_cell_at sc__law_cell_at rfl rfl fun cdv A outer s H E hr => ((ss_cons (ss_if (st_cmp op_lt pr_lt (so_var (pv 1)) (so_callB cr_len pr_len (by rfl) T.z_len bt_len (sa_cons (so_var (pv 0)) sa_nil)) (nomark _))
  (ss_one (ss_ret (so_ix (so_var (pv 0)) (so_var (pv 1)))))
  ss_nil) (ss_one (ss_ret so_int))))
theorem ok__law_left (T : Txt K mg) : FnOk P w K mg base CX0 2 T.a__law_left T.d__law_left ["_law_script", "_law_k"] (spF K 2 f__law_left) :=
  fn_sim T.F__law_left sc__law_left rfl rfl fun cdv A outer s H E hr => ((ss_cons (ss_set sc__law_left.nd rfl (by first | exact .inl rfl | exact .inr rfl) (by rfl) (so_call (ok__law_cell_at T) (hr.mono (by omega)) (by rfl) T.g__law_cell_at T.F__law_cell_at.kp T.b__law_cell_at (sa_cons (so_var (pv 0)) (sa_cons (so_bin op_mod pr_mod (so_var (pv 1)) (so_callB (call_max2 rfl) pr_max2 (by rfl) T.z_max bt_max (sa_cons so_int (sa_cons (so_callB cr_len pr_len (by rfl) T.z_len bt_len (sa_cons (so_var (pv 0)) sa_nil)) sa_nil)))) sa_nil)) (fun _ _ _ h => mkFn_len h))) (ss_cons (ss_set sc__law_left.nd rfl (by first | exact .inl rfl | exact .inr rfl) (by rfl) (so_bin op_mod pr_mod (so_bin op_mulA pr_mul (so_bin op_addA pr_add (so_bin op_addA pr_add (so_bin op_mod pr_mod (so_var (pv 2)) so_int) (so_bin op_mulA pr_mul (so_bin op_mulA pr_mul so_int (so_var (pv 1))) (so_var (pv 1)))) so_int) so_int) so_int)) (ss_one (ss_ret (so_lst (sa_cons (so_bin op_mod pr_mod (so_bin op_mulA pr_mul (so_var (pv 2)) (so_callTy call_int1 pr_int (by rfl) T.z_int bt_int (sa_cons (so_cmp op_ge pr_ge (so_var (pv 2)) (so_bin op_pow pr_pow so_int so_int) (nomark _)) sa_nil))) (so_callTy (call_int_ten T.k_dig 4000 (by decide) (by decide)) (pr_intTen 4000) (by rfl) T.z_int bt_int (sa_cons (so_bin op_addA pr_add so_str (so_bin op_mulS pr_mulS so_str so_int)) sa_nil))) (sa_cons (so_var (pv 3)) sa_nil))))))))
theorem ok__law_pick (T : Txt K mg) : FnOk P w K mg base CX0 1 T.a__law_pick T.d__law_pick ["_law_left_here", "_law_many"] (spF K 2 f__law_pick) :=
  fn_sim T.F__law_pick sc__law_pick rfl rfl fun cdv A outer s H E hr => ((ss_cons (ss_if (st_cmp op_gt pr_gt (so_ix (so_var (pv 0)) so_int) so_int (nomark _))
  (ss_cons (ss_set sc__law_pick.nd rfl (by first | exact .inl rfl | exact .inr rfl) (by rfl) (so_bin op_mod pr_mod (so_ix (so_var (pv 0)) so_int) (so_var (pv 1)))) (ss_cons (ss_setIx (pv 0) so_int (so_bin op_fdivW pr_div (so_ix (so_var (pv 0)) so_int) (so_var (pv 1)))) (ss_one (ss_ret (so_var (pv 2))))))
  ss_nil) (ss_cons (ss_setIx (pv 0) so_int (so_bin op_mod pr_mod (so_bin op_addA pr_add (so_bin op_mulA pr_mul (so_ix (so_var (pv 0)) so_int) so_int) so_int) so_int)) (ss_one (ss_ret (so_bin op_mod pr_mod (so_bin op_mod pr_mod (so_bin op_mulA pr_mul (so_ix (so_var (pv 0)) so_int) (so_ix (so_var (pv 0)) so_int)) so_int) (so_var (pv 1))))))))
theorem ok__law_net (T : Txt K mg) : FnOk P w K mg base CX0 2 T.a__law_net T.d__law_net ["_law_left_here", "_law_most"] (spF K 2 f__law_net) :=
  fn_sim T.F__law_net sc__law_net rfl rfl fun cdv A outer s H E hr => ((ss_cons (ss_set sc__law_net.nd rfl (by first | exact .inl rfl | exact .inr rfl) (by rfl) (so_ix (so_lst (sa_cons so_int (sa_cons so_int (sa_cons so_int (sa_cons so_int (sa_cons so_int (sa_cons so_int (sa_cons so_int (sa_cons so_int (sa_cons so_int (sa_cons so_int sa_nil))))))))))) (so_call (ok__law_pick T) (hr.mono (by omega)) (by rfl) T.g__law_pick T.F__law_pick.kp T.b__law_pick (sa_cons (so_var (pv 0)) (sa_cons so_int sa_nil)) (fun _ _ _ h => mkFn_len h)))) (ss_cons (ss_set sc__law_net.nd rfl (by first | exact .inl rfl | exact .inr rfl) (by rfl) (so_lst sa_nil)) (ss_cons (ss_for PassesOwn.never rfl (si_range1 (by rfl) T.z_range (sa_cons (so_bin op_mulA pr_mul (so_ix (so_lst (sa_cons so_int (sa_cons so_int (sa_cons so_int (sa_cons so_int (sa_cons so_int (sa_cons so_int (sa_cons so_int (sa_cons (so_var (pv 1)) sa_nil))))))))) (so_call (ok__law_pick T) (hr.mono (by omega)) (by rfl) T.g__law_pick T.F__law_pick.kp T.b__law_pick (sa_cons (so_var (pv 0)) (sa_cons so_int sa_nil)) (fun _ _ _ h => mkFn_len h))) (so_callTy call_int1 pr_int (by rfl) T.z_int bt_int (sa_cons (so_cmp op_gt pr_gt (so_var (pv 2)) so_int (nomark _)) sa_nil))) sa_nil)) (sg_name sc__law_net.nd rfl (by first | exact .inl rfl | exact .inr rfl) (by rfl))
  (ss_cons (ss_set sc__law_net.nd rfl (by first | exact .inl rfl | exact .inr rfl) (by rfl) (so_call (ok__law_pick T) (hr.mono (by omega)) (by rfl) T.g__law_pick T.F__law_pick.kp T.b__law_pick (sa_cons (so_var (pv 0)) (sa_cons (so_var (pv 2)) sa_nil)) (fun _ _ _ h => mkFn_len h))) (ss_cons (ss_set sc__law_net.nd rfl (by first | exact .inl rfl | exact .inr rfl) (by rfl) (so_tup (sa_cons (so_var (pv 5)) (sa_cons (so_bin op_mod pr_mod (so_bin op_addA pr_add (so_bin op_addA pr_add (so_var (pv 5)) so_int) (so_call (ok__law_pick T) (hr.mono (by omega)) (by rfl) T.g__law_pick T.F__law_pick.kp T.b__law_pick (sa_cons (so_var (pv 0)) (sa_cons (so_callB (call_max2 rfl) pr_max2 (by rfl) T.z_max bt_max (sa_cons so_int (sa_cons (so_bin op_sub pr_sub (so_var (pv 2)) so_int) sa_nil))) sa_nil)) (fun _ _ _ h => mkFn_len h))) (so_var (pv 2))) sa_nil)))) (ss_cons (ss_set sc__law_net.nd rfl (by first | exact .inl rfl | exact .inr rfl) (by rfl) (so_call (ok__law_pick T) (hr.mono (by omega)) (by rfl) T.g__law_pick T.F__law_pick.kp T.b__law_pick (sa_cons (so_var (pv 0)) (sa_cons so_int sa_nil)) (fun _ _ _ h => mkFn_len h))) (ss_cons (ss_if (st_w (sw_and (st_cmp (op_neD hr.units) pr_ne (so_var (pv 3)) (so_lst sa_nil) (nomark _)) (sw_and1 (st_cmp op_lt pr_lt (so_var (pv 7)) so_int (nomark _)))))
  (ss_one (ss_set sc__law_net.nd rfl (by first | exact .inl rfl | exact .inr rfl) (by rfl) (so_ix (so_lst (sa_cons (so_ix (so_var (pv 3)) (so_un un_neg pr_neg so_int)) (sa_cons (so_step (so_ix (so_var (pv 3)) (so_un un_neg pr_neg so_int)) sp_none sp_none (sp_some (so_un un_neg pr_neg so_int))) sa_nil))) (so_var (pv 7)))))
  ss_nil) (ss_one (ss_expr (so_mt md_app PySem.F.slot_list_append PySem.F.type_list_append mt_append (pv 3) (sa_cons (so_var (pv 6)) sa_nil)))))))) (fun _ h => h)) (ss_cons (ss_set sc__law_net.nd rfl (by first | exact .inl rfl | exact .inr rfl) (by rfl) (so_lst sa_nil)) (ss_cons (ss_for PassesOwn.never rfl (si_range1 (by rfl) T.z_range (sa_cons (so_var (pv 2)) sa_nil)) (sg_name sc__law_net.nd rfl (by first | exact .inl rfl | exact .inr rfl) (by rfl))
  (ss_one (ss_expr (so_mt md_ins PySem.F.slot_list_insert PySem.F.type_list_insert mt_insert (pv 8) (sa_cons (so_call (ok__law_pick T) (hr.mono (by omega)) (by rfl) T.g__law_pick T.F__law_pick.kp T.b__law_pick (sa_cons (so_var (pv 0)) (sa_cons (so_bin op_addA pr_add (so_callB cr_len pr_len (by rfl) T.z_len bt_len (sa_cons (so_var (pv 8)) sa_nil)) so_int) sa_nil)) (fun _ _ _ h => mkFn_len h)) (sa_cons (so_var (pv 9)) sa_nil))))) (fun _ h => h)) (ss_one (ss_ret (so_tup (sa_cons (so_var (pv 2)) (sa_cons (so_callTy call_tuple_ofD pr_tuple (by rfl) T.z_tuple bt_tuple (sa_cons (so_var (pv 3)) sa_nil)) (sa_cons (so_ix (so_lst (sa_cons (so_callTy call_tuple_ofD pr_tuple (by rfl) T.z_tuple bt_tuple (sa_cons (so_var (pv 8)) sa_nil)) (sa_cons (so_tupleRg1 rfl (by rfl) T.z_tuple (by rfl) T.z_range (so_var (pv 2))) sa_nil))) (so_call (ok__law_pick T) (hr.mono (by omega)) (by rfl) T.g__law_pick T.F__law_pick.kp T.b__law_pick (sa_cons (so_var (pv 0)) (sa_cons so_int sa_nil)) (fun _ _ _ h => mkFn_len h))) sa_nil))))))))))))
theorem ok__law_odd (T : Txt K mg) : FnOk P w K mg base CX0 1 T.a__law_odd T.d__law_odd ["_law_lanes"] (spF K 1 f__law_odd) :=
  fn_sim T.F__law_odd sc__law_odd rfl rfl fun cdv A outer s H E hr => ((ss_cons (ss_set sc__law_odd.nd rfl (by first | exact .inl rfl | exact .inr rfl) (by rfl) (so_bin op_mulA pr_mul (so_tup (sa_cons so_int sa_nil)) (so_var (pv 0)))) (ss_cons (ss_set sc__law_odd.nd rfl (by first | exact .inl rfl | exact .inr rfl) (by rfl) (so_lst (sa_cons so_non (sa_cons so_bl (sa_cons so_int (sa_cons so_str (sa_cons so_str (sa_cons so_str (sa_cons (so_frz (so_lst sa_nil)) (sa_cons (so_frd so_newK) (sa_cons (so_tup sa_nil) (sa_cons (so_tup (sa_cons so_non sa_nil)) (sa_cons (so_tup (sa_cons so_int sa_nil)) (sa_cons (so_tup (sa_cons so_str (sa_cons so_int sa_nil))) (sa_cons (so_tup (sa_cons so_str (sa_cons so_non sa_nil))) sa_nil))))))))))))))) (ss_cons (ss_set sc__law_odd.nd rfl (by first | exact .inl rfl | exact .inr rfl) (by rfl) (so_bin op_addA pr_add (so_var (pv 2)) (so_lst (sa_cons (so_tup (sa_cons (so_tup (sa_cons so_str sa_nil)) sa_nil)) (sa_cons (so_frz (so_lst (sa_cons so_str sa_nil))) (sa_cons (so_frz (so_lst (sa_cons so_str sa_nil))) (sa_cons (so_tup (sa_cons so_str sa_nil)) (sa_cons (so_tup (sa_cons so_str sa_nil)) (sa_cons (so_tup (sa_cons so_str (sa_cons so_int sa_nil))) (sa_cons (so_tup (sa_cons so_str (sa_cons so_int (sa_cons (so_var (pv 0)) sa_nil)))) sa_nil)))))))))) (ss_cons (ss_expr (so_mt md_app PySem.F.slot_list_append PySem.F.type_list_append mt_append (pv 2) (sa_cons (so_tup (sa_cons so_str (sa_cons (so_un un_neg pr_neg so_int) (sa_cons so_int sa_nil)))) sa_nil))) (ss_cons (ss_set sc__law_odd.nd rfl (by first | exact .inl rfl | exact .inr rfl) (by rfl) (so_bin op_addA pr_add (so_var (pv 2)) (so_lst (sa_cons (so_tup (sa_cons so_str (sa_cons (so_var (pv 0)) (sa_cons so_int sa_nil)))) (sa_cons (so_tup (sa_cons so_str (sa_cons so_bl (sa_cons so_int sa_nil)))) (sa_cons (so_tup (sa_cons so_str (sa_cons so_str (sa_cons so_int sa_nil)))) (sa_cons (so_tup (sa_cons so_str (sa_cons so_int (sa_cons so_non sa_nil)))) (sa_cons (so_tup (sa_cons so_str (sa_cons so_int (sa_cons so_int (sa_cons so_int sa_nil))))) sa_nil)))))))) (ss_cons (ss_set sc__law_odd.nd rfl (by first | exact .inl rfl | exact .inr rfl) (by rfl) (so_bin op_addA pr_add (so_var (pv 2)) (so_lst (sa_cons (so_tup (sa_cons so_str sa_nil)) (sa_cons (so_tup (sa_cons so_str (sa_cons (so_bin op_addA pr_add (so_var (pv 1)) (so_tup (sa_cons so_int sa_nil))) sa_nil))) (sa_cons (so_tup (sa_cons so_str (sa_cons (so_slice (so_var (pv 1)) (sp_some so_int) sp_none) sa_nil))) (sa_cons (so_tup (sa_cons so_str (sa_cons (so_frz (so_callTy call_list_of pr_list (by rfl) T.z_list bt_list (sa_cons (so_var (pv 1)) sa_nil))) sa_nil))) (sa_cons (so_tup (sa_cons so_str (sa_cons (so_var (pv 1)) (sa_cons so_int sa_nil)))) (sa_cons (so_tup (sa_cons so_str (sa_cons so_int sa_nil))) sa_nil))))))))) (ss_cons (ss_set sc__law_odd.nd rfl (by first | exact .inl rfl | exact .inr rfl) (by rfl) (so_bin op_addA pr_add (so_var (pv 2)) (so_lst (sa_cons (so_tup (sa_cons so_str (sa_cons (so_bin op_addA pr_add (so_tup (sa_cons so_int sa_nil)) (so_slice (so_var (pv 1)) (sp_some so_int) sp_none)) sa_nil))) (sa_cons (so_tup (sa_cons so_str (sa_cons (so_bin op_addA pr_add (so_tup (sa_cons so_bl sa_nil)) (so_slice (so_var (pv 1)) (sp_some so_int) sp_none)) sa_nil))) (sa_cons (so_tup (sa_cons so_str (sa_cons (so_bin op_addA pr_add (so_tup (sa_cons so_non sa_nil)) (so_slice (so_var (pv 1)) (sp_some so_int) sp_none)) sa_nil))) (sa_cons (so_tup (sa_cons so_str (sa_cons so_non sa_nil))) sa_nil))))))) (ss_one (ss_ret (so_bin op_addA pr_add (so_var (pv 2)) (so_lst (sa_cons (so_tup (sa_cons so_str (sa_cons (so_bin op_addA pr_add (so_slice (so_var (pv 1)) (sp_some so_int) sp_none) (so_tup (sa_cons so_str sa_nil))) sa_nil))) (sa_cons (so_tup (sa_cons so_str (sa_cons (so_bin op_addA pr_add (so_slice (so_var (pv 1)) (sp_some so_int) sp_none) (so_tup (sa_cons (so_un un_neg pr_neg so_int) sa_nil))) sa_nil))) (sa_cons (so_tup (sa_cons so_str sa_nil)) (sa_cons (so_tup (sa_cons so_str (sa_cons so_int (sa_cons so_int sa_nil)))) (sa_cons (so_tup (sa_cons (so_frz (so_lst sa_nil)) (sa_cons so_int (sa_cons so_int sa_nil)))) sa_nil)))))))))))))))))
theorem ok_law (T : Txt K mg) : FnOkG P w K mg base 6 T.a_law T.d_law ["_law_script"] (spF K 1 f_law) :=
  fn_simG T.F_law sc_law rfl rfl fun cdv A outer s H E hG hr => ((ss_cons (ss_for PassesOwn.never rfl (si_range1 (by rfl) T.z_range (sa_cons (so_callB (call_max2 rfl) pr_max2 (by rfl) T.z_max bt_max (sa_cons so_int (sa_cons (so_callB (call_min2 rfl) pr_min2 (by rfl) T.z_min bt_min (sa_cons so_int (sa_cons (so_callB cr_len pr_len (by rfl) T.z_len bt_len (sa_cons (so_var (pv 0)) sa_nil)) sa_nil))) sa_nil))) sa_nil)) (sg_name sc_law.nd rfl (by first | exact .inl rfl | exact .inr rfl) (by rfl))
  (ss_cons (ss_set sc_law.nd rfl (by first | exact .inl rfl | exact .inr rfl) (by rfl) (so_call (ok__law_left T) (hr.mono (by omega)) (by rfl) T.g__law_left T.F__law_left.kp T.b__law_left (sa_cons (so_var (pv 0)) (sa_cons (so_var (pv 1)) sa_nil)) (fun _ _ _ h => mkFn_len h))) (ss_cons (ss_set sc_law.nd rfl (by first | exact .inl rfl | exact .inr rfl) (by rfl) (so_call (ok__law_net T) (hr.mono (by omega)) (by rfl) T.g__law_net T.F__law_net.kp T.b__law_net (sa_cons (so_var (pv 2)) (sa_cons so_int sa_nil)) (fun _ _ _ h => mkFn_len h))) (ss_cons (ss_set sc_law.nd rfl (by first | exact .inl rfl | exact .inr rfl) (by rfl) (so_call (ok_bar T) (hr.mono (by omega)) (by rfl) T.g_bar T.F_bar.kp T.b_bar (sa_cons (so_var (pv 3)) sa_nil) (fun _ _ _ h => mkFn_len h))) (ss_cons (ss_if (st_w (sw_and (st_cmp op_isNotA pr_isnot (so_var (pv 4)) so_non (nomark _)) (sw_and1 (st_cmp op_isNotA pr_isnot (so_call (ok_shows_bar T) (hr.mono (by omega)) (by rfl) T.g_shows_bar T.F_shows_bar.kp T.b_shows_bar (sa_cons (so_var (pv 3)) (sa_cons (so_var (pv 4)) sa_nil)) (fun _ _ _ h => mkFn_len h)) so_bl (nomark _)))))
  (ss_one (ss_ret so_bl))
  ss_nil) (ss_cons (ss_set sc_law.nd rfl (by first | exact .inl rfl | exact .inr rfl) (by rfl) (so_call (ok__law_odd T) (hr.mono (by omega)) (by rfl) T.g__law_odd T.F__law_odd.kp T.b__law_odd (sa_cons (so_ix (so_var (pv 3)) so_int) sa_nil) (fun _ _ _ h => mkFn_len h))) (ss_cons (ss_if (st_cmp op_isNotA pr_isnot (so_var (pv 4)) so_non (nomark _))
  (ss_one (ss_set sc_law.nd rfl (by first | exact .inl rfl | exact .inr rfl) (by rfl) (so_bin op_addA pr_add (so_var (pv 5)) (so_lst (sa_cons (so_frz (so_callTy call_list_of pr_list (by rfl) T.z_list bt_list (sa_cons (so_var (pv 4)) sa_nil))) (sa_cons (so_tup (sa_cons (so_var (pv 4)) sa_nil)) (sa_cons (so_bin op_addA pr_add (so_var (pv 4)) (so_tup (sa_cons so_int sa_nil))) (sa_cons (so_bin op_addA pr_add (so_var (pv 4)) (so_slice (so_var (pv 4)) sp_none (sp_some so_int))) (sa_cons (so_frz (so_lst (sa_cons (so_var (pv 4)) sa_nil))) (sa_cons (so_slice (so_var (pv 4)) sp_none (sp_some so_int)) sa_nil))))))))))
  ss_nil) (ss_cons (ss_for PassesOwn.never rfl (si_seq (so_var (pv 5))) (sg_name sc_law.nd rfl (by first | exact .inl rfl | exact .inr rfl) (by rfl))
  (ss_cons (ss_set sc_law.nd rfl (by first | exact .inl rfl | exact .inr rfl) (by rfl) (so_callTy (call_strA hG hr.units) pr_strA (by rfl) T.z_str bt_str (sa_cons (so_var (pv 6)) sa_nil))) (ss_one (ss_if (st_w (sw_or (st_cmp op_isNotA pr_isnot (so_call (ok_shows_bar T) (hr.mono (by omega)) (by rfl) T.g_shows_bar T.F_shows_bar.kp T.b_shows_bar (sa_cons (so_var (pv 3)) (sa_cons (so_var (pv 6)) sa_nil)) (fun _ _ _ h => mkFn_len h)) so_bl (nomark _)) (sw_or1 (st_cmp (op_neD hr.units) pr_ne (so_callTy (call_strA hG hr.units) pr_strA (by rfl) T.z_str bt_str (sa_cons (so_var (pv 6)) sa_nil)) (so_var (pv 7)) (nomark _)))))
  (ss_one (ss_ret so_bl))
  ss_nil))) lkp_sub) (ss_one (ss_if (st_w (sw_and (st_cmp op_isNotA pr_isnot (so_var (pv 4)) so_non (nomark _)) (sw_and1 (st_cmp op_isNotA pr_isnot (so_call (ok_shows_bar T) (hr.mono (by omega)) (by rfl) T.g_shows_bar T.F_shows_bar.kp T.b_shows_bar (sa_cons (so_var (pv 3)) (sa_cons (so_var (pv 4)) sa_nil)) (fun _ _ _ h => mkFn_len h)) so_bl (nomark _)))))
  (ss_one (ss_ret so_bl))
  ss_nil))))))))) (fun _ h => h)) (ss_one (ss_ret so_bl))))
end
theorem all_mk {l : PySem.W.OpenLaw} {w : World} {K : PySem.W.Frag} {h : Heap} {mg : Str → Option Value} {fa f1 f2 f3 f4 f5 f6 f7 f8 f9 f10 f11 f12 f13 f14 f15 f16 f17 f18 f19 f20 f21 f22 f23 : Addr} (X : K.In h) (G : h.Ns mainGlobals mg) (hfa : mg "law" = some (.ref fa))
    {od1 an1 od2 an2 od3 an3 od4 an4 od5 an5 od6 an6 od7 an7 od8 an8 od9 an9 od10 an10 od11 an11 od12 an12 od13 an13 od14 an14 od15 an15 od16 an16 od17 an17 od18 an18 od19 an19 od20 an20 od21 an21 od22 an22 od23 an23 : Option Addr} {sl1 sl2 sl3 sl4 sl5 sl6 sl7 sl8 sl9 sl10 sl11 sl12 sl13 sl14 sl15 sl16 sl17 sl18 sl19 sl20 sl21 sl22 sl23 : Array (Option Value)} {oc1 kV1 dc1 pm1 cd1 ct1 oc2 kV2 dc2 pm2 cd2 ct2 oc3 kV3 dc3 pm3 cd3 ct3 oc4 kV4 dc4 pm4 cd4 ct4 oc5 kV5 dc5 pm5 cd5 ct5 oc6 kV6 dc6 pm6 cd6 ct6 oc7 kV7 dc7 pm7 cd7 ct7 oc8 kV8 dc8 pm8 cd8 ct8 oc9 kV9 dc9 pm9 cd9 ct9 oc10 kV10 dc10 pm10 cd10 ct10 oc11 kV11 dc11 pm11 cd11 ct11 oc12 kV12 dc12 pm12 cd12 ct12 oc13 kV13 dc13 pm13 cd13 ct13 oc14 kV14 dc14 pm14 cd14 ct14 oc15 kV15 dc15 pm15 cd15 ct15 oc16 kV16 dc16 pm16 cd16 ct16 oc17 kV17 dc17 pm17 cd17 ct17 oc18 kV18 dc18 pm18 cd18 ct18 oc19 kV19 dc19 pm19 cd19 ct19 oc20 kV20 dc20 pm20 cd20 ct20 oc21 kV21 dc21 pm21 cd21 ct21 oc22 kV22 dc22 pm22 cd22 ct22 oc23 kV23 dc23 pm23 cd23 ct23 : Value}
    (a1 : PySem.W.nsIn K mainGlobals "compared" = some (some (.ref f1))) (l1 : K.lookup f1 = some ⟨oc1, od1, .func (PySem.W.fnOf "compared" "compared" (defArgs s_compared) (defBody s_compared) (defScope s_compared) .none kV1 dc1 pm1 an1 cd1 ct1), sl1⟩) (c1 : PySem.W.codeIn K cd1 "compared" = true) (k1 : PySem.W.keepIn K (.ref f1) = true)
    (a2 : PySem.W.nsIn K mainGlobals "falls" = some (some (.ref f2))) (l2 : K.lookup f2 = some ⟨oc2, od2, .func (PySem.W.fnOf "falls" "falls" (defArgs s_falls) (defBody s_falls) (defScope s_falls) .none kV2 dc2 pm2 an2 cd2 ct2), sl2⟩) (c2 : PySem.W.codeIn K cd2 "falls" = true) (k2 : PySem.W.keepIn K (.ref f2) = true)
    (a3 : PySem.W.nsIn K mainGlobals "layers" = some (some (.ref f3))) (l3 : K.lookup f3 = some ⟨oc3, od3, .func (PySem.W.fnOf "layers" "layers" (defArgs s_layers) (defBody s_layers) (defScope s_layers) .none kV3 dc3 pm3 an3 cd3 ct3), sl3⟩) (c3 : PySem.W.codeIn K cd3 "layers" = true) (k3 : PySem.W.keepIn K (.ref f3) = true)
    (a4 : PySem.W.nsIn K mainGlobals "depth" = some (some (.ref f4))) (l4 : K.lookup f4 = some ⟨oc4, od4, .func (PySem.W.fnOf "depth" "depth" (defArgs s_depth) (defBody s_depth) (defScope s_depth) .none kV4 dc4 pm4 an4 cd4 ct4), sl4⟩) (c4 : PySem.W.codeIn K cd4 "depth" = true) (k4 : PySem.W.keepIn K (.ref f4) = true)
    (a5 : PySem.W.nsIn K mainGlobals "fork_totals" = some (some (.ref f5))) (l5 : K.lookup f5 = some ⟨oc5, od5, .func (PySem.W.fnOf "fork_totals" "fork_totals" (defArgs s_fork_totals) (defBody s_fork_totals) (defScope s_fork_totals) .none kV5 dc5 pm5 an5 cd5 ct5), sl5⟩) (c5 : PySem.W.codeIn K cd5 "fork_totals" = true) (k5 : PySem.W.keepIn K (.ref f5) = true)
    (a6 : PySem.W.nsIn K mainGlobals "ends_of" = some (some (.ref f6))) (l6 : K.lookup f6 = some ⟨oc6, od6, .func (PySem.W.fnOf "ends_of" "ends_of" (defArgs s_ends_of) (defBody s_ends_of) (defScope s_ends_of) .none kV6 dc6 pm6 an6 cd6 ct6), sl6⟩) (c6 : PySem.W.codeIn K cd6 "ends_of" = true) (k6 : PySem.W.keepIn K (.ref f6) = true)
    (a7 : PySem.W.nsIn K mainGlobals "shares" = some (some (.ref f7))) (l7 : K.lookup f7 = some ⟨oc7, od7, .func (PySem.W.fnOf "shares" "shares" (defArgs s_shares) (defBody s_shares) (defScope s_shares) .none kV7 dc7 pm7 an7 cd7 ct7), sl7⟩) (c7 : PySem.W.codeIn K cd7 "shares" = true) (k7 : PySem.W.keepIn K (.ref f7) = true)
    (a8 : PySem.W.nsIn K mainGlobals "least_depth" = some (some (.ref f8))) (l8 : K.lookup f8 = some ⟨oc8, od8, .func (PySem.W.fnOf "least_depth" "least_depth" (defArgs s_least_depth) (defBody s_least_depth) (defScope s_least_depth) .none kV8 dc8 pm8 an8 cd8 ct8), sl8⟩) (c8 : PySem.W.codeIn K cd8 "least_depth" = true) (k8 : PySem.W.keepIn K (.ref f8) = true)
    (a9 : PySem.W.nsIn K mainGlobals "is_shallow" = some (some (.ref f9))) (l9 : K.lookup f9 = some ⟨oc9, od9, .func (PySem.W.fnOf "is_shallow" "is_shallow" (defArgs s_is_shallow) (defBody s_is_shallow) (defScope s_is_shallow) .none kV9 dc9 pm9 an9 cd9 ct9), sl9⟩) (c9 : PySem.W.codeIn K cd9 "is_shallow" = true) (k9 : PySem.W.keepIn K (.ref f9) = true)
    (a10 : PySem.W.nsIn K mainGlobals "share_bar" = some (some (.ref f10))) (l10 : K.lookup f10 = some ⟨oc10, od10, .func (PySem.W.fnOf "share_bar" "share_bar" (defArgs s_share_bar) (defBody s_share_bar) (defScope s_share_bar) .none kV10 dc10 pm10 an10 cd10 ct10), sl10⟩) (c10 : PySem.W.codeIn K cd10 "share_bar" = true) (k10 : PySem.W.keepIn K (.ref f10) = true)
    (a11 : PySem.W.nsIn K mainGlobals "bits_of" = some (some (.ref f11))) (l11 : K.lookup f11 = some ⟨oc11, od11, .func (PySem.W.fnOf "bits_of" "bits_of" (defArgs s_bits_of) (defBody s_bits_of) (defScope s_bits_of) .none kV11 dc11 pm11 an11 cd11 ct11), sl11⟩) (c11 : PySem.W.codeIn K cd11 "bits_of" = true) (k11 : PySem.W.keepIn K (.ref f11) = true)
    (a12 : PySem.W.nsIn K mainGlobals "row_bar" = some (some (.ref f12))) (l12 : K.lookup f12 = some ⟨oc12, od12, .func (PySem.W.fnOf "row_bar" "row_bar" (defArgs s_row_bar) (defBody s_row_bar) (defScope s_row_bar) .none kV12 dc12 pm12 an12 cd12 ct12), sl12⟩) (c12 : PySem.W.codeIn K cd12 "row_bar" = true) (k12 : PySem.W.keepIn K (.ref f12) = true)
    (a13 : PySem.W.nsIn K mainGlobals "bar" = some (some (.ref f13))) (l13 : K.lookup f13 = some ⟨oc13, od13, .func (PySem.W.fnOf "bar" "bar" (defArgs s_bar) (defBody s_bar) (defScope s_bar) .none kV13 dc13 pm13 an13 cd13 ct13), sl13⟩) (c13 : PySem.W.codeIn K cd13 "bar" = true) (k13 : PySem.W.keepIn K (.ref f13) = true)
    (a14 : PySem.W.nsIn K mainGlobals "is_below" = some (some (.ref f14))) (l14 : K.lookup f14 = some ⟨oc14, od14, .func (PySem.W.fnOf "is_below" "is_below" (defArgs s_is_below) (defBody s_is_below) (defScope s_is_below) .none kV14 dc14 pm14 an14 cd14 ct14), sl14⟩) (c14 : PySem.W.codeIn K cd14 "is_below" = true) (k14 : PySem.W.keepIn K (.ref f14) = true)
    (a15 : PySem.W.nsIn K mainGlobals "is_share_bar" = some (some (.ref f15))) (l15 : K.lookup f15 = some ⟨oc15, od15, .func (PySem.W.fnOf "is_share_bar" "is_share_bar" (defArgs s_is_share_bar) (defBody s_is_share_bar) (defScope s_is_share_bar) .none kV15 dc15 pm15 an15 cd15 ct15), sl15⟩) (c15 : PySem.W.codeIn K cd15 "is_share_bar" = true) (k15 : PySem.W.keepIn K (.ref f15) = true)
    (a16 : PySem.W.nsIn K mainGlobals "is_row_bar" = some (some (.ref f16))) (l16 : K.lookup f16 = some ⟨oc16, od16, .func (PySem.W.fnOf "is_row_bar" "is_row_bar" (defArgs s_is_row_bar) (defBody s_is_row_bar) (defScope s_is_row_bar) .none kV16 dc16 pm16 an16 cd16 ct16), sl16⟩) (c16 : PySem.W.codeIn K cd16 "is_row_bar" = true) (k16 : PySem.W.keepIn K (.ref f16) = true)
    (a17 : PySem.W.nsIn K mainGlobals "shows_bar" = some (some (.ref f17))) (l17 : K.lookup f17 = some ⟨oc17, od17, .func (PySem.W.fnOf "shows_bar" "shows_bar" (defArgs s_shows_bar) (defBody s_shows_bar) (defScope s_shows_bar) .none kV17 dc17 pm17 an17 cd17 ct17), sl17⟩) (c17 : PySem.W.codeIn K cd17 "shows_bar" = true) (k17 : PySem.W.keepIn K (.ref f17) = true)
    (a18 : PySem.W.nsIn K mainGlobals "_law_cell_at" = some (some (.ref f18))) (l18 : K.lookup f18 = some ⟨oc18, od18, .func (PySem.W.fnOf "_law_cell_at" "_law_cell_at" (defArgs s__law_cell_at) (defBody s__law_cell_at) (defScope s__law_cell_at) .none kV18 dc18 pm18 an18 cd18 ct18), sl18⟩) (c18 : PySem.W.codeIn K cd18 "_law_cell_at" = true) (k18 : PySem.W.keepIn K (.ref f18) = true)
    (a19 : PySem.W.nsIn K mainGlobals "_law_left" = some (some (.ref f19))) (l19 : K.lookup f19 = some ⟨oc19, od19, .func (PySem.W.fnOf "_law_left" "_law_left" (defArgs s__law_left) (defBody s__law_left) (defScope s__law_left) .none kV19 dc19 pm19 an19 cd19 ct19), sl19⟩) (c19 : PySem.W.codeIn K cd19 "_law_left" = true) (k19 : PySem.W.keepIn K (.ref f19) = true)
    (a20 : PySem.W.nsIn K mainGlobals "_law_pick" = some (some (.ref f20))) (l20 : K.lookup f20 = some ⟨oc20, od20, .func (PySem.W.fnOf "_law_pick" "_law_pick" (defArgs s__law_pick) (defBody s__law_pick) (defScope s__law_pick) .none kV20 dc20 pm20 an20 cd20 ct20), sl20⟩) (c20 : PySem.W.codeIn K cd20 "_law_pick" = true) (k20 : PySem.W.keepIn K (.ref f20) = true)
    (a21 : PySem.W.nsIn K mainGlobals "_law_net" = some (some (.ref f21))) (l21 : K.lookup f21 = some ⟨oc21, od21, .func (PySem.W.fnOf "_law_net" "_law_net" (defArgs s__law_net) (defBody s__law_net) (defScope s__law_net) .none kV21 dc21 pm21 an21 cd21 ct21), sl21⟩) (c21 : PySem.W.codeIn K cd21 "_law_net" = true) (k21 : PySem.W.keepIn K (.ref f21) = true)
    (a22 : PySem.W.nsIn K mainGlobals "_law_odd" = some (some (.ref f22))) (l22 : K.lookup f22 = some ⟨oc22, od22, .func (PySem.W.fnOf "_law_odd" "_law_odd" (defArgs s__law_odd) (defBody s__law_odd) (defScope s__law_odd) .none kV22 dc22 pm22 an22 cd22 ct22), sl22⟩) (c22 : PySem.W.codeIn K cd22 "_law_odd" = true) (k22 : PySem.W.keepIn K (.ref f22) = true)
    (a23 : PySem.W.nsIn K mainGlobals "law" = some (some (.ref f23))) (l23 : K.lookup f23 = some ⟨oc23, od23, .func (PySem.W.fnOf "law" "law" (defArgs s_law) (defBody s_law) (defScope s_law) .none kV23 dc23 pm23 an23 cd23 ct23), sl23⟩) (c23 : PySem.W.codeIn K cd23 "law" = true) (k23 : PySem.W.keepIn K (.ref f23) = true)
    (z_all : PySem.W.nsIn K mainGlobals "all" = some none)
    (z_bool : PySem.W.nsIn K mainGlobals "bool" = some none)
    (z_enumerate : PySem.W.nsIn K mainGlobals "enumerate" = some none)
    (z_int : PySem.W.nsIn K mainGlobals "int" = some none)
    (z_isinstance : PySem.W.nsIn K mainGlobals "isinstance" = some none)
    (z_len : PySem.W.nsIn K mainGlobals "len" = some none)
    (z_list : PySem.W.nsIn K mainGlobals "list" = some none)
    (z_max : PySem.W.nsIn K mainGlobals "max" = some none)
    (z_min : PySem.W.nsIn K mainGlobals "min" = some none)
    (z_range : PySem.W.nsIn K mainGlobals "range" = some none)
    (z_sorted : PySem.W.nsIn K mainGlobals "sorted" = some none)
    (z_str : PySem.W.nsIn K mainGlobals "str" = some none)
    (z_tuple : PySem.W.nsIn K mainGlobals "tuple" = some none)
    (z_zip : PySem.W.nsIn K mainGlobals "zip" = some none)
    {t_LEAST_DEPTHS : Addr} {n_LEAST_DEPTHS : Nat} {h1_LEAST_DEPTHS h2_LEAST_DEPTHS h3_LEAST_DEPTHS h4_LEAST_DEPTHS h5_LEAST_DEPTHS : Int} {k1_LEAST_DEPTHS v1_LEAST_DEPTHS k2_LEAST_DEPTHS v2_LEAST_DEPTHS k3_LEAST_DEPTHS v3_LEAST_DEPTHS k4_LEAST_DEPTHS v4_LEAST_DEPTHS k5_LEAST_DEPTHS v5_LEAST_DEPTHS : Tok} (m_LEAST_DEPTHS : PySem.W.nsIn K mainGlobals "LEAST_DEPTHS" = some (some (.ref t_LEAST_DEPTHS))) (l_LEAST_DEPTHS : K.lookup t_LEAST_DEPTHS = some ⟨.type "dict", none, .dict #[⟨h1_LEAST_DEPTHS, .int 1 k1_LEAST_DEPTHS, .int 0 v1_LEAST_DEPTHS⟩, ⟨h2_LEAST_DEPTHS, .int 2 k2_LEAST_DEPTHS, .int 1 v2_LEAST_DEPTHS⟩, ⟨h3_LEAST_DEPTHS, .int 4 k3_LEAST_DEPTHS, .int 3 v3_LEAST_DEPTHS⟩, ⟨h4_LEAST_DEPTHS, .int 8 k4_LEAST_DEPTHS, .int 6 v4_LEAST_DEPTHS⟩, ⟨h5_LEAST_DEPTHS, .int 16 k5_LEAST_DEPTHS, .int 9 v5_LEAST_DEPTHS⟩] n_LEAST_DEPTHS, #[]⟩) (s_LEAST_DEPTHS : (t_LEAST_DEPTHS == sysModules) = false) (j_LEAST_DEPTHS : h1_LEAST_DEPTHS = hashInt 1 ∧ h2_LEAST_DEPTHS = hashInt 2 ∧ h3_LEAST_DEPTHS = hashInt 4 ∧ h4_LEAST_DEPTHS = hashInt 8 ∧ h5_LEAST_DEPTHS = hashInt 16)
    {t_MOST_LANES_OF_ROWS : Tok} (m_MOST_LANES_OF_ROWS : PySem.W.nsIn K mainGlobals "MOST_LANES_OF_ROWS" = some (some (.int 8 t_MOST_LANES_OF_ROWS)))
    (k_dig : PySem.W.nsIn K cStatics "sys.int_max_str_digits" = some none)
    : ∃ fd : FuncData, (∀ (s : Shared) (v : Value), BindsTo s fd ⟨[v], []⟩ [("_law_script", v)]) ∧ ∀ base : Heap, K.In base → base.Ns mainGlobals mg → FnOkG l.prog w K mg base 6 fa fd ["_law_script"] (spF K 1 f_law) := by
  have e := hfa.symm.trans (PySem.W.mg_of X G a23)
  have e2 : f23 = fa := by cases e; rfl
  subst e2
  have F1 := fun_mk (st := s_compared) l1 c1 k1
  have b1 := F1.binds (ps := ["net", "row"]) fun _ _ _ _ _ _ us hl => match us, hl with | [_, _], _ => rfl
  have F2 := fun_mk (st := s_falls) l2 c2 k2
  have b2 := F2.binds (ps := ["row"]) fun _ _ _ _ _ _ us hl => match us, hl with | [_], _ => rfl
  have F3 := fun_mk (st := s_layers) l3 c3 k3
  have b3 := F3.binds (ps := ["net"]) fun _ _ _ _ _ _ us hl => match us, hl with | [_], _ => rfl
  have F4 := fun_mk (st := s_depth) l4 c4 k4
  have b4 := F4.binds (ps := ["net"]) fun _ _ _ _ _ _ us hl => match us, hl with | [_], _ => rfl
  have F5 := fun_mk (st := s_fork_totals) l5 c5 k5
  have b5 := F5.binds (ps := ["net", "counts"]) fun _ _ _ _ _ _ us hl => match us, hl with | [_, _], _ => rfl
  have F6 := fun_mk (st := s_ends_of) l6 c6 k6
  have b6 := F6.binds (ps := ["net", "counts"]) fun _ _ _ _ _ _ us hl => match us, hl with | [_, _], _ => rfl
  have F7 := fun_mk (st := s_shares) l7 c7 k7
  have b7 := F7.binds (ps := ["net"]) fun _ _ _ _ _ _ us hl => match us, hl with | [_], _ => rfl
  have F8 := fun_mk (st := s_least_depth) l8 c8 k8
  have b8 := F8.binds (ps := ["lanes"]) fun _ _ _ _ _ _ us hl => match us, hl with | [_], _ => rfl
  have F9 := fun_mk (st := s_is_shallow) l9 c9 k9
  have b9 := F9.binds (ps := ["net"]) fun _ _ _ _ _ _ us hl => match us, hl with | [_], _ => rfl
  have F10 := fun_mk (st := s_share_bar) l10 c10 k10
  have b10 := F10.binds (ps := ["net"]) fun _ _ _ _ _ _ us hl => match us, hl with | [_], _ => rfl
  have F11 := fun_mk (st := s_bits_of) l11 c11 k11
  have b11 := F11.binds (ps := ["number", "many"]) fun _ _ _ _ _ _ us hl => match us, hl with | [_, _], _ => rfl
  have F12 := fun_mk (st := s_row_bar) l12 c12 k12
  have b12 := F12.binds (ps := ["net"]) fun _ _ _ _ _ _ us hl => match us, hl with | [_], _ => rfl
  have F13 := fun_mk (st := s_bar) l13 c13 k13
  have b13 := F13.binds (ps := ["net"]) fun _ _ _ _ _ _ us hl => match us, hl with | [_], _ => rfl
  have F14 := fun_mk (st := s_is_below) l14 c14 k14
  have b14 := F14.binds (ps := ["thing", "most"]) fun _ _ _ _ _ _ us hl => match us, hl with | [_, _], _ => rfl
  have F15 := fun_mk (st := s_is_share_bar) l15 c15 k15
  have b15 := F15.binds (ps := ["net", "rest"]) fun _ _ _ _ _ _ us hl => match us, hl with | [_, _], _ => rfl
  have F16 := fun_mk (st := s_is_row_bar) l16 c16 k16
  have b16 := F16.binds (ps := ["net", "rest"]) fun _ _ _ _ _ _ us hl => match us, hl with | [_, _], _ => rfl
  have F17 := fun_mk (st := s_shows_bar) l17 c17 k17
  have b17 := F17.binds (ps := ["net", "thing"]) fun _ _ _ _ _ _ us hl => match us, hl with | [_, _], _ => rfl
  have F18 := fun_mk (st := s__law_cell_at) l18 c18 k18
  have b18 := F18.binds (ps := ["_law_script", "_law_k"]) fun _ _ _ _ _ _ us hl => match us, hl with | [_, _], _ => rfl
  have F19 := fun_mk (st := s__law_left) l19 c19 k19
  have b19 := F19.binds (ps := ["_law_script", "_law_k"]) fun _ _ _ _ _ _ us hl => match us, hl with | [_, _], _ => rfl
  have F20 := fun_mk (st := s__law_pick) l20 c20 k20
  have b20 := F20.binds (ps := ["_law_left_here", "_law_many"]) fun _ _ _ _ _ _ us hl => match us, hl with | [_, _], _ => rfl
  have F21 := fun_mk (st := s__law_net) l21 c21 k21
  have b21 := F21.binds (ps := ["_law_left_here", "_law_most"]) fun _ _ _ _ _ _ us hl => match us, hl with | [_, _], _ => rfl
  have F22 := fun_mk (st := s__law_odd) l22 c22 k22
  have b22 := F22.binds (ps := ["_law_lanes"]) fun _ _ _ _ _ _ us hl => match us, hl with | [_], _ => rfl
  have F23 := fun_mk (st := s_law) l23 c23 k23
  have b23 := F23.binds (ps := ["_law_script"]) fun _ _ _ _ _ _ us hl => match us, hl with | [_], _ => rfl
  let T : Txt K mg := { a_compared := f1, d_compared := _, F_compared := F1, g_compared := PySem.W.mg_of X G a1, b_compared := b1, a_falls := f2, d_falls := _, F_falls := F2, g_falls := PySem.W.mg_of X G a2, b_falls := b2, a_layers := f3, d_layers := _, F_layers := F3, g_layers := PySem.W.mg_of X G a3, b_layers := b3, a_depth := f4, d_depth := _, F_depth := F4, g_depth := PySem.W.mg_of X G a4, b_depth := b4, a_fork_totals := f5, d_fork_totals := _, F_fork_totals := F5, g_fork_totals := PySem.W.mg_of X G a5, b_fork_totals := b5, a_ends_of := f6, d_ends_of := _, F_ends_of := F6, g_ends_of := PySem.W.mg_of X G a6, b_ends_of := b6, a_shares := f7, d_shares := _, F_shares := F7, g_shares := PySem.W.mg_of X G a7, b_shares := b7, a_least_depth := f8, d_least_depth := _, F_least_depth := F8, g_least_depth := PySem.W.mg_of X G a8, b_least_depth := b8, a_is_shallow := f9, d_is_shallow := _, F_is_shallow := F9, g_is_shallow := PySem.W.mg_of X G a9, b_is_shallow := b9, a_share_bar := f10, d_share_bar := _, F_share_bar := F10, g_share_bar := PySem.W.mg_of X G a10, b_share_bar := b10, a_bits_of := f11, d_bits_of := _, F_bits_of := F11, g_bits_of := PySem.W.mg_of X G a11, b_bits_of := b11, a_row_bar := f12, d_row_bar := _, F_row_bar := F12, g_row_bar := PySem.W.mg_of X G a12, b_row_bar := b12, a_bar := f13, d_bar := _, F_bar := F13, g_bar := PySem.W.mg_of X G a13, b_bar := b13, a_is_below := f14, d_is_below := _, F_is_below := F14, g_is_below := PySem.W.mg_of X G a14, b_is_below := b14, a_is_share_bar := f15, d_is_share_bar := _, F_is_share_bar := F15, g_is_share_bar := PySem.W.mg_of X G a15, b_is_share_bar := b15, a_is_row_bar := f16, d_is_row_bar := _, F_is_row_bar := F16, g_is_row_bar := PySem.W.mg_of X G a16, b_is_row_bar := b16, a_shows_bar := f17, d_shows_bar := _, F_shows_bar := F17, g_shows_bar := PySem.W.mg_of X G a17, b_shows_bar := b17, a__law_cell_at := f18, d__law_cell_at := _, F__law_cell_at := F18, g__law_cell_at := PySem.W.mg_of X G a18, b__law_cell_at := b18, a__law_left := f19, d__law_left := _, F__law_left := F19, g__law_left := PySem.W.mg_of X G a19, b__law_left := b19, a__law_pick := f20, d__law_pick := _, F__law_pick := F20, g__law_pick := PySem.W.mg_of X G a20, b__law_pick := b20, a__law_net := f21, d__law_net := _, F__law_net := F21, g__law_net := PySem.W.mg_of X G a21, b__law_net := b21, a__law_odd := f22, d__law_odd := _, F__law_odd := F22, g__law_odd := PySem.W.mg_of X G a22, b__law_odd := b22, a_law := f23, d_law := _, F_law := F23, g_law := PySem.W.mg_of X G a23, b_law := b23, z_all := PySem.W.mg_none_of X G z_all, z_bool := PySem.W.mg_none_of X G z_bool, z_enumerate := PySem.W.mg_none_of X G z_enumerate, z_int := PySem.W.mg_none_of X G z_int, z_isinstance := PySem.W.mg_none_of X G z_isinstance, z_len := PySem.W.mg_none_of X G z_len, z_list := PySem.W.mg_none_of X G z_list, z_max := PySem.W.mg_none_of X G z_max, z_min := PySem.W.mg_none_of X G z_min, z_range := PySem.W.mg_none_of X G z_range, z_sorted := PySem.W.mg_none_of X G z_sorted, z_str := PySem.W.mg_none_of X G z_str, z_tuple := PySem.W.mg_none_of X G z_tuple, z_zip := PySem.W.mg_none_of X G z_zip, t_LEAST_DEPTHS := t_LEAST_DEPTHS, m_LEAST_DEPTHS := PySem.W.mg_of X G m_LEAST_DEPTHS, i_LEAST_DEPTHS := (let ⟨h1, h2, h3, h4, h5⟩ := j_LEAST_DEPTHS; ⟨_, _, l_LEAST_DEPTHS, s_LEAST_DEPTHS, ⟨⟨h1, ⟨_, rfl⟩, _, rfl⟩, ⟨h2, ⟨_, rfl⟩, _, rfl⟩, ⟨h3, ⟨_, rfl⟩, _, rfl⟩, ⟨h4, ⟨_, rfl⟩, _, rfl⟩, ⟨h5, ⟨_, rfl⟩, _, rfl⟩, trivial⟩⟩), t_MOST_LANES_OF_ROWS := t_MOST_LANES_OF_ROWS, m_MOST_LANES_OF_ROWS := PySem.W.mg_of X G m_MOST_LANES_OF_ROWS, k_dig := k_dig }
  exact ⟨PySem.W.fnOf "law" "law" (defArgs s_law) (defBody s_law) (defScope s_law) .none kV23 dc23 pm23 an23 cd23 ct23, fun s v => .of_eq rfl, fun base _ _ => (ok_law T)⟩
end Sim

open PySem PySem.W PyProof.Rows in
set_option maxRecDepth 100000 in
set_option maxHeartbeats 0 in
theorem PySem.Challenge.cw_stairlanes_k72_bars_of_anything_holds : PySem.Challenge.rw_stairlanes_k72_bars_of_anything.Holds := by
  w_on; o_law; k_head; (case hw => w_witness2)
  k_fill
  refine Sim.walk_ofG (l := PySem.Challenge.rw_stairlanes_k72_bars_of_anything) (n := 63) (k := 6) (x := "_law_script") (sp := fun K => Sim.spF K 1 Sim.f_law) rfl (by decide) rfl ⟨rfl, by decide, by decide⟩ (fun w h Y => PySem.W.kIn_of Y) ?F (fun K H a ns h1 h2 h3 => Sim.spF_law Sim.law_holds K H a ns h1 h2 h3)
  case F =>
    intro w mg fa h KX G hmg
    refine' Sim.all_mk KX G hmg ?a1 ?l1 ?c1 ?k1 ?a2 ?l2 ?c2 ?k2 ?a3 ?l3 ?c3 ?k3 ?a4 ?l4 ?c4 ?k4 ?a5 ?l5 ?c5 ?k5 ?a6 ?l6 ?c6 ?k6 ?a7 ?l7 ?c7 ?k7 ?a8 ?l8 ?c8 ?k8 ?a9 ?l9 ?c9 ?k9 ?a10 ?l10 ?c10 ?k10 ?a11 ?l11 ?c11 ?k11 ?a12 ?l12 ?c12 ?k12 ?a13 ?l13 ?c13 ?k13 ?a14 ?l14 ?c14 ?k14 ?a15 ?l15 ?c15 ?k15 ?a16 ?l16 ?c16 ?k16 ?a17 ?l17 ?c17 ?k17 ?a18 ?l18 ?c18 ?k18 ?a19 ?l19 ?c19 ?k19 ?a20 ?l20 ?c20 ?k20 ?a21 ?l21 ?c21 ?k21 ?a22 ?l22 ?c22 ?k22 ?a23 ?l23 ?c23 ?k23 ?z_all ?z_bool ?z_enumerate ?z_int ?z_isinstance ?z_len ?z_list ?z_max ?z_min ?z_range ?z_sorted ?z_str ?z_tuple ?z_zip ?m_LEAST_DEPTHS ?l_LEAST_DEPTHS ?s_LEAST_DEPTHS ?j_LEAST_DEPTHS ?m_MOST_LANES_OF_ROWS ?k_dig
    (case a1 => k_is); (case l1 => k_is); (case c1 => k_is); (case k1 => k_is); (case a2 => k_is); (case l2 => k_is); (case c2 => k_is); (case k2 => k_is); (case a3 => k_is); (case l3 => k_is); (case c3 => k_is); (case k3 => k_is); (case a4 => k_is); (case l4 => k_is); (case c4 => k_is); (case k4 => k_is); (case a5 => k_is); (case l5 => k_is); (case c5 => k_is); (case k5 => k_is); (case a6 => k_is); (case l6 => k_is); (case c6 => k_is); (case k6 => k_is); (case a7 => k_is); (case l7 => k_is); (case c7 => k_is); (case k7 => k_is); (case a8 => k_is); (case l8 => k_is); (case c8 => k_is); (case k8 => k_is); (case a9 => k_is); (case l9 => k_is); (case c9 => k_is); (case k9 => k_is); (case a10 => k_is); (case l10 => k_is); (case c10 => k_is); (case k10 => k_is); (case a11 => k_is); (case l11 => k_is); (case c11 => k_is); (case k11 => k_is); (case a12 => k_is); (case l12 => k_is); (case c12 => k_is); (case k12 => k_is); (case a13 => k_is); (case l13 => k_is); (case c13 => k_is); (case k13 => k_is); (case a14 => k_is); (case l14 => k_is); (case c14 => k_is); (case k14 => k_is); (case a15 => k_is); (case l15 => k_is); (case c15 => k_is); (case k15 => k_is); (case a16 => k_is); (case l16 => k_is); (case c16 => k_is); (case k16 => k_is); (case a17 => k_is); (case l17 => k_is); (case c17 => k_is); (case k17 => k_is); (case a18 => k_is); (case l18 => k_is); (case c18 => k_is); (case k18 => k_is); (case a19 => k_is); (case l19 => k_is); (case c19 => k_is); (case k19 => k_is); (case a20 => k_is); (case l20 => k_is); (case c20 => k_is); (case k20 => k_is); (case a21 => k_is); (case l21 => k_is); (case c21 => k_is); (case k21 => k_is); (case a22 => k_is); (case l22 => k_is); (case c22 => k_is); (case k22 => k_is); (case a23 => k_is); (case l23 => k_is); (case c23 => k_is); (case k23 => k_is); (case z_all => k_is); (case z_bool => k_is); (case z_enumerate => k_is); (case z_int => k_is); (case z_isinstance => k_is); (case z_len => k_is); (case z_list => k_is); (case z_max => k_is); (case z_min => k_is); (case z_range => k_is); (case z_sorted => k_is); (case z_str => k_is); (case z_tuple => k_is); (case z_zip => k_is); (case m_LEAST_DEPTHS => k_is); (case l_LEAST_DEPTHS => k_is); (case s_LEAST_DEPTHS => first | k_is | decide +kernel | rfl); (case j_LEAST_DEPTHS => first | k_is | decide +kernel | rfl); (case m_MOST_LANES_OF_ROWS => k_is); (case k_dig => k_is)
