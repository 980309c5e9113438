import PyProof.Rows.All
import Wide.All
import OpenK.AllK
import Wide.FinOn
import HandS.ForMost
import HandS.TupAny
import HandS.TupMul
import HandS.Wide
import HandS.WideBits
import KE.KDictKeyed
import KE.KeyNested
import HandS.Lambda
import HandS.TupLe
import HandS.IsInst
import HandS.Deep
import HandS.SortInts
import HandS.NoneIn
import HandS.Walk
import HandS.Zip
import KE.GoesEnum
import KE.KTupSum
import PyProof.MinMaxWalk
import KE.KEqSeq
import HandS.Conv
import HandS.Style
import PyProof.Rows.SortShell
import PyProof.SeqIndex
import HandS.More
import PyProof.EqAt
import KE.KIntText
import KE.GoesZip
import KE.KDictZip
import KE.LtSeq
import KE.KSortTup
import HandS.SortRule
import HandS.ExcValue
import PyProof.ListNew
import HandS.SetFor
import PyProof.ReprLen
import HandS.Iter
import HandS.Dict
import KE.DataMinMax
import KE.KDictWalk
import KE.KDictPairs
import PyProof.Rows.SeqRoads
import PyProof.Rows.SeqItemCall
import KE.KDictSum
import KE.KDictItemsList
import PyProof.DictItems
import KE.KDictCopyH
import KE.KEqDict
import KE.KDictDisplayH
import KE.DataCmp
import HandS.WordsDict
import PyProof.DictUpdate
import HandS.RaiseMore
import PyProof.CallStr
import PyProof.FString2
import HandS.Flow
import KE.KNest
import HandS.EndTab
import HandS.Call
import PyProof.ReprRoads
import PyProof.AutoSeq1
import HandS.Spec
import HandS.ExcOwn
import HandS.TryOnly
import HandS.WordsExc
import PyProof.DictWalks
import HandS.Text
import HandS.Sort
import HandS.ExcInit
import HandS.ExcField
import HandS.ExcIs
import KE.KIsAll
import KE.KExcIs
import KE.BitLaws
import PySem.Challenge.RW_stairlanes_k76_texts_of_no_counts
set_option Elab.async false
set_option linter.all false
set_option maxRecDepth 100000
set_option autoImplicit false
set_option maxHeartbeats 4000000
set_option exponentiation.threshold 20000
namespace Sim
open PySem PySem.Spec L2
open AutoSeq1 (wpAny_loadPart')
def SqD (K : PySem.W.Frag) (H : Hp) (a : Addr) (xs : List V) : Prop :=
  (∃ o : Obj, H a = some (.frz o (.tup xs)) ∧ o.dict = none) ∨
    ∃ (o : Obj) (its : Array Value) (n : Nat), K.lookup a = some o ∧ o.cls = .type "tuple" ∧ o.dict = none ∧ o.data = .seq its n ∧ its.size ≤ sizeLine ∧ Vals xs its.toList
theorem SqD.sq {K : PySem.W.Frag} {H : Hp} {a : Addr} {xs : List V} (h : SqD K H a xs) : SqT K H a xs := by
  rcases h with ⟨o, h, _⟩ | ⟨o, its, n, h1, h2, _, h3, h4, h5⟩
  · exact .inl (.inr ⟨o, h⟩)
  · exact .inr ⟨o, its, n, h1, h2, h3, h4, h5⟩
theorem SqD.of {K : PySem.W.Frag} {H : Hp} {a : Addr} {o : Obj} {xs : List V} (h : H a = some (.frz o (.tup xs))) (n : o.dict = none) : SqD K H a xs := .inl ⟨o, h, n⟩
/-- a new tuple -/
def rNewT (xs : List V) (H : Hp) (Q : VK) : Prop := ∀ p o, H p = none → o.dict = none → Q (.ref p) (upd H p (.frz o (.tup xs)))
section
variable {X : Cx} {pins : List (Addr × Obj)} {σ : St} {H : Hp} {s : Shared} {xs : List V} {its : List Value} {Q : VK}
theorem lay_tup {t' : Nat} (I : Inv X pins σ H s) (r : Vals xs its) (z : xs.length ≤ sizeLine) (q : rNewT xs H Q) :
    EP X pins σ Q (.ref s.heap.objs.size) { s with heap := s.heap.push { cls := .type "tuple", data := .seq its.toArray }, toks := t' } := by
  have e : (s.heap.push { cls := .type "tuple", data := .seq its.toArray }).get? s.heap.objs.size = some { cls := .type "tuple", data := .seq its.toArray } := Heap.get?_push_size _ rfl
  refine ⟨.ref s.heap.objs.size, _, I.laid (t' := t') (o := .frz { cls := .type "tuple", data := .seq its.toArray } (.tup xs)) (fun b ob q => Heap.get?_push_of_some _ q) (Nat.le_refl _) ⟨e, z, its, r, ⟨_, e, rfl, _, rfl⟩⟩, rfl, q _ _ (I.hok.fresh (Nat.le_refl _)) rfl⟩
def tTupD (t : TA) : TE := fun σ H Q => t σ H fun xs H1 => xs.length ≤ sizeLine ∧ rNewT xs H1 Q
theorem pe_tupD {es : List Expr} {t : TA} {pos : Pos} {x1 : Nat} (h : PA X es t) : PE X (.Tuple es x1 pos) (tTupD t) := by
  refine ⟨fun pins s σ H Q I hq => ?_⟩
  exact wpAny_Tuple_spliced (thn (h.run pos pins s σ H _ I hq) fun us s1 ⟨xs, H1, I1, r, z, q⟩ => ⟨by rw [← r.length]; exact z, lay_tup (t' := s1.toks) I1 r z q⟩)
theorem call_tuple_ofD : CallR X (.type "tuple") (fun xs H Q => ∃ p ys, xs = [.ref p] ∧ ((SqL X.K H p ys ∧ rNewT ys H Q) ∨ (SqT X.K H p ys ∧ Q (.ref p) H))) := by
  intro pins s σ H xs us Q I r h
  obtain ⟨p, ys, rfl, h⟩ := h
  obtain ⟨u, rfl, rx⟩ := vals1 r
  cases rx
  rcases h with ⟨hq, q⟩ | ⟨hq, q⟩
  · obtain ⟨its, r', pl, hz⟩ := I.list hq
    have hlen := r'.length
    refine call_tuple_list pl.isList (fun h' kp => ?_) (by simp only [List.size_toArray] <;> omega)
    have I1 : Inv X pins σ H { s with heap := h' } := I.kept (t' := s.toks) kp
    exact lay_tup (t' := s.toks) I1 r' hz q
  · obtain ⟨its, r', pl, hz⟩ := I.tuple hq
    exact call_tuple_same pl ⟨.ref p, H, I, rfl, q⟩
def rSlD (K : PySem.W.Frag) : V → Option Int → Option Int → Hp → VK → Prop := fun x lo hi H Q => ∃ a xs, x = .ref a ∧ SqT K H a xs ∧
  (HT.sIx xs.length 0 lo = 0 ∧ HT.sIx xs.length xs.length hi = xs.length → Q (.ref a) H) ∧ (¬ (HT.sIx xs.length 0 lo = 0 ∧ HT.sIx xs.length xs.length hi = xs.length) → rNewT (cutV xs lo hi) H Q)
theorem sl_tupD : SlR X (rSlD X.K) := by
  intro pins s σ H x v vl vu lo hi sl Q I rx hs pl pu h
  obtain ⟨a, xs, rfl, hx, q1, q2⟩ := h
  cases rx
  obtain ⟨its, r, ht, hz⟩ := I.tuple hx
  have hlen : its.toArray.size = xs.length := by rw [List.size_toArray]; exact r.length.symm
  refine ⟨"tuple", _, PyProof.Rows.slot_tuple_getitem.lookup, ht.typeIs, ?_⟩
  by_cases hw : HT.sIx xs.length 0 lo = 0 ∧ HT.sIx xs.length xs.length hi = xs.length
  · exact getItem_tuple_whole ht hs pl pu (by rw [hlen]; exact hw) ⟨.ref a, H, I, rfl, q1 hw⟩
  · refine HT.getItem_tuple_cut ht hs pl pu (by rw [hlen]; exact hw) ?_ (by rw [hlen]; exact hz)
    rw [hlen]
    exact lay_tup (t' := s.toks) I ((r.drop (HT.sIx xs.length 0 lo)).take (HT.sIx xs.length xs.length hi - HT.sIx xs.length 0 lo)) (Nat.le_trans (cutV_length xs lo hi) hz) (q2 hw)
def rCatD (K : PySem.W.Frag) : R2 := fun x y H Q => ∃ a b xs ys, x = .ref a ∧ y = .ref b ∧ SqT K H a xs ∧ SqT K H b ys ∧ xs.length + ys.length ≤ sizeLine ∧
  (xs = [] → Q (.ref b) H) ∧ (xs ≠ [] → ys = [] → Q (.ref a) H) ∧ (xs ≠ [] → ys ≠ [] → rNewT (xs ++ ys) H Q)
theorem op_catD : OpR X (binaryOp .Add) (rCatD X.K) := by
  intro pins s σ H x y v u Q I rx ry h
  obtain ⟨a, b, xs, ys, rfl, rfl, ha, hb, hz, q0, q1, q2⟩ := h
  cases rx
  cases ry
  obtain ⟨its, r1, p1, _⟩ := I.tuple ha
  obtain ⟨its2, r2, p2, _⟩ := I.tuple hb
  by_cases hx : xs = []
  · subst hx
    cases r1
    exact cat_tup0 p1 p2 ⟨.ref b, H, I, rfl, q0 rfl⟩
  · refine HT.cat_tup p1 p2 (fun z => hx (r1.nil_iff.mp z)) (fun z => ⟨.ref a, H, I, rfl, q1 hx (r2.nil_iff.mp z)⟩) (fun z => ?_) (by rw [← r1.length, ← r2.length]; exact hz)
    exact lay_tup (t' := s.toks) I (r1.append r2) (by rw [List.length_append]; exact hz) (q2 hx fun w => z (r2.nil_iff.mpr w))
theorem tuple_mulS (l : Addr) (items : Array Value) (n : Nat) (dd : Option Addr) (sl : Array (Option Value)) (x : Int) (u : Tok) (c0 : (decide (x < -(2 ^ 63)) || decide (x ≥ 2 ^ 63)) = false) (c1 : (items.isEmpty || x == 1) = true) :
    Meets (Builtin.«tuple.__mul__» ⟨[.ref l, .int x u], []⟩) (fun _ R s => s.heap.get? l = some { cls := .type "tuple", dict := dd, data := .seq items n, slots := sl } ∧ R (.ok (.ret (Value.ref l))) s) :=
  .of_wp fun prog w A R s h => by
    obtain ⟨hp, g, d, tk, os⟩ := s
    obtain ⟨hl, h⟩ := h
    have f1 := AutoSeq1.idx_int
    wp_walk using wpAny_loadPart' hl
    repeat (first
      | (refine wpAny_ite_false (decide_eq_false (by rw [c0]; exact Bool.false_ne_true)) ?_; wp_walk using wpAny_loadPart' hl)
      | (refine wpAny_ite_true (decide_eq_true (by rw [c1])) ?_; wp_walk using wpAny_loadPart' hl))
    exact ⟨_, rfl, h⟩
theorem tuple_mul0 (l : Addr) (items : Array Value) (n : Nat) (dd : Option Addr) (sl : Array (Option Value)) (x : Int) (u : Tok) (c0 : (decide (x < -(2 ^ 63)) || decide (x ≥ 2 ^ 63)) = false) (c1 : (items.isEmpty || x == 1) = false) (c2 : (decide (x ≤ 0) || items.isEmpty) = true) :
    Meets (Builtin.«tuple.__mul__» ⟨[.ref l, .int x u], []⟩) (fun _ R s => s.heap.get? l = some { cls := .type "tuple", dict := dd, data := .seq items n, slots := sl } ∧
      R (.ok (.ret (Value.ref s.heap.objs.size))) { s with heap := s.heap.push { cls := Value.type "tuple", data := Data.seq #[] }, toks := s.toks }) :=
  .of_wp fun prog w A R s h => by
    obtain ⟨hp, g, d, tk, os⟩ := s
    obtain ⟨hl, h⟩ := h
    have f1 := AutoSeq1.idx_int
    wp_walk using wpAny_loadPart' hl
    repeat (first
      | (refine wpAny_ite_false (decide_eq_false (by rw [c0]; exact Bool.false_ne_true)) ?_; wp_walk using wpAny_loadPart' hl)
      | (refine wpAny_ite_false (decide_eq_false (by rw [c1]; exact Bool.false_ne_true)) ?_; wp_walk using wpAny_loadPart' hl)
      | (refine wpAny_ite_true (decide_eq_true (by rw [c2])) ?_; wp_walk using wpAny_loadPart' hl)
      | (refine wpAny_ite_false (decide_eq_false (by decide)) ?_; wp_walk using wpAny_loadPart' hl))
    exact ⟨_, rfl, h⟩
def rRepD (K : PySem.W.Frag) : R2 := fun x y H Q => ∃ l k xs, x = .ref l ∧ y = .int k ∧ SqT K H l xs ∧ -1000 ≤ k ∧ k ≤ 1000 ∧ xs.length ≤ 1000 ∧
  (xs = [] ∨ k = 1 → Q (.ref l) H) ∧ (xs ≠ [] → k ≠ 1 → rNewT (List.replicate k.toNat xs).flatten H Q)
theorem op_repD : OpR X (binaryOp .Mult) (rRepD X.K) := by
  intro pins s σ H x y v u Q I rx ry h
  obtain ⟨l, k, xs, rfl, rfl, hT, h1, h2, hz, q1, q2⟩ := h
  cases rx
  obtain ⟨t, rfl⟩ := ry
  obtain ⟨its, r, ⟨⟨cls, dd, data, sl⟩, ho, hc, n, hd⟩, hs⟩ := I.tuple hT
  simp only at hc hd
  subst hc hd
  have hle : its.length = xs.length := r.length.symm
  have hsz0 : its.toArray.size = xs.length := by rw [List.size_toArray, hle]
  have hm : ((its.toArray.size : Nat) : Int) * k ≤ 1000000 := by
    rw [hsz0]
    rcases Int.lt_or_le k 0 with hk | hk
    · have : ((xs.length : Nat) : Int) * k ≤ 0 := Int.mul_nonpos_of_nonneg_of_nonpos (by omega) (by omega)
      omega
    · have a1 : ((xs.length : Nat) : Int) * k ≤ 1000 * k := Int.mul_le_mul_of_nonneg_right (by omega) (by omega)
      omega
  have flen : (List.replicate k.toNat its).flatten.length ≤ 1000000 := by
    rw [PyProof.Rows.lm_len_rep_flat, hle]
    have a1 : k.toNat * xs.length ≤ 1000 * 1000 := Nat.mul_le_mul (by omega) hz
    omega
  have flen2 : (List.replicate k.toNat xs).flatten.length ≤ sizeLine := by
    rw [PyProof.Rows.lm_len_rep_flat, sizeLine_eq]
    have a1 : k.toNat * xs.length ≤ 1000 * 1000 := Nat.mul_le_mul (by omega) hz
    omega
  have c0 : (decide (k < -(2 ^ 63)) || decide (k ≥ 2 ^ 63)) = false := by
    rw [decide_eq_false (by omega), decide_eq_false (by omega)] <;> rfl
  have go : ∀ {Q' : Value → Shared → Prop}, wpAny (model X.prog X.w) (X.A) (call (.builtin "tuple.__mul__") [.ref l, .int k t]) Q' X.xe s → wpAny (model X.prog X.w) X.A (binaryOp .Mult (.ref l) (.int k t)) Q' X.xe s := fun {Q'} z =>
    wpAny_binaryOp_repeat_ref (T := "tuple") (U := "int") (by decide) ⟨_, ho, rfl⟩ (fun s' => typeIs_int s' k t) noFill_tuple_mul F.fills_int_mul F.slot_int_rmul repeat_tuple F.slot_int_index.lookup
      (call_meets F.slot_int_rmul (typeIs_int s k t) F.entry_int_rmul (F.args_int_rmul_2 _ _) (int_rmul_tuple k t l its.toArray n dd sl) ⟨ho, rfl, ⟨_, ho, rfl⟩, z⟩)
  refine go ?_
  cases c1 : (its.toArray.isEmpty || k == 1) with
  | true =>
    refine call_meets F.slot_tuple_mul ⟨_, ho, rfl⟩ F.entry_tuple_mul (F.args_tuple_mul_2 _ _) (tuple_mulS l its.toArray n dd sl k t c0 c1) ⟨ho, .ref l, H, I, rfl, q1 ?_⟩
    rw [Bool.or_eq_true] at c1
    rcases c1 with z | z
    · left
      have : its.length = 0 := by
        cases its with
        | nil => rfl
        | cons a b => simp at z
      exact List.eq_nil_of_length_eq_zero (by omega)
    · right
      exact eq_of_beq z
  | false =>
    have c1' := c1
    rw [Bool.or_eq_false_iff] at c1'
    have hne : xs ≠ [] := fun e => by
      subst e
      cases r
      simp at c1'
    have hk1 : k ≠ 1 := fun e => by rw [e] at c1'; simp at c1'
    cases c2 : (decide (k ≤ 0) || its.toArray.isEmpty) with
    | true =>
      refine call_meets F.slot_tuple_mul ⟨_, ho, rfl⟩ F.entry_tuple_mul (F.args_tuple_mul_2 _ _) (tuple_mul0 l its.toArray n dd sl k t c0 c1 c2) ⟨ho, ?_⟩
      rw [c1'.1, Bool.or_false] at c2
      have hk : k.toNat = 0 := by have := of_decide_eq_true c2; omega
      have e0 : (List.replicate k.toNat xs).flatten = [] := by rw [hk]; rfl
      have q3 := q2 hne hk1
      rw [e0] at q3
      exact lay_tup (t' := s.toks) I (its := []) .nil (Nat.zero_le _) q3
    | false =>
      have c4 : Builtin.Tuple.tupleTooMany (((its.toArray.size : Nat) : Int) * k) = false := by
        unfold Builtin.Tuple.tupleTooMany
        rw [sizeLine_eq]
        exact decide_eq_false (by omega)
      refine call_meets F.slot_tuple_mul ⟨_, ho, rfl⟩ F.entry_tuple_mul (F.args_tuple_mul_2 _ _) (tuple_mulW l its.toArray n dd sl k t c0 c1 c2 (by omega) c4 (by rw [size_rep, List.size_toArray, sizeLine_eq]; omega)) ⟨ho, ?_⟩
      rw [size_rep]
      exact lay_tup (t' := s.toks) I (r.rep k.toNat) flen2 (q2 hne hk1)
end
end Sim
namespace Sim
open PySem PySem.Spec L2
abbrev D := PyData
abbrev Sg := List (Option D)
/-- an outcome -/
inductive Res (α : Type) where
  | ok (a : α) (s : Sg)
  | exc (c : Str) (v : D) (s : Sg)
  | bad
def Res.bind {α β : Type} (m : Res α) (k : α → Sg → Res β) : Res β :=
  match m with
  | .ok a s => k a s
  | .exc c v s => .exc c v s
  | .bad => .bad
theorem bind_ok {α β : Type} (a : α) (s : Sg) (k : α → Sg → Res β) : (Res.ok a s).bind k = k a s := rfl
theorem bind_inv {α β : Type} {m : Res α} {k : α → Sg → Res β} {b : β} {s : Sg} (h : m.bind k = .ok b s) : ∃ a s1, m = .ok a s1 ∧ k a s1 = .ok b s := by
  cases m with
  | ok a s1 => exact ⟨a, s1, rfl, h⟩
  | exc c v s1 => cases h
  | bad => cases h
/-- an operand: a value, or what a slot holds -/
inductive Rf where
  | val (d : D)
  | slot (i : Nat)
def rd (r : Rf) (s : Sg) : Option D :=
  match r with
  | .val d => some d
  | .slot i => (s[i]?).join
def rds : List Rf → Sg → Option (List D)
  | [], _ => some []
  | r :: rs, s => match rd r s with
    | none => none
    | some d => match rds rs s with
      | none => none
      | some ds => some (d :: ds)
abbrev O := Sg → Res Rf
abbrev AL := Sg → Res (List Rf)
abbrev T := Sg → Res Bool
inductive Fl where
  | nx | rt (d : D) | bk | ct
abbrev S := Sg → Res Fl
/-- a list that never changes is told so -/
def frzT : List (D × D) → Bool
  | [(.none, .list _)] => true
  | [(.none, .dict _)] => true
  | _ => false
mutual
/-- no list that may change, no object within -/
def pur : D → Bool
  | .list _ => false
  | .dict kvs => frzT kvs
  | .tuple xs => purs xs
  | .none => true
  | .bool _ => true
  | .int _ => true
  | .str _ => true
def purs : List D → Bool
  | [] => true
  | x :: xs => pur x && purs xs
end
mutual
/-- nothing told by a dict within -/
def noD : D → Bool
  | .list xs => noDs xs
  | .dict _ => false
  | .tuple xs => noDs xs
  | .none => true
  | .bool _ => true
  | .int _ => true
  | .str _ => true
def noDs : List D → Bool
  | [] => true
  | x :: xs => noD x && noDs xs
end
/-- a list that never changes -/
def SqF (K : PySem.W.Frag) (H : Hp) (a : Addr) (xs : List V) : Prop :=
  (∃ o, H a = some (.frz o (.lst xs))) ∨
    ∃ (o : Obj) (its : Array Value) (n : Nat), K.lookup a = some o ∧ o.cls = .type "list" ∧ o.dict = none ∧ o.data = .seq its n ∧ its.size ≤ sizeLine ∧ Vals xs its.toList
theorem SqF.sq {K : PySem.W.Frag} {H : Hp} {a : Addr} {xs : List V} (h : SqF K H a xs) : SqL K H a xs := by
  rcases h with h | h
  · exact .inl (.inr h)
  · exact .inr h
/-- the entries of a dict whose keys are tuples, as they stand in its object -/
def RawO (a : Addr) (es : List (NestedKey × Addr × V)) (o : Obj) : HO := .ext fun h => es.length ≤ sizeLine ∧ (a == sysModules) = false ∧ (es.map (·.1)).Nodup ∧ h.get? a = some o ∧
  ∃ (ents : Array DictEntry) (ep : Nat), o.ExactDict ∧ o.data = .dict ents ep ∧
    Paired (fun (p : NestedKey × Addr × V) (e : DictEntry) => (∀ w, e.hash = p.1.hash w) ∧ e.key = .ref p.2.1 ∧ RelV p.2.2 e.val) es ents.toList
/-- an object that may change: a list, a dict, an instance -/
inductive MO
  | lst (xs : List V)
  | dct (kvs : List (Key × V))
  | dcn (a : Addr) (es : List (NestedKey × Addr × V)) (o : Obj)
  | ins (C dx : Addr) (fs : List (Str × V))
  | frk (o : Obj) (kvs : List (Key × V))
  | frn (a : Addr) (es : List (NestedKey × Addr × V)) (od o : Obj)
  | xd (fs : List (Str × V))
def MO.ho : MO → HO
  | .lst xs => .lst xs
  | .dct kvs => .dK kvs
  | .dcn a es o => RawO a es o
  | .ins C dx fs => .ins C dx fs
  | .frk o kvs => .frz o (.dK kvs)
  | .frn a es od o => .frz o (RawO a es od)
  | .xd fs => .xd fs
def isMut : HO → Bool
  | .lst _ => true
  | .dK _ => true
  | .ins _ _ _ => true
  | .ext _ => true
  | .tbl _ => true
  | _ => false
def isTbl : HO → Bool
  | .tbl _ => true
  | _ => false
theorem MO.ntb (m : MO) : isTbl m.ho = false := by cases m <;> rfl
/-- no object of ours is a code object -/
theorem MO.nco (m : MO) (c : Addr) (q : Str) : m.ho ≠ LamX.CodeO c q := by
  cases m with
  | lst _ => intro z; cases z
  | xd _ => intro z; cases z
  | dct _ => intro z; cases z
  | ins _ _ _ => intro z; cases z
  | frk _ _ => intro z; cases z
  | frn _ _ _ _ => intro z; cases z
  | dcn a es o =>
    intro z
    have e := HO.ext.inj z
    let h0 : Heap := { objs := Array.replicate (c + 1) { cls := .none, data := .fields #[.none, .str q 0] } }
    have hc : h0.get? c = some { cls := .none, data := .fields #[.none, .str q 0] } := by
      show (match (Array.replicate (c + 1) ({ cls := .none, data := .fields #[.none, .str q 0] } : Obj))[c]? with
        | some ⟨_, _, .freed, _⟩ => none
        | o => o) = _
      rw [Array.getElem?_replicate, if_pos (Nat.lt_succ_self c)]
    have h1 := (congrFun e h0).mpr ⟨_, _, _, hc, rfl, rfl⟩
    obtain ⟨_, _, _, ho, ents, ep, _, hd, _⟩ := h1
    by_cases ha : a = c
    · rw [ha, hc] at ho
      cases ho
      cases hd
    · have : ∀ b o', h0.get? b = some o' → o' = { cls := .none, data := .fields #[.none, .str q 0] } := fun b o' hb => by
        have hb : (match (Array.replicate (c + 1) ({ cls := .none, data := .fields #[.none, .str q 0] } : Obj))[b]? with
          | some ⟨_, _, .freed, _⟩ => none
          | o => o) = some o' := hb
        rw [Array.getElem?_replicate] at hb
        by_cases hlt : b < c + 1
        · rw [if_pos hlt] at hb
          cases hb
          rfl
        · rw [if_neg hlt] at hb
          cases hb
      rw [this a o ho] at hd
      cases hd
/-- the tables of code objects that stand open: their addresses, the names of the code objects -/
class Tb where
  l : List (Addr × Str)
instance noTb : Tb := ⟨[]⟩
def TabsOk [Tb] (H : Hp) : Prop := LamX.Tabs Tb.l H
theorem TabsOk.ext [Tb] {H H' : Hp} (t : TabsOk H) (e : ∀ b o, H b = some o → H' b = some o) : TabsOk H' := fun p h => (t p h).ext e
theorem TabsOk.upd [Tb] {H : Hp} {a : Addr} {m : MO} {o : HO} (h : H a = some m.ho) (t : TabsOk H) : TabsOk (upd H a o) := fun p hp => by
  obtain ⟨ps, h1, h2, h3⟩ := t p hp
  refine ⟨ps, by rw [upd_ne (fun z => by rw [z, h] at h1; have := Option.some.inj h1; cases m <;> cases this)]; exact h1, h2, fun pos cv e => ?_⟩
  obtain ⟨c, e1, e2⟩ := h3 pos cv e
  exact ⟨c, e1, by rw [upd_ne (fun z => by rw [z, h] at e2; exact m.nco _ _ (Option.some.inj e2))]; exact e2⟩
/-- a key as it is told -/
def kD : Key → D
  | .inl i => .int i
  | .inr x => .str x
mutual
def nkD : NestedKey → D
  | .none => .none
  | .num i => .int i
  | .text x => .str x
  | .tup ks => .tuple (nkDs ks)
def nkDs : List NestedKey → List D
  | [] => []
  | k :: ks => nkD k :: nkDs ks
end
def zkd {κ : Type} (f : κ → D) : List κ → List D → List (D × D)
  | k :: ks, d :: ds => (f k, d) :: zkd f ks ds
  | _, _ => []
/-- which class a name of the program's top means -/
def ClsN (K : PySem.W.Frag) (nm : Str) (C : Addr) : Prop := PySem.W.nsIn K mainGlobals nm = some (some (.ref C))
theorem ClsN.eq {K : PySem.W.Frag} {nm : Str} {C C' : Addr} (a : ClsN K nm C) (b : ClsN K nm C') : C = C' := by
  have := (show PySem.W.nsIn K mainGlobals nm = _ from a).symm.trans b
  cases this
  rfl
mutual
inductive Own (K : PySem.W.Frag) (H : Hp) : D → V → List Addr → Prop
  | non : Own K H .none .non []
  | bl (b : Bool) : Own K H (.bool b) (.bl b) []
  | int (i : Int) : Own K H (.int i) (.int i) []
  | str (x : Str) : Own K H (.str x) (.str x) []
  | tup {a : Addr} {xs : List V} {ds : List D} {F : List Addr} : SqD K H a xs → OwnA K H ds xs F → Own K H (.tuple ds) (.ref a) F
  | frz {a : Addr} {xs : List V} {ds : List D} : SqF K H a xs → OwnA K H ds xs [] → Own K H (.dict [(.none, .list ds)]) (.ref a) []
  | opq (a : Addr) : Own K H (.dict [(.none, .bool true)]) (.ref a) []
  | frd {a : Addr} {o : Obj} : H a = some (.frz o (.dK [])) → Own K H (.dict [(.none, .dict [])]) (.ref a) []
  | dct {a : Addr} {kvs : List (Key × V)} {ds : List D} {F : List Addr} : H a = some (.dK kvs) → OwnA K H ds (kvs.map Prod.snd) F → a ∉ F → Own K H (.dict ((.bool true, .none) :: zkd kD (kvs.map Prod.fst) ds)) (.ref a) (a :: F)
  | dcn {a : Addr} {es : List (NestedKey × Addr × V)} {o : Obj} {ds : List D} : H a = some (RawO a es o) → OwnA K H (es.map fun e => nkD e.1) (es.map fun e => V.ref e.2.1) [] → OwnA K H ds (es.map fun e => e.2.2) [] → Own K H (.dict ((.bool true, .int 0) :: zkd nkD (es.map fun e => e.1) ds)) (.ref a) [a]
  | frk {a : Addr} {o : Obj} {kvs : List (Key × V)} {ds : List D} : H a = some (.frz o (.dK kvs)) → OwnA K H ds (kvs.map Prod.snd) [] → Own K H (.dict ((.bool true, .bool false) :: zkd kD (kvs.map Prod.fst) ds)) (.ref a) [a]
  | frn {a : Addr} {es : List (NestedKey × Addr × V)} {od o : Obj} {ds : List D} : H a = some (.frz o (RawO a es od)) → OwnA K H (es.map fun e => nkD e.1) (es.map fun e => V.ref e.2.1) [] → OwnA K H ds (es.map fun e => e.2.2) [] → Own K H (.dict ((.bool true, .bool true) :: zkd nkD (es.map fun e => e.1) ds)) (.ref a) [a]
  | ins {a C dx : Addr} {nm : Str} {fs : List (Str × V)} {ds : List D} {F : List Addr} : ClsN K nm C → H a = some (.ins C dx fs) → OwnA K H ds (fs.map Prod.snd) F → a ∉ F → Own K H (.dict ((.bool false, .str nm) :: zkd PyData.str (fs.map Prod.fst) ds)) (.ref a) (a :: F)
  | lst {a : Addr} {xs : List V} {ds : List D} {F : List Addr} : H a = some (.lst xs) → OwnA K H ds xs F → a ∉ F → Own K H (.list ds) (.ref a) (a :: F)
inductive OwnA (K : PySem.W.Frag) (H : Hp) : List D → List V → List Addr → Prop
  | nil : OwnA K H [] [] []
  | cons {v : V} {vs : List V} {d : D} {ds : List D} {F G : List Addr} : Own K H d v F → OwnA K H ds vs G → (∀ a, a ∈ F → a ∉ G) → OwnA K H (d :: ds) (v :: vs) (F ++ G)
end
section
variable {K : PySem.W.Frag} {H H' : Hp}
mutual
theorem Own.dp : ∀ {d : D} {v : V} {F : List Addr}, Own K H d v F → noD d = true → Dp K H v d
  | _, _, _, .non, _ => .non
  | _, _, _, .bl b, _ => .bl b
  | _, _, _, .int b, _ => .int b
  | _, _, _, .str b, _ => .str b
  | _, _, _, .frz _ _, p => by simp [noD] at p
  | _, _, _, .frd _, p => by simp [noD] at p
  | _, _, _, .opq _, p => by simp [noD] at p
  | _, _, _, .dct _ _ _, p => by simp [noD] at p
  | _, _, _, .dcn _ _ _, p => by simp [noD] at p
  | _, _, _, .frk _ _, p => by simp [noD] at p
  | _, _, _, .frn _ _ _, p => by simp [noD] at p
  | _, _, _, .ins _ _ _ _, p => by simp [noD] at p
  | _, _, _, .lst h t _, p => .lst (SqL.of h) (OwnA.dp t (by simpa [noD] using p))
  | _, _, _, .tup h t, p => .tup h.sq (OwnA.dp t (by simpa [noD] using p))
theorem OwnA.dp : ∀ {ds : List D} {vs : List V} {F : List Addr}, OwnA K H ds vs F → noDs ds = true → DpAll K H vs ds
  | _, _, _, .nil, _ => .nil
  | _, _, _, .cons h t _, p => by
    simp only [noDs, Bool.and_eq_true] at p
    exact .cons (Own.dp h p.1) (OwnA.dp t p.2)
end
mutual
theorem Own.pur : ∀ {d : D} {v : V} {F : List Addr}, Own K H d v F → pur d = true → F = []
  | _, _, _, .non, _ => rfl
  | _, _, _, .bl b, _ => rfl
  | _, _, _, .int b, _ => rfl
  | _, _, _, .str b, _ => rfl
  | _, _, _, .lst _ _ _, p => by simp [Sim.pur] at p
  | _, _, _, .frz _ _, _ => rfl
  | _, _, _, .frd _, _ => rfl
  | _, _, _, .opq _, p => by simp [Sim.pur, frzT] at p
  | _, _, _, .dct _ _ _, p => by simp [Sim.pur, frzT] at p
  | _, _, _, .dcn _ _ _, p => by simp [Sim.pur, frzT] at p
  | _, _, _, .frk _ _, p => by simp [Sim.pur, frzT] at p
  | _, _, _, .frn _ _ _, p => by simp [Sim.pur, frzT] at p
  | _, _, _, .ins _ _ _ _, p => by simp [Sim.pur, frzT] at p
  | _, _, _, .tup h t, p => OwnA.pur t (by simpa [Sim.pur] using p)
theorem OwnA.pur : ∀ {ds : List D} {vs : List V} {F : List Addr}, OwnA K H ds vs F → purs ds = true → F = []
  | _, _, _, .nil, _ => rfl
  | _, _, _, .cons h t _, p => by
    simp only [purs, Bool.and_eq_true] at p
    rw [Own.pur h p.1, OwnA.pur t p.2]
    rfl
end
mutual
theorem Own.mem : ∀ {d : D} {v : V} {F : List Addr}, Own K H d v F → ∀ a, a ∈ F → ∃ xs : MO, H a = some xs.ho
  | _, _, _, .non, _, h => by simp at h
  | _, _, _, .bl b, _, h => by simp at h
  | _, _, _, .int b, _, h => by simp at h
  | _, _, _, .str b, _, h => by simp at h
  | _, _, _, .frz _ _, _, h => by simp at h
  | _, _, _, .frd _, _, h => by simp at h
  | _, _, _, .opq _, _, h => by simp at h
  | _, _, _, .dct e t _, a, h => by
    rcases List.mem_cons.mp h with rfl | h
    · exact ⟨.dct _, e⟩
    · exact OwnA.mem t a h
  | _, _, _, .dcn e _ _, a, h => by rw [List.mem_singleton.mp h]; exact ⟨.dcn _ _ _, e⟩
  | _, _, _, .frk e _, a, h => by rw [List.mem_singleton.mp h]; exact ⟨.frk _ _, e⟩
  | _, _, _, .frn e _ _, a, h => by rw [List.mem_singleton.mp h]; exact ⟨.frn _ _ _ _, e⟩
  | _, _, _, .ins _ e t _, a, h => by
    rcases List.mem_cons.mp h with rfl | h
    · exact ⟨.ins _ _ _, e⟩
    · exact OwnA.mem t a h
  | _, _, _, .lst e t _, a, h => by
    rcases List.mem_cons.mp h with rfl | h
    · exact ⟨.lst _, e⟩
    · exact OwnA.mem t a h
  | _, _, _, .tup _ t, a, h => OwnA.mem t a h
theorem OwnA.mem : ∀ {ds : List D} {vs : List V} {F : List Addr}, OwnA K H ds vs F → ∀ a, a ∈ F → ∃ xs : MO, H a = some xs.ho
  | _, _, _, .nil, _, h => by simp at h
  | _, _, _, .cons h1 t _, a, h => by
    rcases List.mem_append.mp h with h | h
    · exact Own.mem h1 a h
    · exact OwnA.mem t a h
end
/-- the change of a heap: but the lists at Fa all stands -/
structure Chg [Tb] (Fa : Addr → Prop) (H H' : Hp) : Prop where
  keep : ∀ a o, H a = some o → ((¬ Fa a ∧ isTbl o = false) ∨ isMut o = false) → H' a = some o
  there : ∀ a, H' a = none → H a = none
  tab : TabsOk H → TabsOk H'
theorem Chg.refl [Tb] (Fa : Addr → Prop) (H : Hp) : Chg Fa H H := ⟨fun _ _ h _ => h, fun _ h => h, fun h => h⟩
theorem Chg.same [Tb] {Fa : Addr → Prop} (h : Same H H') : Chg Fa H H' := ⟨fun _ _ e _ => h _ _ e, fun _ e => h.free e, fun t => t.ext h⟩
theorem Chg.mono [Tb] {Fa Fb : Addr → Prop} (c : Chg Fa H H') (h : ∀ a o, H a = some o → Fa a → Fb a) : Chg Fb H H' := ⟨fun a o e cc => c.keep a o e (cc.imp (fun z => ⟨fun w => z.1 (h a o e w), z.2⟩) id), c.there, c.tab⟩
theorem Chg.trans [Tb] {Fa : Addr → Prop} {H1 : Hp} (a : Chg Fa H H1) (b : Chg Fa H1 H') : Chg Fa H H' := ⟨fun x o e cc => b.keep x o (a.keep x o e cc) cc, fun x e => a.there x (b.there x e), fun t => b.tab (a.tab t)⟩
/-- one object of ours is written -/
theorem Chg.upd1 [Tb] {a : Addr} {m : MO} {o : HO} (h : H a = some m.ho) (hm : isMut m.ho = true := by rfl) : Chg (fun b => b = a) H (upd H a o) := ⟨fun b ob e c => by
  by_cases hb : b = a
  · subst hb
    rcases c with c | c
    · exact absurd rfl c.1
    · rw [h] at e
      cases e
      rw [hm] at c
      cases c
  · rw [upd_ne hb]; exact e, fun b e => by
  by_cases hb : b = a
  · subst hb; rw [upd_same] at e; cases e
  · rw [upd_ne hb] at e; exact e, fun t => t.upd h⟩
/-- a later change of what is new -/
theorem Chg.transN [Tb] {Fa Fb : Addr → Prop} {H1 : Hp} (a : Chg Fa H H1) (b : Chg Fb H1 H') (n : ∀ x o, H x = some o → ¬ Fb x) : Chg Fa H H' :=
  ⟨fun x o e cc => b.keep x o (a.keep x o e cc) (cc.imp (fun z => ⟨n x o e, z.2⟩) id), fun x e => a.there x (b.there x e), fun t => b.tab (a.tab t)⟩
/-- what stands and is not changed -/
theorem Chg.mo [Tb] {Fa : Addr → Prop} (c : Chg Fa H H') {a : Addr} {m : MO} (h : H a = some m.ho) (n : ¬ Fa a) : H' a = some m.ho := c.keep a _ h (.inl ⟨n, m.ntb⟩)
theorem Chg.sqD [Tb] {Fa : Addr → Prop} (c : Chg Fa H H') {a : Addr} {xs : List V} (h : SqD K H a xs) : SqD K H' a xs := by
  rcases h with ⟨o, h, n⟩ | h
  · exact .inl ⟨o, c.keep _ _ h (.inr rfl), n⟩
  · exact .inr h
theorem Chg.sqF [Tb] {Fa : Addr → Prop} (c : Chg Fa H H') {a : Addr} {xs : List V} (h : SqF K H a xs) : SqF K H' a xs := by
  rcases h with ⟨o, h⟩ | h
  · exact .inl ⟨o, c.keep _ _ h (.inr rfl)⟩
  · exact .inr h
mutual
theorem Own.chg [Tb] {Fa : Addr → Prop} (c : Chg Fa H H') : ∀ {d : D} {v : V} {F : List Addr}, Own K H d v F → (∀ a, a ∈ F → ¬ Fa a) → Own K H' d v F
  | _, _, _, .non, _ => .non
  | _, _, _, .bl b, _ => .bl b
  | _, _, _, .int b, _ => .int b
  | _, _, _, .str b, _ => .str b
  | _, _, _, .lst h t n, q => .lst (c.keep _ _ h (.inl ⟨q _ (List.mem_cons_self ..), rfl⟩)) (OwnA.chg c t fun a ha => q a (List.mem_cons_of_mem _ ha)) n
  | _, _, _, .frz h t, q => .frz (c.sqF h) (OwnA.chg c t q)
  | _, _, _, .frd h, q => .frd (c.keep _ _ h (.inr rfl))
  | _, _, _, .opq a, _ => .opq a
  | _, _, _, .dct h t n, q => .dct (c.keep _ _ h (.inl ⟨q _ (List.mem_cons_self ..), rfl⟩)) (OwnA.chg c t fun a ha => q a (List.mem_cons_of_mem _ ha)) n
  | _, _, _, .dcn h t t2, q => .dcn (c.keep _ _ h (.inl ⟨q _ (List.mem_cons_self ..), rfl⟩)) (OwnA.chg c t fun a ha => by cases ha) (OwnA.chg c t2 fun a ha => by cases ha)
  | _, _, _, .frk h t, q => .frk (c.keep _ _ h (.inr rfl)) (OwnA.chg c t fun a ha => by cases ha)
  | _, _, _, .frn h t t2, q => .frn (c.keep _ _ h (.inr rfl)) (OwnA.chg c t fun a ha => by cases ha) (OwnA.chg c t2 fun a ha => by cases ha)
  | _, _, _, .ins cn h t n, q => .ins cn (c.keep _ _ h (.inl ⟨q _ (List.mem_cons_self ..), rfl⟩)) (OwnA.chg c t fun a ha => q a (List.mem_cons_of_mem _ ha)) n
  | _, _, _, .tup h t, q => .tup (c.sqD h) (OwnA.chg c t q)
theorem OwnA.chg [Tb] {Fa : Addr → Prop} (c : Chg Fa H H') : ∀ {ds : List D} {vs : List V} {F : List Addr}, OwnA K H ds vs F → (∀ a, a ∈ F → ¬ Fa a) → OwnA K H' ds vs F
  | _, _, _, .nil, _ => .nil
  | _, _, _, .cons h t n, q => .cons (Own.chg c h fun a ha => q a (List.mem_append_left _ ha)) (OwnA.chg c t fun a ha => q a (List.mem_append_right _ ha)) n
end
theorem Own.same (h : Same H H') {d : D} {v : V} {F : List Addr} (o : Own K H d v F) : Own K H' d v F := o.chg (Fa := fun _ => False) (@Chg.same _ _ noTb _ h) fun _ _ z => z
theorem OwnA.len : ∀ {ds : List D} {vs : List V} {F : List Addr}, OwnA K H ds vs F → vs.length = ds.length
  | _, _, _, .nil => rfl
  | _, _, _, .cons _ t _ => by rw [List.length_cons, List.length_cons, OwnA.len t]
end
end Sim
namespace Sim
open PySem PySem.Spec L2
abbrev Fp := Nat → List Addr
def InF (Fs : Fp) : Addr → Prop := fun a => ∃ i, a ∈ Fs i
/-- what else stands while a body runs: an object whose fields are slots of their own (none, of a plain def) -/
class Vs where
  fp : Nat → List Addr
  lnk : St → Hp → Prop
  ok : Nat → Prop
  keep : ∀ {σ : St} {H H' : Hp}, lnk σ H → (∀ i a, a ∈ fp i → H' a = H a) → lnk σ H'
  put : ∀ {σ : St} {H : Hp} {i : Nat} {v : Option V}, ok i → (lnk (σ.set i v) H ↔ lnk σ H)
  mem : ∀ {σ : St} {H : Hp} {i : Nat} {a : Addr}, lnk σ H → a ∈ fp i → ∃ m : MO, H a = some m.ho
  nil : ∀ {i : Nat}, ok i → fp i = []
instance noVs : Vs := ⟨fun _ => [], fun _ _ => True, fun _ => True, fun _ _ => trivial, fun _ => Iff.rfl, fun _ h => by simp at h, fun _ => rfl⟩
/-- the slots' values, as they are told, stand -/
def Lk2 [Tb] [Vs] (σ : St) (H : Hp) : Prop := Vs.lnk σ H ∧ TabsOk H
structure RelS [Tb] [Vs] (K : PySem.W.Frag) (H : Hp) (s : Sg) (σ : St) (Fs : Fp) : Prop where
  len : s.length = σ.length
  has : ∀ i d, s[i]? = some (some d) → ∃ v, σ[i]? = some (some v) ∧ Own K H d v (Fs i)
  off : ∀ i, (∀ d, s[i]? ≠ some (some d)) → Fs i = Vs.fp i
  dis : ∀ i j a, a ∈ Fs i → a ∈ Fs j → i = j
  lnk : Lk2 σ H
  bse : ∀ i, Vs.fp i ≠ [] → ∀ d, s[i]? ≠ some (some d)
/-- from one heap to a later one -/
structure Ev [Tb] (H : Hp) (Fs : Fp) (H' : Hp) (Fs' : Fp) : Prop where
  chg : Chg (InF Fs) H H'
  new : ∀ i a, a ∈ Fs' i → a ∈ Fs i ∨ H a = none
section
variable [Tb] [Vs] {K : PySem.W.Frag} {H H1 H' : Hp} {s s' : Sg} {σ σ' : St} {Fs Fs1 Fs' : Fp}
theorem RelS.mem (R : RelS K H s σ Fs) {i : Nat} {a : Addr} (h : a ∈ Fs i) : ∃ xs : MO, H a = some xs.ho := by
  cases e : s[i]? with
  | none =>
    rw [R.off i (fun d z => by rw [e] at z; cases z)] at h
    exact Vs.mem R.lnk.1 h
  | some o =>
    cases o with
    | none =>
      rw [R.off i (fun d z => by rw [e] at z; cases z)] at h
      exact Vs.mem R.lnk.1 h
    | some d =>
      obtain ⟨v, _, q⟩ := R.has i d e
      exact q.mem a h
/-- a slot that holds an open object -/
theorem RelS.fpF (R : RelS K H s σ Fs) {i : Nat} {a : Addr} (h : a ∈ Vs.fp i) : a ∈ Fs i := by
  rw [R.off i (R.bse i (fun e => by rw [e] at h; cases h))]
  exact h
/-- what stands elsewhere is no open object -/
theorem RelS.nfp (R : RelS K H s σ Fs) {i j : Nat} {a : Addr} {d : D} (e : s[i]? = some (some d)) (h : a ∈ Fs i) : a ∉ Vs.fp j := fun z => by
  have := R.dis i j a h (R.fpF z)
  subst this
  exact R.bse i (fun e => by rw [e] at z; cases z) d e
/-- where the lists of told slots alone change -/
theorem RelS.lnk' (R : RelS K H s σ Fs) (k : ∀ i a, a ∈ Vs.fp i → H' a = H a) (t : TabsOk H') : Lk2 σ H' := ⟨Vs.keep R.lnk.1 k, t⟩
theorem RelS.lnkS (R : RelS K H s σ Fs) (h : Same H H') : Lk2 σ H' := R.lnk' (fun i a ha => by
  obtain ⟨m, e⟩ := Vs.mem R.lnk.1 ha
  rw [e]
  exact h _ _ e) (R.lnk.2.ext h)
theorem Ev.refl (H : Hp) (Fs : Fp) : Ev H Fs H Fs := ⟨.refl _ _, fun _ _ h => .inl h⟩
theorem Ev.same (Fs : Fp) (h : Same H H') : Ev H Fs H' Fs := ⟨.same h, fun _ _ h => .inl h⟩
theorem Ev.trans (a : Ev H Fs H1 Fs1) (b : Ev H1 Fs1 H' Fs') : Ev H Fs H' Fs' := by
  refine ⟨⟨fun x o e c => ?_, fun x e => a.chg.there x (b.chg.there x e), fun t => b.chg.tab (a.chg.tab t)⟩, fun i x h => ?_⟩
  · have e1 := a.chg.keep x o e c
    refine b.chg.keep x o e1 (c.imp (fun n => ⟨fun z => ?_, n.2⟩) id)
    obtain ⟨i, hi⟩ := z
    rcases a.new i x hi with q | q
    · exact n.1 ⟨i, q⟩
    · rw [e] at q; cases q
  · rcases b.new i x h with q | q
    · exact a.new i x q
    · exact .inr (a.chg.there x q)
theorem RelS.same (R : RelS K H s σ Fs) (h : Same H H') : RelS K H' s σ Fs :=
  ⟨R.len, fun i d e => by
    obtain ⟨v, hv, q⟩ := R.has i d e
    exact ⟨v, hv, q.same h⟩, R.off, R.dis, R.lnkS h, R.bse⟩
/-- what stands apart from the slots -/
structure Apart (K : PySem.W.Frag) (H : Hp) (Fs : Fp) (d : D) (v : V) (F : List Addr) : Prop where
  own : Own K H d v F
  dis : ∀ i a, a ∈ Fs i → a ∉ F
theorem Apart.ev {d : D} {v : V} {F : List Addr} (A : Apart K H Fs d v F) (e : Ev H Fs H' Fs') : Apart K H' Fs' d v F := by
  refine ⟨A.own.chg e.chg fun a ha ⟨i, hi⟩ => A.dis i a hi ha, fun i a hi ha => ?_⟩
  rcases e.new i a hi with q | q
  · exact A.dis i a q ha
  · obtain ⟨xs, z⟩ := A.own.mem a ha
    rw [q] at z; cases z
/-- operands as they came -/
inductive Rfs (K : PySem.W.Frag) (H : Hp) (σ : St) (Fs : Fp) : List Rf → List V → List (List Addr) → Prop
  | nil : Rfs K H σ Fs [] [] []
  | val {d : D} {v : V} {F : List Addr} {rs : List Rf} {vs : List V} {Gs : List (List Addr)} : Apart K H Fs d v F → (∀ G, G ∈ Gs → ∀ a, a ∈ F → a ∉ G) → Rfs K H σ Fs rs vs Gs → Rfs K H σ Fs (.val d :: rs) (v :: vs) (F :: Gs)
  | slot {i : Nat} {v : V} {rs : List Rf} {vs : List V} {Gs : List (List Addr)} : σ[i]? = some (some v) → Rfs K H σ Fs rs vs Gs → Rfs K H σ Fs (.slot i :: rs) (v :: vs) ([] :: Gs)
theorem Rfs.mem {rs : List Rf} {vs : List V} {Gs : List (List Addr)} (r : Rfs K H σ Fs rs vs Gs) : ∀ G, G ∈ Gs → ∀ a, a ∈ G → ∃ xs : MO, H a = some xs.ho := by
  induction r with
  | nil => intro G h; cases h
  | val A _ _ ih =>
    intro G h a ha
    rcases List.mem_cons.mp h with rfl | h
    · exact A.own.mem a ha
    · exact ih G h a ha
  | slot _ _ ih =>
    intro G h a ha
    rcases List.mem_cons.mp h with rfl | h
    · cases ha
    · exact ih G h a ha
theorem join_some {i : Nat} {d : D} (e : (s[i]?).join = some d) : s[i]? = some (some d) := by
  cases h : s[i]? with
  | none => rw [h] at e; cases e
  | some o => rw [h] at e; rw [show o = some d from e]
/-- values that are told -/
inductive RdA (K : PySem.W.Frag) (H : Hp) : List V → List D → Prop
  | nil : RdA K H [] []
  | cons {v : V} {d : D} {F : List Addr} {vs : List V} {ds : List D} : Own K H d v F → RdA K H vs ds → RdA K H (v :: vs) (d :: ds)
theorem Rfs.dp (R : RelS K H s σ Fs) {rs : List Rf} {vs : List V} {Gs : List (List Addr)} (r : Rfs K H σ Fs rs vs Gs) : ∀ {ds : List D}, rds rs s = some ds → RdA K H vs ds := by
  induction r with
  | nil => intro ds e; cases e; exact .nil
  | @val d v F rs vs Gs A _ _ ih =>
    intro ds e
    unfold rds at e
    simp only [rd] at e
    split at e
    · cases e
    · rename_i es h; cases e; exact .cons A.own (ih h)
  | @slot i v rs vs Gs hv _ ih =>
    intro ds e
    unfold rds at e
    simp only [rd] at e
    split at e
    · cases e
    · rename_i d hd
      split at e
      · cases e
      · rename_i es h
        cases e
        obtain ⟨v', hv', q⟩ := R.has _ _ (join_some hd)
        rw [hv] at hv'
        cases hv'
        exact .cons q (ih h)
/-- one operand as it came -/
inductive RfOk (K : PySem.W.Frag) (H : Hp) (σ : St) (Fs : Fp) : Rf → V → List Addr → Prop
  | val {d : D} {v : V} {F : List Addr} : Apart K H Fs d v F → RfOk K H σ Fs (.val d) v F
  | slot {i : Nat} {v : V} : σ[i]? = some (some v) → RfOk K H σ Fs (.slot i) v []
theorem RfOk.ev {r : Rf} {v : V} {F : List Addr} (h : RfOk K H σ Fs r v F) (e : Ev H Fs H' Fs') : RfOk K H' σ Fs' r v F := by
  cases h with
  | val A => exact .val (A.ev e)
  | slot h => exact .slot h
theorem RfOk.mem {r : Rf} {v : V} {F : List Addr} (h : RfOk K H σ Fs r v F) : ∀ a, a ∈ F → ∃ xs : MO, H a = some xs.ho := by
  cases h with
  | val A => exact A.own.mem
  | slot h => intro a h; cases h
theorem RfOk.dp (R : RelS K H s σ Fs) {r : Rf} {v : V} {F : List Addr} (h : RfOk K H σ Fs r v F) {d : D} (e : rd r s = some d) : ∃ F', Own K H d v F' := by
  cases h with
  | val A => cases e; exact ⟨_, A.own⟩
  | slot h =>
    obtain ⟨v', hv', q⟩ := R.has _ _ (join_some e)
    rw [h] at hv'
    cases hv'
    exact ⟨_, q⟩
end
section
variable [Tb] [Vs] (K : PySem.W.Frag)
def tO (g : O) : TE := fun σ H Q => ∃ s Fs r s', RelS K H s σ Fs ∧ g s = .ok r s' ∧
  ∀ v H' Fs' F, RelS K H' s' σ Fs' → Ev H Fs H' Fs' → RfOk K H' σ Fs' r v F → (∀ a, a ∈ F → H a = none) → Q v H'
def tA (g : AL) : TA := fun σ H Q => ∃ s Fs rs s', RelS K H s σ Fs ∧ g s = .ok rs s' ∧
  ∀ vs H' Fs' Gs, RelS K H' s' σ Fs' → Ev H Fs H' Fs' → Rfs K H' σ Fs' rs vs Gs → (∀ G, G ∈ Gs → ∀ a, a ∈ G → H a = none) → Q vs H'
def tT (g : T) : TT := fun σ H Q => ∃ s Fs b s', RelS K H s σ Fs ∧ g s = .ok b s' ∧ ∀ H' Fs', RelS K H' s' σ Fs' → Ev H Fs H' Fs' → Q b H'
end
def SimO [Tb] [Vs] (X : Cx) (e : Expr) (g : O) : Prop := PE X e (tO X.K g)
def SimA [Tb] [Vs] (X : Cx) (es : List Expr) (g : AL) : Prop := PA X es (tA X.K g)
def SimT [Tb] [Vs] (X : Cx) (e : Expr) (g : T) : Prop := PT X e (tT X.K g)
theorem pe_imp {X : Cx} {e : Expr} {t t' : TE} (h : PE X e t) (i : ∀ σ H Q, t' σ H Q → t σ H Q) : PE X e t' := ⟨fun pins s σ H Q I q => h.run pins s σ H Q I (i σ H Q q)⟩
theorem pt_imp {X : Cx} {e : Expr} {t t' : TT} (h : PT X e t) (i : ∀ σ H Q, t' σ H Q → t σ H Q) : PT X e t' := ⟨fun pins s σ H Q I q => h.run pins s σ H Q I (i σ H Q q)⟩
theorem pa_imp {X : Cx} {e : List Expr} {t t' : TA} (h : PA X e t) (i : ∀ σ H Q, t' σ H Q → t σ H Q) : PA X e t' := ⟨fun pos pins s σ H Q I q => h.run pos pins s σ H Q I (i σ H Q q)⟩
def aNil : AL := fun s => .ok [] s
def aCons (g : O) (h : AL) : AL := fun s => (g s).bind fun r s1 => (h s1).bind fun rs s2 => .ok (r :: rs) s2
section
variable [Tb] [Vs] {X : Cx} {K : PySem.W.Frag}
theorem tA_nil {σ : St} {H : Hp} {Q : List V → Hp → Prop} (h : tA K aNil σ H Q) : tNil σ H Q := by
  obtain ⟨s, Fs, rs, s', R, e, q⟩ := h
  cases e
  exact q [] H Fs [] R (.refl _ _) .nil (by intro G h; cases h)
theorem tA_cons {g : O} {gs : AL} {σ : St} {H : Hp} {Q : List V → Hp → Prop} (h : tA K (aCons g gs) σ H Q) : tCons (tO K g) (tA K gs) σ H Q := by
  obtain ⟨s, Fs, rs, s', R, e, q⟩ := h
  obtain ⟨r, s1, e1, e⟩ := bind_inv e
  obtain ⟨rs1, s2, e2, e⟩ := bind_inv e
  cases e
  refine ⟨s, Fs, r, s1, R, e1, fun v H1 Fs1 F R1 E1 k1 n1 => ⟨s1, Fs1, rs1, s', R1, e2, fun vs H2 Fs2 Gs R2 E2 k2 n2 => ?_⟩⟩
  have k1' := k1.ev E2
  have nn : ∀ G, G ∈ Gs → ∀ a, a ∈ G → H a = none := fun G hG a ha => E1.chg.there a (n2 G hG a ha)
  cases k1' with
  | val A =>
    refine q _ H2 Fs2 (F :: Gs) R2 (E1.trans E2) (.val A (fun G hG a ha hb => ?_) k2) (fun G hG a ha => ?_)
    · obtain ⟨xs, z⟩ := k1.mem a ha
      rw [n2 G hG a hb] at z; cases z
    · rcases List.mem_cons.mp hG with rfl | hG
      · exact n1 a ha
      · exact nn G hG a ha
  | slot hv =>
    refine q _ H2 Fs2 ([] :: Gs) R2 (E1.trans E2) (.slot hv k2) (fun G hG a ha => ?_)
    rcases List.mem_cons.mp hG with rfl | hG
    · cases ha
    · exact nn G hG a ha
theorem sa_nil : SimA X [] aNil := pa_imp pa_nil fun _ _ _ h => tA_nil h
theorem sa_cons {e : Expr} {es : List Expr} {g : O} {gs : AL} (ha : SimO X e g) (hr : SimA X es gs) (hs : starEach (e :: es) X.env = (false, eval e X.env) :: starEach es X.env := by rfl) : SimA X (e :: es) (aCons g gs) :=
  pa_imp (pa_cons ha hr hs) fun _ _ _ h => tA_cons h
theorem tO_mono {g : O} {σ : St} {H : Hp} {Q Q' : VK} (i : ∀ v H, Q v H → Q' v H) (h : tO K g σ H Q) : tO K g σ H Q' := by
  obtain ⟨s, Fs, r, s', R, e, q⟩ := h
  exact ⟨s, Fs, r, s', R, e, fun v H' Fs' F a b c d => i _ _ (q v H' Fs' F a b c d)⟩
theorem tA_mono {g : AL} {σ : St} {H : Hp} {Q Q' : List V → Hp → Prop} (i : ∀ v H, Q v H → Q' v H) (h : tA K g σ H Q) : tA K g σ H Q' := by
  obtain ⟨s, Fs, r, s', R, e, q⟩ := h
  exact ⟨s, Fs, r, s', R, e, fun v H' Fs' F a b c d => i _ _ (q v H' Fs' F a b c d)⟩
theorem tA1 {a : O} {σ : St} {H : Hp} {Q : List V → Hp → Prop} (h : tA K (aCons a aNil) σ H Q) : tO K a σ H fun x H1 => Q [x] H1 :=
  tO_mono (fun _ _ h => by have z := tA_nil h; exact z) (tA_cons h)
theorem tA2 {a b : O} {σ : St} {H : Hp} {Q : List V → Hp → Prop} (h : tA K (aCons a (aCons b aNil)) σ H Q) : tO K a σ H fun x H1 => tO K b σ H1 fun y H2 => Q [x, y] H2 :=
  tO_mono (fun _ _ h => by have z := tA1 h; exact z) (tA_cons h)
end
def NewV (K : PySem.W.Frag) (H : Hp) (d : D) (v : V) (H' : Hp) : Prop := Same H H' ∧ ∃ F, Own K H' d v F ∧ ∀ a, a ∈ F → H a = none
def PrimR (K : PySem.W.Frag) (r : List V → Hp → VK → Prop) (f : List D → Option D) : Prop :=
  ∀ vs ds d H Q, RdA K H vs ds → f ds = some d → (∀ v H', NewV K H d v H' → Q v H') → r vs H Q
def oPrim (f : List D → Option D) (g : AL) : O := fun s => (g s).bind fun rs s1 => match rds rs s1 with
  | none => .bad
  | some ds => match f ds with
    | none => .bad
    | some d => .ok (.val d) s1
section
variable [Tb] [Vs] {X : Cx} {K : PySem.W.Frag} {H H' : Hp}
theorem NewV.ok {s : Sg} {σ : St} {Fs : Fp} {d : D} {v : V} (R : RelS K H s σ Fs) (h : NewV K H d v H') : RelS K H' s σ Fs ∧ Ev H Fs H' Fs ∧ ∃ F, RfOk K H' σ Fs (.val d) v F ∧ ∀ a, a ∈ F → H a = none := by
  obtain ⟨sm, F, o, n⟩ := h
  refine ⟨R.same sm, .same _ sm, F, .val ⟨o, fun i a hi ha => ?_⟩, n⟩
  obtain ⟨xs, z⟩ := R.mem hi
  rw [n a ha] at z; cases z
theorem prim {r : List V → Hp → VK → Prop} {f : List D → Option D} {g : AL} (hp : PrimR K r f) {σ : St} {H : Hp} {Q : VK} (h : tO K (oPrim f g) σ H Q) : tA K g σ H fun vs H1 => r vs H1 Q := by
  obtain ⟨s, Fs, rf, s', R, e, q⟩ := h
  obtain ⟨rs, s1, e1, e⟩ := bind_inv e
  refine ⟨s, Fs, rs, s1, R, e1, fun vs H1 Fs1 Gs R1 E1 k1 n1 => ?_⟩
  split at e
  · cases e
  · rename_i ds hds
    split at e
    · cases e
    · rename_i d hd
      cases e
      refine hp vs ds d H1 Q (k1.dp R1 hds) hd fun v H2 hv => ?_
      obtain ⟨R2, E2, F, k, n⟩ := hv.ok R1
      exact q v H2 Fs1 F R2 (E1.trans E2) k fun a ha => E1.chg.there a (n a ha)
theorem NewV.sc {d : D} {v : V} (h : Own K H d v []) : NewV K H d v H := ⟨Same.refl _, [], h, fun _ z => by cases z⟩
theorem NewV.pu {d : D} {v : V} {F : List Addr} (h : Own K H d v F) (p : pur d = true) : NewV K H d v H := .sc (by rw [h.pur p] at h; exact h)
/-- a new object -/
theorem same_new {a : Addr} {o : HO} (h : H a = none) : Same H (upd H a o) := fun b x e => by rw [upd_ne (ne_of_none e h)]; exact e
theorem NewV.tup {ds : List D} {vs : List V} {a : Addr} {o : Obj} (h : OwnA K H ds vs []) (n : H a = none) (nd : o.dict = none) : NewV K H (.tuple ds) (.ref a) (upd H a (.frz o (.tup vs))) := by
  have sm : Same H (upd H a (.frz o (.tup vs))) := same_new n
  exact ⟨sm, [], .tup (SqD.of upd_same nd) (h.chg (Fa := fun _ => False) (.same sm) fun _ _ z => z), fun _ z => by cases z⟩
theorem NewV.lst {ds : List D} {vs : List V} {a : Addr} (h : OwnA K H ds vs []) (n : H a = none) : NewV K H (.list ds) (.ref a) (upd H a (.lst vs)) := by
  have sm : Same H (upd H a (.lst vs)) := same_new n
  exact ⟨sm, [a], .lst upd_same (h.chg (Fa := fun _ => False) (.same sm) fun _ _ z => z) (by simp), fun b z => by rw [List.mem_singleton.mp z]; exact n⟩
end
end Sim
namespace Sim
open PySem PySem.Spec L2
theorem big_le : 1000000 ≤ sizeLine := by decide
def u2 (r : R2) : List V → Hp → VK → Prop
  | [x, y], H, Q => r x y H Q
  | _, _, _ => False
def u1 (r : V → Hp → VK → Prop) : List V → Hp → VK → Prop
  | [x], H, Q => r x H Q
  | _, _, _ => False
def mulOk (a b : Int) : Bool := (decide (-(2 ^ 64) < a) && decide (a < 2 ^ 64)) || (decide (-(2 ^ 64) < b) && decide (b < 2 ^ 64)) || decide (a.natAbs.log2 + b.natAbs.log2 < 1000000)
def pAdd : List D → Option D
  | [.int a, .int b] => some (.int (a + b))
  | [.str a, .str b] => if a.length + b.length ≤ 1000000 then some (.str (a ++ b)) else none
  | [.list a, .list b] => if a.length + b.length ≤ 1000000 ∧ purs a = true ∧ purs b = true then some (.list (a ++ b)) else none
  | [.tuple a, .tuple b] => if a.length + b.length ≤ 1000000 ∧ purs a = true ∧ purs b = true then some (.tuple (a ++ b)) else none
  | _ => none
def pSub : List D → Option D
  | [.int a, .int b] => some (.int (a - b))
  | _ => none
def pMul : List D → Option D
  | [.int a, .int b] => if mulOk a b = true then some (.int (a * b)) else none
  | [.tuple a, .int b] => if -1000 ≤ b ∧ b ≤ 1000 ∧ a.length ≤ 1000 ∧ purs a = true then some (.tuple (List.replicate b.toNat a).flatten) else none
  | [.list a, .int b] => if b < 2 ^ 63 ∧ -(2 ^ 63) ≤ b ∧ a.length * b.toNat ≤ 1000000 ∧ purs a = true then some (.list (List.replicate b.toNat a).flatten) else none
  | _ => none
def pDiv : List D → Option D
  | [.int a, .int b] => if 0 < b ∧ b.natAbs.log2 < 9000 then some (.int (a / b)) else none
  | _ => none
def pMod : List D → Option D
  | [.int a, .int b] => if 0 < b then some (.int (a % b)) else none
  | _ => none
def pPow : List D → Option D
  | [.int a, .int b] => if 0 ≤ b ∧ b ≤ 1000000 ∧ a.natAbs < 2 ^ 64 then some (.int (a ^ b.toNat)) else none
  | _ => none
def pShl : List D → Option D
  | [.int a, .int b] => if 0 ≤ b ∧ b ≤ 1000000 ∧ a.natAbs < 2 ^ 64 then some (.int (a * 2 ^ b.toNat)) else none
  | _ => none
def pNeg : List D → Option D
  | [.int a] => some (.int (-a))
  | _ => none
def pLt : List D → Option D
  | [.int a, .int b] => some (.bool (decide (a < b)))
  | _ => none
def pLe : List D → Option D
  | [.int a, .int b] => some (.bool (decide (a ≤ b)))
  | _ => none
def pGt : List D → Option D
  | [.int a, .int b] => some (.bool (decide (b < a)))
  | _ => none
def pGe : List D → Option D
  | [.int a, .int b] => some (.bool (decide (b ≤ a)))
  | _ => none
/-- what may be compared by == -/
def shp (d : D) : Bool := SeqAt.shaped d && noD d
def pEq : List D → Option D
  | [a, b] => if shp a = true ∧ shp b = true then some (.bool (PyData.eqv a b)) else none
  | _ => none
def pNe : List D → Option D
  | [a, b] => if shp a = true ∧ shp b = true then some (.bool (!PyData.eqv a b)) else none
  | _ => none
def isN : D → Bool
  | .none => true
  | _ => false
def pIsN : List D → Option D
  | [a, .none] => some (.bool (isN a))
  | [.bool a, .bool b] => some (.bool (decide (a = b)))
  | _ => none
def pNotN : List D → Option D
  | [a, .none] => some (.bool (!isN a))
  | [.bool a, .bool b] => some (.bool (!decide (a = b)))
  | _ => none
def pIn : List D → Option D
  | [a, .list b] => if shp a = true ∧ shp (.list b) = true then some (.bool (b.any fun z => PyData.eqv z a)) else none
  | [a, .tuple b] => if fl a = true ∧ b.all fl = true then some (.bool (b.any fun z => PyData.eqv z a)) else none
  | [.str a, .str b] => some (.bool (!(Builtin.Str.occurrences b a 0 b.length 1).isEmpty))
  | _ => none
where fl : D → Bool
  | .none => true
  | .bool _ => true
  | .int _ => true
  | .str _ => true
  | _ => false
section
variable {K : PySem.W.Frag}
theorem RdA.two {H : Hp} {vs : List V} {a b : D} (h : RdA K H vs [a, b]) : ∃ x y F G, vs = [x, y] ∧ Own K H a x F ∧ Own K H b y G := by
  cases h with
  | cons o h =>
    cases h with
    | cons o2 h =>
      cases h
      exact ⟨_, _, _, _, rfl, o, o2⟩
theorem RdA.one {H : Hp} {vs : List V} {a : D} (h : RdA K H vs [a]) : ∃ x F, vs = [x] ∧ Own K H a x F := by
  cases h with
  | cons o h =>
    cases h
    exact ⟨_, _, rfl, o⟩
theorem RdA.zero {H : Hp} {vs : List V} (h : RdA K H vs []) : vs = [] := by
  cases h
  rfl
theorem RdA.three {H : Hp} {vs : List V} {a b c : D} (h : RdA K H vs [a, b, c]) : ∃ x y z F G G', vs = [x, y, z] ∧ Own K H a x F ∧ Own K H b y G ∧ Own K H c z G' := by
  cases h with
  | cons o h =>
    obtain ⟨y, z, G, G', rfl, o2, o3⟩ := h.two
    exact ⟨_, _, _, _, _, _, rfl, o, o2, o3⟩
theorem purs_app {a b : List D} : purs (a ++ b) = (purs a && purs b) := by
  induction a with
  | nil => simp [purs]
  | cons x a ih => simp [purs, ih, Bool.and_assoc]
theorem OwnA.nil2 {H : Hp} {v : V} {vs : List V} {d : D} {ds : List D} (h : OwnA K H (d :: ds) (v :: vs) []) : Own K H d v [] ∧ OwnA K H ds vs [] := by
  generalize e : ([] : List Addr) = F at h
  cases h with
  | @cons _ _ _ _ F G o t n =>
    have e1 : F = [] ∧ G = [] := List.append_eq_nil_iff.mp e.symm
    obtain ⟨rfl, rfl⟩ := e1
    exact ⟨o, t⟩
theorem OwnA.cons0 {H : Hp} {v : V} {vs : List V} {d : D} {ds : List D} (o : Own K H d v []) (t : OwnA K H ds vs []) : OwnA K H (d :: ds) (v :: vs) [] := OwnA.cons (F := []) (G := []) o t (by simp)
theorem OwnA.app {H : Hp} : ∀ {as bs : List D} {vs ws : List V}, OwnA K H as vs [] → OwnA K H bs ws [] → OwnA K H (as ++ bs) (vs ++ ws) []
  | [], _, [], _, _, g => g
  | _ :: _, _, _ :: _, _, h, g => .cons0 h.nil2.1 (OwnA.app h.nil2.2 g)
  | [], _, _ :: _, _, h, _ => nomatch h
  | _ :: _, _, [], _, h, _ => nomatch h
theorem OwnA.rep {H : Hp} {as : List D} {vs : List V} (h : OwnA K H as vs []) : ∀ k : Nat, OwnA K H (List.replicate k as).flatten (List.replicate k vs).flatten []
  | 0 => .nil
  | k + 1 => by
    rw [List.replicate_succ, List.replicate_succ, List.flatten_cons, List.flatten_cons]
    exact h.app (OwnA.rep h k)
theorem OwnA.take {H : Hp} : ∀ {as : List D} {vs : List V}, OwnA K H as vs [] → ∀ n, OwnA K H (as.take n) (vs.take n) []
  | [], [], _, _ => by simp; exact .nil
  | _ :: _, _ :: _, _, 0 => .nil
  | _ :: _, _ :: _, h, n + 1 => .cons0 h.nil2.1 (OwnA.take h.nil2.2 n)
  | [], _ :: _, h, _ => nomatch h
  | _ :: _, [], h, _ => nomatch h
theorem OwnA.drop {H : Hp} : ∀ {as : List D} {vs : List V}, OwnA K H as vs [] → ∀ n, OwnA K H (as.drop n) (vs.drop n) []
  | [], [], _, _ => by simp; exact .nil
  | _ :: _, _ :: _, h, 0 => h
  | _ :: _, _ :: _, h, n + 1 => OwnA.drop h.nil2.2 n
  | [], _ :: _, h, _ => nomatch h
  | _ :: _, [], h, _ => nomatch h
theorem OwnA.get {H : Hp} : ∀ {as : List D} {vs : List V} {F : List Addr}, OwnA K H as vs F → ∀ (i : Nat) (d : D), as[i]? = some d → ∃ v G, vs[i]? = some v ∧ Own K H d v G ∧ ∀ a, a ∈ G → a ∈ F
  | [], _, _, _, i, d, e => by simp at e
  | d :: ds, _, _, h, 0, d', e => by
    simp at e
    subst e
    cases h with
    | cons o t n => exact ⟨_, _, rfl, o, fun a h => List.mem_append_left _ h⟩
  | d :: ds, _, _, h, i + 1, d', e => by
    cases h with
    | cons o t n =>
      obtain ⟨v', G', h1, h2, h3⟩ := OwnA.get t i d' (by simpa using e)
      exact ⟨v', G', by simpa using h1, h2, fun a h => List.mem_append_right _ (h3 a h)⟩
def rAddA (K : PySem.W.Frag) : R2 := fun x y H Q => rI0 (fun i j => .int (i + j)) x y H Q ∨ (∃ i j, x = .str i ∧ y = .str j ∧ i.length + j.length ≤ sizeLine ∧ Q (.str (i ++ j)) H) ∨ rCat x y H Q ∨ rCatD K x y H Q
theorem op_addA {X : Cx} : OpR X (binaryOp .Add) (rAddA X.K) := op_add.or (op_add_str.or (op_cat.or op_catD))
theorem pr_add : PrimR K (u2 (rAddA K)) pAdd := by
  intro vs ds d H Q h e q
  unfold pAdd at e
  split at e
  · obtain ⟨x, y, F, G, rfl, o1, o2⟩ := h.two
    cases o1; cases o2; cases e
    exact .inl ⟨_, _, rfl, rfl, q _ _ (.sc (.int _))⟩
  · obtain ⟨x, y, F, G, rfl, o1, o2⟩ := h.two
    split at e
    · rename_i hl
      cases o1; cases o2; cases e
      exact .inr (.inl ⟨_, _, rfl, rfl, Nat.le_trans hl big_le, q _ _ (.sc (.str _))⟩)
    · cases e
  · obtain ⟨x, y, F, G, rfl, o1, o2⟩ := h.two
    split at e
    · rename_i hl
      cases e
      cases o1 with
      | lst e1 t1 n1 =>
        cases o2 with
        | lst e2 t2 n2 =>
          have l1 := t1.len
          have l2 := t2.len
          refine .inr (.inr (.inl ⟨_, _, _, _, rfl, rfl, e1, e2, by have := big_le; omega, fun p hp => q _ _ (.lst ?_ hp)⟩))
          have p1 := t1.pur hl.2.1
          have p2 := t2.pur hl.2.2
          subst p1; subst p2
          exact t1.app t2
    · cases e
  · obtain ⟨x, y, F, G, rfl, o1, o2⟩ := h.two
    split at e
    · rename_i a b hl
      cases e
      cases o1 with
      | tup e1 t1 =>
        cases o2 with
        | tup e2 t2 =>
          have l1 := t1.len
          have l2 := t2.len
          have p1 := t1.pur hl.2.1
          have p2 := t2.pur hl.2.2
          subst p1; subst p2
          refine .inr (.inr (.inr ⟨_, _, _, _, rfl, rfl, e1.sq, e2.sq, by have := big_le; omega, fun z => ?_, fun _ z => ?_, fun _ _ p o hp hn => q _ _ (.tup (t1.app t2) hp hn)⟩))
          · subst z
            cases t1
            exact q _ _ (.sc (.tup e2 t2))
          · subst z
            cases t2
            rw [List.append_nil] at q
            exact q _ _ (.sc (.tup e1 t1))
    · cases e
  · cases e
theorem pr_sub : PrimR K (u2 (rI0 fun i j => .int (i - j))) pSub := by
  intro vs ds d H Q h e q
  unfold pSub at e
  split at e
  · obtain ⟨x, y, F, G, rfl, o1, o2⟩ := h.two
    cases o1; cases o2; cases e
    exact ⟨_, _, rfl, rfl, q _ _ (.sc (.int _))⟩
  · cases e
def CMulA (i j : Int) : Prop := CMul i j ∨ CMulW i j
theorem CMulA.ok {i j : Int} (h : CMulA i j) : IntMulOk i j := h.elim CMul.ok CMulW.ok
def rMulA (K : PySem.W.Frag) : R2 := fun x y H Q => rI CMulA (fun i j => .int (i * j)) x y H Q ∨ rRep x y H Q ∨ rRepD K x y H Q
theorem op_mulA {X : Cx} : OpR X (binaryOp .Mult) (rMulA X.K) := (opI fun _ _ _ _ _ _ _ hc q => PyProof.Rows.mul_int q hc.ok).or (op_rep.or op_repD)
theorem pr_mul : PrimR K (u2 (rMulA K)) pMul := by
  intro vs ds d H Q h e q
  unfold pMul at e
  split at e
  · obtain ⟨x, y, F, G, rfl, o1, o2⟩ := h.two
    split at e
    · rename_i hm
      cases o1; cases o2; cases e
      refine .inl ⟨_, _, rfl, rfl, ?_, q _ _ (.sc (.int _))⟩
      unfold mulOk at hm
      simp only [Bool.or_eq_true, Bool.and_eq_true, decide_eq_true_eq] at hm
      rcases hm with hm | hm
      · exact .inl hm
      · exact .inr hm
    · cases e
  · obtain ⟨x, y, F, G, rfl, o1, o2⟩ := h.two
    split at e
    · rename_i hm
      cases o2; cases e
      cases o1 with
      | tup e1 t1 =>
        have p1 := t1.pur hm.2.2.2
        subst p1
        have l1 := t1.len
        refine .inr (.inr ⟨_, _, _, rfl, rfl, e1.sq, hm.1, hm.2.1, by omega, fun z => ?_, fun _ _ p o hp hn => q _ _ (.tup (t1.rep _) hp hn)⟩)
        rcases z with z | z
        · subst z
          have e0 := t1.len
          cases t1
          rw [List.flatten_replicate_nil] at q
          exact q _ _ (.sc (.tup e1 .nil))
        · subst z
          simp only [Int.toNat_one, List.replicate_one, List.flatten_singleton] at q
          exact q _ _ (.sc (.tup e1 t1))
    · cases e
  · obtain ⟨x, y, F, G, rfl, o1, o2⟩ := h.two
    split at e
    · rename_i hm
      cases o2; cases e
      cases o1 with
      | lst e1 t1 n1 =>
        have l1 := t1.len
        have p1 := t1.pur hm.2.2.2
        subst p1
        refine .inr (.inl ⟨_, _, _, rfl, rfl, e1, hm.2.1, hm.1, ?_, fun p hp => q _ _ (.lst (t1.rep _) hp)⟩)
        rw [l1]
        exact Nat.le_trans hm.2.2.1 big_le
    · cases e
  · cases e
theorem pr_div : PrimR K (u2 (rI CDivW fun i j => .int (i / j))) pDiv := by
  intro vs ds d H Q h e q
  unfold pDiv at e
  split at e
  · obtain ⟨x, y, F, G, rfl, o1, o2⟩ := h.two
    split at e
    · rename_i hm
      cases o1; cases o2; cases e
      exact ⟨_, _, rfl, rfl, hm, q _ _ (.sc (.int _))⟩
    · cases e
  · cases e
theorem pr_mod : PrimR K (u2 (rI (fun _ j => 0 < j) fun i j => .int (i % j))) pMod := by
  intro vs ds d H Q h e q
  unfold pMod at e
  split at e
  · obtain ⟨x, y, F, G, rfl, o1, o2⟩ := h.two
    split at e
    · rename_i hm
      cases o1; cases o2; cases e
      exact ⟨_, _, rfl, rfl, hm, q _ _ (.sc (.int _))⟩
    · cases e
  · cases e
theorem pr_pow : PrimR K (u2 (rI CPow fun i j => .int (i ^ j.toNat))) pPow := by
  intro vs ds d H Q h e q
  unfold pPow at e
  split at e
  · obtain ⟨x, y, F, G, rfl, o1, o2⟩ := h.two
    split at e
    · rename_i hm
      cases o1; cases o2; cases e
      exact ⟨_, _, rfl, rfl, hm, q _ _ (.sc (.int _))⟩
    · cases e
  · cases e
theorem pr_shl : PrimR K (u2 (rI CPow fun i j => .int (i * 2 ^ j.toNat))) pShl := by
  intro vs ds d H Q h e q
  unfold pShl at e
  split at e
  · obtain ⟨x, y, F, G, rfl, o1, o2⟩ := h.two
    split at e
    · rename_i hm
      cases o1; cases o2; cases e
      exact ⟨_, _, rfl, rfl, hm, q _ _ (.sc (.int _))⟩
    · cases e
  · cases e
theorem pr_neg : PrimR K (u1 (rU fun i => .int (-i))) pNeg := by
  intro vs ds d H Q h e q
  unfold pNeg at e
  split at e
  · obtain ⟨x, F, rfl, o1⟩ := h.one
    cases o1; cases e
    exact ⟨_, rfl, q _ _ (.sc (.int _))⟩
  · cases e
theorem pr_lt : PrimR K (u2 (rI0 fun i j => .bl (decide (i < j)))) pLt := by
  intro vs ds d H Q h e q
  unfold pLt at e
  split at e
  · obtain ⟨x, y, F, G, rfl, o1, o2⟩ := h.two
    cases o1; cases o2; cases e
    exact ⟨_, _, rfl, rfl, q _ _ (.sc (.bl _))⟩
  · cases e
theorem pr_le : PrimR K (u2 (rI0 fun i j => .bl (decide (i ≤ j)))) pLe := by
  intro vs ds d H Q h e q
  unfold pLe at e
  split at e
  · obtain ⟨x, y, F, G, rfl, o1, o2⟩ := h.two
    cases o1; cases o2; cases e
    exact ⟨_, _, rfl, rfl, q _ _ (.sc (.bl _))⟩
  · cases e
theorem pr_gt : PrimR K (u2 (rI0 fun i j => .bl (decide (j < i)))) pGt := by
  intro vs ds d H Q h e q
  unfold pGt at e
  split at e
  · obtain ⟨x, y, F, G, rfl, o1, o2⟩ := h.two
    cases o1; cases o2; cases e
    exact ⟨_, _, rfl, rfl, q _ _ (.sc (.bl _))⟩
  · cases e
theorem pr_ge : PrimR K (u2 (rI0 fun i j => .bl (decide (j ≤ i)))) pGe := by
  intro vs ds d H Q h e q
  unfold pGe at e
  split at e
  · obtain ⟨x, y, F, G, rfl, o1, o2⟩ := h.two
    cases o1; cases o2; cases e
    exact ⟨_, _, rfl, rfl, q _ _ (.sc (.bl _))⟩
  · cases e
theorem pr_eq : PrimR K (u2 (rEqD K)) pEq := by
  intro vs ds d H Q h e q
  unfold pEq at e
  split at e
  · obtain ⟨x, y, F, G, rfl, o1, o2⟩ := h.two
    split at e
    · rename_i hm
      cases e
      simp only [shp, Bool.and_eq_true] at hm
      exact ⟨_, _, o1.dp hm.1.2, o2.dp hm.2.2, hm.1.1, hm.2.1, q _ _ (.sc (.bl _))⟩
    · cases e
  · cases e
theorem pr_ne : PrimR K (u2 (rNeD K)) pNe := by
  intro vs ds d H Q h e q
  unfold pNe at e
  split at e
  · obtain ⟨x, y, F, G, rfl, o1, o2⟩ := h.two
    split at e
    · rename_i hm
      cases e
      simp only [shp, Bool.and_eq_true] at hm
      exact ⟨_, _, o1.dp hm.1.2, o2.dp hm.2.2, hm.1.1, hm.2.1, q _ _ (.sc (.bl _))⟩
    · cases e
  · cases e
theorem isN_of {H : Hp} {d : D} {v : V} {F : List Addr} (o : Own K H d v F) : decide (v = V.non) = isN d := by
  cases o <;> rfl
def rIsA : R2 := fun x y H Q => (y = .non ∧ Q (.bl (decide (x = .non))) H) ∨ (∃ a b, x = .bl a ∧ y = .bl b ∧ Q (.bl (decide (a = b))) H)
theorem op_isA {X : Cx} : OpR X (compareOp .Is) rIsA := op_isN.or op_is_bl
theorem pr_is : PrimR K (u2 rIsA) pIsN := by
  intro vs ds d H Q h e q
  unfold pIsN at e
  split at e
  · obtain ⟨x, y, F, G, rfl, o1, o2⟩ := h.two
    cases o2; cases e
    refine .inl ⟨rfl, ?_⟩
    rw [isN_of o1]
    exact q _ _ (.sc (.bl _))
  · obtain ⟨x, y, F, G, rfl, o1, o2⟩ := h.two
    cases o1; cases o2; cases e
    exact .inr ⟨_, _, rfl, rfl, q _ _ (.sc (.bl _))⟩
  · cases e
theorem eqV_eqv {H : Hp} {a b : D} {x y : V} {F G : List Addr} (o : Own K H a x F) (o2 : Own K H b y G) (h1 : pIn.fl a = true) (h2 : pIn.fl b = true) : eqV x y = PyData.eqv a b ∧ flatV x = true ∧ flatV y = true := by
  cases o <;> simp [pIn.fl] at h1 <;> cases o2 <;> simp [pIn.fl] at h2 <;> refine ⟨?_, rfl, rfl⟩ <;> simp [eqV, PyData.eqv]
theorem inV_any {H : Hp} {a : D} {x : V} {F : List Addr} (o : Own K H a x F) (h1 : pIn.fl a = true) : ∀ {bs : List D} {ys : List V} {G : List Addr}, OwnA K H bs ys G → bs.all pIn.fl = true →
    inV x ys = (bs.any fun z => PyData.eqv z a) ∧ ys.all flatV = true
  | [], _, _, t, _ => by cases t; exact ⟨rfl, rfl⟩
  | d :: ds, _, _, t, h2 => by
    cases t with
    | cons o' t n =>
      rw [List.all_cons, Bool.and_eq_true] at h2
      obtain ⟨h3, h4⟩ := inV_any o h1 t h2.2
      obtain ⟨e1, e2, e3⟩ := eqV_eqv o' o h2.1 h1
      unfold inV at h3 ⊢
      rw [List.any_cons, List.any_cons, e1, h3, List.all_cons, e2, h4]
      exact ⟨rfl, rfl⟩
def rInA (K : PySem.W.Frag) : R2 := fun x y H Q => rInD K x y H Q ∨ rIn K false x y H Q ∨ (∃ i j, x = .str i ∧ y = .str j ∧ Q (.bl (!(Builtin.Str.occurrences j i 0 j.length 1).isEmpty)) H)
theorem op_inA {X : Cx} (hu : X.A.units + 65 < cLine) : OpR X (compareOp .In) (rInA X.K) := (op_inD hu).or (op_in_seq.or op_in_str)
theorem pr_in : PrimR K (u2 (rInA K)) pIn := by
  intro vs ds d H Q h e q
  unfold pIn at e
  split at e
  · obtain ⟨x, y, F, G, rfl, o1, o2⟩ := h.two
    split at e
    · rename_i hm
      cases e
      simp only [shp, Bool.and_eq_true] at hm
      exact .inl ⟨_, _, o1.dp hm.1.2, o2.dp hm.2.2, hm.1.1, hm.2.1, q _ _ (.sc (.bl _))⟩
    · cases e
  · obtain ⟨x, y, F, G, rfl, o1, o2⟩ := h.two
    split at e
    · rename_i hm
      cases e
      cases o2 with
      | tup e2 t2 =>
        obtain ⟨h3, h4⟩ := inV_any o1 hm.1 t2 hm.2
        refine .inr (.inl ⟨_, _, rfl, .inr e2.sq, ?_, h4, ?_⟩)
        · exact (eqV_eqv o1 o1 hm.1 hm.1).2.1
        · rw [if_neg (by simp), h3]
          exact q _ _ (.sc (.bl _))
    · cases e
  · obtain ⟨x, y, F, G, rfl, o1, o2⟩ := h.two
    cases o1; cases o2; cases e
    exact .inr (.inr ⟨_, _, rfl, rfl, q _ _ (.sc (.bl _))⟩)
  · cases e
end
end Sim
namespace Sim
open PySem PySem.Spec L2
def oV (i : Nat) : O := fun s => match (s[i]?).join with
  | some _ => .ok (.slot i) s
  | none => .bad
def oC (d : D) : O := fun s => .ok (.val d) s
def o1 (f : List D → Option D) (a : O) : O := oPrim f (aCons a aNil)
def o2 (f : List D → Option D) (a b : O) : O := oPrim f (aCons a (aCons b aNil))
def tst (g : O) : T := fun s => (g s).bind fun r s1 => match rd r s1 with
  | some (.bool b) => .ok b s1
  | _ => .bad
def oAnd (g h : O) : O := fun s => (g s).bind fun r s1 => match rd r s1 with
  | some (.bool true) => h s1
  | some (.bool false) => .ok (.val (.bool false)) s1
  | _ => .bad
def oOr (g h : O) : O := fun s => (g s).bind fun r s1 => match rd r s1 with
  | some (.bool true) => .ok (.val (.bool true)) s1
  | some (.bool false) => h s1
  | _ => .bad
def oNot (g : O) : O := fun s => (g s).bind fun r s1 => match rd r s1 with
  | some (.bool b) => .ok (.val (.bool (!b))) s1
  | _ => .bad
def tAnd (t u : T) : T := fun s => (t s).bind fun b s1 => if b = true then u s1 else .ok false s1
def tOr (t u : T) : T := fun s => (t s).bind fun b s1 => if b = true then .ok true s1 else u s1
def tNot (t : T) : T := fun s => (t s).bind fun b s1 => .ok (!b) s1
def oIf (c : T) (a b : O) : O := fun s => (c s).bind fun k s1 => if k = true then a s1 else b s1
def oChain (f f' : List D → Option D) (a b c : O) : O := fun s => (a s).bind fun ra s1 => (b s1).bind fun rb s2 => match rds [ra, rb] s2 with
  | none => .bad
  | some ds => match f ds with
    | some (.bool true) => (c s2).bind fun rc s3 => (match rds [rb, rc] s3 with
      | none => .bad
      | some es => match f' es with
        | none => .bad
        | some d => .ok (.val d) s3)
    | some (.bool false) => .ok (.val (.bool false)) s2
    | _ => .bad
/-- a value for oneself: a slot's only where nothing in it may change -/
def own (r : Rf) (s : Sg) : Option D := match r with
  | .val d => some d
  | .slot i => match (s[i]?).join with
    | none => none
    | some d => if pur d = true then some d else none
def owns : List Rf → Sg → Option (List D)
  | [], _ => some []
  | r :: rs, s => match own r s with
    | none => none
    | some d => match owns rs s with
      | none => none
      | some ds => some (d :: ds)
def oTup (g : AL) : O := fun s => (g s).bind fun rs s1 => match owns rs s1 with
  | none => .bad
  | some ds => if ds.length ≤ 1000000 then .ok (.val (.tuple ds)) s1 else .bad
def oLst (g : AL) : O := fun s => (g s).bind fun rs s1 => match owns rs s1 with
  | none => .bad
  | some ds => if ds.length ≤ 1000000 then .ok (.val (.list ds)) s1 else .bad
def puO (o : Option D) : Option D := match o with
  | none => none
  | some d => if pur d = true then some d else none
def pIx : List D → Option D
  | [.list ds, .int i] => puO (atI ds i)
  | [.tuple ds, .int i] => puO (atI ds i)
  | [.dict [(.none, .list ds)], .int i] => puO (atI ds i)
  | [.str z, .int i] => if z.length ≤ 1000000 then (match atI z.cps.toList i with
    | none => none
    | some c => some (.str ⟨#[c]⟩)) else none
  | _ => none
def cutL {α : Type} (xs : List α) (lo hi : Option Int) : List α := (xs.drop (HT.sIx xs.length 0 lo)).take (HT.sIx xs.length xs.length hi - HT.sIx xs.length 0 lo)
def slD : D → Option Int → Option Int → Option D
  | .list ds, lo, hi => if purs ds = true then some (.list (cutL ds lo hi)) else none
  | .tuple ds, lo, hi => if purs ds = true then some (.tuple (cutL ds lo hi)) else none
  | .dict [(.none, .list ds)], lo, hi => some (.list (cutL ds lo hi))
  | .str z, lo, hi => if z.length ≤ 1000000 then some (.str (cutS z lo hi)) else none
  | _, _, _ => none
def prt (p : Option O) : Sg → Res (Option Int) := match p with
  | none => fun s => .ok none s
  | some g => fun s => (g s).bind fun r s1 => match rd r s1 with
    | some (.int i) => .ok (some i) s1
    | _ => .bad
def oSl (g : O) (lo hi : Option O) : O := fun s => (g s).bind fun r s1 => (prt lo s1).bind fun l s2 => (prt hi s2).bind fun u s3 => match rd r s3 with
  | none => .bad
  | some d => match slD d l u with
    | none => .bad
    | some d' => .ok (.val d') s3
section
variable [Tb] [Vs] {X : Cx} {K : PySem.W.Frag} {H : Hp} {σ : St} {Q : VK}
/-- what reads a slot: a name, or a field of the open object -/
def tSl (i : Nat) : TE := fun σ H Q => ∃ v, σ[i]? = some (some v) ∧ Vs.lnk σ H ∧ Q v H
theorem tsl_of {e : Expr} {i : Nat} (h : PE X e (tVar i)) : PE X e (tSl i) := pe_imp h fun _ _ _ ⟨v, a, _, q⟩ => ⟨v, a, q⟩
theorem so_var {i : Nat} {x : Str} {pos : Pos} (h : PE X (.Name x pos) (tVar i)) : SimO X (.Name x pos) (oV i) := by
  refine pe_imp h fun σ H Q h => ?_
  obtain ⟨s, Fs, r, s', R, e, q⟩ := h
  unfold oV at e
  split at e
  · rename_i d hd
    cases e
    obtain ⟨v, hv, o⟩ := R.has i d (join_some hd)
    exact ⟨v, hv, q v H Fs [] R (.refl _ _) (.slot hv) (by intro a h; cases h)⟩
  · cases e
theorem tO_c {d : D} {v : V} (o : ∀ H, Own K H d v []) (h : tO K (oC d) σ H Q) : tC v σ H Q := by
  obtain ⟨s, Fs, r, s', R, e, q⟩ := h
  cases e
  exact q v H Fs [] R (.refl _ _) (.val ⟨o H, fun _ _ _ z => by cases z⟩) (by intro a h; cases h)
theorem so_int {i : Int} {j : Nat} {pos : Pos} : SimO X (.Constant (.int i) j pos) (oC (.int i)) := pe_imp pe_int fun _ _ _ h => tO_c (fun _ => .int i) h
theorem so_bl {b : Bool} {j : Nat} {pos : Pos} : SimO X (.Constant (.bool b) j pos) (oC (.bool b)) := pe_imp pe_bl fun _ _ _ h => tO_c (fun _ => .bl b) h
theorem so_non {j : Nat} {pos : Pos} : SimO X (.Constant .none j pos) (oC .none) := pe_imp pe_non fun _ _ _ h => tO_c (fun _ => .non) h
theorem so_str {x : Str} {j : Nat} {pos : Pos} : SimO X (.Constant (.str x) j pos) (oC (.str x)) := pe_imp pe_str fun _ _ _ h => tO_c (fun _ => .str x) h
variable {a b c : Expr} {ga gb gc : O} {pos : Pos}
theorem so_bin {op : Operator} {r : R2} {f : List D → Option D} (ho : OpR X (binaryOp op) r) (hp : PrimR X.K (u2 r) f) (ha : SimO X a ga) (hb : SimO X b gb) : SimO X (.BinOp a op b pos) (o2 f ga gb) :=
  pe_imp (pe_op ho ha hb) fun _ _ _ h => by have z := tA2 (prim hp h); exact z
theorem so_un {op : UnaryOp} {r : V → Hp → VK → Prop} {f : List D → Option D} (ho : UnR X (unaryOp op) r) (hp : PrimR X.K (u1 r) f) (ha : SimO X a ga) : SimO X (.UnaryOp op a pos) (o1 f ga) :=
  pe_imp (pe_un ho ha) fun _ _ _ h => by have z := tA1 (prim hp h); exact z
theorem so_cmp {op : CmpOp} {r : R2} {f : List D → Option D} (ho : OpR X (compareOp op) r) (hp : PrimR X.K (u2 r) f) (ha : SimO X a ga) (hb : SimO X b gb) (hm : behindInMarks op b = false) : SimO X (.Compare a [op] [b] pos) (o2 f ga gb) :=
  pe_imp (pe_cmpR ho ha hb hm) fun _ _ _ h => by have z := tA2 (prim hp h); exact z
theorem tT_tst {g : O} {Q : Bool → Hp → Prop} (h : tT K (tst g) σ H Q) : tO K g σ H fun x H1 => ∃ k, x = .bl k ∧ Q k H1 := by
  obtain ⟨s, Fs, b, s', R, e, q⟩ := h
  obtain ⟨r, s1, e1, e⟩ := bind_inv e
  refine ⟨s, Fs, r, s1, R, e1, fun v H1 Fs1 F R1 E1 k1 n1 => ?_⟩
  split at e
  · rename_i b' hb
    cases e
    obtain ⟨F', o⟩ := k1.dp R1 hb
    cases o
    exact ⟨_, rfl, q H1 Fs1 R1 E1⟩
  · cases e
theorem st_cmp {op : CmpOp} {r : R2} {f : List D → Option D} (ho : OpR X (compareOp op) r) (hp : PrimR X.K (u2 r) f) (ha : SimO X a ga) (hb : SimO X b gb) (hm : behindInMarks op b = false) : SimT X (.Compare a [op] [b] pos) (tst (o2 f ga gb)) :=
  pt_imp (pt_cmpR ho ha hb hm) fun _ _ _ h => by have z := tA2 (prim hp (tT_tst h)); exact z
theorem tT_and {t u : T} {Q : Bool → Hp → Prop} (h : tT K (tAnd t u) σ H Q) : L2.tAnd (tT K t) (tT K u) σ H Q := by
  obtain ⟨s, Fs, b, s', R, e, q⟩ := h
  obtain ⟨b1, s1, e1, e⟩ := bind_inv e
  refine ⟨s, Fs, b1, s1, R, e1, fun H1 Fs1 R1 E1 => ?_⟩
  cases b1 with
  | true => exact ⟨s1, Fs1, b, s', R1, e, fun H2 Fs2 R2 E2 => q H2 Fs2 R2 (E1.trans E2)⟩
  | false => cases e; exact q H1 Fs1 R1 E1
theorem tT_or {t u : T} {Q : Bool → Hp → Prop} (h : tT K (tOr t u) σ H Q) : L2.tOr (tT K t) (tT K u) σ H Q := by
  obtain ⟨s, Fs, b, s', R, e, q⟩ := h
  obtain ⟨b1, s1, e1, e⟩ := bind_inv e
  refine ⟨s, Fs, b1, s1, R, e1, fun H1 Fs1 R1 E1 => ?_⟩
  cases b1 with
  | false => exact ⟨s1, Fs1, b, s', R1, e, fun H2 Fs2 R2 E2 => q H2 Fs2 R2 (E1.trans E2)⟩
  | true => cases e; exact q H1 Fs1 R1 E1
theorem tT_not {t : T} {Q : Bool → Hp → Prop} (h : tT K (tNot t) σ H Q) : L2.tNot (tT K t) σ H Q := by
  obtain ⟨s, Fs, b, s', R, e, q⟩ := h
  obtain ⟨b1, s1, e1, e⟩ := bind_inv e
  refine ⟨s, Fs, b1, s1, R, e1, fun H1 Fs1 R1 E1 => ?_⟩
  cases e
  exact q H1 Fs1 R1 E1
/-- and, or, whatever the whole is -/
def SimW (X : Cx) (e : Expr) (g : T) : Prop := PW X e (tT X.K g)
theorem pw_imp {e : Expr} {t t' : TT} (h : PW X e t) (i : ∀ σ H Q, t' σ H Q → t σ H Q) : PW X e t' := ⟨fun wh pins s σ H Q I q => h.run wh pins s σ H Q I (i σ H Q q)⟩
theorem sw_and1 {t : T} (ha : SimT X a t) : SimW X (.BoolOp .And [a] pos) t := pw_and1 ha
theorem sw_or1 {t : T} (ha : SimT X a t) : SimW X (.BoolOp .Or [a] pos) t := pw_or1 ha
theorem sw_and {rest : List Expr} {t u : T} (ha : SimT X a t) (hb : SimW X (.BoolOp .And (b :: rest) pos) u) : SimW X (.BoolOp .And (a :: b :: rest) pos) (tAnd t u) := pw_imp (pw_and ha hb) fun _ _ _ h => tT_and h
theorem sw_or {rest : List Expr} {t u : T} (ha : SimT X a t) (hb : SimW X (.BoolOp .Or (b :: rest) pos) u) : SimW X (.BoolOp .Or (a :: b :: rest) pos) (tOr t u) := pw_imp (pw_or ha hb) fun _ _ _ h => tT_or h
theorem st_w {e : Expr} {t : T} (h : SimW X e t) : SimT X e t := PW.pt h
theorem st_not {t : T} (ha : SimT X a t) : SimT X (.UnaryOp .Not a pos) (tNot t) := pt_imp (pt_not ha) fun _ _ _ h => tT_not h
theorem tO_and {g h : O} (z : tO K (oAnd g h) σ H Q) : tAndV (tO K g) (tO K h) σ H Q := by
  obtain ⟨s, Fs, r, s', R, e, q⟩ := z
  obtain ⟨r1, s1, e1, e⟩ := bind_inv e
  refine ⟨s, Fs, r1, s1, R, e1, fun v H1 Fs1 F R1 E1 k1 n1 => ?_⟩
  split at e
  · rename_i hb
    obtain ⟨F', o⟩ := k1.dp R1 hb
    cases o
    exact ⟨true, rfl, s1, Fs1, r, s', R1, e, fun v H2 Fs2 F2 R2 E2 k2 n2 => q v H2 Fs2 F2 R2 (E1.trans E2) k2 fun a ha => E1.chg.there a (n2 a ha)⟩
  · rename_i hb
    obtain ⟨F', o⟩ := k1.dp R1 hb
    cases o
    cases e
    exact ⟨false, rfl, q _ H1 Fs1 [] R1 E1 (.val ⟨.bl _, fun _ _ _ z => by cases z⟩) (by intro a h; cases h)⟩
  · cases e
theorem tO_not {g : O} (z : tO K (oNot g) σ H Q) : tNotV (tO K g) σ H Q := by
  obtain ⟨s, Fs, r, s', R, e, q⟩ := z
  obtain ⟨r1, s1, e1, e⟩ := bind_inv e
  refine ⟨s, Fs, r1, s1, R, e1, fun v H1 Fs1 F R1 E1 k1 n1 => ?_⟩
  split at e
  · rename_i b hb
    obtain ⟨F', o⟩ := k1.dp R1 hb
    cases o
    cases e
    exact ⟨b, rfl, q _ H1 Fs1 [] R1 E1 (.val ⟨.bl _, fun _ _ _ z => by cases z⟩) (by intro a h; cases h)⟩
  · cases e
theorem so_one {op : BoolOp} (h : SimO X a ga) : SimO X (.BoolOp op [a] pos) ga := pe_one h
theorem so_and {rest : List Expr} (ha : SimO X a ga) (hb : SimO X (.BoolOp .And (b :: rest) pos) gb) : SimO X (.BoolOp .And (a :: b :: rest) pos) (oAnd ga gb) := pe_imp (pe_and ha hb) fun _ _ _ h => tO_and h
theorem so_not (ha : SimO X a ga) : SimO X (.UnaryOp .Not a pos) (oNot ga) := pe_imp (pe_not ha) fun _ _ _ h => tO_not h
theorem rfs2 {Fs : Fp} {r1 r2 : Rf} {x y : V} {F G : List Addr} (k1 : RfOk K H σ Fs r1 x F) (k2 : RfOk K H σ Fs r2 y G) {s : Sg} (R : RelS K H s σ Fs) {ds : List D} (e : rds [r1, r2] s = some ds) : RdA K H [x, y] ds := by
  unfold rds at e
  split at e
  · cases e
  · rename_i d1 h1
    split at e
    · cases e
    · rename_i es h2
      cases e
      obtain ⟨F1, o1⟩ := k1.dp R h1
      unfold rds at h2
      split at h2
      · cases h2
      · rename_i d2 h3
        cases h2
        obtain ⟨F2, o2⟩ := k2.dp R h3
        exact .cons o1 (.cons o2 .nil)
theorem tO_chain {r r' : R2} {f f' : List D → Option D} (hp : PrimR K (u2 r) f) (hp' : PrimR K (u2 r') f') (z : tO K (oChain f f' ga gb gc) σ H Q) : tChain r r' (tO K ga) (tO K gb) (tO K gc) σ H Q := by
  obtain ⟨s, Fs, rf, s', R, e, q⟩ := z
  obtain ⟨r1, s1, e1, e⟩ := bind_inv e
  refine ⟨s, Fs, r1, s1, R, e1, fun x H1 Fs1 F1 R1 E1 k1 n1 => ?_⟩
  obtain ⟨r2, s2, e2, e⟩ := bind_inv e
  refine ⟨s1, Fs1, r2, s2, R1, e2, fun y H2 Fs2 F2 R2 E2 k2 n2 => ?_⟩
  split at e
  · cases e
  · rename_i ds hds
    have rr := rfs2 (k1.ev E2) k2 R2 hds
    split at e
    · rename_i hf
      refine hp [x, y] ds _ H2 _ rr hf fun v H3 hv => ?_
      obtain ⟨R3, E3, F3, k3, n3⟩ := hv.ok R2
      cases k3 with
      | val A3 =>
        cases A3.own
        refine ⟨true, rfl, iteT ?_⟩
        obtain ⟨r4, s4, e4, e⟩ := bind_inv e
        refine ⟨s2, Fs2, r4, s4, R3, e4, fun w H4 Fs4 F4 R4 E4 k4 n4 => ?_⟩
        split at e
        · cases e
        · rename_i es hes
          split at e
          · cases e
          · rename_i d hd
            cases e
            have rr' := rfs2 ((k2.ev E3).ev E4) k4 R4 hes
            refine hp' [y, w] es d H4 Q rr' hd fun v H5 hv => ?_
            obtain ⟨R5, E5, F5, k5, n5⟩ := hv.ok R4
            exact q v H5 Fs4 F5 R5 ((((E1.trans E2).trans E3).trans E4).trans E5) k5 fun a ha => (((E1.trans E2).trans E3).trans E4).chg.there a (n5 a ha)
    · rename_i hf
      cases e
      refine hp [x, y] ds _ H2 _ rr hf fun v H3 hv => ?_
      obtain ⟨R3, E3, F3, k3, n3⟩ := hv.ok R2
      have k3' := k3
      cases k3 with
      | val A3 =>
        cases A3.own
        exact ⟨false, rfl, iteF (q _ H3 Fs2 _ R3 ((E1.trans E2).trans E3) k3' (by intro a h; cases h))⟩
    · cases e
theorem st_chain {op op' : CmpOp} {r r' : R2} {f f' : List D → Option D} (ho : OpR X (compareOp op) r) (hp : PrimR X.K (u2 r) f) (ho' : OpR X (compareOp op') r') (hp' : PrimR X.K (u2 r') f') (ha : SimO X a ga) (hb : SimO X b gb) (hc : SimO X c gc)
    (hm : lastMarks [op, op'] [b, c] = false := by with_unfolding_all rfl) : SimT X (.Compare a [op, op'] [b, c] pos) (tst (oChain f f' ga gb gc)) := pt_imp (pt_chain ho ho' ha hb hc hm) fun _ _ _ h => by have z := tO_chain hp hp' (tT_tst h); exact z
theorem Rfs.own {s : Sg} {Fs : Fp} (R : RelS K H s σ Fs) {rs : List Rf} {vs : List V} {Gs : List (List Addr)} (r : Rfs K H σ Fs rs vs Gs) : ∀ {ds : List D}, owns rs s = some ds → OwnA K H ds vs Gs.flatten ∧ ∀ i a, a ∈ Fs i → a ∉ Gs.flatten := by
  induction r with
  | nil => intro ds e; cases e; exact ⟨.nil, by simp⟩
  | @val d v F rs vs Gs A n _ ih =>
    intro ds e
    unfold owns at e
    simp only [Sim.own] at e
    split at e
    · cases e
    · rename_i es h
      cases e
      obtain ⟨h1, h2⟩ := ih h
      rw [List.flatten_cons]
      refine ⟨.cons A.own h1 fun a ha hb => ?_, fun i a hi ha => ?_⟩
      · obtain ⟨G, hG, hb⟩ := List.mem_flatten.mp hb
        exact n G hG a ha hb
      · rcases List.mem_append.mp ha with ha | ha
        · exact A.dis i a hi ha
        · exact h2 i a hi ha
  | @slot i v rs vs Gs hv _ ih =>
    intro ds e
    unfold owns at e
    simp only [Sim.own] at e
    split at e
    · cases e
    · rename_i d hd
      split at e
      · cases e
      · rename_i es h
        cases e
        split at hd
        · cases hd
        · rename_i d' hd'
          split at hd
          · rename_i hp
            cases hd
            obtain ⟨h1, h2⟩ := ih h
            obtain ⟨v', hv', o⟩ := R.has i d (join_some hd')
            rw [hv] at hv'
            cases hv'
            have e0 := o.pur hp
            rw [e0] at o
            rw [List.flatten_cons]
            exact ⟨OwnA.cons (F := []) o h1 (by simp), h2⟩
          · cases hd
theorem tO_tup {g : AL} (z : tO K (oTup g) σ H Q) : tTupD (tA K g) σ H Q := by
  obtain ⟨s, Fs, rf, s', R, e, q⟩ := z
  obtain ⟨rs, s1, e1, e⟩ := bind_inv e
  refine ⟨s, Fs, rs, s1, R, e1, fun vs H1 Fs1 Gs R1 E1 k1 n1 => ?_⟩
  split at e
  · cases e
  · rename_i ds hds
    split at e
    · rename_i hl
      cases e
      obtain ⟨o, dj⟩ := k1.own R1 hds
      refine ⟨by rw [o.len]; exact Nat.le_trans hl big_le, fun p ob hp hn => ?_⟩
      have sm : Same H1 (upd H1 p (.frz ob (.tup vs))) := same_new hp
      refine q _ _ Fs1 Gs.flatten (R1.same sm) (E1.trans (.same _ sm)) (.val ⟨.tup (SqD.of upd_same hn) (o.chg (Fa := fun _ => False) (.same sm) fun _ _ z => z), dj⟩) fun a ha => ?_
      obtain ⟨G, hG, hb⟩ := List.mem_flatten.mp ha
      exact n1 G hG a hb
    · cases e
theorem tO_lst {g : AL} (z : tO K (oLst g) σ H Q) : tLst (tA K g) σ H Q := by
  obtain ⟨s, Fs, rf, s', R, e, q⟩ := z
  obtain ⟨rs, s1, e1, e⟩ := bind_inv e
  refine ⟨s, Fs, rs, s1, R, e1, fun vs H1 Fs1 Gs R1 E1 k1 n1 => ?_⟩
  split at e
  · cases e
  · rename_i ds hds
    split at e
    · rename_i hl
      cases e
      obtain ⟨o, dj⟩ := k1.own R1 hds
      refine ⟨by rw [o.len]; exact Nat.le_trans hl big_le, fun p hp => ?_⟩
      have sm : Same H1 (upd H1 p (.lst vs)) := same_new hp
      have np : p ∉ Gs.flatten := fun z => by
        obtain ⟨xs, w⟩ := o.mem p z
        rw [hp] at w; cases w
      refine q _ _ Fs1 (p :: Gs.flatten) (R1.same sm) (E1.trans (.same _ sm)) (.val ⟨.lst upd_same (o.chg (Fa := fun _ => False) (.same sm) fun _ _ z => z) np, fun i a hi ha => ?_⟩) fun a ha => ?_
      · rcases List.mem_cons.mp ha with rfl | ha
        · obtain ⟨xs, w⟩ := R1.mem hi
          rw [hp] at w; cases w
        · exact dj i a hi ha
      · rcases List.mem_cons.mp ha with rfl | ha
        · exact E1.chg.there _ hp
        · obtain ⟨G, hG, hb⟩ := List.mem_flatten.mp ha
          exact n1 G hG a hb
    · cases e
theorem so_tup {es : List Expr} {k : Nat} {g : AL} (h : SimA X es g) : SimO X (.Tuple es k pos) (oTup g) := pe_imp (pe_tupD h) fun _ _ _ h => tO_tup h
theorem so_lst {es : List Expr} {g : AL} (h : SimA X es g) : SimO X (.List es pos) (oLst g) := pe_imp (pe_lst h) fun _ _ _ h => tO_lst h
theorem atI_own {ds : List D} {vs : List V} {F : List Addr} (t : OwnA K H ds vs F) {i : Int} {d : D} (e : puO (atI ds i) = some d) : ∃ v, atI vs i = some v ∧ Own K H d v [] ∧ pur d = true := by
  unfold puO at e
  split at e
  · cases e
  · rename_i d' h
    split at e
    · rename_i hp
      cases e
      unfold atI at h ⊢
      rw [t.len]
      cases hj : ixN ds.length i with
      | none => rw [hj] at h; cases h
      | some j =>
        rw [hj] at h
        obtain ⟨v, G, hv, o, _⟩ := t.get j d h
        have e0 := o.pur hp
        rw [e0] at o
        exact ⟨v, hv, o, hp⟩
    · cases e
theorem pr_ix : PrimR K (u2 (rIx K)) pIx := by
  intro vs ds d H Q h e q
  unfold pIx at e
  split at e
  · obtain ⟨x, y, F, G, rfl, o1, o2⟩ := h.two
    cases o2
    cases o1 with
    | lst h1 t n =>
      obtain ⟨v, hv, o, hp⟩ := atI_own t e
      exact .inl ⟨_, _, _, v, rfl, rfl, SqL.of h1, hv, q _ _ (.sc o)⟩
  · obtain ⟨x, y, F, G, rfl, o1, o2⟩ := h.two
    cases o2
    cases o1 with
    | tup h1 t =>
      obtain ⟨v, hv, o, hp⟩ := atI_own t e
      exact .inr (.inl ⟨_, _, _, v, rfl, rfl, h1.sq, hv, q _ _ (.sc o)⟩)
  · obtain ⟨x, y, F, G, rfl, o1, o2⟩ := h.two
    cases o2
    cases o1 with
    | frz h1 t =>
      obtain ⟨v, hv, o, hp⟩ := atI_own t e
      exact .inl ⟨_, _, _, v, rfl, rfl, h1.sq, hv, q _ _ (.sc o)⟩
  · obtain ⟨x, y, F, G, rfl, o1, o2⟩ := h.two
    cases o2; cases o1
    split at e
    · rename_i hz
      split at e
      · cases e
      · rename_i c hc
        cases e
        exact .inr (.inr ⟨_, _, c, rfl, rfl, Nat.le_trans hz big_le, hc, q _ _ (.sc (.str _))⟩)
    · cases e
  · cases e
theorem so_ix (ha : SimO X a ga) (hb : SimO X b gb) (hs : PlainIx b := by exact fun _ _ => rfl) : SimO X (.Subscript a b pos) (o2 pIx ga gb) := pe_imp (pe_ix ix_seq ha hb hs) fun _ _ _ h => by have z := tA2 (prim pr_ix h); exact z
def SimP (X : Cx) (e : Option Expr) (p : Option O) : Prop :=
  PO X e fun σ H Q => ∃ s Fs o s', RelS X.K H s σ Fs ∧ prt p s = .ok o s' ∧ ∀ H' Fs', RelS X.K H' s' σ Fs' → Ev H Fs H' Fs' → Q o H'
theorem po_imp {e : Option Expr} {t t' : TO} (h : PO X e t) (i : ∀ σ H Q, t' σ H Q → t σ H Q) : PO X e t' := ⟨fun pins s σ H Q I q => h.run pins s σ H Q I (i σ H Q q)⟩
theorem sp_none : SimP X none none := po_imp po_none fun σ H Q ⟨s, Fs, o, s', R, e, q⟩ => by
  cases e
  exact q H Fs R (.refl _ _)
theorem sp_some (ha : SimO X a ga) : SimP X (some a) (some ga) := po_imp (po_some ha) fun σ H Q ⟨s, Fs, o, s', R, e, q⟩ => by
  obtain ⟨r, s1, e1, e⟩ := bind_inv e
  refine ⟨s, Fs, r, s1, R, e1, fun v H1 Fs1 F R1 E1 k1 n1 => ?_⟩
  split at e
  · rename_i i hb
    cases e
    obtain ⟨F', o⟩ := k1.dp R1 hb
    cases o
    exact ⟨_, rfl, q H1 Fs1 R1 E1⟩
  · cases e
def rSlAll (K : PySem.W.Frag) : V → Option Int → Option Int → Hp → VK → Prop := fun x lo hi H Q => rSlL K x lo hi H Q ∨ rSlD K x lo hi H Q ∨ rSlS x lo hi H Q
theorem cutL_whole {α : Type} {xs : List α} {lo hi : Option Int} (h : HT.sIx xs.length 0 lo = 0 ∧ HT.sIx xs.length xs.length hi = xs.length) : cutL xs lo hi = xs := by
  unfold cutL
  rw [h.1, h.2]
  simp
theorem OwnA.cut {ds : List D} {vs : List V} (t : OwnA K H ds vs []) (lo hi : Option Int) : OwnA K H (cutL ds lo hi) (cutV vs lo hi) [] := by
  unfold cutL cutV
  rw [t.len]
  exact (t.drop _).take _
theorem sl_all {d d' : D} {l u : Option Int} {v : V} {F : List Addr} (o : Own K H d v F) (e : slD d l u = some d') (q : ∀ v H', NewV K H d' v H' → Q v H') : rSlAll K v l u H Q := by
  unfold slD at e
  split at e
  · split at e
    · rename_i hp
      cases e
      cases o with
      | lst h1 t n =>
        have e0 := t.pur hp
        subst e0
        exact .inl ⟨_, _, rfl, SqL.of h1, fun p hp => q _ _ (.lst (t.cut l u) hp)⟩
    · cases e
  · split at e
    · rename_i hp
      cases e
      cases o with
      | tup h1 t =>
        have e0 := t.pur hp
        subst e0
        refine .inr (.inl ⟨_, _, rfl, h1.sq, fun hw => q _ _ (.sc ?_), fun _ p ob hp hn => q _ _ (.tup (t.cut l u) hp hn)⟩)
        rw [t.len] at hw
        rw [cutL_whole hw]
        exact .tup h1 t
    · cases e
  · cases e
    cases o with
    | frz h1 t => exact .inl ⟨_, _, rfl, h1.sq, fun p hp => q _ _ (.lst (t.cut l u) hp)⟩
  · split at e
    · rename_i hz
      cases e
      cases o
      exact .inr (.inr ⟨_, rfl, Nat.le_trans hz big_le, q _ _ (.sc (.str _))⟩)
    · cases e
  · cases e
theorem so_slice {lo hi : Option Expr} {l u : Option O} {p2 : Pos} (ha : SimO X a ga) (hl : SimP X lo l) (hu : SimP X hi u) : SimO X (.Subscript a (.Slice lo hi none p2) pos) (oSl ga l u) := by
  refine pe_imp (pe_slice (r := rSlAll X.K) (sl_list.or (sl_tupD.or sl_str)) ha hl hu) fun σ H Q z => ?_
  obtain ⟨s, Fs, rf, s', R, e, q⟩ := z
  obtain ⟨r, s1, e1, e⟩ := bind_inv e
  refine ⟨s, Fs, r, s1, R, e1, fun v H1 Fs1 F R1 E1 k1 n1 => ?_⟩
  obtain ⟨l', s2, e2, e⟩ := bind_inv e
  refine ⟨s1, Fs1, l', s2, R1, e2, fun H2 Fs2 R2 E2 => ?_⟩
  obtain ⟨u', s3, e3, e⟩ := bind_inv e
  refine ⟨s2, Fs2, u', s3, R2, e3, fun H3 Fs3 R3 E3 => ?_⟩
  split at e
  · cases e
  · rename_i d hd
    split at e
    · cases e
    · rename_i d' hd'
      cases e
      obtain ⟨F', o⟩ := ((k1.ev E2).ev E3).dp R3 hd
      refine sl_all o hd' fun v' H4 hv => ?_
      obtain ⟨R4, E4, F4, k4, n4⟩ := hv.ok R3
      exact q v' H4 Fs3 F4 R4 (((E1.trans E2).trans E3).trans E4) k4 fun a ha => ((E1.trans E2).trans E3).chg.there a (n4 a ha)
theorem so_callB {x : Str} {p : Pos} {e : Expr} {es : List Expr} {g : AL} {id : String} {r : List V → Hp → VK → Prop} {f : List D → Option D} (hc : CallR X (.builtin id) r) (hp : PrimR X.K r f) (hg : Gl X x) (hm : X.mg x = none) (hv : bootBuiltins x = some (.builtin id)) (ha : SimA X (e :: es) g)
    (hn : x ≠ "__name__" := by decide) (hdb : (x == ("__debug__" : Str)) = false := by decide) (he : starEach (e :: es) X.env = (false, eval e X.env) :: starEach es X.env := by rfl) (hpl : (backTo pos (starEach es X.env)).any (·.1) = false := by rfl) :
    SimO X (.Call (.Name x p) (e :: es) [] pos) (oPrim f g) := pe_imp (pe_callB hc hg hm hv ha hn hdb he hpl) fun _ _ _ h => prim hp h
theorem so_callTy {x : Str} {p : Pos} {e : Expr} {es : List Expr} {g : AL} {T : String} {r : List V → Hp → VK → Prop} {f : List D → Option D} (hc : CallR X (.type T) r) (hp : PrimR X.K r f) (hg : Gl X x) (hm : X.mg x = none) (hv : bootBuiltins x = some (.type T)) (ha : SimA X (e :: es) g)
    (hn : x ≠ "__name__" := by decide) (hdb : (x == ("__debug__" : Str)) = false := by decide) (he : starEach (e :: es) X.env = (false, eval e X.env) :: starEach es X.env := by rfl) (hpl : (backTo pos (starEach es X.env)).any (·.1) = false := by rfl) :
    SimO X (.Call (.Name x p) (e :: es) [] pos) (oPrim f g) := pe_imp (pe_callTy hc hg hm hv ha hn hdb he hpl) fun _ _ _ h => prim hp h
end
end Sim
namespace Sim
open PySem PySem.Spec L2
def upF (Fs : Fp) (i : Nat) (F : List Addr) : Fp := fun j => if j = i then F else Fs j
def Lk (lk : Nat → Bool) (σ σ' : St) : Prop := ∀ i, lk i = true → σ'[i]? = σ[i]?
theorem Lk.refl (lk : Nat → Bool) (σ : St) : Lk lk σ σ := fun _ _ => rfl
theorem Lk.trans {lk : Nat → Bool} {σ σ1 σ' : St} (a : Lk lk σ σ1) (b : Lk lk σ1 σ') : Lk lk σ σ' := fun i h => (b i h).trans (a i h)
theorem Lk.set {lk : Nat → Bool} {σ : St} {i : Nat} {v : Option V} (h : lk i = false) : Lk lk σ (σ.set i v) := fun j hj => by
  rw [List.getElem?_set_ne]
  intro e
  subst e
  rw [h] at hj
  cases hj
section
variable [Tb] [Vs] {K : PySem.W.Frag} {H H1 H' : Hp} {s s' : Sg} {σ σ' : St} {Fs Fs1 Fs' : Fp}
/-- a slot gets what stands apart -/
theorem RelS.put (R : RelS K H s σ Fs) {d : D} {v : V} {F : List Addr} (A : Apart K H Fs d v F) (i : Nat) (ko : Vs.ok i) : ∃ Fs', RelS K H (s.set i (some d)) (σ.set i (some v)) Fs' ∧ ∀ j a, a ∈ Fs' j → (a ∈ Fs j ∧ j ≠ i) ∨ (a ∈ F ∧ j = i) := by
  by_cases hi : i < s.length
  · refine ⟨upF Fs i F, ⟨by rw [List.length_set, List.length_set, R.len], fun j d' e => ?_, fun j h => ?_, fun j k a h1 h2 => ?_, ⟨(Vs.put ko).mpr R.lnk.1, R.lnk.2⟩, fun j h d' e => ?_⟩, fun j a h => ?_⟩
    · by_cases hj : j = i
      · subst hj
        rw [List.getElem?_set_self hi] at e
        cases e
        refine ⟨v, by rw [List.getElem?_set_self (by rw [← R.len]; exact hi)], ?_⟩
        unfold upF
        rw [if_pos rfl]
        exact A.own
      · rw [List.getElem?_set_ne (Ne.symm hj)] at e
        obtain ⟨v', hv', o⟩ := R.has j d' e
        refine ⟨v', by rw [List.getElem?_set_ne (Ne.symm hj)]; exact hv', ?_⟩
        unfold upF
        rw [if_neg hj]
        exact o
    · unfold upF
      by_cases hj : j = i
      · subst hj
        exact absurd (List.getElem?_set_self hi) (h d)
      · rw [if_neg hj]
        exact R.off j fun d' e => h d' (by rw [List.getElem?_set_ne (Ne.symm hj)]; exact e)
    · unfold upF at h1 h2
      split at h1
      · split at h2
        · omega
        · exact absurd h1 (A.dis k a h2)
      · split at h2
        · exact absurd h2 (A.dis j a h1)
        · exact R.dis j k a h1 h2
    · by_cases hj : j = i
      · subst hj
        exact h (Vs.nil ko)
      · rw [List.getElem?_set_ne (Ne.symm hj)] at e
        exact R.bse j h d' e
    · unfold upF at h
      split at h
      · exact .inr ⟨h, by assumption⟩
      · exact .inl ⟨h, by assumption⟩
  · have e1 : s.set i (some d) = s := by rw [List.set_eq_of_length_le (by omega)]
    have e2 : σ.set i (some v) = σ := by rw [List.set_eq_of_length_le (by rw [← R.len]; omega)]
    rw [e1, e2]
    refine ⟨Fs, R, fun j a h => .inl ⟨h, ?_⟩⟩
    rintro rfl
    rw [R.off j (fun d e => by rw [List.getElem?_eq_none (by omega)] at e; cases e), Vs.nil ko] at h
    cases h
theorem RelS.fp0 (R : RelS K H s σ Fs) {i : Nat} {d0 : D} (e0 : s[i]? = some (some d0)) : Vs.fp i = [] := by
  cases e : Vs.fp i with
  | nil => rfl
  | cons a l => exact absurd e0 (R.bse i (by rw [e]; intro z; cases z) d0)
/-- what it held is told of a slot anew -/
theorem RelS.reput (R : RelS K H s σ Fs) {d : D} {v : V} {F : List Addr} (A : Apart K H Fs d v F) (i : Nat) (hv : σ[i]? = some (some v)) (fp : Vs.fp i = []) : ∃ Fs', RelS K H (s.set i (some d)) σ Fs' ∧ ∀ j a, a ∈ Fs' j → (a ∈ Fs j ∧ j ≠ i) ∨ (a ∈ F ∧ j = i) := by
  have hi : i < s.length := by rw [R.len]; exact (List.getElem?_eq_some_iff.mp hv).1
  refine ⟨upF Fs i F, ⟨by rw [List.length_set, R.len], fun j d' e => ?_, fun j h => ?_, fun j k a h1 h2 => ?_, R.lnk, fun j h d' e => ?_⟩, fun j a h => ?_⟩
  · by_cases hj : j = i
    · subst hj
      rw [List.getElem?_set_self hi] at e
      cases e
      refine ⟨v, hv, ?_⟩
      unfold upF
      rw [if_pos rfl]
      exact A.own
    · rw [List.getElem?_set_ne (Ne.symm hj)] at e
      obtain ⟨v', hv', o⟩ := R.has j d' e
      refine ⟨v', hv', ?_⟩
      unfold upF
      rw [if_neg hj]
      exact o
  · unfold upF
    by_cases hj : j = i
    · subst hj
      exact absurd (List.getElem?_set_self hi) (h d)
    · rw [if_neg hj]
      exact R.off j fun d' e => h d' (by rw [List.getElem?_set_ne (Ne.symm hj)]; exact e)
  · unfold upF at h1 h2
    split at h1
    · split at h2
      · omega
      · exact absurd h1 (A.dis k a h2)
    · split at h2
      · exact absurd h2 (A.dis j a h1)
      · exact R.dis j k a h1 h2
  · by_cases hj : j = i
    · subst hj
      exact h fp
    · rw [List.getElem?_set_ne (Ne.symm hj)] at e
      exact R.bse j h d' e
  · unfold upF at h
    split at h
    · exact .inr ⟨h, by assumption⟩
    · exact .inl ⟨h, by assumption⟩
theorem RelS.lnkC (R : RelS K H s σ Fs) {Fa : Addr → Prop} (c : Chg Fa H H') (n : ∀ i a, a ∈ Vs.fp i → ¬ Fa a) : Lk2 σ H' := R.lnk' (fun i a ha => by
  obtain ⟨m, e⟩ := Vs.mem R.lnk.1 ha
  rw [e]
  exact c.mo e (n i a ha)) (c.tab R.lnk.2)
/-- a slot is emptied -/
theorem RelS.drop (R : RelS K H s σ Fs) (i : Nat) {d0 : D} (e0 : s[i]? = some (some d0)) : RelS K H (s.set i none) σ (upF Fs i []) := by
  have fp0 := R.fp0 e0
  refine ⟨by rw [List.length_set, R.len], fun j d' e => ?_, fun j h => ?_, fun j k a h1 h2 => ?_, R.lnk, fun j h d' e => ?_⟩
  · by_cases hj : j = i
    · subst hj
      by_cases hi : j < s.length
      · rw [List.getElem?_set_self hi] at e; cases e
      · rw [List.getElem?_eq_none (by rw [List.length_set]; omega)] at e; cases e
    · rw [List.getElem?_set_ne (Ne.symm hj)] at e
      obtain ⟨v', hv', o⟩ := R.has j d' e
      refine ⟨v', hv', ?_⟩
      unfold upF
      rw [if_neg hj]
      exact o
  · unfold upF
    by_cases hj : j = i
    · rw [if_pos hj, hj, fp0]
    · rw [if_neg hj]
      exact R.off j fun d' e => h d' (by rw [List.getElem?_set_ne (Ne.symm hj)]; exact e)
  · unfold upF at h1 h2
    split at h1
    · cases h1
    · split at h2
      · cases h2
      · exact R.dis j k a h1 h2
  · by_cases hj : j = i
    · rw [hj] at h
      exact h fp0
    · rw [List.getElem?_set_ne (Ne.symm hj)] at e
      exact R.bse j h d' e
/-- the list of a slot is written -/
theorem RelS.wr (R : RelS K H s σ Fs) {i : Nat} {ds ds' : List D} {l : Addr} {vs vs' : List V} {F F' Fd : List Addr} (e : s[i]? = some (some (.list ds))) (ev : σ[i]? = some (some (.ref l))) (hl : H l = some (.lst vs)) (eF : Fs i = l :: F)
    (o : OwnA K H ds' vs' F') (n : l ∉ F') (hF : ∀ a, a ∈ F' → a ∈ F ∨ a ∈ Fd) (hd : ∀ j a, a ∈ Fs j → a ∉ Fd) :
    ∃ Fs', RelS K (upd H l (.lst vs')) (s.set i (some (.list ds'))) σ Fs' ∧ Chg (InF Fs) H (upd H l (.lst vs')) ∧ ∀ j a, a ∈ Fs' j → a ∈ Fs j ∨ a ∈ Fd := by
  have hi : i < s.length := by
    rcases Nat.lt_or_ge i s.length with h | h
    · exact h
    · rw [List.getElem?_eq_none h] at e; cases e
  have li : l ∈ Fs i := by rw [eF]; exact List.mem_cons_self ..
  have chg : Chg (fun a => a = l) H (upd H l (.lst vs')) := .upd1 (m := .lst _) hl
  refine ⟨upF Fs i (l :: F'), ⟨by rw [List.length_set, R.len], fun j d' e' => ?_, fun j h => ?_, fun j k a h1 h2 => ?_, R.lnkC chg (fun j a h w => R.nfp e li (by rw [← w]; exact h)), fun j h d' e' => ?_⟩, chg.mono (fun a _ _ w => ⟨i, by rw [w]; exact li⟩), fun j a h => ?_⟩
  · by_cases hj : j = i
    · subst hj
      rw [List.getElem?_set_self hi] at e'
      cases e'
      refine ⟨_, ev, ?_⟩
      unfold upF
      rw [if_pos rfl]
      exact .lst upd_same (o.chg chg fun a ha w => n (by rw [← w]; exact ha)) n
    · rw [List.getElem?_set_ne (Ne.symm hj)] at e'
      obtain ⟨v', hv', o'⟩ := R.has j d' e'
      refine ⟨v', hv', ?_⟩
      unfold upF
      rw [if_neg hj]
      exact o'.chg chg fun a ha w => hj (R.dis j i l (by rw [← w]; exact ha) li)
  · unfold upF
    by_cases hj : j = i
    · subst hj
      exact absurd (List.getElem?_set_self hi) (h _)
    · rw [if_neg hj]
      exact R.off j fun d' e => h d' (by rw [List.getElem?_set_ne (Ne.symm hj)]; exact e)
  · have key : ∀ {m : Nat}, m ≠ i → a ∈ l :: F' → a ∈ Fs m → False := fun {m} hm g1 g2 => by
      rcases List.mem_cons.mp g1 with e3 | g1
      · exact hm (R.dis m i a g2 (by rw [e3]; exact li))
      · rcases hF a g1 with q | q
        · exact hm (R.dis m i a g2 (by rw [eF]; exact List.mem_cons_of_mem _ q))
        · exact hd m a g2 q
    by_cases hj : j = i
    · by_cases hk : k = i
      · omega
      · unfold upF at h1 h2
        rw [if_pos hj] at h1
        rw [if_neg hk] at h2
        exact (key hk h1 h2).elim
    · by_cases hk : k = i
      · unfold upF at h1 h2
        rw [if_neg hj] at h1
        rw [if_pos hk] at h2
        exact (key hj h2 h1).elim
      · unfold upF at h1 h2
        rw [if_neg hj] at h1
        rw [if_neg hk] at h2
        exact R.dis j k a h1 h2
  · by_cases hj : j = i
    · subst hj
      exact R.bse j h _ e
    · rw [List.getElem?_set_ne (Ne.symm hj)] at e'
      exact R.bse j h d' e'
  · unfold upF at h
    split at h
    · rename_i hj
      subst hj
      rcases List.mem_cons.mp h with rfl | h
      · exact .inl li
      · rcases hF a h with q | q
        · exact .inl (by rw [eF]; exact List.mem_cons_of_mem _ q)
        · exact .inr q
    · exact .inl h
theorem own_list {H : Hp} {ds : List D} {v : V} {G : List Addr} (h : Own K H (.list ds) v G) : ∃ l vs F, v = .ref l ∧ G = l :: F ∧ H l = some (.lst vs) ∧ OwnA K H ds vs F ∧ l ∉ F := by
  cases h with
  | lst h1 t n => exact ⟨_, _, _, rfl, rfl, h1, t, n⟩
theorem own_tup {H : Hp} {ds : List D} {v : V} {G : List Addr} (h : Own K H (.tuple ds) v G) : ∃ a vs, v = .ref a ∧ SqT K H a vs ∧ OwnA K H ds vs G := by
  cases h with
  | tup h1 t => exact ⟨_, _, rfl, h1.sq, t⟩
theorem OwnA.snoc {H : Hp} {d : D} {v : V} {G : List Addr} (o : Own K H d v G) : ∀ {ds : List D} {vs : List V} {F : List Addr}, OwnA K H ds vs F → (∀ a, a ∈ F → a ∉ G) → ∃ F', OwnA K H (ds ++ [d]) (vs ++ [v]) F' ∧ ∀ a, a ∈ F' → a ∈ F ∨ a ∈ G
  | [], _, _, t, _ => by
    cases t
    refine ⟨G ++ [], .cons o .nil (by simp), fun a h => ?_⟩
    rw [List.append_nil] at h
    exact .inr h
  | d' :: ds, _, _, t, n => by
    cases t with
    | @cons v' vs _ _ F1 F2 o' t n' =>
      obtain ⟨F', h1, h2⟩ := OwnA.snoc o t fun a ha => n a (List.mem_append_right _ ha)
      refine ⟨F1 ++ F', .cons o' h1 fun a ha hb => ?_, fun a h => ?_⟩
      · rcases h2 a hb with q | q
        · exact n' a ha q
        · exact n a (List.mem_append_left _ ha) q
      · rcases List.mem_append.mp h with q | q
        · exact .inl (List.mem_append_left _ q)
        · rcases h2 a q with q | q
          · exact .inl (List.mem_append_right _ q)
          · exact .inr q
theorem OwnA.put {H : Hp} {d : D} {v : V} (o : Own K H d v []) : ∀ {ds : List D} {vs : List V} {F : List Addr} (j : Nat), OwnA K H ds vs F → ∃ F', OwnA K H (ds.set j d) (vs.set j v) F' ∧ ∀ a, a ∈ F' → a ∈ F
  | [], _, _, _, t => by
    cases t
    exact ⟨[], .nil, by simp⟩
  | d' :: ds, _, _, 0, t => by
    cases t with
    | @cons v' vs _ _ F1 F2 o' t n' => exact ⟨[] ++ F2, .cons o t (by simp), fun a h => List.mem_append_right _ (by simpa using h)⟩
  | d' :: ds, _, _, j + 1, t => by
    cases t with
    | @cons v' vs _ _ F1 F2 o' t n' =>
      obtain ⟨F', h1, h2⟩ := OwnA.put o j t
      refine ⟨F1 ++ F', .cons o' h1 fun a ha hb => n' a ha (h2 a hb), fun a h => ?_⟩
      rcases List.mem_append.mp h with q | q
      · exact List.mem_append_left _ q
      · exact List.mem_append_right _ (h2 a q)
end
inductive Tg where
  | nm (i : Nat)
  | tp (l : List Tg)
  | ls (l : List Tg)
mutual
def asg : Tg → D → Sg → Option Sg
  | .nm i, d, s => some (s.set i (some d))
  | .tp l, .tuple ds, s => asgs l ds s
  | .tp _, _, _ => none
  | .ls l, .list ds, s => asgs l ds s
  | .ls _, _, _ => none
def asgs : List Tg → List D → Sg → Option Sg
  | [], [], s => some s
  | t :: l, d :: ds, s => match asg t d s with
    | none => none
    | some s1 => asgs l ds s1
  | _, _, _ => none
end
section
variable [Tb] [Vs] (K : PySem.W.Frag) (lk : Nat → Bool)
def tG (t : Tg) : TG := fun v σ H Q => ∃ s Fs d F s', RelS K H s σ Fs ∧ Apart K H Fs d v F ∧ asg t d s = some s' ∧ ∀ σ' Fs', RelS K H s' σ' Fs' → (∀ i a, a ∈ Fs' i → a ∈ Fs i ∨ a ∈ F) → Lk lk σ σ' → Q σ' H
def tGs (l : List Tg) : TGs := fun vs σ H Q => ∃ s Fs ds F s', RelS K H s σ Fs ∧ OwnA K H ds vs F ∧ (∀ i a, a ∈ Fs i → a ∉ F) ∧ asgs l ds s = some s' ∧ ∀ σ' Fs', RelS K H s' σ' Fs' → (∀ i a, a ∈ Fs' i → a ∈ Fs i ∨ a ∈ F) → Lk lk σ σ' → Q σ' H
end
def SimG [Tb] [Vs] (X : Cx) (lk : Nat → Bool) (e : Expr) (t : Tg) : Prop := PG X e (tG X.K lk t)
def SimGs [Tb] [Vs] (X : Cx) (lk : Nat → Bool) (es : List Expr) (l : List Tg) : Prop := PGs X es (tGs X.K lk l)
section
variable [Tb] [Vs] {X : Cx} {lk : Nat → Bool} {pos : Pos} {K : PySem.W.Frag}
theorem pg_imp {e : Expr} {t t' : TG} (h : PG X e t) (i : ∀ v σ H Q, t' v σ H Q → t v σ H Q) : PG X e t' := ⟨fun pins s σ H v u Q I r q => h.run pins s σ H v u Q I r (i v σ H Q q)⟩
theorem pgs_imp {e : List Expr} {t t' : TGs} (h : PGs X e t) (i : ∀ v σ H Q, t' v σ H Q → t v σ H Q) : PGs X e t' := ⟨fun pins s σ H v u Q I r q => h.run pins s σ H v u Q I r (i v σ H Q q)⟩
theorem tG_nm {i : Nat} (hl : lk i = false) (ko : Vs.ok i) {v : V} {σ : St} {H : Hp} {Q : St → Hp → Prop} (h : tG K lk (.nm i) v σ H Q) : gName i v σ H Q := by
  obtain ⟨s, Fs, d, F, s', R, A, e, q⟩ := h
  simp only [asg] at e
  cases e
  obtain ⟨Fs', R', n⟩ := R.put A i ko
  exact q _ Fs' R' (fun j a h => (n j a h).imp And.left And.left) (.set hl)
theorem sg_name {i : Nat} {x : Str} (hN : X.N.Nodup) (hi : X.N[i]? = some x) (hx : Loc X.env.scope x) (hl : lk i = false) (hf : X.fn x = true ∨ X.env.scope.names.lookup x = some .local := by first | exact .inl rfl | exact .inr rfl | assumption) (ko : Vs.ok i := by first | exact trivial | assumption | exact ⟨by decide, by decide⟩) : SimG X lk (.Name x pos) (.nm i) :=
  pg_imp (pg_name hN hi hx hf) fun _ _ _ _ h => tG_nm hl ko h
theorem tGs_nil {vs : List V} {σ : St} {H : Hp} {Q : St → Hp → Prop} (h : tGs K lk [] vs σ H Q) : gNil vs σ H Q := by
  obtain ⟨s, Fs, ds, F, s', R, o, dj, e, q⟩ := h
  cases ds with
  | nil =>
    simp only [asgs] at e
    cases e
    cases o
    exact ⟨rfl, q σ Fs R (fun _ _ h => .inl h) (.refl _ _)⟩
  | cons d ds => simp [asgs] at e
theorem tGs_cons {t : Tg} {l : List Tg} {vs : List V} {σ : St} {H : Hp} {Q : St → Hp → Prop} (h : tGs K lk (t :: l) vs σ H Q) : gCons (tG K lk t) (tGs K lk l) vs σ H Q := by
  obtain ⟨s, Fs, ds, F, s', R, o, dj, e, q⟩ := h
  cases ds with
  | nil => simp [asgs] at e
  | cons d ds =>
    simp only [asgs] at e
    split at e
    · cases e
    · rename_i s1 h1
      cases o with
      | @cons v vs _ _ F1 F2 o1 o2 n =>
        refine ⟨v, vs, rfl, s, Fs, d, F1, s1, R, ⟨o1, fun i a hi ha => dj i a hi (List.mem_append_left _ ha)⟩, h1, fun σ1 Fs1 R1 n1 L1 => ⟨s1, Fs1, ds, F2, s', R1, o2, fun i a hi ha => ?_, e, fun σ2 Fs2 R2 n2 L2 => ?_⟩⟩
        · rcases n1 i a hi with z | z
          · exact dj i a z (List.mem_append_right _ ha)
          · exact n a z ha
        · refine q σ2 Fs2 R2 (fun i a h => ?_) (L1.trans L2)
          rcases n2 i a h with z | z
          · rcases n1 i a z with z | z
            · exact .inl z
            · exact .inr (List.mem_append_left _ z)
          · exact .inr (List.mem_append_right _ z)
theorem sgs_nil : SimGs X lk [] [] := pgs_imp pgs_nil fun _ _ _ _ h => tGs_nil h
theorem sgs_cons {e : Expr} {es : List Expr} {t : Tg} {l : List Tg} (h1 : SimG X lk e t) (h2 : SimGs X lk es l) (hs : (assignEach (e :: es) X.env).map (·.2) = assign e X.env :: (assignEach es X.env).map (·.2) := by rfl) : SimGs X lk (e :: es) (t :: l) :=
  pgs_imp (pgs_cons h1 h2 hs) fun _ _ _ _ h => tGs_cons h
theorem asgs_len {l : List Tg} : ∀ {ds : List D} {s s' : Sg}, asgs l ds s = some s' → ds.length = l.length := by
  induction l with
  | nil => intro ds s s' h; cases ds with
    | nil => rfl
    | cons d ds => simp [asgs] at h
  | cons t l ih => intro ds s s' h; cases ds with
    | nil => simp [asgs] at h
    | cons d ds =>
      simp only [asgs] at h
      split at h
      · cases h
      · rw [List.length_cons, List.length_cons, ih h]
theorem sg_tup {es : List Expr} {k : Nat} {l : List Tg} (hc : X.calm = true) (h : SimGs X lk es l) (hn : (assignEach es X.env).length = l.length := by rfl) (hst : (assignEach es X.env).findIdx? (·.1) = none := by rfl) : SimG X lk (.Tuple es k pos) (.tp l) := by
  refine pg_imp (pg_tup hc h hn hst) fun v σ H Q z => ?_
  obtain ⟨s, Fs, d, F, s', R, A, e, q⟩ := z
  cases d with
  | tuple ds =>
    simp only [asg] at e
    obtain ⟨a, vs, rfl, hq, o⟩ := own_tup A.own
    exact ⟨a, vs, rfl, hq, by rw [o.len, asgs_len e], s, Fs, ds, F, s', R, o, A.dis, e, q⟩
  | _ => simp [asg] at e
end
/-- to a way out: what no caller holds may have changed places -/
structure EvR [Tb] (lk : Nat → Bool) (H : Hp) (Fs : Fp) (H' : Hp) (Fs' : Fp) : Prop where
  chg : Chg (InF Fs) H H'
  new : ∀ i a, a ∈ Fs' i → (a ∈ Fs i ∨ H a = none) ∨ (lk i = false ∧ ∃ k, lk k = false ∧ a ∈ Fs k)
theorem Ev.r [Tb] {lk : Nat → Bool} {H H' : Hp} {Fs Fs' : Fp} (e : Ev H Fs H' Fs') : EvR lk H Fs H' Fs' := ⟨e.chg, fun i a h => .inl (e.new i a h)⟩
theorem Ev.transR [Tb] {lk : Nat → Bool} {H H1 H' : Hp} {Fs Fs1 Fs' : Fp} (a : Ev H Fs H1 Fs1) (b : EvR lk H1 Fs1 H' Fs') : EvR lk H Fs H' Fs' := by
  refine ⟨⟨fun x o e c => ?_, fun x e => a.chg.there x (b.chg.there x e), fun t => b.chg.tab (a.chg.tab t)⟩, fun i x h => ?_⟩
  · have e1 := a.chg.keep x o e c
    refine b.chg.keep x o e1 (c.imp (fun n => ⟨fun z => ?_, n.2⟩) id)
    obtain ⟨i, hi⟩ := z
    rcases a.new i x hi with q | q
    · exact n.1 ⟨i, q⟩
    · rw [e] at q; cases q
  · rcases b.new i x h with (q | q) | ⟨q, k, hk, q2⟩
    · exact .inl (a.new i x q)
    · exact .inl (.inr (a.chg.there x q))
    · rcases a.new k x q2 with w | w
      · exact .inr ⟨q, k, hk, w⟩
      · exact .inl (.inr w)
theorem EvR.transR [Tb] {lk : Nat → Bool} {H H1 H' : Hp} {Fs Fs1 Fs' : Fp} (a : EvR lk H Fs H1 Fs1) (b : EvR lk H1 Fs1 H' Fs') : EvR lk H Fs H' Fs' := by
  have old : ∀ i x, x ∈ Fs1 i → (∃ k, x ∈ Fs k) ∨ H x = none := fun i x h => by
    rcases a.new i x h with (q | q) | ⟨_, k, _, q⟩
    · exact .inl ⟨i, q⟩
    · exact .inr q
    · exact .inl ⟨k, q⟩
  refine ⟨⟨fun x o e c => ?_, fun x e => a.chg.there x (b.chg.there x e), fun t => b.chg.tab (a.chg.tab t)⟩, fun i x h => ?_⟩
  · have e1 := a.chg.keep x o e c
    refine b.chg.keep x o e1 (c.imp (fun n => ⟨fun z => ?_, n.2⟩) id)
    obtain ⟨i, hi⟩ := z
    rcases old i x hi with q | q
    · exact n.1 q
    · rw [e] at q; cases q
  · rcases b.new i x h with (q | q) | ⟨q, k, hk, q2⟩
    · exact a.new i x q
    · exact .inl (.inr (a.chg.there x q))
    · rcases a.new k x q2 with (w | w) | ⟨_, j, hj, w⟩
      · exact .inr ⟨q, k, hk, w⟩
      · exact .inl (.inr w)
      · exact .inr ⟨q, j, hj, w⟩
theorem EvR.trans [Tb] {lk : Nat → Bool} {H H1 H' : Hp} {Fs Fs1 Fs' : Fp} (a : EvR lk H Fs H1 Fs1) (b : Ev H1 Fs1 H' Fs') : EvR lk H Fs H' Fs' := a.transR b.r
theorem EvR.wk [Tb] {lk lk' : Nat → Bool} {H H' : Hp} {Fs Fs' : Fp} (h : ∀ i, lk i = true → lk' i = true) (a : EvR lk' H Fs H' Fs') : EvR lk H Fs H' Fs' := by
  have f : ∀ i, lk' i = false → lk i = false := fun i z => by
    cases e : lk i with
    | false => rfl
    | true => rw [h i e] at z; cases z
  exact ⟨a.chg, fun i x z => (a.new i x z).imp id fun ⟨q, k, hk, w⟩ => ⟨f i q, k, f k hk, w⟩⟩
theorem EvR.refl [Tb] {lk : Nat → Bool} (H : Hp) (Fs : Fp) : EvR lk H Fs H Fs := (Ev.refl _ _).r
theorem EvR.e0 [Tb] {lk : Nat → Bool} {H H' : Hp} {Fs Fs' : Fp} (a : EvR lk H Fs H' Fs') : Ev H Fs H' (fun _ => []) := ⟨a.chg, fun _ _ h => by cases h⟩
theorem EvR.r [Tb] {lk : Nat → Bool} {H H' : Hp} {Fs Fs' : Fp} (a : EvR lk H Fs H' Fs') : EvR lk H Fs H' Fs' := a
instance EvR.coe [Tb] {lk : Nat → Bool} {H H' : Hp} {Fs Fs' : Fp} : Coe (Ev H Fs H' Fs') (EvR lk H Fs H' Fs') := ⟨Ev.r⟩
section
variable [Tb] [Vs] (K : PySem.W.Frag) (lk : Nat → Bool)
def PostS (D : Ends) (σ : St) (H : Hp) (Fs : Fp) (s' : Sg) (fl : Fl) : Prop := match fl with
  | .nx => ∀ σ' H' Fs', RelS K H' s' σ' Fs' → EvR lk H Fs H' Fs' → Lk lk σ σ' → D.nx σ' H'
  | .bk => ∀ σ' H' Fs', RelS K H' s' σ' Fs' → EvR lk H Fs H' Fs' → Lk lk σ σ' → D.bk σ' H'
  | .ct => ∀ σ' H' Fs', RelS K H' s' σ' Fs' → EvR lk H Fs H' Fs' → Lk lk σ σ' → D.ct σ' H'
  | .rt d => ∀ v σ' H' Fs' F, RelS K H' s' σ' Fs' → EvR lk H Fs H' Fs' → Lk lk σ σ' → Own K H' d v F → (∀ a, a ∈ F → H a = none ∨ ∃ i, lk i = false ∧ a ∈ Fs i) → (∀ i a, lk i = true → a ∈ Fs' i → a ∉ F) → D.rt v H'
def tS (g : S) : TS := fun D σ H => ∃ s Fs fl s', RelS K H s σ Fs ∧ g s = .ok fl s' ∧ PostS K lk D σ H Fs s' fl
end
def SimS [Tb] [Vs] (X : Cx) (lk : Nat → Bool) (st : Stmt) (g : S) : Prop := PS X st (tS X.K lk g)
def SimSs [Tb] [Vs] (X : Cx) (lk : Nat → Bool) (st : List Stmt) (g : S) : Prop := PSs X st (tS X.K lk g)
theorem ps_imp {X : Cx} {e : Stmt} {t t' : TS} (h : PS X e t) (i : ∀ D σ H, t' D σ H → t D σ H) : PS X e t' := ⟨fun pins s σ H D I q => h.run pins s σ H D I (i D σ H q)⟩
theorem pss_imp {X : Cx} {e : List Stmt} {t t' : TS} (h : PSs X e t) (i : ∀ D σ H, t' D σ H → t D σ H) : PSs X e t' := ⟨fun pins s σ H D I q => h.run pins s σ H D I (i D σ H q)⟩
def sSkip : S := fun s => .ok .nx s
def sSeq (g h : S) : S := fun s => (g s).bind fun fl s1 => match fl with
  | .nx => h s1
  | fl => .ok fl s1
def sExpr (g : O) : S := fun s => (g s).bind fun _ s1 => .ok .nx s1
def sRet (lk : Nat → Bool) (g : O) : S := fun s => (g s).bind fun r s1 => match r with
  | .val d => .ok (.rt d) s1
  | .slot i => match (s1[i]?).join with
    | none => .bad
    | some d => if pur d = true ∨ lk i = false then .ok (.rt d) s1 else .bad
def sRetN : S := fun s => .ok (.rt .none) s
def sBreak : S := fun s => .ok .bk s
def sCont : S := fun s => .ok .ct s
def sNever : S := fun _ => .bad
def sIf (t : T) (g h : S) : S := fun s => (t s).bind fun b s1 => if b = true then g s1 else h s1
def sAsg (t : Tg) (g : O) : S := fun s => (g s).bind fun r s1 => match own r s1 with
  | none => .bad
  | some d => match asg t d s1 with
    | none => .bad
    | some s2 => .ok .nx s2
def sSet (i : Nat) (g : O) : S := sAsg (.nm i) g
/-- x[k] = e -/
def sSetIx (i : Nat) (gi g : O) : S := fun s => (g s).bind fun r s1 => (oV i s1).bind fun _ s1 => (gi s1).bind fun ri s2 => match own r s2, rd ri s2, (s2[i]?).join with
  | some d, some (.int k), some (.list ds) => if pur d = true then (match ixN ds.length k with
    | none => .bad
    | some j => .ok .nx (s2.set i (some (.list (ds.set j d))))) else .bad
  | _, _, _ => .bad
section
variable [Tb] [Vs] {X : Cx} {lk : Nat → Bool} {pos : Pos} {K : PySem.W.Frag} {g h : S} {D : Ends} {σ : St} {H : Hp} {ga gb : O} {e : Expr}
theorem ss_nil : SimSs X lk [] sSkip := pss_imp pss_nil fun D σ H ⟨s, Fs, fl, s', R, e, q⟩ => by
  cases e
  exact q σ H Fs R (.refl _ _) (.refl _ _)
theorem ss_never {st : Stmt} : SimS X lk st sNever := ps_imp ps_never fun D σ H ⟨s, Fs, fl, s', R, e, q⟩ => by cases e
/-- what follows a first part -/
theorem tS_after {s : Sg} {Fs Fs1 : Fp} {σ1 : St} {H1 : Hp} {s1 s' : Sg} {fl : Fl} (R1 : RelS K H1 s1 σ1 Fs1) (E1 : EvR lk H Fs H1 Fs1) (L1 : Lk lk σ σ1) (e : h s1 = .ok fl s')
    (q : PostS K lk D σ H Fs s' fl) :
    tS K lk h D σ1 H1 := by
  refine ⟨s1, Fs1, fl, s', R1, e, ?_⟩
  cases fl with
  | nx => exact fun σ' H' Fs' R' E' L' => q σ' H' Fs' R' (E1.transR E') (L1.trans L')
  | bk => exact fun σ' H' Fs' R' E' L' => q σ' H' Fs' R' (E1.transR E') (L1.trans L')
  | ct => exact fun σ' H' Fs' R' E' L' => q σ' H' Fs' R' (E1.transR E') (L1.trans L')
  | rt d =>
    refine fun v σ' H' Fs' F R' E' L' o n m => q v σ' H' Fs' F R' (E1.transR E') (L1.trans L') o (fun a ha => ?_) m
    rcases n a ha with z | ⟨i, hi, z⟩
    · exact .inl (E1.chg.there a z)
    · rcases E1.new i a z with (z | z) | ⟨_, k, hk, z⟩
      · exact .inr ⟨i, hi, z⟩
      · exact .inl z
      · exact .inr ⟨k, hk, z⟩
theorem tS_seq (z : tS K lk (sSeq g h) D σ H) : tSeq (tS K lk g) (tS K lk h) D σ H := by
  obtain ⟨s, Fs, fl, s', R, e, q⟩ := z
  obtain ⟨f1, s1, e1, e⟩ := bind_inv e
  refine ⟨s, Fs, f1, s1, R, e1, ?_⟩
  cases f1 with
  | nx => exact fun σ1 H1 Fs1 R1 E1 L1 => tS_after (s := s) R1 E1 L1 e q
  | bk => cases e; exact q
  | ct => cases e; exact q
  | rt d => cases e; exact q
theorem ss_cons {st : Stmt} {rest : List Stmt} (h1 : SimS X lk st g) (h2 : SimSs X lk rest h) : SimSs X lk (st :: rest) (sSeq g h) := pss_imp (pss_cons h1 h2) fun _ _ _ z => tS_seq z
theorem ss_one {st : Stmt} (h1 : SimS X lk st g) : SimSs X lk [st] g := pss_one h1
theorem ss_expr (he : SimO X e ga) (hs : swapsWith e none pos.line X.env = pure false := by rfl) : SimS X lk (.Expr e pos) (sExpr ga) := by
  refine ps_imp (ps_expr he hs) fun D σ H z => ?_
  obtain ⟨s, Fs, fl, s', R, e, q⟩ := z
  obtain ⟨r, s1, e1, e⟩ := bind_inv e
  refine ⟨s, Fs, r, s1, R, e1, fun v H1 Fs1 F R1 E1 k1 n1 => ?_⟩
  cases e
  exact q σ H1 Fs1 R1 E1 (.refl _ _)
theorem ss_ret (he : SimO X e ga) : SimS X lk (.Return (some e) pos) (sRet lk ga) := by
  refine ps_imp (ps_ret he) fun D σ H z => ?_
  obtain ⟨s, Fs, fl, s', R, e, q⟩ := z
  obtain ⟨r, s1, e1, e⟩ := bind_inv e
  refine ⟨s, Fs, r, s1, R, e1, fun v H1 Fs1 F R1 E1 k1 n1 => ?_⟩
  cases k1 with
  | val A =>
    cases e
    exact q v σ H1 Fs1 F R1 E1.r (.refl _ _) A.own (fun a ha => .inl (n1 a ha)) fun i a _ hi ha => A.dis i a hi ha
  | @slot i v hv =>
    simp only at e
    split at e
    · cases e
    · rename_i d hd
      split at e
      · rename_i hp
        cases e
        obtain ⟨v', hv', o⟩ := R1.has i d (join_some hd)
        rw [hv] at hv'
        cases hv'
        refine q v σ H1 Fs1 (Fs1 i) R1 E1.r (.refl _ _) o (fun a ha => ?_) fun j a hj hi ha => ?_
        · rcases hp with hp | hp
          · rw [o.pur hp] at ha; cases ha
          · rcases E1.new i a ha with z | z
            · exact .inr ⟨i, hp, z⟩
            · exact .inl z
        · rcases hp with hp | hp
          · rw [o.pur hp] at ha; cases ha
          · have := R1.dis j i a hi ha
            subst this
            rw [hp] at hj; cases hj
      · cases e
theorem ss_if {c : Expr} {as bs : List Stmt} {t : T} (hc : SimT X c t) (ha : SimSs X lk as g) (hb : SimSs X lk bs h) : SimS X lk (.If c as bs pos) (sIf t g h) := by
  refine ps_imp (ps_if hc ha hb) fun D σ H z => ?_
  obtain ⟨s, Fs, fl, s', R, e, q⟩ := z
  obtain ⟨b, s1, e1, e⟩ := bind_inv e
  refine ⟨s, Fs, b, s1, R, e1, fun H1 Fs1 R1 E1 => ?_⟩
  cases b with
  | true => exact iteT (tS_after (s := s) R1 E1 (.refl _ _) e q)
  | false => exact iteF (tS_after (s := s) R1 E1 (.refl _ _) e q)
theorem rfOk_own {Fs : Fp} {r : Rf} {v : V} {F : List Addr} {s : Sg} {d : Sim.D} (k : RfOk K H σ Fs r v F) (R : RelS K H s σ Fs) (e : own r s = some d) : Apart K H Fs d v F := by
  cases k with
  | val A => cases e; exact A
  | @slot i v hv =>
    simp only [own] at e
    split at e
    · cases e
    · rename_i d' hd
      split at e
      · rename_i hp
        cases e
        obtain ⟨v', hv', o⟩ := R.has i d (join_some hd)
        rw [hv] at hv'
        cases hv'
        rw [o.pur hp] at o
        exact ⟨o, fun _ _ _ z => by cases z⟩
      · cases e
theorem tS_asg {t : Tg} (z : tS K lk (sAsg t ga) D σ H) : tAsg (tO K ga) (tG K lk t) D σ H := by
  obtain ⟨s, Fs, fl, s', R, e, q⟩ := z
  obtain ⟨r, s1, e1, e⟩ := bind_inv e
  refine ⟨s, Fs, r, s1, R, e1, fun v H1 Fs1 F R1 E1 k1 n1 => ?_⟩
  split at e
  · cases e
  · rename_i d hd
    split at e
    · cases e
    · rename_i s2 hs2
      cases e
      refine ⟨s1, Fs1, d, F, _, R1, rfOk_own k1 R1 hd, hs2, fun σ2 Fs2 R2 n2 L2 => q σ2 H1 Fs2 R2 ⟨E1.chg, fun i a h => ?_⟩ L2⟩
      rcases n2 i a h with z | z
      · exact .inl (E1.new i a z)
      · exact .inl (.inr (n1 a z))
theorem ss_set {i : Nat} {x : Str} {pos' : Pos} (hN : X.N.Nodup) (hi : X.N[i]? = some x) (hx : Loc X.env.scope x) (hl : lk i = false) (he : SimO X e ga) (hs : swapsWith e (some (.Name x pos')) pos.line X.env = pure false := by rfl) (hf : X.fn x = true ∨ X.env.scope.names.lookup x = some .local := by first | exact .inl rfl | exact .inr rfl | assumption) (ko : Vs.ok i := by first | exact trivial | assumption | exact ⟨by decide, by decide⟩) :
    SimS X lk (.Assign [.Name x pos'] e pos) (sSet i ga) := ps_imp (ps_set hN hi hx he hs hf) fun D σ H z => tO_mono (fun v H h => by have w := tG_nm hl ko h; exact w) (tS_asg z)
theorem ss_setIxF {e0 : Expr} {i : Nat} {ix : Expr} {p2 : Pos} (hv : PE X e0 (tSl i)) (hix : SimO X ix gb) (he : SimO X e ga)
    (ha : ∀ v, assign (.Subscript e0 ix p2) X.env v = (do
      let ov ← holding [v] (eval e0 X.env)
      let iv ← holding [v, ov] (eval ix X.env)
      standAt p2
      holding [v, ov, iv] (setItem ov iv v)
      release [v, ov, iv] []) := by intro _; rfl)
    (hs : swapsWithSole [.Subscript e0 ix p2] e pos.line X.env = pure false := by rfl) (hw : swappedStores [.Subscript e0 ix p2] e X.env = pure none := by rfl)
    (h1 : (assignEach [.Subscript e0 ix p2] X.env).map (·.2) = [assign (.Subscript e0 ix p2) X.env] := by rfl) : SimS X lk (.Assign [.Subscript e0 ix p2] e pos) (sSetIx i gb ga) := by
  refine ps_imp (ps_asg he (pg_sub hv hix set_list ha) hs hw h1) fun D σ H z => ?_
  obtain ⟨s, Fs, fl, s', R, e, q⟩ := z
  obtain ⟨r, s1, e1, e⟩ := bind_inv e
  refine ⟨s, Fs, r, s1, R, e1, fun v H1 Fs1 F R1 E1 k1 n1 => ?_⟩
  obtain ⟨rv, s1', e1', e⟩ := bind_inv e
  unfold oV at e1'
  split at e1'
  · rename_i d0 hd0
    cases e1'
    obtain ⟨vl, hvl, _⟩ := R1.has i d0 (join_some hd0)
    refine ⟨vl, hvl, R1.lnk.1, ?_⟩
    obtain ⟨ri, s2, e2, e⟩ := bind_inv e
    refine ⟨s1, Fs1, ri, s2, R1, e2, fun vi H2 Fs2 F2 R2 E2 k2 n2 => ?_⟩
    split at e
    · rename_i d k ds hd hk hs2
      split at e
      · rename_i hp
        split at e
        · cases e
        · rename_i j hj
          cases e
          obtain ⟨vl', hvl', o⟩ := R2.has i _ (join_some hs2)
          rw [hvl] at hvl'
          cases hvl'
          obtain ⟨l, vs, F0, rfl, eF, hl, t, nl⟩ := own_list o
          obtain ⟨F', oi⟩ := k2.dp R2 hk
          cases oi
          have A := rfOk_own (k1.ev E2) R2 hd
          have o1 := A.own
          rw [o1.pur hp] at o1
          obtain ⟨F3, t3, hF3⟩ := OwnA.put o1 j t
          refine ⟨l, vs, k, j, rfl, rfl, hl, by rw [t.len]; exact hj, ?_⟩
          obtain ⟨Fs3, R3, C3, n3⟩ := R2.wr (join_some hs2) hvl hl eF t3 (fun z => nl (hF3 _ z)) (fun a ha => .inl (hF3 a ha)) (Fd := []) (by simp)
          refine q σ _ Fs3 R3 ((E1.trans E2).trans ⟨C3, fun j a h => (n3 j a h).imp id (fun z => by cases z)⟩) (.refl _ _)
      · cases e
    · cases e
  · cases e1'
theorem ss_setIx {i : Nat} {x : Str} {ix : Expr} {p1 p2 : Pos} (hv : PE X (.Name x p1) (tVar i)) (hix : SimO X ix gb) (he : SimO X e ga)
    (ha : ∀ v, assign (.Subscript (.Name x p1) ix p2) X.env v = (do
      let ov ← holding [v] (eval (.Name x p1) X.env)
      let iv ← holding [v, ov] (eval ix X.env)
      standAt p2
      holding [v, ov, iv] (setItem ov iv v)
      release [v, ov, iv] []) := by intro _; rfl)
    (hs : swapsWithSole [.Subscript (.Name x p1) ix p2] e pos.line X.env = pure false := by rfl) (hw : swappedStores [.Subscript (.Name x p1) ix p2] e X.env = pure none := by rfl)
    (h1 : (assignEach [.Subscript (.Name x p1) ix p2] X.env).map (·.2) = [assign (.Subscript (.Name x p1) ix p2) X.env] := by rfl) : SimS X lk (.Assign [.Subscript (.Name x p1) ix p2] e pos) (sSetIx i gb ga) :=
  ss_setIxF (tsl_of hv) hix he ha hs hw h1
end
end Sim
namespace Sim
open PySem PySem.Spec L2
def lks : List Rf → List D → List (Nat × D)
  | .slot i :: rs, d :: ds => if pur d = true then lks rs ds else (i, d) :: lks rs ds
  | .val _ :: rs, _ :: ds => lks rs ds
  | _, _ => []
def lockS : List (Nat × D) → Sg → Sg
  | [], s => s
  | p :: l, s => lockS l (s.set p.1 none)
def unlockS : List (Nat × D) → Sg → Sg
  | [], s => s
  | p :: l, s => unlockS l (s.set p.1 (some p.2))
def nodupB : List Nat → Bool
  | [] => true
  | x :: l => !l.contains x && nodupB l
/-- what is closed, stands apart -/
structure HvS [Tb] [Vs] (σ : St) (i : Nat) (v : V) : Prop where
  get : σ[i]? = some (some v)
  fp : Vs.fp i = []
inductive Hid [Tb] [Vs] (K : PySem.W.Frag) (H : Hp) (σ : St) (Fs : Fp) : List (Nat × D) → List (List Addr) → Prop
  | nil : Hid K H σ Fs [] []
  | cons {i : Nat} {d : D} {v : V} {F : List Addr} {l : List (Nat × D)} {Gs : List (List Addr)} : HvS σ i v → Apart K H Fs d v F → (∀ G, G ∈ Gs → ∀ a, a ∈ F → a ∉ G) → Hid K H σ Fs l Gs → Hid K H σ Fs ((i, d) :: l) (F :: Gs)
/-- where what is closed comes from -/
def From (H0 : Hp) (Fs0 : Fp) : List (Nat × D) → List (List Addr) → Prop
  | [], [] => True
  | p :: l, F :: Gs => (∀ a, a ∈ F → a ∈ Fs0 p.1 ∨ H0 a = none) ∧ From H0 Fs0 l Gs
  | _, _ => False
section
variable [Tb] [Vs] {K : PySem.W.Frag} {H H1 H' H0 : Hp} {s s' : Sg} {σ σ' : St} {Fs Fs1 Fs' Fs0 : Fp} {l : List (Nat × D)} {Gs : List (List Addr)}
theorem Hid.ev (h : Hid K H σ Fs l Gs) (e : Ev H Fs H' Fs') (L : ∀ p, p ∈ l → σ'[p.1]? = σ[p.1]?) : Hid K H' σ' Fs' l Gs := by
  induction h with
  | nil => exact .nil
  | @cons i d v F l Gs hv A n _ ih =>
    exact .cons ⟨(L _ (List.mem_cons_self ..)).trans hv.get, hv.fp⟩ (A.ev e) n (ih fun p hp => L p (List.mem_cons_of_mem _ hp))
theorem Hid.evR {lk : Nat → Bool} (h : Hid K H σ Fs l Gs) (e : EvR lk H Fs H' Fs') (L : ∀ p, p ∈ l → σ'[p.1]? = σ[p.1]?) : Hid K H' σ' Fs' l Gs := by
  induction h with
  | nil => exact .nil
  | @cons i d v F l Gs hv A n _ ih =>
    refine .cons ⟨(L _ (List.mem_cons_self ..)).trans hv.get, hv.fp⟩ ⟨A.own.chg e.chg fun a ha ⟨i, hi⟩ => A.dis i a hi ha, fun i a hi ha => ?_⟩ n (ih fun p hp => L p (List.mem_cons_of_mem _ hp))
    rcases e.new i a hi with (q | q) | ⟨_, k, _, q⟩
    · exact A.dis i a q ha
    · obtain ⟨xs, z⟩ := A.own.mem a ha
      rw [q] at z; cases z
    · exact A.dis k a q ha
theorem Hid.mem (h : Hid K H σ Fs l Gs) : ∀ G, G ∈ Gs → ∀ a, a ∈ G → (∃ xs : MO, H a = some xs.ho) ∧ ∀ i, a ∉ Fs i := by
  induction h with
  | nil => intro G h; cases h
  | cons hv A n _ ih =>
    intro G h a ha
    rcases List.mem_cons.mp h with rfl | h
    · exact ⟨A.own.mem a ha, fun i hi => A.dis i a hi ha⟩
    · exact ih G h a ha
theorem From.trans (h : From H Fs l Gs) (e : ∀ i a, a ∈ Fs i → a ∈ Fs0 i ∨ H0 a = none) (t : ∀ a, H a = none → H0 a = none) : From H0 Fs0 l Gs := by
  induction l generalizing Gs with
  | nil => cases Gs with
    | nil => trivial
    | cons _ _ => exact h.elim
  | cons p l ih => cases Gs with
    | nil => exact h.elim
    | cons F Gs =>
      refine ⟨fun a ha => ?_, ih h.2⟩
      rcases h.1 a ha with z | z
      · exact e _ a z
      · exact .inr (t a z)
theorem nodupB_cons {x : Nat} {l : List Nat} (h : nodupB (x :: l) = true) : x ∉ l ∧ nodupB l = true := by
  simp only [nodupB, Bool.and_eq_true, Bool.not_eq_true', List.contains_eq_mem, decide_eq_false_iff_not] at h
  exact h
theorem RelS.lock (R : RelS K H s σ Fs) (hs : ∀ p, p ∈ l → s[p.1]? = some (some p.2)) (nd : nodupB (l.map (·.1)) = true) :
    ∃ Fs' Gs, RelS K H (lockS l s) σ Fs' ∧ Hid K H σ Fs' l Gs ∧ (∀ j a, a ∈ Fs' j → a ∈ Fs j) ∧ From H Fs l Gs := by
  induction l generalizing s Fs with
  | nil => exact ⟨Fs, [], R, .nil, fun _ _ h => h, trivial⟩
  | cons p l ih =>
    obtain ⟨n1, n2⟩ := nodupB_cons nd
    obtain ⟨v, hv, o⟩ := R.has p.1 p.2 (hs p (List.mem_cons_self ..))
    obtain ⟨Fs', Gs, R', hd, sub, fr⟩ := ih (R.drop p.1 (hs p (List.mem_cons_self ..))) (fun q hq => by
      rw [List.getElem?_set_ne]
      · exact hs q (List.mem_cons_of_mem _ hq)
      · intro e
        refine n1 ?_
        show p.1 ∈ _
        rw [e]
        exact List.mem_map_of_mem (f := fun x : Nat × D => x.1) hq) n2
    have sub2 : ∀ j a, a ∈ upF Fs p.1 [] j → a ∈ Fs j ∧ j ≠ p.1 := fun j a h => by
      unfold upF at h
      split at h
      · cases h
      · exact ⟨h, by assumption⟩
    refine ⟨Fs', Fs p.1 :: Gs, R', .cons ⟨hv, R.fp0 (hs p (List.mem_cons_self ..))⟩ ⟨o, fun i a hi ha => ?_⟩ (fun G hG a ha hb => ?_) hd, fun j a h => (sub2 j a (sub j a h)).1, fun a h => .inl h, fr.trans (fun i a h => .inl (sub2 i a h).1) fun _ h => h⟩
    · obtain ⟨h1, h2⟩ := sub2 i a (sub i a hi)
      exact h2 (R.dis i p.1 a h1 ha)
    · -- a closed one's places are another slot's
      have key : ∀ (l : List (Nat × D)) (Gs : List (List Addr)), From H (upF Fs p.1 []) l Gs → G ∈ Gs → ∃ i, a ∈ upF Fs p.1 [] i ∨ H a = none := fun l => by
        induction l with
        | nil => intro Gs h1 h2; cases Gs with
          | nil => cases h2
          | cons _ _ => exact h1.elim
        | cons q l ih => intro Gs h1 h2; cases Gs with
          | nil => cases h2
          | cons F Gs =>
            rcases List.mem_cons.mp h2 with rfl | h2
            · exact ⟨q.1, h1.1 a hb⟩
            · exact ih Gs h1.2 h2
      obtain ⟨i, hi | hi⟩ := key l Gs fr hG
      · obtain ⟨h1, h2⟩ := sub2 i a hi
        exact h2 (R.dis i p.1 a h1 ha)
      · obtain ⟨xs, w⟩ := o.mem a ha
        rw [hi] at w; cases w
theorem RelS.unlock (R : RelS K H s σ Fs) (hd : Hid K H σ Fs l Gs) (fr : From H0 Fs0 l Gs) :
    ∃ Fs', RelS K H (unlockS l s) σ Fs' ∧ ∀ j a, a ∈ Fs' j → a ∈ Fs j ∨ ((a ∈ Fs0 j ∨ H0 a = none) ∧ ∃ G, G ∈ Gs ∧ a ∈ G) := by
  induction l generalizing s Fs Gs with
  | nil =>
    cases hd
    exact ⟨Fs, R, fun _ _ h => .inl h⟩
  | cons p l ih =>
    cases hd with
    | @cons i d v F l Gs hv A n hd =>
      obtain ⟨Fs1, R1, n1⟩ := R.reput A i hv.get hv.fp
      have hd1 : Hid K H σ Fs1 l Gs := by
        clear ih R fr
        induction hd with
        | nil => exact .nil
        | @cons j d' v' F' l Gs hv' A' n' hd' ih' =>
          refine .cons hv' ⟨A'.own, fun k a hk ha => ?_⟩ n' (ih' fun G hG => n G (List.mem_cons_of_mem _ hG))
          rcases n1 k a hk with z | z
          · exact A'.dis k a z.1 ha
          · exact n F' (List.mem_cons_self ..) a z.1 ha
      obtain ⟨Fs', R', n2⟩ := ih (s := s.set i (some d)) R1 hd1 fr.2
      refine ⟨Fs', R', fun j a h => ?_⟩
      rcases n2 j a h with z | ⟨z, G, hG, ha⟩
      · rcases n1 j a z with w | w
        · exact .inl w.1
        · refine .inr ⟨?_, F, List.mem_cons_self .., w.1⟩
          rw [w.2]
          exact fr.1 a w.1
      · exact .inr ⟨z, G, List.mem_cons_of_mem _ hG, ha⟩
end
abbrev I := Sg → Res (List D × List (Nat × D))
structure WalkD (K : PySem.W.Frag) (J : It) (G : Hp → Prop) (es : List D) : Prop where
  goes : ∀ i H, i < es.length → G H → J.go i H
  stops : ∀ H, G H → J.stop es.length H
  yields : ∀ i H x H', i < es.length → G H → J.yld i H x H' → ∃ d, es[i]? = some d ∧ Same H H' ∧ Own K H' d x []
def tI [Tb] [Vs] (K : PySem.W.Frag) (g : I) : TI := fun σ H R => ∃ s Fs es l s', RelS K H s σ Fs ∧ g s = .ok (es, l) s' ∧
  ∀ J H1 Fs1 Gs (G : Hp → Prop), RelS K H1 s' σ Fs1 → Chg (InF Fs) H H1 → (∀ j a, a ∈ Fs1 j → a ∈ Fs j ∨ H a = none) → Hid K H1 σ Fs1 l Gs → From H Fs l Gs → WalkD K J G es →
    (∀ H2 Fs2, Ev H1 Fs1 H2 Fs2 → G H2) → R J H1
def SimI [Tb] [Vs] (X : Cx) (tg iter : Expr) (g : I) : Prop := PI X tg iter (tI X.K g)
theorem pi_imp {X : Cx} {tg e : Expr} {t t' : TI} (h : PI X tg e t) (i : ∀ σ H Q, t' σ H Q → t σ H Q) : PI X tg e t' := ⟨fun pins s σ H Q I q => h.run pins s σ H Q I (i σ H Q q)⟩
/-- from operands that stand: items -/
def mkI (itm : List D → Option (List D)) (g : AL) : I := fun s => (g s).bind fun rs s1 => match rds rs s1 with
  | none => .bad
  | some ds => match itm ds with
    | none => .bad
    | some es => if purs es = true ∧ nodupB ((lks rs ds).map (·.1)) = true then .ok (es, lks rs ds) (lockS (lks rs ds) s1) else .bad
section
variable [Tb] [Vs] {X : Cx} {K : PySem.W.Frag}
theorem lks_has {H : Hp} {s : Sg} {σ : St} {Fs : Fp} {rs : List Rf} {vs : List V} {Gs : List (List Addr)} (r : Rfs K H σ Fs rs vs Gs) : ∀ {ds : List D}, rds rs s = some ds → ∀ p, p ∈ lks rs ds → s[p.1]? = some (some p.2) := by
  induction r with
  | nil => intro ds e p h; cases e; simp [lks] at h
  | @val d v F rs vs Gs A n _ ih =>
    intro ds e p h
    unfold rds at e
    simp only [rd] at e
    split at e
    · cases e
    · rename_i es he
      cases e
      exact ih he p (by simpa [lks] using h)
  | @slot i v rs vs Gs hv _ ih =>
    intro ds e p h
    unfold rds at e
    simp only [rd] at e
    split at e
    · cases e
    · rename_i d hd
      split at e
      · cases e
      · rename_i es he
        cases e
        unfold lks at h
        split at h
        · exact ih he p h
        · rcases List.mem_cons.mp h with rfl | h
          · exact join_some hd
          · exact ih he p h
/-- the operands stand through what a loop does -/
theorem lks_stand {H H2 : Hp} {s : Sg} {σ : St} {Fs Fs1 Fs2 : Fp} (R : RelS K H s σ Fs) (sub : ∀ j a, a ∈ Fs1 j → a ∈ Fs j) (e : Ev H Fs1 H2 Fs2) {l : List (Nat × D)} {Gl : List (List Addr)} (hd : Hid K H σ Fs1 l Gl) :
    ∀ {rs : List Rf} {vs : List V} {Gs : List (List Addr)}, Rfs K H σ Fs rs vs Gs → ∀ {ds : List D}, rds rs s = some ds → (∀ p, p ∈ lks rs ds → p ∈ l) → RdA K H2 vs ds := by
  intro rs vs Gs r
  induction r with
  | nil => intro ds e _; cases e; exact .nil
  | @val d v F rs vs Gs A n _ ih =>
    intro ds e' h
    unfold rds at e'
    simp only [rd] at e'
    split at e'
    · cases e'
    · rename_i es he
      cases e'
      have A1 : Apart K H Fs1 d v F := ⟨A.own, fun i a hi ha => A.dis i a (sub i a hi) ha⟩
      exact .cons (A1.ev e).own (ih he fun p hp => h p (by simpa [lks] using hp))
  | @slot i v rs vs Gs hv _ ih =>
    intro ds e' h
    unfold rds at e'
    simp only [rd] at e'
    split at e'
    · cases e'
    · rename_i d hd0
      split at e'
      · cases e'
      · rename_i es he
        cases e'
        obtain ⟨v', hv', o⟩ := R.has i d (join_some hd0)
        rw [hv] at hv'
        cases hv'
        by_cases hp : pur d = true
        · rw [o.pur hp] at o
          refine .cons (o.chg e.chg fun _ z => by cases z) (ih he fun p hp' => h p ?_)
          unfold lks
          rw [if_pos hp]
          exact hp'
        · have hm : (i, d) ∈ l := h (i, d) (by unfold lks; rw [if_neg hp]; exact List.mem_cons_self ..)
          have key : ∀ {l : List (Nat × D)} {Gl : List (List Addr)}, Hid K H σ Fs1 l Gl → (i, d) ∈ l → ∃ F, Apart K H Fs1 d v F := fun {l Gl} q => by
            induction q with
            | nil => intro h; cases h
            | @cons j d' v' F l Gl hv' A n _ ih =>
              intro h
              rcases List.mem_cons.mp h with z | h
              · cases z
                have hv' := hv'.get
                rw [hv] at hv'
                cases hv'
                exact ⟨F, A⟩
              · exact ih h
          obtain ⟨F, A⟩ := key hd hm
          refine .cons (A.ev e).own (ih he fun p hp' => h p ?_)
          unfold lks
          rw [if_neg hp]
          exact List.mem_cons_of_mem _ hp'
/-- the rule of a walk over operands: J as the values say -/
theorem mkI_ok {itm : List D → Option (List D)} {g : AL} {σ : St} {H : Hp} {R : It → Hp → Prop} (h : tI K (mkI itm g) σ H R) {w : List V → Hp → (It → Hp → Prop) → Prop}
    (hw : ∀ vs ds es H R, RdA K H vs ds → itm ds = some es → purs es = true → (∀ J, WalkD K J (fun H2 => RdA K H2 vs ds) es → R J H) → w vs H R) : tA K g σ H fun vs H1 => w vs H1 R := by
  obtain ⟨s, Fs, es, l, s', R0, e, q⟩ := h
  obtain ⟨rs, s1, e1, e⟩ := bind_inv e
  refine ⟨s, Fs, rs, s1, R0, e1, fun vs H1 Fs1 Gs R1 E1 k1 n1 => ?_⟩
  split at e
  · cases e
  · rename_i ds hds
    split at e
    · cases e
    · rename_i es' hes
      split at e
      · rename_i hp
        cases e
        obtain ⟨Fs2, Gl, R2, hd, sub, fr⟩ := R1.lock (lks_has k1 hds) hp.2
        refine hw vs ds es H1 R (k1.dp R1 hds) hes hp.1 fun J W => ?_
        refine q J H1 Fs2 Gl _ R2 E1.chg (fun j a h => E1.new j a (sub j a h)) hd (fr.trans E1.new fun a h => E1.chg.there a h) W fun H2 Fs3 E => ?_
        exact lks_stand R1 sub E hd k1 hds fun p h => h
      · cases e
theorem purs_get {es : List D} (h : purs es = true) {i : Nat} {d : D} (e : es[i]? = some d) : pur d = true := by
  induction es generalizing i with
  | nil => simp at e
  | cons x es ih =>
    simp only [purs, Bool.and_eq_true] at h
    cases i with
    | zero => simp at e; rw [← e]; exact h.1
    | succ i => exact ih h.2 (by simpa using e)
theorem OwnA.at {H : Hp} {ds : List D} {vs : List V} {F : List Addr} (t : OwnA K H ds vs F) (p : purs ds = true) {i : Nat} {x : V} (e : vs[i]? = some x) : ∃ d, ds[i]? = some d ∧ Own K H d x [] := by
  have hl := t.len
  have hi : i < ds.length := by rw [← hl]; exact (List.getElem?_eq_some_iff.mp e).1
  obtain ⟨v, G, hv, o, _⟩ := t.get i ds[i] (List.getElem?_eq_getElem hi)
  rw [e] at hv
  cases hv
  have pp := purs_get p (List.getElem?_eq_getElem hi)
  rw [o.pur pp] at o
  exact ⟨_, List.getElem?_eq_getElem hi, o⟩
/-- plain: a list, a tuple, a list that never changes -/
def itP : List D → Option (List D)
  | [.list ds] => some ds
  | [.tuple ds] => some ds
  | [.dict [(.none, .list ds)]] => some ds
  | _ => none
def wP (K : PySem.W.Frag) : List V → Hp → (It → Hp → Prop) → Prop := fun vs H R => ∃ a, vs = [.ref a] ∧ ((∃ xs, SqL K H a xs) ∧ R (Itl K a) H ∨ (∃ xs, SqT K H a xs) ∧ R (Itt K a) H)
theorem rd_list {H : Hp} {a : Addr} {ds : List D} (h : RdA K H [.ref a] [.list ds]) : ∃ xs F, SqL K H a xs ∧ OwnA K H ds xs F := by
  cases h with
  | cons o _ =>
    cases o with
    | lst h t n => exact ⟨_, _, SqL.of h, t⟩
theorem rd_tup {H : Hp} {a : Addr} {ds : List D} (h : RdA K H [.ref a] [.tuple ds]) : ∃ xs F, SqT K H a xs ∧ OwnA K H ds xs F := by
  cases h with
  | cons o _ =>
    cases o with
    | tup h t => exact ⟨_, _, h.sq, t⟩
theorem rd_frz {H : Hp} {a : Addr} {ds : List D} (h : RdA K H [.ref a] [.dict [(.none, .list ds)]]) : ∃ xs F, SqL K H a xs ∧ OwnA K H ds xs F := by
  cases h with
  | cons o _ =>
    cases o with
    | frz h t => exact ⟨_, _, h.sq, t⟩
theorem walkD_l {a : Addr} {ds : List D} {G : Hp → Prop} (p : purs ds = true) (h : ∀ H, G H → ∃ xs F, SqL K H a xs ∧ OwnA K H ds xs F) : WalkD K (Itl K a) G ds := by
  refine ⟨fun i H hi g => ?_, fun H g => ?_, fun i H x H' hi g y => ?_⟩
  · obtain ⟨xs, F, hq, t⟩ := h H g
    have hl := t.len
    exact ⟨xs, xs[i]'(by omega), hq, List.getElem?_eq_getElem _⟩
  · obtain ⟨xs, F, hq, t⟩ := h H g
    have hl := t.len
    exact ⟨xs, hq, by omega⟩
  · obtain ⟨xs, F, hq, t⟩ := h H g
    obtain ⟨rfl, y⟩ := y
    obtain ⟨d, hd, o⟩ := t.at p (y xs hq)
    exact ⟨d, hd, Same.refl _, o⟩
theorem walkD_t {a : Addr} {ds : List D} {G : Hp → Prop} (p : purs ds = true) (h : ∀ H, G H → ∃ xs F, SqT K H a xs ∧ OwnA K H ds xs F) : WalkD K (Itt K a) G ds := by
  refine ⟨fun i H hi g => ?_, fun H g => ?_, fun i H x H' hi g y => ?_⟩
  · obtain ⟨xs, F, hq, t⟩ := h H g
    have hl := t.len
    exact ⟨xs, xs[i]'(by omega), hq, List.getElem?_eq_getElem _⟩
  · obtain ⟨xs, F, hq, t⟩ := h H g
    have hl := t.len
    exact ⟨xs, hq, by omega⟩
  · obtain ⟨xs, F, hq, t⟩ := h H g
    obtain ⟨rfl, y⟩ := y
    obtain ⟨d, hd, o⟩ := t.at p (y xs hq)
    exact ⟨d, hd, Same.refl _, o⟩
theorem wP_ok : ∀ (vs : List V) (ds es : List D) (H : Hp) (R : It → Hp → Prop), RdA K H vs ds → itP ds = some es → purs es = true → (∀ J, WalkD K J (fun H2 => RdA K H2 vs ds) es → R J H) → wP K vs H R := by
  intro vs ds es H R h e p q
  unfold itP at e
  split at e
  · cases e
    obtain ⟨x, F, rfl, o⟩ := h.one
    cases o with
    | lst h1 t n => exact ⟨_, rfl, .inl ⟨⟨_, SqL.of h1⟩, q _ (walkD_l p fun H2 g => rd_list g)⟩⟩
  · cases e
    obtain ⟨x, F, rfl, o⟩ := h.one
    cases o with
    | tup h1 t => exact ⟨_, rfl, .inr ⟨⟨_, h1.sq⟩, q _ (walkD_t p fun H2 g => rd_tup g)⟩⟩
  · cases e
    obtain ⟨x, F, rfl, o⟩ := h.one
    cases o with
    | frz h1 t => exact ⟨_, rfl, .inl ⟨⟨_, h1.sq⟩, q _ (walkD_l p fun H2 g => rd_frz g)⟩⟩
  · cases e
/-- over a list or a tuple -/
theorem pi_seq {tg e : Expr} {te : TE} (he : PE X e te) : PI X tg e (fun σ H R => te σ H fun x H1 => wP X.K [x] H1 R) := by
  refine ⟨fun pins s σ H R I h => ?_⟩
  -- the value is known only when it is there: both rules run on the same evaluation
  refine thn (he.run pins s σ H _ I h) fun v s1 ⟨x, H1, I1, r1, a, ex, q⟩ => ?_
  have ex' : x = V.ref a := by cases ex; rfl
  subst ex'
  rcases q with ⟨⟨xs, hq⟩, q⟩ | ⟨⟨xs, hq⟩, q⟩
  · cases r1
    obtain ⟨its, rv, p, hz⟩ := I1.list hq
    refine wpAny_pyIter_list p.isList ?_
    refine ⟨s1.heap.objs.size, [s1.heap.objs.size], _, _, H1, rfl, I1.kept (t' := s1.toks) fun b o e => Heap.get?_push_of_some _ e, turn_list a _, ⟨_, Heap.get?_push_size _ rfl, rfl, rfl⟩, fun b hb => ?_, q⟩
    have e : b = s1.heap.objs.size := by simpa using hb
    subst e
    exact I1.fpOk (Nat.le_refl _) (I1.hok.fresh (Nat.le_refl _))
  · cases r1
    obtain ⟨its, rv, p, hz⟩ := I1.tuple hq
    refine wpAny_pyIter_tuple (show s1.heap.IsTuple a its.toArray from p) ?_
    refine ⟨s1.heap.objs.size, [s1.heap.objs.size], _, _, H1, rfl, I1.kept (t' := s1.toks) fun b o e => Heap.get?_push_of_some _ e, turn_tuple a _, ⟨_, Heap.get?_push_size _ rfl, rfl, rfl⟩, fun b hb => ?_, q⟩
    have e : b = s1.heap.objs.size := by simpa using hb
    subst e
    exact I1.fpOk (Nat.le_refl _) (I1.hok.fresh (Nat.le_refl _))
theorem si_seq {tg e : Expr} {ga : O} (he : SimO X e ga) : SimI X tg e (mkI itP (aCons ga aNil)) :=
  pi_imp (pi_seq he) fun _ _ _ h => by have z := tA1 (mkI_ok h wP_ok); exact z
def rngD (lo : Int) (n : Nat) : List D := (List.range n).map fun i => .int (lo + (i : Nat))
def itR1 : List D → Option (List D)
  | [.int j] => if -1000000 < j ∧ j < 1000000 then some (rngD 0 j.toNat) else none
  | _ => none
def itR2 : List D → Option (List D)
  | [.int i, .int j] => if -1000000 < i ∧ i < 1000000 ∧ -1000000 < j ∧ j < 1000000 then some (rngD i (j - i).toNat) else none
  | _ => none
theorem rngD_len (lo : Int) (n : Nat) : (rngD lo n).length = n := by unfold rngD; simp
theorem walkD_r {lo : Int} {n : Nat} {G : Hp → Prop} : WalkD K (Itr lo n) G (rngD lo n) := by
  refine ⟨fun i H hi g => by rw [rngD_len] at hi; exact hi, fun H g => by rw [rngD_len]; exact Nat.le_refl _, fun i H x H' hi g y => ?_⟩
  obtain ⟨rfl, rfl⟩ := y
  rw [rngD_len] at hi
  refine ⟨.int (lo + (i : Nat)), ?_, Same.refl _, .int _⟩
  unfold rngD
  rw [List.getElem?_map, List.getElem?_range hi]
  rfl
theorem si_range1 {tg a : Expr} {ga : O} {p pos : Pos} (hg : Gl X "range") (hm : X.mg "range" = none) (ha : SimA X [a] (aCons ga aNil)) (hs : starEach [a] X.env = [(false, eval a X.env)] := by rfl) : SimI X tg (.Call (.Name "range" p) [a] [] pos) (mkI itR1 (aCons ga aNil)) := by
  refine pi_imp (pi_range1 hg hm ha hs) fun σ H R h => ?_
  exact mkI_ok h (w := fun vs H1 R => ∃ j : Int, vs = [.int j] ∧ -(2 ^ 62) ≤ j ∧ j < 2 ^ 62 ∧ R (Itr 0 j.toNat) H1) (fun vs ds es H R h e p q => by
    unfold itR1 at e
    split at e
    · obtain ⟨x, F, rfl, o⟩ := h.one
      cases o
      split at e
      · rename_i hj
        cases e
        exact ⟨_, rfl, by omega, by omega, q _ walkD_r⟩
      · cases e
    · cases e)
end
end Sim
namespace Sim
open PySem PySem.Spec L2
open Sem (wp)
theorem meets_enumerate_newB1 {v : Value} {o : Obj} {H : Heap → Prop} (B : Begins v o H) :
    Meets (Builtin.«enumerate.__new__» ⟨[.type "enumerate", v], []⟩) (fun _ R s => H s.heap ∧
      R (.ok (.ret (.ref (s.heap.push o).objs.size))) { s with heap := (s.heap.push o).push { cls := .type "enumerate", data := .fields #[.none, .bool false, .ref s.heap.objs.size, rawInt 0, .none, .none] } }) :=
  .of_wp fun prog w A R s h => by
    obtain ⟨hp, g, d, tk, os⟩ := s; obtain ⟨h1, h⟩ := h
    have hsub := sub_enumerate
    have q1 : ∀ {A' : Around} {E : Value → Shared → Prop} {Q : Value → Shared → Prop}, Q (.ref hp.objs.size) ⟨hp.push o, g, d, tk, os⟩ → wpAny (model prog w) A' (pyIter v) Q E ⟨hp, g, d, tk, os⟩ :=
      fun q => B.iter prog w _ _ ⟨hp, g, d, tk, os⟩ _ h1 q
    wp_walk using q1
    refine wpAny_stack_any fun st => wpAny_pure ?_
    split
    · rename_i c _ _ _ _ _
      cases (c == Value.type "enumerate")
      · wp_walk using q1
        exact ⟨_, rfl, h⟩
      · wp_walk using q1
        exact ⟨_, rfl, h⟩
    · wp_walk using q1
      exact ⟨_, rfl, h⟩
theorem enum_begins1 {prog : Program} {w : World} {A : Around} {E : Value → Shared → Prop} {s : Shared} {v : Value} {o : Obj} {H : Heap → Prop} {Q : Value → Shared → Prop} (B : Begins v o H) (h1 : H s.heap)
    (h : ∀ h', IsEnum h' (s.heap.objs.size + 1) s.heap.objs.size 0 .none → h'.get? s.heap.objs.size = some o → h'.objs.size = s.heap.objs.size + 2 →
      (∀ b o, s.heap.get? b = some o → h'.get? b = some o) → Q (.ref (s.heap.objs.size + 1)) { s with heap := h' }) :
    wpAny (model prog w) A (call (.type "enumerate") [v]) Q E s := by
  refine callType_new F.called_enumerate (by decide) (F.typeCall_enumerate_1 _) (F.newCall_enumerate_1 _) (fun obj => F.args_object_init_2 obj _) F.entry_enumerate_new
    (meets_enumerate_newB1 B) ⟨h1, ?_⟩
  have hz : (s.heap.push o).objs.size = s.heap.objs.size + 1 := Heap.size_push ..
  show _ ∧ _
  rw [hz]
  have he : IsEnum ((s.heap.push o).push { cls := .type "enumerate", data := .fields #[.none, .bool false, .ref s.heap.objs.size, rawInt 0, .none, .none] }) (s.heap.objs.size + 1) s.heap.objs.size 0 .none := by
    have := Heap.get?_push_size (s.heap.push o) (o := { cls := .type "enumerate", data := .fields #[.none, .bool false, .ref s.heap.objs.size, rawInt 0, .none, .none] }) rfl
    rw [hz] at this; exact this
  refine ⟨⟨_, he, rfl⟩, h _ he (Heap.get?_push_of_some _ (Heap.get?_push_size _ B.free)) (by rw [Heap.size_push, hz]) fun b o x => Heap.get?_push_of_some _ (Heap.get?_push_of_some _ x)⟩
def Sq2 (K : PySem.W.Frag) (H : Hp) (k : Bool) (a : Addr) (xs : List V) : Prop := match k with
  | true => SqL K H a xs
  | false => SqT K H a xs
def SrcH (h : Heap) (k : Bool) (a : Addr) (items : Array Value) : Prop := match k with
  | true => h.IsList a items
  | false => h.IsTuple a items
def ItH (h : Heap) (k : Bool) (it a : Addr) (i : Nat) : Prop := match k with
  | true => h.IsListIter it a i
  | false => h.IsTupleIter it a i
theorem sq2_src {X : Cx} {pins : List (Addr × Obj)} {σ : St} {H : Hp} {s : Shared} {k : Bool} {a : Addr} {xs : List V} (I : Inv X pins σ H s) (h : Sq2 X.K H k a xs) : ∃ its : List Value, Vals xs its ∧ SrcH s.heap k a its.toArray ∧ xs.length ≤ sizeLine := by
  cases k with
  | true =>
    obtain ⟨its, r, p, z⟩ := I.list h
    exact ⟨its, r, p.isList, z⟩
  | false =>
    obtain ⟨its, r, p, z⟩ := I.tuple h
    exact ⟨its, r, p, z⟩
theorem sq2_inj {X : Cx} {pins : List (Addr × Obj)} {σ : St} {H : Hp} {s : Shared} {k : Bool} {a : Addr} {xs ys : List V} (I : Inv X pins σ H s) (h : Sq2 X.K H k a xs) (h2 : Sq2 X.K H k a ys) : xs = ys := by
  cases k with
  | true => exact I.list_inj h h2
  | false => exact I.tuple_inj h h2
theorem itH_obj {h : Heap} {k : Bool} {it a : Addr} {i : Nat} (st : ItH h k it a i) : ∃ o, h.get? it = some o ∧ ∀ v, o.data ≠ .cell v := by
  cases k with
  | true =>
    obtain ⟨o, ho, hc, hd⟩ := st
    exact ⟨o, ho, fun v q => by rw [hd] at q; cases q⟩
  | false =>
    obtain ⟨o, ho, hc, hd⟩ := st
    exact ⟨o, ho, fun v q => by rw [hd] at q; cases q⟩
theorem itH_at {h h' : Heap} {k : Bool} {it a : Addr} {i : Nat} (st : ItH h k it a i) (q : ∀ o, h.get? it = some o → h'.get? it = some o) : ItH h' k it a i := by
  cases k with
  | true => exact Heap.IsListIter.at st q
  | false => exact Heap.IsTupleIter.at st q
theorem itH_lt {h : Heap} {k : Bool} {it a : Addr} {i : Nat} (st : ItH h k it a i) : it < h.objs.size := by
  obtain ⟨o, ho, _⟩ := itH_obj st
  exact Heap.lt_size ho
theorem src_apart {h : Heap} {k k2 : Bool} {it b a : Addr} {i : Nat} {items : Array Value} (st : ItH h k it b i) (ht : SrcH h k2 a items) : a ≠ it := by
  rintro rfl
  have e1 : ∃ o, h.get? a = some o ∧ (o.cls = .type "list_iterator" ∨ o.cls = .type "tuple_iterator") := by
    cases k with
    | true => obtain ⟨o, ho, hc, _⟩ := st; exact ⟨o, ho, .inl hc⟩
    | false => obtain ⟨o, ho, hc, _⟩ := st; exact ⟨o, ho, .inr hc⟩
  have e2 : ∃ o, h.get? a = some o ∧ (o.cls = .type "list" ∨ o.cls = .type "tuple") := by
    cases k2 with
    | true => obtain ⟨o, ho, hc, _⟩ := ht; exact ⟨o, ho, .inl hc⟩
    | false => obtain ⟨o, ho, hc, _⟩ := ht; exact ⟨o, ho, .inr hc⟩
  obtain ⟨o, ho, hc⟩ := e1
  obtain ⟨o', ho', hc'⟩ := e2
  rw [ho] at ho'
  cases ho'
  rcases hc with hc | hc <;> rcases hc' with hc' | hc' <;> rw [hc] at hc' <;> injection hc' with z <;> exact absurd z (by decide)
theorem src_cls {h : Heap} {k : Bool} {a : Addr} {items : Array Value} (ht : SrcH h k a items) {o : Obj} (ho : h.get? a = some o) : o.cls = .type "list" ∨ o.cls = .type "tuple" := by
  cases k with
  | true => obtain ⟨o', ho', hc, _⟩ := ht; rw [ho] at ho'; cases ho'; exact .inl hc
  | false => obtain ⟨o', ho', hc, _⟩ := ht; rw [ho] at ho'; cases ho'; exact .inr hc
theorem draws_src {prog : Program} {w : World} {A : Around} (hh : A.handled = none) (k : Bool) (it a : Addr) (hne : a ≠ it) (items : Array Value) :
    Draws prog w A it [it, a] items.size (fun i v => items[i]? = some v) (fun i h => ItH h k it a i ∧ SrcH h k a items) := by
  cases k with
  | true => exact Draws.list hh it a hne items
  | false => exact Draws.tuple hh it a hne items
theorem begins_src (k : Bool) (a : Addr) (items : Array Value) : ∃ o, Begins (.ref a) o (fun h => SrcH h k a items) ∧ ∀ (h : Heap) (it : Addr), h.get? it = some o → ItH h k it a 0 := by
  cases k with
  | true => exact ⟨_, begins_list a items, fun h it e => ⟨_, e, rfl, rfl⟩⟩
  | false => exact ⟨_, begins_tuple a items, fun h it e => ⟨_, e, rfl, rfl⟩⟩
def IteA (K : PySem.W.Frag) (k : Bool) (a : Addr) : It :=
  ⟨fun i H => ∃ (xs : List V) (x : V), Sq2 K H k a xs ∧ xs[i]? = some x, fun i H v H' => ∃ T o x, v = .ref T ∧ H T = none ∧ o.dict = none ∧ H' = upd H T (.frz o (.tup [.int (i : Nat), x])) ∧ ∀ xs, Sq2 K H k a xs → xs[i]? = some x, fun i H => ∃ xs : List V, Sq2 K H k a xs ∧ xs.length = i⟩
theorem enum_apart {h : Heap} {k : Bool} {e a : Addr} {i : Addr} {c : Int} {old : Value} {items : Array Value} (he : IsEnum h e i c old) (ht : SrcH h k a items) : e ≠ a := by
  rintro rfl
  have he' : h.get? e = some _ := he
  rcases src_cls ht he' with z | z <;> injection z with z <;> exact absurd z (by decide)
theorem turn_enumA {P : Program} {w : World} {K : PySem.W.Frag} {elts : List Expr} {kk : Nat} {tpos : Pos} (k : Bool) (a e it : Addr) :
    Turn P w K (.Tuple elts kk tpos) (IteA K k a) [e, it] e (fun i h => (∃ old, IsEnum h e it ((i : Nat) : Int) old) ∧ ItH h k it a i ∧ e ≠ it) where
  mem := by simp
  obj := fun i h st b hb => by
    obtain ⟨⟨old, he⟩, hi, _⟩ := st
    have e' : b = e ∨ b = it := by simpa using hb
    rcases e' with z | z
    · rw [z]; exact ⟨_, he, fun v q => nomatch q⟩
    · rw [z]; exact itH_obj hi
  keep := fun i h h' st k => let ⟨⟨old, he⟩, hi, hne⟩ := st; ⟨⟨old, k e (by simp) _ he⟩, itH_at hi fun o q => k it (by simp) o q, hne⟩
  item := by
    intro X hP hw hK hc i pins s σ H E I hf st hg
    subst hP hw hK
    obtain ⟨⟨old, he⟩, hit, hne⟩ := st
    obtain ⟨xs, x, hq, hx⟩ := hg
    obtain ⟨its, rv, ht, hz⟩ := sq2_src I hq
    obtain ⟨u, hu, ru⟩ := rv.get hx
    have hel : e < s.heap.objs.size := Heap.lt_size he
    have hil := itH_lt hit
    have hai := src_apart hit ht
    have hea := enum_apart he ht
    have hh : X.A.in1.handled = none := I.ok.hd hc
    have hlt : i < its.toArray.size := by
      have := (List.getElem?_eq_some_iff.mp hu).1
      simpa using this
    refine wpAny_pyNext_enum_itemC (draws_src hh k it a hai its.toArray) he ⟨hit, ht⟩ hlt hne (by simp [hne, hea]) fun x' h' tk hP ho hst hT hsz hk => ?_
    have hxu : x' = u := by
      have q : its.toArray[i]? = some u := by simpa using hu
      rw [q] at hP
      exact (Option.some.inj hP).symm
    subst hxu
    refine ⟨_, rfl, wpAny_letOwnedTupleGo_enum (s := { s with heap := h', toks := tk + 1 }) ho fun h'' he' sb => ?_⟩
    have hT2 : h''.get? s.heap.objs.size = some { cls := .type "tuple", data := .seq #[.int i tk, x'] } := (sb.2 _ (Nat.ne_of_gt hel)).trans hT
    have new : ObjOk X.prog X.w (upd H s.heap.objs.size (.frz { cls := .type "tuple", data := .seq #[.int i tk, x'] } (.tup [.int (i : Nat), x]))) h'' s.heap.objs.size (.frz { cls := .type "tuple", data := .seq #[.int i tk, x'] } (.tup [.int (i : Nat), x])) :=
      ⟨hT2, by show 2 ≤ sizeLine; decide, [.int i tk, x'], .cons ⟨_, rfl⟩ (.cons ru .nil), ⟨_, hT2, rfl, _, rfl⟩⟩
    have I1 : Inv X pins σ (upd H s.heap.objs.size (.frz { cls := .type "tuple", data := .seq #[.int i tk, x'] } (.tup [.int (i : Nat), x]))) { s with heap := h'', toks := tk + 1 } :=
      I.turnedNew (ch := [e, it]) (fun b ob hb q => (sb.2 b (fun z => hb (by simp [z]))).trans (hk b ob (fun z => hb (by simp [z])) (fun z => hb (by simp [z])) q)) hf (Nat.le_refl _) new
    refine ⟨.ref s.heap.objs.size, _, I1, rfl, ⟨_, _, x, rfl, I.hok.fresh (Nat.le_refl _), rfl, rfl, fun ys hy => by rw [sq2_inj I hy hq]; exact hx⟩, ⟨⟨x', ?_⟩, itH_at hst.1 fun o q => (sb.2 it (Ne.symm hne)).trans q, hne⟩, fun b hb => ?_⟩
    · have e1 : ((i + 1 : Nat) : Int) = (i : Int) + 1 := by omega
      rw [e1]; exact he'
    · have hb' : b < s.heap.objs.size := by
        have e' : b = e ∨ b = it := by simpa using hb
        rcases e' with z | z
        · rw [z]; exact hel
        · rw [z]; exact hil
      rw [upd_ne (Nat.ne_of_lt hb')]
      exact (hf b hb).1
  done := by
    intro X hP hw hK hc i pins s σ H E I hf st hg
    subst hP hw hK
    obtain ⟨⟨old, he⟩, hit, hne⟩ := st
    obtain ⟨xs, hq, hx⟩ := hg
    obtain ⟨its, rv, ht, hz⟩ := sq2_src I hq
    obtain ⟨f0, f1, f2, f3, f4, f5⟩ := hf it (by simp)
    have hl := rv.length
    have hai := src_apart hit ht
    have hh : X.A.in1.handled = none := I.ok.hd hc
    have hi : i = its.toArray.size := by rw [List.size_toArray]; omega
    subst hi
    exact wpAny_pyNext_enum_endD (draws_src hh k it a hai its.toArray) he ⟨hit, ht⟩ fun h' eb => ⟨rfl, I.turned (t' := s.toks) (fun b o hb q => eb b o hb q) f0 f1 f3 f4 f5⟩
  self := fun A i s Q E st h => let ⟨⟨_, he⟩, _⟩ := st; wpAny_pyIter_enum he h
def iEnumA (K : PySem.W.Frag) (ta : TA) : TI := fun σ H R => ta σ H fun vs H1 => ∃ k a xs, vs = [.ref a] ∧ Sq2 K H1 k a xs ∧ R (IteA K k a) H1
theorem pi_enumA {X : Cx} {e : Expr} {ta : TA} {p pos tpos : Pos} {elts : List Expr} {kk : Nat} (hg : Gl X "enumerate") (hm : X.mg "enumerate" = none) (ha : PA X [e] ta) (hs : starEach [e] X.env = [(false, eval e X.env)] := by rfl) :
    PI X (.Tuple elts kk tpos) (.Call (.Name "enumerate" p) [e] [] pos) (iEnumA X.K ta) := by
  refine ⟨fun pins s σ H R I h => ?_⟩
  refine PyProof.Rows.Call_ (ld_blt I hg hm PyProof.Rows.boot_enumerate (PyProof.Rows.callWith_type1 (thn (ha.run pos pins s σ H _ I h) fun us s1 ⟨vs, H1, I1, r1, q1⟩ => ?_) hs rfl))
  obtain ⟨k, a, xs, ex, hq, q⟩ := q1
  subst ex
  cases r1 with
  | cons r rr =>
    cases rr
    cases r
    have fin : ∀ b, b ∈ [s1.heap.objs.size + 1, s1.heap.objs.size] → FpOk X pins H1 b := fun b hb => by
      have e' : b = s1.heap.objs.size + 1 ∨ b = s1.heap.objs.size := by simpa using hb
      have hle : s1.heap.objs.size ≤ b := by
        rcases e' with z | z
        · rw [z]; exact Nat.le_add_right _ _
        · rw [z]; exact Nat.le_refl _
      exact I1.fpOk hle (I1.hok.fresh hle)
    obtain ⟨its, rv, ht, hz⟩ := sq2_src I1 hq
    obtain ⟨o, B, hB⟩ := begins_src k a its.toArray
    refine enum_begins1 B ht fun h' he hit hsz hk => wpAny_pyIter_enum he ?_
    have I2 : Inv X pins σ H1 { s1 with heap := h' } := I1.kept (t' := s1.toks) hk
    exact ⟨s1.heap.objs.size + 1, [s1.heap.objs.size + 1, s1.heap.objs.size], _, _, H1, rfl, I2, turn_enumA k a (s1.heap.objs.size + 1) s1.heap.objs.size, ⟨⟨.none, he⟩, hB _ _ hit, Nat.succ_ne_self _⟩, fin, q⟩
def ItzA (K : PySem.W.Frag) (k l : Bool) (a b : Addr) : It :=
  ⟨fun i H => ∃ (xs ys : List V) (x y : V), Sq2 K H k a xs ∧ Sq2 K H l b ys ∧ xs[i]? = some x ∧ ys[i]? = some y,
    fun i H v H' => ∃ T o x y, v = .ref T ∧ H T = none ∧ o.dict = none ∧ H' = upd H T (.frz o (.tup [x, y])) ∧ (∀ xs, Sq2 K H k a xs → xs[i]? = some x) ∧ ∀ ys, Sq2 K H l b ys → ys[i]? = some y,
    fun i H => ∃ xs ys : List V, Sq2 K H k a xs ∧ Sq2 K H l b ys ∧ i = min xs.length ys.length⟩
def ZSt (h : Heap) (k l : Bool) (z TI TO i1 i2 a b : Addr) (f0 : Value) (i : Nat) : Prop :=
  IsZip h z TI TO f0 ∧ IsTupOf2 h TI (.ref i1) (.ref i2) ∧ (∃ x y, IsTupOf2 h TO x y) ∧ ItH h k i1 a i ∧ ItH h l i2 b i
structure ZAp (z TI TO i1 i2 : Addr) : Prop where
  TIz : TI ≠ z
  TOz : TO ≠ z
  TITO : TI ≠ TO
  TIi1 : TI ≠ i1
  TIi2 : TI ≠ i2
  zi1 : z ≠ i1
  zi2 : z ≠ i2
  Ti1 : TO ≠ i1
  Ti2 : TO ≠ i2
  ii : i1 ≠ i2
theorem zap (n : Nat) : ZAp (n + 4) (n + 2) (n + 3) n (n + 1) := by
  constructor <;> (intro e; have e' : (_ : Nat) = _ := e; omega)
theorem zsep {h : Heap} {k l : Bool} {z TI TO i1 i2 a b : Addr} {f0 : Value} {i : Nat} {xs ys : Array Value} (D : ZAp z TI TO i1 i2) (st : ZSt h k l z TI TO i1 i2 a b f0 i) (h1 : SrcH h k a xs) (h2 : SrcH h l b ys) (hTO : TO ≠ a ∧ TO ≠ b) : ZipSep2 z TI TO i1 i2 [i1, a] [i2, b] := by
  have hz : h.get? z = some _ := st.1
  have za : ∀ {k a} {xs : Array Value}, SrcH h k a xs → z ≠ a := fun {k a xs} hh e => by
    subst e
    rcases src_cls hh hz with w | w <;> injection w with w <;> exact absurd w (by decide)
  have ia := src_apart st.2.2.2.1 h2
  have ib := src_apart st.2.2.2.2 h1
  exact ⟨D.TIz, D.TOz, D.TITO, D.TIi1, by simp, by simp [D.zi1, za h1], by simp [D.Ti1, hTO.1], D.TIi2, by simp, by simp [D.zi2, za h2], by simp [D.Ti2, hTO.2], by simp [D.ii, ia.symm], by simp [D.ii.symm, ib.symm]⟩
/-- the source's place isn't the iterator's own -/
theorem src_ne {X : Cx} {pins : List (Addr × Obj)} {H : Hp} {k : Bool} {a : Addr} {xs : List V} {T : Addr} (hf : FpOk X pins H T) (hq : Sq2 X.K H k a xs) {s : Shared} {σ : St} (I : Inv X pins σ H s) : T ≠ a := by
  rintro rfl
  have n := hf.1
  have key : ∀ {u : HO}, ¬ Rd H T u := fun {u} r => by
    rcases r with r | ⟨o, r⟩
    · rw [n] at r; cases r
    · rw [n] at r; cases r
  have kk : ∀ {o : Obj}, X.K.lookup T = some o → False := fun {o} hk => by
    have e1 : X.base.get? T = some o := I.ok.mod.kin T o hk
    have e2 := Heap.lt_size e1
    rcases hf.2.2.2.1 with z | z
    · exact I.ok.noex T o e1 z
    · exact absurd (Nat.lt_of_lt_of_le e2 (Nat.le_trans I.ok.bsz z)) (Nat.lt_irrefl _)
  cases k with
  | true =>
    rcases hq with r | ⟨o, _, _, hk, _⟩
    · exact key r
    · exact kk hk
  | false =>
    rcases hq with r | ⟨o, _, _, hk, _⟩
    · exact key r
    · exact kk hk
theorem turn_zipA {P : Program} {w : World} {K : PySem.W.Frag} {elts : List Expr} {kk : Nat} {tpos : Pos} (k l : Bool) {z TI TO i1 i2 : Addr} (a b : Addr) (D : ZAp z TI TO i1 i2) :
    Turn P w K (.Tuple elts kk tpos) (ItzA K k l a b) [z, TI, TO, i1, i2] z (fun i h => ZSt h k l z TI TO i1 i2 a b .none i) where
  mem := by simp
  obj := fun i h st c hc => by
    obtain ⟨hz, hTI, ⟨x, y, hTO⟩, h1, h2⟩ := st
    have e' : c = z ∨ c = TI ∨ c = TO ∨ c = i1 ∨ c = i2 := by simpa using hc
    rcases e' with q | q | q | q | q
    · rw [q]; exact ⟨_, hz, fun v q => nomatch q⟩
    · rw [q]; exact ⟨_, hTI, fun v q => nomatch q⟩
    · rw [q]; exact ⟨_, hTO, fun v q => nomatch q⟩
    · rw [q]; exact itH_obj h1
    · rw [q]; exact itH_obj h2
  keep := fun i h h' st k => by
    obtain ⟨hz, hTI, ⟨x, y, hTO⟩, h1, h2⟩ := st
    exact ⟨k z (by simp) _ hz, k TI (by simp) _ hTI, ⟨x, y, k TO (by simp) _ hTO⟩, itH_at h1 fun o q => k i1 (by simp) o q, itH_at h2 fun o q => k i2 (by simp) o q⟩
  item := by
    intro X hP hw hK hc i pins s σ H E I hf st hg
    subst hP hw hK
    obtain ⟨xs, ys, x, y, hqx, hqy, hx, hy⟩ := hg
    obtain ⟨its, rv, p, _⟩ := sq2_src I hqx
    obtain ⟨its2, rv2, p2, _⟩ := sq2_src I hqy
    obtain ⟨u, hu, ru⟩ := rv.get hx
    obtain ⟨u2, hu2, ru2⟩ := rv2.get hy
    have S := zsep D st p p2 ⟨src_ne (hf TO (by simp)) hqx I, src_ne (hf TO (by simp)) hqy I⟩
    obtain ⟨hz, hTI, ⟨x0, y0, hTO⟩, h1, h2⟩ := st
    have hzl : z < s.heap.objs.size := Heap.lt_size hz
    have hh : X.A.in1.handled = none := I.ok.hd hc
    have lt1 : i < its.toArray.size := by have := (List.getElem?_eq_some_iff.mp hu).1; simpa using this
    have lt2 : i < its2.toArray.size := by have := (List.getElem?_eq_some_iff.mp hu2).1; simpa using this
    refine wpAny_pyNext_zipD2_item S (draws_src hh k i1 a (src_apart h1 p) its.toArray) (draws_src hh l i2 b (src_apart h2 p2) its2.toArray) hz hTI hTO ⟨h1, p⟩ ⟨h2, p2⟩ lt1 lt2 fun v1 v2 h' tk q1 q2 z' TO' st1 st2 hT hsz hk => ?_
    have e1 : v1 = u := by
      have q : its.toArray[i]? = some u := by simpa using hu
      rw [q] at q1; exact (Option.some.inj q1).symm
    have e2 : v2 = u2 := by
      have q : its2.toArray[i]? = some u2 := by simpa using hu2
      rw [q] at q2; exact (Option.some.inj q2).symm
    subst e1 e2
    refine ⟨_, rfl, wpAny_letOwnedTupleGo_zip (s := { s with heap := h', toks := tk }) z' fun h'' z'' sb => ?_⟩
    have hT2 : h''.get? s.heap.objs.size = some { cls := .type "tuple", data := .seq #[v1, v2] } := (sb.2 _ (Nat.ne_of_gt hzl)).trans hT
    have new : ObjOk X.prog X.w (upd H s.heap.objs.size (.frz { cls := .type "tuple", data := .seq #[v1, v2] } (.tup [x, y]))) h'' s.heap.objs.size (.frz { cls := .type "tuple", data := .seq #[v1, v2] } (.tup [x, y])) :=
      ⟨hT2, by show 2 ≤ sizeLine; decide, [v1, v2], .cons ru (.cons ru2 .nil), ⟨_, hT2, rfl, _, rfl⟩⟩
    have I1 : Inv X pins σ (upd H s.heap.objs.size (.frz { cls := .type "tuple", data := .seq #[v1, v2] } (.tup [x, y]))) { s with heap := h'', toks := tk } :=
      I.turnedNew (ch := [z, TI, TO, i1, i2]) (fun c o hb q => (sb.2 c (fun q' => hb (by simp [q']))).trans (hk c o (fun q' => hb (by simp [q'])) (fun q' => hb (by simp [q'])) (fun q' => hb (by simp [q'])) (fun q' => hb (by simp [q'])) q)) hf (Nat.le_refl _) new
    refine ⟨.ref s.heap.objs.size, _, I1, rfl, ⟨_, _, x, y, rfl, I.hok.fresh (Nat.le_refl _), rfl, rfl, fun l hl => by rw [sq2_inj I hl hqx]; exact hx, fun l hl => by rw [sq2_inj I hl hqy]; exact hy⟩, ⟨z'', ?_, ⟨v1, v2, ?_⟩, ?_, ?_⟩, fun c hcm => ?_⟩
    · exact (sb.2 _ D.TIz).trans (hk _ _ D.TIz D.TITO D.TIi1 D.TIi2 hTI)
    · exact (sb.2 _ D.TOz).trans TO'
    · exact itH_at st1.1 fun o q => (sb.2 _ D.zi1.symm).trans q
    · exact itH_at st2.1 fun o q => (sb.2 _ D.zi2.symm).trans q
    · have hlt : c < s.heap.objs.size := by
        have e' : c = z ∨ c = TI ∨ c = TO ∨ c = i1 ∨ c = i2 := by simpa using hcm
        rcases e' with q | q | q | q | q
        · rw [q]; exact hzl
        · rw [q]; exact Heap.lt_size hTI
        · rw [q]; exact Heap.lt_size hTO
        · rw [q]; exact itH_lt h1
        · rw [q]; exact itH_lt h2
      rw [upd_ne (Nat.ne_of_lt hlt)]
      exact (hf c hcm).1
  done := by
    intro X hP hw hK hc i pins s σ H E I hf st hg
    subst hP hw hK
    obtain ⟨xs, ys, hqx, hqy, hend⟩ := hg
    obtain ⟨its, rv, p, _⟩ := sq2_src I hqx
    obtain ⟨its2, rv2, p2, _⟩ := sq2_src I hqy
    have S := zsep D st p p2 ⟨src_ne (hf TO (by simp)) hqx I, src_ne (hf TO (by simp)) hqy I⟩
    obtain ⟨hz, hTI, ⟨x0, y0, hTO⟩, h1, h2⟩ := st
    have hh : X.A.in1.handled = none := I.ok.hd hc
    have l1 := rv.length
    have l2 := rv2.length
    exact wpAny_pyNext_zipD2_end S (draws_src hh k i1 a (src_apart h1 p) its.toArray) (draws_src hh l i2 b (src_apart h2 p2) its2.toArray) hz hTI hTO ⟨h1, p⟩ ⟨h2, p2⟩ (by simp; omega) (by simp; omega) (by simp; omega)
      fun h' tk hk => ⟨rfl, I.turnedL (t' := tk) (ch := [z, TI, TO, i1, i2]) (fun c o hb q => hk c o (fun q' => hb (by simp [q'])) (fun q' => hb (by simp [q'])) (fun q' => hb (by simp [q'])) (fun q' => hb (by simp [q'])) q) hf⟩
  self := fun A i s Q E st h => wpAny_pyIter_zip st.1 h
def iZipA (K : PySem.W.Frag) (ta : TA) : TI := fun σ H R => ta σ H fun vs H1 => ∃ k l a b xs ys, vs = [.ref a, .ref b] ∧ Sq2 K H1 k a xs ∧ Sq2 K H1 l b ys ∧ R (ItzA K k l a b) H1
theorem pi_zipA {X : Cx} {e e2 : Expr} {ta : TA} {p pos tpos : Pos} {elts : List Expr} {kk : Nat} (hg : Gl X "zip") (hm : X.mg "zip" = none) (ha : PA X [e, e2] ta)
    (hs : starEach [e, e2] X.env = (false, eval e X.env) :: starEach [e2] X.env := by rfl) (hpl : (backTo pos (starEach [e2] X.env)).any (·.1) = false := by rfl) :
    PI X (.Tuple elts kk tpos) (.Call (.Name "zip" p) [e, e2] [] pos) (iZipA X.K ta) := by
  refine ⟨fun pins s σ H R I h => ?_⟩
  refine PyProof.Rows.Call_ (ld_blt I hg hm PyProof.Rows.boot_zip (PyProof.Rows.callWith_type1 (thn (ha.run pos pins s σ H _ I h) fun us s1 ⟨vs, H1, I1, r1, q1⟩ => ?_) hs hpl))
  obtain ⟨k, l, a, b, xs, ys, ex, hqx, hqy, q⟩ := q1
  subst ex
  cases r1 with
  | cons r rr =>
    cases rr with
    | cons r' rr =>
      cases rr
      cases r
      cases r'
      have fresh5 : ∀ c, c ∈ [s1.heap.objs.size + 4, s1.heap.objs.size + 2, s1.heap.objs.size + 3, s1.heap.objs.size, s1.heap.objs.size + 1] → FpOk X pins H1 c := fun c hcm => by
        have e' : c = s1.heap.objs.size + 4 ∨ c = s1.heap.objs.size + 2 ∨ c = s1.heap.objs.size + 3 ∨ c = s1.heap.objs.size ∨ c = s1.heap.objs.size + 1 := by simpa using hcm
        have hle : s1.heap.objs.size ≤ c := by omega
        exact I1.fpOk hle (I1.hok.fresh hle)
      obtain ⟨its, rv, p1, _⟩ := sq2_src I1 hqx
      obtain ⟨its2, rv2, p2, _⟩ := sq2_src I1 hqy
      obtain ⟨o1, B1, hB1⟩ := begins_src k a its.toArray
      obtain ⟨o2, B2, hB2⟩ := begins_src l b its2.toArray
      refine zip_begins2 B1 B2 p1 p2 fun h' hz hTI hTO h1 h2 hsz hk => wpAny_pyIter_zip hz ?_
      have I2 : Inv X pins σ H1 { s1 with heap := h' } := I1.kept (t' := s1.toks) hk
      exact ⟨s1.heap.objs.size + 4, [s1.heap.objs.size + 4, s1.heap.objs.size + 2, s1.heap.objs.size + 3, s1.heap.objs.size, s1.heap.objs.size + 1], _, _, H1, rfl, I2,
        turn_zipA k l a b (zap s1.heap.objs.size), ⟨hz, hTI, ⟨_, _, hTO⟩, hB1 _ _ h1, hB2 _ _ h2⟩, fresh5, q⟩
def enumD : Nat → List D → List D
  | _, [] => []
  | n, d :: ds => .tuple [.int (n : Int), d] :: enumD (n + 1) ds
def zipD : List D → List D → List D
  | d :: ds, e :: es => .tuple [d, e] :: zipD ds es
  | _, _ => []
def itE : List D → Option (List D)
  | [.list ds] => some (enumD 0 ds)
  | [.tuple ds] => some (enumD 0 ds)
  | [.dict [(.none, .list ds)]] => some (enumD 0 ds)
  | _ => none
def itZ : List D → Option (List D)
  | [.list ds, .list es] => some (zipD ds es)
  | [.tuple ds, .tuple es] => some (zipD ds es)
  | [.list ds, .tuple es] => some (zipD ds es)
  | [.tuple ds, .list es] => some (zipD ds es)
  | _ => none
theorem enumD_len : ∀ (n : Nat) (ds : List D), (enumD n ds).length = ds.length
  | _, [] => rfl
  | n, _ :: ds => by rw [enumD, List.length_cons, List.length_cons, enumD_len (n + 1) ds]
theorem enumD_get : ∀ (n : Nat) (ds : List D) (i : Nat) (d : D), ds[i]? = some d → (enumD n ds)[i]? = some (.tuple [.int ((n + i : Nat) : Int), d])
  | _, [], _, _, h => by simp at h
  | n, x :: ds, 0, d, h => by simp at h; subst h; rfl
  | n, x :: ds, i + 1, d, h => by
    have := enumD_get (n + 1) ds i d (by simpa using h)
    rw [enumD, List.getElem?_cons_succ, this]
    congr 5
    omega
theorem enumD_purs : ∀ (n : Nat) (ds : List D), purs (enumD n ds) = purs ds
  | _, [] => rfl
  | n, d :: ds => by simp [enumD, purs, pur, enumD_purs (n + 1) ds]
theorem zipD_len : ∀ (ds es : List D), (zipD ds es).length = min ds.length es.length
  | [], _ => by simp [zipD]
  | _ :: _, [] => by simp [zipD]
  | _ :: ds, _ :: es => by simp [zipD, zipD_len ds es]
theorem zipD_get : ∀ (ds es : List D) (i : Nat) (d e : D), ds[i]? = some d → es[i]? = some e → (zipD ds es)[i]? = some (.tuple [d, e])
  | [], _, _, _, _, h, _ => by simp at h
  | _ :: _, [], _, _, _, _, h => by simp at h
  | x :: ds, y :: es, 0, d, e, h, h2 => by simp at h h2; subst h; subst h2; rfl
  | x :: ds, y :: es, i + 1, d, e, h, h2 => by
    rw [zipD, List.getElem?_cons_succ]
    exact zipD_get ds es i d e (by simpa using h) (by simpa using h2)
section
variable [Tb] [Vs] {X : Cx} {K : PySem.W.Frag}
theorem pair_own {H H' : Hp} {T : Addr} {ob : Obj} {x y : V} {d e : D} (hT : H T = none) (hn : ob.dict = none) (hH : H' = upd H T (.frz ob (.tup [x, y]))) (o1 : Own K H d x []) (o2 : Own K H e y []) : Same H H' ∧ Own K H' (.tuple [d, e]) (.ref T) [] := by
  subst hH
  have sm : Same H (upd H T (.frz ob (.tup [x, y]))) := same_new hT
  exact ⟨sm, .tup (SqD.of upd_same hn) (.cons0 (o1.same sm) (.cons0 (o2.same sm) .nil))⟩
theorem purs_zip {ds es : List D} : ∀ {i : Nat} {d e : D}, purs (zipD ds es) = true → ds[i]? = some d → es[i]? = some e → pur d = true ∧ pur e = true := fun {i d e} p h1 h2 => by
  have := purs_get p (zipD_get ds es i d e h1 h2)
  simpa [pur, purs] using this
theorem walkD_e {k : Bool} {a : Addr} {ds : List D} {G : Hp → Prop} (p : purs ds = true) (h : ∀ H, G H → ∃ xs F, Sq2 K H k a xs ∧ OwnA K H ds xs F) : WalkD K (IteA K k a) G (enumD 0 ds) := by
  refine ⟨fun i H hi g => ?_, fun H g => ?_, fun i H x H' hi g y => ?_⟩
  · obtain ⟨xs, F, hq, t⟩ := h H g
    have hl := t.len
    rw [enumD_len] at hi
    exact ⟨xs, xs[i]'(by omega), hq, List.getElem?_eq_getElem _⟩
  · obtain ⟨xs, F, hq, t⟩ := h H g
    have hl := t.len
    rw [enumD_len]
    exact ⟨xs, hq, by omega⟩
  · obtain ⟨xs, F, hq, t⟩ := h H g
    obtain ⟨T, ob, x', rfl, hT, hn, hH, y⟩ := y
    obtain ⟨d, hd, o⟩ := t.at p (y xs hq)
    obtain ⟨sm, o2⟩ := pair_own hT hn hH (.int (i : Nat)) o
    exact ⟨_, by rw [enumD_get 0 ds i d hd, Nat.zero_add], sm, o2⟩
theorem si_enum {e : Expr} {ga : O} {p pos tpos : Pos} {elts : List Expr} {kk : Nat} (hg : Gl X "enumerate") (hm : X.mg "enumerate" = none) (ha : SimA X [e] (aCons ga aNil)) (hs : starEach [e] X.env = [(false, eval e X.env)] := by rfl) :
    SimI X (.Tuple elts kk tpos) (.Call (.Name "enumerate" p) [e] [] pos) (mkI itE (aCons ga aNil)) := by
  refine pi_imp (pi_enumA hg hm ha hs) fun σ H R h => ?_
  exact mkI_ok h (w := fun vs H1 R => ∃ k a xs, vs = [.ref a] ∧ Sq2 X.K H1 k a xs ∧ R (IteA X.K k a) H1) (fun vs ds es H R h e p q => by
    unfold itE at e
    split at e
    · cases e
      rw [enumD_purs] at p
      obtain ⟨x, F, rfl, o⟩ := h.one
      cases o with
      | lst h1 t n => exact ⟨true, _, _, rfl, SqL.of h1, q _ (walkD_e p fun H2 g => rd_list g)⟩
    · cases e
      rw [enumD_purs] at p
      obtain ⟨x, F, rfl, o⟩ := h.one
      cases o with
      | tup h1 t => exact ⟨false, _, _, rfl, h1.sq, q _ (walkD_e p fun H2 g => rd_tup g)⟩
    · cases e
      rw [enumD_purs] at p
      obtain ⟨x, F, rfl, o⟩ := h.one
      cases o with
      | frz h1 t => exact ⟨true, _, _, rfl, h1.sq, q _ (walkD_e p fun H2 g => rd_frz g)⟩
    · cases e)
/-- a list or a tuple, told -/
def seqD : Bool → List D → D
  | true, ds => .list ds
  | false, ds => .tuple ds
theorem rd_seq {H : Hp} {k : Bool} {ds : List D} {v : V} {F : List Addr} (o : Own K H (seqD k ds) v F) : ∃ a xs G, v = .ref a ∧ Sq2 K H k a xs ∧ OwnA K H ds xs G := by
  cases k with
  | true =>
    obtain ⟨l, vs, F', rfl, _, hl, t, _⟩ := own_list o
    exact ⟨l, vs, F', rfl, SqL.of hl, t⟩
  | false =>
    obtain ⟨a, vs, rfl, hq, t⟩ := own_tup o
    exact ⟨a, vs, _, rfl, hq, t⟩
theorem OwnA.at0 {H : Hp} {ds : List D} {vs : List V} {F : List Addr} (t : OwnA K H ds vs F) {i : Nat} {x : V} (e : vs[i]? = some x) : ∃ d G, ds[i]? = some d ∧ Own K H d x G := by
  have hl := t.len
  have hi : i < ds.length := by rw [← hl]; exact (List.getElem?_eq_some_iff.mp e).1
  obtain ⟨v, G, hv, o, _⟩ := t.get i ds[i] (List.getElem?_eq_getElem hi)
  rw [e] at hv
  cases hv
  exact ⟨_, _, List.getElem?_eq_getElem hi, o⟩
theorem rd2_seq {H : Hp} {k l : Bool} {a b : Addr} {ds es : List D} (h : RdA K H [.ref a, .ref b] [seqD k ds, seqD l es]) : ∃ xs ys F G, Sq2 K H k a xs ∧ OwnA K H ds xs F ∧ Sq2 K H l b ys ∧ OwnA K H es ys G := by
  obtain ⟨x, y, F, G, e, o1, o2⟩ := h.two
  cases e
  obtain ⟨a', xs, G1, e1, h1, t1⟩ := rd_seq o1
  obtain ⟨b', ys, G2, e2, h2, t2⟩ := rd_seq o2
  cases e1
  cases e2
  exact ⟨_, _, _, _, h1, t1, h2, t2⟩
theorem walkD_z {k l : Bool} {a b : Addr} {ds es : List D} (p : purs (zipD ds es) = true) : WalkD K (ItzA K k l a b) (fun H2 => RdA K H2 [.ref a, .ref b] [seqD k ds, seqD l es]) (zipD ds es) := by
  refine ⟨fun i H hi g => ?_, fun H g => ?_, fun i H x H' hi g y => ?_⟩
  · obtain ⟨xs, ys, F, G, hq, t, hq2, t2⟩ := rd2_seq g
    have hl := t.len
    have hl2 := t2.len
    rw [zipD_len] at hi
    exact ⟨xs, ys, xs[i]'(by omega), ys[i]'(by omega), hq, hq2, List.getElem?_eq_getElem _, List.getElem?_eq_getElem _⟩
  · obtain ⟨xs, ys, F, G, hq, t, hq2, t2⟩ := rd2_seq g
    have hl := t.len
    have hl2 := t2.len
    rw [zipD_len]
    exact ⟨xs, ys, hq, hq2, by omega⟩
  · obtain ⟨xs, ys, F, G, hq, t, hq2, t2⟩ := rd2_seq g
    obtain ⟨T, ob, x', y', rfl, hT, hn, hH, y1, y2⟩ := y
    obtain ⟨d, F1, hd, o1⟩ := t.at0 (y1 xs hq)
    obtain ⟨e, F2, he, o2⟩ := t2.at0 (y2 ys hq2)
    obtain ⟨p1, p2⟩ := purs_zip p hd he
    rw [o1.pur p1] at o1
    rw [o2.pur p2] at o2
    obtain ⟨sm, o3⟩ := pair_own hT hn hH o1 o2
    exact ⟨_, zipD_get ds es i d e hd he, sm, o3⟩
theorem itZ_inv {ds : List D} {es : List D} (h : itZ ds = some es) : ∃ k l xs ys, ds = [seqD k xs, seqD l ys] ∧ es = zipD xs ys := by
  unfold itZ at h
  split at h
  · cases h; exact ⟨true, true, _, _, rfl, rfl⟩
  · cases h; exact ⟨false, false, _, _, rfl, rfl⟩
  · cases h; exact ⟨true, false, _, _, rfl, rfl⟩
  · cases h; exact ⟨false, true, _, _, rfl, rfl⟩
  · cases h
theorem wZ_ok : ∀ (vs : List V) (ds es : List D) (H : Hp) (R : It → Hp → Prop), RdA K H vs ds → itZ ds = some es → purs es = true → (∀ J, WalkD K J (fun H2 => RdA K H2 vs ds) es → R J H) →
    ∃ k l a b xs ys, vs = [.ref a, .ref b] ∧ Sq2 K H k a xs ∧ Sq2 K H l b ys ∧ R (ItzA K k l a b) H := by
  intro vs ds es H R h e p q
  obtain ⟨k, l, xs, ys, rfl, rfl⟩ := itZ_inv e
  obtain ⟨x, y, F, G, rfl, o1, o2⟩ := h.two
  obtain ⟨a, xs', G1, rfl, h1, t1⟩ := rd_seq o1
  obtain ⟨b, ys', G2, rfl, h2, t2⟩ := rd_seq o2
  exact ⟨k, l, a, b, xs', ys', rfl, h1, h2, q _ (walkD_z p)⟩
theorem si_zip {e e2 : Expr} {g : AL} {p pos tpos : Pos} {elts : List Expr} {kk : Nat} (hg : Gl X "zip") (hm : X.mg "zip" = none) (ha : SimA X [e, e2] g)
    (hs : starEach [e, e2] X.env = (false, eval e X.env) :: starEach [e2] X.env := by rfl) (hpl : (backTo pos (starEach [e2] X.env)).any (·.1) = false := by rfl) :
    SimI X (.Tuple elts kk tpos) (.Call (.Name "zip" p) [e, e2] [] pos) (mkI itZ g) :=
  pi_imp (pi_zipA hg hm ha hs hpl) fun σ H R h => mkI_ok h wZ_ok
end
end Sim
namespace Sim
open PySem PySem.Spec L2
def loopS (t : Tg) (g : S) : List D → S
  | [] => fun s => .ok .nx s
  | d :: ds => fun s => match asg t d s with
    | none => .bad
    | some s1 => (g s1).bind fun fl s2 => match fl with
      | .nx => loopS t g ds s2
      | .ct => loopS t g ds s2
      | .bk => .ok .nx s2
      | .rt d => .ok (.rt d) s2
def sFor (lk' : Nat → Bool) (it : I) (t : Tg) (g : S) : S := fun s => (it s).bind fun p s1 =>
  if (p.2.all fun q => lk' q.1) = true then (loopS t g p.1 s1).bind fun fl s2 => .ok fl (unlockS p.2 s2) else .bad
section
variable [Tb] [Vs] {X : Cx} {lk lk' : Nat → Bool} {pos : Pos} {K : PySem.W.Frag}
/-- the closed slots are opened again -/
theorem finish {H0 H1 Hc : Hp} {s1 sc : Sg} {σ σc : St} {Fs0 Fs1 Fsc : Fp} {l : List (Nat × D)} {Gl : List (List Addr)} (E01 : Ev H0 Fs0 H1 Fs1) (hd : Hid K H1 σ Fs1 l Gl) (fr : From H0 Fs0 l Gl)
    (R : RelS K Hc sc σc Fsc) (E : Ev H1 Fs1 Hc Fsc) (L : ∀ p, p ∈ l → σc[p.1]? = σ[p.1]?) :
    ∃ Fs', RelS K Hc (unlockS l sc) σc Fs' ∧ Ev H0 Fs0 Hc Fs' ∧ ∀ j a, a ∈ Fs' j → a ∈ Fsc j ∨ ((∃ xs : MO, Hc a = some xs.ho) ∧ (H1 a ≠ none) ∧ (∀ i, a ∉ Fs1 i) ∧ ∀ i, a ∉ Fsc i) := by
  have hd' := hd.ev E L
  obtain ⟨Fs', R', n⟩ := R.unlock hd' fr
  refine ⟨Fs', R', ⟨(E01.trans E).chg, fun j a h => ?_⟩, fun j a h => ?_⟩
  · rcases n j a h with z | ⟨z, _⟩
    · exact (E01.trans E).new j a z
    · exact z
  · rcases n j a h with z | ⟨_, G, hG, ha⟩
    · exact .inl z
    · obtain ⟨h1, h2⟩ := hd'.mem G hG a ha
      obtain ⟨⟨xs, h3⟩, h4⟩ := hd.mem G hG a ha
      exact .inr ⟨h1, by rw [h3]; simp, h4, h2⟩
theorem finishR {H0 H1 Hc : Hp} {s1 sc : Sg} {σ σc : St} {Fs0 Fs1 Fsc : Fp} {l : List (Nat × D)} {Gl : List (List Addr)} (hlk : ∀ i, lk i = true → lk' i = true) (E01 : Ev H0 Fs0 H1 Fs1) (hd : Hid K H1 σ Fs1 l Gl) (fr : From H0 Fs0 l Gl)
    (R : RelS K Hc sc σc Fsc) (E : EvR lk' H1 Fs1 Hc Fsc) (L : ∀ p, p ∈ l → σc[p.1]? = σ[p.1]?) :
    ∃ Fs', RelS K Hc (unlockS l sc) σc Fs' ∧ EvR lk H0 Fs0 Hc Fs' ∧ ∀ j a, a ∈ Fs' j → a ∈ Fsc j ∨ ((∃ xs : MO, Hc a = some xs.ho) ∧ (H1 a ≠ none) ∧ (∀ i, a ∉ Fs1 i) ∧ ∀ i, a ∉ Fsc i) := by
  have hd' := hd.evR E L
  have E0 := E01.transR E
  have sub : ∀ j, lk' j = false → lk j = false := fun j h => by
    cases q : lk j with
    | false => rfl
    | true => rw [hlk j q] at h; cases h
  obtain ⟨Fs', R', n⟩ := R.unlock hd' fr
  refine ⟨Fs', R', ⟨E0.chg, fun j a h => ?_⟩, fun j a h => ?_⟩
  · rcases n j a h with z | ⟨z, _⟩
    · rcases E0.new j a z with w | ⟨w1, k, w2, w3⟩
      · exact .inl w
      · exact .inr ⟨sub j w1, k, sub k w2, w3⟩
    · exact .inl z
  · rcases n j a h with z | ⟨_, G, hG, ha⟩
    · exact .inl z
    · obtain ⟨h1, h2⟩ := hd'.mem G hG a ha
      obtain ⟨⟨xs, h3⟩, h4⟩ := hd.mem G hG a ha
      exact .inr ⟨h1, by rw [h3]; simp, h4, h2⟩
theorem ss_for {tg iter : Expr} {body : List Stmt} {it : I} {t : Tg} {g : S} (hp : PassesOwn (model X.prog X.w) X.A X.env X.xe) (hc : X.calm = true) (hi : SimI X tg iter it) (hg : SimG X lk' tg t) (hb : SimSs X lk' body g)
    (hlk : ∀ i, lk i = true → lk' i = true) (hs : ∀ x, foldedSetIterable iter X.env x = pure x := by intro _; rfl) : SimS X lk (.For tg iter body [] pos) (sFor lk' it t g) := by
  refine ps_imp (ps_for hp hc hi hg hb hs) fun D σ H z => ?_
  obtain ⟨s, Fs, fl, s', R, e, q⟩ := z
  obtain ⟨⟨es, l⟩, s1, e1, e⟩ := bind_inv e
  refine ⟨s, Fs, es, l, s1, R, e1, fun J H1 Fs1 Gl G R1 C1 n1 hd fr W hG => ?_⟩
  have E01 : Ev H Fs H1 Fs1 := ⟨C1, n1⟩
  split at e
  · rename_i hall
    obtain ⟨fl', s2, e2, e⟩ := bind_inv e
    have hL : ∀ {σc : St}, Lk lk' σ σc → ∀ p, p ∈ l → σc[p.1]? = σ[p.1]? := fun {σc} L p hp => L p.1 (List.all_eq_true.mp hall p hp)
    have done : ∀ {σc : St} {Hc : Hp} {sc : Sg} {Fsc : Fp}, RelS X.K Hc sc σc Fsc → EvR lk' H1 Fs1 Hc Fsc → Lk lk' σ σc → Res.ok fl' s2 = Res.ok Fl.nx sc → D.nx σc Hc := by
      intro σc Hc sc Fsc Rc Ec Lc ee
      cases ee
      cases e
      obtain ⟨Fs', R', E', _⟩ := finishR (s1 := s1) hlk E01 hd fr Rc Ec (hL Lc)
      exact q σc Hc Fs' R' E' fun i hi => Lc i (hlk i hi)
    refine ⟨fun i m σc Hc => m = es.length - i ∧ i ≤ es.length ∧ ∃ sc Fsc, RelS X.K Hc sc σc Fsc ∧ EvR lk' H1 Fs1 Hc Fsc ∧ Lk lk' σ σc ∧ loopS t g (es.drop i) sc = .ok fl' s2,
      ⟨es.length, by simp, Nat.zero_le _, s1, Fs1, R1, .refl _ _, .refl _ _, e2⟩, ?_⟩
    rintro i m σc Hc ⟨rfl, hi, sc, Fsc, Rc, Ec, Lc, ec⟩
    by_cases hlt : i < es.length
    · refine .inr ⟨W.goes i Hc hlt (hG Hc _ Ec.e0), fun σ' H' => i + 1 ≤ es.length ∧ ∃ sc Fsc, RelS X.K H' sc σ' Fsc ∧ EvR lk' H1 Fs1 H' Fsc ∧ Lk lk' σ σ' ∧ loopS t g (es.drop (i + 1)) sc = .ok fl' s2, fun σ' H' ⟨h1, h2⟩ => ⟨es.length - (i + 1), by omega, rfl, h1, h2⟩, fun x H' y => ?_⟩
      obtain ⟨d, hd1, sm, o⟩ := W.yields i Hc x H' hlt (hG Hc _ Ec.e0) y
      have ed : es.drop i = d :: es.drop (i + 1) := by
        rw [List.drop_eq_getElem_cons hlt]
        rw [List.getElem?_eq_getElem hlt] at hd1
        rw [Option.some.inj hd1]
      rw [ed] at ec
      unfold loopS at ec
      split at ec
      · cases ec
      · rename_i s3 hs3
        obtain ⟨fl3, s4, e4, ec⟩ := bind_inv ec
        refine ⟨sc, Fsc, d, [], s3, Rc.same sm, ⟨o, fun _ _ _ z => by cases z⟩, hs3, fun σ2 Fs2 R2 n2 L2 => ?_⟩
        have E2 : EvR lk' H1 Fs1 H' Fs2 := Ec.trans ⟨.same sm, fun j a h => .inl ((n2 j a h).resolve_right (by simp))⟩
        refine ⟨s3, Fs2, fl3, s4, R2, e4, ?_⟩
        cases fl3 with
        | nx => exact fun σ' H'' Fs' R' E' L' => ⟨hlt, s4, Fs', R', E2.transR E', (Lc.trans L2).trans L', ec⟩
        | ct => exact fun σ' H'' Fs' R' E' L' => ⟨hlt, s4, Fs', R', E2.transR E', (Lc.trans L2).trans L', ec⟩
        | bk => exact fun σ' H'' Fs' R' E' L' => done R' (E2.transR E') ((Lc.trans L2).trans L') ec.symm
        | rt d =>
          cases ec
          cases e
          refine fun v σ' H'' Fs' F R' E' L' o n m => ?_
          have E3 := E2.transR E'
          obtain ⟨Fs'', R'', E'', nn⟩ := finishR (s1 := s1) hlk E01 hd fr R' E3 (hL ((Lc.trans L2).trans L'))
          have hF : ∀ a, a ∈ F → H1 a = none ∨ ∃ i, lk' i = false ∧ a ∈ Fs1 i := fun a ha => by
            rcases n a ha with z | ⟨k, hk, z⟩
            · exact .inl (E2.chg.there a z)
            · rcases E2.new k a z with (z | z) | ⟨_, j, hj, z⟩
              · exact .inr ⟨k, hk, z⟩
              · exact .inl z
              · exact .inr ⟨j, hj, z⟩
          refine q v σ' H'' Fs'' F R'' E'' (fun i hi => ((Lc.trans L2).trans L') i (hlk i hi)) o (fun a ha => ?_) fun k a hk hk2 ha => ?_
          · rcases hF a ha with z | ⟨k, hk, z⟩
            · exact .inl (C1.there a z)
            · rcases n1 k a z with z | z
              · refine .inr ⟨k, ?_, z⟩
                cases hq : lk k with
                | false => rfl
                | true => rw [hlk k hq] at hk; cases hk
              · exact .inl z
          · rcases nn k a hk2 with z | ⟨_, h1, h2, h3⟩
            · exact m k a (hlk k hk) z ha
            · rcases hF a ha with z | ⟨k', _, z⟩
              · exact h1 z
              · exact h2 k' z
    · have ei : i = es.length := by omega
      subst ei
      rw [List.drop_length] at ec
      exact .inl ⟨W.stops Hc (hG Hc _ Ec.e0), done Rc Ec Lc ec.symm⟩
  · cases e
end
section
variable [Tb] [Vs] {X : Cx} {lk : Nat → Bool} {pos : Pos} {K : PySem.W.Frag}
end
def clrS : List Nat → Sg → Sg
  | [], s => s
  | v :: vs, s => (clrS vs s).set v none
def ownSl : List Nat → Sg → List (Nat × D)
  | [], _ => []
  | v :: vs, s => match (s[v]?).join with
    | some d => (v, d) :: ownSl vs s
    | none => ownSl vs s
def compL (t : Tg) (c : T) (e : O) (vs : List Nat) : List D → List D → Sg → Res (List D)
  | [], acc, s => .ok acc s
  | d :: ds, acc, s => match asg t d s with
    | none => .bad
    | some s1 => (c s1).bind fun b s2 => if b = true then (e s2).bind fun r s3 => (match own r s3 with
        | none => .bad
        | some y => if acc.length < 1000000 then compL t c e vs ds (acc ++ [y]) (clrS vs s3) else .bad)
      else compL t c e vs ds acc (clrS vs s2)
def oComp (it : I) (t : Tg) (c : T) (e : O) (vs : List Nat) : O := fun s => (it s).bind fun p s1 =>
  if nodupB ((ownSl vs s1).map (·.1)) = true then (compL t c e vs p.1 [] (clrS vs (lockS (ownSl vs s1) s1))).bind fun acc s2 => .ok (.val (.list acc)) (unlockS (ownSl vs s1 ++ p.2) s2) else .bad
def tYesT : T := fun s => .ok true s
def SimPT [Tb] [Vs] (X : Cx) (ifs : List Expr) (c : T) : Prop := PTs X ifs (tT X.K c)
section
variable [Tb] [Vs] {X : Cx} {K : PySem.W.Frag}
theorem pts_imp {X : Cx} {e : List Expr} {t t' : TT} (h : PTs X e t) (i : ∀ σ H Q, t' σ H Q → t σ H Q) : PTs X e t' := ⟨fun pins s σ H Q I q => h.run pins s σ H Q I (i σ H Q q)⟩
theorem spt_nil : SimPT X [] tYesT := pts_imp pts_nil fun σ H Q ⟨s, Fs, b, s', R, e, q⟩ => by
  cases e
  exact q H Fs R (.refl _ _)
theorem clrS_len : ∀ (vs : List Nat) (s : Sg), (clrS vs s).length = s.length
  | [], _ => rfl
  | v :: vs, s => by rw [clrS, List.length_set, clrS_len vs s]
theorem clrS_some {vs : List Nat} {s : Sg} {i : Nat} {d : D} (h : (clrS vs s)[i]? = some (some d)) : s[i]? = some (some d) ∧ i ∉ vs := by
  induction vs with
  | nil => exact ⟨h, by simp⟩
  | cons v vs ih =>
    unfold clrS at h
    by_cases hi : v = i
    · subst hi
      by_cases hv : v < (clrS vs s).length
      · rw [List.getElem?_set_self hv] at h; cases h
      · rw [List.getElem?_eq_none (by simpa using hv)] at h; cases h
    · rw [List.getElem?_set_ne hi] at h
      obtain ⟨h1, h2⟩ := ih h
      exact ⟨h1, by simp only [List.mem_cons, not_or]; exact ⟨fun e => hi e.symm, h2⟩⟩
theorem wipe_get {σ : St} {vs : List Nat} {i : Nat} (h : i ∉ vs) : (wipe σ vs)[i]? = σ[i]? := by
  induction vs with
  | nil => rfl
  | cons v vs ih =>
    simp only [List.mem_cons, not_or] at h
    unfold wipe
    rw [List.getElem?_set_ne (fun e => h.1 e.symm), ih h.2]
/-- the own names' slots are emptied, on both sides -/
theorem lnk_wipe {σ : St} {H : Hp} : ∀ {vs : List Nat}, (∀ v, v ∈ vs → Vs.ok v) → (Vs.lnk (wipe σ vs) H ↔ Vs.lnk σ H)
  | [], _ => Iff.rfl
  | v :: vs, h => by
    rw [wipe]
    exact (Vs.put (h v (List.mem_cons_self ..))).trans (lnk_wipe fun w hw => h w (List.mem_cons_of_mem _ hw))
theorem RelS.clr {H : Hp} {s : Sg} {σ : St} {Fs : Fp} (R : RelS K H s σ Fs) (vs : List Nat) (ko : ∀ v, v ∈ vs → Vs.ok v) : ∃ Fs', RelS K H (clrS vs s) (wipe σ vs) Fs' ∧ ∀ j a, a ∈ Fs' j → a ∈ Fs j ∧ j ∉ vs := by
  refine ⟨fun j => if j ∈ vs then [] else Fs j, ⟨by rw [clrS_len, wipe_length, R.len], fun i d e => ?_, fun i h => ?_, fun i j a h1 h2 => ?_, ⟨(lnk_wipe ko).mpr R.lnk.1, R.lnk.2⟩, fun i h d e => R.bse i h d (clrS_some e).1⟩, fun j a h => ?_⟩
  · obtain ⟨e1, e2⟩ := clrS_some e
    obtain ⟨v, hv, o⟩ := R.has i d e1
    refine ⟨v, by rw [wipe_get e2]; exact hv, ?_⟩
    simp only [if_neg e2]
    exact o
  · by_cases hi : i ∈ vs
    · simp only [if_pos hi]
      rw [Vs.nil (ko i hi)]
    · simp only [if_neg hi]
      refine R.off i fun d e => h d ?_
      have key : ∀ (vs : List Nat), i ∉ vs → (clrS vs s)[i]? = s[i]? := fun vs => by
        induction vs with
        | nil => intro _; rfl
        | cons v vs ih =>
          intro h
          simp only [List.mem_cons, not_or] at h
          unfold clrS
          rw [List.getElem?_set_ne (fun e => h.1 e.symm), ih h.2]
      rw [key vs hi]
      exact e
  · split at h1
    · cases h1
    · split at h2
      · cases h2
      · exact R.dis i j a h1 h2
  · have h : a ∈ (if j ∈ vs then [] else Fs j) := h
    split at h
    · cases h
    · exact ⟨h, by assumption⟩
/-- a state without the own names stands for the block's outer slots too -/
theorem RelS.unwipe {H : Hp} {s : Sg} {σ : St} {Fs : Fp} {vs : List Nat} (ko : ∀ v, v ∈ vs → Vs.ok v) (R : RelS K H s (wipe σ vs) Fs) : RelS K H s σ Fs := by
  refine ⟨by rw [R.len, wipe_length], fun i d e => ?_, R.off, R.dis, ⟨(lnk_wipe ko).mp R.lnk.1, R.lnk.2⟩, R.bse⟩
  obtain ⟨v, hv, o⟩ := R.has i d e
  exact ⟨v, (wipe_some hv).1, o⟩
theorem ownSl_has {s : Sg} : ∀ {vs : List Nat} {p : Nat × D}, p ∈ ownSl vs s → s[p.1]? = some (some p.2) ∧ p.1 ∈ vs
  | [], _, h => by cases h
  | v :: vs, p, h => by
    unfold ownSl at h
    split at h
    · rename_i d hd
      rcases List.mem_cons.mp h with rfl | h
      · exact ⟨join_some hd, List.mem_cons_self ..⟩
      · obtain ⟨h1, h2⟩ := ownSl_has h
        exact ⟨h1, List.mem_cons_of_mem _ h2⟩
    · obtain ⟨h1, h2⟩ := ownSl_has h
      exact ⟨h1, List.mem_cons_of_mem _ h2⟩
/-- an object that no slot holds changes -/
theorem RelS.out {H : Hp} {s : Sg} {σ : St} {Fs : Fp} (R : RelS K H s σ Fs) {D' : Addr} {acc acc' : List V} (h : H D' = some (.lst acc)) (n : ∀ i, D' ∉ Fs i) : RelS K (upd H D' (.lst acc')) s σ Fs ∧ Chg (fun a => a = D') H (upd H D' (.lst acc')) := by
  have chg : Chg (fun a => a = D') H (upd H D' (.lst acc')) := .upd1 (m := .lst _) h
  refine ⟨⟨R.len, fun i d e => ?_, R.off, R.dis, R.lnkC chg (fun i a ha w => n i (by rw [← w]; exact R.fpF ha)), R.bse⟩, chg⟩
  obtain ⟨v, hv, o⟩ := R.has i d e
  exact ⟨v, hv, o.chg chg fun a ha w => n i (by rw [← w]; exact ha)⟩
theorem Hid.sub {H : Hp} {σ : St} {Fs Fs' : Fp} {l : List (Nat × D)} {Gs : List (List Addr)} (h : Hid K H σ Fs l Gs) (e : ∀ j a, a ∈ Fs' j → a ∈ Fs j) : Hid K H σ Fs' l Gs := by
  induction h with
  | nil => exact .nil
  | cons hv A n _ ih => exact .cons hv ⟨A.own, fun i a hi ha => A.dis i a (e i a hi) ha⟩ n ih
theorem Hid.append {H : Hp} {σ : St} {Fs : Fp} {l l2 : List (Nat × D)} {Gs Gs2 : List (List Addr)} (h : Hid K H σ Fs l Gs) (h2 : Hid K H σ Fs l2 Gs2) (n : ∀ G, G ∈ Gs → ∀ G2, G2 ∈ Gs2 → ∀ a, a ∈ G → a ∉ G2) : Hid K H σ Fs (l ++ l2) (Gs ++ Gs2) := by
  induction h with
  | nil => exact h2
  | @cons i d v F l Gs hv A n' _ ih =>
    refine .cons hv A (fun G hG a ha hb => ?_) (ih fun G hG => n G (List.mem_cons_of_mem _ hG))
    rcases List.mem_append.mp hG with hG | hG
    · exact n' G hG a ha hb
    · exact n F (List.mem_cons_self ..) G hG a ha hb
theorem From.append {H : Hp} {Fs : Fp} {l l2 : List (Nat × D)} {Gs Gs2 : List (List Addr)} (h : From H Fs l Gs) (h2 : From H Fs l2 Gs2) : From H Fs (l ++ l2) (Gs ++ Gs2) := by
  induction l generalizing Gs with
  | nil => cases Gs with
    | nil => exact h2
    | cons _ _ => exact h.elim
  | cons p l ih => cases Gs with
    | nil => exact h.elim
    | cons F Gs => exact ⟨h.1, ih h.2⟩
theorem From.mem {H : Hp} {Fs : Fp} {l : List (Nat × D)} {Gs : List (List Addr)} (h : From H Fs l Gs) : ∀ G, G ∈ Gs → ∀ a, a ∈ G → (∃ i, a ∈ Fs i) ∨ H a = none := by
  induction l generalizing Gs with
  | nil => cases Gs with
    | nil => intro G h; cases h
    | cons _ _ => exact h.elim
  | cons p l ih => cases Gs with
    | nil => exact h.elim
    | cons F Gs =>
      intro G hG a ha
      rcases List.mem_cons.mp hG with rfl | hG
      · exact (h.1 a ha).imp (fun z => ⟨_, z⟩) id
      · exact ih h.2 G hG a ha
mutual
theorem asg_len : ∀ {t : Tg} {d : Sim.D} {s s' : Sg}, asg t d s = some s' → s'.length = s.length
  | .nm i, d, s, s', h => by
    simp only [asg] at h
    cases h
    rw [List.length_set]
  | .tp l, .tuple ds, s, s', h => asgs_len2 (by simpa [asg] using h)
  | .tp l, .none, s, s', h => by simp [asg] at h
  | .tp l, .bool _, s, s', h => by simp [asg] at h
  | .tp l, .int _, s, s', h => by simp [asg] at h
  | .tp l, .str _, s, s', h => by simp [asg] at h
  | .tp l, .list _, s, s', h => by simp [asg] at h
  | .tp l, .dict _, s, s', h => by simp [asg] at h
  | .ls l, .list ds, s, s', h => asgs_len2 (by simpa [asg] using h)
  | .ls l, .none, s, s', h => by simp [asg] at h
  | .ls l, .bool _, s, s', h => by simp [asg] at h
  | .ls l, .int _, s, s', h => by simp [asg] at h
  | .ls l, .str _, s, s', h => by simp [asg] at h
  | .ls l, .tuple _, s, s', h => by simp [asg] at h
  | .ls l, .dict _, s, s', h => by simp [asg] at h
theorem asgs_len2 : ∀ {l : List Tg} {ds : List Sim.D} {s s' : Sg}, asgs l ds s = some s' → s'.length = s.length
  | [], [], s, s', h => by
    simp only [asgs] at h
    cases h
    rfl
  | [], _ :: _, s, s', h => by simp [asgs] at h
  | _ :: _, [], s, s', h => by simp [asgs] at h
  | t :: l, d :: ds, s, s', h => by
    simp only [asgs] at h
    split at h
    · cases h
    · rename_i s1 h1
      rw [asgs_len2 h, asg_len h1]
end
def lkc (vs : List Nat) : Nat → Bool := fun i => !vs.contains i
theorem wipe_lk {vs : List Nat} {σ σ2 : St} (hl : σ2.length = σ.length) (h : Lk (lkc vs) (wipe σ vs) σ2) : wipe σ2 vs = wipe σ vs := by
  have key : ∀ (σ : St) (vs : List Nat) (i : Nat), i ∈ vs → (wipe σ vs)[i]? = if i < σ.length then some none else none := fun σ vs i => by
    induction vs with
    | nil => intro h; cases h
    | cons v vs ih =>
      intro h
      unfold wipe
      by_cases hv : v = i
      · subst hv
        by_cases hx : v < σ.length
        · rw [List.getElem?_set_self (by rw [wipe_length]; exact hx), if_pos hx]
        · rw [List.getElem?_eq_none (by rw [List.length_set, wipe_length]; omega), if_neg hx]
      · rw [List.getElem?_set_ne hv]
        exact ih ((List.mem_cons.mp h).resolve_left fun e => hv e.symm)
  refine List.ext_getElem? fun i => ?_
  by_cases hi : i ∈ vs
  · rw [key _ _ i hi, key _ _ i hi, hl]
  · rw [wipe_get hi]
    have := h i (by unfold lkc; simp [hi])
    rw [this]
theorem tO_comp [Tb] [Vs] {it : I} {t : Tg} {c : T} {e : O} {vs : List Nat} (ko : ∀ v, v ∈ vs → Vs.ok v) {σ : St} {H : Hp} {Q : VK} (z : tO K (oComp it t c e vs) σ H Q) : tLc (tI K it) (tG K (lkc vs) t) (tT K c) (tO K e) vs σ H Q := by
  obtain ⟨s, Fs, rf, s', R, e0, q⟩ := z
  obtain ⟨⟨es, l⟩, s1, e1, e0⟩ := bind_inv e0
  refine ⟨s, Fs, es, l, s1, R, e1, fun J H1 Fs1 Gl G R1 C1 n1 hd fr W hG => ?_⟩
  split at e0
  · rename_i hnd
    obtain ⟨accF, s2, e2, e0⟩ := bind_inv e0
    obtain ⟨Fs2, Gl2, R2, hd2, sub2, fr2⟩ := R1.lock (fun p hp => (ownSl_has hp).1) hnd
    obtain ⟨Fs3, R3, sub3⟩ := R2.clr vs ko
    have sub : ∀ j a, a ∈ Fs3 j → a ∈ Fs1 j := fun j a h => sub2 j a (sub3 j a h).1
    have E01 : Ev H Fs H1 Fs3 := ⟨C1, fun j a h => n1 j a (sub j a h)⟩
    have hdA : Hid K H1 σ Fs3 (ownSl vs s1 ++ l) (Gl2 ++ Gl) := (hd2.sub fun j a h => (sub3 j a h).1).append (hd.sub sub) fun G2 hG2 G hG a ha hb => by
      obtain ⟨⟨xs, hx⟩, hn⟩ := hd.mem G hG a hb
      rcases fr2.mem G2 hG2 a ha with ⟨i, z⟩ | z
      · exact hn i z
      · rw [hx] at z; cases z
    have frA : From H Fs (ownSl vs s1 ++ l) (Gl2 ++ Gl) := (fr2.trans n1 fun a h => C1.there a h).append fr
    intro Dn hDn
    have smD : Same H1 (upd H1 Dn (.lst [])) := same_new hDn
    have nD3 : ∀ i, Dn ∉ Fs3 i := fun i h => by
      obtain ⟨xs, w⟩ := R3.mem h
      rw [hDn] at w; cases w
    refine ⟨fun i m Hc => m = es.length - i ∧ i ≤ es.length ∧ ∃ sc Fsc acc accV Facc, RelS K Hc sc (wipe σ vs) Fsc ∧ Ev H1 Fs3 Hc Fsc ∧ Hc Dn = some (.lst accV) ∧ OwnA K Hc acc accV Facc ∧ Dn ∉ Facc ∧ (∀ i, Dn ∉ Fsc i) ∧ (∀ i a, a ∈ Fsc i → a ∉ Facc) ∧ (∀ a, a ∈ Facc → H1 a = none) ∧
      compL t c e vs (es.drop i) acc sc = .ok accF s2, ⟨es.length, by simp, Nat.zero_le _, _, Fs3, [], [], [], R3.same smD, .same _ smD, upd_same, .nil, by simp, nD3, by simp, by simp, e2⟩, ?_⟩
    rintro i m Hc ⟨rfl, hi, sc, Fsc, acc, accV, Facc, Rc, Ec, hDc, oa, nDa, nDf, dja, fra, ec⟩
    have EG : Ev H1 Fs1 Hc Fsc → G Hc := hG Hc Fsc
    have Ec1 : Ev H1 Fs1 Hc Fsc := ⟨Ec.chg.mono (fun a _ _ w => w.imp fun i => sub i a), fun j a h => (Ec.new j a h).imp (sub j a) id⟩
    by_cases hlt : i < es.length
    · refine .inr ⟨W.goes i Hc hlt (EG Ec1), fun H' => i + 1 ≤ es.length ∧ ∃ sc Fsc acc accV Facc, RelS K H' sc (wipe σ vs) Fsc ∧ Ev H1 Fs3 H' Fsc ∧ H' Dn = some (.lst accV) ∧ OwnA K H' acc accV Facc ∧ Dn ∉ Facc ∧ (∀ i, Dn ∉ Fsc i) ∧ (∀ i a, a ∈ Fsc i → a ∉ Facc) ∧ (∀ a, a ∈ Facc → H1 a = none) ∧
        compL t c e vs (es.drop (i + 1)) acc sc = .ok accF s2, fun H' ⟨h1, h2⟩ => ⟨es.length - (i + 1), by omega, rfl, h1, h2⟩, fun x H' y => ?_⟩
      obtain ⟨d, hd1, sm, o⟩ := W.yields i Hc x H' hlt (EG Ec1) y
      have ed : es.drop i = d :: es.drop (i + 1) := by
        rw [List.drop_eq_getElem_cons hlt]
        rw [List.getElem?_eq_getElem hlt] at hd1
        rw [Option.some.inj hd1]
      rw [ed] at ec
      unfold compL at ec
      split at ec
      · cases ec
      · rename_i s3 hs3
        obtain ⟨b, s4, e4, ec⟩ := bind_inv ec
        refine ⟨sc, Fsc, d, [], s3, Rc.same sm, ⟨o, fun _ _ _ z => by cases z⟩, hs3, fun σ2 Fs4 R4 n4 L4 => ?_⟩
        have hw : wipe σ2 vs = wipe σ vs := wipe_lk (by
          have l1 := R4.len
          have l2 := Rc.len
          have l3 := asg_len hs3
          rw [wipe_length] at l2
          omega) L4
        refine ⟨hw, ?_⟩
        · skip
          have E4 : Ev H1 Fs3 H' Fs4 := Ec.trans ⟨.same sm, fun j a h => .inl ((n4 j a h).resolve_right (by simp))⟩
          have nD4 : ∀ i, Dn ∉ Fs4 i := fun i h => nDf i ((n4 i Dn h).resolve_right (by simp))
          have dj4 : ∀ i a, a ∈ Fs4 i → a ∉ Facc := fun i a h => dja i a ((n4 i a h).resolve_right (by simp))
          refine ⟨s3, Fs4, b, s4, R4, e4, fun H3 Fs5 R5 E5 => ?_⟩
          -- what a test or an item's reckoning leaves of the new list
          have keepD : ∀ {H3 : Hp} {Fs5 : Fp}, Ev H' Fs4 H3 Fs5 → H3 Dn = some (.lst accV) ∧ OwnA K H3 acc accV Facc ∧ (∀ i, Dn ∉ Fs5 i) ∧ (∀ i a, a ∈ Fs5 i → a ∉ Facc) := fun {H3 Fs5} E5 => by
            have h1 : H' Dn = some (.lst accV) := sm _ _ hDc
            have o1 : OwnA K H' acc accV Facc := oa.chg (Fa := fun _ => False) (.same sm) fun _ _ z => z
            refine ⟨E5.chg.keep _ _ h1 (.inl ⟨fun ⟨i, w⟩ => nD4 i w, rfl⟩), o1.chg E5.chg fun a ha ⟨i, w⟩ => dj4 i a w ha, fun i h => ?_, fun i a h ha => ?_⟩
            · rcases E5.new i Dn h with w | w
              · exact nD4 i w
              · rw [h1] at w; cases w
            · rcases E5.new i a h with w | w
              · exact dj4 i a w ha
              · obtain ⟨xs, z⟩ := o1.mem a ha
                rw [w] at z; cases z
          cases b with
          | false =>
            rw [if_neg Bool.false_ne_true] at ec
            refine iteF ⟨hlt, ?_⟩
            obtain ⟨h1, h2, h3, h4⟩ := keepD E5
            obtain ⟨Fs6, R6, sub6⟩ := R5.clr vs ko
            rw [hw] at R6
            exact ⟨_, Fs6, acc, accV, Facc, R6, E4.trans ⟨E5.chg, fun j a h => E5.new j a (sub6 j a h).1⟩, h1, h2, nDa, fun i h => h3 i (sub6 i _ h).1, fun i a h => h4 i a (sub6 i a h).1, fra, ec⟩
          | true =>
            rw [if_pos rfl] at ec
            refine iteT ?_
            obtain ⟨r, s6, e6, ec⟩ := bind_inv ec
            refine ⟨s4, Fs5, r, s6, R5, e6, fun v H4 Fs6 F R6 E6 k6 n6 => ?_⟩
            split at ec
            · cases ec
            · rename_i y hy
              split at ec
              · rename_i hlen
                have A6 := rfOk_own k6 R6 hy
                have E56 := E5.trans E6
                obtain ⟨h1, h2, h3, h4⟩ := keepD E56
                have n6' : ∀ a, a ∈ F → H' a = none := fun a ha => E5.chg.there a (n6 a ha)
                have h1' : H' Dn = some (.lst accV) := sm _ _ hDc
                have o1' : OwnA K H' acc accV Facc := oa.chg (Fa := fun _ => False) (.same sm) fun _ _ z => z
                obtain ⟨Facc', t', hF'⟩ := OwnA.snoc A6.own h2 fun a ha hb => by
                  obtain ⟨xs, z⟩ := o1'.mem a ha
                  rw [n6' a hb] at z; cases z
                have nDn : Dn ∉ Facc' := fun w => by
                  rcases hF' Dn w with w | w
                  · exact nDa w
                  · rw [n6' Dn w] at h1'; cases h1'
                refine ⟨accV, h1, by rw [h2.len]; exact Nat.lt_of_lt_of_le hlen big_le, hlt, ?_⟩
                obtain ⟨R7, C7⟩ := R6.out (acc' := accV ++ [v]) h1 h3
                obtain ⟨Fs8, R8, sub8⟩ := R7.clr vs ko
                rw [hw] at R8
                refine ⟨_, Fs8, acc ++ [y], accV ++ [v], Facc', R8, ?_, upd_same, t'.chg C7 fun a ha w => nDn (by rw [← w]; exact ha), nDn, fun i h => h3 i (sub8 i _ h).1, fun i a h ha => ?_, fun a ha => ?_, ec⟩
                · have E7 := E4.trans E56
                  exact ⟨E7.chg.transN C7 (fun a o ho w => by rw [w, hDn] at ho; cases ho), fun j a h => E7.new j a (sub8 j a h).1⟩
                · rcases hF' a ha with w | w
                  · exact h4 i a (sub8 i a h).1 w
                  · exact A6.dis i a (sub8 i a h).1 w
                · rcases hF' a ha with w | w
                  · exact fra a w
                  · exact E4.chg.there a (n6' a w)
              · cases ec
    · have ei : i = es.length := by omega
      subst ei
      rw [List.drop_length] at ec
      cases ec
      cases e0
      refine .inl ⟨W.stops Hc (EG Ec1), ?_⟩
      obtain ⟨Fs', R', E', nn⟩ := finish (s1 := s1) E01 hdA frA (Rc.unwipe ko) Ec fun _ _ => rfl
      refine q (.ref Dn) Hc Fs' (Dn :: Facc) R' E' (.val ⟨.lst hDc oa nDa, fun j a h ha => ?_⟩) fun a ha => ?_
      · rcases nn j a h with w | ⟨_, w, _, _⟩
        · rcases List.mem_cons.mp ha with rfl | ha
          · exact nDf j w
          · exact dja j a w ha
        · rcases List.mem_cons.mp ha with rfl | ha
          · exact w hDn
          · exact w (fra a ha)
      · rcases List.mem_cons.mp ha with rfl | ha
        · exact C1.there _ hDn
        · exact C1.there _ (fra a ha)
  · cases e0
theorem so_comp [Tb] [Vs] {elt tg iter : Expr} {ifs : List Expr} {scope : Scope} {own : List (Str × Nat)} {pos : Pos} {it : I} {t : Tg} {c : T} {e : O} (hc : X.calm = true) (hN : X.N.Nodup) (hi : SimI X tg iter it) (ok : BlkOk X.N X.env.scope scope own)
    (hg : ∀ (s : Shared) (H : Hp) (C : Addr) (cl : List (Str × Addr)) (fp : List Addr), SimG (X.blk s H scope (compEnvC scope cl C X.env) fp) (lkc (own.map (·.2))) tg t) (ht : ∀ (s : Shared) (H : Hp) (C : Addr) (cl : List (Str × Addr)) (fp : List Addr), SimPT (X.blk s H scope (compEnvC scope cl C X.env) fp) ifs c)
    (he : ∀ (s : Shared) (H : Hp) (C : Addr) (cl : List (Str × Addr)) (fp : List Addr), SimO (X.blk s H scope (compEnvC scope cl C X.env) fp) elt e) (hs : ∀ x, foldedSetIterable iter X.env x = pure x := by intro _; rfl) (ko : ∀ v, v ∈ own.map (·.2) → Vs.ok v := by first | exact fun _ _ => trivial | assumption | decide) :
    SimO X (.ListComp elt [⟨tg, iter, ifs, 0⟩] scope pos) (oComp it t c e (own.map (·.2))) := by
  have hg' : ∀ (s : Shared) (H : Hp) (C : Addr) (cl : List (Str × Addr)) (fp : List Addr), PG (X.blk s H scope (compEnvC scope cl C X.env) fp) tg (tG X.K (lkc (own.map (·.2))) t) := hg
  have ht' : ∀ (s : Shared) (H : Hp) (C : Addr) (cl : List (Str × Addr)) (fp : List Addr), PTs (X.blk s H scope (compEnvC scope cl C X.env) fp) ifs (tT X.K c) := ht
  have he' : ∀ (s : Shared) (H : Hp) (C : Addr) (cl : List (Str × Addr)) (fp : List Addr), PE (X.blk s H scope (compEnvC scope cl C X.env) fp) elt (tO X.K e) := he
  exact pe_imp (pe_lc hc hN hi ok hg' ht' he' hs) fun σ H Q z => tO_comp ko z
end
end Sim
namespace Sim
open PySem PySem.Spec L2
inductive FRes where
  | ok (r : D) (as : List D)
  | exc (c : Str) (v : D)
  | bad
abbrev Fn := List D → FRes
/-- the arguments, each with the places that it holds -/
inductive OwnLs (K : PySem.W.Frag) (H : Hp) : List D → List V → List (List Addr) → Prop
  | nil : OwnLs K H [] [] []
  | cons {d : D} {v : V} {F : List Addr} {ds : List D} {vs : List V} {Fl : List (List Addr)} : Own K H d v F → (∀ G, G ∈ Fl → ∀ a, a ∈ F → a ∉ G) → OwnLs K H ds vs Fl → OwnLs K H (d :: ds) (v :: vs) (F :: Fl)
def NewL (H : Hp) : List (List Addr) → List (List Addr) → Prop
  | [], [] => True
  | F :: Fl, F' :: Fl' => (∀ a, a ∈ F' → a ∈ F ∨ H a = none) ∧ NewL H Fl Fl'
  | _, _ => False
def spF [Tb] (K : PySem.W.Frag) (n : Nat) (f : Fn) : Sp := fun vs H Q E => ∃ ds Fl r as, f ds = .ok r as ∧ vs.length = n ∧ TabsOk H ∧ OwnLs K H ds vs Fl ∧
  ∀ v H' Fl' F, OwnLs K H' as vs Fl' → Chg (fun a => ∃ G, G ∈ Fl ∧ a ∈ G) H H' → NewL H Fl Fl' → Own K H' r v F → (∀ a, a ∈ F → H a = none) → (∀ G, G ∈ Fl' → ∀ a, a ∈ G → a ∉ F) → Q v H'
def lkz : List Rf → List D → List D → List (Nat × D)
  | .slot i :: rs, d :: ds, a :: as => if pur d = true then lkz rs ds as else (i, a) :: lkz rs ds as
  | .val _ :: rs, _ :: ds, _ :: as => lkz rs ds as
  | _, _, _ => []
def oCall (f : Fn) (g : AL) : O := fun s => (g s).bind fun rs s1 => match rds rs s1 with
  | none => .bad
  | some ds => if nodupB ((lks rs ds).map (·.1)) = true then (match f ds with
      | .ok r as => .ok (.val r) (unlockS (lkz rs ds as) (lockS (lks rs ds) s1))
      | .exc c v => .exc c v s1
      | .bad => .bad) else .bad
section
variable [Tb] [Vs] {K : PySem.W.Frag} {H H' : Hp} {σ : St} {Fs : Fp}
theorem OwnLs.mem {ds : List D} {vs : List V} {Fl : List (List Addr)} (h : OwnLs K H ds vs Fl) : ∀ G, G ∈ Fl → ∀ a, a ∈ G → ∃ xs : MO, H a = some xs.ho := by
  induction h with
  | nil => intro G h; cases h
  | cons o _ _ ih =>
    intro G hG a ha
    rcases List.mem_cons.mp hG with rfl | hG
    · exact o.mem a ha
    · exact ih G hG a ha
theorem OwnLs.len {ds : List D} {vs : List V} {Fl : List (List Addr)} (h : OwnLs K H ds vs Fl) : vs.length = ds.length := by
  induction h with
  | nil => rfl
  | cons _ _ _ ih => rw [List.length_cons, List.length_cons, ih]
/-- which argument is which closed slot's -/
def Al : List Rf → List D → List (List Addr) → List (List Addr) → Prop
  | [], [], [], [] => True
  | .val _ :: rs, _ :: ds, Gl, _ :: Fl => Al rs ds Gl Fl
  | .slot _ :: rs, d :: ds, Gl, F :: Fl => if pur d = true then Al rs ds Gl Fl else (match Gl with
    | [] => False
    | G :: Gl => G = F ∧ Al rs ds Gl Fl)
  | _, _, _, _ => False
/-- the operands of a call as its arguments -/
theorem args_own {s : Sg} {FsL : Fp} (R : RelS K H s σ Fs) {rs : List Rf} {vs : List V} {Gs : List (List Addr)} (r : Rfs K H σ Fs rs vs Gs) : ∀ {ds : List D} {Gl : List (List Addr)}, rds rs s = some ds → Hid K H σ FsL (lks rs ds) Gl → From H Fs (lks rs ds) Gl →
    ∃ Fl, OwnLs K H ds vs Fl ∧ (∀ F, F ∈ Fl → ∀ a, a ∈ F → (∃ G, G ∈ Gs ∧ a ∈ G) ∨ ∃ G, G ∈ Gl ∧ a ∈ G) ∧ Al rs ds Gl Fl := by
  induction r with
  | nil =>
    intro ds Gl e hd _
    cases e
    cases hd
    exact ⟨[], .nil, by simp, trivial⟩
  | @val d v F rs vs Gs A n r ih =>
    intro ds Gl e hd fr
    unfold rds at e
    simp only [rd] at e
    split at e
    · cases e
    · rename_i es he
      cases e
      obtain ⟨Fl, h1, h2, h0⟩ := ih he (by simpa [lks] using hd) (by simpa [lks] using fr)
      refine ⟨F :: Fl, .cons A.own (fun G hG a ha hb => ?_) h1, fun G hG a ha => ?_, by simpa [Al] using h0⟩
      · rcases h2 G hG a hb with ⟨G', hG', h⟩ | ⟨G', hG', h⟩
        · exact n G' hG' a ha h
        · rcases fr.mem G' (by simpa [lks] using hG') a h with ⟨i, z⟩ | z
          · exact A.dis i a z ha
          · obtain ⟨xs, w⟩ := A.own.mem a ha
            rw [z] at w; cases w
      · rcases List.mem_cons.mp hG with rfl | hG
        · exact .inl ⟨_, List.mem_cons_self .., ha⟩
        · rcases h2 G hG a ha with ⟨G', hG', h⟩ | h
          · exact .inl ⟨G', List.mem_cons_of_mem _ hG', h⟩
          · exact .inr h
  | @slot i v rs vs Gs hv r ih =>
    intro ds Gl e hd fr
    unfold rds at e
    simp only [rd] at e
    split at e
    · cases e
    · rename_i d hd0
      split at e
      · cases e
      · rename_i es he
        cases e
        obtain ⟨v', hv', o⟩ := R.has i d (join_some hd0)
        rw [hv] at hv'
        cases hv'
        by_cases hp : pur d = true
        · have el : lks (.slot i :: rs) (d :: es) = lks rs es := by rw [lks, if_pos hp]
          rw [el] at hd fr
          obtain ⟨Fl, h1, h2, h0⟩ := ih he hd fr
          rw [o.pur hp] at o
          refine ⟨[] :: Fl, .cons o (by simp) h1, fun G hG a ha => ?_, by unfold Al; rw [if_pos hp]; exact h0⟩
          rcases List.mem_cons.mp hG with rfl | hG
          · cases ha
          · rcases h2 G hG a ha with ⟨G', hG', h⟩ | h
            · exact .inl ⟨G', List.mem_cons_of_mem _ hG', h⟩
            · exact .inr h
        · have el : lks (.slot i :: rs) (d :: es) = (i, d) :: lks rs es := by rw [lks, if_neg hp]
          rw [el] at hd fr
          cases hd with
          | @cons _ _ v2 F _ Gl hv2 A n hd =>
            have hv2 := hv2.get
            rw [hv] at hv2
            cases hv2
            obtain ⟨Fl, h1, h2, h0⟩ := ih he hd fr.2
            refine ⟨F :: Fl, .cons A.own (fun G hG a ha hb => ?_) h1, fun G hG a ha => ?_, by unfold Al; rw [if_neg hp]; exact ⟨rfl, h0⟩⟩
            · rcases h2 G hG a hb with ⟨G', hG', h⟩ | ⟨G', hG', h⟩
              · -- another operand's own value stands apart from all slots
                have key : ∀ {rs : List Rf} {vs : List V} {Gs : List (List Addr)}, Rfs K H σ Fs rs vs Gs → G' ∈ Gs → ∀ i, a ∉ Fs i := fun {rs vs Gs} r => by
                  induction r with
                  | nil => intro h; cases h
                  | val A _ _ ih =>
                    intro hh i hi
                    rcases List.mem_cons.mp hh with e1 | hh
                    · exact A.dis i a hi (by rw [← e1]; exact h)
                    · exact ih hh i hi
                  | slot _ _ ih =>
                    intro hh i hi
                    rcases List.mem_cons.mp hh with e1 | hh
                    · rw [e1] at h; cases h
                    · exact ih hh i hi
                rcases fr.1 a ha with z | z
                · exact key r hG' _ z
                · obtain ⟨xs, w⟩ := A.own.mem a ha
                  rw [z] at w; cases w
              · exact n G' hG' a ha h
            · rcases List.mem_cons.mp hG with rfl | hG
              · exact .inr ⟨_, List.mem_cons_self .., ha⟩
              · rcases h2 G hG a ha with ⟨G', hG', h⟩ | ⟨G', hG', h⟩
                · exact .inl ⟨G', List.mem_cons_of_mem _ hG', h⟩
                · exact .inr ⟨G', List.mem_cons_of_mem _ hG', h⟩
/-- behind the call: what the slots' lists came to -/
theorem args_back {H0 : Hp} {Fs0 FsL : Fp} {s : Sg} (R : RelS K H s σ Fs) {rs : List Rf} {vs : List V} {Gs : List (List Addr)} (r : Rfs K H σ Fs rs vs Gs) : ∀ {ds as : List D} {Gl Fl Fl' : List (List Addr)}, rds rs s = some ds → Hid K H σ FsL (lks rs ds) Gl → From H0 Fs0 (lks rs ds) Gl → Al rs ds Gl Fl →
    OwnLs K H ds vs Fl → OwnLs K H' as vs Fl' → NewL H Fl Fl' → (∀ i a, a ∈ FsL i → (∀ F, F ∈ Fl → a ∉ F) ∧ H a ≠ none) → (∀ a, H a = none → H0 a = none) →
    ∃ Gl', Hid K H' σ FsL (lkz rs ds as) Gl' ∧ From H0 Fs0 (lkz rs ds as) Gl' ∧ ∀ G, G ∈ Gl' → G ∈ Fl' := by
  induction r with
  | nil =>
    intro ds as Gl Fl Fl' e hd fr al o o' nl _ _
    cases e
    exact ⟨[], .nil, trivial, by simp⟩
  | @val d v F rs vs Gs A n r ih =>
    intro ds as Gl Fl Fl' e hd fr al o o' nl ap th
    unfold rds at e
    simp only [rd] at e
    split at e
    · cases e
    · rename_i es he
      cases e
      cases o with
      | cons o1 n1 o =>
        cases o' with
        | cons o1' n1' o' =>
          obtain ⟨Gl', h1, h2, h3⟩ := ih he (by simpa [lks] using hd) (by simpa [lks] using fr) (by simpa [Al] using al) o o' nl.2 (fun i a h => ⟨fun F hF => (ap i a h).1 F (List.mem_cons_of_mem _ hF), (ap i a h).2⟩) th
          exact ⟨Gl', by simpa [lkz] using h1, by simpa [lkz] using h2, fun G hG => List.mem_cons_of_mem _ (h3 G hG)⟩
  | @slot i v rs vs Gs hv r ih =>
    intro ds as Gl Fl Fl' e hd fr al o o' nl ap th
    unfold rds at e
    simp only [rd] at e
    split at e
    · cases e
    · rename_i d hd0
      split at e
      · cases e
      · rename_i es he
        cases e
        cases o with
        | @cons _ _ F0 _ _ Fl0 o1 n1 o =>
          cases o' with
          | @cons a' _ F' as' _ Fl' o1' n1' o' =>
            have ap' : ∀ i a, a ∈ FsL i → (∀ F, F ∈ Fl0 → a ∉ F) ∧ H a ≠ none := fun i a h => ⟨fun F hF => (ap i a h).1 F (List.mem_cons_of_mem _ hF), (ap i a h).2⟩
            by_cases hp : pur d = true
            · have el : lks (.slot i :: rs) (d :: es) = lks rs es := by rw [lks, if_pos hp]
              have el' : lkz (.slot i :: rs) (d :: es) (a' :: as') = lkz rs es as' := by rw [lkz, if_pos hp]
              rw [el] at hd fr
              rw [el']
              obtain ⟨Gl', h1, h2, h3⟩ := ih he hd fr (by unfold Al at al; rw [if_pos hp] at al; exact al) o o' nl.2 ap' th
              exact ⟨Gl', h1, h2, fun G hG => List.mem_cons_of_mem _ (h3 G hG)⟩
            · have el : lks (.slot i :: rs) (d :: es) = (i, d) :: lks rs es := by rw [lks, if_neg hp]
              have el' : lkz (.slot i :: rs) (d :: es) (a' :: as') = (i, a') :: lkz rs es as' := by rw [lkz, if_neg hp]
              rw [el] at hd fr
              rw [el']
              cases hd with
              | @cons _ _ v2 F _ Gl hv2' A n hd =>
                have hv2 := hv2'.get
                rw [hv] at hv2
                cases hv2
                unfold Al at al
                rw [if_neg hp] at al
                obtain ⟨e0, al⟩ := al
                subst e0
                obtain ⟨Gl', h1, h2, h3⟩ := ih he hd fr.2 al o o' nl.2 ap' th
                refine ⟨F' :: Gl', .cons ⟨hv, hv2'.fp⟩ ⟨o1', fun j a hj ha => ?_⟩ (fun G hG a ha hb => n1' G (h3 G hG) a ha hb) h1, ⟨fun a ha => ?_, h2⟩, fun G hG => ?_⟩
                · rcases nl.1 a ha with z | z
                  · exact (ap j a hj).1 _ (List.mem_cons_self ..) z
                  · exact (ap j a hj).2 z
                · rcases nl.1 a ha with z | z
                  · exact fr.1 a z
                  · exact .inr (th a z)
                · rcases List.mem_cons.mp hG with rfl | hG
                  · exact List.mem_cons_self ..
                  · exact List.mem_cons_of_mem _ (h3 G hG)
theorem NewL.mem {Fl Fl' : List (List Addr)} (h : NewL H Fl Fl') : ∀ G, G ∈ Fl' → ∀ a, a ∈ G → (∃ F, F ∈ Fl ∧ a ∈ F) ∨ H a = none := by
  induction Fl generalizing Fl' with
  | nil => cases Fl' with
    | nil => intro G h; cases h
    | cons _ _ => exact h.elim
  | cons F Fl ih => cases Fl' with
    | nil => exact h.elim
    | cons F' Fl' =>
      intro G hG a ha
      rcases List.mem_cons.mp hG with rfl | hG
      · exact (h.1 a ha).imp (fun z => ⟨F, List.mem_cons_self .., z⟩) id
      · exact (ih h.2 G hG a ha).imp (fun ⟨F, h1, h2⟩ => ⟨F, List.mem_cons_of_mem _ h1, h2⟩) id
theorem tO_call {f : Fn} {n : Nat} {g : AL} {Q : VK} {E : XK} (z : tO K (oCall f g) σ H Q) (hn : ∀ ds r as, f ds = .ok r as → ds.length = n) : tA K g σ H fun vs H1 => spF K n f vs H1 Q E := by
  obtain ⟨s, Fs, rf, s', R, e, q⟩ := z
  obtain ⟨rs, s1, e1, e⟩ := bind_inv e
  refine ⟨s, Fs, rs, s1, R, e1, fun vs H1 Fs1 Gs R1 E1 k1 n1 => ?_⟩
  split at e
  · cases e
  · rename_i ds hds
    split at e
    · rename_i hnd
      split at e
      · rename_i r as hf
        cases e
        obtain ⟨FsL, Gl, RL, hd, sub, fr⟩ := R1.lock (lks_has k1 hds) hnd
        obtain ⟨Fl, ol, hl, al⟩ := args_own (FsL := FsL) R1 k1 hds hd fr
        have apart : ∀ i a, a ∈ FsL i → (∀ F, F ∈ Fl → a ∉ F) ∧ H1 a ≠ none := fun i a h => by
          refine ⟨fun F hF ha => ?_, fun w => ?_⟩
          · rcases hl F hF a ha with ⟨G, hG, hb⟩ | ⟨G, hG, hb⟩
            · have key : ∀ {rs : List Rf} {vs : List V} {Gs : List (List Addr)}, Rfs K H1 σ Fs1 rs vs Gs → G ∈ Gs → ∀ i, a ∉ Fs1 i := fun {rs vs Gs} r => by
                induction r with
                | nil => intro h; cases h
                | val A _ _ ih =>
                  intro hh i hi
                  rcases List.mem_cons.mp hh with e1 | hh
                  · exact A.dis i a hi (by rw [← e1]; exact hb)
                  · exact ih hh i hi
                | slot _ _ ih =>
                  intro hh i hi
                  rcases List.mem_cons.mp hh with e1 | hh
                  · rw [e1] at hb; cases hb
                  · exact ih hh i hi
              exact key k1 hG i (sub i a h)
            · exact (hd.mem G hG a hb).2 i h
          · obtain ⟨xs, y⟩ := RL.mem h
            rw [w] at y; cases y
        refine ⟨ds, Fl, r, as, hf, by rw [ol.len]; exact hn _ _ _ hf, R1.lnk.2, ol, fun v H2 Fl' F ol' c nl o nF dj => ?_⟩
        have R2 : RelS K H2 (lockS (lks rs ds) s1) σ FsL := ⟨RL.len, fun i d e => by
          obtain ⟨v, hv, o⟩ := RL.has i d e
          exact ⟨v, hv, o.chg c fun a ha ⟨G, hG, hb⟩ => (apart i a ha).1 G hG hb⟩, RL.off, RL.dis, RL.lnkC c (fun i a ha ⟨G, hG, hb⟩ => (apart i a (RL.fpF ha)).1 G hG hb), RL.bse⟩
        obtain ⟨Gl', hd', fr', sub'⟩ := args_back (H0 := H) (Fs0 := Fs) R1 k1 hds hd (fr.trans E1.new fun a h => E1.chg.there a h) al ol ol' nl apart fun a h => E1.chg.there a h
        obtain ⟨Fs', R', n'⟩ := R2.unlock hd' fr'
        refine q v H2 Fs' F R' ⟨⟨fun a ob ho cc => ?_, fun a h => E1.chg.there a (c.there a h), fun t => c.tab (E1.chg.tab t)⟩, fun j a h => ?_⟩ (.val ⟨o, fun j a h ha => ?_⟩) fun a ha => E1.chg.there a (nF a ha)
        · refine c.keep a ob (E1.chg.keep a ob ho cc) (cc.imp (fun w2 => ⟨fun ⟨G, hG, hb⟩ => ?_, w2.2⟩) id)
          have w := w2.1
          rcases hl G hG a hb with ⟨G', hG', h⟩ | ⟨G', hG', h⟩
          · rw [n1 G' hG' a h] at ho; cases ho
          · rcases fr.mem G' hG' a h with ⟨i, z⟩ | z
            · rcases E1.new i a z with z | z
              · exact w ⟨i, z⟩
              · rw [z] at ho; cases ho
            · rw [E1.chg.there a z] at ho; cases ho
        · rcases n' j a h with z | ⟨z, _⟩
          · exact E1.new j a (sub j a z)
          · exact z
        · rcases n' j a h with z | ⟨_, G, hG, hb⟩
          · exact (apart j a z).2 (nF a ha)
          · exact dj G (sub' G hG) a hb ha
      · cases e
      · cases e
    · cases e
end
def coll : List Nat → List D → Nat → Sg → Option (List D)
  | [], [], _, _ => some []
  | m :: ms, d :: ds, j, s => match coll ms ds (j + 1) s with
    | none => none
    | some as => if m = 0 then (match (s[j]?).join with
      | none => none
      | some d' => some (d' :: as)) else some (d :: as)
  | _, _, _, _ => none
/-- which parameters' names keep what they hold -/
def lkM (ms : List Nat) : Nat → Bool := fun i => ms[i]? == some 0
def okM : List Nat → List D → Bool
  | [], [] => true
  | m :: ms, d :: ds => (m == 0 || pur d) && okM ms ds
  | _, _ => false
/-- n names in all, the parameters by their modes: 0 keeps its name's value, 1 holds what has no list -/
def mkFn (ms : List Nat) (n : Nat) (g : S) : Fn := fun ds => if okM ms ds = true then (match g (ds.map some ++ List.replicate (n - ds.length) none) with
    | .ok fl s => (match coll ms ds 0 s with
      | none => .bad
      | some as => (match fl with
        | .nx => .ok .none as
        | .rt d => .ok d as
        | _ => .bad))
    | .exc c v _ => .exc c v
    | .bad => .bad) else .bad
section
variable [Tb] [Vs] {K : PySem.W.Frag} {H H' : Hp}
theorem okM_len : ∀ {ms : List Nat} {ds : List D}, okM ms ds = true → ds.length = ms.length
  | [], [], _ => rfl
  | m :: ms, d :: ds, h => by
    simp only [okM, Bool.and_eq_true] at h
    rw [List.length_cons, List.length_cons, okM_len h.2]
  | [], _ :: _, h => by simp [okM] at h
  | _ :: _, [], h => by simp [okM] at h
theorem mkFn_len {ms : List Nat} {n : Nat} {g : S} {ds : List D} {r : D} {as : List D} (h : mkFn ms n g ds = .ok r as) : ds.length = ms.length := by
  unfold mkFn at h
  split at h
  · rename_i hk
    exact okM_len hk
  · cases h
omit [Vs] in
/-- the arguments as the first slots -/
theorem relS_start (tt : TabsOk H) {ds : List D} {vs : List V} {Fl : List (List Addr)} (h : OwnLs K H ds vs Fl) (m : Nat) : @RelS _ noVs K H (ds.map some ++ List.replicate m none) (vs.map some ++ List.replicate m none) (fun j => Fl.getD j []) := by
  have hl := h.len
  have key : ∀ (i : Nat) (d : D), ds[i]? = some d → ∃ v F, vs[i]? = some v ∧ Fl[i]? = some F ∧ Own K H d v F := by
    clear hl
    induction h with
    | nil => intro i d h; simp at h
    | @cons d v F ds vs Fl o n _ ih =>
      intro i d' e
      cases i with
      | zero => simp at e; subst e; exact ⟨v, F, rfl, rfl, o⟩
      | succ i => exact ih i d' (by simpa using e)
  have lenF : Fl.length = ds.length := by
    clear key hl
    induction h with
    | nil => rfl
    | cons _ _ _ ih => rw [List.length_cons, List.length_cons, ih]
  have dj : ∀ (i j : Nat) (F G : List Addr) (a : Addr), Fl[i]? = some F → Fl[j]? = some G → a ∈ F → a ∈ G → i = j := by
    clear key hl lenF
    induction h with
    | nil => intro i j F G a h; simp at h
    | @cons d v F0 ds vs Fl o n _ ih =>
      intro i j F G a h1 h2 h3 h4
      cases i with
      | zero => cases j with
        | zero => rfl
        | succ j =>
          simp at h1
          subst h1
          exact absurd h4 (n G (List.mem_of_getElem? (by simpa using h2)) a h3)
      | succ i => cases j with
        | zero =>
          simp at h2
          subst h2
          exact absurd h3 (n F (List.mem_of_getElem? (by simpa using h1)) a h4)
        | succ j => rw [ih i j F G a (by simpa using h1) (by simpa using h2) h3 h4]
  refine ⟨by simp [hl], fun i d e => ?_, fun i e => ?_, fun i j a h1 h2 => ?_, ⟨trivial, tt⟩, fun i h => absurd rfl h⟩
  · by_cases hi : i < ds.length
    · rw [List.getElem?_append_left (by simpa using hi), List.getElem?_map] at e
      cases hd : ds[i]? with
      | none => rw [hd] at e; cases e
      | some d' =>
        rw [hd] at e
        cases e
        obtain ⟨v, F, hv, hF, o⟩ := key i d hd
        refine ⟨v, by rw [List.getElem?_append_left (by simp; omega), List.getElem?_map, hv]; rfl, ?_⟩
        show Own K H d v (Fl.getD i [])
        rw [List.getD_eq_getElem?_getD, hF]
        exact o
    · rw [List.getElem?_append_right (by simpa using hi), List.getElem?_replicate] at e
      split at e <;> cases e
  · show Fl.getD i [] = []
    by_cases hi : i < ds.length
    · exfalso
      refine e ds[i] ?_
      rw [List.getElem?_append_left (by simpa using hi), List.getElem?_map, List.getElem?_eq_getElem hi]
      rfl
    · rw [List.getD_eq_getElem?_getD, List.getElem?_eq_none (by omega)]
      rfl
  · have f1 : ∀ {i : Nat}, a ∈ Fl.getD i [] → ∃ F, Fl[i]? = some F ∧ a ∈ F := fun {i} h => by
      rw [List.getD_eq_getElem?_getD] at h
      cases e : Fl[i]? with
      | none => rw [e] at h; cases h
      | some F => rw [e] at h; exact ⟨F, rfl, h⟩
    obtain ⟨F, e1, m1⟩ := f1 h1
    obtain ⟨G, e2, m2⟩ := f1 h2
    exact dj i j F G a e1 e2 m1 m2
/-- the arguments behind the body -/
theorem coll_own {Fs' : Fp} {s : Sg} {σ' : St} (R : RelS K H' s σ' Fs') (c : Chg (fun _ => True) H H') (new : ∀ i a, a ∈ Fs' i → H' a ≠ none) : ∀ {ms : List Nat} {ds : List D} {vs : List V} {Fl : List (List Addr)} {as : List D} (j : Nat),
    OwnLs K H ds vs Fl → okM ms ds = true → coll ms ds j s = some as → (∀ i, i < ms.length → ms[i]? = some 0 → σ'[j + i]? = (vs[i]?).map some) → (∀ i a, ms[i]? = some 0 → a ∈ Fs' (j + i) → i < Fl.length → a ∈ Fl.getD i [] ∨ H a = none) →
    ∃ Fl', OwnLs K H' as vs Fl' ∧ NewL H Fl Fl' ∧ ∀ G, G ∈ Fl' → ∀ a, a ∈ G → ∃ i, j ≤ i ∧ ms[i - j]? = some 0 ∧ a ∈ Fs' i := by
  intro ms
  induction ms with
  | nil =>
    intro ds vs Fl as j o ok e L n
    cases ds with
    | cons _ _ => simp [okM] at ok
    | nil =>
      simp only [coll] at e
      cases e
      cases o
      exact ⟨[], .nil, trivial, by simp⟩
  | cons m ms ih =>
    intro ds vs Fl as j o ok e L n
    cases ds with
    | nil => simp [okM] at ok
    | cons d ds =>
      simp only [okM, Bool.and_eq_true, Bool.or_eq_true, beq_iff_eq] at ok
      simp only [coll] at e
      split at e
      · cases e
      · rename_i as' hc
        cases o with
        | @cons _ v F _ vs Fl o1 n1 o =>
          obtain ⟨Fl', h1, h2, h3⟩ := ih (j + 1) o ok.2 hc (fun i hi hm => by
            have := L (i + 1) (by simpa using hi) (by simpa using hm)
            rw [show j + 1 + i = j + (i + 1) by omega, this]
            simp) (fun i a hm ha hi => by
            have := n (i + 1) a (by simpa using hm) (by rw [show j + (i + 1) = j + 1 + i by omega]; exact ha) (by simpa using hi)
            simpa using this)
          have h3' : ∀ G, G ∈ Fl' → ∀ a, a ∈ G → ∃ i, j < i ∧ (m :: ms)[i - j]? = some 0 ∧ a ∈ Fs' i := fun G hG a ha => by
            obtain ⟨i, q1, q2, q3⟩ := h3 G hG a ha
            refine ⟨i, by omega, ?_, q3⟩
            rw [show i - j = (i - (j + 1)) + 1 by omega, List.getElem?_cons_succ]
            exact q2
          split at e
          · rename_i hm
            subst hm
            split at e
            · cases e
            · rename_i d' hd'
              cases e
              obtain ⟨v', hv', o'⟩ := R.has j d' (join_some hd')
              have := L 0 (by simp) rfl
              rw [Nat.add_zero, hv'] at this
              simp at this
              subst this
              refine ⟨Fs' j :: Fl', .cons o' (fun G hG a ha hb => ?_) h1, ⟨fun a ha => ?_, h2⟩, fun G hG a ha => ?_⟩
              · obtain ⟨i, q1, _, q3⟩ := h3' G hG a hb
                have := R.dis j i a ha q3
                omega
              · have := n 0 a rfl (by simpa using ha) (by simp)
                simpa using this
              · rcases List.mem_cons.mp hG with rfl | hG
                · exact ⟨j, Nat.le_refl _, by simp, ha⟩
                · obtain ⟨i, q1, q2, q3⟩ := h3' G hG a ha
                  exact ⟨i, Nat.le_of_lt q1, q2, q3⟩
          · rename_i hm
            cases e
            have hp : pur d = true := ok.1.resolve_left hm
            have e0 := o1.pur hp
            subst e0
            refine ⟨[] :: Fl', .cons (o1.chg c fun _ z => by cases z) (by simp) h1, ⟨by simp, h2⟩, fun G hG a ha => ?_⟩
            rcases List.mem_cons.mp hG with rfl | hG
            · cases ha
            · obtain ⟨i, q1, q2, q3⟩ := h3' G hG a ha
              exact ⟨i, Nat.le_of_lt q1, q2, q3⟩
end
end Sim
namespace Sim
open PySem PySem.Spec L2
theorem getD_of {Fl : List (List Addr)} {i : Nat} {a : Addr} (h : a ∈ Fl.getD i []) : ∃ G, Fl[i]? = some G ∧ a ∈ G := by
  rw [List.getD_eq_getElem?_getD] at h
  cases e : Fl[i]? with
  | none => rw [e] at h; cases h
  | some F => rw [e] at h; exact ⟨F, rfl, h⟩
theorem OwnLs.pure_at {K : PySem.W.Frag} {H : Hp} : ∀ {ms : List Nat} {ds : List D} {vs : List V} {Fl : List (List Addr)}, OwnLs K H ds vs Fl → okM ms ds = true → ∀ i, ms[i]? ≠ some 0 → Fl.getD i [] = []
  | [], [], _, _, o, _, i, _ => by cases o; simp
  | m :: ms, d :: ds, _, _, o, ok, 0, h => by
    cases o with
    | @cons _ _ F _ _ Fl o1 n1 o =>
      simp only [okM, Bool.and_eq_true, Bool.or_eq_true, beq_iff_eq] at ok
      have hp : pur d = true := ok.1.resolve_left fun e => h (by rw [e]; rfl)
      simpa using o1.pur hp
  | m :: ms, d :: ds, _, _, o, ok, i + 1, h => by
    cases o with
    | @cons _ _ F _ _ Fl o1 n1 o =>
      simp only [okM, Bool.and_eq_true] at ok
      have := OwnLs.pure_at o ok.2 i (by simpa using h)
      simpa using this
  | [], _ :: _, _, _, _, ok, _, _ => by simp [okM] at ok
  | _ :: _, [], _, _, _, ok, _, _ => by simp [okM] at ok
section
variable [Tb] {P : Program} {w : World} {K : PySem.W.Frag} {mg : Str → Option Value} {base : Heap}
theorem fn_sim {x qual : Str} {st : Stmt} {f : Addr} {fd : FuncData} {N ps : List Str} {ms : List Nat} {n k : Nat} {g : S} (F : Fun K x qual st f fd) (Sc : FnScope N ps (defScope st)) (hn : N.length = n) (hm : ms.length = ps.length)
    (hb : ∀ (cdv : Value) (A : Around) (outer : List Env) (s : Shared) (H : Hp) (E : XK), Room k (A.deeper (PyProof.Rows.envOfC qual (defScope st) s.heap.objs.size f cdv)) →
      SimSs (cxOf CX0 P w K mg base N qual (defScope st) f cdv A outer s H E).nox (lkM ms) (defBody st) g) : FnOk P w K mg base CX0 (k + 1) f fd ps (spF K ps.length (mkFn ms n g)) := by
  refine F.ok Sc (fun vs H Q E h => ?_) (fun cdv A outer s H vs Q E hr h => ⟨_, hb cdv A outer s H E hr, ?_⟩)
  · obtain ⟨ds, Fl, r, as, hf, hl, _⟩ := h
    exact hl
  · obtain ⟨ds, Fl, r, as, hf, hl, tt, ol, q⟩ := h
    unfold mkFn at hf
    split at hf
    · rename_i hok
      have hlm := okM_len hok
      split at hf
      · rename_i fl s' hg
        split at hf
        · cases hf
        · rename_i as' hc
          have est : L2.start N vs = vs.map some ++ List.replicate (n - ds.length) none := by
            unfold L2.start
            rw [hn, ← ol.len]
          have R0 := relS_start tt ol (n - ds.length)
          rw [est]
          refine ⟨_, _, fl, s', R0, hg, ?_⟩
          have fin : ∀ {σ' : St} {H' : Hp} {Fs' : Fp}, RelS K H' s' σ' Fs' → EvR (lkM ms) H (fun j => Fl.getD j []) H' Fs' → Lk (lkM ms) (vs.map some ++ List.replicate (n - ds.length) none) σ' →
              ∃ Fl', OwnLs K H' as' vs Fl' ∧ NewL H Fl Fl' ∧ (Chg (fun a => ∃ G, G ∈ Fl ∧ a ∈ G) H H') ∧ ∀ G, G ∈ Fl' → ∀ a, a ∈ G → ∃ i, lkM ms i = true ∧ a ∈ Fs' i := by
            intro σ' H' Fs' R' E' L'
            have c2 : Chg (fun a => ∃ G, G ∈ Fl ∧ a ∈ G) H H' := E'.chg.mono fun a _ _ ⟨i, hi⟩ => by
              obtain ⟨G, hG, ha⟩ := getD_of hi
              exact ⟨G, List.mem_of_getElem? hG, ha⟩
            have c3 : Chg (fun _ => True) H H' := E'.chg.mono fun _ _ _ _ => trivial
            obtain ⟨Fl', h1, h2, h3⟩ := coll_own (Fs' := Fs') R' c3 (fun i a h => by
              obtain ⟨xs, z⟩ := R'.mem h
              rw [z]
              simp) 0 ol hok hc (fun i hi h0 => by
                have := L' i (by unfold lkM; rw [h0]; rfl)
                rw [Nat.zero_add, this, List.getElem?_append_left (by rw [List.length_map, ol.len, hlm]; exact hi), List.getElem?_map]) (fun i a hm ha hi => by
                rw [Nat.zero_add] at ha
                rcases E'.new i a ha with z | ⟨z, _⟩
                · exact z
                · unfold lkM at z
                  rw [hm] at z
                  cases z)
            refine ⟨Fl', h1, h2, c2, fun G hG a ha => ?_⟩
            obtain ⟨i, _, q2, q3⟩ := h3 G hG a ha
            exact ⟨i, by unfold lkM; rw [Nat.sub_zero] at q2; rw [q2]; rfl, q3⟩
          cases fl with
          | nx =>
            cases hf
            intro σ' H' Fs' R' E' L'
            obtain ⟨Fl', h1, h2, c2, _⟩ := fin R' E'.r L'
            exact q .non H' Fl' [] h1 c2 h2 .non (by simp) (by simp)
          | rt d =>
            cases hf
            intro v σ' H' Fs' F' R' E' L' o nn m
            obtain ⟨Fl', h1, h2, c2, h3⟩ := fin R' E' L'
            refine q v H' Fl' F' h1 c2 h2 o (fun a ha => ?_) fun G hG a ha hb => ?_
            · rcases nn a ha with z | ⟨i, hi, z⟩
              · exact z
              · exfalso
                have z' : a ∈ Fl.getD i [] := z
                rw [ol.pure_at hok i (fun e => by unfold lkM at hi; rw [e] at hi; cases hi)] at z'
                cases z'
            · obtain ⟨i, hi, q3⟩ := h3 G hG a ha
              exact m i a hi q3 hb
          | bk => cases hf
          | ct => cases hf
      · cases hf
      · cases hf
    · cases hf
end
section
variable [Tb] [Vs] {X : Cx} {k : Nat} {f : Addr} {fd : FuncData} {ps : List Str} {fn : Fn} {x : Str} {p pos : Pos} {e : Expr} {es : List Expr} {g : AL}
theorem so_call (F : FnOk X.prog X.w X.K X.mg X.base CX0 k f fd ps (spF X.K ps.length fn)) (hr : Room k X.A) (hg : Gl X x) (hm : X.mg x = some (.ref f)) (hk : PySem.W.keepIn X.K (.ref f) = true) (hb : Binds X.K fd ps []) (ha : SimA X (e :: es) g)
    (hn : ∀ ds r as, fn ds = .ok r as → ds.length = ps.length) (hdb : (x == ("__debug__" : Str)) = false := by decide) (he : starEach (e :: es) X.env = (false, eval e X.env) :: starEach es X.env := by rfl) (hpl : (backTo pos (starEach es X.env)).any (·.1) = false := by rfl) :
    SimO X (.Call (.Name x p) (e :: es) [] pos) (oCall fn g) := by
  refine pe_imp (pe_call F hr hg hm hk hb .nil pass0 ha hdb he hpl) fun σ H Q z => ?_
  have z' := tO_call (E := E0) z hn
  exact tA_mono (fun vs H h => by rw [List.append_nil]; exact h) z'
end
end Sim
namespace Sim
open PySem PySem.Spec L2
def intsD : List D → Option (List Int)
  | [] => some []
  | .int i :: ds => (intsD ds).map (i :: ·)
  | _ => none
def bools : List D → Option (List Bool)
  | [] => some []
  | .bool i :: ds => (bools ds).map (i :: ·)
  | _ => none
def seqOf : D → Option (List D)
  | .list ds => some ds
  | .tuple ds => some ds
  | .dict [(.none, .list ds)] => some ds
  | _ => none
def pLen : List D → Option D
  | [.str z] => if z.length ≤ 1000000 then some (.int z.length) else none
  | [d] => match seqOf d with
    | some ds => some (.int ds.length)
    | none => none
  | _ => none
def pAbs : List D → Option D
  | [.int i] => some (.int (if i < 0 then -i else i))
  | _ => none
def pInt : List D → Option D
  | [.int i] => some (.int i)
  | [.bool k] => some (.int (if k then 1 else 0))
  | _ => none
def pMax2 : List D → Option D
  | [.int i, .int j] => some (.int (max i j))
  | _ => none
def pMin2 : List D → Option D
  | [.int i, .int j] => some (.int (min i j))
  | _ => none
def intsOf (d : D) : Option (List Int) := match seqOf d with
  | some ds => intsD ds
  | none => none
def pSum : List D → Option D
  | [d] => (intsOf d).map fun ns => .int ns.sum
  | _ => none
def pTuple : List D → Option D
  | [d] => match seqOf d with
    | some ds => if purs ds = true then some (.tuple ds) else none
    | none => none
  | _ => none
def pList : List D → Option D
  | [d] => match seqOf d with
    | some ds => if purs ds = true then some (.list ds) else none
    | none => none
  | _ => none
def pDivmod : List D → Option D
  | [.int i, .int j] => if 0 < j ∧ j < 1000000 then some (.tuple [.int (i / j), .int (i % j)]) else none
  | _ => none
def pAll : List D → Option D
  | [.list ds] => (bools ds).map fun bs => .bool (bs.all id)
  | _ => none
def pAny : List D → Option D
  | [.list ds] => (bools ds).map fun bs => .bool (bs.any id)
  | _ => none
section
variable {K : PySem.W.Frag} {H : Hp}
theorem own_bools : ∀ {ds : List D} {vs : List V} {F : List Addr} {ns : List Bool}, OwnA K H ds vs F → bools ds = some ns → vs = ns.map V.bl
  | [], _, _, _, h, e => by cases h; cases e; rfl
  | d :: ds, _, _, _, h, e => by
    cases h with
    | cons o t n =>
      cases o with
      | bl i =>
        simp only [bools] at e
        cases hi : bools ds with
        | none => rw [hi] at e; cases e
        | some ns' =>
          rw [hi] at e
          cases e
          rw [own_bools t hi]
          rfl
      | _ => simp [bools] at e
theorem own_seq {d : D} {v : V} {F : List Addr} {ds : List D} (o : Own K H d v F) (e : seqOf d = some ds) : ∃ a xs G, v = .ref a ∧ (SqL K H a xs ∨ SqT K H a xs) ∧ OwnA K H ds xs G ∧ (purs ds = true → G = [] ∧ (∀ e2, d = .tuple e2 → SqD K H a xs)) ∧ ((∃ e2, d = .tuple e2) ∨ SqL K H a xs) := by
  unfold seqOf at e
  split at e
  · cases e
    cases o with
    | lst h t n => exact ⟨_, _, _, rfl, .inl (SqL.of h), t, fun p => ⟨t.pur p, fun _ z => by cases z⟩, .inr (SqL.of h)⟩
  · cases e
    cases o with
    | tup h t => exact ⟨_, _, _, rfl, .inr h.sq, t, fun p => ⟨t.pur p, fun _ _ => h⟩, .inl ⟨_, rfl⟩⟩
  · cases e
    cases o with
    | frz h t => exact ⟨_, _, _, rfl, .inl h.sq, t, fun p => ⟨rfl, fun _ z => by cases z⟩, .inr h.sq⟩
  · cases e
end
section
variable {prog : Program} {w : World} {A : Around} {E : Value → Shared → Prop} {s : Shared} {t : Addr} {xs : Array (Int × Tok)}
end
section
variable {X : Cx}
end
end Sim
namespace Sim
open PySem PySem.Spec L2
section
variable {K : PySem.W.Frag}
def rLenA (K : PySem.W.Frag) : List V → Hp → VK → Prop := fun xs H Q => (∃ p ys, xs = [V.ref p] ∧ (SqL K H p ys ∨ SqT K H p ys) ∧ Q (.int ys.length) H) ∨ ∃ z, xs = [V.str z] ∧ z.length ≤ sizeLine ∧ Q (.int z.length) H
theorem CallR.or {X : Cx} {f : Value} {r r' : List V → Hp → VK → Prop} (h : CallR X f r) (h' : CallR X f r') : CallR X f (fun xs H Q => r xs H Q ∨ r' xs H Q) := fun pins s σ H xs us Q I rv q =>
  q.elim (h pins s σ H xs us Q I rv) (h' pins s σ H xs us Q I rv)
theorem cr_len {X : Cx} : CallR X (.builtin "len") (rLenA X.K) := CallR.or call_len_seq call_len_str
theorem pr_len : PrimR K (rLenA K) pLen := by
  intro vs ds d H Q h e q
  unfold pLen at e
  split at e
  · obtain ⟨x, F, rfl, o⟩ := h.one
    cases o
    split at e
    · rename_i hz
      cases e
      exact .inr ⟨_, rfl, Nat.le_trans hz big_le, q _ _ (.sc (.int _))⟩
    · cases e
  · obtain ⟨x, F, rfl, o⟩ := h.one
    split at e
    · rename_i es hs
      cases e
      obtain ⟨a, xs, G, rfl, hq, t, _⟩ := own_seq o hs
      refine .inl ⟨_, _, rfl, hq, ?_⟩
      rw [t.len]
      exact q _ _ (.sc (.int _))
    · cases e
  · cases e
theorem pr_abs : PrimR K (fun xs H Q => ∃ i : Int, xs = [V.int i] ∧ Q (.int (if i < 0 then -i else i)) H) pAbs := by
  intro vs ds d H Q h e q
  unfold pAbs at e
  split at e
  · obtain ⟨x, F, rfl, o⟩ := h.one
    cases o; cases e
    exact ⟨_, rfl, q _ _ (.sc (.int _))⟩
  · cases e
theorem pr_tuple : PrimR K (fun xs H Q => ∃ p ys, xs = [V.ref p] ∧ ((SqL K H p ys ∧ rNewT ys H Q) ∨ (SqT K H p ys ∧ Q (.ref p) H))) pTuple := by
  intro vs ds d H Q h e q
  unfold pTuple at e
  split at e
  · obtain ⟨x, F, rfl, o⟩ := h.one
    split at e
    · rename_i es hs
      split at e
      · rename_i hp
        cases e
        obtain ⟨a, xs, G, rfl, hq, t, h1, h2⟩ := own_seq o hs
        obtain ⟨rfl, h3⟩ := h1 hp
        refine ⟨a, xs, rfl, ?_⟩
        rcases h2 with ⟨e2, h2⟩ | h2
        · exact .inr ⟨(h3 e2 h2).sq, q _ _ (.sc (.tup (h3 e2 h2) t))⟩
        · exact .inl ⟨h2, fun p ob hp hn => q _ _ (.tup t hp hn)⟩
      · cases e
    · cases e
  · cases e
theorem pr_all : PrimR K (rAll K) pAll := by
  intro vs ds d H Q h e q
  unfold pAll at e
  split at e
  · obtain ⟨x, F, rfl, o⟩ := h.one
    rename_i es
    cases hi : bools es with
    | none => rw [hi] at e; cases e
    | some ns =>
      rw [hi] at e
      cases e
      cases o with
      | lst h1 t n =>
        rw [own_bools t hi] at h1
        exact ⟨_, _, rfl, SqL.of h1, q _ _ (.sc (.bl _))⟩
  · cases e
end
theorem bt_len : bootBuiltins "len" = some (.builtin "len") := by decide +kernel
theorem bt_abs : bootBuiltins "abs" = some (.builtin "abs") := by decide +kernel
theorem bt_all : bootBuiltins "all" = some (.builtin "all") := by decide +kernel
theorem bt_isinstance : bootBuiltins "isinstance" = some (.builtin "isinstance") := by decide +kernel
theorem bt_int : bootBuiltins "int" = some (.type "int") := by decide +kernel
theorem bt_str : bootBuiltins "str" = some (.type "str") := by decide +kernel
theorem bt_tuple : bootBuiltins "tuple" = some (.type "tuple") := by decide +kernel
inductive Kd where
  | int | bool | str | tup | lst
def kdN : Kd → Str
  | .int => "int"
  | .bool => "bool"
  | .str => "str"
  | .tup => "tuple"
  | .lst => "list"
def kdT : Kd → String
  | .int => "int"
  | .bool => "bool"
  | .str => "str"
  | .tup => "tuple"
  | .lst => "list"
def frdB : List (D × D) → Bool
  | [(.none, .dict _)] => true
  | _ => false
def isK : Kd → D → Bool
  | .int, .int _ => true
  | .int, .bool _ => true
  | .bool, .bool _ => true
  | .str, .str _ => true
  | .tup, .tuple _ => true
  | .lst, .list _ => true
  | .lst, .dict kvs => !frdB kvs
  | _, _ => false
def okD : D → Bool
  | .dict kvs => frzT kvs
  | _ => true
def pIsi (k : Kd) : List D → Option D
  | [d] => if okD d = true then some (.bool (isK k d)) else none
  | _ => none
def tyN : D → String
  | .none => "NoneType"
  | .bool _ => "bool"
  | .int _ => "int"
  | .str _ => "str"
  | .tuple _ => "tuple"
  | .list _ => "list"
  | .dict kvs => if frdB kvs = true then "dict" else "list"
theorem kit_d (k : Kd) (d : D) : kitB (tyN d) (kdT k) = some (isK k d) := by
  cases d with
  | dict kvs =>
    cases hk : frdB kvs <;> cases k <;> simp only [tyN, kdT, isK, hk, if_true, if_false, Bool.false_eq_true, Bool.not_true, Bool.not_false] <;> decide +kernel
  | _ => cases k <;> simp only [tyN, kdT, isK] <;> decide +kernel
theorem own_ty {K : PySem.W.Frag} {H : Hp} {d : D} {v : V} {F : List Addr} (o : Own K H d v F) (ok : okD d = true) : TyX K H v (.type (tyN d)) := by
  cases o with
  | dct _ _ _ => simp [okD, frzT] at ok
  | dcn _ _ _ => simp [okD, frzT] at ok
  | frk _ _ => simp [okD, frzT] at ok
  | frn _ _ _ => simp [okD, frzT] at ok
  | ins _ _ _ _ => simp [okD, frzT] at ok
  | opq _ => simp [okD, frzT] at ok
  | non => exact .base .non
  | bl b => exact .base (.bl b)
  | int b => exact .base (.int b)
  | str b => exact .base (.str b)
  | tup h t =>
    rcases h with ⟨o, h, _⟩ | ⟨o, its, n, h1, h2, _⟩
    · exact .fTuple h
    · exact .kTuple h1 h2
  | frz h t =>
    rcases h with ⟨o, h⟩ | ⟨o, its, n, h1, h2, _⟩
    · exact .base (.frz h)
    · exact .kList h1 h2
  | frd h => exact .fDict h
  | lst h t n => exact .base (.lst h)
def rIsiK (K : PySem.W.Frag) (k : Kd) : List V → Hp → VK → Prop := fun vs H Q => rIsi K (vs ++ [.ty (kdT k)]) H Q
theorem pr_isi {K : PySem.W.Frag} (k : Kd) : PrimR K (rIsiK K k) (pIsi k) := by
  intro vs ds d H Q h e q
  unfold pIsi at e
  split at e
  · obtain ⟨x, F, rfl, o⟩ := h.one
    split at e
    · rename_i ok
      cases e
      exact ⟨x, _, _, _, _, rfl, .ty _, own_ty o ok, kit_ty (kit_d k _), q _ _ (.sc (.bl _))⟩
    · cases e
  · cases e
theorem so_isi [Tb] [Vs] {X : Cx} {e : Expr} {ga : O} {p p2 pos : Pos} (k : Kd) (hg : Gl X "isinstance") (hm : X.mg "isinstance" = none) (hg2 : Gl X (kdN k)) (hm2 : X.mg (kdN k) = none) (ha : SimO X e ga)
    (he : starEach (e :: [.Name (kdN k) p2]) X.env = (false, eval e X.env) :: starEach [.Name (kdN k) p2] X.env := by rfl) (hpl : (backTo pos (starEach [.Name (kdN k) p2] X.env)).any (·.1) = false := by rfl)
    (hs2 : starEach [.Name (kdN k) p2] X.env = (false, eval (.Name (kdN k) p2) X.env) :: starEach [] X.env := by rfl) : SimO X (.Call (.Name "isinstance" p) [e, .Name (kdN k) p2] [] pos) (o1 (pIsi k) ga) := by
  have hb : bootBuiltins (kdN k) = some (.type (kdT k)) := by cases k <;> decide +kernel
  have hn : kdN k ≠ "__name__" := by cases k <;> decide
  have hd : (kdN k == ("__debug__" : Str)) = false := by cases k <;> decide
  refine pe_imp (pe_callB call_isi hg hm bt_isinstance (pa_cons ha (pa_cons (pe_bltn hg2 hm2 hb (v := .ty (kdT k)) rfl hn hd) pa_nil hs2) he) (he := he) (hpl := hpl)) fun σ H Q h => ?_
  have z := tA1 (prim (pr_isi k) h)
  exact z
end Sim
namespace Sim
open PySem PySem.Spec L2
/-- x.m(args): the list that x's slot holds, as it becomes; what is given -/
def oMt (f : List D → List D → Option (List D × D)) (i : Nat) (g : AL) : O := fun s => (oV i s).bind fun _ s => match (s[i]?).join with
  | some (.list _) => (g s).bind fun rs s1 => (match (s1[i]?).join, owns rs s1 with
    | some (.list ds), some as => (match f ds as with
      | some (ds', d) => if pur d = true then .ok (.val d) (s1.set i (some (.list ds'))) else .bad
      | none => .bad)
    | _, _ => .bad)
  | _ => .bad
/-- what a rule of a method asks: the list becomes .., the answer -/
def MtD (K : PySem.W.Frag) (r : V → List V → Hp → VK → Prop) (f : List D → List D → Option (List D × D)) : Prop :=
  ∀ (l : Addr) (vs : List V) (F : List Addr) (ds as : List D) (ws : List V) (G : List Addr) (ds' : List D) (d : D) (H : Hp) (Q : VK),
    H l = some (.lst vs) → OwnA K H ds vs F → l ∉ F → OwnA K H as ws G → (∀ a, a ∈ G → a ∉ l :: F) → f ds as = some (ds', d) → pur d = true →
    (∀ vs' F' v, OwnA K H ds' vs' F' → (∀ a, a ∈ F' → a ∈ F ∨ a ∈ G) → Own K H d v [] → Q v (upd H l (.lst vs'))) → r (.ref l) ws H Q
theorem Ev.step [Tb] {H H1 H' : Hp} {Fs Fs1 Fs' : Fp} (a : Ev H Fs H1 Fs1) (c : Chg (InF Fs1) H1 H') (n : ∀ i x, x ∈ Fs' i → x ∈ Fs i ∨ H x = none) : Ev H Fs H' Fs' := by
  refine ⟨⟨fun x o e cc => c.keep x o (a.chg.keep x o e cc) (cc.imp (fun n => ⟨fun z => ?_, n.2⟩) id), fun x e => a.chg.there x (c.there x e), fun t => c.tab (a.chg.tab t)⟩, n⟩
  obtain ⟨i, hi⟩ := z
  rcases a.new i x hi with q | q
  · exact n.1 ⟨i, q⟩
  · rw [e] at q; cases q
section
variable [Tb] [Vs] {X : Cx} {K : PySem.W.Frag} {σ : St} {H : Hp} {Q : VK}
theorem tO_mt {f : List D → List D → Option (List D × D)} {r : V → List V → Hp → VK → Prop} {i : Nat} {g : AL} (hr : MtD K r f) (z : tO K (oMt f i g) σ H Q) : tBM K "list" r (tSl i) (tA K g) σ H Q := by
  obtain ⟨s, Fs, rf, s', R, e, q⟩ := z
  obtain ⟨r0, s0, e0, e⟩ := bind_inv e
  unfold oV at e0
  split at e0
  · rename_i d0 hd0
    cases e0
    split at e
    · rename_i ds0 hds0
      rw [hd0] at hds0
      cases hds0
      obtain ⟨v0, hv0, o0⟩ := R.has i _ (join_some hd0)
      obtain ⟨l, vs0, F0, rfl, hF0, hl0, t0, n0⟩ := own_list o0
      refine ⟨.ref l, hv0, R.lnk.1, .inl ⟨rfl, _, SqL.of hl0⟩, ?_⟩
      obtain ⟨rs, s1, e1, e⟩ := bind_inv e
      refine ⟨s, Fs, rs, s1, R, e1, fun ws H1 Fs1 Gs R1 E1 k1 n1 => ?_⟩
      split at e
      · rename_i ds as hds has
        split at e
        · rename_i ds' d hf
          split at e
          · rename_i hp
            cases e
            obtain ⟨v1, hv1, o1⟩ := R1.has i _ (join_some hds)
            rw [hv0] at hv1
            cases hv1
            obtain ⟨l', vs, F, e2, hF, hl, t, n⟩ := own_list o1
            cases e2
            obtain ⟨oa, dj⟩ := k1.own R1 has
            have li : ∀ a, a ∈ Gs.flatten → a ∉ l :: F := fun a ha hb => dj i a (by rw [hF]; exact hb) ha
            refine hr l vs F ds as ws Gs.flatten ds' d H1 Q hl t n oa li hf hp fun vs' F' v o' sub ov => ?_
            have n' : l ∉ F' := fun h => by
              rcases sub l h with z | z
              · exact n z
              · exact li l z (List.mem_cons_self ..)
            obtain ⟨Fs2, R2, c2, w2⟩ := R1.wr (Fd := Gs.flatten) (join_some hds) hv0 hl hF o' n' sub (fun j a ha => dj j a ha)
            have ch : Chg (fun a => a = l) H1 (upd H1 l (.lst vs')) := .upd1 (m := .lst _) hl
            refine q v _ Fs2 [] R2 (E1.step c2 fun j a ha => ?_) (.val ⟨ov.chg ch (fun _ z => nomatch z), fun _ _ _ z => nomatch z⟩) (fun _ z => nomatch z)
            rcases w2 j a ha with z | z
            · exact E1.new j a z
            · obtain ⟨G, hG, hb⟩ := List.mem_flatten.mp z
              exact .inr (n1 G hG a hb)
          · cases e
        · cases e
      · cases e
    · cases e
  · cases e0
theorem so_mtF {e0 : Expr} {f : List D → List D → Option (List D × D)} {r : V → List V → Hp → VK → Prop} {i : Nat} {g : AL} {name : Str} {id : String} {apos cpos : Pos} {e : Expr} {es : List Expr} (hr : MtD X.K r f) (slot : Slot "list" name id) (hty : typeOf (.builtin id) = pure (.type "method_descriptor")) (hm : MtR X id r)
    (ho : PE X e0 (tSl i)) (ha : SimA X (e :: es) g)
    (hbase : attributeBase e0 name X.env (eval e0 X.env) = eval e0 X.env := by rfl)
    (hfew : ((backTo cpos (starEach (e :: es) X.env)).all (fun x => !x.1) && (backToKw cpos (keywordEach [] X.env)).all (fun x => x.1.isSome)
      && decide ((e :: es).length + ([] : List Keyword).length + (if ([] : List Keyword).isEmpty then 0 else 1) < 30)) = true := by rfl)
    (hline : (apos.endLine == cpos.line) = true := by rfl) (hs : starEach (e :: es) X.env = (false, eval e X.env) :: starEach es X.env := by rfl) (hplain : (backTo cpos (starEach es X.env)).any (·.1) = false := by rfl) :
    SimO X (.Call (.Attribute e0 name apos) (e :: es) [] cpos) (oMt f i g) :=
  pe_imp (pe_bm PySem.F.plainAttrs_list slot hty hm ho ha hbase hfew hline hs hplain) fun _ _ _ h => tO_mt hr h
theorem so_mt {f : List D → List D → Option (List D × D)} {r : V → List V → Hp → VK → Prop} {i : Nat} {g : AL} {x name : Str} {id : String} {p apos cpos : Pos} {e : Expr} {es : List Expr} (hr : MtD X.K r f) (slot : Slot "list" name id) (hty : typeOf (.builtin id) = pure (.type "method_descriptor")) (hm : MtR X id r)
    (ho : PE X (.Name x p) (tVar i)) (ha : SimA X (e :: es) g)
    (hbase : attributeBase (.Name x p) name X.env (eval (.Name x p) X.env) = eval (.Name x p) X.env := by rfl)
    (hfew : ((backTo cpos (starEach (e :: es) X.env)).all (fun x => !x.1) && (backToKw cpos (keywordEach [] X.env)).all (fun x => x.1.isSome)
      && decide ((e :: es).length + ([] : List Keyword).length + (if ([] : List Keyword).isEmpty then 0 else 1) < 30)) = true := by rfl)
    (hline : (apos.endLine == cpos.line) = true := by rfl) (hs : starEach (e :: es) X.env = (false, eval e X.env) :: starEach es X.env := by rfl) (hplain : (backTo cpos (starEach es X.env)).any (·.1) = false := by rfl) :
    SimO X (.Call (.Attribute (.Name x p) name apos) (e :: es) [] cpos) (oMt f i g) :=
  so_mtF hr slot hty hm (tsl_of ho) ha hbase hfew hline hs hplain
end
def mApp : List D → List D → Option (List D × D)
  | ds, [d] => if ds.length < 1000000 then some (ds ++ [d], .none) else none
  | _, _ => none
section
variable {K : PySem.W.Frag} {H : Hp}
theorem owna1 {d : D} {vs : List V} {F : List Addr} (h : OwnA K H [d] vs F) : ∃ v, vs = [v] ∧ Own K H d v F := by
  cases h with
  | @cons v _ _ _ F G o t n =>
    cases t
    rw [List.append_nil]
    exact ⟨v, rfl, o⟩
theorem OwnA.er {H : Hp} : ∀ {as : List D} {vs : List V}, OwnA K H as vs [] → ∀ n, OwnA K H (as.eraseIdx n) (vs.eraseIdx n) []
  | [], [], _, _ => .nil
  | _ :: _, _ :: _, h, 0 => h.nil2.2
  | _ :: _, _ :: _, h, n + 1 => .cons0 h.nil2.1 (OwnA.er h.nil2.2 n)
  | [], _ :: _, h, _ => nomatch h
  | _ :: _, [], h, _ => nomatch h
theorem md_app : MtD K rAppend mApp := by
  intro l vs F ds as ws G ds' d H Q hl t n oa li hf hp q
  unfold mApp at hf
  split at hf
  · rename_i ds y
    split at hf
    · rename_i hz
      cases hf
      obtain ⟨v, rfl, o⟩ := owna1 oa
      obtain ⟨F', t', sub⟩ := OwnA.snoc o t fun a ha hb => li a hb (List.mem_cons_of_mem _ ha)
      refine ⟨l, _, v, rfl, rfl, hl, ?_, q _ F' .non t' sub .non⟩
      rw [t.len]
      exact Nat.lt_of_lt_of_le hz big_le
    · cases hf
  · cases hf
end
end Sim
namespace Sim
open PySem PySem.Spec L2
def truD : D → Option Bool
  | .none => some false
  | .bool b => some b
  | .int i => some (i != 0)
  | .str z => if z.length ≤ 1000000 then some ((z.length : Int) != 0) else none
  | .list ds => some (!ds.isEmpty)
  | .tuple ds => some (!ds.isEmpty)
  | .dict [(.none, .list ds)] => some (!ds.isEmpty)
  | .dict _ => none
def tstA (g : O) : T := fun s => (g s).bind fun r s1 => match rd r s1 with
  | some d => (match truD d with
    | some b => .ok b s1
    | none => .bad)
  | none => .bad
theorem OwnA.emp {K : PySem.W.Frag} {H : Hp} {ds : List D} {vs : List V} {F : List Addr} (t : OwnA K H ds vs F) : ds.isEmpty = vs.isEmpty := by
  cases t <;> rfl
section
variable [Tb] [Vs] {X : Cx} {K : PySem.W.Frag} {H : Hp} {σ : St} {Q : VK} {a : Expr} {ga : O}
theorem tT_tstA {g : O} {Q : Bool → Hp → Prop} (h : tT K (tstA g) σ H Q) : tO K g σ H fun x H1 => ∃ k, TruV K x H1 k ∧ Q k H1 := by
  obtain ⟨s, Fs, b, s', R, e, q⟩ := h
  obtain ⟨r, s1, e1, e⟩ := bind_inv e
  refine ⟨s, Fs, r, s1, R, e1, fun v H1 Fs1 F R1 E1 k1 n1 => ?_⟩
  split at e
  · rename_i d hb
    split at e
    · rename_i b' ht
      cases e
      obtain ⟨F', o⟩ := k1.dp R1 hb
      refine ⟨b, ?_, q H1 Fs1 R1 E1⟩
      cases o with
      | frd _ => simp [truD] at ht
      | dct _ _ _ => simp [truD] at ht
      | dcn _ _ _ => simp [truD] at ht
      | frk _ _ => simp [truD] at ht
      | frn _ _ _ => simp [truD] at ht
      | ins _ _ _ _ => simp [truD] at ht
      | opq _ => simp [truD] at ht
      | non => cases ht; rfl
      | bl b => cases ht; rfl
      | int i => cases ht; rfl
      | str z =>
        simp only [truD] at ht
        split at ht
        · rename_i hz
          cases ht
          exact ⟨Nat.le_trans hz big_le, rfl⟩
        · cases ht
      | tup h t =>
        cases ht
        exact .inr (.inl ⟨_, h.sq, by rw [t.emp]⟩)
      | frz h t =>
        cases ht
        exact .inl ⟨_, h.sq, by rw [t.emp]⟩
      | lst h t n =>
        cases ht
        exact .inl ⟨_, SqL.of h, by rw [t.emp]⟩
    · cases e
  · cases e
theorem st_any (ha : SimO X a ga) (he : ∀ whole, isTrue a X.env whole = (do let v ← whole; standAt a.pos; holding [v] (truthy v)) := by intro _; rfl) : SimT X a (tstA ga) :=
  pt_imp (pt_truth ha he) fun _ _ _ h => tT_tstA h
end
section
variable [Tb] [Vs] {X : Cx} {lk : Nat → Bool}
theorem ss_setLc {i : Nat} {y : Str} {py : Pos} {elt tg iter : Expr} {ifs : List Expr} {scope : Scope} {own : List (Str × Nat)} {pos spos : Pos} {it : I} {t : Tg} {c : T} {e : O} (hc : X.calm = true) (hN : X.N.Nodup) (hy : X.N[i]? = some y) (hyl : X.env.scope.names.lookup y = some .local) (hl : lk i = false)
    (hi : SimI X tg iter it) (ok : BlkOk X.N X.env.scope scope own)
    (hg : ∀ (s : Shared) (H : Hp) (C : Addr) (cl : List (Str × Addr)) (fp : List Addr), SimG (X.blk s H scope (compEnvC scope cl C X.env) fp) (lkc (own.map (·.2))) tg t) (ht : ∀ (s : Shared) (H : Hp) (C : Addr) (cl : List (Str × Addr)) (fp : List Addr), SimPT (X.blk s H scope (compEnvC scope cl C X.env) fp) ifs c)
    (he : ∀ (s : Shared) (H : Hp) (C : Addr) (cl : List (Str × Addr)) (fp : List Addr), SimO (X.blk s H scope (compEnvC scope cl C X.env) fp) elt e) (hs : ∀ x, foldedSetIterable iter X.env x = pure x := by intro _; rfl)
    (hsw : swapsWith (.ListComp elt [⟨tg, iter, ifs, 0⟩] scope pos) (some (.Name y py)) spos.line X.env = pure true := by rfl)
    (ko : ∀ v, v ∈ own.map (·.2) → Vs.ok v := by first | exact fun _ _ => trivial | assumption | decide) (ki : Vs.ok i := by first | exact trivial | assumption | exact ⟨by decide, by decide⟩) :
    SimS X lk (.Assign [.Name y py] (.ListComp elt [⟨tg, iter, ifs, 0⟩] scope pos) spos) (sSet i (oComp it t c e (own.map (·.2)))) := by
  have hg' : ∀ (s : Shared) (H : Hp) (C : Addr) (cl : List (Str × Addr)) (fp : List Addr), PG (X.blk s H scope (compEnvC scope cl C X.env) fp) tg (tG X.K (lkc (own.map (·.2))) t) := hg
  have ht' : ∀ (s : Shared) (H : Hp) (C : Addr) (cl : List (Str × Addr)) (fp : List Addr), PTs (X.blk s H scope (compEnvC scope cl C X.env) fp) ifs (tT X.K c) := ht
  have he' : ∀ (s : Shared) (H : Hp) (C : Addr) (cl : List (Str × Addr)) (fp : List Addr), PE (X.blk s H scope (compEnvC scope cl C X.env) fp) elt (tO X.K e) := he
  refine ps_imp (ps_setLc hc hN hy hyl hsw hi ok hg' ht' he' hs) fun D σ H z => ?_
  have w := tS_asg z
  exact tO_comp ko (tO_mono (fun v H h => by have w := tG_nm hl ki h; exact w) w)
theorem ss_nevers {sts : List Stmt} : SimSs X lk sts sNever := pss_imp pss_never fun D σ H ⟨s, Fs, fl, s', R, e, q⟩ => by cases e
end
/-- more slots held -/
def lkp (is : List Nat) (lk : Nat → Bool) : Nat → Bool := fun j => is.contains j || lk j
theorem units65 {k : Nat} {A : Around} (r : Room k A) : A.units + 65 < cLine := by have := r.un; omega
theorem spF_law {f : Fn} (hf : ∀ ns : List Int, ns.length ≤ 63 → ∃ as, f [.dict [(.none, .list (ns.map .int))]] = .ok (.bool true) as) (K : PySem.W.Frag) (H : Hp) (a : Addr) (ns : List Int) (h1 : ns.length ≤ 63) (h2 : Only H) (h3 : SqL K H a (ns.map V.int)) :
    spF K 1 f [.ref a] H (fun v _ => v = .bl true) fun _ _ _ => False := by
  obtain ⟨as, e⟩ := hf ns h1
  have hq : SqF K H a (ns.map V.int) := by
    rcases h3 with (h | ⟨o, h⟩) | h
    · rcases h2 a with z | ⟨o, xs, z⟩ <;> rw [h] at z <;> cases z
    · exact .inl ⟨o, h⟩
    · exact .inr h
  have ho : ∀ ns : List Int, OwnA K H (ns.map .int) (ns.map V.int) [] := fun ns => by
    induction ns with
    | nil => exact .nil
    | cons n ns ih => exact OwnA.cons0 (.int n) ih
  refine ⟨_, [[]], _, as, e, rfl, (fun _ h => nomatch h), .cons (.frz hq (ho ns)) (by simp) .nil, fun v H' Fl' F h c n o _ _ => ?_⟩
  cases o
  rfl
end Sim
namespace Sim
open PySem PySem.Spec L2
@[simp] theorem ev_ok {α β : Type} (a : α) (s : Sg) (k : α → Sg → Res β) : (Res.ok a s).bind k = k a s := rfl
@[simp] theorem ev_exc {α β : Type} (c : Str) (v : D) (s : Sg) (k : α → Sg → Res β) : (Res.exc c v s).bind k = .exc c v s := rfl
@[simp] theorem ev_bad {α β : Type} (k : α → Sg → Res β) : (Res.bad : Res α).bind k = .bad := rfl
@[simp] theorem rd_val (d : D) (s : Sg) : rd (.val d) s = some d := rfl
@[simp] theorem rd_slot (i : Nat) (s : Sg) : rd (.slot i) s = (s[i]?).join := rfl
def rdsK (a : Option D) (b : Option (List D)) : Option (List D) := match a with
  | none => none
  | some d => match b with
    | none => none
    | some ds => some (d :: ds)
@[simp] theorem rds_nil (s : Sg) : rds [] s = some [] := rfl
@[simp] theorem rds_cons (r : Rf) (rs : List Rf) (s : Sg) : rds (r :: rs) s = rdsK (rd r s) (rds rs s) := rfl
@[simp] theorem rdsK_some (d : D) (ds : List D) : rdsK (some d) (some ds) = some (d :: ds) := rfl
def ownK : Option D → Option D
  | none => none
  | some d => if pur d = true then some d else none
@[simp] theorem own_val (d : D) (s : Sg) : own (.val d) s = some d := rfl
@[simp] theorem own_slot (i : Nat) (s : Sg) : own (.slot i) s = ownK (s[i]?).join := rfl
@[simp] theorem ownK_some (d : D) : ownK (some d) = if pur d = true then some d else none := rfl
@[simp] theorem owns_nil (s : Sg) : owns [] s = some [] := rfl
@[simp] theorem owns_cons (r : Rf) (rs : List Rf) (s : Sg) : owns (r :: rs) s = rdsK (own r s) (owns rs s) := rfl
@[simp] theorem pur_non : pur .none = true := by rfl
@[simp] theorem pur_bool (b : Bool) : pur (.bool b) = true := by rfl
@[simp] theorem pur_int (b : Int) : pur (.int b) = true := by rfl
@[simp] theorem pur_str (b : Str) : pur (.str b) = true := by rfl
@[simp] theorem pur_tuple (b : List D) : pur (.tuple b) = purs b := by simp [pur]
@[simp] theorem pur_list (b : List D) : pur (.list b) = false := by simp [pur]
@[simp] theorem pur_frz (b : List D) : pur (.dict [(.none, .list b)]) = true := by simp [pur, frzT]
@[simp] theorem purs_nil : purs [] = true := by rfl
@[simp] theorem purs_cons (d : D) (b : List D) : purs (d :: b) = (pur d && purs b) := by simp [purs]
@[simp] theorem purs_ints (l : List Int) : purs (l.map .int) = true := by induction l <;> simp_all
@[simp] theorem purs_map {α : Type} (f : α → Int) (l : List α) : purs (l.map fun a => .int (f a)) = true := by induction l <;> simp_all
@[simp] theorem purs_mapB {α : Type} (f : α → Bool) (l : List α) : purs (l.map fun a => .bool (f a)) = true := by induction l <;> simp_all
@[simp] theorem purs_append (a b : List D) : purs (a ++ b) = (purs a && purs b) := purs_app
def oVK (i : Nat) (s : Sg) : Option D → Res Rf
  | some _ => .ok (.slot i) s
  | none => .bad
@[simp] theorem ev_oV (i : Nat) (s : Sg) : oV i s = oVK i s (s[i]?).join := by
  unfold oV oVK; rfl
@[simp] theorem ev_oVK (i : Nat) (s : Sg) (d : D) : oVK i s (some d) = .ok (.slot i) s := rfl
@[simp] theorem ev_oC (d : D) (s : Sg) : oC d s = .ok (.val d) s := rfl
@[simp] theorem ev_aNil (s : Sg) : aNil s = .ok [] s := rfl
def consK2 (r : Rf) (rs : List Rf) (s : Sg) : Res (List Rf) := .ok (r :: rs) s
def consK (h : AL) (r : Rf) (s : Sg) : Res (List Rf) := (h s).bind (consK2 r)
@[simp] theorem ev_aCons (g : O) (h : AL) (s : Sg) : aCons g h s = (g s).bind (consK h) := rfl
@[simp] theorem ev_consK (h : AL) (r : Rf) (s : Sg) : consK h r s = (h s).bind (consK2 r) := rfl
@[simp] theorem ev_consK2 (r : Rf) (rs : List Rf) (s : Sg) : consK2 r rs s = .ok (r :: rs) s := rfl
def primK3 (s : Sg) : Option D → Res Rf
  | none => .bad
  | some d => .ok (.val d) s
def primK2 (f : List D → Option D) (s : Sg) : Option (List D) → Res Rf
  | none => .bad
  | some ds => primK3 s (f ds)
def primK (f : List D → Option D) (rs : List Rf) (s : Sg) : Res Rf := primK2 f s (rds rs s)
@[simp] theorem ev_prim (f : List D → Option D) (g : AL) (s : Sg) : oPrim f g s = (g s).bind (primK f) := by
  unfold oPrim; refine congrArg (Res.bind _) ?_; funext rs s1; unfold primK primK2; cases rds rs s1 <;> rfl
@[simp] theorem ev_primK (f : List D → Option D) (rs : List Rf) (s : Sg) : primK f rs s = primK2 f s (rds rs s) := rfl
@[simp] theorem ev_primK2 (f : List D → Option D) (ds : List D) (s : Sg) : primK2 f s (some ds) = primK3 s (f ds) := rfl
@[simp] theorem ev_primK3 (d : D) (s : Sg) : primK3 s (some d) = .ok (.val d) s := rfl
@[simp] theorem ev_o1 (f : List D → Option D) (a : O) (s : Sg) : o1 f a s = ((a s).bind (consK aNil)).bind (primK f) := by unfold o1; rw [ev_prim]; rfl
@[simp] theorem ev_o2 (f : List D → Option D) (a b : O) (s : Sg) : o2 f a b s = ((a s).bind (consK (aCons b aNil))).bind (primK f) := by unfold o2; rw [ev_prim]; rfl
def tstK2 (s : Sg) : Option D → Res Bool
  | some (.bool b) => .ok b s
  | _ => .bad
def tstK (r : Rf) (s : Sg) : Res Bool := tstK2 s (rd r s)
@[simp] theorem ev_tst (g : O) (s : Sg) : tst g s = (g s).bind tstK := rfl
@[simp] theorem ev_tstK (r : Rf) (s : Sg) : tstK r s = tstK2 s (rd r s) := rfl
@[simp] theorem ev_tstK2 (s : Sg) (b : Bool) : tstK2 s (some (.bool b)) = .ok b s := rfl
def tstAK3 (s : Sg) : Option Bool → Res Bool
  | some b => .ok b s
  | none => .bad
def tstAK2 (s : Sg) : Option D → Res Bool
  | some d => tstAK3 s (truD d)
  | none => .bad
def tstAK (r : Rf) (s : Sg) : Res Bool := tstAK2 s (rd r s)
@[simp] theorem ev_tstA (g : O) (s : Sg) : tstA g s = (g s).bind tstAK := by
  unfold tstA; refine congrArg (Res.bind _) ?_; funext r s1; unfold tstAK tstAK2; cases rd r s1 with
  | none => rfl
  | some d => cases h : truD d <;> simp [h, tstAK3]
@[simp] theorem ev_tstAK (r : Rf) (s : Sg) : tstAK r s = tstAK2 s (rd r s) := rfl
@[simp] theorem ev_tstAK2 (s : Sg) (d : D) : tstAK2 s (some d) = tstAK3 s (truD d) := rfl
@[simp] theorem ev_tstAK3 (s : Sg) (b : Bool) : tstAK3 s (some b) = .ok b s := rfl
@[simp] theorem tru_bool (b : Bool) : truD (.bool b) = some b := rfl
@[simp] theorem tru_int (b : Int) : truD (.int b) = some (b != 0) := rfl
@[simp] theorem tru_list (b : List D) : truD (.list b) = some (!b.isEmpty) := rfl
@[simp] theorem tru_tuple (b : List D) : truD (.tuple b) = some (!b.isEmpty) := rfl
def andK2 (h : O) (s : Sg) : Option D → Res Rf
  | some (.bool true) => h s
  | some (.bool false) => .ok (.val (.bool false)) s
  | _ => .bad
def andK (h : O) (r : Rf) (s : Sg) : Res Rf := andK2 h s (rd r s)
@[simp] theorem ev_oAnd (g h : O) (s : Sg) : oAnd g h s = (g s).bind (andK h) := rfl
@[simp] theorem ev_andK (h : O) (r : Rf) (s : Sg) : andK h r s = andK2 h s (rd r s) := rfl
@[simp] theorem ev_andK2 (h : O) (s : Sg) (b : Bool) : andK2 h s (some (.bool b)) = if b = true then h s else .ok (.val (.bool false)) s := by cases b <;> rfl
def orK2 (h : O) (s : Sg) : Option D → Res Rf
  | some (.bool true) => .ok (.val (.bool true)) s
  | some (.bool false) => h s
  | _ => .bad
def orK (h : O) (r : Rf) (s : Sg) : Res Rf := orK2 h s (rd r s)
@[simp] theorem ev_oOr (g h : O) (s : Sg) : oOr g h s = (g s).bind (orK h) := rfl
@[simp] theorem ev_orK (h : O) (r : Rf) (s : Sg) : orK h r s = orK2 h s (rd r s) := rfl
@[simp] theorem ev_orK2 (h : O) (s : Sg) (b : Bool) : orK2 h s (some (.bool b)) = if b = true then .ok (.val (.bool true)) s else h s := by cases b <;> rfl
def notK2 (s : Sg) : Option D → Res Rf
  | some (.bool b) => .ok (.val (.bool (!b))) s
  | _ => .bad
def notK (r : Rf) (s : Sg) : Res Rf := notK2 s (rd r s)
@[simp] theorem ev_oNot (g : O) (s : Sg) : oNot g s = (g s).bind notK := rfl
@[simp] theorem ev_notK (r : Rf) (s : Sg) : notK r s = notK2 s (rd r s) := rfl
@[simp] theorem ev_notK2 (s : Sg) (b : Bool) : notK2 s (some (.bool b)) = .ok (.val (.bool (!b))) s := rfl
def tAndK (u : T) (b : Bool) (s : Sg) : Res Bool := if b = true then u s else .ok false s
@[simp] theorem ev_tAnd (t u : T) (s : Sg) : tAnd t u s = (t s).bind (tAndK u) := rfl
@[simp] theorem ev_tAndK (u : T) (b : Bool) (s : Sg) : tAndK u b s = if b = true then u s else .ok false s := rfl
def tOrK (u : T) (b : Bool) (s : Sg) : Res Bool := if b = true then .ok true s else u s
@[simp] theorem ev_tOr (t u : T) (s : Sg) : tOr t u s = (t s).bind (tOrK u) := rfl
@[simp] theorem ev_tOrK (u : T) (b : Bool) (s : Sg) : tOrK u b s = if b = true then .ok true s else u s := rfl
def tNotK (b : Bool) (s : Sg) : Res Bool := .ok (!b) s
@[simp] theorem ev_tNot (t : T) (s : Sg) : tNot t s = (t s).bind tNotK := rfl
@[simp] theorem ev_tNotK (b : Bool) (s : Sg) : tNotK b s = .ok (!b) s := rfl
def oIfK (a b : O) (k : Bool) (s : Sg) : Res Rf := if k = true then a s else b s
@[simp] theorem ev_oIf (c : T) (a b : O) (s : Sg) : oIf c a b s = (c s).bind (oIfK a b) := rfl
@[simp] theorem ev_oIfK (a b : O) (k : Bool) (s : Sg) : oIfK a b k s = if k = true then a s else b s := rfl
def chK4 (s : Sg) : Option D → Res Rf
  | none => .bad
  | some d => .ok (.val d) s
def chK3 (f' : List D → Option D) (s : Sg) : Option (List D) → Res Rf
  | none => .bad
  | some es => chK4 s (f' es)
def chK2c (f' : List D → Option D) (rb rc : Rf) (s : Sg) : Res Rf := chK3 f' s (rds [rb, rc] s)
def chK2b (f' : List D → Option D) (c : O) (rb : Rf) (s : Sg) : Option D → Res Rf
  | some (.bool true) => (c s).bind (chK2c f' rb)
  | some (.bool false) => .ok (.val (.bool false)) s
  | _ => .bad
def chK2a (f f' : List D → Option D) (c : O) (rb : Rf) (s : Sg) : Option (List D) → Res Rf
  | none => .bad
  | some ds => chK2b f' c rb s (f ds)
def chK1 (f f' : List D → Option D) (c : O) (ra rb : Rf) (s : Sg) : Res Rf := chK2a f f' c rb s (rds [ra, rb] s)
def chK0 (f f' : List D → Option D) (b c : O) (ra : Rf) (s : Sg) : Res Rf := (b s).bind (chK1 f f' c ra)
@[simp] theorem ev_chain (f f' : List D → Option D) (a b c : O) (s : Sg) : oChain f f' a b c s = (a s).bind (chK0 f f' b c) := by
  unfold oChain; refine congrArg (Res.bind _) ?_; funext ra s1; unfold chK0; refine congrArg (Res.bind _) ?_; funext rb s2; unfold chK1 chK2a
  cases rds [ra, rb] s2 with
  | none => rfl
  | some ds =>
    show _ = chK2b f' c rb s2 (f ds)
    unfold chK2b
    cases hf : f ds with
    | none => simp [hf]
    | some d => cases d with
      | bool b => cases b with
        | false => simp [hf]
        | true =>
          simp only [hf]
          refine congrArg (Res.bind _) ?_; funext rc s3; unfold chK2c chK3
          cases rds [rb, rc] s3 with
          | none => rfl
          | some es => cases hg : f' es <;> simp [hg, chK4]
      | _ => simp [hf]
@[simp] theorem ev_chK0 (f f' : List D → Option D) (b c : O) (ra : Rf) (s : Sg) : chK0 f f' b c ra s = (b s).bind (chK1 f f' c ra) := rfl
@[simp] theorem ev_chK1 (f f' : List D → Option D) (c : O) (ra rb : Rf) (s : Sg) : chK1 f f' c ra rb s = chK2a f f' c rb s (rds [ra, rb] s) := rfl
@[simp] theorem ev_chK2a (f f' : List D → Option D) (c : O) (rb : Rf) (s : Sg) (ds : List D) : chK2a f f' c rb s (some ds) = chK2b f' c rb s (f ds) := rfl
@[simp] theorem ev_chK2b (f' : List D → Option D) (c : O) (rb : Rf) (s : Sg) (b : Bool) : chK2b f' c rb s (some (.bool b)) = if b = true then (c s).bind (chK2c f' rb) else .ok (.val (.bool false)) s := by cases b <;> rfl
@[simp] theorem ev_chK2c (f' : List D → Option D) (rb rc : Rf) (s : Sg) : chK2c f' rb rc s = chK3 f' s (rds [rb, rc] s) := rfl
@[simp] theorem ev_chK3 (f' : List D → Option D) (s : Sg) (ds : List D) : chK3 f' s (some ds) = chK4 s (f' ds) := rfl
@[simp] theorem ev_chK4 (s : Sg) (d : D) : chK4 s (some d) = .ok (.val d) s := rfl
def tupK2 (s : Sg) : Option (List D) → Res Rf
  | none => .bad
  | some ds => if ds.length ≤ 1000000 then .ok (.val (.tuple ds)) s else .bad
def tupK (rs : List Rf) (s : Sg) : Res Rf := tupK2 s (owns rs s)
@[simp] theorem ev_oTup (g : AL) (s : Sg) : oTup g s = (g s).bind tupK := rfl
@[simp] theorem ev_tupK (rs : List Rf) (s : Sg) : tupK rs s = tupK2 s (owns rs s) := rfl
@[simp] theorem ev_tupK2 (s : Sg) (ds : List D) : tupK2 s (some ds) = if ds.length ≤ 1000000 then .ok (.val (.tuple ds)) s else .bad := rfl
def lstK2 (s : Sg) : Option (List D) → Res Rf
  | none => .bad
  | some ds => if ds.length ≤ 1000000 then .ok (.val (.list ds)) s else .bad
def lstK (rs : List Rf) (s : Sg) : Res Rf := lstK2 s (owns rs s)
@[simp] theorem ev_oLst (g : AL) (s : Sg) : oLst g s = (g s).bind lstK := rfl
@[simp] theorem ev_lstK (rs : List Rf) (s : Sg) : lstK rs s = lstK2 s (owns rs s) := rfl
@[simp] theorem ev_lstK2 (s : Sg) (ds : List D) : lstK2 s (some ds) = if ds.length ≤ 1000000 then .ok (.val (.list ds)) s else .bad := rfl
def prtK2 (s : Sg) : Option D → Res (Option Int)
  | some (.int i) => .ok (some i) s
  | _ => .bad
def prtK (r : Rf) (s : Sg) : Res (Option Int) := prtK2 s (rd r s)
@[simp] theorem ev_prt_none (s : Sg) : prt none s = .ok none s := rfl
@[simp] theorem ev_prt_some (g : O) (s : Sg) : prt (some g) s = (g s).bind prtK := rfl
@[simp] theorem ev_prtK (r : Rf) (s : Sg) : prtK r s = prtK2 s (rd r s) := rfl
@[simp] theorem ev_prtK2 (s : Sg) (i : Int) : prtK2 s (some (.int i)) = .ok (some i) s := rfl
def slK5 (s : Sg) : Option D → Res Rf
  | none => .bad
  | some d => .ok (.val d) s
def slK4 (l u : Option Int) (s : Sg) : Option D → Res Rf
  | none => .bad
  | some d => slK5 s (slD d l u)
def slK3 (r : Rf) (l u : Option Int) (s : Sg) : Res Rf := slK4 l u s (rd r s)
def slK2 (hi : Option O) (r : Rf) (l : Option Int) (s : Sg) : Res Rf := (prt hi s).bind (slK3 r l)
def slK1 (lo hi : Option O) (r : Rf) (s : Sg) : Res Rf := (prt lo s).bind (slK2 hi r)
@[simp] theorem ev_oSl (g : O) (lo hi : Option O) (s : Sg) : oSl g lo hi s = (g s).bind (slK1 lo hi) := by
  unfold oSl; refine congrArg (Res.bind _) ?_; funext r s1; unfold slK1; refine congrArg (Res.bind _) ?_; funext l s2; unfold slK2; refine congrArg (Res.bind _) ?_; funext u s3; unfold slK3 slK4
  cases rd r s3 with
  | none => rfl
  | some d => cases h : slD d l u <;> simp [h, slK5]
@[simp] theorem ev_slK1 (lo hi : Option O) (r : Rf) (s : Sg) : slK1 lo hi r s = (prt lo s).bind (slK2 hi r) := rfl
@[simp] theorem ev_slK2 (hi : Option O) (r : Rf) (l : Option Int) (s : Sg) : slK2 hi r l s = (prt hi s).bind (slK3 r l) := rfl
@[simp] theorem ev_slK3 (r : Rf) (l u : Option Int) (s : Sg) : slK3 r l u s = slK4 l u s (rd r s) := rfl
@[simp] theorem ev_slK4 (d : D) (l u : Option Int) (s : Sg) : slK4 l u s (some d) = slK5 s (slD d l u) := rfl
@[simp] theorem ev_slK5 (d : D) (s : Sg) : slK5 s (some d) = .ok (.val d) s := rfl
def callK3 (rs : List Rf) (ds : List D) (s : Sg) : FRes → Res Rf
  | .ok r as => .ok (.val r) (unlockS (lkz rs ds as) (lockS (lks rs ds) s))
  | .exc c v => .exc c v s
  | .bad => .bad
def callK2 (f : Fn) (rs : List Rf) (s : Sg) : Option (List D) → Res Rf
  | none => .bad
  | some ds => if nodupB ((lks rs ds).map (·.1)) = true then callK3 rs ds s (f ds) else .bad
def callK (f : Fn) (rs : List Rf) (s : Sg) : Res Rf := callK2 f rs s (rds rs s)
@[simp] theorem ev_oCall (f : Fn) (g : AL) (s : Sg) : oCall f g s = (g s).bind (callK f) := by
  unfold oCall; refine congrArg (Res.bind _) ?_; funext rs s1; unfold callK callK2
  cases rds rs s1 with
  | none => rfl
  | some ds =>
    simp only
    split
    · cases h : f ds <;> simp [h, callK3]
    · rfl
@[simp] theorem ev_callK (f : Fn) (rs : List Rf) (s : Sg) : callK f rs s = callK2 f rs s (rds rs s) := rfl
@[simp] theorem ev_callK2 (f : Fn) (rs : List Rf) (s : Sg) (ds : List D) : callK2 f rs s (some ds) = if nodupB ((lks rs ds).map (·.1)) = true then callK3 rs ds s (f ds) else .bad := rfl
@[simp] theorem ev_callK3 (rs : List Rf) (ds : List D) (s : Sg) (r : D) (as : List D) : callK3 rs ds s (.ok r as) = .ok (.val r) (unlockS (lkz rs ds as) (lockS (lks rs ds) s)) := rfl
@[simp] theorem lks_nil : lks [] [] = [] := rfl
@[simp] theorem lks_slot (i : Nat) (rs : List Rf) (d : D) (ds : List D) : lks (.slot i :: rs) (d :: ds) = if pur d = true then lks rs ds else (i, d) :: lks rs ds := rfl
@[simp] theorem lks_val (x : D) (rs : List Rf) (d : D) (ds : List D) : lks (.val x :: rs) (d :: ds) = lks rs ds := rfl
@[simp] theorem lkz_nil : lkz [] [] [] = [] := rfl
@[simp] theorem lkz_slot (i : Nat) (rs : List Rf) (d : D) (ds : List D) (a : D) (as : List D) : lkz (.slot i :: rs) (d :: ds) (a :: as) = if pur d = true then lkz rs ds as else (i, a) :: lkz rs ds as := rfl
@[simp] theorem lkz_val (x : D) (rs : List Rf) (d : D) (ds : List D) (a : D) (as : List D) : lkz (.val x :: rs) (d :: ds) (a :: as) = lkz rs ds as := rfl
@[simp] theorem lockS_nil (s : Sg) : lockS [] s = s := rfl
@[simp] theorem lockS_cons (p : Nat × D) (l : List (Nat × D)) (s : Sg) : lockS (p :: l) s = lockS l (s.set p.1 none) := rfl
@[simp] theorem unlockS_nil (s : Sg) : unlockS [] s = s := rfl
@[simp] theorem unlockS_cons (p : Nat × D) (l : List (Nat × D)) (s : Sg) : unlockS (p :: l) s = unlockS l (s.set p.1 (some p.2)) := rfl
@[simp] theorem nodupB_nil : nodupB [] = true := rfl
@[simp] theorem ev_nodupB (x : Nat) (l : List Nat) : nodupB (x :: l) = (!l.contains x && nodupB l) := rfl
@[simp] theorem clrS_nil (s : Sg) : clrS [] s = s := rfl
@[simp] theorem clrS_cons (v : Nat) (vs : List Nat) (s : Sg) : clrS (v :: vs) s = (clrS vs s).set v none := rfl
def ownSlK (v : Nat) (l : List (Nat × D)) : Option D → List (Nat × D)
  | some d => (v, d) :: l
  | none => l
@[simp] theorem ownSl_nil (s : Sg) : ownSl [] s = [] := rfl
@[simp] theorem ownSl_cons (v : Nat) (vs : List Nat) (s : Sg) : ownSl (v :: vs) s = ownSlK v (ownSl vs s) (s[v]?).join := by
  unfold ownSlK; rw [ownSl] <;> try (cases (s[v]?).join <;> rfl)
@[simp] theorem ownSlK_some (v : Nat) (l : List (Nat × D)) (d : D) : ownSlK v l (some d) = (v, d) :: l := rfl
@[simp] theorem ownSlK_none (v : Nat) (l : List (Nat × D)) : ownSlK v l none = l := rfl
def mtK4 (i : Nat) (s : Sg) : Option (List D × D) → Res Rf
  | some (ds', d) => if pur d = true then .ok (.val d) (s.set i (some (.list ds'))) else .bad
  | none => .bad
def mtK3 (f : List D → List D → Option (List D × D)) (i : Nat) (s : Sg) : Option D → Option (List D) → Res Rf
  | some (.list ds), some as => mtK4 i s (f ds as)
  | _, _ => .bad
def mtK2 (f : List D → List D → Option (List D × D)) (i : Nat) (rs : List Rf) (s : Sg) : Res Rf := mtK3 f i s (s[i]?).join (owns rs s)
def mtK1 (f : List D → List D → Option (List D × D)) (i : Nat) (g : AL) (s : Sg) : Option D → Res Rf
  | some (.list _) => (g s).bind (mtK2 f i)
  | _ => .bad
def mtK (f : List D → List D → Option (List D × D)) (i : Nat) (g : AL) (_ : Rf) (s : Sg) : Res Rf := mtK1 f i g s (s[i]?).join
@[simp] theorem ev_oMt (f : List D → List D → Option (List D × D)) (i : Nat) (g : AL) (s : Sg) : oMt f i g s = (oV i s).bind (mtK f i g) := by
  unfold oMt; refine congrArg (Res.bind _) ?_; funext r s1; unfold mtK
  cases h : (s1[i]?).join with
  | none => rfl
  | some d => cases d with
    | list ds =>
      refine congrArg (Res.bind (g s1)) ?_
      funext rs s2; unfold mtK2
      cases h1 : (s2[i]?).join with
      | none => rfl
      | some d2 => cases d2 with
        | list ds2 => cases h2 : owns rs s2 with
          | none => rfl
          | some as => cases hf : f ds2 as <;> simp [hf, mtK3, mtK4]
        | _ => rfl
    | _ => rfl
@[simp] theorem ev_mtK (f : List D → List D → Option (List D × D)) (i : Nat) (g : AL) (r : Rf) (s : Sg) : mtK f i g r s = mtK1 f i g s (s[i]?).join := rfl
@[simp] theorem ev_mtK1 (f : List D → List D → Option (List D × D)) (i : Nat) (g : AL) (ds : List D) (s : Sg) : mtK1 f i g s (some (.list ds)) = (g s).bind (mtK2 f i) := rfl
@[simp] theorem ev_mtK2 (f : List D → List D → Option (List D × D)) (i : Nat) (rs : List Rf) (s : Sg) : mtK2 f i rs s = mtK3 f i s (s[i]?).join (owns rs s) := rfl
@[simp] theorem ev_mtK3 (f : List D → List D → Option (List D × D)) (i : Nat) (s : Sg) (ds as : List D) : mtK3 f i s (some (.list ds)) (some as) = mtK4 i s (f ds as) := rfl
@[simp] theorem ev_mtK4 (i : Nat) (s : Sg) (ds : List D) (d : D) : mtK4 i s (some (ds, d)) = if pur d = true then .ok (.val d) (s.set i (some (.list ds))) else .bad := rfl
@[simp] theorem ev_sSkip (s : Sg) : sSkip s = .ok .nx s := rfl
@[simp] theorem ev_sBreak (s : Sg) : sBreak s = .ok .bk s := rfl
@[simp] theorem ev_sCont (s : Sg) : sCont s = .ok .ct s := rfl
@[simp] theorem ev_sRetN (s : Sg) : sRetN s = .ok (.rt .none) s := rfl
def seqK (h : S) (fl : Fl) (s : Sg) : Res Fl := match fl with
  | .nx => h s
  | fl => .ok fl s
@[simp] theorem ev_sSeq (g h : S) (s : Sg) : sSeq g h s = (g s).bind (seqK h) := rfl
@[simp] theorem ev_seqK_nx (h : S) (s : Sg) : seqK h .nx s = h s := rfl
@[simp] theorem ev_seqK_rt (h : S) (d : D) (s : Sg) : seqK h (.rt d) s = .ok (.rt d) s := rfl
@[simp] theorem ev_seqK_bk (h : S) (s : Sg) : seqK h .bk s = .ok .bk s := rfl
@[simp] theorem ev_seqK_ct (h : S) (s : Sg) : seqK h .ct s = .ok .ct s := rfl
def exprK (_ : Rf) (s : Sg) : Res Fl := .ok .nx s
@[simp] theorem ev_sExpr (g : O) (s : Sg) : sExpr g s = (g s).bind exprK := rfl
@[simp] theorem ev_exprK (r : Rf) (s : Sg) : exprK r s = .ok .nx s := rfl
def retK2 (lk : Nat → Bool) (i : Nat) (s : Sg) : Option D → Res Fl
  | none => .bad
  | some d => if pur d = true ∨ lk i = false then .ok (.rt d) s else .bad
def retK (lk : Nat → Bool) (r : Rf) (s : Sg) : Res Fl := match r with
  | .val d => .ok (.rt d) s
  | .slot i => retK2 lk i s (s[i]?).join
@[simp] theorem ev_sRet (lk : Nat → Bool) (g : O) (s : Sg) : sRet lk g s = (g s).bind (retK lk) := by
  unfold sRet; refine congrArg (Res.bind _) ?_; funext r s1; cases r <;> rfl
@[simp] theorem ev_retK_val (lk : Nat → Bool) (d : D) (s : Sg) : retK lk (.val d) s = .ok (.rt d) s := rfl
@[simp] theorem ev_retK_slot (lk : Nat → Bool) (i : Nat) (s : Sg) : retK lk (.slot i) s = retK2 lk i s (s[i]?).join := rfl
@[simp] theorem ev_retK2 (lk : Nat → Bool) (i : Nat) (s : Sg) (d : D) : retK2 lk i s (some d) = if pur d = true ∨ lk i = false then .ok (.rt d) s else .bad := rfl
def ifK (g h : S) (b : Bool) (s : Sg) : Res Fl := if b = true then g s else h s
@[simp] theorem ev_sIf (t : T) (g h : S) (s : Sg) : sIf t g h s = (t s).bind (ifK g h) := rfl
@[simp] theorem ev_ifK (g h : S) (b : Bool) (s : Sg) : ifK g h b s = if b = true then g s else h s := rfl
def asgK3 : Option Sg → Res Fl
  | none => .bad
  | some s => .ok .nx s
def asgK2 (t : Tg) (s : Sg) : Option D → Res Fl
  | none => .bad
  | some d => asgK3 (asg t d s)
def asgK (t : Tg) (r : Rf) (s : Sg) : Res Fl := asgK2 t s (own r s)
@[simp] theorem ev_sAsg (t : Tg) (g : O) (s : Sg) : sAsg t g s = (g s).bind (asgK t) := by
  unfold sAsg; refine congrArg (Res.bind _) ?_; funext r s1; unfold asgK asgK2
  cases own r s1 with
  | none => rfl
  | some d => cases h : asg t d s1 <;> simp [h, asgK3]
@[simp] theorem ev_sSet (i : Nat) (g : O) (s : Sg) : sSet i g s = (g s).bind (asgK (.nm i)) := ev_sAsg _ _ _
@[simp] theorem ev_asgK (t : Tg) (r : Rf) (s : Sg) : asgK t r s = asgK2 t s (own r s) := rfl
@[simp] theorem ev_asgK2 (t : Tg) (d : D) (s : Sg) : asgK2 t s (some d) = asgK3 (asg t d s) := rfl
@[simp] theorem ev_asgK3 (s : Sg) : asgK3 (some s) = .ok .nx s := rfl
@[simp] theorem asg_nm (i : Nat) (d : D) (s : Sg) : asg (.nm i) d s = some (s.set i (some d)) := by simp [asg]
@[simp] theorem asg_tp (l : List Tg) (ds : List D) (s : Sg) : asg (.tp l) (.tuple ds) s = asgs l ds s := by simp [asg]
@[simp] theorem asgs_nil (s : Sg) : asgs [] [] s = some s := by simp [asgs]
def asgsK (l : List Tg) (ds : List D) : Option Sg → Option Sg
  | none => none
  | some s => asgs l ds s
@[simp] theorem asgs_cons (t : Tg) (l : List Tg) (d : D) (ds : List D) (s : Sg) : asgs (t :: l) (d :: ds) s = asgsK l ds (asg t d s) := by
  rw [asgs]; unfold asgsK; cases asg t d s <;> rfl
@[simp] theorem asgsK_some (l : List Tg) (ds : List D) (s : Sg) : asgsK l ds (some s) = asgs l ds s := rfl
def ixK4 (i : Nat) (d : D) (ds : List D) (s : Sg) : Option Nat → Res Fl
  | none => .bad
  | some j => .ok .nx (s.set i (some (.list (ds.set j d))))
def ixK3 (i : Nat) (s : Sg) : Option D → Option D → Option D → Res Fl
  | some d, some (.int k), some (.list ds) => if pur d = true then ixK4 i d ds s (ixN ds.length k) else .bad
  | _, _, _ => .bad
def ixK2 (i : Nat) (r : Rf) (ri : Rf) (s : Sg) : Res Fl := ixK3 i s (own r s) (rd ri s) (s[i]?).join
def ixK1 (i : Nat) (gi : O) (r : Rf) (_ : Rf) (s : Sg) : Res Fl := (gi s).bind (ixK2 i r)
def ixK (i : Nat) (gi : O) (r : Rf) (s : Sg) : Res Fl := (oV i s).bind (ixK1 i gi r)
@[simp] theorem ev_sSetIx (i : Nat) (gi g : O) (s : Sg) : sSetIx i gi g s = (g s).bind (ixK i gi) := by
  unfold sSetIx; refine congrArg (Res.bind _) ?_; funext r s1; unfold ixK; refine congrArg (Res.bind _) ?_; funext r2 s2; unfold ixK1; refine congrArg (Res.bind _) ?_; funext ri s3; unfold ixK2
  cases h1 : own r s3 with
  | none => rfl
  | some d => cases h2 : rd ri s3 with
    | none => rfl
    | some k => cases k with
      | int k => cases h3 : (s3[i]?).join with
        | none => rfl
        | some ds => cases ds with
          | list ds => cases h4 : ixN ds.length k <;> simp [h4, ixK3, ixK4]
          | _ => rfl
      | _ => rfl
@[simp] theorem ev_ixK (i : Nat) (gi : O) (r : Rf) (s : Sg) : ixK i gi r s = (oV i s).bind (ixK1 i gi r) := rfl
@[simp] theorem ev_ixK1 (i : Nat) (gi : O) (r r2 : Rf) (s : Sg) : ixK1 i gi r r2 s = (gi s).bind (ixK2 i r) := rfl
@[simp] theorem ev_ixK2 (i : Nat) (r ri : Rf) (s : Sg) : ixK2 i r ri s = ixK3 i s (own r s) (rd ri s) (s[i]?).join := rfl
@[simp] theorem ev_ixK3 (i : Nat) (s : Sg) (d : D) (k : Int) (ds : List D) : ixK3 i s (some d) (some (.int k)) (some (.list ds)) = if pur d = true then ixK4 i d ds s (ixN ds.length k) else .bad := rfl
@[simp] theorem ev_ixK4 (i : Nat) (s : Sg) (d : D) (j : Nat) (ds : List D) : ixK4 i d ds s (some j) = .ok .nx (s.set i (some (.list (ds.set j d)))) := rfl
def mkK2 (fl : Fl) : Option (List D) → FRes
  | none => .bad
  | some as => match fl with
    | .nx => .ok .none as
    | .rt d => .ok d as
    | _ => .bad
def mkK (ms : List Nat) (ds : List D) : Res Fl → FRes
  | .ok fl s => mkK2 fl (coll ms ds 0 s)
  | .exc c v _ => .exc c v
  | .bad => .bad
theorem ev_mkFn (ms : List Nat) (n : Nat) (g : S) (ds : List D) : mkFn ms n g ds = if okM ms ds = true then mkK ms ds (g (ds.map some ++ List.replicate (n - ds.length) none)) else .bad := by
  unfold mkFn
  split
  · unfold mkK
    cases g (ds.map some ++ List.replicate (n - ds.length) none) with
    | ok fl s =>
      simp only
      cases h : coll ms ds 0 s with
      | none => simp [h, mkK2]
      | some as => cases fl <;> simp [h, mkK2]
    | exc c v s => rfl
    | bad => rfl
  · rfl
@[simp] theorem ev_mkK (ms : List Nat) (ds : List D) (fl : Fl) (s : Sg) : mkK ms ds (.ok fl s) = mkK2 fl (coll ms ds 0 s) := rfl
@[simp] theorem ev_mkK2_rt (d : D) (as : List D) : mkK2 (.rt d) (some as) = .ok d as := rfl
@[simp] theorem ev_mkK2_nx (as : List D) : mkK2 .nx (some as) = .ok .none as := rfl
@[simp] theorem coll_nil (j : Nat) (s : Sg) : coll [] [] j s = some [] := rfl
def collK0 (a : Option D) (b : Option (List D)) : Option (List D) := match b with
  | none => none
  | some as => match a with
    | none => none
    | some d' => some (d' :: as)
@[simp] theorem coll_0 (ms : List Nat) (d : D) (ds : List D) (j : Nat) (s : Sg) : coll (0 :: ms) (d :: ds) j s = collK0 (s[j]?).join (coll ms ds (j + 1) s) := by
  rw [coll]; unfold collK0; cases coll ms ds (j + 1) s <;> rfl
@[simp] theorem coll_1 (ms : List Nat) (d : D) (ds : List D) (j : Nat) (s : Sg) : coll (1 :: ms) (d :: ds) j s = collK0 (some d) (coll ms ds (j + 1) s) := by
  rw [coll]; unfold collK0; cases coll ms ds (j + 1) s <;> rfl
@[simp] theorem collK0_some (d : D) (as : List D) : collK0 (some d) (some as) = some (d :: as) := rfl
@[simp] theorem okM_nil : okM [] [] = true := rfl
@[simp] theorem okM_cons (m : Nat) (ms : List Nat) (d : D) (ds : List D) : okM (m :: ms) (d :: ds) = ((m == 0 || pur d) && okM ms ds) := rfl
def mkIK3 (rs : List Rf) (ds : List D) (s : Sg) : Option (List D) → Res (List D × List (Nat × D))
  | none => .bad
  | some es => if purs es = true ∧ nodupB ((lks rs ds).map (·.1)) = true then .ok (es, lks rs ds) (lockS (lks rs ds) s) else .bad
def mkIK2 (itm : List D → Option (List D)) (rs : List Rf) (s : Sg) : Option (List D) → Res (List D × List (Nat × D))
  | none => .bad
  | some ds => mkIK3 rs ds s (itm ds)
def mkIK (itm : List D → Option (List D)) (rs : List Rf) (s : Sg) : Res (List D × List (Nat × D)) := mkIK2 itm rs s (rds rs s)
@[simp] theorem ev_mkI (itm : List D → Option (List D)) (g : AL) (s : Sg) : mkI itm g s = (g s).bind (mkIK itm) := by
  unfold mkI; refine congrArg (Res.bind _) ?_; funext rs s1; unfold mkIK mkIK2
  cases rds rs s1 with
  | none => rfl
  | some ds => cases h : itm ds <;> simp [h, mkIK3]
@[simp] theorem ev_mkIK (itm : List D → Option (List D)) (rs : List Rf) (s : Sg) : mkIK itm rs s = mkIK2 itm rs s (rds rs s) := rfl
@[simp] theorem ev_mkIK2 (itm : List D → Option (List D)) (rs : List Rf) (s : Sg) (ds : List D) : mkIK2 itm rs s (some ds) = mkIK3 rs ds s (itm ds) := rfl
@[simp] theorem ev_mkIK3 (rs : List Rf) (ds : List D) (s : Sg) (es : List D) : mkIK3 rs ds s (some es) = if purs es = true ∧ nodupB ((lks rs ds).map (·.1)) = true then .ok (es, lks rs ds) (lockS (lks rs ds) s) else .bad := rfl
def forK2 (l : List (Nat × D)) (fl : Fl) (s : Sg) : Res Fl := .ok fl (unlockS l s)
def forK (lk : Nat → Bool) (t : Tg) (g : S) (p : List D × List (Nat × D)) (s : Sg) : Res Fl := if (p.2.all fun q => lk q.1) = true then (loopS t g p.1 s).bind (forK2 p.2) else .bad
@[simp] theorem ev_sFor (lk : Nat → Bool) (it : I) (t : Tg) (g : S) (s : Sg) : sFor lk it t g s = (it s).bind (forK lk t g) := rfl
@[simp] theorem ev_forK (lk : Nat → Bool) (t : Tg) (g : S) (es : List D) (l : List (Nat × D)) (s : Sg) : forK lk t g (es, l) s = if (l.all fun q => lk q.1) = true then (loopS t g es s).bind (forK2 l) else .bad := rfl
@[simp] theorem ev_forK2 (l : List (Nat × D)) (fl : Fl) (s : Sg) : forK2 l fl s = .ok fl (unlockS l s) := rfl
def compK2 (l : List (Nat × D)) (acc : List D) (s : Sg) : Res Rf := .ok (.val (.list acc)) (unlockS l s)
def compK (t : Tg) (c : T) (e : O) (vs : List Nat) (p : List D × List (Nat × D)) (s : Sg) : Res Rf :=
  if nodupB ((ownSl vs s).map (·.1)) = true then (compL t c e vs p.1 [] (clrS vs (lockS (ownSl vs s) s))).bind (compK2 (ownSl vs s ++ p.2)) else .bad
@[simp] theorem ev_oComp (it : I) (t : Tg) (c : T) (e : O) (vs : List Nat) (s : Sg) : oComp it t c e vs s = (it s).bind (compK t c e vs) := rfl
@[simp] theorem ev_compK (t : Tg) (c : T) (e : O) (vs : List Nat) (es : List D) (l : List (Nat × D)) (s : Sg) : compK t c e vs (es, l) s =
  if nodupB ((ownSl vs s).map (·.1)) = true then (compL t c e vs es [] (clrS vs (lockS (ownSl vs s) s))).bind (compK2 (ownSl vs s ++ l)) else .bad := rfl
@[simp] theorem ev_compK2 (l : List (Nat × D)) (acc : List D) (s : Sg) : compK2 l acc s = .ok (.val (.list acc)) (unlockS l s) := rfl
@[simp] theorem ev_tYes (s : Sg) : tYesT s = .ok true s := rfl
@[simp] theorem ev_add (a b : Int) : pAdd [.int a, .int b] = some (.int (a + b)) := rfl
@[simp] theorem ev_addL (a b : List D) : pAdd [.list a, .list b] = if a.length + b.length ≤ 1000000 ∧ purs a = true ∧ purs b = true then some (.list (a ++ b)) else none := rfl
@[simp] theorem ev_addT (a b : List D) : pAdd [.tuple a, .tuple b] = if a.length + b.length ≤ 1000000 ∧ purs a = true ∧ purs b = true then some (.tuple (a ++ b)) else none := rfl
@[simp] theorem ev_sub (a b : Int) : pSub [.int a, .int b] = some (.int (a - b)) := rfl
@[simp] theorem ev_mul (a b : Int) : pMul [.int a, .int b] = if mulOk a b = true then some (.int (a * b)) else none := rfl
@[simp] theorem ev_div (a b : Int) : pDiv [.int a, .int b] = if 0 < b ∧ b.natAbs.log2 < 9000 then some (.int (a / b)) else none := rfl
@[simp] theorem ev_mod (a b : Int) : pMod [.int a, .int b] = if 0 < b then some (.int (a % b)) else none := rfl
@[simp] theorem ev_pow (a b : Int) : pPow [.int a, .int b] = if 0 ≤ b ∧ b ≤ 1000000 ∧ a.natAbs < 2 ^ 64 then some (.int (a ^ b.toNat)) else none := rfl
@[simp] theorem ev_shl (a b : Int) : pShl [.int a, .int b] = if 0 ≤ b ∧ b ≤ 1000000 ∧ a.natAbs < 2 ^ 64 then some (.int (a * 2 ^ b.toNat)) else none := rfl
@[simp] theorem ev_neg (a : Int) : pNeg [.int a] = some (.int (-a)) := rfl
@[simp] theorem ev_lt (a b : Int) : pLt [.int a, .int b] = some (.bool (decide (a < b))) := rfl
@[simp] theorem ev_le (a b : Int) : pLe [.int a, .int b] = some (.bool (decide (a ≤ b))) := rfl
@[simp] theorem ev_gt (a b : Int) : pGt [.int a, .int b] = some (.bool (decide (b < a))) := rfl
@[simp] theorem ev_ge (a b : Int) : pGe [.int a, .int b] = some (.bool (decide (b ≤ a))) := rfl
@[simp] theorem ev_eq (a b : D) : pEq [a, b] = if shp a = true ∧ shp b = true then some (.bool (PyData.eqv a b)) else none := rfl
@[simp] theorem ev_ne (a b : D) : pNe [a, b] = if shp a = true ∧ shp b = true then some (.bool (!PyData.eqv a b)) else none := rfl
@[simp] theorem ev_isB (a b : Bool) : pIsN [.bool a, .bool b] = some (.bool (decide (a = b))) := rfl
@[simp] theorem ev_notB (a b : Bool) : pNotN [.bool a, .bool b] = some (.bool (!decide (a = b))) := rfl
@[simp] theorem ev_isN (a : D) : pIsN [a, .none] = some (.bool (isN a)) := rfl
@[simp] theorem ev_notN (a : D) : pNotN [a, .none] = some (.bool (!isN a)) := rfl
@[simp] theorem ev_inT (a : D) (b : List D) : pIn [a, .tuple b] = if pIn.fl a = true ∧ b.all pIn.fl = true then some (.bool (b.any fun z => PyData.eqv z a)) else none := by cases a <;> rfl
@[simp] theorem ev_ixL (ds : List D) (i : Int) : pIx [.list ds, .int i] = puO (atI ds i) := rfl
@[simp] theorem ev_ixT (ds : List D) (i : Int) : pIx [.tuple ds, .int i] = puO (atI ds i) := rfl
@[simp] theorem ev_ixF (ds : List D) (i : Int) : pIx [.dict [(.none, .list ds)], .int i] = puO (atI ds i) := rfl
@[simp] theorem ev_puO (d : D) : puO (some d) = if pur d = true then some d else none := rfl
@[simp] theorem ev_slL (ds : List D) (l u : Option Int) : slD (.list ds) l u = if purs ds = true then some (.list (cutL ds l u)) else none := rfl
@[simp] theorem ev_slT (ds : List D) (l u : Option Int) : slD (.tuple ds) l u = if purs ds = true then some (.tuple (cutL ds l u)) else none := rfl
@[simp] theorem ev_slF (ds : List D) (l u : Option Int) : slD (.dict [(.none, .list ds)]) l u = some (.list (cutL ds l u)) := rfl
@[simp] theorem ev_lenL (ds : List D) : pLen [.list ds] = some (.int ds.length) := rfl
@[simp] theorem ev_lenT (ds : List D) : pLen [.tuple ds] = some (.int ds.length) := rfl
@[simp] theorem ev_lenF (ds : List D) : pLen [.dict [(.none, .list ds)]] = some (.int ds.length) := rfl
@[simp] theorem ev_abs (i : Int) : pAbs [.int i] = some (.int (if i < 0 then -i else i)) := rfl
@[simp] theorem ev_intI (i : Int) : pInt [.int i] = some (.int i) := rfl
@[simp] theorem ev_intB (k : Bool) : pInt [.bool k] = some (.int (if k then 1 else 0)) := rfl
@[simp] theorem ev_max2 (i j : Int) : pMax2 [.int i, .int j] = some (.int (max i j)) := rfl
@[simp] theorem ev_min2 (i j : Int) : pMin2 [.int i, .int j] = some (.int (min i j)) := rfl
@[simp] theorem ev_tupL (ds : List D) : pTuple [.list ds] = if purs ds = true then some (.tuple ds) else none := rfl
@[simp] theorem ev_tupT (ds : List D) : pTuple [.tuple ds] = if purs ds = true then some (.tuple ds) else none := rfl
@[simp] theorem ev_lstL (ds : List D) : pList [.list ds] = if purs ds = true then some (.list ds) else none := rfl
@[simp] theorem ev_lstT (ds : List D) : pList [.tuple ds] = if purs ds = true then some (.list ds) else none := rfl
@[simp] theorem ev_divmod (i j : Int) : pDivmod [.int i, .int j] = if 0 < j ∧ j < 1000000 then some (.tuple [.int (i / j), .int (i % j)]) else none := rfl
@[simp] theorem bools_map {α : Type} (f : α → Bool) (l : List α) : bools (l.map fun a => .bool (f a)) = some (l.map f) := by
  induction l with
  | nil => rfl
  | cons a l ih => simp [bools, ih]
@[simp] theorem intsD_map {α : Type} (f : α → Int) (l : List α) : intsD (l.map fun a => .int (f a)) = some (l.map f) := by
  induction l with
  | nil => rfl
  | cons a l ih => simp [intsD, ih]
@[simp] theorem intsD_int (l : List Int) : intsD (l.map .int) = some l := by
  induction l with
  | nil => rfl
  | cons a l ih => simp [intsD, ih]
@[simp] theorem ev_all (ds : List D) : pAll [.list ds] = (bools ds).map fun bs => .bool (bs.all id) := rfl
@[simp] theorem ev_any (ds : List D) : pAny [.list ds] = (bools ds).map fun bs => .bool (bs.any id) := rfl
@[simp] theorem ev_sumL (ds : List D) : pSum [.list ds] = (intsD ds).map fun ns => .int ns.sum := rfl
@[simp] theorem ev_sumT (ds : List D) : pSum [.tuple ds] = (intsD ds).map fun ns => .int ns.sum := rfl
@[simp] theorem ev_itPL (ds : List D) : itP [.list ds] = some ds := rfl
@[simp] theorem ev_itPT (ds : List D) : itP [.tuple ds] = some ds := rfl
@[simp] theorem ev_itPF (ds : List D) : itP [.dict [(.none, .list ds)]] = some ds := rfl
@[simp] theorem ev_itEL (ds : List D) : itE [.list ds] = some (enumD 0 ds) := rfl
@[simp] theorem ev_itET (ds : List D) : itE [.tuple ds] = some (enumD 0 ds) := rfl
@[simp] theorem ev_itEF (ds : List D) : itE [.dict [(.none, .list ds)]] = some (enumD 0 ds) := rfl
@[simp] theorem purs_enumD (n : Nat) (ds : List D) : purs (enumD n ds) = purs ds := enumD_purs n ds
@[simp] theorem purs_rngD (lo : Int) (n : Nat) : purs (rngD lo n) = true := by unfold rngD; exact purs_map _ _
@[simp] theorem ev_itR1 (j : Int) : itR1 [.int j] = if -1000000 < j ∧ j < 1000000 then some (rngD 0 j.toNat) else none := rfl
@[simp] theorem ev_itR2 (i j : Int) : itR2 [.int i, .int j] = if -1000000 < i ∧ i < 1000000 ∧ -1000000 < j ∧ j < 1000000 then some (rngD i (j - i).toNat) else none := rfl
@[simp] theorem ev_itZLL (a b : List D) : itZ [.list a, .list b] = some (zipD a b) := rfl
@[simp] theorem ev_itZTT (a b : List D) : itZ [.tuple a, .tuple b] = some (zipD a b) := rfl
@[simp] theorem ev_itZLT (a b : List D) : itZ [.list a, .tuple b] = some (zipD a b) := rfl
@[simp] theorem ev_itZTL (a b : List D) : itZ [.tuple a, .list b] = some (zipD a b) := rfl
@[simp] theorem ev_mApp (ds : List D) (d : D) : mApp ds [d] = if ds.length < 1000000 then some (ds ++ [d], .none) else none := rfl
@[simp] theorem ev_isi (k : Kd) (d : D) : pIsi k [d] = if okD d = true then some (.bool (isK k d)) else none := rfl
@[simp] theorem lkM_eq (ms : List Nat) (i : Nat) : lkM ms i = (ms[i]? == some 0) := rfl
@[simp] theorem lkp_eq (is : List Nat) (lk : Nat → Bool) (i : Nat) : lkp is lk i = (is.contains i || lk i) := rfl
@[simp] theorem eqv_int (a b : Int) : PyData.eqv (.int a) (.int b) = decide (a = b) := by
  first | rfl | simp [PyData.eqv] | (unfold PyData.eqv; simp)
@[simp] theorem eqv_bool (a b : Bool) : PyData.eqv (.bool a) (.bool b) = decide (a = b) := by
  first | (cases a <;> cases b <;> rfl) | simp [PyData.eqv]
end Sim
namespace Sim
open PySem PySem.Spec L2
theorem lay_ints : ∀ ns : List Int, PyData.canLayAll0 (ns.map PyData.int) = true
  | [] => rfl
  | _ :: r => by simp [PyData.canLayAll0, PyData.canLay0, lay_ints r]
theorem depth_ints : ∀ ns : List Int, PyData.depthAll (ns.map PyData.int) = 0
  | [] => rfl
  | _ :: r => by simp [PyData.depthAll, PyData.depth, depth_ints r]
theorem noD_ints : ∀ ns : List Int, noDs (ns.map PyData.int) = true
  | [] => rfl
  | _ :: r => by simp [noDs, noD, noD_ints r]
@[simp] theorem shp_int (i : Int) : shp (.int i) = true := by simp [shp, SeqAt.shaped, PyData.canLay0, PyData.depth, noD]
@[simp] theorem shp_bool (i : Bool) : shp (.bool i) = true := by simp [shp, SeqAt.shaped, PyData.canLay0, PyData.depth, noD]
@[simp] theorem shp_tupI (ns : List Int) : shp (.tuple (ns.map PyData.int)) = true := by
  simp [shp, SeqAt.shaped, PyData.canLay0, PyData.depth, lay_ints, depth_ints, noD, noD_ints]
@[simp] theorem shp_lstI (ns : List Int) : shp (.list (ns.map PyData.int)) = true := by
  simp [shp, SeqAt.shaped, PyData.canLay0, PyData.depth, lay_ints, depth_ints, noD, noD_ints]
theorem eqvAll_ints : ∀ ns ms : List Int, PyData.eqvAll (ns.map PyData.int) (ms.map PyData.int) = decide (ns = ms)
  | [], [] => by simp [PyData.eqvAll]
  | [], _ :: _ => by simp [PyData.eqvAll]
  | _ :: _, [] => by simp [PyData.eqvAll]
  | a :: r, b :: t => by
    simp only [List.map_cons, PyData.eqvAll, eqv_int, eqvAll_ints r t]
    by_cases h : a = b <;> by_cases h' : r = t <;> simp [h, h']
@[simp] theorem eqv_tupI (ns ms : List Int) : PyData.eqv (.tuple (ns.map PyData.int)) (.tuple (ms.map PyData.int)) = decide (ns = ms) := by
  simp only [PyData.eqv]; exact eqvAll_ints ns ms
@[simp] theorem eqv_lstI (ns ms : List Int) : PyData.eqv (.list (ns.map PyData.int)) (.list (ms.map PyData.int)) = decide (ns = ms) := by
  simp only [PyData.eqv]; exact eqvAll_ints ns ms
@[simp] theorem cutL_to {α : Type} (xs : List α) (n : Nat) : cutL xs none (some (n : Int)) = xs.take n := by
  unfold cutL
  rw [HT.sIx_nat, HT.sIx_none, Nat.sub_zero, List.drop_zero]
  rcases Nat.le_total n xs.length with h | h
  · rw [Nat.min_eq_left h]
  · rw [Nat.min_eq_right h, List.take_length, List.take_of_length_le h]
@[simp] theorem cutL_from {α : Type} (xs : List α) (n : Nat) : cutL xs (some (n : Int)) none = xs.drop n := by
  unfold cutL
  rw [HT.sIx_nat, HT.sIx_none]
  rcases Nat.le_total n xs.length with h | h
  · rw [Nat.min_eq_left h, List.take_of_length_le (by simp)]
  · rw [Nat.min_eq_right h, Nat.sub_self, List.take_zero, List.drop_of_length_le h]
/-- a number's length in bits is small -/
theorem log2_lt {n : Nat} {k : Nat} (h : n < 2 ^ k) (hk : 0 < k) : n.log2 < k := by
  by_cases h0 : n = 0
  · subst h0; simpa using hk
  · exact (Nat.log2_lt h0).mpr h
theorem mulOk_l {a b : Int} (h1 : -(2 ^ 64) < a) (h2 : a < 2 ^ 64) : mulOk a b = true := by unfold mulOk; simp only [decide_eq_true h1, decide_eq_true h2, Bool.and_self, Bool.true_or, Bool.or_true]
theorem mulOk_r {a b : Int} (h1 : -(2 ^ 64) < b) (h2 : b < 2 ^ 64) : mulOk a b = true := by unfold mulOk; simp only [decide_eq_true h1, decide_eq_true h2, Bool.and_self, Bool.true_or, Bool.or_true]
@[simp] theorem loop_nil (t : Tg) (g : S) (s : Sg) : loopS t g [] s = .ok .nx s := rfl
def loopK2 (t : Tg) (g : S) (ds : List D) (fl : Fl) (s : Sg) : Res Fl := match fl with
  | .nx => loopS t g ds s
  | .ct => loopS t g ds s
  | .bk => .ok .nx s
  | .rt d => .ok (.rt d) s
def loopK1 (t : Tg) (g : S) (ds : List D) : Option Sg → Res Fl
  | none => .bad
  | some s => (g s).bind (loopK2 t g ds)
@[simp] theorem loop_cons (t : Tg) (g : S) (d : D) (ds : List D) (s : Sg) : loopS t g (d :: ds) s = loopK1 t g ds (asg t d s) := by
  rw [loopS]; dsimp only; unfold loopK1; cases asg t d s <;> rfl
@[simp] theorem loopK1_some (t : Tg) (g : S) (ds : List D) (s : Sg) : loopK1 t g ds (some s) = (g s).bind (loopK2 t g ds) := rfl
@[simp] theorem loopK2_nx (t : Tg) (g : S) (ds : List D) (s : Sg) : loopK2 t g ds .nx s = loopS t g ds s := rfl
@[simp] theorem loopK2_ct (t : Tg) (g : S) (ds : List D) (s : Sg) : loopK2 t g ds .ct s = loopS t g ds s := rfl
@[simp] theorem loopK2_bk (t : Tg) (g : S) (ds : List D) (s : Sg) : loopK2 t g ds .bk s = .ok .nx s := rfl
@[simp] theorem loopK2_rt (t : Tg) (g : S) (ds : List D) (d : D) (s : Sg) : loopK2 t g ds (.rt d) s = .ok (.rt d) s := rfl
@[simp] theorem comp_nil (t : Tg) (c : T) (e : O) (vs : List Nat) (acc : List D) (s : Sg) : compL t c e vs [] acc s = .ok acc s := rfl
def cmK5 (t : Tg) (c : T) (e : O) (vs : List Nat) (ds acc : List D) (s : Sg) : Option D → Res (List D)
  | none => .bad
  | some y => if acc.length < 1000000 then compL t c e vs ds (acc ++ [y]) (clrS vs s) else .bad
def cmK4 (t : Tg) (c : T) (e : O) (vs : List Nat) (ds acc : List D) (r : Rf) (s : Sg) : Res (List D) := cmK5 t c e vs ds acc s (own r s)
def cmK3 (t : Tg) (c : T) (e : O) (vs : List Nat) (ds acc : List D) (b : Bool) (s : Sg) : Res (List D) := if b = true then (e s).bind (cmK4 t c e vs ds acc) else compL t c e vs ds acc (clrS vs s)
def cmK1 (t : Tg) (c : T) (e : O) (vs : List Nat) (ds acc : List D) : Option Sg → Res (List D)
  | none => .bad
  | some s => (c s).bind (cmK3 t c e vs ds acc)
@[simp] theorem comp_cons (t : Tg) (c : T) (e : O) (vs : List Nat) (d : D) (ds acc : List D) (s : Sg) : compL t c e vs (d :: ds) acc s = cmK1 t c e vs ds acc (asg t d s) := by
  rw [compL]; unfold cmK1
  cases asg t d s with
  | none => rfl
  | some s1 =>
    simp only
    refine congrArg (Res.bind _) ?_
    funext b s2
    unfold cmK3
    split
    · refine congrArg (Res.bind _) ?_
      funext r s3
      unfold cmK4 cmK5
      cases own r s3 <;> rfl
    · rfl
@[simp] theorem cmK1_some (t : Tg) (c : T) (e : O) (vs : List Nat) (ds acc : List D) (s : Sg) : cmK1 t c e vs ds acc (some s) = (c s).bind (cmK3 t c e vs ds acc) := rfl
@[simp] theorem cmK3_eq (t : Tg) (c : T) (e : O) (vs : List Nat) (ds acc : List D) (b : Bool) (s : Sg) : cmK3 t c e vs ds acc b s = if b = true then (e s).bind (cmK4 t c e vs ds acc) else compL t c e vs ds acc (clrS vs s) := rfl
@[simp] theorem cmK4_eq (t : Tg) (c : T) (e : O) (vs : List Nat) (ds acc : List D) (r : Rf) (s : Sg) : cmK4 t c e vs ds acc r s = cmK5 t c e vs ds acc s (own r s) := rfl
@[simp] theorem cmK5_some (t : Tg) (c : T) (e : O) (vs : List Nat) (ds acc : List D) (s : Sg) (y : D) : cmK5 t c e vs ds acc s (some y) = if acc.length < 1000000 then compL t c e vs ds (acc ++ [y]) (clrS vs s) else .bad := rfl
/-- one item of a comprehension, then the rest -/
theorem comp_one {t : Tg} {c : T} {e : O} {vs : List Nat} {d : D} {ds acc l : List D} {s s' : Sg} (h : compL t c e vs [d] [] s = .ok l s') (ha : acc.length < 1000000) : compL t c e vs (d :: ds) acc s = compL t c e vs ds (acc ++ l) s' ∧ l.length ≤ 1 := by
  rw [comp_cons] at h ⊢
  cases h1 : asg t d s with
  | none => rw [h1] at h; cases h
  | some s1 =>
    rw [h1, cmK1_some] at h
    rw [cmK1_some]
    cases h2 : c s1 with
    | ok b s2 =>
      rw [h2, ev_ok, cmK3_eq] at h
      rw [ev_ok, cmK3_eq]
      cases b with
      | false =>
        simp only [Bool.false_eq_true, if_false, comp_nil] at h ⊢
        cases h
        exact ⟨by rw [List.append_nil], Nat.zero_le _⟩
      | true =>
        simp only [if_true] at h ⊢
        cases h3 : e s2 with
        | ok r s3 =>
          rw [h3, ev_ok, cmK4_eq] at h
          rw [ev_ok, cmK4_eq]
          cases h4 : own r s3 with
          | none => rw [h4] at h; cases h
          | some y =>
            rw [h4, cmK5_some] at h
            rw [cmK5_some, if_pos ha]
            simp only [List.length_nil, Nat.zero_lt_succ, if_true, List.nil_append, comp_nil] at h
            cases h
            exact ⟨rfl, Nat.le_refl _⟩
        | exc _ _ _ => rw [h3] at h; cases h
        | bad => rw [h3] at h; cases h
    | exc _ _ _ => rw [h2] at h; cases h
    | bad => rw [h2] at h; cases h
theorem comp_map {α : Type} {t : Tg} {c : T} {e : O} {vs : List Nat} {s : Sg} (f : α → D) (G : α → D) (l : List α) (h : ∀ a, a ∈ l → compL t c e vs [f a] [] s = .ok [G a] s) (hl : l.length ≤ 1000000) : compL t c e vs (l.map f) [] s = .ok (l.map G) s := by
  have key : ∀ (l : List α) (acc : List D), (∀ a, a ∈ l → compL t c e vs [f a] [] s = .ok [G a] s) → acc.length + l.length ≤ 1000000 → compL t c e vs (l.map f) acc s = .ok (acc ++ l.map G) s := by
    intro l
    induction l with
    | nil => intro acc _ _; simp
    | cons a l ih =>
      intro acc h hl
      rw [List.length_cons] at hl
      obtain ⟨h1, _⟩ := comp_one (ds := l.map f) (h a (List.mem_cons_self ..)) (acc := acc) (by omega)
      rw [List.map_cons, h1, ih _ (fun a ha => h a (List.mem_cons_of_mem _ ha)) (by rw [List.length_append, List.length_singleton]; omega), List.map_cons]
      simp
  simpa using key l [] h (by simpa using hl)
end Sim
namespace Sim
open PySem PySem.Spec L2
theorem for_ok {lk : Nat → Bool} {it : I} {t : Tg} {g : S} {s s1 s2 : Sg} {es : List D} {l : List (Nat × D)} {fl : Fl} (h1 : it s = .ok (es, l) s1) (h2 : (l.all fun q => lk q.1) = true) (h3 : loopS t g es s1 = .ok fl s2) : sFor lk it t g s = .ok fl (unlockS l s2) := by
  rw [ev_sFor, h1, ev_ok, ev_forK, if_pos h2, h3]; rfl
theorem mkFn_rt {ms : List Nat} {n : Nat} {g : S} {ds as : List D} {r : D} {s : Sg} (h1 : okM ms ds = true) (h2 : g (ds.map some ++ List.replicate (n - ds.length) none) = .ok (.rt r) s) (h3 : coll ms ds 0 s = some as) : mkFn ms n g ds = .ok r as := by
  rw [ev_mkFn, if_pos h1, h2, ev_mkK, h3]; rfl
theorem mkFn_nx {ms : List Nat} {n : Nat} {g : S} {ds as : List D} {s : Sg} (h1 : okM ms ds = true) (h2 : g (ds.map some ++ List.replicate (n - ds.length) none) = .ok .nx s) (h3 : coll ms ds 0 s = some as) : mkFn ms n g ds = .ok .none as := by
  rw [ev_mkFn, if_pos h1, h2, ev_mkK, h3]; rfl
theorem oCall_ok {f : Fn} {g : AL} {s s1 : Sg} {rs : List Rf} {ds as : List D} {r : D} (h1 : g s = .ok rs s1) (h2 : rds rs s1 = some ds) (h3 : nodupB ((lks rs ds).map (·.1)) = true) (h4 : f ds = .ok r as) : oCall f g s = .ok (.val r) (unlockS (lkz rs ds as) (lockS (lks rs ds) s1)) := by
  rw [ev_oCall, h1, ev_ok, ev_callK, h2, ev_callK2, if_pos h3, h4]; rfl
@[simp] theorem purs_takeI (A : List Int) (n : Nat) : purs (List.take n (A.map PyData.int)) = true := by rw [← List.map_take]; exact purs_ints _
@[simp] theorem purs_dropI (A : List Int) (n : Nat) : purs (List.drop n (A.map PyData.int)) = true := by rw [← List.map_drop]; exact purs_ints _
end Sim
namespace Sim
open PySem PySem.Spec L2
section
open PyProof.Rows
variable {prog : Program} {w : World} {A : Around} {E : Value → Shared → Prop} {s : Shared}
end
section
variable [Tb] [Vs] {K : PySem.W.Frag} {H : Hp}
variable {X : Cx} {a : Expr} {ga : O} {pos p2 : Pos}
variable {b : Expr} {p pos2 : Pos} {gb : O}
end
end Sim
namespace SimSrt
open PySem PyProof.Rows Srt SrtO
section
variable {prog : Program} {w : World} {A : Around} {E : Value → Shared → Prop} {s : Shared}
end
end SimSrt
namespace Sim
open PySem PySem.Spec L2
end Sim
namespace Sim
open PySem PySem.Spec L2
section
variable [Tb] [Vs] {X : Cx}
variable {o e : Expr} {es : List Expr} {to : TE} {t : TA} {name : Str} {apos cpos : Pos} {T id : String} {r : V → List V → Hp → VK → Prop}
end
section
variable [Tb] [Vs] {X : Cx} {lk : Nat → Bool}
end
end Sim
namespace Sim
open PySem PySem.Spec L2
section
variable [Tb] [Vs] {K : PySem.W.Frag} {H : Hp} {s : Sg} {σ : St} {Fs : Fp} {lk : Nat → Bool}
theorem Rfs.off {rs : List Rf} {vs : List V} {Gs : List (List Addr)} (r : Rfs K H σ Fs rs vs Gs) : ∀ G, G ∈ Gs → ∀ i a, a ∈ Fs i → a ∉ G := by
  induction r with
  | nil => intro G h; cases h
  | val A _ _ ih =>
    intro G h i a ha
    rcases List.mem_cons.mp h with rfl | h
    · exact A.dis i a ha
    · exact ih G h i a ha
  | slot _ _ ih =>
    intro G h i a ha
    rcases List.mem_cons.mp h with rfl | h
    · intro z; cases z
    · exact ih G h i a ha
end
section
variable [Tb] [Vs] {X : Cx} {lk : Nat → Bool} {pos p2 : Pos} {es : List Expr} {g : AL} {x1 : Nat}
end
end Sim
namespace Sim
open PySem PySem.Spec L2
section
open PySem.Calls PySem.NumText PyProof.Rows
section
variable {M : Model} {A : Around} {E : Value → Shared → Prop} {s : Shared}
end
@[irreducible] def tenN (n : Nat) : Int := ((10 ^ n : Nat) : Int)
end
def repS (a : Str) (n : Int) : Str := ⟨(List.replicate n.toNat a.cps).foldl (· ++ ·) #[]⟩
def pMulS : List D → Option D
  | [.str a, .int b] => if a.length = 1 ∧ 2 ≤ b ∧ b ≤ 100000 then some (.str (repS a b)) else none
  | _ => none
section
variable {X : Cx}
theorem op_mulS : OpR X (binaryOp .Mult) (fun x y H Q => ∃ a n, x = .str a ∧ y = .int n ∧ a.length = 1 ∧ 2 ≤ n ∧ n ≤ 100000 ∧ Q (.str (repS a n)) H) := by
  intro pins s σ H x y v u Q I rx ry h
  obtain ⟨a, n, rfl, rfl, ha, h1, h2, q⟩ := h
  obtain ⟨t, rfl⟩ := rx
  obtain ⟨t2, rfl⟩ := ry
  have c0 : (decide (n < -(2 ^ 63 : Int)) || decide (n ≥ 2 ^ 63)) = false := by
    rw [decide_eq_false (by omega), decide_eq_false (by omega)] <;> rfl
  have c1 : (n == 1 || a.length == 0) = false := by
    rw [ha]
    simp
    omega
  have len : ∀ (k : Nat) (acc : Array Nat), ((List.replicate k a.cps).foldl (· ++ ·) acc).size = acc.size + k := by
    intro k
    induction k with
    | zero => intro acc; rfl
    | succ k ih =>
      intro acc
      rw [List.replicate_succ, List.foldl_cons, ih, Array.size_append]
      have : a.cps.size = 1 := ha
      omega
  have hz : (repS a n).length ≤ sizeLine := by
    show ((List.replicate n.toNat a.cps).foldl (· ++ ·) #[]).size ≤ sizeLine
    rw [len, sizeLine_eq]
    simp
    omega
  refine P.mul_str c0 (fun _ _ => ?_) (fun _ _ => ?_) ?_
  · rw [ha]
    have : (1 : Int) ≤ (2 ^ 63 - 1) / n := by
      rw [Int.le_ediv_iff_mul_le (by omega)]
      omega
    omega
  · rw [ha]
    unfold Builtin.Str.tooLong
    rw [sizeLine_eq]
    exact decide_eq_false (by omega)
  · rw [if_neg (by omega), if_neg (by rw [c1]; exact Bool.false_ne_true)]
    exact ⟨hz, .str (repS a n), H, I.tok _, ⟨_, rfl⟩, q⟩
theorem pr_mulS {K : PySem.W.Frag} : PrimR K (u2 fun x y H Q => ∃ a n, x = .str a ∧ y = .int n ∧ a.length = 1 ∧ 2 ≤ n ∧ n ≤ 100000 ∧ Q (.str (repS a n)) H) pMulS := by
  intro vs ds d H Q h e q
  unfold pMulS at e
  split at e
  · obtain ⟨x, y, F, G, rfl, o1, o2⟩ := h.two
    split at e
    · rename_i hc
      cases e
      cases o1
      cases o2
      exact ⟨_, _, rfl, rfl, hc.1, hc.2.1, hc.2.2, q _ _ (.sc (.str _))⟩
    · cases e
  · cases e
open PySem.Calls PySem.NumText PyProof.Rows in
end
end Sim
namespace Sim
open PySem PySem.Spec L2
section
variable [Tb] [Vs] {X : Cx} {K : PySem.W.Frag} {lk : Nat → Bool}
end
end Sim
namespace Sim
open PySem PySem.Spec L2
section
variable {K : PySem.W.Frag} {H : Hp}
end
section
variable [Tb] [Vs] {X : Cx}
end
end Sim
namespace Sim
open PySem PySem.Spec L2
open Sem (wp)
section
variable {prog : Program} {w : World} {A : Around} {E : Value → Shared → Prop} {s : Shared} {z TI TO i1 i2 : Addr} {fp1 fp2 : List Addr} {n1 n2 i : Nat} {P1 P2 : Nat → Value → Prop} {St1 St2 : Nat → Heap → Prop} {a1 a2 : Value} {f : Value} {b : Bool}
end
end Sim
namespace Sim
open PySem PySem.Spec L2
open Sem (wp)
end Sim
namespace Sim
open PySem PySem.Spec L2
open Sem (wp)
section
variable {prog : Program} {w : World} {A : Around} {E : Value → Shared → Prop} {k l : Bool} {z TI TO i1 i2 a b S : Addr} {xs ys : Array Value} {n0 : Nat}
/-- all but these stands -/
def KeepBut (fp : List Addr) (s s' : Shared) : Prop := (∀ c o, c ∉ fp → s.heap.get? c = some o → s'.heap.get? c = some o) ∧ s'.gens = s.gens ∧ s'.drawn = s.drawn ∧ s'.os = s.os
theorem KeepBut.trans {fp : List Addr} {s s' s'' : Shared} (h : KeepBut fp s s') (h' : KeepBut fp s' s'') : KeepBut fp s s'' :=
  ⟨fun c o q e => h'.1 c o q (h.1 c o q e), h'.2.1.trans h.2.1, h'.2.2.1.trans h.2.2.1, h'.2.2.2.trans h.2.2.2⟩
end
end Sim
namespace Sim
open PySem PySem.Spec L2 PySem.SeqAt
mutual
def flat : D → List Int
  | .int i => [i]
  | .tuple ds => flats ds
  | _ => []
def flats : List D → List Int
  | [] => []
  | d :: ds => flat d ++ flats ds
end
mutual
/-- of one shape, numbers within -/
def alike : D → D → Bool
  | .int _, .int _ => true
  | .tuple ds, .tuple es => alikes ds es
  | _, _ => false
def alikes : List D → List D → Bool
  | [], [] => true
  | d :: ds, e :: es => alike d e && alikes ds es
  | _, _ => false
end
mutual
/-- how deep, 0 a number -/
def deepD : D → Nat
  | .tuple ds => 1 + deepsD ds
  | _ => 0
def deepsD : List D → Nat
  | [] => 0
  | d :: ds => max (deepD d) (deepsD ds)
end
mutual
def Rn (h : Heap) : D → Value → Prop
  | .int i, v => ∃ t, v = .int i t
  | .tuple ds, v => ∃ a o xs n, v = .ref a ∧ h.get? a = some o ∧ o.cls = .type "tuple" ∧ o.data = .seq xs n ∧ Rns h ds xs.toList
  | _, _ => False
def Rns (h : Heap) : List D → List Value → Prop
  | [], [] => True
  | d :: ds, v :: vs => Rn h d v ∧ Rns h ds vs
  | _, _ => False
end
theorem Rns.len : ∀ {h : Heap} {ds : List D} {vs : List Value}, Rns h ds vs → vs.length = ds.length
  | _, [], [], _ => rfl
  | _, d :: ds, v :: vs, r => congrArg (· + 1) (Rns.len r.2)
  | _, [], _ :: _, r => r.elim
  | _, _ :: _, [], r => r.elim
/-- keeps all tuples -/
def KeepT (h h' : Heap) : Prop := ∀ b o, h.get? b = some o → o.cls = .type "tuple" → h'.get? b = some o
mutual
theorem Rn.keep {h h' : Heap} (k : KeepT h h') : ∀ {d : D} {v : Value}, Rn h d v → Rn h' d v
  | .int _, _, r => r
  | .tuple ds, _, ⟨a, o, xs, n, e, ho, hc, hd, r⟩ => ⟨a, o, xs, n, e, k a o ho hc, hc, hd, Rns.keep k r⟩
  | .none, _, r | .bool _, _, r | .str _, _, r | .list _, _, r | .dict _, _, r => r.elim
theorem Rns.keep {h h' : Heap} (k : KeepT h h') : ∀ {ds : List D} {vs : List Value}, Rns h ds vs → Rns h' ds vs
  | [], [], _ => trivial
  | _ :: _, _ :: _, r => ⟨Rn.keep k r.1, Rns.keep k r.2⟩
  | [], _ :: _, r => r.elim
  | _ :: _, [], r => r.elim
end
mutual
theorem Rn.inj {h : Heap} : ∀ {d d' : D} {v : Value}, Rn h d v → Rn h d' v → d = d'
  | .int i, d', v, ⟨t, e⟩, r' => by
    subst e
    cases d' with
    | int j => obtain ⟨u, e⟩ := r'; cases e; rfl
    | tuple es => obtain ⟨a, o, xs, n, e, _⟩ := r'; cases e
    | _ => exact r'.elim
  | .tuple ds, d', v, ⟨a, o, xs, n, e, ho, hc, hd, r⟩, r' => by
    subst e
    cases d' with
    | int j => obtain ⟨u, e⟩ := r'; cases e
    | tuple es =>
      obtain ⟨a', o', xs', n', e', ho', hc', hd', r'⟩ := r'
      cases e'
      rw [ho] at ho'
      cases ho'
      rw [hd] at hd'
      cases hd'
      rw [Rns.inj r r']
    | _ => exact r'.elim
  | .none, _, _, r, _ | .bool _, _, _, r, _ | .str _, _, _, r, _ | .list _, _, _, r, _ | .dict _, _, _, r, _ => r.elim
theorem Rns.inj {h : Heap} : ∀ {ds ds' : List D} {vs : List Value}, Rns h ds vs → Rns h ds' vs → ds = ds'
  | [], [], _, _, _ => rfl
  | d :: ds, d' :: ds', v :: vs, r, r' => by rw [Rn.inj r.1 r'.1, Rns.inj r.2 r'.2]
  | [], _ :: _, [], _, r' => r'.elim
  | [], _ :: _, _ :: _, r, _ => r.elim
  | _ :: _, [], [], r, _ => r.elim
  | _ :: _, [], _ :: _, _, r' => r'.elim
  | _ :: _, _ :: _, [], r, _ => r.elim
end
theorem Rns.at {h : Heap} : ∀ {ds : List D} {vs : List Value}, Rns h ds vs → ∀ (j : Nat) (l : j < vs.length) (l2 : j < ds.length), Rn h ds[j] vs[j]
  | d :: ds, v :: vs, r, 0, _, _ => r.1
  | d :: ds, v :: vs, r, j + 1, l, l2 => Rns.at r.2 j (by simpa using l) (by simpa using l2)
  | [], [], _, _, l, _ => absurd l (by simp)
  | [], _ :: _, r, _, _, _ => r.elim
  | _ :: _, [], r, _, _, _ => r.elim
section
variable {prog : Program} {w : World} {A : Around} {s : Shared}
end
end Sim
namespace Sim
open PySem PySem.Spec L2 PySem.SeqAt SrtO
section
variable {prog : Program} {w : World} {A : Around} {s : Shared}
end
section
variable {α : Type}
end
/-- what can be sorted so: tuples, not empty, of one shape, not deep -/
def okN : List D → Bool
  | [] => true
  | d :: ds => (match d with | .tuple (_ :: _) => true | _ => false) && decide (deepD d ≤ 8) && (d :: ds).all fun e => alike d e
section
variable {X : Cx} {pins : List (Addr × Obj)} {σ : St} {H : Hp} {s : Shared}
theorem OwnA.at1 {K : PySem.W.Frag} {H : Hp} : ∀ {ds : List D} {vs : List V}, OwnA K H ds vs [] → ∀ (us : List Value), Vals vs us → ∀ u ∈ us, ∃ d ∈ ds, ∃ v, RelV v u ∧ Own K H d v []
  | [], _, h, us, r, u, hu => by
    cases h
    cases r
    cases hu
  | d :: ds, v :: vs, h, _, r, u, hu => by
    obtain ⟨o1, o2⟩ := OwnA.nil2 h
    cases r with
    | cons r1 r2 =>
      rcases List.mem_cons.mp hu with rfl | hu
      · exact ⟨d, List.mem_cons_self .., v, r1, o1⟩
      · obtain ⟨d', m, v', r', o'⟩ := OwnA.at1 o2 _ r2 u hu
        exact ⟨d', List.mem_cons_of_mem _ m, v', r', o'⟩
open Classical in
end
end Sim
namespace Sim
open PySem PySem.Spec L2 PySem.SeqAt SrtO
section
variable {X : Cx} {pins : List (Addr × Obj)} {σ : St} {H : Hp} {s : Shared}
end
section
variable {k l : Bool} {a b : Addr} {xs ys : Array Value}
end
end Sim
namespace Sim
open PySem PySem.Spec L2 PySem.SeqAt SrtO
section
variable {prog : Program} {w : World} {A : Around} {E : Value → Shared → Prop} {s : Shared} {k l : Bool} {z TI TO i1 i2 a b : Addr} {xs ys : Array Value}
end
end Sim
namespace Sim
open PySem PySem.Spec L2 PySem.SeqAt SrtO
def seqLT : D → Option (List D)
  | .list ds => some ds
  | .tuple ds => some ds
  | .dict [(.none, .list ds)] => some ds
  | _ => none
section
variable {X : Cx} {e e2 : Expr} {ta : TA} {p pos p2 pos2 : Pos}
end
end Sim
namespace Sim
open PySem PySem.Spec L2 PySem.SeqAt SrtO
section
variable [Tb] [Vs] {X : Cx} {e e2 : Expr} {ta : TA} {p pos p2 pos2 : Pos}
variable {g : AL}
end
end Sim
namespace Sim
open PySem PySem.Spec L2
section
variable [Tb] [Vs] {X : Cx}
theorem so_globI {x : Str} {i : Int} {t : Tok} {pos : Pos} (hg : Gl X x) (hm : X.mg x = some (.int i t)) (hd : (x == ("__debug__" : Str)) = false := by decide) : SimO X (.Name x pos) (oC (.int i)) :=
  pe_imp (pe_glob (v := .int i) hg hm ⟨t, rfl⟩ hd) fun _ _ _ h => tO_c (fun _ => .int i) h
theorem so_globS {x : Str} {i : Str} {t : Tok} {pos : Pos} (hg : Gl X x) (hm : X.mg x = some (.str i t)) (hd : (x == ("__debug__" : Str)) = false := by decide) : SimO X (.Name x pos) (oC (.str i)) :=
  pe_imp (pe_glob (v := .str i) hg hm ⟨t, rfl⟩ hd) fun _ _ _ h => tO_c (fun _ => .str i) h
end
end Sim
namespace Sim
open PySem PySem.Spec L2
def dd : List Int → List Int
  | [] => []
  | x :: xs => if x ∈ xs then dd xs else x :: dd xs
section
variable [Tb] [Vs] {X : Cx} {a : Expr} {ta : TA} {p p2 q pos : Pos}
variable {ga : AL}
end
end Sim
namespace Sim
open PySem PySem.Spec L2
section
variable {X : Cx}
end
end Sim
namespace Sim
open PySem PySem.Spec L2
structure FnOkG (P : Program) (w : World) (K : PySem.W.Frag) (mg : Str → Option Value) (base : Heap) (k : Nat) (f : Addr) (fd : FuncData) (ps : List Str) (sp : Sp) : Prop where
  len : ∀ vs H Q E, sp vs H Q E → vs.length = ps.length
  run : ∀ (A : Around) (outer : List Env) (s : Shared) (H : Hp) (args : Args) (us : List Value) (vs : List V) (Q : VK) (E : XK), A.guards = some [] → Room k A → Env0 P w K mg base A outer s H →
    BindsTo s fd args (ps.zip us) → Vals vs us → sp vs H Q E → codeAny (model P w) A (.call (.ref f) args) (CR CX0 outer P w H s Q E) s
theorem FnOkG.of {P : Program} {w : World} {K : PySem.W.Frag} {mg : Str → Option Value} {base : Heap} {k : Nat} {f : Addr} {fd : FuncData} {ps : List Str} {sp : Sp} (F : FnOk P w K mg base CX0 k f fd ps sp) : FnOkG P w K mg base k f fd ps sp :=
  ⟨F.len, fun A outer s H args us vs Q E _ hr e0 hb r h => F.run A outer s H args us vs Q E hr e0 hb r h⟩
section
variable [Tb] {P : Program} {w : World} {K : PySem.W.Frag} {mg : Str → Option Value} {base : Heap}
end
section
open PyProof.Rows
end
end Sim
namespace Sim
open PySem PySem.Spec L2
section
variable [Tb] [Vs] {X : Cx} {K : PySem.W.Frag}
end
end Sim
namespace Sim
open PySem PySem.Spec L2
section
variable [Tb] [Vs] {X : Cx} {e : Expr} {x : Str} {p apos cpos : Pos} {tab : List (Int × Int)} {a : Addr}
end
end Sim
namespace Sim
open PySem PySem.Spec L2
section
variable {X : Cx}
end
end Sim
namespace Sim
open PySem PySem.Spec L2
section
variable [Tb] [Vs] {X : Cx} {pos : Pos}
inductive SelOk (X : Cx) (n : Nat) : List Addr → List Fn → Prop
  | nil : SelOk X n [] []
  | cons {k : Nat} {f : Addr} {fd : FuncData} {ps : List Str} {fn : Fn} {as : List Addr} {fns : List Fn} : FnOk X.prog X.w X.K X.mg X.base CX0 k f fd ps (spF X.K n fn) → Room k X.A → PySem.W.keepIn X.K (.ref f) = true → Binds X.K fd ps [] → (∀ ds r as, fn ds = .ok r as → ds.length = n) → SelOk X n as fns → SelOk X n (f :: as) (fn :: fns)
theorem SelOk.get {n : Nat} {as : List Addr} {fns : List Fn} (h : SelOk X n as fns) : ∀ {i : Nat} {fn : Fn}, fns[i]? = some fn → ∃ k f fd ps, as[i]? = some f ∧ FnOk X.prog X.w X.K X.mg X.base CX0 k f fd ps (spF X.K n fn) ∧ Room k X.A ∧ PySem.W.keepIn X.K (.ref f) = true ∧ Binds X.K fd ps [] ∧ (∀ ds r as, fn ds = .ok r as → ds.length = n) := by
  induction h with
  | nil => intro i fn e; simp at e
  | cons a b c d e _ ih =>
    intro i fn e'
    cases i with
    | zero => cases e'; exact ⟨_, _, _, _, rfl, a, b, c, d, e⟩
    | succ i => exact ih e'
end
end Sim
namespace Sim
open PySem PySem.Spec L2
section
variable [Tb] [Vs] {X : Cx} {k : Nat} {f : Addr} {fd : FuncData} {ps : List Str} {fn : Fn} {x : Str} {p pos : Pos}
end
end Sim
namespace Sim
open PySem PySem.Spec L2
section
variable [Tb] [Vs] {K : PySem.W.Frag} {H H' : Hp}
theorem OwnLs.get {K : PySem.W.Frag} {H : Hp} : ∀ {ds : List D} {vs : List V} {Fl : List (List Addr)}, OwnLs K H ds vs Fl → ∀ {i : Nat} {d : D}, ds[i]? = some d → ∃ v F, vs[i]? = some v ∧ Fl[i]? = some F ∧ Own K H d v F
  | _, _, _, .cons (v := v) (F := F) o n r, 0, d', e => by
    simp at e
    subst e
    exact ⟨v, F, rfl, rfl, o⟩
  | _, _, _, .cons o n r, i + 1, d', e => by
    obtain ⟨v, F, h1, h2, h3⟩ := r.get (i := i) (by simpa using e)
    exact ⟨v, F, by simpa using h1, by simpa using h2, h3⟩
theorem OwnLs.lenF {K : PySem.W.Frag} {H : Hp} {ds : List D} {vs : List V} {Fl : List (List Addr)} (o : OwnLs K H ds vs Fl) : Fl.length = ds.length := by
  induction o with
  | nil => rfl
  | cons _ _ _ ih => rw [List.length_cons, List.length_cons, ih]
end
section
variable [Tb] {P : Program} {w : World} {K : PySem.W.Frag} {mg : Str → Option Value} {base : Heap}
end
end Sim
namespace Sim
open PySem PySem.Spec L2
section
open PyProof.Rows
variable {prog : Program} {w : World} {A : Around} {E : Value → Shared → Prop} {s : Shared}
end
section
variable [Tb] [Vs] {X : Cx} {a : Expr} {ga : O} {pos p2 : Pos}
end
end Sim
namespace Sim
open PySem PySem.Spec L2
section
variable {X : Cx}
end
end Sim
namespace Sim
open PySem PySem.Spec L2
section
open PySem.Calls PySem.NumText PyProof.Rows
@[irreducible] def ninN (n : Nat) : Int := ((10 ^ n : Nat) : Int) - 1
end
end Sim
namespace Sim
open PySem PySem.Spec L2
def oFrz (g : O) : O := fun s => (g s).bind fun r s1 => match r with
  | .val (.list ds) => if purs ds = true then .ok (.val (.dict [(.none, .list ds)])) s1 else .bad
  | _ => .bad
section
variable [Tb] [Vs] {X : Cx} {e : Expr} {ga : O}
theorem so_frz (ha : SimO X e ga) : SimO X e (oFrz ga) := by
  refine ⟨fun pins s σ H Q I z => ?_⟩
  obtain ⟨sg, Fs, rf, sg', R, e0, q⟩ := z
  obtain ⟨r, s1, e1, e2⟩ := bind_inv e0
  refine thn (ha.run pins s σ H (fun v H1 => ∃ Fs1 F, RelS X.K H1 s1 σ Fs1 ∧ Ev H Fs H1 Fs1 ∧ RfOk X.K H1 σ Fs1 r v F ∧ ∀ a, a ∈ F → H a = none) I ⟨sg, Fs, r, s1, R, e1, fun v H1 Fs1 F R1 E1 k1 n1 => ⟨Fs1, F, R1, E1, k1, n1⟩⟩) fun v s2 ⟨x, H1, I1, r1, Fs1, F, R1, E1, k1, n1⟩ => ?_
  clear e0
  split at e2
  · rename_i _ ds
    split at e2
    · rename_i hp
      cases e2
      cases k1 with
      | val A =>
        obtain ⟨a, xs, F0, rfl, rfl, hx, tt, nn⟩ := own_list A.own
        have e3 := tt.pur hp
        subst e3
        obtain ⟨od, I2⟩ := I1.lock hx trivial
        have na : H a = none := n1 a (List.mem_cons_self ..)
        have c : Chg (fun b => b = a) H1 (upd H1 a (.frz od (.lst xs))) := .upd1 (m := .lst _) hx
        have R2 : RelS X.K (upd H1 a (.frz od (.lst xs))) _ σ Fs1 := ⟨R1.len, fun i d ed => by
          obtain ⟨v', hv', o⟩ := R1.has i d ed
          exact ⟨v', hv', o.chg c fun b hb z => by
            subst z
            exact A.dis i b hb (List.mem_cons_self ..)⟩, R1.off, R1.dis, R1.lnkC c (fun i b hb z => A.dis i b (R1.fpF hb) (by rw [z]; exact List.mem_cons_self ..)), R1.bse⟩
        have E2 : Ev H Fs (upd H1 a (.frz od (.lst xs))) Fs1 := ⟨E1.chg.transN c (fun b o hb z => by rw [z, na] at hb; cases hb), E1.new⟩
        have o2 : OwnA X.K (upd H1 a (.frz od (.lst xs))) _ xs [] := OwnA.chg c tt (by simp)
        exact ⟨.ref a, _, I2, r1, q (.ref a) _ Fs1 [] R2 E2 (.val ⟨.frz (.inl ⟨od, upd_same ..⟩) o2, by simp⟩) (by simp)⟩
    · cases e2
  · cases e2
end
end Sim
namespace Sim
open PySem PySem.Spec L2
mutual
/-- no text within -/
def noTx : NestedKey → Bool
  | .none => true
  | .num _ => true
  | .text _ => false
  | .tup ks => noTxs ks
def noTxs : List NestedKey → Bool
  | [] => true
  | k :: ks => noTx k && noTxs ks
end
def tupN : NestedKey → Bool
  | .tup _ => true
  | _ => false
def kOk (k : NestedKey) : Bool := tupN k && noTx k && decide (k.depth ≤ 8)
theorem kOk_dp {k : NestedKey} (h : kOk k = true) : k.depth ≤ 8 := by
  unfold kOk at h
  simp only [Bool.and_eq_true, decide_eq_true_eq] at h
  exact h.2
theorem kOk_tup {k : NestedKey} (h : kOk k = true) : ∃ ks, k = .tup ks := by
  unfold kOk at h
  simp only [Bool.and_eq_true] at h
  cases k with
  | tup ks => exact ⟨ks, rfl⟩
  | _ => exact absurd h.1.1 (by simp [tupN])
theorem zkd_map {κ : Type} (f : κ → D) : ∀ {ks : List κ} {ds : List D}, ks.length = ds.length → zkd f ks ds = (ks.zip ds).map fun p => (f p.1, p.2)
  | [], [], _ => rfl
  | k :: ks, d :: ds, h => by
    rw [zkd, List.zip_cons_cons, List.map_cons, zkd_map f (by simpa using h)]
  | [], _ :: _, h => by simp at h
  | _ :: _, [], h => by simp at h
abbrev NE := NestedKey × Addr × V
def getE (es : List NE) (k : NestedKey) : Option V := (es.find? fun e => decide (e.1 = k)).map fun e => e.2.2
def putE (es : List NE) (k : NestedKey) (b : Addr) (v : V) : List NE :=
  if (es.any fun e => decide (e.1 = k)) = true then es.map (fun e => if e.1 = k then (e.1, e.2.1, v) else e) else es ++ [(k, b, v)]
section
variable {X : Cx} {pins : List (Addr × Obj)} {σ : St} {H : Hp} {s : Shared}
mutual
theorem key_is (I : L2.Inv X pins σ H s) : ∀ (k : NestedKey) {v : V} {F : List Addr} {u : Value}, Own X.K H (nkD k) v F → RelV v u → NestedIs s.heap k u
  | .none, v, F, u, o, r => by
    rw [nkD] at o
    cases o
    obtain rfl : u = Value.none := r
    exact .none
  | .num i, v, F, u, o, r => by
    rw [nkD] at o
    cases o
    obtain ⟨t, rfl⟩ := (show ∃ t, u = Value.int i t from r)
    exact .int i t
  | .text x, v, F, u, o, r => by
    rw [nkD] at o
    cases o
    obtain ⟨t, rfl⟩ := (show ∃ t, u = Value.str x t from r)
    exact .text x t
  | .tup ks, v, F, u, o, r => by
    rw [nkD] at o
    cases o with
    | tup h t =>
      rename_i a xs
      obtain rfl : u = Value.ref a := r
      obtain ⟨its, rr, ⟨ob, ho, hc, n, hd⟩, _⟩ := I.tuple h.sq
      exact .tup ho hc hd (keys_are I ks t rr)
theorem keys_are (I : L2.Inv X pins σ H s) : ∀ (ks : List NestedKey) {vs : List V} {F : List Addr} {us : List Value}, OwnA X.K H (nkDs ks) vs F → Vals vs us → NestedAll s.heap ks us
  | [], vs, F, us, o, r => by
    rw [nkDs] at o
    cases o
    cases r
    exact .nil
  | k :: ks, vs, F, us, o, r => by
    rw [nkDs] at o
    cases o with
    | cons o t n =>
      cases r with
      | cons r1 r2 => exact .cons (key_is I k o r1) (keys_are I ks t r2)
end
abbrev EX : List NE → List (NestedKey × Addr × Value) → Prop := Paired fun p q => p.1 = q.1 ∧ p.2.1 = q.2.1 ∧ RelV p.2.2 q.2.2
theorem EX.fst : ∀ {es : List NE} {xs : List (NestedKey × Addr × Value)}, EX es xs → es.map (fun e => e.1) = xs.map fun x => x.1
  | _, _, .nil => rfl
  | _, _, .cons h t => by rw [List.map_cons, List.map_cons, h.1, EX.fst t]
theorem EX.get {k : NestedKey} : ∀ {es : List NE} {xs : List (NestedKey × Addr × Value)}, EX es xs → RelO (getE es k) ((atKey xs k).map (·.2))
  | _, _, .nil => True.intro
  | e :: es, x :: xs, .cons h t => by
    have ih := EX.get (k := k) t
    unfold getE atKey at ih ⊢
    rw [List.find?_cons, List.find?_cons]
    by_cases c : e.1 = k
    · have c' : x.1 = k := h.1.symm.trans c
      rw [decide_eq_true c, decide_eq_true c']
      exact h.2.2
    · have c' : ¬ x.1 = k := fun z => c (h.1.trans z)
      rw [decide_eq_false c, decide_eq_false c']
      exact ih
theorem EX.any {k : NestedKey} {es : List NE} {xs : List (NestedKey × Addr × Value)} (h : EX es xs) : (es.any fun e => decide (e.1 = k)) = (atKey xs k).isSome := by
  induction h with
  | nil => rfl
  | @cons e x es xs h t ih =>
    unfold atKey at ih ⊢
    rw [List.any_cons, List.find?_cons, ih]
    by_cases c : e.1 = k
    · have c' : x.1 = k := h.1.symm.trans c
      rw [decide_eq_true c, decide_eq_true c']; rfl
    · have c' : ¬ x.1 = k := fun z => c (h.1.trans z)
      rw [decide_eq_false c, decide_eq_false c']; rfl
theorem EX.put {k : NestedKey} {b : Addr} {v : V} {u : Value} (r : RelV v u) {es : List NE} {xs : List (NestedKey × Addr × Value)} (h : EX es xs) : EX (putE es k b v) (storedH xs k b u) := by
  unfold putE storedH
  rw [h.any]
  split
  · rename_i hc0
    clear hc0
    induction h with
    | nil => exact .nil
    | @cons e x es xs h t ih =>
      rw [List.map_cons, List.map_cons]
      refine .cons ?_ ih
      unfold putAt
      by_cases c : e.1 = k
      · rw [if_pos c, if_pos (h.1.symm.trans c)]; exact ⟨h.1, h.2.1, r⟩
      · rw [if_neg c, if_neg (fun z => c (h.1.trans z))]; exact h
  · exact Paired.snoc h ⟨rfl, rfl, r⟩
theorem EX.mem : ∀ {es : List NE} {xs : List (NestedKey × Addr × Value)}, EX es xs → ∀ x, x ∈ xs → ∃ e, e ∈ es ∧ e.1 = x.1 ∧ e.2.1 = x.2.1
  | _, _, .nil, x, h => by cases h
  | p :: es, q :: xs, .cons hh t, x, hx => by
    rcases List.mem_cons.mp hx with rfl | hx
    · exact ⟨p, List.mem_cons_self .., hh.1, hh.2.1⟩
    · obtain ⟨e, h1, h2⟩ := EX.mem t x hx
      exact ⟨e, List.mem_cons_of_mem _ h1, h2⟩
end
end Sim
namespace Sim
open PySem PySem.Spec L2
/-- the value y is the key k -/
structure KeyN (K : PySem.W.Frag) (H : Hp) (k : NestedKey) (y : V) : Prop where
  own : Own K H (nkD k) y []
  ok : kOk k = true
theorem KeyN.ref {K : PySem.W.Frag} {H : Hp} {k : NestedKey} {y : V} (h : KeyN K H k y) : ∃ b, y = .ref b := by
  obtain ⟨o, ok⟩ := h
  obtain ⟨ks, rfl⟩ := kOk_tup ok
  rw [nkD] at o
  cases o with
  | tup _ _ => exact ⟨_, rfl⟩
section
variable {X : Cx} {pins : List (Addr × Obj)} {σ : St} {H : Hp} {s : Shared}
theorem KeyN.is {k : NestedKey} {b : Addr} (I : L2.Inv X pins σ H s) (h : KeyN X.K H k (.ref b)) : (nestedKind X.prog X.w).is s.heap k b := ⟨key_is I k h.own rfl, kOk_dp h.ok⟩
variable {o e : Expr} {es : List Expr} {to : TE} {t : TA} {name : Str} {apos cpos : Pos} {id : String} {r : V → List V → Hp → VK → Prop}
end
end Sim
namespace SimSrt
open PySem PyProof.Rows Srt SrtO
section
variable {prog : Program} {w : World} {A : Around} {E : Value → Shared → Prop} {s : Shared}
end
end SimSrt
namespace Sim
open PySem PySem.Spec L2
open PyProof.Rows hiding St
section
variable {X : Cx} {pins : List (Addr × Obj)} {σ : St} {H : Hp} {s : Shared}
end
end Sim
namespace Sim
open PySem PySem.Spec L2
open PyProof.Rows hiding St
section
variable {prog : Program} {w : World} {A : Around} {E : Value → Shared → Prop} {s : Shared}
end
section
variable {X : Cx} {pins : List (Addr × Obj)} {σ : St} {H : Hp} {s : Shared}
end
section
variable {P : Program} {w : World} {K : PySem.W.Frag} {tg : Expr} {d : Addr} {o : Obj} {ents : Array DictEntry} {ep : Nat}
end
section
variable {X : Cx} {tg e : Expr} {td : TE} {apos cpos : Pos}
end
end Sim
namespace Sim
open PySem PySem.Spec L2
section
variable {K : PySem.W.Frag}
end
section
variable [Tb] [Vs] {X : Cx} {a b : Expr} {ga gb : O} {pos : Pos}
end
section
variable [Tb] [Vs] {X : Cx} {K : PySem.W.Frag} {σ : St} {H : Hp} {Q : VK}
end
end Sim
namespace Sim
open PySem PySem.Spec L2
section
variable [Tb] [Vs] {K : PySem.W.Frag} {H H' : Hp} {s : Sg} {σ : St} {Fs : Fp}
end
section
variable {K : PySem.W.Frag} {H H' : Hp}
theorem KeyN.chg [Tb] {Fa : Addr → Prop} (c : Chg Fa H H') {k : NestedKey} {y : V} (h : KeyN K H k y) : KeyN K H' k y := ⟨h.own.chg c (fun _ z => by cases z), h.ok⟩
end
section
variable [Tb] [Vs] {X : Cx} {lk : Nat → Bool} {pos : Pos} {ga gb : O} {e : Expr}
end
section
variable [Tb] [Vs] {X : Cx} {K : PySem.W.Frag} {σ : St} {H : Hp} {Q : VK}
end
end Sim
namespace Sim
open PySem PySem.Spec L2
section
variable [Tb] [Vs] {X : Cx} {K : PySem.W.Frag}
variable {tg e : Expr} {ga : O}
end
end Sim
namespace SimMin
open PySem PySem.Spec PySem.W
section
variable {prog : Program} {w : World} {A : Around} {E : Value → Shared → Prop} {s : Shared}
end
end SimMin
namespace Sim
open PySem PySem.Spec L2
section
variable {X : Cx}
end
end Sim
namespace Sim
open PySem PySem.Spec L2
def toKy : D → Option Key
  | .int i => some (.inl i)
  | .str x => some (.inr x)
  | _ => none
theorem toKy_kD (k : Key) : toKy (kD k) = some k := by cases k <;> rfl
def unKE : List (D × D) → Option (List (Key × D))
  | [] => some []
  | p :: ps => (toKy p.1).bind fun k => (unKE ps).map ((k, p.2) :: ·)
def unK : D → Option (List (Key × D))
  | .dict ((.bool true, .none) :: es) => unKE es
  | _ => none
def reK (l : List (Key × D)) : D := .dict ((.bool true, .none) :: l.map fun p => (kD p.1, p.2))
theorem unKE_zkd : ∀ {ks : List Key} {ds : List D} {l : List (Key × D)}, ks.length = ds.length → unKE (zkd kD ks ds) = some l → l.map Prod.fst = ks ∧ l.map Prod.snd = ds
  | [], [], l, _, h => by
    rw [show zkd kD [] [] = [] from rfl, unKE] at h
    cases h; exact ⟨rfl, rfl⟩
  | k :: ks, d :: ds, l, hl, h => by
    rw [zkd, unKE, toKy_kD] at h
    obtain ⟨l', e', rfl⟩ := Option.map_eq_some_iff.mp h
    obtain ⟨a1, a2⟩ := unKE_zkd (by simpa using hl) e'
    exact ⟨by rw [List.map_cons, a1], by rw [List.map_cons, a2]⟩
  | [], _ :: _, _, h, _ => by simp at h
  | _ :: _, [], _, h, _ => by simp at h
section
variable {K : PySem.W.Frag} {H : Hp}
structure DK (K : PySem.W.Frag) (H : Hp) (a : Addr) (kvs : List (Key × V)) (l : List (Key × D)) (F : List Addr) : Prop where
  at_ : H a = some (.dK kvs)
  keys : kvs.map Prod.fst = l.map Prod.fst
  vals : OwnA K H (l.map Prod.snd) (kvs.map Prod.snd) F
  out : a ∉ F
theorem own_K {d : D} {v : V} {F : List Addr} {l : List (Key × D)} (o : Own K H d v F) (e : unK d = some l) : ∃ a kvs F', v = .ref a ∧ F = a :: F' ∧ DK K H a kvs l F' := by
  cases o with
  | dct h t n =>
    rename_i a kvs ds F'
    have e : unKE (zkd kD (kvs.map Prod.fst) ds) = some l := e
    have hl : (kvs.map Prod.fst).length = ds.length := by
      have := t.len
      rw [List.length_map] at this ⊢
      exact this
    obtain ⟨a1, a2⟩ := unKE_zkd hl e
    exact ⟨a, kvs, F', rfl, rfl, h, a1.symm, by rw [a2]; exact t, n⟩
  | _ => simp [unK] at e
theorem own_reK {a : Addr} {kvs : List (Key × V)} {l : List (Key × D)} {F : List Addr} (h : DK K H a kvs l F) : Own K H (reK l) (.ref a) (a :: F) := by
  have z := Own.dct h.at_ h.vals h.out
  have hl : (kvs.map Prod.fst).length = (l.map Prod.snd).length := by rw [h.keys, List.length_map, List.length_map]
  rw [zkd_map kD hl, h.keys] at z
  have e2 : (l.map Prod.fst).zip (l.map Prod.snd) = l := by
    clear z hl h
    induction l with
    | nil => rfl
    | cons p l ih => rw [List.map_cons, List.map_cons, List.zip_cons_cons, ih]
  rw [e2] at z
  exact z
end
section
variable [Tb] [Vs] {X : Cx} {a b : Expr} {ga gb : O} {pos : Pos}
def oNewK : O := fun s => .ok (.val (reK [])) s
theorem so_newK : SimO X (.Dict [] [] pos) oNewK := pe_imp pe_dnewK fun σ H Q z => by
  obtain ⟨s, Fs, r, s', R, e, q⟩ := z
  cases e
  intro p hp
  have sm : Same H (upd H p (.dK [])) := same_new hp
  have nv : NewV X.K H (reK []) (.ref p) (upd H p (.dK [])) := ⟨sm, [p], own_reK (kvs := []) ⟨upd_same, rfl, .nil, by simp⟩, fun b z => by rw [List.mem_singleton.mp z]; exact hp⟩
  obtain ⟨R2, E2, F, k, n⟩ := nv.ok R
  exact q _ _ Fs F R2 E2 k n
end
section
variable {K : PySem.W.Frag} {H : Hp}
end
end Sim
namespace Sim
open PySem PySem.Spec L2
section
variable [Tb] [Vs] {K : PySem.W.Frag} {H : Hp} {X : Cx}
end
section
variable [Tb] [Vs] {X : Cx} {lk : Nat → Bool} {pos : Pos} {ga gb : O} {e : Expr}
end
section
variable [Tb] [Vs] {X : Cx} {K : PySem.W.Frag} {σ : St} {H : Hp} {Q : VK}
end
end Sim
namespace Sim
open PySem PySem.Spec L2
section
variable {K : PySem.W.Frag}
end
def oFrd (g : O) : O := fun s => (g s).bind fun r s1 => match r with
  | .val d => if (unK d).map (·.isEmpty) = some true then .ok (.val (.dict [(.none, .dict [])])) s1 else .bad
  | _ => .bad
section
variable [Tb] [Vs] {X : Cx} {e : Expr} {ga : O}
theorem so_frd (ha : SimO X e ga) : SimO X e (oFrd ga) := by
  refine ⟨fun pins s σ H Q I z => ?_⟩
  obtain ⟨sg, Fs, rf, sg', R, e0, q⟩ := z
  obtain ⟨r, s1, e1, e2⟩ := bind_inv e0
  refine thn (ha.run pins s σ H (fun v H1 => ∃ Fs1 F, RelS X.K H1 s1 σ Fs1 ∧ Ev H Fs H1 Fs1 ∧ RfOk X.K H1 σ Fs1 r v F ∧ ∀ a, a ∈ F → H a = none) I ⟨sg, Fs, r, s1, R, e1, fun v H1 Fs1 F R1 E1 k1 n1 => ⟨Fs1, F, R1, E1, k1, n1⟩⟩) fun v s2 ⟨x, H1, I1, r1, Fs1, F, R1, E1, k1, n1⟩ => ?_
  clear e0
  split at e2
  · rename_i _ d
    split at e2
    · rename_i hp
      cases e2
      cases k1 with
      | val A =>
        obtain ⟨l0, hl0, hp⟩ := Option.map_eq_some_iff.mp hp
        have hl0' : l0 = [] := by cases l0 <;> simp at hp ⊢
        subst hl0'
        obtain ⟨a, kvs, F0, rfl, rfl, hd⟩ := own_K A.own hl0
        have hk : kvs = [] := by
          have := congrArg List.length hd.keys
          simpa using this
        subst hk
        have hx := hd.at_
        obtain ⟨od, I2⟩ := I1.lock hx trivial
        have na : H a = none := n1 a (List.mem_cons_self ..)
        have c : Chg (fun b => b = a) H1 (upd H1 a (.frz od (.dK []))) := .upd1 (m := .dct _) hx
        have R2 : RelS X.K (upd H1 a (.frz od (.dK []))) _ σ Fs1 := ⟨R1.len, fun i d ed => by
          obtain ⟨v', hv', o⟩ := R1.has i d ed
          exact ⟨v', hv', o.chg c fun b hb z => by
            subst z
            exact A.dis i b hb (List.mem_cons_self ..)⟩, R1.off, R1.dis, R1.lnkC c (fun i b hb z => A.dis i b (R1.fpF hb) (by rw [z]; exact List.mem_cons_self ..)), R1.bse⟩
        have E2 : Ev H Fs (upd H1 a (.frz od (.dK []))) Fs1 := ⟨E1.chg.transN c (fun b o hb z => by rw [z, na] at hb; cases hb), E1.new⟩
        exact ⟨.ref a, _, I2, r1, q (.ref a) _ Fs1 [] R2 E2 (.val ⟨.frd (upd_same ..), by simp⟩) (by simp)⟩
    · cases e2
  · cases e2
end
end Sim
namespace Sim
open PySem PySem.Spec L2
section
variable [Tb] [Vs] {X : Cx} {x : Str} {p pos : Pos} {es : List Expr} {ga : AL} {i : Nat}
end
end Sim
namespace Sim
open PySem PySem.Spec L2
section
variable [Tb] [Vs] {X : Cx} {x : Str} {p : Pos} {i : Nat}
end
end Sim
namespace Sim
open PySem PySem.Spec L2
section
variable {K : PySem.W.Frag} {H : Hp}
end
section
variable {prog : Program} {w : World} {A : Around} {E : Value → Shared → Prop} {s : Shared}
end
section
variable {X : Cx}
end
end Sim
namespace Sim
open PySem PySem.Spec L2
section
variable [Tb] [Vs] {X : Cx} {lk : Nat → Bool} {pos : Pos} {ga gb : O} {e : Expr} {op : Operator} {f : Int → Int → Int}
end
end Sim
namespace Sim
open PySem PySem.Spec L2
section
variable [Tb] [Vs] {X : Cx} {K : PySem.W.Frag} {σ : St} {H : Hp} {Q : VK}
end
end Sim
namespace Sim
open PySem PySem.Spec L2
section
variable [Tb] [Vs] {X : Cx} {o : Expr} {ga : O} {apos pos : Pos}
end
end Sim
namespace Sim
open PySem PySem.Spec L2
section
variable [Tb] [Vs] {X : Cx} {K : PySem.W.Frag} {σ : St} {H : Hp} {Q : VK}
end
end Sim
namespace Sim
open PySem PySem.Spec L2
def StrEnts : List DictEntry → List Str → Prop
  | [], [] => True
  | e :: es, k :: ks => (∃ t, e.key = .str k t) ∧ StrEnts es ks
  | _, _ => False
def StrKeys (K : PySem.W.Frag) (w : World) (a : Addr) (keys : List Str) : Prop := ∃ es n, KDict K w a es n ∧ StrEnts es.toList keys
section
variable [Tb] [Vs] {X : Cx} {a : Addr} {x : Str} {keys : List Str} {e : Expr} {g : O} {p pos : Pos}
end
end Sim
namespace Sim
open PySem PySem.Spec L2
/-- the same but for such slots -/
structure GhEq (X : Cx) (σ σ' : St) : Prop where
  len : σ'.length = σ.length
  vis : ∀ (i : Nat) (x : Str), X.N[i]? = some x → Vis X.env.scope x → σ'[i]? = σ[i]?
theorem GhEq.symm {X : Cx} {σ σ' : St} (h : GhEq X σ σ') : GhEq X σ' σ := ⟨h.len.symm, fun i x a b => (h.vis i x a b).symm⟩
theorem GhEq.refl (X : Cx) (σ : St) : GhEq X σ σ := ⟨rfl, fun _ _ _ _ => rfl⟩
theorem not_vis {X : Cx} {x : Str} (h : X.env.scope.names.lookup x = none) : ¬ Vis X.env.scope x := fun v => by
  rcases v with v | v | v <;> rw [h] at v <;> cases v
theorem GhEq.set {X : Cx} {σ : St} {i : Nat} {x : Str} {v : Option V} (hN : X.N[i]? = some x) (h : X.env.scope.names.lookup x = none) : GhEq X σ (σ.set i v) := ⟨List.length_set, fun j y a b => by
  by_cases hj : j = i
  · subst hj
    rw [hN] at a
    cases a
    exact absurd b (not_vis h)
  · exact List.getElem?_set_ne (Ne.symm hj)⟩
section
variable {X : Cx}
end
structure LnkO (b : Nat) (p C : Addr) (g : Nat) (ns : List Str) (q : Nat) (fa : Addr) (σ : St) (H : Hp) : Prop where
  base : σ[b]? = some (some (.ref p))
  len : σ.length = g + ns.length
  pin : σ[q]? = some (some (.ref fa))
  obj : ∃ dx fs, H p = some (.ins C dx fs) ∧ fs.length ≤ ns.length ∧ fs.map Prod.fst = ns.take fs.length ∧ ∀ k, k < ns.length → σ[g + k]? = some ((fs[k]?).map Prod.snd)
/-- (q, fa: a slot more that stays) -/
abbrev obVp (b : Nat) (p C : Addr) (g : Nat) (ns : List Str) (q : Nat) (fa : Addr) : Vs where
  fp i := if i = b then [p] else []
  lnk := LnkO b p C g ns q fa
  ok i := i ≠ b ∧ i < g ∧ i ≠ q
  keep {σ H H'} h k := by
    obtain ⟨h1, h2, hq, dx, fs, h3, h4⟩ := h
    exact ⟨h1, h2, hq, dx, fs, by rw [k b p (by rw [if_pos rfl]; exact List.mem_singleton.mpr rfl)]; exact h3, h4⟩
  put {σ H i v} ko := by
    have e1 : (σ.set i v)[b]? = σ[b]? := List.getElem?_set_ne ko.1
    have e3 : (σ.set i v)[q]? = σ[q]? := List.getElem?_set_ne ko.2.2
    have e2 : ∀ k, (σ.set i v)[g + k]? = σ[g + k]? := fun k => List.getElem?_set_ne (by have := ko.2.1; omega)
    constructor
    · rintro ⟨h1, h2, hq, dx, fs, h3, h4, h5, h6⟩
      exact ⟨e1.symm.trans h1, (List.length_set (as := σ) (i := i) (a := v)).symm.trans h2, e3.symm.trans hq, dx, fs, h3, h4, h5, fun k hk => (e2 k).symm.trans (h6 k hk)⟩
    · rintro ⟨h1, h2, hq, dx, fs, h3, h4, h5, h6⟩
      exact ⟨e1.trans h1, (List.length_set (as := σ) (i := i) (a := v)).trans h2, e3.trans hq, dx, fs, h3, h4, h5, fun k hk => (e2 k).trans (h6 k hk)⟩
  mem {σ H i a} h ha := by
    obtain ⟨h1, h2, hq, dx, fs, h3, h4⟩ := h
    split at ha
    · rw [List.mem_singleton.mp ha]
      exact ⟨.ins _ _ _, h3⟩
    · cases ha
  nil {i} ko := if_neg ko.1
abbrev obV (b : Nat) (p C : Addr) (g : Nat) (ns : List Str) : Vs := obVp b p C g ns b p
section
variable [Tb] {X : Cx} {b g k i q : Nat} {p C fa : Addr} {ns : List Str} {f : Str} {e : Expr} {pos pos' : Pos}
end
section
variable [Tb] {X : Cx} {b g k i q : Nat} {p C fa : Addr} {ns : List Str} {f gx : Str} {e value : Expr} {pos pos' : Pos} {lk : Nat → Bool} {pv : Option Nat}
end
end Sim
namespace Sim
open PySem PySem.Spec L2
theorem OwnA.ls {K : PySem.W.Frag} {H : Hp} : ∀ {ds : List D} {vs : List V} {F : List Addr}, OwnA K H ds vs F → ∃ Gl, OwnLs K H ds vs Gl ∧ ∀ a, a ∈ F ↔ ∃ G, G ∈ Gl ∧ a ∈ G
  | [], _, _, t => by
    cases t
    exact ⟨[], .nil, by simp⟩
  | d :: ds, _, _, t => by
    cases t with
    | @cons v vs _ _ F1 F2 o t n =>
      obtain ⟨Gl, h1, h2⟩ := OwnA.ls t
      refine ⟨F1 :: Gl, .cons o (fun G hG a ha hb => n a ha ((h2 a).mpr ⟨G, hG, hb⟩)) h1, fun a => ?_⟩
      rw [List.mem_append, h2]
      constructor
      · rintro (h | ⟨G, hG, h⟩)
        · exact ⟨F1, List.mem_cons_self .., h⟩
        · exact ⟨G, List.mem_cons_of_mem _ hG, h⟩
      · rintro ⟨G, hG, h⟩
        rcases List.mem_cons.mp hG with rfl | hG
        · exact .inl h
        · exact .inr ⟨G, hG, h⟩
theorem OwnLs.a {K : PySem.W.Frag} {H : Hp} {ds : List D} {vs : List V} {Gl : List (List Addr)} (h : OwnLs K H ds vs Gl) : OwnA K H ds vs Gl.flatten := by
  induction h with
  | nil => exact .nil
  | cons o n _ ih =>
    rw [List.flatten_cons]
    refine .cons o ih fun a ha hb => ?_
    obtain ⟨G, hG, h⟩ := List.mem_flatten.mp hb
    exact n G hG a ha h
theorem OwnLs.at {K : PySem.W.Frag} {H : Hp} {ds : List D} {vs : List V} {Gl : List (List Addr)} (h : OwnLs K H ds vs Gl) : ∀ {i : Nat} {d : D}, ds[i]? = some d → ∃ v, vs[i]? = some v ∧ Own K H d v (Gl.getD i []) := by
  induction h with
  | nil => intro i d e; simp at e
  | @cons d0 v F ds vs Fl o n _ ih =>
    intro i d e
    cases i with
    | zero => simp at e; subst e; exact ⟨v, rfl, o⟩
    | succ i =>
      obtain ⟨v', h1, h2⟩ := ih (i := i) (d := d) (by simpa using e)
      exact ⟨v', by simpa using h1, by simpa using h2⟩
theorem OwnLs.dj {K : PySem.W.Frag} {H : Hp} {ds : List D} {vs : List V} {Gl : List (List Addr)} (h : OwnLs K H ds vs Gl) : ∀ {i j : Nat} {a : Addr}, a ∈ Gl.getD i [] → a ∈ Gl.getD j [] → i = j := by
  induction h with
  | nil => intro i j a e; simp at e
  | @cons d0 v F ds vs Fl o n _ ih =>
    intro i j a h1 h2
    cases i with
    | zero => cases j with
      | zero => rfl
      | succ j =>
        obtain ⟨G, hG, hm⟩ := getD_of (Fl := Fl) (i := j) (by simpa using h2)
        exact absurd hm (n G (List.mem_of_getElem? hG) a (by simpa using h1))
    | succ i => cases j with
      | zero =>
        obtain ⟨G, hG, hm⟩ := getD_of (Fl := Fl) (i := i) (by simpa using h1)
        exact absurd hm (n G (List.mem_of_getElem? hG) a (by simpa using h2))
      | succ j => rw [ih (i := i) (j := j) (by simpa using h1) (by simpa using h2)]
/-- what is put into the slots from g on -/
def putG {α : Type} : Nat → List α → List (Option α) → List (Option α)
  | _, [], s => s
  | g, d :: ds, s => putG (g + 1) ds (s.set g (some d))
section
variable [Tb] {K : PySem.W.Frag} {H : Hp} {s : Sg} {σ : St} {Fs : Fp} {j g : Nat} {ns : List Str} {nm : Str} {d : D} {fds : List D}
/-- what the opening of a slot's instance gives -/
structure Opened (K : PySem.W.Frag) (H : Hp) (s : Sg) (σ : St) (Fs : Fp) (j g : Nat) (nm : Str) (ns : List Str) (fds : List D) (p C : Addr) (σ2 : St) (Fs2 : Fp) : Prop where
  cn : ClsN K nm C
  at_ : σ[j]? = some (some (.ref p))
  rel : @RelS _ (obV j p C g ns) K H (putG g fds (s.set j none)) σ2 Fs2
  real : ∀ i, i < g → σ2[i]? = σ[i]?
  len : σ2.length = σ.length
  mem : p ∈ Fs j
  obj : Fs2 j = [p]
  low : ∀ i a, i < g → i ≠ j → a ∈ Fs2 i → a ∈ Fs i
  high : ∀ i a, g ≤ i → a ∈ Fs2 i → a ∈ Fs j
structure Closed (Fs Fs' : Fp) (j g : Nat) (p : Addr) : Prop where
  obj : ∀ a, a ∈ Fs' j → a = p ∨ ∃ k, g ≤ k ∧ a ∈ Fs k
  low : ∀ i a, i ≠ j → a ∈ Fs' i → a ∈ Fs i ∧ i < g
/-- from ahead of the opening to behind the closing -/
theorem Opened.ev {p C : Addr} {σ2 : St} {Fs2 Fs3 Fs4 : Fp} {H' : Hp} (o : Opened K H s σ Fs j g nm ns fds p C σ2 Fs2) (E : Ev H Fs2 H' Fs3) (c : Closed Fs3 Fs4 j g p) (pj : ∀ i a, a ∈ Fs2 i → i = j → a = p) : Ev H Fs H' Fs4 := by
  have sub : ∀ i a, a ∈ Fs2 i → ∃ k, a ∈ Fs k := fun i a ha => by
    by_cases hij : i = j
    · exact ⟨j, by rw [pj i a ha hij]; exact o.mem⟩
    · by_cases hig : i < g
      · exact ⟨i, o.low i a hig hij ha⟩
      · exact ⟨j, o.high i a (by omega) ha⟩
  refine ⟨E.chg.mono fun a _ _ ⟨i, hi⟩ => sub i a hi, fun i a ha => ?_⟩
  by_cases hij : i = j
  · subst hij
    rcases c.obj a ha with rfl | ⟨k, hk, h⟩
    · exact .inl o.mem
    · exact (E.new k a h).imp (o.high k a hk) id
  · obtain ⟨h, hig⟩ := c.low i a hij ha
    exact (E.new i a h).imp (o.low i a hig hij) id
/-- the same to a way out; low slots that no caller holds may hold what was the object's -/
theorem Opened.evR {lk : Nat → Bool} {p C : Addr} {σ2 : St} {Fs2 Fs3 Fs4 : Fp} {H' : Hp} (o : Opened K H s σ Fs j g nm ns fds p C σ2 Fs2) (E : EvR lk H Fs2 H' Fs3) (c : Closed Fs3 Fs4 j g p) (h0 : lk j = true) (hp : ∀ i, i < g → lk i = false → Fs i = []) :
    Chg (InF Fs) H H' ∧ ∀ i a, lk i = true → a ∈ Fs4 i → a ∈ Fs i ∨ H a = none := by
  have hpj : ∀ i a, a ∈ Fs2 i → i = j → a = p := fun i a ha hij => by
    rw [hij, o.obj] at ha
    exact List.mem_singleton.mp ha
  have sub : ∀ i a, a ∈ Fs2 i → ∃ k, a ∈ Fs k := fun i a ha => by
    by_cases hij : i = j
    · exact ⟨j, by rw [hpj i a ha hij]; exact o.mem⟩
    · by_cases hig : i < g
      · exact ⟨i, o.low i a hig hij ha⟩
      · exact ⟨j, o.high i a (by omega) ha⟩
  have un : ∀ k a, lk k = false → a ∈ Fs2 k → a ∈ Fs j := fun k a hk ha => by
    have hkj : k ≠ j := fun z => by rw [z, h0] at hk; cases hk
    by_cases hig : k < g
    · have := o.low k a hig hkj ha
      rw [hp k hig hk] at this
      cases this
    · exact o.high k a (by omega) ha
  refine ⟨E.chg.mono fun a _ _ ⟨i, hi⟩ => sub i a hi, fun i a hl ha => ?_⟩
  by_cases hij : i = j
  · subst hij
    rcases c.obj a ha with rfl | ⟨k, hk, h⟩
    · exact .inl o.mem
    · rcases E.new k a h with (z | z) | ⟨_, k', hk', z⟩
      · exact .inl (o.high k a hk z)
      · exact .inr z
      · exact .inl (un k' a hk' z)
  · obtain ⟨h, hig⟩ := c.low i a hij ha
    rcases E.new i a h with (z | z) | ⟨z, _⟩
    · exact .inl (o.low i a hig hij z)
    · exact .inr z
    · rw [hl] at z; cases z
end
end Sim
namespace Sim
open PySem PySem.Spec L2
section
variable [Tb] {X : Cx} {j g : Nat} {nm : Str} {ns : List Str} {C : Addr} {e : Expr}
end
section
variable [Tb] {P : Program} {w : World} {K : PySem.W.Frag} {mg : Str → Option Value} {base : Heap}
end
section
variable [Tb] {X : Cx} {j g : Nat} {nm : Str} {ns : List Str} {C : Addr} {k : Nat} {f : Addr} {fd : FuncData} {ps : List Str} {fn : Fn} {m : Str} {o e : Expr} {es : List Expr} {ga : AL} {apos pos : Pos}
end
end Sim
namespace Sim
open PySem PySem.Spec L2
section
variable [Tb] [Vs] {X : Cx} {nm : Str} {C : Addr} {k : Nat} {f : Addr} {fd : FuncData} {ps : List Str} {fn : Fn} {x : Str} {e : Expr} {es : List Expr} {ga : AL} {p pos : Pos}
end
section
variable [Tb] {X : Cx} {lk : Nat → Bool} {b g : Nat} {nm : Str} {ns : List Str} {C pp : Addr} {k : Nat} {f : Addr} {fd : FuncData} {ps : List Str} {fn : Fn} {m : Str} {o : Expr} {es : List Expr} {ga : AL} {apos pos : Pos}
end
end Sim
namespace Sim
open PySem PySem.Spec L2
open LamX (TabB TabS Tabs CodeO)
open PyProof.Rows (envOfC)
/-- the heap behind it: as it was, or the table has its code object more -/
structure LamNew [Tb] (X : Cx) (H H1 : Hp) (P c' : Addr) (pos : Pos) : Prop where
  keep : ∀ b o, H b = some o → isTbl o = false → H1 b = some o
  there : ∀ b, H1 b = none → H b = none
  tab : TabsOk H1
  row : ∃ ps, H1 P = some (.tbl ps) ∧ TriplesOk ps.toList ∧ codeAmong pos ps.toList = some (.ref c')
theorem LamNew.chg [Tb] {X : Cx} {H H1 : Hp} {P c' : Addr} {pos : Pos} (n : LamNew X H H1 P c' pos) (Fa : Addr → Prop) : Chg Fa H H1 := ⟨fun a o e c => n.keep a o e (by
  rcases c with c | c
  · exact c.2
  · cases o <;> first | rfl | cases c), n.there, fun _ => n.tab⟩
section
variable [Tb] {X : Cx} {pins : List (Addr × Obj)} {σ : St} {H : Hp} {s : Shared}
end
section
variable {X : Cx} {pins : List (Addr × Obj)} {σ : St} {H HZ : Hp} {s s1 : Shared}
end
end Sim
namespace Sim
open PySem PySem.Spec L2
open LamX (TabB)
open PyProof.Rows (envOfC)
section
variable [Tb] [Vs] {K : PySem.W.Frag} {H H' : Hp} {s : Sg} {σ : St} {Fs : Fp}
end
section
variable [Tb] {b g q : Nat} {p C fa : Addr} {ns : List Str} {K : PySem.W.Frag} {H : Hp} {s : Sg} {σ : St} {Fs : Fp}
end
section
variable [Tb] [Vs] {X : Cx} {lk : Nat → Bool} {g h : S}
end
section
variable [Tb] {X : Cx} {lk : Nat → Bool} {nm m a pn : Str} {ns : List Str} {C gA c P : Addr} {fd : FuncData} {j n k : Nat} {js : List Nat} {hL : O} {gb : (D → Option D) → S} {Ng : List Str} {st : Stmt} {qual : Str} {params : Arguments} {body o : Expr} {scope : Scope} {lpos apos pos pos2 : Pos}
end
end Sim
namespace Sim
open PySem PySem.Spec L2
open LamX (TabB LawAtS)
open PyProof.Rows (envOfC)
section
variable [Tb] {P : Program} {w : World} {K : PySem.W.Frag} {mg : Str → Option Value} {base : Heap}
end
end Sim
namespace Sim
open PySem PySem.Spec L2
section
variable [Tb] {X : Cx} {b g k i q x : Nat} {p C fa : Addr} {ns : List Str} {f gx nx : Str} {e : Expr} {pos pos' p1 : Pos} {lk : Nat → Bool} {pv : Option Nat} {rest : List Stmt} {h : S}
end
end Sim
namespace Sim
open PySem PySem.Spec L2
end Sim
namespace Sim
open PySem PySem.Spec L2
section
variable [Tb] [Vs]
end
section
variable [Tb] {X : Cx} {j g : Nat} {nm : Str} {ns : List Str} {C : Addr} {e : Expr}
end
end Sim
namespace Sim
open PySem PySem.Spec L2
section
variable [Tb] [Vs] {X : Cx} {lk : Nat → Bool}
end
end Sim
namespace Sim
open PySem PySem.Spec L2
section
variable [Tb] [Vs] {X : Cx} {a : Expr} {ga : O} {pos p2 : Pos}
end
section
variable {K : PySem.W.Frag}
end
section
variable [Tb] [Vs] {X : Cx}
end
end Sim
namespace Sim
open PySem PySem.Spec PyProof.Rows L2
section
variable {X : Cx}
end
end Sim
namespace Sim
open PySem PySem.Spec PyProof.Rows L2
def pStrI : List D → Option D
  | [.int i] => if i.natAbs.log2 < 1920 then some (.str (toString i)) else none
  | _ => none
theorem pr_strI {K : PySem.W.Frag} : PrimR K (fun xs H Q => ∃ i, xs = [V.int i] ∧ i.natAbs.log2 < 1920 ∧ Q (.str (toString i)) H) pStrI := by
  intro vs ds d H Q h e q
  unfold pStrI at e
  split at e
  · obtain ⟨x, F, rfl, o⟩ := h.one
    split at e
    · rename_i c
      cases o; cases e
      exact ⟨_, rfl, c, q _ _ (.sc (.str _))⟩
    · cases e
  · cases e
end Sim
namespace Sim
open PySem PySem.Spec L2
section
variable {X : Cx}
end
end Sim
namespace Sim
open PySem PySem.Spec L2
open PyProof.Rows hiding St
section
variable {X : Cx} {pins : List (Addr × Obj)} {σ : St} {H : Hp} {s : Shared}
end
end Sim
namespace Sim
open PySem PySem.Spec L2
section
variable {K : PySem.W.Frag} {H : Hp}
end
section
variable [Tb] [Vs] {K : PySem.W.Frag} {H H' : Hp} {s s' : Sg} {σ σ' : St} {Fs Fs' : Fp}
end
section
variable [Tb] [Vs] {X : Cx} {lk lk' : Nat → Bool} {K : PySem.W.Frag}
end
end Sim
namespace Sim
open PySem PySem.Spec L2
open PyProof.Rows hiding St
section
variable [Tb] [Vs] {X : Cx} {K : PySem.W.Frag} {H : Hp}
end
section
variable {X : Cx} {pins : List (Addr × Obj)} {σ : St} {H : Hp} {s : Shared}
section
variable {P : Program} {w : World} {K : PySem.W.Frag} {tg : Expr} {d : Addr} {o ob : Obj} {ents : Array DictEntry} {ep : Nat}
end
end
section
variable [Tb] [Vs] {X : Cx} {K : PySem.W.Frag} {H : Hp}
variable {a b : Expr} {ga gb : O} {pos : Pos}
end
end Sim
namespace Sim
open PySem PySem.Spec L2
open PyProof.Rows hiding St
section
variable [Tb] [Vs] {X : Cx} {lk lk' : Nat → Bool} {pos : Pos} {i : Nat} {itm : D → Option (List D)}
end
end Sim
namespace Sim
open PySem PySem.Spec L2
section
open PyProof.Rows hiding St
variable {X : Cx} {K : PySem.W.Frag}
end
section
variable [Tb] [Vs] {X : Cx} {K : PySem.W.Frag} {σ : St} {H : Hp} {Q : VK}
end
end Sim
namespace Sim
open PySem PySem.Spec L2
section
variable [Tb] [Vs]
variable {X : Cx} {lk lk' : Nat → Bool} {pos : Pos} {i : Nat}
end
end Sim
namespace Sim
open PySem PySem.Spec L2
section
variable {X : Cx} {k : Nat} {f : Addr} {fd : FuncData} {ps : List Str} {sp : Sp} {dvs : List V} {ds : List Value} {E : XK} {x : Str} {p pos : Pos} {e : Expr} {es : List Expr} {t : TA}
end
section
variable [Tb] [Vs] {X : Cx} {k : Nat} {f : Addr} {fd : FuncData} {ps : List Str} {fn : Fn} {x : Str} {p pos : Pos} {e : Expr} {es : List Expr} {g : AL}
end
section
variable {X : Cx}
end
end Sim
namespace Sim
open PySem PySem.Spec L2
open LamX (TabB)
open PyProof.Rows (envOfC)
section
variable [Tb] {P : Program} {w : World} {K : PySem.W.Frag} {mg : Str → Option Value} {base : Heap}
end
open PyProof.Rows hiding St
section
variable {P : Program} {w : World} {K : PySem.W.Frag} {mg mb : Str → Option Value} {k : Nat} {fa a : Addr} {tb : List (Addr × Addr)} {fd : FuncData} {x : Str} {sp : Sp} {s₁ : Shared} {vs : List Value} {ns : List Int}
end
end Sim
namespace Sim
open PySem PySem.Spec L2
section
variable [Tb] [Vs] {X : Cx} {lk : Nat → Bool} {pos : Pos} {K : PySem.W.Frag}
end
section
variable [Tb] [Vs] {X : Cx} {a b : Expr} {ga : O} {pos : Pos}
end
end Sim
namespace Sim
open PySem PySem.Spec L2
section
open PySem.AutoSeq1
end
section
variable {K : PySem.W.Frag}
end
end Sim
namespace Sim
open PySem PySem.Spec L2
open PyProof.Rows hiding St
section
open PySem.W
variable {prog : Program} {w : World} {A : Around} {E : Value → Shared → Prop} {s : Shared} {r d : Addr} {n : Nat} {P : Nat → Value → Prop} {OK : Heap → Prop}
end
section
variable {X : Cx}
end
end Sim
namespace L2
open PySem PySem.Spec PyProof.Rows
section
variable {P : Program} {w : World} {A : Around} {E : Value → Shared → Prop} {s : Shared}
set_option maxRecDepth 100000 in
set_option maxHeartbeats 3200000 in
end
end L2
namespace Sim
open PySem PySem.Spec L2
section
variable [Tb] [Vs] {X : Cx} {a : Expr} {ta : TA} {p p2 q pos : Pos}
variable {ga : AL}
end
end Sim
namespace Sim
open PySem PySem.Spec L2
section
variable [Tb] [Vs] {K : PySem.W.Frag} {H H1 : Hp} {s s1 : Sg} {σ : St} {Fs Fs1 : Fp} {lk lk' : Nat → Bool}
/-- an end's way out, told from an earlier state -/
theorem PostS.from {D : Ends} {fl : Fl} {s' : Sg} {σ1 : St} (hlk : ∀ i, lk i = true → lk' i = true) (E : EvR lk H Fs H1 Fs1) (L : Lk lk σ σ1) (q : PostS K lk D σ H Fs s' fl) : PostS K lk' D σ1 H1 Fs1 s' fl := by
  have un : ∀ {i}, lk' i = false → lk i = false := fun {i} z => by
    cases e : lk i with
    | false => rfl
    | true => rw [hlk i e] at z; cases z
  have LL : ∀ {σ2 : St}, Lk lk' σ1 σ2 → Lk lk σ σ2 := fun {σ2} L2 => L.trans fun i hi => L2 i (hlk i hi)
  cases fl with
  | nx => exact fun σ' H' Fs' R' E' L' => q σ' H' Fs' R' (E.transR (E'.wk hlk)) (LL L')
  | bk => exact fun σ' H' Fs' R' E' L' => q σ' H' Fs' R' (E.transR (E'.wk hlk)) (LL L')
  | ct => exact fun σ' H' Fs' R' E' L' => q σ' H' Fs' R' (E.transR (E'.wk hlk)) (LL L')
  | rt d =>
    refine fun v σ' H' Fs' F R' E' L' o n m => q v σ' H' Fs' F R' (E.transR (E'.wk hlk)) (LL L') o (fun a ha => ?_) fun i a hi => m i a (hlk i hi)
    rcases n a ha with z | ⟨k, hk, z⟩
    · exact .inl (E.chg.there a z)
    · rcases E.new k a z with (w | w) | ⟨_, j, hj, w⟩
      · exact .inr ⟨k, un hk, w⟩
      · exact .inl w
      · exact .inr ⟨j, hj, w⟩
end
section
variable [Tb] [Vs] {X : Cx} {lk lk' : Nat → Bool} {pos : Pos}
end
end Sim
namespace Sim
open PySem PySem.Spec L2
/-- what is raised: the class's name -/
abbrev Exn := Str
/-- what a statement raises, and at which state -/
abbrev Rz := Sg → Option (Exn × Sg)
abbrev FnZ := List D → Option Exn
section
variable [Tb] [Vs] {X : Cx} {W : WX} {lk : Nat → Bool} {st : Stmt} {rest : List Stmt} {r a b : Rz} {g : S} {t : T} {e : Expr} {pos : Pos}
theorem ps_nox {u : TS} (h : PS X.nox st u) : PS X st u := ⟨fun pins s σ H D I hw =>
  wpAny_mono (h.run pins s σ H D (I.wish _) hw) (fun _ _ q => q.unwish) fun _ _ z => False.elim z⟩
theorem pa_nox {es : List Expr} {u : TA} (h : PA X.nox es u) : PA X es u := ⟨fun pos pins s σ H Q I hw =>
  wpAny_mono (h.run pos pins s σ H Q (I.wish _) hw) (fun _ _ ⟨v, H', I', r, q⟩ => ⟨v, H', I'.unwish, r, q⟩) fun _ _ z => False.elim z⟩
end
section
variable [Tb] {K : PySem.W.Frag} {H H' : Hp}
theorem RelS.chgZ [Vs] {s : Sg} {σ : St} {Fs : Fp} (R : RelS K H s σ Fs) (C : Chg (fun _ => False) H H') : RelS K H' s σ Fs ∧ Ev H Fs H' Fs :=
  ⟨⟨R.len, fun i d e => by
    obtain ⟨v, hv, q⟩ := R.has i d e
    exact ⟨v, hv, q.chg C fun _ _ z => z⟩, R.off, R.dis, R.lnk' (fun i a ha => by
    obtain ⟨m, e⟩ := Vs.mem R.lnk.1 ha
    rw [e]
    exact C.keep a _ e (.inl ⟨fun z => z, by cases m <;> rfl⟩)) (C.tab R.lnk.2), R.bse⟩, C.mono fun _ _ _ z => z.elim, fun _ _ h => .inl h⟩
theorem rda_own {vs : List V} {ds : List D} (h : RdA K H vs ds) : purs ds = true → ∃ Fl, OwnLs K H ds vs Fl := by
  induction h with
  | nil => exact fun _ => ⟨_, .nil⟩
  | @cons v d F vs ds o _ ih =>
    intro p
    simp only [purs, Bool.and_eq_true] at p
    obtain ⟨Fl, hl⟩ := ih p.2
    exact ⟨F :: Fl, .cons o (fun G _ a ha => by rw [o.pur p.1] at ha; cases ha) hl⟩
theorem rda_len {vs : List V} {ds : List D} (h : RdA K H vs ds) : vs.length = ds.length := by
  induction h with
  | nil => rfl
  | cons _ _ ih => rw [List.length_cons, List.length_cons, ih]
theorem OwnLs.pur0 {ds : List D} {vs : List V} {Fl : List (List Addr)} (h : OwnLs K H ds vs Fl) : purs ds = true → ∀ G, G ∈ Fl → G = [] := by
  induction h with
  | nil => exact fun _ G z => by cases z
  | cons o _ _ ih =>
    intro p G hG
    simp only [purs, Bool.and_eq_true] at p
    rcases List.mem_cons.mp hG with rfl | hG
    · exact o.pur p.1
    · exact ih p.2 G hG
end
section
variable [Tb] [Vs] {X : Cx} {W : WX} {k : Nat} {f : Addr} {fd : FuncData} {ps : List Str} {fn : FnZ} {x : Str} {p pos : Pos} {e : Expr} {es : List Expr} {g : AL}
end
section
variable [Tb] {P : Program} {w : World} {K : PySem.W.Frag} {mg : Str → Option Value} {base : Heap}
end
theorem exm_of {K : PySem.W.Frag} {C B : Addr} (h1 : PySem.W.subIn K (.ref B) (.type "BaseException") = some true) (h2 : (PySem.W.clsIn K B).isSome = true) (h3 : PySem.W.typeIn K (.ref B) = some (.type "type")) (h4 : PySem.W.subIn K (.ref C) (.ref B) = some true) : PySem.W.exmOne K (.ref C) (.ref B) = some true := by
  unfold PySem.W.exmOne PySem.W.kitCls
  rw [h1, if_pos (by rfl)]
  show (if ((PySem.W.clsIn K B).isSome && PySem.W.typeIn K (.ref B) == some (.type "type")) = true then _ else _) = _
  rw [h2, h3, if_pos (by rfl)]
  exact h4
section
variable [Tb] [Vs] {X : Cx} {lk : Nat → Bool} {r : Rz} {g h : S} {body suite : List Stmt} {b₀ : Stmt} {np pos pos' : Pos} {x : Str} {c : Value} {cs : List Str}
end
end Sim
namespace Sim
open PySem PySem.Spec L2
open PyProof.Rows (Compare_chain chain_link chain_last ite_ff ite_tt)
abbrev CK := Rf → Sg → Res Rf
section
variable [Tb] [Vs] {X : Cx} {a b c : Expr} {ga gb gc : O} {op op' : CmpOp} {ops : List CmpOp} {es : List Expr} {r : R2} {f : List D → Option D} {k : CK} {pos : Pos}
end
end Sim
namespace Sim
open PySem PySem.Spec L2
open PyProof.Rows hiding St
section
variable {P : Program} {w : World} {K : PySem.W.Frag} {tg : Expr} {d : Addr} {o : Obj} {ents : Array DictEntry} {ep : Nat}
end
section
variable {X : Cx} {tg e : Expr} {td : TE} {apos cpos : Pos}
end
section
variable [Tb] [Vs] {X : Cx} {K : PySem.W.Frag}
variable {tg e : Expr} {ga : O} {apos cpos : Pos}
end
end Sim
namespace Sim
open PySem PySem.Spec L2
section
variable [Tb] [Vs] {X : Cx} {K : PySem.W.Frag} {σ : St} {H : Hp} {Q : VK}
end
end Sim
namespace Sim
open PySem PySem.Spec L2
section
variable {X : Cx} {pins : List (Addr × Obj)} {σ : St} {H : Hp} {s : Shared}
end
section
variable {K : PySem.W.Frag}
end
end Sim
namespace Sim
open PySem PySem.Spec L2
def StrEntsV : List DictEntry → List Str → List Addr → Prop
  | [], [], [] => True
  | e :: es, k :: ks, a :: as => (∃ t, e.key = .str k t) ∧ e.val = .ref a ∧ StrEntsV es ks as
  | _, _, _ => False
def StrTab (K : PySem.W.Frag) (w : World) (a : Addr) (keys : List Str) (as : List Addr) : Prop := ∃ es n, KDict K w a es n ∧ StrEntsV es.toList keys as
theorem StrEntsV.keys : ∀ {l : List DictEntry} {ks : List Str} {as : List Addr}, StrEntsV l ks as → StrEnts l ks
  | [], [], [], _ => trivial
  | _ :: _, _ :: _, _ :: _, h => ⟨h.1, h.2.2.keys⟩
theorem StrTab.keys {K : PySem.W.Frag} {w : World} {a : Addr} {keys : List Str} {as : List Addr} (h : StrTab K w a keys as) : StrKeys K w a keys := by
  obtain ⟨es, n, D, e⟩ := h
  exact ⟨es, n, D, e.keys⟩
def selS {α : Type} : List Str → List α → Str → Option α
  | k :: ks, f :: fs, z => if k == z then some f else selS ks fs z
  | _, _, _ => none
section
variable [Tb] [Vs] {X : Cx} {pos : Pos}
theorem SelOk.tab {n : Nat} {z : Str} {fn : Fn} {as : List Addr} {fns : List Fn} (h : SelOk X n as fns) : ∀ {l : List DictEntry} {ks : List Str}, StrEntsV l ks as → selS ks fns z = some fn →
    ∃ f k fd ps, (match l.find? (·.key.isStr z) with
      | some e => some (some e.val)
      | none => if l.any (·.refKey) then none else some none) = some (some (.ref f)) ∧ FnOk X.prog X.w X.K X.mg X.base CX0 k f fd ps (spF X.K n fn) ∧ Room k X.A ∧ PySem.W.keepIn X.K (.ref f) = true ∧ Binds X.K fd ps [] ∧ (∀ ds r as, fn ds = .ok r as → ds.length = n) := by
  induction h with
  | nil =>
    intro l ks _ e
    cases ks <;> simp [selS] at e
  | @cons k f fd ps fn1 as fns a b c d e _ ih =>
    intro l ks hE es
    match l, ks, hE with
    | [], [], hE => exact hE.elim
    | [], _ :: _, hE => exact hE.elim
    | _ :: _, [], hE => exact hE.elim
    | en :: l, kk :: ks, hE =>
      obtain ⟨⟨t, ht⟩, hv, hE⟩ := hE
      have hk : en.key.isStr z = (kk == z) := by rw [ht]; rfl
      have hr : en.refKey = false := by unfold DictEntry.refKey; rw [ht]
      rw [List.find?_cons, hk, List.any_cons, hr, Bool.false_or]
      unfold selS at es
      cases hz : kk == z with
      | true =>
        rw [hz, if_pos rfl] at es
        cases es
        exact ⟨f, _, _, _, by rw [← hv], a, b, c, d, e⟩
      | false =>
        rw [hz, if_neg (by simp)] at es
        exact ih hE es
end
section
end
end Sim
namespace Sim
open PySem PySem.Spec L2
section
variable {X : Cx} {o e : Expr} {es : List Expr} {to : TE} {t : TA} {name : Str} {apos cpos : Pos} {id : String} {r : V → List V → Hp → VK → Prop}
end
section
variable [Tb] [Vs] {X : Cx} {K : PySem.W.Frag} {σ : St} {H : Hp} {Q : VK}
end
end Sim
namespace Sim
open PySem PySem.Spec L2
def strsD : List D → Option (List Str)
  | [] => some []
  | .str x :: ds => (strsD ds).map fun xs => x :: xs
  | _ => none
def rowD : D → Option (List Str)
  | .list ds => strsD ds
  | .tuple ds => strsD ds
  | .dict [(.none, .list ds)] => strsD ds
  | _ => none
/-- o.m(x) of a text o -/
def oMS (f : Str → D → Option D) (g0 g1 : O) : O := fun s => (g0 s).bind fun r s1 => match rd r s1 with
  | some (.str a) => (g1 s1).bind fun r2 s2 => match rd r2 s2 with
    | some d => match f a d with
      | some z => .ok (.val z) s2
      | none => .bad
    | none => .bad
  | _ => .bad
section
variable [Tb] [Vs] {X : Cx}
theorem so_ms {ex : Expr} {f : Str → D → Option D} {r : V → List V → Hp → VK → Prop} {g0 g1 : O} (h : PE X ex (tM1 r (tO X.K g0) (tO X.K g1)))
    (hf : ∀ {a : Str} {d z : D} {v : V} {H : Hp} {F : List Addr}, Own X.K H d v F → f a d = some z → ∀ Q, (∀ v' H', NewV X.K H z v' H' → Q v' H') → r (.str a) [v] H Q) : SimO X ex (oMS f g0 g1) :=
  pe_imp h fun σ H Q z => by
    obtain ⟨s, Fs, rf, s', R, e, q⟩ := z
    obtain ⟨r0, s0, e0, e⟩ := bind_inv e
    refine ⟨s, Fs, r0, s0, R, e0, fun v H1 Fs1 F1 R1 E1 k1 n1 => ?_⟩
    split at e
    · rename_i a ha
      obtain ⟨F', ov⟩ := k1.dp R1 ha
      cases ov
      refine ⟨⟨a, rfl⟩, ?_⟩
      obtain ⟨r2, s2, e2, e⟩ := bind_inv e
      refine ⟨s0, Fs1, r2, s2, R1, e2, fun v2 H2 Fs2 F2 R2 E2 k2 n2 => ?_⟩
      split at e
      · rename_i d hd
        obtain ⟨F'', o2⟩ := k2.dp R2 hd
        split at e
        · rename_i z hz
          cases e
          refine hf o2 hz _ fun v' H' nv => ?_
          obtain ⟨R3, E3, F3, k3, n3⟩ := nv.ok R2
          exact q _ _ _ F3 R3 ((E1.trans E2).trans E3) k3 fun a ha => (E1.trans E2).chg.there a (n3 a ha)
        · cases e
      · cases e
    · cases e
end
section
variable {K : PySem.W.Frag} {H : Hp}
theorem own_strs : ∀ {ds : List D} {xs : List Str} {vs : List V} {F : List Addr}, strsD ds = some xs → OwnA K H ds vs F → vs = xs.map V.str
  | [], _, _, _, e, t => by cases e; cases t; rfl
  | d :: ds, xs, vs, F, e, t => by
    cases d with
    | str x =>
      obtain ⟨ys, e1, rfl⟩ := Option.map_eq_some_iff.mp e
      cases t with
      | cons o t n =>
        cases o
        rw [own_strs e1 t]; rfl
    | _ => simp [strsD] at e
theorem own_mk : ∀ xs : List Str, OwnA K H (xs.map PyData.str) (xs.map V.str) []
  | [] => .nil
  | x :: xs => .cons0 (.str x) (own_mk xs)
theorem own_row {d : D} {xs : List Str} {v : V} {F : List Addr} (o : Own K H d v F) (e : rowD d = some xs) : ∃ p, v = .ref p ∧ (SqL K H p (xs.map V.str) ∨ SqT K H p (xs.map V.str)) := by
  unfold rowD at e
  split at e
  · cases o with
    | lst h t n => rw [← own_strs e t]; exact ⟨_, rfl, .inl (SqL.of h)⟩
  · cases o with
    | tup h t => rw [← own_strs e t]; exact ⟨_, rfl, .inr h.sq⟩
  · cases o with
    | frz h t => rw [← own_strs e t]; exact ⟨_, rfl, .inl h.sq⟩
  · cases e
end
def sJoin : Str → D → Option D := fun a d => (rowD d).bind fun ys => if (ys.map (·.length)).sum + ys.length * a.length ≤ 1000000 then some (.str (PySem.Txt.join a ys)) else none
def sSplit : Str → D → Option D := fun a d => match d with
  | .str b => if b.length ≠ 0 ∧ a.length + 2 ≤ 1000000 then some (.list ((PySem.Txt.split a b).map PyData.str)) else none
  | _ => none
def sStarts : Str → D → Option D := fun a d => match d with
  | .str b => some (.bool (PySem.Txt.startswith a b))
  | _ => none
section
variable {K : PySem.W.Frag}
theorem ok_join {a : Str} {d z : D} {v : V} {H : Hp} {F : List Addr} (o : Own K H d v F) (e : sJoin a d = some z) (Q : VK) (q : ∀ v' H', NewV K H z v' H' → Q v' H') :
    ∃ a' p, ∃ ys : List Str, V.str a = .str a' ∧ [v] = [.ref p] ∧ (SqL K H p (ys.map V.str) ∨ SqT K H p (ys.map V.str)) ∧ (ys.map (·.length)).sum + ys.length * a'.length ≤ 16777216 ∧ Q (.str (PySem.Txt.join a' ys)) H := by
  unfold sJoin at e
  obtain ⟨ys, e1, e⟩ := Option.bind_eq_some_iff.mp e
  split at e
  · rename_i c
    cases e
    obtain ⟨p, rfl, h⟩ := own_row o e1
    exact ⟨a, p, ys, rfl, rfl, h, by omega, q _ _ (.sc (.str _))⟩
  · cases e
theorem ok_split {a : Str} {d z : D} {v : V} {H : Hp} {F : List Addr} (o : Own K H d v F) (e : sSplit a d = some z) (Q : VK) (q : ∀ v' H', NewV K H z v' H' → Q v' H') :
    ∃ a' b, V.str a = .str a' ∧ [v] = [.str b] ∧ (b.length == 0) = false ∧ a'.length + 2 ≤ sizeLine ∧ rNewStrs (PySem.Txt.split a' b) H Q := by
  unfold sSplit at e
  split at e
  · rename_i b
    split at e
    · rename_i c
      cases e
      cases o
      refine ⟨a, b, rfl, rfl, by simpa using c.1, Nat.le_trans c.2 big_le, fun p hp => q _ _ (.lst (own_mk _) hp)⟩
    · cases e
  · cases e
theorem ok_starts {a : Str} {d z : D} {v : V} {H : Hp} {F : List Addr} (o : Own K H d v F) (e : sStarts a d = some z) (Q : VK) (q : ∀ v' H', NewV K H z v' H' → Q v' H') :
    ∃ a' b, V.str a = .str a' ∧ [v] = [.str b] ∧ Q (.bl (PySem.Txt.startswith a' b)) H := by
  unfold sStarts at e
  split at e
  · cases e
    cases o
    exact ⟨a, _, rfl, rfl, q _ _ (.sc (.bl _))⟩
  · cases e
end
def sgnD (x : Str) : List D := x.cps.toList.map fun c => .str ⟨#[c]⟩
def itS : List D → Option (List D)
  | [.str x] => if x.length ≤ 1000000 then some (sgnD x) else none
  | _ => none
def wS : List V → Hp → (It → Hp → Prop) → Prop := fun vs H R => ∃ x, vs = [.str x] ∧ R (Its x) H
section
variable {K : PySem.W.Frag}
theorem walkD_s {x : Str} {G : Hp → Prop} : WalkD K (Its x) G (sgnD x) := by
  have hl : (sgnD x).length = x.cps.size := by unfold sgnD; simp
  refine ⟨fun i H hi g => by rw [hl] at hi; exact hi, fun H g => by rw [hl]; exact Nat.le_refl _, fun i H v H' hi g y => ?_⟩
  obtain ⟨rfl, c, hc, rfl⟩ := y
  refine ⟨.str ⟨#[c]⟩, ?_, Same.refl _, .str _⟩
  unfold sgnD
  rw [List.getElem?_map, Array.getElem?_toList, hc]; rfl
theorem wS_ok : ∀ (vs : List V) (ds es : List D) (H : Hp) (R : It → Hp → Prop), RdA K H vs ds → itS ds = some es → purs es = true → (∀ J, WalkD K J (fun H2 => RdA K H2 vs ds) es → R J H) → wS vs H R := by
  intro vs ds es H R h e p q
  unfold itS at e
  split at e
  · split at e
    · cases e
      obtain ⟨x, F, rfl, o⟩ := h.one
      cases o
      exact ⟨_, rfl, q _ walkD_s⟩
    · cases e
  · cases e
end
section
variable [Tb] [Vs] {X : Cx}
theorem si_str {tg e : Expr} {ga : O} (he : SimO X e ga) : SimI X tg e (mkI itS (aCons ga aNil)) :=
  pi_imp (pi_str he) fun _ _ _ h => by
    have z := tA1 (mkI_ok h wS_ok)
    refine tO_mono (fun v H1 q => ?_) z
    obtain ⟨x, e, q⟩ := q
    exact ⟨x, by cases e; rfl, q⟩
end
def pIntX : List D → Option D
  | [.str x] => if x.length ≤ 640 then (PySem.intText? x).map PyData.int else none
  | _ => none
theorem pr_intX {K : PySem.W.Frag} : PrimR K (fun xs H Q => ∃ a n, xs = [V.str a] ∧ PySem.intText? a = some n ∧ a.length ≤ 640 ∧ Q (.int n) H) pIntX := by
  intro vs ds d H Q h e q
  unfold pIntX at e
  split at e
  · obtain ⟨x, F, rfl, o⟩ := h.one
    split at e
    · rename_i c
      obtain ⟨n, en, rfl⟩ := Option.map_eq_some_iff.mp e
      cases o
      exact ⟨_, _, rfl, en, c, q _ _ (.sc (.int _))⟩
    · cases e
  · cases e
end Sim
namespace Sim
open PySem PySem.Spec L2
section
variable [Tb] [Vs] {X : Cx} {e a b : Expr} {g0 : O} {al : AL} {p pos pos2 : Pos} {K : PySem.W.Frag} {σ : St} {H : Hp} {Q : VK}
end
end Sim
namespace Sim
open PySem PySem.Spec L2
/-- what is raised: the class's name, the field's, its value -/
abbrev ExnF := Str × Str × Int
def FldAt (K : PySem.W.Frag) (H : Hp) (x : ExnF) (cls : Value) (d : Option Addr) : Prop := ∃ C dd, ClsN K x.1 C ∧ cls = .ref C ∧ d = some dd ∧ H dd = some (.xd [(x.2.1, .int x.2.2)])
abbrev RzF := Sg → Option (ExnF × Sg)
abbrev FnZF := List D → Option ExnF
/-- an own class's __init__, taken from a class of its own, over ValueError's -/
theorem pe_clsinit {X : Cx} {x : Str} {L : Addr} {e : Expr} {es : List Expr} {ta : TA} {p1 p2 pos : Pos} {pl : Sem Bool} (hg : Gl X x) (hm : X.mg x = some (.ref L)) (hga : PySem.W.specialIn X.K (.ref L) "__getattribute__" = some (some (.builtin "type.__getattribute__")))
    (hrd : PySem.W.readsIn X.K L (.type "type") = true) (vV : PySem.W.findCls X.K (.ref L) (.type "type") "__init__" = some (.val (.builtin "ValueError.__init__"))) (ha : PA X (e :: es) ta) (hdb : (x == ("__debug__" : Str)) = false := by decide)
    (hc : eval (.Call (.Attribute (.Name x p1) "__init__" p2) (e :: es) [] pos) X.env = (do
      let ov ← eval (.Name x p1) X.env
      standAt p2.atName
      let (f, first) ← holding [ov] (getMethod ov "__init__" pl)
      callWith pos f first (backTo pos (starEach (e :: es) X.env)) (backToKw pos (keywordEach [] X.env))) := by rfl)
    (he : starEach (e :: es) X.env = (false, eval e X.env) :: starEach es X.env := by rfl) (hpl : (backTo pos (starEach es X.env)).any (·.1) = false := by rfl) :
    PE X (.Call (.Attribute (.Name x p1) "__init__" p2) (e :: es) [] pos) (tVeI X.K ta) := by
  refine ⟨fun pins s σ H Q I h => ?_⟩
  refine PySem.W.methodCall_KW (ld_glob I hg hm ?_ hdb) hc
  refine PySem.W.method_cls I.kIn hga (PySem.W.cls_value I.kIn hrd vV (by decide +kernel) ?_)
  show wpAny _ _ (callWith pos (Value.builtin "ValueError.__init__") [] (backTo pos (starEach (e :: es) X.env)) []) _ _ _
  refine PyProof.Rows.callWith_method1 (thn (ha.run pos pins _ σ H _ (I.tok _) h) fun us s1 ⟨vs, H1, I1, r1, a, C, ws, ev, hl, T, ea, q⟩ => ?_) he hpl
  subst ev
  cases r1 with
  | @cons _ u0 _ ur ra rw' =>
    obtain rfl : u0 = Value.ref a := ra
    have hlen : ur.length ≤ sizeLine := by
      rw [← Paired.length rw', sizeLine_eq]
      omega
    exact oinit_ok T I1 ea hlen fun s' J => ⟨.non, H1, J, rfl, q⟩
/-- what C's __init__ does: the field is kept -/
def spXI (K : PySem.W.Frag) (C : Addr) (fd : Str) : L2.Sp := fun vs H Q _ => ∃ (a : Addr) (i : Int), vs = [.ref a, .int i] ∧ OexC K C ∧ PySem.W.findIn K (.ref C) fd = some none ∧ H a = some (exo a C none) ∧
  ∀ dx, H dx = none → dx ≠ a → Q .non (upd (upd H dx (exd dx [(fd, .int i)])) a (exo a C (some dx)))
def tInitF (K : PySem.W.Frag) (fd m : Str) : TS := tSeq (tDrop (tVeI K (tCons (tVar 0) (tCons (tC (.str m)) tNil)))) (tOst K fd (tVar 0) (tVar 1))
theorem init_okF {P : Program} {w : World} {K : PySem.W.Frag} {mg : Str → Option Value} {base : Heap} {x qual fd m sf pv : Str} {st : Stmt} {f C : Addr} {fdt : FuncData} {k : Nat} (F : Fun K x qual st f fdt) (Sc : FnScope [sf, pv] [sf, pv] (defScope st))
    (hb : ∀ (cdv : Value) (A : Around) (outer : List Env) (s : Shared) (H : Hp) (E : XK), PSs (cxOf (L2.CX P w) P w K mg base [sf, pv] qual (defScope st) f cdv A outer s H E) (defBody st) (tInitF K fd m)) : FnOk P w K mg base (L2.CX P w) (k + 1) f fdt [sf, pv] (spXI K C fd) := by
  refine F.okX Sc (fun vs H Q E h => ?_) (fun cdv A outer s H vs Q E hr h => ⟨_, hb cdv A outer s H E, ?_⟩)
  · obtain ⟨a, i, rfl, _⟩ := h
    rfl
  · obtain ⟨a, i, rfl, T, no, ea, q⟩ := h
    exact ⟨.ref a, rfl, a, C, [.str m], rfl, (by show 1 ≤ 1000; decide), T, ea, .int i, rfl, .ref a, rfl, a, C, rfl, T, no, .inl ⟨ea, fun dx n ne => q dx n ne⟩⟩
def spZF [Tb] (K : PySem.W.Frag) (n : Nat) (f : FnZF) : Sp := fun vs H Q E => ∃ ds Fl x, f ds = some x ∧ purs ds = true ∧ vs.length = n ∧ TabsOk H ∧ OwnLs K H ds vs Fl ∧
  ∀ cls d H', Chg (fun _ => False) H H' → FldAt K H' x cls d → E cls d H'
def tZF [Tb] [Vs] (K : PySem.W.Frag) (lk : Nat → Bool) (W : WX) (r : RzF) : TS := fun D σ H => ∃ s Fs x s', RelS K H s σ Fs ∧ r s = some (x, s') ∧
  ∀ cls d σ' H' Fs', RelS K H' s' σ' Fs' → EvR lk H Fs H' Fs' → Lk lk σ σ' → FldAt K H' x cls d → W cls d σ' H'
def tZEF [Tb] [Vs] (K : PySem.W.Frag) (W : WX) (r : RzF) : TE := fun σ H Q => ∃ s Fs x s', RelS K H s σ Fs ∧ r s = some (x, s') ∧
  ∀ cls d H' Fs', RelS K H' s' σ Fs' → Ev H Fs H' Fs' → FldAt K H' x cls d → W cls d σ H'
def RzSF [Tb] [Vs] (X : Cx) (W : WX) (lk : Nat → Bool) (st : Stmt) (r : RzF) : Prop := PS X st (tZF X.K lk W r)
def RzSsF [Tb] [Vs] (X : Cx) (W : WX) (lk : Nat → Bool) (sts : List Stmt) (r : RzF) : Prop := PSs X sts (tZF X.K lk W r)
def RzEF [Tb] [Vs] (X : Cx) (W : WX) (e : Expr) (r : RzF) : Prop := PE X e (tZEF X.K W r)
def zThenF (g : S) (r : RzF) : RzF := fun s => match g s with
  | .ok .nx s1 => r s1
  | _ => none
def zIfF (t : T) (a b : RzF) : RzF := fun s => match t s with
  | .ok c s1 => if c = true then a s1 else b s1
  | _ => none
def zNoF : RzF := fun _ => none
def zRaiseF (c fd : Str) (g : AL) : RzF := fun s => match g s with
  | .ok rs s1 => (match rds rs s1 with
    | some [.int i] => some ((c, fd, i), s1)
    | _ => none)
  | _ => none
def zCallF (f : FnZF) (g : AL) : RzF := fun s => match g s with
  | .ok rs s1 => (match rds rs s1 with
    | some ds => if purs ds = true then (f ds).map (fun x => (x, s1)) else none
    | none => none)
  | _ => none
def mkFzF (ms : List Nat) (n : Nat) (r : RzF) : FnZF := fun ds => if purs ds = true ∧ ds.length = ms.length then (r (ds.map some ++ List.replicate (n - ds.length) none)).map (·.1) else none
theorem mkFz_lenF {ms : List Nat} {n : Nat} {r : RzF} {ds : List D} {x : ExnF} (h : mkFzF ms n r ds = some x) : ds.length = ms.length := by
  unfold mkFzF at h
  split at h
  · rename_i c; exact c.2
  · cases h
section
variable [Tb] [Vs] {X : Cx} {W : WX} {lk : Nat → Bool} {st : Stmt} {rest : List Stmt} {r a b : RzF} {g : S} {t : T} {e : Expr} {pos : Pos}
theorem rz_hereF (h : RzSF X W lk st r) : RzSsF X W lk (st :: rest) r := pss_imp (pss_cons h pss_never) fun _ _ _ z => z
theorem rz_noF : RzSsF X W lk rest zNoF := pss_imp pss_never fun D σ H z => by
  obtain ⟨_, _, _, _, _, e, _⟩ := z
  cases e
theorem rz_thenF (h : SimS X.nox lk st g) (hr : RzSsF X W lk rest r) : RzSsF X W lk (st :: rest) (zThenF g r) := pss_imp (pss_cons (ps_nox h) hr) fun D σ H z => by
  obtain ⟨s, Fs, x, s', R, e, q⟩ := z
  unfold zThenF at e
  split at e
  · rename_i s1 hs1
    exact ⟨s, Fs, .nx, s1, R, hs1, fun σ' H' Fs' R' E' L' => ⟨s1, Fs', x, s', R', e, fun cls d σ2 H2 Fs2 R2 E2 L2 ex => q cls d σ2 H2 Fs2 R2 (E'.transR E2) (L'.trans L2) ex⟩⟩
  · cases e
theorem rz_ifF {aa bb : List Stmt} (ht : SimT X.nox e t) (ha : RzSsF X W lk aa a) (hb : RzSsF X W lk bb b) : RzSF X W lk (.If e aa bb pos) (zIfF t a b) := ps_imp (ps_if (PT.nox ht) ha hb) fun D σ H z => by
  obtain ⟨s, Fs, x, s', R, e, q⟩ := z
  unfold zIfF at e
  split at e
  · rename_i c s1 hs1
    refine ⟨s, Fs, c, s1, R, hs1, fun H1 Fs1 R1 E1 => ?_⟩
    have fin : ∀ {r : RzF}, r s1 = some (x, s') → tZF X.K lk W r D σ H1 := fun er => ⟨s1, Fs1, x, s', R1, er, fun cls d σ2 H2 Fs2 R2 E2 L2 ex => q cls d σ2 H2 Fs2 R2 (E1.transR E2) L2 ex⟩
    cases c with
    | true => rw [if_pos rfl] at e; exact fin e
    | false => rw [if_neg (by simp)] at e; exact fin e
  · cases e
theorem rz_ifxF {aa : List Stmt} (ht : SimT X.nox e t) (ha : RzSsF X W lk aa a) (hr : RzSsF X W lk rest b) : RzSsF X W lk (.If e aa [] pos :: rest) (zIfF t a b) := pss_imp (pss_cons (ps_if (PT.nox ht) ha pss_nil) hr) fun D σ H z => by
  obtain ⟨s, Fs, x, s', R, e, q⟩ := z
  unfold zIfF at e
  split at e
  · rename_i c s1 hs1
    refine ⟨s, Fs, c, s1, R, hs1, fun H1 Fs1 R1 E1 => ?_⟩
    cases c with
    | true => rw [if_pos rfl] at e; exact ⟨s1, Fs1, x, s', R1, e, fun cls d σ2 H2 Fs2 R2 E2 L2 ex => q cls d σ2 H2 Fs2 R2 (E1.transR E2) L2 ex⟩
    | false => rw [if_neg (by simp)] at e; exact ⟨s1, Fs1, x, s', R1, e, fun cls d σ2 H2 Fs2 R2 E2 L2 ex => q cls d σ2 H2 Fs2 R2 (E1.transR E2) L2 ex⟩
  · cases e
theorem rz_exprF (he : RzEF X W e r) (hs : swapsWith e none pos.line X.env = pure false := by rfl) : RzSF X W lk (.Expr e pos) r := ps_imp (ps_expr he hs) fun D σ H z => by
  obtain ⟨s, Fs, x, s', R, e, q⟩ := z
  exact ⟨s, Fs, x, s', R, e, fun cls d H' Fs' R' E' ex => q cls d σ H' Fs' R' E'.r (.refl _ _) ex⟩
end
section
variable [Tb] [Vs] {X : Cx} {W : WX} {k : Nat} {f : Addr} {fd : FuncData} {ps : List Str} {fn : FnZF} {x : Str} {p pos : Pos} {e : Expr} {es : List Expr} {g : AL}
theorem rz_callF (tk : Takes X W) (F : FnOk X.prog X.w X.K X.mg X.base (L2.CX X.prog X.w) k f fd ps (spZF X.K ps.length fn)) (hr : Room k X.A) (hg : Gl X x) (hm : X.mg x = some (.ref f)) (hk : PySem.W.keepIn X.K (.ref f) = true) (hb : Binds X.K fd ps []) (ha : SimA X.nox (e :: es) g)
    (hn : ∀ ds r, fn ds = some r → ds.length = ps.length) (hdb : (x == ("__debug__" : Str)) = false := by decide) (he : starEach (e :: es) X.env = (false, eval e X.env) :: starEach es X.env := by rfl) (hpl : (backTo pos (starEach es X.env)).any (·.1) = false := by rfl) :
    RzEF X W (.Call (.Name x p) (e :: es) [] pos) (zCallF fn g) := by
  refine pe_imp (pe_callS F hr hg hm hk hb (fun σ => passAt tk σ) (pa_nox ha) hdb he hpl) fun σ H Q z => ?_
  obtain ⟨s, Fs, x, s', R, e, q⟩ := z
  unfold zCallF at e
  split at e
  · rename_i rs s1 hga
    split at e
    · rename_i ds hds
      split at e
      · rename_i hp
        obtain ⟨y, hy, ee⟩ := Option.map_eq_some_iff.mp e
        cases ee
        refine ⟨s, Fs, rs, s', R, hga, fun vs H1 Fs1 Gs R1 E1 k1 n1 => ?_⟩
        have rd := k1.dp R1 hds
        obtain ⟨Fl, ol⟩ := rda_own rd hp
        refine ⟨ds, Fl, x, hy, hp, by rw [rda_len rd, hn _ _ hy], R1.lnk.2, ol, fun cls d H' C ex => ?_⟩
        obtain ⟨R2, E2⟩ := R1.chgZ C
        exact q cls d H' Fs1 R2 (E1.trans E2) ex
      · cases e
    · cases e
  · cases e
end
section
variable [Tb] {P : Program} {w : World} {K : PySem.W.Frag} {mg : Str → Option Value} {base : Heap}
theorem fn_simZF {x qual : Str} {st : Stmt} {f : Addr} {fd : FuncData} {N ps : List Str} {ms : List Nat} {n k : Nat} {r : RzF} (F : Fun K x qual st f fd) (Sc : FnScope N ps (defScope st)) (hn : N.length = n) (hm : ms.length = ps.length)
    (hb : ∀ (cdv : Value) (A : Around) (outer : List Env) (s : Shared) (H : Hp) (E : XK), Room k (A.deeper (PyProof.Rows.envOfC qual (defScope st) s.heap.objs.size f cdv)) → ∀ W : WX, Takes (cxOf (L2.CX P w) P w K mg base N qual (defScope st) f cdv A outer s H E) W →
      RzSsF (cxOf (L2.CX P w) P w K mg base N qual (defScope st) f cdv A outer s H E) W (lkM ms) (defBody st) r) : FnOk P w K mg base (L2.CX P w) (k + 1) f fd ps (spZF K ps.length (mkFzF ms n r)) := by
  refine F.okX Sc (fun vs H Q E h => ?_) (fun cdv A outer s H vs Q E hr h => ⟨_, hb cdv A outer s H E hr (fun cls d _ H => E cls d H) (takes_of rfl rfl rfl rfl), ?_⟩)
  · obtain ⟨ds, Fl, x, hf, hp, hl, _⟩ := h
    exact hl
  · obtain ⟨ds, Fl, x, hf, hp, hl, tt, ol, q⟩ := h
    unfold mkFzF at hf
    split at hf
    · rename_i hok
      obtain ⟨⟨y, s'⟩, hr0, rfl⟩ := Option.map_eq_some_iff.mp hf
      have est : L2.start N vs = vs.map some ++ List.replicate (n - ds.length) none := by
        unfold L2.start
        rw [hn, ← ol.len]
      have R0 := relS_start tt ol (n - ds.length)
      rw [est]
      refine ⟨_, _, y, s', R0, hr0, fun cls d σ' H' Fs' R' E' L' ex => q cls d H' (E'.chg.mono fun a _ _ ⟨i, hi⟩ => ?_) ex⟩
      obtain ⟨G, hG, ha⟩ := getD_of hi
      rw [ol.pur0 hp G (List.mem_of_getElem? hG)] at ha
      cases ha
    · cases hf
end
section
variable [Tb] [Vs] {X : Cx} {W : WX} {lk : Nat → Bool} {e : Expr} {g : AL}
theorem rda_int {K : PySem.W.Frag} {H : Hp} {vs : List V} {i : Int} (h : RdA K H vs [.int i]) : vs = [.int i] := by
  cases h with
  | cons o h =>
    cases h
    cases o
    rfl
theorem rzf_raise {x fd : Str} {p pos pos' : Pos} {C fI : Addr} {k : Nat} {fdt : FuncData} {ps : List Str} (hc : X.calm = true) (tk : Takes X W) (T : OexC X.K C) (hno : PySem.W.findIn X.K (.ref C) fd = some none) (iC : PySem.W.findIn X.K (.ref C) "__init__" = some (some (.ref fI))) (tI : PySem.W.typeIn X.K (.ref fI) = some (.type "function"))
    (F1 : FnOk X.prog X.w X.K X.mg X.base (L2.CX X.prog X.w) k fI fdt ps (spXI X.K C fd)) (hr : Room (k + 1) X.A) (hb : Binds X.K fdt ps []) (hC : ClsN X.K x C) (hg : Gl X x) (hm : X.mg x = some (.ref C)) (ha : SimA X.nox [e] g)
    (hdb : (x == ("__debug__" : Str)) = false := by decide) (he : starEach [e] X.env = (false, eval e X.env) :: starEach [] X.env := by rfl) (hpl : (backTo pos (starEach [] X.env)).any (·.1) = false := by rfl) :
    RzSF X W lk (.Raise (some (.Call (.Name x p) [e] [] pos)) none pos') (zRaiseF x fd g) := ps_imp (ps_raise hc tk (pmk_oex (ds := []) (dvs := []) T iC tI F1 hr hb .nil passL hg hm (pa_nox ha) hdb he hpl)) fun D σ H z => by
  obtain ⟨s, Fs, y, s', R, ez, q⟩ := z
  unfold zRaiseF at ez
  split at ez
  · rename_i rs s1 hga
    split at ez
    · rename_i i hds
      cases ez
      refine ⟨s, Fs, rs, s', R, hga, fun vs H1 Fs1 Gs R1 E1 k1 n1 => ?_⟩
      have ev := rda_int (k1.dp R1 hds)
      subst ev
      refine ⟨(by show 1 ≤ 1000; decide), fun a na => ⟨a, i, rfl, T, hno, upd_same, fun dx nd ne => ?_⟩⟩
      have nd : H1 dx = none := by rwa [upd_ne ne] at nd
      refine ⟨rfl, dx, [(fd, .int i)], upd_same, by rw [upd_ne ne, upd_same], nd, ?_⟩
      have sm : ∀ b o, H1 b = some o → (upd (del (upd (upd (upd H1 a (exo a C none)) dx (exd dx [(fd, .int i)])) a (exo a C (some dx))) a) dx (.xd [(fd, .int i)])) b = some o := fun b o hbo => by
        have b1 : b ≠ a := fun z => by rw [z, na] at hbo; cases hbo
        have b2 : b ≠ dx := fun z => by rw [z, nd] at hbo; cases hbo
        rw [upd_ne b2, del_ne b1, upd_ne b1, upd_ne b2, upd_ne b1]
        exact hbo
      obtain ⟨R2, E2⟩ := R1.chgZ (Chg.same (Fa := fun _ => False) sm)
      exact q _ _ σ _ Fs1 R2 (E1.trans E2).r (.refl _ _) ⟨C, dx, hC, rfl, rfl, upd_same⟩
    · cases ez
  · cases ez
end
end Sim
namespace Sim
open PySem PySem.Spec L2
/-- isinstance(e, c), e the exception that the suite holds, with its field -/
def rIsF (K : PySem.W.Frag) (a : Addr) (cls : Value) (d : Option Addr) : List V → Hp → VK → Prop := fun xs H Q => ∃ (D dd : Addr) (fs : List (Str × V)) (c : V) (cv : Value) (b : Bool), cls = .ref D ∧ d = some dd ∧ H dd = some (.xd fs) ∧ ExcC K D ∧ xs = [.ref a, c] ∧ (∀ u, RelV c u → u = cv) ∧ PySem.W.kitOne K (.ref D) cv = some b ∧ Q (.bl b) H
section
variable {X : Cx} {i : Nat} {cs : List Str} {fd : Str} {c c2 : Expr} {rest : List Expr} {b b2 : ExnF → Bool} {pos : Pos}
end
section
variable [Tb] [Vs] {K : PySem.W.Frag} {H : Hp} {s : Sg} {σ : St} {Fs : Fp} {lk : Nat → Bool}
/-- a slot is told no more: it may hold anything -/
def dropF (Fs : Fp) (i : Nat) : Fp := fun j => if j = i then [] else Fs j
theorem dropF_mem {Fs : Fp} {i j : Nat} {a : Addr} (h : a ∈ dropF Fs i j) : a ∈ Fs j := by
  unfold dropF at h
  split at h
  · cases h
  · exact h
theorem set_none {s : Sg} {i : Nat} {d : D} : (s.set i none)[i]? ≠ some (some d) := fun z => by
  rw [List.getElem?_set_self'] at z
  cases e : s[i]? with
  | none => rw [e] at z; cases z
  | some o => rw [e] at z; cases z
theorem RelS.dropX {i : Nat} {v : Option V} (R : RelS K H s σ Fs) (hok : Vs.ok i) : RelS K H (s.set i none) (σ.set i v) (dropF Fs i) := by
  refine ⟨by rw [List.length_set, List.length_set]; exact R.len, fun j d e => ?_, fun j h => ?_, fun j k a h1 h2 => R.dis j k a (dropF_mem h1) (dropF_mem h2), ⟨(Vs.put hok).mpr R.lnk.1, R.lnk.2⟩, fun j h d e => ?_⟩
  · by_cases hj : i = j
    · subst hj
      exact absurd e set_none
    · rw [List.getElem?_set_ne hj] at e
      obtain ⟨u, hu, o⟩ := R.has j d e
      refine ⟨u, by rw [List.getElem?_set_ne hj]; exact hu, ?_⟩
      unfold dropF
      rw [if_neg (Ne.symm hj)]
      exact o
  · unfold dropF
    by_cases hj : j = i
    · rw [if_pos hj, hj]
      exact (Vs.nil hok).symm
    · rw [if_neg hj]
      exact R.off j fun d z => h d (by rw [List.getElem?_set_ne (Ne.symm hj)]; exact z)
  · by_cases hj : i = j
    · subst hj
      exact set_none e
    · rw [List.getElem?_set_ne hj] at e
      exact R.bse j h d e
theorem EvR.dropl {H' : Hp} {Fs' : Fp} {i : Nat} (e : EvR lk H (dropF Fs i) H' Fs') : EvR lk H Fs H' Fs' :=
  ⟨e.chg.mono fun a _ _ ⟨k, hk⟩ => ⟨k, dropF_mem hk⟩, fun j a h => (e.new j a h).imp (fun z => z.imp dropF_mem id) fun ⟨z, k, hk, w⟩ => ⟨z, k, hk, dropF_mem w⟩⟩
theorem EvR.dropr {H' : Hp} {Fs' : Fp} {i : Nat} (e : EvR lk H Fs H' Fs') : EvR lk H Fs H' (dropF Fs' i) := ⟨e.chg, fun j a h => e.new j a (dropF_mem h)⟩
theorem PostS.drop {D : Ends} {fl : Fl} {s' : Sg} {i : Nat} {v : Option V} (hlk : lk i = false) (hok : Vs.ok i) (q : PostS K lk D σ H Fs (s'.set i none) fl) :
    PostS K lk { nx := fun σ' H' => D.nx (σ'.set i none) H', rt := D.rt, bk := fun σ' H' => D.bk (σ'.set i none) H', ct := fun σ' H' => D.ct (σ'.set i none) H' } (σ.set i v) H (dropF Fs i) s' fl := by
  have L0 : Lk lk σ (σ.set i v) := .set hlk
  cases fl with
  | nx => exact fun σ' H' Fs' R' E' L' => q _ H' _ (R'.dropX hok) E'.dropl.dropr ((L0.trans L').trans (.set hlk))
  | bk => exact fun σ' H' Fs' R' E' L' => q _ H' _ (R'.dropX hok) E'.dropl.dropr ((L0.trans L').trans (.set hlk))
  | ct => exact fun σ' H' Fs' R' E' L' => q _ H' _ (R'.dropX hok) E'.dropl.dropr ((L0.trans L').trans (.set hlk))
  | rt d => exact fun u σ' H' Fs' F R' E' L' o n m => q u (σ'.set i none) H' _ F (R'.dropX hok) E'.dropl.dropr ((L0.trans L').trans (.set hlk)) o (fun a ha => (n a ha).imp id fun ⟨k, hk, w⟩ => ⟨k, hk, dropF_mem w⟩) fun k a hk ha => m k a hk (dropF_mem ha)
end
section
variable [Tb] [Vs] {X : Cx} {lk : Nat → Bool} {r : RzF} {g h : S} {body suite : List Stmt} {c : Expr} {np pos pos' ip : Pos} {x n fd : Str} {cv : Value} {cs : List Str} {i : Nat} {b : ExnF → Bool}
end
end Sim
namespace Sim
open PySem PySem.Spec L2
def oexB (K : PySem.W.Frag) (C : Addr) : Bool := match K.lookup C with
  | some ⟨.type "type", _, .cls cd, sl⟩ => (match cd.mro, sl.toList with
    | .ref C' :: bm, [_, _, _, _, some (.builtin n), _] => C' == C && n == "ValueError.__new__" && !cd.hasDel && cd.hasDict && PySem.HandSPX.refsVE bm
    | _, _ => false)
  | _ => false
theorem oexB_ok {K : PySem.W.Frag} {C : Addr} (q : oexB K C = true) : ∃ nm qn N bs bm sn sub ab col dd k0 k1 k2 k3 k5, K.lookup C = some (excClassObj nm qn C N bs bm true sn sub ab col dd k0 k1 k2 k3 k5 "ValueError.__new__") ∧ PySem.HandSPX.refsVE bm = true := by
  unfold oexB at q
  split at q
  · rename_i dd cd sl ho
    split at q
    · rename_i C' bm k0 k1 k2 k3 n k5 hm hs
      simp only [Bool.and_eq_true, beq_iff_eq, Bool.not_eq_true'] at q
      obtain ⟨⟨⟨⟨rfl, rfl⟩, hdel⟩, hdi⟩, hv⟩ := q
      obtain ⟨nm, bs, mro, ns, qn, hd, sn, sub, ab, col, del⟩ := cd
      dsimp only at hm hdel hdi
      subst hm hdel hdi
      have hsl : sl = #[k0, k1, k2, k3, some (.builtin "ValueError.__new__"), k5] := by
        obtain ⟨l⟩ := sl
        simp only at hs
        rw [hs]
      subst hsl
      exact ⟨nm, qn, ns, bs, bm, sn, sub, ab, col, dd, k0, k1, k2, k3, k5, ho, hv⟩
    · cases q
  · cases q
/-- C has its own __init__ at fI, its instances keep fd -/
def fldB (K : PySem.W.Frag) (C fI : Addr) (fd : Str) : Bool := oexB K C && decide (PySem.W.findIn K (.ref C) "__setattr__" = some (some (.builtin "object.__setattr__"))) && decide (PySem.W.subIn K (.ref C) (.type "BaseException") = some true) && decide (PySem.W.typeIn K (.ref C) = some (.type "type")) && PySem.W.keepIn K (.ref C) &&
  decide (PySem.W.findIn K (.ref C) fd = some none) && decide (PySem.W.findIn K (.ref C) "__init__" = some (some (.ref fI))) && decide (PySem.W.typeIn K (.ref fI) = some (.type "function"))
structure FldC (K : PySem.W.Frag) (C fI : Addr) (fd : Str) : Prop where
  ox : OexC K C
  no : PySem.W.findIn K (.ref C) fd = some none
  iC : PySem.W.findIn K (.ref C) "__init__" = some (some (.ref fI))
  tI : PySem.W.typeIn K (.ref fI) = some (.type "function")
theorem fldB_ok {K : PySem.W.Frag} {C fI : Addr} {fd : Str} (h : fldB K C fI fd = true) : FldC K C fI fd := by
  simp only [fldB, Bool.and_eq_true, decide_eq_true_eq] at h
  obtain ⟨⟨⟨⟨⟨⟨⟨h1, h2⟩, h3⟩, h4⟩, h5⟩, h6⟩, h7⟩, h8⟩ := h
  exact ⟨⟨oexB_ok h1, h2, h3, h4, h5⟩, h6, h7, h8⟩
/-- L.__init__ is ValueError's -/
def initB (K : PySem.W.Frag) (L : Addr) : Bool := decide (PySem.W.specialIn K (.ref L) "__getattribute__" = some (some (.builtin "type.__getattribute__"))) && PySem.W.readsIn K L (.type "type") && (match PySem.W.findCls K (.ref L) (.type "type") "__init__" with
  | some (.val (.builtin n)) => n == "ValueError.__init__"
  | _ => false)
structure InitC (K : PySem.W.Frag) (L : Addr) : Prop where
  ga : PySem.W.specialIn K (.ref L) "__getattribute__" = some (some (.builtin "type.__getattribute__"))
  rd : PySem.W.readsIn K L (.type "type") = true
  vi : PySem.W.findCls K (.ref L) (.type "type") "__init__" = some (.val (.builtin "ValueError.__init__"))
theorem initB_ok {K : PySem.W.Frag} {L : Addr} (h : initB K L = true) : InitC K L := by
  simp only [initB, Bool.and_eq_true, decide_eq_true_eq] at h
  obtain ⟨⟨h1, h2⟩, h3⟩ := h
  refine ⟨h1, h2, ?_⟩
  split at h3
  · rename_i n e
    rw [e, eq_of_beq h3]
  · cases h3
/-- what is asked of a caught one's class -/
def caughtB (K : PySem.W.Frag) (D : Addr) (fd : Str) : Bool := xfB K D && decide (PySem.W.findIn K (.ref D) fd = some none) && decide (PySem.W.findIn K (.ref D) "__class__" = some (some (.builtin "object.__class__"))) &&
  decide (PySem.W.specialIn K (.builtin "object.__class__") "__get__" = some (some (.builtin "getset_descriptor.__get__"))) && decide (PySem.W.takesIn K (.builtin "object.__class__") = some true) && decide (PySem.W.mroIn K D (.type "object") = some true)
structure CaughtC (K : PySem.W.Frag) (D : Addr) (fd : Str) : Prop where
  xf : XfC K D
  no : PySem.W.findIn K (.ref D) fd = some none
  ex : ExcC K D
theorem caughtB_ok {K : PySem.W.Frag} {D : Addr} {fd : Str} (h : caughtB K D fd = true) : CaughtC K D fd := by
  simp only [caughtB, Bool.and_eq_true, decide_eq_true_eq] at h
  obtain ⟨⟨⟨⟨⟨h1, h2⟩, h3⟩, h4⟩, h5⟩, h6⟩ := h
  have x := xfB_ok h1
  exact ⟨x, h2, ⟨x.ga, x.gg, x.exC, x.hdC, h3, h4, h5, h6⟩⟩
end Sim
namespace Sim
open PySem PySem.Spec L2
section
variable [Tb] [Vs] {X : Cx} {K : PySem.W.Frag} {σ : St} {H : Hp} {Q : VK}
end
end Sim
namespace L2
open PySem PySem.Spec PyProof.Rows
theorem Inv.keepPin {X : Cx} {pins : List (Addr × Obj)} {σ : St} {H : Hp} {s : Shared} {a : Addr} {q : Addr × Obj} (I : Inv (X.suite a (q :: (X.pn ++ pins))) [] σ H s) (ok : X.Ok) : Inv (X.tr (q :: (X.pn ++ pins)) X.xe) [] σ H s :=
  ⟨ok.toTry _ _, I.os, I.bare, I.base, I.loc, I.cell, I.free, I.freeC, I.pin, I.hok, I.len⟩
theorem Inv.dropPin {X : Cx} {pins : List (Addr × Obj)} {σ : St} {H : Hp} {s : Shared} {q : Addr × Obj} (I : Inv (X.tr (q :: (X.pn ++ pins)) X.xe) [] σ H s) (ok : X.Ok) : Inv X pins σ H s :=
  ⟨ok, I.os, I.bare, I.base, I.loc, I.cell, I.free, I.freeC, fun p hp => I.pin p (List.mem_append_left _ (List.mem_cons_of_mem _ hp)), I.hok, I.len⟩
/-- what the row wishes of an exception of the body: slot i is the clause's name's; tr: what stands behind -/
def wKeep (K : PySem.W.Frag) (c : Value) (i : Nat) (ts tr : Addr → Value → Option Addr → TS) (Wout : WX) (D : Ends) : WX := fun cls d σ H =>
  ∃ b, PySem.W.exmOne K cls c = some b ∧ (b = true → ∀ a, H a = none → ts a cls d { nx := fun σ' H' => tr a cls d D (σ'.set i none) H', rt := D.rt, bk := fun σ' H' => D.bk (σ'.set i none) H', ct := fun σ' H' => D.ct (σ'.set i none) H' } (σ.set i (some (.ref a))) H) ∧
    (b = false → Wout cls d σ H)
section
variable {X : Cx} {x n : Str} {c : Value} {i : Nat} {body suite rest : List Stmt} {b₀ : Stmt} {np pos pos' : Pos} {tb : WX → TS} {ts tr : Addr → Value → Option Addr → TS} {u0 : TS} {Wout : WX}
/-- behind the try statement -/
def KP (X : Cx) (pins : List (Addr × Obj)) (tr : Addr → Value → Option Addr → TS) (u0 : TS) (D : Ends) (f : Flow) (s' : Shared) : Prop := match f with
  | .next => (∃ σ H, Inv X pins σ H s' ∧ u0 D σ H) ∨ ∃ (a : Addr) (oe : Obj) (cls : Value) (d : Option Addr) (σ : St) (H : Hp), Zc cls d oe ∧ (∃ vs, oe.data = .fields vs) ∧ Inv (X.tr ((a, oe) :: (X.pn ++ pins)) X.xe) [] σ H s' ∧ tr a cls d D σ H
  | f => SP X pins D f s'
theorem sp_dropPin {pins : List (Addr × Obj)} {q : Addr × Obj} {D : Ends} {f : Flow} {s : Shared} (ok : X.Ok) (h : SP (X.tr (q :: (X.pn ++ pins)) X.xe) [] D f s) : SP X pins D f s := by
  cases f with
  | next => obtain ⟨σ, H, I, z⟩ := h; exact ⟨σ, H, I.dropPin ok, z⟩
  | brk => obtain ⟨σ, H, I, z⟩ := h; exact ⟨σ, H, I.dropPin ok, z⟩
  | cont => obtain ⟨σ, H, I, z⟩ := h; exact ⟨σ, H, I.dropPin ok, z⟩
  | ret u => obtain ⟨v, σ, H, I, r, z⟩ := h; exact ⟨v, σ, H, I.dropPin ok, r, z⟩
theorem pss_try_keep (hs : X.stack = X.env :: X.outer) (hf : X.env.frame = some X.env.locals) (hN : X.N.Nodup) (hi : X.N[i]? = some n) (hln : X.env.kindOf n = some .local) (hc : Names X x c) (tk : Takes X Wout)
    (hb : ∀ (W : WX) (pn : List (Addr × Obj)) (xe : Value → Shared → Prop), Takes (X.tr pn xe) W → PassesOwn (model X.prog X.w) X.A X.env xe → PSs (X.tr pn xe) body (tb W))
    (hsu : ∀ (a : Addr) (oe : Obj) (cls : Value) (d : Option Addr) (pn : List (Addr × Obj)), Zc cls d oe → (∃ vs, oe.data = .fields vs) → PSs (X.suite a ((a, oe) :: pn)) (b₀ :: suite) (ts a cls d))
    (hr0 : PSs X rest u0) (hr : ∀ (a : Addr) (oe : Obj) (cls : Value) (d : Option Addr) (pn : List (Addr × Obj)), Zc cls d oe → (∃ vs, oe.data = .fields vs) → PSs (X.tr ((a, oe) :: pn) X.xe) rest (tr a cls d)) :
    PSs X (.Try body [.ExceptHandler (some (.Name x np)) (some n) (b₀ :: suite) pos'] [] [] pos :: rest) (fun D σ H => tb (wKeep X.K c i ts tr Wout D) { D with nx := u0 D } σ H) := by
  refine ⟨fun pins s σ H D I h => ?_⟩
  have ok := I.ok
  refine wpAny_execs_cons (thn (Q := KP X pins tr u0 D) ?_ fun f s1 q => ?_)
  rotate_left
  · cases f with
    | next =>
      rcases q with ⟨σ', H', I', q⟩ | ⟨a, oe, cls, d, σ', H', hz, hfl, I', q⟩
      · exact hr0.run pins s1 σ' H' D I' q
      · exact wpAny_mono ((hr a oe cls d (X.pn ++ pins) hz hfl).run [] s1 σ' H' D I' q) (fun f s' z => sp_dropPin ok z) fun _ _ z => z
    | ret v => exact q
    | brk => exact q
    | cont => exact q
  have hfr : X.A.frames = some (X.env :: X.outer) := by rw [ok.frames, hs]
  have hloc : Loc X.env.scope n := .inl hln
  refine wpAny_Try_except ?_
  refine wpAny_mono ((hb (wKeep X.K c i ts tr Wout D) (X.pn ++ pins) (fun e s₁ => wpAny (model X.prog X.w) X.A (noteFrame e X.env) (fun _ s₂ => wpAny (model X.prog X.w) X.A (setFlight e none) (fun _ s₃ =>
    wpAny (model X.prog X.w) X.A (handleBy e X.env [.ExceptHandler (some (.Name x np)) (some n) (b₀ :: suite) pos']) (KP X pins tr u0 D) X.xe s₃) X.xe s₂) X.xe s₁) (fun u s' xx => ?_) PassesOwn.looking).run [] s σ H { D with nx := u0 D } (I.toTry _) h) (fun f s1 hsp => ?_) (fun e s1 he => he)
  · -- the catch
    obtain ⟨a, B, sI, pins', σ', H', cls, d, rfl, J', nb, up, sky, na, os, ag, b, hb1, hyes, hno⟩ := xx
    have J : Inv X pins σ' H' sI := J'.ofTry ok
    have sky' : Sky B (X.env :: X.outer) a (Zc cls d) X.env.locals s'.heap := by rw [← hs]; exact sky
    show wpAny (model X.prog X.w) X.A (noteFrame (.ref a) X.env) _ _ _
    refine Sky.land Zc.steady hfr hf sky' fun h3 fl3 up3 => ?_
    have J3 : Inv X pins σ' H' { s' with heap := h3 } := J.landed nb fl3.1 (up.trans up3) os ag
    obtain ⟨oe3, vs3, he3, hz3, hd3⟩ := fl3.there
    have notFr : ∀ {h : Heap} {o : Obj} {vs : Array Value}, h.FunFrames B (X.env :: X.outer) → h.get? a = some o → o.data = .fields vs → a ∉ frs (X.env :: X.outer) := fun {h o vs} ff e dd hm => by
      obtain ⟨_, o', e', hnf⟩ := ff.mem hm
      rw [e] at e'; cases e'
      exact hnf _ dd
    have nfr := notFr fl3.2.2.1 he3 hd3
    have nL : a ≠ X.env.locals := fun z => nfr (List.mem_filterMap.mpr ⟨X.env, List.mem_cons_self, by rw [hf, z]⟩)
    have nF : a ∉ X.fs := fun hm => by
      obtain ⟨e, he, q⟩ := List.mem_filterMap.mp hm
      exact nfr (List.mem_filterMap.mpr ⟨e, List.mem_cons_of_mem _ he, q⟩)
    have S3 := J3.suite he3 hd3 na nL nF
    refine wpAny_handleBy_cons (codeAny_handlers_test ?_) (by intro q; cases q)
    have LT : PySem.W.Looks (model X.prog X.w) h3 (typeOf (.ref a)) cls := fun A Q E s k q => wpAny_typeOf_ref (k _ _ he3) (by rw [hz3.1]; exact q)
    have LM := PySem.W.exm_one (M := model X.prog X.w) (J3.kIn) LT hb1
    have test : ∀ {Q : Value → Shared → Prop} {E : Value → Shared → Prop}, Q c { s' with heap := h3 } → wpAny (model X.prog X.w) (X.A.mark (some (.ref a))) (eval (.Name x np) X.env) Q E { s' with heap := h3 } := fun {Q E} q => by
      obtain ⟨hg, hdbg, hm | ⟨hm, hv, hnn⟩⟩ := hc
      · exact ld_glob (X := X.suite a ((a, oe3) :: (X.pn ++ pins))) S3 hg hm q hdbg
      · exact ld_blt (X := X.suite a ((a, oe3) :: (X.pn ++ pins))) S3 hg hm hv q hnn hdbg
    refine test (LM.here ?_)
    cases b with
    | true =>
      refine codeAny_handlers_suite_as ?_
      refine HandSPX.lands_againZ fl3 fun h4 fl4 up4 => ?_
      have J4 : Inv X pins σ' H' { s' with heap := h4 } := J.landed nb fl4.1 ((up.trans up3).trans up4) os ag
      obtain ⟨oe4, vs4, he4, hz4, hd4⟩ := fl4.there
      have S4 := J4.suite he4 hd4 na nL nF
      refine store_ok (X := X.suite a ((a, oe4) :: (X.pn ++ pins))) (v := .ref a) S4 hN hi hloc rfl (fun s5 S5 => ?_) (.inr hln)
      refine wpAny_mono ((hsu a oe4 cls d (X.pn ++ pins) hz4 ⟨_, hd4⟩).run [] s5 _ H' _ S5 (hyes rfl a na)) (fun f s6 hsp => ?_) (fun _ _ z => False.elim z)
      have end_ : ∀ {σ6 : St} {H6 : Hp} {Q : Shared → Prop}, Inv (X.suite a ((a, oe4) :: (X.pn ++ pins))) [] σ6 H6 s6 → (∀ s7, Inv (X.tr ((a, oe4) :: (X.pn ++ pins)) X.xe) [] (σ6.set i none) H6 s7 → Q s7) →
          wpAny (model X.prog X.w) X.A (do bindName X.env n .none; unbindBehindTheSuite X.env n pos') (fun _ s7 => Q s7) X.xe s6 := fun {σ6 H6 Q} S6 hq => gone_ok (X := X.tr ((a, oe4) :: (X.pn ++ pins)) X.xe) (S6.keepPin ok) hN hi hln hq
      cases f with
      | next =>
        obtain ⟨σ6, H6, S6, q6⟩ := hsp
        exact end_ S6 fun s7 J7 => .inr ⟨a, oe4, cls, d, _, _, hz4, ⟨_, hd4⟩, J7, q6⟩
      | brk =>
        obtain ⟨σ6, H6, S6, q6⟩ := hsp
        exact end_ S6 fun s7 J7 => ⟨_, _, J7.dropPin ok, q6⟩
      | cont =>
        obtain ⟨σ6, H6, S6, q6⟩ := hsp
        exact end_ S6 fun s7 J7 => ⟨_, _, J7.dropPin ok, q6⟩
      | ret u =>
        obtain ⟨v6, σ6, H6, S6, r6, q6⟩ := hsp
        exact end_ S6 fun s7 J7 => ⟨_, _, _, J7.dropPin ok, r6, q6⟩
    | false =>
      show wpAny _ X.A (handleBy (.ref a) X.env []) _ _ _
      refine wpAny_handleBy_nil ?_
      obtain ⟨k1, k2, k3, oe, vs, T, oT, ts', he, hz, hd, h1, hr⟩ := id fl3
      unfold PySem.passOn
      refine wpAny_bind (wpAny_field he hd h1 ?_)
      rw [if_neg (show ¬ ((Value.ref T == Value.none) = true) from by simp)]
      have fin : wpAny (model X.prog X.w) X.A (setFlight (.ref a) X.env.frame) (fun _ s4 => wpAny (model X.prog X.w) X.A (throw (.ref a) : Sem Flow) (KP X pins tr u0 D) X.xe s4) X.xe { s' with heap := h3 } := by
        rw [hf]
        refine HandSPX.setFlight_upZ fl3 fun h4 hh4 up4 => wpAny_throw (tk _ _ ?_)
        exact ⟨a, B, sI, pins, σ', H', cls, d, rfl, J, nb, (up.trans up3).trans up4, .inr (.inr (by rw [hs]; exact hh4)), na, os, ag, hno rfl⟩
      first
        | exact wpAny_bind (wpAny_pure (wpAny_bind fin))
        | exact wpAny_bind fin
  · cases f with
    | next =>
      obtain ⟨σ', H', J', q⟩ := hsp
      exact wpAny_execs_nil (.inl ⟨σ', H', J'.ofTry ok, q⟩)
    | brk =>
      obtain ⟨σ', H', J', q⟩ := hsp
      exact ⟨σ', H', J'.ofTry ok, q⟩
    | cont =>
      obtain ⟨σ', H', J', q⟩ := hsp
      exact ⟨σ', H', J'.ofTry ok, q⟩
    | ret u =>
      obtain ⟨v, σ', H', J', r, q⟩ := hsp
      exact ⟨v, σ', H', J'.ofTry ok, r, q⟩
end
end L2
namespace Sim
open PySem PySem.Spec L2
/-- the slot i holds the exception at a; its dict, at dd, stands -/
@[reducible] def keptVs (i : Nat) (a dd : Addr) (fs : List (Str × V)) : Vs where
  fp := fun j => if j = i then [dd] else []
  lnk := fun σ H => σ[i]? = some (some (.ref a)) ∧ H dd = some (.xd fs)
  ok := fun j => j ≠ i ∧ j ≠ i
  keep := fun {σ H H'} h k => ⟨h.1, (k i dd (by simp)).trans h.2⟩
  put := fun {σ H j v} hj => by rw [List.getElem?_set_ne hj.1]
  mem := fun {σ H j x} h hx => by
    by_cases e : j = i
    · rw [if_pos e] at hx
      rw [List.mem_singleton.mp hx]
      exact ⟨.xd fs, h.2⟩
    · rw [if_neg e] at hx
      cases hx
  nil := fun {j} hj => if_neg hj.1
section
variable {K : PySem.W.Frag} {H : Hp}
mutual
/-- no list, dict or object of ours is an exception's dict -/
theorem Own.noxd : ∀ {d : D} {v : V} {F : List Addr}, Own K H d v F → ∀ a, a ∈ F → ∀ fs, H a ≠ some (.xd fs)
  | _, _, _, .non, _, h => by simp at h
  | _, _, _, .bl b, _, h => by simp at h
  | _, _, _, .int b, _, h => by simp at h
  | _, _, _, .str b, _, h => by simp at h
  | _, _, _, .frz _ _, _, h => by simp at h
  | _, _, _, .frd _, _, h => by simp at h
  | _, _, _, .opq _, _, h => by simp at h
  | _, _, _, .dct e t _, a, h => by
    rcases List.mem_cons.mp h with rfl | h
    · intro fs z; rw [e] at z; cases z
    · exact OwnA.noxd t a h
  | _, _, _, .dcn e _ _, a, h => by rw [List.mem_singleton.mp h]; intro fs z; rw [e] at z; cases z
  | _, _, _, .frk e _, a, h => by rw [List.mem_singleton.mp h]; intro fs z; rw [e] at z; cases z
  | _, _, _, .frn e _ _, a, h => by rw [List.mem_singleton.mp h]; intro fs z; rw [e] at z; cases z
  | _, _, _, .ins _ e t _, a, h => by
    rcases List.mem_cons.mp h with rfl | h
    · intro fs z; rw [e] at z; cases z
    · exact OwnA.noxd t a h
  | _, _, _, .lst e t _, a, h => by
    rcases List.mem_cons.mp h with rfl | h
    · intro fs z; rw [e] at z; cases z
    · exact OwnA.noxd t a h
  | _, _, _, .tup _ t, a, h => OwnA.noxd t a h
theorem OwnA.noxd : ∀ {ds : List D} {vs : List V} {F : List Addr}, OwnA K H ds vs F → ∀ a, a ∈ F → ∀ fs, H a ≠ some (.xd fs)
  | _, _, _, .nil, _, h => by simp at h
  | _, _, _, .cons h1 t _, a, h => by
    rcases List.mem_append.mp h with h | h
    · exact Own.noxd h1 a h
    · exact OwnA.noxd t a h
end
end
def keepF (Fs : Fp) (i : Nat) (dd : Addr) : Fp := fun j => if j = i then [dd] else Fs j
theorem keepF_mem {Fs : Fp} {i j : Nat} {dd x : Addr} (h : x ∈ keepF Fs i dd j) : (j = i ∧ x = dd) ∨ (j ≠ i ∧ x ∈ Fs j) := by
  unfold keepF at h
  by_cases e : j = i
  · rw [if_pos e] at h
    exact .inl ⟨e, List.mem_singleton.mp h⟩
  · rw [if_neg e] at h
    exact .inr ⟨e, h⟩
section
variable [Tb] {K : PySem.W.Frag} {H H' : Hp} {s s' : Sg} {σ σ' : St} {Fs Fs' : Fp} {i : Nat} {a dd : Addr} {fs : List (Str × V)} {lk : Nat → Bool}
theorem RelS.noxd (R : @RelS _ noVs K H s σ Fs) {j : Nat} {x : Addr} (h : x ∈ Fs j) (fs : List (Str × V)) : H x ≠ some (.xd fs) := by
  by_cases e : ∃ d, s[j]? = some (some d)
  · obtain ⟨d, e⟩ := e
    obtain ⟨v, _, o⟩ := R.has j d e
    exact o.noxd x h fs
  · have := R.off j fun d z => e ⟨d, z⟩
    rw [this] at h
    cases h
theorem RelS.keep (R : @RelS _ noVs K H s σ Fs) (hi : i < σ.length) (hd : H dd = some (.xd fs)) : @RelS _ (keptVs i a dd fs) K H (s.set i none) (σ.set i (some (.ref a))) (keepF Fs i dd) := by
  refine @RelS.mk _ (keptVs i a dd fs) _ _ _ _ _ (by rw [List.length_set, List.length_set]; exact R.len) (fun j d e => ?_) (fun j h => ?_) (fun j k x h1 h2 => ?_) ⟨⟨by rw [List.getElem?_set_self hi], hd⟩, R.lnk.2⟩ (fun j h d e => ?_)
  · by_cases hj : i = j
    · subst hj
      exact absurd e set_none
    · rw [List.getElem?_set_ne hj] at e
      obtain ⟨u, hu, o⟩ := R.has j d e
      refine ⟨u, by rw [List.getElem?_set_ne hj]; exact hu, ?_⟩
      unfold keepF
      rw [if_neg (Ne.symm hj)]
      exact o
  · show keepF Fs i dd j = if j = i then [dd] else []
    unfold keepF
    by_cases hj : j = i
    · rw [if_pos hj, if_pos hj]
    · rw [if_neg hj, if_neg hj]
      exact R.off j fun d z => h d (by rw [List.getElem?_set_ne (Ne.symm hj)]; exact z)
  · rcases keepF_mem h1 with ⟨e1, x1⟩ | ⟨e1, x1⟩ <;> rcases keepF_mem h2 with ⟨e2, x2⟩ | ⟨e2, x2⟩
    · rw [e1, e2]
    · rw [x1] at x2; exact absurd hd (R.noxd x2 fs)
    · rw [x2] at x1; exact absurd hd (R.noxd x1 fs)
    · exact R.dis j k x x1 x2
  · have h : (if j = i then [dd] else []) ≠ ([] : List Addr) := h
    by_cases hj : i = j
    · subst hj
      exact set_none e
    · exact h (if_neg (Ne.symm hj))
theorem RelS.unkeep (R : @RelS _ (keptVs i a dd fs) K H s σ Fs) : @RelS _ noVs K H (s.set i none) σ (dropF Fs i) := by
  obtain ⟨rl, rh, ro, rd, rk, rb⟩ := R
  refine @RelS.mk _ noVs _ _ _ _ _ (by rw [List.length_set]; exact rl) (fun j d e => ?_) (fun j h => ?_) (fun j k x h1 h2 => rd j k x (dropF_mem h1) (dropF_mem h2)) ⟨trivial, rk.2⟩ (fun j h d e => absurd rfl h)
  · by_cases hj : i = j
    · subst hj
      exact absurd e set_none
    · rw [List.getElem?_set_ne hj] at e
      obtain ⟨u, hu, o⟩ := rh j d e
      refine ⟨u, hu, ?_⟩
      unfold dropF
      rw [if_neg (Ne.symm hj)]
      exact o
  · show dropF Fs i j = []
    unfold dropF
    by_cases hj : j = i
    · rw [if_pos hj]
    · rw [if_neg hj]
      have := ro j fun d z => h d (by rw [List.getElem?_set_ne (Ne.symm hj)]; exact z)
      rw [this]
      exact if_neg hj
theorem EvR.unkeep (hd : H dd = some (.xd fs)) (hF : Fs' i = [dd]) (hdis : ∀ j k x, x ∈ Fs' j → x ∈ Fs' k → j = k) (e : EvR lk H (keepF Fs i dd) H' Fs') : EvR lk H Fs H' (dropF Fs' i) := by
  refine ⟨⟨fun x o ex c => ?_, e.chg.there, e.chg.tab⟩, fun j x h => ?_⟩
  · rcases c with ⟨c1, c2⟩ | c
    · by_cases hx : x = dd
      · rw [hx] at ex ⊢
        refine e.chg.keep dd o ex (.inr ?_)
        rw [hd] at ex
        cases ex
        rfl
      · refine e.chg.keep x o ex (.inl ⟨fun ⟨k, hk⟩ => ?_, c2⟩)
        rcases keepF_mem hk with ⟨_, z⟩ | ⟨_, z⟩
        · exact hx z
        · exact c1 ⟨k, z⟩
    · exact e.chg.keep x o ex (.inr c)
  · have hj : j ≠ i := fun z => by
      unfold dropF at h
      rw [if_pos z] at h
      cases h
    have hx : x ≠ dd := fun z => hj (hdis j i x (dropF_mem h) (by rw [hF, z]; exact List.mem_singleton.mpr rfl))
    rcases e.new j x (dropF_mem h) with (w | w) | ⟨w1, k, w2, w3⟩
    · rcases keepF_mem w with ⟨z, _⟩ | ⟨_, z⟩
      · exact absurd z hj
      · exact .inl (.inl z)
    · exact .inl (.inr w)
    · rcases keepF_mem w3 with ⟨_, z⟩ | ⟨_, z⟩
      · exact absurd z hx
      · exact .inr ⟨w1, k, w2, z⟩
end
end Sim
namespace Sim
open PySem PySem.Spec L2
section
variable [Tb] {K : PySem.W.Frag} {H H' : Hp} {s s' : Sg} {σ σ' : St} {Fs Fs' : Fp} {i : Nat} {a dd : Addr} {fs : List (Str × V)} {lk : Nat → Bool}
theorem RelS.at_kept (R : @RelS _ (keptVs i a dd fs) K H s σ Fs) : Fs i = [dd] := by
  obtain ⟨rl, rh, ro, rd, rk, rb⟩ := R
  have hne : (if i = i then [dd] else []) ≠ ([] : List Addr) := by simp
  have := ro i fun d z => rb i hne d z
  rw [this]
  exact if_pos rfl
theorem RelS.kdis (R : @RelS _ (keptVs i a dd fs) K H s σ Fs) : ∀ j k x, x ∈ Fs j → x ∈ Fs k → j = k := by
  obtain ⟨rl, rh, ro, rd, rk, rb⟩ := R
  exact rd
theorem RelS.klnk (R : @RelS _ (keptVs i a dd fs) K H s σ Fs) : σ[i]? = some (some (.ref a)) ∧ H dd = some (.xd fs) := by
  obtain ⟨rl, rh, ro, rd, rk, rb⟩ := R
  exact rk.1
theorem PostS.keep {D : Ends} {fl : Fl} (hlk : lk i = false) (hd : H dd = some (.xd fs)) (q : @PostS _ noVs K lk D σ H Fs (s'.set i none) fl) :
    @PostS _ (keptVs i a dd fs) K lk D (σ.set i (some (.ref a))) H (keepF Fs i dd) s' fl := by
  have L0 : Lk lk σ (σ.set i (some (V.ref a))) := .set hlk
  cases fl with
  | nx => exact fun σ' H' Fs' R' E' L' => q _ H' _ R'.unkeep (E'.unkeep hd R'.at_kept R'.kdis) (L0.trans L')
  | bk => exact fun σ' H' Fs' R' E' L' => q _ H' _ R'.unkeep (E'.unkeep hd R'.at_kept R'.kdis) (L0.trans L')
  | ct => exact fun σ' H' Fs' R' E' L' => q _ H' _ R'.unkeep (E'.unkeep hd R'.at_kept R'.kdis) (L0.trans L')
  | rt d =>
    refine fun v σ' H' Fs' F R' E' L' o n m => q v σ' H' _ F R'.unkeep (E'.unkeep hd R'.at_kept R'.kdis) (L0.trans L') o (fun x hx => ?_) fun k x hk hx => m k x hk (dropF_mem hx)
    rcases n x hx with z | ⟨k, hk, w⟩
    · exact .inl z
    · rcases keepF_mem w with ⟨_, z⟩ | ⟨_, z⟩
      · rw [z] at hx
        exact absurd R'.klnk.2 (o.noxd dd hx fs)
      · exact .inr ⟨k, hk, z⟩
end
/-- isinstance(e, c), e an exception that stands -/
theorem call_isP {Y : Cx} {a : Addr} {oe : Obj} {cls : Value} {d : Option Addr} (hp : (a, oe) ∈ Y.pn) (hz : Zc cls d oe) (hf : ∃ vs, oe.data = .fields vs) : CallR Y (.builtin "isinstance") (rIsF Y.K a cls d) := by
  intro pins s σ H xs us Q I r h
  obtain ⟨D, dd, fs, c, cv, b, ec, ed, hdd, C, rfl, hcv, e, q⟩ := h
  subst ec
  subst ed
  cases r with
  | cons rx rr =>
    cases rr with
    | cons rt rr =>
      cases rr
      cases rx
      have ec := hcv _ rt
      subst ec
      obtain ⟨hget, _⟩ := I.pin (a, oe) (List.mem_append.mpr (.inl hp))
      obtain ⟨vs, hv⟩ := hf
      have hx : ObjOk Y.prog Y.w H s.heap dd (.xd fs) := I.hok dd _ hdd
      obtain ⟨mA, hns, _⟩ := hx
      obtain ⟨od, ho, _⟩ := lookIn_ns hns
      have J : PySem.W.InstAt s.heap a oe D (some od) := ⟨hget, hz.1, by unfold PySem.W.notCls; rw [hv] <;> rfl, by rw [hz.2]; exact ho⟩
      exact PySem.W.kia_one (PySem.W.kitx_exc (by obtain ⟨cd, hc, _⟩ := PySem.W.any_some C.hd; rw [hc]; rfl) C.hg C.hk C.hs C.ha C.hn C.ht C.hm) I.kIn J e (fun z => nomatch z) fun tk => ⟨.bl b, H, I.kept (t' := tk) fun _ _ z => z, rfl, q⟩
section
variable [Tb] {Y : Cx} {i : Nat} {a dd C : Addr} {oe : Obj} {fs : List (Str × V)} {nm : Str} {p p1 p2 pos : Pos}
/-- .. y a built-in class -/
theorem st_isB {y : Str} {T : String} {b : Bool} (hp : (a, oe) ∈ Y.pn) (hz : Zc (.ref C) (some dd) oe) (hf : ∃ vs, oe.data = .fields vs) (hC : ExcC Y.K C) (hk : PySem.W.kitOne Y.K (.ref C) (.type T) = some b)
    (hN : Y.N[i]? = some nm) (hv : Vis Y.env.scope nm) (hgi : Gl Y "isinstance") (hmi : Y.mg "isinstance" = none) (hg : Gl Y y) (hm : Y.mg y = none) (hb : bootBuiltins y = some (.type T)) (hn : y ≠ "__name__" := by decide)
    (h1 : (nm == ("__debug__" : Str)) = false := by decide) (h2 : (nm == ("__classdict__" : Str)) = false := by decide) (h3 : (y == ("__debug__" : Str)) = false := by decide)
    (he : starEach [.Name nm p1, .Name y p2] Y.env = (false, eval (.Name nm p1) Y.env) :: starEach [.Name y p2] Y.env := by rfl) (he2 : starEach [.Name y p2] Y.env = (false, eval (.Name y p2) Y.env) :: starEach [] Y.env := by rfl) (hpl : (backTo pos (starEach [.Name y p2] Y.env)).any (·.1) = false := by rfl)
    (ht : ∀ whole, isTrue (.Call (.Name "isinstance" p) [.Name nm p1, .Name y p2] [] pos) Y.env whole = (do let v ← whole; standAt pos; holding [v] (truthy v)) := by intro _; rfl) :
    @SimT _ (keptVs i a dd fs) Y (.Call (.Name "isinstance" p) [.Name nm p1, .Name y p2] [] pos) (fun s => .ok b s) :=
  pt_imp (pt_val (pe_callB (call_isP hp hz hf) hgi hmi rfl (pa_cons (pe_var hN hv h1 h2) (pa_cons (pe_bltn (v := .ty T) hg hm hb rfl hn h3) pa_nil he2) he) (by decide) (by decide) he hpl) ht) fun σ H Q z => by
    obtain ⟨s, Fs, b', s', R, e, q⟩ := z
    cases e
    exact ⟨.ref a, R.klnk.1, C, dd, fs, .ty T, .type T, _, rfl, rfl, R.klnk.2, hC, rfl, fun u z => z, hk, _, rfl, q H Fs R (.refl _ _)⟩
/-- e.f -/
theorem so_fldP {fd : Str} {v : Int} (hp : (a, oe) ∈ Y.pn) (hz : Zc (.ref C) (some dd) oe) (hf : ∃ vs, oe.data = .fields vs) (T : XfC Y.K C) (hno : PySem.W.findIn Y.K (.ref C) fd = some none) (hN : Y.N[i]? = some nm) (hv : Vis Y.env.scope nm)
    (h1 : (nm == ("__debug__" : Str)) = false := by decide) (h2 : (nm == ("__classdict__" : Str)) = false := by decide) (hb : attributeBase (.Name nm p1) fd Y.env (eval (.Name nm p1) Y.env) = eval (.Name nm p1) Y.env := by rfl) :
    @SimO _ (keptVs i a dd [(fd, .int v)]) Y (.Attribute (.Name nm p1) fd pos) (oC (.int v)) := by
  refine ⟨fun pins s σ H Q I z => ?_⟩
  obtain ⟨s0, Fs, r, s', R, e, q⟩ := z
  cases e
  have hv0 : PE Y (.Name nm p1) (tVar i) := pe_var hN hv h1 h2
  refine attr_of hb (thn (hv0.run pins s σ H (fun x H1 => x = .ref a ∧ H1 = H) I ⟨.ref a, R.klnk.1, rfl, rfl⟩) fun u s1 ⟨x, H1, I1, rx, ex, eH⟩ => ?_)
  subst ex
  subst eH
  obtain rfl : u = Value.ref a := rx
  obtain ⟨ha, _⟩ := I1.pin (a, oe) (List.mem_append_left _ hp)
  obtain ⟨vs, hd⟩ := hf
  have hx : ObjOk Y.prog Y.w H1 s1.heap dd (.xd [(fd, .int v)]) := I1.hok dd _ R.klnk.2
  obtain ⟨mA, hns, hr⟩ := hx
  obtain ⟨od, ho, hl⟩ := lookIn_ns hns
  have hlk : List.lookup fd [(fd, V.int v)] = some (.int v) := by simp [List.lookup]
  obtain ⟨u, hu, ru⟩ := RelO.some_of (v := V.int v) (o := mA fd) (by rw [← hlk]; exact hr fd)
  have J : PySem.W.InstAt s1.heap a oe C (some od) := ⟨ha, hz.1, by unfold PySem.W.notCls; rw [hd] <;> rfl, by rw [hz.2]; exact ho⟩
  exact HandSPX.exc_get I1.kIn J T.ga T.gg T.exC (PySem.W.findObj_own T.hdC hno rfl (by rw [hl, hu])) (handed_of ru) ⟨.int v, H1, I1.tok _, ru, q _ H1 Fs [] R (.refl _ _) (.val ⟨.int _, fun _ _ _ z => by cases z⟩) (by intro a h; cases h)⟩
end
/-- isinstance(e, (c, ..)) -/
def rIsT (K : PySem.W.Frag) (a : Addr) (cls : Value) (d : Option Addr) : List V → Hp → VK → Prop := fun xs H Q => ∃ (D dd : Addr) (fs : List (Str × V)) (tp : Addr) (vs : List V) (its : List Value) (b : Bool), cls = .ref D ∧ d = some dd ∧ H dd = some (.xd fs) ∧ ExcC K D ∧ xs = [.ref a, .ref tp] ∧ SqT K H tp vs ∧ (∀ us, Vals vs us → us = its) ∧ PySem.W.kitAny K (.ref D) its = some b ∧ Q (.bl b) H
theorem call_isT {Y : Cx} {a : Addr} {oe : Obj} {cls : Value} {d : Option Addr} (hp : (a, oe) ∈ Y.pn) (hz : Zc cls d oe) (hf : ∃ vs, oe.data = .fields vs) : CallR Y (.builtin "isinstance") (rIsT Y.K a cls d) := by
  intro pins s σ H xs us Q I r h
  obtain ⟨D, dd, fs, tp, vs, its, b, ec, ed, hdd, C, rfl, hsq, hits, e, q⟩ := h
  subst ec
  subst ed
  cases r with
  | cons rx rr =>
    cases rr with
    | cons rt rr =>
      cases rr
      cases rx
      cases rt
      obtain ⟨hget, _⟩ := I.pin (a, oe) (List.mem_append.mpr (.inl hp))
      obtain ⟨vs', hv⟩ := hf
      have hx : ObjOk Y.prog Y.w H s.heap dd (.xd fs) := I.hok dd _ hdd
      obtain ⟨mA, hns, _⟩ := hx
      obtain ⟨od, ho, _⟩ := lookIn_ns hns
      have J : PySem.W.InstAt s.heap a oe D (some od) := ⟨hget, hz.1, by unfold PySem.W.notCls; rw [hv] <;> rfl, by rw [hz.2]; exact ho⟩
      obtain ⟨its', rv, ⟨o, eo, oc, n, od'⟩, _⟩ := I.tuple hsq
      have ei := hits _ rv
      subst ei
      obtain ⟨c0, d0, dt, sl⟩ := o
      dsimp only at oc od'
      subst oc od'
      exact PySem.W.kia_tup (PySem.W.kitx_exc (by obtain ⟨cd, hc, _⟩ := PySem.W.any_some C.hd; rw [hc]; rfl) C.hg C.hk C.hs C.ha C.hn C.ht C.hm) I.kIn J eo e (fun z => nomatch z) fun tk => ⟨.bl b, H, I.kept (t' := tk) fun _ _ z => z, rfl, q⟩
end Sim
namespace Sim
open PySem PySem.Spec L2
/-- try: body, except x as n: name = n; and what stands behind -/
def sTryK (cs : List Str) (fd : Str) (ci ei : Nat) (r : RzF) (g rest0 : S) (restx : ExnF → S) : S := fun s => match r s with
  | some (x, s1) => if cs.contains x.1 = true ∧ x.2.1 = fd ∧ ci < s1.length ∧ ei < s1.length then (match restx x ((s1.set ei none).set ci none) with
      | .ok fl s2 => .ok fl (s2.set ci none)
      | e => e) else .bad
  | none => sSeq g rest0 s
section
variable [Tb] {K : PySem.W.Frag} {H : Hp} {s' : Sg} {σ : St} {Fs : Fp} {lk : Nat → Bool} {i : Nat} {D : Ends} {fl : Fl}
theorem PostS.drop1 {v : Option V} (hlk : lk i = false) (q : @PostS _ noVs K lk D σ H Fs s' fl) : @PostS _ noVs K lk D (σ.set i v) H (dropF Fs i) s' fl := by
  have L0 : Lk lk σ (σ.set i v) := .set hlk
  cases fl with
  | nx => exact fun σ' H' Fs' R' E' L' => q _ H' _ R' E'.dropl (L0.trans L')
  | bk => exact fun σ' H' Fs' R' E' L' => q _ H' _ R' E'.dropl (L0.trans L')
  | ct => exact fun σ' H' Fs' R' E' L' => q _ H' _ R' E'.dropl (L0.trans L')
  | rt d => exact fun u σ' H' Fs' F R' E' L' o n m => q u σ' H' _ F R' E'.dropl (L0.trans L') o (fun a ha => (n a ha).imp id fun ⟨k, hk, w⟩ => ⟨k, hk, dropF_mem w⟩) m
end
section
variable [Tb] {X : Cx} {lk : Nat → Bool} {r : RzF} {g rest0 : S} {restx : ExnF → S} {body rest : List Stmt} {np pos pos' ap cp ep : Pos} {x n cn fd : Str} {cv : Value} {cs : List Str} {ci ei : Nat}
theorem sss_tryK (hs : X.stack = X.env :: X.outer) (hf : X.env.frame = some X.env.locals) (hN : X.N.Nodup) (hi : X.N[ei]? = some n) (hln : X.env.kindOf n = some .local) (hci : X.N[ci]? = some cn) (hcx : Loc X.env.scope cn) (hne : ci ≠ ei) (hvis : Vis X.env.scope n) (hc : Names X x cv)
    (hm : ∀ n, n ∈ cs → ∀ C, ClsN X.K n C → PySem.W.exmOne X.K (.ref C) cv = some true) (hle : lk ei = false) (hlc : lk ci = false) (hg : @SimSs _ noVs X.nox lk body g)
    (hr : ∀ (W : WX) (pn : List (Addr × Obj)) (xe : Value → Shared → Prop), Takes (X.tr pn xe) W → @RzSsF _ noVs (X.tr pn xe) W lk body r) (hr0 : @SimSs _ noVs X lk rest rest0)
    (hrx : ∀ (y : ExnF) (a : Addr) (oe : Obj) (C dd : Addr) (pn : List (Addr × Obj)), cs.contains y.1 = true → y.2.1 = fd → ClsN X.K y.1 C → Zc (.ref C) (some dd) oe → (∃ vs, oe.data = .fields vs) → @SimSs _ (keptVs ci a dd [(fd, .int y.2.2)]) (X.tr ((a, oe) :: pn) X.xe) lk rest (restx y))
    (hsw : swapsWith (.Name n ep) (some (.Name cn cp)) ap.line X.env = pure false := by rfl) (hfn : X.fn cn = true ∨ X.env.scope.names.lookup cn = some .local := by first | exact .inl rfl | exact .inr rfl | assumption) (hd1 : (n == ("__debug__" : Str)) = false := by decide) (hd2 : (n == ("__classdict__" : Str)) = false := by decide) :
    @SimSs _ noVs X lk (.Try body [.ExceptHandler (some (.Name x np)) (some n) [.Assign [.Name cn cp] (.Name n ep) ap] pos'] [] [] pos :: rest) (sTryK cs fd ci ei r g rest0 restx) := ⟨fun pins s σ H D I z => by
  obtain ⟨s0, Fs, fl, s', R, e, q⟩ := z
  unfold sTryK at e
  split at e
  · rename_i y s1 hy
    split at e
    · rename_i hcs
      obtain ⟨h1, h2, h3, h5⟩ := hcs
      refine (pss_try_keep (tb := fun W => @tZF _ noVs X.K lk W r) (ts := fun _ _ _ => tAsg (tVar ei) (gName ci)) (tr := fun a cls d => fun D σ H => ∃ (y : ExnF) (C dd : Addr), cs.contains y.1 = true ∧ y.2.1 = fd ∧ ClsN X.K y.1 C ∧ cls = .ref C ∧ d = some dd ∧ @tS _ (keptVs ci a dd [(fd, .int y.2.2)]) X.K lk (restx y) D σ H) (u0 := @tS _ noVs X.K lk rest0) (Wout := fun _ _ _ _ => False) hs hf hN hi hln hc takes0 (fun W pn xe tk _ => hr W pn xe tk) (fun a oe cls d pn hz hfl => pss_one (ps_set (X := X.suite a ((a, oe) :: pn)) hN hci hcx (pe_var hi hvis hd1 hd2) hsw hfn)) hr0 (fun a oe cls d pn hz hfl => ⟨fun pins s σ H D I z => by
        obtain ⟨y, C, dd, g1, g2, g3, rfl, rfl, z⟩ := z
        exact (hrx y a oe C dd pn g1 g2 g3 hz hfl).run pins s σ H D I z⟩)).run pins s σ H D I ?_
      refine ⟨s0, Fs, y, s1, R, hy, fun cls d σ' H' Fs' R' E' L' ex => ?_⟩
      obtain ⟨C, dd, hC, rfl, rfl, hdd⟩ := ex
      refine ⟨true, hm y.1 (by simpa using h1) C hC, fun _ a _ => ?_, fun z => by cases z⟩
      rw [h2] at hdd
      split at e
      · rename_i fl2 s2 h4
        cases e
        have q2 : @PostS _ noVs X.K lk D σ' H' Fs' (s2.set ci none) fl := q.from (fun _ z => z) E' L'
        have hlen : ei < σ'.length := by rw [← R'.len]; exact h5
        refine ⟨.ref a, by rw [List.getElem?_set_self hlen], y, C, dd, h1, h2, hC, rfl, rfl, ?_⟩
        have es : ((σ'.set ei (some (V.ref a))).set ci (some (V.ref a))).set ei none = (σ'.set ei none).set ci (some (V.ref a)) := by
          rw [List.set_comm _ _ hne, List.set_set]
        rw [es]
        have R2 := @RelS.dropX _ noVs X.K H' s1 σ' Fs' ei none R' trivial
        exact ⟨_, _, fl, s2, R2.keep (by rw [List.length_set, ← R'.len]; exact h3) hdd, h4, (q2.drop1 hle).keep hlc hdd⟩
      · rename_i ne
        exact absurd e (ne _ _)
    · cases e
  · exact (@ss_cons _ noVs _ _ _ _ _ _ (ps_try_thru0 hg) hr0).run pins s σ H D I ⟨s0, Fs, fl, s', R, e, q⟩⟩
end
end Sim
namespace Sim
open PySem PySem.Spec L2
/-- names of the program's classes, one by one -/
def tCl (as : List Addr) : TA := fun _ H Q => Q (as.map V.ref) H
section
variable {Y : Cx} {es : List Expr} {as : List Addr}
theorem pa_cl0 : PA Y [] (tCl []) := pa_imp pa_nil fun _ _ _ h => h
theorem pa_cl1 {y : Str} {A : Addr} {p : Pos} (hg : Gl Y y) (hm : Y.mg y = some (.ref A)) (h : PA Y es (tCl as)) (hd : (y == ("__debug__" : Str)) = false := by decide) (hs : starEach (.Name y p :: es) Y.env = (false, eval (.Name y p) Y.env) :: starEach es Y.env := by rfl) :
    PA Y (.Name y p :: es) (tCl (A :: as)) := pa_imp (pa_cons (pe_glob (v := .ref A) hg hm rfl hd) h hs) fun _ _ _ h => h
end
theorem refs_only : ∀ {as : List Addr} {us : List Value}, Vals (as.map V.ref) us → us = as.map Value.ref
  | [], _, h => by cases h; rfl
  | a :: as, _, h => by
    cases h with
    | cons r rs =>
      cases r
      rw [refs_only rs]
      rfl
theorem new_same [Tb] [Vs] {K : PySem.W.Frag} {H : Hp} {s : Sg} {σ : St} {Fs : Fp} {p : Addr} {o : HO} (R : RelS K H s σ Fs) (np : H p = none) : RelS K (upd H p o) s σ Fs ∧ Ev H Fs (upd H p o) Fs :=
  R.chgZ (Chg.same (Fa := fun _ => False) fun b ob hb => by rw [upd_ne (fun z => by rw [z, np] at hb; cases hb)]; exact hb)
section
variable [Tb] {Y : Cx} {i : Nat} {a dd C : Addr} {oe : Obj} {fs : List (Str × V)} {nm : Str} {p p1 p2 pos : Pos} {es : List Expr} {as : List Addr} {b : Bool} {k : Nat}
/-- isinstance(e, (c, ..)), e the kept exception -/
theorem st_isT (hp : (a, oe) ∈ Y.pn) (hz : Zc (.ref C) (some dd) oe) (hf : ∃ vs, oe.data = .fields vs) (hC : ExcC Y.K C) (hk : PySem.W.kitAny Y.K (.ref C) (as.map Value.ref) = some b) (hl : as.length ≤ 1000)
    (hN : Y.N[i]? = some nm) (hv : Vis Y.env.scope nm) (hgi : Gl Y "isinstance") (hmi : Y.mg "isinstance" = none) (ha : PA Y es (tCl as))
    (h1 : (nm == ("__debug__" : Str)) = false := by decide) (h2 : (nm == ("__classdict__" : Str)) = false := by decide)
    (he : starEach [.Name nm p1, .Tuple es k p2] Y.env = (false, eval (.Name nm p1) Y.env) :: starEach [.Tuple es k p2] Y.env := by rfl) (he2 : starEach [.Tuple es k p2] Y.env = (false, eval (.Tuple es k p2) Y.env) :: starEach [] Y.env := by rfl) (hpl : (backTo pos (starEach [.Tuple es k p2] Y.env)).any (·.1) = false := by rfl)
    (ht : ∀ whole, isTrue (.Call (.Name "isinstance" p) [.Name nm p1, .Tuple es k p2] [] pos) Y.env whole = (do let v ← whole; standAt pos; holding [v] (truthy v)) := by intro _; rfl) :
    @SimT _ (keptVs i a dd fs) Y (.Call (.Name "isinstance" p) [.Name nm p1, .Tuple es k p2] [] pos) (fun s => .ok b s) :=
  pt_imp (pt_val (pe_callB (call_isT hp hz hf) hgi hmi rfl (pa_cons (pe_var hN hv h1 h2) (pa_cons (pe_tup ha) pa_nil he2) he) (by decide) (by decide) he hpl) ht) fun σ H Q z => by
    obtain ⟨s, Fs, b', s', R, e, q⟩ := z
    cases e
    refine ⟨.ref a, R.klnk.1, by rw [List.length_map, sizeLine_eq]; omega, fun tp np => ?_⟩
    obtain ⟨R2, E2⟩ := @new_same _ (keptVs i a dd fs) _ _ _ _ _ tp (.tup (as.map V.ref)) R np
    exact ⟨C, dd, fs, tp, as.map V.ref, as.map Value.ref, _, rfl, rfl, R2.klnk.2, hC, rfl, .inl (.inl upd_same), fun us z => refs_only z, hk, _, rfl, q _ Fs R2 E2⟩
end
def rIsN (K : PySem.W.Frag) : List V → Hp → VK → Prop := fun xs H Q => ∃ (c : V) (cv : Value) (b : Bool), xs = [.non, c] ∧ (∀ u, RelV c u → u = cv) ∧ PySem.W.kitOne K (.type "NoneType") cv = some b ∧ Q (.bl b) H
theorem call_isN {Y : Cx} : CallR Y (.builtin "isinstance") (rIsN Y.K) := by
  intro pins s σ H xs us Q I r h
  obtain ⟨c, cv, b, rfl, hcv, e, q⟩ := h
  cases r with
  | cons rx rr =>
    cases rr with
    | cons rt rr =>
      cases rr
      cases rx
      have ec := hcv _ rt
      subst ec
      exact PySem.W.kia_one PySem.W.kitx_none I.kIn trivial e (fun z => nomatch z) fun tk => ⟨.bl b, H, I.kept (t' := tk) fun _ _ z => z, rfl, q⟩
def rIsNT (K : PySem.W.Frag) : List V → Hp → VK → Prop := fun xs H Q => ∃ (tp : Addr) (vs : List V) (its : List Value) (b : Bool), xs = [.non, .ref tp] ∧ SqT K H tp vs ∧ (∀ us, Vals vs us → us = its) ∧ PySem.W.kitAny K (.type "NoneType") its = some b ∧ Q (.bl b) H
theorem call_isNT {Y : Cx} : CallR Y (.builtin "isinstance") (rIsNT Y.K) := by
  intro pins s σ H xs us Q I r h
  obtain ⟨tp, vs, its, b, rfl, hsq, hits, e, q⟩ := h
  cases r with
  | cons rx rr =>
    cases rr with
    | cons rt rr =>
      cases rr
      cases rx
      cases rt
      obtain ⟨its', rv, ⟨o, eo, oc, n, od'⟩, _⟩ := I.tuple hsq
      have ei := hits _ rv
      subst ei
      obtain ⟨c0, d0, dt, sl⟩ := o
      dsimp only at oc od'
      subst oc od'
      exact PySem.W.kia_tup PySem.W.kitx_none I.kIn trivial eo e (fun z => nomatch z) fun tk => ⟨.bl b, H, I.kept (t' := tk) fun _ _ z => z, rfl, q⟩
/-- a test of a name that holds None -/
def tNone (i : Nat) (b : Bool) : T := fun s => match (s[i]?).join with
  | some .none => .ok b s
  | _ => .bad
section
variable [Tb] [Vs] {Y : Cx} {i : Nat} {nm y : Str} {p p1 p2 pos : Pos} {es : List Expr} {as : List Addr} {b : Bool} {k : Nat} {σ : St} {H : Hp} {Q : Bool → Hp → Prop}
theorem tT_none (z : tT Y.K (tNone i b) σ H Q) : ∃ s Fs, RelS Y.K H s σ Fs ∧ σ[i]? = some (some .non) ∧ ∀ H' Fs', RelS Y.K H' s σ Fs' → Ev H Fs H' Fs' → Q b H' := by
  obtain ⟨s, Fs, b', s', R, e, q⟩ := z
  unfold tNone at e
  split at e
  · rename_i hj
    cases e
    obtain ⟨v, hv, o⟩ := R.has i .none (join_some hj)
    generalize Fs i = F at o
    cases o
    exact ⟨_, Fs, R, hv, q⟩
  · cases e
theorem st_isNB {T : String} (hk : PySem.W.kitOne Y.K (.type "NoneType") (.type T) = some b) (hN : Y.N[i]? = some nm) (hv : Vis Y.env.scope nm) (hgi : Gl Y "isinstance") (hmi : Y.mg "isinstance" = none) (hg : Gl Y y) (hm : Y.mg y = none) (hb : bootBuiltins y = some (.type T)) (hn : y ≠ "__name__" := by decide)
    (h1 : (nm == ("__debug__" : Str)) = false := by decide) (h2 : (nm == ("__classdict__" : Str)) = false := by decide) (h3 : (y == ("__debug__" : Str)) = false := by decide)
    (he : starEach [.Name nm p1, .Name y p2] Y.env = (false, eval (.Name nm p1) Y.env) :: starEach [.Name y p2] Y.env := by rfl) (he2 : starEach [.Name y p2] Y.env = (false, eval (.Name y p2) Y.env) :: starEach [] Y.env := by rfl) (hpl : (backTo pos (starEach [.Name y p2] Y.env)).any (·.1) = false := by rfl)
    (ht : ∀ whole, isTrue (.Call (.Name "isinstance" p) [.Name nm p1, .Name y p2] [] pos) Y.env whole = (do let v ← whole; standAt pos; holding [v] (truthy v)) := by intro _; rfl) :
    SimT Y (.Call (.Name "isinstance" p) [.Name nm p1, .Name y p2] [] pos) (tNone i b) :=
  pt_imp (pt_val (pe_callB call_isN hgi hmi rfl (pa_cons (pe_var hN hv h1 h2) (pa_cons (pe_bltn (v := .ty T) hg hm hb rfl hn h3) pa_nil he2) he) (by decide) (by decide) he hpl) ht) fun σ H Q z => by
    obtain ⟨s, Fs, R, e, q⟩ := tT_none z
    exact ⟨.non, e, .ty T, .type T, _, rfl, fun u z => z, hk, _, rfl, q H Fs R (.refl _ _)⟩
theorem st_isNT (hk : PySem.W.kitAny Y.K (.type "NoneType") (as.map Value.ref) = some b) (hl : as.length ≤ 1000) (hN : Y.N[i]? = some nm) (hv : Vis Y.env.scope nm) (hgi : Gl Y "isinstance") (hmi : Y.mg "isinstance" = none) (ha : PA Y es (tCl as))
    (h1 : (nm == ("__debug__" : Str)) = false := by decide) (h2 : (nm == ("__classdict__" : Str)) = false := by decide)
    (he : starEach [.Name nm p1, .Tuple es k p2] Y.env = (false, eval (.Name nm p1) Y.env) :: starEach [.Tuple es k p2] Y.env := by rfl) (he2 : starEach [.Tuple es k p2] Y.env = (false, eval (.Tuple es k p2) Y.env) :: starEach [] Y.env := by rfl) (hpl : (backTo pos (starEach [.Tuple es k p2] Y.env)).any (·.1) = false := by rfl)
    (ht : ∀ whole, isTrue (.Call (.Name "isinstance" p) [.Name nm p1, .Tuple es k p2] [] pos) Y.env whole = (do let v ← whole; standAt pos; holding [v] (truthy v)) := by intro _; rfl) :
    SimT Y (.Call (.Name "isinstance" p) [.Name nm p1, .Tuple es k p2] [] pos) (tNone i b) :=
  pt_imp (pt_val (pe_callB call_isNT hgi hmi rfl (pa_cons (pe_var hN hv h1 h2) (pa_cons (pe_tup ha) pa_nil he2) he) (by decide) (by decide) he hpl) ht) fun σ H Q z => by
    obtain ⟨s, Fs, R, e, q⟩ := tT_none z
    refine ⟨.non, e, by rw [List.length_map, sizeLine_eq]; omega, fun tp np => ?_⟩
    obtain ⟨R2, E2⟩ := new_same (p := tp) (o := .tup (as.map V.ref)) R np
    exact ⟨tp, as.map V.ref, as.map Value.ref, _, rfl, .inl (.inl upd_same), fun us z => refs_only z, hk, _, rfl, q _ Fs R2 E2⟩
end
end Sim
namespace Sim
open PySem PySem.Spec L2
/-- never evaluated -/
def oBad : O := fun _ => .bad
theorem so_bad [Tb] [Vs] {X : Cx} {e : Expr} : SimO X e oBad := ⟨fun pins s σ H Q I z => by
  obtain ⟨_, _, _, _, _, e, _⟩ := z
  cases e⟩
/-- .. of a name that holds None, as a value -/
def oNone (i : Nat) (b : Bool) : O := fun s => match (s[i]?).join with
  | some .none => .ok (.val (.bool b)) s
  | _ => .bad
section
variable [Tb] {Y : Cx} {i : Nat} {a dd C : Addr} {oe : Obj} {fs : List (Str × V)} {nm : Str} {p p1 p2 pos : Pos}
theorem so_isP {y : Str} {C2 : Addr} {b : Bool} (hp : (a, oe) ∈ Y.pn) (hz : Zc (.ref C) (some dd) oe) (hf : ∃ vs, oe.data = .fields vs) (hC : ExcC Y.K C) (hk : PySem.W.kitOne Y.K (.ref C) (.ref C2) = some b)
    (hN : Y.N[i]? = some nm) (hv : Vis Y.env.scope nm) (hgi : Gl Y "isinstance") (hmi : Y.mg "isinstance" = none) (hg : Gl Y y) (hm : Y.mg y = some (.ref C2))
    (h1 : (nm == ("__debug__" : Str)) = false := by decide) (h2 : (nm == ("__classdict__" : Str)) = false := by decide) (h3 : (y == ("__debug__" : Str)) = false := by decide)
    (he : starEach [.Name nm p1, .Name y p2] Y.env = (false, eval (.Name nm p1) Y.env) :: starEach [.Name y p2] Y.env := by rfl) (he2 : starEach [.Name y p2] Y.env = (false, eval (.Name y p2) Y.env) :: starEach [] Y.env := by rfl) (hpl : (backTo pos (starEach [.Name y p2] Y.env)).any (·.1) = false := by rfl) :
    @SimO _ (keptVs i a dd fs) Y (.Call (.Name "isinstance" p) [.Name nm p1, .Name y p2] [] pos) (oC (.bool b)) :=
  pe_imp (pe_callB (call_isP hp hz hf) hgi hmi rfl (pa_cons (pe_var hN hv h1 h2) (pa_cons (pe_glob (v := .ref C2) hg hm rfl h3) pa_nil he2) he) (by decide) (by decide) he hpl) fun σ H Q z => by
    obtain ⟨s, Fs, r, s', R, e, q⟩ := z
    cases e
    exact ⟨.ref a, R.klnk.1, C, dd, fs, .ref C2, .ref C2, _, rfl, rfl, R.klnk.2, hC, rfl, fun u z => z, hk, q _ H Fs [] R (.refl _ _) (.val ⟨.bl _, fun _ _ _ z => by cases z⟩) (by intro a h; cases h)⟩
end
section
variable [Tb] [Vs] {Y : Cx} {i : Nat} {nm y : Str} {p p1 p2 pos : Pos} {b : Bool}
theorem so_isN1 {C2 : Addr} (hk : PySem.W.kitOne Y.K (.type "NoneType") (.ref C2) = some b) (hN : Y.N[i]? = some nm) (hv : Vis Y.env.scope nm) (hgi : Gl Y "isinstance") (hmi : Y.mg "isinstance" = none) (hg : Gl Y y) (hm : Y.mg y = some (.ref C2))
    (h1 : (nm == ("__debug__" : Str)) = false := by decide) (h2 : (nm == ("__classdict__" : Str)) = false := by decide) (h3 : (y == ("__debug__" : Str)) = false := by decide)
    (he : starEach [.Name nm p1, .Name y p2] Y.env = (false, eval (.Name nm p1) Y.env) :: starEach [.Name y p2] Y.env := by rfl) (he2 : starEach [.Name y p2] Y.env = (false, eval (.Name y p2) Y.env) :: starEach [] Y.env := by rfl) (hpl : (backTo pos (starEach [.Name y p2] Y.env)).any (·.1) = false := by rfl) :
    SimO Y (.Call (.Name "isinstance" p) [.Name nm p1, .Name y p2] [] pos) (oNone i b) :=
  pe_imp (pe_callB call_isN hgi hmi rfl (pa_cons (pe_var hN hv h1 h2) (pa_cons (pe_glob (v := .ref C2) hg hm rfl h3) pa_nil he2) he) (by decide) (by decide) he hpl) fun σ H Q z => by
    obtain ⟨s, Fs, r, s', R, e, q⟩ := z
    unfold oNone at e
    split at e
    · rename_i hj
      cases e
      obtain ⟨v, hv, o⟩ := R.has i .none (join_some hj)
      generalize Fs i = F at o
      cases o
      exact ⟨.non, hv, .ref C2, .ref C2, _, rfl, fun u z => z, hk, q _ H Fs [] R (.refl _ _) (.val ⟨.bl _, fun _ _ _ z => by cases z⟩) (by intro a h; cases h)⟩
    · cases e
end
end Sim
namespace Sim
open PySem PySem.Spec L2
abbrev Pt := List (Option D)
def gtP : Pt → Nat → Option D
  | [], _ => none
  | o :: _, 0 => o
  | _ :: p, n + 1 => gtP p n
def stP : Pt → Nat → Option D → Pt
  | [], _, _ => []
  | _ :: p, 0, o => o :: p
  | q :: p, n + 1, o => q :: stP p n o
structure Mt (p : Pt) (s : Sg) : Prop where
  len : p.length = s.length
  has : ∀ i d, gtP p i = some d → s[i]? = some (some d)
structure Wk (q p : Pt) : Prop where
  len : q.length = p.length
  has : ∀ i d, gtP q i = some d → gtP p i = some d
theorem stP_len : ∀ (p : Pt) (i : Nat) (o : Option D), (stP p i o).length = p.length
  | [], _, _ => rfl
  | _ :: _, 0, _ => rfl
  | _ :: p, i + 1, o => congrArg (· + 1) (stP_len p i o)
theorem gtP_stP : ∀ (p : Pt) (i j : Nat) (o : Option D), gtP (stP p i o) j = if i = j ∧ i < p.length then o else gtP p j
  | [], i, j, o => by rw [if_neg (by simp)]; rfl
  | a :: p, 0, 0, o => by simp [stP, gtP]
  | a :: p, 0, j + 1, o => by simp [stP, gtP]
  | a :: p, i + 1, 0, o => by simp [stP, gtP]
  | a :: p, i + 1, j + 1, o => by
    show gtP (stP p i o) j = _
    rw [gtP_stP p i j o]
    simp [gtP]
theorem Mt.get {p : Pt} {s : Sg} (h : Mt p s) {i : Nat} {d : D} (e : gtP p i = some d) : (s[i]?).join = some d := by rw [h.has i d e]; rfl
theorem Mt.put {p : Pt} {s : Sg} (h : Mt p s) (i : Nat) (d : D) : Mt (stP p i (some d)) (s.set i (some d)) := by
  refine ⟨by rw [stP_len, List.length_set, h.len], fun j e hj => ?_⟩
  rw [gtP_stP] at hj
  rw [List.getElem?_set]
  by_cases c : i = j
  · subst c
    by_cases c2 : i < p.length
    · rw [if_pos ⟨rfl, c2⟩] at hj
      rw [if_pos rfl, if_pos (by rw [← h.len]; exact c2), hj]
    · rw [if_neg (by simp [c2])] at hj
      have := h.has i e hj
      rw [List.getElem?_eq_none (by rw [← h.len]; omega)] at this
      cases this
  · rw [if_neg (by simp [c])] at hj
    rw [if_neg c]
    exact h.has j e hj
theorem Mt.off {p : Pt} {s : Sg} (h : Mt p s) (i : Nat) (o : Option D) : Mt (stP p i none) (s.set i o) := by
  refine ⟨by rw [stP_len, List.length_set, h.len], fun j e hj => ?_⟩
  rw [gtP_stP] at hj
  rw [List.getElem?_set]
  by_cases c : i = j
  · subst c
    by_cases c2 : i < p.length
    · rw [if_pos ⟨rfl, c2⟩] at hj; cases hj
    · rw [if_neg (by simp [c2])] at hj
      have := h.has i e hj
      rw [List.getElem?_eq_none (by rw [← h.len]; omega)] at this
      cases this
  · rw [if_neg (by simp [c])] at hj
    rw [if_neg c]
    exact h.has j e hj
theorem Mt.wk {q p : Pt} {s : Sg} (h : Mt p s) (w : Wk q p) : Mt q s := ⟨w.len.trans h.len, fun i d e => h.has i d (w.has i d e)⟩
theorem Mt.refl (s : Sg) : Mt s s := by
  refine ⟨rfl, fun i d e => ?_⟩
  induction s generalizing i with
  | nil => cases e
  | cons o s ih =>
    cases i with
    | zero => have e : o = some d := e; rw [e]; rfl
    | succ i => rw [List.getElem?_cons_succ]; exact ih i e
theorem wk_nil : Wk [] [] := ⟨rfl, fun _ _ e => by cases e⟩
theorem wk_a {q p : Pt} {o : Option D} (h : Wk q p) : Wk (none :: q) (o :: p) := ⟨congrArg (· + 1) h.len, fun i d e => by
  cases i with
  | zero => cases e
  | succ i => exact h.has i d e⟩
theorem wk_s {q p : Pt} {o : Option D} (h : Wk q p) : Wk (o :: q) (o :: p) := ⟨congrArg (· + 1) h.len, fun i d e => by
  cases i with
  | zero => exact e
  | succ i => exact h.has i d e⟩
theorem Wk.refl (p : Pt) : Wk p p := ⟨rfl, fun _ _ e => e⟩
abbrev eI : Int → D := PyData.int
abbrev eB : Bool → D := PyData.bool
abbrev eS : Str → D := PyData.str
def eU : Unit → D := fun _ => PyData.none
def eL {α : Type} (e : α → D) (xs : List α) : D := .list (xs.map e)
def eT {α : Type} (e : α → D) (xs : List α) : D := .tuple (xs.map e)
def eZ (xs : List Int) : D := .dict [(.none, .list (xs.map .int))]
def eP {α β : Type} (a : α → D) (b : β → D) (x : α × β) : D := .tuple [a x.1, b x.2]
def eO {α : Type} (e : α → D) : Option α → D
  | none => PyData.none
  | some x => e x
/-- nothing in it changes -/
def Pu {α : Type} (e : α → D) : Prop := ∀ x, pur (e x) = true
theorem puI : Pu eI := fun _ => rfl
theorem puB : Pu eB := fun _ => rfl
theorem puS : Pu eS := fun _ => rfl
theorem puU : Pu eU := fun _ => rfl
theorem puZ : Pu eZ := fun xs => pur_frz _
theorem purs_pu {α : Type} {e : α → D} (h : Pu e) : ∀ xs : List α, purs (xs.map e) = true
  | [] => rfl
  | x :: xs => by rw [List.map_cons, purs_cons, h x, purs_pu h xs]; rfl
theorem puT {α : Type} {e : α → D} (h : Pu e) : Pu (eT e) := fun xs => by rw [eT, pur_tuple, purs_pu h]
theorem puP {α β : Type} {a : α → D} {b : β → D} (h : Pu a) (h2 : Pu b) : Pu (eP a b) := fun x => by rw [eP, pur_tuple, purs_cons, purs_cons, h, h2]; rfl
theorem puO' {α : Type} {e : α → D} (h : Pu e) : Pu (eO e) := fun x => by
  cases x with
  | none => rfl
  | some x => exact h x
def Rd (vl : Bool) (p : Pt) (r : Rf) (d : D) : Prop := r = .val d ∨ (vl = false ∧ ∃ i, r = .slot i ∧ gtP p i = some d)
section
variable {α β δ γ : Type}
theorem Rd.rd {vl : Bool} {p : Pt} {r : Rf} {d : D} {s : Sg} (h : Rd vl p r d) (m : Mt p s) : rd r s = some d := by
  rcases h with rfl | ⟨_, i, rfl, e⟩
  · rfl
  · exact m.get e
theorem Rd.own {vl : Bool} {p : Pt} {r : Rf} {d : D} {s : Sg} (h : Rd vl p r d) (m : Mt p s) (c : vl = true ∨ pur d = true) : own r s = some d := by
  rcases h with rfl | ⟨e0, i, rfl, e⟩
  · rfl
  · rcases c with c | c
    · rw [e0] at c; cases c
    · rw [own_slot, m.get e, ownK_some, if_pos c]
def X (vl : Bool) (p : Pt) (g : O) (v : α → D) (q : α → Pt) (F : (α → Option γ) → Option γ) : Prop :=
  ∀ k z, F k = some z → ∃ x, k x = some z ∧ ∀ s, Mt p s → ∃ r s', g s = .ok r s' ∧ Mt (q x) s' ∧ Rd vl (q x) r (v x)
theorem x_var {p : Pt} (i : Nat) {d : D} (h : gtP p i = some d) : X (γ := γ) false p (oV i) (fun _ : Unit => d) (fun _ => p) (fun k => k ()) :=
  fun k z e => ⟨(), e, fun s m => ⟨.slot i, s, by rw [ev_oV, m.get h, ev_oVK], m, .inr ⟨rfl, i, rfl, h⟩⟩⟩
theorem x_c {p : Pt} (d : D) : X (γ := γ) true p (oC d) (fun _ : Unit => d) (fun _ => p) (fun k => k ()) :=
  fun k z e => ⟨(), e, fun s m => ⟨.val d, s, rfl, m, .inl rfl⟩⟩
theorem X.up {p : Pt} {g : O} {v : α → D} {q : α → Pt} {F : (α → Option γ) → Option γ} {vl : Bool} (h : X vl p g v q F) : X false p g v q F := fun k z e => by
  obtain ⟨x, e1, h⟩ := h k z e
  refine ⟨x, e1, fun s m => ?_⟩
  obtain ⟨r, s', h1, h2, h3⟩ := h s m
  exact ⟨r, s', h1, h2, h3.imp id fun h => ⟨rfl, h.2⟩⟩
/-- told otherwise: the same value by another name -/
theorem X.as {p : Pt} {g : O} {v : α → D} {q : α → Pt} {F : (α → Option γ) → Option γ} {vl : Bool} (h : X vl p g v q F) (v' : α → D) (e : v = v') : X vl p g v' q F := e ▸ h
inductive AK where
  | v | s (i : Nat)
def Rk (p : Pt) : List AK → List Rf → List D → Prop
  | [], [], [] => True
  | .v :: ks, r :: rs, d :: ds => (Rd false p r d ∧ (r = .val d ∨ pur d = true)) ∧ Rk p ks rs ds
  | .s i :: ks, r :: rs, d :: ds => (r = .slot i ∧ gtP p i = some d ∧ pur d = false) ∧ Rk p ks rs ds
  | _, _, _ => False
theorem Rk.rds {p : Pt} {s : Sg} (m : Mt p s) : ∀ {ks : List AK} {rs : List Rf} {ds : List D}, Rk p ks rs ds → rds rs s = some ds
  | [], [], [], _ => rfl
  | .v :: ks, r :: rs, d :: ds, h => by rw [rds_cons, h.1.1.rd m, Rk.rds m h.2]; rfl
  | .s i :: ks, r :: rs, d :: ds, h => by rw [rds_cons, h.1.1, rd_slot, m.get h.1.2.1, Rk.rds m h.2]; rfl
theorem Rk.owns {p : Pt} {s : Sg} (m : Mt p s) : ∀ {ks : List AK} {rs : List Rf} {ds : List D}, Rk p ks rs ds → (∀ k ∈ ks, k = .v) → owns rs s = some ds
  | [], [], [], _, _ => rfl
  | .v :: ks, r :: rs, d :: ds, h, a => by
    have o : own r s = some d := by
      rcases h.1.2 with z | z
      · rw [z]; rfl
      · exact h.1.1.own m (.inr z)
    rw [owns_cons, o, Rk.owns m h.2 fun k hk => a k (List.mem_cons_of_mem _ hk)]; rfl
  | .s i :: ks, r :: rs, d :: ds, h, a => by have := a _ (List.mem_cons_self ..); cases this
def kl : List AK → List D → List (Nat × D)
  | .s i :: ks, d :: ds => (i, d) :: kl ks ds
  | .v :: ks, _ :: ds => kl ks ds
  | _, _ => []
theorem Rk.lks {p : Pt} : ∀ {ks : List AK} {rs : List Rf} {ds : List D}, Rk p ks rs ds → lks rs ds = kl ks ds
  | [], [], [], _ => rfl
  | .v :: ks, r :: rs, d :: ds, h => by
    cases r with
    | val x => rw [lks_val, Rk.lks h.2]; rfl
    | slot i =>
      rcases h.1.2 with z | z
      · cases z
      · rw [lks_slot, if_pos z, Rk.lks h.2]; rfl
  | .s i :: ks, r :: rs, d :: ds, h => by
    rw [h.1.1, lks_slot, if_neg (by rw [h.1.2.2]; simp), Rk.lks h.2]; rfl
theorem Rk.lkz {p : Pt} : ∀ {ks : List AK} {rs : List Rf} {ds as : List D}, Rk p ks rs ds → as.length = ds.length → lkz rs ds as = kl ks as
  | [], [], [], [], _, _ => rfl
  | .v :: ks, r :: rs, d :: ds, a :: as, h, l => by
    have l : as.length = ds.length := by simpa using l
    cases r with
    | val x => rw [lkz_val, Rk.lkz h.2 l]; rfl
    | slot i =>
      rcases h.1.2 with z | z
      · cases z
      · rw [lkz_slot, if_pos z, Rk.lkz h.2 l]; rfl
  | .s i :: ks, r :: rs, d :: ds, a :: as, h, l => by
    have l : as.length = ds.length := by simpa using l
    rw [h.1.1, lkz_slot, if_neg (by rw [h.1.2.2]; simp), Rk.lkz h.2 l]; rfl
def AK.isV : AK → Bool
  | .v => true
  | .s _ => false
theorem kv {ks : List AK} (h : ks.all AK.isV = true) : ∀ k ∈ ks, k = .v := fun k hk => by
  have := List.all_eq_true.mp h k hk
  cases k with
  | v => rfl
  | s i => cases this
theorem Rk.len {p : Pt} : ∀ {ks : List AK} {rs : List Rf} {ds : List D}, Rk p ks rs ds → ds.length = ks.length
  | [], [], [], _ => rfl
  | .v :: ks, r :: rs, d :: ds, h => congrArg (· + 1) (Rk.len h.2)
  | .s i :: ks, r :: rs, d :: ds, h => congrArg (· + 1) (Rk.len h.2)
def XA (p : Pt) (gs : AL) (ks : List AK) (vs : α → List D) (q : α → Pt) (F : (α → Option γ) → Option γ) : Prop :=
  ∀ k z, F k = some z → ∃ x, k x = some z ∧ ∀ s, Mt p s → ∃ rs s', gs s = .ok rs s' ∧ Mt (q x) s' ∧ Rk (q x) ks rs (vs x)
theorem xa_nil {p : Pt} : XA (γ := γ) p aNil [] (fun _ : Unit => []) (fun _ => p) (fun k => k ()) :=
  fun k z e => ⟨(), e, fun s m => ⟨[], s, rfl, m, trivial⟩⟩
section
variable {p : Pt} {g : O} {gs : AL} {v : α → D} {q : α → Pt} {F : (α → Option γ) → Option γ} {vl : Bool}
  {ks : List AK} {vs : α → β → List D} {q2 : α → β → Pt} {F2 : α → (β → Option γ) → Option γ}
/-- a value ahead of more -/
theorem xa_v (h : X true p g v q F) (h2 : ∀ x, XA (q x) gs ks (vs x) (q2 x) (F2 x)) :
    XA p (aCons g gs) (.v :: ks) (fun w : α × β => v w.1 :: vs w.1 w.2) (fun w => q2 w.1 w.2) (fun k => F fun x => F2 x fun y => k (x, y)) := fun k z e => by
  obtain ⟨x, e1, h⟩ := h _ z e
  obtain ⟨y, e2, h2⟩ := h2 x _ z e1
  refine ⟨(x, y), e2, fun s m => ?_⟩
  obtain ⟨r, s1, a1, a2, a3⟩ := h s m
  obtain ⟨rs, s2, b1, b2, b3⟩ := h2 s1 a2
  have a3 : r = .val (v x) := by
    rcases a3 with a3 | ⟨a3, _⟩
    · exact a3
    · cases a3
  refine ⟨r :: rs, s2, by rw [ev_aCons, a1, ev_ok, ev_consK, b1, ev_ok, ev_consK2], b2, ⟨.inl a3, .inl a3⟩, b3⟩
/-- what never changes, ahead of what changes nothing -/
theorem xa_p {vs : α → β → List D} (h : X vl p g v q F) (hp : ∀ x, pur (v x) = true) (h2 : ∀ x, XA (q x) gs ks (vs x) (fun _ => q x) (F2 x)) :
    XA p (aCons g gs) (.v :: ks) (fun w : α × β => v w.1 :: vs w.1 w.2) (fun w => q w.1) (fun k => F fun x => F2 x fun y => k (x, y)) := fun k z e => by
  obtain ⟨x, e1, h⟩ := h _ z e
  obtain ⟨y, e2, h2⟩ := h2 x _ z e1
  refine ⟨(x, y), e2, fun s m => ?_⟩
  obtain ⟨r, s1, a1, a2, a3⟩ := h s m
  obtain ⟨rs, s2, b1, b2, b3⟩ := h2 s1 a2
  exact ⟨r :: rs, s2, by rw [ev_aCons, a1, ev_ok, ev_consK, b1, ev_ok, ev_consK2], b2, ⟨a3.imp id fun z => ⟨rfl, z.2⟩, .inr (hp x)⟩, b3⟩
/-- a name of a list -/
theorem xa_s {vs : β → List D} {q2 : β → Pt} {F2 : (β → Option γ) → Option γ} {d : β → D} {d0 : D} (i : Nat) (h0 : gtP p i = some d0) (h2 : XA p gs ks vs q2 F2) (h1 : ∀ y, gtP (q2 y) i = some (d y)) (hp : ∀ y, pur (d y) = false) :
    XA p (aCons (oV i) gs) (.s i :: ks) (fun w : β => d w :: vs w) (fun w => q2 w) F2 := fun k z e => by
  obtain ⟨y, e2, h2⟩ := h2 _ z e
  refine ⟨y, e2, fun s m => ?_⟩
  obtain ⟨rs, s2, b1, b2, b3⟩ := h2 s m
  exact ⟨.slot i :: rs, s2, by rw [ev_aCons, ev_oV, m.get h0, ev_oVK, ev_ok, ev_consK, b1, ev_ok, ev_consK2], b2, ⟨rfl, h1 y, hp y⟩, b3⟩
end
section
variable {p : Pt} {gs : AL} {q : α → Pt} {F : (α → Option γ) → Option γ} {ks : List AK} {vs : α → List D}
theorem x_prim {f : List D → Option D} {m : α → Option β} {rv : α → β → D} (h : XA p gs ks vs q F) (hf : ∀ x z, m x = some z → f (vs x) = some (rv x z)) :
    X true p (oPrim f gs) (fun w : α × β => rv w.1 w.2) (fun w => q w.1) (fun k => F fun x => (m x).bind fun z => k (x, z)) := fun k z e => by
  obtain ⟨x, e1, h⟩ := h _ z e
  obtain ⟨y, e2, e3⟩ := Option.bind_eq_some_iff.mp e1
  refine ⟨(x, y), e3, fun s mm => ?_⟩
  obtain ⟨rs, s2, b1, b2, b3⟩ := h s mm
  exact ⟨.val (rv x y), s2, by rw [ev_prim, b1, ev_ok, ev_primK, b3.rds b2, ev_primK2, hf x y e2, ev_primK3], b2, .inl rfl⟩
theorem x_primT {f : List D → Option D} {rv : α → D} (h : XA p gs ks vs q F) (hf : ∀ x, f (vs x) = some (rv x)) :
    X true p (oPrim f gs) rv q F := fun k z e => by
  obtain ⟨x, e1, h⟩ := h _ z e
  refine ⟨x, e1, fun s mm => ?_⟩
  obtain ⟨rs, s2, b1, b2, b3⟩ := h s mm
  exact ⟨.val (rv x), s2, by rw [ev_prim, b1, ev_ok, ev_primK, b3.rds b2, ev_primK2, hf x, ev_primK3], b2, .inl rfl⟩
theorem x_tup (h : XA p gs ks vs q F) (hk : ks.all AK.isV = true) (hl : ks.length ≤ 1000000) : X true p (oTup gs) (fun x => .tuple (vs x)) q F := fun k z e => by
  obtain ⟨x, e1, h⟩ := h _ z e
  refine ⟨x, e1, fun s mm => ?_⟩
  obtain ⟨rs, s2, b1, b2, b3⟩ := h s mm
  exact ⟨.val (.tuple (vs x)), s2, by rw [ev_oTup, b1, ev_ok, ev_tupK, b3.owns b2 (kv hk), ev_tupK2, if_pos (by rw [b3.len]; exact hl)], b2, .inl rfl⟩
theorem x_lst (h : XA p gs ks vs q F) (hk : ks.all AK.isV = true) (hl : ks.length ≤ 1000000) : X true p (oLst gs) (fun x => .list (vs x)) q F := fun k z e => by
  obtain ⟨x, e1, h⟩ := h _ z e
  refine ⟨x, e1, fun s mm => ?_⟩
  obtain ⟨rs, s2, b1, b2, b3⟩ := h s mm
  exact ⟨.val (.list (vs x)), s2, by rw [ev_oLst, b1, ev_ok, ev_lstK, b3.owns b2 (kv hk), ev_lstK2, if_pos (by rw [b3.len]; exact hl)], b2, .inl rfl⟩
def lkP : List (Nat × D) → Pt → Pt
  | [], p => p
  | a :: l, p => lkP l (stP p a.1 none)
def ulP : List (Nat × D) → Pt → Pt
  | [], p => p
  | a :: l, p => ulP l (stP p a.1 (some a.2))
theorem Mt.lk : ∀ (l : List (Nat × D)) {p : Pt} {s : Sg}, Mt p s → Mt (lkP l p) (lockS l s)
  | [], _, _, h => h
  | a :: l, _, _, h => by rw [lockS_cons]; exact Mt.lk l (h.off a.1 none)
theorem Mt.ul : ∀ (l : List (Nat × D)) {p : Pt} {s : Sg}, Mt p s → Mt (ulP l p) (unlockS l s)
  | [], _, _, h => h
  | a :: l, _, _, h => by rw [unlockS_cons]; exact Mt.ul l (h.put a.1 a.2)
def kn : List AK → List Nat
  | [] => []
  | .s i :: ks => i :: kn ks
  | .v :: ks => kn ks
theorem kl_kn : ∀ (ks : List AK) (ds : List D), ds.length = ks.length → (kl ks ds).map (·.1) = kn ks
  | [], [], _ => rfl
  | .v :: ks, d :: ds, h1 => kl_kn ks ds (by simpa using h1)
  | .s i :: ks, d :: ds, h1 => by
    have := kl_kn ks ds (by simpa using h1)
    simp [kl, kn, this]
theorem ul_go : ∀ (L : List (Nat × D)) (p : Pt) (s : Sg), p.length = s.length → (∀ i d, gtP p i = some d → i ∈ L.map (·.1) ∨ s[i]? = some (some d)) → Mt (ulP L p) (unlockS L s)
  | [], p, s, l, h => ⟨l, fun i d e => (h i d e).elim (fun z => by cases z) id⟩
  | a :: L, p, s, l, h => by
    rw [unlockS_cons]
    refine ul_go L _ _ (by rw [stP_len, List.length_set, l]) fun i d e => ?_
    rw [gtP_stP] at e
    rw [List.getElem?_set]
    by_cases c : a.1 = i
    · right
      by_cases c2 : a.1 < p.length
      · rw [if_pos ⟨c, c2⟩] at e
        rw [if_pos c, if_pos (by omega), e]
      · rw [if_neg (by simp [c2])] at e
        exact absurd (by have : ∀ (p : Pt) (i : Nat) (d : D), gtP p i = some d → i < p.length := by
                            intro p
                            induction p with
                            | nil => intro i d h; cases h
                            | cons o p ih =>
                              intro i d h
                              cases i with
                              | zero => exact Nat.zero_lt_succ _
                              | succ i => exact Nat.succ_lt_succ (ih i d h)
                         rw [c]; exact this p i d e) c2
    · rw [if_neg (by simp [c])] at e
      rw [if_neg c]
      rcases h i d e with z | z
      · rw [List.map_cons] at z
        rcases List.mem_cons.mp z with z | z
        · exact absurd z.symm c
        · exact .inl z
      · exact .inr z
/-- a call: m is what the callee tells, its arguments as they are then -/
theorem x_call {f : Fn} {m : α → Option β} {rv : α → β → D} {as : α → β → List D} (h : XA p gs ks vs q F) (hn : nodupB (kn ks) = true)
    (hf : ∀ x z, m x = some z → f (vs x) = .ok (rv x z) (as x z)) (hl : ∀ x z, (as x z).length = (vs x).length) (L : α → β → List (Nat × D)) (hL : ∀ x z, kl ks (as x z) = L x z) :
    X true p (oCall f gs) (fun w : α × β => rv w.1 w.2) (fun w => ulP (L w.1 w.2) (q w.1)) (fun k => F fun x => (m x).bind fun z => k (x, z)) := fun k z e => by
  obtain ⟨x, e1, h⟩ := h _ z e
  obtain ⟨y, e2, e3⟩ := Option.bind_eq_some_iff.mp e1
  refine ⟨(x, y), e3, fun s mm => ?_⟩
  obtain ⟨rs, s2, b1, b2, b3⟩ := h s mm
  refine ⟨.val (rv x y), _, oCall_ok b1 (b3.rds b2) (by rw [b3.lks, kl_kn _ _ b3.len, hn]) (hf x y e2), ?_, .inl rfl⟩
  rw [b3.lks, b3.lkz (hl x y), hL]
  have ll : ∀ (L : List (Nat × D)) (s : Sg), (lockS L s).length = s.length := by
    intro L
    induction L with
    | nil => intro s; rfl
    | cons a L ih => intro s; rw [lockS_cons, ih, List.length_set]
  refine ul_go _ _ _ (by rw [ll, b2.len]) fun i d e => ?_
  by_cases c : i ∈ (L x y).map (·.1)
  · exact .inl c
  · right
    have k1 : (L x y).map (·.1) = kn ks := by rw [← hL, kl_kn _ _ (by rw [hl, b3.len])]
    have k2 : (kl ks (vs x)).map (·.1) = kn ks := kl_kn _ _ b3.len
    have lg : ∀ (L : List (Nat × D)) (s : Sg), i ∉ L.map (·.1) → (lockS L s)[i]? = s[i]? := by
      intro L
      induction L with
      | nil => intro s _; rfl
      | cons a L ih =>
        intro s h
        rw [List.map_cons] at h
        rw [lockS_cons, ih _ (fun z => h (List.mem_cons_of_mem _ z)), List.getElem?_set, if_neg (fun z => h (by rw [← z]; exact List.mem_cons_self ..))]
    rw [lg _ _ (by rw [k2, ← k1]; exact c)]
    exact b2.has i d e
/-- a call by which no list changes -/
theorem x_callP {f : Fn} {m : α → Option β} {rv : α → β → D} (h : XA p gs ks vs q F) (hn : nodupB (kn ks) = true)
    (hf : ∀ x z, m x = some z → f (vs x) = .ok (rv x z) (vs x)) :
    X true p (oCall f gs) (fun w : α × β => rv w.1 w.2) (fun w => q w.1) (fun k => F fun x => (m x).bind fun z => k (x, z)) := fun k z e => by
  obtain ⟨x, e1, h⟩ := h _ z e
  obtain ⟨y, e2, e3⟩ := Option.bind_eq_some_iff.mp e1
  refine ⟨(x, y), e3, fun s mm => ?_⟩
  obtain ⟨rs, s2, b1, b2, b3⟩ := h s mm
  refine ⟨.val (rv x y), _, oCall_ok b1 (b3.rds b2) (by rw [b3.lks, kl_kn _ _ b3.len, hn]) (hf x y e2), ?_, .inl rfl⟩
  rw [b3.lks, b3.lkz rfl]
  have key : ∀ (ks : List AK) (rs : List Rf) (ds : List D), Rk (q x) ks rs ds → ∀ i d, (i, d) ∈ kl ks ds → gtP (q x) i = some d := by
    intro ks
    induction ks with
    | nil => intro rs ds h i d hm; cases ds <;> simp [kl] at hm
    | cons a ks ih =>
      intro rs ds h i d hm
      cases a with
      | v =>
        cases rs with
        | nil => cases ds <;> exact h.elim
        | cons r rs => cases ds with
          | nil => exact h.elim
          | cons e ds => exact ih rs ds h.2 i d hm
      | s j =>
        cases rs with
        | nil => cases ds <;> exact h.elim
        | cons r rs => cases ds with
          | nil => exact h.elim
          | cons e ds =>
            rcases List.mem_cons.mp hm with z | z
            · cases z; exact h.1.2.1
            · exact ih rs ds h.2 i d z
  have kk := key ks rs (vs x) b3
  generalize kl ks (vs x) = L at kk
  clear key
  -- what is closed and opened again is as it was
  have go : ∀ (L : List (Nat × D)), (∀ i d, (i, d) ∈ L → gtP (q x) i = some d) → ∀ s', s'.length = (q x).length → (∀ i d, gtP (q x) i = some d → (i, d) ∈ L ∨ s'[i]? = some (some d)) → Mt (q x) (unlockS L s') := by
    intro L
    induction L with
    | nil => intro _ s' hl h; exact ⟨hl.symm, fun i d e => (h i d e).elim (fun z => by cases z) id⟩
    | cons a L ih =>
      intro hk s' hl h
      rw [unlockS_cons]
      refine ih (fun i d z => hk i d (List.mem_cons_of_mem _ z)) _ (by rw [List.length_set, hl]) fun i d e => ?_
      have ha := hk a.1 a.2 (List.mem_cons_self ..)
      rw [List.getElem?_set]
      by_cases c : a.1 = i
      · rw [if_pos c]
        rw [c, e] at ha
        cases ha
        have : i < s'.length := by
          have := b2.has i a.2 e
          have l2 := b2.len
          rcases Nat.lt_or_ge i s'.length with z | z
          · exact z
          · rw [List.getElem?_eq_none (by omega)] at this; cases this
        right
        rw [if_pos (by omega)]
      · rw [if_neg c]
        rcases h i d e with z | z
        · rcases List.mem_cons.mp z with z | z
          · exact absurd (by rw [← z]) c
          · exact .inl z
        · exact .inr z
  refine go L kk _ ?_ fun i d e => ?_
  · have : ∀ (L : List (Nat × D)) (s : Sg), (lockS L s).length = s.length := by
      intro L
      induction L with
      | nil => intro s; rfl
      | cons a L ih => intro s; rw [lockS_cons, ih, List.length_set]
    rw [this, b2.len]
  · have : ∀ (L : List (Nat × D)) (s : Sg), (∀ i d, (i, d) ∈ L → gtP (q x) i = some d) → s[i]? = some (some d) → (i, d) ∈ L ∨ (lockS L s)[i]? = some (some d) := by
      intro L
      induction L with
      | nil => intro s _ h; exact .inr h
      | cons a L ih =>
        intro s hk h
        rw [lockS_cons]
        by_cases c : a.1 = i
        · have ha := hk a.1 a.2 (List.mem_cons_self ..)
          rw [c, e] at ha
          cases ha
          left
          rw [← c]
          exact List.mem_cons_self ..
        · exact (ih (s.set a.1 none) (fun i d z => hk i d (List.mem_cons_of_mem _ z)) (by rw [List.getElem?_set, if_neg c]; exact h)).imp (List.mem_cons_of_mem _) id
    exact this L s2 kk (b2.has i d e)
end
end
end Sim
namespace Sim
open PySem PySem.Spec L2
section
variable {α β δ γ σ τ : Type}
theorem only {γ : Type} {β : Type} (z : γ) (y0 : β) : ∃ k : β → Option γ, k y0 = some z ∧ ∀ y, k y = some z → y = y0 := by
  classical
  refine ⟨fun y => if y = y0 then some z else none, by simp, fun y h => ?_⟩
  by_cases c : y = y0
  · exact c
  · simp [c] at h
def XT (p : Pt) (t : T) (b : α → Bool) (q : α → Pt) (F : (α → Option γ) → Option γ) : Prop :=
  ∀ k z, F k = some z → ∃ x, k x = some z ∧ ∀ s, Mt p s → ∃ s', t s = .ok (b x) s' ∧ Mt (q x) s'
section
variable {p : Pt} {g : O} {t u : T} {b : α → Bool} {q : α → Pt} {F : (α → Option γ) → Option γ} {vl : Bool} {v : α → D}
theorem xt_tst (h : X vl p g (fun x => .bool (b x)) q F) : XT p (tst g) b q F := fun k z e => by
  obtain ⟨x, e1, h⟩ := h k z e
  refine ⟨x, e1, fun s m => ?_⟩
  obtain ⟨r, s', h1, h2, h3⟩ := h s m
  exact ⟨s', by rw [ev_tst, h1, ev_ok, ev_tstK, h3.rd h2, ev_tstK2], h2⟩
theorem xt_tstA (h : X vl p g v q F) (ht : ∀ x, truD (v x) = some (b x)) : XT p (tstA g) b q F := fun k z e => by
  obtain ⟨x, e1, h⟩ := h k z e
  refine ⟨x, e1, fun s m => ?_⟩
  obtain ⟨r, s', h1, h2, h3⟩ := h s m
  exact ⟨s', by rw [ev_tstA, h1, ev_ok, ev_tstAK, h3.rd h2, ev_tstAK2, ht x, ev_tstAK3], h2⟩
theorem xt_not (h : XT p t b q F) : XT p (tNot t) (fun x => !b x) q F := fun k z e => by
  obtain ⟨x, e1, h⟩ := h k z e
  refine ⟨x, e1, fun s m => ?_⟩
  obtain ⟨s', h1, h2⟩ := h s m
  exact ⟨s', by rw [ev_tNot, h1, ev_ok, ev_tNotK], h2⟩
theorem xt_yes : XT (γ := γ) p tYesT (fun _ : Unit => true) (fun _ => p) (fun k => k ()) := fun k z e => ⟨(), e, fun s m => ⟨s, rfl, m⟩⟩
variable {c : α → β → Bool} {q2 : α → β → Pt}
theorem xt_orT {y0 : α → β} (h : XT p t b q F) (h2 : ∀ x, XT (γ := γ) (q x) u (c x) (fun _ => q x) (fun k => k (y0 x))) : XT p (tOr t u) (fun x => b x || c x (y0 x)) q F := fun k z e => by
  obtain ⟨x, e1, h⟩ := h k z e
  refine ⟨x, e1, fun s m => ?_⟩
  obtain ⟨s', a1, a2⟩ := h s m
  obtain ⟨k2, k3, k4⟩ := only z (y0 x)
  obtain ⟨y, e2, h2⟩ := h2 x k2 z k3
  rw [k4 y e2] at h2
  obtain ⟨s2, b1, b2⟩ := h2 s' a2
  cases hb : b x with
  | true => exact ⟨s', by rw [ev_tOr, a1, ev_ok, ev_tOrK, if_pos hb]; simp [hb], a2⟩
  | false => exact ⟨s2, by rw [ev_tOr, a1, ev_ok, ev_tOrK, if_neg (by simp [hb]), b1]; simp [hb], b2⟩
theorem xt_andP {F2 : α → (β → Option Bool) → Option Bool} (h : XT p t b q F) (h2 : ∀ x, XT (q x) u (c x) (fun _ => q x) (F2 x)) :
    XT p (tAnd t u) (fun w : α × Bool => w.2) (fun w => q w.1) (fun k => F fun x => (if b x = true then F2 x (fun y => some (c x y)) else some false).bind fun z => k (x, z)) := fun k z e => by
  obtain ⟨x, e1, h⟩ := h _ z e
  obtain ⟨w, e2, e3⟩ := Option.bind_eq_some_iff.mp e1
  refine ⟨(x, w), e3, fun s m => ?_⟩
  obtain ⟨s', a1, a2⟩ := h s m
  cases hb : b x with
  | true =>
    rw [if_pos hb] at e2
    obtain ⟨y, e4, h2⟩ := h2 x _ w e2
    obtain ⟨s2, b1, b2⟩ := h2 s' a2
    cases e4
    exact ⟨s2, by rw [ev_tAnd, a1, ev_ok, ev_tAndK, if_pos hb, b1], b2⟩
  | false =>
    rw [if_neg (by simp [hb])] at e2
    cases e2
    exact ⟨s', by rw [ev_tAnd, a1, ev_ok, ev_tAndK, if_neg (by simp [hb])], a2⟩
theorem xt_orP {F2 : α → (β → Option Bool) → Option Bool} (h : XT p t b q F) (h2 : ∀ x, XT (q x) u (c x) (fun _ => q x) (F2 x)) :
    XT p (tOr t u) (fun w : α × Bool => w.2) (fun w => q w.1) (fun k => F fun x => (if b x = true then some true else F2 x (fun y => some (c x y))).bind fun z => k (x, z)) := fun k z e => by
  obtain ⟨x, e1, h⟩ := h _ z e
  obtain ⟨w, e2, e3⟩ := Option.bind_eq_some_iff.mp e1
  refine ⟨(x, w), e3, fun s m => ?_⟩
  obtain ⟨s', a1, a2⟩ := h s m
  cases hb : b x with
  | true =>
    rw [if_pos hb] at e2
    cases e2
    exact ⟨s', by rw [ev_tOr, a1, ev_ok, ev_tOrK, if_pos hb], a2⟩
  | false =>
    rw [if_neg (by simp [hb])] at e2
    obtain ⟨y, e4, h2⟩ := h2 x _ w e2
    obtain ⟨s2, b1, b2⟩ := h2 s' a2
    cases e4
    exact ⟨s2, by rw [ev_tOr, a1, ev_ok, ev_tOrK, if_neg (by simp [hb]), b1], b2⟩
theorem xt_orM {F2 : α → (β → Option (Bool × σ)) → Option (Bool × σ)} (h : XT p t b q F) (h2 : ∀ x, XT (q x) u (c x) (q2 x) (F2 x)) (st1 : α → β → σ) (st0 : α → σ) (qs : α → σ → Pt) (w1 : ∀ x y, Wk (qs x (st1 x y)) (q2 x y)) (w0 : ∀ x, Wk (qs x (st0 x)) (q x)) :
    XT p (tOr t u) (fun w : α × Bool × σ => w.2.1) (fun w => qs w.1 w.2.2) (fun k => F fun x => (if b x = true then some (true, st0 x) else F2 x (fun y => some (c x y, st1 x y))).bind fun z => k (x, z)) := fun k z e => by
  obtain ⟨x, e1, h⟩ := h _ z e
  obtain ⟨w, e2, e3⟩ := Option.bind_eq_some_iff.mp e1
  refine ⟨(x, w), e3, fun s m => ?_⟩
  obtain ⟨s', a1, a2⟩ := h s m
  cases hb : b x with
  | true =>
    rw [if_pos hb] at e2
    cases e2
    exact ⟨s', by rw [ev_tOr, a1, ev_ok, ev_tOrK, if_pos hb], a2.wk (w0 x)⟩
  | false =>
    rw [if_neg (by simp [hb])] at e2
    obtain ⟨y, e4, h2⟩ := h2 x _ w e2
    obtain ⟨s2, b1, b2⟩ := h2 s' a2
    cases e4
    exact ⟨s2, by rw [ev_tOr, a1, ev_ok, ev_tOrK, if_neg (by simp [hb]), b1], b2.wk (w1 x y)⟩
end
section
variable {p : Pt} {g h' : O} {t : T} {b : α → Bool} {q : α → Pt} {F : (α → Option γ) → Option γ} {vl vl2 : Bool} {c : α → β → Bool}
theorem x_andP {F2 : α → (β → Option Bool) → Option Bool} (h : X vl p g (fun x => .bool (b x)) q F) (h2 : ∀ x, X vl2 (q x) h' (fun y => .bool (c x y)) (fun _ => q x) (F2 x)) :
    X false p (oAnd g h') (fun w : α × Bool => .bool w.2) (fun w => q w.1) (fun k => F fun x => (if b x = true then F2 x (fun y => some (c x y)) else some false).bind fun z => k (x, z)) := fun k z e => by
  obtain ⟨x, e1, h⟩ := h _ z e
  obtain ⟨w, e2, e3⟩ := Option.bind_eq_some_iff.mp e1
  refine ⟨(x, w), e3, fun s m => ?_⟩
  obtain ⟨r, s', a1, a2, a3⟩ := h s m
  cases hb : b x with
  | true =>
    rw [if_pos hb] at e2
    obtain ⟨y, e4, h2⟩ := h2 x _ w e2
    obtain ⟨r2, s2, b1, b2, b3⟩ := h2 s' a2
    cases e4
    exact ⟨r2, s2, by rw [ev_oAnd, a1, ev_ok, ev_andK, a3.rd a2, ev_andK2, if_pos hb, b1], b2, b3.imp id fun z => ⟨rfl, z.2⟩⟩
  | false =>
    rw [if_neg (by simp [hb])] at e2
    cases e2
    exact ⟨_, s', by rw [ev_oAnd, a1, ev_ok, ev_andK, a3.rd a2, ev_andK2, if_neg (by simp [hb])], a2, .inl rfl⟩
end
section
variable {p : Pt} {g h' : O} {t : T} {b : α → Bool} {q : α → Pt} {F : (α → Option γ) → Option γ} {vl vl2 : Bool}
end
/-- a chain of two comparisons -/
theorem x_chain {p : Pt} {a b c : O} {f f' : List D → Option D} {q : α → Pt} {F : (α → Option γ) → Option γ} {v1 v2 : α → D} {v3 : α → β → D} {y0 : α → β} {b1 b2 : α → Bool} {vl : Bool} {ks : List AK}
    (h : XA p (aCons a (aCons b aNil)) ks (fun x => [v1 x, v2 x]) q F) (h2 : ∀ x, X (γ := γ) vl (q x) c (v3 x) (fun _ => q x) (fun k => k (y0 x))) (hf : ∀ x, f [v1 x, v2 x] = some (.bool (b1 x))) (hf' : ∀ x, f' [v2 x, v3 x (y0 x)] = some (.bool (b2 x))) :
    X true p (oChain f f' a b c) (fun x => .bool (b1 x && b2 x)) q F := fun k z e => by
  obtain ⟨x, e1, h⟩ := h k z e
  refine ⟨x, e1, fun s m => ?_⟩
  obtain ⟨rs, s', a1, a2, a3⟩ := h s m
  obtain ⟨k2, k3, k4⟩ := only z (y0 x)
  obtain ⟨y, e2, h2⟩ := h2 x k2 z k3
  rw [k4 y e2] at h2
  obtain ⟨r, s2, c1, c2, c3⟩ := h2 s' a2
  obtain ⟨ra, s1, d1, d2⟩ := bind_inv a1
  obtain ⟨rl, s3, d3, d4⟩ := bind_inv d2
  obtain ⟨rb, s4, d5, d6⟩ := bind_inv d3
  cases d6
  cases d4
  have e3 := a3.rds a2
  have e4 : rds [rb, r] s2 = some [v2 x, v3 x (y0 x)] := by
    have z : rd rb s2 = some (v2 x) := by
      have : rds [ra, rb] s' = some [v1 x, v2 x] := e3
      cases ks with
      | nil => exact a3.elim
      | cons k1 ks => cases ks with
        | nil => cases k1 <;> exact a3.2.elim
        | cons k2 ks =>
          cases k1 <;> cases k2
          · exact a3.2.1.1.rd c2
          · rw [a3.2.1.1, rd_slot, c2.get a3.2.1.2.1]
          · exact a3.2.1.1.rd c2
          · rw [a3.2.1.1, rd_slot, c2.get a3.2.1.2.1]
    rw [rds_cons, rds_cons, rds_nil, z, c3.rd c2]; rfl
  cases hb : b1 x with
  | true =>
    refine ⟨.val (.bool (b2 x)), s2, ?_, c2, .inl (by simp [hb])⟩
    rw [ev_chain, d1, ev_ok, ev_chK0, d5, ev_ok, ev_chK1, e3, ev_chK2a, hf x, ev_chK2b, if_pos hb, c1, ev_ok, ev_chK2c, e4, ev_chK3, hf' x, ev_chK4]
  | false =>
    refine ⟨.val (.bool false), s', ?_, a2, .inl (by simp [hb])⟩
    rw [ev_chain, d1, ev_ok, ev_chK0, d5, ev_ok, ev_chK1, e3, ev_chK2a, hf x, ev_chK2b, if_neg (by simp [hb])]
end
end Sim
namespace Sim
open PySem PySem.Spec L2
section
variable {α β δ γ σ τ ρ : Type}
def As (t : Tg) (d : D) (p p' : Pt) : Prop := ∀ s, Mt p s → ∃ s', asg t d s = some s' ∧ Mt p' s'
def Ass (l : List Tg) (ds : List D) (p p' : Pt) : Prop := ∀ s, Mt p s → ∃ s', asgs l ds s = some s' ∧ Mt p' s'
theorem as_nm {i : Nat} {d : D} {p : Pt} : As (.nm i) d p (stP p i (some d)) := fun s m => ⟨_, asg_nm i d s, m.put i d⟩
theorem as_tp {l : List Tg} {ds : List D} {p p' : Pt} (h : Ass l ds p p') : As (.tp l) (.tuple ds) p p' := fun s m => by
  obtain ⟨s', e, m'⟩ := h s m
  exact ⟨s', by rw [asg_tp, e], m'⟩
theorem ass_nil {p : Pt} : Ass [] [] p p := fun s m => ⟨s, asgs_nil s, m⟩
theorem ass_cons {t : Tg} {l : List Tg} {d : D} {ds : List D} {p p1 p2 : Pt} (h : As t d p p1) (h2 : Ass l ds p1 p2) : Ass (t :: l) (d :: ds) p p2 := fun s m => by
  obtain ⟨s', e, m'⟩ := h s m
  obtain ⟨s2, e2, m2⟩ := h2 s' m'
  exact ⟨s2, by rw [asgs_cons, e, asgsK_some, e2], m2⟩
def XI (p : Pt) (it : I) (ey : β → D) (ys : α → List β) (lk : α → List (Nat × D)) (q : α → Pt) (F : (α → Option γ) → Option γ) : Prop :=
  ∀ k z, F k = some z → ∃ x, k x = some z ∧ (∀ i d, (i, d) ∈ lk x → gtP (q x) i = some d) ∧ ∀ s, Mt p s → ∃ s1, it s = .ok ((ys x).map ey, lk x) (lockS (lk x) s1) ∧ Mt (q x) s1
theorem kl_has {p : Pt} : ∀ (ks : List AK) (rs : List Rf) (ds : List D), Rk p ks rs ds → ∀ i d, (i, d) ∈ kl ks ds → gtP p i = some d
  | [], [], [], _, i, d, hm => by cases hm
  | .v :: ks, r :: rs, e :: ds, h, i, d, hm => kl_has ks rs ds h.2 i d hm
  | .s j :: ks, r :: rs, e :: ds, h, i, d, hm => by
    rcases List.mem_cons.mp hm with z | z
    · cases z; exact h.1.2.1
    · exact kl_has ks rs ds h.2 i d z
section
variable {p : Pt} {gs : AL} {ks : List AK} {vs : α → List D} {q : α → Pt} {F : (α → Option γ) → Option γ} {itm : List D → Option (List D)} {ey : β → D}
theorem xi_mk {ys : α → List β} (h : XA p gs ks vs q F) (hn : nodupB (kn ks) = true) (hp : Pu ey) (hi : ∀ x, itm (vs x) = some ((ys x).map ey)) (hM : Nonempty Sg := ⟨[]⟩) :
    XI p (mkI itm gs) ey ys (fun x => kl ks (vs x)) q F := fun k z e => by
  obtain ⟨x, e1, h⟩ := h k z e
  by_cases c : ∃ s, Mt p s
  · obtain ⟨s0, m0⟩ := c
    refine ⟨x, e1, ?_, fun s m => ?_⟩
    · obtain ⟨rs, s', a1, a2, a3⟩ := h s0 m0
      exact kl_has ks rs (vs x) a3
    · obtain ⟨rs, s', a1, a2, a3⟩ := h s m
      refine ⟨s', ?_, a2⟩
      rw [ev_mkI, a1, ev_ok, ev_mkIK, a3.rds a2, ev_mkIK2, hi x, ev_mkIK3, a3.lks, kl_kn _ _ a3.len, if_pos ⟨purs_pu hp _, hn⟩]
  · exfalso
    exact c (by
      refine ⟨p, Mt.refl p⟩)
theorem xi_mkP {ys : α → δ → List β} {m : α → Option δ} (h : XA p gs ks vs q F) (hn : nodupB (kn ks) = true) (hp : Pu ey) (hi : ∀ x z, m x = some z → itm (vs x) = some ((ys x z).map ey)) :
    XI p (mkI itm gs) ey (fun w : α × δ => ys w.1 w.2) (fun w => kl ks (vs w.1)) (fun w => q w.1) (fun k => F fun x => (m x).bind fun z => k (x, z)) := fun k z e => by
  obtain ⟨x, e1, h⟩ := h _ z e
  obtain ⟨y, e2, e3⟩ := Option.bind_eq_some_iff.mp e1
  refine ⟨(x, y), e3, ?_, fun s m => ?_⟩
  · obtain ⟨rs, s', a1, a2, a3⟩ := h p (Mt.refl p)
    exact kl_has ks rs (vs x) a3
  · obtain ⟨rs, s', a1, a2, a3⟩ := h s m
    refine ⟨s', ?_, a2⟩
    rw [ev_mkI, a1, ev_ok, ev_mkIK, a3.rds a2, ev_mkIK2, hi x y e2, ev_mkIK3, a3.lks, kl_kn _ _ a3.len, if_pos ⟨purs_pu hp _, hn⟩]
end
def B (p : Pt) (g : S) (m : Option γ) (Q : γ → Fl → Sg → Prop) : Prop := ∀ z, m = some z → ∀ s, Mt p s → ∃ fl s', g s = .ok fl s' ∧ Q z fl s'
inductive Lf (σ ρ : Type) where
  | go (x : σ) | brk (x : σ) | ret (z : ρ)
def Lf.on (w : Lf σ ρ) (f : σ → τ) (g : ρ → τ) : τ := match w with
  | .go x => f x
  | .brk x => f x
  | .ret z => g z
@[simp] theorem Lf.on_go (x : σ) (f : σ → τ) (g : ρ → τ) : (Lf.go x : Lf σ ρ).on f g = f x := rfl
@[simp] theorem Lf.on_brk (x : σ) (f : σ → τ) (g : ρ → τ) : (Lf.brk x : Lf σ ρ).on f g = f x := rfl
@[simp] theorem Lf.on_ret (z : ρ) (f : σ → τ) (g : ρ → τ) : (Lf.ret z : Lf σ ρ).on f g = g z := rfl
def Qn (q : γ → Pt) : γ → Fl → Sg → Prop := fun z fl s => fl = .nx ∧ Mt (q z) s
def QF (rv : γ → D) (q : γ → Pt) : γ → Fl → Sg → Prop := fun z fl s => (fl = .rt (rv z) ∨ (fl = .nx ∧ rv z = .none)) ∧ Mt (q z) s
def Qc (q : σ → Pt) : σ → Fl → Sg → Prop := fun z fl s => (fl = .nx ∨ fl = .ct) ∧ Mt (q z) s
def QL (qb : σ → Pt) (rv : ρ → D) (qi : ρ → Pt) : Lf σ ρ → Fl → Sg → Prop
  | .go x, fl, s => (fl = .nx ∨ fl = .ct) ∧ Mt (qb x) s
  | .brk x, fl, s => fl = .bk ∧ Mt (qb x) s
  | .ret z, fl, s => fl = .rt (rv z) ∧ Mt (qi z) s
theorem B.cv {p : Pt} {g : S} {m m' : Option γ} {Q : γ → Fl → Sg → Prop} (h : B p g m Q) (e : m = m') : B p g m' Q := e ▸ h
section
variable {p : Pt} {g h th el rest : S} {m : Option γ} {Q : γ → Fl → Sg → Prop}
theorem seq_skip (g : S) (s : Sg) : sSeq g sSkip s = g s := by
  rw [ev_sSeq]
  cases h : g s with
  | ok fl s1 => cases fl <;> rfl
  | exc c v s1 => rfl
  | bad => rfl
theorem seq_asc (a b c : S) (s : Sg) : sSeq (sSeq a b) c s = sSeq a (sSeq b c) s := by
  rw [ev_sSeq, ev_sSeq, ev_sSeq]
  cases h : a s with
  | ok fl s1 => cases fl <;> rfl
  | exc c v s1 => rfl
  | bad => rfl
theorem b_last (h : B p (sSeq g sSkip) m Q) : B p g m Q := fun z e s mm => by
  obtain ⟨fl, s', h1, h2⟩ := h z e s mm
  exact ⟨fl, s', by rw [← h1, seq_skip], h2⟩
theorem b_asc {a b c : S} (h : B p (sSeq a (sSeq b c)) m Q) : B p (sSeq (sSeq a b) c) m Q := fun z e s mm => by
  obtain ⟨fl, s', h1, h2⟩ := h z e s mm
  exact ⟨fl, s', by rw [← h1, seq_asc], h2⟩
theorem b_skip (h : B p rest m Q) : B p (sSeq sSkip rest) m Q := fun z e s mm => by
  obtain ⟨fl, s', h1, h2⟩ := h z e s mm
  exact ⟨fl, s', h1, h2⟩
theorem b_end {q : γ → Pt} {z : γ} (w : Wk (q z) p) : B p sSkip (some z) (Qn q) := fun z' e s mm => by cases e; exact ⟨.nx, s, rfl, rfl, mm.wk w⟩
theorem b_endC {q : γ → Pt} {z : γ} (w : Wk (q z) p) : B p sSkip (some z) (Qc q) := fun z' e s mm => by cases e; exact ⟨.nx, s, rfl, .inl rfl, mm.wk w⟩
theorem b_endL {qb : σ → Pt} {rv : ρ → D} {qi : ρ → Pt} {z : σ} (w : Wk (qb z) p) : B p sSkip (some (.go z)) (QL qb rv qi) := fun z' e s mm => by cases e; exact ⟨.nx, s, rfl, .inl rfl, mm.wk w⟩
section
variable {e : O} {v : α → D} {q : α → Pt} {F : (α → Option γ) → Option γ} {vl : Bool} {M : α → Option γ} {i : Nat}
theorem b_set (h : X vl p e v q F) (c : vl = true ∨ ∀ x, pur (v x) = true) (hr : ∀ x, B (stP (q x) i (some (v x))) rest (M x) Q) : B p (sSeq (sSet i e) rest) (F M) Q := fun z e0 s mm => by
  obtain ⟨x, e1, h⟩ := h M z e0
  obtain ⟨r, s1, a1, a2, a3⟩ := h s mm
  obtain ⟨fl, s', h1, h2⟩ := hr x z e1 _ (a2.put i (v x))
  refine ⟨fl, s', ?_, h2⟩
  rw [ev_sSeq, ev_sSet, a1, ev_ok, ev_asgK, a3.own a2 (c.imp id fun c => c x), ev_asgK2, asg_nm, ev_asgK3, ev_ok, ev_seqK_nx, h1]
theorem b_setL {τ : Type} (e1 : τ → D) {vv : α → τ} {M : α → τ → Option γ} (h : X vl p e (fun x => e1 (vv x)) q F) (c : vl = true ∨ ∀ x, pur (e1 (vv x)) = true) (hr : ∀ x y, B (stP (q x) i (some (e1 y))) rest (M x y) Q) : B p (sSeq (sSet i e) rest) (F fun x => (some (vv x)).bind (M x)) Q :=
  b_set h c fun x => hr x (vv x)
theorem b_expr (h : X vl p e v q F) (hr : ∀ x, B (q x) rest (M x) Q) : B p (sSeq (sExpr e) rest) (F M) Q := fun z e0 s mm => by
  obtain ⟨x, e1, h⟩ := h M z e0
  obtain ⟨r, s1, a1, a2, a3⟩ := h s mm
  obtain ⟨fl, s', h1, h2⟩ := hr x z e1 _ a2
  refine ⟨fl, s', ?_, h2⟩
  rw [ev_sSeq, ev_sExpr, a1, ev_ok, ev_exprK, ev_ok, ev_seqK_nx, h1]
theorem b_ret {lk : Nat → Bool} (h : X vl p e v q F) (R : α → γ) (c : vl = true ∨ ∀ x, pur (v x) = true) (hQ : ∀ x s, Mt (q x) s → Q (R x) (.rt (v x)) s) : B p (sSeq (sRet lk e) rest) (F fun x => some (R x)) Q := fun z e0 s mm => by
  obtain ⟨x, e1, h⟩ := h _ z e0
  cases e1
  obtain ⟨r, s1, a1, a2, a3⟩ := h s mm
  refine ⟨.rt (v x), s1, ?_, hQ x s1 a2⟩
  rw [ev_sSeq, ev_sRet, a1, ev_ok]
  rcases a3 with rfl | ⟨hv, i, rfl, hg⟩
  · rfl
  · rcases c with c | c
    · rw [hv] at c; cases c
    · rw [ev_retK_slot, a2.get hg, ev_retK2, if_pos (.inl (c x))]; rfl
/-- a list of one's own is given -/
theorem b_retS {lk : Nat → Bool} {d : D} {R : γ} (h : gtP p i = some d) (hl : lk i = false) (hQ : ∀ s, Mt p s → Q R (.rt d) s) : B p (sSeq (sRet lk (oV i)) rest) (some R) Q := fun z e0 s mm => by
  cases e0
  refine ⟨.rt d, s, ?_, hQ s mm⟩
  rw [ev_sSeq, ev_sRet, ev_oV, mm.get h, ev_oVK, ev_ok, ev_retK_slot, mm.get h, ev_retK2, if_pos (.inr hl)]; rfl
theorem qf_ret {rv : γ → D} {q : γ → Pt} {z : γ} {d : D} (e : d = rv z) (w : Wk (q z) p) : ∀ s, Mt p s → QF rv q z (.rt d) s := fun s m => ⟨.inl (by rw [e]), m.wk w⟩
theorem ql_ret {qb : σ → Pt} {rv : ρ → D} {qi : ρ → Pt} {z : ρ} {d : D} (e : d = rv z) (w : Wk (qi z) p) : ∀ s, Mt p s → QL qb rv qi (.ret z) (.rt d) s := fun s m => ⟨by rw [e], m.wk w⟩
/-- x[k] = e -/
def setT (xs : List τ) (k : Int) (v : τ) : Option (List τ) := (ixN xs.length k).map fun j => xs.set j v
theorem b_setIx {ga : O} {e1 : τ → D} {vx : α → τ} {β : Type} {vk : α → β → Int} {q2 : α → β → Pt} {F2 : α → (β → Option γ) → Option γ} {xs : α → β → List τ} {M : α → β → List τ → Option γ} {vl2 : Bool}
    (h : X vl p e (fun x => e1 (vx x)) q F) (hp : Pu e1) (hi : ∀ x, ∃ d, gtP (q x) i = some d) (h2 : ∀ x, X vl2 (q x) ga (fun y => .int (vk x y)) (q2 x) (F2 x)) (hv : ∀ x y, vl = true ∨ q2 x y = q x) (hi2 : ∀ x y, gtP (q2 x y) i = some (eL e1 (xs x y)))
    (hr : ∀ x y ys, B (stP (q2 x y) i (some (eL e1 ys))) rest (M x y ys) Q) : B p (sSeq (sSetIx i ga e) rest) (F fun x => F2 x fun y => (setT (xs x y) (vk x y) (vx x)).bind (M x y)) Q := fun z e0 s mm => by
  obtain ⟨x, e2, h⟩ := h _ z e0
  obtain ⟨y, e3, h2⟩ := h2 x _ z e2
  obtain ⟨ys, e4, e5⟩ := Option.bind_eq_some_iff.mp e3
  obtain ⟨r, s1, a1, a2, a3⟩ := h s mm
  obtain ⟨r2, s2, b1, b2, b3⟩ := h2 s1 a2
  unfold setT at e4
  obtain ⟨j, e6, e7⟩ := Option.map_eq_some_iff.mp e4
  have b4 := b2.put i (eL e1 ys)
  obtain ⟨fl, s', h1, h2⟩ := hr x y ys z e5 _ b4
  refine ⟨fl, s', ?_, h2⟩
  obtain ⟨d0, hd0⟩ := hi x
  have o : own r s2 = some (e1 (vx x)) := by
    rcases hv x y with c | c
    · rcases a3 with rfl | ⟨c2, _⟩
      · rfl
      · rw [c] at c2; cases c2
    · rw [c] at b2
      exact Rd.own a3 b2 (.inr (hp _))
  have l : (List.map e1 (xs x y)).length = (xs x y).length := by simp
  rw [ev_sSeq, ev_sSetIx, a1, ev_ok, ev_ixK, ev_oV, a2.get hd0, ev_oVK, ev_ok, ev_ixK1, b1, ev_ok, ev_ixK2, o, b3.rd b2, b2.get (hi2 x y)]
  show ((ixK3 i s2 (some (e1 (vx x))) (some (.int (vk x y))) (some (.list ((xs x y).map e1)))).bind (seqK rest)) = _
  rw [ev_ixK3, if_pos (hp _), l, e6, ev_ixK4, ev_ok, ev_seqK_nx, ← h1]
  refine congrArg rest (congrArg (fun d => s2.set i (some d)) ?_)
  rw [← e7, eL, List.map_set]
end
section
variable {t : T} {b : α → Bool} {q : α → Pt} {F : (α → Option γ) → Option γ}
/-- what is behind stands behind both -/
theorem b_if {m1 m2 : α → Option γ} (h : XT p t b q F) (h1 : ∀ x, B (q x) (sSeq th rest) (m1 x) Q) (h2 : ∀ x, B (q x) (sSeq el rest) (m2 x) Q) :
    B p (sSeq (sIf t th el) rest) (F fun x => if b x = true then m1 x else m2 x) Q := fun z e0 s mm => by
  obtain ⟨x, e1, h⟩ := h _ z e0
  obtain ⟨s1, a1, a2⟩ := h s mm
  cases hb : b x with
  | true =>
    rw [if_pos hb] at e1
    obtain ⟨fl, s', b1, b2⟩ := h1 x z e1 s1 a2
    refine ⟨fl, s', ?_, b2⟩
    rw [ev_sSeq, ev_sIf, a1, ev_ok, ev_ifK, if_pos hb, ← b1, ev_sSeq]
  | false =>
    rw [if_neg (by simp [hb])] at e1
    obtain ⟨fl, s', b1, b2⟩ := h2 x z e1 s1 a2
    refine ⟨fl, s', ?_, b2⟩
    rw [ev_sSeq, ev_sIf, a1, ev_ok, ev_ifK, if_neg (by simp [hb]), ← b1, ev_sSeq]
/-- both go on, with the same names told -/
theorem b_ifj {m1 m2 : α → Option τ} {M : α → τ → Option γ} (h : XT p t b q F) (qj : α → τ → Pt) (h1 : ∀ x, B (q x) th (m1 x) (Qn (qj x))) (h2 : ∀ x, B (q x) el (m2 x) (Qn (qj x)))
    (hr : ∀ x y, B (qj x y) rest (M x y) Q) : B p (sSeq (sIf t th el) rest) (F fun x => (if b x = true then m1 x else m2 x).bind (M x)) Q := fun z e0 s mm => by
  obtain ⟨x, e1, h⟩ := h _ z e0
  obtain ⟨y, e2, e3⟩ := Option.bind_eq_some_iff.mp e1
  obtain ⟨s1, a1, a2⟩ := h s mm
  cases hb : b x with
  | true =>
    rw [if_pos hb] at e2
    obtain ⟨fl, s2, b1, b2, b3⟩ := h1 x y e2 s1 a2
    subst b2
    obtain ⟨fl, s', c1, c2⟩ := hr x y z e3 s2 b3
    refine ⟨fl, s', ?_, c2⟩
    rw [ev_sSeq, ev_sIf, a1, ev_ok, ev_ifK, if_pos hb, b1, ev_ok, ev_seqK_nx, c1]
  | false =>
    rw [if_neg (by simp [hb])] at e2
    obtain ⟨fl, s2, b1, b2, b3⟩ := h2 x y e2 s1 a2
    subst b2
    obtain ⟨fl, s', c1, c2⟩ := hr x y z e3 s2 b3
    refine ⟨fl, s', ?_, c2⟩
    rw [ev_sSeq, ev_sIf, a1, ev_ok, ev_ifK, if_neg (by simp [hb]), b1, ev_ok, ev_seqK_nx, c1]
end
def lpN (F : σ → β → Option σ) : List β → σ → Option σ
  | [], s => some s
  | y :: ys, s => (F s y).bind (lpN F ys)
def lpR (F : σ → β → Option (Lf σ ρ)) : List β → σ → Option (Lf σ ρ)
  | [], s => some (.go s)
  | y :: ys, s => (F s y).bind fun w => match w with
    | .go s => lpR F ys s
    | .brk s => some (.go s)
    | .ret z => some (.ret z)
theorem loop_N {t : Tg} {g : S} {ey : β → D} {qb : σ → Pt} {pb : σ → β → Pt} {mb : σ → β → Option σ} (hT : ∀ x y, As t (ey y) (qb x) (pb x y)) (hb : ∀ x y, B (pb x y) g (mb x y) (Qc qb)) :
    ∀ (ys : List β) (x x' : σ) (s : Sg), lpN mb ys x = some x' → Mt (qb x) s → ∃ s', loopS t g (ys.map ey) s = .ok .nx s' ∧ Mt (qb x') s'
  | [], x, x', s, e, m => by cases e; exact ⟨s, rfl, m⟩
  | y :: ys, x, x', s, e, m => by
    obtain ⟨x1, e1, e2⟩ := Option.bind_eq_some_iff.mp e
    obtain ⟨s1, a1, a2⟩ := hT x y s m
    obtain ⟨fl, s2, b1, b2, b3⟩ := hb x y x1 e1 s1 a2
    obtain ⟨s', c1, c2⟩ := loop_N hT hb ys x1 x' s2 e2 b3
    refine ⟨s', ?_, c2⟩
    rw [List.map_cons, loop_cons, a1, loopK1_some, b1, ev_ok]
    rcases b2 with rfl | rfl <;> exact c1
theorem loop_R {t : Tg} {g : S} {ey : β → D} {qb : σ → Pt} {pb : σ → β → Pt} {mb : σ → β → Option (Lf σ ρ)} {rv : ρ → D} {qi : ρ → Pt} (hT : ∀ x y, As t (ey y) (qb x) (pb x y)) (hb : ∀ x y, B (pb x y) g (mb x y) (QL qb rv qi)) :
    ∀ (ys : List β) (x : σ) (w : Lf σ ρ) (s : Sg), lpR mb ys x = some w → Mt (qb x) s → (∃ x' s', w = .go x' ∧ loopS t g (ys.map ey) s = .ok .nx s' ∧ Mt (qb x') s') ∨ (∃ z s', w = .ret z ∧ loopS t g (ys.map ey) s = .ok (.rt (rv z)) s' ∧ Mt (qi z) s')
  | [], x, x', s, e, m => by cases e; exact .inl ⟨x, s, rfl, rfl, m⟩
  | y :: ys, x, x', s, e, m => by
    obtain ⟨w, e1, e2⟩ := Option.bind_eq_some_iff.mp e
    obtain ⟨s1, a1, a2⟩ := hT x y s m
    obtain ⟨fl, s2, b1, b2⟩ := hb x y w e1 s1 a2
    cases w with
    | go x1 =>
      have ih := loop_R hT hb ys x1 x' s2 e2 b2.2
      have key : loopS t g ((y :: ys).map ey) s = loopS t g (ys.map ey) s2 := by
        rw [List.map_cons, loop_cons, a1, loopK1_some, b1, ev_ok]
        rcases b2.1 with rfl | rfl <;> rfl
      rw [key]
      exact ih
    | brk x1 =>
      cases e2
      refine .inl ⟨x1, s2, rfl, ?_, b2.2⟩
      rw [List.map_cons, loop_cons, a1, loopK1_some, b1, ev_ok, b2.1]; rfl
    | ret z =>
      cases e2
      refine .inr ⟨z, s2, rfl, ?_, b2.2⟩
      rw [List.map_cons, loop_cons, a1, loopK1_some, b1, ev_ok, b2.1]; rfl
section
variable {it : I} {ey : β → D} {ys : α → List β} {lk : α → List (Nat × D)} {q : α → Pt} {F : (α → Option γ) → Option γ} {lkf : Nat → Bool} {t : Tg} {pb : α → σ → β → Pt}
theorem b_for {mb : α → σ → β → Option σ} {M : α → σ → Option γ} (h : XI p it ey ys lk q F) (qb : α → σ → Pt) (s0 : α → σ) (hl : ∀ x, ((lk x).all fun q => lkf q.1) = true) (h0 : ∀ x, Wk (qb x (s0 x)) (lkP (lk x) (q x)))
    (hT : ∀ x s y, As t (ey y) (qb x s) (pb x s y)) (hb : ∀ x s y, B (pb x s y) g (mb x s y) (Qc (qb x))) (hr : ∀ x s, B (ulP (lk x) (qb x s)) rest (M x s) Q) :
    B p (sSeq (sFor lkf it t g) rest) (F fun x => (lpN (fun s y => mb x s y) (ys x) (s0 x)).bind (M x)) Q := fun z e0 s mm => by
  obtain ⟨x, e1, hx, h⟩ := h _ z e0
  obtain ⟨s1, a1, a2⟩ := h s mm
  obtain ⟨x', e2, e3⟩ := Option.bind_eq_some_iff.mp e1
  obtain ⟨s2, b1, b2⟩ := loop_N (hT x) (hb x) (ys x) (s0 x) x' _ e2 ((a2.lk _).wk (h0 x))
  obtain ⟨fl, s', c1, c2⟩ := hr x x' z e3 _ (b2.ul (lk x))
  refine ⟨fl, s', ?_, c2⟩
  rw [ev_sSeq, for_ok a1 (hl x) b1, ev_ok, ev_seqK_nx, c1]
theorem b_forR {mb : α → σ → β → Option (Lf σ ρ)} {M : α → σ → Option γ} (h : XI p it ey ys lk q F) (qb : α → σ → Pt) (s0 : α → σ) (rv : ρ → D) (qi : α → ρ → Pt) (R : ρ → γ) (hl : ∀ x, ((lk x).all fun q => lkf q.1) = true) (h0 : ∀ x, Wk (qb x (s0 x)) (lkP (lk x) (q x)))
    (hT : ∀ x s y, As t (ey y) (qb x s) (pb x s y)) (hb : ∀ x s y, B (pb x s y) g (mb x s y) (QL (qb x) rv (qi x))) (hR : ∀ x z s, Mt (ulP (lk x) (qi x z)) s → Q (R z) (.rt (rv z)) s) (hr : ∀ x s, B (ulP (lk x) (qb x s)) rest (M x s) Q) :
    B p (sSeq (sFor lkf it t g) rest) (F fun x => (lpR (fun s y => mb x s y) (ys x) (s0 x)).bind fun w => w.on (M x) (fun z => some (R z))) Q := fun z e0 s mm => by
  obtain ⟨x, e1, hx, h⟩ := h _ z e0
  obtain ⟨s1, a1, a2⟩ := h s mm
  obtain ⟨w, e2, e3⟩ := Option.bind_eq_some_iff.mp e1
  rcases loop_R (hT x) (hb x) (ys x) (s0 x) w _ e2 ((a2.lk _).wk (h0 x)) with ⟨x', s2, rfl, b1, b2⟩ | ⟨z', s2, rfl, b1, b2⟩
  · obtain ⟨fl, s', c1, c2⟩ := hr x x' z e3 _ (b2.ul (lk x))
    refine ⟨fl, s', ?_, c2⟩
    rw [ev_sSeq, for_ok a1 (hl x) b1, ev_ok, ev_seqK_nx, c1]
  · cases e3
    refine ⟨.rt (rv z'), _, ?_, hR x z' _ (b2.ul (lk x))⟩
    rw [ev_sSeq, for_ok a1 (hl x) b1, ev_ok, ev_seqK_rt]
end
end
theorem puL {e : α → D} {xs : List α} : pur (eL e xs) = false := pur_list _
theorem fn_t {ms : List Nat} {n : Nat} {g : S} {ds : List D} {p0 : Pt} {m : Option γ} {rv : γ → D} {q : γ → Pt} {outs : γ → List D} (hb : B p0 g m (QF rv q)) (h0 : ds.map some ++ List.replicate (n - ds.length) none = p0) (h1 : okM ms ds = true)
    (h2 : ∀ z s, Mt (q z) s → coll ms ds 0 s = some (outs z)) : ∀ z, m = some z → mkFn ms n g ds = .ok (rv z) (outs z) := fun z e => by
  obtain ⟨fl, s', a1, a2, a3⟩ := hb z e p0 (Mt.refl _)
  rw [← h0] at a1
  rcases a2 with rfl | ⟨rfl, e2⟩
  · exact mkFn_rt h1 a1 (h2 z s' a3)
  · rw [e2]; exact mkFn_nx h1 a1 (h2 z s' a3)
theorem coll_nilP {p : Pt} {j : Nat} : ∀ s, Mt p s → coll [] [] j s = some [] := fun s _ => rfl
theorem coll_0P {p : Pt} {j : Nat} {ms : List Nat} {d d' : D} {ds as : List D} (h : gtP p j = some d') (h2 : ∀ s, Mt p s → coll ms ds (j + 1) s = some as) : ∀ s, Mt p s → coll (0 :: ms) (d :: ds) j s = some (d' :: as) := fun s m => by
  rw [coll_0, m.get h, h2 s m]; rfl
end
end Sim
namespace Sim
open PySem PySem.Spec L2
def lim {α : Type} (n : Nat) (m : Option α) : Option α := if n ≤ 1000000 then m else none
theorem lim_of {α : Type} {n : Nat} {m : Option α} (h : n ≤ 1000000) : lim n m = m := if_pos h
section
variable {α β δ γ σ τ ρ ε ζ : Type}
def XPr (p : Pt) (po : Option O) (l : α → Option Int) (F : (α → Option γ) → Option γ) : Prop :=
  ∀ k z, F k = some z → ∃ x, k x = some z ∧ ∀ s, Mt p s → ∃ s', prt po s = .ok (l x) s' ∧ Mt p s'
theorem xpr_none {p : Pt} : XPr (γ := γ) p none (fun _ : Unit => none) (fun k => k ()) := fun k z e => ⟨(), e, fun s m => ⟨s, rfl, m⟩⟩
theorem xpr_some {p : Pt} {g : O} {i : α → Int} {F : (α → Option γ) → Option γ} {vl : Bool} (h : X vl p g (fun x => .int (i x)) (fun _ => p) F) : XPr p (some g) (fun x => some (i x)) F := fun k z e => by
  obtain ⟨x, e1, h⟩ := h k z e
  refine ⟨x, e1, fun s m => ?_⟩
  obtain ⟨r, s', a1, a2, a3⟩ := h s m
  exact ⟨s', by rw [ev_prt_some, a1, ev_ok, ev_prtK, a3.rd a2, ev_prtK2], a2⟩
section
variable {p : Pt} {g : O} {lo hi st : Option O} {v : α → D} {q : α → Pt} {F : (α → Option γ) → Option γ} {vl : Bool} {l : α → β → Option Int} {F1 : α → (β → Option γ) → Option γ}
  {u : α → β → δ → Option Int} {F2 : α → β → (δ → Option γ) → Option γ}
theorem x_sl {rv : α → β → δ → D} (h : X vl p g v q F) (h1 : ∀ x, XPr (q x) lo (l x) (F1 x)) (h2 : ∀ x y, XPr (q x) hi (u x y) (F2 x y)) (hs : ∀ x y w, slD (v x) (l x y) (u x y w) = some (rv x y w)) :
    X true p (oSl g lo hi) (fun w : α × β × δ => rv w.1 w.2.1 w.2.2) (fun w => q w.1) (fun k => F fun x => F1 x fun y => F2 x y fun w => k (x, y, w)) := fun k z e => by
  obtain ⟨x, e1, h⟩ := h _ z e
  obtain ⟨y, e2, h1⟩ := h1 x _ z e1
  obtain ⟨w, e3, h2⟩ := h2 x y _ z e2
  refine ⟨(x, y, w), e3, fun s m => ?_⟩
  obtain ⟨r, s1, a1, a2, a3⟩ := h s m
  obtain ⟨s2, b1, b2⟩ := h1 s1 a2
  obtain ⟨s3, c1, c2⟩ := h2 s2 b2
  exact ⟨.val (rv x y w), s3, by rw [ev_oSl, a1, ev_ok, ev_slK1, b1, ev_ok, ev_slK2, c1, ev_ok, ev_slK3, a3.rd c2, ev_slK4, hs, ev_slK5], c2, .inl rfl⟩
end
section
variable {p : Pt} {g : O} {lo hi st : Option O} {v : α → D} {q : α → Pt} {F : (α → Option γ) → Option γ} {vl : Bool} {l : α → β → Option Int} {F1 : α → (β → Option γ) → Option γ}
  {u : α → β → δ → Option Int} {F2 : α → β → (δ → Option γ) → Option γ}
end
theorem x_mt {p : Pt} {gs : AL} {ks : List AK} {vs : α → List D} {q : α → Pt} {F : (α → Option γ) → Option γ} {f : List D → List D → Option (List D × D)} {i : Nat} {e : τ → D} {x0 : List τ} {xs : α → List τ} {m : α → Option β} {xs' : α → β → List τ} {rv : α → β → D}
    (h0 : gtP p i = some (eL e x0)) (h : XA p gs ks vs q F) (hk : ks.all AK.isV = true) (h1 : ∀ x, gtP (q x) i = some (eL e (xs x))) (hf : ∀ x z, m x = some z → f ((xs x).map e) (vs x) = some ((xs' x z).map e, rv x z)) (hp : ∀ x z, pur (rv x z) = true) :
    X true p (oMt f i gs) (fun w : α × β => rv w.1 w.2) (fun w => stP (q w.1) i (some (eL e (xs' w.1 w.2)))) (fun k => F fun x => (m x).bind fun z => k (x, z)) := fun k z e0 => by
  obtain ⟨x, e1, h⟩ := h _ z e0
  obtain ⟨y, e2, e3⟩ := Option.bind_eq_some_iff.mp e1
  refine ⟨(x, y), e3, fun s mm => ?_⟩
  obtain ⟨rs, s2, b1, b2, b3⟩ := h s mm
  refine ⟨.val (rv x y), s2.set i (some (eL e (xs' x y))), ?_, b2.put i _, .inl rfl⟩
  have g1 : (s[i]?).join = some (.list (x0.map e)) := mm.get h0
  have g2 : (s2[i]?).join = some (.list ((xs x).map e)) := b2.get (h1 x)
  rw [ev_oMt, ev_oV, g1, ev_oVK, ev_ok, ev_mtK, g1, ev_mtK1, b1, ev_ok, ev_mtK2, g2, b3.owns b2 (kv hk), ev_mtK3, hf x y e2, ev_mtK4, if_pos (hp x y)]
  rfl
def clP : List Nat → Pt → Pt
  | [], p => p
  | v :: vs, p => stP (clP vs p) v none
theorem Mt.cl : ∀ (vs : List Nat) {p : Pt} {s : Sg}, Mt p s → Mt (clP vs p) (clrS vs s)
  | [], _, _, h => h
  | v :: vs, _, _, h => by rw [clrS_cons]; exact (Mt.cl vs h).off v none
theorem own_mem : ∀ {vs : List Nat} {s : Sg} {i : Nat} {d : D}, (i, d) ∈ ownSl vs s ↔ i ∈ vs ∧ (s[i]?).join = some d
  | [], s, i, d => by simp
  | v :: vs, s, i, d => by
    rw [ownSl_cons]
    cases h : (s[v]?).join with
    | none =>
      rw [ownSlK_none, own_mem]
      constructor
      · rintro ⟨a, b⟩; exact ⟨List.mem_cons_of_mem _ a, b⟩
      · rintro ⟨a, b⟩
        rcases List.mem_cons.mp a with rfl | a
        · rw [h] at b; cases b
        · exact ⟨a, b⟩
    | some e =>
      rw [ownSlK_some, List.mem_cons, own_mem]
      constructor
      · rintro (a | ⟨a, b⟩)
        · cases a; exact ⟨List.mem_cons_self .., h⟩
        · exact ⟨List.mem_cons_of_mem _ a, b⟩
      · rintro ⟨a, b⟩
        rcases List.mem_cons.mp a with rfl | a
        · rw [h] at b; cases b; exact .inl rfl
        · exact .inr ⟨a, b⟩
theorem own_nodup : ∀ {vs : List Nat} {s : Sg}, nodupB vs = true → nodupB ((ownSl vs s).map (·.1)) = true
  | [], s, _ => by simp
  | v :: vs, s, h => by
    rw [ev_nodupB, Bool.and_eq_true] at h
    rw [ownSl_cons]
    have ih := own_nodup (s := s) h.2
    cases e : (s[v]?).join with
    | none => rw [ownSlK_none]; exact ih
    | some d =>
      rw [ownSlK_some, List.map_cons, ev_nodupB, ih, Bool.and_true]
      have h1 := h.1
      simp only [Bool.not_eq_true', List.contains_eq_mem, decide_eq_false_iff_not] at h1 ⊢
      intro z
      obtain ⟨a, ha, hb⟩ := List.mem_map.mp z
      obtain ⟨a1, a2⟩ := a
      have hb : a1 = v := hb
      subst hb
      exact h1 (own_mem.mp ha).1
theorem lock_get : ∀ {L : List (Nat × D)} {s : Sg} {i : Nat}, (∀ d, (i, d) ∉ L) → (lockS L s)[i]? = s[i]?
  | [], s, i, _ => rfl
  | a :: L, s, i, h => by
    rw [lockS_cons, lock_get fun d z => h d (List.mem_cons_of_mem _ z), List.getElem?_set, if_neg]
    intro z
    exact h a.2 (by rw [← z]; exact List.mem_cons_self ..)
theorem lock_len : ∀ (L : List (Nat × D)) (s : Sg), (lockS L s).length = s.length
  | [], _ => rfl
  | a :: L, s => by rw [lockS_cons, lock_len L, List.length_set]
theorem unlock_len : ∀ (L : List (Nat × D)) (s : Sg), (unlockS L s).length = s.length
  | [], _ => rfl
  | a :: L, s => by rw [unlockS_cons, unlock_len L, List.length_set]
theorem clr_len : ∀ (vs : List Nat) (s : Sg), (clrS vs s).length = s.length
  | [], _ => rfl
  | v :: vs, s => by rw [clrS_cons, List.length_set, clr_len vs]
theorem unlock_get : ∀ {L : List (Nat × D)} {s : Sg} {i : Nat} {d : D}, (∀ d', (i, d') ∈ L → d' = d) → i < s.length → ((∃ d', (i, d') ∈ L) ∨ s[i]? = some (some d)) → (unlockS L s)[i]? = some (some d)
  | [], s, i, d, _, _, h => by
    rcases h with ⟨d', h⟩ | h
    · cases h
    · exact h
  | a :: L, s, i, d, h1, h2, h => by
    rw [unlockS_cons]
    refine unlock_get (fun d' z => h1 d' (List.mem_cons_of_mem _ z)) (by rw [List.length_set]; exact h2) ?_
    rw [List.getElem?_set]
    by_cases c : a.1 = i
    · right
      rw [if_pos c, if_pos (by omega), h1 a.2 (by rw [← c]; exact List.mem_cons_self ..)]
    · rw [if_neg c]
      rcases h with ⟨d', h⟩ | h
      · rcases List.mem_cons.mp h with z | z
        · exact absurd (by rw [← z]) c
        · exact .inl ⟨d', z⟩
      · exact .inr h
theorem gtP_lt : ∀ {p : Pt} {i : Nat} {d : D}, gtP p i = some d → i < p.length
  | [], _, _, h => by cases h
  | _ :: _, 0, _, _ => Nat.zero_lt_succ _
  | _ :: p, i + 1, _, h => Nat.succ_lt_succ (gtP_lt (p := p) h)
theorem clP_get : ∀ {vs : List Nat} {p : Pt} {i : Nat} {d : D}, gtP (clP vs p) i = some d → i ∉ vs ∧ gtP p i = some d
  | [], _, _, _, h => ⟨by simp, h⟩
  | v :: vs, p, i, d, h => by
    have hh : gtP (stP (clP vs p) v none) i = some d := h
    have h : gtP (stP (clP vs p) v none) i = some d := h
    rw [gtP_stP] at h
    by_cases c : v = i ∧ v < (clP vs p).length
    · rw [if_pos c] at h; cases h
    · rw [if_neg c] at h
      obtain ⟨h1, h2⟩ := clP_get h
      refine ⟨fun z => ?_, h2⟩
      rcases List.mem_cons.mp z with rfl | z
      · exact c ⟨rfl, by have := gtP_lt hh; rw [stP_len] at this; exact this⟩
      · exact h1 z
theorem clr_get : ∀ {vs : List Nat} {s : Sg} {i : Nat}, i ∉ vs → (clrS vs s)[i]? = s[i]?
  | [], _, _, _ => rfl
  | v :: vs, s, i, h => by
    rw [clrS_cons, List.getElem?_set, if_neg (fun z => h (by rw [z]; exact List.mem_cons_self ..)), clr_get fun z => h (List.mem_cons_of_mem _ z)]
theorem cl_own {vs : List Nat} {p : Pt} {s s0 : Sg} (m : Mt p s) : Mt (clP vs p) (clrS vs (lockS (ownSl vs s0) s)) := by
  have e : ∀ vs : List Nat, (clP vs p).length = p.length := by
    intro vs
    induction vs with
    | nil => rfl
    | cons v vs ih => show (stP _ _ _).length = _; rw [stP_len, ih]
  refine ⟨by rw [e, clr_len, lock_len, m.len], fun i d h => ?_⟩
  obtain ⟨h1, h2⟩ := clP_get h
  rw [clr_get h1, lock_get fun d' z => h1 (own_mem.mp z).1]
  exact m.has i d h2
def lcS (F : σ → β → Option (Option δ × σ)) : List β → σ → Option (List δ × σ)
  | [], s => some ([], s)
  | y :: ys, s => (F s y).bind fun w => (lcS F ys w.2).bind fun r => some ((match w.1 with
    | some d => d :: r.1
    | none => r.1), r.2)
theorem comp_S {t : Tg} {c : T} {e : O} {vs : List Nat} {ey : β → D} {ee : δ → D} {qb : σ → Pt} {F : σ → β → Option (Option δ × σ)}
    (hs : ∀ u y w, F u y = some w → ∀ s, Mt (qb u) s → ∃ s1 s2 b, asg t (ey y) s = some s1 ∧ c s1 = .ok b s2 ∧ ((b = false ∧ w.1 = none ∧ Mt (qb w.2) (clrS vs s2)) ∨ (b = true ∧ ∃ d r s3, w.1 = some d ∧ e s2 = .ok r s3 ∧ own r s3 = some (ee d) ∧ Mt (qb w.2) (clrS vs s3)))) :
    ∀ (ys : List β) (u : σ) (acc : List D) (z : List δ × σ) (s : Sg), lcS F ys u = some z → acc.length + ys.length ≤ 1000000 → Mt (qb u) s → ∃ s', compL t c e vs (ys.map ey) acc s = .ok (acc ++ z.1.map ee) s' ∧ Mt (qb z.2) s'
  | [], u, acc, z, s, h, _, m => by cases h; exact ⟨s, by simp, m⟩
  | y :: ys, u, acc, z, s, h, hl, m => by
    obtain ⟨w, e1, e2⟩ := Option.bind_eq_some_iff.mp h
    obtain ⟨r, e3, e4⟩ := Option.bind_eq_some_iff.mp e2
    rw [List.length_cons] at hl
    obtain ⟨s1, s2, b, a1, a2, a3⟩ := hs u y w e1 s m
    rcases a3 with ⟨rfl, hw, m2⟩ | ⟨rfl, d, rr, s3, hw, b1, b2, m2⟩
    · obtain ⟨s', c1, c2⟩ := comp_S hs ys w.2 acc r _ e3 (by omega) m2
      cases e4
      refine ⟨s', ?_, c2⟩
      rw [hw]
      rw [List.map_cons, compL]
      simp only [a1, a2, ev_ok, Bool.false_eq_true, if_false, c1]
    · obtain ⟨s', c1, c2⟩ := comp_S hs ys w.2 (acc ++ [ee d]) r _ e3 (by rw [List.length_append, List.length_singleton]; omega) m2
      cases e4
      refine ⟨s', ?_, c2⟩
      rw [hw]
      rw [List.map_cons, compL]
      simp only [a1, a2, ev_ok, if_true, b1, b2]
      rw [if_pos (by omega), c1]
      simp
section
variable {p : Pt} {it : I} {ey : β → D} {ys : α → List β} {lk : α → List (Nat × D)} {q : α → Pt} {F : (α → Option γ) → Option γ} {t : Tg} {c : T} {e : O} {vs : List Nat} {ee : δ → D}
theorem x_compG {qb : α → σ → Pt} {s0 : α → σ} {G : α → σ → β → Option (Option δ × σ)} {p' : α → σ → Pt} (h : XI p it ey ys lk q F) (hv : nodupB vs = true) (h0 : ∀ x, Wk (qb x (s0 x)) (clP vs (lkP (lk x) (q x))))
    (hs : ∀ x u y w, G x u y = some w → ∀ s, Mt (qb x u) s → ∃ s1 s2 b, asg t (ey y) s = some s1 ∧ c s1 = .ok b s2 ∧ ((b = false ∧ w.1 = none ∧ Mt (qb x w.2) (clrS vs s2)) ∨ (b = true ∧ ∃ d r s3, w.1 = some d ∧ e s2 = .ok r s3 ∧ own r s3 = some (ee d) ∧ Mt (qb x w.2) (clrS vs s3))))
    (hp : ∀ x u, (p' x u).length = (qb x u).length ∧ (qb x u).length = (q x).length ∧ ∀ i d, gtP (p' x u) i = some d → gtP (q x) i = some d ∧ (i ∈ vs ∨ i ∈ (lk x).map (·.1)) ∨ gtP (qb x u) i = some d ∧ i ∉ vs ∧ i ∉ (lk x).map (·.1)) :
    X true p (oComp it t c e vs) (fun w : α × List δ × σ => eL ee w.2.1) (fun w => p' w.1 w.2.2) (fun k => F fun x => lim (ys x).length ((lcS (G x) (ys x) (s0 x)).bind fun z => k (x, z))) := fun k z e0 => by
  obtain ⟨x, e1, hx, h⟩ := h _ z e0
  unfold lim at e1
  by_cases hl : (ys x).length ≤ 1000000
  · rw [if_pos hl] at e1
    obtain ⟨w, e2, e3⟩ := Option.bind_eq_some_iff.mp e1
    refine ⟨(x, w), e3, fun s mm => ?_⟩
    obtain ⟨s1, a1, a2⟩ := h s mm
    obtain ⟨s2, b1, b2⟩ := comp_S (hs x) (ys x) (s0 x) [] w _ e2 (by simpa using hl) ((cl_own (vs := vs) (s0 := lockS (lk x) s1) (a2.lk (lk x))).wk (h0 x))
    refine ⟨.val (eL ee w.1), unlockS (ownSl vs (lockS (lk x) s1) ++ lk x) s2, ?_, ?_, .inl rfl⟩
    · unfold oComp
      rw [a1, ev_ok, if_pos (own_nodup hv), b1, ev_ok]
      rfl
    · obtain ⟨l1, l2, l3⟩ := hp x w.2
      refine ⟨by rw [unlock_len, l1, b2.len], fun i d hi => ?_⟩
      have hi2 : i < s2.length := by rw [← b2.len, ← l1]; exact gtP_lt hi
      refine unlock_get (fun d' z => ?_) hi2 ?_
      · rcases l3 i d hi with ⟨z1, z2⟩ | ⟨z1, z2, z3⟩
        · rcases List.mem_append.mp z with y | y
          · obtain ⟨y1, y2⟩ := own_mem.mp y
            by_cases c : ∃ d2, (i, d2) ∈ lk x
            · obtain ⟨d2, c⟩ := c
              have : ∀ (L : List (Nat × D)) (s : Sg), (i, d2) ∈ L → (lockS L s)[i]?.join = none := by
                intro L
                induction L with
                | nil => intro s z; cases z
                | cons a L ih =>
                  intro s z
                  rw [lockS_cons]
                  by_cases c2 : ∃ d3, (i, d3) ∈ L
                  · obtain ⟨d3, c2⟩ := c2
                    have : ∀ (L : List (Nat × D)) (s : Sg), ((s[i]?).join = none ∨ ∃ d3, (i, d3) ∈ L) → (lockS L s)[i]?.join = none := by
                      intro L
                      induction L with
                      | nil => intro s z; rcases z with z | ⟨_, z⟩; exact z; cases z
                      | cons b L ih =>
                        intro s z
                        rw [lockS_cons]
                        refine ih _ ?_
                        rw [List.getElem?_set]
                        by_cases c : b.1 = i
                        · left; rw [if_pos c]; split <;> rfl
                        · rw [if_neg c]
                          rcases z with z | ⟨d4, z⟩
                          · exact .inl z
                          · rcases List.mem_cons.mp z with z | z
                            · exact absurd (by rw [← z]) c
                            · exact .inr ⟨d4, z⟩
                    exact this L _ (.inr ⟨d3, c2⟩)
                  · rw [lock_get (fun d3 z => c2 ⟨d3, z⟩), List.getElem?_set]
                    rcases List.mem_cons.mp z with z | z
                    · have : a.1 = i := by rw [← z]
                      rw [if_pos this]; split <;> rfl
                    · exact absurd ⟨d2, z⟩ c2
              rw [this (lk x) s1 c] at y2
              cases y2
            · rw [lock_get (fun d3 z => c ⟨d3, z⟩)] at y2
              have := a2.get z1
              rw [y2] at this
              cases this; rfl
          · have := hx i d' y
            rw [z1] at this
            cases this; rfl
        · rcases List.mem_append.mp z with y | y
          · exact absurd (own_mem.mp y).1 z2
          · exact absurd (List.mem_map.mpr ⟨_, y, rfl⟩) z3
      · rcases l3 i d hi with ⟨z1, z2⟩ | ⟨z1, z2, z3⟩
        · left
          by_cases c : i ∈ (lk x).map (·.1)
          · obtain ⟨a, ha, hb⟩ := List.mem_map.mp c
            obtain ⟨a1', a2'⟩ := a
            have hb : a1' = i := hb
            subst hb
            exact ⟨a2', List.mem_append_right _ ha⟩
          · rcases z2 with z2 | z2
            · refine ⟨d, List.mem_append_left _ (own_mem.mpr ⟨z2, ?_⟩)⟩
              rw [lock_get (fun d3 z => c (List.mem_map.mpr ⟨_, z, rfl⟩))]
              exact a2.get z1
            · exact absurd z2 c
        · right; exact b2.has i d z1
  · rw [if_neg hl] at e1; cases e1
end
theorem clP_len : ∀ (vs : List Nat) (p : Pt), (clP vs p).length = p.length
  | [], _ => rfl
  | v :: vs, p => by show (stP _ _ _).length = _; rw [stP_len, clP_len vs]
theorem lkP_len : ∀ (L : List (Nat × D)) (p : Pt), (lkP L p).length = p.length
  | [], _ => rfl
  | a :: L, p => by show (lkP L (stP p a.1 none)).length = _; rw [lkP_len L, stP_len]
theorem clP_keep : ∀ {vs : List Nat} {p : Pt} {i : Nat}, i ∉ vs → gtP (clP vs p) i = gtP p i
  | [], _, _, _ => rfl
  | v :: vs, p, i, h => by
    show gtP (stP (clP vs p) v none) i = _
    rw [gtP_stP, if_neg, clP_keep fun z => h (List.mem_cons_of_mem _ z)]
    rintro ⟨z, _⟩
    exact h (by rw [z]; exact List.mem_cons_self ..)
theorem lkP_keep : ∀ {L : List (Nat × D)} {p : Pt} {i : Nat}, i ∉ L.map (·.1) → gtP (lkP L p) i = gtP p i
  | [], _, _, _ => rfl
  | a :: L, p, i, h => by
    show gtP (lkP L (stP p a.1 none)) i = _
    rw [lkP_keep (fun z => h (by rw [List.map_cons]; exact List.mem_cons_of_mem _ z)), gtP_stP, if_neg]
    rintro ⟨z, _⟩
    exact h (by rw [List.map_cons, z]; exact List.mem_cons_self ..)
def mixP : List Nat → Pt → Pt → Pt
  | [], _, b => b
  | k :: ks, a, b => stP (mixP ks a b) k (gtP a k)
theorem mixP_len : ∀ (ks : List Nat) (a b : Pt), (mixP ks a b).length = b.length
  | [], _, _ => rfl
  | k :: ks, a, b => by show (stP _ _ _).length = _; rw [stP_len, mixP_len ks]
theorem mixP_get : ∀ {ks : List Nat} {a b : Pt} {i : Nat} {d : D}, gtP (mixP ks a b) i = some d → (gtP a i = some d ∧ i ∈ ks) ∨ (gtP b i = some d ∧ i ∉ ks)
  | [], _, _, _, _, h => .inr ⟨h, by simp⟩
  | k :: ks, a, b, i, d, h => by
    have hh : gtP (stP (mixP ks a b) k (gtP a k)) i = some d := h
    rw [gtP_stP] at hh
    by_cases c : k = i ∧ k < (mixP ks a b).length
    · rw [if_pos c] at hh
      left
      rw [← c.1]
      exact ⟨hh, List.mem_cons_self ..⟩
    · rw [if_neg c] at hh
      rcases mixP_get hh with ⟨z1, z2⟩ | ⟨z1, z2⟩
      · exact .inl ⟨z1, List.mem_cons_of_mem _ z2⟩
      · refine .inr ⟨z1, fun z => ?_⟩
        rcases List.mem_cons.mp z with z | z
        · refine c ⟨z.symm, ?_⟩
          rw [mixP_len, ← z]; exact gtP_lt z1
        · exact z2 z
section
variable {p : Pt} {it : I} {ey : β → D} {ys : α → List β} {lk : α → List (Nat × D)} {q : α → Pt} {F : (α → Option γ) → Option γ} {t : Tg} {c : T} {e : O} {vs : List Nat} {ee : δ → D}
theorem X.cvF {p : Pt} {g : O} {v : α → D} {q : α → Pt} {F F' : (α → Option γ) → Option γ} {vl : Bool} (h : X vl p g v q F) (e : F = F') : X vl p g v q F' := e ▸ h
/-- with a state: what is told ahead and behind -/
theorem x_compS {vl : Bool} {pb : α → σ → β → Pt} {cv : α → σ → β → ε → Bool} {qc : α → σ → β → ε → Pt} {Fc : α → σ → β → (ε → Option (Option δ × σ)) → Option (Option δ × σ)}
    {ev : α → σ → β → ε → ζ → δ} {qe : α → σ → β → ε → ζ → Pt} {Fe : α → σ → β → ε → (ζ → Option (Option δ × σ)) → Option (Option δ × σ)}
    (h : XI p it ey ys lk q F) (ks : List Nat) (qb : α → σ → Pt) (s0 : α → σ) (hv : nodupB vs = true) (hk : ∀ x, (lk x).map (·.1) = ks) (hq : ∀ x u, (qb x u).length = (q x).length) (h0 : ∀ x, Wk (qb x (s0 x)) (clP vs (lkP (lk x) (q x)))) (hT : ∀ x u y, As t (ey y) (qb x u) (pb x u y))
    (hc : ∀ x u y, XT (pb x u y) c (cv x u y) (qc x u y) (Fc x u y)) (he : ∀ x u y w, X vl (qc x u y w) e (fun w2 => ee (ev x u y w w2)) (qe x u y w) (Fe x u y w)) (ho : vl = true ∨ Pu ee) (un : α → σ → β → ε → ζ → σ) (u0 : α → σ → β → ε → σ)
    (hn : ∀ x u y w w2, Wk (qb x (un x u y w w2)) (clP vs (qe x u y w w2))) (hn0 : ∀ x u y w, Wk (qb x (u0 x u y w)) (clP vs (qc x u y w))) :
    X true p (oComp it t c e vs) (fun w : α × List δ × σ => eL ee w.2.1) (fun w => mixP (vs ++ ks) (q w.1) (qb w.1 w.2.2))
      (fun k => F fun x => lim (ys x).length ((lcS (fun u y => Fc x u y fun w => if cv x u y w = true then Fe x u y w fun w2 => some (some (ev x u y w w2), un x u y w w2) else some (none, u0 x u y w)) (ys x) (s0 x)).bind fun z => k (x, z))) :=
  x_compG (G := fun x u y => Fc x u y fun w => if cv x u y w = true then Fe x u y w fun w2 => some (some (ev x u y w w2), un x u y w w2) else some (none, u0 x u y w)) (p' := fun x u => mixP (vs ++ ks) (q x) (qb x u)) h hv h0 (fun x u y w e1 s m => by
    obtain ⟨s1, a1, a2⟩ := hT x u y s m
    obtain ⟨w1, e2, hc⟩ := hc x u y _ _ e1
    obtain ⟨s2, b1, b2⟩ := hc s1 a2
    refine ⟨s1, s2, _, a1, b1, ?_⟩
    cases hb : cv x u y w1 with
    | false =>
      rw [if_neg (by simp [hb])] at e2
      cases e2
      exact .inl ⟨rfl, rfl, (b2.cl vs).wk (hn0 x u y w1)⟩
    | true =>
      rw [if_pos hb] at e2
      obtain ⟨w2, e3, he⟩ := he x u y w1 _ _ e2
      obtain ⟨r, s3, c1, c2, c3⟩ := he s2 b2
      cases e3
      exact .inr ⟨rfl, _, r, s3, rfl, c1, c3.own c2 (ho.imp id fun z => z _), (c2.cl vs).wk (hn x u y w1 w2)⟩) (fun x u => by
    refine ⟨mixP_len .., hq x u, fun i d hi => ?_⟩
    rw [hk x]
    rcases mixP_get hi with ⟨z1, z2⟩ | ⟨z1, z2⟩
    · exact .inl ⟨z1, List.mem_append.mp z2⟩
    · exact .inr ⟨z1, fun z => z2 (List.mem_append_left _ z), fun z => z2 (List.mem_append_right _ z)⟩)
theorem x_compU {vl : Bool} {pb : α → σ → β → Pt} {ev : α → σ → β → ζ → δ} {qe : α → σ → β → ζ → Pt} {Fe : α → σ → β → (ζ → Option (Option δ × σ)) → Option (Option δ × σ)}
    (h : XI p it ey ys lk q F) (ks : List Nat) (qb : α → σ → Pt) (s0 : α → σ) (hv : nodupB vs = true) (hk : ∀ x, (lk x).map (·.1) = ks) (hq : ∀ x u, (qb x u).length = (q x).length) (h0 : ∀ x, Wk (qb x (s0 x)) (clP vs (lkP (lk x) (q x)))) (hT : ∀ x u y, As t (ey y) (qb x u) (pb x u y))
    (he : ∀ x u y, X vl (pb x u y) e (fun w2 => ee (ev x u y w2)) (qe x u y) (Fe x u y)) (ho : vl = true ∨ Pu ee) (un : α → σ → β → ζ → σ)
    (hn : ∀ x u y w2, Wk (qb x (un x u y w2)) (clP vs (qe x u y w2))) (hn0 : ∀ x u y, Wk (qb x u) (clP vs (pb x u y))) :
    X true p (oComp it t tYesT e vs) (fun w : α × List δ × σ => eL ee w.2.1) (fun w => mixP (vs ++ ks) (q w.1) (qb w.1 w.2.2))
      (fun k => F fun x => lim (ys x).length ((lcS (fun u y => Fe x u y fun w2 => some (some (ev x u y w2), un x u y w2)) (ys x) (s0 x)).bind fun z => k (x, z))) :=
  (x_compS (cv := fun _ _ _ (_ : Unit) => true) (ev := fun x u y _ => ev x u y) h ks qb s0 hv hk hq h0 hT (fun _ _ _ => xt_yes) (fun x u y _ => he x u y) ho (fun x u y _ => un x u y) (fun _ u _ _ => u) (fun x u y _ => hn x u y) (fun x u y _ => hn0 x u y)).cvF
    (funext fun k => congrArg F (funext fun x => congrArg (lim _) (congrArg (fun f => (lcS f (ys x) (s0 x)).bind fun z => k (x, z)) (funext fun u => funext fun y => if_pos rfl))))
theorem pureP {x : α} : (q x).length = (clP vs (lkP (lk x) (q x))).length ∧ (clP vs (lkP (lk x) (q x))).length = (q x).length ∧ ∀ i d, gtP (q x) i = some d → gtP (q x) i = some d ∧ (i ∈ vs ∨ i ∈ (lk x).map (·.1)) ∨ gtP (clP vs (lkP (lk x) (q x))) i = some d ∧ i ∉ vs ∧ i ∉ (lk x).map (·.1) := by
  have e : (clP vs (lkP (lk x) (q x))).length = (q x).length := by rw [clP_len, lkP_len]
  refine ⟨e.symm, e, fun i d hi => ?_⟩
  by_cases c : i ∈ vs ∨ i ∈ (lk x).map (·.1)
  · exact .inl ⟨hi, c⟩
  · have c1 : i ∉ vs := fun z => c (.inl z)
    have c2 : i ∉ (lk x).map (·.1) := fun z => c (.inr z)
    exact .inr ⟨by rw [clP_keep c1, lkP_keep c2, hi], c1, c2⟩
/-- nothing changes -/
theorem x_compP {vl : Bool} {pb : α → β → Pt} {cv : α → β → ε → Bool} {Fc : α → β → (ε → Option (Option δ × Unit)) → Option (Option δ × Unit)}
    {ev : α → β → ε → ζ → δ} {Fe : α → β → ε → (ζ → Option (Option δ × Unit)) → Option (Option δ × Unit)}
    (h : XI p it ey ys lk q F) (hv : nodupB vs = true) (hT : ∀ x y, As t (ey y) (clP vs (lkP (lk x) (q x))) (pb x y))
    (hc : ∀ x y, XT (pb x y) c (cv x y) (fun _ => pb x y) (Fc x y)) (he : ∀ x y w, X vl (pb x y) e (fun w2 => ee (ev x y w w2)) (fun _ => pb x y) (Fe x y w)) (ho : vl = true ∨ Pu ee)
    (hn : ∀ x y, Wk (clP vs (lkP (lk x) (q x))) (clP vs (pb x y))) :
    X true p (oComp it t c e vs) (fun w : α × List δ × Unit => eL ee w.2.1) (fun w => q w.1)
      (fun k => F fun x => lim (ys x).length ((lcS (fun _ y => Fc x y fun w => if cv x y w = true then Fe x y w fun w2 => some (some (ev x y w w2), ()) else some (none, ())) (ys x) ()).bind fun z => k (x, z))) :=
  x_compG (G := fun x _ y => Fc x y fun w => if cv x y w = true then Fe x y w fun w2 => some (some (ev x y w w2), ()) else some (none, ())) (qb := fun x _ => clP vs (lkP (lk x) (q x))) (s0 := fun _ => ()) (p' := fun x _ => q x) h hv (fun x => Wk.refl _) (fun x u y w e1 s m => by
    obtain ⟨s1, a1, a2⟩ := hT x y s m
    obtain ⟨w1, e2, hc⟩ := hc x y _ _ e1
    obtain ⟨s2, b1, b2⟩ := hc s1 a2
    refine ⟨s1, s2, _, a1, b1, ?_⟩
    cases hb : cv x y w1 with
    | false =>
      rw [if_neg (by simp [hb])] at e2
      cases e2
      exact .inl ⟨rfl, rfl, (b2.cl vs).wk (hn x y)⟩
    | true =>
      rw [if_pos hb] at e2
      obtain ⟨w2, e3, he⟩ := he x y w1 _ _ e2
      obtain ⟨r, s3, c1, c2, c3⟩ := he s2 b2
      cases e3
      exact .inr ⟨rfl, _, r, s3, rfl, c1, c3.own c2 (ho.imp id fun z => z _), (c2.cl vs).wk (hn x y)⟩) (fun x u => pureP)
theorem lcS_map (f : β → δ) : ∀ ys : List β, lcS (fun (_ : Unit) y => some (some (f y), ())) ys () = some (ys.map f, ())
  | [] => rfl
  | y :: ys => by
    show (lcS _ ys ()).bind _ = _
    rw [lcS_map f ys]; rfl
def mapO (f : β → Option δ) : List β → Option (List δ)
  | [] => some []
  | y :: ys => (f y).bind fun z => (mapO f ys).bind fun zs => some (z :: zs)
theorem mapO_some {f : β → Option δ} {g : β → δ} : ∀ {ys : List β}, (∀ y ∈ ys, f y = some (g y)) → mapO f ys = some (ys.map g)
  | [], _ => rfl
  | y :: ys, h => by
    rw [mapO, h y (List.mem_cons_self ..), mapO_some fun z hz => h z (List.mem_cons_of_mem _ hz)]; rfl
/-- every one, each sure to be told -/
theorem x_mapT {vl : Bool} {pb : α → β → Pt} {ev : α → β → ζ → δ} {y1 : α → β → ζ}
    (h : XI p it ey ys lk q F) (hv : nodupB vs = true) (hT : ∀ x y, As t (ey y) (clP vs (lkP (lk x) (q x))) (pb x y))
    (he : ∀ x y, X (γ := Option δ × Unit) vl (pb x y) e (fun w2 => ee (ev x y w2)) (fun _ => pb x y) (fun k => k (y1 x y))) (ho : vl = true ∨ Pu ee)
    (hn : ∀ x y, Wk (clP vs (lkP (lk x) (q x))) (clP vs (pb x y))) :
    X true p (oComp it t tYesT e vs) (fun w : α × List δ × Unit => eL ee w.2.1) (fun w => q w.1) (fun k => F fun x => lim (ys x).length (k (x, (ys x).map (fun y => ev x y (y1 x y)), ()))) := by
  refine (x_compP (cv := fun _ _ (_ : Unit) => true) (ev := fun x y _ => ev x y) h hv hT (fun x y => xt_yes) (fun x y _ => he x y) ho hn).cvF (funext fun k => congrArg F (funext fun x => congrArg (lim _) ?_))
  have := lcS_map (fun y => ev x y (y1 x y)) (ys x)
  show (lcS (fun _ y => some (some (ev x y (y1 x y)), ())) (ys x) ()).bind _ = _
  rw [this]; rfl
/-- every one, each perhaps told -/
theorem x_mapP {vl : Bool} {pb : α → β → Pt} {ev : α → β → ζ → δ} {Fe : α → β → (ζ → Option (Option δ × Unit)) → Option (Option δ × Unit)}
    (h : XI p it ey ys lk q F) (hv : nodupB vs = true) (hT : ∀ x y, As t (ey y) (clP vs (lkP (lk x) (q x))) (pb x y))
    (he : ∀ x y, X vl (pb x y) e (fun w2 => ee (ev x y w2)) (fun _ => pb x y) (Fe x y)) (ho : vl = true ∨ Pu ee) (Ge : α → β → Option δ)
    (hn : ∀ x y, Wk (clP vs (lkP (lk x) (q x))) (clP vs (pb x y))) (hg : ∀ x y z, Ge x y = some z → Fe x y (fun w2 => some (some (ev x y w2), ())) = some (some z, ())) :
    X true p (oComp it t tYesT e vs) (fun w : α × List δ × Unit => eL ee w.2.1) (fun w => q w.1) (fun k => F fun x => lim (ys x).length ((mapO (Ge x) (ys x)).bind fun zs => k (x, zs, ()))) := by
  have key : ∀ (x : α) (l : List β), lcS (fun (_ : Unit) y => (Ge x y).bind fun z => some (some z, ())) l () = (mapO (Ge x) l).bind fun zs => some (zs, ()) := by
    intro x l
    induction l with
    | nil => rfl
    | cons y l ih =>
      show ((Ge x y).bind _).bind _ = ((Ge x y).bind _).bind _
      cases h : Ge x y with
      | none => rfl
      | some z =>
        rw [Option.bind_some, Option.bind_some, Option.bind_some, ih]
        cases h2 : mapO (Ge x) l <;> rfl
  have hh := x_compG (γ := γ) (e := e) (ee := ee) (c := tYesT) (G := fun x (_ : Unit) y => (Ge x y).bind fun z => some (some z, ())) (qb := fun x _ => clP vs (lkP (lk x) (q x))) (s0 := fun _ => ()) (p' := fun x _ => q x) h hv (fun x => Wk.refl _) (fun x u y w e1 s m => by
    obtain ⟨s1, a1, a2⟩ := hT x y s m
    obtain ⟨z, e2, e3⟩ := Option.bind_eq_some_iff.mp e1
    cases e3
    obtain ⟨w2, e4, he⟩ := he x y _ _ (hg x y z e2)
    obtain ⟨r, s3, c1, c2, c3⟩ := he s1 a2
    have e5 : ev x y w2 = z := by cases e4; rfl
    refine ⟨s1, s1, true, a1, rfl, .inr ⟨rfl, z, r, s3, rfl, c1, ?_, (c2.cl vs).wk (hn x y)⟩⟩
    rw [c3.own c2 (ho.imp id fun z => z _)]
    show some (ee (ev x y w2)) = _
    rw [e5]) (fun x u => pureP)
  refine hh.cvF (funext fun k => congrArg F (funext fun x => congrArg (lim _) ?_))
  show (lcS (fun (_ : Unit) y => (Ge x y).bind fun z => some (some z, ())) (ys x) ()).bind _ = _
  rw [key x (ys x)]
  cases mapO (Ge x) (ys x) <;> rfl
end
end
end Sim
namespace Sim
open PySem PySem.Spec L2
section
variable {α β δ : Type}
structure Eqv [DecidableEq α] (n : Nat) (e : α → D) : Prop where
  lay : ∀ x, PyData.canLay0 (e x) = true
  dep : ∀ x, PyData.depth (e x) ≤ n
  nod : ∀ x, noD (e x) = true
  eq : ∀ x y, PyData.eqv (e x) (e y) = decide (x = y)
theorem eqI : Eqv 0 eI := ⟨fun _ => rfl, fun _ => Nat.le_refl _, fun _ => rfl, fun x y => by simp [PyData.eqv]; rfl⟩
theorem Eqv.up [DecidableEq α] {n m : Nat} {e : α → D} (h : Eqv n e) (z : n ≤ m) : Eqv m e := ⟨h.lay, fun x => Nat.le_trans (h.dep x) z, h.nod, h.eq⟩
theorem Eqv.shp [DecidableEq α] {n : Nat} {e : α → D} (h : Eqv n e) (z : n ≤ 64) (x : α) : shp (e x) = true := by
  have := h.dep x
  simp only [Sim.shp, SeqAt.shaped, h.lay, h.nod, Bool.true_and, Bool.and_true, decide_eq_true_eq]
  omega
theorem op_eq [DecidableEq α] {n : Nat} {e : α → D} (h : Eqv n e) (z : n ≤ 64) (x y : α) : pEq [e x, e y] = some (.bool (decide (x = y))) := by
  rw [ev_eq, if_pos ⟨h.shp z x, h.shp z y⟩, h.eq]
theorem op_add (i j : Int) : pAdd [.int i, .int j] = some (.int (i + j)) := rfl
theorem op_sub' (i j : Int) : pSub [.int i, .int j] = some (.int (i - j)) := rfl
theorem op_neg (i : Int) : pNeg [.int i] = some (.int (-i)) := rfl
theorem op_lt' (i j : Int) : pLt [.int i, .int j] = some (.bool (decide (i < j))) := rfl
theorem op_le' (i j : Int) : pLe [.int i, .int j] = some (.bool (decide (i ≤ j))) := rfl
theorem op_gt' (i j : Int) : pGt [.int i, .int j] = some (.bool (decide (j < i))) := rfl
theorem op_ge' (i j : Int) : pGe [.int i, .int j] = some (.bool (decide (j ≤ i))) := rfl
theorem op_mulL {a b : Int} (h : -(2 ^ 64) < a ∧ a < 2 ^ 64) : pMul [.int a, .int b] = some (.int (a * b)) := by
  rw [ev_mul, if_pos (mulOk_l h.1 h.2)]
theorem op_mulR {a b : Int} (h : -(2 ^ 64) < b ∧ b < 2 ^ 64) : pMul [.int a, .int b] = some (.int (a * b)) := by
  rw [ev_mul, if_pos (mulOk_r h.1 h.2)]
def mulT (a b : Int) : Option Int := if mulOk a b = true then some (a * b) else none
theorem op_mul {a b z : Int} (h : mulT a b = some z) : pMul [.int a, .int b] = some (.int z) := by
  unfold mulT at h
  split at h
  · rename_i c; cases h; rw [ev_mul, if_pos c]
  · cases h
theorem op_divC {i c : Int} (h : 0 < c ∧ c.natAbs.log2 < 9000) : pDiv [.int i, .int c] = some (.int (i / c)) := by rw [ev_div, if_pos h]
theorem op_modC {i c : Int} (h : 0 < c) : pMod [.int i, .int c] = some (.int (i % c)) := by rw [ev_mod, if_pos h]
def divT (a b : Int) : Option Int := if 0 < b ∧ b.natAbs.log2 < 9000 then some (a / b) else none
theorem op_div {a b z : Int} (h : divT a b = some z) : pDiv [.int a, .int b] = some (.int z) := by
  unfold divT at h
  split at h
  · rename_i c; cases h; rw [ev_div, if_pos c]
  · cases h
def modT (a b : Int) : Option Int := if 0 < b then some (a % b) else none
theorem op_mod' {a b z : Int} (h : modT a b = some z) : pMod [.int a, .int b] = some (.int z) := by
  unfold modT at h
  split at h
  · rename_i c; cases h; rw [ev_mod, if_pos c]
  · cases h
theorem op_powC {a b c : Int} (h : 0 ≤ b ∧ b ≤ 1000000 ∧ a.natAbs < 2 ^ 64) (e : a ^ b.toNat = c) : pPow [.int a, .int b] = some (.int c) := by rw [ev_pow, if_pos h, e]
def shlT (a b : Int) : Option Int := if 0 ≤ b ∧ b ≤ 1000000 ∧ a.natAbs < 2 ^ 64 then some (a * 2 ^ b.toNat) else none
theorem op_shl' {a b z : Int} (h : shlT a b = some z) : pShl [.int a, .int b] = some (.int z) := by
  unfold shlT at h
  split at h
  · rename_i c; cases h; rw [ev_shl, if_pos c]
  · cases h
def absT (i : Int) : Int := if i < 0 then -i else i
theorem op_abs (i : Int) : pAbs [.int i] = some (.int (absT i)) := rfl
theorem atI_map {e : α → D} {xs : List α} {i : Int} {z : α} (h : atI xs i = some z) : atI (xs.map e) i = some (e z) := by
  unfold atI at h ⊢
  obtain ⟨j, h1, h2⟩ := Option.bind_eq_some_iff.mp h
  rw [List.length_map, h1]
  show (xs.map e)[j]? = _
  rw [List.getElem?_map, h2]; rfl
theorem op_ixL {e : α → D} (p : Pu e) {xs : List α} {i : Int} {z : α} (h : atI xs i = some z) : pIx [eL e xs, .int i] = some (e z) := by
  rw [eL, ev_ixL, atI_map h, ev_puO, if_pos (p z)]
theorem op_ixZ {xs : List Int} {i z : Int} (h : atI xs i = some z) : pIx [eZ xs, .int i] = some (.int z) := by
  rw [eZ, ev_ixF, atI_map h, ev_puO, if_pos (pur_int _)]
theorem op_lenL {e : α → D} (xs : List α) : pLen [eL e xs] = some (.int (xs.length : Int)) := by rw [eL, ev_lenL, List.length_map]
theorem op_lenZ (xs : List Int) : pLen [eZ xs] = some (.int (xs.length : Int)) := by rw [eZ, ev_lenF, List.length_map]
theorem op_tupL {e : α → D} (p : Pu e) (xs : List α) : pTuple [eL e xs] = some (eT e xs) := by rw [eL, ev_tupL, if_pos (purs_pu p xs)]; rfl
theorem op_all (xs : List Bool) : pAll [eL eB xs] = some (.bool (xs.all id)) := by
  have : bools (xs.map PyData.bool) = some xs := by have := bools_map (fun b => b) xs; rw [List.map_id'] at this; exact this
  rw [eL, ev_all]
  show (bools (xs.map PyData.bool)).map _ = _
  rw [this]; rfl
def catT (xs ys : List α) : Option (List α) := if xs.length + ys.length ≤ 1000000 then some (xs ++ ys) else none
theorem op_catL {e : α → D} (p : Pu e) {xs ys z : List α} (h : catT xs ys = some z) : pAdd [eL e xs, eL e ys] = some (eL e z) := by
  unfold catT at h
  split at h
  · rename_i c; cases h; rw [eL, eL, ev_addL, if_pos ⟨by simpa using c, purs_pu p _, purs_pu p _⟩, ← List.map_append]; rfl
  · cases h
theorem cutL_map {e : α → β} (xs : List α) (l u : Option Int) : cutL (xs.map e) l u = (cutL xs l u).map e := by
  unfold cutL
  rw [List.length_map, List.map_take, List.map_drop]
theorem op_slL {e : α → D} (p : Pu e) (xs : List α) (l u : Option Int) : slD (eL e xs) l u = some (eL e (cutL xs l u)) := by
  rw [eL, ev_slL, if_pos (purs_pu p xs), cutL_map]; rfl
theorem op_slZ (xs : List Int) (l u : Option Int) : slD (eZ xs) l u = some (eL eI (cutL xs l u)) := by
  rw [eZ, ev_slF, cutL_map]; rfl
def rngI (lo : Int) (n : Nat) : List Int := (List.range n).map fun i => lo + (i : Nat)
theorem rngD_I (lo : Int) (n : Nat) : rngD lo n = (rngI lo n).map eI := by unfold rngD rngI; simp
def rngO (j : Int) : Option (List Int) := if -1000000 < j ∧ j < 1000000 then some (rngI 0 j.toNat) else none
theorem it_r1 {j : Int} {z : List Int} (h : rngO j = some z) : itR1 [.int j] = some (z.map eI) := by
  unfold rngO at h
  split at h
  · rename_i c
    cases h
    show (if -1000000 < j ∧ j < 1000000 then some (rngD 0 j.toNat) else none) = _
    rw [if_pos c, rngD_I]
  · cases h
theorem it_r1C {j : Int} (h : -1000000 < j ∧ j < 1000000) : itR1 [.int j] = some ((rngI 0 j.toNat).map eI) := it_r1 (by unfold rngO; rw [if_pos h])
theorem it_L {e : α → D} (xs : List α) : itP [eL e xs] = some (xs.map e) := rfl
theorem it_T {e : α → D} (xs : List α) : itP [eT e xs] = some (xs.map e) := rfl
def enumT : Nat → List α → List (Int × α)
  | _, [] => []
  | n, x :: xs => ((n : Int), x) :: enumT (n + 1) xs
theorem enumD_T {e : α → D} : ∀ (n : Nat) (xs : List α), enumD n (xs.map e) = (enumT n xs).map (eP eI e)
  | _, [] => rfl
  | n, x :: xs => by rw [List.map_cons, enumD, enumD_T (n + 1) xs]; rfl
theorem it_eL {e : α → D} (xs : List α) : itE [eL e xs] = some ((enumT 0 xs).map (eP eI e)) := by
  show some (enumD 0 (xs.map e)) = _
  rw [enumD_T]
def appT (xs : List α) (x : α) : Option (List α) := if xs.length < 1000000 then some (xs ++ [x]) else none
theorem mt_app' {e : α → D} {xs : List α} {x : α} {z : List α} (h : appT xs x = some z) : mApp (xs.map e) [e x] = some (z.map e, .none) := by
  unfold appT at h
  split at h
  · rename_i c; cases h; show (if (xs.map e).length < 1000000 then _ else _) = _; rw [List.length_map, if_pos c, List.map_append]; rfl
  · cases h
theorem op_isN {e : α → D} (h : ∀ x, isN (e x) = false) (x : Option α) : pIsN [eO e x, .none] = some (.bool x.isNone) := by
  cases x with
  | none => rfl
  | some x => show pIsN [e x, .none] = _; rw [ev_isN, h]; rfl
theorem tr_B (b : Bool) : truD (.bool b) = some b := rfl
end
end Sim
namespace Sim
open PySem PySem.Spec L2
end Sim
namespace Sim
open PySem PySem.Spec L2
def Sp {α : Type} (m : Option α) (Q : α → Prop) : Prop := ∃ x, m = some x ∧ Q x
section
variable {α β γ σ ρ τ δ : Type}
theorem Sp.mono {m : Option α} {P Q : α → Prop} (h : Sp m P) (i : ∀ x, P x → Q x) : Sp m Q := by
  obtain ⟨x, e, p⟩ := h
  exact ⟨x, e, i x p⟩
theorem w_some {x : α} {Q : α → Prop} (h : Q x) : Sp (some x) Q := ⟨x, rfl, h⟩
theorem w_bind {m : Option α} {k : α → Option β} {P : α → Prop} {Q : β → Prop} (h : Sp m P) (h2 : ∀ x, P x → Sp (k x) Q) : Sp (m.bind k) Q := by
  obtain ⟨x, rfl, p⟩ := h
  exact h2 x p
theorem w_let {x : α} {k : α → Option β} {Q : β → Prop} (h2 : ∀ y, y = x → Sp (k y) Q) : Sp ((some x).bind k) Q := h2 x rfl
theorem w_ite {c : Bool} {a b : Option α} {Q : α → Prop} (h1 : c = true → Sp a Q) (h2 : c = false → Sp b Q) : Sp (if c = true then a else b) Q := by
  cases c with
  | true => exact h1 rfl
  | false => exact h2 rfl
theorem w_lpN {F : σ → β → Option σ} (I : Nat → σ → Prop) {ys : List β} {s0 : σ} (h0 : I 0 s0) (hs : ∀ i s y, ys[i]? = some y → I i s → Sp (F s y) (I (i + 1))) : Sp (lpN F ys s0) (I ys.length) := by
  have key : ∀ (zs : List β) (k : Nat) (s : σ), I k s → (∀ i s y, zs[i]? = some y → I (k + i) s → Sp (F s y) (I (k + i + 1))) → Sp (lpN F zs s) (I (k + zs.length)) := by
    intro zs
    induction zs with
    | nil => intro k s h _; exact ⟨s, rfl, h⟩
    | cons y zs ih =>
      intro k s h hs
      refine w_bind (hs 0 s y rfl h) fun s1 h1 => ?_
      have := ih (k + 1) s1 h1 fun i s y hy hi => by
        have := hs (i + 1) s y (by simpa using hy) (by rw [show k + (i + 1) = k + 1 + i by omega]; exact hi)
        rw [show k + (i + 1) + 1 = k + 1 + i + 1 by omega] at this
        exact this
      rw [show k + 1 + zs.length = k + (y :: zs).length by rw [List.length_cons]; omega] at this
      exact this
  have := key ys 0 s0 h0 fun i s y hy hi => by simpa using hs i s y hy (by simpa using hi)
  simpa using this
/-- of a loop that may leave: it goes on to its end -/
def Go (P : σ → Prop) : Lf σ ρ → Prop := fun w => ∃ s, w = .go s ∧ P s
theorem w_go {x : σ} {P : σ → Prop} (h : P x) : Sp (some (Lf.go x : Lf σ ρ)) (Go P) := ⟨_, rfl, x, rfl, h⟩
theorem w_lpR {F : σ → β → Option (Lf σ ρ)} (I : Nat → σ → Prop) {ys : List β} {s0 : σ} (h0 : I 0 s0) (hs : ∀ i s y, ys[i]? = some y → I i s → Sp (F s y) (Go (I (i + 1)))) : Sp (lpR F ys s0) (Go (I ys.length)) := by
  have key : ∀ (zs : List β) (k : Nat) (s : σ), I k s → (∀ i s y, zs[i]? = some y → I (k + i) s → Sp (F s y) (Go (I (k + i + 1)))) → Sp (lpR F zs s) (Go (I (k + zs.length))) := by
    intro zs
    induction zs with
    | nil => intro k s h _; exact ⟨_, rfl, s, rfl, h⟩
    | cons y zs ih =>
      intro k s h hs
      refine w_bind (hs 0 s y rfl h) fun w hw => ?_
      obtain ⟨s1, rfl, h1⟩ := hw
      have := ih (k + 1) s1 h1 fun i s y hy hi => by
        have := hs (i + 1) s y (by simpa using hy) (by rw [show k + (i + 1) = k + 1 + i by omega]; exact hi)
        rw [show k + (i + 1) + 1 = k + 1 + i + 1 by omega] at this
        exact this
      rw [show k + 1 + zs.length = k + (y :: zs).length by rw [List.length_cons]; omega] at this
      exact this
  have := key ys 0 s0 h0 fun i s y hy hi => by simpa using hs i s y hy (by simpa using hi)
  simpa using this
theorem w_on {m : Option (Lf σ ρ)} {f : σ → Option τ} {g : ρ → Option τ} {P : σ → Prop} {Q : τ → Prop} (h : Sp m (Go P)) (h2 : ∀ s, P s → Sp (f s) Q) : Sp (m.bind fun w => w.on f g) Q := by
  obtain ⟨w, rfl, s, rfl, hp⟩ := h
  exact h2 s hp
theorem mapO_eq {f : β → Option δ} {g : β → δ} {ys : List β} (h : ∀ y ∈ ys, f y = some (g y)) : mapO f ys = some (ys.map g) := mapO_some h
theorem ixN_nn {n : Nat} {i : Int} (h0 : 0 ≤ i) (h : i < n) : ixN n i = some i.toNat := by unfold ixN; rw [if_pos h0, if_pos h]
theorem atI_nn {xs : List α} {i : Int} (h0 : 0 ≤ i) (h : i < xs.length) : atI xs i = xs[i.toNat]? := by
  unfold atI; rw [ixN_nn h0 h]; rfl
theorem atI_get' {xs : List α} {i : Int} (h0 : 0 ≤ i) (h : i < xs.length) : atI xs i = some (xs[i.toNat]'(by omega)) := by
  rw [atI_nn h0 h, List.getElem?_eq_getElem]
theorem atI_D {xs : List α} {i : Int} (d : α) (h0 : 0 ≤ i) (h : i < xs.length) : atI xs i = some (xs.getD i.toNat d) := by
  rw [atI_nn h0 h, List.getD_eq_getElem?_getD, List.getElem?_eq_getElem (by omega)]; rfl
theorem w_atI {xs : List α} {i : Int} (h0 : 0 ≤ i) (h : i < xs.length) : Sp (atI xs i) (fun x => x ∈ xs) := by
  rw [atI_get' h0 h]; exact w_some (List.getElem_mem _)
theorem setT_nn {xs : List α} {i : Int} {v : α} (h0 : 0 ≤ i) (h : i < xs.length) : setT xs i v = some (xs.set i.toNat v) := by unfold setT; rw [ixN_nn h0 h]; rfl
theorem appT_of {xs : List α} {x : α} (h : xs.length < 1000000) : appT xs x = some (xs ++ [x]) := if_pos h
theorem catT_of {xs ys : List α} (h : xs.length + ys.length ≤ 1000000) : catT xs ys = some (xs ++ ys) := if_pos h
theorem rngO_of {j : Int} (h : -1000000 < j ∧ j < 1000000) : rngO j = some (rngI 0 j.toNat) := if_pos h
theorem modT_of {a b : Int} (h : 0 < b) : modT a b = some (a % b) := if_pos h
theorem divT_of {a b : Int} (h : 0 < b) (h2 : b < 1000000000000000000000000) : divT a b = some (a / b) := by
  refine if_pos ⟨h, Nat.lt_of_lt_of_le (log2_lt (k := 80) (by omega) (by decide)) (by decide)⟩
theorem mulT_l {a b : Int} (h : -(2 ^ 64) < a) (h2 : a < 2 ^ 64) : mulT a b = some (a * b) := by unfold mulT; rw [if_pos (mulOk_l h h2)]
theorem mulT_r {a b : Int} (h : -(2 ^ 64) < b) (h2 : b < 2 ^ 64) : mulT a b = some (a * b) := by unfold mulT; rw [if_pos (mulOk_r h h2)]
@[simp] theorem at0 (a : α) (l : List α) : atI (a :: l) 0 = some a := by
  rw [atI_nn (by decide) (by rw [List.length_cons]; omega)]; rfl
@[simp] theorem at1 (a b : α) (l : List α) : atI (a :: b :: l) 1 = some b := by
  rw [atI_nn (by decide) (by simp only [List.length_cons]; omega)]; rfl
@[simp] theorem at2 (a b c : α) (l : List α) : atI (a :: b :: c :: l) 2 = some c := by
  rw [atI_nn (by decide) (by simp only [List.length_cons]; omega)]; rfl
@[simp] theorem set0 (a v : α) (l : List α) : setT (a :: l) 0 v = some (v :: l) := by
  rw [setT_nn (by decide) (by rw [List.length_cons]; omega)]; rfl
@[simp] theorem set1 (a b v : α) (l : List α) : setT (a :: b :: l) 1 v = some (a :: v :: l) := by
  rw [setT_nn (by decide) (by simp only [List.length_cons]; omega)]; rfl
@[simp] theorem set2 (a b c v : α) (l : List α) : setT (a :: b :: c :: l) 2 v = some (a :: b :: v :: l) := by
  rw [setT_nn (by decide) (by simp only [List.length_cons]; omega)]; rfl
theorem rngI_len (lo : Int) (n : Nat) : (rngI lo n).length = n := by unfold rngI; simp
theorem cutL_all (xs : List α) {k : Nat} (h : xs.length ≤ k) : cutL xs none (some (k : Int)) = xs := by
  rw [cutL_to xs k, List.take_of_length_le h]
end
end Sim
namespace Sim
open PySem PySem.Spec L2
section
variable {α β : Type}
/-- how a kind of values is sorted -/
structure Flt (e : α → D) (f : α → List Int) : Prop where
  fl : ∀ x, flat (e x) = f x
  al : ∀ x y, alike (e x) (e y) = true
  tp : ∀ x, (match e x with | .tuple (_ :: _) => true | _ => false) = true
  dp : ∀ x, deepD (e x) ≤ 8
theorem Flt.ok {e : α → D} {f : α → List Int} (h : Flt e f) : ∀ xs : List α, okN (xs.map e) = true
  | [] => rfl
  | x :: xs => by
    rw [List.map_cons]
    simp only [okN, Bool.and_eq_true, decide_eq_true_eq, List.all_eq_true]
    refine ⟨⟨h.tp x, h.dp x⟩, fun d hd => ?_⟩
    rw [← List.map_cons] at hd
    obtain ⟨y, _, rfl⟩ := List.mem_map.mp hd
    exact h.al x y
/-- a list or a tuple -/
inductive SqE (e : α → D) : (List α → D) → Prop
  | l : SqE e (eL e)
  | t : SqE e (eT e)
theorem SqE.seq {e : α → D} {g : List α → D} (h : SqE e g) (xs : List α) : seqLT (g xs) = some (xs.map e) := by cases h <;> rfl
end
end Sim
namespace Sim
open PySem PySem.Spec L2
theorem lim_inv {α : Type} {n : Nat} {m : Option α} {z : α} (h : lim n m = some z) : n ≤ 1000000 ∧ m = some z := by
  unfold lim at h
  split at h
  · rename_i c; exact ⟨c, h⟩
  · cases h
theorem eqO {α : Type} [DecidableEq α] {n : Nat} {e : α → D} (h : Eqv n e) (h1 : ∀ x, PyData.eqv (e x) .none = false) (h2 : ∀ x, PyData.eqv .none (e x) = false) : Eqv n (eO e) := by
  refine ⟨fun x => ?_, fun x => ?_, fun x => ?_, fun x y => ?_⟩
  · cases x with
    | none => rfl
    | some x => exact h.lay x
  · cases x with
    | none => exact Nat.zero_le _
    | some x => exact h.dep x
  · cases x with
    | none => rfl
    | some x => exact h.nod x
  · cases x with
    | none =>
      cases y with
      | none => rfl
      | some y => exact (h2 y).trans (by simp)
    | some x =>
      cases y with
      | none => exact (h1 x).trans (by simp)
      | some y =>
        show PyData.eqv (e x) (e y) = _
        rw [h.eq, Bool.eq_iff_iff]
        simp
theorem x_get {α γ τ : Type} {vl : Bool} {p : Pt} {g : O} {e : τ → D} {o : α → Option τ} {q : α → Pt} {F : (α → Option γ) → Option γ} (h : X vl p g (fun x => eO e (o x)) q F) :
    X vl p g (fun w : α × τ => e w.2) (fun w => q w.1) (fun k => F fun x => (o x).bind fun z => k (x, z)) := fun k z e0 => by
  obtain ⟨x, e1, h⟩ := h _ z e0
  obtain ⟨y, e2, e3⟩ := Option.bind_eq_some_iff.mp e1
  refine ⟨(x, y), e3, fun s mm => ?_⟩
  obtain ⟨r, s', a1, a2, a3⟩ := h s mm
  have a3 : Rd vl (q x) r (eO e (o x)) := a3
  rw [e2] at a3
  exact ⟨r, s', a1, a2, a3⟩
theorem x_gt {α γ τ : Type} {vl : Bool} {p : Pt} {g : O} {v : α → D} {q : α → Pt} {F : (α → Option γ) → Option γ} (e : τ → D) (h : X vl p g v q F) (o : α → Option τ) (hv : ∀ x, v x = eO e (o x)) :
    X vl p g (fun w : α × τ => e w.2) (fun w => q w.1) (fun k => F fun x => (o x).bind fun z => k (x, z)) := by
  obtain rfl : v = fun x => eO e (o x) := funext hv
  exact x_get h
section
variable {α : Type}
/-- the text of ints and tuples is plain -/
theorem sok_append {a b : Str} (ha : PyData.strOk a = true) (hb : PyData.strOk b = true) : PyData.strOk (a ++ b) = true := by
  unfold PyData.strOk at *
  rw [Str.cps_append, Array.all_append, ha, hb]; rfl
theorem sok_of (s : String) : PyData.strOk (Str.ofString s) = true := by
  unfold PyData.strOk
  rw [Str.ofString_eq_toList]
  rw [Array.all_eq_true_iff_forall_mem]
  intro c hc
  rw [List.mem_toArray, List.mem_map] at hc
  obtain ⟨d, _, rfl⟩ := hc
  have := d.valid
  rw [decide_eq_true_eq]
  rcases this with h | ⟨_, h⟩
  · have : d.toNat < 0xd800 := h
    omega
  · exact h
theorem sok_join (t : Str) (ht : PyData.strOk t = true) : ∀ ss : List Str, (∀ s ∈ ss, PyData.strOk s = true) → PyData.strOk (Str.join t ss) = true
  | [], _ => by rw [Str.join]; simp [PyData.strOk, Str.empty]
  | [x], h => by rw [Str.join]; exact h x (by simp)
  | x :: y :: r, h => by
    rw [Str.join]
    · exact sok_append (sok_append (h x (by simp)) ht) (sok_join t ht (y :: r) fun s hs => h s (List.mem_cons_of_mem _ hs))
    · simp
end
end Sim
namespace Sim
open PySem PySem.Spec L2
section
variable {α β γ δ : Type}
end
end Sim
namespace Sim
open PySem PySem.Spec L2
abbrev PD := {d : D // pur d = true}
def eV (d : PD) : D := d.1
theorem puV : Pu eV := fun d => d.2
def toPD {α : Type} {e : α → D} (h : Pu e) (x : α) : PD := ⟨e x, h x⟩
/-- a thing read as one of a known kind -/
def DnOk {τ : Type} (e : τ → D) (r : D → Option τ) : Prop := ∀ d z, r d = some z → d = e z
def rI : D → Option Int
  | .int i => some i
  | _ => none
def rS : D → Option Str
  | .str i => some i
  | _ => none
def rU : D → Option Unit
  | .none => some ()
  | _ => none
theorem dnS : DnOk eS rS := fun d z h => by cases d <;> simp [rS] at h; rw [h]
section
variable {α γ τ : Type}
theorem x_dn {vl : Bool} {p : Pt} {g : O} {v : α → D} {q : α → Pt} {F : (α → Option γ) → Option γ} (e : τ → D) {r : D → Option τ} (hr : DnOk e r) (h : X vl p g v q F) (o : α → PD) (hv : ∀ x, v x = eV (o x)) :
    X vl p g (fun w : α × τ => e w.2) (fun w => q w.1) (fun k => F fun x => (r (o x).1).bind fun z => k (x, z)) := fun k z e0 => by
  obtain ⟨x, e1, h⟩ := h _ z e0
  obtain ⟨y, e2, e3⟩ := Option.bind_eq_some_iff.mp e1
  refine ⟨(x, y), e3, fun s mm => ?_⟩
  obtain ⟨r', s', a1, a2, a3⟩ := h s mm
  have a3 : Rd vl (q x) r' (v x) := a3
  rw [hv x, show eV (o x) = (o x).1 from rfl, hr _ _ e2] at a3
  exact ⟨r', s', a1, a2, a3⟩
end
theorem okD_pur {d : D} (h : pur d = true) : okD d = true := by
  cases d with
  | dict kvs => simpa [pur, okD] using h
  | _ => rfl
theorem op_isiD (k : Kd) (d : PD) : pIsi k [eV d] = some (eB (isK k d.1)) := by
  show (if okD d.1 = true then _ else _) = _
  rw [if_pos (okD_pur d.2)]; rfl
section
variable {α γ : Type}
theorem x_slP {β δ ε : Type} {p : Pt} {g : O} {lo hi : Option O} {v : α → D} {q : α → Pt} {F : (α → Option γ) → Option γ} {vl : Bool} {l : α → β → Option Int} {F1 : α → (β → Option γ) → Option γ}
    {u : α → β → δ → Option Int} {F2 : α → β → (δ → Option γ) → Option γ} {m : α → β → δ → Option ε} {rv : α → β → δ → ε → D} (h : X vl p g v q F) (h1 : ∀ x, XPr (q x) lo (l x) (F1 x)) (h2 : ∀ x y, XPr (q x) hi (u x y) (F2 x y)) (hs : ∀ x y w z, m x y w = some z → slD (v x) (l x y) (u x y w) = some (rv x y w z)) :
    X true p (oSl g lo hi) (fun w : α × β × δ × ε => rv w.1 w.2.1 w.2.2.1 w.2.2.2) (fun w => q w.1) (fun k => F fun x => F1 x fun y => F2 x y fun w => (m x y w).bind fun z => k (x, y, w, z)) := fun k z e => by
  obtain ⟨x, e1, h⟩ := h _ z e
  obtain ⟨y, e2, h1⟩ := h1 x _ z e1
  obtain ⟨w, e3, h2⟩ := h2 x y _ z e2
  obtain ⟨w3, e5, e6⟩ := Option.bind_eq_some_iff.mp e3
  refine ⟨(x, y, w, w3), e6, fun s m => ?_⟩
  obtain ⟨r, s1, a1, a2, a3⟩ := h s m
  obtain ⟨s2, b1, b2⟩ := h1 s1 a2
  obtain ⟨s3, c1, c2⟩ := h2 s2 b2
  exact ⟨.val (rv x y w w3), s3, by rw [ev_oSl, a1, ev_ok, ev_slK1, b1, ev_ok, ev_slK2, c1, ev_ok, ev_slK3, a3.rd c2, ev_slK4, hs x y w w3 e5, ev_slK5], c2, .inl rfl⟩
end
end Sim
namespace Sim
open PySem PySem.Spec L2
mutual
def dsame : D → D → Bool
  | .none, .none => true
  | .bool a, .bool b => a == b
  | .int a, .int b => decide (a = b)
  | .str a, .str b => decide (a = b)
  | .list a, .list b => dsames a b
  | .tuple a, .tuple b => dsames a b
  | _, _ => false
def dsames : List D → List D → Bool
  | [], [] => true
  | a :: as, b :: bs => dsame a b && dsames as bs
  | _, _ => false
end
mutual
theorem of_dsame : ∀ {a b : D}, dsame a b = true → a = b
  | .none, b, h => by cases b <;> simp [dsame] at h ⊢
  | .bool a, b, h => by cases b <;> simp [dsame] at h ⊢; exact h
  | .int a, b, h => by cases b <;> simp [dsame] at h ⊢; exact h
  | .str a, b, h => by cases b <;> simp [dsame] at h ⊢; exact h
  | .list a, b, h => by
    cases b with
    | list b => rw [of_dsames (a := a) (b := b) (by simpa [dsame] using h)]
    | _ => simp [dsame] at h
  | .tuple a, b, h => by
    cases b with
    | tuple b => rw [of_dsames (a := a) (b := b) (by simpa [dsame] using h)]
    | _ => simp [dsame] at h
  | .dict a, b, h => by cases b <;> simp [dsame] at h
theorem of_dsames : ∀ {a b : List D}, dsames a b = true → a = b
  | [], [], _ => rfl
  | a :: as, b :: bs, h => by
    simp only [dsames, Bool.and_eq_true] at h
    rw [of_dsame h.1, of_dsames h.2]
  | [], _ :: _, h => by simp [dsames] at h
  | _ :: _, [], h => by simp [dsames] at h
end
mutual
theorem dsame_self : ∀ a : D, noD a = true → dsame a a = true
  | .none, _ => rfl
  | .bool a, _ => by simp [dsame]
  | .int a, _ => by simp [dsame]
  | .str a, _ => by simp [dsame]
  | .list a, h => by simp only [dsame]; exact dsames_self a (by simpa [noD] using h)
  | .tuple a, h => by simp only [dsame]; exact dsames_self a (by simpa [noD] using h)
  | .dict a, h => by simp [noD] at h
theorem dsames_self : ∀ a : List D, noDs a = true → dsames a a = true
  | [], _ => rfl
  | a :: as, h => by
    simp only [noDs, Bool.and_eq_true] at h
    simp only [dsames, dsame_self a h.1, dsames_self as h.2, Bool.and_self]
end
section
variable {β γ : Type}
end
end Sim
namespace Sim
open PySem PySem.Spec L2
section
variable {α β γ δ σ ρ : Type} {X : Cx} {p : Pt}
theorem b_raise {rest : S} {Q : γ → Fl → Sg → Prop} : B p (sSeq sNever rest) none Q := fun z e => by cases e
end
end Sim
namespace Sim
open PySem PySem.Spec L2
section
variable {α β γ δ σ ρ τ : Type} {p : Pt}
end
end Sim
namespace Sim
open PySem PySem.Spec L2
section
variable {α β γ : Type} {p : Pt}
end
end Sim
namespace Sim
open PySem PySem.Spec L2
section
variable {α β γ : Type}
section
variable [DecidableEq α]
variable {ek : α → D} {f : α → NestedKey} {e : β → D}
end
end
section
variable {α β γ δ ρ : Type} {p : Pt} {gs : AL} {q : α → Pt} {F : (α → Option γ) → Option γ} {ks : List AK} {vs : α → List D} {i : Nat}
end
section
variable {α γ κ τ : Type} {p : Pt} {e : O} {q : α → Pt} {F : (α → Option γ) → Option γ} {vl : Bool} {i : Nat} {rest : S} {Q : γ → Fl → Sg → Prop} [DecidableEq κ]
end
end Sim
namespace Sim
open PySem PySem.Spec L2
def koI (i : Int) : Key := .inl i
section
variable {α β γ : Type}
def cK (f : α → Key) (e : β → D) (l : List (α × β)) : List (Key × D) := l.map fun p => (f p.1, e p.2)
def eK (f : α → Key) (e : β → D) (l : List (α × β)) : D := reK (cK f e l)
variable [DecidableEq α] {ek : α → D} {f : α → Key} {e : β → D}
end
section
variable {α β γ δ ρ : Type} {p : Pt} {gs : AL} {q : α → Pt} {F : (α → Option γ) → Option γ} {ks : List AK} {i : Nat}
theorem x_newK {κ τ : Type} {f : κ → Key} {e : τ → D} : X (γ := γ) true p oNewK (fun _ : Unit => eK f e []) (fun _ => p) (fun k => k ()) :=
  fun k z e0 => ⟨(), e0, fun s m => ⟨.val _, s, rfl, m, .inl rfl⟩⟩
end
section
variable {α γ κ τ : Type} {p : Pt} {e : O} {q : α → Pt} {F : (α → Option γ) → Option γ} {vl : Bool} {i : Nat} {rest : S} {Q : γ → Fl → Sg → Prop} [DecidableEq κ]
end
end Sim
namespace Sim
open PySem PySem.Spec L2
def frzV {τ : Type} {e : τ → D} (h : Pu e) (xs : List τ) : PD := ⟨.dict [(.none, .list (xs.map e))], pur_frz _⟩
def frdV : PD := ⟨.dict [(.none, .dict [])], rfl⟩
section
variable {α β γ : Type} {p : Pt} {g : O} {q : α → Pt} {F : (α → Option γ) → Option γ}
theorem x_frz {τ : Type} {e : τ → D} {v : α → List τ} (h : Pu e) (hx : X true p g (fun x => eL e (v x)) q F) : X true p (oFrz g) (fun x => eV (frzV h (v x))) q F := fun k z e0 => by
  obtain ⟨x, e1, hx⟩ := hx _ z e0
  refine ⟨x, e1, fun s mm => ?_⟩
  obtain ⟨r, s2, b1, b2, b3⟩ := hx s mm
  have : r = .val (eL e (v x)) := by
    rcases b3 with rfl | ⟨c, _⟩
    · rfl
    · cases c
  subst this
  refine ⟨.val (eV (frzV h (v x))), s2, ?_, b2, .inl rfl⟩
  unfold oFrz
  rw [b1, bind_ok]
  show (if purs ((v x).map e) = true then _ else _) = _
  rw [if_pos (purs_pu h _)]
  rfl
theorem x_frd {κ τ : Type} {f : κ → Key} {e : τ → D} (hx : X true p g (fun _ : α => eK f e []) q F) : X true p (oFrd g) (fun _ => eV frdV) q F := fun k z e0 => by
  obtain ⟨x, e1, hx⟩ := hx _ z e0
  refine ⟨x, e1, fun s mm => ?_⟩
  obtain ⟨r, s2, b1, b2, b3⟩ := hx s mm
  have : r = .val (eK f e []) := by
    rcases b3 with rfl | ⟨c, _⟩
    · rfl
    · cases c
  subst this
  refine ⟨.val (eV frdV), s2, ?_, b2, .inl rfl⟩
  unfold oFrd
  rw [b1, bind_ok]
  rfl
end
end Sim
namespace Sim
open PySem PySem.Spec L2
def eF {τ : Type} (e : τ → D) (xs : List τ) : D := .dict [(.none, .list (xs.map e))]
section
variable {α β γ : Type} {p : Pt} {g : O} {ga : AL} {q : α → Pt} {F : (α → Option γ) → Option γ} {ks : List AK} {i : Nat}
end
end Sim
namespace Sim
open PySem PySem.Spec L2
section
variable {γ : Type} {p : Pt} {i : Nat}
end
end Sim
namespace Sim
open PySem PySem.Spec L2
end Sim
namespace Sim
open PySem PySem.Spec L2
section
variable {α γ : Type} {p : Pt} {e gi : O} {q : α → Pt} {F : (α → Option γ) → Option γ} {vl : Bool} {i : Nat} {rest : S} {Q : γ → Fl → Sg → Prop} {f : Int → Int → Int}
end
end Sim
namespace Sim
open PySem PySem.Spec L2
section
variable {α β γ : Type} {p : Pt} {g h' : O} {q : α → Pt} {F : (α → Option γ) → Option γ}
end
end Sim
namespace Sim
open PySem PySem.Spec L2
section
variable {α γ : Type} {p : Pt} {g : O} {q : α → Pt} {F : (α → Option γ) → Option γ}
end
end Sim
namespace Sim
open PySem PySem.Spec L2
section
variable {α β γ : Type} {p : Pt} {g h' : O} {q : α → Pt} {F : (α → Option γ) → Option γ}
end
end Sim
namespace Sim
open PySem PySem.Spec L2
end Sim
namespace Sim
open PySem PySem.Spec L2
section
variable {α γ : Type} {p : Pt} {g : O} {q : α → Pt} {F : (α → Option γ) → Option γ}
end
end Sim
namespace Sim
open PySem PySem.Spec L2
theorem gtP_eq : ∀ (p : List (Option D)) (i : Nat), gtP p i = (p[i]?).join
  | [], i => by simp [gtP]
  | o :: p, 0 => by simp [gtP]
  | o :: p, i + 1 => by rw [gtP, gtP_eq p i, List.getElem?_cons_succ]
theorem mt_iff {p : Pt} {s : Sg} : Mt p s ↔ List.length p = s.length ∧ ∀ (i : Nat) (d : D), (p : List (Option D))[i]? = some (some d) → (s : List (Option D))[i]? = some (some d) :=
  ⟨fun h => ⟨h.len, fun i d e => h.has i d (by rw [gtP_eq, e]; rfl)⟩, fun h => ⟨h.1, fun i d e => h.2 i d (by rw [gtP_eq] at e; exact join_some e)⟩⟩
theorem Mt.sets {p s : List (Option D)} (h : Mt p s) (i : Nat) (o : Option D) : Mt (p.set i o) (s.set i o) := by
  rw [mt_iff] at h ⊢
  refine ⟨by rw [List.length_set, List.length_set, h.1], fun j d e => ?_⟩
  by_cases hj : i = j
  · subst hj
    rw [List.getElem?_set] at e ⊢
    rw [if_pos rfl] at e ⊢
    rw [h.1] at e
    exact e
  · rw [List.getElem?_set_ne hj] at e ⊢
    exact h.2 j d e
theorem Mt.putG : ∀ {ds : List D} {g : Nat} {p s : List (Option D)}, Mt p s → Mt (Sim.putG g ds p) (Sim.putG g ds s)
  | [], _, _, _, h => h
  | d :: ds, g, p, s, h => by
    rw [Sim.putG, Sim.putG]
    exact Mt.putG (h.sets g (some d))
section
variable {α β δ γ κ τ σ : Type} {p : Pt}
end
theorem purs_n : purs ([] : List D) = true := rfl
theorem purs_c {d : D} {ds : List D} (h : pur d = true) (h2 : purs ds = true) : purs (d :: ds) = true := by rw [purs_cons, h, h2]; rfl
section
variable {α β γ σ : Type} {p : Pt} {e : O} {rest h : S} {i x : Nat} {pv : Option Nat} {v : α → D} {q : α → Pt} {F : (α → Option γ) → Option γ} {M : α → Option γ} {Q : γ → Fl → Sg → Prop} {vl : Bool}
end
def eqSO (x y : Str) : Option Bool := if PyData.canLay0 (.str x) = true ∧ PyData.canLay0 (.str y) = true then some (decide (x = y)) else none
def neSO (x y : Str) : Option Bool := if PyData.canLay0 (.str x) = true ∧ PyData.canLay0 (.str y) = true then some (!decide (x = y)) else none
theorem shp_str {x : Str} (h : PyData.canLay0 (.str x) = true) : shp (.str x) = true := by
  simp only [Sim.shp, SeqAt.shaped, h, show noD (.str x) = true from rfl, Bool.true_and, Bool.and_true, decide_eq_true_eq]
  exact Nat.le_trans (Nat.le_of_eq (by rfl : PyData.depth (.str x) = 0)) (Nat.zero_le _)
theorem op_eqSO {x y : Str} {z : Bool} (h : eqSO x y = some z) : pEq [eS x, eS y] = some (eB z) := by
  unfold eqSO at h
  split at h
  · rename_i c
    cases h
    rw [ev_eq, if_pos ⟨shp_str c.1, shp_str c.2⟩]
    simp [PyData.eqv]
    rfl
  · cases h
theorem op_neSO {x y : Str} {z : Bool} (h : neSO x y = some z) : pNe [eS x, eS y] = some (eB z) := by
  unfold neSO at h
  split at h
  · rename_i c
    cases h
    rw [ev_ne, if_pos ⟨shp_str c.1, shp_str c.2⟩]
    simp [PyData.eqv]
    rfl
  · cases h
end Sim
namespace Sim
open PySem PySem.Spec L2
section
variable {α β : Type}
end
section
variable {α β δ γ ε ζ : Type}
variable {p : Pt} {g : O} {lo hi st : Option O} {v : α → D} {q : α → Pt} {F : (α → Option γ) → Option γ} {vl : Bool} {l : α → β → Option Int} {F1 : α → (β → Option γ) → Option γ}
  {u : α → β → δ → Option Int} {F2 : α → β → (δ → Option γ) → Option γ}
end
section
variable {α β γ δ ε τ σ : Type} {p : Pt} {t : T} {b : α → Bool} {q : α → Pt} {F : (α → Option γ) → Option γ} {h' : O}
end
end Sim
namespace Sim
open PySem PySem.Spec L2
section
variable {α : Type}
end
end Sim
namespace Sim
open PySem PySem.Spec L2
end Sim
namespace Sim
open PySem PySem.Spec L2
end Sim
namespace Sim
open PySem PySem.Spec L2
section
variable {α β : Type} [DecidableEq α] {ek : α → D} {f : α → NestedKey} {e : β → D}
end
section
variable {β γ : Type} {p : Pt} {gs : AL} {ks : List AK}
end
end Sim
namespace Sim
open PySem PySem.Spec L2
section
variable {α β γ δ σ τ ρ κ : Type}
section
variable [DecidableEq κ] {ek : κ → D} {f : κ → Key} {e : τ → D}
end
section
variable [DecidableEq κ] {ek : κ → D} {f : κ → NestedKey} {e : τ → D}
end
variable {p : Pt} {i : Nat} {d dF : D} {itm : D → Option (List D)} {ey : β → D} {ys : List β}
section
variable {g rest : S} {t : Tg} {lkf : Nat → Bool} {pb : σ → β → Pt} {Q : γ → Fl → Sg → Prop}
end
end
section
variable {α β γ κ τ : Type}
end
end Sim
namespace Sim
open PySem PySem.Spec L2
section
variable {α β γ : Type}
end
end Sim
namespace Sim
open PySem PySem.Spec L2
end Sim
namespace Sim
open PySem PySem.Spec L2
section
variable {α β γ δ : Type}
/-- x = y, y not read behind -/
theorem Mt.none {p : Pt} {s : Sg} (h : Mt p s) (i : Nat) : Mt (stP p i none) (s.set i none) := by
  refine ⟨by rw [stP_len, List.length_set, h.len], fun j e hj => ?_⟩
  rw [gtP_stP] at hj
  by_cases c : i = j
  · subst c
    by_cases c2 : i < p.length
    · rw [if_pos ⟨rfl, c2⟩] at hj
      cases hj
    · rw [if_neg (fun z => c2 z.2)] at hj
      exact absurd (gtP_lt hj) c2
  · rw [if_neg (fun z => c z.1)] at hj
    rw [List.getElem?_set_ne c]
    exact h.has j e hj
end
end Sim
namespace Sim
open PySem PySem.Spec L2
end Sim
namespace Sim
open PySem PySem.Spec L2
end Sim
namespace Sim
open PySem PySem.Spec L2
/-- what a statement raises (none: nothing) -/
def BZ (p : Pt) (r : Rz) (m : Option (Option Str)) (q : Pt) : Prop := ∀ z, m = some z → ∀ s, Mt p s → match z with
  | none => r s = none
  | some c => ∃ s1, r s = some (c, s1) ∧ Mt q s1
section
variable {p q : Pt} {r ra rb : Rz} {m ma mb : Option (Option Str)}
theorem BZ.cv {m' : Option (Option Str)} (h : BZ p r m q) (e : m = m') : BZ p r m' q := e ▸ h
end
end Sim
namespace Sim
open PySem PySem.Spec L2
section
variable {α β γ : Type} {p : Pt} {g : O} {gs : List O} {v : α → D} {q : α → Pt} {F : (α → Option γ) → Option γ} {vs : α → β → List D} {F2 : α → (β → Option γ) → Option γ}
end
end Sim
namespace Sim
open PySem PySem.Spec L2
section
variable {α β : Type} [DecidableEq α] {ek : α → D} {f : α → NestedKey} {e : β → D}
end
end Sim
namespace Sim
open PySem PySem.Spec L2
section
variable {α β γ δ : Type}
end
end Sim
namespace Sim
open PySem PySem.Spec L2
section
variable {α γ : Type} {p : Pt} {gs : AL} {ks : List AK} {i : Nat} {q : α → Pt} {F : (α → Option γ) → Option γ}
end
end Sim
namespace Sim
open PySem PySem.Spec L2
def joinT (a : Str) (ys : List Str) : Option Str := if (ys.map (·.length)).sum + ys.length * a.length ≤ 1000000 then some (PySem.Txt.join a ys) else none
def splitT (a b : Str) : Option (List Str) := if b.length ≠ 0 ∧ a.length + 2 ≤ 1000000 then some (PySem.Txt.split a b) else none
def startsT (a b : Str) : Bool := PySem.Txt.startswith a b
def sgnS (x : Str) : List Str := x.cps.toList.map fun c => ⟨#[c]⟩
def sgnO (x : Str) : Option (List Str) := if x.length ≤ 1000000 then some (sgnS x) else none
def intX (x : Str) : Option Int := if x.length ≤ 640 then PySem.intText? x else none
def ixS (x : Str) (i : Int) : Option Str := if x.length ≤ 1000000 then (atI x.cps.toList i).map fun c => ⟨#[c]⟩ else none
def slS (x : Str) (l u : Option Int) : Option Str := if x.length ≤ 1000000 then some (cutS x l u) else none
def inSS (a b : Str) : Bool := !(Builtin.Str.occurrences b a 0 b.length 1).isEmpty
def strI (i : Int) : Option Str := if i.natAbs.log2 < 1920 then some (toString i : String) else none
def lenS (x : Str) : Option Int := if x.length ≤ 1000000 then some (x.length : Int) else none
def catS (a b : Str) : Option Str := if a.length + b.length ≤ 1000000 then some (a ++ b) else none
theorem strsD_T : ∀ xs : List Str, strsD (xs.map eS) = some xs
  | [] => rfl
  | x :: xs => by
    show (strsD (xs.map eS)).map _ = _
    rw [strsD_T xs]; rfl
theorem op_joinL {a : Str} {ys : List Str} {z : Str} (h : joinT a ys = some z) : sJoin a (eL eS ys) = some (eS z) := by
  unfold joinT at h
  show (strsD (ys.map eS)).bind _ = _
  rw [strsD_T, Option.bind_some]
  split at h
  · rename_i c; cases h; rw [if_pos c]
  · cases h
theorem op_split {a b : Str} {z : List Str} (h : splitT a b = some z) : sSplit a (eS b) = some (eL eS z) := by
  unfold splitT at h
  split at h
  · rename_i c
    cases h
    show (if b.length ≠ 0 ∧ a.length + 2 ≤ 1000000 then _ else _) = _
    rw [if_pos c]; rfl
  · cases h
theorem op_starts {a b : Str} : sStarts a (eS b) = some (eB (startsT a b)) := rfl
theorem it_S {x : Str} {z : List Str} (h : sgnO x = some z) : itS [eS x] = some (z.map eS) := by
  unfold sgnO at h
  split at h
  · rename_i c
    cases h
    show (if x.length ≤ 1000000 then some (sgnD x) else none) = _
    rw [if_pos c]
    unfold sgnD sgnS
    rw [List.map_map]; rfl
  · cases h
theorem op_intX {x : Str} {z : Int} (h : intX x = some z) : pIntX [eS x] = some (eI z) := by
  unfold intX at h
  split at h
  · rename_i c
    show (if x.length ≤ 640 then (PySem.intText? x).map PyData.int else none) = _
    rw [if_pos c, h]; rfl
  · cases h
theorem op_ixS {x : Str} {i : Int} {z : Str} (h : ixS x i = some z) : pIx [eS x, eI i] = some (eS z) := by
  unfold ixS at h
  split at h
  · rename_i c
    obtain ⟨c', e, rfl⟩ := Option.map_eq_some_iff.mp h
    show (if x.length ≤ 1000000 then (match atI x.cps.toList i with | none => none | some c => some (PyData.str ⟨#[c]⟩)) else none) = _
    rw [if_pos c, e]
  · cases h
theorem op_slS {x : Str} {l u : Option Int} {z : Str} (h : slS x l u = some z) : slD (eS x) l u = some (eS z) := by
  unfold slS at h
  split at h
  · rename_i c
    cases h
    show (if x.length ≤ 1000000 then some (PyData.str (cutS x l u)) else none) = _
    rw [if_pos c]
  · cases h
theorem op_inSS (a b : Str) : pIn [eS a, eS b] = some (eB (inSS a b)) := rfl
theorem op_strI {i : Int} {z : Str} (h : strI i = some z) : pStrI [eI i] = some (eS z) := by
  unfold strI at h
  split at h
  · rename_i c
    cases h
    show (if i.natAbs.log2 < 1920 then some (PyData.str (toString i : String)) else none) = _
    rw [if_pos c]
  · cases h
theorem op_lenS {x : Str} {z : Int} (h : lenS x = some z) : pLen [eS x] = some (eI z) := by
  unfold lenS at h
  split at h
  · rename_i c
    cases h
    show (if x.length ≤ 1000000 then some (PyData.int x.length) else none) = _
    rw [if_pos c]
  · cases h
theorem op_catS {a b z : Str} (h : catS a b = some z) : pAdd [eS a, eS b] = some (eS z) := by
  unfold catS at h
  split at h
  · rename_i c
    cases h
    show (if a.length + b.length ≤ 1000000 then some (PyData.str (a ++ b)) else none) = _
    rw [if_pos c]
  · cases h
section
variable {α β γ : Type} {p : Pt} {g0 g1 : O} {q : α → Pt} {F : (α → Option γ) → Option γ}
/-- a method of a text -/
theorem x_ms {f : Str → D → Option D} {vl vl2 : Bool} {a : α → Str} {d : α → β → D} {q2 : α → β → Pt} {F2 : α → (β → Option γ) → Option γ} {τ : Type} {m : α → β → Option τ} {rv : α → β → τ → D}
    (h : X vl p g0 (fun x => eS (a x)) q F) (h2 : ∀ x, X vl2 (q x) g1 (d x) (q2 x) (F2 x)) (hf : ∀ x y z, m x y = some z → f (a x) (d x y) = some (rv x y z)) :
    X true p (oMS f g0 g1) (fun w : α × β × τ => rv w.1 w.2.1 w.2.2) (fun w => q2 w.1 w.2.1) (fun k => F fun x => F2 x fun y => (m x y).bind fun z => k (x, y, z)) := fun k z e => by
  obtain ⟨x, e1, h⟩ := h _ z e
  obtain ⟨y, e2, h2⟩ := h2 x _ z e1
  obtain ⟨w, e3, e4⟩ := Option.bind_eq_some_iff.mp e2
  refine ⟨(x, y, w), e4, fun s mm => ?_⟩
  obtain ⟨r, s1, a1, a2, a3⟩ := h s mm
  obtain ⟨r2, s2, b1, b2, b3⟩ := h2 s1 a2
  refine ⟨.val (rv x y w), s2, ?_, b2, .inl rfl⟩
  have h1 : rd r s1 = some (.str (a x)) := a3.rd a2
  have h3 : rd r2 s2 = some (d x y) := b3.rd b2
  unfold oMS
  rw [a1, bind_ok]
  simp only [h1]
  rw [b1, bind_ok]
  simp only [h3, hf x y w e3]
theorem x_msT {f : Str → D → Option D} {vl vl2 : Bool} {a : α → Str} {d : α → β → D} {q2 : α → β → Pt} {F2 : α → (β → Option γ) → Option γ} {rv : α → β → D}
    (h : X vl p g0 (fun x => eS (a x)) q F) (h2 : ∀ x, X vl2 (q x) g1 (d x) (q2 x) (F2 x)) (hf : ∀ x y, f (a x) (d x y) = some (rv x y)) :
    X true p (oMS f g0 g1) (fun w : α × β => rv w.1 w.2) (fun w => q2 w.1 w.2) (fun k => F fun x => F2 x fun y => k (x, y)) := fun k z e => by
  obtain ⟨x, e1, h⟩ := h _ z e
  obtain ⟨y, e2, h2⟩ := h2 x _ z e1
  refine ⟨(x, y), e2, fun s mm => ?_⟩
  obtain ⟨r, s1, a1, a2, a3⟩ := h s mm
  obtain ⟨r2, s2, b1, b2, b3⟩ := h2 s1 a2
  refine ⟨.val (rv x y), s2, ?_, b2, .inl rfl⟩
  have h1 : rd r s1 = some (.str (a x)) := a3.rd a2
  have h3 : rd r2 s2 = some (d x y) := b3.rd b2
  unfold oMS
  rw [a1, bind_ok]
  simp only [h1]
  rw [b1, bind_ok]
  simp only [h3, hf x y]
end
def sdatX : Nat → D → Bool
  | 0, _ => false
  | n + 1, .tuple ds => purs ds && decide (ds.length ≤ 1000000) && ds.all (sdatX n)
  | _ + 1, .int _ => true
  | _ + 1, .str s => shp (.str s)
  | _ + 1, _ => false
def sameX (n : Nat) (x y : D) : Option Bool := if dsame x y = true ∧ sdatX n x = true then some true else none
theorem sameX_some {n : Nat} {x y : D} (e : x = y) (h : noD x = true) (h2 : sdatX n x = true) : sameX n x y = some true := by subst e; exact if_pos ⟨dsame_self x h, h2⟩
/-- None in a tuple of numbers or None -/
def noneIn {α : Type} (xs : List (Option α)) : Bool := xs.any fun o => o.isNone
theorem op_noneI (xs : List (Option Int)) : pIn [.none, eT (eO eI) xs] = some (eB (noneIn xs)) := by
  have fl : ∀ ys : List (Option Int), (ys.map (eO eI)).all pIn.fl = true := fun ys => by
    induction ys with
    | nil => rfl
    | cons y ys ih => rw [List.map_cons, List.all_cons, ih]; cases y <;> rfl
  show (if pIn.fl .none = true ∧ (xs.map (eO eI)).all pIn.fl = true then some (PyData.bool ((xs.map (eO eI)).any fun z => PyData.eqv z .none)) else none) = _
  rw [if_pos ⟨rfl, fl xs⟩]
  congr 2
  unfold noneIn
  rw [List.any_map]
  congr 1
  funext y
  cases y <;> rfl
end Sim
namespace Sim
open PySem PySem.Spec L2
section
variable {α β γ : Type} {p : Pt} {g0 : O} {al : AL} {q : α → Pt} {F : (α → Option γ) → Option γ}
end
end Sim
namespace Sim
open PySem PySem.Spec L2
/-- what a statement raises (none: nothing) -/
def BZF (p : Pt) (r : RzF) (m : Option (Option ExnF)) (q : Pt) : Prop := ∀ z, m = some z → ∀ s, Mt p s → match z with
  | none => r s = none
  | some c => ∃ s1, r s = some (c, s1) ∧ Mt q s1
section
variable {p q : Pt} {r ra rb : RzF} {m ma mb : Option (Option ExnF)}
theorem bz_noF : BZF p zNoF (some none) q := fun z e s _ => by cases e; rfl
theorem bz_raiseF {α : Type} {c fd : Str} {gs : AL} {ks : List AK} {vs : α → List D} {q1 : α → Pt} {F : (α → Option (Option ExnF)) → Option (Option ExnF)} (i : α → Int) (h : XA p gs ks vs q1 F) (hv : ∀ x, vs x = [.int (i x)]) (w : ∀ x, Wk q (q1 x)) :
    BZF p (zRaiseF c fd gs) (F fun x => some (some (c, fd, i x))) q := fun z e0 s mm => by
  obtain ⟨x, e1, h⟩ := h _ z e0
  obtain ⟨rs, s1, a1, a2, a3⟩ := h s mm
  cases e1
  refine ⟨s1, ?_, a2.wk (w x)⟩
  unfold zRaiseF
  rw [a1]
  simp only [a3.rds a2, hv x]
theorem bz_ifF {α : Type} {t : T} {b : α → Bool} {q1 : α → Pt} {F : (α → Option (Option ExnF)) → Option (Option ExnF)} {m1 m2 : α → Option (Option ExnF)} (h : XT p t b q1 F) (h1 : ∀ x, BZF (q1 x) ra (m1 x) q) (h2 : ∀ x, BZF (q1 x) rb (m2 x) q) :
    BZF p (zIfF t ra rb) (F fun x => if b x = true then m1 x else m2 x) q := fun z e0 s mm => by
  obtain ⟨x, e1, h⟩ := h _ z e0
  obtain ⟨s1, a1, a2⟩ := h s mm
  cases hb : b x with
  | true =>
    rw [if_pos hb] at e1
    have w := h1 x z e1 s1 a2
    have e : zIfF t ra rb s = ra s1 := by unfold zIfF; rw [a1]; simp only [hb, if_true]
    cases z with
    | none => exact e.trans w
    | some c =>
      obtain ⟨s2, w1, w2⟩ := w
      exact ⟨s2, e.trans w1, w2⟩
  | false =>
    rw [if_neg (by simp [hb])] at e1
    have w := h2 x z e1 s1 a2
    have e : zIfF t ra rb s = rb s1 := by unfold zIfF; rw [a1]; simp [hb]
    cases z with
    | none => exact e.trans w
    | some c =>
      obtain ⟨s2, w1, w2⟩ := w
      exact ⟨s2, e.trans w1, w2⟩
theorem bz_thenF {τ : Type} {g : S} {m1 : Option τ} {M : τ → Option (Option ExnF)} (qj : τ → Pt) (h : B p g m1 (Qn qj)) (hr : ∀ y, BZF (qj y) r (M y) q) : BZF p (zThenF g r) (m1.bind M) q := fun z e0 s mm => by
  obtain ⟨y, e1, e2⟩ := Option.bind_eq_some_iff.mp e0
  obtain ⟨fl, s1, b1, b2, b3⟩ := h y e1 s mm
  subst b2
  have w := hr y z e2 s1 b3
  have e : zThenF g r s = r s1 := by unfold zThenF; rw [b1]
  cases z with
  | none => exact e.trans w
  | some c =>
    obtain ⟨s2, w1, w2⟩ := w
    exact ⟨s2, e.trans w1, w2⟩
theorem bz_callF {α : Type} {gs : AL} {ks : List AK} {vs : α → List D} {q1 : α → Pt} {F : (α → Option (Option ExnF)) → Option (Option ExnF)} {f : FnZF} {mz : α → Option (Option ExnF)} (h : XA p gs ks vs q1 F) (hp : ∀ x, purs (vs x) = true) (hf : ∀ x z, mz x = some z → f (vs x) = z) (w : ∀ x, Wk q (q1 x)) :
    BZF p (zCallF f gs) (F mz) q := fun z e0 s mm => by
  obtain ⟨x, e1, h⟩ := h _ z e0
  obtain ⟨rs, s1, a1, a2, a3⟩ := h s mm
  have e : zCallF f gs s = z.map (fun c => (c, s1)) := by
    unfold zCallF
    rw [a1]
    simp only [a3.rds a2, hp x, if_true, hf x z e1]
  cases z with
  | none => exact e
  | some c => exact ⟨s1, e, a2.wk (w x)⟩
theorem fn_zF {ms : List Nat} {n : Nat} {ds : List D} (hb : BZF p r m q) (h0 : ds.map some ++ List.replicate (n - ds.length) none = p) (hp : purs ds = true) (hl : ds.length = ms.length) : ∀ z, m = some z → mkFzF ms n r ds = z := fun z e => by
  have w := hb z e p (Mt.refl _)
  unfold mkFzF
  rw [if_pos ⟨hp, hl⟩, h0]
  cases z with
  | none => rw [show r p = none from w]; rfl
  | some c =>
    obtain ⟨s1, w1, _⟩ := w
    rw [w1]; rfl
theorem BZF.cv {m' : Option (Option ExnF)} (h : BZF p r m q) (e : m = m') : BZF p r m' q := e ▸ h
end
theorem mt_off {p : Pt} {s : Sg} {i : Nat} (h : Mt p s) (e : ∀ d, gtP p i ≠ some d) : Mt p (s.set i none) :=
  ⟨by rw [List.length_set]; exact h.len, fun j d ej => by
    have hj : i ≠ j := fun z => e d (by rw [z]; exact ej)
    rw [List.getElem?_set_ne hj]
    exact h.has j d ej⟩
end Sim
namespace Sim
open PySem PySem.Spec L2
section
variable {α β γ τ : Type} {p : Pt} {g h' : O} {q : α → Pt} {F : (α → Option γ) → Option γ} {e : τ → D}
end
end Sim
namespace Sim
open PySem PySem.Spec L2
section
variable {γ : Type} {p : Pt} {i : Nat} {b : Bool}
theorem xt_k : XT (γ := γ) p (fun s => .ok b s) (fun _ : Unit => b) (fun _ => p) (fun k => k ()) := fun k z e => ⟨(), e, fun s m => ⟨s, rfl, m⟩⟩
theorem xt_none (h : gtP p i = some .none) : XT (γ := γ) p (tNone i b) (fun _ : Unit => b) (fun _ => p) (fun k => k ()) := fun k z e => ⟨(), e, fun s m => ⟨s, by unfold tNone; rw [m.get h], m⟩⟩
theorem x_none (h : gtP p i = some .none) : X (γ := γ) true p (oNone i b) (fun _ : Unit => .bool b) (fun _ => p) (fun k => k ()) := fun k z e => ⟨(), e, fun s m => ⟨.val (.bool b), s, by unfold oNone; rw [m.get h], m, .inl rfl⟩⟩
theorem x_badB : X (γ := γ) true p oBad (fun t : Int => eI t) (fun _ => p) (fun k => (none : Option Int).bind k) := fun k z e => by cases e
end
theorem pmulS_lit {a t : Str} {n : Int} (e : repS a n = t) (h1 : a.length = 1) (h2 : 2 ≤ n) (h3 : n ≤ 100000) : pMulS [eS a, eI n] = some (eS t) := by
  subst e
  exact if_pos ⟨h1, h2, h3⟩
def tryTK {τ : Type} (cs : List Str) (fd : Str) (z : Option ExnF) (m0 : Option τ) (mx : ExnF → Option τ) : Option τ := match z with
  | none => m0
  | some c => if cs.contains c.1 = true ∧ c.2.1 = fd then mx c else none
theorem b_tryK {γ : Type} {p q : Pt} {cs : List Str} {fd : Str} {ci ei : Nat} {r : RzF} {g rest0 : S} {restx : ExnF → S} {mz : Option (Option ExnF)} {m0 : Option γ} {mx : ExnF → Option γ} {Q : γ → Fl → Sg → Prop} (hz : BZF p r mz q) (h0 : B p (sSeq g rest0) m0 Q) (hx : ∀ y, B q (restx y) (mx y) Q)
    (hQ : ∀ z fl s, Q z fl s → Q z fl (s.set ci none)) (hi : ci < q.length) (he : ei < q.length) (hc : ∀ d, gtP q ci ≠ some d) (hq : ∀ d, gtP q ei ≠ some d) :
    B p (sTryK cs fd ci ei r g rest0 restx) (mz.bind fun z => tryTK cs fd z m0 mx) Q := fun z e0 s mm => by
  obtain ⟨x, e1, e2⟩ := Option.bind_eq_some_iff.mp e0
  have w := hz x e1 s mm
  cases x with
  | none =>
    obtain ⟨fl, s', c1, c2⟩ := h0 z e2 s mm
    refine ⟨fl, s', ?_, c2⟩
    have e : sTryK cs fd ci ei r g rest0 restx s = sSeq g rest0 s := by unfold sTryK; rw [show r s = none from w]
    rw [e, c1]
  | some c =>
    obtain ⟨s1, w1, w2⟩ := w
    have e2 : (if cs.contains c.1 = true ∧ c.2.1 = fd then mx c else none) = some z := e2
    split at e2
    · rename_i hcs
      have w3 := mt_off (mt_off w2 hq) hc
      obtain ⟨fl, s2, b1, b2⟩ := hx c z e2 _ w3
      have l1 : ci < s1.length := by have := w2.len; omega
      have l2 : ei < s1.length := by have := w2.len; omega
      refine ⟨fl, s2.set ci none, ?_, hQ _ _ _ b2⟩
      unfold sTryK
      rw [w1]
      simp only [hcs.1, hcs.2, l1, l2, and_self, if_true, b1]
    · cases e2
end Sim
namespace Sim
open PySem PySem.Spec L2
def topS (i : Nat) : Stmt := PySem.Challenge.pw_stairlanes_k76_texts_of_no_counts.main.body.getD i (.Pass ⟨0, 0, 0, 0⟩)
abbrev s_size_in : Stmt := topS 10
theorem sc_size_in : FnScope ["word", "sign"] ["word"] (defScope s_size_in) := ⟨rfl, rfl, rfl, by decide +kernel, rfl, by decide +kernel, by decide +kernel⟩
def b_size_in : S :=
  (sSeq (sIf (tOr (tNot (tst (oChain pLe pLe (oC (.int 1)) (oPrim pLen (aCons (oV 0) aNil)) (oC (.int 30))))) (tNot (tstA (oPrim pAll (aCons (oComp (mkI itS (aCons (oV 0) aNil)) (.nm 1) tYesT (o2 pIn (oV 1) (oC (.str "0123456789"))) [1]) aNil)))))
  (sRet (lkM [0]) (oC .none))
  sSkip) (sSeq (sIf (tAnd (tst (o2 pEq (o2 pIx (oV 0) (oC (.int 0))) (oC (.str "0")))) (tst (o2 pNe (oV 0) (oC (.str "0")))))
  (sRet (lkM [0]) (oC .none))
  sSkip) (sRet (lkM [0]) (oPrim pIntX (aCons (oV 0) aNil)))))
def f_size_in : Fn := mkFn [0] 2 b_size_in
abbrev s_number_in : Stmt := topS 11
theorem sc_number_in : FnScope ["word", "size"] ["word"] (defScope s_number_in) := ⟨rfl, rfl, rfl, by decide +kernel, rfl, by decide +kernel, by decide +kernel⟩
def b_number_in : S :=
  (sSeq (sIf (tNot (tstA (oMS sStarts (oV 0) (oC (.str "-")))))
  (sRet (lkM [0]) (oCall f_size_in (aCons (oV 0) aNil)))
  sSkip) (sSeq (sSet 1 (oCall f_size_in (aCons (oSl (oV 0) (some (oC (.int 1))) none) aNil))) (sSeq (sIf (tOr (tst (o2 pIsN (oV 1) (oC .none))) (tst (o2 pEq (oV 1) (oC (.int 0)))))
  (sRet (lkM [0]) (oC .none))
  sSkip) (sRet (lkM [0]) (o1 pNeg (oV 1))))))
def f_number_in : Fn := mkFn [0] 2 b_number_in
abbrev s_numbers_in : Stmt := topS 12
theorem sc_numbers_in : FnScope ["words", "word"] ["words"] (defScope s_numbers_in) := ⟨rfl, rfl, rfl, by decide +kernel, rfl, by decide +kernel, by decide +kernel⟩
def b_numbers_in : S :=
  (sRet (lkM [0]) (oPrim pTuple (aCons (oComp (mkI itP (aCons (oV 0) aNil)) (.nm 1) tYesT (oCall f_number_in (aCons (oV 1) aNil)) [1]) aNil)))
def f_numbers_in : Fn := mkFn [0] 2 b_numbers_in
abbrev s_NoText__init : Stmt := inClass (topS 4) 0
theorem sc_NoText__init : FnScope ["self", "row"] ["self", "row"] (defScope s_NoText__init) := ⟨rfl, rfl, rfl, by decide +kernel, rfl, by decide +kernel, by decide +kernel⟩
abbrev s_read_counts : Stmt := topS 13
theorem sc_read_counts : FnScope ["text", "counts"] ["text"] (defScope s_read_counts) := ⟨rfl, rfl, rfl, by decide +kernel, rfl, by decide +kernel, by decide +kernel⟩
def b_read_counts : S :=
  (sSeq (sIf (tNot (tstA (o1 (pIsi .str) (oV 0))))
  sNever
  sSkip) (sSeq (sSet 1 (oCall f_numbers_in (aCons (oMS sSplit (oV 0) (oC (.str ","))) aNil))) (sSeq (sIf (tst (o2 pIn (oC .none) (oV 1)))
  sNever
  sSkip) (sRet (lkM [0]) (oV 1)))))
def f_read_counts : Fn := mkFn [0] 2 b_read_counts
def z_read_counts : FnZF := mkFzF [0] 2
  (zIfF (tNot (tstA (o1 (pIsi .str) (oV 0)))) (zRaiseF "NoText" "row" (aCons (oC (.int 0)) aNil)) (zThenF (sSet 1 (oCall f_numbers_in (aCons (oMS sSplit (oV 0) (oC (.str ","))) aNil))) (zIfF (tst (o2 pIn (oC .none) (oV 1))) (zRaiseF "NoText" "row" (aCons (oC (.int 0)) aNil)) zNoF)))
abbrev s__law_hand : Stmt := topS 15
theorem sc__law_hand : FnScope ["_law_script", "_law_state", "_law_far", "_law_cell", "_law_k", "_law_one"] ["_law_script"] (defScope s__law_hand) := ⟨rfl, rfl, rfl, by decide +kernel, rfl, by decide +kernel, by decide +kernel⟩
def b__law_hand : S :=
  (sSeq (sSet 1 (oLst (aCons (oC (.int 0)) (aCons (oC (.int 0)) (aCons (oC (.int 0)) aNil))))) (sSeq (sIf (tAnd (tst (o2 pGt (oPrim pLen (aCons (oV 0) aNil)) (oC (.int 0)))) (tst (o2 pGe (o2 pIx (oV 0) (oC (.int 0))) (o2 pPow (oC (.int 10)) (oC (.int 18))))))
  (sSeq (sSet 2 (oC (.int 1))) (sFor (lkM [0]) (mkI itP (aCons (oSl (oV 0) none (some (oC (.int 63)))) aNil)) (.nm 3)
  (sSeq (sSetIx 1 (oC (.int 0)) (o2 pAdd (o2 pIx (oV 1) (oC (.int 0))) (o2 pMul (o2 pMod (oPrim pAbs (aCons (oV 3) aNil)) (o2 pPow (oC (.int 10)) (oC (.int 60)))) (oV 2)))) (sSet 2 (o2 pMul (oV 2) (o2 pPow (oC (.int 10)) (oC (.int 60))))))))
  sSkip) (sSeq (sFor (lkM [0]) (mkI itE (aCons (oSl (oV 0) none (some (oC (.int 63)))) aNil)) (.tp [(.nm 4), (.nm 3)])
  (sSeq (sSet 5 (o2 pAdd (o2 pAdd (o2 pMod (oV 3) (oC (.int 2305843009213693951))) (o2 pMul (oC (.int 7919)) (oV 4))) (oC (.int 3)))) (sSetIx 1 (oC (.int 1)) (o2 pMod (o2 pAdd (o2 pMul (o2 pIx (oV 1) (oC (.int 1))) (oC (.int 48271))) (oV 5)) (oC (.int 2305843009213693951)))))) (sRet (lkM [0]) (oV 1)))))
def f__law_hand : Fn := mkFn [0] 6 b__law_hand
abbrev s__law_take : Stmt := topS 16
theorem sc__law_take : FnScope ["_law_state", "_law_many", "_law_digit", "_law_mixed"] ["_law_state", "_law_many"] (defScope s__law_take) := ⟨rfl, rfl, rfl, by decide +kernel, rfl, by decide +kernel, by decide +kernel⟩
def b__law_take : S :=
  (sSeq (sIf (tst (o2 pGt (o2 pIx (oV 0) (oC (.int 0))) (oC (.int 0))))
  (sSeq (sSet 2 (o2 pMod (o2 pIx (oV 0) (oC (.int 0))) (oV 1))) (sSeq (sSetIx 0 (oC (.int 0)) (o2 pDiv (o2 pIx (oV 0) (oC (.int 0))) (oV 1))) (sRet (lkM [0, 0]) (oV 2))))
  sSkip) (sSeq (sSetIx 0 (oC (.int 2)) (o2 pAdd (o2 pIx (oV 0) (oC (.int 2))) (oC (.int 1)))) (sSeq (sSet 3 (o2 pMod (o2 pMul (o2 pAdd (o2 pAdd (o2 pIx (oV 0) (oC (.int 1))) (o2 pMul (o2 pMul (oC (.int 65537)) (o2 pIx (oV 0) (oC (.int 2)))) (o2 pIx (oV 0) (oC (.int 2))))) (oC (.int 11))) (oC (.int 48271))) (oC (.int 2305843009213693921)))) (sSeq (sSet 3 (o2 pMod (o2 pMul (oV 3) (o2 pAdd (o2 pMod (oV 3) (oC (.int 1000003))) (o2 pMul (oC (.int 99991)) (o2 pIx (oV 0) (oC (.int 2)))))) (oC (.int 2305843009213693907)))) (sRet (lkM [0, 0]) (o2 pMod (o2 pAdd (o2 pDiv (oV 3) (oC (.int 97))) (o2 pDiv (oV 3) (oC (.int 1000033)))) (oV 1)))))))
def f__law_take : Fn := mkFn [0, 0] 4 b__law_take
abbrev s__law_number : Stmt := topS 17
theorem sc__law_number : FnScope ["_law_state", "_law_way"] ["_law_state"] (defScope s__law_number) := ⟨rfl, rfl, rfl, by decide +kernel, rfl, by decide +kernel, by decide +kernel⟩
def b__law_number : S :=
  (sSeq (sSet 1 (oCall f__law_take (aCons (oV 0) (aCons (oC (.int 6)) aNil)))) (sSeq (sIf (tst (o2 pLt (oV 1) (oC (.int 3))))
  (sRet (lkM [0]) (oCall f__law_take (aCons (oV 0) (aCons (oC (.int 9)) aNil))))
  sSkip) (sSeq (sIf (tst (o2 pEq (oV 1) (oC (.int 3))))
  (sRet (lkM [0]) (o2 pSub (o2 pAdd (o2 pShl (oC (.int 1)) (oCall f__law_take (aCons (oV 0) (aCons (oC (.int 12)) aNil)))) (oCall f__law_take (aCons (oV 0) (aCons (oC (.int 3)) aNil)))) (oC (.int 1))))
  sSkip) (sSeq (sIf (tst (o2 pEq (oV 1) (oC (.int 4))))
  (sRet (lkM [0]) (o1 pNeg (oCall f__law_take (aCons (oV 0) (aCons (oC (.int 40)) aNil)))))
  sSkip) (sRet (lkM [0]) (o2 pIx (oLst (aCons (o2 pMul (oC (.int 9)) (o2 pPow (oC (.int 10)) (oC (.int 29)))) (aCons (o2 pSub (oC (.int 1)) (o2 pMul (oC (.int 9)) (o2 pPow (oC (.int 10)) (oC (.int 29))))) (aCons (o2 pAdd (o2 pPow (oC (.int 10)) (oC (.int 29))) (oCall f__law_take (aCons (oV 0) (aCons (oC (.int 50)) aNil)))) (aCons (o1 pNeg (o2 pPow (oC (.int 10)) (oC (.int 20)))) aNil))))) (oCall f__law_take (aCons (oV 0) (aCons (oC (.int 4)) aNil)))))))))
def f__law_number : Fn := mkFn [0] 2 b__law_number
abbrev s__law_alike : Stmt := topS 18
theorem sc__law_alike : FnScope ["_law_found", "_law_due", "_law_one", "_law_other"] ["_law_found", "_law_due"] (defScope s__law_alike) := ⟨rfl, rfl, rfl, by decide +kernel, rfl, by decide +kernel, by decide +kernel⟩
def b__law_alike (n : Nat) (R : Fn) : S :=
  (sSeq (sIf (tstA (o1 (pIsi .tup) (oV 1)))
  (sSeq (sIf (tOr (tNot (tstA (o1 (pIsi .tup) (oV 0)))) (tst (o2 pNe (oPrim pLen (aCons (oV 0) aNil)) (oPrim pLen (aCons (oV 1) aNil)))))
  (sRet (lkM [0, 0]) (oC (.bool false)))
  sSkip) (sRet (lkM [0, 0]) (oPrim pAll (aCons (oComp (mkI itZ (aCons (oV 0) (aCons (oV 1) aNil))) (.tp [(.nm 2), (.nm 3)]) tYesT (oCall (R) (aCons (oV 2) (aCons (oV 3) aNil))) [2, 3]) aNil))))
  sSkip) (sSeq (sIf (tstA (o1 (pIsi .str) (oV 1)))
  (sRet (lkM [0, 0]) (oAnd (o1 (pIsi .str) (oV 0)) (o2 pEq (oV 0) (oV 1))))
  sSkip) (sRet (lkM [0, 0]) (oAnd (o1 (pIsi .int) (oV 0)) (oAnd (oNot (o1 (pIsi .bool) (oV 0))) (o2 pEq (oV 0) (oV 1)))))))
def f__law_alike : Nat → Fn
  | 0 => mkFn [0, 0] 4 sNever
  | n + 1 => mkFn [0, 0] 4 (b__law_alike n (f__law_alike n))
theorem len__law_alike : ∀ (n : Nat) (ds : List D) (r : D) (as : List D), f__law_alike n ds = .ok r as → ds.length = 2
  | 0, _, _, _, h => mkFn_len h
  | _ + 1, _, _, _, h => mkFn_len h
abbrev s__law_refused : Stmt := topS 19
theorem sc__law_refused : FnScope ["_law_thing", "_law_caught", "e"] ["_law_thing"] (defScope s__law_refused) := ⟨rfl, rfl, rfl, by decide +kernel, rfl, by decide +kernel, by decide +kernel⟩
def b__law_refused (n : Nat) : S :=
  (sSeq (sSet 1 (oC .none)) (sTryK ["NoText"] "row" 1 2 (zCallF z_read_counts (aCons (oV 0) aNil))
  (sExpr (oCall f_read_counts (aCons (oV 0) aNil)))
  (sSeq (sIf (tOr (tNot (tNone 1 false)) (tNone 1 false))
  (sRet (lkM [0]) (oC (.bool false)))
  sSkip) (sRet (lkM [0]) (oAnd (oNone 1 false) (oCall (f__law_alike n) (aCons oBad (aCons (oC (.int 0)) aNil))))))
  (fun y => (sSeq (sIf (tOr (tNot (fun s => .ok true s)) (fun s => .ok (([] : List Str).contains y.1) s))
  (sRet (lkM [0]) (oC (.bool false)))
  sSkip) (sRet (lkM [0]) (oAnd (oC (.bool ((["NoText"] : List Str).contains y.1))) (oCall (f__law_alike n) (aCons (oC (.int y.2.2)) (aCons (oC (.int 0)) aNil)))))))))
def f__law_refused (n : Nat) : Fn := mkFn [0] 3 (b__law_refused n)
theorem len__law_refused (n : Nat) (ds : List D) (r : D) (as : List D) (h : f__law_refused n ds = .ok r as) : ds.length = 1 := mkFn_len h
abbrev s__law_bad : Stmt := topS 20
theorem sc__law_bad : FnScope ["_law_state", "_law_words", "_law_at", "_law_odd", "_law_bad_here", "_law_texts"] ["_law_state", "_law_words"] (defScope s__law_bad) := ⟨rfl, rfl, rfl, by decide +kernel, rfl, by decide +kernel, by decide +kernel⟩
def b__law_bad : S :=
  (sSeq (sSet 2 (oCall f__law_take (aCons (oV 0) (aCons (oPrim pLen (aCons (oV 1) aNil)) aNil)))) (sSeq (sSet 3 (oLst (aCons (oC (.str "")) (aCons (oC (.str " ")) (aCons (oC (.str "01")) (aCons (oC (.str "+1")) (aCons (oC (.str "-0")) (aCons (oC (.str "--1")) (aCons (oC (.str "x")) (aCons (o2 pMulS (oC (.str "1")) (oC (.int 31))) (aCons (o2 pAdd (oC (.str "-")) (o2 pMulS (oC (.str "2")) (oC (.int 31)))) (aCons (oC (.str "1.5")) (aCons (oC (.str "1 ")) (aCons (oC (.str " 1")) aNil)))))))))))))) (sSeq (sSet 3 (o2 pAdd (oV 3) (oLst (aCons (oC (.str "1\n")) (aCons (oC (.str "00")) (aCons (oC (.str "-")) (aCons (oC (.str "1-")) (aCons (oC (.str "1_0")) aNil)))))))) (sSeq (sSet 4 (o2 pAdd (o2 pAdd (oSl (oV 1) none (some (oV 2))) (oLst (aCons (o2 pIx (oV 3) (oCall f__law_take (aCons (oV 0) (aCons (oPrim pLen (aCons (oV 3) aNil)) aNil)))) aNil))) (oSl (oV 1) (some (o2 pAdd (oV 2) (oC (.int 1)))) none))) (sSeq (sSet 5 (oLst (aCons (oMS sJoin (oC (.str ",")) (oV 4)) (aCons (o2 pAdd (oMS sJoin (oC (.str ",")) (oV 1)) (oC (.str ","))) (aCons (o2 pAdd (oC (.str ",")) (oMS sJoin (oC (.str ",")) (oV 1))) (aCons (oMS sJoin (oC (.str ",,")) (o2 pAdd (oV 1) (oLst (aCons (oC (.str "0")) aNil)))) aNil)))))) (sSeq (sExpr (oMt mApp 5 (aCons (oMS sJoin (oC (.str ", ")) (o2 pAdd (oV 1) (oLst (aCons (oC (.str "1")) aNil)))) aNil))) (sRet (lkM [0, 0]) (o2 pIx (oV 5) (o2 pIx (oLst (aCons (oC (.int 0)) (aCons (oC (.int 0)) (aCons (oC (.int 0)) (aCons (oC (.int 1)) (aCons (oC (.int 2)) (aCons (oC (.int 3)) (aCons (oC (.int 4)) aNil)))))))) (oCall f__law_take (aCons (oV 0) (aCons (oC (.int 7)) aNil))))))))))))
def f__law_bad : Fn := mkFn [0, 0] 6 b__law_bad
abbrev s_law : Stmt := topS 21
theorem sc_law : FnScope ["_law_script", "_law_state", "_law_thing", "_law_text", "_law_turn", "_law_counts", "_law_k", "_law_words", "_law_count"] ["_law_script"] (defScope s_law) := ⟨rfl, rfl, rfl, by decide +kernel, rfl, by decide +kernel, by decide +kernel⟩
def b_law (n : Nat) : S :=
  (sSeq (sSet 1 (oCall f__law_hand (aCons (oV 0) aNil))) (sSeq (sFor (lkM [0]) (mkI itP (aCons (oLst (aCons (oC (.str "")) (aCons (oC .none) (aCons (oC (.int 5)) (aCons (oC (.bool true)) (aCons (oTup aNil) (aCons (oTup (aCons (oC (.int 1)) (aCons (oC (.int 2)) aNil))) (aCons (oFrz (oLst (aCons (oC (.int 1)) aNil))) (aCons (oFrd oNewK) (aCons (oC (.str "counts")) (aCons (oC (.str "1 2")) (aCons (oC (.str "-")) (aCons (oC (.str ",")) aNil))))))))))))) aNil)) (.nm 2)
  (sIf (tNot (tstA (oCall (f__law_refused n) (aCons (oV 2) aNil))))
  (sRet (lkM [0]) (oC (.bool false)))
  sSkip)) (sSeq (sFor (lkM [0]) (mkI itP (aCons (oLst (aCons (o2 pMulS (oC (.str "9")) (oC (.int 30))) (aCons (o2 pAdd (oC (.str "-")) (o2 pMulS (oC (.str "9")) (oC (.int 30)))) (aCons (oC (.str "0")) aNil)))) aNil)) (.nm 3)
  (sIf (tNot (tstA (oCall (f__law_alike n) (aCons (oCall f_read_counts (aCons (oV 3) aNil)) (aCons (oTup (aCons (oPrim pIntX (aCons (oV 3) aNil)) aNil)) aNil)))))
  (sRet (lkM [0]) (oC (.bool false)))
  sSkip)) (sSeq (sFor (lkM [0]) (mkI itR1 (aCons (oC (.int 12)) aNil)) (.nm 4)
  (sSeq (sSet 5 (oPrim pTuple (aCons (oComp (mkI itR1 (aCons (o2 pAdd (oC (.int 1)) (oCall f__law_take (aCons (oV 1) (aCons (oC (.int 16)) aNil)))) aNil)) (.nm 6) tYesT (oCall f__law_number (aCons (oV 1) aNil)) [6]) aNil))) (sSeq (sSet 7 (oComp (mkI itP (aCons (oV 5) aNil)) (.nm 8) tYesT (oPrim pStrI (aCons (oV 8) aNil)) [8])) (sSeq (sIf (tOr (tNot (tstA (oCall (f__law_alike n) (aCons (oCall f_read_counts (aCons (oMS sJoin (oC (.str ",")) (oV 7)) aNil)) (aCons (oV 5) aNil))))) (tNot (tstA (oCall (f__law_refused n) (aCons (oCall f__law_bad (aCons (oV 1) (aCons (oV 7) aNil))) aNil)))))
  (sRet (lkM [0]) (oC (.bool false)))
  sSkip) (sIf (tOr (tNot (tstA (oCall (f__law_refused n) (aCons (oCall f__law_bad (aCons (oV 1) (aCons (oV 7) aNil))) aNil)))) (tNot (tstA (oCall (f__law_alike n) (aCons (oCall f_read_counts (aCons (oMS sJoin (oC (.str ",")) (oV 7)) aNil)) (aCons (oV 5) aNil))))))
  (sRet (lkM [0]) (oC (.bool false)))
  sSkip))))) (sRet (lkM [0]) (oC (.bool true)))))))
def f_law (n : Nat) : Fn := mkFn [0] 9 (b_law n)
theorem len_law (n : Nat) (ds : List D) (r : D) (as : List D) (h : f_law n ds = .ok r as) : ds.length = 1 := mkFn_len h
theorem zipD_self : ∀ ds : List D, zipD ds ds = ds.map fun x => .tuple [x, x]
  | [] => rfl
  | d :: ds => by rw [zipD, zipD_self ds]; rfl
theorem purs_self (ds : List D) (h : purs ds = true) : purs (ds.map fun x => PyData.tuple [x, x]) = true := by
  induction ds with
  | nil => rfl
  | cons d ds ih =>
    simp only [purs_cons, Bool.and_eq_true] at h
    rw [List.map_cons, purs_cons, ih h.2]
    simp [h.1]
theorem bools_true (ds : List D) : bools (ds.map fun _ => PyData.bool true) = some (ds.map fun _ => true) := bools_map (fun _ => true) ds
theorem purs_mem : ∀ {ds : List D} {x : D}, purs ds = true → x ∈ ds → pur x = true
  | [], _, _, h => by cases h
  | d :: ds, x, p, h => by
    simp only [purs_cons, Bool.and_eq_true] at p
    rcases List.mem_cons.mp h with rfl | h
    · exact p.1
    · exact purs_mem p.2 h
theorem sdatX_pur : ∀ (n : Nat) (d : D), sdatX n d = true → pur d = true
  | 0, _, h => by simp [sdatX] at h
  | n + 1, d, h => by
    cases d with
    | tuple ds =>
      simp only [sdatX, Bool.and_eq_true] at h
      rw [pur_tuple]
      exact h.1.1
    | int i => rfl
    | bool b => simp [sdatX] at h
    | none => simp [sdatX] at h
    | str s => rfl
    | list l => simp [sdatX] at h
    | dict l => simp [sdatX] at h
theorem same_refl : ∀ (n : Nat) (d : D), sdatX n d = true → f__law_alike n [d, d] = .ok (.bool true) [d, d]
  | 0, _, h => by simp [sdatX] at h
  | n + 1, d, h => by
    cases d with
    | int i => simp [f__law_alike, ev_mkFn, b__law_alike, List.replicate, isK, okD, isN]
    | bool i => simp [sdatX] at h
    | none => simp [sdatX] at h
    | str s =>
      have h : shp (.str s) = true := h
      simp [f__law_alike, ev_mkFn, b__law_alike, List.replicate, isK, okD, isN, pEq, h, PyData.eqv]
    | list l => simp [sdatX] at h
    | dict l => simp [sdatX] at h
    | tuple ds =>
      simp only [sdatX, Bool.and_eq_true, decide_eq_true_eq, List.all_eq_true] at h
      obtain ⟨⟨hp, hl⟩, ha⟩ := h
      have C := comp_map (t := .tp [.nm 2, .nm 3]) (c := tYesT) (e := oCall (f__law_alike n) (aCons (oV 2) (aCons (oV 3) aNil))) (vs := [2, 3]) (s := [some (.tuple ds), some (.tuple ds), none, none]) (fun x => .tuple [x, x]) (fun _ => .bool true) ds (fun x hx => by
        have e := same_refl n x (ha x hx)
        have px := sdatX_pur n x (ha x hx)
        simp [e, px]) hl
      have z := zipD_self ds
      have pz := purs_self ds hp
      simp [f__law_alike, ev_mkFn, b__law_alike, List.replicate, isK, okD, isN, hp, z, pz, C, bools_true]
theorem tok__law_alike {n : Nat} {x y : D} {z : Bool} (h : sameX n x y = some z) : f__law_alike n [x, y] = .ok (.bool z) [x, y] := by
  unfold sameX at h
  split at h
  · rename_i c
    cases h
    rw [← of_dsame c.1]
    exact same_refl n _ c.2
  · cases h
def p_size_in (word : Str) : Option (Option Int) :=
  ((lenS word)).bind fun t4 => ((if (!((decide ((1 : Int) ≤ t4)) && (decide (t4 ≤ (30 : Int))))) = true then some true else ((sgnO word)).bind fun t9 => lim (t9.length) (some (!(List.all (List.map (fun sign => (inSS sign ("0123456789" : Str))) t9) id))))).bind fun t19 => if t19 = true then some none else ((ixS word (0 : Int))).bind fun t24 => ((eqSO t24 ("0" : Str))).bind fun t27 => ((if t27 = true then ((neSO word ("0" : Str))).bind fun t31 => some t31 else some false)).bind fun t32 => if t32 = true then some none else ((intX word)).bind fun t36 => some (some t36)
def p_number_in (word : Str) : Option (Option Int) :=
  if (!(startsT word ("-" : Str))) = true then ((p_size_in  word)).bind fun t6 => some t6 else ((slS word (some (1 : Int)) none)).bind fun t11 => ((p_size_in  t11)).bind fun size => if (size.isNone || (decide (size = (some (0 : Int))))) = true then some none else (size).bind fun t23 => some (some (-t23))
def p_numbers_in (words : (List Str)) : Option (List (Option Int)) :=
  lim (words.length) (((mapO (fun word => ((p_number_in  word)).bind fun t7 => some t7) words)).bind fun t9 => some t9)
def p_read_counts (text : PD) : Option (List (Option Int)) :=
  if (!(isK .str (text).1)) = true then none else ((rS (text).1)).bind fun t4 => ((splitT t4 ("," : Str))).bind fun t7 => ((p_numbers_in  t7)).bind fun counts => if (noneIn counts) = true then none else some counts
def pz_read_counts (text : PD) : Option (Option ExnF) :=
  if (!(isK .str (text).1)) = true then some (some ("NoText", "row", (0 : Int))) else (((rS (text).1)).bind fun t5 => ((splitT t5 ("," : Str))).bind fun t8 => ((p_numbers_in  t8)).bind fun counts => some counts).bind fun counts => if (noneIn counts) = true then some (some ("NoText", "row", (0 : Int))) else some none
def p__law_hand (script : (List Int)) : Option (List Int) :=
  (some [(0 : Int), (0 : Int), (0 : Int)]).bind fun state => ((if (decide ((0 : Int) < (script.length : Int))) = true then ((atI script (0 : Int))).bind fun t15 => some (decide ((1000000000000000000 : Int) ≤ t15)) else some false)).bind fun t20 => ((if t20 = true then ((lpN (fun (s28 : ((List Int) × Int)) (cell : Int) => ((atI s28.1 (0 : Int))).bind fun t33 => ((mulT ((absT cell) % (1000000000000000000000000000000000000000000000000000000000000 : Int)) s28.2)).bind fun t42 => ((setT s28.1 (0 : Int) (t33 + t42))).bind fun state => ((mulT s28.2 (1000000000000000000000000000000000000000000000000000000000000 : Int))).bind fun far => some (state, far)) (cutL script none (some (63 : Int))) (state, (1 : Int)))).bind fun s28 => some s28.1 else some state)).bind fun state => ((lpN (fun (state : ((List Int))) (y62 : (Int × Int)) => (some (((y62.2 % (2305843009213693951 : Int)) + ((7919 : Int) * y62.1)) + (3 : Int))).bind fun one => ((atI state (1 : Int))).bind fun t77 => ((setT state (1 : Int) (((t77 * (48271 : Int)) + one) % (2305843009213693951 : Int)))).bind fun state => some state) (enumT 0 (cutL script none (some (63 : Int)))) state)).bind fun state => some state
def p__law_take (state : (List Int)) (many : Int) : Option (Int × (List Int)) :=
  ((atI state (0 : Int))).bind fun t4 => if (decide ((0 : Int) < t4)) = true then ((atI state (0 : Int))).bind fun t9 => ((modT t9 many)).bind fun digit => ((atI state (0 : Int))).bind fun t15 => ((divT t15 many)).bind fun t18 => ((setT state (0 : Int) t18)).bind fun state => some (digit, state) else ((atI state (2 : Int))).bind fun t25 => ((setT state (2 : Int) (t25 + (1 : Int)))).bind fun state => ((atI state (1 : Int))).bind fun t33 => ((atI state (2 : Int))).bind fun t37 => ((atI state (2 : Int))).bind fun t41 => ((mulT ((65537 : Int) * t37) t41)).bind fun t43 => (some ((((t33 + t43) + (11 : Int)) * (48271 : Int)) % (2305843009213693921 : Int))).bind fun mixed => ((atI state (2 : Int))).bind fun t60 => ((mulT mixed ((mixed % (1000003 : Int)) + ((99991 : Int) * t60)))).bind fun t64 => (some (t64 % (2305843009213693907 : Int))).bind fun mixed => ((modT ((mixed / (97 : Int)) + (mixed / (1000033 : Int))) many)).bind fun t78 => some (t78, state)
def p__law_number (state : (List Int)) : Option (Int × (List Int)) :=
  ((p__law_take  state (6 : Int))).bind fun t3 => if (decide (t3.1 < (3 : Int))) = true then ((p__law_take  t3.2 (9 : Int))).bind fun t9 => some (t9.1, t9.2) else if (decide (t3.1 = (3 : Int))) = true then ((p__law_take  t3.2 (12 : Int))).bind fun t16 => ((shlT (1 : Int) t16.1)).bind fun t18 => ((p__law_take  t16.2 (3 : Int))).bind fun t21 => some (((t18 + t21.1) - (1 : Int)), t21.2) else if (decide (t3.1 = (4 : Int))) = true then ((p__law_take  t3.2 (40 : Int))).bind fun t30 => some ((-t30.1), t30.2) else ((p__law_take  t3.2 (50 : Int))).bind fun t49 => ((p__law_take  t49.2 (4 : Int))).bind fun t59 => ((atI [((9 : Int) * (100000000000000000000000000000 : Int)), ((1 : Int) - ((9 : Int) * (100000000000000000000000000000 : Int))), ((100000000000000000000000000000 : Int) + t49.1), (-(100000000000000000000 : Int))] t59.1)).bind fun t61 => some (t61, t59.2)
def p__law_refused (n : Nat) (thing : PD) : Option Bool :=
  ((pz_read_counts thing)).bind fun raised => tryTK ["NoText"] "row" raised (((p_read_counts  thing)).bind fun t5 => if ((!false) || false) = true then some false else ((if false = true then ((none : Option Int)).bind fun t11 => ((sameX n (eI t11) (eI (0 : Int)))).bind fun t14 => some t14 else some false)).bind fun t15 => some t15) (fun y => if ((!true) || (([] : List Str).contains y.1)) = true then some false else ((if ((["NoText"] : List Str).contains y.1) = true then ((sameX n (eI y.2.2) (eI (0 : Int)))).bind fun t23 => some t23 else some false)).bind fun t24 => some t24)
def p__law_bad (state : (List Int)) (words : (List Str)) : Option (Str × (List Int)) :=
  ((p__law_take  state (words.length : Int))).bind fun t4 => ((catS ("-" : Str) ("2222222222222222222222222222222" : Str))).bind fun t16 => (some [("" : Str), (" " : Str), ("01" : Str), ("+1" : Str), ("-0" : Str), ("--1" : Str), ("x" : Str), ("1111111111111111111111111111111" : Str), t16, ("1.5" : Str), ("1 " : Str), (" 1" : Str)]).bind fun odd => ((catT odd [("1\n" : Str), ("00" : Str), ("-" : Str), ("1-" : Str), ("1_0" : Str)])).bind fun odd => ((p__law_take  t4.2 (odd.length : Int))).bind fun t39 => ((atI odd t39.1)).bind fun t41 => ((catT (cutL words none (some t4.1)) [t41])).bind fun t45 => ((catT t45 (cutL words (some (t4.1 + (1 : Int))) none))).bind fun bad_here => ((joinT ("," : Str) bad_here)).bind fun t58 => ((joinT ("," : Str) words)).bind fun t61 => ((catS t61 ("," : Str))).bind fun t64 => ((joinT ("," : Str) words)).bind fun t68 => ((catS ("," : Str) t68)).bind fun t70 => ((catT words [("0" : Str)])).bind fun t76 => ((joinT (",," : Str) t76)).bind fun t77 => (some [t58, t64, t70, t77]).bind fun texts => ((catT words [("1" : Str)])).bind fun t87 => ((joinT (", " : Str) t87)).bind fun t88 => ((appT texts t88)).bind fun texts => ((p__law_take  t39.2 (7 : Int))).bind fun t102 => ((atI [(0 : Int), (0 : Int), (0 : Int), (1 : Int), (2 : Int), (3 : Int), (4 : Int)] t102.1)).bind fun t104 => ((atI texts t104)).bind fun t106 => some (t106, t102.2)
def p_law (n : Nat) (script : (List Int)) : Option Bool :=
  ((p__law_hand  script)).bind fun state => (((lpR (fun (s38 : Unit) (thing : PD) => ((p__law_refused n thing)).bind fun t43 => if (!t43) = true then some (Lf.ret false) else some (.go ())) [(toPD puS ("" : Str)), (toPD puU ()), (toPD puI (5 : Int)), (toPD puB true), (toPD (puT puI) ([] : (List Int))), (toPD (puP puI puI) ((1 : Int), (2 : Int))), (frzV puI [(1 : Int)]), frdV, (toPD puS ("counts" : Str)), (toPD puS ("1 2" : Str)), (toPD puS ("-" : Str)), (toPD puS ("," : Str))] ()).bind fun w => w.on (fun s38 => ((catS ("-" : Str) ("999999999999999999999999999999" : Str))).bind fun t49 => (((lpR (fun (s55 : Unit) (text : Str) => ((p_read_counts  (toPD puS text))).bind fun t61 => ((intX text)).bind fun t64 => ((sameX n ((eT (eO eI)) t61) ((eT eI) [t64]))).bind fun t68 => if (!t68) = true then some (Lf.ret false) else some (.go ())) [("999999999999999999999999999999" : Str), t49, ("0" : Str)] ()).bind fun w => w.on (fun s55 => (((lpR (fun (state : ((List Int))) (turn : Int) => ((p__law_take  state (16 : Int))).bind fun t79 => ((rngO ((1 : Int) + t79.1))).bind fun t82 => lim (t82.length) (((lcS (fun u k => ((p__law_number  u)).bind fun t91 => some (some t91.1, t91.2)) t82 t79.2)).bind fun t92 => lim (t92.1.length) (((mapO (fun count => ((strI count)).bind fun t101 => some t101) t92.1)).bind fun words => ((joinT ("," : Str) words)).bind fun t106 => ((p_read_counts  (toPD puS t106))).bind fun t109 => ((sameX n ((eT (eO eI)) t109) ((eT eI) t92.1))).bind fun t112 => ((if (!t112) = true then some (true, t92.2) else ((p__law_bad  t92.2 words)).bind fun t114 => ((p__law_refused n (toPD puS t114.1))).bind fun t117 => some ((!t117), t114.2))).bind fun t118 => if t118.1 = true then some (Lf.ret false) else ((p__law_bad  t118.2 words)).bind fun t124 => ((p__law_refused n (toPD puS t124.1))).bind fun t127 => ((if (!t127) = true then some true else ((joinT ("," : Str) words)).bind fun t130 => ((p_read_counts  (toPD puS t130))).bind fun t133 => ((sameX n ((eT (eO eI)) t133) ((eT eI) t92.1))).bind fun t136 => some (!t136))).bind fun t137 => if t137 = true then some (Lf.ret false) else some (.go t124.2)))) (rngI 0 (Int.toNat 12)) state).bind fun w => w.on (fun state => some true) (fun z => some (z))))) (fun z => some (z))))) (fun z => some (z))))
theorem tok_size_in (a0 : Str) : ∀ z, p_size_in a0 = some z → f_size_in [eS a0] = .ok ((eO eI) z) [eS a0] :=
  fn_t (p0 := [some (eS a0), none]) (m := p_size_in a0) (rv := fun (z : (Option Int)) => (eO eI) z) (q := fun (z : (Option Int)) => [some (eS a0), none]) (outs := fun z => [eS a0]) (B.cv (b_if (xt_orP (xt_not (xt_tst (x_chain (xa_v (x_c (eI 1)) (fun x2 => (xa_v (x_prim (xa_p (x_var (d := eS a0) 0 rfl) (fun _ => puS _) (fun x3 => xa_nil)) (fun _ _ h => op_lenS h)) (fun x5 => xa_nil)))) (fun x6 => (x_c (eI 30))) (fun _ => op_le' _ _) (fun _ => op_le' _ _)))) (fun x7 => (xt_not (xt_tstA (x_primT (xa_v (x_mapT (ee := eB) (xi_mkP (xa_p (x_var (d := eS a0) 0 rfl) (fun _ => puS _) (fun x8 => xa_nil)) rfl puS (fun _ _ h => it_S h)) rfl (fun x10 x11 => as_nm) (fun x10 x11 => (x_primT (xa_p (x_var (d := eS x11) 1 rfl) (fun _ => puS _) (fun x14 => (xa_v (x_c (eS "0123456789")) (fun x15 => xa_nil)))) (fun _ => op_inSS _ _))) (.inl rfl) (fun _ _ => by repeat (first | exact wk_nil | apply wk_a | apply wk_s))) (fun x18 => xa_nil)) (fun _ => op_all _)) (fun _ => tr_B _))))) (fun x20 => (b_ret (x_c PyData.none) (fun x21 => none) (.inl rfl) (fun x21 => qf_ret rfl (by repeat (first | exact wk_nil | apply wk_a | apply wk_s))))) (fun x20 => (b_skip (b_if (xt_andP (xt_tst (x_prim (xa_v (x_prim (xa_p (x_var (d := eS a0) 0 rfl) (fun _ => puS _) (fun x22 => (xa_v (x_c (eI 0)) (fun x23 => xa_nil)))) (fun _ _ h => op_ixS h)) (fun x25 => (xa_v (x_c (eS "0")) (fun x26 => xa_nil)))) (fun _ _ h => op_eqSO h))) (fun x28 => (xt_tst (x_prim (xa_p (x_var (d := eS a0) 0 rfl) (fun _ => puS _) (fun x29 => (xa_v (x_c (eS "0")) (fun x30 => xa_nil)))) (fun _ _ h => op_neSO h))))) (fun x33 => (b_ret (x_c PyData.none) (fun x34 => none) (.inl rfl) (fun x34 => qf_ret rfl (by repeat (first | exact wk_nil | apply wk_a | apply wk_s))))) (fun x33 => (b_skip (b_last (b_ret (X.as (x_prim (xa_p (x_var (d := eS a0) 0 rfl) (fun _ => puS _) (fun x35 => xa_nil)) (fun _ _ h => op_intX h)) (fun x37 => eI x37.2) rfl) (fun x38 => (some x38.2)) (.inl rfl) (fun x38 => qf_ret rfl (by repeat (first | exact wk_nil | apply wk_a | apply wk_s))))))))))) (by dsimp only [p_size_in])) rfl (by simp [okM]) (fun z => (coll_0P rfl coll_nilP))
theorem tok_number_in (a0 : Str) : ∀ z, p_number_in a0 = some z → f_number_in [eS a0] = .ok ((eO eI) z) [eS a0] :=
  fn_t (p0 := [some (eS a0), none]) (m := p_number_in a0) (rv := fun (z : (Option Int)) => (eO eI) z) (q := fun (z : (Option Int)) => [some (eS a0), none]) (outs := fun z => [eS a0]) (B.cv (b_if (xt_not (xt_tstA (x_msT (f := sStarts) (x_var (d := eS a0) 0 rfl) (fun x2 => (x_c (eS "-"))) (fun _ _ => op_starts)) (fun _ => tr_B _))) (fun x4 => (b_ret (x_callP (xa_p (x_var (d := eS a0) 0 rfl) (fun _ => puS _) (fun x5 => xa_nil)) rfl (fun _ _ h => tok_size_in  _ _ h)) (fun x7 => x7.2) (.inl rfl) (fun x7 => qf_ret rfl (by repeat (first | exact wk_nil | apply wk_a | apply wk_s))))) (fun x4 => (b_skip (b_set (x_callP (xa_v (x_slP (x_var (d := eS a0) 0 rfl) (fun x8 => (xpr_some (x_c (eI 1)))) (fun x8 x9 => xpr_none) (fun _ _ _ _ h => op_slS h)) (fun x12 => xa_nil)) rfl (fun _ _ h => tok_size_in  _ _ h)) (.inl rfl) (fun x14 => (b_if (xt_orT (xt_tst (x_primT (xa_p (x_var (d := (eO eI) x14.2) 1 rfl) (fun _ => (puO' puI) _) (fun x15 => (xa_v (x_c PyData.none) (fun x16 => xa_nil)))) (fun _ => op_isN (fun _ => rfl) _))) (fun x17 => (xt_tst (x_primT (xa_p (x_var (d := (eO eI) x14.2) 1 rfl) (fun _ => (puO' puI) _) (fun x18 => (xa_v (X.as (x_c (eI 0)) (fun x19 => (eO eI) (some (0 : Int))) rfl) (fun x20 => xa_nil)))) (fun _ => op_eq (eqO eqI (fun _ => rfl) (fun _ => rfl)) (by decide) _ _))))) (fun x21 => (b_ret (x_c PyData.none) (fun x22 => none) (.inl rfl) (fun x22 => qf_ret rfl (by repeat (first | exact wk_nil | apply wk_a | apply wk_s))))) (fun x21 => (b_skip (b_last (b_ret (x_primT (xa_p (x_gt eI (x_var (d := (eO eI) x14.2) 1 rfl) (fun x24 => x14.2) (fun _ => rfl)) (fun _ => puI _) (fun x25 => xa_nil)) (fun _ => op_neg _)) (fun x26 => (some (-x26.1.2))) (.inl rfl) (fun x26 => qf_ret rfl (by repeat (first | exact wk_nil | apply wk_a | apply wk_s))))))))))))) (by dsimp only [p_number_in])) rfl (by simp [okM]) (fun z => (coll_0P rfl coll_nilP))
theorem tok_numbers_in (a0 : (List Str)) : ∀ z, p_numbers_in a0 = some z → f_numbers_in [(eL eS) a0] = .ok ((eT (eO eI)) z) [(eL eS) a0] :=
  fn_t (p0 := [some ((eL eS) a0), none]) (m := p_numbers_in a0) (rv := fun (z : (List (Option Int))) => (eT (eO eI)) z) (q := fun (z : (List (Option Int))) => [some ((eL eS) a0), none]) (outs := fun z => [(eL eS) a0]) (B.cv (b_last (b_ret (x_primT (xa_v (x_mapP (ee := (eO eI)) (xi_mk (xa_s 0 rfl xa_nil (fun _ => rfl) (fun _ => puL)) rfl puS (fun _ => it_L _)) rfl (fun x2 x3 => as_nm) (fun x2 x3 => (x_callP (xa_p (x_var (d := eS x3) 1 rfl) (fun _ => puS _) (fun x6 => xa_nil)) rfl (fun _ _ h => tok_number_in  _ _ h))) (.inl rfl) (fun x2 x3 => ((p_number_in  x3)).bind fun t7 => some t7) (fun _ _ => by repeat (first | exact wk_nil | apply wk_a | apply wk_s)) (by intro x y z h; simp only [] at h ⊢; repeat (first | (obtain ⟨hl, h⟩ := lim_inv h; simp only [lim_of hl]) | (obtain ⟨_, h1, h⟩ := Option.bind_eq_some_iff.mp h; simp only [h1, Option.bind_some] at h ⊢) | (cases h; rfl)))) (fun x10 => xa_nil)) (fun _ => op_tupL (puO' puI) _)) (fun x11 => x11.1.2.1) (.inl rfl) (fun x11 => qf_ret rfl (by repeat (first | exact wk_nil | apply wk_a | apply wk_s))))) (by dsimp only [p_numbers_in])) rfl (by simp [okM]) (fun z => (coll_0P rfl coll_nilP))
theorem tok_read_counts (a0 : PD) : ∀ z, p_read_counts a0 = some z → f_read_counts [eV a0] = .ok ((eT (eO eI)) z) [eV a0] :=
  fn_t (p0 := [some (eV a0), none]) (m := p_read_counts a0) (rv := fun (z : (List (Option Int))) => (eT (eO eI)) z) (q := fun (z : (List (Option Int))) => [some (eV a0), none]) (outs := fun z => [eV a0]) (B.cv (b_if (xt_not (xt_tstA (x_primT (xa_p (x_var (d := eV a0) 0 rfl) (fun _ => puV _) (fun x2 => xa_nil)) (fun _ => op_isiD .str _)) (fun _ => tr_B _))) (fun x3 => b_raise) (fun x3 => (b_skip (b_set (x_callP (xa_v (x_ms (f := sSplit) (rv := fun _ _ => (eL eS)) (x_dn eS dnS (x_var (d := eV a0) 0 rfl) (fun x5 => a0) (fun _ => rfl)) (fun x6 => (x_c (eS ","))) (fun _ _ _ h => op_split h)) (fun x8 => xa_nil)) rfl (fun _ _ h => tok_numbers_in  _ _ h)) (.inl rfl) (fun x10 => (b_if (xt_tst (x_primT (xa_v (x_c PyData.none) (fun x11 => (xa_p (x_var (d := (eT (eO eI)) x10.2) 1 rfl) (fun _ => (puT (puO' puI)) _) (fun x12 => xa_nil)))) (fun _ => op_noneI _))) (fun x13 => b_raise) (fun x13 => (b_skip (b_last (b_ret (x_var (d := (eT (eO eI)) x10.2) 1 rfl) (fun x14 => x10.2) (.inr (fun _ => (puT (puO' puI)) _)) (fun x14 => qf_ret rfl (by repeat (first | exact wk_nil | apply wk_a | apply wk_s))))))))))))) (by dsimp only [p_read_counts])) rfl (by simp [okM]) (fun z => (coll_0P rfl coll_nilP))
theorem tokz_read_counts (a0 : PD) : ∀ z, pz_read_counts a0 = some z → z_read_counts [eV a0] = z :=
  fn_zF (p := [some (eV a0), none]) (q := [none, none]) (m := pz_read_counts a0) (BZF.cv (bz_ifF (xt_not (xt_tstA (x_primT (xa_p (x_var (d := eV a0) 0 rfl) (fun _ => puV _) (fun x2 => xa_nil)) (fun _ => op_isiD .str _)) (fun _ => tr_B _))) (fun x3 => (bz_raiseF _ (xa_v (x_c (eI 0)) (fun x4 => xa_nil)) (fun _ => rfl) (fun _ => (by repeat (first | exact wk_nil | apply wk_a | apply wk_s))))) (fun x3 => (bz_thenF (fun (x12 : ((List (Option Int)))) => [some (eV a0), some ((eT (eO eI)) x12)]) (b_last (b_set (x_callP (xa_v (x_ms (f := sSplit) (rv := fun _ _ => (eL eS)) (x_dn eS dnS (x_var (d := eV a0) 0 rfl) (fun x6 => a0) (fun _ => rfl)) (fun x7 => (x_c (eS ","))) (fun _ _ _ h => op_split h)) (fun x9 => xa_nil)) rfl (fun _ _ h => tok_numbers_in  _ _ h)) (.inl rfl) (fun x11 => (b_end (z := x11.2) (by repeat (first | exact wk_nil | apply wk_a | apply wk_s)))))) (fun x12 => (bz_ifF (xt_tst (x_primT (xa_v (x_c PyData.none) (fun x14 => (xa_p (x_var (d := (eT (eO eI)) x12) 1 rfl) (fun _ => (puT (puO' puI)) _) (fun x15 => xa_nil)))) (fun _ => op_noneI _))) (fun x16 => (bz_raiseF _ (xa_v (x_c (eI 0)) (fun x17 => xa_nil)) (fun _ => rfl) (fun _ => (by repeat (first | exact wk_nil | apply wk_a | apply wk_s))))) (fun x16 => bz_noF)))))) (by dsimp only [pz_read_counts])) rfl (purs_c (puV _) purs_n) rfl
theorem tok__law_hand (a0 : (List Int)) : ∀ z, p__law_hand a0 = some z → f__law_hand [eZ a0] = .ok ((eL eI) z) [eZ a0] :=
  fn_t (p0 := [some (eZ a0), none, none, none, none, none]) (m := p__law_hand a0) (rv := fun (z : (List Int)) => (eL eI) z) (q := fun (z : (List Int)) => [some (eZ a0), none, none, none, none, none]) (outs := fun z => [eZ a0]) (B.cv (b_setL (eL eI) (X.as (x_lst (xa_v (x_c (eI 0)) (fun x2 => (xa_v (x_c (eI 0)) (fun x3 => (xa_v (x_c (eI 0)) (fun x4 => xa_nil)))))) rfl (by decide)) (fun x5 => (eL eI) [(0 : Int), (0 : Int), (0 : Int)]) rfl) (.inl rfl) (fun x6 x7 => (b_ifj (xt_andP (xt_tst (x_primT (xa_v (x_primT (xa_p (x_var (d := eZ a0) 0 rfl) (fun _ => puZ _) (fun x9 => xa_nil)) (fun _ => op_lenZ _)) (fun x10 => (xa_v (x_c (eI 0)) (fun x11 => xa_nil)))) (fun _ => op_gt' _ _))) (fun x12 => (xt_tst (x_primT (xa_v (x_prim (xa_p (x_var (d := eZ a0) 0 rfl) (fun _ => puZ _) (fun x13 => (xa_v (x_c (eI 0)) (fun x14 => xa_nil)))) (fun _ _ h => op_ixZ h)) (fun x16 => (xa_v (x_primT (xa_v (x_c (eI 10)) (fun x17 => (xa_v (x_c (eI 18)) (fun x18 => xa_nil)))) (fun _ => op_powC (c := 1000000000000000000) (by decide +kernel) (by decide +kernel))) (fun x19 => xa_nil)))) (fun _ => op_ge' _ _))))) (fun x21 (x54 : ((List Int))) => [some (eZ a0), some ((eL eI) x54), none, none, none, none]) (fun x21 => (b_set (x_c (eI 1)) (.inl rfl) (fun x22 => (b_last (b_for (xi_mk (xa_v (x_sl (x_var (d := eZ a0) 0 rfl) (fun x23 => xpr_none) (fun x23 x24 => (xpr_some (x_c (eI 63)))) (fun _ _ _ => op_slZ _ _ _)) (fun x26 => xa_nil)) rfl puI (fun _ => it_L _)) (fun x27 (x28 : ((List Int) × Int)) => [some (eZ a0), some ((eL eI) x28.1), some (eI x28.2), none, none, none]) (fun x27 => (x7, (1 : Int))) (fun _ => rfl) (fun x27 => by repeat (first | exact wk_nil | apply wk_a | apply wk_s)) (fun x27 x28 x29 => as_nm) (fun x27 x28 x29 => (b_setIx (e1 := eI) (x_primT (xa_v (x_prim (xa_s 1 rfl (xa_v (x_c (eI 0)) (fun x32 => xa_nil)) (fun _ => rfl) (fun _ => puL)) (fun _ _ h => op_ixL puI h)) (fun x34 => (xa_v (x_prim (xa_v (x_primT (xa_v (x_primT (xa_p (x_var (d := eI x29) 3 rfl) (fun _ => puI _) (fun x35 => xa_nil)) (fun _ => op_abs _)) (fun x36 => (xa_v (x_primT (xa_v (x_c (eI 10)) (fun x37 => (xa_v (x_c (eI 60)) (fun x38 => xa_nil)))) (fun _ => op_powC (c := 1000000000000000000000000000000000000000000000000000000000000) (by decide +kernel) (by decide +kernel))) (fun x39 => xa_nil)))) (fun _ => op_modC (by decide +kernel))) (fun x40 => (xa_p (x_var (d := eI x28.2) 2 rfl) (fun _ => puI _) (fun x41 => xa_nil)))) (fun _ _ h => op_mul h)) (fun x43 => xa_nil)))) (fun _ => op_add _ _)) puI (fun _ => ⟨_, rfl⟩) (fun x44 => (x_c (eI 0))) (fun _ _ => .inl rfl) (fun _ _ => rfl) (fun x44 x45 x46 => (b_last (b_set (x_prim (xa_p (x_var (d := eI x28.2) 2 rfl) (fun _ => puI _) (fun x48 => (xa_v (x_primT (xa_v (x_c (eI 10)) (fun x49 => (xa_v (x_c (eI 60)) (fun x50 => xa_nil)))) (fun _ => op_powC (c := 1000000000000000000000000000000000000000000000000000000000000) (by decide +kernel) (by decide +kernel))) (fun x51 => xa_nil)))) (fun _ _ h => op_mul h)) (.inl rfl) (fun x53 => (b_endC (z := (x46, x53.2)) (by repeat (first | exact wk_nil | apply wk_a | apply wk_s))))))))) (fun x27 x28 => (b_end (z := x28.1) (by repeat (first | exact wk_nil | apply wk_a | apply wk_s))))))))) (fun x21 => (b_end (z := x7) (by repeat (first | exact wk_nil | apply wk_a | apply wk_s)))) (fun x21 x54 => (b_for (xi_mk (xa_v (x_sl (x_var (d := eZ a0) 0 rfl) (fun x56 => xpr_none) (fun x56 x57 => (xpr_some (x_c (eI 63)))) (fun _ _ _ => op_slZ _ _ _)) (fun x59 => xa_nil)) rfl (puP puI puI) (fun _ => it_eL _)) (fun x60 (x61 : ((List Int))) => [some (eZ a0), some ((eL eI) x61), none, none, none, none]) (fun x60 => x54) (fun _ => rfl) (fun x60 => by repeat (first | exact wk_nil | apply wk_a | apply wk_s)) (fun x60 x61 x62 => (as_tp (ass_cons as_nm (ass_cons as_nm ass_nil)))) (fun x60 x61 x62 => (b_setL eI (x_primT (xa_v (x_primT (xa_v (x_primT (xa_p (x_var (d := eI x62.2) 3 rfl) (fun _ => puI _) (fun x65 => (xa_v (x_c (eI 2305843009213693951)) (fun x66 => xa_nil)))) (fun _ => op_modC (by decide +kernel))) (fun x67 => (xa_v (x_primT (xa_v (x_c (eI 7919)) (fun x68 => (xa_p (x_var (d := eI x62.1) 4 rfl) (fun _ => puI _) (fun x69 => xa_nil)))) (fun _ => op_mulL (by decide +kernel))) (fun x70 => xa_nil)))) (fun _ => op_add _ _)) (fun x71 => (xa_v (x_c (eI 3)) (fun x72 => xa_nil)))) (fun _ => op_add _ _)) (.inl rfl) (fun x73 x74 => (b_last (b_setIx (e1 := eI) (x_primT (xa_v (x_primT (xa_v (x_primT (xa_v (x_prim (xa_s 1 rfl (xa_v (x_c (eI 1)) (fun x76 => xa_nil)) (fun _ => rfl) (fun _ => puL)) (fun _ _ h => op_ixL puI h)) (fun x78 => (xa_v (x_c (eI 48271)) (fun x79 => xa_nil)))) (fun _ => op_mulR (by decide +kernel))) (fun x80 => (xa_p (x_var (d := eI x74) 5 rfl) (fun _ => puI _) (fun x81 => xa_nil)))) (fun _ => op_add _ _)) (fun x82 => (xa_v (x_c (eI 2305843009213693951)) (fun x83 => xa_nil)))) (fun _ => op_modC (by decide +kernel))) puI (fun _ => ⟨_, rfl⟩) (fun x84 => (x_c (eI 1))) (fun _ _ => .inl rfl) (fun _ _ => rfl) (fun x84 x85 x86 => (b_endC (z := x86) (by repeat (first | exact wk_nil | apply wk_a | apply wk_s))))))))) (fun x60 x61 => (b_last (b_retS (R := x61) (i := 1) rfl rfl (qf_ret rfl (by repeat (first | exact wk_nil | apply wk_a | apply wk_s))))))))))) (by dsimp only [p__law_hand])) rfl (by simp [okM]) (fun z => (coll_0P rfl coll_nilP))
theorem tok__law_take (a0 : (List Int)) (a1 : Int) : ∀ z, p__law_take a0 a1 = some z → f__law_take [(eL eI) a0, eI a1] = .ok (eI z.1) [(eL eI) z.2, eI a1] :=
  fn_t (p0 := [some ((eL eI) a0), some (eI a1), none, none]) (m := p__law_take a0 a1) (rv := fun (z : (Int × (List Int))) => eI z.1) (q := fun (z : (Int × (List Int))) => [some ((eL eI) z.2), some (eI a1), none, none]) (outs := fun z => [(eL eI) z.2, eI a1]) (B.cv (b_if (xt_tst (x_primT (xa_v (x_prim (xa_s 0 rfl (xa_v (x_c (eI 0)) (fun x3 => xa_nil)) (fun _ => rfl) (fun _ => puL)) (fun _ _ h => op_ixL puI h)) (fun x5 => (xa_v (x_c (eI 0)) (fun x6 => xa_nil)))) (fun _ => op_gt' _ _))) (fun x7 => (b_asc (b_set (x_prim (xa_v (x_prim (xa_s 0 rfl (xa_v (x_c (eI 0)) (fun x8 => xa_nil)) (fun _ => rfl) (fun _ => puL)) (fun _ _ h => op_ixL puI h)) (fun x10 => (xa_p (x_var (d := eI a1) 1 rfl) (fun _ => puI _) (fun x11 => xa_nil)))) (fun _ _ h => op_mod' h)) (.inl rfl) (fun x13 => (b_asc (b_setIx (e1 := eI) (x_prim (xa_v (x_prim (xa_s 0 rfl (xa_v (x_c (eI 0)) (fun x14 => xa_nil)) (fun _ => rfl) (fun _ => puL)) (fun _ _ h => op_ixL puI h)) (fun x16 => (xa_p (x_var (d := eI a1) 1 rfl) (fun _ => puI _) (fun x17 => xa_nil)))) (fun _ _ h => op_div h)) puI (fun _ => ⟨_, rfl⟩) (fun x19 => (x_c (eI 0))) (fun _ _ => .inl rfl) (fun _ _ => rfl) (fun x19 x20 x21 => (b_ret (x_var (d := eI x13.2) 2 rfl) (fun x23 => (x13.2, x21)) (.inr (fun _ => puI _)) (fun x23 => qf_ret rfl (by repeat (first | exact wk_nil | apply wk_a | apply wk_s))))))))))) (fun x7 => (b_skip (b_setIx (e1 := eI) (x_primT (xa_v (x_prim (xa_s 0 rfl (xa_v (x_c (eI 2)) (fun x24 => xa_nil)) (fun _ => rfl) (fun _ => puL)) (fun _ _ h => op_ixL puI h)) (fun x26 => (xa_v (x_c (eI 1)) (fun x27 => xa_nil)))) (fun _ => op_add _ _)) puI (fun _ => ⟨_, rfl⟩) (fun x28 => (x_c (eI 2))) (fun _ _ => .inl rfl) (fun _ _ => rfl) (fun x28 x29 x30 => (b_setL eI (x_primT (xa_v (x_primT (xa_v (x_primT (xa_v (x_primT (xa_v (x_prim (xa_s 0 rfl (xa_v (x_c (eI 1)) (fun x32 => xa_nil)) (fun _ => rfl) (fun _ => puL)) (fun _ _ h => op_ixL puI h)) (fun x34 => (xa_v (x_prim (xa_v (x_primT (xa_v (x_c (eI 65537)) (fun x35 => (xa_v (x_prim (xa_s 0 rfl (xa_v (x_c (eI 2)) (fun x36 => xa_nil)) (fun _ => rfl) (fun _ => puL)) (fun _ _ h => op_ixL puI h)) (fun x38 => xa_nil)))) (fun _ => op_mulL (by decide +kernel))) (fun x39 => (xa_v (x_prim (xa_s 0 rfl (xa_v (x_c (eI 2)) (fun x40 => xa_nil)) (fun _ => rfl) (fun _ => puL)) (fun _ _ h => op_ixL puI h)) (fun x42 => xa_nil)))) (fun _ _ h => op_mul h)) (fun x44 => xa_nil)))) (fun _ => op_add _ _)) (fun x45 => (xa_v (x_c (eI 11)) (fun x46 => xa_nil)))) (fun _ => op_add _ _)) (fun x47 => (xa_v (x_c (eI 48271)) (fun x48 => xa_nil)))) (fun _ => op_mulR (by decide +kernel))) (fun x49 => (xa_v (x_c (eI 2305843009213693921)) (fun x50 => xa_nil)))) (fun _ => op_modC (by decide +kernel))) (.inl rfl) (fun x51 x52 => (b_setL eI (x_primT (xa_v (x_prim (xa_p (x_var (d := eI x52) 3 rfl) (fun _ => puI _) (fun x54 => (xa_v (x_primT (xa_v (x_primT (xa_p (x_var (d := eI x52) 3 rfl) (fun _ => puI _) (fun x55 => (xa_v (x_c (eI 1000003)) (fun x56 => xa_nil)))) (fun _ => op_modC (by decide +kernel))) (fun x57 => (xa_v (x_primT (xa_v (x_c (eI 99991)) (fun x58 => (xa_v (x_prim (xa_s 0 rfl (xa_v (x_c (eI 2)) (fun x59 => xa_nil)) (fun _ => rfl) (fun _ => puL)) (fun _ _ h => op_ixL puI h)) (fun x61 => xa_nil)))) (fun _ => op_mulL (by decide +kernel))) (fun x62 => xa_nil)))) (fun _ => op_add _ _)) (fun x63 => xa_nil)))) (fun _ _ h => op_mul h)) (fun x65 => (xa_v (x_c (eI 2305843009213693907)) (fun x66 => xa_nil)))) (fun _ => op_modC (by decide +kernel))) (.inl rfl) (fun x67 x68 => (b_last (b_ret (x_prim (xa_v (x_primT (xa_v (x_primT (xa_p (x_var (d := eI x68) 3 rfl) (fun _ => puI _) (fun x70 => (xa_v (x_c (eI 97)) (fun x71 => xa_nil)))) (fun _ => op_divC (by decide +kernel))) (fun x72 => (xa_v (x_primT (xa_p (x_var (d := eI x68) 3 rfl) (fun _ => puI _) (fun x73 => (xa_v (x_c (eI 1000033)) (fun x74 => xa_nil)))) (fun _ => op_divC (by decide +kernel))) (fun x75 => xa_nil)))) (fun _ => op_add _ _)) (fun x76 => (xa_p (x_var (d := eI a1) 1 rfl) (fun _ => puI _) (fun x77 => xa_nil)))) (fun _ _ h => op_mod' h)) (fun x79 => (x79.2, x30)) (.inl rfl) (fun x79 => qf_ret rfl (by repeat (first | exact wk_nil | apply wk_a | apply wk_s)))))))))))))) (by dsimp only [p__law_take])) rfl (by simp [okM]) (fun z => (coll_0P rfl (coll_0P rfl coll_nilP)))
theorem tok__law_number (a0 : (List Int)) : ∀ z, p__law_number a0 = some z → f__law_number [(eL eI) a0] = .ok (eI z.1) [(eL eI) z.2] :=
  fn_t (p0 := [some ((eL eI) a0), none]) (m := p__law_number a0) (rv := fun (z : (Int × (List Int))) => eI z.1) (q := fun (z : (Int × (List Int))) => [some ((eL eI) z.2), none]) (outs := fun z => [(eL eI) z.2]) (B.cv (b_set (x_call (xa_s 0 rfl (xa_v (x_c (eI 6)) (fun x2 => xa_nil)) (fun _ => rfl) (fun _ => puL)) rfl (fun _ _ h => tok__law_take  _ _ _ h) (fun _ _ => rfl) (fun _ (zz : Int × (List Int)) => [(0, (eL eI) zz.2)]) (fun _ _ => rfl)) (.inl rfl) (fun x4 => (b_if (xt_tst (x_primT (xa_p (x_var (d := eI x4.2.1) 1 rfl) (fun _ => puI _) (fun x5 => (xa_v (x_c (eI 3)) (fun x6 => xa_nil)))) (fun _ => op_lt' _ _))) (fun x7 => (b_ret (x_call (xa_s 0 rfl (xa_v (x_c (eI 9)) (fun x8 => xa_nil)) (fun _ => rfl) (fun _ => puL)) rfl (fun _ _ h => tok__law_take  _ _ _ h) (fun _ _ => rfl) (fun _ (zz : Int × (List Int)) => [(0, (eL eI) zz.2)]) (fun _ _ => rfl)) (fun x10 => (x10.2.1, x10.2.2)) (.inl rfl) (fun x10 => qf_ret rfl (by repeat (first | exact wk_nil | apply wk_a | apply wk_s))))) (fun x7 => (b_skip (b_if (xt_tst (x_primT (xa_p (x_var (d := eI x4.2.1) 1 rfl) (fun _ => puI _) (fun x11 => (xa_v (x_c (eI 3)) (fun x12 => xa_nil)))) (fun _ => op_eq eqI (by decide) _ _))) (fun x13 => (b_ret (x_primT (xa_v (x_primT (xa_v (x_prim (xa_v (x_c (eI 1)) (fun x14 => (xa_v (x_call (xa_s 0 rfl (xa_v (x_c (eI 12)) (fun x15 => xa_nil)) (fun _ => rfl) (fun _ => puL)) rfl (fun _ _ h => tok__law_take  _ _ _ h) (fun _ _ => rfl) (fun _ (zz : Int × (List Int)) => [(0, (eL eI) zz.2)]) (fun _ _ => rfl)) (fun x17 => xa_nil)))) (fun _ _ h => op_shl' h)) (fun x19 => (xa_v (x_call (xa_s 0 rfl (xa_v (x_c (eI 3)) (fun x20 => xa_nil)) (fun _ => rfl) (fun _ => puL)) rfl (fun _ _ h => tok__law_take  _ _ _ h) (fun _ _ => rfl) (fun _ (zz : Int × (List Int)) => [(0, (eL eI) zz.2)]) (fun _ _ => rfl)) (fun x22 => xa_nil)))) (fun _ => op_add _ _)) (fun x23 => (xa_v (x_c (eI 1)) (fun x24 => xa_nil)))) (fun _ => op_sub' _ _)) (fun x25 => (((x25.1.1.2 + x25.1.2.1.2.1) - (1 : Int)), x25.1.2.1.2.2)) (.inl rfl) (fun x25 => qf_ret rfl (by repeat (first | exact wk_nil | apply wk_a | apply wk_s))))) (fun x13 => (b_skip (b_if (xt_tst (x_primT (xa_p (x_var (d := eI x4.2.1) 1 rfl) (fun _ => puI _) (fun x26 => (xa_v (x_c (eI 4)) (fun x27 => xa_nil)))) (fun _ => op_eq eqI (by decide) _ _))) (fun x28 => (b_ret (x_primT (xa_v (x_call (xa_s 0 rfl (xa_v (x_c (eI 40)) (fun x29 => xa_nil)) (fun _ => rfl) (fun _ => puL)) rfl (fun _ _ h => tok__law_take  _ _ _ h) (fun _ _ => rfl) (fun _ (zz : Int × (List Int)) => [(0, (eL eI) zz.2)]) (fun _ _ => rfl)) (fun x31 => xa_nil)) (fun _ => op_neg _)) (fun x32 => ((-x32.1.2.1), x32.1.2.2)) (.inl rfl) (fun x32 => qf_ret rfl (by repeat (first | exact wk_nil | apply wk_a | apply wk_s))))) (fun x28 => (b_skip (b_last (b_ret (x_prim (xa_v (X.as (x_lst (xa_v (x_primT (xa_v (x_c (eI 9)) (fun x33 => (xa_v (x_primT (xa_v (x_c (eI 10)) (fun x34 => (xa_v (x_c (eI 29)) (fun x35 => xa_nil)))) (fun _ => op_powC (c := 100000000000000000000000000000) (by decide +kernel) (by decide +kernel))) (fun x36 => xa_nil)))) (fun _ => op_mulL (by decide +kernel))) (fun x37 => (xa_v (x_primT (xa_v (x_c (eI 1)) (fun x38 => (xa_v (x_primT (xa_v (x_c (eI 9)) (fun x39 => (xa_v (x_primT (xa_v (x_c (eI 10)) (fun x40 => (xa_v (x_c (eI 29)) (fun x41 => xa_nil)))) (fun _ => op_powC (c := 100000000000000000000000000000) (by decide +kernel) (by decide +kernel))) (fun x42 => xa_nil)))) (fun _ => op_mulL (by decide +kernel))) (fun x43 => xa_nil)))) (fun _ => op_sub' _ _)) (fun x44 => (xa_v (x_primT (xa_v (x_primT (xa_v (x_c (eI 10)) (fun x45 => (xa_v (x_c (eI 29)) (fun x46 => xa_nil)))) (fun _ => op_powC (c := 100000000000000000000000000000) (by decide +kernel) (by decide +kernel))) (fun x47 => (xa_v (x_call (xa_s 0 rfl (xa_v (x_c (eI 50)) (fun x48 => xa_nil)) (fun _ => rfl) (fun _ => puL)) rfl (fun _ _ h => tok__law_take  _ _ _ h) (fun _ _ => rfl) (fun _ (zz : Int × (List Int)) => [(0, (eL eI) zz.2)]) (fun _ _ => rfl)) (fun x50 => xa_nil)))) (fun _ => op_add _ _)) (fun x51 => (xa_v (x_primT (xa_v (x_primT (xa_v (x_c (eI 10)) (fun x52 => (xa_v (x_c (eI 20)) (fun x53 => xa_nil)))) (fun _ => op_powC (c := 100000000000000000000) (by decide +kernel) (by decide +kernel))) (fun x54 => xa_nil)) (fun _ => op_neg _)) (fun x55 => xa_nil)))))))) rfl (by decide)) (fun x56 => (eL eI) [((9 : Int) * (100000000000000000000000000000 : Int)), ((1 : Int) - ((9 : Int) * (100000000000000000000000000000 : Int))), ((100000000000000000000000000000 : Int) + x56.2.2.1.2.1.2.1), (-(100000000000000000000 : Int))]) rfl) (fun x57 => (xa_v (x_call (xa_s 0 rfl (xa_v (x_c (eI 4)) (fun x58 => xa_nil)) (fun _ => rfl) (fun _ => puL)) rfl (fun _ _ h => tok__law_take  _ _ _ h) (fun _ _ => rfl) (fun _ (zz : Int × (List Int)) => [(0, (eL eI) zz.2)]) (fun _ _ => rfl)) (fun x60 => xa_nil)))) (fun _ _ h => op_ixL puI h)) (fun x62 => (x62.2, x62.1.2.1.2.2)) (.inl rfl) (fun x62 => qf_ret rfl (by repeat (first | exact wk_nil | apply wk_a | apply wk_s)))))))))))))))) (by dsimp only [p__law_number])) rfl (by simp [okM]) (fun z => (coll_0P rfl coll_nilP))
theorem tok__law_refused (n : Nat) (a0 : PD) : ∀ z, p__law_refused n a0 = some z → f__law_refused n [eV a0] = .ok (eB z) [eV a0] :=
  fn_t (p0 := [some (eV a0), none, none]) (m := p__law_refused n a0) (rv := fun (z : Bool) => eB z) (q := fun (z : Bool) => [some (eV a0), none, none]) (outs := fun z => [eV a0]) (B.cv (b_set (x_c PyData.none) (.inl rfl) (fun x2 => (b_tryK (q := [some (eV a0), none, none]) (bz_callF (xa_p (x_var (d := eV a0) 0 rfl) (fun _ => puV _) (fun x3 => xa_nil)) (fun _ => (purs_c (puV _) purs_n)) (fun _ z h => tokz_read_counts _ z h) (fun _ => (by repeat (first | exact wk_nil | apply wk_a | apply wk_s)))) (b_expr (x_callP (xa_p (x_var (d := eV a0) 0 rfl) (fun _ => puV _) (fun x4 => xa_nil)) rfl (fun _ _ h => tok_read_counts  _ _ h)) (fun x6 => (b_if (xt_orT (xt_not (xt_none rfl)) (fun x7 => (xt_none rfl))) (fun x8 => (b_ret (x_c (eB false)) (fun x9 => false) (.inl rfl) (fun x9 => qf_ret rfl (by repeat (first | exact wk_nil | apply wk_a | apply wk_s))))) (fun x8 => (b_skip (b_last (b_ret (x_andP (x_none rfl) (fun x10 => (x_callP (xa_v x_badB (fun x12 => (xa_v (x_c (eI 0)) (fun x13 => xa_nil)))) rfl (fun _ _ h => tok__law_alike h)))) (fun x16 => x16.2) (.inr (fun _ => puB _)) (fun x16 => qf_ret rfl (by repeat (first | exact wk_nil | apply wk_a | apply wk_s)))))))))) (fun y => (b_if (xt_orT (xt_not xt_k) (fun x17 => xt_k)) (fun x18 => (b_ret (x_c (eB false)) (fun x19 => false) (.inl rfl) (fun x19 => qf_ret rfl (by repeat (first | exact wk_nil | apply wk_a | apply wk_s))))) (fun x18 => (b_skip (b_last (b_ret (x_andP (x_c (eB ((["NoText"] : List Str).contains y.1))) (fun x20 => (x_callP (xa_v (x_c (eI y.2.2)) (fun x21 => (xa_v (x_c (eI 0)) (fun x22 => xa_nil)))) rfl (fun _ _ h => tok__law_alike h)))) (fun x25 => x25.2) (.inr (fun _ => puB _)) (fun x25 => qf_ret rfl (by repeat (first | exact wk_nil | apply wk_a | apply wk_s))))))))) (fun _ _ _ h => ⟨h.1, mt_off h.2 (fun d z => by have z : (none : Option D) = some d := z; cases z)⟩) (by simp) (by simp) (fun d z => by have z : (none : Option D) = some d := z; cases z) (fun d z => by have z : (none : Option D) = some d := z; cases z)))) (by dsimp only [p__law_refused])) rfl (by simp [okM]) (fun z => (coll_0P rfl coll_nilP))
theorem tok__law_bad (a0 : (List Int)) (a1 : (List Str)) : ∀ z, p__law_bad a0 a1 = some z → f__law_bad [(eL eI) a0, (eL eS) a1] = .ok (eS z.1) [(eL eI) z.2, (eL eS) a1] :=
  fn_t (p0 := [some ((eL eI) a0), some ((eL eS) a1), none, none, none, none]) (m := p__law_bad a0 a1) (rv := fun (z : (Str × (List Int))) => eS z.1) (q := fun (z : (Str × (List Int))) => [some ((eL eI) z.2), some ((eL eS) a1), none, none, none, none]) (outs := fun z => [(eL eI) z.2, (eL eS) a1]) (B.cv (b_set (x_call (xa_s 0 rfl (xa_v (x_primT (xa_s 1 rfl xa_nil (fun _ => rfl) (fun _ => puL)) (fun _ => op_lenL _)) (fun x3 => xa_nil)) (fun _ => rfl) (fun _ => puL)) rfl (fun _ _ h => tok__law_take  _ _ _ h) (fun _ _ => rfl) (fun _ (zz : Int × (List Int)) => [(0, (eL eI) zz.2)]) (fun _ _ => rfl)) (.inl rfl) (fun x5 => (b_setL (eL eS) (X.as (x_lst (xa_v (x_c (eS "")) (fun x6 => (xa_v (x_c (eS " ")) (fun x7 => (xa_v (x_c (eS "01")) (fun x8 => (xa_v (x_c (eS "+1")) (fun x9 => (xa_v (x_c (eS "-0")) (fun x10 => (xa_v (x_c (eS "--1")) (fun x11 => (xa_v (x_c (eS "x")) (fun x12 => (xa_v (x_primT (xa_v (x_c (eS "1")) (fun _ => (xa_v (x_c (eI 31)) (fun _ => xa_nil)))) (fun _ => pmulS_lit (t := "1111111111111111111111111111111") rfl rfl (by decide) (by decide))) (fun x13 => (xa_v (x_prim (xa_v (x_c (eS "-")) (fun x14 => (xa_v (x_primT (xa_v (x_c (eS "2")) (fun _ => (xa_v (x_c (eI 31)) (fun _ => xa_nil)))) (fun _ => pmulS_lit (t := "2222222222222222222222222222222") rfl rfl (by decide) (by decide))) (fun x15 => xa_nil)))) (fun _ _ h => op_catS h)) (fun x17 => (xa_v (x_c (eS "1.5")) (fun x18 => (xa_v (x_c (eS "1 ")) (fun x19 => (xa_v (x_c (eS " 1")) (fun x20 => xa_nil)))))))))))))))))))))))) rfl (by decide)) (fun x21 => (eL eS) [("" : Str), (" " : Str), ("01" : Str), ("+1" : Str), ("-0" : Str), ("--1" : Str), ("x" : Str), ("1111111111111111111111111111111" : Str), x21.2.2.2.2.2.2.2.2.1.2, ("1.5" : Str), ("1 " : Str), (" 1" : Str)]) rfl) (.inl rfl) (fun x22 x23 => (b_set (x_prim (xa_s 3 rfl (xa_v (X.as (x_lst (xa_v (x_c (eS "1\n")) (fun x25 => (xa_v (x_c (eS "00")) (fun x26 => (xa_v (x_c (eS "-")) (fun x27 => (xa_v (x_c (eS "1-")) (fun x28 => (xa_v (x_c (eS "1_0")) (fun x29 => xa_nil)))))))))) rfl (by decide)) (fun x30 => (eL eS) [("1\n" : Str), ("00" : Str), ("-" : Str), ("1-" : Str), ("1_0" : Str)]) rfl) (fun x31 => xa_nil)) (fun _ => rfl) (fun _ => puL)) (fun _ _ h => op_catL puS h)) (.inl rfl) (fun x33 => (b_set (x_prim (xa_v (x_prim (xa_v (x_sl (x_var (d := (eL eS) a1) 1 rfl) (fun x34 => xpr_none) (fun x34 x35 => (xpr_some (x_var (d := eI x5.2.1) 2 rfl))) (fun _ _ _ => op_slL puS _ _ _)) (fun x37 => (xa_v (X.as (x_lst (xa_v (x_prim (xa_s 3 rfl (xa_v (x_call (xa_s 0 rfl (xa_v (x_primT (xa_s 3 rfl xa_nil (fun _ => rfl) (fun _ => puL)) (fun _ => op_lenL _)) (fun x38 => xa_nil)) (fun _ => rfl) (fun _ => puL)) rfl (fun _ _ h => tok__law_take  _ _ _ h) (fun _ _ => rfl) (fun _ (zz : Int × (List Int)) => [(0, (eL eI) zz.2)]) (fun _ _ => rfl)) (fun x40 => xa_nil)) (fun _ => rfl) (fun _ => puL)) (fun _ _ h => op_ixL puS h)) (fun x42 => xa_nil)) rfl (by decide)) (fun x43 => (eL eS) [x43.1.2]) rfl) (fun x44 => xa_nil)))) (fun _ _ h => op_catL puS h)) (fun x46 => (xa_v (x_sl (x_var (d := (eL eS) a1) 1 rfl) (fun x49 => (xpr_some (x_primT (xa_p (x_var (d := eI x5.2.1) 2 rfl) (fun _ => puI _) (fun x52 => (xa_v (x_c (eI 1)) (fun x53 => xa_nil)))) (fun _ => op_add _ _)))) (fun x49 x50 => xpr_none) (fun _ _ _ => op_slL puS _ _ _)) (fun x54 => xa_nil)))) (fun _ _ h => op_catL puS h)) (.inl rfl) (fun x56 => (b_setL (eL eS) (X.as (x_lst (xa_v (x_ms (f := sJoin) (rv := fun _ _ => eS) (x_c (eS ",")) (fun x57 => (x_var (d := (eL eS) x56.2) 4 rfl)) (fun _ _ _ h => op_joinL h)) (fun x59 => (xa_v (x_prim (xa_v (x_ms (f := sJoin) (rv := fun _ _ => eS) (x_c (eS ",")) (fun x60 => (x_var (d := (eL eS) a1) 1 rfl)) (fun _ _ _ h => op_joinL h)) (fun x62 => (xa_v (x_c (eS ",")) (fun x63 => xa_nil)))) (fun _ _ h => op_catS h)) (fun x65 => (xa_v (x_prim (xa_v (x_c (eS ",")) (fun x66 => (xa_v (x_ms (f := sJoin) (rv := fun _ _ => eS) (x_c (eS ",")) (fun x67 => (x_var (d := (eL eS) a1) 1 rfl)) (fun _ _ _ h => op_joinL h)) (fun x69 => xa_nil)))) (fun _ _ h => op_catS h)) (fun x71 => (xa_v (x_ms (f := sJoin) (rv := fun _ _ => eS) (x_c (eS ",,")) (fun x72 => (x_prim (xa_s 1 rfl (xa_v (X.as (x_lst (xa_v (x_c (eS "0")) (fun x73 => xa_nil)) rfl (by decide)) (fun x74 => (eL eS) [("0" : Str)]) rfl) (fun x75 => xa_nil)) (fun _ => rfl) (fun _ => puL)) (fun _ _ h => op_catL puS h))) (fun _ _ _ h => op_joinL h)) (fun x78 => xa_nil)))))))) rfl (by decide)) (fun x79 => (eL eS) [x79.1.2.2, x79.2.1.2, x79.2.2.1.2, x79.2.2.2.1.2.2]) rfl) (.inl rfl) (fun x80 x81 => (b_expr (x_mt rfl (xa_v (x_ms (f := sJoin) (rv := fun _ _ => eS) (x_c (eS ", ")) (fun x83 => (x_prim (xa_s 1 rfl (xa_v (X.as (x_lst (xa_v (x_c (eS "1")) (fun x84 => xa_nil)) rfl (by decide)) (fun x85 => (eL eS) [("1" : Str)]) rfl) (fun x86 => xa_nil)) (fun _ => rfl) (fun _ => puL)) (fun _ _ h => op_catL puS h))) (fun _ _ _ h => op_joinL h)) (fun x89 => xa_nil)) rfl (fun _ => rfl) (fun _ _ h => mt_app' h) (fun _ _ => rfl)) (fun x91 => (b_last (b_ret (x_prim (xa_s 5 rfl (xa_v (x_prim (xa_v (X.as (x_lst (xa_v (x_c (eI 0)) (fun x92 => (xa_v (x_c (eI 0)) (fun x93 => (xa_v (x_c (eI 0)) (fun x94 => (xa_v (x_c (eI 1)) (fun x95 => (xa_v (x_c (eI 2)) (fun x96 => (xa_v (x_c (eI 3)) (fun x97 => (xa_v (x_c (eI 4)) (fun x98 => xa_nil)))))))))))))) rfl (by decide)) (fun x99 => (eL eI) [(0 : Int), (0 : Int), (0 : Int), (1 : Int), (2 : Int), (3 : Int), (4 : Int)]) rfl) (fun x100 => (xa_v (x_call (xa_s 0 rfl (xa_v (x_c (eI 7)) (fun x101 => xa_nil)) (fun _ => rfl) (fun _ => puL)) rfl (fun _ _ h => tok__law_take  _ _ _ h) (fun _ _ => rfl) (fun _ (zz : Int × (List Int)) => [(0, (eL eI) zz.2)]) (fun _ _ => rfl)) (fun x103 => xa_nil)))) (fun _ _ h => op_ixL puI h)) (fun x105 => xa_nil)) (fun _ => rfl) (fun _ => puL)) (fun _ _ h => op_ixL puS h)) (fun x107 => (x107.2, x107.1.1.1.2.1.2.2)) (.inl rfl) (fun x107 => qf_ret rfl (by repeat (first | exact wk_nil | apply wk_a | apply wk_s))))))))))))))))) (by dsimp only [p__law_bad])) rfl (by simp [okM]) (fun z => (coll_0P rfl (coll_0P rfl coll_nilP)))
theorem tok_law (n : Nat) (a0 : (List Int)) : ∀ z, p_law n a0 = some z → f_law n [eZ a0] = .ok (eB z) [eZ a0] :=
  fn_t (p0 := [some (eZ a0), none, none, none, none, none, none, none, none]) (m := p_law n a0) (rv := fun (z : Bool) => eB z) (q := fun (z : Bool) => [some (eZ a0), none, none, none, none, none, none, none, none]) (outs := fun z => [eZ a0]) (B.cv (b_set (x_callP (xa_p (x_var (d := eZ a0) 0 rfl) (fun _ => puZ _) (fun x2 => xa_nil)) rfl (fun _ _ h => tok__law_hand  _ _ h)) (.inl rfl) (fun x4 => (b_forR (xi_mk (xa_v (X.as (x_lst (xa_v (X.as (x_c (eS "")) (fun x5 => eV (toPD puS ("" : Str))) rfl) (fun x6 => (xa_v (X.as (x_c PyData.none) (fun x7 => eV (toPD puU ())) rfl) (fun x8 => (xa_v (X.as (x_c (eI 5)) (fun x9 => eV (toPD puI (5 : Int))) rfl) (fun x10 => (xa_v (X.as (x_c (eB true)) (fun x11 => eV (toPD puB true)) rfl) (fun x12 => (xa_v (X.as (X.as (x_tup xa_nil rfl (by decide)) (fun x13 => (eT eI) ([] : (List Int))) rfl) (fun x14 => eV (toPD (puT puI) ([] : (List Int)))) rfl) (fun x15 => (xa_v (X.as (X.as (x_tup (xa_v (x_c (eI 1)) (fun x16 => (xa_v (x_c (eI 2)) (fun x17 => xa_nil)))) rfl (by decide)) (fun x18 => (eP eI eI) ((1 : Int), (2 : Int))) rfl) (fun x19 => eV (toPD (puP puI puI) ((1 : Int), (2 : Int)))) rfl) (fun x20 => (xa_v (X.as (x_frz puI (X.as (x_lst (xa_v (x_c (eI 1)) (fun x21 => xa_nil)) rfl (by decide)) (fun x22 => (eL eI) [(1 : Int)]) rfl)) (fun x23 => eV (frzV puI [(1 : Int)])) rfl) (fun x24 => (xa_v (X.as (x_frd (f := koI) (e := eI) x_newK) (fun x25 => eV frdV) rfl) (fun x26 => (xa_v (X.as (x_c (eS "counts")) (fun x27 => eV (toPD puS ("counts" : Str))) rfl) (fun x28 => (xa_v (X.as (x_c (eS "1 2")) (fun x29 => eV (toPD puS ("1 2" : Str))) rfl) (fun x30 => (xa_v (X.as (x_c (eS "-")) (fun x31 => eV (toPD puS ("-" : Str))) rfl) (fun x32 => (xa_v (X.as (x_c (eS ",")) (fun x33 => eV (toPD puS ("," : Str))) rfl) (fun x34 => xa_nil)))))))))))))))))))))))) rfl (by decide)) (fun x35 => (eL eV) [(toPD puS ("" : Str)), (toPD puU ()), (toPD puI (5 : Int)), (toPD puB true), (toPD (puT puI) ([] : (List Int))), (toPD (puP puI puI) ((1 : Int), (2 : Int))), (frzV puI [(1 : Int)]), frdV, (toPD puS ("counts" : Str)), (toPD puS ("1 2" : Str)), (toPD puS ("-" : Str)), (toPD puS ("," : Str))]) rfl) (fun x36 => xa_nil)) rfl puV (fun _ => it_L _)) (fun x37 (x38 : Unit) => [some (eZ a0), some ((eL eI) x4.2), none, none, none, none, none, none, none]) (fun x37 => ()) (fun (z : Bool) => eB z) (fun x37 x143 => [some (eZ a0), none, none, none, none, none, none, none, none]) (fun z => z) (fun _ => rfl) (fun x37 => by repeat (first | exact wk_nil | apply wk_a | apply wk_s)) (fun x37 x38 x39 => as_nm) (fun x37 x38 x39 => (b_last (b_if (xt_not (xt_tstA (x_callP (xa_p (x_var (d := eV x39) 2 rfl) (fun _ => puV _) (fun x42 => xa_nil)) rfl (fun _ _ h => tok__law_refused n _ _ h)) (fun _ => tr_B _))) (fun x44 => (b_ret (x_c (eB false)) (fun x45 => (Lf.ret false)) (.inl rfl) (fun x45 => ql_ret rfl (by repeat (first | exact wk_nil | apply wk_a | apply wk_s))))) (fun x44 => (b_skip (b_endL (z := ()) (by repeat (first | exact wk_nil | apply wk_a | apply wk_s)))))))) (fun x37 x143 => qf_ret rfl (by repeat (first | exact wk_nil | apply wk_a | apply wk_s))) (fun x37 x38 => (b_forR (xi_mk (xa_v (X.as (x_lst (xa_v (x_primT (xa_v (x_c (eS "9")) (fun _ => (xa_v (x_c (eI 30)) (fun _ => xa_nil)))) (fun _ => pmulS_lit (t := "999999999999999999999999999999") rfl rfl (by decide) (by decide))) (fun x46 => (xa_v (x_prim (xa_v (x_c (eS "-")) (fun x47 => (xa_v (x_primT (xa_v (x_c (eS "9")) (fun _ => (xa_v (x_c (eI 30)) (fun _ => xa_nil)))) (fun _ => pmulS_lit (t := "999999999999999999999999999999") rfl rfl (by decide) (by decide))) (fun x48 => xa_nil)))) (fun _ _ h => op_catS h)) (fun x50 => (xa_v (x_c (eS "0")) (fun x51 => xa_nil)))))) rfl (by decide)) (fun x52 => (eL eS) [("999999999999999999999999999999" : Str), x52.2.1.2, ("0" : Str)]) rfl) (fun x53 => xa_nil)) rfl puS (fun _ => it_L _)) (fun x54 (x55 : Unit) => [some (eZ a0), some ((eL eI) x4.2), none, none, none, none, none, none, none]) (fun x54 => ()) (fun (z : Bool) => eB z) (fun x54 x142 => [some (eZ a0), none, none, none, none, none, none, none, none]) (fun z => z) (fun _ => rfl) (fun x54 => by repeat (first | exact wk_nil | apply wk_a | apply wk_s)) (fun x54 x55 x56 => as_nm) (fun x54 x55 x56 => (b_last (b_if (xt_not (xt_tstA (x_callP (xa_v (x_callP (xa_p (X.as (x_var (d := eS x56) 3 rfl) (fun x59 => eV (toPD puS x56)) rfl) (fun _ => puV _) (fun x60 => xa_nil)) rfl (fun _ _ h => tok_read_counts  _ _ h)) (fun x62 => (xa_v (X.as (x_tup (xa_v (x_prim (xa_p (x_var (d := eS x56) 3 rfl) (fun _ => puS _) (fun x63 => xa_nil)) (fun _ _ h => op_intX h)) (fun x65 => xa_nil)) rfl (by decide)) (fun x66 => (eT eI) [x66.1.2]) rfl) (fun x67 => xa_nil)))) rfl (fun _ _ h => tok__law_alike h)) (fun _ => tr_B _))) (fun x69 => (b_ret (x_c (eB false)) (fun x70 => (Lf.ret false)) (.inl rfl) (fun x70 => ql_ret rfl (by repeat (first | exact wk_nil | apply wk_a | apply wk_s))))) (fun x69 => (b_skip (b_endL (z := ()) (by repeat (first | exact wk_nil | apply wk_a | apply wk_s)))))))) (fun x54 x142 => qf_ret rfl (by repeat (first | exact wk_nil | apply wk_a | apply wk_s))) (fun x54 x55 => (b_forR (xi_mk (xa_v (x_c (eI 12)) (fun x71 => xa_nil)) rfl puI (fun _ => it_r1C (by decide))) (fun x72 (x73 : ((List Int))) => [some (eZ a0), some ((eL eI) x73), none, none, none, none, none, none, none]) (fun x72 => x4.2) (fun (z : Bool) => eB z) (fun x72 x141 => [some (eZ a0), none, none, none, none, none, none, none, none]) (fun z => z) (fun _ => rfl) (fun x72 => by repeat (first | exact wk_nil | apply wk_a | apply wk_s)) (fun x72 x73 x74 => as_nm) (fun x72 x73 x74 => (b_set (x_primT (xa_v (x_compU (ee := eI) (xi_mkP (xa_v (x_primT (xa_v (x_c (eI 1)) (fun x77 => (xa_v (x_call (xa_s 1 rfl (xa_v (x_c (eI 16)) (fun x78 => xa_nil)) (fun _ => rfl) (fun _ => puL)) rfl (fun _ _ h => tok__law_take  _ _ _ h) (fun _ _ => rfl) (fun _ (zz : Int × (List Int)) => [(1, (eL eI) zz.2)]) (fun _ _ => rfl)) (fun x80 => xa_nil)))) (fun _ => op_add _ _)) (fun x81 => xa_nil)) rfl puI (fun _ _ h => it_r1 h)) [] (fun x83 (x89 : ((List Int))) => [some (eZ a0), some ((eL eI) x89), none, none, some (eI x74), none, none, none, none]) (fun x83 => x83.1.1.2.1.2.2) rfl (fun _ => rfl) (fun _ _ => rfl) (fun x83 => by repeat (first | exact wk_nil | apply wk_a | apply wk_s)) (fun x83 x89 x84 => as_nm) (fun x83 x89 x84 => (x_call (xa_s 1 rfl xa_nil (fun _ => rfl) (fun _ => puL)) rfl (fun _ _ h => tok__law_number  _ _ h) (fun _ _ => rfl) (fun _ (zz : Int × (List Int)) => [(1, (eL eI) zz.2)]) (fun _ _ => rfl))) (.inl rfl) (fun x83 x89 x84 x88 => x88.2.2) (fun x83 x89 x84 x88 => by repeat (first | exact wk_nil | apply wk_a | apply wk_s)) (fun x83 x89 x84 => by repeat (first | exact wk_nil | apply wk_a | apply wk_s))) (fun x93 => xa_nil)) (fun _ => op_tupL puI _)) (.inl rfl) (fun x94 => (b_set (x_mapP (ee := eS) (xi_mk (xa_p (x_var (d := (eT eI) x94.1.2.1) 5 rfl) (fun _ => (puT puI) _) (fun x95 => xa_nil)) rfl puI (fun _ => it_T _)) rfl (fun x96 x97 => as_nm) (fun x96 x97 => (x_prim (xa_p (x_var (d := eI x97) 8 rfl) (fun _ => puI _) (fun x100 => xa_nil)) (fun _ _ h => op_strI h))) (.inl rfl) (fun x96 x97 => ((strI x97)).bind fun t101 => some t101) (fun _ _ => by repeat (first | exact wk_nil | apply wk_a | apply wk_s)) (by intro x y z h; simp only [] at h ⊢; repeat (first | (obtain ⟨hl, h⟩ := lim_inv h; simp only [lim_of hl]) | (obtain ⟨_, h1, h⟩ := Option.bind_eq_some_iff.mp h; simp only [h1, Option.bind_some] at h ⊢) | (cases h; rfl)))) (.inl rfl) (fun x104 => (b_if (xt_orM (xt_not (xt_tstA (x_callP (xa_v (x_callP (xa_v (X.as (x_ms (f := sJoin) (rv := fun _ _ => eS) (x_c (eS ",")) (fun x105 => (x_var (d := (eL eS) x104.2.1) 7 rfl)) (fun _ _ _ h => op_joinL h)) (fun x107 => eV (toPD puS x107.2.2)) rfl) (fun x108 => xa_nil)) rfl (fun _ _ h => tok_read_counts  _ _ h)) (fun x110 => (xa_p (x_var (d := (eT eI) x94.1.2.1) 5 rfl) (fun _ => (puT puI) _) (fun x111 => xa_nil)))) rfl (fun _ _ h => tok__law_alike h)) (fun _ => tr_B _))) (fun x113 => (xt_not (xt_tstA (x_callP (xa_v (X.as (x_call (xa_s 1 rfl (xa_s 7 rfl xa_nil (fun _ => rfl) (fun _ => puL)) (fun _ => rfl) (fun _ => puL)) rfl (fun _ _ h => tok__law_bad  _ _ _ h) (fun _ _ => rfl) (fun _ (zz : Str × (List Int)) => [(1, (eL eI) zz.2), (7, (eL eS) x104.2.1)]) (fun _ _ => rfl)) (fun x115 => eV (toPD puS x115.2.1)) rfl) (fun x116 => xa_nil)) rfl (fun _ _ h => tok__law_refused n _ _ h)) (fun _ => tr_B _)))) (fun x113 x119 => x119.1.1.2.2) (fun x113 => x94.1.2.2) (fun x113 x120 => [some (eZ a0), some ((eL eI) x120), none, none, some (eI x74), some ((eT eI) x94.1.2.1), none, some ((eL eS) x104.2.1), none]) (fun _ _ => by repeat (first | exact wk_nil | apply wk_a | apply wk_s)) (fun _ => by repeat (first | exact wk_nil | apply wk_a | apply wk_s))) (fun x122 => (b_ret (x_c (eB false)) (fun x123 => (Lf.ret false)) (.inl rfl) (fun x123 => ql_ret rfl (by repeat (first | exact wk_nil | apply wk_a | apply wk_s))))) (fun x122 => (b_skip (b_last (b_if (xt_orP (xt_not (xt_tstA (x_callP (xa_v (X.as (x_call (xa_s 1 rfl (xa_s 7 rfl xa_nil (fun _ => rfl) (fun _ => puL)) (fun _ => rfl) (fun _ => puL)) rfl (fun _ _ h => tok__law_bad  _ _ _ h) (fun _ _ => rfl) (fun _ (zz : Str × (List Int)) => [(1, (eL eI) zz.2), (7, (eL eS) x104.2.1)]) (fun _ _ => rfl)) (fun x125 => eV (toPD puS x125.2.1)) rfl) (fun x126 => xa_nil)) rfl (fun _ _ h => tok__law_refused n _ _ h)) (fun _ => tr_B _))) (fun x128 => (xt_not (xt_tstA (x_callP (xa_v (x_callP (xa_v (X.as (x_ms (f := sJoin) (rv := fun _ _ => eS) (x_c (eS ",")) (fun x129 => (x_var (d := (eL eS) x104.2.1) 7 rfl)) (fun _ _ _ h => op_joinL h)) (fun x131 => eV (toPD puS x131.2.2)) rfl) (fun x132 => xa_nil)) rfl (fun _ _ h => tok_read_counts  _ _ h)) (fun x134 => (xa_p (x_var (d := (eT eI) x94.1.2.1) 5 rfl) (fun _ => (puT puI) _) (fun x135 => xa_nil)))) rfl (fun _ _ h => tok__law_alike h)) (fun _ => tr_B _))))) (fun x138 => (b_ret (x_c (eB false)) (fun x139 => (Lf.ret false)) (.inl rfl) (fun x139 => ql_ret rfl (by repeat (first | exact wk_nil | apply wk_a | apply wk_s))))) (fun x138 => (b_skip (b_endL (z := x138.1.1.1.2.2) (by repeat (first | exact wk_nil | apply wk_a | apply wk_s))))))))))))))) (fun x72 x141 => qf_ret rfl (by repeat (first | exact wk_nil | apply wk_a | apply wk_s))) (fun x72 x73 => (b_last (b_ret (x_c (eB true)) (fun x140 => true) (.inl rfl) (fun x140 => qf_ret rfl (by repeat (first | exact wk_nil | apply wk_a | apply wk_s))))))))))))) (by dsimp only [p_law])) rfl (by simp [okM]) (fun z => (coll_0P rfl coll_nilP))
/-! the drawer: numbers drawn one by one of three -/
def St3 (k : Int) (s : List Int) : Prop := ∃ a b c : Int, s = [a, b, c] ∧ 0 ≤ a ∧ 0 ≤ b ∧ b < 2305843009213693951 ∧ 0 ≤ c ∧ c ≤ k
theorem St3.mono {k k' : Int} {s : List Int} (h : St3 k s) (z : k ≤ k') : St3 k' s := by
  obtain ⟨a, b, c, e, q⟩ := h
  exact ⟨a, b, c, e, q.1, q.2.1, q.2.2.1, q.2.2.2.1, by omega⟩
theorem take_w {s : List Int} {k m : Int} (hk : k < 1000000000) (h : St3 k s) (hm : 0 < m) (hm2 : m < 1000000) : Sp (p__law_take s m) (fun r => 0 ≤ r.1 ∧ r.1 < m ∧ St3 (k + 1) r.2) := by
  obtain ⟨a, b, c, rfl, ha, hb, hb2, hc, hck⟩ := h
  unfold p__law_take
  simp only [at0, at1, at2, set0, set2, Option.bind_some]
  refine w_ite (fun c0 => ?_) fun c0 => ?_
  · rw [modT_of hm, Option.bind_some, divT_of hm (by omega)]
    exact w_some ⟨Int.emod_nonneg _ (by omega), Int.emod_lt_of_pos _ hm, _, _, _, rfl, Int.ediv_nonneg ha (by omega), hb, hb2, hc, by omega⟩
  · rw [mulT_r (by omega) (by omega), Option.bind_some, mulT_l (by omega) (by omega), Option.bind_some, modT_of hm]
    exact w_some ⟨Int.emod_nonneg _ (by omega), Int.emod_lt_of_pos _ hm, _, _, _, rfl, ha, hb, hb2, by omega, by omega⟩
theorem far_w {far : Int} {i : Nat} (h : far.natAbs < 2 ^ (200 * i + 1)) (hi : i ≤ 63) (x : Int) (h0 : 0 ≤ x) (hx : x < 1000000000000000000000000000000000000000000000000000000000000) :
    mulT x far = some (x * far) ∧ mulT far 1000000000000000000000000000000000000000000000000000000000000 = some (far * 1000000000000000000000000000000000000000000000000000000000000) ∧ (far * 1000000000000000000000000000000000000000000000000000000000000).natAbs < 2 ^ (200 * (i + 1) + 1) := by
  have h1 : far.natAbs.log2 < 200 * 63 + 2 := log2_lt (Nat.lt_of_lt_of_le h (Nat.pow_le_pow_right (by decide) (by omega))) (by decide)
  have h2 : x.natAbs.log2 < 201 := log2_lt (Nat.lt_of_lt_of_le (m := 1000000000000000000000000000000000000000000000000000000000000) (by omega) (by decide)) (by decide)
  have h3 : (1000000000000000000000000000000000000000000000000000000000000 : Int).natAbs.log2 < 201 := log2_lt (by decide) (by decide)
  refine ⟨?_, ?_, ?_⟩
  · unfold mulT mulOk
    have : x.natAbs.log2 + far.natAbs.log2 < 1000000 := by omega
    rw [decide_eq_true this, Bool.or_true, if_pos rfl]
  · unfold mulT mulOk
    have : far.natAbs.log2 + (1000000000000000000000000000000000000000000000000000000000000 : Int).natAbs.log2 < 1000000 := by omega
    rw [decide_eq_true this, Bool.or_true, if_pos rfl]
  · rw [Int.natAbs_mul, show 200 * (i + 1) + 1 = (200 * i + 1) + 200 by omega, Nat.pow_add]
    exact Nat.mul_lt_mul'' h (by decide)
theorem hand_w (ns : List Int) (hl : ns.length ≤ 63) : Sp (p__law_hand ns) (St3 0) := by
  unfold p__law_hand
  have hc : cutL ns none (some 63) = ns := cutL_all ns (k := 63) hl
  refine w_let fun st hst => ?_
  subst hst
  rw [hc]
  refine w_bind (P := fun _ => True) ?_ fun t20 _ => ?_
  · refine w_ite (fun c => ?_) fun c => w_some trivial
    have c := of_decide_eq_true c
    rw [atI_get' (by decide) (by omega)]
    exact w_some trivial
  refine w_bind (P := fun s : List Int => ∃ x, s = [x, 0, 0] ∧ 0 ≤ x) ?_ fun s hs => ?_
  · refine w_ite (fun c => ?_) fun c => w_some ⟨0, rfl, by decide⟩
    refine w_bind (w_lpN (fun i s => ∃ x, s.1 = [x, 0, 0] ∧ 0 ≤ x ∧ 0 ≤ s.2 ∧ s.2.natAbs < 2 ^ (200 * i + 1)) ⟨0, rfl, by decide, by decide, by decide⟩ fun i s y hy hi => ?_) fun s hs => ?_
    · obtain ⟨s1, far⟩ := s
      obtain ⟨x, hx, h0, h1, h2⟩ := hi
      have hx : s1 = [x, 0, 0] := hx
      subst hx
      have hi63 : i ≤ 63 := by
        have := (List.getElem?_eq_some_iff.mp hy).1
        omega
      obtain ⟨m1, m2, m3⟩ := far_w h2 hi63 (absT y % 1000000000000000000000000000000000000000000000000000000000000) (Int.emod_nonneg _ (by decide)) (Int.emod_lt_of_pos _ (by decide))
      simp only [at0, set0, Option.bind_some]
      rw [m1, Option.bind_some, m2]
      exact w_some ⟨_, rfl, Int.add_nonneg h0 (Int.mul_nonneg (Int.emod_nonneg _ (by decide)) h1), Int.mul_nonneg h1 (by decide), m3⟩
    · obtain ⟨x, hx, h0, _⟩ := hs
      exact w_some ⟨x, hx, h0⟩
  obtain ⟨x, rfl, hx⟩ := hs
  refine w_bind (w_lpN (fun _ s => ∃ y, s = [x, y, 0] ∧ 0 ≤ y ∧ y < 2305843009213693951) ⟨0, rfl, by decide, by decide⟩ fun i s y hy hi => ?_) fun s hs => ?_
  · obtain ⟨z, rfl, _, _⟩ := hi
    simp only [at1, set1, Option.bind_some]
    exact w_some ⟨_, rfl, Int.emod_nonneg _ (by decide), Int.emod_lt_of_pos _ (by decide)⟩
  · obtain ⟨y, rfl, y0, y1⟩ := hs
    exact w_some ⟨x, y, 0, rfl, hx, y0, y1, by decide, by decide⟩
/-! texts of numbers -/
def numS (i : Int) : Str := Str.ofString (toString i)
theorem tl_nn (n : Nat) : TL.tl (numS (n : Int)) = TL.numL n := TL.tl_num n
theorem tl_neg (n : Nat) : TL.tl (numS (-((n + 1 : Nat) : Int))) = 45 :: TL.numL (n + 1) := by
  have e : (toString (-((n + 1 : Nat) : Int)) : String) = "-" ++ toString (((n + 1 : Nat) : Int)) := rfl
  have z := TL.tl_num (n + 1)
  unfold numS
  rw [e, TL.tl_ofString, String.toList_append, List.map_append]
  rw [TL.tl_ofString] at z
  rw [z]; rfl
theorem dig_is {c : Nat} {n : Nat} (h : c ∈ TL.numL n) : 48 ≤ c ∧ c ≤ 57 := by
  by_cases a : c < 48
  · exact absurd h (TL.numL_free (.inl a))
  · by_cases b : 57 < c
    · exact absurd h (TL.numL_free (.inr b))
    · omega
theorem dig_in {c : Nat} (h : 48 ≤ c ∧ c ≤ 57) : inSS ⟨#[c]⟩ ("0123456789" : Str) = true := by
  have e : ∀ d : Fin 10, inSS ⟨#[48 + d.1]⟩ ("0123456789" : Str) = true := by decide +kernel
  have z := e ⟨c - 48, by omega⟩
  rw [show 48 + (⟨c - 48, by omega⟩ : Fin 10).1 = c by show 48 + (c - 48) = c; omega] at z
  exact z
theorem one_ok {c : Nat} (h : 48 ≤ c ∧ c ≤ 57) : eqSO ⟨#[c]⟩ ("0" : Str) = some (decide (c = 48)) := by
  have e : ∀ d : Fin 10, eqSO ⟨#[48 + d.1]⟩ ("0" : Str) = some (decide (48 + d.1 = 48)) := by decide +kernel
  have z := e ⟨c - 48, by omega⟩
  rw [show 48 + (⟨c - 48, by omega⟩ : Fin 10).1 = c by show 48 + (c - 48) = c; omega] at z
  exact z
theorem num_head : ∀ (n : Nat), 0 < n → ∃ c r, TL.numL n = c :: r ∧ 48 < c ∧ c ≤ 57 := fun n => by
  induction n using Nat.strongRecOn with
  | _ n ih =>
    intro h
    by_cases c : n < 10
    · exact ⟨48 + n, [], TL.numL_lt c, by omega, by omega⟩
    · obtain ⟨x, r, e, h1, h2⟩ := ih (n / 10) (by omega) (by omega)
      exact ⟨x, r ++ [48 + n % 10], by rw [TL.numL_step (by omega), e]; rfl, h1, h2⟩
theorem len_tl (x : Str) : x.length = (TL.tl x).length := TL.len_tl x
/-- a text of figures -/
structure Digs (x : Str) (n : Nat) : Prop where
  t : TL.tl x = TL.numL n
  few : n < 10 ^ 30
theorem Digs.len {x : Str} {n : Nat} (d : Digs x n) : 1 ≤ x.length ∧ x.length ≤ 30 := by
  rw [len_tl, d.t]
  have := TL.numL_ne n
  have := TL.numL_len (k := 30) (by decide) d.few
  refine ⟨?_, this⟩
  cases h : TL.numL n with
  | nil => exact absurd h (TL.numL_ne n)
  | cons a l => simp
theorem Digs.eq {x : Str} {n : Nat} (d : Digs x n) : x = numS (n : Int) := TL.ext_tl (by rw [d.t, tl_nn])
theorem strI_some {i : Int} (h : i.natAbs < 10 ^ 32) : strI i = some (numS i) := by
  unfold strI
  rw [if_pos ?_]; rfl
  by_cases c : i.natAbs = 0
  · rw [c]; decide
  · exact (Nat.log2_lt c).mpr (Nat.lt_of_lt_of_le h (by decide +kernel))
theorem starts_1 (x : Str) : startsT x ("-" : Str) = (match TL.tl x with | d :: _ => decide (d = 45) | [] => false) := by
  obtain ⟨⟨l⟩⟩ := x
  cases l with
  | nil => rfl
  | cons d r =>
    have e : (⟨d :: r⟩ : Array Nat).extract 0 1 = #[d] := by simp [List.extract]
    show (decide (0 + 1 ≤ (d :: r).length) && ((⟨d :: r⟩ : Array Nat).extract 0 (0 + 1) == #[45])) = decide (d = 45)
    rw [e, decide_eq_true (by simp), Bool.true_and]
    by_cases c : d = 45
    · subst c; rfl
    · rw [decide_eq_false c, beq_eq_false_iff_ne]
      intro z
      exact c (by simpa using z)
theorem sgn_mem {x y : Str} (h : y ∈ sgnS x) : ∃ c ∈ TL.tl x, y = ⟨#[c]⟩ := by
  obtain ⟨c, hc, rfl⟩ := List.mem_map.mp h
  exact ⟨c, hc, rfl⟩
theorem Digs.int {x : Str} {n : Nat} (d : Digs x n) : intX x = some (n : Int) := by
  have h := d.len
  unfold intX
  rw [if_pos (by omega), d.eq]
  exact TL.int_num (by have := TL.numL_len (k := 30) (by decide) d.few; omega)
theorem Digs.size {x : Str} {n : Nat} (d : Digs x n) : p_size_in x = some (some (n : Int)) := by
  have h := d.len
  unfold p_size_in lenS
  rw [if_pos (by omega), Option.bind_some, decide_eq_true (show (1 : Int) ≤ (x.length : Int) by omega), decide_eq_true (show (x.length : Int) ≤ 30 by omega)]
  have hl : (sgnS x).length = x.length := by unfold sgnS; rw [List.length_map, len_tl]
  have e1 : List.all (List.map (fun sign => (inSS sign ("0123456789" : Str))) (sgnS x)) id = true := by
    rw [List.all_eq_true]
    intro b hb
    obtain ⟨y, hy, rfl⟩ := List.mem_map.mp hb
    obtain ⟨c, hc, rfl⟩ := sgn_mem hy
    rw [d.t] at hc
    exact dig_in (dig_is hc)
  simp only [Bool.and_self, Bool.not_true, Bool.false_eq_true, if_false]
  unfold sgnO
  rw [if_pos (by omega), Option.bind_some, lim_of (by omega), e1]
  simp only [Bool.not_true, Option.bind_some, Bool.false_eq_true, if_false]
  obtain ⟨c, r, er⟩ : ∃ c r, TL.tl x = c :: r := by
    cases h : TL.tl x with
    | nil => rw [d.t] at h; exact absurd h (TL.numL_ne n)
    | cons c r => exact ⟨c, r, rfl⟩
  have ix : ixS x 0 = some ⟨#[c]⟩ := by
    unfold ixS
    have : x.cps.toList = c :: r := er
    rw [if_pos (by omega), this, atI_D c (Int.le_refl _) (by simp)]; rfl
  have hc : 48 ≤ c ∧ c ≤ 57 := dig_is (n := n) (by rw [← d.t, er]; exact List.mem_cons_self ..)
  rw [ix, Option.bind_some, one_ok hc, Option.bind_some]
  have fin : (intX x).bind (fun t36 => some (some t36)) = some (some (n : Int)) := by rw [d.int]; rfl
  by_cases z : n = 0
  · subst z
    have ex : x = ("0" : Str) := by rw [d.eq]; rfl
    have e0 : neSO x ("0" : Str) = some false := by rw [ex]; decide +kernel
    by_cases c48 : c = 48
    · rw [decide_eq_true c48, if_pos rfl, e0, Option.bind_some, Option.bind_some, if_neg (by simp)]
      exact fin
    · rw [decide_eq_false c48, if_neg (by simp), Option.bind_some, if_neg (by simp)]
      exact fin
  · obtain ⟨c', r', e', h1, h2⟩ := num_head n (by omega)
    have : c = c' := by
      have t := d.t
      rw [er, e'] at t
      exact (List.cons.inj t).1
    rw [decide_eq_false (show ¬ c = 48 by omega), if_neg (by simp), Option.bind_some, if_neg (by simp)]
    exact fin
theorem number_num {i : Int} (h : i.natAbs < 10 ^ 30) : p_number_in (numS i) = some (some i) := by
  unfold p_number_in
  rw [starts_1]
  by_cases c : 0 ≤ i
  · obtain ⟨n, rfl⟩ := Int.eq_ofNat_of_zero_le c
    have d : Digs (numS (n : Int)) n := ⟨tl_nn n, by omega⟩
    rw [tl_nn]
    have e : (match TL.numL n with | d :: _ => decide (d = 45) | [] => false) = false := by
      cases h : TL.numL n with
      | nil => rfl
      | cons a l =>
        have := dig_is (c := a) (n := n) (by rw [h]; exact List.mem_cons_self ..)
        show decide (a = 45) = false
        exact decide_eq_false (by omega)
    rw [e, Bool.not_false, if_pos rfl, d.size]; rfl
  · obtain ⟨n, rfl⟩ : ∃ n : Nat, i = -((n + 1 : Nat) : Int) := ⟨(-i - 1).toNat, by omega⟩
    rw [tl_neg]
    show (if (!decide ((45 : Nat) = 45)) = true then _ else _) = _
    rw [decide_eq_true rfl, Bool.not_true, if_neg (by simp)]
    have tl : TL.tl (numS (-((n + 1 : Nat) : Int))) = 45 :: TL.numL (n + 1) := tl_neg n
    have hl : (numS (-((n + 1 : Nat) : Int))).length = (TL.numL (n + 1)).length + 1 := by rw [len_tl, tl]; rfl
    have h30 := TL.numL_len (n := n + 1) (k := 30) (by decide) (by omega)
    have es : slS (numS (-((n + 1 : Nat) : Int))) (some 1) none = some (cutS (numS (-((n + 1 : Nat) : Int))) (some 1) none) := by unfold slS; rw [if_pos (by omega)]
    have et : TL.tl (cutS (numS (-((n + 1 : Nat) : Int))) (some 1) none) = TL.numL (n + 1) := by
      unfold cutS
      show ((TL.tl (numS (-((n + 1 : Nat) : Int)))).drop (HT.sIx _ 0 (some ((1 : Nat) : Int)))).take _ = _
      have s1 : HT.sIx (numS (-((n + 1 : Nat) : Int))).length 0 (some ((1 : Nat) : Int)) = 1 := by rw [HT.sIx_nat, hl]; omega
      have s2 : HT.sIx (numS (-((n + 1 : Nat) : Int))).length (numS (-((n + 1 : Nat) : Int))).length none = (numS (-((n + 1 : Nat) : Int))).length := rfl
      have s3 : HT.sIx (numS (-((n + 1 : Nat) : Int))).length 0 (some (1 : Int)) = 1 := s1
      rw [s2, s3, s1, tl, List.drop_one, List.tail_cons, hl, Nat.add_sub_cancel, List.take_of_length_le (Nat.le_refl _)]
    have d : Digs (cutS (numS (-((n + 1 : Nat) : Int))) (some 1) none) (n + 1) := ⟨et, by omega⟩
    rw [es, Option.bind_some, d.size, Option.bind_some]
    have : decide ((some ((n + 1 : Nat) : Int)) = some (0 : Int)) = false := decide_eq_false (by intro z; injection z with z; omega)
    rw [this]
    rfl
/-- no sign of a number is another one -/
theorem num_free {s : Nat} (h : (s < 48 ∨ 57 < s) ∧ s ≠ 45) (i : Int) : s ∉ TL.tl (numS i) := by
  by_cases c : 0 ≤ i
  · obtain ⟨n, rfl⟩ := Int.eq_ofNat_of_zero_le c
    rw [tl_nn]; exact TL.numL_free h.1
  · obtain ⟨n, rfl⟩ : ∃ n : Nat, i = -((n + 1 : Nat) : Int) := ⟨(-i - 1).toNat, by omega⟩
    rw [tl_neg]
    intro z
    rcases List.mem_cons.mp z with z | z
    · exact h.2 z
    · exact TL.numL_free h.1 z
theorem numS_len {i : Int} (h : i.natAbs < 10 ^ 30) : (numS i).length ≤ 31 := by
  rw [len_tl]
  by_cases c : 0 ≤ i
  · obtain ⟨n, rfl⟩ := Int.eq_ofNat_of_zero_le c
    rw [tl_nn]
    have := TL.numL_len (n := n) (k := 30) (by decide) (by omega)
    omega
  · obtain ⟨n, rfl⟩ : ∃ n : Nat, i = -((n + 1 : Nat) : Int) := ⟨(-i - 1).toNat, by omega⟩
    rw [tl_neg, List.length_cons]
    have := TL.numL_len (n := n + 1) (k := 30) (by decide) (by omega)
    omega
theorem sum_le {α : Type} {f : α → Nat} {m : Nat} : ∀ xs : List α, (∀ x ∈ xs, f x ≤ m) → (xs.map f).sum ≤ xs.length * m
  | [], _ => by simp
  | x :: xs, h => by
    have a := sum_le xs fun y hy => h y (List.mem_cons_of_mem _ hy)
    have b := h x (List.mem_cons_self ..)
    rw [List.map_cons, List.sum_cons, List.length_cons, Nat.add_mul]; omega
theorem joinT_some {a : Str} {ys : List Str} {m : Nat} (h : ∀ y ∈ ys, y.length ≤ m) (ha : a.length ≤ 1) (hm : ys.length * (m + 1) ≤ 1000000) : joinT a ys = some (PySem.Txt.join a ys) := by
  unfold joinT
  have s := sum_le (f := fun y : Str => y.length) ys h
  have : ys.length * a.length ≤ ys.length := Nat.le_trans (Nat.mul_le_mul_left _ ha) (by omega)
  rw [Nat.mul_add] at hm
  exact if_pos (by omega)
theorem shp_sok {x : Str} (h : PyData.strOk x = true) : shp (.str x) = true := by
  unfold Sim.shp SeqAt.shaped
  have : PyData.canLay0 (.str x) = true := h
  rw [this, show noD (.str x) = true from rfl, show PyData.depth (.str x) = 0 from rfl]; rfl
theorem sok_txt {a : Str} (ha : PyData.strOk a = true) {ys : List Str} (h : ∀ y ∈ ys, PyData.strOk y = true) : PyData.strOk (PySem.Txt.join a ys) = true := by
  rw [TL.join_eq]; exact sok_join a ha ys h
theorem sok_num (i : Int) : PyData.strOk (numS i) = true := sok_of _
/-! joined, split, read again -/
theorem joinL_len (S : List Nat) : ∀ ps : List (List Nat), (TL.joinL S ps).length ≤ (ps.map List.length).sum + ps.length * S.length
  | [] => by simp [TL.joinL]
  | [p] => by simp [TL.joinL]
  | p :: q :: r => by
    have ih := joinL_len S (q :: r)
    have e : TL.joinL S (p :: q :: r) = p ++ (S ++ TL.joinL S (q :: r)) := rfl
    rw [e, List.length_append, List.length_append, List.map_cons, List.sum_cons, List.length_cons, Nat.add_mul]
    omega
theorem txt_len {a : Str} {ys : List Str} {m : Nat} (h : ∀ y ∈ ys, y.length ≤ m) (ha : a.length ≤ 1) : (PySem.Txt.join a ys).length ≤ ys.length * (m + 1) := by
  rw [TL.join_eq, len_tl, TL.tl_join]
  have z := joinL_len (TL.tl a) (ys.map TL.tl)
  have s := sum_le (f := fun y : Str => (TL.tl y).length) ys (fun y hy => by rw [← len_tl]; exact h y hy)
  rw [List.map_map, List.length_map] at z
  have e : (ys.map (List.length ∘ TL.tl)) = ys.map fun y : Str => (TL.tl y).length := rfl
  rw [e] at z
  have : ys.length * (TL.tl a).length ≤ ys.length := by
    rw [← len_tl]
    exact Nat.le_trans (Nat.mul_le_mul_left _ ha) (by omega)
  rw [Nat.mul_add]; omega
theorem split_txt {y : Str} {s : Nat} (ey : TL.tl y = [s]) (hk : y.cps.all (· < 256) = true) {parts : List Str} (hne : parts ≠ []) (hp : ∀ p ∈ parts, s ∉ TL.tl p) {m : Nat} (hm : ∀ p ∈ parts, p.length ≤ m) (hl : parts.length * (m + 1) ≤ 900000) :
    splitT (PySem.Txt.join y parts) y = some parts := by
  unfold splitT
  have l1 : y.length = 1 := by rw [len_tl, ey]; rfl
  have := txt_len (a := y) hm (by omega)
  rw [if_pos ⟨by omega, by omega⟩, TL.split_join ey hk hne hp]
theorem noneIn_some {α : Type} (xs : List α) : noneIn (xs.map some) = false := by
  unfold noneIn
  rw [List.any_map]
  induction xs with
  | nil => rfl
  | cons x xs ih => rw [List.any_cons, ih]; rfl
theorem noDs_mapX {τ : Type} {e : τ → D} (h : ∀ x, noD (e x) = true) : ∀ xs : List τ, noDs (xs.map e) = true
  | [] => by simp [noDs]
  | x :: xs => by rw [List.map_cons, noDs, h x, noDs_mapX h xs]; rfl
theorem noD_int (i : Int) : noD (eI i) = true := by show noD (.int i) = true; simp [noD]
theorem sameX_str {n : Nat} {x : Str} (h : PyData.strOk x = true) : sameX (n + 1) (eS x) (eS x) = some true := sameX_some rfl rfl (shp_sok h)
theorem sameX_ints {n : Nat} {x : D} {xs : List Int} (e : x = eT eI xs) (h : xs.length ≤ 1000000) : sameX (n + 2) x (eT eI xs) = some true := by
  subst e
  refine sameX_some rfl ?_ ?_
  · show noD (.tuple (xs.map eI)) = true
    simp only [noD, noDs_mapX noD_int]
  · show (purs (xs.map eI) && decide ((xs.map eI).length ≤ 1000000) && (xs.map eI).all (sdatX (n + 1))) = true
    rw [purs_pu puI, List.length_map, decide_eq_true h, List.all_map]
    simp [Function.comp_def, sdatX, eI]
theorem somes_eq (xs : List Int) : eT (eO eI) (xs.map some) = eT eI xs := by
  show PyData.tuple ((xs.map some).map (eO eI)) = .tuple (xs.map eI)
  rw [List.map_map]; rfl
theorem numbers_nums {cs : List Int} (h : ∀ c ∈ cs, c.natAbs < 10 ^ 30) (hl : cs.length ≤ 100000) : p_numbers_in (cs.map numS) = some (cs.map some) := by
  unfold p_numbers_in
  rw [List.length_map, lim_of (by omega), mapO_eq (g := fun x => (p_number_in x).getD none) fun x hx => ?_, List.map_map, Option.bind_some]
  · congr 1
    exact List.map_congr_left fun c hc => by show (p_number_in (numS c)).getD none = some c; rw [number_num (h c hc)]; rfl
  · obtain ⟨c, hc, rfl⟩ := List.mem_map.mp hx
    rw [number_num (h c hc)]; rfl
theorem w_lcA {σ β δ : Type} {F : σ → β → Option (Option δ × σ)} {I : Nat → σ → Prop} {P : δ → Prop} : ∀ (ys : List β) (k : Nat) (s0 : σ), I k s0 → (∀ i s y, ys[i]? = some y → I (k + i) s → Sp (F s y) (fun r => ∃ d, r.1 = some d ∧ P d ∧ I (k + i + 1) r.2)) →
    Sp (lcS F ys s0) (fun r => r.1.length = ys.length ∧ (∀ d ∈ r.1, P d) ∧ I (k + ys.length) r.2)
  | [], k, s0, h0, _ => w_some ⟨rfl, by simp, h0⟩
  | y :: ys, k, s0, h0, hs => by
    rw [lcS]
    refine w_bind (hs 0 s0 y rfl h0) fun w ⟨d, e1, e2, e3⟩ => ?_
    refine w_bind (w_lcA (I := I) (P := P) ys (k + 1) w.2 e3 fun i s z hz hi => by
      have := hs (i + 1) s z (by simpa using hz) (by rw [show k + (i + 1) = k + 1 + i by omega]; exact hi)
      rw [show k + (i + 1) + 1 = k + 1 + i + 1 by omega] at this
      exact this) fun r ⟨r1, r2, r3⟩ => ?_
    rw [e1]
    refine w_some ⟨by simp [r1], fun x hx => ?_, by rw [List.length_cons, show k + (ys.length + 1) = k + 1 + ys.length by omega]; exact r3⟩
    rcases List.mem_cons.mp hx with rfl | hx
    · exact e2
    · exact r2 x hx
/-! words that are no numbers -/
def oddL : List Str := ["", " ", "01", "+1", "-0", "--1", "x", "1111111111111111111111111111111", "-2222222222222222222222222222222", "1.5", "1 ", " 1", "1\n", "00", "-", "1-", "1_0"]
theorem odd_no : (oddL.all fun w => decide (p_number_in w = some none)) = true := by decide +kernel
theorem odd_free : (oddL.all fun w => !(TL.tl w).contains 44 && decide (w.length ≤ 32) && PyData.strOk w) = true := by decide +kernel
theorem first_ok : ([(toPD puS ("" : Str)), (toPD puU ()), (toPD puI (5 : Int)), (toPD puB true), (toPD (puT puI) ([] : (List Int))), (toPD (puP puI puI) ((1 : Int), (2 : Int))), (frzV puI [(1 : Int)]), frdV, (toPD puS ("counts" : Str)), (toPD puS ("1 2" : Str)), (toPD puS ("-" : Str)), (toPD puS ("," : Str))].all fun t => decide (p__law_refused 8 t = some true)) = true := by decide +kernel
/-- a text of such words, one of them no number, is refused -/
theorem read_bad {ws : List Str} (hne : ws ≠ []) (hf : ∀ w ∈ ws, 44 ∉ TL.tl w) (hl : ∀ w ∈ ws, w.length ≤ 40) (hm : ws.length ≤ 100) (hn : ∀ w ∈ ws, ∃ o, p_number_in w = some o) (hb : ∃ w ∈ ws, p_number_in w = some none) : p__law_refused 8 (toPD puS (PySem.Txt.join ("," : Str) ws)) = some true := by
  have es : splitT (PySem.Txt.join ("," : Str) ws) ("," : Str) = some ws := split_txt (s := 44) rfl (by decide +kernel) hne hf hl (by omega)
  have en : p_numbers_in ws = some (ws.map fun w => (p_number_in w).getD none) := by
    unfold p_numbers_in
    rw [lim_of (by omega), mapO_eq (g := fun w => (p_number_in w).getD none) fun w hw => ?_, Option.bind_some]
    obtain ⟨o, e⟩ := hn w hw
    rw [e]; rfl
  have ec : noneIn (ws.map fun w => (p_number_in w).getD none) = true := by
    unfold noneIn
    obtain ⟨w, hw, e⟩ := hb
    rw [List.any_eq_true]
    exact ⟨none, List.mem_map.mpr ⟨w, hw, by rw [e]; rfl⟩, rfl⟩
  have pz : pz_read_counts (toPD puS (PySem.Txt.join ("," : Str) ws)) = some (some ((("NoText" : Str), ("row" : Str), (0 : Int)) : ExnF)) := by
    unfold pz_read_counts
    show (if (!true) = true then _ else ((some (PySem.Txt.join ("," : Str) ws)).bind fun t5 => ((splitT t5 ("," : Str))).bind fun t8 => ((p_numbers_in t8)).bind fun counts => some counts).bind _) = _
    rw [Bool.not_true, if_neg (by simp), Option.bind_some, es, Option.bind_some, en, Option.bind_some, Option.bind_some, ec]
    rfl
  unfold p__law_refused
  rw [pz, Option.bind_some]
  rfl

theorem odd_is {w : Str} (h : w ∈ oddL) : p_number_in w = some none ∧ 44 ∉ TL.tl w ∧ w.length ≤ 40 := by
  have h1 := of_decide_eq_true (List.all_eq_true.mp odd_no w h)
  have h2 := List.all_eq_true.mp odd_free w h
  simp only [Bool.and_eq_true, Bool.not_eq_true', decide_eq_true_eq] at h2
  refine ⟨h1, fun z => ?_, by omega⟩
  have := h2.1.1
  rw [List.contains_eq_mem, decide_eq_false_iff_not] at this
  exact this z
/-- words, of which some are numbers and the others no numbers -/
def Wds (ws : List Str) : Prop := ∀ w ∈ ws, (∃ i : Int, i.natAbs < 10 ^ 30 ∧ w = numS i) ∨ w ∈ oddL ∨ ∃ i : Int, i.natAbs < 10 ^ 30 ∧ w = (" " : Str) ++ numS i
theorem blank_no (i : Int) (h : i.natAbs < 10 ^ 30) : p_number_in ((" " : Str) ++ numS i) = some none := by
  have tl : TL.tl ((" " : Str) ++ numS i) = 32 :: TL.tl (numS i) := TL.tl_append _ _
  have hl := numS_len h
  have hlen : ((" " : Str) ++ numS i).length = (numS i).length + 1 := by rw [len_tl, tl, List.length_cons, ← len_tl]
  have e0 : startsT ((" " : Str) ++ numS i) ("-" : Str) = false := by rw [starts_1, tl]; rfl
  unfold p_number_in
  rw [e0, Bool.not_false, if_pos rfl]
  unfold p_size_in lenS
  rw [if_pos (by omega), Option.bind_some]
  by_cases c : (numS i).length + 1 ≤ 30
  · rw [decide_eq_true (by rw [hlen]; omega : (1 : Int) ≤ ((((" " : Str) ++ numS i).length : Nat) : Int)), decide_eq_true (by rw [hlen]; omega : ((((" " : Str) ++ numS i).length : Nat) : Int) ≤ 30)]
    simp only [Bool.and_self, Bool.not_true, Bool.false_eq_true, if_false]
    unfold sgnO
    rw [if_pos (by omega), Option.bind_some]
    have e2 : List.all (List.map (fun sign => (inSS sign ("0123456789" : Str))) (sgnS ((" " : Str) ++ numS i))) id = false := by
      have es : sgnS ((" " : Str) ++ numS i) = ⟨#[32]⟩ :: (TL.tl (numS i)).map fun c => ⟨#[c]⟩ := by
        show (TL.tl ((" " : Str) ++ numS i)).map _ = _
        rw [tl]; rfl
      rw [es, List.map_cons, List.all_cons, show inSS ⟨#[32]⟩ ("0123456789" : Str) = false from by decide +kernel]
      rfl
    rw [lim_of (by unfold sgnS; rw [List.length_map, show ((" " : Str) ++ numS i).cps.toList = TL.tl ((" " : Str) ++ numS i) from rfl, tl, List.length_cons, ← len_tl]; omega), e2]
    rfl
  · rw [decide_eq_false (by rw [hlen]; omega : ¬ ((((" " : Str) ++ numS i).length : Nat) : Int) ≤ 30), Bool.and_false]
    rfl
theorem wds_bad {ws : List Str} (hw : Wds ws) (hm : ws.length ≤ 100) (hb : ∃ w ∈ ws, p_number_in w = some none) : p__law_refused 8 (toPD puS (PySem.Txt.join ("," : Str) ws)) = some true := by
  refine read_bad (fun z => ?_) (fun w h => ?_) (fun w h => ?_) hm (fun w h => ?_) hb
  · obtain ⟨w, h, _⟩ := hb
    rw [z] at h; cases h
  · rcases hw w h with ⟨i, hi, rfl⟩ | z | ⟨i, hi, rfl⟩
    · exact num_free (by omega) i
    · exact (odd_is z).2.1
    · rw [show TL.tl ((" " : Str) ++ numS i) = 32 :: TL.tl (numS i) from TL.tl_append _ _]
      intro z
      rcases List.mem_cons.mp z with z | z
      · cases z
      · exact num_free (s := 44) (by omega) i z
  · rcases hw w h with ⟨i, hi, rfl⟩ | z | ⟨i, hi, rfl⟩
    · have := numS_len hi; omega
    · exact (odd_is z).2.2
    · have := numS_len hi
      rw [len_tl, show TL.tl ((" " : Str) ++ numS i) = 32 :: TL.tl (numS i) from TL.tl_append _ _, List.length_cons, ← len_tl]
      omega
  · rcases hw w h with ⟨i, hi, rfl⟩ | z | ⟨i, hi, rfl⟩
    · exact ⟨_, number_num hi⟩
    · exact ⟨_, (odd_is z).1⟩
    · exact ⟨_, blank_no i hi⟩
/-! the bad texts -/
theorem joinL_two' (S : List Nat) {p : List Nat} {ps : List (List Nat)} (h : ps ≠ []) : TL.joinL S (p :: ps) = p ++ (S ++ TL.joinL S ps) := by
  cases ps with
  | nil => exact absurd rfl h
  | cons q r => rfl
theorem joinL_snoc (S : List Nat) (q : List Nat) : ∀ ps : List (List Nat), ps ≠ [] → TL.joinL S (ps ++ [q]) = TL.joinL S ps ++ (S ++ q)
  | [], h => absurd rfl h
  | [p], _ => rfl
  | p :: p2 :: r, _ => by
    have ih := joinL_snoc S q (p2 :: r) (by simp)
    show TL.joinL S (p :: (p2 :: r ++ [q])) = TL.joinL S (p :: p2 :: r) ++ (S ++ q)
    rw [joinL_two' S (p := p) (ps := p2 :: r ++ [q]) (by simp), ih, joinL_two' S (p := p) (ps := p2 :: r) (by simp)]
    simp only [List.append_assoc]
theorem joinL_dbl : ∀ (w : List Nat) (ws : List (List Nat)), TL.joinL [44, 44] (w :: ws) = TL.joinL [44] (w :: ws.flatMap fun x => [[], x])
  | w, [] => rfl
  | w, x :: ws => by
    have ih := joinL_dbl x ws
    rw [joinL_two' _ (by simp), ih, List.flatMap_cons, joinL_two' [44] (p := w) (by simp)]
    show w ++ ([44, 44] ++ _) = w ++ ([44] ++ TL.joinL [44] ([] :: x :: ws.flatMap fun x => [[], x]))
    rw [joinL_two' [44] (p := []) (by simp)]
    rfl
theorem joinL_blk : ∀ (w : List Nat) (ws : List (List Nat)), TL.joinL [44, 32] (w :: ws) = TL.joinL [44] (w :: ws.map fun x => 32 :: x)
  | w, [] => rfl
  | w, x :: ws => by
    have key : ∀ (x : List Nat) (ws : List (List Nat)), TL.joinL [44] ((32 :: x) :: ws) = 32 :: TL.joinL [44] (x :: ws) := fun x ws => by
      cases ws with
      | nil => rfl
      | cons y r => rfl
    have ih := joinL_blk x ws
    rw [joinL_two' _ (by simp), ih, List.map_cons, joinL_two' [44] (p := w) (by simp), key]
    rfl
theorem tlj (y : Str) (ps : List Str) : TL.tl (PySem.Txt.join y ps) = TL.joinL (TL.tl y) (ps.map TL.tl) := by rw [TL.join_eq, TL.tl_join]
theorem t_end {ws : List Str} (h : ws ≠ []) : PySem.Txt.join ("," : Str) ws ++ ("," : Str) = PySem.Txt.join ("," : Str) (ws ++ [("" : Str)]) := by
  refine TL.ext_tl ?_
  rw [TL.tl_append, tlj, tlj, List.map_append, show [("" : Str)].map TL.tl = [[]] from rfl, joinL_snoc _ _ _ (by simpa using h)]
  rfl
theorem t_front {ws : List Str} (h : ws ≠ []) : ("," : Str) ++ PySem.Txt.join ("," : Str) ws = PySem.Txt.join ("," : Str) (("" : Str) :: ws) := by
  refine TL.ext_tl ?_
  rw [TL.tl_append, tlj, tlj, List.map_cons, joinL_two' _ (by simpa using h)]
  rfl
theorem t_dbl (w : Str) (ws : List Str) : PySem.Txt.join (",," : Str) (w :: ws) = PySem.Txt.join ("," : Str) (w :: ws.flatMap fun x => [("" : Str), x]) := by
  refine TL.ext_tl ?_
  rw [tlj, tlj, List.map_cons, List.map_cons, show TL.tl (",," : Str) = [44, 44] from rfl, joinL_dbl, List.map_flatMap, List.flatMap_map]
  rfl
theorem t_blk (w : Str) (ws : List Str) : PySem.Txt.join (", " : Str) (w :: ws) = PySem.Txt.join ("," : Str) (w :: ws.map fun x => (" " : Str) ++ x) := by
  refine TL.ext_tl ?_
  rw [tlj, tlj, List.map_cons, List.map_cons, show TL.tl (", " : Str) = [44, 32] from rfl, joinL_blk, List.map_map, List.map_map]
  congr 2
  exact List.map_congr_left fun x _ => (TL.tl_append (" " : Str) x).symm
theorem joinT_2 {a : Str} {ys : List Str} {m : Nat} (h : ∀ y ∈ ys, y.length ≤ m) (ha : a.length ≤ 2) (hm : ys.length * (m + 2) ≤ 900000) : joinT a ys = some (PySem.Txt.join a ys) := by
  unfold joinT
  have s := sum_le (f := fun y : Str => y.length) ys h
  have : ys.length * a.length ≤ ys.length * 2 := Nat.mul_le_mul_left _ ha
  rw [Nat.mul_add] at hm
  exact if_pos (by omega)

theorem flat2 : ∀ xs : List Str, (xs.flatMap fun x => [("" : Str), x]).length = 2 * xs.length
  | [] => rfl
  | x :: xs => by rw [List.flatMap_cons, List.length_append, flat2 xs]; simp; omega

theorem joined_bad {cs : List Int} (h : ∀ c ∈ cs, c.natAbs < 10 ^ 30) (h1 : 1 ≤ cs.length) (h2 : cs.length ≤ 16) {s : List Int} {k : Int} (hk : k < 100000000) (hs : St3 k s) :
    Sp (p__law_bad s (cs.map numS)) (fun r => p__law_refused 8 (toPD puS r.1) = some true ∧ St3 (k + 3) r.2) := by
  obtain ⟨ws, hws⟩ : ∃ ws, ws = cs.map numS := ⟨_, rfl⟩
  have hl : ws.length = cs.length := by rw [hws, List.length_map]
  have wn : ∀ w ∈ ws, ∃ i : Int, i.natAbs < 10 ^ 30 ∧ w = numS i := fun w hw => by
    rw [hws] at hw
    obtain ⟨c, hc, rfl⟩ := List.mem_map.mp hw
    exact ⟨c, h c hc, rfl⟩
  have wl : ∀ w ∈ ws, w.length ≤ 31 := fun w hw => by
    obtain ⟨i, hi, rfl⟩ := wn w hw
    exact numS_len hi
  have hne : ws ≠ [] := fun z => by rw [z] at hl; simp at hl; omega
  rw [← hws]
  have jl := txt_len (a := ("," : Str)) wl (by decide +kernel)
  unfold p__law_bad
  refine w_bind (take_w (by omega) hs (by omega) (by omega)) fun a ⟨a0, a1, s1⟩ => ?_
  have ec : catS ("-" : Str) ("2222222222222222222222222222222" : Str) = some ("-2222222222222222222222222222222" : Str) := by decide +kernel
  rw [ec, Option.bind_some, Option.bind_some, catT_of (by simp), Option.bind_some]
  show Sp (((p__law_take a.2 ((oddL.length : Nat) : Int))).bind _) _
  refine w_bind (take_w (by omega) s1 (by decide) (by decide)) fun b ⟨b0, b1, s2⟩ => ?_
  refine w_bind (w_atI (xs := oddL) b0 b1) fun o ho => ?_
  obtain ⟨o1, o2, o3⟩ := odd_is ho
  obtain ⟨j, hj⟩ := Int.eq_ofNat_of_zero_le a0
  rw [hj] at a1 ⊢
  have c1 : cutL ws none (some (j : Int)) = ws.take j := by
    unfold cutL
    rw [show HT.sIx ws.length 0 (none : Option Int) = 0 from rfl, HT.sIx_nat, Nat.min_eq_left (by omega), List.drop_zero, Nat.sub_zero]
  have c2 : cutL ws (some ((j : Int) + 1)) none = ws.drop (j + 1) := by
    unfold cutL
    rw [show (j : Int) + 1 = ((j + 1 : Nat) : Int) from rfl, HT.sIx_nat, Nat.min_eq_left (by omega), show HT.sIx ws.length ws.length (none : Option Int) = ws.length from rfl, ← List.length_drop, List.take_length]
  have q1 : (ws.take j).length ≤ 16 := by rw [List.length_take]; omega
  have q2 : (ws.drop (j + 1)).length ≤ 16 := by rw [List.length_drop]; omega
  obtain ⟨bad, hbad⟩ : ∃ bad, bad = ws.take j ++ [o] ++ ws.drop (j + 1) := ⟨_, rfl⟩
  have bl : bad.length ≤ 40 := by rw [hbad, List.length_append, List.length_append]; show _ + 1 + _ ≤ 40; omega
  have bm : ∀ w ∈ bad, w ∈ ws ∨ w = o := fun w hw => by
    rw [hbad] at hw
    rcases List.mem_append.mp hw with hw | hw
    · rcases List.mem_append.mp hw with hw | hw
      · exact .inl (List.mem_of_mem_take hw)
      · exact .inr (List.mem_singleton.mp hw)
    · exact .inl (List.mem_of_mem_drop hw)
  have bo : o ∈ bad := by rw [hbad]; simp
  have w40 : ∀ w ∈ ws, w.length ≤ 40 := fun w hw => Nat.le_trans (wl w hw) (by decide)
  have bl40 : ∀ w ∈ bad, w.length ≤ 40 := fun w hw => by
    rcases bm w hw with z | z
    · exact w40 w z
    · rw [z]; exact o3
  have e0 : ("0" : Str) = numS 0 := rfl
  have e1 : ("1" : Str) = numS 1 := rfl
  have l40 : ∀ (x : Str), x.length ≤ 40 → ∀ w ∈ ws ++ [x], w.length ≤ 40 := fun x hx w hw => by
    rcases List.mem_append.mp hw with z | z
    · exact w40 w z
    · rw [List.mem_singleton.mp z]; exact hx
  obtain ⟨w0, wr, hw0⟩ : ∃ w0 wr, ws = w0 :: wr := by
    cases hh : ws with
    | nil => exact absurd hh hne
    | cons x y => exact ⟨x, y, rfl⟩
  have cl : ("," : Str).length = 1 := by decide +kernel
  have ca : catS (PySem.Txt.join ("," : Str) ws) ("," : Str) = some (PySem.Txt.join ("," : Str) ws ++ ("," : Str)) := if_pos (by omega)
  have cb : catS ("," : Str) (PySem.Txt.join ("," : Str) ws) = some (("," : Str) ++ PySem.Txt.join ("," : Str) ws) := if_pos (by omega)
  rw [c1, catT_of (by simp; omega), Option.bind_some, c2, catT_of (by simp only [List.length_append, List.length_cons, List.length_nil]; omega), Option.bind_some, ← hbad,
    joinT_some (m := 40) bl40 (by decide +kernel) (by omega), Option.bind_some, joinT_some (m := 40) w40 (by decide +kernel) (by omega), Option.bind_some,
    ca, Option.bind_some, Option.bind_some, cb, Option.bind_some,
    catT_of (by simp; omega), Option.bind_some, joinT_2 (m := 40) (l40 _ (by decide +kernel)) (by decide +kernel) (by simp; omega), Option.bind_some, Option.bind_some,
    catT_of (by simp; omega), Option.bind_some, joinT_2 (m := 40) (l40 _ (by decide +kernel)) (by decide +kernel) (by simp; omega), Option.bind_some, appT_of (by simp), Option.bind_some]
  refine w_bind (take_w (by omega) s2 (by decide) (by decide)) fun d ⟨d0, d1, s3⟩ => ?_
  refine w_bind (P := fun x => 0 ≤ x ∧ x < 5) ((w_atI d0 (by simpa using d1)).mono fun x hx => by
    simp only [List.mem_cons, List.not_mem_nil, or_false] at hx; omega) fun x ⟨x0, x1⟩ => ?_
  refine w_bind (w_atI x0 (by simpa using x1)) fun t ht => w_some ⟨?_, s3.mono (by omega)⟩
  have wsW : ∀ w ∈ ws, (∃ i : Int, i.natAbs < 10 ^ 30 ∧ w = numS i) ∨ w ∈ oddL ∨ ∃ i : Int, i.natAbs < 10 ^ 30 ∧ w = (" " : Str) ++ numS i := fun w hw => .inl (wn w hw)
  have em : ("" : Str) ∈ oddL := by simp [oddL]
  have eno := (odd_is em).1
  simp only [List.mem_append, List.mem_cons, List.not_mem_nil, or_false] at ht
  rcases ht with (rfl | rfl | rfl | rfl) | rfl
  · refine wds_bad (fun w hw => ?_) (by omega) ⟨o, bo, o1⟩
    rcases bm w hw with z | z
    · exact wsW w z
    · rw [z]; exact .inr (.inl ho)
  · show p__law_refused 8 (toPD puS (PySem.Txt.join ("," : Str) ws ++ ("," : Str))) = _
    rw [t_end hne]
    refine wds_bad (fun w hw => ?_) (by simp; omega) ⟨"", by simp, eno⟩
    rcases List.mem_append.mp hw with z | z
    · exact wsW w z
    · rw [List.mem_singleton.mp z]; exact .inr (.inl em)
  · show p__law_refused 8 (toPD puS (("," : Str) ++ PySem.Txt.join ("," : Str) ws)) = _
    rw [t_front hne]
    refine wds_bad (fun w hw => ?_) (by simp; omega) ⟨"", by simp, eno⟩
    rcases List.mem_cons.mp hw with z | z
    · rw [z]; exact .inr (.inl em)
    · exact wsW w z
  · show p__law_refused 8 (toPD puS (PySem.Txt.join (",," : Str) (ws ++ [("0" : Str)]))) = _
    have lr : wr.length ≤ 15 := by rw [hw0] at hl; simp at hl; omega
    rw [hw0, List.cons_append, t_dbl]
    refine wds_bad (fun w hw => ?_) (by rw [List.length_cons, flat2, List.length_append]; simp; omega) ⟨"", by simp, eno⟩
    rcases List.mem_cons.mp hw with z | z
    · rw [z]; exact wsW w0 (by rw [hw0]; simp)
    · obtain ⟨y, hy, hz⟩ := List.mem_flatMap.mp z
      simp only [List.mem_cons, List.not_mem_nil, or_false] at hz
      rcases hz with rfl | rfl
      · exact .inr (.inl em)
      · rcases List.mem_append.mp hy with q | q
        · exact wsW _ (by rw [hw0]; exact List.mem_cons_of_mem _ q)
        · rw [List.mem_singleton.mp q, e0]; exact .inl ⟨0, by decide, rfl⟩
  · show p__law_refused 8 (toPD puS (PySem.Txt.join (", " : Str) (ws ++ [("1" : Str)]))) = _
    have lr : wr.length ≤ 15 := by rw [hw0] at hl; simp at hl; omega
    have bn : ∀ y ∈ wr ++ [("1" : Str)], ∃ i : Int, i.natAbs < 10 ^ 30 ∧ y = numS i := fun y hy => by
      rcases List.mem_append.mp hy with q | q
      · exact wn y (by rw [hw0]; exact List.mem_cons_of_mem _ q)
      · rw [List.mem_singleton.mp q, e1]; exact ⟨1, by decide, rfl⟩
    rw [hw0, List.cons_append, t_blk]
    refine wds_bad (fun w hw => ?_) (by simp; omega) ⟨(" " : Str) ++ ("1" : Str), by simp, blank_no 1 (by decide)⟩
    rcases List.mem_cons.mp hw with z | z
    · rw [z]; exact wsW w0 (by rw [hw0]; simp)
    · obtain ⟨y, hy, rfl⟩ := List.mem_map.mp z
      obtain ⟨i, hi, rfl⟩ := bn y hy
      exact .inr (.inr ⟨i, hi, rfl⟩)
theorem number_w {s : List Int} {k : Int} (hk : k < 100000000) (h : St3 k s) : Sp (p__law_number s) (fun r => r.1.natAbs < 10 ^ 30 ∧ St3 (k + 3) r.2) := by
  unfold p__law_number
  refine w_bind (take_w (by omega) h (by decide) (by decide)) fun a ⟨a0, a1, s1⟩ => ?_
  refine w_ite (fun _ => ?_) fun _ => w_ite (fun _ => ?_) fun _ => w_ite (fun _ => ?_) fun _ => ?_
  · refine w_bind (take_w (by omega) s1 (by decide) (by decide)) fun b ⟨b0, b1, s2⟩ => w_some ⟨by show b.1.natAbs < _; omega, s2.mono (by omega)⟩
  · refine w_bind (take_w (by omega) s1 (by decide) (by decide)) fun b ⟨b0, b1, s2⟩ => ?_
    have e : ∃ z, shlT (1 : Int) b.1 = some z ∧ z.natAbs ≤ 4096 := by
      have key : ∀ i : Fin 12, ((shlT (1 : Int) ((i.1 : Nat) : Int)).map fun z => decide (z.natAbs ≤ 4096)) = some true := by decide +kernel
      have z := key ⟨b.1.toNat, by omega⟩
      rw [show (((⟨b.1.toNat, by omega⟩ : Fin 12).1 : Nat) : Int) = b.1 by show ((b.1.toNat : Nat) : Int) = b.1; omega] at z
      obtain ⟨y, e1, e2⟩ := Option.map_eq_some_iff.mp z
      exact ⟨y, e1, of_decide_eq_true e2⟩
    obtain ⟨z, ez, hz⟩ := e
    rw [ez, Option.bind_some]
    refine w_bind (take_w (by omega) s2 (by decide) (by decide)) fun c ⟨c0, c1, s3⟩ => w_some ⟨by show (z + c.1 - 1).natAbs < _; omega, s3.mono (by omega)⟩
  · refine w_bind (take_w (by omega) s1 (by decide) (by decide)) fun b ⟨b0, b1, s2⟩ => w_some ⟨by show (-b.1).natAbs < _; omega, s2.mono (by omega)⟩
  · refine w_bind (take_w (by omega) s1 (by decide) (by decide)) fun b ⟨b0, b1, s2⟩ => ?_
    refine w_bind (take_w (by omega) s2 (by decide) (by decide)) fun c ⟨c0, c1, s3⟩ => ?_
    refine w_bind (w_atI c0 (by show c.1 < 4; exact c1)) fun z hz => w_some ⟨?_, s3.mono (by omega)⟩
    simp only [List.mem_cons, List.not_mem_nil, or_false] at hz
    show z.natAbs < _
    omega
theorem read_pd {cs : List Int} (h : ∀ c ∈ cs, c.natAbs < 10 ^ 30) (hl : cs.length ≤ 1000) (hne : cs ≠ []) : p_read_counts (toPD puS (PySem.Txt.join ("," : Str) (cs.map numS))) = some (cs.map some) := by
  unfold p_read_counts
  have es : splitT (PySem.Txt.join ("," : Str) (cs.map numS)) ("," : Str) = some (cs.map numS) := split_txt (s := 44) rfl (by decide +kernel) (by simpa using hne) (fun w hw => by
    obtain ⟨c, hc, rfl⟩ := List.mem_map.mp hw
    exact num_free (by decide) c) (m := 31) (fun w hw => by
    obtain ⟨c, hc, rfl⟩ := List.mem_map.mp hw
    exact numS_len (h c hc)) (by rw [List.length_map]; omega)
  show (if (!true) = true then none else ((some (PySem.Txt.join ("," : Str) (cs.map numS))).bind fun t4 => ((splitT t4 ("," : Str))).bind fun t7 => ((p_numbers_in t7)).bind fun counts => if (noneIn counts) = true then none else some counts)) = _
  rw [Bool.not_true, if_neg (by simp), Option.bind_some, es, Option.bind_some, numbers_nums h (by omega), Option.bind_some, noneIn_some, if_neg (by simp)]
theorem three_ok : ([("999999999999999999999999999999" : Str), ("-999999999999999999999999999999" : Str), ("0" : Str)].all fun text => decide ((((p_read_counts (toPD puS text))).bind fun t61 => ((intX text)).bind fun t64 => ((sameX 8 ((eT (eO eI)) t61) ((eT eI) [t64])))) = some true)) = true := by decide +kernel
theorem neg_is : catS ("-" : Str) ("999999999999999999999999999999" : Str) = some ("-999999999999999999999999999999" : Str) := by decide +kernel
theorem p_law_true (ns : List Int) (hlen : ns.length ≤ 63) : p_law 8 ns = some true := by
  have main : Sp (p_law 8 ns) (fun b => b = true) := by
    unfold p_law
    refine w_bind (hand_w ns hlen) fun s0 h0 => ?_
    refine w_on (P := fun _ => True) (w_lpR (fun _ _ => True) trivial fun i s y hy _ => ?_) fun _ _ => ?_
    · have e := of_decide_eq_true (List.all_eq_true.mp first_ok y (List.mem_of_getElem? hy))
      rw [e, Option.bind_some, Bool.not_true, if_neg (by simp)]
      exact w_go trivial
    rw [neg_is, Option.bind_some]
    refine w_on (P := fun _ => True) (w_lpR (fun _ _ => True) trivial fun i s y hy _ => ?_) fun _ _ => ?_
    · have e := of_decide_eq_true (List.all_eq_true.mp three_ok y (List.mem_of_getElem? hy))
      obtain ⟨a, ea, e⟩ := Option.bind_eq_some_iff.mp e
      obtain ⟨b, eb, e⟩ := Option.bind_eq_some_iff.mp e
      rw [ea, Option.bind_some, eb, Option.bind_some, e, Option.bind_some, Bool.not_true, if_neg (by simp)]
      exact w_go trivial
    refine w_on (P := fun _ => True) ((w_lpR (fun i s => St3 (100 * (i : Int)) s) (h0.mono (by omega)) fun i s y hy hs => ?_).mono fun z hz => ?_) fun s hs => w_some rfl
    · have hi : i < 12 := by
        have := (List.getElem?_eq_some_iff.mp hy).1
        rw [rngI_len] at this; exact this
      refine w_bind (take_w (by omega) hs (by decide) (by decide)) fun a ⟨a0, a1, s1⟩ => ?_
      rw [rngO_of (by omega), Option.bind_some, lim_of (by rw [rngI_len]; omega)]
      refine w_bind (w_lcA (I := fun j s => St3 (100 * (i : Int) + 1 + 3 * (j : Int)) s) (P := fun d : Int => d.natAbs < 10 ^ 30) (rngI 0 ((1 : Int) + a.1).toNat) 0 a.2 (by simpa using s1) fun j s y hy hs => ?_) fun r ⟨r1, r2, r3⟩ => ?_
      · have hj : j < ((1 : Int) + a.1).toNat := by
          have := (List.getElem?_eq_some_iff.mp hy).1
          rw [rngI_len] at this; exact this
        refine w_bind (number_w (by omega) hs) fun u ⟨u1, u2⟩ => w_some ⟨u.1, rfl, u1, u2.mono (by omega)⟩
      rw [rngI_len] at r1 r3
      have hne : r.1 ≠ [] := fun z => by rw [z] at r1; simp at r1; omega
      have hl1 : 1 ≤ r.1.length := by omega
      have hl : r.1.length ≤ 16 := by omega
      have ej := joinT_some (a := ("," : Str)) (ys := r.1.map numS) (m := 31) (fun y hy => by
        obtain ⟨c, hc, rfl⟩ := List.mem_map.mp hy
        exact numS_len (r2 c hc)) (by decide +kernel) (by rw [List.length_map]; omega)
      rw [lim_of (by omega), mapO_eq (g := numS) (fun c hc => by rw [strI_some (Nat.lt_trans (r2 c hc) (by decide +kernel))]; rfl), Option.bind_some, ej, Option.bind_some, read_pd r2 (by omega) hne, Option.bind_some, sameX_ints (somes_eq _) (by omega), Option.bind_some, Bool.not_true, if_neg (by simp)]
      refine w_bind (P := fun q => q.1 = false ∧ St3 (100 * (i : Int) + 60) q.2) ?_ fun q ⟨q1, q2⟩ => ?_
      · refine w_bind (joined_bad r2 hl1 hl (k := 100 * (i : Int) + 57) (by omega) (r3.mono (by omega))) fun d ⟨d1, d2⟩ => ?_
        rw [d1, Option.bind_some]
        exact w_some ⟨rfl, d2.mono (by omega)⟩
      rw [q1, if_neg (by simp)]
      refine w_bind (joined_bad r2 hl1 hl (k := 100 * (i : Int) + 60) (by omega) q2) fun d ⟨d1, d2⟩ => ?_
      rw [d1, Option.bind_some, Bool.not_true, if_neg (by simp), Option.bind_some, read_pd r2 (by omega) hne, Option.bind_some, sameX_ints (somes_eq _) (by omega), Option.bind_some, Option.bind_some, Bool.not_true, if_neg (by simp)]
      exact w_go (d2.mono (by omega))
    · obtain ⟨x, rfl, _⟩ := hz
      exact ⟨x, rfl, trivial⟩
  obtain ⟨b, e, hb⟩ := main
  rw [e, hb]
theorem law_holds : ∀ ns : List Int, ns.length ≤ 63 → ∃ as, f_law 8 [.dict [(.none, .list (ns.map .int))]] = .ok (.bool true) as := fun ns h => ⟨_, tok_law 8 ns true (p_law_true ns h)⟩
structure Txt (K : PySem.W.Frag) (mg : Str → Option Value) where
  a_size_in : Addr
  d_size_in : FuncData
  F_size_in : Fun K "size_in" "size_in" s_size_in a_size_in d_size_in
  g_size_in : mg "size_in" = some (.ref a_size_in)
  b_size_in : Binds K d_size_in ["word"] []
  a_number_in : Addr
  d_number_in : FuncData
  F_number_in : Fun K "number_in" "number_in" s_number_in a_number_in d_number_in
  g_number_in : mg "number_in" = some (.ref a_number_in)
  b_number_in : Binds K d_number_in ["word"] []
  a_numbers_in : Addr
  d_numbers_in : FuncData
  F_numbers_in : Fun K "numbers_in" "numbers_in" s_numbers_in a_numbers_in d_numbers_in
  g_numbers_in : mg "numbers_in" = some (.ref a_numbers_in)
  b_numbers_in : Binds K d_numbers_in ["words"] []
  a_NoText__init : Addr
  d_NoText__init : FuncData
  F_NoText__init : Fun K "__init__" "NoText.__init__" s_NoText__init a_NoText__init d_NoText__init
  b_NoText__init : Binds K d_NoText__init ["self", "row"] []
  a_read_counts : Addr
  d_read_counts : FuncData
  F_read_counts : Fun K "read_counts" "read_counts" s_read_counts a_read_counts d_read_counts
  g_read_counts : mg "read_counts" = some (.ref a_read_counts)
  b_read_counts : Binds K d_read_counts ["text"] []
  a__law_hand : Addr
  d__law_hand : FuncData
  F__law_hand : Fun K "_law_hand" "_law_hand" s__law_hand a__law_hand d__law_hand
  g__law_hand : mg "_law_hand" = some (.ref a__law_hand)
  b__law_hand : Binds K d__law_hand ["_law_script"] []
  a__law_take : Addr
  d__law_take : FuncData
  F__law_take : Fun K "_law_take" "_law_take" s__law_take a__law_take d__law_take
  g__law_take : mg "_law_take" = some (.ref a__law_take)
  b__law_take : Binds K d__law_take ["_law_state", "_law_many"] []
  a__law_number : Addr
  d__law_number : FuncData
  F__law_number : Fun K "_law_number" "_law_number" s__law_number a__law_number d__law_number
  g__law_number : mg "_law_number" = some (.ref a__law_number)
  b__law_number : Binds K d__law_number ["_law_state"] []
  a__law_alike : Addr
  d__law_alike : FuncData
  F__law_alike : Fun K "_law_alike" "_law_alike" s__law_alike a__law_alike d__law_alike
  g__law_alike : mg "_law_alike" = some (.ref a__law_alike)
  b__law_alike : Binds K d__law_alike ["_law_found", "_law_due"] []
  a__law_refused : Addr
  d__law_refused : FuncData
  F__law_refused : Fun K "_law_refused" "_law_refused" s__law_refused a__law_refused d__law_refused
  g__law_refused : mg "_law_refused" = some (.ref a__law_refused)
  b__law_refused : Binds K d__law_refused ["_law_thing"] []
  a__law_bad : Addr
  d__law_bad : FuncData
  F__law_bad : Fun K "_law_bad" "_law_bad" s__law_bad a__law_bad d__law_bad
  g__law_bad : mg "_law_bad" = some (.ref a__law_bad)
  b__law_bad : Binds K d__law_bad ["_law_state", "_law_words"] []
  a_law : Addr
  d_law : FuncData
  F_law : Fun K "law" "law" s_law a_law d_law
  g_law : mg "law" = some (.ref a_law)
  b_law : Binds K d_law ["_law_script"] []
  xA_LaneError : Addr
  xC_LaneError : ClsN K "LaneError" xA_LaneError
  xg_LaneError : mg "LaneError" = some (.ref xA_LaneError)
  xk_LaneError : PySem.W.keepIn K (.ref xA_LaneError) = true
  xb_LaneError : PySem.W.subIn K (.ref xA_LaneError) (.type "BaseException") = some true
  xt_LaneError : PySem.W.typeIn K (.ref xA_LaneError) = some (.type "type")
  xi_LaneError : (PySem.W.clsIn K xA_LaneError).isSome = true
  xA_NoDeed : Addr
  xC_NoDeed : ClsN K "NoDeed" xA_NoDeed
  xg_NoDeed : mg "NoDeed" = some (.ref xA_NoDeed)
  xk_NoDeed : PySem.W.keepIn K (.ref xA_NoDeed) = true
  xb_NoDeed : PySem.W.subIn K (.ref xA_NoDeed) (.type "BaseException") = some true
  xt_NoDeed : PySem.W.typeIn K (.ref xA_NoDeed) = some (.type "type")
  xi_NoDeed : (PySem.W.clsIn K xA_NoDeed).isSome = true
  xA_NoGroup : Addr
  xC_NoGroup : ClsN K "NoGroup" xA_NoGroup
  xg_NoGroup : mg "NoGroup" = some (.ref xA_NoGroup)
  xk_NoGroup : PySem.W.keepIn K (.ref xA_NoGroup) = true
  xb_NoGroup : PySem.W.subIn K (.ref xA_NoGroup) (.type "BaseException") = some true
  xt_NoGroup : PySem.W.typeIn K (.ref xA_NoGroup) = some (.type "type")
  xi_NoGroup : (PySem.W.clsIn K xA_NoGroup).isSome = true
  xA_NoText : Addr
  xC_NoText : ClsN K "NoText" xA_NoText
  xg_NoText : mg "NoText" = some (.ref xA_NoText)
  xk_NoText : PySem.W.keepIn K (.ref xA_NoText) = true
  xb_NoText : PySem.W.subIn K (.ref xA_NoText) (.type "BaseException") = some true
  xt_NoText : PySem.W.typeIn K (.ref xA_NoText) = some (.type "type")
  xi_NoText : (PySem.W.clsIn K xA_NoText).isSome = true
  xA_NotEven : Addr
  xC_NotEven : ClsN K "NotEven" xA_NotEven
  xg_NotEven : mg "NotEven" = some (.ref xA_NotEven)
  xk_NotEven : PySem.W.keepIn K (.ref xA_NotEven) = true
  xb_NotEven : PySem.W.subIn K (.ref xA_NotEven) (.type "BaseException") = some true
  xt_NotEven : PySem.W.typeIn K (.ref xA_NotEven) = some (.type "type")
  xi_NotEven : (PySem.W.clsIn K xA_NotEven).isSome = true
  xA_NoLine : Addr
  xC_NoLine : ClsN K "NoLine" xA_NoLine
  xg_NoLine : mg "NoLine" = some (.ref xA_NoLine)
  xk_NoLine : PySem.W.keepIn K (.ref xA_NoLine) = true
  xb_NoLine : PySem.W.subIn K (.ref xA_NoLine) (.type "BaseException") = some true
  xt_NoLine : PySem.W.typeIn K (.ref xA_NoLine) = some (.type "type")
  xi_NoLine : (PySem.W.clsIn K xA_NoLine).isSome = true
  xv_LaneError : InitC K xA_LaneError
  xo_NoText : FldC K xA_NoText a_NoText__init "row"
  xt2_NoText : CaughtC K xA_NoText "row"
  xkT_NoDeed_NoGroup_NoLine_NotEven : PySem.W.kitAny K (.type "NoneType") ([xA_NoDeed, xA_NoGroup, xA_NoLine, xA_NotEven].map Value.ref) = some false
  xk1_NoText : PySem.W.kitOne K (.type "NoneType") (.ref xA_NoText) = some false
  xkt_NoText_NoDeed_NoGroup_NoLine_NotEven : PySem.W.kitAny K (.ref xA_NoText) ([xA_NoDeed, xA_NoGroup, xA_NoLine, xA_NotEven].map Value.ref) = some false
  xkb_ValueError : PySem.W.kitOne K (.type "NoneType") (.type "ValueError") = some false
  xkc_NoText_ValueError : PySem.W.kitOne K (.ref xA_NoText) (.type "ValueError") = some true
  xk2_NoText_NoText : PySem.W.kitOne K (.ref xA_NoText) (.ref xA_NoText) = some true
  xs_LaneError_LaneError : PySem.W.subIn K (.ref xA_LaneError) (.ref xA_LaneError) = some true
  xs_NoDeed_LaneError : PySem.W.subIn K (.ref xA_NoDeed) (.ref xA_LaneError) = some true
  xs_NoDeed_NoDeed : PySem.W.subIn K (.ref xA_NoDeed) (.ref xA_NoDeed) = some true
  xs_NoGroup_LaneError : PySem.W.subIn K (.ref xA_NoGroup) (.ref xA_LaneError) = some true
  xs_NoGroup_NoGroup : PySem.W.subIn K (.ref xA_NoGroup) (.ref xA_NoGroup) = some true
  xs_NoText_LaneError : PySem.W.subIn K (.ref xA_NoText) (.ref xA_LaneError) = some true
  xs_NoText_NoText : PySem.W.subIn K (.ref xA_NoText) (.ref xA_NoText) = some true
  xs_NotEven_LaneError : PySem.W.subIn K (.ref xA_NotEven) (.ref xA_LaneError) = some true
  xs_NotEven_NotEven : PySem.W.subIn K (.ref xA_NotEven) (.ref xA_NotEven) = some true
  xs_NoLine_LaneError : PySem.W.subIn K (.ref xA_NoLine) (.ref xA_LaneError) = some true
  xs_NoLine_NoLine : PySem.W.subIn K (.ref xA_NoLine) (.ref xA_NoLine) = some true
  z_ValueError : mg "ValueError" = none
  z_abs : mg "abs" = none
  z_all : mg "all" = none
  z_bool : mg "bool" = none
  z_enumerate : mg "enumerate" = none
  z_int : mg "int" = none
  z_isinstance : mg "isinstance" = none
  z_len : mg "len" = none
  z_range : mg "range" = none
  z_str : mg "str" = none
  z_tuple : mg "tuple" = none
  z_zip : mg "zip" = none
  t_FIGURES : Tok
  m_FIGURES : mg "FIGURES" = some (.str "0123456789" t_FIGURES)
  t_MOST_FIGURES : Tok
  m_MOST_FIGURES : mg "MOST_FIGURES" = some (.int 30 t_MOST_FIGURES)
section
variable {P : Program} {w : World} {K : PySem.W.Frag} {mg : Str → Option Value} {base : Heap}
theorem ok_size_in (T : Txt K mg) : FnOk P w K mg base CX0 1 T.a_size_in T.d_size_in ["word"] (spF K 1 f_size_in) :=
  fn_sim T.F_size_in sc_size_in rfl rfl fun cdv A outer s H E hr => ((ss_cons (ss_if (st_w (sw_or (st_not (st_chain op_le pr_le op_le pr_le so_int (so_callB cr_len pr_len (by rfl) T.z_len bt_len (sa_cons (so_var (pv 0)) sa_nil)) (so_globI (by rfl) T.m_MOST_FIGURES))) (sw_or1 (st_not (st_any (so_callB (cr_all rfl) pr_all (by rfl) T.z_all bt_all (sa_cons (so_comp (own := [("sign", 1)]) rfl sc_size_in.nd (si_str (so_var (pv 0))) (blkOk_by (by kernel_rfl)) (fun _ _ _ _ _ => (sg_name sc_size_in.nd rfl (by first | exact .inl rfl | exact .inr rfl) (by rfl))) (fun _ _ _ _ _ => spt_nil) (fun _ _ _ _ _ => (so_cmp (op_inA (units65 hr)) pr_in (so_var (pv 1)) (so_globS (by rfl) T.m_FIGURES) (by rfl)))) sa_nil)))))))
  (ss_one (ss_ret so_non))
  ss_nil) (ss_cons (ss_if (st_w (sw_and (st_cmp (op_eqD hr.units) pr_eq (so_ix (so_var (pv 0)) so_int) so_str (nomark _)) (sw_and1 (st_cmp (op_neD hr.units) pr_ne (so_var (pv 0)) so_str (nomark _)))))
  (ss_one (ss_ret so_non))
  ss_nil) (ss_one (ss_ret (so_callTy call_int_str pr_intX (by rfl) T.z_int bt_int (sa_cons (so_var (pv 0)) sa_nil)))))))
theorem ok_number_in (T : Txt K mg) : FnOk P w K mg base CX0 2 T.a_number_in T.d_number_in ["word"] (spF K 1 f_number_in) :=
  fn_sim T.F_number_in sc_number_in rfl rfl fun cdv A outer s H E hr => ((ss_cons (ss_if (st_not (st_any (so_ms (pe_m1 PySem.F.slot_str_startswith PySem.F.type_str_startswith mt_startswith (so_var (pv 0)) so_str) ok_starts)))
  (ss_one (ss_ret (so_call (ok_size_in T) (hr.mono (by omega)) (by rfl) T.g_size_in T.F_size_in.kp T.b_size_in (sa_cons (so_var (pv 0)) sa_nil) (fun _ _ _ h => mkFn_len h))))
  ss_nil) (ss_cons (ss_set sc_number_in.nd rfl (by first | exact .inl rfl | exact .inr rfl) (by rfl) (so_call (ok_size_in T) (hr.mono (by omega)) (by rfl) T.g_size_in T.F_size_in.kp T.b_size_in (sa_cons (so_slice (so_var (pv 0)) (sp_some so_int) sp_none) sa_nil) (fun _ _ _ h => mkFn_len h))) (ss_cons (ss_if (st_w (sw_or (st_cmp op_isA pr_is (so_var (pv 1)) so_non (nomark _)) (sw_or1 (st_cmp (op_eqD hr.units) pr_eq (so_var (pv 1)) so_int (nomark _)))))
  (ss_one (ss_ret so_non))
  ss_nil) (ss_one (ss_ret (so_un un_neg pr_neg (so_var (pv 1)))))))))
theorem ok_numbers_in (T : Txt K mg) : FnOk P w K mg base CX0 3 T.a_numbers_in T.d_numbers_in ["words"] (spF K 1 f_numbers_in) :=
  fn_sim T.F_numbers_in sc_numbers_in rfl rfl fun cdv A outer s H E hr => ((ss_one (ss_ret (so_callTy call_tuple_ofD pr_tuple (by rfl) T.z_tuple bt_tuple (sa_cons (so_comp (own := [("word", 1)]) rfl sc_numbers_in.nd (si_seq (so_var (pv 0))) (blkOk_by (by kernel_rfl)) (fun _ _ _ _ _ => (sg_name sc_numbers_in.nd rfl (by first | exact .inl rfl | exact .inr rfl) (by rfl))) (fun _ _ _ _ _ => spt_nil) (fun _ _ _ _ _ => (so_call (ok_number_in T) (hr.mono (by omega)) (by rfl) T.g_number_in T.F_number_in.kp T.b_number_in (sa_cons (so_var (pv 1)) sa_nil) (fun _ _ _ h => mkFn_len h)))) sa_nil)))))
theorem ok_NoText__init (T : Txt K mg) : FnOk P w K mg base (L2.CX P w) 1 T.a_NoText__init T.d_NoText__init ["self", "row"] (spXI K T.xA_NoText "row") :=
  init_okF (m := "no such text") T.F_NoText__init sc_NoText__init fun cdv A outer s H E => (pss_cons (ps_expr (pe_clsinit (by rfl) T.xg_LaneError T.xv_LaneError.ga T.xv_LaneError.rd T.xv_LaneError.vi (pa_cons (pv 0) (pa_cons pe_str pa_nil)))) (pss_one (ps_ost (pv 0) (pv 1))))
theorem ok_read_counts (T : Txt K mg) : FnOk P w K mg base CX0 4 T.a_read_counts T.d_read_counts ["text"] (spF K 1 f_read_counts) :=
  fn_sim T.F_read_counts sc_read_counts rfl rfl fun cdv A outer s H E hr => ((ss_cons (ss_if (st_not (st_any (so_isi .str (by rfl) T.z_isinstance (by rfl) T.z_str (so_var (pv 0)))))
  (ss_one ss_never)
  ss_nil) (ss_cons (ss_set sc_read_counts.nd rfl (by first | exact .inl rfl | exact .inr rfl) (by rfl) (so_call (ok_numbers_in T) (hr.mono (by omega)) (by rfl) T.g_numbers_in T.F_numbers_in.kp T.b_numbers_in (sa_cons (so_ms (pe_split (so_var (pv 0)) so_str) ok_split) sa_nil) (fun _ _ _ h => mkFn_len h))) (ss_cons (ss_if (st_cmp (op_inA (units65 hr)) pr_in so_non (so_var (pv 1)) (by rfl))
  (ss_one ss_never)
  ss_nil) (ss_one (ss_ret (so_var (pv 1))))))))
theorem okz_read_counts (T : Txt K mg) : FnOk P w K mg base (L2.CX P w) 4 T.a_read_counts T.d_read_counts ["text"] (spZF K 1 z_read_counts) :=
  fn_simZF T.F_read_counts sc_read_counts rfl rfl fun cdv A outer s H E hr W tk => ((rz_ifxF (st_not (st_any (so_isi .str (by rfl) T.z_isinstance (by rfl) T.z_str (so_var (pv 0))))) (rz_hereF (rzf_raise rfl tk T.xo_NoText.ox T.xo_NoText.no T.xo_NoText.iC T.xo_NoText.tI (ok_NoText__init T) (hr.mono (by omega)) T.b_NoText__init T.xC_NoText (by rfl) T.xg_NoText (sa_cons so_int sa_nil))) (rz_thenF (ss_set sc_read_counts.nd rfl (by first | exact .inl rfl | exact .inr rfl) (by rfl) (so_call (ok_numbers_in T) (hr.mono (by omega)) (by rfl) T.g_numbers_in T.F_numbers_in.kp T.b_numbers_in (sa_cons (so_ms (pe_split (so_var (pv 0)) so_str) ok_split) sa_nil) (fun _ _ _ h => mkFn_len h))) (rz_hereF (rz_ifF (st_cmp (op_inA (units65 hr)) pr_in so_non (so_var (pv 1)) (by rfl)) (rz_hereF (rzf_raise rfl tk T.xo_NoText.ox T.xo_NoText.no T.xo_NoText.iC T.xo_NoText.tI (ok_NoText__init T) (hr.mono (by omega)) T.b_NoText__init T.xC_NoText (by rfl) T.xg_NoText (sa_cons so_int sa_nil))) rz_noF)))))
theorem ok__law_hand (T : Txt K mg) : FnOk P w K mg base CX0 1 T.a__law_hand T.d__law_hand ["_law_script"] (spF K 1 f__law_hand) :=
  fn_sim T.F__law_hand sc__law_hand rfl rfl fun cdv A outer s H E hr => ((ss_cons (ss_set sc__law_hand.nd rfl (by first | exact .inl rfl | exact .inr rfl) (by rfl) (so_lst (sa_cons so_int (sa_cons so_int (sa_cons so_int sa_nil))))) (ss_cons (ss_if (st_w (sw_and (st_cmp op_gt pr_gt (so_callB cr_len pr_len (by rfl) T.z_len bt_len (sa_cons (so_var (pv 0)) sa_nil)) so_int (nomark _)) (sw_and1 (st_cmp op_ge pr_ge (so_ix (so_var (pv 0)) so_int) (so_bin op_pow pr_pow so_int so_int) (nomark _)))))
  (ss_cons (ss_set sc__law_hand.nd rfl (by first | exact .inl rfl | exact .inr rfl) (by rfl) so_int) (ss_one (ss_for PassesOwn.never rfl (si_seq (so_slice (so_var (pv 0)) sp_none (sp_some so_int))) (sg_name sc__law_hand.nd rfl (by first | exact .inl rfl | exact .inr rfl) (by rfl))
  (ss_cons (ss_setIx (pv 1) so_int (so_bin op_addA pr_add (so_ix (so_var (pv 1)) so_int) (so_bin op_mulA pr_mul (so_bin op_mod pr_mod (so_callB call_abs pr_abs (by rfl) T.z_abs bt_abs (sa_cons (so_var (pv 3)) sa_nil)) (so_bin op_pow pr_pow so_int so_int)) (so_var (pv 2))))) (ss_one (ss_set sc__law_hand.nd rfl (by first | exact .inl rfl | exact .inr rfl) (by rfl) (so_bin op_mulA pr_mul (so_var (pv 2)) (so_bin op_pow pr_pow so_int so_int))))) (fun _ h => h))))
  ss_nil) (ss_cons (ss_for PassesOwn.never rfl (si_enum (by rfl) T.z_enumerate (sa_cons (so_slice (so_var (pv 0)) sp_none (sp_some so_int)) sa_nil)) (sg_tup rfl (sgs_cons (sg_name sc__law_hand.nd rfl (by first | exact .inl rfl | exact .inr rfl) (by rfl)) (sgs_cons (sg_name sc__law_hand.nd rfl (by first | exact .inl rfl | exact .inr rfl) (by rfl)) sgs_nil)))
  (ss_cons (ss_set sc__law_hand.nd rfl (by first | exact .inl rfl | exact .inr rfl) (by rfl) (so_bin op_addA pr_add (so_bin op_addA pr_add (so_bin op_mod pr_mod (so_var (pv 3)) so_int) (so_bin op_mulA pr_mul so_int (so_var (pv 4)))) so_int)) (ss_one (ss_setIx (pv 1) so_int (so_bin op_mod pr_mod (so_bin op_addA pr_add (so_bin op_mulA pr_mul (so_ix (so_var (pv 1)) so_int) so_int) (so_var (pv 5))) so_int)))) (fun _ h => h)) (ss_one (ss_ret (so_var (pv 1))))))))
theorem ok__law_take (T : Txt K mg) : FnOk P w K mg base CX0 1 T.a__law_take T.d__law_take ["_law_state", "_law_many"] (spF K 2 f__law_take) :=
  fn_sim T.F__law_take sc__law_take rfl rfl fun cdv A outer s H E hr => ((ss_cons (ss_if (st_cmp op_gt pr_gt (so_ix (so_var (pv 0)) so_int) so_int (nomark _))
  (ss_cons (ss_set sc__law_take.nd rfl (by first | exact .inl rfl | exact .inr rfl) (by rfl) (so_bin op_mod pr_mod (so_ix (so_var (pv 0)) so_int) (so_var (pv 1)))) (ss_cons (ss_setIx (pv 0) so_int (so_bin op_fdivW pr_div (so_ix (so_var (pv 0)) so_int) (so_var (pv 1)))) (ss_one (ss_ret (so_var (pv 2))))))
  ss_nil) (ss_cons (ss_setIx (pv 0) so_int (so_bin op_addA pr_add (so_ix (so_var (pv 0)) so_int) so_int)) (ss_cons (ss_set sc__law_take.nd rfl (by first | exact .inl rfl | exact .inr rfl) (by rfl) (so_bin op_mod pr_mod (so_bin op_mulA pr_mul (so_bin op_addA pr_add (so_bin op_addA pr_add (so_ix (so_var (pv 0)) so_int) (so_bin op_mulA pr_mul (so_bin op_mulA pr_mul so_int (so_ix (so_var (pv 0)) so_int)) (so_ix (so_var (pv 0)) so_int))) so_int) so_int) so_int)) (ss_cons (ss_set sc__law_take.nd rfl (by first | exact .inl rfl | exact .inr rfl) (by rfl) (so_bin op_mod pr_mod (so_bin op_mulA pr_mul (so_var (pv 3)) (so_bin op_addA pr_add (so_bin op_mod pr_mod (so_var (pv 3)) so_int) (so_bin op_mulA pr_mul so_int (so_ix (so_var (pv 0)) so_int)))) so_int)) (ss_one (ss_ret (so_bin op_mod pr_mod (so_bin op_addA pr_add (so_bin op_fdivW pr_div (so_var (pv 3)) so_int) (so_bin op_fdivW pr_div (so_var (pv 3)) so_int)) (so_var (pv 1))))))))))
theorem ok__law_number (T : Txt K mg) : FnOk P w K mg base CX0 2 T.a__law_number T.d__law_number ["_law_state"] (spF K 1 f__law_number) :=
  fn_sim T.F__law_number sc__law_number rfl rfl fun cdv A outer s H E hr => ((ss_cons (ss_set sc__law_number.nd rfl (by first | exact .inl rfl | exact .inr rfl) (by rfl) (so_call (ok__law_take T) (hr.mono (by omega)) (by rfl) T.g__law_take T.F__law_take.kp T.b__law_take (sa_cons (so_var (pv 0)) (sa_cons so_int sa_nil)) (fun _ _ _ h => mkFn_len h))) (ss_cons (ss_if (st_cmp op_lt pr_lt (so_var (pv 1)) so_int (nomark _))
  (ss_one (ss_ret (so_call (ok__law_take T) (hr.mono (by omega)) (by rfl) T.g__law_take T.F__law_take.kp T.b__law_take (sa_cons (so_var (pv 0)) (sa_cons so_int sa_nil)) (fun _ _ _ h => mkFn_len h))))
  ss_nil) (ss_cons (ss_if (st_cmp (op_eqD hr.units) pr_eq (so_var (pv 1)) so_int (nomark _))
  (ss_one (ss_ret (so_bin op_sub pr_sub (so_bin op_addA pr_add (so_bin op_shl pr_shl so_int (so_call (ok__law_take T) (hr.mono (by omega)) (by rfl) T.g__law_take T.F__law_take.kp T.b__law_take (sa_cons (so_var (pv 0)) (sa_cons so_int sa_nil)) (fun _ _ _ h => mkFn_len h))) (so_call (ok__law_take T) (hr.mono (by omega)) (by rfl) T.g__law_take T.F__law_take.kp T.b__law_take (sa_cons (so_var (pv 0)) (sa_cons so_int sa_nil)) (fun _ _ _ h => mkFn_len h))) so_int)))
  ss_nil) (ss_cons (ss_if (st_cmp (op_eqD hr.units) pr_eq (so_var (pv 1)) so_int (nomark _))
  (ss_one (ss_ret (so_un un_neg pr_neg (so_call (ok__law_take T) (hr.mono (by omega)) (by rfl) T.g__law_take T.F__law_take.kp T.b__law_take (sa_cons (so_var (pv 0)) (sa_cons so_int sa_nil)) (fun _ _ _ h => mkFn_len h)))))
  ss_nil) (ss_one (ss_ret (so_ix (so_lst (sa_cons (so_bin op_mulA pr_mul so_int (so_bin op_pow pr_pow so_int so_int)) (sa_cons (so_bin op_sub pr_sub so_int (so_bin op_mulA pr_mul so_int (so_bin op_pow pr_pow so_int so_int))) (sa_cons (so_bin op_addA pr_add (so_bin op_pow pr_pow so_int so_int) (so_call (ok__law_take T) (hr.mono (by omega)) (by rfl) T.g__law_take T.F__law_take.kp T.b__law_take (sa_cons (so_var (pv 0)) (sa_cons so_int sa_nil)) (fun _ _ _ h => mkFn_len h))) (sa_cons (so_un un_neg pr_neg (so_bin op_pow pr_pow so_int so_int)) sa_nil))))) (so_call (ok__law_take T) (hr.mono (by omega)) (by rfl) T.g__law_take T.F__law_take.kp T.b__law_take (sa_cons (so_var (pv 0)) (sa_cons so_int sa_nil)) (fun _ _ _ h => mkFn_len h))))))))))
theorem ok__law_alike : ∀ (n : Nat) (T : Txt K mg), FnOk P w K mg base CX0 (n + 1) T.a__law_alike T.d__law_alike ["_law_found", "_law_due"] (spF K 2 (f__law_alike n))
  | 0, T => fn_sim T.F__law_alike sc__law_alike rfl rfl fun cdv A outer s H E hr => ss_nevers
  | n + 1, T => by
    have ih := ok__law_alike n T
    have hlen := len__law_alike n
    rw [show n + 1 + 1 = (n + 1) + 1 by omega]
    exact fn_sim T.F__law_alike sc__law_alike rfl rfl fun cdv A outer s H E hr => ((ss_cons (ss_if (st_any (so_isi .tup (by rfl) T.z_isinstance (by rfl) T.z_tuple (so_var (pv 1))))
  (ss_cons (ss_if (st_w (sw_or (st_not (st_any (so_isi .tup (by rfl) T.z_isinstance (by rfl) T.z_tuple (so_var (pv 0))))) (sw_or1 (st_cmp (op_neD hr.units) pr_ne (so_callB cr_len pr_len (by rfl) T.z_len bt_len (sa_cons (so_var (pv 0)) sa_nil)) (so_callB cr_len pr_len (by rfl) T.z_len bt_len (sa_cons (so_var (pv 1)) sa_nil)) (nomark _)))))
  (ss_one (ss_ret so_bl))
  ss_nil) (ss_one (ss_ret (so_callB (cr_all rfl) pr_all (by rfl) T.z_all bt_all (sa_cons (so_comp (own := [("_law_one", 2), ("_law_other", 3)]) rfl sc__law_alike.nd (si_zip (by rfl) T.z_zip (sa_cons (so_var (pv 0)) (sa_cons (so_var (pv 1)) sa_nil))) (blkOk_by (by kernel_rfl)) (fun _ _ _ _ _ => (sg_tup rfl (sgs_cons (sg_name sc__law_alike.nd rfl (by first | exact .inl rfl | exact .inr rfl) (by rfl)) (sgs_cons (sg_name sc__law_alike.nd rfl (by first | exact .inl rfl | exact .inr rfl) (by rfl)) sgs_nil)))) (fun _ _ _ _ _ => spt_nil) (fun _ _ _ _ _ => (so_call (ih) (hr.mono (by omega)) (by rfl) T.g__law_alike T.F__law_alike.kp T.b__law_alike (sa_cons (so_var (pv 2)) (sa_cons (so_var (pv 3)) sa_nil)) (hlen)))) sa_nil)))))
  ss_nil) (ss_cons (ss_if (st_any (so_isi .str (by rfl) T.z_isinstance (by rfl) T.z_str (so_var (pv 1))))
  (ss_one (ss_ret (so_and (so_isi .str (by rfl) T.z_isinstance (by rfl) T.z_str (so_var (pv 0))) (so_one (so_cmp (op_eqD hr.units) pr_eq (so_var (pv 0)) (so_var (pv 1)) (nomark _))))))
  ss_nil) (ss_one (ss_ret (so_and (so_isi .int (by rfl) T.z_isinstance (by rfl) T.z_int (so_var (pv 0))) (so_and (so_not (so_isi .bool (by rfl) T.z_isinstance (by rfl) T.z_bool (so_var (pv 0)))) (so_one (so_cmp (op_eqD hr.units) pr_eq (so_var (pv 0)) (so_var (pv 1)) (nomark _))))))))))
theorem ok__law_refused (n : Nat) (T : Txt K mg) : FnOk P w K mg base CX0 (n + 5) T.a__law_refused T.d__law_refused ["_law_thing"] (spF K 1 (f__law_refused n)) :=
  fn_sim T.F__law_refused sc__law_refused rfl rfl fun cdv A outer s H E hr => ((ss_cons (ss_set sc__law_refused.nd rfl (by first | exact .inl rfl | exact .inr rfl) (by rfl) so_non) (sss_tryK rfl rfl sc__law_refused.nd rfl (by first | rfl | decide +kernel) rfl (by first | exact .inl rfl | exact .inr rfl) (by decide) (by first | exact Or.inl rfl | exact Or.inr (Or.inl rfl) | exact Or.inr (Or.inr rfl)) ⟨rfl, by decide, .inl T.xg_LaneError⟩ (List.forall_mem_cons.mpr ⟨fun C hC => by rw [hC.eq T.xC_NoText]; exact exm_of T.xb_LaneError T.xi_LaneError T.xt_LaneError T.xs_NoText_LaneError, (fun _ h => nomatch h)⟩) (by rfl) (by rfl) (ss_one (ss_expr (so_call (ok_read_counts T) (hr.mono (by omega)) (by rfl) T.g_read_counts T.F_read_counts.kp T.b_read_counts (sa_cons (so_var (pv 0)) sa_nil) (fun _ _ _ h => mkFn_len h)))) (fun W pn xe tk => (rz_hereF (rz_exprF (rz_callF tk (okz_read_counts T) (hr.mono (by omega)) (by rfl) T.g_read_counts T.F_read_counts.kp T.b_read_counts (sa_cons (so_var (pv 0)) sa_nil) (fun _ _ h => mkFz_lenF h))))) (ss_cons (ss_if (st_w (sw_or (st_not (st_isNB (T := "ValueError") T.xkb_ValueError rfl (by first | exact Or.inl rfl | exact Or.inr (Or.inl rfl) | exact Or.inr (Or.inr rfl)) (by rfl) T.z_isinstance (by rfl) T.z_ValueError rfl)) (sw_or1 (st_isNT (as := [T.xA_NoDeed, T.xA_NoGroup, T.xA_NoLine, T.xA_NotEven]) T.xkT_NoDeed_NoGroup_NoLine_NotEven (by simp) rfl (by first | exact Or.inl rfl | exact Or.inr (Or.inl rfl) | exact Or.inr (Or.inr rfl)) (by rfl) T.z_isinstance (pa_cl1 (by rfl) T.xg_NoDeed (pa_cl1 (by rfl) T.xg_NoGroup (pa_cl1 (by rfl) T.xg_NoLine (pa_cl1 (by rfl) T.xg_NotEven pa_cl0))))))))
  (ss_one (ss_ret so_bl))
  ss_nil) (ss_one (ss_ret (so_and (so_isN1 T.xk1_NoText rfl (by first | exact Or.inl rfl | exact Or.inr (Or.inl rfl) | exact Or.inr (Or.inr rfl)) (by rfl) T.z_isinstance (by rfl) T.xg_NoText) (so_one (so_call (ok__law_alike n T) (hr.mono (by omega)) (by rfl) T.g__law_alike T.F__law_alike.kp T.b__law_alike (sa_cons so_bad (sa_cons so_int sa_nil)) (fun ds r as h => len__law_alike n ds r as h))))))) (fun y a oe C dd pn hcs hfd hC hz hf => by letI := keptVs 1 a dd [("row", .int y.2.2)]; exact (ss_cons (ss_if (st_w (sw_or (st_not (st_isB (T := "ValueError") (List.mem_cons_self ..) hz hf (((List.forall_mem_cons.mpr ⟨fun C hC => by rw [hC.eq T.xC_NoText]; exact T.xt2_NoText.ex, (fun _ h => nomatch h)⟩) : ∀ n, n ∈ (["NoText"] : List Str) → ∀ C, ClsN K n C → ExcC K C) y.1 (by simpa using hcs) C hC) (((List.forall_mem_cons.mpr ⟨fun C hC => by rw [hC.eq T.xC_NoText]; exact T.xkc_NoText_ValueError, (fun _ h => nomatch h)⟩) : ∀ n, n ∈ (["NoText"] : List Str) → ∀ C, ClsN K n C → PySem.W.kitOne K (.ref C) (.type "ValueError") = some true) y.1 (by simpa using hcs) C hC) rfl (by first | exact Or.inl rfl | exact Or.inr (Or.inl rfl) | exact Or.inr (Or.inr rfl)) (by rfl) T.z_isinstance (by rfl) T.z_ValueError rfl)) (sw_or1 (st_isT (as := [T.xA_NoDeed, T.xA_NoGroup, T.xA_NoLine, T.xA_NotEven]) (List.mem_cons_self ..) hz hf (((List.forall_mem_cons.mpr ⟨fun C hC => by rw [hC.eq T.xC_NoText]; exact T.xt2_NoText.ex, (fun _ h => nomatch h)⟩) : ∀ n, n ∈ (["NoText"] : List Str) → ∀ C, ClsN K n C → ExcC K C) y.1 (by simpa using hcs) C hC) (((List.forall_mem_cons.mpr ⟨fun C hC => by rw [hC.eq T.xC_NoText]; exact T.xkt_NoText_NoDeed_NoGroup_NoLine_NotEven, (fun _ h => nomatch h)⟩) : ∀ n, n ∈ (["NoText"] : List Str) → ∀ C, ClsN K n C → PySem.W.kitAny K (.ref C) ([T.xA_NoDeed, T.xA_NoGroup, T.xA_NoLine, T.xA_NotEven].map Value.ref) = some (([] : List Str).contains n)) y.1 (by simpa using hcs) C hC) (by simp) rfl (by first | exact Or.inl rfl | exact Or.inr (Or.inl rfl) | exact Or.inr (Or.inr rfl)) (by rfl) T.z_isinstance (pa_cl1 (by rfl) T.xg_NoDeed (pa_cl1 (by rfl) T.xg_NoGroup (pa_cl1 (by rfl) T.xg_NoLine (pa_cl1 (by rfl) T.xg_NotEven pa_cl0))))))))
  (ss_one (ss_ret so_bl))
  ss_nil) (ss_one (ss_ret (so_and (so_isP (List.mem_cons_self ..) hz hf (((List.forall_mem_cons.mpr ⟨fun C hC => by rw [hC.eq T.xC_NoText]; exact T.xt2_NoText.ex, (fun _ h => nomatch h)⟩) : ∀ n, n ∈ (["NoText"] : List Str) → ∀ C, ClsN K n C → ExcC K C) y.1 (by simpa using hcs) C hC) (((List.forall_mem_cons.mpr ⟨fun C hC => by rw [hC.eq T.xC_NoText]; exact T.xk2_NoText_NoText, (fun _ h => nomatch h)⟩) : ∀ n, n ∈ (["NoText"] : List Str) → ∀ C, ClsN K n C → PySem.W.kitOne K (.ref C) (.ref T.xA_NoText) = some ((["NoText"] : List Str).contains n)) y.1 (by simpa using hcs) C hC) rfl (by first | exact Or.inl rfl | exact Or.inr (Or.inl rfl) | exact Or.inr (Or.inr rfl)) (by rfl) T.z_isinstance (by rfl) T.xg_NoText) (so_one (so_call (ok__law_alike n T) (hr.mono (by omega)) (by rfl) T.g__law_alike T.F__law_alike.kp T.b__law_alike (sa_cons (so_fldP (List.mem_cons_self ..) hz hf (((List.forall_mem_cons.mpr ⟨fun C hC => by rw [hC.eq T.xC_NoText]; exact T.xt2_NoText.xf, (fun _ h => nomatch h)⟩) : ∀ n, n ∈ (["NoText"] : List Str) → ∀ C, ClsN K n C → XfC K C) y.1 (by simpa using hcs) C hC) (((List.forall_mem_cons.mpr ⟨fun C hC => by rw [hC.eq T.xC_NoText]; exact T.xt2_NoText.no, (fun _ h => nomatch h)⟩) : ∀ n, n ∈ (["NoText"] : List Str) → ∀ C, ClsN K n C → PySem.W.findIn K (.ref C) "row" = some none) y.1 (by simpa using hcs) C hC) rfl (by first | exact Or.inl rfl | exact Or.inr (Or.inl rfl) | exact Or.inr (Or.inr rfl))) (sa_cons so_int sa_nil)) (fun ds r as h => len__law_alike n ds r as h)))))))))))
theorem ok__law_bad (T : Txt K mg) : FnOk P w K mg base CX0 2 T.a__law_bad T.d__law_bad ["_law_state", "_law_words"] (spF K 2 f__law_bad) :=
  fn_sim T.F__law_bad sc__law_bad rfl rfl fun cdv A outer s H E hr => ((ss_cons (ss_set sc__law_bad.nd rfl (by first | exact .inl rfl | exact .inr rfl) (by rfl) (so_call (ok__law_take T) (hr.mono (by omega)) (by rfl) T.g__law_take T.F__law_take.kp T.b__law_take (sa_cons (so_var (pv 0)) (sa_cons (so_callB cr_len pr_len (by rfl) T.z_len bt_len (sa_cons (so_var (pv 1)) sa_nil)) sa_nil)) (fun _ _ _ h => mkFn_len h))) (ss_cons (ss_set sc__law_bad.nd rfl (by first | exact .inl rfl | exact .inr rfl) (by rfl) (so_lst (sa_cons so_str (sa_cons so_str (sa_cons so_str (sa_cons so_str (sa_cons so_str (sa_cons so_str (sa_cons so_str (sa_cons (so_bin op_mulS pr_mulS so_str so_int) (sa_cons (so_bin op_addA pr_add so_str (so_bin op_mulS pr_mulS so_str so_int)) (sa_cons so_str (sa_cons so_str (sa_cons so_str sa_nil)))))))))))))) (ss_cons (ss_set sc__law_bad.nd rfl (by first | exact .inl rfl | exact .inr rfl) (by rfl) (so_bin op_addA pr_add (so_var (pv 3)) (so_lst (sa_cons so_str (sa_cons so_str (sa_cons so_str (sa_cons so_str (sa_cons so_str sa_nil)))))))) (ss_cons (ss_set sc__law_bad.nd rfl (by first | exact .inl rfl | exact .inr rfl) (by rfl) (so_bin op_addA pr_add (so_bin op_addA pr_add (so_slice (so_var (pv 1)) sp_none (sp_some (so_var (pv 2)))) (so_lst (sa_cons (so_ix (so_var (pv 3)) (so_call (ok__law_take T) (hr.mono (by omega)) (by rfl) T.g__law_take T.F__law_take.kp T.b__law_take (sa_cons (so_var (pv 0)) (sa_cons (so_callB cr_len pr_len (by rfl) T.z_len bt_len (sa_cons (so_var (pv 3)) sa_nil)) sa_nil)) (fun _ _ _ h => mkFn_len h))) sa_nil))) (so_slice (so_var (pv 1)) (sp_some (so_bin op_addA pr_add (so_var (pv 2)) so_int)) sp_none))) (ss_cons (ss_set sc__law_bad.nd rfl (by first | exact .inl rfl | exact .inr rfl) (by rfl) (so_lst (sa_cons (so_ms (pe_join so_str (so_var (pv 4))) ok_join) (sa_cons (so_bin op_addA pr_add (so_ms (pe_join so_str (so_var (pv 1))) ok_join) so_str) (sa_cons (so_bin op_addA pr_add so_str (so_ms (pe_join so_str (so_var (pv 1))) ok_join)) (sa_cons (so_ms (pe_join so_str (so_bin op_addA pr_add (so_var (pv 1)) (so_lst (sa_cons so_str sa_nil)))) ok_join) sa_nil)))))) (ss_cons (ss_expr (so_mt md_app PySem.F.slot_list_append PySem.F.type_list_append mt_append (pv 5) (sa_cons (so_ms (pe_join so_str (so_bin op_addA pr_add (so_var (pv 1)) (so_lst (sa_cons so_str sa_nil)))) ok_join) sa_nil))) (ss_one (ss_ret (so_ix (so_var (pv 5)) (so_ix (so_lst (sa_cons so_int (sa_cons so_int (sa_cons so_int (sa_cons so_int (sa_cons so_int (sa_cons so_int (sa_cons so_int sa_nil)))))))) (so_call (ok__law_take T) (hr.mono (by omega)) (by rfl) T.g__law_take T.F__law_take.kp T.b__law_take (sa_cons (so_var (pv 0)) (sa_cons so_int sa_nil)) (fun _ _ _ h => mkFn_len h)))))))))))))
theorem ok_law (n : Nat) (T : Txt K mg) : FnOk P w K mg base CX0 (n + 6) T.a_law T.d_law ["_law_script"] (spF K 1 (f_law n)) :=
  fn_sim T.F_law sc_law rfl rfl fun cdv A outer s H E hr => ((ss_cons (ss_set sc_law.nd rfl (by first | exact .inl rfl | exact .inr rfl) (by rfl) (so_call (ok__law_hand T) (hr.mono (by omega)) (by rfl) T.g__law_hand T.F__law_hand.kp T.b__law_hand (sa_cons (so_var (pv 0)) sa_nil) (fun _ _ _ h => mkFn_len h))) (ss_cons (ss_for PassesOwn.never rfl (si_seq (so_lst (sa_cons so_str (sa_cons so_non (sa_cons so_int (sa_cons so_bl (sa_cons (so_tup sa_nil) (sa_cons (so_tup (sa_cons so_int (sa_cons so_int sa_nil))) (sa_cons (so_frz (so_lst (sa_cons so_int sa_nil))) (sa_cons (so_frd so_newK) (sa_cons so_str (sa_cons so_str (sa_cons so_str (sa_cons so_str sa_nil)))))))))))))) (sg_name sc_law.nd rfl (by first | exact .inl rfl | exact .inr rfl) (by rfl))
  (ss_one (ss_if (st_not (st_any (so_call (ok__law_refused n T) (hr.mono (by omega)) (by rfl) T.g__law_refused T.F__law_refused.kp T.b__law_refused (sa_cons (so_var (pv 2)) sa_nil) (fun ds r as h => len__law_refused n ds r as h))))
  (ss_one (ss_ret so_bl))
  ss_nil)) (fun _ h => h)) (ss_cons (ss_for PassesOwn.never rfl (si_seq (so_lst (sa_cons (so_bin op_mulS pr_mulS so_str so_int) (sa_cons (so_bin op_addA pr_add so_str (so_bin op_mulS pr_mulS so_str so_int)) (sa_cons so_str sa_nil))))) (sg_name sc_law.nd rfl (by first | exact .inl rfl | exact .inr rfl) (by rfl))
  (ss_one (ss_if (st_not (st_any (so_call (ok__law_alike n T) (hr.mono (by omega)) (by rfl) T.g__law_alike T.F__law_alike.kp T.b__law_alike (sa_cons (so_call (ok_read_counts T) (hr.mono (by omega)) (by rfl) T.g_read_counts T.F_read_counts.kp T.b_read_counts (sa_cons (so_var (pv 3)) sa_nil) (fun _ _ _ h => mkFn_len h)) (sa_cons (so_tup (sa_cons (so_callTy call_int_str pr_intX (by rfl) T.z_int bt_int (sa_cons (so_var (pv 3)) sa_nil)) sa_nil)) sa_nil)) (fun ds r as h => len__law_alike n ds r as h))))
  (ss_one (ss_ret so_bl))
  ss_nil)) (fun _ h => h)) (ss_cons (ss_for PassesOwn.never rfl (si_range1 (by rfl) T.z_range (sa_cons so_int sa_nil)) (sg_name sc_law.nd rfl (by first | exact .inl rfl | exact .inr rfl) (by rfl))
  (ss_cons (ss_set sc_law.nd rfl (by first | exact .inl rfl | exact .inr rfl) (by rfl) (so_callTy call_tuple_ofD pr_tuple (by rfl) T.z_tuple bt_tuple (sa_cons (so_comp (own := [("_law_k", 6)]) rfl sc_law.nd (si_range1 (by rfl) T.z_range (sa_cons (so_bin op_addA pr_add so_int (so_call (ok__law_take T) (hr.mono (by omega)) (by rfl) T.g__law_take T.F__law_take.kp T.b__law_take (sa_cons (so_var (pv 1)) (sa_cons so_int sa_nil)) (fun _ _ _ h => mkFn_len h))) sa_nil)) (blkOk_by (by kernel_rfl)) (fun _ _ _ _ _ => (sg_name sc_law.nd rfl (by first | exact .inl rfl | exact .inr rfl) (by rfl))) (fun _ _ _ _ _ => spt_nil) (fun _ _ _ _ _ => (so_call (ok__law_number T) (hr.mono (by omega)) (by rfl) T.g__law_number T.F__law_number.kp T.b__law_number (sa_cons (so_var (pv 1)) sa_nil) (fun _ _ _ h => mkFn_len h)))) sa_nil))) (ss_cons (ss_setLc (own := [("_law_count", 8)]) rfl sc_law.nd rfl rfl (by rfl) (si_seq (so_var (pv 5))) (blkOk_by (by kernel_rfl)) (fun _ _ _ _ _ => (sg_name sc_law.nd rfl (by first | exact .inl rfl | exact .inr rfl) (by rfl))) (fun _ _ _ _ _ => spt_nil) (fun _ _ _ _ _ => (so_callTy call_str_int pr_strI (by rfl) T.z_str bt_str (sa_cons (so_var (pv 8)) sa_nil)))) (ss_cons (ss_if (st_w (sw_or (st_not (st_any (so_call (ok__law_alike n T) (hr.mono (by omega)) (by rfl) T.g__law_alike T.F__law_alike.kp T.b__law_alike (sa_cons (so_call (ok_read_counts T) (hr.mono (by omega)) (by rfl) T.g_read_counts T.F_read_counts.kp T.b_read_counts (sa_cons (so_ms (pe_join so_str (so_var (pv 7))) ok_join) sa_nil) (fun _ _ _ h => mkFn_len h)) (sa_cons (so_var (pv 5)) sa_nil)) (fun ds r as h => len__law_alike n ds r as h)))) (sw_or1 (st_not (st_any (so_call (ok__law_refused n T) (hr.mono (by omega)) (by rfl) T.g__law_refused T.F__law_refused.kp T.b__law_refused (sa_cons (so_call (ok__law_bad T) (hr.mono (by omega)) (by rfl) T.g__law_bad T.F__law_bad.kp T.b__law_bad (sa_cons (so_var (pv 1)) (sa_cons (so_var (pv 7)) sa_nil)) (fun _ _ _ h => mkFn_len h)) sa_nil) (fun ds r as h => len__law_refused n ds r as h)))))))
  (ss_one (ss_ret so_bl))
  ss_nil) (ss_one (ss_if (st_w (sw_or (st_not (st_any (so_call (ok__law_refused n T) (hr.mono (by omega)) (by rfl) T.g__law_refused T.F__law_refused.kp T.b__law_refused (sa_cons (so_call (ok__law_bad T) (hr.mono (by omega)) (by rfl) T.g__law_bad T.F__law_bad.kp T.b__law_bad (sa_cons (so_var (pv 1)) (sa_cons (so_var (pv 7)) sa_nil)) (fun _ _ _ h => mkFn_len h)) sa_nil) (fun ds r as h => len__law_refused n ds r as h)))) (sw_or1 (st_not (st_any (so_call (ok__law_alike n T) (hr.mono (by omega)) (by rfl) T.g__law_alike T.F__law_alike.kp T.b__law_alike (sa_cons (so_call (ok_read_counts T) (hr.mono (by omega)) (by rfl) T.g_read_counts T.F_read_counts.kp T.b_read_counts (sa_cons (so_ms (pe_join so_str (so_var (pv 7))) ok_join) sa_nil) (fun _ _ _ h => mkFn_len h)) (sa_cons (so_var (pv 5)) sa_nil)) (fun ds r as h => len__law_alike n ds r as h)))))))
  (ss_one (ss_ret so_bl))
  ss_nil))))) (fun _ h => h)) (ss_one (ss_ret so_bl)))))))
end
theorem all_mk {l : PySem.W.OpenLaw} {w : World} {K : PySem.W.Frag} {h : Heap} {mg : Str → Option Value} {fa f1 f2 f3 f4 f5 f6 f7 f8 f9 f10 f11 f12 : Addr} (n : Nat) (X : K.In h) (G : h.Ns mainGlobals mg) (hfa : mg "law" = some (.ref fa))
    {od1 an1 od2 an2 od3 an3 od4 an4 od5 an5 od6 an6 od7 an7 od8 an8 od9 an9 od10 an10 od11 an11 od12 an12 : Option Addr} {sl1 sl2 sl3 sl4 sl5 sl6 sl7 sl8 sl9 sl10 sl11 sl12 : Array (Option Value)} {oc1 kV1 dc1 pm1 cd1 ct1 oc2 kV2 dc2 pm2 cd2 ct2 oc3 kV3 dc3 pm3 cd3 ct3 oc4 kV4 dc4 pm4 cd4 ct4 oc5 kV5 dc5 pm5 cd5 ct5 oc6 kV6 dc6 pm6 cd6 ct6 oc7 kV7 dc7 pm7 cd7 ct7 oc8 kV8 dc8 pm8 cd8 ct8 oc9 kV9 dc9 pm9 cd9 ct9 oc10 kV10 dc10 pm10 cd10 ct10 oc11 kV11 dc11 pm11 cd11 ct11 oc12 kV12 dc12 pm12 cd12 ct12 : Value}
    {xA_LaneError : Addr} (xa_LaneError : PySem.W.nsIn K mainGlobals "LaneError" = some (some (.ref xA_LaneError))) (xk_LaneError : PySem.W.keepIn K (.ref xA_LaneError) = true) (xb_LaneError : PySem.W.subIn K (.ref xA_LaneError) (.type "BaseException") = some true) (xt_LaneError : PySem.W.typeIn K (.ref xA_LaneError) = some (.type "type")) (xi_LaneError : (PySem.W.clsIn K xA_LaneError).isSome = true)
    {xA_NoDeed : Addr} (xa_NoDeed : PySem.W.nsIn K mainGlobals "NoDeed" = some (some (.ref xA_NoDeed))) (xk_NoDeed : PySem.W.keepIn K (.ref xA_NoDeed) = true) (xb_NoDeed : PySem.W.subIn K (.ref xA_NoDeed) (.type "BaseException") = some true) (xt_NoDeed : PySem.W.typeIn K (.ref xA_NoDeed) = some (.type "type")) (xi_NoDeed : (PySem.W.clsIn K xA_NoDeed).isSome = true)
    {xA_NoGroup : Addr} (xa_NoGroup : PySem.W.nsIn K mainGlobals "NoGroup" = some (some (.ref xA_NoGroup))) (xk_NoGroup : PySem.W.keepIn K (.ref xA_NoGroup) = true) (xb_NoGroup : PySem.W.subIn K (.ref xA_NoGroup) (.type "BaseException") = some true) (xt_NoGroup : PySem.W.typeIn K (.ref xA_NoGroup) = some (.type "type")) (xi_NoGroup : (PySem.W.clsIn K xA_NoGroup).isSome = true)
    {xA_NoText : Addr} (xa_NoText : PySem.W.nsIn K mainGlobals "NoText" = some (some (.ref xA_NoText))) (xk_NoText : PySem.W.keepIn K (.ref xA_NoText) = true) (xb_NoText : PySem.W.subIn K (.ref xA_NoText) (.type "BaseException") = some true) (xt_NoText : PySem.W.typeIn K (.ref xA_NoText) = some (.type "type")) (xi_NoText : (PySem.W.clsIn K xA_NoText).isSome = true)
    {xA_NotEven : Addr} (xa_NotEven : PySem.W.nsIn K mainGlobals "NotEven" = some (some (.ref xA_NotEven))) (xk_NotEven : PySem.W.keepIn K (.ref xA_NotEven) = true) (xb_NotEven : PySem.W.subIn K (.ref xA_NotEven) (.type "BaseException") = some true) (xt_NotEven : PySem.W.typeIn K (.ref xA_NotEven) = some (.type "type")) (xi_NotEven : (PySem.W.clsIn K xA_NotEven).isSome = true)
    {xA_NoLine : Addr} (xa_NoLine : PySem.W.nsIn K mainGlobals "NoLine" = some (some (.ref xA_NoLine))) (xk_NoLine : PySem.W.keepIn K (.ref xA_NoLine) = true) (xb_NoLine : PySem.W.subIn K (.ref xA_NoLine) (.type "BaseException") = some true) (xt_NoLine : PySem.W.typeIn K (.ref xA_NoLine) = some (.type "type")) (xi_NoLine : (PySem.W.clsIn K xA_NoLine).isSome = true)
    (xs_LaneError_LaneError : PySem.W.subIn K (.ref xA_LaneError) (.ref xA_LaneError) = some true)
    (xs_NoDeed_LaneError : PySem.W.subIn K (.ref xA_NoDeed) (.ref xA_LaneError) = some true)
    (xs_NoDeed_NoDeed : PySem.W.subIn K (.ref xA_NoDeed) (.ref xA_NoDeed) = some true)
    (xs_NoGroup_LaneError : PySem.W.subIn K (.ref xA_NoGroup) (.ref xA_LaneError) = some true)
    (xs_NoGroup_NoGroup : PySem.W.subIn K (.ref xA_NoGroup) (.ref xA_NoGroup) = some true)
    (xs_NoText_LaneError : PySem.W.subIn K (.ref xA_NoText) (.ref xA_LaneError) = some true)
    (xs_NoText_NoText : PySem.W.subIn K (.ref xA_NoText) (.ref xA_NoText) = some true)
    (xs_NotEven_LaneError : PySem.W.subIn K (.ref xA_NotEven) (.ref xA_LaneError) = some true)
    (xs_NotEven_NotEven : PySem.W.subIn K (.ref xA_NotEven) (.ref xA_NotEven) = some true)
    (xs_NoLine_LaneError : PySem.W.subIn K (.ref xA_NoLine) (.ref xA_LaneError) = some true)
    (xs_NoLine_NoLine : PySem.W.subIn K (.ref xA_NoLine) (.ref xA_NoLine) = some true)
    (xv_LaneError : initB K xA_LaneError = true)
    (xI_NoText : PySem.W.findIn K (.ref xA_NoText) "__init__" = some (some (.ref f4)))
    (xo_NoText : fldB K xA_NoText f4 "row" = true)
    (xt2_NoText : caughtB K xA_NoText "row" = true)
    (xkT_NoDeed_NoGroup_NoLine_NotEven : PySem.W.kitAny K (.type "NoneType") ([xA_NoDeed, xA_NoGroup, xA_NoLine, xA_NotEven].map Value.ref) = some false)
    (xk1_NoText : PySem.W.kitOne K (.type "NoneType") (.ref xA_NoText) = some false)
    (xkt_NoText_NoDeed_NoGroup_NoLine_NotEven : PySem.W.kitAny K (.ref xA_NoText) ([xA_NoDeed, xA_NoGroup, xA_NoLine, xA_NotEven].map Value.ref) = some false)
    (xkb_ValueError : PySem.W.kitOne K (.type "NoneType") (.type "ValueError") = some false)
    (xkc_NoText_ValueError : PySem.W.kitOne K (.ref xA_NoText) (.type "ValueError") = some true)
    (xk2_NoText_NoText : PySem.W.kitOne K (.ref xA_NoText) (.ref xA_NoText) = some true)
    (a1 : PySem.W.nsIn K mainGlobals "size_in" = some (some (.ref f1))) (l1 : K.lookup f1 = some ⟨oc1, od1, .func (PySem.W.fnOf "size_in" "size_in" (defArgs s_size_in) (defBody s_size_in) (defScope s_size_in) .none kV1 dc1 pm1 an1 cd1 ct1), sl1⟩) (c1 : PySem.W.codeIn K cd1 "size_in" = true) (k1 : PySem.W.keepIn K (.ref f1) = true)
    (a2 : PySem.W.nsIn K mainGlobals "number_in" = some (some (.ref f2))) (l2 : K.lookup f2 = some ⟨oc2, od2, .func (PySem.W.fnOf "number_in" "number_in" (defArgs s_number_in) (defBody s_number_in) (defScope s_number_in) .none kV2 dc2 pm2 an2 cd2 ct2), sl2⟩) (c2 : PySem.W.codeIn K cd2 "number_in" = true) (k2 : PySem.W.keepIn K (.ref f2) = true)
    (a3 : PySem.W.nsIn K mainGlobals "numbers_in" = some (some (.ref f3))) (l3 : K.lookup f3 = some ⟨oc3, od3, .func (PySem.W.fnOf "numbers_in" "numbers_in" (defArgs s_numbers_in) (defBody s_numbers_in) (defScope s_numbers_in) .none kV3 dc3 pm3 an3 cd3 ct3), sl3⟩) (c3 : PySem.W.codeIn K cd3 "numbers_in" = true) (k3 : PySem.W.keepIn K (.ref f3) = true)
    (l4 : K.lookup f4 = some ⟨oc4, od4, .func (PySem.W.fnOf "__init__" "NoText.__init__" (defArgs s_NoText__init) (defBody s_NoText__init) (defScope s_NoText__init) .none kV4 dc4 pm4 an4 cd4 ct4), sl4⟩) (c4 : PySem.W.codeIn K cd4 "NoText.__init__" = true) (k4 : PySem.W.keepIn K (.ref f4) = true)
    (a5 : PySem.W.nsIn K mainGlobals "read_counts" = some (some (.ref f5))) (l5 : K.lookup f5 = some ⟨oc5, od5, .func (PySem.W.fnOf "read_counts" "read_counts" (defArgs s_read_counts) (defBody s_read_counts) (defScope s_read_counts) .none kV5 dc5 pm5 an5 cd5 ct5), sl5⟩) (c5 : PySem.W.codeIn K cd5 "read_counts" = true) (k5 : PySem.W.keepIn K (.ref f5) = true)
    (a6 : PySem.W.nsIn K mainGlobals "_law_hand" = some (some (.ref f6))) (l6 : K.lookup f6 = some ⟨oc6, od6, .func (PySem.W.fnOf "_law_hand" "_law_hand" (defArgs s__law_hand) (defBody s__law_hand) (defScope s__law_hand) .none kV6 dc6 pm6 an6 cd6 ct6), sl6⟩) (c6 : PySem.W.codeIn K cd6 "_law_hand" = true) (k6 : PySem.W.keepIn K (.ref f6) = true)
    (a7 : PySem.W.nsIn K mainGlobals "_law_take" = some (some (.ref f7))) (l7 : K.lookup f7 = some ⟨oc7, od7, .func (PySem.W.fnOf "_law_take" "_law_take" (defArgs s__law_take) (defBody s__law_take) (defScope s__law_take) .none kV7 dc7 pm7 an7 cd7 ct7), sl7⟩) (c7 : PySem.W.codeIn K cd7 "_law_take" = true) (k7 : PySem.W.keepIn K (.ref f7) = true)
    (a8 : PySem.W.nsIn K mainGlobals "_law_number" = some (some (.ref f8))) (l8 : K.lookup f8 = some ⟨oc8, od8, .func (PySem.W.fnOf "_law_number" "_law_number" (defArgs s__law_number) (defBody s__law_number) (defScope s__law_number) .none kV8 dc8 pm8 an8 cd8 ct8), sl8⟩) (c8 : PySem.W.codeIn K cd8 "_law_number" = true) (k8 : PySem.W.keepIn K (.ref f8) = true)
    (a9 : PySem.W.nsIn K mainGlobals "_law_alike" = some (some (.ref f9))) (l9 : K.lookup f9 = some ⟨oc9, od9, .func (PySem.W.fnOf "_law_alike" "_law_alike" (defArgs s__law_alike) (defBody s__law_alike) (defScope s__law_alike) .none kV9 dc9 pm9 an9 cd9 ct9), sl9⟩) (c9 : PySem.W.codeIn K cd9 "_law_alike" = true) (k9 : PySem.W.keepIn K (.ref f9) = true)
    (a10 : PySem.W.nsIn K mainGlobals "_law_refused" = some (some (.ref f10))) (l10 : K.lookup f10 = some ⟨oc10, od10, .func (PySem.W.fnOf "_law_refused" "_law_refused" (defArgs s__law_refused) (defBody s__law_refused) (defScope s__law_refused) .none kV10 dc10 pm10 an10 cd10 ct10), sl10⟩) (c10 : PySem.W.codeIn K cd10 "_law_refused" = true) (k10 : PySem.W.keepIn K (.ref f10) = true)
    (a11 : PySem.W.nsIn K mainGlobals "_law_bad" = some (some (.ref f11))) (l11 : K.lookup f11 = some ⟨oc11, od11, .func (PySem.W.fnOf "_law_bad" "_law_bad" (defArgs s__law_bad) (defBody s__law_bad) (defScope s__law_bad) .none kV11 dc11 pm11 an11 cd11 ct11), sl11⟩) (c11 : PySem.W.codeIn K cd11 "_law_bad" = true) (k11 : PySem.W.keepIn K (.ref f11) = true)
    (a12 : PySem.W.nsIn K mainGlobals "law" = some (some (.ref f12))) (l12 : K.lookup f12 = some ⟨oc12, od12, .func (PySem.W.fnOf "law" "law" (defArgs s_law) (defBody s_law) (defScope s_law) .none kV12 dc12 pm12 an12 cd12 ct12), sl12⟩) (c12 : PySem.W.codeIn K cd12 "law" = true) (k12 : PySem.W.keepIn K (.ref f12) = true)
    (z_ValueError : PySem.W.nsIn K mainGlobals "ValueError" = some none)
    (z_abs : PySem.W.nsIn K mainGlobals "abs" = some none)
    (z_all : PySem.W.nsIn K mainGlobals "all" = some none)
    (z_bool : PySem.W.nsIn K mainGlobals "bool" = some none)
    (z_enumerate : PySem.W.nsIn K mainGlobals "enumerate" = some none)
    (z_int : PySem.W.nsIn K mainGlobals "int" = some none)
    (z_isinstance : PySem.W.nsIn K mainGlobals "isinstance" = some none)
    (z_len : PySem.W.nsIn K mainGlobals "len" = some none)
    (z_range : PySem.W.nsIn K mainGlobals "range" = some none)
    (z_str : PySem.W.nsIn K mainGlobals "str" = some none)
    (z_tuple : PySem.W.nsIn K mainGlobals "tuple" = some none)
    (z_zip : PySem.W.nsIn K mainGlobals "zip" = some none)
    {t_FIGURES : Tok} (m_FIGURES : PySem.W.nsIn K mainGlobals "FIGURES" = some (some (.str "0123456789" t_FIGURES)))
    {t_MOST_FIGURES : Tok} (m_MOST_FIGURES : PySem.W.nsIn K mainGlobals "MOST_FIGURES" = some (some (.int 30 t_MOST_FIGURES)))
    : ∃ fd : FuncData, (∀ (s : Shared) (v : Value), BindsTo s fd ⟨[v], []⟩ [("_law_script", v)]) ∧ ∀ base : Heap, K.In base → base.Ns mainGlobals mg → FnOk l.prog w K mg base CX0 (n + 6) fa fd ["_law_script"] (spF K 1 (f_law n)) := by
  have e := hfa.symm.trans (PySem.W.mg_of X G a12)
  have e2 : f12 = fa := by cases e; rfl
  subst e2
  have F1 := fun_mk (st := s_size_in) l1 c1 k1
  have b1 := F1.binds (ps := ["word"]) fun _ _ _ _ _ _ us hl => match us, hl with | [_], _ => rfl
  have F2 := fun_mk (st := s_number_in) l2 c2 k2
  have b2 := F2.binds (ps := ["word"]) fun _ _ _ _ _ _ us hl => match us, hl with | [_], _ => rfl
  have F3 := fun_mk (st := s_numbers_in) l3 c3 k3
  have b3 := F3.binds (ps := ["words"]) fun _ _ _ _ _ _ us hl => match us, hl with | [_], _ => rfl
  have F4 := fun_mk (st := s_NoText__init) l4 c4 k4
  have b4 := F4.binds (ps := ["self", "row"]) fun _ _ _ _ _ _ us hl => match us, hl with | [_, _], _ => rfl
  have F5 := fun_mk (st := s_read_counts) l5 c5 k5
  have b5 := F5.binds (ps := ["text"]) fun _ _ _ _ _ _ us hl => match us, hl with | [_], _ => rfl
  have F6 := fun_mk (st := s__law_hand) l6 c6 k6
  have b6 := F6.binds (ps := ["_law_script"]) fun _ _ _ _ _ _ us hl => match us, hl with | [_], _ => rfl
  have F7 := fun_mk (st := s__law_take) l7 c7 k7
  have b7 := F7.binds (ps := ["_law_state", "_law_many"]) fun _ _ _ _ _ _ us hl => match us, hl with | [_, _], _ => rfl
  have F8 := fun_mk (st := s__law_number) l8 c8 k8
  have b8 := F8.binds (ps := ["_law_state"]) fun _ _ _ _ _ _ us hl => match us, hl with | [_], _ => rfl
  have F9 := fun_mk (st := s__law_alike) l9 c9 k9
  have b9 := F9.binds (ps := ["_law_found", "_law_due"]) fun _ _ _ _ _ _ us hl => match us, hl with | [_, _], _ => rfl
  have F10 := fun_mk (st := s__law_refused) l10 c10 k10
  have b10 := F10.binds (ps := ["_law_thing"]) fun _ _ _ _ _ _ us hl => match us, hl with | [_], _ => rfl
  have F11 := fun_mk (st := s__law_bad) l11 c11 k11
  have b11 := F11.binds (ps := ["_law_state", "_law_words"]) fun _ _ _ _ _ _ us hl => match us, hl with | [_, _], _ => rfl
  have F12 := fun_mk (st := s_law) l12 c12 k12
  have b12 := F12.binds (ps := ["_law_script"]) fun _ _ _ _ _ _ us hl => match us, hl with | [_], _ => rfl
  let T : Txt K mg := { a_size_in := f1, d_size_in := _, F_size_in := F1, g_size_in := PySem.W.mg_of X G a1, b_size_in := b1, a_number_in := f2, d_number_in := _, F_number_in := F2, g_number_in := PySem.W.mg_of X G a2, b_number_in := b2, a_numbers_in := f3, d_numbers_in := _, F_numbers_in := F3, g_numbers_in := PySem.W.mg_of X G a3, b_numbers_in := b3, a_NoText__init := f4, d_NoText__init := _, F_NoText__init := F4, b_NoText__init := b4, a_read_counts := f5, d_read_counts := _, F_read_counts := F5, g_read_counts := PySem.W.mg_of X G a5, b_read_counts := b5, a__law_hand := f6, d__law_hand := _, F__law_hand := F6, g__law_hand := PySem.W.mg_of X G a6, b__law_hand := b6, a__law_take := f7, d__law_take := _, F__law_take := F7, g__law_take := PySem.W.mg_of X G a7, b__law_take := b7, a__law_number := f8, d__law_number := _, F__law_number := F8, g__law_number := PySem.W.mg_of X G a8, b__law_number := b8, a__law_alike := f9, d__law_alike := _, F__law_alike := F9, g__law_alike := PySem.W.mg_of X G a9, b__law_alike := b9, a__law_refused := f10, d__law_refused := _, F__law_refused := F10, g__law_refused := PySem.W.mg_of X G a10, b__law_refused := b10, a__law_bad := f11, d__law_bad := _, F__law_bad := F11, g__law_bad := PySem.W.mg_of X G a11, b__law_bad := b11, a_law := f12, d_law := _, F_law := F12, g_law := PySem.W.mg_of X G a12, b_law := b12, xA_LaneError := xA_LaneError, xC_LaneError := xa_LaneError, xg_LaneError := PySem.W.mg_of X G xa_LaneError, xk_LaneError := xk_LaneError, xb_LaneError := xb_LaneError, xt_LaneError := xt_LaneError, xi_LaneError := xi_LaneError, xA_NoDeed := xA_NoDeed, xC_NoDeed := xa_NoDeed, xg_NoDeed := PySem.W.mg_of X G xa_NoDeed, xk_NoDeed := xk_NoDeed, xb_NoDeed := xb_NoDeed, xt_NoDeed := xt_NoDeed, xi_NoDeed := xi_NoDeed, xA_NoGroup := xA_NoGroup, xC_NoGroup := xa_NoGroup, xg_NoGroup := PySem.W.mg_of X G xa_NoGroup, xk_NoGroup := xk_NoGroup, xb_NoGroup := xb_NoGroup, xt_NoGroup := xt_NoGroup, xi_NoGroup := xi_NoGroup, xA_NoText := xA_NoText, xC_NoText := xa_NoText, xg_NoText := PySem.W.mg_of X G xa_NoText, xk_NoText := xk_NoText, xb_NoText := xb_NoText, xt_NoText := xt_NoText, xi_NoText := xi_NoText, xA_NotEven := xA_NotEven, xC_NotEven := xa_NotEven, xg_NotEven := PySem.W.mg_of X G xa_NotEven, xk_NotEven := xk_NotEven, xb_NotEven := xb_NotEven, xt_NotEven := xt_NotEven, xi_NotEven := xi_NotEven, xA_NoLine := xA_NoLine, xC_NoLine := xa_NoLine, xg_NoLine := PySem.W.mg_of X G xa_NoLine, xk_NoLine := xk_NoLine, xb_NoLine := xb_NoLine, xt_NoLine := xt_NoLine, xi_NoLine := xi_NoLine, xv_LaneError := initB_ok xv_LaneError, xo_NoText := fldB_ok xo_NoText, xt2_NoText := caughtB_ok xt2_NoText, xkT_NoDeed_NoGroup_NoLine_NotEven := xkT_NoDeed_NoGroup_NoLine_NotEven, xk1_NoText := xk1_NoText, xkt_NoText_NoDeed_NoGroup_NoLine_NotEven := xkt_NoText_NoDeed_NoGroup_NoLine_NotEven, xkb_ValueError := xkb_ValueError, xkc_NoText_ValueError := xkc_NoText_ValueError, xk2_NoText_NoText := xk2_NoText_NoText, xs_LaneError_LaneError := xs_LaneError_LaneError, xs_NoDeed_LaneError := xs_NoDeed_LaneError, xs_NoDeed_NoDeed := xs_NoDeed_NoDeed, xs_NoGroup_LaneError := xs_NoGroup_LaneError, xs_NoGroup_NoGroup := xs_NoGroup_NoGroup, xs_NoText_LaneError := xs_NoText_LaneError, xs_NoText_NoText := xs_NoText_NoText, xs_NotEven_LaneError := xs_NotEven_LaneError, xs_NotEven_NotEven := xs_NotEven_NotEven, xs_NoLine_LaneError := xs_NoLine_LaneError, xs_NoLine_NoLine := xs_NoLine_NoLine, z_ValueError := PySem.W.mg_none_of X G z_ValueError, z_abs := PySem.W.mg_none_of X G z_abs, z_all := PySem.W.mg_none_of X G z_all, z_bool := PySem.W.mg_none_of X G z_bool, z_enumerate := PySem.W.mg_none_of X G z_enumerate, z_int := PySem.W.mg_none_of X G z_int, z_isinstance := PySem.W.mg_none_of X G z_isinstance, z_len := PySem.W.mg_none_of X G z_len, z_range := PySem.W.mg_none_of X G z_range, z_str := PySem.W.mg_none_of X G z_str, z_tuple := PySem.W.mg_none_of X G z_tuple, z_zip := PySem.W.mg_none_of X G z_zip, t_FIGURES := t_FIGURES, m_FIGURES := PySem.W.mg_of X G m_FIGURES, t_MOST_FIGURES := t_MOST_FIGURES, m_MOST_FIGURES := PySem.W.mg_of X G m_MOST_FIGURES }
  exact ⟨PySem.W.fnOf "law" "law" (defArgs s_law) (defBody s_law) (defScope s_law) .none kV12 dc12 pm12 an12 cd12 ct12, fun s v => .of_eq rfl, fun base _ _ => (ok_law n T)⟩
end Sim

open PySem PySem.W PyProof.Rows in
set_option maxRecDepth 100000 in
set_option maxHeartbeats 0 in
theorem PySem.Challenge.cw_stairlanes_k76_texts_of_no_counts_holds : PySem.Challenge.rw_stairlanes_k76_texts_of_no_counts.Holds := by
  w_on; o_law; k_head; (case hw => w_witness2)
  k_fill
  refine L2.walk_ofK (l := PySem.Challenge.rw_stairlanes_k76_texts_of_no_counts) (n := 63) (k := (8 + 6)) (x := "_law_script") (CX := L2.CX0) (sp := fun K => Sim.spF K 1 (Sim.f_law 8)) rfl (by decide) rfl ⟨rfl, by decide, by decide⟩ (fun w h Y => PySem.W.kIn_of Y) ?F (fun K H a ns h1 h2 h3 => Sim.spF_law Sim.law_holds K H a ns h1 h2 h3) (fun _ _ _ _ h => h)
  case F =>
    intro w mg fa h KX G hmg
    refine' Sim.all_mk 8 KX G hmg ?xa_LaneError ?xk_LaneError ?xb_LaneError ?xt_LaneError ?xi_LaneError ?xa_NoDeed ?xk_NoDeed ?xb_NoDeed ?xt_NoDeed ?xi_NoDeed ?xa_NoGroup ?xk_NoGroup ?xb_NoGroup ?xt_NoGroup ?xi_NoGroup ?xa_NoText ?xk_NoText ?xb_NoText ?xt_NoText ?xi_NoText ?xa_NotEven ?xk_NotEven ?xb_NotEven ?xt_NotEven ?xi_NotEven ?xa_NoLine ?xk_NoLine ?xb_NoLine ?xt_NoLine ?xi_NoLine ?xs_LaneError_LaneError ?xs_NoDeed_LaneError ?xs_NoDeed_NoDeed ?xs_NoGroup_LaneError ?xs_NoGroup_NoGroup ?xs_NoText_LaneError ?xs_NoText_NoText ?xs_NotEven_LaneError ?xs_NotEven_NotEven ?xs_NoLine_LaneError ?xs_NoLine_NoLine ?xv_LaneError ?xI_NoText ?xo_NoText ?xt2_NoText ?xkT_NoDeed_NoGroup_NoLine_NotEven ?xk1_NoText ?xkt_NoText_NoDeed_NoGroup_NoLine_NotEven ?xkb_ValueError ?xkc_NoText_ValueError ?xk2_NoText_NoText ?a1 ?l1 ?c1 ?k1 ?a2 ?l2 ?c2 ?k2 ?a3 ?l3 ?c3 ?k3 ?l4 ?c4 ?k4 ?a5 ?l5 ?c5 ?k5 ?a6 ?l6 ?c6 ?k6 ?a7 ?l7 ?c7 ?k7 ?a8 ?l8 ?c8 ?k8 ?a9 ?l9 ?c9 ?k9 ?a10 ?l10 ?c10 ?k10 ?a11 ?l11 ?c11 ?k11 ?a12 ?l12 ?c12 ?k12 ?z_ValueError ?z_abs ?z_all ?z_bool ?z_enumerate ?z_int ?z_isinstance ?z_len ?z_range ?z_str ?z_tuple ?z_zip ?m_FIGURES ?m_MOST_FIGURES
    (case xa_LaneError => k_is); (case xk_LaneError => k_is); (case xb_LaneError => k_is); (case xt_LaneError => k_is); (case xi_LaneError => first | k_is | rfl | decide +kernel); (case xa_NoDeed => k_is); (case xk_NoDeed => k_is); (case xb_NoDeed => k_is); (case xt_NoDeed => k_is); (case xi_NoDeed => first | k_is | rfl | decide +kernel); (case xa_NoGroup => k_is); (case xk_NoGroup => k_is); (case xb_NoGroup => k_is); (case xt_NoGroup => k_is); (case xi_NoGroup => first | k_is | rfl | decide +kernel); (case xa_NoText => k_is); (case xk_NoText => k_is); (case xb_NoText => k_is); (case xt_NoText => k_is); (case xi_NoText => first | k_is | rfl | decide +kernel); (case xa_NotEven => k_is); (case xk_NotEven => k_is); (case xb_NotEven => k_is); (case xt_NotEven => k_is); (case xi_NotEven => first | k_is | rfl | decide +kernel); (case xa_NoLine => k_is); (case xk_NoLine => k_is); (case xb_NoLine => k_is); (case xt_NoLine => k_is); (case xi_NoLine => first | k_is | rfl | decide +kernel); (case xs_LaneError_LaneError => first | k_is | rfl | decide +kernel); (case xs_NoDeed_LaneError => first | k_is | rfl | decide +kernel); (case xs_NoDeed_NoDeed => first | k_is | rfl | decide +kernel); (case xs_NoGroup_LaneError => first | k_is | rfl | decide +kernel); (case xs_NoGroup_NoGroup => first | k_is | rfl | decide +kernel); (case xs_NoText_LaneError => first | k_is | rfl | decide +kernel); (case xs_NoText_NoText => first | k_is | rfl | decide +kernel); (case xs_NotEven_LaneError => first | k_is | rfl | decide +kernel); (case xs_NotEven_NotEven => first | k_is | rfl | decide +kernel); (case xs_NoLine_LaneError => first | k_is | rfl | decide +kernel); (case xs_NoLine_NoLine => first | k_is | rfl | decide +kernel); (case xv_LaneError => first | k_is | rfl | decide +kernel); (case xI_NoText => k_is); (case xo_NoText => first | k_is | rfl | decide +kernel); (case xt2_NoText => first | k_is | rfl | decide +kernel); (case xkT_NoDeed_NoGroup_NoLine_NotEven => first | k_is | rfl | decide +kernel); (case xk1_NoText => first | k_is | rfl | decide +kernel); (case xkt_NoText_NoDeed_NoGroup_NoLine_NotEven => first | k_is | rfl | decide +kernel); (case xkb_ValueError => first | k_is | rfl | decide +kernel); (case xkc_NoText_ValueError => first | k_is | rfl | decide +kernel); (case xk2_NoText_NoText => first | k_is | rfl | decide +kernel); (case a1 => k_is); (case l1 => k_is); (case c1 => k_is); (case k1 => k_is); (case a2 => k_is); (case l2 => k_is); (case c2 => k_is); (case k2 => k_is); (case a3 => k_is); (case l3 => k_is); (case c3 => k_is); (case k3 => k_is); (case l4 => k_is); (case c4 => k_is); (case k4 => k_is); (case a5 => k_is); (case l5 => k_is); (case c5 => k_is); (case k5 => k_is); (case a6 => k_is); (case l6 => k_is); (case c6 => k_is); (case k6 => k_is); (case a7 => k_is); (case l7 => k_is); (case c7 => k_is); (case k7 => k_is); (case a8 => k_is); (case l8 => k_is); (case c8 => k_is); (case k8 => k_is); (case a9 => k_is); (case l9 => k_is); (case c9 => k_is); (case k9 => k_is); (case a10 => k_is); (case l10 => k_is); (case c10 => k_is); (case k10 => k_is); (case a11 => k_is); (case l11 => k_is); (case c11 => k_is); (case k11 => k_is); (case a12 => k_is); (case l12 => k_is); (case c12 => k_is); (case k12 => k_is); (case z_ValueError => k_is); (case z_abs => k_is); (case z_all => k_is); (case z_bool => k_is); (case z_enumerate => k_is); (case z_int => k_is); (case z_isinstance => k_is); (case z_len => k_is); (case z_range => k_is); (case z_str => k_is); (case z_tuple => k_is); (case z_zip => k_is); (case m_FIGURES => k_is); (case m_MOST_FIGURES => k_is)
