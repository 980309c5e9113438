import PyProof.Rows.All
import Wide.All
import OpenK.AllK
import Wide.FinOn
import HandS.ForMost
import HandS.TupAny
import HandS.TupMul
import HandS.Wide
import HandS.WideBits
import KE.KDictKeyed
import KE.KeyNested
import HandS.Lambda
import HandS.TupLe
import HandS.IsInst
import HandS.Deep
import HandS.SortInts
import HandS.NoneIn
import HandS.Walk
import HandS.Zip
import KE.GoesEnum
import KE.KTupSum
import PyProof.MinMaxWalk
import KE.KEqSeq
import HandS.Conv
import HandS.Style
import PyProof.Rows.SortShell
import PyProof.SeqIndex
import HandS.More
import PyProof.EqAt
import KE.KIntText
import KE.GoesZip
import KE.KDictZip
import KE.LtSeq
import KE.KSortTup
import HandS.SortRule
import HandS.ExcValue
import PyProof.ListNew
import HandS.SetFor
import PyProof.ReprLen
import HandS.Iter
import HandS.Dict
import KE.DataMinMax
import KE.KDictWalk
import KE.KDictPairs
import PyProof.Rows.SeqRoads
import PyProof.Rows.SeqItemCall
import KE.KDictSum
import KE.KDictItemsList
import PyProof.DictItems
import KE.KDictCopyH
import KE.KEqDict
import KE.KDictDisplayH
import KE.DataCmp
import HandS.WordsDict
import PyProof.DictUpdate
import HandS.RaiseMore
import PyProof.CallStr
import PyProof.FString2
import HandS.Flow
import KE.KNest
import HandS.EndTab
import HandS.Call
import PyProof.ReprRoads
import PyProof.AutoSeq1
import HandS.Spec
import HandS.ExcOwn
import HandS.TryOnly
import HandS.WordsExc
import PyProof.DictWalks
import HandS.Text
import HandS.Sort
import HandS.ExcInit
import HandS.ExcField
import HandS.ExcIs
import KE.KIsAll
import KE.KExcIs
import KE.BitLaws
import PySem.Challenge.RW_stairlanes_k17_groups_that_come_together
set_option Elab.async false
set_option linter.all false
set_option maxRecDepth 100000
set_option autoImplicit false
set_option maxHeartbeats 4000000
set_option exponentiation.threshold 20000
namespace Sim
open PySem PySem.Spec L2
open AutoSeq1 (wpAny_loadPart')
def SqD (K : PySem.W.Frag) (H : Hp) (a : Addr) (xs : List V) : Prop :=
  (∃ o : Obj, H a = some (.frz o (.tup xs)) ∧ o.dict = none) ∨
    ∃ (o : Obj) (its : Array Value) (n : Nat), K.lookup a = some o ∧ o.cls = .type "tuple" ∧ o.dict = none ∧ o.data = .seq its n ∧ its.size ≤ sizeLine ∧ Vals xs its.toList
theorem SqD.sq {K : PySem.W.Frag} {H : Hp} {a : Addr} {xs : List V} (h : SqD K H a xs) : SqT K H a xs := by
  rcases h with ⟨o, h, _⟩ | ⟨o, its, n, h1, h2, _, h3, h4, h5⟩
  · exact .inl (.inr ⟨o, h⟩)
  · exact .inr ⟨o, its, n, h1, h2, h3, h4, h5⟩
theorem SqD.of {K : PySem.W.Frag} {H : Hp} {a : Addr} {o : Obj} {xs : List V} (h : H a = some (.frz o (.tup xs))) (n : o.dict = none) : SqD K H a xs := .inl ⟨o, h, n⟩
/-- a new tuple -/
def rNewT (xs : List V) (H : Hp) (Q : VK) : Prop := ∀ p o, H p = none → o.dict = none → Q (.ref p) (upd H p (.frz o (.tup xs)))
section
variable {X : Cx} {pins : List (Addr × Obj)} {σ : St} {H : Hp} {s : Shared} {xs : List V} {its : List Value} {Q : VK}
theorem lay_tup {t' : Nat} (I : Inv X pins σ H s) (r : Vals xs its) (z : xs.length ≤ sizeLine) (q : rNewT xs H Q) :
    EP X pins σ Q (.ref s.heap.objs.size) { s with heap := s.heap.push { cls := .type "tuple", data := .seq its.toArray }, toks := t' } := by
  have e : (s.heap.push { cls := .type "tuple", data := .seq its.toArray }).get? s.heap.objs.size = some { cls := .type "tuple", data := .seq its.toArray } := Heap.get?_push_size _ rfl
  refine ⟨.ref s.heap.objs.size, _, I.laid (t' := t') (o := .frz { cls := .type "tuple", data := .seq its.toArray } (.tup xs)) (fun b ob q => Heap.get?_push_of_some _ q) (Nat.le_refl _) ⟨e, z, its, r, ⟨_, e, rfl, _, rfl⟩⟩, rfl, q _ _ (I.hok.fresh (Nat.le_refl _)) rfl⟩
def tTupD (t : TA) : TE := fun σ H Q => t σ H fun xs H1 => xs.length ≤ sizeLine ∧ rNewT xs H1 Q
theorem pe_tupD {es : List Expr} {t : TA} {pos : Pos} {x1 : Nat} (h : PA X es t) : PE X (.Tuple es x1 pos) (tTupD t) := by
  refine ⟨fun pins s σ H Q I hq => ?_⟩
  exact wpAny_Tuple_spliced (thn (h.run pos pins s σ H _ I hq) fun us s1 ⟨xs, H1, I1, r, z, q⟩ => ⟨by rw [← r.length]; exact z, lay_tup (t' := s1.toks) I1 r z q⟩)
theorem call_tuple_ofD : CallR X (.type "tuple") (fun xs H Q => ∃ p ys, xs = [.ref p] ∧ ((SqL X.K H p ys ∧ rNewT ys H Q) ∨ (SqT X.K H p ys ∧ Q (.ref p) H))) := by
  intro pins s σ H xs us Q I r h
  obtain ⟨p, ys, rfl, h⟩ := h
  obtain ⟨u, rfl, rx⟩ := vals1 r
  cases rx
  rcases h with ⟨hq, q⟩ | ⟨hq, q⟩
  · obtain ⟨its, r', pl, hz⟩ := I.list hq
    have hlen := r'.length
    refine call_tuple_list pl.isList (fun h' kp => ?_) (by simp only [List.size_toArray] <;> omega)
    have I1 : Inv X pins σ H { s with heap := h' } := I.kept (t' := s.toks) kp
    exact lay_tup (t' := s.toks) I1 r' hz q
  · obtain ⟨its, r', pl, hz⟩ := I.tuple hq
    exact call_tuple_same pl ⟨.ref p, H, I, rfl, q⟩
def rSlD (K : PySem.W.Frag) : V → Option Int → Option Int → Hp → VK → Prop := fun x lo hi H Q => ∃ a xs, x = .ref a ∧ SqT K H a xs ∧
  (HT.sIx xs.length 0 lo = 0 ∧ HT.sIx xs.length xs.length hi = xs.length → Q (.ref a) H) ∧ (¬ (HT.sIx xs.length 0 lo = 0 ∧ HT.sIx xs.length xs.length hi = xs.length) → rNewT (cutV xs lo hi) H Q)
theorem sl_tupD : SlR X (rSlD X.K) := by
  intro pins s σ H x v vl vu lo hi sl Q I rx hs pl pu h
  obtain ⟨a, xs, rfl, hx, q1, q2⟩ := h
  cases rx
  obtain ⟨its, r, ht, hz⟩ := I.tuple hx
  have hlen : its.toArray.size = xs.length := by rw [List.size_toArray]; exact r.length.symm
  refine ⟨"tuple", _, PyProof.Rows.slot_tuple_getitem.lookup, ht.typeIs, ?_⟩
  by_cases hw : HT.sIx xs.length 0 lo = 0 ∧ HT.sIx xs.length xs.length hi = xs.length
  · exact getItem_tuple_whole ht hs pl pu (by rw [hlen]; exact hw) ⟨.ref a, H, I, rfl, q1 hw⟩
  · refine HT.getItem_tuple_cut ht hs pl pu (by rw [hlen]; exact hw) ?_ (by rw [hlen]; exact hz)
    rw [hlen]
    exact lay_tup (t' := s.toks) I ((r.drop (HT.sIx xs.length 0 lo)).take (HT.sIx xs.length xs.length hi - HT.sIx xs.length 0 lo)) (Nat.le_trans (cutV_length xs lo hi) hz) (q2 hw)
def rCatD (K : PySem.W.Frag) : R2 := fun x y H Q => ∃ a b xs ys, x = .ref a ∧ y = .ref b ∧ SqT K H a xs ∧ SqT K H b ys ∧ xs.length + ys.length ≤ sizeLine ∧
  (xs = [] → Q (.ref b) H) ∧ (xs ≠ [] → ys = [] → Q (.ref a) H) ∧ (xs ≠ [] → ys ≠ [] → rNewT (xs ++ ys) H Q)
theorem op_catD : OpR X (binaryOp .Add) (rCatD X.K) := by
  intro pins s σ H x y v u Q I rx ry h
  obtain ⟨a, b, xs, ys, rfl, rfl, ha, hb, hz, q0, q1, q2⟩ := h
  cases rx
  cases ry
  obtain ⟨its, r1, p1, _⟩ := I.tuple ha
  obtain ⟨its2, r2, p2, _⟩ := I.tuple hb
  by_cases hx : xs = []
  · subst hx
    cases r1
    exact cat_tup0 p1 p2 ⟨.ref b, H, I, rfl, q0 rfl⟩
  · refine HT.cat_tup p1 p2 (fun z => hx (r1.nil_iff.mp z)) (fun z => ⟨.ref a, H, I, rfl, q1 hx (r2.nil_iff.mp z)⟩) (fun z => ?_) (by rw [← r1.length, ← r2.length]; exact hz)
    exact lay_tup (t' := s.toks) I (r1.append r2) (by rw [List.length_append]; exact hz) (q2 hx fun w => z (r2.nil_iff.mpr w))
theorem tuple_mulS (l : Addr) (items : Array Value) (n : Nat) (dd : Option Addr) (sl : Array (Option Value)) (x : Int) (u : Tok) (c0 : (decide (x < -(2 ^ 63)) || decide (x ≥ 2 ^ 63)) = false) (c1 : (items.isEmpty || x == 1) = true) :
    Meets (Builtin.«tuple.__mul__» ⟨[.ref l, .int x u], []⟩) (fun _ R s => s.heap.get? l = some { cls := .type "tuple", dict := dd, data := .seq items n, slots := sl } ∧ R (.ok (.ret (Value.ref l))) s) :=
  .of_wp fun prog w A R s h => by
    obtain ⟨hp, g, d, tk, os⟩ := s
    obtain ⟨hl, h⟩ := h
    have f1 := AutoSeq1.idx_int
    wp_walk using wpAny_loadPart' hl
    repeat (first
      | (refine wpAny_ite_false (decide_eq_false (by rw [c0]; exact Bool.false_ne_true)) ?_; wp_walk using wpAny_loadPart' hl)
      | (refine wpAny_ite_true (decide_eq_true (by rw [c1])) ?_; wp_walk using wpAny_loadPart' hl))
    exact ⟨_, rfl, h⟩
theorem tuple_mul0 (l : Addr) (items : Array Value) (n : Nat) (dd : Option Addr) (sl : Array (Option Value)) (x : Int) (u : Tok) (c0 : (decide (x < -(2 ^ 63)) || decide (x ≥ 2 ^ 63)) = false) (c1 : (items.isEmpty || x == 1) = false) (c2 : (decide (x ≤ 0) || items.isEmpty) = true) :
    Meets (Builtin.«tuple.__mul__» ⟨[.ref l, .int x u], []⟩) (fun _ R s => s.heap.get? l = some { cls := .type "tuple", dict := dd, data := .seq items n, slots := sl } ∧
      R (.ok (.ret (Value.ref s.heap.objs.size))) { s with heap := s.heap.push { cls := Value.type "tuple", data := Data.seq #[] }, toks := s.toks }) :=
  .of_wp fun prog w A R s h => by
    obtain ⟨hp, g, d, tk, os⟩ := s
    obtain ⟨hl, h⟩ := h
    have f1 := AutoSeq1.idx_int
    wp_walk using wpAny_loadPart' hl
    repeat (first
      | (refine wpAny_ite_false (decide_eq_false (by rw [c0]; exact Bool.false_ne_true)) ?_; wp_walk using wpAny_loadPart' hl)
      | (refine wpAny_ite_false (decide_eq_false (by rw [c1]; exact Bool.false_ne_true)) ?_; wp_walk using wpAny_loadPart' hl)
      | (refine wpAny_ite_true (decide_eq_true (by rw [c2])) ?_; wp_walk using wpAny_loadPart' hl)
      | (refine wpAny_ite_false (decide_eq_false (by decide)) ?_; wp_walk using wpAny_loadPart' hl))
    exact ⟨_, rfl, h⟩
def rRepD (K : PySem.W.Frag) : R2 := fun x y H Q => ∃ l k xs, x = .ref l ∧ y = .int k ∧ SqT K H l xs ∧ -1000 ≤ k ∧ k ≤ 1000 ∧ xs.length ≤ 1000 ∧
  (xs = [] ∨ k = 1 → Q (.ref l) H) ∧ (xs ≠ [] → k ≠ 1 → rNewT (List.replicate k.toNat xs).flatten H Q)
theorem op_repD : OpR X (binaryOp .Mult) (rRepD X.K) := by
  intro pins s σ H x y v u Q I rx ry h
  obtain ⟨l, k, xs, rfl, rfl, hT, h1, h2, hz, q1, q2⟩ := h
  cases rx
  obtain ⟨t, rfl⟩ := ry
  obtain ⟨its, r, ⟨⟨cls, dd, data, sl⟩, ho, hc, n, hd⟩, hs⟩ := I.tuple hT
  simp only at hc hd
  subst hc hd
  have hle : its.length = xs.length := r.length.symm
  have hsz0 : its.toArray.size = xs.length := by rw [List.size_toArray, hle]
  have hm : ((its.toArray.size : Nat) : Int) * k ≤ 1000000 := by
    rw [hsz0]
    rcases Int.lt_or_le k 0 with hk | hk
    · have : ((xs.length : Nat) : Int) * k ≤ 0 := Int.mul_nonpos_of_nonneg_of_nonpos (by omega) (by omega)
      omega
    · have a1 : ((xs.length : Nat) : Int) * k ≤ 1000 * k := Int.mul_le_mul_of_nonneg_right (by omega) (by omega)
      omega
  have flen : (List.replicate k.toNat its).flatten.length ≤ 1000000 := by
    rw [PyProof.Rows.lm_len_rep_flat, hle]
    have a1 : k.toNat * xs.length ≤ 1000 * 1000 := Nat.mul_le_mul (by omega) hz
    omega
  have flen2 : (List.replicate k.toNat xs).flatten.length ≤ sizeLine := by
    rw [PyProof.Rows.lm_len_rep_flat, sizeLine_eq]
    have a1 : k.toNat * xs.length ≤ 1000 * 1000 := Nat.mul_le_mul (by omega) hz
    omega
  have c0 : (decide (k < -(2 ^ 63)) || decide (k ≥ 2 ^ 63)) = false := by
    rw [decide_eq_false (by omega), decide_eq_false (by omega)] <;> rfl
  have go : ∀ {Q' : Value → Shared → Prop}, wpAny (model X.prog X.w) (X.A) (call (.builtin "tuple.__mul__") [.ref l, .int k t]) Q' X.xe s → wpAny (model X.prog X.w) X.A (binaryOp .Mult (.ref l) (.int k t)) Q' X.xe s := fun {Q'} z =>
    wpAny_binaryOp_repeat_ref (T := "tuple") (U := "int") (by decide) ⟨_, ho, rfl⟩ (fun s' => typeIs_int s' k t) noFill_tuple_mul F.fills_int_mul F.slot_int_rmul repeat_tuple F.slot_int_index.lookup
      (call_meets F.slot_int_rmul (typeIs_int s k t) F.entry_int_rmul (F.args_int_rmul_2 _ _) (int_rmul_tuple k t l its.toArray n dd sl) ⟨ho, rfl, ⟨_, ho, rfl⟩, z⟩)
  refine go ?_
  cases c1 : (its.toArray.isEmpty || k == 1) with
  | true =>
    refine call_meets F.slot_tuple_mul ⟨_, ho, rfl⟩ F.entry_tuple_mul (F.args_tuple_mul_2 _ _) (tuple_mulS l its.toArray n dd sl k t c0 c1) ⟨ho, .ref l, H, I, rfl, q1 ?_⟩
    rw [Bool.or_eq_true] at c1
    rcases c1 with z | z
    · left
      have : its.length = 0 := by
        cases its with
        | nil => rfl
        | cons a b => simp at z
      exact List.eq_nil_of_length_eq_zero (by omega)
    · right
      exact eq_of_beq z
  | false =>
    have c1' := c1
    rw [Bool.or_eq_false_iff] at c1'
    have hne : xs ≠ [] := fun e => by
      subst e
      cases r
      simp at c1'
    have hk1 : k ≠ 1 := fun e => by rw [e] at c1'; simp at c1'
    cases c2 : (decide (k ≤ 0) || its.toArray.isEmpty) with
    | true =>
      refine call_meets F.slot_tuple_mul ⟨_, ho, rfl⟩ F.entry_tuple_mul (F.args_tuple_mul_2 _ _) (tuple_mul0 l its.toArray n dd sl k t c0 c1 c2) ⟨ho, ?_⟩
      rw [c1'.1, Bool.or_false] at c2
      have hk : k.toNat = 0 := by have := of_decide_eq_true c2; omega
      have e0 : (List.replicate k.toNat xs).flatten = [] := by rw [hk]; rfl
      have q3 := q2 hne hk1
      rw [e0] at q3
      exact lay_tup (t' := s.toks) I (its := []) .nil (Nat.zero_le _) q3
    | false =>
      have c4 : Builtin.Tuple.tupleTooMany (((its.toArray.size : Nat) : Int) * k) = false := by
        unfold Builtin.Tuple.tupleTooMany
        rw [sizeLine_eq]
        exact decide_eq_false (by omega)
      refine call_meets F.slot_tuple_mul ⟨_, ho, rfl⟩ F.entry_tuple_mul (F.args_tuple_mul_2 _ _) (tuple_mulW l its.toArray n dd sl k t c0 c1 c2 (by omega) c4 (by rw [size_rep, List.size_toArray, sizeLine_eq]; omega)) ⟨ho, ?_⟩
      rw [size_rep]
      exact lay_tup (t' := s.toks) I (r.rep k.toNat) flen2 (q2 hne hk1)
end
end Sim
namespace Sim
open PySem PySem.Spec L2
abbrev D := PyData
abbrev Sg := List (Option D)
/-- an outcome -/
inductive Res (α : Type) where
  | ok (a : α) (s : Sg)
  | exc (c : Str) (v : D) (s : Sg)
  | bad
def Res.bind {α β : Type} (m : Res α) (k : α → Sg → Res β) : Res β :=
  match m with
  | .ok a s => k a s
  | .exc c v s => .exc c v s
  | .bad => .bad
theorem bind_ok {α β : Type} (a : α) (s : Sg) (k : α → Sg → Res β) : (Res.ok a s).bind k = k a s := rfl
theorem bind_inv {α β : Type} {m : Res α} {k : α → Sg → Res β} {b : β} {s : Sg} (h : m.bind k = .ok b s) : ∃ a s1, m = .ok a s1 ∧ k a s1 = .ok b s := by
  cases m with
  | ok a s1 => exact ⟨a, s1, rfl, h⟩
  | exc c v s1 => cases h
  | bad => cases h
/-- an operand: a value, or what a slot holds -/
inductive Rf where
  | val (d : D)
  | slot (i : Nat)
def rd (r : Rf) (s : Sg) : Option D :=
  match r with
  | .val d => some d
  | .slot i => (s[i]?).join
def rds : List Rf → Sg → Option (List D)
  | [], _ => some []
  | r :: rs, s => match rd r s with
    | none => none
    | some d => match rds rs s with
      | none => none
      | some ds => some (d :: ds)
abbrev O := Sg → Res Rf
abbrev AL := Sg → Res (List Rf)
abbrev T := Sg → Res Bool
inductive Fl where
  | nx | rt (d : D) | bk | ct
abbrev S := Sg → Res Fl
/-- a list that never changes is told so -/
def frzT : List (D × D) → Bool
  | [(.none, .list _)] => true
  | [(.none, .dict _)] => true
  | _ => false
mutual
/-- no list that may change, no object within -/
def pur : D → Bool
  | .list _ => false
  | .dict kvs => frzT kvs
  | .tuple xs => purs xs
  | .none => true
  | .bool _ => true
  | .int _ => true
  | .str _ => true
def purs : List D → Bool
  | [] => true
  | x :: xs => pur x && purs xs
end
mutual
/-- nothing told by a dict within -/
def noD : D → Bool
  | .list xs => noDs xs
  | .dict _ => false
  | .tuple xs => noDs xs
  | .none => true
  | .bool _ => true
  | .int _ => true
  | .str _ => true
def noDs : List D → Bool
  | [] => true
  | x :: xs => noD x && noDs xs
end
/-- a list that never changes -/
def SqF (K : PySem.W.Frag) (H : Hp) (a : Addr) (xs : List V) : Prop :=
  (∃ o, H a = some (.frz o (.lst xs))) ∨
    ∃ (o : Obj) (its : Array Value) (n : Nat), K.lookup a = some o ∧ o.cls = .type "list" ∧ o.dict = none ∧ o.data = .seq its n ∧ its.size ≤ sizeLine ∧ Vals xs its.toList
theorem SqF.sq {K : PySem.W.Frag} {H : Hp} {a : Addr} {xs : List V} (h : SqF K H a xs) : SqL K H a xs := by
  rcases h with h | h
  · exact .inl (.inr h)
  · exact .inr h
/-- the entries of a dict whose keys are tuples, as they stand in its object -/
def RawO (a : Addr) (es : List (NestedKey × Addr × V)) (o : Obj) : HO := .ext fun h => es.length ≤ sizeLine ∧ (a == sysModules) = false ∧ (es.map (·.1)).Nodup ∧ h.get? a = some o ∧
  ∃ (ents : Array DictEntry) (ep : Nat), o.ExactDict ∧ o.data = .dict ents ep ∧
    Paired (fun (p : NestedKey × Addr × V) (e : DictEntry) => (∀ w, e.hash = p.1.hash w) ∧ e.key = .ref p.2.1 ∧ RelV p.2.2 e.val) es ents.toList
/-- an object that may change: a list, a dict, an instance -/
inductive MO
  | lst (xs : List V)
  | dct (kvs : List (Key × V))
  | dcn (a : Addr) (es : List (NestedKey × Addr × V)) (o : Obj)
  | ins (C dx : Addr) (fs : List (Str × V))
  | frk (o : Obj) (kvs : List (Key × V))
  | frn (a : Addr) (es : List (NestedKey × Addr × V)) (od o : Obj)
def MO.ho : MO → HO
  | .lst xs => .lst xs
  | .dct kvs => .dK kvs
  | .dcn a es o => RawO a es o
  | .ins C dx fs => .ins C dx fs
  | .frk o kvs => .frz o (.dK kvs)
  | .frn a es od o => .frz o (RawO a es od)
def isMut : HO → Bool
  | .lst _ => true
  | .dK _ => true
  | .ins _ _ _ => true
  | .ext _ => true
  | .tbl _ => true
  | _ => false
def isTbl : HO → Bool
  | .tbl _ => true
  | _ => false
theorem MO.ntb (m : MO) : isTbl m.ho = false := by cases m <;> rfl
/-- no object of ours is a code object -/
theorem MO.nco (m : MO) (c : Addr) (q : Str) : m.ho ≠ LamX.CodeO c q := by
  cases m with
  | lst _ => intro z; cases z
  | dct _ => intro z; cases z
  | ins _ _ _ => intro z; cases z
  | frk _ _ => intro z; cases z
  | frn _ _ _ _ => intro z; cases z
  | dcn a es o =>
    intro z
    have e := HO.ext.inj z
    let h0 : Heap := { objs := Array.replicate (c + 1) { cls := .none, data := .fields #[.none, .str q 0] } }
    have hc : h0.get? c = some { cls := .none, data := .fields #[.none, .str q 0] } := by
      show (match (Array.replicate (c + 1) ({ cls := .none, data := .fields #[.none, .str q 0] } : Obj))[c]? with
        | some ⟨_, _, .freed, _⟩ => none
        | o => o) = _
      rw [Array.getElem?_replicate, if_pos (Nat.lt_succ_self c)]
    have h1 := (congrFun e h0).mpr ⟨_, _, _, hc, rfl, rfl⟩
    obtain ⟨_, _, _, ho, ents, ep, _, hd, _⟩ := h1
    by_cases ha : a = c
    · rw [ha, hc] at ho
      cases ho
      cases hd
    · have : ∀ b o', h0.get? b = some o' → o' = { cls := .none, data := .fields #[.none, .str q 0] } := fun b o' hb => by
        have hb : (match (Array.replicate (c + 1) ({ cls := .none, data := .fields #[.none, .str q 0] } : Obj))[b]? with
          | some ⟨_, _, .freed, _⟩ => none
          | o => o) = some o' := hb
        rw [Array.getElem?_replicate] at hb
        by_cases hlt : b < c + 1
        · rw [if_pos hlt] at hb
          cases hb
          rfl
        · rw [if_neg hlt] at hb
          cases hb
      rw [this a o ho] at hd
      cases hd
/-- the tables of code objects that stand open: their addresses, the names of the code objects -/
class Tb where
  l : List (Addr × Str)
instance noTb : Tb := ⟨[]⟩
def TabsOk [Tb] (H : Hp) : Prop := LamX.Tabs Tb.l H
theorem TabsOk.ext [Tb] {H H' : Hp} (t : TabsOk H) (e : ∀ b o, H b = some o → H' b = some o) : TabsOk H' := fun p h => (t p h).ext e
theorem TabsOk.upd [Tb] {H : Hp} {a : Addr} {m : MO} {o : HO} (h : H a = some m.ho) (t : TabsOk H) : TabsOk (upd H a o) := fun p hp => by
  obtain ⟨ps, h1, h2, h3⟩ := t p hp
  refine ⟨ps, by rw [upd_ne (fun z => by rw [z, h] at h1; have := Option.some.inj h1; cases m <;> cases this)]; exact h1, h2, fun pos cv e => ?_⟩
  obtain ⟨c, e1, e2⟩ := h3 pos cv e
  exact ⟨c, e1, by rw [upd_ne (fun z => by rw [z, h] at e2; exact m.nco _ _ (Option.some.inj e2))]; exact e2⟩
/-- a key as it is told -/
def kD : Key → D
  | .inl i => .int i
  | .inr x => .str x
mutual
def nkD : NestedKey → D
  | .none => .none
  | .num i => .int i
  | .text x => .str x
  | .tup ks => .tuple (nkDs ks)
def nkDs : List NestedKey → List D
  | [] => []
  | k :: ks => nkD k :: nkDs ks
end
def zkd {κ : Type} (f : κ → D) : List κ → List D → List (D × D)
  | k :: ks, d :: ds => (f k, d) :: zkd f ks ds
  | _, _ => []
/-- which class a name of the program's top means -/
def ClsN (K : PySem.W.Frag) (nm : Str) (C : Addr) : Prop := PySem.W.nsIn K mainGlobals nm = some (some (.ref C))
theorem ClsN.eq {K : PySem.W.Frag} {nm : Str} {C C' : Addr} (a : ClsN K nm C) (b : ClsN K nm C') : C = C' := by
  have := (show PySem.W.nsIn K mainGlobals nm = _ from a).symm.trans b
  cases this
  rfl
mutual
inductive Own (K : PySem.W.Frag) (H : Hp) : D → V → List Addr → Prop
  | non : Own K H .none .non []
  | bl (b : Bool) : Own K H (.bool b) (.bl b) []
  | int (i : Int) : Own K H (.int i) (.int i) []
  | str (x : Str) : Own K H (.str x) (.str x) []
  | tup {a : Addr} {xs : List V} {ds : List D} {F : List Addr} : SqD K H a xs → OwnA K H ds xs F → Own K H (.tuple ds) (.ref a) F
  | frz {a : Addr} {xs : List V} {ds : List D} : SqF K H a xs → OwnA K H ds xs [] → Own K H (.dict [(.none, .list ds)]) (.ref a) []
  | opq (a : Addr) : Own K H (.dict [(.none, .bool true)]) (.ref a) []
  | frd {a : Addr} {o : Obj} : H a = some (.frz o (.dK [])) → Own K H (.dict [(.none, .dict [])]) (.ref a) []
  | dct {a : Addr} {kvs : List (Key × V)} {ds : List D} {F : List Addr} : H a = some (.dK kvs) → OwnA K H ds (kvs.map Prod.snd) F → a ∉ F → Own K H (.dict ((.bool true, .none) :: zkd kD (kvs.map Prod.fst) ds)) (.ref a) (a :: F)
  | dcn {a : Addr} {es : List (NestedKey × Addr × V)} {o : Obj} {ds : List D} : H a = some (RawO a es o) → OwnA K H (es.map fun e => nkD e.1) (es.map fun e => V.ref e.2.1) [] → OwnA K H ds (es.map fun e => e.2.2) [] → Own K H (.dict ((.bool true, .int 0) :: zkd nkD (es.map fun e => e.1) ds)) (.ref a) [a]
  | frk {a : Addr} {o : Obj} {kvs : List (Key × V)} {ds : List D} : H a = some (.frz o (.dK kvs)) → OwnA K H ds (kvs.map Prod.snd) [] → Own K H (.dict ((.bool true, .bool false) :: zkd kD (kvs.map Prod.fst) ds)) (.ref a) [a]
  | frn {a : Addr} {es : List (NestedKey × Addr × V)} {od o : Obj} {ds : List D} : H a = some (.frz o (RawO a es od)) → OwnA K H (es.map fun e => nkD e.1) (es.map fun e => V.ref e.2.1) [] → OwnA K H ds (es.map fun e => e.2.2) [] → Own K H (.dict ((.bool true, .bool true) :: zkd nkD (es.map fun e => e.1) ds)) (.ref a) [a]
  | ins {a C dx : Addr} {nm : Str} {fs : List (Str × V)} {ds : List D} {F : List Addr} : ClsN K nm C → H a = some (.ins C dx fs) → OwnA K H ds (fs.map Prod.snd) F → a ∉ F → Own K H (.dict ((.bool false, .str nm) :: zkd PyData.str (fs.map Prod.fst) ds)) (.ref a) (a :: F)
  | lst {a : Addr} {xs : List V} {ds : List D} {F : List Addr} : H a = some (.lst xs) → OwnA K H ds xs F → a ∉ F → Own K H (.list ds) (.ref a) (a :: F)
inductive OwnA (K : PySem.W.Frag) (H : Hp) : List D → List V → List Addr → Prop
  | nil : OwnA K H [] [] []
  | cons {v : V} {vs : List V} {d : D} {ds : List D} {F G : List Addr} : Own K H d v F → OwnA K H ds vs G → (∀ a, a ∈ F → a ∉ G) → OwnA K H (d :: ds) (v :: vs) (F ++ G)
end
section
variable {K : PySem.W.Frag} {H H' : Hp}
mutual
theorem Own.dp : ∀ {d : D} {v : V} {F : List Addr}, Own K H d v F → noD d = true → Dp K H v d
  | _, _, _, .non, _ => .non
  | _, _, _, .bl b, _ => .bl b
  | _, _, _, .int b, _ => .int b
  | _, _, _, .str b, _ => .str b
  | _, _, _, .frz _ _, p => by simp [noD] at p
  | _, _, _, .frd _, p => by simp [noD] at p
  | _, _, _, .opq _, p => by simp [noD] at p
  | _, _, _, .dct _ _ _, p => by simp [noD] at p
  | _, _, _, .dcn _ _ _, p => by simp [noD] at p
  | _, _, _, .frk _ _, p => by simp [noD] at p
  | _, _, _, .frn _ _ _, p => by simp [noD] at p
  | _, _, _, .ins _ _ _ _, p => by simp [noD] at p
  | _, _, _, .lst h t _, p => .lst (SqL.of h) (OwnA.dp t (by simpa [noD] using p))
  | _, _, _, .tup h t, p => .tup h.sq (OwnA.dp t (by simpa [noD] using p))
theorem OwnA.dp : ∀ {ds : List D} {vs : List V} {F : List Addr}, OwnA K H ds vs F → noDs ds = true → DpAll K H vs ds
  | _, _, _, .nil, _ => .nil
  | _, _, _, .cons h t _, p => by
    simp only [noDs, Bool.and_eq_true] at p
    exact .cons (Own.dp h p.1) (OwnA.dp t p.2)
end
mutual
theorem Own.pur : ∀ {d : D} {v : V} {F : List Addr}, Own K H d v F → pur d = true → F = []
  | _, _, _, .non, _ => rfl
  | _, _, _, .bl b, _ => rfl
  | _, _, _, .int b, _ => rfl
  | _, _, _, .str b, _ => rfl
  | _, _, _, .lst _ _ _, p => by simp [Sim.pur] at p
  | _, _, _, .frz _ _, _ => rfl
  | _, _, _, .frd _, _ => rfl
  | _, _, _, .opq _, p => by simp [Sim.pur, frzT] at p
  | _, _, _, .dct _ _ _, p => by simp [Sim.pur, frzT] at p
  | _, _, _, .dcn _ _ _, p => by simp [Sim.pur, frzT] at p
  | _, _, _, .frk _ _, p => by simp [Sim.pur, frzT] at p
  | _, _, _, .frn _ _ _, p => by simp [Sim.pur, frzT] at p
  | _, _, _, .ins _ _ _ _, p => by simp [Sim.pur, frzT] at p
  | _, _, _, .tup h t, p => OwnA.pur t (by simpa [Sim.pur] using p)
theorem OwnA.pur : ∀ {ds : List D} {vs : List V} {F : List Addr}, OwnA K H ds vs F → purs ds = true → F = []
  | _, _, _, .nil, _ => rfl
  | _, _, _, .cons h t _, p => by
    simp only [purs, Bool.and_eq_true] at p
    rw [Own.pur h p.1, OwnA.pur t p.2]
    rfl
end
mutual
theorem Own.mem : ∀ {d : D} {v : V} {F : List Addr}, Own K H d v F → ∀ a, a ∈ F → ∃ xs : MO, H a = some xs.ho
  | _, _, _, .non, _, h => by simp at h
  | _, _, _, .bl b, _, h => by simp at h
  | _, _, _, .int b, _, h => by simp at h
  | _, _, _, .str b, _, h => by simp at h
  | _, _, _, .frz _ _, _, h => by simp at h
  | _, _, _, .frd _, _, h => by simp at h
  | _, _, _, .opq _, _, h => by simp at h
  | _, _, _, .dct e t _, a, h => by
    rcases List.mem_cons.mp h with rfl | h
    · exact ⟨.dct _, e⟩
    · exact OwnA.mem t a h
  | _, _, _, .dcn e _ _, a, h => by rw [List.mem_singleton.mp h]; exact ⟨.dcn _ _ _, e⟩
  | _, _, _, .frk e _, a, h => by rw [List.mem_singleton.mp h]; exact ⟨.frk _ _, e⟩
  | _, _, _, .frn e _ _, a, h => by rw [List.mem_singleton.mp h]; exact ⟨.frn _ _ _ _, e⟩
  | _, _, _, .ins _ e t _, a, h => by
    rcases List.mem_cons.mp h with rfl | h
    · exact ⟨.ins _ _ _, e⟩
    · exact OwnA.mem t a h
  | _, _, _, .lst e t _, a, h => by
    rcases List.mem_cons.mp h with rfl | h
    · exact ⟨.lst _, e⟩
    · exact OwnA.mem t a h
  | _, _, _, .tup _ t, a, h => OwnA.mem t a h
theorem OwnA.mem : ∀ {ds : List D} {vs : List V} {F : List Addr}, OwnA K H ds vs F → ∀ a, a ∈ F → ∃ xs : MO, H a = some xs.ho
  | _, _, _, .nil, _, h => by simp at h
  | _, _, _, .cons h1 t _, a, h => by
    rcases List.mem_append.mp h with h | h
    · exact Own.mem h1 a h
    · exact OwnA.mem t a h
end
/-- the change of a heap: but the lists at Fa all stands -/
structure Chg [Tb] (Fa : Addr → Prop) (H H' : Hp) : Prop where
  keep : ∀ a o, H a = some o → ((¬ Fa a ∧ isTbl o = false) ∨ isMut o = false) → H' a = some o
  there : ∀ a, H' a = none → H a = none
  tab : TabsOk H → TabsOk H'
theorem Chg.refl [Tb] (Fa : Addr → Prop) (H : Hp) : Chg Fa H H := ⟨fun _ _ h _ => h, fun _ h => h, fun h => h⟩
theorem Chg.same [Tb] {Fa : Addr → Prop} (h : Same H H') : Chg Fa H H' := ⟨fun _ _ e _ => h _ _ e, fun _ e => h.free e, fun t => t.ext h⟩
theorem Chg.mono [Tb] {Fa Fb : Addr → Prop} (c : Chg Fa H H') (h : ∀ a o, H a = some o → Fa a → Fb a) : Chg Fb H H' := ⟨fun a o e cc => c.keep a o e (cc.imp (fun z => ⟨fun w => z.1 (h a o e w), z.2⟩) id), c.there, c.tab⟩
theorem Chg.trans [Tb] {Fa : Addr → Prop} {H1 : Hp} (a : Chg Fa H H1) (b : Chg Fa H1 H') : Chg Fa H H' := ⟨fun x o e cc => b.keep x o (a.keep x o e cc) cc, fun x e => a.there x (b.there x e), fun t => b.tab (a.tab t)⟩
/-- one object of ours is written -/
theorem Chg.upd1 [Tb] {a : Addr} {m : MO} {o : HO} (h : H a = some m.ho) (hm : isMut m.ho = true := by rfl) : Chg (fun b => b = a) H (upd H a o) := ⟨fun b ob e c => by
  by_cases hb : b = a
  · subst hb
    rcases c with c | c
    · exact absurd rfl c.1
    · rw [h] at e
      cases e
      rw [hm] at c
      cases c
  · rw [upd_ne hb]; exact e, fun b e => by
  by_cases hb : b = a
  · subst hb; rw [upd_same] at e; cases e
  · rw [upd_ne hb] at e; exact e, fun t => t.upd h⟩
/-- a later change of what is new -/
theorem Chg.transN [Tb] {Fa Fb : Addr → Prop} {H1 : Hp} (a : Chg Fa H H1) (b : Chg Fb H1 H') (n : ∀ x o, H x = some o → ¬ Fb x) : Chg Fa H H' :=
  ⟨fun x o e cc => b.keep x o (a.keep x o e cc) (cc.imp (fun z => ⟨n x o e, z.2⟩) id), fun x e => a.there x (b.there x e), fun t => b.tab (a.tab t)⟩
/-- what stands and is not changed -/
theorem Chg.mo [Tb] {Fa : Addr → Prop} (c : Chg Fa H H') {a : Addr} {m : MO} (h : H a = some m.ho) (n : ¬ Fa a) : H' a = some m.ho := c.keep a _ h (.inl ⟨n, m.ntb⟩)
theorem Chg.sqD [Tb] {Fa : Addr → Prop} (c : Chg Fa H H') {a : Addr} {xs : List V} (h : SqD K H a xs) : SqD K H' a xs := by
  rcases h with ⟨o, h, n⟩ | h
  · exact .inl ⟨o, c.keep _ _ h (.inr rfl), n⟩
  · exact .inr h
theorem Chg.sqF [Tb] {Fa : Addr → Prop} (c : Chg Fa H H') {a : Addr} {xs : List V} (h : SqF K H a xs) : SqF K H' a xs := by
  rcases h with ⟨o, h⟩ | h
  · exact .inl ⟨o, c.keep _ _ h (.inr rfl)⟩
  · exact .inr h
mutual
theorem Own.chg [Tb] {Fa : Addr → Prop} (c : Chg Fa H H') : ∀ {d : D} {v : V} {F : List Addr}, Own K H d v F → (∀ a, a ∈ F → ¬ Fa a) → Own K H' d v F
  | _, _, _, .non, _ => .non
  | _, _, _, .bl b, _ => .bl b
  | _, _, _, .int b, _ => .int b
  | _, _, _, .str b, _ => .str b
  | _, _, _, .lst h t n, q => .lst (c.keep _ _ h (.inl ⟨q _ (List.mem_cons_self ..), rfl⟩)) (OwnA.chg c t fun a ha => q a (List.mem_cons_of_mem _ ha)) n
  | _, _, _, .frz h t, q => .frz (c.sqF h) (OwnA.chg c t q)
  | _, _, _, .frd h, q => .frd (c.keep _ _ h (.inr rfl))
  | _, _, _, .opq a, _ => .opq a
  | _, _, _, .dct h t n, q => .dct (c.keep _ _ h (.inl ⟨q _ (List.mem_cons_self ..), rfl⟩)) (OwnA.chg c t fun a ha => q a (List.mem_cons_of_mem _ ha)) n
  | _, _, _, .dcn h t t2, q => .dcn (c.keep _ _ h (.inl ⟨q _ (List.mem_cons_self ..), rfl⟩)) (OwnA.chg c t fun a ha => by cases ha) (OwnA.chg c t2 fun a ha => by cases ha)
  | _, _, _, .frk h t, q => .frk (c.keep _ _ h (.inr rfl)) (OwnA.chg c t fun a ha => by cases ha)
  | _, _, _, .frn h t t2, q => .frn (c.keep _ _ h (.inr rfl)) (OwnA.chg c t fun a ha => by cases ha) (OwnA.chg c t2 fun a ha => by cases ha)
  | _, _, _, .ins cn h t n, q => .ins cn (c.keep _ _ h (.inl ⟨q _ (List.mem_cons_self ..), rfl⟩)) (OwnA.chg c t fun a ha => q a (List.mem_cons_of_mem _ ha)) n
  | _, _, _, .tup h t, q => .tup (c.sqD h) (OwnA.chg c t q)
theorem OwnA.chg [Tb] {Fa : Addr → Prop} (c : Chg Fa H H') : ∀ {ds : List D} {vs : List V} {F : List Addr}, OwnA K H ds vs F → (∀ a, a ∈ F → ¬ Fa a) → OwnA K H' ds vs F
  | _, _, _, .nil, _ => .nil
  | _, _, _, .cons h t n, q => .cons (Own.chg c h fun a ha => q a (List.mem_append_left _ ha)) (OwnA.chg c t fun a ha => q a (List.mem_append_right _ ha)) n
end
theorem Own.same (h : Same H H') {d : D} {v : V} {F : List Addr} (o : Own K H d v F) : Own K H' d v F := o.chg (Fa := fun _ => False) (@Chg.same _ _ noTb _ h) fun _ _ z => z
theorem OwnA.len : ∀ {ds : List D} {vs : List V} {F : List Addr}, OwnA K H ds vs F → vs.length = ds.length
  | _, _, _, .nil => rfl
  | _, _, _, .cons _ t _ => by rw [List.length_cons, List.length_cons, OwnA.len t]
end
end Sim
namespace Sim
open PySem PySem.Spec L2
abbrev Fp := Nat → List Addr
def InF (Fs : Fp) : Addr → Prop := fun a => ∃ i, a ∈ Fs i
/-- what else stands while a body runs: an object whose fields are slots of their own (none, of a plain def) -/
class Vs where
  fp : Nat → List Addr
  lnk : St → Hp → Prop
  ok : Nat → Prop
  keep : ∀ {σ : St} {H H' : Hp}, lnk σ H → (∀ i a, a ∈ fp i → H' a = H a) → lnk σ H'
  put : ∀ {σ : St} {H : Hp} {i : Nat} {v : Option V}, ok i → (lnk (σ.set i v) H ↔ lnk σ H)
  mem : ∀ {σ : St} {H : Hp} {i : Nat} {a : Addr}, lnk σ H → a ∈ fp i → ∃ m : MO, H a = some m.ho
  nil : ∀ {i : Nat}, ok i → fp i = []
instance noVs : Vs := ⟨fun _ => [], fun _ _ => True, fun _ => True, fun _ _ => trivial, fun _ => Iff.rfl, fun _ h => by simp at h, fun _ => rfl⟩
/-- the slots' values, as they are told, stand -/
def Lk2 [Tb] [Vs] (σ : St) (H : Hp) : Prop := Vs.lnk σ H ∧ TabsOk H
structure RelS [Tb] [Vs] (K : PySem.W.Frag) (H : Hp) (s : Sg) (σ : St) (Fs : Fp) : Prop where
  len : s.length = σ.length
  has : ∀ i d, s[i]? = some (some d) → ∃ v, σ[i]? = some (some v) ∧ Own K H d v (Fs i)
  off : ∀ i, (∀ d, s[i]? ≠ some (some d)) → Fs i = Vs.fp i
  dis : ∀ i j a, a ∈ Fs i → a ∈ Fs j → i = j
  lnk : Lk2 σ H
  bse : ∀ i, Vs.fp i ≠ [] → ∀ d, s[i]? ≠ some (some d)
/-- from one heap to a later one -/
structure Ev [Tb] (H : Hp) (Fs : Fp) (H' : Hp) (Fs' : Fp) : Prop where
  chg : Chg (InF Fs) H H'
  new : ∀ i a, a ∈ Fs' i → a ∈ Fs i ∨ H a = none
section
variable [Tb] [Vs] {K : PySem.W.Frag} {H H1 H' : Hp} {s s' : Sg} {σ σ' : St} {Fs Fs1 Fs' : Fp}
theorem RelS.mem (R : RelS K H s σ Fs) {i : Nat} {a : Addr} (h : a ∈ Fs i) : ∃ xs : MO, H a = some xs.ho := by
  cases e : s[i]? with
  | none =>
    rw [R.off i (fun d z => by rw [e] at z; cases z)] at h
    exact Vs.mem R.lnk.1 h
  | some o =>
    cases o with
    | none =>
      rw [R.off i (fun d z => by rw [e] at z; cases z)] at h
      exact Vs.mem R.lnk.1 h
    | some d =>
      obtain ⟨v, _, q⟩ := R.has i d e
      exact q.mem a h
/-- a slot that holds an open object -/
theorem RelS.fpF (R : RelS K H s σ Fs) {i : Nat} {a : Addr} (h : a ∈ Vs.fp i) : a ∈ Fs i := by
  rw [R.off i (R.bse i (fun e => by rw [e] at h; cases h))]
  exact h
/-- what stands elsewhere is no open object -/
theorem RelS.nfp (R : RelS K H s σ Fs) {i j : Nat} {a : Addr} {d : D} (e : s[i]? = some (some d)) (h : a ∈ Fs i) : a ∉ Vs.fp j := fun z => by
  have := R.dis i j a h (R.fpF z)
  subst this
  exact R.bse i (fun e => by rw [e] at z; cases z) d e
/-- where the lists of told slots alone change -/
theorem RelS.lnk' (R : RelS K H s σ Fs) (k : ∀ i a, a ∈ Vs.fp i → H' a = H a) (t : TabsOk H') : Lk2 σ H' := ⟨Vs.keep R.lnk.1 k, t⟩
theorem RelS.lnkS (R : RelS K H s σ Fs) (h : Same H H') : Lk2 σ H' := R.lnk' (fun i a ha => by
  obtain ⟨m, e⟩ := Vs.mem R.lnk.1 ha
  rw [e]
  exact h _ _ e) (R.lnk.2.ext h)
theorem Ev.refl (H : Hp) (Fs : Fp) : Ev H Fs H Fs := ⟨.refl _ _, fun _ _ h => .inl h⟩
theorem Ev.same (Fs : Fp) (h : Same H H') : Ev H Fs H' Fs := ⟨.same h, fun _ _ h => .inl h⟩
theorem Ev.trans (a : Ev H Fs H1 Fs1) (b : Ev H1 Fs1 H' Fs') : Ev H Fs H' Fs' := by
  refine ⟨⟨fun x o e c => ?_, fun x e => a.chg.there x (b.chg.there x e), fun t => b.chg.tab (a.chg.tab t)⟩, fun i x h => ?_⟩
  · have e1 := a.chg.keep x o e c
    refine b.chg.keep x o e1 (c.imp (fun n => ⟨fun z => ?_, n.2⟩) id)
    obtain ⟨i, hi⟩ := z
    rcases a.new i x hi with q | q
    · exact n.1 ⟨i, q⟩
    · rw [e] at q; cases q
  · rcases b.new i x h with q | q
    · exact a.new i x q
    · exact .inr (a.chg.there x q)
theorem RelS.same (R : RelS K H s σ Fs) (h : Same H H') : RelS K H' s σ Fs :=
  ⟨R.len, fun i d e => by
    obtain ⟨v, hv, q⟩ := R.has i d e
    exact ⟨v, hv, q.same h⟩, R.off, R.dis, R.lnkS h, R.bse⟩
/-- what stands apart from the slots -/
structure Apart (K : PySem.W.Frag) (H : Hp) (Fs : Fp) (d : D) (v : V) (F : List Addr) : Prop where
  own : Own K H d v F
  dis : ∀ i a, a ∈ Fs i → a ∉ F
theorem Apart.ev {d : D} {v : V} {F : List Addr} (A : Apart K H Fs d v F) (e : Ev H Fs H' Fs') : Apart K H' Fs' d v F := by
  refine ⟨A.own.chg e.chg fun a ha ⟨i, hi⟩ => A.dis i a hi ha, fun i a hi ha => ?_⟩
  rcases e.new i a hi with q | q
  · exact A.dis i a q ha
  · obtain ⟨xs, z⟩ := A.own.mem a ha
    rw [q] at z; cases z
/-- operands as they came -/
inductive Rfs (K : PySem.W.Frag) (H : Hp) (σ : St) (Fs : Fp) : List Rf → List V → List (List Addr) → Prop
  | nil : Rfs K H σ Fs [] [] []
  | val {d : D} {v : V} {F : List Addr} {rs : List Rf} {vs : List V} {Gs : List (List Addr)} : Apart K H Fs d v F → (∀ G, G ∈ Gs → ∀ a, a ∈ F → a ∉ G) → Rfs K H σ Fs rs vs Gs → Rfs K H σ Fs (.val d :: rs) (v :: vs) (F :: Gs)
  | slot {i : Nat} {v : V} {rs : List Rf} {vs : List V} {Gs : List (List Addr)} : σ[i]? = some (some v) → Rfs K H σ Fs rs vs Gs → Rfs K H σ Fs (.slot i :: rs) (v :: vs) ([] :: Gs)
theorem Rfs.mem {rs : List Rf} {vs : List V} {Gs : List (List Addr)} (r : Rfs K H σ Fs rs vs Gs) : ∀ G, G ∈ Gs → ∀ a, a ∈ G → ∃ xs : MO, H a = some xs.ho := by
  induction r with
  | nil => intro G h; cases h
  | val A _ _ ih =>
    intro G h a ha
    rcases List.mem_cons.mp h with rfl | h
    · exact A.own.mem a ha
    · exact ih G h a ha
  | slot _ _ ih =>
    intro G h a ha
    rcases List.mem_cons.mp h with rfl | h
    · cases ha
    · exact ih G h a ha
theorem join_some {i : Nat} {d : D} (e : (s[i]?).join = some d) : s[i]? = some (some d) := by
  cases h : s[i]? with
  | none => rw [h] at e; cases e
  | some o => rw [h] at e; rw [show o = some d from e]
/-- values that are told -/
inductive RdA (K : PySem.W.Frag) (H : Hp) : List V → List D → Prop
  | nil : RdA K H [] []
  | cons {v : V} {d : D} {F : List Addr} {vs : List V} {ds : List D} : Own K H d v F → RdA K H vs ds → RdA K H (v :: vs) (d :: ds)
theorem Rfs.dp (R : RelS K H s σ Fs) {rs : List Rf} {vs : List V} {Gs : List (List Addr)} (r : Rfs K H σ Fs rs vs Gs) : ∀ {ds : List D}, rds rs s = some ds → RdA K H vs ds := by
  induction r with
  | nil => intro ds e; cases e; exact .nil
  | @val d v F rs vs Gs A _ _ ih =>
    intro ds e
    unfold rds at e
    simp only [rd] at e
    split at e
    · cases e
    · rename_i es h; cases e; exact .cons A.own (ih h)
  | @slot i v rs vs Gs hv _ ih =>
    intro ds e
    unfold rds at e
    simp only [rd] at e
    split at e
    · cases e
    · rename_i d hd
      split at e
      · cases e
      · rename_i es h
        cases e
        obtain ⟨v', hv', q⟩ := R.has _ _ (join_some hd)
        rw [hv] at hv'
        cases hv'
        exact .cons q (ih h)
/-- one operand as it came -/
inductive RfOk (K : PySem.W.Frag) (H : Hp) (σ : St) (Fs : Fp) : Rf → V → List Addr → Prop
  | val {d : D} {v : V} {F : List Addr} : Apart K H Fs d v F → RfOk K H σ Fs (.val d) v F
  | slot {i : Nat} {v : V} : σ[i]? = some (some v) → RfOk K H σ Fs (.slot i) v []
theorem RfOk.ev {r : Rf} {v : V} {F : List Addr} (h : RfOk K H σ Fs r v F) (e : Ev H Fs H' Fs') : RfOk K H' σ Fs' r v F := by
  cases h with
  | val A => exact .val (A.ev e)
  | slot h => exact .slot h
theorem RfOk.mem {r : Rf} {v : V} {F : List Addr} (h : RfOk K H σ Fs r v F) : ∀ a, a ∈ F → ∃ xs : MO, H a = some xs.ho := by
  cases h with
  | val A => exact A.own.mem
  | slot h => intro a h; cases h
theorem RfOk.dp (R : RelS K H s σ Fs) {r : Rf} {v : V} {F : List Addr} (h : RfOk K H σ Fs r v F) {d : D} (e : rd r s = some d) : ∃ F', Own K H d v F' := by
  cases h with
  | val A => cases e; exact ⟨_, A.own⟩
  | slot h =>
    obtain ⟨v', hv', q⟩ := R.has _ _ (join_some e)
    rw [h] at hv'
    cases hv'
    exact ⟨_, q⟩
end
section
variable [Tb] [Vs] (K : PySem.W.Frag)
def tO (g : O) : TE := fun σ H Q => ∃ s Fs r s', RelS K H s σ Fs ∧ g s = .ok r s' ∧
  ∀ v H' Fs' F, RelS K H' s' σ Fs' → Ev H Fs H' Fs' → RfOk K H' σ Fs' r v F → (∀ a, a ∈ F → H a = none) → Q v H'
def tA (g : AL) : TA := fun σ H Q => ∃ s Fs rs s', RelS K H s σ Fs ∧ g s = .ok rs s' ∧
  ∀ vs H' Fs' Gs, RelS K H' s' σ Fs' → Ev H Fs H' Fs' → Rfs K H' σ Fs' rs vs Gs → (∀ G, G ∈ Gs → ∀ a, a ∈ G → H a = none) → Q vs H'
def tT (g : T) : TT := fun σ H Q => ∃ s Fs b s', RelS K H s σ Fs ∧ g s = .ok b s' ∧ ∀ H' Fs', RelS K H' s' σ Fs' → Ev H Fs H' Fs' → Q b H'
end
def SimO [Tb] [Vs] (X : Cx) (e : Expr) (g : O) : Prop := PE X e (tO X.K g)
def SimA [Tb] [Vs] (X : Cx) (es : List Expr) (g : AL) : Prop := PA X es (tA X.K g)
def SimT [Tb] [Vs] (X : Cx) (e : Expr) (g : T) : Prop := PT X e (tT X.K g)
theorem pe_imp {X : Cx} {e : Expr} {t t' : TE} (h : PE X e t) (i : ∀ σ H Q, t' σ H Q → t σ H Q) : PE X e t' := ⟨fun pins s σ H Q I q => h.run pins s σ H Q I (i σ H Q q)⟩
theorem pt_imp {X : Cx} {e : Expr} {t t' : TT} (h : PT X e t) (i : ∀ σ H Q, t' σ H Q → t σ H Q) : PT X e t' := ⟨fun pins s σ H Q I q => h.run pins s σ H Q I (i σ H Q q)⟩
theorem pa_imp {X : Cx} {e : List Expr} {t t' : TA} (h : PA X e t) (i : ∀ σ H Q, t' σ H Q → t σ H Q) : PA X e t' := ⟨fun pos pins s σ H Q I q => h.run pos pins s σ H Q I (i σ H Q q)⟩
def aNil : AL := fun s => .ok [] s
def aCons (g : O) (h : AL) : AL := fun s => (g s).bind fun r s1 => (h s1).bind fun rs s2 => .ok (r :: rs) s2
section
variable [Tb] [Vs] {X : Cx} {K : PySem.W.Frag}
theorem tA_nil {σ : St} {H : Hp} {Q : List V → Hp → Prop} (h : tA K aNil σ H Q) : tNil σ H Q := by
  obtain ⟨s, Fs, rs, s', R, e, q⟩ := h
  cases e
  exact q [] H Fs [] R (.refl _ _) .nil (by intro G h; cases h)
theorem tA_cons {g : O} {gs : AL} {σ : St} {H : Hp} {Q : List V → Hp → Prop} (h : tA K (aCons g gs) σ H Q) : tCons (tO K g) (tA K gs) σ H Q := by
  obtain ⟨s, Fs, rs, s', R, e, q⟩ := h
  obtain ⟨r, s1, e1, e⟩ := bind_inv e
  obtain ⟨rs1, s2, e2, e⟩ := bind_inv e
  cases e
  refine ⟨s, Fs, r, s1, R, e1, fun v H1 Fs1 F R1 E1 k1 n1 => ⟨s1, Fs1, rs1, s', R1, e2, fun vs H2 Fs2 Gs R2 E2 k2 n2 => ?_⟩⟩
  have k1' := k1.ev E2
  have nn : ∀ G, G ∈ Gs → ∀ a, a ∈ G → H a = none := fun G hG a ha => E1.chg.there a (n2 G hG a ha)
  cases k1' with
  | val A =>
    refine q _ H2 Fs2 (F :: Gs) R2 (E1.trans E2) (.val A (fun G hG a ha hb => ?_) k2) (fun G hG a ha => ?_)
    · obtain ⟨xs, z⟩ := k1.mem a ha
      rw [n2 G hG a hb] at z; cases z
    · rcases List.mem_cons.mp hG with rfl | hG
      · exact n1 a ha
      · exact nn G hG a ha
  | slot hv =>
    refine q _ H2 Fs2 ([] :: Gs) R2 (E1.trans E2) (.slot hv k2) (fun G hG a ha => ?_)
    rcases List.mem_cons.mp hG with rfl | hG
    · cases ha
    · exact nn G hG a ha
theorem sa_nil : SimA X [] aNil := pa_imp pa_nil fun _ _ _ h => tA_nil h
theorem sa_cons {e : Expr} {es : List Expr} {g : O} {gs : AL} (ha : SimO X e g) (hr : SimA X es gs) (hs : starEach (e :: es) X.env = (false, eval e X.env) :: starEach es X.env := by rfl) : SimA X (e :: es) (aCons g gs) :=
  pa_imp (pa_cons ha hr hs) fun _ _ _ h => tA_cons h
theorem tO_mono {g : O} {σ : St} {H : Hp} {Q Q' : VK} (i : ∀ v H, Q v H → Q' v H) (h : tO K g σ H Q) : tO K g σ H Q' := by
  obtain ⟨s, Fs, r, s', R, e, q⟩ := h
  exact ⟨s, Fs, r, s', R, e, fun v H' Fs' F a b c d => i _ _ (q v H' Fs' F a b c d)⟩
theorem tA_mono {g : AL} {σ : St} {H : Hp} {Q Q' : List V → Hp → Prop} (i : ∀ v H, Q v H → Q' v H) (h : tA K g σ H Q) : tA K g σ H Q' := by
  obtain ⟨s, Fs, r, s', R, e, q⟩ := h
  exact ⟨s, Fs, r, s', R, e, fun v H' Fs' F a b c d => i _ _ (q v H' Fs' F a b c d)⟩
theorem tA1 {a : O} {σ : St} {H : Hp} {Q : List V → Hp → Prop} (h : tA K (aCons a aNil) σ H Q) : tO K a σ H fun x H1 => Q [x] H1 :=
  tO_mono (fun _ _ h => by have z := tA_nil h; exact z) (tA_cons h)
theorem tA2 {a b : O} {σ : St} {H : Hp} {Q : List V → Hp → Prop} (h : tA K (aCons a (aCons b aNil)) σ H Q) : tO K a σ H fun x H1 => tO K b σ H1 fun y H2 => Q [x, y] H2 :=
  tO_mono (fun _ _ h => by have z := tA1 h; exact z) (tA_cons h)
end
def NewV (K : PySem.W.Frag) (H : Hp) (d : D) (v : V) (H' : Hp) : Prop := Same H H' ∧ ∃ F, Own K H' d v F ∧ ∀ a, a ∈ F → H a = none
def PrimR (K : PySem.W.Frag) (r : List V → Hp → VK → Prop) (f : List D → Option D) : Prop :=
  ∀ vs ds d H Q, RdA K H vs ds → f ds = some d → (∀ v H', NewV K H d v H' → Q v H') → r vs H Q
def oPrim (f : List D → Option D) (g : AL) : O := fun s => (g s).bind fun rs s1 => match rds rs s1 with
  | none => .bad
  | some ds => match f ds with
    | none => .bad
    | some d => .ok (.val d) s1
section
variable [Tb] [Vs] {X : Cx} {K : PySem.W.Frag} {H H' : Hp}
theorem NewV.ok {s : Sg} {σ : St} {Fs : Fp} {d : D} {v : V} (R : RelS K H s σ Fs) (h : NewV K H d v H') : RelS K H' s σ Fs ∧ Ev H Fs H' Fs ∧ ∃ F, RfOk K H' σ Fs (.val d) v F ∧ ∀ a, a ∈ F → H a = none := by
  obtain ⟨sm, F, o, n⟩ := h
  refine ⟨R.same sm, .same _ sm, F, .val ⟨o, fun i a hi ha => ?_⟩, n⟩
  obtain ⟨xs, z⟩ := R.mem hi
  rw [n a ha] at z; cases z
theorem prim {r : List V → Hp → VK → Prop} {f : List D → Option D} {g : AL} (hp : PrimR K r f) {σ : St} {H : Hp} {Q : VK} (h : tO K (oPrim f g) σ H Q) : tA K g σ H fun vs H1 => r vs H1 Q := by
  obtain ⟨s, Fs, rf, s', R, e, q⟩ := h
  obtain ⟨rs, s1, e1, e⟩ := bind_inv e
  refine ⟨s, Fs, rs, s1, R, e1, fun vs H1 Fs1 Gs R1 E1 k1 n1 => ?_⟩
  split at e
  · cases e
  · rename_i ds hds
    split at e
    · cases e
    · rename_i d hd
      cases e
      refine hp vs ds d H1 Q (k1.dp R1 hds) hd fun v H2 hv => ?_
      obtain ⟨R2, E2, F, k, n⟩ := hv.ok R1
      exact q v H2 Fs1 F R2 (E1.trans E2) k fun a ha => E1.chg.there a (n a ha)
theorem NewV.sc {d : D} {v : V} (h : Own K H d v []) : NewV K H d v H := ⟨Same.refl _, [], h, fun _ z => by cases z⟩
theorem NewV.pu {d : D} {v : V} {F : List Addr} (h : Own K H d v F) (p : pur d = true) : NewV K H d v H := .sc (by rw [h.pur p] at h; exact h)
/-- a new object -/
theorem same_new {a : Addr} {o : HO} (h : H a = none) : Same H (upd H a o) := fun b x e => by rw [upd_ne (ne_of_none e h)]; exact e
theorem NewV.tup {ds : List D} {vs : List V} {a : Addr} {o : Obj} (h : OwnA K H ds vs []) (n : H a = none) (nd : o.dict = none) : NewV K H (.tuple ds) (.ref a) (upd H a (.frz o (.tup vs))) := by
  have sm : Same H (upd H a (.frz o (.tup vs))) := same_new n
  exact ⟨sm, [], .tup (SqD.of upd_same nd) (h.chg (Fa := fun _ => False) (.same sm) fun _ _ z => z), fun _ z => by cases z⟩
theorem NewV.lst {ds : List D} {vs : List V} {a : Addr} (h : OwnA K H ds vs []) (n : H a = none) : NewV K H (.list ds) (.ref a) (upd H a (.lst vs)) := by
  have sm : Same H (upd H a (.lst vs)) := same_new n
  exact ⟨sm, [a], .lst upd_same (h.chg (Fa := fun _ => False) (.same sm) fun _ _ z => z) (by simp), fun b z => by rw [List.mem_singleton.mp z]; exact n⟩
end
end Sim
namespace Sim
open PySem PySem.Spec L2
theorem big_le : 1000000 ≤ sizeLine := by decide
def u2 (r : R2) : List V → Hp → VK → Prop
  | [x, y], H, Q => r x y H Q
  | _, _, _ => False
def u1 (r : V → Hp → VK → Prop) : List V → Hp → VK → Prop
  | [x], H, Q => r x H Q
  | _, _, _ => False
def mulOk (a b : Int) : Bool := (decide (-(2 ^ 64) < a) && decide (a < 2 ^ 64)) || (decide (-(2 ^ 64) < b) && decide (b < 2 ^ 64)) || decide (a.natAbs.log2 + b.natAbs.log2 < 1000000)
def pAdd : List D → Option D
  | [.int a, .int b] => some (.int (a + b))
  | [.str a, .str b] => if a.length + b.length ≤ 1000000 then some (.str (a ++ b)) else none
  | [.list a, .list b] => if a.length + b.length ≤ 1000000 ∧ purs a = true ∧ purs b = true then some (.list (a ++ b)) else none
  | [.tuple a, .tuple b] => if a.length + b.length ≤ 1000000 ∧ purs a = true ∧ purs b = true then some (.tuple (a ++ b)) else none
  | _ => none
def pSub : List D → Option D
  | [.int a, .int b] => some (.int (a - b))
  | _ => none
def pMul : List D → Option D
  | [.int a, .int b] => if mulOk a b = true then some (.int (a * b)) else none
  | [.tuple a, .int b] => if -1000 ≤ b ∧ b ≤ 1000 ∧ a.length ≤ 1000 ∧ purs a = true then some (.tuple (List.replicate b.toNat a).flatten) else none
  | [.list a, .int b] => if b < 2 ^ 63 ∧ -(2 ^ 63) ≤ b ∧ a.length * b.toNat ≤ 1000000 ∧ purs a = true then some (.list (List.replicate b.toNat a).flatten) else none
  | _ => none
def pDiv : List D → Option D
  | [.int a, .int b] => if 0 < b ∧ b.natAbs.log2 < 9000 then some (.int (a / b)) else none
  | _ => none
def pMod : List D → Option D
  | [.int a, .int b] => if 0 < b then some (.int (a % b)) else none
  | _ => none
def pPow : List D → Option D
  | [.int a, .int b] => if 0 ≤ b ∧ b ≤ 1000000 ∧ a.natAbs < 2 ^ 64 then some (.int (a ^ b.toNat)) else none
  | _ => none
def pShl : List D → Option D
  | [.int a, .int b] => if 0 ≤ b ∧ b ≤ 1000000 ∧ a.natAbs < 2 ^ 64 then some (.int (a * 2 ^ b.toNat)) else none
  | _ => none
def pNeg : List D → Option D
  | [.int a] => some (.int (-a))
  | _ => none
def pLt : List D → Option D
  | [.int a, .int b] => some (.bool (decide (a < b)))
  | _ => none
def pLe : List D → Option D
  | [.int a, .int b] => some (.bool (decide (a ≤ b)))
  | _ => none
def pGt : List D → Option D
  | [.int a, .int b] => some (.bool (decide (b < a)))
  | _ => none
def pGe : List D → Option D
  | [.int a, .int b] => some (.bool (decide (b ≤ a)))
  | _ => none
/-- what may be compared by == -/
def shp (d : D) : Bool := SeqAt.shaped d && noD d
def pEq : List D → Option D
  | [a, b] => if shp a = true ∧ shp b = true then some (.bool (PyData.eqv a b)) else none
  | _ => none
def pNe : List D → Option D
  | [a, b] => if shp a = true ∧ shp b = true then some (.bool (!PyData.eqv a b)) else none
  | _ => none
def isN : D → Bool
  | .none => true
  | _ => false
def pIsN : List D → Option D
  | [a, .none] => some (.bool (isN a))
  | [.bool a, .bool b] => some (.bool (decide (a = b)))
  | _ => none
def pNotN : List D → Option D
  | [a, .none] => some (.bool (!isN a))
  | [.bool a, .bool b] => some (.bool (!decide (a = b)))
  | _ => none
def pIn : List D → Option D
  | [a, .list b] => if shp a = true ∧ shp (.list b) = true then some (.bool (b.any fun z => PyData.eqv z a)) else none
  | [a, .tuple b] => if fl a = true ∧ b.all fl = true then some (.bool (b.any fun z => PyData.eqv z a)) else none
  | [.str a, .str b] => some (.bool (!(Builtin.Str.occurrences b a 0 b.length 1).isEmpty))
  | _ => none
where fl : D → Bool
  | .none => true
  | .bool _ => true
  | .int _ => true
  | .str _ => true
  | _ => false
def pNotIn : List D → Option D
  | [a, .list b] => if shp a = true ∧ shp (.list b) = true then some (.bool (!b.any fun z => PyData.eqv z a)) else none
  | [a, .tuple b] => if pIn.fl a = true ∧ b.all pIn.fl = true then some (.bool (!b.any fun z => PyData.eqv z a)) else none
  | _ => none
section
variable {K : PySem.W.Frag}
theorem RdA.two {H : Hp} {vs : List V} {a b : D} (h : RdA K H vs [a, b]) : ∃ x y F G, vs = [x, y] ∧ Own K H a x F ∧ Own K H b y G := by
  cases h with
  | cons o h =>
    cases h with
    | cons o2 h =>
      cases h
      exact ⟨_, _, _, _, rfl, o, o2⟩
theorem RdA.one {H : Hp} {vs : List V} {a : D} (h : RdA K H vs [a]) : ∃ x F, vs = [x] ∧ Own K H a x F := by
  cases h with
  | cons o h =>
    cases h
    exact ⟨_, _, rfl, o⟩
theorem RdA.zero {H : Hp} {vs : List V} (h : RdA K H vs []) : vs = [] := by
  cases h
  rfl
theorem purs_app {a b : List D} : purs (a ++ b) = (purs a && purs b) := by
  induction a with
  | nil => simp [purs]
  | cons x a ih => simp [purs, ih, Bool.and_assoc]
theorem OwnA.nil2 {H : Hp} {v : V} {vs : List V} {d : D} {ds : List D} (h : OwnA K H (d :: ds) (v :: vs) []) : Own K H d v [] ∧ OwnA K H ds vs [] := by
  generalize e : ([] : List Addr) = F at h
  cases h with
  | @cons _ _ _ _ F G o t n =>
    have e1 : F = [] ∧ G = [] := List.append_eq_nil_iff.mp e.symm
    obtain ⟨rfl, rfl⟩ := e1
    exact ⟨o, t⟩
theorem OwnA.cons0 {H : Hp} {v : V} {vs : List V} {d : D} {ds : List D} (o : Own K H d v []) (t : OwnA K H ds vs []) : OwnA K H (d :: ds) (v :: vs) [] := OwnA.cons (F := []) (G := []) o t (by simp)
theorem OwnA.app {H : Hp} : ∀ {as bs : List D} {vs ws : List V}, OwnA K H as vs [] → OwnA K H bs ws [] → OwnA K H (as ++ bs) (vs ++ ws) []
  | [], _, [], _, _, g => g
  | _ :: _, _, _ :: _, _, h, g => .cons0 h.nil2.1 (OwnA.app h.nil2.2 g)
  | [], _, _ :: _, _, h, _ => nomatch h
  | _ :: _, _, [], _, h, _ => nomatch h
theorem OwnA.rep {H : Hp} {as : List D} {vs : List V} (h : OwnA K H as vs []) : ∀ k : Nat, OwnA K H (List.replicate k as).flatten (List.replicate k vs).flatten []
  | 0 => .nil
  | k + 1 => by
    rw [List.replicate_succ, List.replicate_succ, List.flatten_cons, List.flatten_cons]
    exact h.app (OwnA.rep h k)
theorem OwnA.take {H : Hp} : ∀ {as : List D} {vs : List V}, OwnA K H as vs [] → ∀ n, OwnA K H (as.take n) (vs.take n) []
  | [], [], _, _ => by simp; exact .nil
  | _ :: _, _ :: _, _, 0 => .nil
  | _ :: _, _ :: _, h, n + 1 => .cons0 h.nil2.1 (OwnA.take h.nil2.2 n)
  | [], _ :: _, h, _ => nomatch h
  | _ :: _, [], h, _ => nomatch h
theorem OwnA.drop {H : Hp} : ∀ {as : List D} {vs : List V}, OwnA K H as vs [] → ∀ n, OwnA K H (as.drop n) (vs.drop n) []
  | [], [], _, _ => by simp; exact .nil
  | _ :: _, _ :: _, h, 0 => h
  | _ :: _, _ :: _, h, n + 1 => OwnA.drop h.nil2.2 n
  | [], _ :: _, h, _ => nomatch h
  | _ :: _, [], h, _ => nomatch h
theorem OwnA.get {H : Hp} : ∀ {as : List D} {vs : List V} {F : List Addr}, OwnA K H as vs F → ∀ (i : Nat) (d : D), as[i]? = some d → ∃ v G, vs[i]? = some v ∧ Own K H d v G ∧ ∀ a, a ∈ G → a ∈ F
  | [], _, _, _, i, d, e => by simp at e
  | d :: ds, _, _, h, 0, d', e => by
    simp at e
    subst e
    cases h with
    | cons o t n => exact ⟨_, _, rfl, o, fun a h => List.mem_append_left _ h⟩
  | d :: ds, _, _, h, i + 1, d', e => by
    cases h with
    | cons o t n =>
      obtain ⟨v', G', h1, h2, h3⟩ := OwnA.get t i d' (by simpa using e)
      exact ⟨v', G', by simpa using h1, h2, fun a h => List.mem_append_right _ (h3 a h)⟩
def rAddA (K : PySem.W.Frag) : R2 := fun x y H Q => rI0 (fun i j => .int (i + j)) x y H Q ∨ (∃ i j, x = .str i ∧ y = .str j ∧ i.length + j.length ≤ sizeLine ∧ Q (.str (i ++ j)) H) ∨ rCat x y H Q ∨ rCatD K x y H Q
theorem op_addA {X : Cx} : OpR X (binaryOp .Add) (rAddA X.K) := op_add.or (op_add_str.or (op_cat.or op_catD))
theorem pr_add : PrimR K (u2 (rAddA K)) pAdd := by
  intro vs ds d H Q h e q
  unfold pAdd at e
  split at e
  · obtain ⟨x, y, F, G, rfl, o1, o2⟩ := h.two
    cases o1; cases o2; cases e
    exact .inl ⟨_, _, rfl, rfl, q _ _ (.sc (.int _))⟩
  · obtain ⟨x, y, F, G, rfl, o1, o2⟩ := h.two
    split at e
    · rename_i hl
      cases o1; cases o2; cases e
      exact .inr (.inl ⟨_, _, rfl, rfl, Nat.le_trans hl big_le, q _ _ (.sc (.str _))⟩)
    · cases e
  · obtain ⟨x, y, F, G, rfl, o1, o2⟩ := h.two
    split at e
    · rename_i hl
      cases e
      cases o1 with
      | lst e1 t1 n1 =>
        cases o2 with
        | lst e2 t2 n2 =>
          have l1 := t1.len
          have l2 := t2.len
          refine .inr (.inr (.inl ⟨_, _, _, _, rfl, rfl, e1, e2, by have := big_le; omega, fun p hp => q _ _ (.lst ?_ hp)⟩))
          have p1 := t1.pur hl.2.1
          have p2 := t2.pur hl.2.2
          subst p1; subst p2
          exact t1.app t2
    · cases e
  · obtain ⟨x, y, F, G, rfl, o1, o2⟩ := h.two
    split at e
    · rename_i a b hl
      cases e
      cases o1 with
      | tup e1 t1 =>
        cases o2 with
        | tup e2 t2 =>
          have l1 := t1.len
          have l2 := t2.len
          have p1 := t1.pur hl.2.1
          have p2 := t2.pur hl.2.2
          subst p1; subst p2
          refine .inr (.inr (.inr ⟨_, _, _, _, rfl, rfl, e1.sq, e2.sq, by have := big_le; omega, fun z => ?_, fun _ z => ?_, fun _ _ p o hp hn => q _ _ (.tup (t1.app t2) hp hn)⟩))
          · subst z
            cases t1
            exact q _ _ (.sc (.tup e2 t2))
          · subst z
            cases t2
            rw [List.append_nil] at q
            exact q _ _ (.sc (.tup e1 t1))
    · cases e
  · cases e
theorem pr_sub : PrimR K (u2 (rI0 fun i j => .int (i - j))) pSub := by
  intro vs ds d H Q h e q
  unfold pSub at e
  split at e
  · obtain ⟨x, y, F, G, rfl, o1, o2⟩ := h.two
    cases o1; cases o2; cases e
    exact ⟨_, _, rfl, rfl, q _ _ (.sc (.int _))⟩
  · cases e
def CMulA (i j : Int) : Prop := CMul i j ∨ CMulW i j
theorem CMulA.ok {i j : Int} (h : CMulA i j) : IntMulOk i j := h.elim CMul.ok CMulW.ok
def rMulA (K : PySem.W.Frag) : R2 := fun x y H Q => rI CMulA (fun i j => .int (i * j)) x y H Q ∨ rRep x y H Q ∨ rRepD K x y H Q
theorem op_mulA {X : Cx} : OpR X (binaryOp .Mult) (rMulA X.K) := (opI fun _ _ _ _ _ _ _ hc q => PyProof.Rows.mul_int q hc.ok).or (op_rep.or op_repD)
theorem pr_mul : PrimR K (u2 (rMulA K)) pMul := by
  intro vs ds d H Q h e q
  unfold pMul at e
  split at e
  · obtain ⟨x, y, F, G, rfl, o1, o2⟩ := h.two
    split at e
    · rename_i hm
      cases o1; cases o2; cases e
      refine .inl ⟨_, _, rfl, rfl, ?_, q _ _ (.sc (.int _))⟩
      unfold mulOk at hm
      simp only [Bool.or_eq_true, Bool.and_eq_true, decide_eq_true_eq] at hm
      rcases hm with hm | hm
      · exact .inl hm
      · exact .inr hm
    · cases e
  · obtain ⟨x, y, F, G, rfl, o1, o2⟩ := h.two
    split at e
    · rename_i hm
      cases o2; cases e
      cases o1 with
      | tup e1 t1 =>
        have p1 := t1.pur hm.2.2.2
        subst p1
        have l1 := t1.len
        refine .inr (.inr ⟨_, _, _, rfl, rfl, e1.sq, hm.1, hm.2.1, by omega, fun z => ?_, fun _ _ p o hp hn => q _ _ (.tup (t1.rep _) hp hn)⟩)
        rcases z with z | z
        · subst z
          have e0 := t1.len
          cases t1
          rw [List.flatten_replicate_nil] at q
          exact q _ _ (.sc (.tup e1 .nil))
        · subst z
          simp only [Int.toNat_one, List.replicate_one, List.flatten_singleton] at q
          exact q _ _ (.sc (.tup e1 t1))
    · cases e
  · obtain ⟨x, y, F, G, rfl, o1, o2⟩ := h.two
    split at e
    · rename_i hm
      cases o2; cases e
      cases o1 with
      | lst e1 t1 n1 =>
        have l1 := t1.len
        have p1 := t1.pur hm.2.2.2
        subst p1
        refine .inr (.inl ⟨_, _, _, rfl, rfl, e1, hm.2.1, hm.1, ?_, fun p hp => q _ _ (.lst (t1.rep _) hp)⟩)
        rw [l1]
        exact Nat.le_trans hm.2.2.1 big_le
    · cases e
  · cases e
theorem pr_div : PrimR K (u2 (rI CDivW fun i j => .int (i / j))) pDiv := by
  intro vs ds d H Q h e q
  unfold pDiv at e
  split at e
  · obtain ⟨x, y, F, G, rfl, o1, o2⟩ := h.two
    split at e
    · rename_i hm
      cases o1; cases o2; cases e
      exact ⟨_, _, rfl, rfl, hm, q _ _ (.sc (.int _))⟩
    · cases e
  · cases e
theorem pr_mod : PrimR K (u2 (rI (fun _ j => 0 < j) fun i j => .int (i % j))) pMod := by
  intro vs ds d H Q h e q
  unfold pMod at e
  split at e
  · obtain ⟨x, y, F, G, rfl, o1, o2⟩ := h.two
    split at e
    · rename_i hm
      cases o1; cases o2; cases e
      exact ⟨_, _, rfl, rfl, hm, q _ _ (.sc (.int _))⟩
    · cases e
  · cases e
theorem pr_pow : PrimR K (u2 (rI CPow fun i j => .int (i ^ j.toNat))) pPow := by
  intro vs ds d H Q h e q
  unfold pPow at e
  split at e
  · obtain ⟨x, y, F, G, rfl, o1, o2⟩ := h.two
    split at e
    · rename_i hm
      cases o1; cases o2; cases e
      exact ⟨_, _, rfl, rfl, hm, q _ _ (.sc (.int _))⟩
    · cases e
  · cases e
theorem pr_shl : PrimR K (u2 (rI CPow fun i j => .int (i * 2 ^ j.toNat))) pShl := by
  intro vs ds d H Q h e q
  unfold pShl at e
  split at e
  · obtain ⟨x, y, F, G, rfl, o1, o2⟩ := h.two
    split at e
    · rename_i hm
      cases o1; cases o2; cases e
      exact ⟨_, _, rfl, rfl, hm, q _ _ (.sc (.int _))⟩
    · cases e
  · cases e
theorem pr_neg : PrimR K (u1 (rU fun i => .int (-i))) pNeg := by
  intro vs ds d H Q h e q
  unfold pNeg at e
  split at e
  · obtain ⟨x, F, rfl, o1⟩ := h.one
    cases o1; cases e
    exact ⟨_, rfl, q _ _ (.sc (.int _))⟩
  · cases e
theorem pr_lt : PrimR K (u2 (rI0 fun i j => .bl (decide (i < j)))) pLt := by
  intro vs ds d H Q h e q
  unfold pLt at e
  split at e
  · obtain ⟨x, y, F, G, rfl, o1, o2⟩ := h.two
    cases o1; cases o2; cases e
    exact ⟨_, _, rfl, rfl, q _ _ (.sc (.bl _))⟩
  · cases e
theorem pr_gt : PrimR K (u2 (rI0 fun i j => .bl (decide (j < i)))) pGt := by
  intro vs ds d H Q h e q
  unfold pGt at e
  split at e
  · obtain ⟨x, y, F, G, rfl, o1, o2⟩ := h.two
    cases o1; cases o2; cases e
    exact ⟨_, _, rfl, rfl, q _ _ (.sc (.bl _))⟩
  · cases e
theorem pr_ge : PrimR K (u2 (rI0 fun i j => .bl (decide (j ≤ i)))) pGe := by
  intro vs ds d H Q h e q
  unfold pGe at e
  split at e
  · obtain ⟨x, y, F, G, rfl, o1, o2⟩ := h.two
    cases o1; cases o2; cases e
    exact ⟨_, _, rfl, rfl, q _ _ (.sc (.bl _))⟩
  · cases e
theorem pr_eq : PrimR K (u2 (rEqD K)) pEq := by
  intro vs ds d H Q h e q
  unfold pEq at e
  split at e
  · obtain ⟨x, y, F, G, rfl, o1, o2⟩ := h.two
    split at e
    · rename_i hm
      cases e
      simp only [shp, Bool.and_eq_true] at hm
      exact ⟨_, _, o1.dp hm.1.2, o2.dp hm.2.2, hm.1.1, hm.2.1, q _ _ (.sc (.bl _))⟩
    · cases e
  · cases e
theorem pr_ne : PrimR K (u2 (rNeD K)) pNe := by
  intro vs ds d H Q h e q
  unfold pNe at e
  split at e
  · obtain ⟨x, y, F, G, rfl, o1, o2⟩ := h.two
    split at e
    · rename_i hm
      cases e
      simp only [shp, Bool.and_eq_true] at hm
      exact ⟨_, _, o1.dp hm.1.2, o2.dp hm.2.2, hm.1.1, hm.2.1, q _ _ (.sc (.bl _))⟩
    · cases e
  · cases e
theorem eqV_eqv {H : Hp} {a b : D} {x y : V} {F G : List Addr} (o : Own K H a x F) (o2 : Own K H b y G) (h1 : pIn.fl a = true) (h2 : pIn.fl b = true) : eqV x y = PyData.eqv a b ∧ flatV x = true ∧ flatV y = true := by
  cases o <;> simp [pIn.fl] at h1 <;> cases o2 <;> simp [pIn.fl] at h2 <;> refine ⟨?_, rfl, rfl⟩ <;> simp [eqV, PyData.eqv]
theorem inV_any {H : Hp} {a : D} {x : V} {F : List Addr} (o : Own K H a x F) (h1 : pIn.fl a = true) : ∀ {bs : List D} {ys : List V} {G : List Addr}, OwnA K H bs ys G → bs.all pIn.fl = true →
    inV x ys = (bs.any fun z => PyData.eqv z a) ∧ ys.all flatV = true
  | [], _, _, t, _ => by cases t; exact ⟨rfl, rfl⟩
  | d :: ds, _, _, t, h2 => by
    cases t with
    | cons o' t n =>
      rw [List.all_cons, Bool.and_eq_true] at h2
      obtain ⟨h3, h4⟩ := inV_any o h1 t h2.2
      obtain ⟨e1, e2, e3⟩ := eqV_eqv o' o h2.1 h1
      unfold inV at h3 ⊢
      rw [List.any_cons, List.any_cons, e1, h3, List.all_cons, e2, h4]
      exact ⟨rfl, rfl⟩
def rInA (K : PySem.W.Frag) : R2 := fun x y H Q => rInD K x y H Q ∨ rIn K false x y H Q ∨ (∃ i j, x = .str i ∧ y = .str j ∧ Q (.bl (!(Builtin.Str.occurrences j i 0 j.length 1).isEmpty)) H)
theorem op_inA {X : Cx} (hu : X.A.units + 65 < cLine) : OpR X (compareOp .In) (rInA X.K) := (op_inD hu).or (op_in_seq.or op_in_str)
theorem pr_in : PrimR K (u2 (rInA K)) pIn := by
  intro vs ds d H Q h e q
  unfold pIn at e
  split at e
  · obtain ⟨x, y, F, G, rfl, o1, o2⟩ := h.two
    split at e
    · rename_i hm
      cases e
      simp only [shp, Bool.and_eq_true] at hm
      exact .inl ⟨_, _, o1.dp hm.1.2, o2.dp hm.2.2, hm.1.1, hm.2.1, q _ _ (.sc (.bl _))⟩
    · cases e
  · obtain ⟨x, y, F, G, rfl, o1, o2⟩ := h.two
    split at e
    · rename_i hm
      cases e
      cases o2 with
      | tup e2 t2 =>
        obtain ⟨h3, h4⟩ := inV_any o1 hm.1 t2 hm.2
        refine .inr (.inl ⟨_, _, rfl, .inr e2.sq, ?_, h4, ?_⟩)
        · exact (eqV_eqv o1 o1 hm.1 hm.1).2.1
        · rw [if_neg (by simp), h3]
          exact q _ _ (.sc (.bl _))
    · cases e
  · obtain ⟨x, y, F, G, rfl, o1, o2⟩ := h.two
    cases o1; cases o2; cases e
    exact .inr (.inr ⟨_, _, rfl, rfl, q _ _ (.sc (.bl _))⟩)
  · cases e
def rNotInA (K : PySem.W.Frag) : R2 := fun x y H Q => rNotInD K x y H Q ∨ rIn K true x y H Q
theorem op_notInA {X : Cx} (hu : X.A.units + 65 < cLine) : OpR X (compareOp .NotIn) (rNotInA X.K) := (op_notInD hu).or op_notIn_seq
theorem pr_notin : PrimR K (u2 (rNotInA K)) pNotIn := by
  intro vs ds d H Q h e q
  unfold pNotIn at e
  split at e
  · obtain ⟨x, y, F, G, rfl, o1, o2⟩ := h.two
    split at e
    · rename_i hm
      cases e
      simp only [shp, Bool.and_eq_true] at hm
      exact .inl ⟨_, _, o1.dp hm.1.2, o2.dp hm.2.2, hm.1.1, hm.2.1, q _ _ (.sc (.bl _))⟩
    · cases e
  · obtain ⟨x, y, F, G, rfl, o1, o2⟩ := h.two
    split at e
    · rename_i hm
      cases e
      cases o2 with
      | tup e2 t2 =>
        obtain ⟨h3, h4⟩ := inV_any o1 hm.1 t2 hm.2
        refine .inr ⟨_, _, rfl, .inr e2.sq, ?_, h4, ?_⟩
        · exact (eqV_eqv o1 o1 hm.1 hm.1).2.1
        · rw [if_pos rfl, h3]
          exact q _ _ (.sc (.bl _))
    · cases e
  · cases e
end
end Sim
namespace Sim
open PySem PySem.Spec L2
def oV (i : Nat) : O := fun s => match (s[i]?).join with
  | some _ => .ok (.slot i) s
  | none => .bad
def oC (d : D) : O := fun s => .ok (.val d) s
def o1 (f : List D → Option D) (a : O) : O := oPrim f (aCons a aNil)
def o2 (f : List D → Option D) (a b : O) : O := oPrim f (aCons a (aCons b aNil))
def tst (g : O) : T := fun s => (g s).bind fun r s1 => match rd r s1 with
  | some (.bool b) => .ok b s1
  | _ => .bad
def oAnd (g h : O) : O := fun s => (g s).bind fun r s1 => match rd r s1 with
  | some (.bool true) => h s1
  | some (.bool false) => .ok (.val (.bool false)) s1
  | _ => .bad
def oOr (g h : O) : O := fun s => (g s).bind fun r s1 => match rd r s1 with
  | some (.bool true) => .ok (.val (.bool true)) s1
  | some (.bool false) => h s1
  | _ => .bad
def oNot (g : O) : O := fun s => (g s).bind fun r s1 => match rd r s1 with
  | some (.bool b) => .ok (.val (.bool (!b))) s1
  | _ => .bad
def tAnd (t u : T) : T := fun s => (t s).bind fun b s1 => if b = true then u s1 else .ok false s1
def tOr (t u : T) : T := fun s => (t s).bind fun b s1 => if b = true then .ok true s1 else u s1
def tNot (t : T) : T := fun s => (t s).bind fun b s1 => .ok (!b) s1
def oIf (c : T) (a b : O) : O := fun s => (c s).bind fun k s1 => if k = true then a s1 else b s1
def oChain (f f' : List D → Option D) (a b c : O) : O := fun s => (a s).bind fun ra s1 => (b s1).bind fun rb s2 => match rds [ra, rb] s2 with
  | none => .bad
  | some ds => match f ds with
    | some (.bool true) => (c s2).bind fun rc s3 => (match rds [rb, rc] s3 with
      | none => .bad
      | some es => match f' es with
        | none => .bad
        | some d => .ok (.val d) s3)
    | some (.bool false) => .ok (.val (.bool false)) s2
    | _ => .bad
/-- a value for oneself: a slot's only where nothing in it may change -/
def own (r : Rf) (s : Sg) : Option D := match r with
  | .val d => some d
  | .slot i => match (s[i]?).join with
    | none => none
    | some d => if pur d = true then some d else none
def owns : List Rf → Sg → Option (List D)
  | [], _ => some []
  | r :: rs, s => match own r s with
    | none => none
    | some d => match owns rs s with
      | none => none
      | some ds => some (d :: ds)
def oTup (g : AL) : O := fun s => (g s).bind fun rs s1 => match owns rs s1 with
  | none => .bad
  | some ds => if ds.length ≤ 1000000 then .ok (.val (.tuple ds)) s1 else .bad
def oLst (g : AL) : O := fun s => (g s).bind fun rs s1 => match owns rs s1 with
  | none => .bad
  | some ds => if ds.length ≤ 1000000 then .ok (.val (.list ds)) s1 else .bad
def puO (o : Option D) : Option D := match o with
  | none => none
  | some d => if pur d = true then some d else none
def pIx : List D → Option D
  | [.list ds, .int i] => puO (atI ds i)
  | [.tuple ds, .int i] => puO (atI ds i)
  | [.dict [(.none, .list ds)], .int i] => puO (atI ds i)
  | [.str z, .int i] => if z.length ≤ 1000000 then (match atI z.cps.toList i with
    | none => none
    | some c => some (.str ⟨#[c]⟩)) else none
  | _ => none
def cutL {α : Type} (xs : List α) (lo hi : Option Int) : List α := (xs.drop (HT.sIx xs.length 0 lo)).take (HT.sIx xs.length xs.length hi - HT.sIx xs.length 0 lo)
def slD : D → Option Int → Option Int → Option D
  | .list ds, lo, hi => if purs ds = true then some (.list (cutL ds lo hi)) else none
  | .tuple ds, lo, hi => if purs ds = true then some (.tuple (cutL ds lo hi)) else none
  | .dict [(.none, .list ds)], lo, hi => some (.list (cutL ds lo hi))
  | .str z, lo, hi => if z.length ≤ 1000000 then some (.str (cutS z lo hi)) else none
  | _, _, _ => none
def prt (p : Option O) : Sg → Res (Option Int) := match p with
  | none => fun s => .ok none s
  | some g => fun s => (g s).bind fun r s1 => match rd r s1 with
    | some (.int i) => .ok (some i) s1
    | _ => .bad
def oSl (g : O) (lo hi : Option O) : O := fun s => (g s).bind fun r s1 => (prt lo s1).bind fun l s2 => (prt hi s2).bind fun u s3 => match rd r s3 with
  | none => .bad
  | some d => match slD d l u with
    | none => .bad
    | some d' => .ok (.val d') s3
section
variable [Tb] [Vs] {X : Cx} {K : PySem.W.Frag} {H : Hp} {σ : St} {Q : VK}
/-- what reads a slot: a name, or a field of the open object -/
def tSl (i : Nat) : TE := fun σ H Q => ∃ v, σ[i]? = some (some v) ∧ Vs.lnk σ H ∧ Q v H
theorem tsl_of {e : Expr} {i : Nat} (h : PE X e (tVar i)) : PE X e (tSl i) := pe_imp h fun _ _ _ ⟨v, a, _, q⟩ => ⟨v, a, q⟩
theorem so_var {i : Nat} {x : Str} {pos : Pos} (h : PE X (.Name x pos) (tVar i)) : SimO X (.Name x pos) (oV i) := by
  refine pe_imp h fun σ H Q h => ?_
  obtain ⟨s, Fs, r, s', R, e, q⟩ := h
  unfold oV at e
  split at e
  · rename_i d hd
    cases e
    obtain ⟨v, hv, o⟩ := R.has i d (join_some hd)
    exact ⟨v, hv, q v H Fs [] R (.refl _ _) (.slot hv) (by intro a h; cases h)⟩
  · cases e
theorem tO_c {d : D} {v : V} (o : ∀ H, Own K H d v []) (h : tO K (oC d) σ H Q) : tC v σ H Q := by
  obtain ⟨s, Fs, r, s', R, e, q⟩ := h
  cases e
  exact q v H Fs [] R (.refl _ _) (.val ⟨o H, fun _ _ _ z => by cases z⟩) (by intro a h; cases h)
theorem so_int {i : Int} {j : Nat} {pos : Pos} : SimO X (.Constant (.int i) j pos) (oC (.int i)) := pe_imp pe_int fun _ _ _ h => tO_c (fun _ => .int i) h
theorem so_bl {b : Bool} {j : Nat} {pos : Pos} : SimO X (.Constant (.bool b) j pos) (oC (.bool b)) := pe_imp pe_bl fun _ _ _ h => tO_c (fun _ => .bl b) h
theorem so_non {j : Nat} {pos : Pos} : SimO X (.Constant .none j pos) (oC .none) := pe_imp pe_non fun _ _ _ h => tO_c (fun _ => .non) h
theorem so_str {x : Str} {j : Nat} {pos : Pos} : SimO X (.Constant (.str x) j pos) (oC (.str x)) := pe_imp pe_str fun _ _ _ h => tO_c (fun _ => .str x) h
variable {a b c : Expr} {ga gb gc : O} {pos : Pos}
theorem so_bin {op : Operator} {r : R2} {f : List D → Option D} (ho : OpR X (binaryOp op) r) (hp : PrimR X.K (u2 r) f) (ha : SimO X a ga) (hb : SimO X b gb) : SimO X (.BinOp a op b pos) (o2 f ga gb) :=
  pe_imp (pe_op ho ha hb) fun _ _ _ h => by have z := tA2 (prim hp h); exact z
theorem so_un {op : UnaryOp} {r : V → Hp → VK → Prop} {f : List D → Option D} (ho : UnR X (unaryOp op) r) (hp : PrimR X.K (u1 r) f) (ha : SimO X a ga) : SimO X (.UnaryOp op a pos) (o1 f ga) :=
  pe_imp (pe_un ho ha) fun _ _ _ h => by have z := tA1 (prim hp h); exact z
theorem so_cmp {op : CmpOp} {r : R2} {f : List D → Option D} (ho : OpR X (compareOp op) r) (hp : PrimR X.K (u2 r) f) (ha : SimO X a ga) (hb : SimO X b gb) (hm : behindInMarks op b = false) : SimO X (.Compare a [op] [b] pos) (o2 f ga gb) :=
  pe_imp (pe_cmpR ho ha hb hm) fun _ _ _ h => by have z := tA2 (prim hp h); exact z
theorem tT_tst {g : O} {Q : Bool → Hp → Prop} (h : tT K (tst g) σ H Q) : tO K g σ H fun x H1 => ∃ k, x = .bl k ∧ Q k H1 := by
  obtain ⟨s, Fs, b, s', R, e, q⟩ := h
  obtain ⟨r, s1, e1, e⟩ := bind_inv e
  refine ⟨s, Fs, r, s1, R, e1, fun v H1 Fs1 F R1 E1 k1 n1 => ?_⟩
  split at e
  · rename_i b' hb
    cases e
    obtain ⟨F', o⟩ := k1.dp R1 hb
    cases o
    exact ⟨_, rfl, q H1 Fs1 R1 E1⟩
  · cases e
theorem st_cmp {op : CmpOp} {r : R2} {f : List D → Option D} (ho : OpR X (compareOp op) r) (hp : PrimR X.K (u2 r) f) (ha : SimO X a ga) (hb : SimO X b gb) (hm : behindInMarks op b = false) : SimT X (.Compare a [op] [b] pos) (tst (o2 f ga gb)) :=
  pt_imp (pt_cmpR ho ha hb hm) fun _ _ _ h => by have z := tA2 (prim hp (tT_tst h)); exact z
theorem tT_and {t u : T} {Q : Bool → Hp → Prop} (h : tT K (tAnd t u) σ H Q) : L2.tAnd (tT K t) (tT K u) σ H Q := by
  obtain ⟨s, Fs, b, s', R, e, q⟩ := h
  obtain ⟨b1, s1, e1, e⟩ := bind_inv e
  refine ⟨s, Fs, b1, s1, R, e1, fun H1 Fs1 R1 E1 => ?_⟩
  cases b1 with
  | true => exact ⟨s1, Fs1, b, s', R1, e, fun H2 Fs2 R2 E2 => q H2 Fs2 R2 (E1.trans E2)⟩
  | false => cases e; exact q H1 Fs1 R1 E1
theorem tT_or {t u : T} {Q : Bool → Hp → Prop} (h : tT K (tOr t u) σ H Q) : L2.tOr (tT K t) (tT K u) σ H Q := by
  obtain ⟨s, Fs, b, s', R, e, q⟩ := h
  obtain ⟨b1, s1, e1, e⟩ := bind_inv e
  refine ⟨s, Fs, b1, s1, R, e1, fun H1 Fs1 R1 E1 => ?_⟩
  cases b1 with
  | false => exact ⟨s1, Fs1, b, s', R1, e, fun H2 Fs2 R2 E2 => q H2 Fs2 R2 (E1.trans E2)⟩
  | true => cases e; exact q H1 Fs1 R1 E1
theorem tT_not {t : T} {Q : Bool → Hp → Prop} (h : tT K (tNot t) σ H Q) : L2.tNot (tT K t) σ H Q := by
  obtain ⟨s, Fs, b, s', R, e, q⟩ := h
  obtain ⟨b1, s1, e1, e⟩ := bind_inv e
  refine ⟨s, Fs, b1, s1, R, e1, fun H1 Fs1 R1 E1 => ?_⟩
  cases e
  exact q H1 Fs1 R1 E1
/-- and, or, whatever the whole is -/
def SimW (X : Cx) (e : Expr) (g : T) : Prop := PW X e (tT X.K g)
theorem pw_imp {e : Expr} {t t' : TT} (h : PW X e t) (i : ∀ σ H Q, t' σ H Q → t σ H Q) : PW X e t' := ⟨fun wh pins s σ H Q I q => h.run wh pins s σ H Q I (i σ H Q q)⟩
theorem sw_and1 {t : T} (ha : SimT X a t) : SimW X (.BoolOp .And [a] pos) t := pw_and1 ha
theorem sw_or1 {t : T} (ha : SimT X a t) : SimW X (.BoolOp .Or [a] pos) t := pw_or1 ha
theorem sw_and {rest : List Expr} {t u : T} (ha : SimT X a t) (hb : SimW X (.BoolOp .And (b :: rest) pos) u) : SimW X (.BoolOp .And (a :: b :: rest) pos) (tAnd t u) := pw_imp (pw_and ha hb) fun _ _ _ h => tT_and h
theorem sw_or {rest : List Expr} {t u : T} (ha : SimT X a t) (hb : SimW X (.BoolOp .Or (b :: rest) pos) u) : SimW X (.BoolOp .Or (a :: b :: rest) pos) (tOr t u) := pw_imp (pw_or ha hb) fun _ _ _ h => tT_or h
theorem st_w {e : Expr} {t : T} (h : SimW X e t) : SimT X e t := PW.pt h
theorem st_not {t : T} (ha : SimT X a t) : SimT X (.UnaryOp .Not a pos) (tNot t) := pt_imp (pt_not ha) fun _ _ _ h => tT_not h
theorem tO_and {g h : O} (z : tO K (oAnd g h) σ H Q) : tAndV (tO K g) (tO K h) σ H Q := by
  obtain ⟨s, Fs, r, s', R, e, q⟩ := z
  obtain ⟨r1, s1, e1, e⟩ := bind_inv e
  refine ⟨s, Fs, r1, s1, R, e1, fun v H1 Fs1 F R1 E1 k1 n1 => ?_⟩
  split at e
  · rename_i hb
    obtain ⟨F', o⟩ := k1.dp R1 hb
    cases o
    exact ⟨true, rfl, s1, Fs1, r, s', R1, e, fun v H2 Fs2 F2 R2 E2 k2 n2 => q v H2 Fs2 F2 R2 (E1.trans E2) k2 fun a ha => E1.chg.there a (n2 a ha)⟩
  · rename_i hb
    obtain ⟨F', o⟩ := k1.dp R1 hb
    cases o
    cases e
    exact ⟨false, rfl, q _ H1 Fs1 [] R1 E1 (.val ⟨.bl _, fun _ _ _ z => by cases z⟩) (by intro a h; cases h)⟩
  · cases e
theorem tO_not {g : O} (z : tO K (oNot g) σ H Q) : tNotV (tO K g) σ H Q := by
  obtain ⟨s, Fs, r, s', R, e, q⟩ := z
  obtain ⟨r1, s1, e1, e⟩ := bind_inv e
  refine ⟨s, Fs, r1, s1, R, e1, fun v H1 Fs1 F R1 E1 k1 n1 => ?_⟩
  split at e
  · rename_i b hb
    obtain ⟨F', o⟩ := k1.dp R1 hb
    cases o
    cases e
    exact ⟨b, rfl, q _ H1 Fs1 [] R1 E1 (.val ⟨.bl _, fun _ _ _ z => by cases z⟩) (by intro a h; cases h)⟩
  · cases e
theorem so_one {op : BoolOp} (h : SimO X a ga) : SimO X (.BoolOp op [a] pos) ga := pe_one h
theorem so_and {rest : List Expr} (ha : SimO X a ga) (hb : SimO X (.BoolOp .And (b :: rest) pos) gb) : SimO X (.BoolOp .And (a :: b :: rest) pos) (oAnd ga gb) := pe_imp (pe_and ha hb) fun _ _ _ h => tO_and h
theorem so_not (ha : SimO X a ga) : SimO X (.UnaryOp .Not a pos) (oNot ga) := pe_imp (pe_not ha) fun _ _ _ h => tO_not h
theorem rfs2 {Fs : Fp} {r1 r2 : Rf} {x y : V} {F G : List Addr} (k1 : RfOk K H σ Fs r1 x F) (k2 : RfOk K H σ Fs r2 y G) {s : Sg} (R : RelS K H s σ Fs) {ds : List D} (e : rds [r1, r2] s = some ds) : RdA K H [x, y] ds := by
  unfold rds at e
  split at e
  · cases e
  · rename_i d1 h1
    split at e
    · cases e
    · rename_i es h2
      cases e
      obtain ⟨F1, o1⟩ := k1.dp R h1
      unfold rds at h2
      split at h2
      · cases h2
      · rename_i d2 h3
        cases h2
        obtain ⟨F2, o2⟩ := k2.dp R h3
        exact .cons o1 (.cons o2 .nil)
theorem Rfs.own {s : Sg} {Fs : Fp} (R : RelS K H s σ Fs) {rs : List Rf} {vs : List V} {Gs : List (List Addr)} (r : Rfs K H σ Fs rs vs Gs) : ∀ {ds : List D}, owns rs s = some ds → OwnA K H ds vs Gs.flatten ∧ ∀ i a, a ∈ Fs i → a ∉ Gs.flatten := by
  induction r with
  | nil => intro ds e; cases e; exact ⟨.nil, by simp⟩
  | @val d v F rs vs Gs A n _ ih =>
    intro ds e
    unfold owns at e
    simp only [Sim.own] at e
    split at e
    · cases e
    · rename_i es h
      cases e
      obtain ⟨h1, h2⟩ := ih h
      rw [List.flatten_cons]
      refine ⟨.cons A.own h1 fun a ha hb => ?_, fun i a hi ha => ?_⟩
      · obtain ⟨G, hG, hb⟩ := List.mem_flatten.mp hb
        exact n G hG a ha hb
      · rcases List.mem_append.mp ha with ha | ha
        · exact A.dis i a hi ha
        · exact h2 i a hi ha
  | @slot i v rs vs Gs hv _ ih =>
    intro ds e
    unfold owns at e
    simp only [Sim.own] at e
    split at e
    · cases e
    · rename_i d hd
      split at e
      · cases e
      · rename_i es h
        cases e
        split at hd
        · cases hd
        · rename_i d' hd'
          split at hd
          · rename_i hp
            cases hd
            obtain ⟨h1, h2⟩ := ih h
            obtain ⟨v', hv', o⟩ := R.has i d (join_some hd')
            rw [hv] at hv'
            cases hv'
            have e0 := o.pur hp
            rw [e0] at o
            rw [List.flatten_cons]
            exact ⟨OwnA.cons (F := []) o h1 (by simp), h2⟩
          · cases hd
theorem tO_tup {g : AL} (z : tO K (oTup g) σ H Q) : tTupD (tA K g) σ H Q := by
  obtain ⟨s, Fs, rf, s', R, e, q⟩ := z
  obtain ⟨rs, s1, e1, e⟩ := bind_inv e
  refine ⟨s, Fs, rs, s1, R, e1, fun vs H1 Fs1 Gs R1 E1 k1 n1 => ?_⟩
  split at e
  · cases e
  · rename_i ds hds
    split at e
    · rename_i hl
      cases e
      obtain ⟨o, dj⟩ := k1.own R1 hds
      refine ⟨by rw [o.len]; exact Nat.le_trans hl big_le, fun p ob hp hn => ?_⟩
      have sm : Same H1 (upd H1 p (.frz ob (.tup vs))) := same_new hp
      refine q _ _ Fs1 Gs.flatten (R1.same sm) (E1.trans (.same _ sm)) (.val ⟨.tup (SqD.of upd_same hn) (o.chg (Fa := fun _ => False) (.same sm) fun _ _ z => z), dj⟩) fun a ha => ?_
      obtain ⟨G, hG, hb⟩ := List.mem_flatten.mp ha
      exact n1 G hG a hb
    · cases e
theorem tO_lst {g : AL} (z : tO K (oLst g) σ H Q) : tLst (tA K g) σ H Q := by
  obtain ⟨s, Fs, rf, s', R, e, q⟩ := z
  obtain ⟨rs, s1, e1, e⟩ := bind_inv e
  refine ⟨s, Fs, rs, s1, R, e1, fun vs H1 Fs1 Gs R1 E1 k1 n1 => ?_⟩
  split at e
  · cases e
  · rename_i ds hds
    split at e
    · rename_i hl
      cases e
      obtain ⟨o, dj⟩ := k1.own R1 hds
      refine ⟨by rw [o.len]; exact Nat.le_trans hl big_le, fun p hp => ?_⟩
      have sm : Same H1 (upd H1 p (.lst vs)) := same_new hp
      have np : p ∉ Gs.flatten := fun z => by
        obtain ⟨xs, w⟩ := o.mem p z
        rw [hp] at w; cases w
      refine q _ _ Fs1 (p :: Gs.flatten) (R1.same sm) (E1.trans (.same _ sm)) (.val ⟨.lst upd_same (o.chg (Fa := fun _ => False) (.same sm) fun _ _ z => z) np, fun i a hi ha => ?_⟩) fun a ha => ?_
      · rcases List.mem_cons.mp ha with rfl | ha
        · obtain ⟨xs, w⟩ := R1.mem hi
          rw [hp] at w; cases w
        · exact dj i a hi ha
      · rcases List.mem_cons.mp ha with rfl | ha
        · exact E1.chg.there _ hp
        · obtain ⟨G, hG, hb⟩ := List.mem_flatten.mp ha
          exact n1 G hG a hb
    · cases e
theorem so_tup {es : List Expr} {k : Nat} {g : AL} (h : SimA X es g) : SimO X (.Tuple es k pos) (oTup g) := pe_imp (pe_tupD h) fun _ _ _ h => tO_tup h
theorem so_lst {es : List Expr} {g : AL} (h : SimA X es g) : SimO X (.List es pos) (oLst g) := pe_imp (pe_lst h) fun _ _ _ h => tO_lst h
theorem atI_own {ds : List D} {vs : List V} {F : List Addr} (t : OwnA K H ds vs F) {i : Int} {d : D} (e : puO (atI ds i) = some d) : ∃ v, atI vs i = some v ∧ Own K H d v [] ∧ pur d = true := by
  unfold puO at e
  split at e
  · cases e
  · rename_i d' h
    split at e
    · rename_i hp
      cases e
      unfold atI at h ⊢
      rw [t.len]
      cases hj : ixN ds.length i with
      | none => rw [hj] at h; cases h
      | some j =>
        rw [hj] at h
        obtain ⟨v, G, hv, o, _⟩ := t.get j d h
        have e0 := o.pur hp
        rw [e0] at o
        exact ⟨v, hv, o, hp⟩
    · cases e
theorem pr_ix : PrimR K (u2 (rIx K)) pIx := by
  intro vs ds d H Q h e q
  unfold pIx at e
  split at e
  · obtain ⟨x, y, F, G, rfl, o1, o2⟩ := h.two
    cases o2
    cases o1 with
    | lst h1 t n =>
      obtain ⟨v, hv, o, hp⟩ := atI_own t e
      exact .inl ⟨_, _, _, v, rfl, rfl, SqL.of h1, hv, q _ _ (.sc o)⟩
  · obtain ⟨x, y, F, G, rfl, o1, o2⟩ := h.two
    cases o2
    cases o1 with
    | tup h1 t =>
      obtain ⟨v, hv, o, hp⟩ := atI_own t e
      exact .inr (.inl ⟨_, _, _, v, rfl, rfl, h1.sq, hv, q _ _ (.sc o)⟩)
  · obtain ⟨x, y, F, G, rfl, o1, o2⟩ := h.two
    cases o2
    cases o1 with
    | frz h1 t =>
      obtain ⟨v, hv, o, hp⟩ := atI_own t e
      exact .inl ⟨_, _, _, v, rfl, rfl, h1.sq, hv, q _ _ (.sc o)⟩
  · obtain ⟨x, y, F, G, rfl, o1, o2⟩ := h.two
    cases o2; cases o1
    split at e
    · rename_i hz
      split at e
      · cases e
      · rename_i c hc
        cases e
        exact .inr (.inr ⟨_, _, c, rfl, rfl, Nat.le_trans hz big_le, hc, q _ _ (.sc (.str _))⟩)
    · cases e
  · cases e
theorem so_ix (ha : SimO X a ga) (hb : SimO X b gb) (hs : PlainIx b := by exact fun _ _ => rfl) : SimO X (.Subscript a b pos) (o2 pIx ga gb) := pe_imp (pe_ix ix_seq ha hb hs) fun _ _ _ h => by have z := tA2 (prim pr_ix h); exact z
def SimP (X : Cx) (e : Option Expr) (p : Option O) : Prop :=
  PO X e fun σ H Q => ∃ s Fs o s', RelS X.K H s σ Fs ∧ prt p s = .ok o s' ∧ ∀ H' Fs', RelS X.K H' s' σ Fs' → Ev H Fs H' Fs' → Q o H'
theorem po_imp {e : Option Expr} {t t' : TO} (h : PO X e t) (i : ∀ σ H Q, t' σ H Q → t σ H Q) : PO X e t' := ⟨fun pins s σ H Q I q => h.run pins s σ H Q I (i σ H Q q)⟩
theorem sp_none : SimP X none none := po_imp po_none fun σ H Q ⟨s, Fs, o, s', R, e, q⟩ => by
  cases e
  exact q H Fs R (.refl _ _)
theorem sp_some (ha : SimO X a ga) : SimP X (some a) (some ga) := po_imp (po_some ha) fun σ H Q ⟨s, Fs, o, s', R, e, q⟩ => by
  obtain ⟨r, s1, e1, e⟩ := bind_inv e
  refine ⟨s, Fs, r, s1, R, e1, fun v H1 Fs1 F R1 E1 k1 n1 => ?_⟩
  split at e
  · rename_i i hb
    cases e
    obtain ⟨F', o⟩ := k1.dp R1 hb
    cases o
    exact ⟨_, rfl, q H1 Fs1 R1 E1⟩
  · cases e
def rSlAll (K : PySem.W.Frag) : V → Option Int → Option Int → Hp → VK → Prop := fun x lo hi H Q => rSlL K x lo hi H Q ∨ rSlD K x lo hi H Q ∨ rSlS x lo hi H Q
theorem cutL_whole {α : Type} {xs : List α} {lo hi : Option Int} (h : HT.sIx xs.length 0 lo = 0 ∧ HT.sIx xs.length xs.length hi = xs.length) : cutL xs lo hi = xs := by
  unfold cutL
  rw [h.1, h.2]
  simp
theorem OwnA.cut {ds : List D} {vs : List V} (t : OwnA K H ds vs []) (lo hi : Option Int) : OwnA K H (cutL ds lo hi) (cutV vs lo hi) [] := by
  unfold cutL cutV
  rw [t.len]
  exact (t.drop _).take _
theorem sl_all {d d' : D} {l u : Option Int} {v : V} {F : List Addr} (o : Own K H d v F) (e : slD d l u = some d') (q : ∀ v H', NewV K H d' v H' → Q v H') : rSlAll K v l u H Q := by
  unfold slD at e
  split at e
  · split at e
    · rename_i hp
      cases e
      cases o with
      | lst h1 t n =>
        have e0 := t.pur hp
        subst e0
        exact .inl ⟨_, _, rfl, SqL.of h1, fun p hp => q _ _ (.lst (t.cut l u) hp)⟩
    · cases e
  · split at e
    · rename_i hp
      cases e
      cases o with
      | tup h1 t =>
        have e0 := t.pur hp
        subst e0
        refine .inr (.inl ⟨_, _, rfl, h1.sq, fun hw => q _ _ (.sc ?_), fun _ p ob hp hn => q _ _ (.tup (t.cut l u) hp hn)⟩)
        rw [t.len] at hw
        rw [cutL_whole hw]
        exact .tup h1 t
    · cases e
  · cases e
    cases o with
    | frz h1 t => exact .inl ⟨_, _, rfl, h1.sq, fun p hp => q _ _ (.lst (t.cut l u) hp)⟩
  · split at e
    · rename_i hz
      cases e
      cases o
      exact .inr (.inr ⟨_, rfl, Nat.le_trans hz big_le, q _ _ (.sc (.str _))⟩)
    · cases e
  · cases e
theorem so_slice {lo hi : Option Expr} {l u : Option O} {p2 : Pos} (ha : SimO X a ga) (hl : SimP X lo l) (hu : SimP X hi u) : SimO X (.Subscript a (.Slice lo hi none p2) pos) (oSl ga l u) := by
  refine pe_imp (pe_slice (r := rSlAll X.K) (sl_list.or (sl_tupD.or sl_str)) ha hl hu) fun σ H Q z => ?_
  obtain ⟨s, Fs, rf, s', R, e, q⟩ := z
  obtain ⟨r, s1, e1, e⟩ := bind_inv e
  refine ⟨s, Fs, r, s1, R, e1, fun v H1 Fs1 F R1 E1 k1 n1 => ?_⟩
  obtain ⟨l', s2, e2, e⟩ := bind_inv e
  refine ⟨s1, Fs1, l', s2, R1, e2, fun H2 Fs2 R2 E2 => ?_⟩
  obtain ⟨u', s3, e3, e⟩ := bind_inv e
  refine ⟨s2, Fs2, u', s3, R2, e3, fun H3 Fs3 R3 E3 => ?_⟩
  split at e
  · cases e
  · rename_i d hd
    split at e
    · cases e
    · rename_i d' hd'
      cases e
      obtain ⟨F', o⟩ := ((k1.ev E2).ev E3).dp R3 hd
      refine sl_all o hd' fun v' H4 hv => ?_
      obtain ⟨R4, E4, F4, k4, n4⟩ := hv.ok R3
      exact q v' H4 Fs3 F4 R4 (((E1.trans E2).trans E3).trans E4) k4 fun a ha => ((E1.trans E2).trans E3).chg.there a (n4 a ha)
theorem so_callB {x : Str} {p : Pos} {e : Expr} {es : List Expr} {g : AL} {id : String} {r : List V → Hp → VK → Prop} {f : List D → Option D} (hc : CallR X (.builtin id) r) (hp : PrimR X.K r f) (hg : Gl X x) (hm : X.mg x = none) (hv : bootBuiltins x = some (.builtin id)) (ha : SimA X (e :: es) g)
    (hn : x ≠ "__name__" := by decide) (hdb : (x == ("__debug__" : Str)) = false := by decide) (he : starEach (e :: es) X.env = (false, eval e X.env) :: starEach es X.env := by rfl) (hpl : (backTo pos (starEach es X.env)).any (·.1) = false := by rfl) :
    SimO X (.Call (.Name x p) (e :: es) [] pos) (oPrim f g) := pe_imp (pe_callB hc hg hm hv ha hn hdb he hpl) fun _ _ _ h => prim hp h
theorem so_callTy {x : Str} {p : Pos} {e : Expr} {es : List Expr} {g : AL} {T : String} {r : List V → Hp → VK → Prop} {f : List D → Option D} (hc : CallR X (.type T) r) (hp : PrimR X.K r f) (hg : Gl X x) (hm : X.mg x = none) (hv : bootBuiltins x = some (.type T)) (ha : SimA X (e :: es) g)
    (hn : x ≠ "__name__" := by decide) (hdb : (x == ("__debug__" : Str)) = false := by decide) (he : starEach (e :: es) X.env = (false, eval e X.env) :: starEach es X.env := by rfl) (hpl : (backTo pos (starEach es X.env)).any (·.1) = false := by rfl) :
    SimO X (.Call (.Name x p) (e :: es) [] pos) (oPrim f g) := pe_imp (pe_callTy hc hg hm hv ha hn hdb he hpl) fun _ _ _ h => prim hp h
end
end Sim
namespace Sim
open PySem PySem.Spec L2
def upF (Fs : Fp) (i : Nat) (F : List Addr) : Fp := fun j => if j = i then F else Fs j
def Lk (lk : Nat → Bool) (σ σ' : St) : Prop := ∀ i, lk i = true → σ'[i]? = σ[i]?
theorem Lk.refl (lk : Nat → Bool) (σ : St) : Lk lk σ σ := fun _ _ => rfl
theorem Lk.trans {lk : Nat → Bool} {σ σ1 σ' : St} (a : Lk lk σ σ1) (b : Lk lk σ1 σ') : Lk lk σ σ' := fun i h => (b i h).trans (a i h)
theorem Lk.set {lk : Nat → Bool} {σ : St} {i : Nat} {v : Option V} (h : lk i = false) : Lk lk σ (σ.set i v) := fun j hj => by
  rw [List.getElem?_set_ne]
  intro e
  subst e
  rw [h] at hj
  cases hj
section
variable [Tb] [Vs] {K : PySem.W.Frag} {H H1 H' : Hp} {s s' : Sg} {σ σ' : St} {Fs Fs1 Fs' : Fp}
/-- a slot gets what stands apart -/
theorem RelS.put (R : RelS K H s σ Fs) {d : D} {v : V} {F : List Addr} (A : Apart K H Fs d v F) (i : Nat) (ko : Vs.ok i) : ∃ Fs', RelS K H (s.set i (some d)) (σ.set i (some v)) Fs' ∧ ∀ j a, a ∈ Fs' j → (a ∈ Fs j ∧ j ≠ i) ∨ (a ∈ F ∧ j = i) := by
  by_cases hi : i < s.length
  · refine ⟨upF Fs i F, ⟨by rw [List.length_set, List.length_set, R.len], fun j d' e => ?_, fun j h => ?_, fun j k a h1 h2 => ?_, ⟨(Vs.put ko).mpr R.lnk.1, R.lnk.2⟩, fun j h d' e => ?_⟩, fun j a h => ?_⟩
    · by_cases hj : j = i
      · subst hj
        rw [List.getElem?_set_self hi] at e
        cases e
        refine ⟨v, by rw [List.getElem?_set_self (by rw [← R.len]; exact hi)], ?_⟩
        unfold upF
        rw [if_pos rfl]
        exact A.own
      · rw [List.getElem?_set_ne (Ne.symm hj)] at e
        obtain ⟨v', hv', o⟩ := R.has j d' e
        refine ⟨v', by rw [List.getElem?_set_ne (Ne.symm hj)]; exact hv', ?_⟩
        unfold upF
        rw [if_neg hj]
        exact o
    · unfold upF
      by_cases hj : j = i
      · subst hj
        exact absurd (List.getElem?_set_self hi) (h d)
      · rw [if_neg hj]
        exact R.off j fun d' e => h d' (by rw [List.getElem?_set_ne (Ne.symm hj)]; exact e)
    · unfold upF at h1 h2
      split at h1
      · split at h2
        · omega
        · exact absurd h1 (A.dis k a h2)
      · split at h2
        · exact absurd h2 (A.dis j a h1)
        · exact R.dis j k a h1 h2
    · by_cases hj : j = i
      · subst hj
        exact h (Vs.nil ko)
      · rw [List.getElem?_set_ne (Ne.symm hj)] at e
        exact R.bse j h d' e
    · unfold upF at h
      split at h
      · exact .inr ⟨h, by assumption⟩
      · exact .inl ⟨h, by assumption⟩
  · have e1 : s.set i (some d) = s := by rw [List.set_eq_of_length_le (by omega)]
    have e2 : σ.set i (some v) = σ := by rw [List.set_eq_of_length_le (by rw [← R.len]; omega)]
    rw [e1, e2]
    refine ⟨Fs, R, fun j a h => .inl ⟨h, ?_⟩⟩
    rintro rfl
    rw [R.off j (fun d e => by rw [List.getElem?_eq_none (by omega)] at e; cases e), Vs.nil ko] at h
    cases h
theorem RelS.fp0 (R : RelS K H s σ Fs) {i : Nat} {d0 : D} (e0 : s[i]? = some (some d0)) : Vs.fp i = [] := by
  cases e : Vs.fp i with
  | nil => rfl
  | cons a l => exact absurd e0 (R.bse i (by rw [e]; intro z; cases z) d0)
/-- what it held is told of a slot anew -/
theorem RelS.reput (R : RelS K H s σ Fs) {d : D} {v : V} {F : List Addr} (A : Apart K H Fs d v F) (i : Nat) (hv : σ[i]? = some (some v)) (fp : Vs.fp i = []) : ∃ Fs', RelS K H (s.set i (some d)) σ Fs' ∧ ∀ j a, a ∈ Fs' j → (a ∈ Fs j ∧ j ≠ i) ∨ (a ∈ F ∧ j = i) := by
  have hi : i < s.length := by rw [R.len]; exact (List.getElem?_eq_some_iff.mp hv).1
  refine ⟨upF Fs i F, ⟨by rw [List.length_set, R.len], fun j d' e => ?_, fun j h => ?_, fun j k a h1 h2 => ?_, R.lnk, fun j h d' e => ?_⟩, fun j a h => ?_⟩
  · by_cases hj : j = i
    · subst hj
      rw [List.getElem?_set_self hi] at e
      cases e
      refine ⟨v, hv, ?_⟩
      unfold upF
      rw [if_pos rfl]
      exact A.own
    · rw [List.getElem?_set_ne (Ne.symm hj)] at e
      obtain ⟨v', hv', o⟩ := R.has j d' e
      refine ⟨v', hv', ?_⟩
      unfold upF
      rw [if_neg hj]
      exact o
  · unfold upF
    by_cases hj : j = i
    · subst hj
      exact absurd (List.getElem?_set_self hi) (h d)
    · rw [if_neg hj]
      exact R.off j fun d' e => h d' (by rw [List.getElem?_set_ne (Ne.symm hj)]; exact e)
  · unfold upF at h1 h2
    split at h1
    · split at h2
      · omega
      · exact absurd h1 (A.dis k a h2)
    · split at h2
      · exact absurd h2 (A.dis j a h1)
      · exact R.dis j k a h1 h2
  · by_cases hj : j = i
    · subst hj
      exact h fp
    · rw [List.getElem?_set_ne (Ne.symm hj)] at e
      exact R.bse j h d' e
  · unfold upF at h
    split at h
    · exact .inr ⟨h, by assumption⟩
    · exact .inl ⟨h, by assumption⟩
theorem RelS.lnkC (R : RelS K H s σ Fs) {Fa : Addr → Prop} (c : Chg Fa H H') (n : ∀ i a, a ∈ Vs.fp i → ¬ Fa a) : Lk2 σ H' := R.lnk' (fun i a ha => by
  obtain ⟨m, e⟩ := Vs.mem R.lnk.1 ha
  rw [e]
  exact c.mo e (n i a ha)) (c.tab R.lnk.2)
/-- a slot is emptied -/
theorem RelS.drop (R : RelS K H s σ Fs) (i : Nat) {d0 : D} (e0 : s[i]? = some (some d0)) : RelS K H (s.set i none) σ (upF Fs i []) := by
  have fp0 := R.fp0 e0
  refine ⟨by rw [List.length_set, R.len], fun j d' e => ?_, fun j h => ?_, fun j k a h1 h2 => ?_, R.lnk, fun j h d' e => ?_⟩
  · by_cases hj : j = i
    · subst hj
      by_cases hi : j < s.length
      · rw [List.getElem?_set_self hi] at e; cases e
      · rw [List.getElem?_eq_none (by rw [List.length_set]; omega)] at e; cases e
    · rw [List.getElem?_set_ne (Ne.symm hj)] at e
      obtain ⟨v', hv', o⟩ := R.has j d' e
      refine ⟨v', hv', ?_⟩
      unfold upF
      rw [if_neg hj]
      exact o
  · unfold upF
    by_cases hj : j = i
    · rw [if_pos hj, hj, fp0]
    · rw [if_neg hj]
      exact R.off j fun d' e => h d' (by rw [List.getElem?_set_ne (Ne.symm hj)]; exact e)
  · unfold upF at h1 h2
    split at h1
    · cases h1
    · split at h2
      · cases h2
      · exact R.dis j k a h1 h2
  · by_cases hj : j = i
    · rw [hj] at h
      exact h fp0
    · rw [List.getElem?_set_ne (Ne.symm hj)] at e
      exact R.bse j h d' e
/-- the list of a slot is written -/
theorem RelS.wr (R : RelS K H s σ Fs) {i : Nat} {ds ds' : List D} {l : Addr} {vs vs' : List V} {F F' Fd : List Addr} (e : s[i]? = some (some (.list ds))) (ev : σ[i]? = some (some (.ref l))) (hl : H l = some (.lst vs)) (eF : Fs i = l :: F)
    (o : OwnA K H ds' vs' F') (n : l ∉ F') (hF : ∀ a, a ∈ F' → a ∈ F ∨ a ∈ Fd) (hd : ∀ j a, a ∈ Fs j → a ∉ Fd) :
    ∃ Fs', RelS K (upd H l (.lst vs')) (s.set i (some (.list ds'))) σ Fs' ∧ Chg (InF Fs) H (upd H l (.lst vs')) ∧ ∀ j a, a ∈ Fs' j → a ∈ Fs j ∨ a ∈ Fd := by
  have hi : i < s.length := by
    rcases Nat.lt_or_ge i s.length with h | h
    · exact h
    · rw [List.getElem?_eq_none h] at e; cases e
  have li : l ∈ Fs i := by rw [eF]; exact List.mem_cons_self ..
  have chg : Chg (fun a => a = l) H (upd H l (.lst vs')) := .upd1 (m := .lst _) hl
  refine ⟨upF Fs i (l :: F'), ⟨by rw [List.length_set, R.len], fun j d' e' => ?_, fun j h => ?_, fun j k a h1 h2 => ?_, R.lnkC chg (fun j a h w => R.nfp e li (by rw [← w]; exact h)), fun j h d' e' => ?_⟩, chg.mono (fun a _ _ w => ⟨i, by rw [w]; exact li⟩), fun j a h => ?_⟩
  · by_cases hj : j = i
    · subst hj
      rw [List.getElem?_set_self hi] at e'
      cases e'
      refine ⟨_, ev, ?_⟩
      unfold upF
      rw [if_pos rfl]
      exact .lst upd_same (o.chg chg fun a ha w => n (by rw [← w]; exact ha)) n
    · rw [List.getElem?_set_ne (Ne.symm hj)] at e'
      obtain ⟨v', hv', o'⟩ := R.has j d' e'
      refine ⟨v', hv', ?_⟩
      unfold upF
      rw [if_neg hj]
      exact o'.chg chg fun a ha w => hj (R.dis j i l (by rw [← w]; exact ha) li)
  · unfold upF
    by_cases hj : j = i
    · subst hj
      exact absurd (List.getElem?_set_self hi) (h _)
    · rw [if_neg hj]
      exact R.off j fun d' e => h d' (by rw [List.getElem?_set_ne (Ne.symm hj)]; exact e)
  · have key : ∀ {m : Nat}, m ≠ i → a ∈ l :: F' → a ∈ Fs m → False := fun {m} hm g1 g2 => by
      rcases List.mem_cons.mp g1 with e3 | g1
      · exact hm (R.dis m i a g2 (by rw [e3]; exact li))
      · rcases hF a g1 with q | q
        · exact hm (R.dis m i a g2 (by rw [eF]; exact List.mem_cons_of_mem _ q))
        · exact hd m a g2 q
    by_cases hj : j = i
    · by_cases hk : k = i
      · omega
      · unfold upF at h1 h2
        rw [if_pos hj] at h1
        rw [if_neg hk] at h2
        exact (key hk h1 h2).elim
    · by_cases hk : k = i
      · unfold upF at h1 h2
        rw [if_neg hj] at h1
        rw [if_pos hk] at h2
        exact (key hj h2 h1).elim
      · unfold upF at h1 h2
        rw [if_neg hj] at h1
        rw [if_neg hk] at h2
        exact R.dis j k a h1 h2
  · by_cases hj : j = i
    · subst hj
      exact R.bse j h _ e
    · rw [List.getElem?_set_ne (Ne.symm hj)] at e'
      exact R.bse j h d' e'
  · unfold upF at h
    split at h
    · rename_i hj
      subst hj
      rcases List.mem_cons.mp h with rfl | h
      · exact .inl li
      · rcases hF a h with q | q
        · exact .inl (by rw [eF]; exact List.mem_cons_of_mem _ q)
        · exact .inr q
    · exact .inl h
theorem own_list {H : Hp} {ds : List D} {v : V} {G : List Addr} (h : Own K H (.list ds) v G) : ∃ l vs F, v = .ref l ∧ G = l :: F ∧ H l = some (.lst vs) ∧ OwnA K H ds vs F ∧ l ∉ F := by
  cases h with
  | lst h1 t n => exact ⟨_, _, _, rfl, rfl, h1, t, n⟩
theorem own_tup {H : Hp} {ds : List D} {v : V} {G : List Addr} (h : Own K H (.tuple ds) v G) : ∃ a vs, v = .ref a ∧ SqT K H a vs ∧ OwnA K H ds vs G := by
  cases h with
  | tup h1 t => exact ⟨_, _, rfl, h1.sq, t⟩
theorem OwnA.snoc {H : Hp} {d : D} {v : V} {G : List Addr} (o : Own K H d v G) : ∀ {ds : List D} {vs : List V} {F : List Addr}, OwnA K H ds vs F → (∀ a, a ∈ F → a ∉ G) → ∃ F', OwnA K H (ds ++ [d]) (vs ++ [v]) F' ∧ ∀ a, a ∈ F' → a ∈ F ∨ a ∈ G
  | [], _, _, t, _ => by
    cases t
    refine ⟨G ++ [], .cons o .nil (by simp), fun a h => ?_⟩
    rw [List.append_nil] at h
    exact .inr h
  | d' :: ds, _, _, t, n => by
    cases t with
    | @cons v' vs _ _ F1 F2 o' t n' =>
      obtain ⟨F', h1, h2⟩ := OwnA.snoc o t fun a ha => n a (List.mem_append_right _ ha)
      refine ⟨F1 ++ F', .cons o' h1 fun a ha hb => ?_, fun a h => ?_⟩
      · rcases h2 a hb with q | q
        · exact n' a ha q
        · exact n a (List.mem_append_left _ ha) q
      · rcases List.mem_append.mp h with q | q
        · exact .inl (List.mem_append_left _ q)
        · rcases h2 a q with q | q
          · exact .inl (List.mem_append_right _ q)
          · exact .inr q
theorem OwnA.put {H : Hp} {d : D} {v : V} (o : Own K H d v []) : ∀ {ds : List D} {vs : List V} {F : List Addr} (j : Nat), OwnA K H ds vs F → ∃ F', OwnA K H (ds.set j d) (vs.set j v) F' ∧ ∀ a, a ∈ F' → a ∈ F
  | [], _, _, _, t => by
    cases t
    exact ⟨[], .nil, by simp⟩
  | d' :: ds, _, _, 0, t => by
    cases t with
    | @cons v' vs _ _ F1 F2 o' t n' => exact ⟨[] ++ F2, .cons o t (by simp), fun a h => List.mem_append_right _ (by simpa using h)⟩
  | d' :: ds, _, _, j + 1, t => by
    cases t with
    | @cons v' vs _ _ F1 F2 o' t n' =>
      obtain ⟨F', h1, h2⟩ := OwnA.put o j t
      refine ⟨F1 ++ F', .cons o' h1 fun a ha hb => n' a ha (h2 a hb), fun a h => ?_⟩
      rcases List.mem_append.mp h with q | q
      · exact List.mem_append_left _ q
      · exact List.mem_append_right _ (h2 a q)
end
inductive Tg where
  | nm (i : Nat)
  | tp (l : List Tg)
  | ls (l : List Tg)
mutual
def asg : Tg → D → Sg → Option Sg
  | .nm i, d, s => some (s.set i (some d))
  | .tp l, .tuple ds, s => asgs l ds s
  | .tp _, _, _ => none
  | .ls l, .list ds, s => asgs l ds s
  | .ls _, _, _ => none
def asgs : List Tg → List D → Sg → Option Sg
  | [], [], s => some s
  | t :: l, d :: ds, s => match asg t d s with
    | none => none
    | some s1 => asgs l ds s1
  | _, _, _ => none
end
section
variable [Tb] [Vs] (K : PySem.W.Frag) (lk : Nat → Bool)
def tG (t : Tg) : TG := fun v σ H Q => ∃ s Fs d F s', RelS K H s σ Fs ∧ Apart K H Fs d v F ∧ asg t d s = some s' ∧ ∀ σ' Fs', RelS K H s' σ' Fs' → (∀ i a, a ∈ Fs' i → a ∈ Fs i ∨ a ∈ F) → Lk lk σ σ' → Q σ' H
def tGs (l : List Tg) : TGs := fun vs σ H Q => ∃ s Fs ds F s', RelS K H s σ Fs ∧ OwnA K H ds vs F ∧ (∀ i a, a ∈ Fs i → a ∉ F) ∧ asgs l ds s = some s' ∧ ∀ σ' Fs', RelS K H s' σ' Fs' → (∀ i a, a ∈ Fs' i → a ∈ Fs i ∨ a ∈ F) → Lk lk σ σ' → Q σ' H
end
def SimG [Tb] [Vs] (X : Cx) (lk : Nat → Bool) (e : Expr) (t : Tg) : Prop := PG X e (tG X.K lk t)
def SimGs [Tb] [Vs] (X : Cx) (lk : Nat → Bool) (es : List Expr) (l : List Tg) : Prop := PGs X es (tGs X.K lk l)
section
variable [Tb] [Vs] {X : Cx} {lk : Nat → Bool} {pos : Pos} {K : PySem.W.Frag}
theorem pg_imp {e : Expr} {t t' : TG} (h : PG X e t) (i : ∀ v σ H Q, t' v σ H Q → t v σ H Q) : PG X e t' := ⟨fun pins s σ H v u Q I r q => h.run pins s σ H v u Q I r (i v σ H Q q)⟩
theorem pgs_imp {e : List Expr} {t t' : TGs} (h : PGs X e t) (i : ∀ v σ H Q, t' v σ H Q → t v σ H Q) : PGs X e t' := ⟨fun pins s σ H v u Q I r q => h.run pins s σ H v u Q I r (i v σ H Q q)⟩
theorem tG_nm {i : Nat} (hl : lk i = false) (ko : Vs.ok i) {v : V} {σ : St} {H : Hp} {Q : St → Hp → Prop} (h : tG K lk (.nm i) v σ H Q) : gName i v σ H Q := by
  obtain ⟨s, Fs, d, F, s', R, A, e, q⟩ := h
  simp only [asg] at e
  cases e
  obtain ⟨Fs', R', n⟩ := R.put A i ko
  exact q _ Fs' R' (fun j a h => (n j a h).imp And.left And.left) (.set hl)
theorem sg_name {i : Nat} {x : Str} (hN : X.N.Nodup) (hi : X.N[i]? = some x) (hx : Loc X.env.scope x) (hl : lk i = false) (hf : X.fn x = true ∨ X.env.scope.names.lookup x = some .local := by first | exact .inl rfl | exact .inr rfl | assumption) (ko : Vs.ok i := by first | exact trivial | assumption | exact ⟨by decide, by decide⟩) : SimG X lk (.Name x pos) (.nm i) :=
  pg_imp (pg_name hN hi hx hf) fun _ _ _ _ h => tG_nm hl ko h
theorem tGs_nil {vs : List V} {σ : St} {H : Hp} {Q : St → Hp → Prop} (h : tGs K lk [] vs σ H Q) : gNil vs σ H Q := by
  obtain ⟨s, Fs, ds, F, s', R, o, dj, e, q⟩ := h
  cases ds with
  | nil =>
    simp only [asgs] at e
    cases e
    cases o
    exact ⟨rfl, q σ Fs R (fun _ _ h => .inl h) (.refl _ _)⟩
  | cons d ds => simp [asgs] at e
theorem tGs_cons {t : Tg} {l : List Tg} {vs : List V} {σ : St} {H : Hp} {Q : St → Hp → Prop} (h : tGs K lk (t :: l) vs σ H Q) : gCons (tG K lk t) (tGs K lk l) vs σ H Q := by
  obtain ⟨s, Fs, ds, F, s', R, o, dj, e, q⟩ := h
  cases ds with
  | nil => simp [asgs] at e
  | cons d ds =>
    simp only [asgs] at e
    split at e
    · cases e
    · rename_i s1 h1
      cases o with
      | @cons v vs _ _ F1 F2 o1 o2 n =>
        refine ⟨v, vs, rfl, s, Fs, d, F1, s1, R, ⟨o1, fun i a hi ha => dj i a hi (List.mem_append_left _ ha)⟩, h1, fun σ1 Fs1 R1 n1 L1 => ⟨s1, Fs1, ds, F2, s', R1, o2, fun i a hi ha => ?_, e, fun σ2 Fs2 R2 n2 L2 => ?_⟩⟩
        · rcases n1 i a hi with z | z
          · exact dj i a z (List.mem_append_right _ ha)
          · exact n a z ha
        · refine q σ2 Fs2 R2 (fun i a h => ?_) (L1.trans L2)
          rcases n2 i a h with z | z
          · rcases n1 i a z with z | z
            · exact .inl z
            · exact .inr (List.mem_append_left _ z)
          · exact .inr (List.mem_append_right _ z)
theorem sgs_nil : SimGs X lk [] [] := pgs_imp pgs_nil fun _ _ _ _ h => tGs_nil h
theorem sgs_cons {e : Expr} {es : List Expr} {t : Tg} {l : List Tg} (h1 : SimG X lk e t) (h2 : SimGs X lk es l) (hs : (assignEach (e :: es) X.env).map (·.2) = assign e X.env :: (assignEach es X.env).map (·.2) := by rfl) : SimGs X lk (e :: es) (t :: l) :=
  pgs_imp (pgs_cons h1 h2 hs) fun _ _ _ _ h => tGs_cons h
theorem asgs_len {l : List Tg} : ∀ {ds : List D} {s s' : Sg}, asgs l ds s = some s' → ds.length = l.length := by
  induction l with
  | nil => intro ds s s' h; cases ds with
    | nil => rfl
    | cons d ds => simp [asgs] at h
  | cons t l ih => intro ds s s' h; cases ds with
    | nil => simp [asgs] at h
    | cons d ds =>
      simp only [asgs] at h
      split at h
      · cases h
      · rw [List.length_cons, List.length_cons, ih h]
theorem sg_tup {es : List Expr} {k : Nat} {l : List Tg} (hc : X.calm = true) (h : SimGs X lk es l) (hn : (assignEach es X.env).length = l.length := by rfl) (hst : (assignEach es X.env).findIdx? (·.1) = none := by rfl) : SimG X lk (.Tuple es k pos) (.tp l) := by
  refine pg_imp (pg_tup hc h hn hst) fun v σ H Q z => ?_
  obtain ⟨s, Fs, d, F, s', R, A, e, q⟩ := z
  cases d with
  | tuple ds =>
    simp only [asg] at e
    obtain ⟨a, vs, rfl, hq, o⟩ := own_tup A.own
    exact ⟨a, vs, rfl, hq, by rw [o.len, asgs_len e], s, Fs, ds, F, s', R, o, A.dis, e, q⟩
  | _ => simp [asg] at e
end
/-- to a way out: what no caller holds may have changed places -/
structure EvR [Tb] (lk : Nat → Bool) (H : Hp) (Fs : Fp) (H' : Hp) (Fs' : Fp) : Prop where
  chg : Chg (InF Fs) H H'
  new : ∀ i a, a ∈ Fs' i → (a ∈ Fs i ∨ H a = none) ∨ (lk i = false ∧ ∃ k, lk k = false ∧ a ∈ Fs k)
theorem Ev.r [Tb] {lk : Nat → Bool} {H H' : Hp} {Fs Fs' : Fp} (e : Ev H Fs H' Fs') : EvR lk H Fs H' Fs' := ⟨e.chg, fun i a h => .inl (e.new i a h)⟩
theorem Ev.transR [Tb] {lk : Nat → Bool} {H H1 H' : Hp} {Fs Fs1 Fs' : Fp} (a : Ev H Fs H1 Fs1) (b : EvR lk H1 Fs1 H' Fs') : EvR lk H Fs H' Fs' := by
  refine ⟨⟨fun x o e c => ?_, fun x e => a.chg.there x (b.chg.there x e), fun t => b.chg.tab (a.chg.tab t)⟩, fun i x h => ?_⟩
  · have e1 := a.chg.keep x o e c
    refine b.chg.keep x o e1 (c.imp (fun n => ⟨fun z => ?_, n.2⟩) id)
    obtain ⟨i, hi⟩ := z
    rcases a.new i x hi with q | q
    · exact n.1 ⟨i, q⟩
    · rw [e] at q; cases q
  · rcases b.new i x h with (q | q) | ⟨q, k, hk, q2⟩
    · exact .inl (a.new i x q)
    · exact .inl (.inr (a.chg.there x q))
    · rcases a.new k x q2 with w | w
      · exact .inr ⟨q, k, hk, w⟩
      · exact .inl (.inr w)
theorem EvR.transR [Tb] {lk : Nat → Bool} {H H1 H' : Hp} {Fs Fs1 Fs' : Fp} (a : EvR lk H Fs H1 Fs1) (b : EvR lk H1 Fs1 H' Fs') : EvR lk H Fs H' Fs' := by
  have old : ∀ i x, x ∈ Fs1 i → (∃ k, x ∈ Fs k) ∨ H x = none := fun i x h => by
    rcases a.new i x h with (q | q) | ⟨_, k, _, q⟩
    · exact .inl ⟨i, q⟩
    · exact .inr q
    · exact .inl ⟨k, q⟩
  refine ⟨⟨fun x o e c => ?_, fun x e => a.chg.there x (b.chg.there x e), fun t => b.chg.tab (a.chg.tab t)⟩, fun i x h => ?_⟩
  · have e1 := a.chg.keep x o e c
    refine b.chg.keep x o e1 (c.imp (fun n => ⟨fun z => ?_, n.2⟩) id)
    obtain ⟨i, hi⟩ := z
    rcases old i x hi with q | q
    · exact n.1 q
    · rw [e] at q; cases q
  · rcases b.new i x h with (q | q) | ⟨q, k, hk, q2⟩
    · exact a.new i x q
    · exact .inl (.inr (a.chg.there x q))
    · rcases a.new k x q2 with (w | w) | ⟨_, j, hj, w⟩
      · exact .inr ⟨q, k, hk, w⟩
      · exact .inl (.inr w)
      · exact .inr ⟨q, j, hj, w⟩
theorem EvR.trans [Tb] {lk : Nat → Bool} {H H1 H' : Hp} {Fs Fs1 Fs' : Fp} (a : EvR lk H Fs H1 Fs1) (b : Ev H1 Fs1 H' Fs') : EvR lk H Fs H' Fs' := a.transR b.r
theorem EvR.wk [Tb] {lk lk' : Nat → Bool} {H H' : Hp} {Fs Fs' : Fp} (h : ∀ i, lk i = true → lk' i = true) (a : EvR lk' H Fs H' Fs') : EvR lk H Fs H' Fs' := by
  have f : ∀ i, lk' i = false → lk i = false := fun i z => by
    cases e : lk i with
    | false => rfl
    | true => rw [h i e] at z; cases z
  exact ⟨a.chg, fun i x z => (a.new i x z).imp id fun ⟨q, k, hk, w⟩ => ⟨f i q, k, f k hk, w⟩⟩
theorem EvR.refl [Tb] {lk : Nat → Bool} (H : Hp) (Fs : Fp) : EvR lk H Fs H Fs := (Ev.refl _ _).r
theorem EvR.e0 [Tb] {lk : Nat → Bool} {H H' : Hp} {Fs Fs' : Fp} (a : EvR lk H Fs H' Fs') : Ev H Fs H' (fun _ => []) := ⟨a.chg, fun _ _ h => by cases h⟩
theorem EvR.r [Tb] {lk : Nat → Bool} {H H' : Hp} {Fs Fs' : Fp} (a : EvR lk H Fs H' Fs') : EvR lk H Fs H' Fs' := a
instance EvR.coe [Tb] {lk : Nat → Bool} {H H' : Hp} {Fs Fs' : Fp} : Coe (Ev H Fs H' Fs') (EvR lk H Fs H' Fs') := ⟨Ev.r⟩
section
variable [Tb] [Vs] (K : PySem.W.Frag) (lk : Nat → Bool)
def PostS (D : Ends) (σ : St) (H : Hp) (Fs : Fp) (s' : Sg) (fl : Fl) : Prop := match fl with
  | .nx => ∀ σ' H' Fs', RelS K H' s' σ' Fs' → EvR lk H Fs H' Fs' → Lk lk σ σ' → D.nx σ' H'
  | .bk => ∀ σ' H' Fs', RelS K H' s' σ' Fs' → EvR lk H Fs H' Fs' → Lk lk σ σ' → D.bk σ' H'
  | .ct => ∀ σ' H' Fs', RelS K H' s' σ' Fs' → EvR lk H Fs H' Fs' → Lk lk σ σ' → D.ct σ' H'
  | .rt d => ∀ v σ' H' Fs' F, RelS K H' s' σ' Fs' → EvR lk H Fs H' Fs' → Lk lk σ σ' → Own K H' d v F → (∀ a, a ∈ F → H a = none ∨ ∃ i, lk i = false ∧ a ∈ Fs i) → (∀ i a, lk i = true → a ∈ Fs' i → a ∉ F) → D.rt v H'
def tS (g : S) : TS := fun D σ H => ∃ s Fs fl s', RelS K H s σ Fs ∧ g s = .ok fl s' ∧ PostS K lk D σ H Fs s' fl
end
def SimS [Tb] [Vs] (X : Cx) (lk : Nat → Bool) (st : Stmt) (g : S) : Prop := PS X st (tS X.K lk g)
def SimSs [Tb] [Vs] (X : Cx) (lk : Nat → Bool) (st : List Stmt) (g : S) : Prop := PSs X st (tS X.K lk g)
theorem ps_imp {X : Cx} {e : Stmt} {t t' : TS} (h : PS X e t) (i : ∀ D σ H, t' D σ H → t D σ H) : PS X e t' := ⟨fun pins s σ H D I q => h.run pins s σ H D I (i D σ H q)⟩
theorem pss_imp {X : Cx} {e : List Stmt} {t t' : TS} (h : PSs X e t) (i : ∀ D σ H, t' D σ H → t D σ H) : PSs X e t' := ⟨fun pins s σ H D I q => h.run pins s σ H D I (i D σ H q)⟩
def sSkip : S := fun s => .ok .nx s
def sSeq (g h : S) : S := fun s => (g s).bind fun fl s1 => match fl with
  | .nx => h s1
  | fl => .ok fl s1
def sExpr (g : O) : S := fun s => (g s).bind fun _ s1 => .ok .nx s1
def sRet (lk : Nat → Bool) (g : O) : S := fun s => (g s).bind fun r s1 => match r with
  | .val d => .ok (.rt d) s1
  | .slot i => match (s1[i]?).join with
    | none => .bad
    | some d => if pur d = true ∨ lk i = false then .ok (.rt d) s1 else .bad
def sRetN : S := fun s => .ok (.rt .none) s
def sBreak : S := fun s => .ok .bk s
def sCont : S := fun s => .ok .ct s
def sNever : S := fun _ => .bad
def sIf (t : T) (g h : S) : S := fun s => (t s).bind fun b s1 => if b = true then g s1 else h s1
def sAsg (t : Tg) (g : O) : S := fun s => (g s).bind fun r s1 => match own r s1 with
  | none => .bad
  | some d => match asg t d s1 with
    | none => .bad
    | some s2 => .ok .nx s2
def sSet (i : Nat) (g : O) : S := sAsg (.nm i) g
/-- x[k] = e -/
def sSetIx (i : Nat) (gi g : O) : S := fun s => (g s).bind fun r s1 => (oV i s1).bind fun _ s1 => (gi s1).bind fun ri s2 => match own r s2, rd ri s2, (s2[i]?).join with
  | some d, some (.int k), some (.list ds) => if pur d = true then (match ixN ds.length k with
    | none => .bad
    | some j => .ok .nx (s2.set i (some (.list (ds.set j d))))) else .bad
  | _, _, _ => .bad
section
variable [Tb] [Vs] {X : Cx} {lk : Nat → Bool} {pos : Pos} {K : PySem.W.Frag} {g h : S} {D : Ends} {σ : St} {H : Hp} {ga gb : O} {e : Expr}
theorem ss_nil : SimSs X lk [] sSkip := pss_imp pss_nil fun D σ H ⟨s, Fs, fl, s', R, e, q⟩ => by
  cases e
  exact q σ H Fs R (.refl _ _) (.refl _ _)
theorem ss_never {st : Stmt} : SimS X lk st sNever := ps_imp ps_never fun D σ H ⟨s, Fs, fl, s', R, e, q⟩ => by cases e
/-- what follows a first part -/
theorem tS_after {s : Sg} {Fs Fs1 : Fp} {σ1 : St} {H1 : Hp} {s1 s' : Sg} {fl : Fl} (R1 : RelS K H1 s1 σ1 Fs1) (E1 : EvR lk H Fs H1 Fs1) (L1 : Lk lk σ σ1) (e : h s1 = .ok fl s')
    (q : PostS K lk D σ H Fs s' fl) :
    tS K lk h D σ1 H1 := by
  refine ⟨s1, Fs1, fl, s', R1, e, ?_⟩
  cases fl with
  | nx => exact fun σ' H' Fs' R' E' L' => q σ' H' Fs' R' (E1.transR E') (L1.trans L')
  | bk => exact fun σ' H' Fs' R' E' L' => q σ' H' Fs' R' (E1.transR E') (L1.trans L')
  | ct => exact fun σ' H' Fs' R' E' L' => q σ' H' Fs' R' (E1.transR E') (L1.trans L')
  | rt d =>
    refine fun v σ' H' Fs' F R' E' L' o n m => q v σ' H' Fs' F R' (E1.transR E') (L1.trans L') o (fun a ha => ?_) m
    rcases n a ha with z | ⟨i, hi, z⟩
    · exact .inl (E1.chg.there a z)
    · rcases E1.new i a z with (z | z) | ⟨_, k, hk, z⟩
      · exact .inr ⟨i, hi, z⟩
      · exact .inl z
      · exact .inr ⟨k, hk, z⟩
theorem tS_seq (z : tS K lk (sSeq g h) D σ H) : tSeq (tS K lk g) (tS K lk h) D σ H := by
  obtain ⟨s, Fs, fl, s', R, e, q⟩ := z
  obtain ⟨f1, s1, e1, e⟩ := bind_inv e
  refine ⟨s, Fs, f1, s1, R, e1, ?_⟩
  cases f1 with
  | nx => exact fun σ1 H1 Fs1 R1 E1 L1 => tS_after (s := s) R1 E1 L1 e q
  | bk => cases e; exact q
  | ct => cases e; exact q
  | rt d => cases e; exact q
theorem ss_cons {st : Stmt} {rest : List Stmt} (h1 : SimS X lk st g) (h2 : SimSs X lk rest h) : SimSs X lk (st :: rest) (sSeq g h) := pss_imp (pss_cons h1 h2) fun _ _ _ z => tS_seq z
theorem ss_one {st : Stmt} (h1 : SimS X lk st g) : SimSs X lk [st] g := pss_one h1
theorem ss_expr (he : SimO X e ga) (hs : swapsWith e none pos.line X.env = pure false := by rfl) : SimS X lk (.Expr e pos) (sExpr ga) := by
  refine ps_imp (ps_expr he hs) fun D σ H z => ?_
  obtain ⟨s, Fs, fl, s', R, e, q⟩ := z
  obtain ⟨r, s1, e1, e⟩ := bind_inv e
  refine ⟨s, Fs, r, s1, R, e1, fun v H1 Fs1 F R1 E1 k1 n1 => ?_⟩
  cases e
  exact q σ H1 Fs1 R1 E1 (.refl _ _)
theorem ss_ret (he : SimO X e ga) : SimS X lk (.Return (some e) pos) (sRet lk ga) := by
  refine ps_imp (ps_ret he) fun D σ H z => ?_
  obtain ⟨s, Fs, fl, s', R, e, q⟩ := z
  obtain ⟨r, s1, e1, e⟩ := bind_inv e
  refine ⟨s, Fs, r, s1, R, e1, fun v H1 Fs1 F R1 E1 k1 n1 => ?_⟩
  cases k1 with
  | val A =>
    cases e
    exact q v σ H1 Fs1 F R1 E1.r (.refl _ _) A.own (fun a ha => .inl (n1 a ha)) fun i a _ hi ha => A.dis i a hi ha
  | @slot i v hv =>
    simp only at e
    split at e
    · cases e
    · rename_i d hd
      split at e
      · rename_i hp
        cases e
        obtain ⟨v', hv', o⟩ := R1.has i d (join_some hd)
        rw [hv] at hv'
        cases hv'
        refine q v σ H1 Fs1 (Fs1 i) R1 E1.r (.refl _ _) o (fun a ha => ?_) fun j a hj hi ha => ?_
        · rcases hp with hp | hp
          · rw [o.pur hp] at ha; cases ha
          · rcases E1.new i a ha with z | z
            · exact .inr ⟨i, hp, z⟩
            · exact .inl z
        · rcases hp with hp | hp
          · rw [o.pur hp] at ha; cases ha
          · have := R1.dis j i a hi ha
            subst this
            rw [hp] at hj; cases hj
      · cases e
theorem ss_if {c : Expr} {as bs : List Stmt} {t : T} (hc : SimT X c t) (ha : SimSs X lk as g) (hb : SimSs X lk bs h) : SimS X lk (.If c as bs pos) (sIf t g h) := by
  refine ps_imp (ps_if hc ha hb) fun D σ H z => ?_
  obtain ⟨s, Fs, fl, s', R, e, q⟩ := z
  obtain ⟨b, s1, e1, e⟩ := bind_inv e
  refine ⟨s, Fs, b, s1, R, e1, fun H1 Fs1 R1 E1 => ?_⟩
  cases b with
  | true => exact iteT (tS_after (s := s) R1 E1 (.refl _ _) e q)
  | false => exact iteF (tS_after (s := s) R1 E1 (.refl _ _) e q)
theorem rfOk_own {Fs : Fp} {r : Rf} {v : V} {F : List Addr} {s : Sg} {d : Sim.D} (k : RfOk K H σ Fs r v F) (R : RelS K H s σ Fs) (e : own r s = some d) : Apart K H Fs d v F := by
  cases k with
  | val A => cases e; exact A
  | @slot i v hv =>
    simp only [own] at e
    split at e
    · cases e
    · rename_i d' hd
      split at e
      · rename_i hp
        cases e
        obtain ⟨v', hv', o⟩ := R.has i d (join_some hd)
        rw [hv] at hv'
        cases hv'
        rw [o.pur hp] at o
        exact ⟨o, fun _ _ _ z => by cases z⟩
      · cases e
theorem tS_asg {t : Tg} (z : tS K lk (sAsg t ga) D σ H) : tAsg (tO K ga) (tG K lk t) D σ H := by
  obtain ⟨s, Fs, fl, s', R, e, q⟩ := z
  obtain ⟨r, s1, e1, e⟩ := bind_inv e
  refine ⟨s, Fs, r, s1, R, e1, fun v H1 Fs1 F R1 E1 k1 n1 => ?_⟩
  split at e
  · cases e
  · rename_i d hd
    split at e
    · cases e
    · rename_i s2 hs2
      cases e
      refine ⟨s1, Fs1, d, F, _, R1, rfOk_own k1 R1 hd, hs2, fun σ2 Fs2 R2 n2 L2 => q σ2 H1 Fs2 R2 ⟨E1.chg, fun i a h => ?_⟩ L2⟩
      rcases n2 i a h with z | z
      · exact .inl (E1.new i a z)
      · exact .inl (.inr (n1 a z))
theorem ss_asg {tg : Expr} {t : Tg} (he : SimO X e ga) (hg : SimG X lk tg t) (hs : swapsWithSole [tg] e pos.line X.env = pure false := by rfl) (hw : swappedStores [tg] e X.env = pure none := by rfl)
    (h1 : (assignEach [tg] X.env).map (·.2) = [assign tg X.env] := by rfl) : SimS X lk (.Assign [tg] e pos) (sAsg t ga) := ps_imp (ps_asg he hg hs hw h1) fun _ _ _ z => tS_asg z
theorem ss_set {i : Nat} {x : Str} {pos' : Pos} (hN : X.N.Nodup) (hi : X.N[i]? = some x) (hx : Loc X.env.scope x) (hl : lk i = false) (he : SimO X e ga) (hs : swapsWith e (some (.Name x pos')) pos.line X.env = pure false := by rfl) (hf : X.fn x = true ∨ X.env.scope.names.lookup x = some .local := by first | exact .inl rfl | exact .inr rfl | assumption) (ko : Vs.ok i := by first | exact trivial | assumption | exact ⟨by decide, by decide⟩) :
    SimS X lk (.Assign [.Name x pos'] e pos) (sSet i ga) := ps_imp (ps_set hN hi hx he hs hf) fun D σ H z => tO_mono (fun v H h => by have w := tG_nm hl ko h; exact w) (tS_asg z)
theorem ss_setIxF {e0 : Expr} {i : Nat} {ix : Expr} {p2 : Pos} (hv : PE X e0 (tSl i)) (hix : SimO X ix gb) (he : SimO X e ga)
    (ha : ∀ v, assign (.Subscript e0 ix p2) X.env v = (do
      let ov ← holding [v] (eval e0 X.env)
      let iv ← holding [v, ov] (eval ix X.env)
      standAt p2
      holding [v, ov, iv] (setItem ov iv v)
      release [v, ov, iv] []) := by intro _; rfl)
    (hs : swapsWithSole [.Subscript e0 ix p2] e pos.line X.env = pure false := by rfl) (hw : swappedStores [.Subscript e0 ix p2] e X.env = pure none := by rfl)
    (h1 : (assignEach [.Subscript e0 ix p2] X.env).map (·.2) = [assign (.Subscript e0 ix p2) X.env] := by rfl) : SimS X lk (.Assign [.Subscript e0 ix p2] e pos) (sSetIx i gb ga) := by
  refine ps_imp (ps_asg he (pg_sub hv hix set_list ha) hs hw h1) fun D σ H z => ?_
  obtain ⟨s, Fs, fl, s', R, e, q⟩ := z
  obtain ⟨r, s1, e1, e⟩ := bind_inv e
  refine ⟨s, Fs, r, s1, R, e1, fun v H1 Fs1 F R1 E1 k1 n1 => ?_⟩
  obtain ⟨rv, s1', e1', e⟩ := bind_inv e
  unfold oV at e1'
  split at e1'
  · rename_i d0 hd0
    cases e1'
    obtain ⟨vl, hvl, _⟩ := R1.has i d0 (join_some hd0)
    refine ⟨vl, hvl, R1.lnk.1, ?_⟩
    obtain ⟨ri, s2, e2, e⟩ := bind_inv e
    refine ⟨s1, Fs1, ri, s2, R1, e2, fun vi H2 Fs2 F2 R2 E2 k2 n2 => ?_⟩
    split at e
    · rename_i d k ds hd hk hs2
      split at e
      · rename_i hp
        split at e
        · cases e
        · rename_i j hj
          cases e
          obtain ⟨vl', hvl', o⟩ := R2.has i _ (join_some hs2)
          rw [hvl] at hvl'
          cases hvl'
          obtain ⟨l, vs, F0, rfl, eF, hl, t, nl⟩ := own_list o
          obtain ⟨F', oi⟩ := k2.dp R2 hk
          cases oi
          have A := rfOk_own (k1.ev E2) R2 hd
          have o1 := A.own
          rw [o1.pur hp] at o1
          obtain ⟨F3, t3, hF3⟩ := OwnA.put o1 j t
          refine ⟨l, vs, k, j, rfl, rfl, hl, by rw [t.len]; exact hj, ?_⟩
          obtain ⟨Fs3, R3, C3, n3⟩ := R2.wr (join_some hs2) hvl hl eF t3 (fun z => nl (hF3 _ z)) (fun a ha => .inl (hF3 a ha)) (Fd := []) (by simp)
          refine q σ _ Fs3 R3 ((E1.trans E2).trans ⟨C3, fun j a h => (n3 j a h).imp id (fun z => by cases z)⟩) (.refl _ _)
      · cases e
    · cases e
  · cases e1'
theorem ss_setIx {i : Nat} {x : Str} {ix : Expr} {p1 p2 : Pos} (hv : PE X (.Name x p1) (tVar i)) (hix : SimO X ix gb) (he : SimO X e ga)
    (ha : ∀ v, assign (.Subscript (.Name x p1) ix p2) X.env v = (do
      let ov ← holding [v] (eval (.Name x p1) X.env)
      let iv ← holding [v, ov] (eval ix X.env)
      standAt p2
      holding [v, ov, iv] (setItem ov iv v)
      release [v, ov, iv] []) := by intro _; rfl)
    (hs : swapsWithSole [.Subscript (.Name x p1) ix p2] e pos.line X.env = pure false := by rfl) (hw : swappedStores [.Subscript (.Name x p1) ix p2] e X.env = pure none := by rfl)
    (h1 : (assignEach [.Subscript (.Name x p1) ix p2] X.env).map (·.2) = [assign (.Subscript (.Name x p1) ix p2) X.env] := by rfl) : SimS X lk (.Assign [.Subscript (.Name x p1) ix p2] e pos) (sSetIx i gb ga) :=
  ss_setIxF (tsl_of hv) hix he ha hs hw h1
end
end Sim
namespace Sim
open PySem PySem.Spec L2
def lks : List Rf → List D → List (Nat × D)
  | .slot i :: rs, d :: ds => if pur d = true then lks rs ds else (i, d) :: lks rs ds
  | .val _ :: rs, _ :: ds => lks rs ds
  | _, _ => []
def lockS : List (Nat × D) → Sg → Sg
  | [], s => s
  | p :: l, s => lockS l (s.set p.1 none)
def unlockS : List (Nat × D) → Sg → Sg
  | [], s => s
  | p :: l, s => unlockS l (s.set p.1 (some p.2))
def nodupB : List Nat → Bool
  | [] => true
  | x :: l => !l.contains x && nodupB l
/-- what is closed, stands apart -/
structure HvS [Tb] [Vs] (σ : St) (i : Nat) (v : V) : Prop where
  get : σ[i]? = some (some v)
  fp : Vs.fp i = []
inductive Hid [Tb] [Vs] (K : PySem.W.Frag) (H : Hp) (σ : St) (Fs : Fp) : List (Nat × D) → List (List Addr) → Prop
  | nil : Hid K H σ Fs [] []
  | cons {i : Nat} {d : D} {v : V} {F : List Addr} {l : List (Nat × D)} {Gs : List (List Addr)} : HvS σ i v → Apart K H Fs d v F → (∀ G, G ∈ Gs → ∀ a, a ∈ F → a ∉ G) → Hid K H σ Fs l Gs → Hid K H σ Fs ((i, d) :: l) (F :: Gs)
/-- where what is closed comes from -/
def From (H0 : Hp) (Fs0 : Fp) : List (Nat × D) → List (List Addr) → Prop
  | [], [] => True
  | p :: l, F :: Gs => (∀ a, a ∈ F → a ∈ Fs0 p.1 ∨ H0 a = none) ∧ From H0 Fs0 l Gs
  | _, _ => False
section
variable [Tb] [Vs] {K : PySem.W.Frag} {H H1 H' H0 : Hp} {s s' : Sg} {σ σ' : St} {Fs Fs1 Fs' Fs0 : Fp} {l : List (Nat × D)} {Gs : List (List Addr)}
theorem Hid.ev (h : Hid K H σ Fs l Gs) (e : Ev H Fs H' Fs') (L : ∀ p, p ∈ l → σ'[p.1]? = σ[p.1]?) : Hid K H' σ' Fs' l Gs := by
  induction h with
  | nil => exact .nil
  | @cons i d v F l Gs hv A n _ ih =>
    exact .cons ⟨(L _ (List.mem_cons_self ..)).trans hv.get, hv.fp⟩ (A.ev e) n (ih fun p hp => L p (List.mem_cons_of_mem _ hp))
theorem Hid.evR {lk : Nat → Bool} (h : Hid K H σ Fs l Gs) (e : EvR lk H Fs H' Fs') (L : ∀ p, p ∈ l → σ'[p.1]? = σ[p.1]?) : Hid K H' σ' Fs' l Gs := by
  induction h with
  | nil => exact .nil
  | @cons i d v F l Gs hv A n _ ih =>
    refine .cons ⟨(L _ (List.mem_cons_self ..)).trans hv.get, hv.fp⟩ ⟨A.own.chg e.chg fun a ha ⟨i, hi⟩ => A.dis i a hi ha, fun i a hi ha => ?_⟩ n (ih fun p hp => L p (List.mem_cons_of_mem _ hp))
    rcases e.new i a hi with (q | q) | ⟨_, k, _, q⟩
    · exact A.dis i a q ha
    · obtain ⟨xs, z⟩ := A.own.mem a ha
      rw [q] at z; cases z
    · exact A.dis k a q ha
theorem Hid.mem (h : Hid K H σ Fs l Gs) : ∀ G, G ∈ Gs → ∀ a, a ∈ G → (∃ xs : MO, H a = some xs.ho) ∧ ∀ i, a ∉ Fs i := by
  induction h with
  | nil => intro G h; cases h
  | cons hv A n _ ih =>
    intro G h a ha
    rcases List.mem_cons.mp h with rfl | h
    · exact ⟨A.own.mem a ha, fun i hi => A.dis i a hi ha⟩
    · exact ih G h a ha
theorem From.trans (h : From H Fs l Gs) (e : ∀ i a, a ∈ Fs i → a ∈ Fs0 i ∨ H0 a = none) (t : ∀ a, H a = none → H0 a = none) : From H0 Fs0 l Gs := by
  induction l generalizing Gs with
  | nil => cases Gs with
    | nil => trivial
    | cons _ _ => exact h.elim
  | cons p l ih => cases Gs with
    | nil => exact h.elim
    | cons F Gs =>
      refine ⟨fun a ha => ?_, ih h.2⟩
      rcases h.1 a ha with z | z
      · exact e _ a z
      · exact .inr (t a z)
theorem nodupB_cons {x : Nat} {l : List Nat} (h : nodupB (x :: l) = true) : x ∉ l ∧ nodupB l = true := by
  simp only [nodupB, Bool.and_eq_true, Bool.not_eq_true', List.contains_eq_mem, decide_eq_false_iff_not] at h
  exact h
theorem RelS.lock (R : RelS K H s σ Fs) (hs : ∀ p, p ∈ l → s[p.1]? = some (some p.2)) (nd : nodupB (l.map (·.1)) = true) :
    ∃ Fs' Gs, RelS K H (lockS l s) σ Fs' ∧ Hid K H σ Fs' l Gs ∧ (∀ j a, a ∈ Fs' j → a ∈ Fs j) ∧ From H Fs l Gs := by
  induction l generalizing s Fs with
  | nil => exact ⟨Fs, [], R, .nil, fun _ _ h => h, trivial⟩
  | cons p l ih =>
    obtain ⟨n1, n2⟩ := nodupB_cons nd
    obtain ⟨v, hv, o⟩ := R.has p.1 p.2 (hs p (List.mem_cons_self ..))
    obtain ⟨Fs', Gs, R', hd, sub, fr⟩ := ih (R.drop p.1 (hs p (List.mem_cons_self ..))) (fun q hq => by
      rw [List.getElem?_set_ne]
      · exact hs q (List.mem_cons_of_mem _ hq)
      · intro e
        refine n1 ?_
        show p.1 ∈ _
        rw [e]
        exact List.mem_map_of_mem (f := fun x : Nat × D => x.1) hq) n2
    have sub2 : ∀ j a, a ∈ upF Fs p.1 [] j → a ∈ Fs j ∧ j ≠ p.1 := fun j a h => by
      unfold upF at h
      split at h
      · cases h
      · exact ⟨h, by assumption⟩
    refine ⟨Fs', Fs p.1 :: Gs, R', .cons ⟨hv, R.fp0 (hs p (List.mem_cons_self ..))⟩ ⟨o, fun i a hi ha => ?_⟩ (fun G hG a ha hb => ?_) hd, fun j a h => (sub2 j a (sub j a h)).1, fun a h => .inl h, fr.trans (fun i a h => .inl (sub2 i a h).1) fun _ h => h⟩
    · obtain ⟨h1, h2⟩ := sub2 i a (sub i a hi)
      exact h2 (R.dis i p.1 a h1 ha)
    · -- a closed one's places are another slot's
      have key : ∀ (l : List (Nat × D)) (Gs : List (List Addr)), From H (upF Fs p.1 []) l Gs → G ∈ Gs → ∃ i, a ∈ upF Fs p.1 [] i ∨ H a = none := fun l => by
        induction l with
        | nil => intro Gs h1 h2; cases Gs with
          | nil => cases h2
          | cons _ _ => exact h1.elim
        | cons q l ih => intro Gs h1 h2; cases Gs with
          | nil => cases h2
          | cons F Gs =>
            rcases List.mem_cons.mp h2 with rfl | h2
            · exact ⟨q.1, h1.1 a hb⟩
            · exact ih Gs h1.2 h2
      obtain ⟨i, hi | hi⟩ := key l Gs fr hG
      · obtain ⟨h1, h2⟩ := sub2 i a hi
        exact h2 (R.dis i p.1 a h1 ha)
      · obtain ⟨xs, w⟩ := o.mem a ha
        rw [hi] at w; cases w
theorem RelS.unlock (R : RelS K H s σ Fs) (hd : Hid K H σ Fs l Gs) (fr : From H0 Fs0 l Gs) :
    ∃ Fs', RelS K H (unlockS l s) σ Fs' ∧ ∀ j a, a ∈ Fs' j → a ∈ Fs j ∨ ((a ∈ Fs0 j ∨ H0 a = none) ∧ ∃ G, G ∈ Gs ∧ a ∈ G) := by
  induction l generalizing s Fs Gs with
  | nil =>
    cases hd
    exact ⟨Fs, R, fun _ _ h => .inl h⟩
  | cons p l ih =>
    cases hd with
    | @cons i d v F l Gs hv A n hd =>
      obtain ⟨Fs1, R1, n1⟩ := R.reput A i hv.get hv.fp
      have hd1 : Hid K H σ Fs1 l Gs := by
        clear ih R fr
        induction hd with
        | nil => exact .nil
        | @cons j d' v' F' l Gs hv' A' n' hd' ih' =>
          refine .cons hv' ⟨A'.own, fun k a hk ha => ?_⟩ n' (ih' fun G hG => n G (List.mem_cons_of_mem _ hG))
          rcases n1 k a hk with z | z
          · exact A'.dis k a z.1 ha
          · exact n F' (List.mem_cons_self ..) a z.1 ha
      obtain ⟨Fs', R', n2⟩ := ih (s := s.set i (some d)) R1 hd1 fr.2
      refine ⟨Fs', R', fun j a h => ?_⟩
      rcases n2 j a h with z | ⟨z, G, hG, ha⟩
      · rcases n1 j a z with w | w
        · exact .inl w.1
        · refine .inr ⟨?_, F, List.mem_cons_self .., w.1⟩
          rw [w.2]
          exact fr.1 a w.1
      · exact .inr ⟨z, G, List.mem_cons_of_mem _ hG, ha⟩
end
abbrev I := Sg → Res (List D × List (Nat × D))
structure WalkD (K : PySem.W.Frag) (J : It) (G : Hp → Prop) (es : List D) : Prop where
  goes : ∀ i H, i < es.length → G H → J.go i H
  stops : ∀ H, G H → J.stop es.length H
  yields : ∀ i H x H', i < es.length → G H → J.yld i H x H' → ∃ d, es[i]? = some d ∧ Same H H' ∧ Own K H' d x []
def tI [Tb] [Vs] (K : PySem.W.Frag) (g : I) : TI := fun σ H R => ∃ s Fs es l s', RelS K H s σ Fs ∧ g s = .ok (es, l) s' ∧
  ∀ J H1 Fs1 Gs (G : Hp → Prop), RelS K H1 s' σ Fs1 → Chg (InF Fs) H H1 → (∀ j a, a ∈ Fs1 j → a ∈ Fs j ∨ H a = none) → Hid K H1 σ Fs1 l Gs → From H Fs l Gs → WalkD K J G es →
    (∀ H2 Fs2, Ev H1 Fs1 H2 Fs2 → G H2) → R J H1
def SimI [Tb] [Vs] (X : Cx) (tg iter : Expr) (g : I) : Prop := PI X tg iter (tI X.K g)
theorem pi_imp {X : Cx} {tg e : Expr} {t t' : TI} (h : PI X tg e t) (i : ∀ σ H Q, t' σ H Q → t σ H Q) : PI X tg e t' := ⟨fun pins s σ H Q I q => h.run pins s σ H Q I (i σ H Q q)⟩
/-- from operands that stand: items -/
def mkI (itm : List D → Option (List D)) (g : AL) : I := fun s => (g s).bind fun rs s1 => match rds rs s1 with
  | none => .bad
  | some ds => match itm ds with
    | none => .bad
    | some es => if purs es = true ∧ nodupB ((lks rs ds).map (·.1)) = true then .ok (es, lks rs ds) (lockS (lks rs ds) s1) else .bad
section
variable [Tb] [Vs] {X : Cx} {K : PySem.W.Frag}
theorem lks_has {H : Hp} {s : Sg} {σ : St} {Fs : Fp} {rs : List Rf} {vs : List V} {Gs : List (List Addr)} (r : Rfs K H σ Fs rs vs Gs) : ∀ {ds : List D}, rds rs s = some ds → ∀ p, p ∈ lks rs ds → s[p.1]? = some (some p.2) := by
  induction r with
  | nil => intro ds e p h; cases e; simp [lks] at h
  | @val d v F rs vs Gs A n _ ih =>
    intro ds e p h
    unfold rds at e
    simp only [rd] at e
    split at e
    · cases e
    · rename_i es he
      cases e
      exact ih he p (by simpa [lks] using h)
  | @slot i v rs vs Gs hv _ ih =>
    intro ds e p h
    unfold rds at e
    simp only [rd] at e
    split at e
    · cases e
    · rename_i d hd
      split at e
      · cases e
      · rename_i es he
        cases e
        unfold lks at h
        split at h
        · exact ih he p h
        · rcases List.mem_cons.mp h with rfl | h
          · exact join_some hd
          · exact ih he p h
/-- the operands stand through what a loop does -/
theorem lks_stand {H H2 : Hp} {s : Sg} {σ : St} {Fs Fs1 Fs2 : Fp} (R : RelS K H s σ Fs) (sub : ∀ j a, a ∈ Fs1 j → a ∈ Fs j) (e : Ev H Fs1 H2 Fs2) {l : List (Nat × D)} {Gl : List (List Addr)} (hd : Hid K H σ Fs1 l Gl) :
    ∀ {rs : List Rf} {vs : List V} {Gs : List (List Addr)}, Rfs K H σ Fs rs vs Gs → ∀ {ds : List D}, rds rs s = some ds → (∀ p, p ∈ lks rs ds → p ∈ l) → RdA K H2 vs ds := by
  intro rs vs Gs r
  induction r with
  | nil => intro ds e _; cases e; exact .nil
  | @val d v F rs vs Gs A n _ ih =>
    intro ds e' h
    unfold rds at e'
    simp only [rd] at e'
    split at e'
    · cases e'
    · rename_i es he
      cases e'
      have A1 : Apart K H Fs1 d v F := ⟨A.own, fun i a hi ha => A.dis i a (sub i a hi) ha⟩
      exact .cons (A1.ev e).own (ih he fun p hp => h p (by simpa [lks] using hp))
  | @slot i v rs vs Gs hv _ ih =>
    intro ds e' h
    unfold rds at e'
    simp only [rd] at e'
    split at e'
    · cases e'
    · rename_i d hd0
      split at e'
      · cases e'
      · rename_i es he
        cases e'
        obtain ⟨v', hv', o⟩ := R.has i d (join_some hd0)
        rw [hv] at hv'
        cases hv'
        by_cases hp : pur d = true
        · rw [o.pur hp] at o
          refine .cons (o.chg e.chg fun _ z => by cases z) (ih he fun p hp' => h p ?_)
          unfold lks
          rw [if_pos hp]
          exact hp'
        · have hm : (i, d) ∈ l := h (i, d) (by unfold lks; rw [if_neg hp]; exact List.mem_cons_self ..)
          have key : ∀ {l : List (Nat × D)} {Gl : List (List Addr)}, Hid K H σ Fs1 l Gl → (i, d) ∈ l → ∃ F, Apart K H Fs1 d v F := fun {l Gl} q => by
            induction q with
            | nil => intro h; cases h
            | @cons j d' v' F l Gl hv' A n _ ih =>
              intro h
              rcases List.mem_cons.mp h with z | h
              · cases z
                have hv' := hv'.get
                rw [hv] at hv'
                cases hv'
                exact ⟨F, A⟩
              · exact ih h
          obtain ⟨F, A⟩ := key hd hm
          refine .cons (A.ev e).own (ih he fun p hp' => h p ?_)
          unfold lks
          rw [if_neg hp]
          exact List.mem_cons_of_mem _ hp'
/-- the rule of a walk over operands: J as the values say -/
theorem mkI_ok {itm : List D → Option (List D)} {g : AL} {σ : St} {H : Hp} {R : It → Hp → Prop} (h : tI K (mkI itm g) σ H R) {w : List V → Hp → (It → Hp → Prop) → Prop}
    (hw : ∀ vs ds es H R, RdA K H vs ds → itm ds = some es → purs es = true → (∀ J, WalkD K J (fun H2 => RdA K H2 vs ds) es → R J H) → w vs H R) : tA K g σ H fun vs H1 => w vs H1 R := by
  obtain ⟨s, Fs, es, l, s', R0, e, q⟩ := h
  obtain ⟨rs, s1, e1, e⟩ := bind_inv e
  refine ⟨s, Fs, rs, s1, R0, e1, fun vs H1 Fs1 Gs R1 E1 k1 n1 => ?_⟩
  split at e
  · cases e
  · rename_i ds hds
    split at e
    · cases e
    · rename_i es' hes
      split at e
      · rename_i hp
        cases e
        obtain ⟨Fs2, Gl, R2, hd, sub, fr⟩ := R1.lock (lks_has k1 hds) hp.2
        refine hw vs ds es H1 R (k1.dp R1 hds) hes hp.1 fun J W => ?_
        refine q J H1 Fs2 Gl _ R2 E1.chg (fun j a h => E1.new j a (sub j a h)) hd (fr.trans E1.new fun a h => E1.chg.there a h) W fun H2 Fs3 E => ?_
        exact lks_stand R1 sub E hd k1 hds fun p h => h
      · cases e
theorem purs_get {es : List D} (h : purs es = true) {i : Nat} {d : D} (e : es[i]? = some d) : pur d = true := by
  induction es generalizing i with
  | nil => simp at e
  | cons x es ih =>
    simp only [purs, Bool.and_eq_true] at h
    cases i with
    | zero => simp at e; rw [← e]; exact h.1
    | succ i => exact ih h.2 (by simpa using e)
theorem OwnA.at {H : Hp} {ds : List D} {vs : List V} {F : List Addr} (t : OwnA K H ds vs F) (p : purs ds = true) {i : Nat} {x : V} (e : vs[i]? = some x) : ∃ d, ds[i]? = some d ∧ Own K H d x [] := by
  have hl := t.len
  have hi : i < ds.length := by rw [← hl]; exact (List.getElem?_eq_some_iff.mp e).1
  obtain ⟨v, G, hv, o, _⟩ := t.get i ds[i] (List.getElem?_eq_getElem hi)
  rw [e] at hv
  cases hv
  have pp := purs_get p (List.getElem?_eq_getElem hi)
  rw [o.pur pp] at o
  exact ⟨_, List.getElem?_eq_getElem hi, o⟩
/-- plain: a list, a tuple, a list that never changes -/
def itP : List D → Option (List D)
  | [.list ds] => some ds
  | [.tuple ds] => some ds
  | [.dict [(.none, .list ds)]] => some ds
  | _ => none
def wP (K : PySem.W.Frag) : List V → Hp → (It → Hp → Prop) → Prop := fun vs H R => ∃ a, vs = [.ref a] ∧ ((∃ xs, SqL K H a xs) ∧ R (Itl K a) H ∨ (∃ xs, SqT K H a xs) ∧ R (Itt K a) H)
theorem rd_list {H : Hp} {a : Addr} {ds : List D} (h : RdA K H [.ref a] [.list ds]) : ∃ xs F, SqL K H a xs ∧ OwnA K H ds xs F := by
  cases h with
  | cons o _ =>
    cases o with
    | lst h t n => exact ⟨_, _, SqL.of h, t⟩
theorem rd_tup {H : Hp} {a : Addr} {ds : List D} (h : RdA K H [.ref a] [.tuple ds]) : ∃ xs F, SqT K H a xs ∧ OwnA K H ds xs F := by
  cases h with
  | cons o _ =>
    cases o with
    | tup h t => exact ⟨_, _, h.sq, t⟩
theorem rd_frz {H : Hp} {a : Addr} {ds : List D} (h : RdA K H [.ref a] [.dict [(.none, .list ds)]]) : ∃ xs F, SqL K H a xs ∧ OwnA K H ds xs F := by
  cases h with
  | cons o _ =>
    cases o with
    | frz h t => exact ⟨_, _, h.sq, t⟩
theorem walkD_l {a : Addr} {ds : List D} {G : Hp → Prop} (p : purs ds = true) (h : ∀ H, G H → ∃ xs F, SqL K H a xs ∧ OwnA K H ds xs F) : WalkD K (Itl K a) G ds := by
  refine ⟨fun i H hi g => ?_, fun H g => ?_, fun i H x H' hi g y => ?_⟩
  · obtain ⟨xs, F, hq, t⟩ := h H g
    have hl := t.len
    exact ⟨xs, xs[i]'(by omega), hq, List.getElem?_eq_getElem _⟩
  · obtain ⟨xs, F, hq, t⟩ := h H g
    have hl := t.len
    exact ⟨xs, hq, by omega⟩
  · obtain ⟨xs, F, hq, t⟩ := h H g
    obtain ⟨rfl, y⟩ := y
    obtain ⟨d, hd, o⟩ := t.at p (y xs hq)
    exact ⟨d, hd, Same.refl _, o⟩
theorem walkD_t {a : Addr} {ds : List D} {G : Hp → Prop} (p : purs ds = true) (h : ∀ H, G H → ∃ xs F, SqT K H a xs ∧ OwnA K H ds xs F) : WalkD K (Itt K a) G ds := by
  refine ⟨fun i H hi g => ?_, fun H g => ?_, fun i H x H' hi g y => ?_⟩
  · obtain ⟨xs, F, hq, t⟩ := h H g
    have hl := t.len
    exact ⟨xs, xs[i]'(by omega), hq, List.getElem?_eq_getElem _⟩
  · obtain ⟨xs, F, hq, t⟩ := h H g
    have hl := t.len
    exact ⟨xs, hq, by omega⟩
  · obtain ⟨xs, F, hq, t⟩ := h H g
    obtain ⟨rfl, y⟩ := y
    obtain ⟨d, hd, o⟩ := t.at p (y xs hq)
    exact ⟨d, hd, Same.refl _, o⟩
theorem wP_ok : ∀ (vs : List V) (ds es : List D) (H : Hp) (R : It → Hp → Prop), RdA K H vs ds → itP ds = some es → purs es = true → (∀ J, WalkD K J (fun H2 => RdA K H2 vs ds) es → R J H) → wP K vs H R := by
  intro vs ds es H R h e p q
  unfold itP at e
  split at e
  · cases e
    obtain ⟨x, F, rfl, o⟩ := h.one
    cases o with
    | lst h1 t n => exact ⟨_, rfl, .inl ⟨⟨_, SqL.of h1⟩, q _ (walkD_l p fun H2 g => rd_list g)⟩⟩
  · cases e
    obtain ⟨x, F, rfl, o⟩ := h.one
    cases o with
    | tup h1 t => exact ⟨_, rfl, .inr ⟨⟨_, h1.sq⟩, q _ (walkD_t p fun H2 g => rd_tup g)⟩⟩
  · cases e
    obtain ⟨x, F, rfl, o⟩ := h.one
    cases o with
    | frz h1 t => exact ⟨_, rfl, .inl ⟨⟨_, h1.sq⟩, q _ (walkD_l p fun H2 g => rd_frz g)⟩⟩
  · cases e
/-- over a list or a tuple -/
theorem pi_seq {tg e : Expr} {te : TE} (he : PE X e te) : PI X tg e (fun σ H R => te σ H fun x H1 => wP X.K [x] H1 R) := by
  refine ⟨fun pins s σ H R I h => ?_⟩
  -- the value is known only when it is there: both rules run on the same evaluation
  refine thn (he.run pins s σ H _ I h) fun v s1 ⟨x, H1, I1, r1, a, ex, q⟩ => ?_
  have ex' : x = V.ref a := by cases ex; rfl
  subst ex'
  rcases q with ⟨⟨xs, hq⟩, q⟩ | ⟨⟨xs, hq⟩, q⟩
  · cases r1
    obtain ⟨its, rv, p, hz⟩ := I1.list hq
    refine wpAny_pyIter_list p.isList ?_
    refine ⟨s1.heap.objs.size, [s1.heap.objs.size], _, _, H1, rfl, I1.kept (t' := s1.toks) fun b o e => Heap.get?_push_of_some _ e, turn_list a _, ⟨_, Heap.get?_push_size _ rfl, rfl, rfl⟩, fun b hb => ?_, q⟩
    have e : b = s1.heap.objs.size := by simpa using hb
    subst e
    exact I1.fpOk (Nat.le_refl _) (I1.hok.fresh (Nat.le_refl _))
  · cases r1
    obtain ⟨its, rv, p, hz⟩ := I1.tuple hq
    refine wpAny_pyIter_tuple (show s1.heap.IsTuple a its.toArray from p) ?_
    refine ⟨s1.heap.objs.size, [s1.heap.objs.size], _, _, H1, rfl, I1.kept (t' := s1.toks) fun b o e => Heap.get?_push_of_some _ e, turn_tuple a _, ⟨_, Heap.get?_push_size _ rfl, rfl, rfl⟩, fun b hb => ?_, q⟩
    have e : b = s1.heap.objs.size := by simpa using hb
    subst e
    exact I1.fpOk (Nat.le_refl _) (I1.hok.fresh (Nat.le_refl _))
theorem si_seq {tg e : Expr} {ga : O} (he : SimO X e ga) : SimI X tg e (mkI itP (aCons ga aNil)) :=
  pi_imp (pi_seq he) fun _ _ _ h => by have z := tA1 (mkI_ok h wP_ok); exact z
def rngD (lo : Int) (n : Nat) : List D := (List.range n).map fun i => .int (lo + (i : Nat))
def itR1 : List D → Option (List D)
  | [.int j] => if -1000000 < j ∧ j < 1000000 then some (rngD 0 j.toNat) else none
  | _ => none
def itR2 : List D → Option (List D)
  | [.int i, .int j] => if -1000000 < i ∧ i < 1000000 ∧ -1000000 < j ∧ j < 1000000 then some (rngD i (j - i).toNat) else none
  | _ => none
theorem rngD_len (lo : Int) (n : Nat) : (rngD lo n).length = n := by unfold rngD; simp
theorem walkD_r {lo : Int} {n : Nat} {G : Hp → Prop} : WalkD K (Itr lo n) G (rngD lo n) := by
  refine ⟨fun i H hi g => by rw [rngD_len] at hi; exact hi, fun H g => by rw [rngD_len]; exact Nat.le_refl _, fun i H x H' hi g y => ?_⟩
  obtain ⟨rfl, rfl⟩ := y
  rw [rngD_len] at hi
  refine ⟨.int (lo + (i : Nat)), ?_, Same.refl _, .int _⟩
  unfold rngD
  rw [List.getElem?_map, List.getElem?_range hi]
  rfl
theorem si_range1 {tg a : Expr} {ga : O} {p pos : Pos} (hg : Gl X "range") (hm : X.mg "range" = none) (ha : SimA X [a] (aCons ga aNil)) (hs : starEach [a] X.env = [(false, eval a X.env)] := by rfl) : SimI X tg (.Call (.Name "range" p) [a] [] pos) (mkI itR1 (aCons ga aNil)) := by
  refine pi_imp (pi_range1 hg hm ha hs) fun σ H R h => ?_
  exact mkI_ok h (w := fun vs H1 R => ∃ j : Int, vs = [.int j] ∧ -(2 ^ 62) ≤ j ∧ j < 2 ^ 62 ∧ R (Itr 0 j.toNat) H1) (fun vs ds es H R h e p q => by
    unfold itR1 at e
    split at e
    · obtain ⟨x, F, rfl, o⟩ := h.one
      cases o
      split at e
      · rename_i hj
        cases e
        exact ⟨_, rfl, by omega, by omega, q _ walkD_r⟩
      · cases e
    · cases e)
end
end Sim
namespace Sim
open PySem PySem.Spec L2
open Sem (wp)
theorem meets_enumerate_newB1 {v : Value} {o : Obj} {H : Heap → Prop} (B : Begins v o H) :
    Meets (Builtin.«enumerate.__new__» ⟨[.type "enumerate", v], []⟩) (fun _ R s => H s.heap ∧
      R (.ok (.ret (.ref (s.heap.push o).objs.size))) { s with heap := (s.heap.push o).push { cls := .type "enumerate", data := .fields #[.none, .bool false, .ref s.heap.objs.size, rawInt 0, .none, .none] } }) :=
  .of_wp fun prog w A R s h => by
    obtain ⟨hp, g, d, tk, os⟩ := s; obtain ⟨h1, h⟩ := h
    have hsub := sub_enumerate
    have q1 : ∀ {A' : Around} {E : Value → Shared → Prop} {Q : Value → Shared → Prop}, Q (.ref hp.objs.size) ⟨hp.push o, g, d, tk, os⟩ → wpAny (model prog w) A' (pyIter v) Q E ⟨hp, g, d, tk, os⟩ :=
      fun q => B.iter prog w _ _ ⟨hp, g, d, tk, os⟩ _ h1 q
    wp_walk using q1
    refine wpAny_stack_any fun st => wpAny_pure ?_
    split
    · rename_i c _ _ _ _ _
      cases (c == Value.type "enumerate")
      · wp_walk using q1
        exact ⟨_, rfl, h⟩
      · wp_walk using q1
        exact ⟨_, rfl, h⟩
    · wp_walk using q1
      exact ⟨_, rfl, h⟩
theorem enum_begins1 {prog : Program} {w : World} {A : Around} {E : Value → Shared → Prop} {s : Shared} {v : Value} {o : Obj} {H : Heap → Prop} {Q : Value → Shared → Prop} (B : Begins v o H) (h1 : H s.heap)
    (h : ∀ h', IsEnum h' (s.heap.objs.size + 1) s.heap.objs.size 0 .none → h'.get? s.heap.objs.size = some o → h'.objs.size = s.heap.objs.size + 2 →
      (∀ b o, s.heap.get? b = some o → h'.get? b = some o) → Q (.ref (s.heap.objs.size + 1)) { s with heap := h' }) :
    wpAny (model prog w) A (call (.type "enumerate") [v]) Q E s := by
  refine callType_new F.called_enumerate (by decide) (F.typeCall_enumerate_1 _) (F.newCall_enumerate_1 _) (fun obj => F.args_object_init_2 obj _) F.entry_enumerate_new
    (meets_enumerate_newB1 B) ⟨h1, ?_⟩
  have hz : (s.heap.push o).objs.size = s.heap.objs.size + 1 := Heap.size_push ..
  show _ ∧ _
  rw [hz]
  have he : IsEnum ((s.heap.push o).push { cls := .type "enumerate", data := .fields #[.none, .bool false, .ref s.heap.objs.size, rawInt 0, .none, .none] }) (s.heap.objs.size + 1) s.heap.objs.size 0 .none := by
    have := Heap.get?_push_size (s.heap.push o) (o := { cls := .type "enumerate", data := .fields #[.none, .bool false, .ref s.heap.objs.size, rawInt 0, .none, .none] }) rfl
    rw [hz] at this; exact this
  refine ⟨⟨_, he, rfl⟩, h _ he (Heap.get?_push_of_some _ (Heap.get?_push_size _ B.free)) (by rw [Heap.size_push, hz]) fun b o x => Heap.get?_push_of_some _ (Heap.get?_push_of_some _ x)⟩
def Sq2 (K : PySem.W.Frag) (H : Hp) (k : Bool) (a : Addr) (xs : List V) : Prop := match k with
  | true => SqL K H a xs
  | false => SqT K H a xs
def SrcH (h : Heap) (k : Bool) (a : Addr) (items : Array Value) : Prop := match k with
  | true => h.IsList a items
  | false => h.IsTuple a items
def ItH (h : Heap) (k : Bool) (it a : Addr) (i : Nat) : Prop := match k with
  | true => h.IsListIter it a i
  | false => h.IsTupleIter it a i
theorem sq2_src {X : Cx} {pins : List (Addr × Obj)} {σ : St} {H : Hp} {s : Shared} {k : Bool} {a : Addr} {xs : List V} (I : Inv X pins σ H s) (h : Sq2 X.K H k a xs) : ∃ its : List Value, Vals xs its ∧ SrcH s.heap k a its.toArray ∧ xs.length ≤ sizeLine := by
  cases k with
  | true =>
    obtain ⟨its, r, p, z⟩ := I.list h
    exact ⟨its, r, p.isList, z⟩
  | false =>
    obtain ⟨its, r, p, z⟩ := I.tuple h
    exact ⟨its, r, p, z⟩
theorem sq2_inj {X : Cx} {pins : List (Addr × Obj)} {σ : St} {H : Hp} {s : Shared} {k : Bool} {a : Addr} {xs ys : List V} (I : Inv X pins σ H s) (h : Sq2 X.K H k a xs) (h2 : Sq2 X.K H k a ys) : xs = ys := by
  cases k with
  | true => exact I.list_inj h h2
  | false => exact I.tuple_inj h h2
theorem itH_obj {h : Heap} {k : Bool} {it a : Addr} {i : Nat} (st : ItH h k it a i) : ∃ o, h.get? it = some o ∧ ∀ v, o.data ≠ .cell v := by
  cases k with
  | true =>
    obtain ⟨o, ho, hc, hd⟩ := st
    exact ⟨o, ho, fun v q => by rw [hd] at q; cases q⟩
  | false =>
    obtain ⟨o, ho, hc, hd⟩ := st
    exact ⟨o, ho, fun v q => by rw [hd] at q; cases q⟩
theorem itH_at {h h' : Heap} {k : Bool} {it a : Addr} {i : Nat} (st : ItH h k it a i) (q : ∀ o, h.get? it = some o → h'.get? it = some o) : ItH h' k it a i := by
  cases k with
  | true => exact Heap.IsListIter.at st q
  | false => exact Heap.IsTupleIter.at st q
theorem itH_lt {h : Heap} {k : Bool} {it a : Addr} {i : Nat} (st : ItH h k it a i) : it < h.objs.size := by
  obtain ⟨o, ho, _⟩ := itH_obj st
  exact Heap.lt_size ho
theorem src_apart {h : Heap} {k k2 : Bool} {it b a : Addr} {i : Nat} {items : Array Value} (st : ItH h k it b i) (ht : SrcH h k2 a items) : a ≠ it := by
  rintro rfl
  have e1 : ∃ o, h.get? a = some o ∧ (o.cls = .type "list_iterator" ∨ o.cls = .type "tuple_iterator") := by
    cases k with
    | true => obtain ⟨o, ho, hc, _⟩ := st; exact ⟨o, ho, .inl hc⟩
    | false => obtain ⟨o, ho, hc, _⟩ := st; exact ⟨o, ho, .inr hc⟩
  have e2 : ∃ o, h.get? a = some o ∧ (o.cls = .type "list" ∨ o.cls = .type "tuple") := by
    cases k2 with
    | true => obtain ⟨o, ho, hc, _⟩ := ht; exact ⟨o, ho, .inl hc⟩
    | false => obtain ⟨o, ho, hc, _⟩ := ht; exact ⟨o, ho, .inr hc⟩
  obtain ⟨o, ho, hc⟩ := e1
  obtain ⟨o', ho', hc'⟩ := e2
  rw [ho] at ho'
  cases ho'
  rcases hc with hc | hc <;> rcases hc' with hc' | hc' <;> rw [hc] at hc' <;> injection hc' with z <;> exact absurd z (by decide)
theorem src_cls {h : Heap} {k : Bool} {a : Addr} {items : Array Value} (ht : SrcH h k a items) {o : Obj} (ho : h.get? a = some o) : o.cls = .type "list" ∨ o.cls = .type "tuple" := by
  cases k with
  | true => obtain ⟨o', ho', hc, _⟩ := ht; rw [ho] at ho'; cases ho'; exact .inl hc
  | false => obtain ⟨o', ho', hc, _⟩ := ht; rw [ho] at ho'; cases ho'; exact .inr hc
theorem draws_src {prog : Program} {w : World} {A : Around} (hh : A.handled = none) (k : Bool) (it a : Addr) (hne : a ≠ it) (items : Array Value) :
    Draws prog w A it [it, a] items.size (fun i v => items[i]? = some v) (fun i h => ItH h k it a i ∧ SrcH h k a items) := by
  cases k with
  | true => exact Draws.list hh it a hne items
  | false => exact Draws.tuple hh it a hne items
theorem begins_src (k : Bool) (a : Addr) (items : Array Value) : ∃ o, Begins (.ref a) o (fun h => SrcH h k a items) ∧ ∀ (h : Heap) (it : Addr), h.get? it = some o → ItH h k it a 0 := by
  cases k with
  | true => exact ⟨_, begins_list a items, fun h it e => ⟨_, e, rfl, rfl⟩⟩
  | false => exact ⟨_, begins_tuple a items, fun h it e => ⟨_, e, rfl, rfl⟩⟩
def IteA (K : PySem.W.Frag) (k : Bool) (a : Addr) : It :=
  ⟨fun i H => ∃ (xs : List V) (x : V), Sq2 K H k a xs ∧ xs[i]? = some x, fun i H v H' => ∃ T o x, v = .ref T ∧ H T = none ∧ o.dict = none ∧ H' = upd H T (.frz o (.tup [.int (i : Nat), x])) ∧ ∀ xs, Sq2 K H k a xs → xs[i]? = some x, fun i H => ∃ xs : List V, Sq2 K H k a xs ∧ xs.length = i⟩
theorem enum_apart {h : Heap} {k : Bool} {e a : Addr} {i : Addr} {c : Int} {old : Value} {items : Array Value} (he : IsEnum h e i c old) (ht : SrcH h k a items) : e ≠ a := by
  rintro rfl
  have he' : h.get? e = some _ := he
  rcases src_cls ht he' with z | z <;> injection z with z <;> exact absurd z (by decide)
theorem turn_enumA {P : Program} {w : World} {K : PySem.W.Frag} {elts : List Expr} {kk : Nat} {tpos : Pos} (k : Bool) (a e it : Addr) :
    Turn P w K (.Tuple elts kk tpos) (IteA K k a) [e, it] e (fun i h => (∃ old, IsEnum h e it ((i : Nat) : Int) old) ∧ ItH h k it a i ∧ e ≠ it) where
  mem := by simp
  obj := fun i h st b hb => by
    obtain ⟨⟨old, he⟩, hi, _⟩ := st
    have e' : b = e ∨ b = it := by simpa using hb
    rcases e' with z | z
    · rw [z]; exact ⟨_, he, fun v q => nomatch q⟩
    · rw [z]; exact itH_obj hi
  keep := fun i h h' st k => let ⟨⟨old, he⟩, hi, hne⟩ := st; ⟨⟨old, k e (by simp) _ he⟩, itH_at hi fun o q => k it (by simp) o q, hne⟩
  item := by
    intro X hP hw hK hc i pins s σ H E I hf st hg
    subst hP hw hK
    obtain ⟨⟨old, he⟩, hit, hne⟩ := st
    obtain ⟨xs, x, hq, hx⟩ := hg
    obtain ⟨its, rv, ht, hz⟩ := sq2_src I hq
    obtain ⟨u, hu, ru⟩ := rv.get hx
    have hel : e < s.heap.objs.size := Heap.lt_size he
    have hil := itH_lt hit
    have hai := src_apart hit ht
    have hea := enum_apart he ht
    have hh : X.A.in1.handled = none := I.ok.hd hc
    have hlt : i < its.toArray.size := by
      have := (List.getElem?_eq_some_iff.mp hu).1
      simpa using this
    refine wpAny_pyNext_enum_itemC (draws_src hh k it a hai its.toArray) he ⟨hit, ht⟩ hlt hne (by simp [hne, hea]) fun x' h' tk hP ho hst hT hsz hk => ?_
    have hxu : x' = u := by
      have q : its.toArray[i]? = some u := by simpa using hu
      rw [q] at hP
      exact (Option.some.inj hP).symm
    subst hxu
    refine ⟨_, rfl, wpAny_letOwnedTupleGo_enum (s := { s with heap := h', toks := tk + 1 }) ho fun h'' he' sb => ?_⟩
    have hT2 : h''.get? s.heap.objs.size = some { cls := .type "tuple", data := .seq #[.int i tk, x'] } := (sb.2 _ (Nat.ne_of_gt hel)).trans hT
    have new : ObjOk X.prog X.w (upd H s.heap.objs.size (.frz { cls := .type "tuple", data := .seq #[.int i tk, x'] } (.tup [.int (i : Nat), x]))) h'' s.heap.objs.size (.frz { cls := .type "tuple", data := .seq #[.int i tk, x'] } (.tup [.int (i : Nat), x])) :=
      ⟨hT2, by show 2 ≤ sizeLine; decide, [.int i tk, x'], .cons ⟨_, rfl⟩ (.cons ru .nil), ⟨_, hT2, rfl, _, rfl⟩⟩
    have I1 : Inv X pins σ (upd H s.heap.objs.size (.frz { cls := .type "tuple", data := .seq #[.int i tk, x'] } (.tup [.int (i : Nat), x]))) { s with heap := h'', toks := tk + 1 } :=
      I.turnedNew (ch := [e, it]) (fun b ob hb q => (sb.2 b (fun z => hb (by simp [z]))).trans (hk b ob (fun z => hb (by simp [z])) (fun z => hb (by simp [z])) q)) hf (Nat.le_refl _) new
    refine ⟨.ref s.heap.objs.size, _, I1, rfl, ⟨_, _, x, rfl, I.hok.fresh (Nat.le_refl _), rfl, rfl, fun ys hy => by rw [sq2_inj I hy hq]; exact hx⟩, ⟨⟨x', ?_⟩, itH_at hst.1 fun o q => (sb.2 it (Ne.symm hne)).trans q, hne⟩, fun b hb => ?_⟩
    · have e1 : ((i + 1 : Nat) : Int) = (i : Int) + 1 := by omega
      rw [e1]; exact he'
    · have hb' : b < s.heap.objs.size := by
        have e' : b = e ∨ b = it := by simpa using hb
        rcases e' with z | z
        · rw [z]; exact hel
        · rw [z]; exact hil
      rw [upd_ne (Nat.ne_of_lt hb')]
      exact (hf b hb).1
  done := by
    intro X hP hw hK hc i pins s σ H E I hf st hg
    subst hP hw hK
    obtain ⟨⟨old, he⟩, hit, hne⟩ := st
    obtain ⟨xs, hq, hx⟩ := hg
    obtain ⟨its, rv, ht, hz⟩ := sq2_src I hq
    obtain ⟨f0, f1, f2, f3, f4, f5⟩ := hf it (by simp)
    have hl := rv.length
    have hai := src_apart hit ht
    have hh : X.A.in1.handled = none := I.ok.hd hc
    have hi : i = its.toArray.size := by rw [List.size_toArray]; omega
    subst hi
    exact wpAny_pyNext_enum_endD (draws_src hh k it a hai its.toArray) he ⟨hit, ht⟩ fun h' eb => ⟨rfl, I.turned (t' := s.toks) (fun b o hb q => eb b o hb q) f0 f1 f3 f4 f5⟩
  self := fun A i s Q E st h => let ⟨⟨_, he⟩, _⟩ := st; wpAny_pyIter_enum he h
def iEnumA (K : PySem.W.Frag) (ta : TA) : TI := fun σ H R => ta σ H fun vs H1 => ∃ k a xs, vs = [.ref a] ∧ Sq2 K H1 k a xs ∧ R (IteA K k a) H1
theorem pi_enumA {X : Cx} {e : Expr} {ta : TA} {p pos tpos : Pos} {elts : List Expr} {kk : Nat} (hg : Gl X "enumerate") (hm : X.mg "enumerate" = none) (ha : PA X [e] ta) (hs : starEach [e] X.env = [(false, eval e X.env)] := by rfl) :
    PI X (.Tuple elts kk tpos) (.Call (.Name "enumerate" p) [e] [] pos) (iEnumA X.K ta) := by
  refine ⟨fun pins s σ H R I h => ?_⟩
  refine PyProof.Rows.Call_ (ld_blt I hg hm PyProof.Rows.boot_enumerate (PyProof.Rows.callWith_type1 (thn (ha.run pos pins s σ H _ I h) fun us s1 ⟨vs, H1, I1, r1, q1⟩ => ?_) hs rfl))
  obtain ⟨k, a, xs, ex, hq, q⟩ := q1
  subst ex
  cases r1 with
  | cons r rr =>
    cases rr
    cases r
    have fin : ∀ b, b ∈ [s1.heap.objs.size + 1, s1.heap.objs.size] → FpOk X pins H1 b := fun b hb => by
      have e' : b = s1.heap.objs.size + 1 ∨ b = s1.heap.objs.size := by simpa using hb
      have hle : s1.heap.objs.size ≤ b := by
        rcases e' with z | z
        · rw [z]; exact Nat.le_add_right _ _
        · rw [z]; exact Nat.le_refl _
      exact I1.fpOk hle (I1.hok.fresh hle)
    obtain ⟨its, rv, ht, hz⟩ := sq2_src I1 hq
    obtain ⟨o, B, hB⟩ := begins_src k a its.toArray
    refine enum_begins1 B ht fun h' he hit hsz hk => wpAny_pyIter_enum he ?_
    have I2 : Inv X pins σ H1 { s1 with heap := h' } := I1.kept (t' := s1.toks) hk
    exact ⟨s1.heap.objs.size + 1, [s1.heap.objs.size + 1, s1.heap.objs.size], _, _, H1, rfl, I2, turn_enumA k a (s1.heap.objs.size + 1) s1.heap.objs.size, ⟨⟨.none, he⟩, hB _ _ hit, Nat.succ_ne_self _⟩, fin, q⟩
def enumD : Nat → List D → List D
  | _, [] => []
  | n, d :: ds => .tuple [.int (n : Int), d] :: enumD (n + 1) ds
def zipD : List D → List D → List D
  | d :: ds, e :: es => .tuple [d, e] :: zipD ds es
  | _, _ => []
def itE : List D → Option (List D)
  | [.list ds] => some (enumD 0 ds)
  | [.tuple ds] => some (enumD 0 ds)
  | [.dict [(.none, .list ds)]] => some (enumD 0 ds)
  | _ => none
def itZ : List D → Option (List D)
  | [.list ds, .list es] => some (zipD ds es)
  | [.tuple ds, .tuple es] => some (zipD ds es)
  | [.list ds, .tuple es] => some (zipD ds es)
  | [.tuple ds, .list es] => some (zipD ds es)
  | _ => none
theorem enumD_len : ∀ (n : Nat) (ds : List D), (enumD n ds).length = ds.length
  | _, [] => rfl
  | n, _ :: ds => by rw [enumD, List.length_cons, List.length_cons, enumD_len (n + 1) ds]
theorem enumD_get : ∀ (n : Nat) (ds : List D) (i : Nat) (d : D), ds[i]? = some d → (enumD n ds)[i]? = some (.tuple [.int ((n + i : Nat) : Int), d])
  | _, [], _, _, h => by simp at h
  | n, x :: ds, 0, d, h => by simp at h; subst h; rfl
  | n, x :: ds, i + 1, d, h => by
    have := enumD_get (n + 1) ds i d (by simpa using h)
    rw [enumD, List.getElem?_cons_succ, this]
    congr 5
    omega
theorem enumD_purs : ∀ (n : Nat) (ds : List D), purs (enumD n ds) = purs ds
  | _, [] => rfl
  | n, d :: ds => by simp [enumD, purs, pur, enumD_purs (n + 1) ds]
section
variable [Tb] [Vs] {X : Cx} {K : PySem.W.Frag}
theorem pair_own {H H' : Hp} {T : Addr} {ob : Obj} {x y : V} {d e : D} (hT : H T = none) (hn : ob.dict = none) (hH : H' = upd H T (.frz ob (.tup [x, y]))) (o1 : Own K H d x []) (o2 : Own K H e y []) : Same H H' ∧ Own K H' (.tuple [d, e]) (.ref T) [] := by
  subst hH
  have sm : Same H (upd H T (.frz ob (.tup [x, y]))) := same_new hT
  exact ⟨sm, .tup (SqD.of upd_same hn) (.cons0 (o1.same sm) (.cons0 (o2.same sm) .nil))⟩
theorem walkD_e {k : Bool} {a : Addr} {ds : List D} {G : Hp → Prop} (p : purs ds = true) (h : ∀ H, G H → ∃ xs F, Sq2 K H k a xs ∧ OwnA K H ds xs F) : WalkD K (IteA K k a) G (enumD 0 ds) := by
  refine ⟨fun i H hi g => ?_, fun H g => ?_, fun i H x H' hi g y => ?_⟩
  · obtain ⟨xs, F, hq, t⟩ := h H g
    have hl := t.len
    rw [enumD_len] at hi
    exact ⟨xs, xs[i]'(by omega), hq, List.getElem?_eq_getElem _⟩
  · obtain ⟨xs, F, hq, t⟩ := h H g
    have hl := t.len
    rw [enumD_len]
    exact ⟨xs, hq, by omega⟩
  · obtain ⟨xs, F, hq, t⟩ := h H g
    obtain ⟨T, ob, x', rfl, hT, hn, hH, y⟩ := y
    obtain ⟨d, hd, o⟩ := t.at p (y xs hq)
    obtain ⟨sm, o2⟩ := pair_own hT hn hH (.int (i : Nat)) o
    exact ⟨_, by rw [enumD_get 0 ds i d hd, Nat.zero_add], sm, o2⟩
theorem si_enum {e : Expr} {ga : O} {p pos tpos : Pos} {elts : List Expr} {kk : Nat} (hg : Gl X "enumerate") (hm : X.mg "enumerate" = none) (ha : SimA X [e] (aCons ga aNil)) (hs : starEach [e] X.env = [(false, eval e X.env)] := by rfl) :
    SimI X (.Tuple elts kk tpos) (.Call (.Name "enumerate" p) [e] [] pos) (mkI itE (aCons ga aNil)) := by
  refine pi_imp (pi_enumA hg hm ha hs) fun σ H R h => ?_
  exact mkI_ok h (w := fun vs H1 R => ∃ k a xs, vs = [.ref a] ∧ Sq2 X.K H1 k a xs ∧ R (IteA X.K k a) H1) (fun vs ds es H R h e p q => by
    unfold itE at e
    split at e
    · cases e
      rw [enumD_purs] at p
      obtain ⟨x, F, rfl, o⟩ := h.one
      cases o with
      | lst h1 t n => exact ⟨true, _, _, rfl, SqL.of h1, q _ (walkD_e p fun H2 g => rd_list g)⟩
    · cases e
      rw [enumD_purs] at p
      obtain ⟨x, F, rfl, o⟩ := h.one
      cases o with
      | tup h1 t => exact ⟨false, _, _, rfl, h1.sq, q _ (walkD_e p fun H2 g => rd_tup g)⟩
    · cases e
      rw [enumD_purs] at p
      obtain ⟨x, F, rfl, o⟩ := h.one
      cases o with
      | frz h1 t => exact ⟨true, _, _, rfl, h1.sq, q _ (walkD_e p fun H2 g => rd_frz g)⟩
    · cases e)
theorem OwnA.at0 {H : Hp} {ds : List D} {vs : List V} {F : List Addr} (t : OwnA K H ds vs F) {i : Nat} {x : V} (e : vs[i]? = some x) : ∃ d G, ds[i]? = some d ∧ Own K H d x G := by
  have hl := t.len
  have hi : i < ds.length := by rw [← hl]; exact (List.getElem?_eq_some_iff.mp e).1
  obtain ⟨v, G, hv, o, _⟩ := t.get i ds[i] (List.getElem?_eq_getElem hi)
  rw [e] at hv
  cases hv
  exact ⟨_, _, List.getElem?_eq_getElem hi, o⟩
end
end Sim
namespace Sim
open PySem PySem.Spec L2
def loopS (t : Tg) (g : S) : List D → S
  | [] => fun s => .ok .nx s
  | d :: ds => fun s => match asg t d s with
    | none => .bad
    | some s1 => (g s1).bind fun fl s2 => match fl with
      | .nx => loopS t g ds s2
      | .ct => loopS t g ds s2
      | .bk => .ok .nx s2
      | .rt d => .ok (.rt d) s2
def sFor (lk' : Nat → Bool) (it : I) (t : Tg) (g : S) : S := fun s => (it s).bind fun p s1 =>
  if (p.2.all fun q => lk' q.1) = true then (loopS t g p.1 s1).bind fun fl s2 => .ok fl (unlockS p.2 s2) else .bad
section
variable [Tb] [Vs] {X : Cx} {lk lk' : Nat → Bool} {pos : Pos} {K : PySem.W.Frag}
/-- the closed slots are opened again -/
theorem finish {H0 H1 Hc : Hp} {s1 sc : Sg} {σ σc : St} {Fs0 Fs1 Fsc : Fp} {l : List (Nat × D)} {Gl : List (List Addr)} (E01 : Ev H0 Fs0 H1 Fs1) (hd : Hid K H1 σ Fs1 l Gl) (fr : From H0 Fs0 l Gl)
    (R : RelS K Hc sc σc Fsc) (E : Ev H1 Fs1 Hc Fsc) (L : ∀ p, p ∈ l → σc[p.1]? = σ[p.1]?) :
    ∃ Fs', RelS K Hc (unlockS l sc) σc Fs' ∧ Ev H0 Fs0 Hc Fs' ∧ ∀ j a, a ∈ Fs' j → a ∈ Fsc j ∨ ((∃ xs : MO, Hc a = some xs.ho) ∧ (H1 a ≠ none) ∧ (∀ i, a ∉ Fs1 i) ∧ ∀ i, a ∉ Fsc i) := by
  have hd' := hd.ev E L
  obtain ⟨Fs', R', n⟩ := R.unlock hd' fr
  refine ⟨Fs', R', ⟨(E01.trans E).chg, fun j a h => ?_⟩, fun j a h => ?_⟩
  · rcases n j a h with z | ⟨z, _⟩
    · exact (E01.trans E).new j a z
    · exact z
  · rcases n j a h with z | ⟨_, G, hG, ha⟩
    · exact .inl z
    · obtain ⟨h1, h2⟩ := hd'.mem G hG a ha
      obtain ⟨⟨xs, h3⟩, h4⟩ := hd.mem G hG a ha
      exact .inr ⟨h1, by rw [h3]; simp, h4, h2⟩
theorem finishR {H0 H1 Hc : Hp} {s1 sc : Sg} {σ σc : St} {Fs0 Fs1 Fsc : Fp} {l : List (Nat × D)} {Gl : List (List Addr)} (hlk : ∀ i, lk i = true → lk' i = true) (E01 : Ev H0 Fs0 H1 Fs1) (hd : Hid K H1 σ Fs1 l Gl) (fr : From H0 Fs0 l Gl)
    (R : RelS K Hc sc σc Fsc) (E : EvR lk' H1 Fs1 Hc Fsc) (L : ∀ p, p ∈ l → σc[p.1]? = σ[p.1]?) :
    ∃ Fs', RelS K Hc (unlockS l sc) σc Fs' ∧ EvR lk H0 Fs0 Hc Fs' ∧ ∀ j a, a ∈ Fs' j → a ∈ Fsc j ∨ ((∃ xs : MO, Hc a = some xs.ho) ∧ (H1 a ≠ none) ∧ (∀ i, a ∉ Fs1 i) ∧ ∀ i, a ∉ Fsc i) := by
  have hd' := hd.evR E L
  have E0 := E01.transR E
  have sub : ∀ j, lk' j = false → lk j = false := fun j h => by
    cases q : lk j with
    | false => rfl
    | true => rw [hlk j q] at h; cases h
  obtain ⟨Fs', R', n⟩ := R.unlock hd' fr
  refine ⟨Fs', R', ⟨E0.chg, fun j a h => ?_⟩, fun j a h => ?_⟩
  · rcases n j a h with z | ⟨z, _⟩
    · rcases E0.new j a z with w | ⟨w1, k, w2, w3⟩
      · exact .inl w
      · exact .inr ⟨sub j w1, k, sub k w2, w3⟩
    · exact .inl z
  · rcases n j a h with z | ⟨_, G, hG, ha⟩
    · exact .inl z
    · obtain ⟨h1, h2⟩ := hd'.mem G hG a ha
      obtain ⟨⟨xs, h3⟩, h4⟩ := hd.mem G hG a ha
      exact .inr ⟨h1, by rw [h3]; simp, h4, h2⟩
theorem ss_for {tg iter : Expr} {body : List Stmt} {it : I} {t : Tg} {g : S} (hp : PassesOwn (model X.prog X.w) X.A X.env X.xe) (hc : X.calm = true) (hi : SimI X tg iter it) (hg : SimG X lk' tg t) (hb : SimSs X lk' body g)
    (hlk : ∀ i, lk i = true → lk' i = true) (hs : ∀ x, foldedSetIterable iter X.env x = pure x := by intro _; rfl) : SimS X lk (.For tg iter body [] pos) (sFor lk' it t g) := by
  refine ps_imp (ps_for hp hc hi hg hb hs) fun D σ H z => ?_
  obtain ⟨s, Fs, fl, s', R, e, q⟩ := z
  obtain ⟨⟨es, l⟩, s1, e1, e⟩ := bind_inv e
  refine ⟨s, Fs, es, l, s1, R, e1, fun J H1 Fs1 Gl G R1 C1 n1 hd fr W hG => ?_⟩
  have E01 : Ev H Fs H1 Fs1 := ⟨C1, n1⟩
  split at e
  · rename_i hall
    obtain ⟨fl', s2, e2, e⟩ := bind_inv e
    have hL : ∀ {σc : St}, Lk lk' σ σc → ∀ p, p ∈ l → σc[p.1]? = σ[p.1]? := fun {σc} L p hp => L p.1 (List.all_eq_true.mp hall p hp)
    have done : ∀ {σc : St} {Hc : Hp} {sc : Sg} {Fsc : Fp}, RelS X.K Hc sc σc Fsc → EvR lk' H1 Fs1 Hc Fsc → Lk lk' σ σc → Res.ok fl' s2 = Res.ok Fl.nx sc → D.nx σc Hc := by
      intro σc Hc sc Fsc Rc Ec Lc ee
      cases ee
      cases e
      obtain ⟨Fs', R', E', _⟩ := finishR (s1 := s1) hlk E01 hd fr Rc Ec (hL Lc)
      exact q σc Hc Fs' R' E' fun i hi => Lc i (hlk i hi)
    refine ⟨fun i m σc Hc => m = es.length - i ∧ i ≤ es.length ∧ ∃ sc Fsc, RelS X.K Hc sc σc Fsc ∧ EvR lk' H1 Fs1 Hc Fsc ∧ Lk lk' σ σc ∧ loopS t g (es.drop i) sc = .ok fl' s2,
      ⟨es.length, by simp, Nat.zero_le _, s1, Fs1, R1, .refl _ _, .refl _ _, e2⟩, ?_⟩
    rintro i m σc Hc ⟨rfl, hi, sc, Fsc, Rc, Ec, Lc, ec⟩
    by_cases hlt : i < es.length
    · refine .inr ⟨W.goes i Hc hlt (hG Hc _ Ec.e0), fun σ' H' => i + 1 ≤ es.length ∧ ∃ sc Fsc, RelS X.K H' sc σ' Fsc ∧ EvR lk' H1 Fs1 H' Fsc ∧ Lk lk' σ σ' ∧ loopS t g (es.drop (i + 1)) sc = .ok fl' s2, fun σ' H' ⟨h1, h2⟩ => ⟨es.length - (i + 1), by omega, rfl, h1, h2⟩, fun x H' y => ?_⟩
      obtain ⟨d, hd1, sm, o⟩ := W.yields i Hc x H' hlt (hG Hc _ Ec.e0) y
      have ed : es.drop i = d :: es.drop (i + 1) := by
        rw [List.drop_eq_getElem_cons hlt]
        rw [List.getElem?_eq_getElem hlt] at hd1
        rw [Option.some.inj hd1]
      rw [ed] at ec
      unfold loopS at ec
      split at ec
      · cases ec
      · rename_i s3 hs3
        obtain ⟨fl3, s4, e4, ec⟩ := bind_inv ec
        refine ⟨sc, Fsc, d, [], s3, Rc.same sm, ⟨o, fun _ _ _ z => by cases z⟩, hs3, fun σ2 Fs2 R2 n2 L2 => ?_⟩
        have E2 : EvR lk' H1 Fs1 H' Fs2 := Ec.trans ⟨.same sm, fun j a h => .inl ((n2 j a h).resolve_right (by simp))⟩
        refine ⟨s3, Fs2, fl3, s4, R2, e4, ?_⟩
        cases fl3 with
        | nx => exact fun σ' H'' Fs' R' E' L' => ⟨hlt, s4, Fs', R', E2.transR E', (Lc.trans L2).trans L', ec⟩
        | ct => exact fun σ' H'' Fs' R' E' L' => ⟨hlt, s4, Fs', R', E2.transR E', (Lc.trans L2).trans L', ec⟩
        | bk => exact fun σ' H'' Fs' R' E' L' => done R' (E2.transR E') ((Lc.trans L2).trans L') ec.symm
        | rt d =>
          cases ec
          cases e
          refine fun v σ' H'' Fs' F R' E' L' o n m => ?_
          have E3 := E2.transR E'
          obtain ⟨Fs'', R'', E'', nn⟩ := finishR (s1 := s1) hlk E01 hd fr R' E3 (hL ((Lc.trans L2).trans L'))
          have hF : ∀ a, a ∈ F → H1 a = none ∨ ∃ i, lk' i = false ∧ a ∈ Fs1 i := fun a ha => by
            rcases n a ha with z | ⟨k, hk, z⟩
            · exact .inl (E2.chg.there a z)
            · rcases E2.new k a z with (z | z) | ⟨_, j, hj, z⟩
              · exact .inr ⟨k, hk, z⟩
              · exact .inl z
              · exact .inr ⟨j, hj, z⟩
          refine q v σ' H'' Fs'' F R'' E'' (fun i hi => ((Lc.trans L2).trans L') i (hlk i hi)) o (fun a ha => ?_) fun k a hk hk2 ha => ?_
          · rcases hF a ha with z | ⟨k, hk, z⟩
            · exact .inl (C1.there a z)
            · rcases n1 k a z with z | z
              · refine .inr ⟨k, ?_, z⟩
                cases hq : lk k with
                | false => rfl
                | true => rw [hlk k hq] at hk; cases hk
              · exact .inl z
          · rcases nn k a hk2 with z | ⟨_, h1, h2, h3⟩
            · exact m k a (hlk k hk) z ha
            · rcases hF a ha with z | ⟨k', _, z⟩
              · exact h1 z
              · exact h2 k' z
    · have ei : i = es.length := by omega
      subst ei
      rw [List.drop_length] at ec
      exact .inl ⟨W.stops Hc (hG Hc _ Ec.e0), done Rc Ec Lc ec.symm⟩
  · cases e
end
def sWhile (t : T) (g : S) : Nat → S
  | 0 => fun _ => .bad
  | n + 1 => fun s => (t s).bind fun b s1 => if b = true then (g s1).bind fun fl s2 => (match fl with
      | .nx => sWhile t g n s2
      | .ct => sWhile t g n s2
      | .bk => .ok .nx s2
      | .rt d => .ok (.rt d) s2) else .ok .nx s1
section
variable [Tb] [Vs] {X : Cx} {lk : Nat → Bool} {pos : Pos} {K : PySem.W.Frag}
theorem ss_while {c : Expr} {body : List Stmt} {t : T} {g : S} (n : Nat) (hp : PassesOwn (model X.prog X.w) X.A X.env X.xe) (hc : SimT X c t) (hb : SimSs X lk body g) : SimS X lk (.While c body [] pos) (sWhile t g n) := by
  refine ps_imp (ps_while hp hc hb) fun D σ H z => ?_
  obtain ⟨s, Fs, fl, s', R, e, q⟩ := z
  refine ⟨fun m σc Hc => ∃ sc Fsc, RelS X.K Hc sc σc Fsc ∧ EvR lk H Fs Hc Fsc ∧ Lk lk σ σc ∧ sWhile t g m sc = .ok fl s', ⟨n, s, Fs, R, .refl _ _, .refl _ _, e⟩, ?_⟩
  rintro m σc Hc ⟨sc, Fsc, Rc, Ec, Lc, ec⟩
  cases m with
  | zero => cases ec
  | succ m =>
    unfold sWhile at ec
    obtain ⟨b, s1, e1, ec⟩ := bind_inv ec
    refine ⟨sc, Fsc, b, s1, Rc, e1, fun H1 Fs1 R1 E1 => ?_⟩
    cases b with
    | false =>
      cases ec
      exact iteF (q σc H1 Fs1 R1 (Ec.trans E1) Lc)
    | true =>
      refine iteT ?_
      rw [if_pos rfl] at ec
      obtain ⟨f, s2, e2, ec⟩ := bind_inv ec
      refine ⟨fun σ' H' => ∃ sc Fsc, RelS X.K H' sc σ' Fsc ∧ EvR lk H Fs H' Fsc ∧ Lk lk σ σ' ∧ sWhile t g m sc = .ok fl s', fun σ' H' h => ⟨m, Nat.lt_succ_self _, h⟩, s1, Fs1, f, s2, R1, e2, ?_⟩
      have E01 := Ec.trans E1
      cases f with
      | nx => exact fun σ' H' Fs' R' E' L' => ⟨s2, Fs', R', E01.transR E', Lc.trans L', ec⟩
      | ct => exact fun σ' H' Fs' R' E' L' => ⟨s2, Fs', R', E01.transR E', Lc.trans L', ec⟩
      | bk =>
        cases ec
        exact fun σ' H' Fs' R' E' L' => q σ' H' Fs' R' (E01.transR E') (Lc.trans L')
      | rt d =>
        cases ec
        refine fun v σ' H' Fs' F R' E' L' o nn mm => q v σ' H' Fs' F R' (E01.transR E') (Lc.trans L') o (fun a ha => ?_) mm
        rcases nn a ha with z | ⟨k, hk, z⟩
        · exact .inl (E01.chg.there a z)
        · rcases E01.new k a z with (z | z) | ⟨_, j, hj, z⟩
          · exact .inr ⟨k, hk, z⟩
          · exact .inl z
          · exact .inr ⟨j, hj, z⟩
end
def clrS : List Nat → Sg → Sg
  | [], s => s
  | v :: vs, s => (clrS vs s).set v none
def ownSl : List Nat → Sg → List (Nat × D)
  | [], _ => []
  | v :: vs, s => match (s[v]?).join with
    | some d => (v, d) :: ownSl vs s
    | none => ownSl vs s
def compL (t : Tg) (c : T) (e : O) (vs : List Nat) : List D → List D → Sg → Res (List D)
  | [], acc, s => .ok acc s
  | d :: ds, acc, s => match asg t d s with
    | none => .bad
    | some s1 => (c s1).bind fun b s2 => if b = true then (e s2).bind fun r s3 => (match own r s3 with
        | none => .bad
        | some y => if acc.length < 1000000 then compL t c e vs ds (acc ++ [y]) (clrS vs s3) else .bad)
      else compL t c e vs ds acc (clrS vs s2)
def oComp (it : I) (t : Tg) (c : T) (e : O) (vs : List Nat) : O := fun s => (it s).bind fun p s1 =>
  if nodupB ((ownSl vs s1).map (·.1)) = true then (compL t c e vs p.1 [] (clrS vs (lockS (ownSl vs s1) s1))).bind fun acc s2 => .ok (.val (.list acc)) (unlockS (ownSl vs s1 ++ p.2) s2) else .bad
def tYesT : T := fun s => .ok true s
def SimPT [Tb] [Vs] (X : Cx) (ifs : List Expr) (c : T) : Prop := PTs X ifs (tT X.K c)
section
variable [Tb] [Vs] {X : Cx} {K : PySem.W.Frag}
theorem spt_one {c : Expr} {t : T} (h : SimT X c t) : SimPT X [c] t := pts_one h
theorem clrS_len : ∀ (vs : List Nat) (s : Sg), (clrS vs s).length = s.length
  | [], _ => rfl
  | v :: vs, s => by rw [clrS, List.length_set, clrS_len vs s]
theorem clrS_some {vs : List Nat} {s : Sg} {i : Nat} {d : D} (h : (clrS vs s)[i]? = some (some d)) : s[i]? = some (some d) ∧ i ∉ vs := by
  induction vs with
  | nil => exact ⟨h, by simp⟩
  | cons v vs ih =>
    unfold clrS at h
    by_cases hi : v = i
    · subst hi
      by_cases hv : v < (clrS vs s).length
      · rw [List.getElem?_set_self hv] at h; cases h
      · rw [List.getElem?_eq_none (by simpa using hv)] at h; cases h
    · rw [List.getElem?_set_ne hi] at h
      obtain ⟨h1, h2⟩ := ih h
      exact ⟨h1, by simp only [List.mem_cons, not_or]; exact ⟨fun e => hi e.symm, h2⟩⟩
theorem wipe_get {σ : St} {vs : List Nat} {i : Nat} (h : i ∉ vs) : (wipe σ vs)[i]? = σ[i]? := by
  induction vs with
  | nil => rfl
  | cons v vs ih =>
    simp only [List.mem_cons, not_or] at h
    unfold wipe
    rw [List.getElem?_set_ne (fun e => h.1 e.symm), ih h.2]
/-- the own names' slots are emptied, on both sides -/
theorem lnk_wipe {σ : St} {H : Hp} : ∀ {vs : List Nat}, (∀ v, v ∈ vs → Vs.ok v) → (Vs.lnk (wipe σ vs) H ↔ Vs.lnk σ H)
  | [], _ => Iff.rfl
  | v :: vs, h => by
    rw [wipe]
    exact (Vs.put (h v (List.mem_cons_self ..))).trans (lnk_wipe fun w hw => h w (List.mem_cons_of_mem _ hw))
theorem RelS.clr {H : Hp} {s : Sg} {σ : St} {Fs : Fp} (R : RelS K H s σ Fs) (vs : List Nat) (ko : ∀ v, v ∈ vs → Vs.ok v) : ∃ Fs', RelS K H (clrS vs s) (wipe σ vs) Fs' ∧ ∀ j a, a ∈ Fs' j → a ∈ Fs j ∧ j ∉ vs := by
  refine ⟨fun j => if j ∈ vs then [] else Fs j, ⟨by rw [clrS_len, wipe_length, R.len], fun i d e => ?_, fun i h => ?_, fun i j a h1 h2 => ?_, ⟨(lnk_wipe ko).mpr R.lnk.1, R.lnk.2⟩, fun i h d e => R.bse i h d (clrS_some e).1⟩, fun j a h => ?_⟩
  · obtain ⟨e1, e2⟩ := clrS_some e
    obtain ⟨v, hv, o⟩ := R.has i d e1
    refine ⟨v, by rw [wipe_get e2]; exact hv, ?_⟩
    simp only [if_neg e2]
    exact o
  · by_cases hi : i ∈ vs
    · simp only [if_pos hi]
      rw [Vs.nil (ko i hi)]
    · simp only [if_neg hi]
      refine R.off i fun d e => h d ?_
      have key : ∀ (vs : List Nat), i ∉ vs → (clrS vs s)[i]? = s[i]? := fun vs => by
        induction vs with
        | nil => intro _; rfl
        | cons v vs ih =>
          intro h
          simp only [List.mem_cons, not_or] at h
          unfold clrS
          rw [List.getElem?_set_ne (fun e => h.1 e.symm), ih h.2]
      rw [key vs hi]
      exact e
  · split at h1
    · cases h1
    · split at h2
      · cases h2
      · exact R.dis i j a h1 h2
  · have h : a ∈ (if j ∈ vs then [] else Fs j) := h
    split at h
    · cases h
    · exact ⟨h, by assumption⟩
/-- a state without the own names stands for the block's outer slots too -/
theorem RelS.unwipe {H : Hp} {s : Sg} {σ : St} {Fs : Fp} {vs : List Nat} (ko : ∀ v, v ∈ vs → Vs.ok v) (R : RelS K H s (wipe σ vs) Fs) : RelS K H s σ Fs := by
  refine ⟨by rw [R.len, wipe_length], fun i d e => ?_, R.off, R.dis, ⟨(lnk_wipe ko).mp R.lnk.1, R.lnk.2⟩, R.bse⟩
  obtain ⟨v, hv, o⟩ := R.has i d e
  exact ⟨v, (wipe_some hv).1, o⟩
theorem ownSl_has {s : Sg} : ∀ {vs : List Nat} {p : Nat × D}, p ∈ ownSl vs s → s[p.1]? = some (some p.2) ∧ p.1 ∈ vs
  | [], _, h => by cases h
  | v :: vs, p, h => by
    unfold ownSl at h
    split at h
    · rename_i d hd
      rcases List.mem_cons.mp h with rfl | h
      · exact ⟨join_some hd, List.mem_cons_self ..⟩
      · obtain ⟨h1, h2⟩ := ownSl_has h
        exact ⟨h1, List.mem_cons_of_mem _ h2⟩
    · obtain ⟨h1, h2⟩ := ownSl_has h
      exact ⟨h1, List.mem_cons_of_mem _ h2⟩
/-- an object that no slot holds changes -/
theorem RelS.out {H : Hp} {s : Sg} {σ : St} {Fs : Fp} (R : RelS K H s σ Fs) {D' : Addr} {acc acc' : List V} (h : H D' = some (.lst acc)) (n : ∀ i, D' ∉ Fs i) : RelS K (upd H D' (.lst acc')) s σ Fs ∧ Chg (fun a => a = D') H (upd H D' (.lst acc')) := by
  have chg : Chg (fun a => a = D') H (upd H D' (.lst acc')) := .upd1 (m := .lst _) h
  refine ⟨⟨R.len, fun i d e => ?_, R.off, R.dis, R.lnkC chg (fun i a ha w => n i (by rw [← w]; exact R.fpF ha)), R.bse⟩, chg⟩
  obtain ⟨v, hv, o⟩ := R.has i d e
  exact ⟨v, hv, o.chg chg fun a ha w => n i (by rw [← w]; exact ha)⟩
theorem Hid.sub {H : Hp} {σ : St} {Fs Fs' : Fp} {l : List (Nat × D)} {Gs : List (List Addr)} (h : Hid K H σ Fs l Gs) (e : ∀ j a, a ∈ Fs' j → a ∈ Fs j) : Hid K H σ Fs' l Gs := by
  induction h with
  | nil => exact .nil
  | cons hv A n _ ih => exact .cons hv ⟨A.own, fun i a hi ha => A.dis i a (e i a hi) ha⟩ n ih
theorem Hid.append {H : Hp} {σ : St} {Fs : Fp} {l l2 : List (Nat × D)} {Gs Gs2 : List (List Addr)} (h : Hid K H σ Fs l Gs) (h2 : Hid K H σ Fs l2 Gs2) (n : ∀ G, G ∈ Gs → ∀ G2, G2 ∈ Gs2 → ∀ a, a ∈ G → a ∉ G2) : Hid K H σ Fs (l ++ l2) (Gs ++ Gs2) := by
  induction h with
  | nil => exact h2
  | @cons i d v F l Gs hv A n' _ ih =>
    refine .cons hv A (fun G hG a ha hb => ?_) (ih fun G hG => n G (List.mem_cons_of_mem _ hG))
    rcases List.mem_append.mp hG with hG | hG
    · exact n' G hG a ha hb
    · exact n F (List.mem_cons_self ..) G hG a ha hb
theorem From.append {H : Hp} {Fs : Fp} {l l2 : List (Nat × D)} {Gs Gs2 : List (List Addr)} (h : From H Fs l Gs) (h2 : From H Fs l2 Gs2) : From H Fs (l ++ l2) (Gs ++ Gs2) := by
  induction l generalizing Gs with
  | nil => cases Gs with
    | nil => exact h2
    | cons _ _ => exact h.elim
  | cons p l ih => cases Gs with
    | nil => exact h.elim
    | cons F Gs => exact ⟨h.1, ih h.2⟩
theorem From.mem {H : Hp} {Fs : Fp} {l : List (Nat × D)} {Gs : List (List Addr)} (h : From H Fs l Gs) : ∀ G, G ∈ Gs → ∀ a, a ∈ G → (∃ i, a ∈ Fs i) ∨ H a = none := by
  induction l generalizing Gs with
  | nil => cases Gs with
    | nil => intro G h; cases h
    | cons _ _ => exact h.elim
  | cons p l ih => cases Gs with
    | nil => exact h.elim
    | cons F Gs =>
      intro G hG a ha
      rcases List.mem_cons.mp hG with rfl | hG
      · exact (h.1 a ha).imp (fun z => ⟨_, z⟩) id
      · exact ih h.2 G hG a ha
mutual
theorem asg_len : ∀ {t : Tg} {d : Sim.D} {s s' : Sg}, asg t d s = some s' → s'.length = s.length
  | .nm i, d, s, s', h => by
    simp only [asg] at h
    cases h
    rw [List.length_set]
  | .tp l, .tuple ds, s, s', h => asgs_len2 (by simpa [asg] using h)
  | .tp l, .none, s, s', h => by simp [asg] at h
  | .tp l, .bool _, s, s', h => by simp [asg] at h
  | .tp l, .int _, s, s', h => by simp [asg] at h
  | .tp l, .str _, s, s', h => by simp [asg] at h
  | .tp l, .list _, s, s', h => by simp [asg] at h
  | .tp l, .dict _, s, s', h => by simp [asg] at h
  | .ls l, .list ds, s, s', h => asgs_len2 (by simpa [asg] using h)
  | .ls l, .none, s, s', h => by simp [asg] at h
  | .ls l, .bool _, s, s', h => by simp [asg] at h
  | .ls l, .int _, s, s', h => by simp [asg] at h
  | .ls l, .str _, s, s', h => by simp [asg] at h
  | .ls l, .tuple _, s, s', h => by simp [asg] at h
  | .ls l, .dict _, s, s', h => by simp [asg] at h
theorem asgs_len2 : ∀ {l : List Tg} {ds : List Sim.D} {s s' : Sg}, asgs l ds s = some s' → s'.length = s.length
  | [], [], s, s', h => by
    simp only [asgs] at h
    cases h
    rfl
  | [], _ :: _, s, s', h => by simp [asgs] at h
  | _ :: _, [], s, s', h => by simp [asgs] at h
  | t :: l, d :: ds, s, s', h => by
    simp only [asgs] at h
    split at h
    · cases h
    · rename_i s1 h1
      rw [asgs_len2 h, asg_len h1]
end
def lkc (vs : List Nat) : Nat → Bool := fun i => !vs.contains i
theorem wipe_lk {vs : List Nat} {σ σ2 : St} (hl : σ2.length = σ.length) (h : Lk (lkc vs) (wipe σ vs) σ2) : wipe σ2 vs = wipe σ vs := by
  have key : ∀ (σ : St) (vs : List Nat) (i : Nat), i ∈ vs → (wipe σ vs)[i]? = if i < σ.length then some none else none := fun σ vs i => by
    induction vs with
    | nil => intro h; cases h
    | cons v vs ih =>
      intro h
      unfold wipe
      by_cases hv : v = i
      · subst hv
        by_cases hx : v < σ.length
        · rw [List.getElem?_set_self (by rw [wipe_length]; exact hx), if_pos hx]
        · rw [List.getElem?_eq_none (by rw [List.length_set, wipe_length]; omega), if_neg hx]
      · rw [List.getElem?_set_ne hv]
        exact ih ((List.mem_cons.mp h).resolve_left fun e => hv e.symm)
  refine List.ext_getElem? fun i => ?_
  by_cases hi : i ∈ vs
  · rw [key _ _ i hi, key _ _ i hi, hl]
  · rw [wipe_get hi]
    have := h i (by unfold lkc; simp [hi])
    rw [this]
theorem tO_comp [Tb] [Vs] {it : I} {t : Tg} {c : T} {e : O} {vs : List Nat} (ko : ∀ v, v ∈ vs → Vs.ok v) {σ : St} {H : Hp} {Q : VK} (z : tO K (oComp it t c e vs) σ H Q) : tLc (tI K it) (tG K (lkc vs) t) (tT K c) (tO K e) vs σ H Q := by
  obtain ⟨s, Fs, rf, s', R, e0, q⟩ := z
  obtain ⟨⟨es, l⟩, s1, e1, e0⟩ := bind_inv e0
  refine ⟨s, Fs, es, l, s1, R, e1, fun J H1 Fs1 Gl G R1 C1 n1 hd fr W hG => ?_⟩
  split at e0
  · rename_i hnd
    obtain ⟨accF, s2, e2, e0⟩ := bind_inv e0
    obtain ⟨Fs2, Gl2, R2, hd2, sub2, fr2⟩ := R1.lock (fun p hp => (ownSl_has hp).1) hnd
    obtain ⟨Fs3, R3, sub3⟩ := R2.clr vs ko
    have sub : ∀ j a, a ∈ Fs3 j → a ∈ Fs1 j := fun j a h => sub2 j a (sub3 j a h).1
    have E01 : Ev H Fs H1 Fs3 := ⟨C1, fun j a h => n1 j a (sub j a h)⟩
    have hdA : Hid K H1 σ Fs3 (ownSl vs s1 ++ l) (Gl2 ++ Gl) := (hd2.sub fun j a h => (sub3 j a h).1).append (hd.sub sub) fun G2 hG2 G hG a ha hb => by
      obtain ⟨⟨xs, hx⟩, hn⟩ := hd.mem G hG a hb
      rcases fr2.mem G2 hG2 a ha with ⟨i, z⟩ | z
      · exact hn i z
      · rw [hx] at z; cases z
    have frA : From H Fs (ownSl vs s1 ++ l) (Gl2 ++ Gl) := (fr2.trans n1 fun a h => C1.there a h).append fr
    intro Dn hDn
    have smD : Same H1 (upd H1 Dn (.lst [])) := same_new hDn
    have nD3 : ∀ i, Dn ∉ Fs3 i := fun i h => by
      obtain ⟨xs, w⟩ := R3.mem h
      rw [hDn] at w; cases w
    refine ⟨fun i m Hc => m = es.length - i ∧ i ≤ es.length ∧ ∃ sc Fsc acc accV Facc, RelS K Hc sc (wipe σ vs) Fsc ∧ Ev H1 Fs3 Hc Fsc ∧ Hc Dn = some (.lst accV) ∧ OwnA K Hc acc accV Facc ∧ Dn ∉ Facc ∧ (∀ i, Dn ∉ Fsc i) ∧ (∀ i a, a ∈ Fsc i → a ∉ Facc) ∧ (∀ a, a ∈ Facc → H1 a = none) ∧
      compL t c e vs (es.drop i) acc sc = .ok accF s2, ⟨es.length, by simp, Nat.zero_le _, _, Fs3, [], [], [], R3.same smD, .same _ smD, upd_same, .nil, by simp, nD3, by simp, by simp, e2⟩, ?_⟩
    rintro i m Hc ⟨rfl, hi, sc, Fsc, acc, accV, Facc, Rc, Ec, hDc, oa, nDa, nDf, dja, fra, ec⟩
    have EG : Ev H1 Fs1 Hc Fsc → G Hc := hG Hc Fsc
    have Ec1 : Ev H1 Fs1 Hc Fsc := ⟨Ec.chg.mono (fun a _ _ w => w.imp fun i => sub i a), fun j a h => (Ec.new j a h).imp (sub j a) id⟩
    by_cases hlt : i < es.length
    · refine .inr ⟨W.goes i Hc hlt (EG Ec1), fun H' => i + 1 ≤ es.length ∧ ∃ sc Fsc acc accV Facc, RelS K H' sc (wipe σ vs) Fsc ∧ Ev H1 Fs3 H' Fsc ∧ H' Dn = some (.lst accV) ∧ OwnA K H' acc accV Facc ∧ Dn ∉ Facc ∧ (∀ i, Dn ∉ Fsc i) ∧ (∀ i a, a ∈ Fsc i → a ∉ Facc) ∧ (∀ a, a ∈ Facc → H1 a = none) ∧
        compL t c e vs (es.drop (i + 1)) acc sc = .ok accF s2, fun H' ⟨h1, h2⟩ => ⟨es.length - (i + 1), by omega, rfl, h1, h2⟩, fun x H' y => ?_⟩
      obtain ⟨d, hd1, sm, o⟩ := W.yields i Hc x H' hlt (EG Ec1) y
      have ed : es.drop i = d :: es.drop (i + 1) := by
        rw [List.drop_eq_getElem_cons hlt]
        rw [List.getElem?_eq_getElem hlt] at hd1
        rw [Option.some.inj hd1]
      rw [ed] at ec
      unfold compL at ec
      split at ec
      · cases ec
      · rename_i s3 hs3
        obtain ⟨b, s4, e4, ec⟩ := bind_inv ec
        refine ⟨sc, Fsc, d, [], s3, Rc.same sm, ⟨o, fun _ _ _ z => by cases z⟩, hs3, fun σ2 Fs4 R4 n4 L4 => ?_⟩
        have hw : wipe σ2 vs = wipe σ vs := wipe_lk (by
          have l1 := R4.len
          have l2 := Rc.len
          have l3 := asg_len hs3
          rw [wipe_length] at l2
          omega) L4
        refine ⟨hw, ?_⟩
        · skip
          have E4 : Ev H1 Fs3 H' Fs4 := Ec.trans ⟨.same sm, fun j a h => .inl ((n4 j a h).resolve_right (by simp))⟩
          have nD4 : ∀ i, Dn ∉ Fs4 i := fun i h => nDf i ((n4 i Dn h).resolve_right (by simp))
          have dj4 : ∀ i a, a ∈ Fs4 i → a ∉ Facc := fun i a h => dja i a ((n4 i a h).resolve_right (by simp))
          refine ⟨s3, Fs4, b, s4, R4, e4, fun H3 Fs5 R5 E5 => ?_⟩
          -- what a test or an item's reckoning leaves of the new list
          have keepD : ∀ {H3 : Hp} {Fs5 : Fp}, Ev H' Fs4 H3 Fs5 → H3 Dn = some (.lst accV) ∧ OwnA K H3 acc accV Facc ∧ (∀ i, Dn ∉ Fs5 i) ∧ (∀ i a, a ∈ Fs5 i → a ∉ Facc) := fun {H3 Fs5} E5 => by
            have h1 : H' Dn = some (.lst accV) := sm _ _ hDc
            have o1 : OwnA K H' acc accV Facc := oa.chg (Fa := fun _ => False) (.same sm) fun _ _ z => z
            refine ⟨E5.chg.keep _ _ h1 (.inl ⟨fun ⟨i, w⟩ => nD4 i w, rfl⟩), o1.chg E5.chg fun a ha ⟨i, w⟩ => dj4 i a w ha, fun i h => ?_, fun i a h ha => ?_⟩
            · rcases E5.new i Dn h with w | w
              · exact nD4 i w
              · rw [h1] at w; cases w
            · rcases E5.new i a h with w | w
              · exact dj4 i a w ha
              · obtain ⟨xs, z⟩ := o1.mem a ha
                rw [w] at z; cases z
          cases b with
          | false =>
            rw [if_neg Bool.false_ne_true] at ec
            refine iteF ⟨hlt, ?_⟩
            obtain ⟨h1, h2, h3, h4⟩ := keepD E5
            obtain ⟨Fs6, R6, sub6⟩ := R5.clr vs ko
            rw [hw] at R6
            exact ⟨_, Fs6, acc, accV, Facc, R6, E4.trans ⟨E5.chg, fun j a h => E5.new j a (sub6 j a h).1⟩, h1, h2, nDa, fun i h => h3 i (sub6 i _ h).1, fun i a h => h4 i a (sub6 i a h).1, fra, ec⟩
          | true =>
            rw [if_pos rfl] at ec
            refine iteT ?_
            obtain ⟨r, s6, e6, ec⟩ := bind_inv ec
            refine ⟨s4, Fs5, r, s6, R5, e6, fun v H4 Fs6 F R6 E6 k6 n6 => ?_⟩
            split at ec
            · cases ec
            · rename_i y hy
              split at ec
              · rename_i hlen
                have A6 := rfOk_own k6 R6 hy
                have E56 := E5.trans E6
                obtain ⟨h1, h2, h3, h4⟩ := keepD E56
                have n6' : ∀ a, a ∈ F → H' a = none := fun a ha => E5.chg.there a (n6 a ha)
                have h1' : H' Dn = some (.lst accV) := sm _ _ hDc
                have o1' : OwnA K H' acc accV Facc := oa.chg (Fa := fun _ => False) (.same sm) fun _ _ z => z
                obtain ⟨Facc', t', hF'⟩ := OwnA.snoc A6.own h2 fun a ha hb => by
                  obtain ⟨xs, z⟩ := o1'.mem a ha
                  rw [n6' a hb] at z; cases z
                have nDn : Dn ∉ Facc' := fun w => by
                  rcases hF' Dn w with w | w
                  · exact nDa w
                  · rw [n6' Dn w] at h1'; cases h1'
                refine ⟨accV, h1, by rw [h2.len]; exact Nat.lt_of_lt_of_le hlen big_le, hlt, ?_⟩
                obtain ⟨R7, C7⟩ := R6.out (acc' := accV ++ [v]) h1 h3
                obtain ⟨Fs8, R8, sub8⟩ := R7.clr vs ko
                rw [hw] at R8
                refine ⟨_, Fs8, acc ++ [y], accV ++ [v], Facc', R8, ?_, upd_same, t'.chg C7 fun a ha w => nDn (by rw [← w]; exact ha), nDn, fun i h => h3 i (sub8 i _ h).1, fun i a h ha => ?_, fun a ha => ?_, ec⟩
                · have E7 := E4.trans E56
                  exact ⟨E7.chg.transN C7 (fun a o ho w => by rw [w, hDn] at ho; cases ho), fun j a h => E7.new j a (sub8 j a h).1⟩
                · rcases hF' a ha with w | w
                  · exact h4 i a (sub8 i a h).1 w
                  · exact A6.dis i a (sub8 i a h).1 w
                · rcases hF' a ha with w | w
                  · exact fra a w
                  · exact E4.chg.there a (n6' a w)
              · cases ec
    · have ei : i = es.length := by omega
      subst ei
      rw [List.drop_length] at ec
      cases ec
      cases e0
      refine .inl ⟨W.stops Hc (EG Ec1), ?_⟩
      obtain ⟨Fs', R', E', nn⟩ := finish (s1 := s1) E01 hdA frA (Rc.unwipe ko) Ec fun _ _ => rfl
      refine q (.ref Dn) Hc Fs' (Dn :: Facc) R' E' (.val ⟨.lst hDc oa nDa, fun j a h ha => ?_⟩) fun a ha => ?_
      · rcases nn j a h with w | ⟨_, w, _, _⟩
        · rcases List.mem_cons.mp ha with rfl | ha
          · exact nDf j w
          · exact dja j a w ha
        · rcases List.mem_cons.mp ha with rfl | ha
          · exact w hDn
          · exact w (fra a ha)
      · rcases List.mem_cons.mp ha with rfl | ha
        · exact C1.there _ hDn
        · exact C1.there _ (fra a ha)
  · cases e0
theorem so_comp [Tb] [Vs] {elt tg iter : Expr} {ifs : List Expr} {scope : Scope} {own : List (Str × Nat)} {pos : Pos} {it : I} {t : Tg} {c : T} {e : O} (hc : X.calm = true) (hN : X.N.Nodup) (hi : SimI X tg iter it) (ok : BlkOk X.N X.env.scope scope own)
    (hg : ∀ (s : Shared) (H : Hp) (C : Addr) (cl : List (Str × Addr)) (fp : List Addr), SimG (X.blk s H scope (compEnvC scope cl C X.env) fp) (lkc (own.map (·.2))) tg t) (ht : ∀ (s : Shared) (H : Hp) (C : Addr) (cl : List (Str × Addr)) (fp : List Addr), SimPT (X.blk s H scope (compEnvC scope cl C X.env) fp) ifs c)
    (he : ∀ (s : Shared) (H : Hp) (C : Addr) (cl : List (Str × Addr)) (fp : List Addr), SimO (X.blk s H scope (compEnvC scope cl C X.env) fp) elt e) (hs : ∀ x, foldedSetIterable iter X.env x = pure x := by intro _; rfl) (ko : ∀ v, v ∈ own.map (·.2) → Vs.ok v := by first | exact fun _ _ => trivial | assumption | decide) :
    SimO X (.ListComp elt [⟨tg, iter, ifs, 0⟩] scope pos) (oComp it t c e (own.map (·.2))) := by
  have hg' : ∀ (s : Shared) (H : Hp) (C : Addr) (cl : List (Str × Addr)) (fp : List Addr), PG (X.blk s H scope (compEnvC scope cl C X.env) fp) tg (tG X.K (lkc (own.map (·.2))) t) := hg
  have ht' : ∀ (s : Shared) (H : Hp) (C : Addr) (cl : List (Str × Addr)) (fp : List Addr), PTs (X.blk s H scope (compEnvC scope cl C X.env) fp) ifs (tT X.K c) := ht
  have he' : ∀ (s : Shared) (H : Hp) (C : Addr) (cl : List (Str × Addr)) (fp : List Addr), PE (X.blk s H scope (compEnvC scope cl C X.env) fp) elt (tO X.K e) := he
  exact pe_imp (pe_lc hc hN hi ok hg' ht' he' hs) fun σ H Q z => tO_comp ko z
end
end Sim
namespace Sim
open PySem PySem.Spec L2
inductive FRes where
  | ok (r : D) (as : List D)
  | exc (c : Str) (v : D)
  | bad
abbrev Fn := List D → FRes
/-- the arguments, each with the places that it holds -/
inductive OwnLs (K : PySem.W.Frag) (H : Hp) : List D → List V → List (List Addr) → Prop
  | nil : OwnLs K H [] [] []
  | cons {d : D} {v : V} {F : List Addr} {ds : List D} {vs : List V} {Fl : List (List Addr)} : Own K H d v F → (∀ G, G ∈ Fl → ∀ a, a ∈ F → a ∉ G) → OwnLs K H ds vs Fl → OwnLs K H (d :: ds) (v :: vs) (F :: Fl)
def NewL (H : Hp) : List (List Addr) → List (List Addr) → Prop
  | [], [] => True
  | F :: Fl, F' :: Fl' => (∀ a, a ∈ F' → a ∈ F ∨ H a = none) ∧ NewL H Fl Fl'
  | _, _ => False
def spF [Tb] (K : PySem.W.Frag) (n : Nat) (f : Fn) : Sp := fun vs H Q E => ∃ ds Fl r as, f ds = .ok r as ∧ vs.length = n ∧ TabsOk H ∧ OwnLs K H ds vs Fl ∧
  ∀ v H' Fl' F, OwnLs K H' as vs Fl' → Chg (fun a => ∃ G, G ∈ Fl ∧ a ∈ G) H H' → NewL H Fl Fl' → Own K H' r v F → (∀ a, a ∈ F → H a = none) → (∀ G, G ∈ Fl' → ∀ a, a ∈ G → a ∉ F) → Q v H'
def lkz : List Rf → List D → List D → List (Nat × D)
  | .slot i :: rs, d :: ds, a :: as => if pur d = true then lkz rs ds as else (i, a) :: lkz rs ds as
  | .val _ :: rs, _ :: ds, _ :: as => lkz rs ds as
  | _, _, _ => []
def oCall (f : Fn) (g : AL) : O := fun s => (g s).bind fun rs s1 => match rds rs s1 with
  | none => .bad
  | some ds => if nodupB ((lks rs ds).map (·.1)) = true then (match f ds with
      | .ok r as => .ok (.val r) (unlockS (lkz rs ds as) (lockS (lks rs ds) s1))
      | .exc c v => .exc c v s1
      | .bad => .bad) else .bad
section
variable [Tb] [Vs] {K : PySem.W.Frag} {H H' : Hp} {σ : St} {Fs : Fp}
theorem OwnLs.mem {ds : List D} {vs : List V} {Fl : List (List Addr)} (h : OwnLs K H ds vs Fl) : ∀ G, G ∈ Fl → ∀ a, a ∈ G → ∃ xs : MO, H a = some xs.ho := by
  induction h with
  | nil => intro G h; cases h
  | cons o _ _ ih =>
    intro G hG a ha
    rcases List.mem_cons.mp hG with rfl | hG
    · exact o.mem a ha
    · exact ih G hG a ha
theorem OwnLs.len {ds : List D} {vs : List V} {Fl : List (List Addr)} (h : OwnLs K H ds vs Fl) : vs.length = ds.length := by
  induction h with
  | nil => rfl
  | cons _ _ _ ih => rw [List.length_cons, List.length_cons, ih]
/-- which argument is which closed slot's -/
def Al : List Rf → List D → List (List Addr) → List (List Addr) → Prop
  | [], [], [], [] => True
  | .val _ :: rs, _ :: ds, Gl, _ :: Fl => Al rs ds Gl Fl
  | .slot _ :: rs, d :: ds, Gl, F :: Fl => if pur d = true then Al rs ds Gl Fl else (match Gl with
    | [] => False
    | G :: Gl => G = F ∧ Al rs ds Gl Fl)
  | _, _, _, _ => False
/-- the operands of a call as its arguments -/
theorem args_own {s : Sg} {FsL : Fp} (R : RelS K H s σ Fs) {rs : List Rf} {vs : List V} {Gs : List (List Addr)} (r : Rfs K H σ Fs rs vs Gs) : ∀ {ds : List D} {Gl : List (List Addr)}, rds rs s = some ds → Hid K H σ FsL (lks rs ds) Gl → From H Fs (lks rs ds) Gl →
    ∃ Fl, OwnLs K H ds vs Fl ∧ (∀ F, F ∈ Fl → ∀ a, a ∈ F → (∃ G, G ∈ Gs ∧ a ∈ G) ∨ ∃ G, G ∈ Gl ∧ a ∈ G) ∧ Al rs ds Gl Fl := by
  induction r with
  | nil =>
    intro ds Gl e hd _
    cases e
    cases hd
    exact ⟨[], .nil, by simp, trivial⟩
  | @val d v F rs vs Gs A n r ih =>
    intro ds Gl e hd fr
    unfold rds at e
    simp only [rd] at e
    split at e
    · cases e
    · rename_i es he
      cases e
      obtain ⟨Fl, h1, h2, h0⟩ := ih he (by simpa [lks] using hd) (by simpa [lks] using fr)
      refine ⟨F :: Fl, .cons A.own (fun G hG a ha hb => ?_) h1, fun G hG a ha => ?_, by simpa [Al] using h0⟩
      · rcases h2 G hG a hb with ⟨G', hG', h⟩ | ⟨G', hG', h⟩
        · exact n G' hG' a ha h
        · rcases fr.mem G' (by simpa [lks] using hG') a h with ⟨i, z⟩ | z
          · exact A.dis i a z ha
          · obtain ⟨xs, w⟩ := A.own.mem a ha
            rw [z] at w; cases w
      · rcases List.mem_cons.mp hG with rfl | hG
        · exact .inl ⟨_, List.mem_cons_self .., ha⟩
        · rcases h2 G hG a ha with ⟨G', hG', h⟩ | h
          · exact .inl ⟨G', List.mem_cons_of_mem _ hG', h⟩
          · exact .inr h
  | @slot i v rs vs Gs hv r ih =>
    intro ds Gl e hd fr
    unfold rds at e
    simp only [rd] at e
    split at e
    · cases e
    · rename_i d hd0
      split at e
      · cases e
      · rename_i es he
        cases e
        obtain ⟨v', hv', o⟩ := R.has i d (join_some hd0)
        rw [hv] at hv'
        cases hv'
        by_cases hp : pur d = true
        · have el : lks (.slot i :: rs) (d :: es) = lks rs es := by rw [lks, if_pos hp]
          rw [el] at hd fr
          obtain ⟨Fl, h1, h2, h0⟩ := ih he hd fr
          rw [o.pur hp] at o
          refine ⟨[] :: Fl, .cons o (by simp) h1, fun G hG a ha => ?_, by unfold Al; rw [if_pos hp]; exact h0⟩
          rcases List.mem_cons.mp hG with rfl | hG
          · cases ha
          · rcases h2 G hG a ha with ⟨G', hG', h⟩ | h
            · exact .inl ⟨G', List.mem_cons_of_mem _ hG', h⟩
            · exact .inr h
        · have el : lks (.slot i :: rs) (d :: es) = (i, d) :: lks rs es := by rw [lks, if_neg hp]
          rw [el] at hd fr
          cases hd with
          | @cons _ _ v2 F _ Gl hv2 A n hd =>
            have hv2 := hv2.get
            rw [hv] at hv2
            cases hv2
            obtain ⟨Fl, h1, h2, h0⟩ := ih he hd fr.2
            refine ⟨F :: Fl, .cons A.own (fun G hG a ha hb => ?_) h1, fun G hG a ha => ?_, by unfold Al; rw [if_neg hp]; exact ⟨rfl, h0⟩⟩
            · rcases h2 G hG a hb with ⟨G', hG', h⟩ | ⟨G', hG', h⟩
              · -- another operand's own value stands apart from all slots
                have key : ∀ {rs : List Rf} {vs : List V} {Gs : List (List Addr)}, Rfs K H σ Fs rs vs Gs → G' ∈ Gs → ∀ i, a ∉ Fs i := fun {rs vs Gs} r => by
                  induction r with
                  | nil => intro h; cases h
                  | val A _ _ ih =>
                    intro hh i hi
                    rcases List.mem_cons.mp hh with e1 | hh
                    · exact A.dis i a hi (by rw [← e1]; exact h)
                    · exact ih hh i hi
                  | slot _ _ ih =>
                    intro hh i hi
                    rcases List.mem_cons.mp hh with e1 | hh
                    · rw [e1] at h; cases h
                    · exact ih hh i hi
                rcases fr.1 a ha with z | z
                · exact key r hG' _ z
                · obtain ⟨xs, w⟩ := A.own.mem a ha
                  rw [z] at w; cases w
              · exact n G' hG' a ha h
            · rcases List.mem_cons.mp hG with rfl | hG
              · exact .inr ⟨_, List.mem_cons_self .., ha⟩
              · rcases h2 G hG a ha with ⟨G', hG', h⟩ | ⟨G', hG', h⟩
                · exact .inl ⟨G', List.mem_cons_of_mem _ hG', h⟩
                · exact .inr ⟨G', List.mem_cons_of_mem _ hG', h⟩
/-- behind the call: what the slots' lists came to -/
theorem args_back {H0 : Hp} {Fs0 FsL : Fp} {s : Sg} (R : RelS K H s σ Fs) {rs : List Rf} {vs : List V} {Gs : List (List Addr)} (r : Rfs K H σ Fs rs vs Gs) : ∀ {ds as : List D} {Gl Fl Fl' : List (List Addr)}, rds rs s = some ds → Hid K H σ FsL (lks rs ds) Gl → From H0 Fs0 (lks rs ds) Gl → Al rs ds Gl Fl →
    OwnLs K H ds vs Fl → OwnLs K H' as vs Fl' → NewL H Fl Fl' → (∀ i a, a ∈ FsL i → (∀ F, F ∈ Fl → a ∉ F) ∧ H a ≠ none) → (∀ a, H a = none → H0 a = none) →
    ∃ Gl', Hid K H' σ FsL (lkz rs ds as) Gl' ∧ From H0 Fs0 (lkz rs ds as) Gl' ∧ ∀ G, G ∈ Gl' → G ∈ Fl' := by
  induction r with
  | nil =>
    intro ds as Gl Fl Fl' e hd fr al o o' nl _ _
    cases e
    exact ⟨[], .nil, trivial, by simp⟩
  | @val d v F rs vs Gs A n r ih =>
    intro ds as Gl Fl Fl' e hd fr al o o' nl ap th
    unfold rds at e
    simp only [rd] at e
    split at e
    · cases e
    · rename_i es he
      cases e
      cases o with
      | cons o1 n1 o =>
        cases o' with
        | cons o1' n1' o' =>
          obtain ⟨Gl', h1, h2, h3⟩ := ih he (by simpa [lks] using hd) (by simpa [lks] using fr) (by simpa [Al] using al) o o' nl.2 (fun i a h => ⟨fun F hF => (ap i a h).1 F (List.mem_cons_of_mem _ hF), (ap i a h).2⟩) th
          exact ⟨Gl', by simpa [lkz] using h1, by simpa [lkz] using h2, fun G hG => List.mem_cons_of_mem _ (h3 G hG)⟩
  | @slot i v rs vs Gs hv r ih =>
    intro ds as Gl Fl Fl' e hd fr al o o' nl ap th
    unfold rds at e
    simp only [rd] at e
    split at e
    · cases e
    · rename_i d hd0
      split at e
      · cases e
      · rename_i es he
        cases e
        cases o with
        | @cons _ _ F0 _ _ Fl0 o1 n1 o =>
          cases o' with
          | @cons a' _ F' as' _ Fl' o1' n1' o' =>
            have ap' : ∀ i a, a ∈ FsL i → (∀ F, F ∈ Fl0 → a ∉ F) ∧ H a ≠ none := fun i a h => ⟨fun F hF => (ap i a h).1 F (List.mem_cons_of_mem _ hF), (ap i a h).2⟩
            by_cases hp : pur d = true
            · have el : lks (.slot i :: rs) (d :: es) = lks rs es := by rw [lks, if_pos hp]
              have el' : lkz (.slot i :: rs) (d :: es) (a' :: as') = lkz rs es as' := by rw [lkz, if_pos hp]
              rw [el] at hd fr
              rw [el']
              obtain ⟨Gl', h1, h2, h3⟩ := ih he hd fr (by unfold Al at al; rw [if_pos hp] at al; exact al) o o' nl.2 ap' th
              exact ⟨Gl', h1, h2, fun G hG => List.mem_cons_of_mem _ (h3 G hG)⟩
            · have el : lks (.slot i :: rs) (d :: es) = (i, d) :: lks rs es := by rw [lks, if_neg hp]
              have el' : lkz (.slot i :: rs) (d :: es) (a' :: as') = (i, a') :: lkz rs es as' := by rw [lkz, if_neg hp]
              rw [el] at hd fr
              rw [el']
              cases hd with
              | @cons _ _ v2 F _ Gl hv2' A n hd =>
                have hv2 := hv2'.get
                rw [hv] at hv2
                cases hv2
                unfold Al at al
                rw [if_neg hp] at al
                obtain ⟨e0, al⟩ := al
                subst e0
                obtain ⟨Gl', h1, h2, h3⟩ := ih he hd fr.2 al o o' nl.2 ap' th
                refine ⟨F' :: Gl', .cons ⟨hv, hv2'.fp⟩ ⟨o1', fun j a hj ha => ?_⟩ (fun G hG a ha hb => n1' G (h3 G hG) a ha hb) h1, ⟨fun a ha => ?_, h2⟩, fun G hG => ?_⟩
                · rcases nl.1 a ha with z | z
                  · exact (ap j a hj).1 _ (List.mem_cons_self ..) z
                  · exact (ap j a hj).2 z
                · rcases nl.1 a ha with z | z
                  · exact fr.1 a z
                  · exact .inr (th a z)
                · rcases List.mem_cons.mp hG with rfl | hG
                  · exact List.mem_cons_self ..
                  · exact List.mem_cons_of_mem _ (h3 G hG)
theorem NewL.mem {Fl Fl' : List (List Addr)} (h : NewL H Fl Fl') : ∀ G, G ∈ Fl' → ∀ a, a ∈ G → (∃ F, F ∈ Fl ∧ a ∈ F) ∨ H a = none := by
  induction Fl generalizing Fl' with
  | nil => cases Fl' with
    | nil => intro G h; cases h
    | cons _ _ => exact h.elim
  | cons F Fl ih => cases Fl' with
    | nil => exact h.elim
    | cons F' Fl' =>
      intro G hG a ha
      rcases List.mem_cons.mp hG with rfl | hG
      · exact (h.1 a ha).imp (fun z => ⟨F, List.mem_cons_self .., z⟩) id
      · exact (ih h.2 G hG a ha).imp (fun ⟨F, h1, h2⟩ => ⟨F, List.mem_cons_of_mem _ h1, h2⟩) id
theorem tO_call {f : Fn} {n : Nat} {g : AL} {Q : VK} {E : XK} (z : tO K (oCall f g) σ H Q) (hn : ∀ ds r as, f ds = .ok r as → ds.length = n) : tA K g σ H fun vs H1 => spF K n f vs H1 Q E := by
  obtain ⟨s, Fs, rf, s', R, e, q⟩ := z
  obtain ⟨rs, s1, e1, e⟩ := bind_inv e
  refine ⟨s, Fs, rs, s1, R, e1, fun vs H1 Fs1 Gs R1 E1 k1 n1 => ?_⟩
  split at e
  · cases e
  · rename_i ds hds
    split at e
    · rename_i hnd
      split at e
      · rename_i r as hf
        cases e
        obtain ⟨FsL, Gl, RL, hd, sub, fr⟩ := R1.lock (lks_has k1 hds) hnd
        obtain ⟨Fl, ol, hl, al⟩ := args_own (FsL := FsL) R1 k1 hds hd fr
        have apart : ∀ i a, a ∈ FsL i → (∀ F, F ∈ Fl → a ∉ F) ∧ H1 a ≠ none := fun i a h => by
          refine ⟨fun F hF ha => ?_, fun w => ?_⟩
          · rcases hl F hF a ha with ⟨G, hG, hb⟩ | ⟨G, hG, hb⟩
            · have key : ∀ {rs : List Rf} {vs : List V} {Gs : List (List Addr)}, Rfs K H1 σ Fs1 rs vs Gs → G ∈ Gs → ∀ i, a ∉ Fs1 i := fun {rs vs Gs} r => by
                induction r with
                | nil => intro h; cases h
                | val A _ _ ih =>
                  intro hh i hi
                  rcases List.mem_cons.mp hh with e1 | hh
                  · exact A.dis i a hi (by rw [← e1]; exact hb)
                  · exact ih hh i hi
                | slot _ _ ih =>
                  intro hh i hi
                  rcases List.mem_cons.mp hh with e1 | hh
                  · rw [e1] at hb; cases hb
                  · exact ih hh i hi
              exact key k1 hG i (sub i a h)
            · exact (hd.mem G hG a hb).2 i h
          · obtain ⟨xs, y⟩ := RL.mem h
            rw [w] at y; cases y
        refine ⟨ds, Fl, r, as, hf, by rw [ol.len]; exact hn _ _ _ hf, R1.lnk.2, ol, fun v H2 Fl' F ol' c nl o nF dj => ?_⟩
        have R2 : RelS K H2 (lockS (lks rs ds) s1) σ FsL := ⟨RL.len, fun i d e => by
          obtain ⟨v, hv, o⟩ := RL.has i d e
          exact ⟨v, hv, o.chg c fun a ha ⟨G, hG, hb⟩ => (apart i a ha).1 G hG hb⟩, RL.off, RL.dis, RL.lnkC c (fun i a ha ⟨G, hG, hb⟩ => (apart i a (RL.fpF ha)).1 G hG hb), RL.bse⟩
        obtain ⟨Gl', hd', fr', sub'⟩ := args_back (H0 := H) (Fs0 := Fs) R1 k1 hds hd (fr.trans E1.new fun a h => E1.chg.there a h) al ol ol' nl apart fun a h => E1.chg.there a h
        obtain ⟨Fs', R', n'⟩ := R2.unlock hd' fr'
        refine q v H2 Fs' F R' ⟨⟨fun a ob ho cc => ?_, fun a h => E1.chg.there a (c.there a h), fun t => c.tab (E1.chg.tab t)⟩, fun j a h => ?_⟩ (.val ⟨o, fun j a h ha => ?_⟩) fun a ha => E1.chg.there a (nF a ha)
        · refine c.keep a ob (E1.chg.keep a ob ho cc) (cc.imp (fun w2 => ⟨fun ⟨G, hG, hb⟩ => ?_, w2.2⟩) id)
          have w := w2.1
          rcases hl G hG a hb with ⟨G', hG', h⟩ | ⟨G', hG', h⟩
          · rw [n1 G' hG' a h] at ho; cases ho
          · rcases fr.mem G' hG' a h with ⟨i, z⟩ | z
            · rcases E1.new i a z with z | z
              · exact w ⟨i, z⟩
              · rw [z] at ho; cases ho
            · rw [E1.chg.there a z] at ho; cases ho
        · rcases n' j a h with z | ⟨z, _⟩
          · exact E1.new j a (sub j a z)
          · exact z
        · rcases n' j a h with z | ⟨_, G, hG, hb⟩
          · exact (apart j a z).2 (nF a ha)
          · exact dj G (sub' G hG) a hb ha
      · cases e
      · cases e
    · cases e
end
def coll : List Nat → List D → Nat → Sg → Option (List D)
  | [], [], _, _ => some []
  | m :: ms, d :: ds, j, s => match coll ms ds (j + 1) s with
    | none => none
    | some as => if m = 0 then (match (s[j]?).join with
      | none => none
      | some d' => some (d' :: as)) else some (d :: as)
  | _, _, _, _ => none
/-- which parameters' names keep what they hold -/
def lkM (ms : List Nat) : Nat → Bool := fun i => ms[i]? == some 0
def okM : List Nat → List D → Bool
  | [], [] => true
  | m :: ms, d :: ds => (m == 0 || pur d) && okM ms ds
  | _, _ => false
/-- n names in all, the parameters by their modes: 0 keeps its name's value, 1 holds what has no list -/
def mkFn (ms : List Nat) (n : Nat) (g : S) : Fn := fun ds => if okM ms ds = true then (match g (ds.map some ++ List.replicate (n - ds.length) none) with
    | .ok fl s => (match coll ms ds 0 s with
      | none => .bad
      | some as => (match fl with
        | .nx => .ok .none as
        | .rt d => .ok d as
        | _ => .bad))
    | .exc c v _ => .exc c v
    | .bad => .bad) else .bad
section
variable [Tb] [Vs] {K : PySem.W.Frag} {H H' : Hp}
theorem okM_len : ∀ {ms : List Nat} {ds : List D}, okM ms ds = true → ds.length = ms.length
  | [], [], _ => rfl
  | m :: ms, d :: ds, h => by
    simp only [okM, Bool.and_eq_true] at h
    rw [List.length_cons, List.length_cons, okM_len h.2]
  | [], _ :: _, h => by simp [okM] at h
  | _ :: _, [], h => by simp [okM] at h
theorem mkFn_len {ms : List Nat} {n : Nat} {g : S} {ds : List D} {r : D} {as : List D} (h : mkFn ms n g ds = .ok r as) : ds.length = ms.length := by
  unfold mkFn at h
  split at h
  · rename_i hk
    exact okM_len hk
  · cases h
omit [Vs] in
/-- the arguments as the first slots -/
theorem relS_start (tt : TabsOk H) {ds : List D} {vs : List V} {Fl : List (List Addr)} (h : OwnLs K H ds vs Fl) (m : Nat) : @RelS _ noVs K H (ds.map some ++ List.replicate m none) (vs.map some ++ List.replicate m none) (fun j => Fl.getD j []) := by
  have hl := h.len
  have key : ∀ (i : Nat) (d : D), ds[i]? = some d → ∃ v F, vs[i]? = some v ∧ Fl[i]? = some F ∧ Own K H d v F := by
    clear hl
    induction h with
    | nil => intro i d h; simp at h
    | @cons d v F ds vs Fl o n _ ih =>
      intro i d' e
      cases i with
      | zero => simp at e; subst e; exact ⟨v, F, rfl, rfl, o⟩
      | succ i => exact ih i d' (by simpa using e)
  have lenF : Fl.length = ds.length := by
    clear key hl
    induction h with
    | nil => rfl
    | cons _ _ _ ih => rw [List.length_cons, List.length_cons, ih]
  have dj : ∀ (i j : Nat) (F G : List Addr) (a : Addr), Fl[i]? = some F → Fl[j]? = some G → a ∈ F → a ∈ G → i = j := by
    clear key hl lenF
    induction h with
    | nil => intro i j F G a h; simp at h
    | @cons d v F0 ds vs Fl o n _ ih =>
      intro i j F G a h1 h2 h3 h4
      cases i with
      | zero => cases j with
        | zero => rfl
        | succ j =>
          simp at h1
          subst h1
          exact absurd h4 (n G (List.mem_of_getElem? (by simpa using h2)) a h3)
      | succ i => cases j with
        | zero =>
          simp at h2
          subst h2
          exact absurd h3 (n F (List.mem_of_getElem? (by simpa using h1)) a h4)
        | succ j => rw [ih i j F G a (by simpa using h1) (by simpa using h2) h3 h4]
  refine ⟨by simp [hl], fun i d e => ?_, fun i e => ?_, fun i j a h1 h2 => ?_, ⟨trivial, tt⟩, fun i h => absurd rfl h⟩
  · by_cases hi : i < ds.length
    · rw [List.getElem?_append_left (by simpa using hi), List.getElem?_map] at e
      cases hd : ds[i]? with
      | none => rw [hd] at e; cases e
      | some d' =>
        rw [hd] at e
        cases e
        obtain ⟨v, F, hv, hF, o⟩ := key i d hd
        refine ⟨v, by rw [List.getElem?_append_left (by simp; omega), List.getElem?_map, hv]; rfl, ?_⟩
        show Own K H d v (Fl.getD i [])
        rw [List.getD_eq_getElem?_getD, hF]
        exact o
    · rw [List.getElem?_append_right (by simpa using hi), List.getElem?_replicate] at e
      split at e <;> cases e
  · show Fl.getD i [] = []
    by_cases hi : i < ds.length
    · exfalso
      refine e ds[i] ?_
      rw [List.getElem?_append_left (by simpa using hi), List.getElem?_map, List.getElem?_eq_getElem hi]
      rfl
    · rw [List.getD_eq_getElem?_getD, List.getElem?_eq_none (by omega)]
      rfl
  · have f1 : ∀ {i : Nat}, a ∈ Fl.getD i [] → ∃ F, Fl[i]? = some F ∧ a ∈ F := fun {i} h => by
      rw [List.getD_eq_getElem?_getD] at h
      cases e : Fl[i]? with
      | none => rw [e] at h; cases h
      | some F => rw [e] at h; exact ⟨F, rfl, h⟩
    obtain ⟨F, e1, m1⟩ := f1 h1
    obtain ⟨G, e2, m2⟩ := f1 h2
    exact dj i j F G a e1 e2 m1 m2
/-- the arguments behind the body -/
theorem coll_own {Fs' : Fp} {s : Sg} {σ' : St} (R : RelS K H' s σ' Fs') (c : Chg (fun _ => True) H H') (new : ∀ i a, a ∈ Fs' i → H' a ≠ none) : ∀ {ms : List Nat} {ds : List D} {vs : List V} {Fl : List (List Addr)} {as : List D} (j : Nat),
    OwnLs K H ds vs Fl → okM ms ds = true → coll ms ds j s = some as → (∀ i, i < ms.length → ms[i]? = some 0 → σ'[j + i]? = (vs[i]?).map some) → (∀ i a, ms[i]? = some 0 → a ∈ Fs' (j + i) → i < Fl.length → a ∈ Fl.getD i [] ∨ H a = none) →
    ∃ Fl', OwnLs K H' as vs Fl' ∧ NewL H Fl Fl' ∧ ∀ G, G ∈ Fl' → ∀ a, a ∈ G → ∃ i, j ≤ i ∧ ms[i - j]? = some 0 ∧ a ∈ Fs' i := by
  intro ms
  induction ms with
  | nil =>
    intro ds vs Fl as j o ok e L n
    cases ds with
    | cons _ _ => simp [okM] at ok
    | nil =>
      simp only [coll] at e
      cases e
      cases o
      exact ⟨[], .nil, trivial, by simp⟩
  | cons m ms ih =>
    intro ds vs Fl as j o ok e L n
    cases ds with
    | nil => simp [okM] at ok
    | cons d ds =>
      simp only [okM, Bool.and_eq_true, Bool.or_eq_true, beq_iff_eq] at ok
      simp only [coll] at e
      split at e
      · cases e
      · rename_i as' hc
        cases o with
        | @cons _ v F _ vs Fl o1 n1 o =>
          obtain ⟨Fl', h1, h2, h3⟩ := ih (j + 1) o ok.2 hc (fun i hi hm => by
            have := L (i + 1) (by simpa using hi) (by simpa using hm)
            rw [show j + 1 + i = j + (i + 1) by omega, this]
            simp) (fun i a hm ha hi => by
            have := n (i + 1) a (by simpa using hm) (by rw [show j + (i + 1) = j + 1 + i by omega]; exact ha) (by simpa using hi)
            simpa using this)
          have h3' : ∀ G, G ∈ Fl' → ∀ a, a ∈ G → ∃ i, j < i ∧ (m :: ms)[i - j]? = some 0 ∧ a ∈ Fs' i := fun G hG a ha => by
            obtain ⟨i, q1, q2, q3⟩ := h3 G hG a ha
            refine ⟨i, by omega, ?_, q3⟩
            rw [show i - j = (i - (j + 1)) + 1 by omega, List.getElem?_cons_succ]
            exact q2
          split at e
          · rename_i hm
            subst hm
            split at e
            · cases e
            · rename_i d' hd'
              cases e
              obtain ⟨v', hv', o'⟩ := R.has j d' (join_some hd')
              have := L 0 (by simp) rfl
              rw [Nat.add_zero, hv'] at this
              simp at this
              subst this
              refine ⟨Fs' j :: Fl', .cons o' (fun G hG a ha hb => ?_) h1, ⟨fun a ha => ?_, h2⟩, fun G hG a ha => ?_⟩
              · obtain ⟨i, q1, _, q3⟩ := h3' G hG a hb
                have := R.dis j i a ha q3
                omega
              · have := n 0 a rfl (by simpa using ha) (by simp)
                simpa using this
              · rcases List.mem_cons.mp hG with rfl | hG
                · exact ⟨j, Nat.le_refl _, by simp, ha⟩
                · obtain ⟨i, q1, q2, q3⟩ := h3' G hG a ha
                  exact ⟨i, Nat.le_of_lt q1, q2, q3⟩
          · rename_i hm
            cases e
            have hp : pur d = true := ok.1.resolve_left hm
            have e0 := o1.pur hp
            subst e0
            refine ⟨[] :: Fl', .cons (o1.chg c fun _ z => by cases z) (by simp) h1, ⟨by simp, h2⟩, fun G hG a ha => ?_⟩
            rcases List.mem_cons.mp hG with rfl | hG
            · cases ha
            · obtain ⟨i, q1, q2, q3⟩ := h3' G hG a ha
              exact ⟨i, Nat.le_of_lt q1, q2, q3⟩
end
end Sim
namespace Sim
open PySem PySem.Spec L2
theorem getD_of {Fl : List (List Addr)} {i : Nat} {a : Addr} (h : a ∈ Fl.getD i []) : ∃ G, Fl[i]? = some G ∧ a ∈ G := by
  rw [List.getD_eq_getElem?_getD] at h
  cases e : Fl[i]? with
  | none => rw [e] at h; cases h
  | some F => rw [e] at h; exact ⟨F, rfl, h⟩
theorem OwnLs.pure_at {K : PySem.W.Frag} {H : Hp} : ∀ {ms : List Nat} {ds : List D} {vs : List V} {Fl : List (List Addr)}, OwnLs K H ds vs Fl → okM ms ds = true → ∀ i, ms[i]? ≠ some 0 → Fl.getD i [] = []
  | [], [], _, _, o, _, i, _ => by cases o; simp
  | m :: ms, d :: ds, _, _, o, ok, 0, h => by
    cases o with
    | @cons _ _ F _ _ Fl o1 n1 o =>
      simp only [okM, Bool.and_eq_true, Bool.or_eq_true, beq_iff_eq] at ok
      have hp : pur d = true := ok.1.resolve_left fun e => h (by rw [e]; rfl)
      simpa using o1.pur hp
  | m :: ms, d :: ds, _, _, o, ok, i + 1, h => by
    cases o with
    | @cons _ _ F _ _ Fl o1 n1 o =>
      simp only [okM, Bool.and_eq_true] at ok
      have := OwnLs.pure_at o ok.2 i (by simpa using h)
      simpa using this
  | [], _ :: _, _, _, _, ok, _, _ => by simp [okM] at ok
  | _ :: _, [], _, _, _, ok, _, _ => by simp [okM] at ok
section
variable [Tb] {P : Program} {w : World} {K : PySem.W.Frag} {mg : Str → Option Value} {base : Heap}
theorem fn_sim {x qual : Str} {st : Stmt} {f : Addr} {fd : FuncData} {N ps : List Str} {ms : List Nat} {n k : Nat} {g : S} (F : Fun K x qual st f fd) (Sc : FnScope N ps (defScope st)) (hn : N.length = n) (hm : ms.length = ps.length)
    (hb : ∀ (cdv : Value) (A : Around) (outer : List Env) (s : Shared) (H : Hp) (E : XK), Room k (A.deeper (PyProof.Rows.envOfC qual (defScope st) s.heap.objs.size f cdv)) →
      SimSs (cxOf CX0 P w K mg base N qual (defScope st) f cdv A outer s H E).nox (lkM ms) (defBody st) g) : FnOk P w K mg base CX0 (k + 1) f fd ps (spF K ps.length (mkFn ms n g)) := by
  refine F.ok Sc (fun vs H Q E h => ?_) (fun cdv A outer s H vs Q E hr h => ⟨_, hb cdv A outer s H E hr, ?_⟩)
  · obtain ⟨ds, Fl, r, as, hf, hl, _⟩ := h
    exact hl
  · obtain ⟨ds, Fl, r, as, hf, hl, tt, ol, q⟩ := h
    unfold mkFn at hf
    split at hf
    · rename_i hok
      have hlm := okM_len hok
      split at hf
      · rename_i fl s' hg
        split at hf
        · cases hf
        · rename_i as' hc
          have est : L2.start N vs = vs.map some ++ List.replicate (n - ds.length) none := by
            unfold L2.start
            rw [hn, ← ol.len]
          have R0 := relS_start tt ol (n - ds.length)
          rw [est]
          refine ⟨_, _, fl, s', R0, hg, ?_⟩
          have fin : ∀ {σ' : St} {H' : Hp} {Fs' : Fp}, RelS K H' s' σ' Fs' → EvR (lkM ms) H (fun j => Fl.getD j []) H' Fs' → Lk (lkM ms) (vs.map some ++ List.replicate (n - ds.length) none) σ' →
              ∃ Fl', OwnLs K H' as' vs Fl' ∧ NewL H Fl Fl' ∧ (Chg (fun a => ∃ G, G ∈ Fl ∧ a ∈ G) H H') ∧ ∀ G, G ∈ Fl' → ∀ a, a ∈ G → ∃ i, lkM ms i = true ∧ a ∈ Fs' i := by
            intro σ' H' Fs' R' E' L'
            have c2 : Chg (fun a => ∃ G, G ∈ Fl ∧ a ∈ G) H H' := E'.chg.mono fun a _ _ ⟨i, hi⟩ => by
              obtain ⟨G, hG, ha⟩ := getD_of hi
              exact ⟨G, List.mem_of_getElem? hG, ha⟩
            have c3 : Chg (fun _ => True) H H' := E'.chg.mono fun _ _ _ _ => trivial
            obtain ⟨Fl', h1, h2, h3⟩ := coll_own (Fs' := Fs') R' c3 (fun i a h => by
              obtain ⟨xs, z⟩ := R'.mem h
              rw [z]
              simp) 0 ol hok hc (fun i hi h0 => by
                have := L' i (by unfold lkM; rw [h0]; rfl)
                rw [Nat.zero_add, this, List.getElem?_append_left (by rw [List.length_map, ol.len, hlm]; exact hi), List.getElem?_map]) (fun i a hm ha hi => by
                rw [Nat.zero_add] at ha
                rcases E'.new i a ha with z | ⟨z, _⟩
                · exact z
                · unfold lkM at z
                  rw [hm] at z
                  cases z)
            refine ⟨Fl', h1, h2, c2, fun G hG a ha => ?_⟩
            obtain ⟨i, _, q2, q3⟩ := h3 G hG a ha
            exact ⟨i, by unfold lkM; rw [Nat.sub_zero] at q2; rw [q2]; rfl, q3⟩
          cases fl with
          | nx =>
            cases hf
            intro σ' H' Fs' R' E' L'
            obtain ⟨Fl', h1, h2, c2, _⟩ := fin R' E'.r L'
            exact q .non H' Fl' [] h1 c2 h2 .non (by simp) (by simp)
          | rt d =>
            cases hf
            intro v σ' H' Fs' F' R' E' L' o nn m
            obtain ⟨Fl', h1, h2, c2, h3⟩ := fin R' E' L'
            refine q v H' Fl' F' h1 c2 h2 o (fun a ha => ?_) fun G hG a ha hb => ?_
            · rcases nn a ha with z | ⟨i, hi, z⟩
              · exact z
              · exfalso
                have z' : a ∈ Fl.getD i [] := z
                rw [ol.pure_at hok i (fun e => by unfold lkM at hi; rw [e] at hi; cases hi)] at z'
                cases z'
            · obtain ⟨i, hi, q3⟩ := h3 G hG a ha
              exact m i a hi q3 hb
          | bk => cases hf
          | ct => cases hf
      · cases hf
      · cases hf
    · cases hf
end
section
variable [Tb] [Vs] {X : Cx} {k : Nat} {f : Addr} {fd : FuncData} {ps : List Str} {fn : Fn} {x : Str} {p pos : Pos} {e : Expr} {es : List Expr} {g : AL}
theorem so_call (F : FnOk X.prog X.w X.K X.mg X.base CX0 k f fd ps (spF X.K ps.length fn)) (hr : Room k X.A) (hg : Gl X x) (hm : X.mg x = some (.ref f)) (hk : PySem.W.keepIn X.K (.ref f) = true) (hb : Binds X.K fd ps []) (ha : SimA X (e :: es) g)
    (hn : ∀ ds r as, fn ds = .ok r as → ds.length = ps.length) (hdb : (x == ("__debug__" : Str)) = false := by decide) (he : starEach (e :: es) X.env = (false, eval e X.env) :: starEach es X.env := by rfl) (hpl : (backTo pos (starEach es X.env)).any (·.1) = false := by rfl) :
    SimO X (.Call (.Name x p) (e :: es) [] pos) (oCall fn g) := by
  refine pe_imp (pe_call F hr hg hm hk hb .nil pass0 ha hdb he hpl) fun σ H Q z => ?_
  have z' := tO_call (E := E0) z hn
  exact tA_mono (fun vs H h => by rw [List.append_nil]; exact h) z'
end
end Sim
namespace Sim
open PySem PySem.Spec L2
def intsD : List D → Option (List Int)
  | [] => some []
  | .int i :: ds => (intsD ds).map (i :: ·)
  | _ => none
def bools : List D → Option (List Bool)
  | [] => some []
  | .bool i :: ds => (bools ds).map (i :: ·)
  | _ => none
def seqOf : D → Option (List D)
  | .list ds => some ds
  | .tuple ds => some ds
  | .dict [(.none, .list ds)] => some ds
  | _ => none
def pLen : List D → Option D
  | [.str z] => if z.length ≤ 1000000 then some (.int z.length) else none
  | [d] => match seqOf d with
    | some ds => some (.int ds.length)
    | none => none
  | _ => none
def pAbs : List D → Option D
  | [.int i] => some (.int (if i < 0 then -i else i))
  | _ => none
def pInt : List D → Option D
  | [.int i] => some (.int i)
  | [.bool k] => some (.int (if k then 1 else 0))
  | _ => none
def pMax2 : List D → Option D
  | [.int i, .int j] => some (.int (max i j))
  | _ => none
def pMin2 : List D → Option D
  | [.int i, .int j] => some (.int (min i j))
  | _ => none
def intsOf (d : D) : Option (List Int) := match seqOf d with
  | some ds => intsD ds
  | none => none
def pSum : List D → Option D
  | [d] => (intsOf d).map fun ns => .int ns.sum
  | _ => none
def pTuple : List D → Option D
  | [d] => match seqOf d with
    | some ds => if purs ds = true then some (.tuple ds) else none
    | none => none
  | _ => none
def pList : List D → Option D
  | [d] => match seqOf d with
    | some ds => if purs ds = true then some (.list ds) else none
    | none => none
  | _ => none
def pDivmod : List D → Option D
  | [.int i, .int j] => if 0 < j ∧ j < 1000000 then some (.tuple [.int (i / j), .int (i % j)]) else none
  | _ => none
def pAll : List D → Option D
  | [.list ds] => (bools ds).map fun bs => .bool (bs.all id)
  | _ => none
def pAny : List D → Option D
  | [.list ds] => (bools ds).map fun bs => .bool (bs.any id)
  | _ => none
section
variable {K : PySem.W.Frag} {H : Hp}
theorem own_seq {d : D} {v : V} {F : List Addr} {ds : List D} (o : Own K H d v F) (e : seqOf d = some ds) : ∃ a xs G, v = .ref a ∧ (SqL K H a xs ∨ SqT K H a xs) ∧ OwnA K H ds xs G ∧ (purs ds = true → G = [] ∧ (∀ e2, d = .tuple e2 → SqD K H a xs)) ∧ ((∃ e2, d = .tuple e2) ∨ SqL K H a xs) := by
  unfold seqOf at e
  split at e
  · cases e
    cases o with
    | lst h t n => exact ⟨_, _, _, rfl, .inl (SqL.of h), t, fun p => ⟨t.pur p, fun _ z => by cases z⟩, .inr (SqL.of h)⟩
  · cases e
    cases o with
    | tup h t => exact ⟨_, _, _, rfl, .inr h.sq, t, fun p => ⟨t.pur p, fun _ _ => h⟩, .inl ⟨_, rfl⟩⟩
  · cases e
    cases o with
    | frz h t => exact ⟨_, _, _, rfl, .inl h.sq, t, fun p => ⟨rfl, fun _ z => by cases z⟩, .inr h.sq⟩
  · cases e
end
section
variable {prog : Program} {w : World} {A : Around} {E : Value → Shared → Prop} {s : Shared} {t : Addr} {xs : Array (Int × Tok)}
end
section
variable {X : Cx}
end
end Sim
namespace Sim
open PySem PySem.Spec L2
section
variable {K : PySem.W.Frag}
def rLenA (K : PySem.W.Frag) : List V → Hp → VK → Prop := fun xs H Q => (∃ p ys, xs = [V.ref p] ∧ (SqL K H p ys ∨ SqT K H p ys) ∧ Q (.int ys.length) H) ∨ ∃ z, xs = [V.str z] ∧ z.length ≤ sizeLine ∧ Q (.int z.length) H
theorem CallR.or {X : Cx} {f : Value} {r r' : List V → Hp → VK → Prop} (h : CallR X f r) (h' : CallR X f r') : CallR X f (fun xs H Q => r xs H Q ∨ r' xs H Q) := fun pins s σ H xs us Q I rv q =>
  q.elim (h pins s σ H xs us Q I rv) (h' pins s σ H xs us Q I rv)
theorem cr_len {X : Cx} : CallR X (.builtin "len") (rLenA X.K) := CallR.or call_len_seq call_len_str
theorem pr_len : PrimR K (rLenA K) pLen := by
  intro vs ds d H Q h e q
  unfold pLen at e
  split at e
  · obtain ⟨x, F, rfl, o⟩ := h.one
    cases o
    split at e
    · rename_i hz
      cases e
      exact .inr ⟨_, rfl, Nat.le_trans hz big_le, q _ _ (.sc (.int _))⟩
    · cases e
  · obtain ⟨x, F, rfl, o⟩ := h.one
    split at e
    · rename_i es hs
      cases e
      obtain ⟨a, xs, G, rfl, hq, t, _⟩ := own_seq o hs
      refine .inl ⟨_, _, rfl, hq, ?_⟩
      rw [t.len]
      exact q _ _ (.sc (.int _))
    · cases e
  · cases e
theorem pr_abs : PrimR K (fun xs H Q => ∃ i : Int, xs = [V.int i] ∧ Q (.int (if i < 0 then -i else i)) H) pAbs := by
  intro vs ds d H Q h e q
  unfold pAbs at e
  split at e
  · obtain ⟨x, F, rfl, o⟩ := h.one
    cases o; cases e
    exact ⟨_, rfl, q _ _ (.sc (.int _))⟩
  · cases e
theorem pr_int : PrimR K (fun xs H Q => (∃ i, xs = [V.int i] ∧ Q (.int i) H) ∨ ∃ k, xs = [V.bl k] ∧ Q (.int (if k then 1 else 0)) H) pInt := by
  intro vs ds d H Q h e q
  unfold pInt at e
  split at e
  · obtain ⟨x, F, rfl, o⟩ := h.one
    cases o; cases e
    exact .inl ⟨_, rfl, q _ _ (.sc (.int _))⟩
  · obtain ⟨x, F, rfl, o⟩ := h.one
    cases o; cases e
    exact .inr ⟨_, rfl, q _ _ (.sc (.int _))⟩
  · cases e
theorem pr_max2 : PrimR K (fun xs H Q => ∃ i j : Int, xs = [V.int i, .int j] ∧ Q (.int (if j > i then j else i)) H) pMax2 := by
  intro vs ds d H Q h e q
  unfold pMax2 at e
  split at e
  · rename_i i j
    obtain ⟨x, y, F, G, rfl, o, o2⟩ := h.two
    cases o; cases o2; cases e
    refine ⟨_, _, rfl, ?_⟩
    have z : (if j > i then j else i) = max i j := by split <;> omega
    rw [z]
    exact q _ _ (.sc (.int _))
  · cases e
theorem pr_min2 : PrimR K (fun xs H Q => ∃ i j : Int, xs = [V.int i, .int j] ∧ Q (.int (if j < i then j else i)) H) pMin2 := by
  intro vs ds d H Q h e q
  unfold pMin2 at e
  split at e
  · rename_i i j
    obtain ⟨x, y, F, G, rfl, o, o2⟩ := h.two
    cases o; cases o2; cases e
    refine ⟨_, _, rfl, ?_⟩
    have z : (if j < i then j else i) = min i j := by split <;> omega
    rw [z]
    exact q _ _ (.sc (.int _))
  · cases e
theorem pr_tuple : PrimR K (fun xs H Q => ∃ p ys, xs = [V.ref p] ∧ ((SqL K H p ys ∧ rNewT ys H Q) ∨ (SqT K H p ys ∧ Q (.ref p) H))) pTuple := by
  intro vs ds d H Q h e q
  unfold pTuple at e
  split at e
  · obtain ⟨x, F, rfl, o⟩ := h.one
    split at e
    · rename_i es hs
      split at e
      · rename_i hp
        cases e
        obtain ⟨a, xs, G, rfl, hq, t, h1, h2⟩ := own_seq o hs
        obtain ⟨rfl, h3⟩ := h1 hp
        refine ⟨a, xs, rfl, ?_⟩
        rcases h2 with ⟨e2, h2⟩ | h2
        · exact .inr ⟨(h3 e2 h2).sq, q _ _ (.sc (.tup (h3 e2 h2) t))⟩
        · exact .inl ⟨h2, fun p ob hp hn => q _ _ (.tup t hp hn)⟩
      · cases e
    · cases e
  · cases e
theorem pr_list : PrimR K (fun xs H Q => ∃ p ys, xs = [V.ref p] ∧ (SqL K H p ys ∨ SqT K H p ys) ∧ ∀ l, H l = none → Q (.ref l) (upd H l (.lst ys))) pList := by
  intro vs ds d H Q h e q
  unfold pList at e
  split at e
  · obtain ⟨x, F, rfl, o⟩ := h.one
    split at e
    · rename_i es hs
      split at e
      · rename_i hp
        cases e
        obtain ⟨a, xs, G, rfl, hq, t, h1, h2⟩ := own_seq o hs
        obtain ⟨rfl, h1⟩ := h1 hp
        exact ⟨_, _, rfl, hq, fun l hl => q _ _ (.lst t hl)⟩
      · cases e
    · cases e
  · cases e
end
theorem bt_len : bootBuiltins "len" = some (.builtin "len") := by decide +kernel
theorem bt_abs : bootBuiltins "abs" = some (.builtin "abs") := by decide +kernel
theorem bt_max : bootBuiltins "max" = some (.builtin "max") := by decide +kernel
theorem bt_min : bootBuiltins "min" = some (.builtin "min") := by decide +kernel
theorem bt_isinstance : bootBuiltins "isinstance" = some (.builtin "isinstance") := by decide +kernel
theorem bt_int : bootBuiltins "int" = some (.type "int") := by decide +kernel
theorem bt_list : bootBuiltins "list" = some (.type "list") := by decide +kernel
theorem bt_tuple : bootBuiltins "tuple" = some (.type "tuple") := by decide +kernel
inductive Kd where
  | int | bool | str | tup | lst
def kdN : Kd → Str
  | .int => "int"
  | .bool => "bool"
  | .str => "str"
  | .tup => "tuple"
  | .lst => "list"
def kdT : Kd → String
  | .int => "int"
  | .bool => "bool"
  | .str => "str"
  | .tup => "tuple"
  | .lst => "list"
def frdB : List (D × D) → Bool
  | [(.none, .dict _)] => true
  | _ => false
def isK : Kd → D → Bool
  | .int, .int _ => true
  | .int, .bool _ => true
  | .bool, .bool _ => true
  | .str, .str _ => true
  | .tup, .tuple _ => true
  | .lst, .list _ => true
  | .lst, .dict kvs => !frdB kvs
  | _, _ => false
def okD : D → Bool
  | .dict kvs => frzT kvs
  | _ => true
def pIsi (k : Kd) : List D → Option D
  | [d] => if okD d = true then some (.bool (isK k d)) else none
  | _ => none
def tyN : D → String
  | .none => "NoneType"
  | .bool _ => "bool"
  | .int _ => "int"
  | .str _ => "str"
  | .tuple _ => "tuple"
  | .list _ => "list"
  | .dict kvs => if frdB kvs = true then "dict" else "list"
theorem kit_d (k : Kd) (d : D) : kitB (tyN d) (kdT k) = some (isK k d) := by
  cases d with
  | dict kvs =>
    cases hk : frdB kvs <;> cases k <;> simp only [tyN, kdT, isK, hk, if_true, if_false, Bool.false_eq_true, Bool.not_true, Bool.not_false] <;> decide +kernel
  | _ => cases k <;> simp only [tyN, kdT, isK] <;> decide +kernel
theorem own_ty {K : PySem.W.Frag} {H : Hp} {d : D} {v : V} {F : List Addr} (o : Own K H d v F) (ok : okD d = true) : TyX K H v (.type (tyN d)) := by
  cases o with
  | dct _ _ _ => simp [okD, frzT] at ok
  | dcn _ _ _ => simp [okD, frzT] at ok
  | frk _ _ => simp [okD, frzT] at ok
  | frn _ _ _ => simp [okD, frzT] at ok
  | ins _ _ _ _ => simp [okD, frzT] at ok
  | opq _ => simp [okD, frzT] at ok
  | non => exact .base .non
  | bl b => exact .base (.bl b)
  | int b => exact .base (.int b)
  | str b => exact .base (.str b)
  | tup h t =>
    rcases h with ⟨o, h, _⟩ | ⟨o, its, n, h1, h2, _⟩
    · exact .fTuple h
    · exact .kTuple h1 h2
  | frz h t =>
    rcases h with ⟨o, h⟩ | ⟨o, its, n, h1, h2, _⟩
    · exact .base (.frz h)
    · exact .kList h1 h2
  | frd h => exact .fDict h
  | lst h t n => exact .base (.lst h)
def rIsiK (K : PySem.W.Frag) (k : Kd) : List V → Hp → VK → Prop := fun vs H Q => rIsi K (vs ++ [.ty (kdT k)]) H Q
theorem pr_isi {K : PySem.W.Frag} (k : Kd) : PrimR K (rIsiK K k) (pIsi k) := by
  intro vs ds d H Q h e q
  unfold pIsi at e
  split at e
  · obtain ⟨x, F, rfl, o⟩ := h.one
    split at e
    · rename_i ok
      cases e
      exact ⟨x, _, _, _, _, rfl, .ty _, own_ty o ok, kit_ty (kit_d k _), q _ _ (.sc (.bl _))⟩
    · cases e
  · cases e
theorem so_isi [Tb] [Vs] {X : Cx} {e : Expr} {ga : O} {p p2 pos : Pos} (k : Kd) (hg : Gl X "isinstance") (hm : X.mg "isinstance" = none) (hg2 : Gl X (kdN k)) (hm2 : X.mg (kdN k) = none) (ha : SimO X e ga)
    (he : starEach (e :: [.Name (kdN k) p2]) X.env = (false, eval e X.env) :: starEach [.Name (kdN k) p2] X.env := by rfl) (hpl : (backTo pos (starEach [.Name (kdN k) p2] X.env)).any (·.1) = false := by rfl)
    (hs2 : starEach [.Name (kdN k) p2] X.env = (false, eval (.Name (kdN k) p2) X.env) :: starEach [] X.env := by rfl) : SimO X (.Call (.Name "isinstance" p) [e, .Name (kdN k) p2] [] pos) (o1 (pIsi k) ga) := by
  have hb : bootBuiltins (kdN k) = some (.type (kdT k)) := by cases k <;> decide +kernel
  have hn : kdN k ≠ "__name__" := by cases k <;> decide
  have hd : (kdN k == ("__debug__" : Str)) = false := by cases k <;> decide
  refine pe_imp (pe_callB call_isi hg hm bt_isinstance (pa_cons ha (pa_cons (pe_bltn hg2 hm2 hb (v := .ty (kdT k)) rfl hn hd) pa_nil hs2) he) (he := he) (hpl := hpl)) fun σ H Q h => ?_
  have z := tA1 (prim (pr_isi k) h)
  exact z
end Sim
namespace Sim
open PySem PySem.Spec L2
/-- x.m(args): the list that x's slot holds, as it becomes; what is given -/
def oMt (f : List D → List D → Option (List D × D)) (i : Nat) (g : AL) : O := fun s => (oV i s).bind fun _ s => match (s[i]?).join with
  | some (.list _) => (g s).bind fun rs s1 => (match (s1[i]?).join, owns rs s1 with
    | some (.list ds), some as => (match f ds as with
      | some (ds', d) => if pur d = true then .ok (.val d) (s1.set i (some (.list ds'))) else .bad
      | none => .bad)
    | _, _ => .bad)
  | _ => .bad
/-- what a rule of a method asks: the list becomes .., the answer -/
def MtD (K : PySem.W.Frag) (r : V → List V → Hp → VK → Prop) (f : List D → List D → Option (List D × D)) : Prop :=
  ∀ (l : Addr) (vs : List V) (F : List Addr) (ds as : List D) (ws : List V) (G : List Addr) (ds' : List D) (d : D) (H : Hp) (Q : VK),
    H l = some (.lst vs) → OwnA K H ds vs F → l ∉ F → OwnA K H as ws G → (∀ a, a ∈ G → a ∉ l :: F) → f ds as = some (ds', d) → pur d = true →
    (∀ vs' F' v, OwnA K H ds' vs' F' → (∀ a, a ∈ F' → a ∈ F ∨ a ∈ G) → Own K H d v [] → Q v (upd H l (.lst vs'))) → r (.ref l) ws H Q
theorem Ev.step [Tb] {H H1 H' : Hp} {Fs Fs1 Fs' : Fp} (a : Ev H Fs H1 Fs1) (c : Chg (InF Fs1) H1 H') (n : ∀ i x, x ∈ Fs' i → x ∈ Fs i ∨ H x = none) : Ev H Fs H' Fs' := by
  refine ⟨⟨fun x o e cc => c.keep x o (a.chg.keep x o e cc) (cc.imp (fun n => ⟨fun z => ?_, n.2⟩) id), fun x e => a.chg.there x (c.there x e), fun t => c.tab (a.chg.tab t)⟩, n⟩
  obtain ⟨i, hi⟩ := z
  rcases a.new i x hi with q | q
  · exact n.1 ⟨i, q⟩
  · rw [e] at q; cases q
section
variable [Tb] [Vs] {X : Cx} {K : PySem.W.Frag} {σ : St} {H : Hp} {Q : VK}
theorem tO_mt {f : List D → List D → Option (List D × D)} {r : V → List V → Hp → VK → Prop} {i : Nat} {g : AL} (hr : MtD K r f) (z : tO K (oMt f i g) σ H Q) : tBM K "list" r (tSl i) (tA K g) σ H Q := by
  obtain ⟨s, Fs, rf, s', R, e, q⟩ := z
  obtain ⟨r0, s0, e0, e⟩ := bind_inv e
  unfold oV at e0
  split at e0
  · rename_i d0 hd0
    cases e0
    split at e
    · rename_i ds0 hds0
      rw [hd0] at hds0
      cases hds0
      obtain ⟨v0, hv0, o0⟩ := R.has i _ (join_some hd0)
      obtain ⟨l, vs0, F0, rfl, hF0, hl0, t0, n0⟩ := own_list o0
      refine ⟨.ref l, hv0, R.lnk.1, .inl ⟨rfl, _, SqL.of hl0⟩, ?_⟩
      obtain ⟨rs, s1, e1, e⟩ := bind_inv e
      refine ⟨s, Fs, rs, s1, R, e1, fun ws H1 Fs1 Gs R1 E1 k1 n1 => ?_⟩
      split at e
      · rename_i ds as hds has
        split at e
        · rename_i ds' d hf
          split at e
          · rename_i hp
            cases e
            obtain ⟨v1, hv1, o1⟩ := R1.has i _ (join_some hds)
            rw [hv0] at hv1
            cases hv1
            obtain ⟨l', vs, F, e2, hF, hl, t, n⟩ := own_list o1
            cases e2
            obtain ⟨oa, dj⟩ := k1.own R1 has
            have li : ∀ a, a ∈ Gs.flatten → a ∉ l :: F := fun a ha hb => dj i a (by rw [hF]; exact hb) ha
            refine hr l vs F ds as ws Gs.flatten ds' d H1 Q hl t n oa li hf hp fun vs' F' v o' sub ov => ?_
            have n' : l ∉ F' := fun h => by
              rcases sub l h with z | z
              · exact n z
              · exact li l z (List.mem_cons_self ..)
            obtain ⟨Fs2, R2, c2, w2⟩ := R1.wr (Fd := Gs.flatten) (join_some hds) hv0 hl hF o' n' sub (fun j a ha => dj j a ha)
            have ch : Chg (fun a => a = l) H1 (upd H1 l (.lst vs')) := .upd1 (m := .lst _) hl
            refine q v _ Fs2 [] R2 (E1.step c2 fun j a ha => ?_) (.val ⟨ov.chg ch (fun _ z => nomatch z), fun _ _ _ z => nomatch z⟩) (fun _ z => nomatch z)
            rcases w2 j a ha with z | z
            · exact E1.new j a z
            · obtain ⟨G, hG, hb⟩ := List.mem_flatten.mp z
              exact .inr (n1 G hG a hb)
          · cases e
        · cases e
      · cases e
    · cases e
  · cases e0
theorem so_mtF {e0 : Expr} {f : List D → List D → Option (List D × D)} {r : V → List V → Hp → VK → Prop} {i : Nat} {g : AL} {name : Str} {id : String} {apos cpos : Pos} {e : Expr} {es : List Expr} (hr : MtD X.K r f) (slot : Slot "list" name id) (hty : typeOf (.builtin id) = pure (.type "method_descriptor")) (hm : MtR X id r)
    (ho : PE X e0 (tSl i)) (ha : SimA X (e :: es) g)
    (hbase : attributeBase e0 name X.env (eval e0 X.env) = eval e0 X.env := by rfl)
    (hfew : ((backTo cpos (starEach (e :: es) X.env)).all (fun x => !x.1) && (backToKw cpos (keywordEach [] X.env)).all (fun x => x.1.isSome)
      && decide ((e :: es).length + ([] : List Keyword).length + (if ([] : List Keyword).isEmpty then 0 else 1) < 30)) = true := by rfl)
    (hline : (apos.endLine == cpos.line) = true := by rfl) (hs : starEach (e :: es) X.env = (false, eval e X.env) :: starEach es X.env := by rfl) (hplain : (backTo cpos (starEach es X.env)).any (·.1) = false := by rfl) :
    SimO X (.Call (.Attribute e0 name apos) (e :: es) [] cpos) (oMt f i g) :=
  pe_imp (pe_bm PySem.F.plainAttrs_list slot hty hm ho ha hbase hfew hline hs hplain) fun _ _ _ h => tO_mt hr h
theorem so_mt {f : List D → List D → Option (List D × D)} {r : V → List V → Hp → VK → Prop} {i : Nat} {g : AL} {x name : Str} {id : String} {p apos cpos : Pos} {e : Expr} {es : List Expr} (hr : MtD X.K r f) (slot : Slot "list" name id) (hty : typeOf (.builtin id) = pure (.type "method_descriptor")) (hm : MtR X id r)
    (ho : PE X (.Name x p) (tVar i)) (ha : SimA X (e :: es) g)
    (hbase : attributeBase (.Name x p) name X.env (eval (.Name x p) X.env) = eval (.Name x p) X.env := by rfl)
    (hfew : ((backTo cpos (starEach (e :: es) X.env)).all (fun x => !x.1) && (backToKw cpos (keywordEach [] X.env)).all (fun x => x.1.isSome)
      && decide ((e :: es).length + ([] : List Keyword).length + (if ([] : List Keyword).isEmpty then 0 else 1) < 30)) = true := by rfl)
    (hline : (apos.endLine == cpos.line) = true := by rfl) (hs : starEach (e :: es) X.env = (false, eval e X.env) :: starEach es X.env := by rfl) (hplain : (backTo cpos (starEach es X.env)).any (·.1) = false := by rfl) :
    SimO X (.Call (.Attribute (.Name x p) name apos) (e :: es) [] cpos) (oMt f i g) :=
  so_mtF hr slot hty hm (tsl_of ho) ha hbase hfew hline hs hplain
end
def mApp : List D → List D → Option (List D × D)
  | ds, [d] => if ds.length < 1000000 then some (ds ++ [d], .none) else none
  | _, _ => none
def mPopAt : List D → List D → Option (List D × D)
  | ds, [.int i] => if purs ds = true ∧ ds.length ≤ 1000000 then (match ixN ds.length i with
    | none => none
    | some j => (match ds[j]? with
      | none => none
      | some d => some (ds.eraseIdx j, d))) else none
  | _, _ => none
section
variable {K : PySem.W.Frag} {H : Hp}
theorem owna1 {d : D} {vs : List V} {F : List Addr} (h : OwnA K H [d] vs F) : ∃ v, vs = [v] ∧ Own K H d v F := by
  cases h with
  | @cons v _ _ _ F G o t n =>
    cases t
    rw [List.append_nil]
    exact ⟨v, rfl, o⟩
theorem OwnA.er {H : Hp} : ∀ {as : List D} {vs : List V}, OwnA K H as vs [] → ∀ n, OwnA K H (as.eraseIdx n) (vs.eraseIdx n) []
  | [], [], _, _ => .nil
  | _ :: _, _ :: _, h, 0 => h.nil2.2
  | _ :: _, _ :: _, h, n + 1 => .cons0 h.nil2.1 (OwnA.er h.nil2.2 n)
  | [], _ :: _, h, _ => nomatch h
  | _ :: _, [], h, _ => nomatch h
theorem md_app : MtD K rAppend mApp := by
  intro l vs F ds as ws G ds' d H Q hl t n oa li hf hp q
  unfold mApp at hf
  split at hf
  · rename_i ds y
    split at hf
    · rename_i hz
      cases hf
      obtain ⟨v, rfl, o⟩ := owna1 oa
      obtain ⟨F', t', sub⟩ := OwnA.snoc o t fun a ha hb => li a hb (List.mem_cons_of_mem _ ha)
      refine ⟨l, _, v, rfl, rfl, hl, ?_, q _ F' .non t' sub .non⟩
      rw [t.len]
      exact Nat.lt_of_lt_of_le hz big_le
    · cases hf
  · cases hf
theorem md_popAt : MtD K rPopAt mPopAt := by
  intro l vs F ds as ws G ds' d H Q hl t n oa li hf hp q
  unfold mPopAt at hf
  split at hf
  · rename_i ds i
    split at hf
    · rename_i hz
      split at hf
      · cases hf
      · rename_i j hj
        split at hf
        · cases hf
        · rename_i y hy
          cases hf
          obtain ⟨v, rfl, o⟩ := owna1 oa
          cases o
          have e1 := t.pur hz.1
          subst e1
          obtain ⟨v, G', hv, o', sb⟩ := t.get j _ hy
          have e2 := o'.pur hp
          subst e2
          obtain ⟨h1, h2, h3, h4⟩ := L2.ixN_seq hj
          refine ⟨l, vs, i, j, v, rfl, rfl, hl, by omega, by omega, by rw [t.len]; exact h1, hv, q _ [] v (t.er j) (fun _ z => nomatch z) o'⟩
    · cases hf
  · cases hf
end
end Sim
namespace Sim
open PySem PySem.Spec L2
def truD : D → Option Bool
  | .none => some false
  | .bool b => some b
  | .int i => some (i != 0)
  | .str z => if z.length ≤ 1000000 then some ((z.length : Int) != 0) else none
  | .list ds => some (!ds.isEmpty)
  | .tuple ds => some (!ds.isEmpty)
  | .dict [(.none, .list ds)] => some (!ds.isEmpty)
  | .dict _ => none
def tstA (g : O) : T := fun s => (g s).bind fun r s1 => match rd r s1 with
  | some d => (match truD d with
    | some b => .ok b s1
    | none => .bad)
  | none => .bad
theorem OwnA.emp {K : PySem.W.Frag} {H : Hp} {ds : List D} {vs : List V} {F : List Addr} (t : OwnA K H ds vs F) : ds.isEmpty = vs.isEmpty := by
  cases t <;> rfl
section
variable [Tb] [Vs] {X : Cx} {K : PySem.W.Frag} {H : Hp} {σ : St} {Q : VK} {a : Expr} {ga : O}
theorem tT_tstA {g : O} {Q : Bool → Hp → Prop} (h : tT K (tstA g) σ H Q) : tO K g σ H fun x H1 => ∃ k, TruV K x H1 k ∧ Q k H1 := by
  obtain ⟨s, Fs, b, s', R, e, q⟩ := h
  obtain ⟨r, s1, e1, e⟩ := bind_inv e
  refine ⟨s, Fs, r, s1, R, e1, fun v H1 Fs1 F R1 E1 k1 n1 => ?_⟩
  split at e
  · rename_i d hb
    split at e
    · rename_i b' ht
      cases e
      obtain ⟨F', o⟩ := k1.dp R1 hb
      refine ⟨b, ?_, q H1 Fs1 R1 E1⟩
      cases o with
      | frd _ => simp [truD] at ht
      | dct _ _ _ => simp [truD] at ht
      | dcn _ _ _ => simp [truD] at ht
      | frk _ _ => simp [truD] at ht
      | frn _ _ _ => simp [truD] at ht
      | ins _ _ _ _ => simp [truD] at ht
      | opq _ => simp [truD] at ht
      | non => cases ht; rfl
      | bl b => cases ht; rfl
      | int i => cases ht; rfl
      | str z =>
        simp only [truD] at ht
        split at ht
        · rename_i hz
          cases ht
          exact ⟨Nat.le_trans hz big_le, rfl⟩
        · cases ht
      | tup h t =>
        cases ht
        exact .inr (.inl ⟨_, h.sq, by rw [t.emp]⟩)
      | frz h t =>
        cases ht
        exact .inl ⟨_, h.sq, by rw [t.emp]⟩
      | lst h t n =>
        cases ht
        exact .inl ⟨_, SqL.of h, by rw [t.emp]⟩
    · cases e
  · cases e
theorem st_any (ha : SimO X a ga) (he : ∀ whole, isTrue a X.env whole = (do let v ← whole; standAt a.pos; holding [v] (truthy v)) := by intro _; rfl) : SimT X a (tstA ga) :=
  pt_imp (pt_truth ha he) fun _ _ _ h => tT_tstA h
end
section
variable [Tb] [Vs] {X : Cx} {lk : Nat → Bool}
end
/-- more slots held -/
def lkp (is : List Nat) (lk : Nat → Bool) : Nat → Bool := fun j => is.contains j || lk j
theorem units65 {k : Nat} {A : Around} (r : Room k A) : A.units + 65 < cLine := by have := r.un; omega
theorem spF_law {f : Fn} (hf : ∀ ns : List Int, ns.length ≤ 63 → ∃ as, f [.dict [(.none, .list (ns.map .int))]] = .ok (.bool true) as) (K : PySem.W.Frag) (H : Hp) (a : Addr) (ns : List Int) (h1 : ns.length ≤ 63) (h2 : Only H) (h3 : SqL K H a (ns.map V.int)) :
    spF K 1 f [.ref a] H (fun v _ => v = .bl true) fun _ _ _ => False := by
  obtain ⟨as, e⟩ := hf ns h1
  have hq : SqF K H a (ns.map V.int) := by
    rcases h3 with (h | ⟨o, h⟩) | h
    · rcases h2 a with z | ⟨o, xs, z⟩ <;> rw [h] at z <;> cases z
    · exact .inl ⟨o, h⟩
    · exact .inr h
  have ho : ∀ ns : List Int, OwnA K H (ns.map .int) (ns.map V.int) [] := fun ns => by
    induction ns with
    | nil => exact .nil
    | cons n ns ih => exact OwnA.cons0 (.int n) ih
  refine ⟨_, [[]], _, as, e, rfl, (fun _ h => nomatch h), .cons (.frz hq (ho ns)) (by simp) .nil, fun v H' Fl' F h c n o _ _ => ?_⟩
  cases o
  rfl
end Sim
namespace Sim
open PySem PySem.Spec L2
@[simp] theorem ev_ok {α β : Type} (a : α) (s : Sg) (k : α → Sg → Res β) : (Res.ok a s).bind k = k a s := rfl
@[simp] theorem ev_exc {α β : Type} (c : Str) (v : D) (s : Sg) (k : α → Sg → Res β) : (Res.exc c v s).bind k = .exc c v s := rfl
@[simp] theorem ev_bad {α β : Type} (k : α → Sg → Res β) : (Res.bad : Res α).bind k = .bad := rfl
@[simp] theorem rd_val (d : D) (s : Sg) : rd (.val d) s = some d := rfl
@[simp] theorem rd_slot (i : Nat) (s : Sg) : rd (.slot i) s = (s[i]?).join := rfl
def rdsK (a : Option D) (b : Option (List D)) : Option (List D) := match a with
  | none => none
  | some d => match b with
    | none => none
    | some ds => some (d :: ds)
@[simp] theorem rds_nil (s : Sg) : rds [] s = some [] := rfl
@[simp] theorem rds_cons (r : Rf) (rs : List Rf) (s : Sg) : rds (r :: rs) s = rdsK (rd r s) (rds rs s) := rfl
@[simp] theorem rdsK_some (d : D) (ds : List D) : rdsK (some d) (some ds) = some (d :: ds) := rfl
def ownK : Option D → Option D
  | none => none
  | some d => if pur d = true then some d else none
@[simp] theorem own_val (d : D) (s : Sg) : own (.val d) s = some d := rfl
@[simp] theorem own_slot (i : Nat) (s : Sg) : own (.slot i) s = ownK (s[i]?).join := rfl
@[simp] theorem ownK_some (d : D) : ownK (some d) = if pur d = true then some d else none := rfl
@[simp] theorem owns_nil (s : Sg) : owns [] s = some [] := rfl
@[simp] theorem owns_cons (r : Rf) (rs : List Rf) (s : Sg) : owns (r :: rs) s = rdsK (own r s) (owns rs s) := rfl
@[simp] theorem pur_non : pur .none = true := by rfl
@[simp] theorem pur_bool (b : Bool) : pur (.bool b) = true := by rfl
@[simp] theorem pur_int (b : Int) : pur (.int b) = true := by rfl
@[simp] theorem pur_str (b : Str) : pur (.str b) = true := by rfl
@[simp] theorem pur_tuple (b : List D) : pur (.tuple b) = purs b := by simp [pur]
@[simp] theorem pur_list (b : List D) : pur (.list b) = false := by simp [pur]
@[simp] theorem pur_frz (b : List D) : pur (.dict [(.none, .list b)]) = true := by simp [pur, frzT]
@[simp] theorem purs_nil : purs [] = true := by rfl
@[simp] theorem purs_cons (d : D) (b : List D) : purs (d :: b) = (pur d && purs b) := by simp [purs]
@[simp] theorem purs_ints (l : List Int) : purs (l.map .int) = true := by induction l <;> simp_all
@[simp] theorem purs_map {α : Type} (f : α → Int) (l : List α) : purs (l.map fun a => .int (f a)) = true := by induction l <;> simp_all
@[simp] theorem purs_mapB {α : Type} (f : α → Bool) (l : List α) : purs (l.map fun a => .bool (f a)) = true := by induction l <;> simp_all
@[simp] theorem purs_append (a b : List D) : purs (a ++ b) = (purs a && purs b) := purs_app
def oVK (i : Nat) (s : Sg) : Option D → Res Rf
  | some _ => .ok (.slot i) s
  | none => .bad
@[simp] theorem ev_oV (i : Nat) (s : Sg) : oV i s = oVK i s (s[i]?).join := by
  unfold oV oVK; rfl
@[simp] theorem ev_oVK (i : Nat) (s : Sg) (d : D) : oVK i s (some d) = .ok (.slot i) s := rfl
@[simp] theorem ev_oC (d : D) (s : Sg) : oC d s = .ok (.val d) s := rfl
@[simp] theorem ev_aNil (s : Sg) : aNil s = .ok [] s := rfl
def consK2 (r : Rf) (rs : List Rf) (s : Sg) : Res (List Rf) := .ok (r :: rs) s
def consK (h : AL) (r : Rf) (s : Sg) : Res (List Rf) := (h s).bind (consK2 r)
@[simp] theorem ev_aCons (g : O) (h : AL) (s : Sg) : aCons g h s = (g s).bind (consK h) := rfl
@[simp] theorem ev_consK (h : AL) (r : Rf) (s : Sg) : consK h r s = (h s).bind (consK2 r) := rfl
@[simp] theorem ev_consK2 (r : Rf) (rs : List Rf) (s : Sg) : consK2 r rs s = .ok (r :: rs) s := rfl
def primK3 (s : Sg) : Option D → Res Rf
  | none => .bad
  | some d => .ok (.val d) s
def primK2 (f : List D → Option D) (s : Sg) : Option (List D) → Res Rf
  | none => .bad
  | some ds => primK3 s (f ds)
def primK (f : List D → Option D) (rs : List Rf) (s : Sg) : Res Rf := primK2 f s (rds rs s)
@[simp] theorem ev_prim (f : List D → Option D) (g : AL) (s : Sg) : oPrim f g s = (g s).bind (primK f) := by
  unfold oPrim; refine congrArg (Res.bind _) ?_; funext rs s1; unfold primK primK2; cases rds rs s1 <;> rfl
@[simp] theorem ev_primK (f : List D → Option D) (rs : List Rf) (s : Sg) : primK f rs s = primK2 f s (rds rs s) := rfl
@[simp] theorem ev_primK2 (f : List D → Option D) (ds : List D) (s : Sg) : primK2 f s (some ds) = primK3 s (f ds) := rfl
@[simp] theorem ev_primK3 (d : D) (s : Sg) : primK3 s (some d) = .ok (.val d) s := rfl
@[simp] theorem ev_o1 (f : List D → Option D) (a : O) (s : Sg) : o1 f a s = ((a s).bind (consK aNil)).bind (primK f) := by unfold o1; rw [ev_prim]; rfl
@[simp] theorem ev_o2 (f : List D → Option D) (a b : O) (s : Sg) : o2 f a b s = ((a s).bind (consK (aCons b aNil))).bind (primK f) := by unfold o2; rw [ev_prim]; rfl
def tstK2 (s : Sg) : Option D → Res Bool
  | some (.bool b) => .ok b s
  | _ => .bad
def tstK (r : Rf) (s : Sg) : Res Bool := tstK2 s (rd r s)
@[simp] theorem ev_tst (g : O) (s : Sg) : tst g s = (g s).bind tstK := rfl
@[simp] theorem ev_tstK (r : Rf) (s : Sg) : tstK r s = tstK2 s (rd r s) := rfl
@[simp] theorem ev_tstK2 (s : Sg) (b : Bool) : tstK2 s (some (.bool b)) = .ok b s := rfl
def tstAK3 (s : Sg) : Option Bool → Res Bool
  | some b => .ok b s
  | none => .bad
def tstAK2 (s : Sg) : Option D → Res Bool
  | some d => tstAK3 s (truD d)
  | none => .bad
def tstAK (r : Rf) (s : Sg) : Res Bool := tstAK2 s (rd r s)
@[simp] theorem ev_tstA (g : O) (s : Sg) : tstA g s = (g s).bind tstAK := by
  unfold tstA; refine congrArg (Res.bind _) ?_; funext r s1; unfold tstAK tstAK2; cases rd r s1 with
  | none => rfl
  | some d => cases h : truD d <;> simp [h, tstAK3]
@[simp] theorem ev_tstAK (r : Rf) (s : Sg) : tstAK r s = tstAK2 s (rd r s) := rfl
@[simp] theorem ev_tstAK2 (s : Sg) (d : D) : tstAK2 s (some d) = tstAK3 s (truD d) := rfl
@[simp] theorem ev_tstAK3 (s : Sg) (b : Bool) : tstAK3 s (some b) = .ok b s := rfl
@[simp] theorem tru_bool (b : Bool) : truD (.bool b) = some b := rfl
@[simp] theorem tru_int (b : Int) : truD (.int b) = some (b != 0) := rfl
@[simp] theorem tru_list (b : List D) : truD (.list b) = some (!b.isEmpty) := rfl
@[simp] theorem tru_tuple (b : List D) : truD (.tuple b) = some (!b.isEmpty) := rfl
def andK2 (h : O) (s : Sg) : Option D → Res Rf
  | some (.bool true) => h s
  | some (.bool false) => .ok (.val (.bool false)) s
  | _ => .bad
def andK (h : O) (r : Rf) (s : Sg) : Res Rf := andK2 h s (rd r s)
@[simp] theorem ev_oAnd (g h : O) (s : Sg) : oAnd g h s = (g s).bind (andK h) := rfl
@[simp] theorem ev_andK (h : O) (r : Rf) (s : Sg) : andK h r s = andK2 h s (rd r s) := rfl
@[simp] theorem ev_andK2 (h : O) (s : Sg) (b : Bool) : andK2 h s (some (.bool b)) = if b = true then h s else .ok (.val (.bool false)) s := by cases b <;> rfl
def orK2 (h : O) (s : Sg) : Option D → Res Rf
  | some (.bool true) => .ok (.val (.bool true)) s
  | some (.bool false) => h s
  | _ => .bad
def orK (h : O) (r : Rf) (s : Sg) : Res Rf := orK2 h s (rd r s)
@[simp] theorem ev_oOr (g h : O) (s : Sg) : oOr g h s = (g s).bind (orK h) := rfl
@[simp] theorem ev_orK (h : O) (r : Rf) (s : Sg) : orK h r s = orK2 h s (rd r s) := rfl
@[simp] theorem ev_orK2 (h : O) (s : Sg) (b : Bool) : orK2 h s (some (.bool b)) = if b = true then .ok (.val (.bool true)) s else h s := by cases b <;> rfl
def notK2 (s : Sg) : Option D → Res Rf
  | some (.bool b) => .ok (.val (.bool (!b))) s
  | _ => .bad
def notK (r : Rf) (s : Sg) : Res Rf := notK2 s (rd r s)
@[simp] theorem ev_oNot (g : O) (s : Sg) : oNot g s = (g s).bind notK := rfl
@[simp] theorem ev_notK (r : Rf) (s : Sg) : notK r s = notK2 s (rd r s) := rfl
@[simp] theorem ev_notK2 (s : Sg) (b : Bool) : notK2 s (some (.bool b)) = .ok (.val (.bool (!b))) s := rfl
def tAndK (u : T) (b : Bool) (s : Sg) : Res Bool := if b = true then u s else .ok false s
@[simp] theorem ev_tAnd (t u : T) (s : Sg) : tAnd t u s = (t s).bind (tAndK u) := rfl
@[simp] theorem ev_tAndK (u : T) (b : Bool) (s : Sg) : tAndK u b s = if b = true then u s else .ok false s := rfl
def tOrK (u : T) (b : Bool) (s : Sg) : Res Bool := if b = true then .ok true s else u s
@[simp] theorem ev_tOr (t u : T) (s : Sg) : tOr t u s = (t s).bind (tOrK u) := rfl
@[simp] theorem ev_tOrK (u : T) (b : Bool) (s : Sg) : tOrK u b s = if b = true then .ok true s else u s := rfl
def tNotK (b : Bool) (s : Sg) : Res Bool := .ok (!b) s
@[simp] theorem ev_tNot (t : T) (s : Sg) : tNot t s = (t s).bind tNotK := rfl
@[simp] theorem ev_tNotK (b : Bool) (s : Sg) : tNotK b s = .ok (!b) s := rfl
def oIfK (a b : O) (k : Bool) (s : Sg) : Res Rf := if k = true then a s else b s
@[simp] theorem ev_oIf (c : T) (a b : O) (s : Sg) : oIf c a b s = (c s).bind (oIfK a b) := rfl
@[simp] theorem ev_oIfK (a b : O) (k : Bool) (s : Sg) : oIfK a b k s = if k = true then a s else b s := rfl
def chK4 (s : Sg) : Option D → Res Rf
  | none => .bad
  | some d => .ok (.val d) s
def chK3 (f' : List D → Option D) (s : Sg) : Option (List D) → Res Rf
  | none => .bad
  | some es => chK4 s (f' es)
def chK2c (f' : List D → Option D) (rb rc : Rf) (s : Sg) : Res Rf := chK3 f' s (rds [rb, rc] s)
def chK2b (f' : List D → Option D) (c : O) (rb : Rf) (s : Sg) : Option D → Res Rf
  | some (.bool true) => (c s).bind (chK2c f' rb)
  | some (.bool false) => .ok (.val (.bool false)) s
  | _ => .bad
def chK2a (f f' : List D → Option D) (c : O) (rb : Rf) (s : Sg) : Option (List D) → Res Rf
  | none => .bad
  | some ds => chK2b f' c rb s (f ds)
def chK1 (f f' : List D → Option D) (c : O) (ra rb : Rf) (s : Sg) : Res Rf := chK2a f f' c rb s (rds [ra, rb] s)
def chK0 (f f' : List D → Option D) (b c : O) (ra : Rf) (s : Sg) : Res Rf := (b s).bind (chK1 f f' c ra)
@[simp] theorem ev_chain (f f' : List D → Option D) (a b c : O) (s : Sg) : oChain f f' a b c s = (a s).bind (chK0 f f' b c) := by
  unfold oChain; refine congrArg (Res.bind _) ?_; funext ra s1; unfold chK0; refine congrArg (Res.bind _) ?_; funext rb s2; unfold chK1 chK2a
  cases rds [ra, rb] s2 with
  | none => rfl
  | some ds =>
    show _ = chK2b f' c rb s2 (f ds)
    unfold chK2b
    cases hf : f ds with
    | none => simp [hf]
    | some d => cases d with
      | bool b => cases b with
        | false => simp [hf]
        | true =>
          simp only [hf]
          refine congrArg (Res.bind _) ?_; funext rc s3; unfold chK2c chK3
          cases rds [rb, rc] s3 with
          | none => rfl
          | some es => cases hg : f' es <;> simp [hg, chK4]
      | _ => simp [hf]
@[simp] theorem ev_chK0 (f f' : List D → Option D) (b c : O) (ra : Rf) (s : Sg) : chK0 f f' b c ra s = (b s).bind (chK1 f f' c ra) := rfl
@[simp] theorem ev_chK1 (f f' : List D → Option D) (c : O) (ra rb : Rf) (s : Sg) : chK1 f f' c ra rb s = chK2a f f' c rb s (rds [ra, rb] s) := rfl
@[simp] theorem ev_chK2a (f f' : List D → Option D) (c : O) (rb : Rf) (s : Sg) (ds : List D) : chK2a f f' c rb s (some ds) = chK2b f' c rb s (f ds) := rfl
@[simp] theorem ev_chK2b (f' : List D → Option D) (c : O) (rb : Rf) (s : Sg) (b : Bool) : chK2b f' c rb s (some (.bool b)) = if b = true then (c s).bind (chK2c f' rb) else .ok (.val (.bool false)) s := by cases b <;> rfl
@[simp] theorem ev_chK2c (f' : List D → Option D) (rb rc : Rf) (s : Sg) : chK2c f' rb rc s = chK3 f' s (rds [rb, rc] s) := rfl
@[simp] theorem ev_chK3 (f' : List D → Option D) (s : Sg) (ds : List D) : chK3 f' s (some ds) = chK4 s (f' ds) := rfl
@[simp] theorem ev_chK4 (s : Sg) (d : D) : chK4 s (some d) = .ok (.val d) s := rfl
def tupK2 (s : Sg) : Option (List D) → Res Rf
  | none => .bad
  | some ds => if ds.length ≤ 1000000 then .ok (.val (.tuple ds)) s else .bad
def tupK (rs : List Rf) (s : Sg) : Res Rf := tupK2 s (owns rs s)
@[simp] theorem ev_oTup (g : AL) (s : Sg) : oTup g s = (g s).bind tupK := rfl
@[simp] theorem ev_tupK (rs : List Rf) (s : Sg) : tupK rs s = tupK2 s (owns rs s) := rfl
@[simp] theorem ev_tupK2 (s : Sg) (ds : List D) : tupK2 s (some ds) = if ds.length ≤ 1000000 then .ok (.val (.tuple ds)) s else .bad := rfl
def lstK2 (s : Sg) : Option (List D) → Res Rf
  | none => .bad
  | some ds => if ds.length ≤ 1000000 then .ok (.val (.list ds)) s else .bad
def lstK (rs : List Rf) (s : Sg) : Res Rf := lstK2 s (owns rs s)
@[simp] theorem ev_oLst (g : AL) (s : Sg) : oLst g s = (g s).bind lstK := rfl
@[simp] theorem ev_lstK (rs : List Rf) (s : Sg) : lstK rs s = lstK2 s (owns rs s) := rfl
@[simp] theorem ev_lstK2 (s : Sg) (ds : List D) : lstK2 s (some ds) = if ds.length ≤ 1000000 then .ok (.val (.list ds)) s else .bad := rfl
def prtK2 (s : Sg) : Option D → Res (Option Int)
  | some (.int i) => .ok (some i) s
  | _ => .bad
def prtK (r : Rf) (s : Sg) : Res (Option Int) := prtK2 s (rd r s)
@[simp] theorem ev_prt_none (s : Sg) : prt none s = .ok none s := rfl
@[simp] theorem ev_prt_some (g : O) (s : Sg) : prt (some g) s = (g s).bind prtK := rfl
@[simp] theorem ev_prtK (r : Rf) (s : Sg) : prtK r s = prtK2 s (rd r s) := rfl
@[simp] theorem ev_prtK2 (s : Sg) (i : Int) : prtK2 s (some (.int i)) = .ok (some i) s := rfl
def slK5 (s : Sg) : Option D → Res Rf
  | none => .bad
  | some d => .ok (.val d) s
def slK4 (l u : Option Int) (s : Sg) : Option D → Res Rf
  | none => .bad
  | some d => slK5 s (slD d l u)
def slK3 (r : Rf) (l u : Option Int) (s : Sg) : Res Rf := slK4 l u s (rd r s)
def slK2 (hi : Option O) (r : Rf) (l : Option Int) (s : Sg) : Res Rf := (prt hi s).bind (slK3 r l)
def slK1 (lo hi : Option O) (r : Rf) (s : Sg) : Res Rf := (prt lo s).bind (slK2 hi r)
@[simp] theorem ev_oSl (g : O) (lo hi : Option O) (s : Sg) : oSl g lo hi s = (g s).bind (slK1 lo hi) := by
  unfold oSl; refine congrArg (Res.bind _) ?_; funext r s1; unfold slK1; refine congrArg (Res.bind _) ?_; funext l s2; unfold slK2; refine congrArg (Res.bind _) ?_; funext u s3; unfold slK3 slK4
  cases rd r s3 with
  | none => rfl
  | some d => cases h : slD d l u <;> simp [h, slK5]
@[simp] theorem ev_slK1 (lo hi : Option O) (r : Rf) (s : Sg) : slK1 lo hi r s = (prt lo s).bind (slK2 hi r) := rfl
@[simp] theorem ev_slK2 (hi : Option O) (r : Rf) (l : Option Int) (s : Sg) : slK2 hi r l s = (prt hi s).bind (slK3 r l) := rfl
@[simp] theorem ev_slK3 (r : Rf) (l u : Option Int) (s : Sg) : slK3 r l u s = slK4 l u s (rd r s) := rfl
@[simp] theorem ev_slK4 (d : D) (l u : Option Int) (s : Sg) : slK4 l u s (some d) = slK5 s (slD d l u) := rfl
@[simp] theorem ev_slK5 (d : D) (s : Sg) : slK5 s (some d) = .ok (.val d) s := rfl
def callK3 (rs : List Rf) (ds : List D) (s : Sg) : FRes → Res Rf
  | .ok r as => .ok (.val r) (unlockS (lkz rs ds as) (lockS (lks rs ds) s))
  | .exc c v => .exc c v s
  | .bad => .bad
def callK2 (f : Fn) (rs : List Rf) (s : Sg) : Option (List D) → Res Rf
  | none => .bad
  | some ds => if nodupB ((lks rs ds).map (·.1)) = true then callK3 rs ds s (f ds) else .bad
def callK (f : Fn) (rs : List Rf) (s : Sg) : Res Rf := callK2 f rs s (rds rs s)
@[simp] theorem ev_oCall (f : Fn) (g : AL) (s : Sg) : oCall f g s = (g s).bind (callK f) := by
  unfold oCall; refine congrArg (Res.bind _) ?_; funext rs s1; unfold callK callK2
  cases rds rs s1 with
  | none => rfl
  | some ds =>
    simp only
    split
    · cases h : f ds <;> simp [h, callK3]
    · rfl
@[simp] theorem ev_callK (f : Fn) (rs : List Rf) (s : Sg) : callK f rs s = callK2 f rs s (rds rs s) := rfl
@[simp] theorem ev_callK2 (f : Fn) (rs : List Rf) (s : Sg) (ds : List D) : callK2 f rs s (some ds) = if nodupB ((lks rs ds).map (·.1)) = true then callK3 rs ds s (f ds) else .bad := rfl
@[simp] theorem ev_callK3 (rs : List Rf) (ds : List D) (s : Sg) (r : D) (as : List D) : callK3 rs ds s (.ok r as) = .ok (.val r) (unlockS (lkz rs ds as) (lockS (lks rs ds) s)) := rfl
@[simp] theorem lks_nil : lks [] [] = [] := rfl
@[simp] theorem lks_slot (i : Nat) (rs : List Rf) (d : D) (ds : List D) : lks (.slot i :: rs) (d :: ds) = if pur d = true then lks rs ds else (i, d) :: lks rs ds := rfl
@[simp] theorem lks_val (x : D) (rs : List Rf) (d : D) (ds : List D) : lks (.val x :: rs) (d :: ds) = lks rs ds := rfl
@[simp] theorem lkz_nil : lkz [] [] [] = [] := rfl
@[simp] theorem lkz_slot (i : Nat) (rs : List Rf) (d : D) (ds : List D) (a : D) (as : List D) : lkz (.slot i :: rs) (d :: ds) (a :: as) = if pur d = true then lkz rs ds as else (i, a) :: lkz rs ds as := rfl
@[simp] theorem lkz_val (x : D) (rs : List Rf) (d : D) (ds : List D) (a : D) (as : List D) : lkz (.val x :: rs) (d :: ds) (a :: as) = lkz rs ds as := rfl
@[simp] theorem lockS_nil (s : Sg) : lockS [] s = s := rfl
@[simp] theorem lockS_cons (p : Nat × D) (l : List (Nat × D)) (s : Sg) : lockS (p :: l) s = lockS l (s.set p.1 none) := rfl
@[simp] theorem unlockS_nil (s : Sg) : unlockS [] s = s := rfl
@[simp] theorem unlockS_cons (p : Nat × D) (l : List (Nat × D)) (s : Sg) : unlockS (p :: l) s = unlockS l (s.set p.1 (some p.2)) := rfl
@[simp] theorem nodupB_nil : nodupB [] = true := rfl
@[simp] theorem ev_nodupB (x : Nat) (l : List Nat) : nodupB (x :: l) = (!l.contains x && nodupB l) := rfl
@[simp] theorem clrS_nil (s : Sg) : clrS [] s = s := rfl
@[simp] theorem clrS_cons (v : Nat) (vs : List Nat) (s : Sg) : clrS (v :: vs) s = (clrS vs s).set v none := rfl
def ownSlK (v : Nat) (l : List (Nat × D)) : Option D → List (Nat × D)
  | some d => (v, d) :: l
  | none => l
@[simp] theorem ownSl_nil (s : Sg) : ownSl [] s = [] := rfl
@[simp] theorem ownSl_cons (v : Nat) (vs : List Nat) (s : Sg) : ownSl (v :: vs) s = ownSlK v (ownSl vs s) (s[v]?).join := by
  unfold ownSlK; rw [ownSl] <;> try (cases (s[v]?).join <;> rfl)
@[simp] theorem ownSlK_some (v : Nat) (l : List (Nat × D)) (d : D) : ownSlK v l (some d) = (v, d) :: l := rfl
@[simp] theorem ownSlK_none (v : Nat) (l : List (Nat × D)) : ownSlK v l none = l := rfl
def mtK4 (i : Nat) (s : Sg) : Option (List D × D) → Res Rf
  | some (ds', d) => if pur d = true then .ok (.val d) (s.set i (some (.list ds'))) else .bad
  | none => .bad
def mtK3 (f : List D → List D → Option (List D × D)) (i : Nat) (s : Sg) : Option D → Option (List D) → Res Rf
  | some (.list ds), some as => mtK4 i s (f ds as)
  | _, _ => .bad
def mtK2 (f : List D → List D → Option (List D × D)) (i : Nat) (rs : List Rf) (s : Sg) : Res Rf := mtK3 f i s (s[i]?).join (owns rs s)
def mtK1 (f : List D → List D → Option (List D × D)) (i : Nat) (g : AL) (s : Sg) : Option D → Res Rf
  | some (.list _) => (g s).bind (mtK2 f i)
  | _ => .bad
def mtK (f : List D → List D → Option (List D × D)) (i : Nat) (g : AL) (_ : Rf) (s : Sg) : Res Rf := mtK1 f i g s (s[i]?).join
@[simp] theorem ev_oMt (f : List D → List D → Option (List D × D)) (i : Nat) (g : AL) (s : Sg) : oMt f i g s = (oV i s).bind (mtK f i g) := by
  unfold oMt; refine congrArg (Res.bind _) ?_; funext r s1; unfold mtK
  cases h : (s1[i]?).join with
  | none => rfl
  | some d => cases d with
    | list ds =>
      refine congrArg (Res.bind (g s1)) ?_
      funext rs s2; unfold mtK2
      cases h1 : (s2[i]?).join with
      | none => rfl
      | some d2 => cases d2 with
        | list ds2 => cases h2 : owns rs s2 with
          | none => rfl
          | some as => cases hf : f ds2 as <;> simp [hf, mtK3, mtK4]
        | _ => rfl
    | _ => rfl
@[simp] theorem ev_mtK (f : List D → List D → Option (List D × D)) (i : Nat) (g : AL) (r : Rf) (s : Sg) : mtK f i g r s = mtK1 f i g s (s[i]?).join := rfl
@[simp] theorem ev_mtK1 (f : List D → List D → Option (List D × D)) (i : Nat) (g : AL) (ds : List D) (s : Sg) : mtK1 f i g s (some (.list ds)) = (g s).bind (mtK2 f i) := rfl
@[simp] theorem ev_mtK2 (f : List D → List D → Option (List D × D)) (i : Nat) (rs : List Rf) (s : Sg) : mtK2 f i rs s = mtK3 f i s (s[i]?).join (owns rs s) := rfl
@[simp] theorem ev_mtK3 (f : List D → List D → Option (List D × D)) (i : Nat) (s : Sg) (ds as : List D) : mtK3 f i s (some (.list ds)) (some as) = mtK4 i s (f ds as) := rfl
@[simp] theorem ev_mtK4 (i : Nat) (s : Sg) (ds : List D) (d : D) : mtK4 i s (some (ds, d)) = if pur d = true then .ok (.val d) (s.set i (some (.list ds))) else .bad := rfl
@[simp] theorem ev_sSkip (s : Sg) : sSkip s = .ok .nx s := rfl
@[simp] theorem ev_sBreak (s : Sg) : sBreak s = .ok .bk s := rfl
@[simp] theorem ev_sCont (s : Sg) : sCont s = .ok .ct s := rfl
@[simp] theorem ev_sRetN (s : Sg) : sRetN s = .ok (.rt .none) s := rfl
def seqK (h : S) (fl : Fl) (s : Sg) : Res Fl := match fl with
  | .nx => h s
  | fl => .ok fl s
@[simp] theorem ev_sSeq (g h : S) (s : Sg) : sSeq g h s = (g s).bind (seqK h) := rfl
@[simp] theorem ev_seqK_nx (h : S) (s : Sg) : seqK h .nx s = h s := rfl
@[simp] theorem ev_seqK_rt (h : S) (d : D) (s : Sg) : seqK h (.rt d) s = .ok (.rt d) s := rfl
@[simp] theorem ev_seqK_bk (h : S) (s : Sg) : seqK h .bk s = .ok .bk s := rfl
@[simp] theorem ev_seqK_ct (h : S) (s : Sg) : seqK h .ct s = .ok .ct s := rfl
def exprK (_ : Rf) (s : Sg) : Res Fl := .ok .nx s
@[simp] theorem ev_sExpr (g : O) (s : Sg) : sExpr g s = (g s).bind exprK := rfl
@[simp] theorem ev_exprK (r : Rf) (s : Sg) : exprK r s = .ok .nx s := rfl
def retK2 (lk : Nat → Bool) (i : Nat) (s : Sg) : Option D → Res Fl
  | none => .bad
  | some d => if pur d = true ∨ lk i = false then .ok (.rt d) s else .bad
def retK (lk : Nat → Bool) (r : Rf) (s : Sg) : Res Fl := match r with
  | .val d => .ok (.rt d) s
  | .slot i => retK2 lk i s (s[i]?).join
@[simp] theorem ev_sRet (lk : Nat → Bool) (g : O) (s : Sg) : sRet lk g s = (g s).bind (retK lk) := by
  unfold sRet; refine congrArg (Res.bind _) ?_; funext r s1; cases r <;> rfl
@[simp] theorem ev_retK_val (lk : Nat → Bool) (d : D) (s : Sg) : retK lk (.val d) s = .ok (.rt d) s := rfl
@[simp] theorem ev_retK_slot (lk : Nat → Bool) (i : Nat) (s : Sg) : retK lk (.slot i) s = retK2 lk i s (s[i]?).join := rfl
@[simp] theorem ev_retK2 (lk : Nat → Bool) (i : Nat) (s : Sg) (d : D) : retK2 lk i s (some d) = if pur d = true ∨ lk i = false then .ok (.rt d) s else .bad := rfl
def ifK (g h : S) (b : Bool) (s : Sg) : Res Fl := if b = true then g s else h s
@[simp] theorem ev_sIf (t : T) (g h : S) (s : Sg) : sIf t g h s = (t s).bind (ifK g h) := rfl
@[simp] theorem ev_ifK (g h : S) (b : Bool) (s : Sg) : ifK g h b s = if b = true then g s else h s := rfl
def asgK3 : Option Sg → Res Fl
  | none => .bad
  | some s => .ok .nx s
def asgK2 (t : Tg) (s : Sg) : Option D → Res Fl
  | none => .bad
  | some d => asgK3 (asg t d s)
def asgK (t : Tg) (r : Rf) (s : Sg) : Res Fl := asgK2 t s (own r s)
@[simp] theorem ev_sAsg (t : Tg) (g : O) (s : Sg) : sAsg t g s = (g s).bind (asgK t) := by
  unfold sAsg; refine congrArg (Res.bind _) ?_; funext r s1; unfold asgK asgK2
  cases own r s1 with
  | none => rfl
  | some d => cases h : asg t d s1 <;> simp [h, asgK3]
@[simp] theorem ev_sSet (i : Nat) (g : O) (s : Sg) : sSet i g s = (g s).bind (asgK (.nm i)) := ev_sAsg _ _ _
@[simp] theorem ev_asgK (t : Tg) (r : Rf) (s : Sg) : asgK t r s = asgK2 t s (own r s) := rfl
@[simp] theorem ev_asgK2 (t : Tg) (d : D) (s : Sg) : asgK2 t s (some d) = asgK3 (asg t d s) := rfl
@[simp] theorem ev_asgK3 (s : Sg) : asgK3 (some s) = .ok .nx s := rfl
@[simp] theorem asg_nm (i : Nat) (d : D) (s : Sg) : asg (.nm i) d s = some (s.set i (some d)) := by simp [asg]
@[simp] theorem asg_tp (l : List Tg) (ds : List D) (s : Sg) : asg (.tp l) (.tuple ds) s = asgs l ds s := by simp [asg]
@[simp] theorem asgs_nil (s : Sg) : asgs [] [] s = some s := by simp [asgs]
def asgsK (l : List Tg) (ds : List D) : Option Sg → Option Sg
  | none => none
  | some s => asgs l ds s
@[simp] theorem asgs_cons (t : Tg) (l : List Tg) (d : D) (ds : List D) (s : Sg) : asgs (t :: l) (d :: ds) s = asgsK l ds (asg t d s) := by
  rw [asgs]; unfold asgsK; cases asg t d s <;> rfl
@[simp] theorem asgsK_some (l : List Tg) (ds : List D) (s : Sg) : asgsK l ds (some s) = asgs l ds s := rfl
def ixK4 (i : Nat) (d : D) (ds : List D) (s : Sg) : Option Nat → Res Fl
  | none => .bad
  | some j => .ok .nx (s.set i (some (.list (ds.set j d))))
def ixK3 (i : Nat) (s : Sg) : Option D → Option D → Option D → Res Fl
  | some d, some (.int k), some (.list ds) => if pur d = true then ixK4 i d ds s (ixN ds.length k) else .bad
  | _, _, _ => .bad
def ixK2 (i : Nat) (r : Rf) (ri : Rf) (s : Sg) : Res Fl := ixK3 i s (own r s) (rd ri s) (s[i]?).join
def ixK1 (i : Nat) (gi : O) (r : Rf) (_ : Rf) (s : Sg) : Res Fl := (gi s).bind (ixK2 i r)
def ixK (i : Nat) (gi : O) (r : Rf) (s : Sg) : Res Fl := (oV i s).bind (ixK1 i gi r)
@[simp] theorem ev_sSetIx (i : Nat) (gi g : O) (s : Sg) : sSetIx i gi g s = (g s).bind (ixK i gi) := by
  unfold sSetIx; refine congrArg (Res.bind _) ?_; funext r s1; unfold ixK; refine congrArg (Res.bind _) ?_; funext r2 s2; unfold ixK1; refine congrArg (Res.bind _) ?_; funext ri s3; unfold ixK2
  cases h1 : own r s3 with
  | none => rfl
  | some d => cases h2 : rd ri s3 with
    | none => rfl
    | some k => cases k with
      | int k => cases h3 : (s3[i]?).join with
        | none => rfl
        | some ds => cases ds with
          | list ds => cases h4 : ixN ds.length k <;> simp [h4, ixK3, ixK4]
          | _ => rfl
      | _ => rfl
@[simp] theorem ev_ixK (i : Nat) (gi : O) (r : Rf) (s : Sg) : ixK i gi r s = (oV i s).bind (ixK1 i gi r) := rfl
@[simp] theorem ev_ixK1 (i : Nat) (gi : O) (r r2 : Rf) (s : Sg) : ixK1 i gi r r2 s = (gi s).bind (ixK2 i r) := rfl
@[simp] theorem ev_ixK2 (i : Nat) (r ri : Rf) (s : Sg) : ixK2 i r ri s = ixK3 i s (own r s) (rd ri s) (s[i]?).join := rfl
@[simp] theorem ev_ixK3 (i : Nat) (s : Sg) (d : D) (k : Int) (ds : List D) : ixK3 i s (some d) (some (.int k)) (some (.list ds)) = if pur d = true then ixK4 i d ds s (ixN ds.length k) else .bad := rfl
@[simp] theorem ev_ixK4 (i : Nat) (s : Sg) (d : D) (j : Nat) (ds : List D) : ixK4 i d ds s (some j) = .ok .nx (s.set i (some (.list (ds.set j d)))) := rfl
def mkK2 (fl : Fl) : Option (List D) → FRes
  | none => .bad
  | some as => match fl with
    | .nx => .ok .none as
    | .rt d => .ok d as
    | _ => .bad
def mkK (ms : List Nat) (ds : List D) : Res Fl → FRes
  | .ok fl s => mkK2 fl (coll ms ds 0 s)
  | .exc c v _ => .exc c v
  | .bad => .bad
theorem ev_mkFn (ms : List Nat) (n : Nat) (g : S) (ds : List D) : mkFn ms n g ds = if okM ms ds = true then mkK ms ds (g (ds.map some ++ List.replicate (n - ds.length) none)) else .bad := by
  unfold mkFn
  split
  · unfold mkK
    cases g (ds.map some ++ List.replicate (n - ds.length) none) with
    | ok fl s =>
      simp only
      cases h : coll ms ds 0 s with
      | none => simp [h, mkK2]
      | some as => cases fl <;> simp [h, mkK2]
    | exc c v s => rfl
    | bad => rfl
  · rfl
@[simp] theorem ev_mkK (ms : List Nat) (ds : List D) (fl : Fl) (s : Sg) : mkK ms ds (.ok fl s) = mkK2 fl (coll ms ds 0 s) := rfl
@[simp] theorem ev_mkK2_rt (d : D) (as : List D) : mkK2 (.rt d) (some as) = .ok d as := rfl
@[simp] theorem ev_mkK2_nx (as : List D) : mkK2 .nx (some as) = .ok .none as := rfl
@[simp] theorem coll_nil (j : Nat) (s : Sg) : coll [] [] j s = some [] := rfl
def collK0 (a : Option D) (b : Option (List D)) : Option (List D) := match b with
  | none => none
  | some as => match a with
    | none => none
    | some d' => some (d' :: as)
@[simp] theorem coll_0 (ms : List Nat) (d : D) (ds : List D) (j : Nat) (s : Sg) : coll (0 :: ms) (d :: ds) j s = collK0 (s[j]?).join (coll ms ds (j + 1) s) := by
  rw [coll]; unfold collK0; cases coll ms ds (j + 1) s <;> rfl
@[simp] theorem coll_1 (ms : List Nat) (d : D) (ds : List D) (j : Nat) (s : Sg) : coll (1 :: ms) (d :: ds) j s = collK0 (some d) (coll ms ds (j + 1) s) := by
  rw [coll]; unfold collK0; cases coll ms ds (j + 1) s <;> rfl
@[simp] theorem collK0_some (d : D) (as : List D) : collK0 (some d) (some as) = some (d :: as) := rfl
@[simp] theorem okM_nil : okM [] [] = true := rfl
@[simp] theorem okM_cons (m : Nat) (ms : List Nat) (d : D) (ds : List D) : okM (m :: ms) (d :: ds) = ((m == 0 || pur d) && okM ms ds) := rfl
def mkIK3 (rs : List Rf) (ds : List D) (s : Sg) : Option (List D) → Res (List D × List (Nat × D))
  | none => .bad
  | some es => if purs es = true ∧ nodupB ((lks rs ds).map (·.1)) = true then .ok (es, lks rs ds) (lockS (lks rs ds) s) else .bad
def mkIK2 (itm : List D → Option (List D)) (rs : List Rf) (s : Sg) : Option (List D) → Res (List D × List (Nat × D))
  | none => .bad
  | some ds => mkIK3 rs ds s (itm ds)
def mkIK (itm : List D → Option (List D)) (rs : List Rf) (s : Sg) : Res (List D × List (Nat × D)) := mkIK2 itm rs s (rds rs s)
@[simp] theorem ev_mkI (itm : List D → Option (List D)) (g : AL) (s : Sg) : mkI itm g s = (g s).bind (mkIK itm) := by
  unfold mkI; refine congrArg (Res.bind _) ?_; funext rs s1; unfold mkIK mkIK2
  cases rds rs s1 with
  | none => rfl
  | some ds => cases h : itm ds <;> simp [h, mkIK3]
@[simp] theorem ev_mkIK (itm : List D → Option (List D)) (rs : List Rf) (s : Sg) : mkIK itm rs s = mkIK2 itm rs s (rds rs s) := rfl
@[simp] theorem ev_mkIK2 (itm : List D → Option (List D)) (rs : List Rf) (s : Sg) (ds : List D) : mkIK2 itm rs s (some ds) = mkIK3 rs ds s (itm ds) := rfl
@[simp] theorem ev_mkIK3 (rs : List Rf) (ds : List D) (s : Sg) (es : List D) : mkIK3 rs ds s (some es) = if purs es = true ∧ nodupB ((lks rs ds).map (·.1)) = true then .ok (es, lks rs ds) (lockS (lks rs ds) s) else .bad := rfl
def forK2 (l : List (Nat × D)) (fl : Fl) (s : Sg) : Res Fl := .ok fl (unlockS l s)
def forK (lk : Nat → Bool) (t : Tg) (g : S) (p : List D × List (Nat × D)) (s : Sg) : Res Fl := if (p.2.all fun q => lk q.1) = true then (loopS t g p.1 s).bind (forK2 p.2) else .bad
@[simp] theorem ev_sFor (lk : Nat → Bool) (it : I) (t : Tg) (g : S) (s : Sg) : sFor lk it t g s = (it s).bind (forK lk t g) := rfl
@[simp] theorem ev_forK (lk : Nat → Bool) (t : Tg) (g : S) (es : List D) (l : List (Nat × D)) (s : Sg) : forK lk t g (es, l) s = if (l.all fun q => lk q.1) = true then (loopS t g es s).bind (forK2 l) else .bad := rfl
@[simp] theorem ev_forK2 (l : List (Nat × D)) (fl : Fl) (s : Sg) : forK2 l fl s = .ok fl (unlockS l s) := rfl
def compK2 (l : List (Nat × D)) (acc : List D) (s : Sg) : Res Rf := .ok (.val (.list acc)) (unlockS l s)
def compK (t : Tg) (c : T) (e : O) (vs : List Nat) (p : List D × List (Nat × D)) (s : Sg) : Res Rf :=
  if nodupB ((ownSl vs s).map (·.1)) = true then (compL t c e vs p.1 [] (clrS vs (lockS (ownSl vs s) s))).bind (compK2 (ownSl vs s ++ p.2)) else .bad
@[simp] theorem ev_oComp (it : I) (t : Tg) (c : T) (e : O) (vs : List Nat) (s : Sg) : oComp it t c e vs s = (it s).bind (compK t c e vs) := rfl
@[simp] theorem ev_compK (t : Tg) (c : T) (e : O) (vs : List Nat) (es : List D) (l : List (Nat × D)) (s : Sg) : compK t c e vs (es, l) s =
  if nodupB ((ownSl vs s).map (·.1)) = true then (compL t c e vs es [] (clrS vs (lockS (ownSl vs s) s))).bind (compK2 (ownSl vs s ++ l)) else .bad := rfl
@[simp] theorem ev_compK2 (l : List (Nat × D)) (acc : List D) (s : Sg) : compK2 l acc s = .ok (.val (.list acc)) (unlockS l s) := rfl
@[simp] theorem ev_tYes (s : Sg) : tYesT s = .ok true s := rfl
@[simp] theorem ev_add (a b : Int) : pAdd [.int a, .int b] = some (.int (a + b)) := rfl
@[simp] theorem ev_addL (a b : List D) : pAdd [.list a, .list b] = if a.length + b.length ≤ 1000000 ∧ purs a = true ∧ purs b = true then some (.list (a ++ b)) else none := rfl
@[simp] theorem ev_addT (a b : List D) : pAdd [.tuple a, .tuple b] = if a.length + b.length ≤ 1000000 ∧ purs a = true ∧ purs b = true then some (.tuple (a ++ b)) else none := rfl
@[simp] theorem ev_sub (a b : Int) : pSub [.int a, .int b] = some (.int (a - b)) := rfl
@[simp] theorem ev_mul (a b : Int) : pMul [.int a, .int b] = if mulOk a b = true then some (.int (a * b)) else none := rfl
@[simp] theorem ev_div (a b : Int) : pDiv [.int a, .int b] = if 0 < b ∧ b.natAbs.log2 < 9000 then some (.int (a / b)) else none := rfl
@[simp] theorem ev_mod (a b : Int) : pMod [.int a, .int b] = if 0 < b then some (.int (a % b)) else none := rfl
@[simp] theorem ev_pow (a b : Int) : pPow [.int a, .int b] = if 0 ≤ b ∧ b ≤ 1000000 ∧ a.natAbs < 2 ^ 64 then some (.int (a ^ b.toNat)) else none := rfl
@[simp] theorem ev_shl (a b : Int) : pShl [.int a, .int b] = if 0 ≤ b ∧ b ≤ 1000000 ∧ a.natAbs < 2 ^ 64 then some (.int (a * 2 ^ b.toNat)) else none := rfl
@[simp] theorem ev_neg (a : Int) : pNeg [.int a] = some (.int (-a)) := rfl
@[simp] theorem ev_lt (a b : Int) : pLt [.int a, .int b] = some (.bool (decide (a < b))) := rfl
@[simp] theorem ev_le (a b : Int) : pLe [.int a, .int b] = some (.bool (decide (a ≤ b))) := rfl
@[simp] theorem ev_gt (a b : Int) : pGt [.int a, .int b] = some (.bool (decide (b < a))) := rfl
@[simp] theorem ev_ge (a b : Int) : pGe [.int a, .int b] = some (.bool (decide (b ≤ a))) := rfl
@[simp] theorem ev_eq (a b : D) : pEq [a, b] = if shp a = true ∧ shp b = true then some (.bool (PyData.eqv a b)) else none := rfl
@[simp] theorem ev_ne (a b : D) : pNe [a, b] = if shp a = true ∧ shp b = true then some (.bool (!PyData.eqv a b)) else none := rfl
@[simp] theorem ev_isB (a b : Bool) : pIsN [.bool a, .bool b] = some (.bool (decide (a = b))) := rfl
@[simp] theorem ev_notB (a b : Bool) : pNotN [.bool a, .bool b] = some (.bool (!decide (a = b))) := rfl
@[simp] theorem ev_isN (a : D) : pIsN [a, .none] = some (.bool (isN a)) := rfl
@[simp] theorem ev_notN (a : D) : pNotN [a, .none] = some (.bool (!isN a)) := rfl
@[simp] theorem ev_inT (a : D) (b : List D) : pIn [a, .tuple b] = if pIn.fl a = true ∧ b.all pIn.fl = true then some (.bool (b.any fun z => PyData.eqv z a)) else none := by cases a <;> rfl
@[simp] theorem ev_ixL (ds : List D) (i : Int) : pIx [.list ds, .int i] = puO (atI ds i) := rfl
@[simp] theorem ev_ixT (ds : List D) (i : Int) : pIx [.tuple ds, .int i] = puO (atI ds i) := rfl
@[simp] theorem ev_ixF (ds : List D) (i : Int) : pIx [.dict [(.none, .list ds)], .int i] = puO (atI ds i) := rfl
@[simp] theorem ev_puO (d : D) : puO (some d) = if pur d = true then some d else none := rfl
@[simp] theorem ev_slL (ds : List D) (l u : Option Int) : slD (.list ds) l u = if purs ds = true then some (.list (cutL ds l u)) else none := rfl
@[simp] theorem ev_slT (ds : List D) (l u : Option Int) : slD (.tuple ds) l u = if purs ds = true then some (.tuple (cutL ds l u)) else none := rfl
@[simp] theorem ev_slF (ds : List D) (l u : Option Int) : slD (.dict [(.none, .list ds)]) l u = some (.list (cutL ds l u)) := rfl
@[simp] theorem ev_lenL (ds : List D) : pLen [.list ds] = some (.int ds.length) := rfl
@[simp] theorem ev_lenT (ds : List D) : pLen [.tuple ds] = some (.int ds.length) := rfl
@[simp] theorem ev_lenF (ds : List D) : pLen [.dict [(.none, .list ds)]] = some (.int ds.length) := rfl
@[simp] theorem ev_abs (i : Int) : pAbs [.int i] = some (.int (if i < 0 then -i else i)) := rfl
@[simp] theorem ev_intI (i : Int) : pInt [.int i] = some (.int i) := rfl
@[simp] theorem ev_intB (k : Bool) : pInt [.bool k] = some (.int (if k then 1 else 0)) := rfl
@[simp] theorem ev_max2 (i j : Int) : pMax2 [.int i, .int j] = some (.int (max i j)) := rfl
@[simp] theorem ev_min2 (i j : Int) : pMin2 [.int i, .int j] = some (.int (min i j)) := rfl
@[simp] theorem ev_tupL (ds : List D) : pTuple [.list ds] = if purs ds = true then some (.tuple ds) else none := rfl
@[simp] theorem ev_tupT (ds : List D) : pTuple [.tuple ds] = if purs ds = true then some (.tuple ds) else none := rfl
@[simp] theorem ev_lstL (ds : List D) : pList [.list ds] = if purs ds = true then some (.list ds) else none := rfl
@[simp] theorem ev_lstT (ds : List D) : pList [.tuple ds] = if purs ds = true then some (.list ds) else none := rfl
@[simp] theorem ev_divmod (i j : Int) : pDivmod [.int i, .int j] = if 0 < j ∧ j < 1000000 then some (.tuple [.int (i / j), .int (i % j)]) else none := rfl
@[simp] theorem bools_map {α : Type} (f : α → Bool) (l : List α) : bools (l.map fun a => .bool (f a)) = some (l.map f) := by
  induction l with
  | nil => rfl
  | cons a l ih => simp [bools, ih]
@[simp] theorem intsD_map {α : Type} (f : α → Int) (l : List α) : intsD (l.map fun a => .int (f a)) = some (l.map f) := by
  induction l with
  | nil => rfl
  | cons a l ih => simp [intsD, ih]
@[simp] theorem intsD_int (l : List Int) : intsD (l.map .int) = some l := by
  induction l with
  | nil => rfl
  | cons a l ih => simp [intsD, ih]
@[simp] theorem ev_all (ds : List D) : pAll [.list ds] = (bools ds).map fun bs => .bool (bs.all id) := rfl
@[simp] theorem ev_any (ds : List D) : pAny [.list ds] = (bools ds).map fun bs => .bool (bs.any id) := rfl
@[simp] theorem ev_sumL (ds : List D) : pSum [.list ds] = (intsD ds).map fun ns => .int ns.sum := rfl
@[simp] theorem ev_sumT (ds : List D) : pSum [.tuple ds] = (intsD ds).map fun ns => .int ns.sum := rfl
@[simp] theorem ev_itPL (ds : List D) : itP [.list ds] = some ds := rfl
@[simp] theorem ev_itPT (ds : List D) : itP [.tuple ds] = some ds := rfl
@[simp] theorem ev_itPF (ds : List D) : itP [.dict [(.none, .list ds)]] = some ds := rfl
@[simp] theorem ev_itEL (ds : List D) : itE [.list ds] = some (enumD 0 ds) := rfl
@[simp] theorem ev_itET (ds : List D) : itE [.tuple ds] = some (enumD 0 ds) := rfl
@[simp] theorem ev_itEF (ds : List D) : itE [.dict [(.none, .list ds)]] = some (enumD 0 ds) := rfl
@[simp] theorem purs_enumD (n : Nat) (ds : List D) : purs (enumD n ds) = purs ds := enumD_purs n ds
@[simp] theorem purs_rngD (lo : Int) (n : Nat) : purs (rngD lo n) = true := by unfold rngD; exact purs_map _ _
@[simp] theorem ev_itR1 (j : Int) : itR1 [.int j] = if -1000000 < j ∧ j < 1000000 then some (rngD 0 j.toNat) else none := rfl
@[simp] theorem ev_itR2 (i j : Int) : itR2 [.int i, .int j] = if -1000000 < i ∧ i < 1000000 ∧ -1000000 < j ∧ j < 1000000 then some (rngD i (j - i).toNat) else none := rfl
@[simp] theorem ev_itZLL (a b : List D) : itZ [.list a, .list b] = some (zipD a b) := rfl
@[simp] theorem ev_itZTT (a b : List D) : itZ [.tuple a, .tuple b] = some (zipD a b) := rfl
@[simp] theorem ev_itZLT (a b : List D) : itZ [.list a, .tuple b] = some (zipD a b) := rfl
@[simp] theorem ev_itZTL (a b : List D) : itZ [.tuple a, .list b] = some (zipD a b) := rfl
@[simp] theorem ev_mApp (ds : List D) (d : D) : mApp ds [d] = if ds.length < 1000000 then some (ds ++ [d], .none) else none := rfl
@[simp] theorem ev_isi (k : Kd) (d : D) : pIsi k [d] = if okD d = true then some (.bool (isK k d)) else none := rfl
@[simp] theorem lkM_eq (ms : List Nat) (i : Nat) : lkM ms i = (ms[i]? == some 0) := rfl
@[simp] theorem lkp_eq (is : List Nat) (lk : Nat → Bool) (i : Nat) : lkp is lk i = (is.contains i || lk i) := rfl
@[simp] theorem eqv_int (a b : Int) : PyData.eqv (.int a) (.int b) = decide (a = b) := by
  first | rfl | simp [PyData.eqv] | (unfold PyData.eqv; simp)
@[simp] theorem eqv_bool (a b : Bool) : PyData.eqv (.bool a) (.bool b) = decide (a = b) := by
  first | (cases a <;> cases b <;> rfl) | simp [PyData.eqv]
end Sim
namespace Sim
open PySem PySem.Spec L2
theorem lay_ints : ∀ ns : List Int, PyData.canLayAll0 (ns.map PyData.int) = true
  | [] => rfl
  | _ :: r => by simp [PyData.canLayAll0, PyData.canLay0, lay_ints r]
theorem depth_ints : ∀ ns : List Int, PyData.depthAll (ns.map PyData.int) = 0
  | [] => rfl
  | _ :: r => by simp [PyData.depthAll, PyData.depth, depth_ints r]
theorem noD_ints : ∀ ns : List Int, noDs (ns.map PyData.int) = true
  | [] => rfl
  | _ :: r => by simp [noDs, noD, noD_ints r]
@[simp] theorem shp_int (i : Int) : shp (.int i) = true := by simp [shp, SeqAt.shaped, PyData.canLay0, PyData.depth, noD]
@[simp] theorem shp_bool (i : Bool) : shp (.bool i) = true := by simp [shp, SeqAt.shaped, PyData.canLay0, PyData.depth, noD]
@[simp] theorem shp_tupI (ns : List Int) : shp (.tuple (ns.map PyData.int)) = true := by
  simp [shp, SeqAt.shaped, PyData.canLay0, PyData.depth, lay_ints, depth_ints, noD, noD_ints]
@[simp] theorem shp_lstI (ns : List Int) : shp (.list (ns.map PyData.int)) = true := by
  simp [shp, SeqAt.shaped, PyData.canLay0, PyData.depth, lay_ints, depth_ints, noD, noD_ints]
theorem eqvAll_ints : ∀ ns ms : List Int, PyData.eqvAll (ns.map PyData.int) (ms.map PyData.int) = decide (ns = ms)
  | [], [] => by simp [PyData.eqvAll]
  | [], _ :: _ => by simp [PyData.eqvAll]
  | _ :: _, [] => by simp [PyData.eqvAll]
  | a :: r, b :: t => by
    simp only [List.map_cons, PyData.eqvAll, eqv_int, eqvAll_ints r t]
    by_cases h : a = b <;> by_cases h' : r = t <;> simp [h, h']
@[simp] theorem eqv_tupI (ns ms : List Int) : PyData.eqv (.tuple (ns.map PyData.int)) (.tuple (ms.map PyData.int)) = decide (ns = ms) := by
  simp only [PyData.eqv]; exact eqvAll_ints ns ms
@[simp] theorem eqv_lstI (ns ms : List Int) : PyData.eqv (.list (ns.map PyData.int)) (.list (ms.map PyData.int)) = decide (ns = ms) := by
  simp only [PyData.eqv]; exact eqvAll_ints ns ms
@[simp] theorem cutL_to {α : Type} (xs : List α) (n : Nat) : cutL xs none (some (n : Int)) = xs.take n := by
  unfold cutL
  rw [HT.sIx_nat, HT.sIx_none, Nat.sub_zero, List.drop_zero]
  rcases Nat.le_total n xs.length with h | h
  · rw [Nat.min_eq_left h]
  · rw [Nat.min_eq_right h, List.take_length, List.take_of_length_le h]
@[simp] theorem cutL_from {α : Type} (xs : List α) (n : Nat) : cutL xs (some (n : Int)) none = xs.drop n := by
  unfold cutL
  rw [HT.sIx_nat, HT.sIx_none]
  rcases Nat.le_total n xs.length with h | h
  · rw [Nat.min_eq_left h, List.take_of_length_le (by simp)]
  · rw [Nat.min_eq_right h, Nat.sub_self, List.take_zero, List.drop_of_length_le h]
/-- a number's length in bits is small -/
theorem log2_lt {n : Nat} {k : Nat} (h : n < 2 ^ k) (hk : 0 < k) : n.log2 < k := by
  by_cases h0 : n = 0
  · subst h0; simpa using hk
  · exact (Nat.log2_lt h0).mpr h
theorem mulOk_l {a b : Int} (h1 : -(2 ^ 64) < a) (h2 : a < 2 ^ 64) : mulOk a b = true := by unfold mulOk; simp only [decide_eq_true h1, decide_eq_true h2, Bool.and_self, Bool.true_or, Bool.or_true]
theorem mulOk_r {a b : Int} (h1 : -(2 ^ 64) < b) (h2 : b < 2 ^ 64) : mulOk a b = true := by unfold mulOk; simp only [decide_eq_true h1, decide_eq_true h2, Bool.and_self, Bool.true_or, Bool.or_true]
@[simp] theorem loop_nil (t : Tg) (g : S) (s : Sg) : loopS t g [] s = .ok .nx s := rfl
def loopK2 (t : Tg) (g : S) (ds : List D) (fl : Fl) (s : Sg) : Res Fl := match fl with
  | .nx => loopS t g ds s
  | .ct => loopS t g ds s
  | .bk => .ok .nx s
  | .rt d => .ok (.rt d) s
def loopK1 (t : Tg) (g : S) (ds : List D) : Option Sg → Res Fl
  | none => .bad
  | some s => (g s).bind (loopK2 t g ds)
@[simp] theorem loop_cons (t : Tg) (g : S) (d : D) (ds : List D) (s : Sg) : loopS t g (d :: ds) s = loopK1 t g ds (asg t d s) := by
  rw [loopS]; dsimp only; unfold loopK1; cases asg t d s <;> rfl
@[simp] theorem loopK1_some (t : Tg) (g : S) (ds : List D) (s : Sg) : loopK1 t g ds (some s) = (g s).bind (loopK2 t g ds) := rfl
@[simp] theorem loopK2_nx (t : Tg) (g : S) (ds : List D) (s : Sg) : loopK2 t g ds .nx s = loopS t g ds s := rfl
@[simp] theorem loopK2_ct (t : Tg) (g : S) (ds : List D) (s : Sg) : loopK2 t g ds .ct s = loopS t g ds s := rfl
@[simp] theorem loopK2_bk (t : Tg) (g : S) (ds : List D) (s : Sg) : loopK2 t g ds .bk s = .ok .nx s := rfl
@[simp] theorem loopK2_rt (t : Tg) (g : S) (ds : List D) (d : D) (s : Sg) : loopK2 t g ds (.rt d) s = .ok (.rt d) s := rfl
@[simp] theorem comp_nil (t : Tg) (c : T) (e : O) (vs : List Nat) (acc : List D) (s : Sg) : compL t c e vs [] acc s = .ok acc s := rfl
def cmK5 (t : Tg) (c : T) (e : O) (vs : List Nat) (ds acc : List D) (s : Sg) : Option D → Res (List D)
  | none => .bad
  | some y => if acc.length < 1000000 then compL t c e vs ds (acc ++ [y]) (clrS vs s) else .bad
def cmK4 (t : Tg) (c : T) (e : O) (vs : List Nat) (ds acc : List D) (r : Rf) (s : Sg) : Res (List D) := cmK5 t c e vs ds acc s (own r s)
def cmK3 (t : Tg) (c : T) (e : O) (vs : List Nat) (ds acc : List D) (b : Bool) (s : Sg) : Res (List D) := if b = true then (e s).bind (cmK4 t c e vs ds acc) else compL t c e vs ds acc (clrS vs s)
def cmK1 (t : Tg) (c : T) (e : O) (vs : List Nat) (ds acc : List D) : Option Sg → Res (List D)
  | none => .bad
  | some s => (c s).bind (cmK3 t c e vs ds acc)
@[simp] theorem comp_cons (t : Tg) (c : T) (e : O) (vs : List Nat) (d : D) (ds acc : List D) (s : Sg) : compL t c e vs (d :: ds) acc s = cmK1 t c e vs ds acc (asg t d s) := by
  rw [compL]; unfold cmK1
  cases asg t d s with
  | none => rfl
  | some s1 =>
    simp only
    refine congrArg (Res.bind _) ?_
    funext b s2
    unfold cmK3
    split
    · refine congrArg (Res.bind _) ?_
      funext r s3
      unfold cmK4 cmK5
      cases own r s3 <;> rfl
    · rfl
@[simp] theorem cmK1_some (t : Tg) (c : T) (e : O) (vs : List Nat) (ds acc : List D) (s : Sg) : cmK1 t c e vs ds acc (some s) = (c s).bind (cmK3 t c e vs ds acc) := rfl
@[simp] theorem cmK3_eq (t : Tg) (c : T) (e : O) (vs : List Nat) (ds acc : List D) (b : Bool) (s : Sg) : cmK3 t c e vs ds acc b s = if b = true then (e s).bind (cmK4 t c e vs ds acc) else compL t c e vs ds acc (clrS vs s) := rfl
@[simp] theorem cmK4_eq (t : Tg) (c : T) (e : O) (vs : List Nat) (ds acc : List D) (r : Rf) (s : Sg) : cmK4 t c e vs ds acc r s = cmK5 t c e vs ds acc s (own r s) := rfl
@[simp] theorem cmK5_some (t : Tg) (c : T) (e : O) (vs : List Nat) (ds acc : List D) (s : Sg) (y : D) : cmK5 t c e vs ds acc s (some y) = if acc.length < 1000000 then compL t c e vs ds (acc ++ [y]) (clrS vs s) else .bad := rfl
end Sim
namespace Sim
open PySem PySem.Spec L2
theorem for_ok {lk : Nat → Bool} {it : I} {t : Tg} {g : S} {s s1 s2 : Sg} {es : List D} {l : List (Nat × D)} {fl : Fl} (h1 : it s = .ok (es, l) s1) (h2 : (l.all fun q => lk q.1) = true) (h3 : loopS t g es s1 = .ok fl s2) : sFor lk it t g s = .ok fl (unlockS l s2) := by
  rw [ev_sFor, h1, ev_ok, ev_forK, if_pos h2, h3]; rfl
theorem mkFn_rt {ms : List Nat} {n : Nat} {g : S} {ds as : List D} {r : D} {s : Sg} (h1 : okM ms ds = true) (h2 : g (ds.map some ++ List.replicate (n - ds.length) none) = .ok (.rt r) s) (h3 : coll ms ds 0 s = some as) : mkFn ms n g ds = .ok r as := by
  rw [ev_mkFn, if_pos h1, h2, ev_mkK, h3]; rfl
theorem mkFn_nx {ms : List Nat} {n : Nat} {g : S} {ds as : List D} {s : Sg} (h1 : okM ms ds = true) (h2 : g (ds.map some ++ List.replicate (n - ds.length) none) = .ok .nx s) (h3 : coll ms ds 0 s = some as) : mkFn ms n g ds = .ok .none as := by
  rw [ev_mkFn, if_pos h1, h2, ev_mkK, h3]; rfl
theorem oCall_ok {f : Fn} {g : AL} {s s1 : Sg} {rs : List Rf} {ds as : List D} {r : D} (h1 : g s = .ok rs s1) (h2 : rds rs s1 = some ds) (h3 : nodupB ((lks rs ds).map (·.1)) = true) (h4 : f ds = .ok r as) : oCall f g s = .ok (.val r) (unlockS (lkz rs ds as) (lockS (lks rs ds) s1)) := by
  rw [ev_oCall, h1, ev_ok, ev_callK, h2, ev_callK2, if_pos h3, h4]; rfl
@[simp] theorem purs_takeI (A : List Int) (n : Nat) : purs (List.take n (A.map PyData.int)) = true := by rw [← List.map_take]; exact purs_ints _
@[simp] theorem purs_dropI (A : List Int) (n : Nat) : purs (List.drop n (A.map PyData.int)) = true := by rw [← List.map_drop]; exact purs_ints _
end Sim
namespace Sim
open PySem PySem.Spec L2
section
open PyProof.Rows
variable {prog : Program} {w : World} {A : Around} {E : Value → Shared → Prop} {s : Shared}
theorem fm_all {α β : Type} {f : α → Option β} {g : α → β} : ∀ l : List α, (∀ m ∈ l, f m = some (g m)) → l.filterMap f = l.map g
  | [], _ => rfl
  | a :: l, h => by rw [List.filterMap_cons_some (h a (List.mem_cons_self ..)), fm_all l fun m hm => h m (List.mem_cons_of_mem _ hm)]; rfl
theorem pick_rev (l : List Value) : ((List.range l.length).filterMap fun (m : Nat) => l.toArray[(((l.length : Nat) : Int) - 1 + (m : Int) * (-1)).toNat]?) = l.reverse := by
  rw [fm_all (g := fun m => (l.reverse[m]?).getD .none) _ fun m hm => ?_]
  · refine List.ext_getElem (by simp) fun i h1 h2 => ?_
    simp only [List.getElem_map, List.getElem_range]
    rw [List.getElem?_eq_getElem h2]; rfl
  · have hm := List.mem_range.mp hm
    have e : (((l.length : Nat) : Int) - 1 + (m : Int) * (-1)).toNat = l.length - 1 - m := by omega
    rw [e, List.getElem?_reverse hm]
    simp only [List.getElem?_toArray]
    rw [List.getElem?_eq_getElem (by omega)]; rfl
theorem sliceApplied_rev {sl : Addr} {vs : Value} {n : Nat} {Q : Int × Int × Nat → Shared → Prop} (hs : s.heap.IsSliceOf sl .none .none vs) (ps : IsPart vs (some (-1)))
    (h : Q (((n : Int) - 1), -1, n) s) : wpAny (model prog w) A (Builtin.Slice.sliceApplied (.ref sl) (pure (n : Int))) Q E s := by
  obtain ⟨os, hos, hcs, hds⟩ := id hs
  unfold Builtin.Slice.sliceApplied Builtin.Slice.sliceFields
  refine wpAny_bind (wpAny_bind (wpAny_field hos hds (x := .none) rfl (wpAny_bind (wpAny_field hos hds (x := .none) rfl (wpAny_bind (wpAny_field hos hds (x := vs) rfl (wpAny_pure ?_)))))))
  refine wpAny_bind (HT.slicePart_ ps ?_)
  show wpAny _ _ (if ((-1 : Int) == 0) = true then _ else _) _ _ s
  rw [if_neg (by decide)]
  refine wpAny_bind (slicePart_none (wpAny_bind (slicePart_none (wpAny_bind (wpAny_pure ?_)))))
  have e1 : Builtin.Slice.sliceAdjust none none (-1) (n : Int) = ((n : Int) - 1, -1) := by
    unfold Builtin.Slice.sliceAdjust; simp
  have e2 : Builtin.Slice.slicePlaces ((n : Int) - 1) (-1) (-1) = n := by
    unfold Builtin.Slice.slicePlaces
    simp
    omega
  show wpAny _ _ (match Builtin.Slice.sliceAdjust none none (-1) (n : Int) with | (lo, hi) => pure (lo, (-1 : Int), Builtin.Slice.slicePlaces lo hi (-1))) _ _ s
  rw [e1]
  show wpAny _ _ (pure ((n : Int) - 1, (-1 : Int), Builtin.Slice.slicePlaces ((n : Int) - 1) (-1) (-1))) _ _ s
  rw [e2]
  exact wpAny_pure h
theorem getItem_tuple_rev {t sl : Addr} {its : List Value} {vs : Value} {Q : Value → Shared → Prop} (ht : IsTup s.heap t its.toArray) (hs : s.heap.IsSliceOf sl .none .none vs) (ps : IsPart vs (some (-1)))
    (h : Q (.ref s.heap.objs.size) { s with heap := s.heap.push { cls := .type "tuple", data := .seq its.reverse.toArray } })
    (hsz : its.length ≤ sizeLine) : wpAny (model prog w) A (getItem (.ref t) (.ref sl)) Q E s := by
  have htake : sizeOk (.seq its.reverse.toArray) := by
    show its.reverse.toArray.size ≤ sizeLine
    rw [List.size_toArray, List.length_reverse]
    exact hsz
  obtain ⟨os, hos, hcs, hds⟩ := id hs
  have hTs : s.TypeIs (.ref sl) "slice" := ⟨os, hos, hcs⟩
  unfold getItem
  try with_reducible refine wpAny_holding ?_
  first | refine wpAny_bind (wpAny_pure ?_) | skip
  refine wpAny_bind (wpAny_sequenceKey ht.typeIs (by decide) ?_)
  refine wpAny_bind (wpAny_callSpecial?_slot (name := Str.ofString "__getitem__") ht.typeIs PyProof.Rows.slot_tuple_getitem
    (wpAny_call_entry PyProof.Rows.slot_tuple_getitem ht.typeIs entry_tuple_getitem ?_ (args_tuple_getitem _ _)))
  show wpAny _ _ (Builtin.Tuple.tupleItemsOf (.ref t) >>= _) _ _ s
  refine wpAny_bind (tupleItemsOf_ ht ?_)
  refine wpAny_bind (wpAny_typeOf hTs ?_)
  rw [if_pos (by decide)]
  refine wpAny_bind (sliceApplied_rev (n := its.toArray.size) hs ps ?_)
  have hno : ¬ ((((its.toArray.size : Int) - 1) == 0 && (-1 : Int) == 1 && (its.toArray.size) == its.toArray.size) = true) := by
    intro q
    rw [Bool.and_eq_true, Bool.and_eq_true] at q
    have := eq_of_beq q.1.2
    omega
  show wpAny _ _ (if (((its.toArray.size : Int) - 1) == 0 && (-1 : Int) == 1 && (its.toArray.size) == its.toArray.size) = true then _ else _) _ _ s
  rw [if_neg hno, List.size_toArray, pick_rev]
  first
    | exact wpAny_bind (m := Builtin.Tuple.tupleExact _) (wpAny_newObj_type (wpAny_pure ⟨_, rfl, wpAny_pure h⟩) htake)
    | exact wpAny_bind (m := Builtin.Tuple.tupleExact _) (wpAny_newObj_type (wpAny_bind (wpAny_pure (wpAny_pure ⟨_, rfl, wpAny_pure h⟩))) htake)
    | exact wpAny_bind (wpAny_bind (m := Builtin.Tuple.tupleExact _) (wpAny_newObj_type (wpAny_pure (wpAny_pure ⟨_, rfl, wpAny_pure h⟩)) htake))
    | exact wpAny_bind (wpAny_bind (m := Builtin.Tuple.tupleExact _) (wpAny_newObj_type (wpAny_pure ⟨_, rfl, wpAny_pure h⟩) htake))
end
section
variable [Tb] [Vs] {K : PySem.W.Frag} {H : Hp}
variable {X : Cx} {a : Expr} {ga : O} {pos p2 : Pos}
theorem vals_rev {xs : List V} {us : List Value} (r : Vals xs us) : Vals xs.reverse us.reverse := by
  induction r with
  | nil => exact .nil
  | cons h _ ih => rw [List.reverse_cons, List.reverse_cons]; exact ih.append (.cons h .nil)
theorem owna_rev {K : PySem.W.Frag} {H : Hp} : ∀ {ds : List D} {vs : List V} {F : List Addr}, OwnA K H ds vs F → purs ds = true → OwnA K H ds.reverse vs.reverse []
  | [], _, _, .nil, _ => .nil
  | d :: ds, _, _, @OwnA.cons _ _ v vs _ _ F G o t n, p => by
    simp only [purs, Bool.and_eq_true] at p
    have e := o.pur p.1
    subst e
    rw [List.reverse_cons, List.reverse_cons]
    have : ∀ {as : List D} {us : List V}, OwnA K H as us [] → OwnA K H (as ++ [d]) (us ++ [v]) [] := by
      intro as us h
      generalize hG : ([] : List Addr) = G at h
      induction as generalizing us G with
      | nil =>
        cases h
        rw [hG]
        rw [← hG] at *
        exact .cons0 o .nil
      | cons a as ih =>
        cases h with
        | @cons v1 vs1 _ _ F1 G1 o1 t1 n1 =>
          have h1 : F1 = [] := by cases F1 with
            | nil => rfl
            | cons _ _ => cases hG
          have h2 : G1 = [] := by rw [h1] at hG; exact hG.symm
          subst h1
          subst h2
          exact .cons0 o1 (ih _ rfl t1)
    exact this (owna_rev t p.2)
def pListRg : List D → Option D
  | [.int j] => if -1000000 < j ∧ j < 1000000 then some (.list (rngD 0 j.toNat)) else none
  | [.int i, .int j] => if -1000000 < i ∧ i < 1000000 ∧ -1000000 < j ∧ j < 1000000 then some (.list (rngD i (j - i).toNat)) else none
  | _ => none
theorem own_rgV (i j : Int) : OwnA K H (rngD i (j - i).toNat) (rgV i j) [] := by
  unfold rngD rgV
  generalize (List.range (j - i).toNat) = l
  induction l with
  | nil => exact .nil
  | cons n l ih => exact .cons0 (.int _) ih
def rLRg : List V → Hp → VK → Prop := fun vs H Q => (∃ j, vs = [.int j] ∧ RgOk 0 j ∧ ∀ q, H q = none → Q (.ref q) (upd H q (.lst (rgV 0 j)))) ∨ ∃ i j, vs = [.int i, .int j] ∧ RgOk i j ∧ ∀ q, H q = none → Q (.ref q) (upd H q (.lst (rgV i j)))
theorem pr_lrg : PrimR K rLRg pListRg := by
  intro vs ds d H Q h e q
  unfold pListRg at e
  split at e
  · obtain ⟨x, F, rfl, o⟩ := h.one
    cases o
    split at e
    · rename_i j hj
      cases e
      have z := own_rgV (K := K) (H := H) 0 j
      rw [Int.sub_zero] at z
      exact .inl ⟨_, rfl, ⟨by omega, by omega, by omega, by omega, by omega⟩, fun p hp => q _ _ (.lst z hp)⟩
    · cases e
  · obtain ⟨x, y, F, G, rfl, o, o2⟩ := h.two
    cases o; cases o2
    split at e
    · rename_i i j hj
      cases e
      exact .inr ⟨_, _, rfl, ⟨by omega, by omega, by omega, by omega, by omega⟩, fun p hp => q _ _ (.lst (own_rgV i j) hp)⟩
    · cases e
  · cases e
variable {b : Expr} {p pos2 : Pos} {gb : O}
theorem so_listRg1 (hc : X.calm = true) (hg : Gl X "list") (hm : X.mg "list" = none) (hg2 : Gl X "range") (hm2 : X.mg "range" = none) (ha : SimO X a ga) (na : starEach [a] X.env = (false, eval a X.env) :: starEach [] X.env := by rfl)
    (nr : starEach [.Call (.Name "range" p2) [a] [] pos2] X.env = (false, eval (.Call (.Name "range" p2) [a] [] pos2) X.env) :: starEach [] X.env := by rfl) : SimO X (.Call (.Name "list" p) [.Call (.Name "range" p2) [a] [] pos2] [] pos) (oPrim pListRg (aCons ga aNil)) :=
  pe_imp (pe_listRg hc hg hm (prg_1 hg2 hm2 ha na) nr) fun σ H Q h => by
    have z := tA1 (prim pr_lrg h)
    refine tO_mono (fun v H1 w => ?_) z
    rcases w with ⟨j, e, w⟩ | ⟨i, j, e, w⟩
    · cases e; exact ⟨_, rfl, w⟩
    · cases e
end
end Sim
namespace SimSrt
open PySem PyProof.Rows Srt SrtO
section
variable {prog : Program} {w : World} {A : Around} {E : Value → Shared → Prop} {s : Shared}
end
end SimSrt
namespace Sim
open PySem PySem.Spec L2
/-- numbers, rising -/
def insI (n : Int) : List Int → List Int
  | [] => [n]
  | m :: l => if n ≤ m then n :: m :: l else m :: insI n l
def sortI : List Int → List Int
  | [] => []
  | n :: l => insI n (sortI l)
theorem insI_perm (n : Int) : ∀ l : List Int, (insI n l).Perm (n :: l)
  | [] => .refl _
  | m :: l => by
    unfold insI
    split
    · exact .refl _
    · exact ((insI_perm n l).cons m).trans (.swap n m l)
theorem sortI_perm : ∀ l : List Int, (sortI l).Perm l
  | [] => .refl _
  | n :: l => (insI_perm n (sortI l)).trans ((sortI_perm l).cons n)
theorem insI_rise (n : Int) : ∀ l : List Int, l.Pairwise (· ≤ ·) → (insI n l).Pairwise (· ≤ ·)
  | [], _ => by simp [insI]
  | m :: l, h => by
    rw [List.pairwise_cons] at h
    unfold insI
    split
    · rename_i hnm
      rw [List.pairwise_cons, List.pairwise_cons]
      refine ⟨fun x hx => ?_, h⟩
      rcases List.mem_cons.mp hx with rfl | hx
      · exact hnm
      · exact Int.le_trans hnm (h.1 x hx)
    · rename_i hnm
      rw [List.pairwise_cons]
      refine ⟨fun x hx => ?_, insI_rise n l h.2⟩
      rcases List.mem_cons.mp ((insI_perm n l).mem_iff.mp hx) with rfl | hx
      · omega
      · exact h.1 x hx
theorem sortI_rise : ∀ l : List Int, (sortI l).Pairwise (· ≤ ·)
  | [] => .nil
  | n :: l => insI_rise n _ (sortI_rise l)
theorem rise_eq : ∀ {a b : List Int}, a.Perm b → a.Pairwise (· ≤ ·) → b.Pairwise (· ≤ ·) → a = b := fun {a b} p h1 h2 =>
  p.eq_of_pairwise (fun x y _ _ h h' => Int.le_antisymm h h') h1 h2
end Sim
namespace Sim
open PySem PySem.Spec L2
def pIndexT : List D → Option D
  | [.tuple ds, y] => if pIn.fl y = true ∧ ds.all pIn.fl = true then (ds.findIdx? fun z => PyData.eqv z y).map fun j => .int (j : Nat) else none
  | _ => none
def oIdxT (g h : O) : O := fun s => (g s).bind fun r s1 => match rd r s1 with
  | some (.tuple _) => (h s1).bind fun r2 s2 => (match rds [r, r2] s2 with
    | none => .bad
    | some ds => (match pIndexT ds with
      | none => .bad
      | some d => .ok (.val d) s2))
  | _ => .bad
theorem sqD_is {X : Cx} {pins : List (Addr × Obj)} {σ : St} {H : Hp} {s : Shared} {a : Addr} {xs : List V} (I : L2.Inv X pins σ H s) (h : SqD X.K H a xs) :
    ∃ (o : Obj) (its : List Value) (n : Nat), s.heap.get? a = some o ∧ o.cls = .type "tuple" ∧ o.dict = none ∧ o.data = .seq its.toArray n ∧ Vals xs its := by
  rcases h with ⟨o, h, hd⟩ | ⟨o, its, n, h1, h2, hd, h3, h4, h5⟩
  · obtain ⟨e, _, its, r, o', e', c, n, d⟩ := (show ObjOk X.prog X.w H s.heap a (.frz o (.tup xs)) from I.hok a _ h)
    rw [e] at e'
    cases e'
    exact ⟨o, its, n, e, c, hd, d, r⟩
  · exact ⟨o, its.toList, n, I.kIn a o h1, h2, hd, by simpa using h3, h5⟩
def rIdxT (K : PySem.W.Frag) : V → List V → Hp → VK → Prop := fun x xs H Q => ∃ (a : Addr) (ys : List V) (y : V) (j : Nat) (z : V), x = V.ref a ∧ xs = [y] ∧ SqD K H a ys ∧ flatV y = true ∧ ys.all flatV = true ∧ ys[j]? = some z ∧ eqV z y = true ∧
  (∀ (m : Nat) (z' : V), m < j → ys[m]? = some z' → eqV z' y = false) ∧ Q (.int (j : Nat)) H
section
variable [Tb] [Vs] {X : Cx}
theorem mt_idxT : MtR X "tuple.index" (rIdxT X.K) := by
  intro pins s σ H x xs v us Q I rx rxs h
  obtain ⟨a, ys, y, j, z, rfl, rfl, hs, fy, fys, hz, hzj, hno, q⟩ := h
  cases rx
  cases rxs with
  | cons ry rt =>
    rename_i uy ut
    cases rt
    obtain ⟨⟨cls, dd, data, sl⟩, its, n, ho, hc, hdn, hd, rv⟩ := sqD_is I hs
    simp only at hc hd hdn
    subst hc hd
    obtain ⟨u, hu, ru⟩ := rv.get hz
    obtain ⟨hjl, hje⟩ := List.getElem?_eq_some_iff.mp hu
    have hvl := rv.length
    have hj : j < its.toArray.size := by simpa using hjl
    refine call_meets PySem.F.slot_tuple_index ⟨_, ho, rfl⟩ PySem.F.entry_tuple_index (PySem.F.args_tuple_index_2 _ _)
      (PySem.SeqAt.tuple_index2_found a its.toArray n dd sl uy (fun i => ((its[i]?).map (eqU y)).getD false) j hj (Nat.zero_le _) hj ?_ ?_) ⟨ho, fun i hi => ?_, ?_⟩
    · show ((its[j]?).map (eqU y)).getD false = true
      rw [hu]
      show eqU y u = true
      rw [eqU_of ru (flat_at fys hz)]
      exact hzj
    · intro m hm _ hmj
      have hml : m < its.length := by simpa using hm
      have hmy : m < ys.length := by omega
      have hy' : ys[m]? = some ys[m] := List.getElem?_eq_getElem hmy
      obtain ⟨u2, hu2, ru2⟩ := rv.get hy'
      show ((its[m]?).map (eqU y)).getD false = false
      rw [hu2]
      show eqU y u2 = false
      rw [eqU_of ru2 (flat_at fys hy')]
      exact hno m _ hmj hy'
    · have hil : i < its.length := by simpa using hi
      show PySem.SeqAt.EqAt _ _ its.toArray[i] uy (((its[i]?).map (eqU y)).getD false)
      rw [List.getElem?_eq_getElem hil]
      exact mem_eqAt ry fy rv fys _ (by simp)
    · exact ⟨.int (j : Nat), H, I.tok _, ⟨_, rfl⟩, q⟩
variable {o e : Expr} {es : List Expr} {to : TE} {t : TA} {name : Str} {apos cpos : Pos} {T id : String} {r : V → List V → Hp → VK → Prop}
theorem pe_bmT (slot : Slot "tuple" name id) (hty : typeOf (.builtin id) = pure (.type "method_descriptor")) (hm : MtR X id r) (ho : PE X o to) (ha : PA X (e :: es) t)
    (hbase : attributeBase o name X.env (eval o X.env) = eval o X.env := by rfl)
    (hfew : ((backTo cpos (starEach (e :: es) X.env)).all (fun x => !x.1) && (backToKw cpos (keywordEach [] X.env)).all (fun x => x.1.isSome)
      && decide ((e :: es).length + ([] : List Keyword).length + (if ([] : List Keyword).isEmpty then 0 else 1) < 30)) = true := by rfl)
    (hline : (apos.endLine == cpos.line) = true := by rfl) (hs : starEach (e :: es) X.env = (false, eval e X.env) :: starEach es X.env := by rfl) (hplain : (backTo cpos (starEach es X.env)).any (·.1) = false := by rfl) :
    PE X (.Call (.Attribute o name apos) (e :: es) [] cpos) (fun σ H Q => to σ H fun x H1 => (∃ a xs, x = .ref a ∧ SqD X.K H1 a xs) ∧ t σ H1 fun ws H2 => r x ws H2 Q) := by
  refine ⟨fun pins s σ H Q I h => ?_⟩
  refine wpAny_Call_method_late hbase hfew hline rfl (thn (ho.run pins s σ H _ I h) fun v s1 ⟨x, H1, I1, r1, ty, q1⟩ => ?_)
  obtain ⟨a, xs, ex, hq⟩ := ty
  subst ex
  have r1' := r1
  cases r1'
  obtain ⟨ob, its, n, e1, c1, d1, _, _⟩ := sqD_is I1 hq
  refine ⟨"tuple", id, PySem.F.plainAttrs_tuple, slot, hty, ⟨ob, e1, c1⟩, fun a' ea => (by cases ea; exact ⟨ob, e1, d1⟩), ?_⟩
  have hA := ha.run cpos pins s1 σ H1 _ I1 q1
  rw [hs] at hA ⊢
  refine Calls.callWith_builtin (by show (false || (backTo cpos (starEach es X.env)).any (·.1)) = false; rw [hplain] <;> rfl) (Calls.evalArgs_plain ?_)
  exact thn hA fun us s2 ⟨vs, H2, I2, r2, q2⟩ => hm pins s2 σ H2 _ vs _ us Q I2 r1 r2 q2
theorem find_fl {K : PySem.W.Frag} {H : Hp} {y : D} {vy : V} {Fy : List Addr} (oy : Own K H y vy Fy) (hy : pIn.fl y = true) : ∀ {ds : List D} {vs : List V} {F : List Addr}, OwnA K H ds vs F → ds.all pIn.fl = true → ∀ (j : Nat), ds.findIdx? (fun z => PyData.eqv z y) = some j →
    ∃ z, vs[j]? = some z ∧ eqV z vy = true ∧ (∀ (m : Nat) (z' : V), m < j → vs[m]? = some z' → eqV z' vy = false) := by
  intro ds
  induction ds with
  | nil => intro vs F _ _ j h; simp at h
  | cons d ds ih =>
    intro vs F t ha j h
    cases t with
    | @cons v vs _ _ F1 F2 o t n =>
      rw [List.all_cons, Bool.and_eq_true] at ha
      obtain ⟨e1, _, _⟩ := eqV_eqv o oy ha.1 hy
      rw [List.findIdx?_cons] at h
      cases c : PyData.eqv d y with
      | true =>
        rw [c] at h
        simp only [if_true, Option.some.injEq] at h
        subst h
        exact ⟨v, rfl, by rw [e1]; exact c, fun m _ hm _ => by omega⟩
      | false =>
        rw [c] at h
        simp only [Bool.false_eq_true, if_false] at h
        cases hf : ds.findIdx? (fun z => PyData.eqv z y) with
        | none => rw [hf] at h; cases h
        | some j' =>
          rw [hf] at h
          cases h
          obtain ⟨z, h1, h2, h3⟩ := ih t ha.2 j' hf
          refine ⟨z, h1, h2, fun m z' hm hz => ?_⟩
          cases m with
          | zero =>
            simp at hz
            subst hz
            rw [e1]; exact c
          | succ m =>
            have hm2 : m + 1 < j' + 1 := hm
            exact h3 m z' (by omega) (by simpa using hz)
theorem fl_flat {K : PySem.W.Frag} {H : Hp} : ∀ {ds : List D} {vs : List V} {F : List Addr}, OwnA K H ds vs F → ds.all pIn.fl = true → vs.all flatV = true
  | [], _, _, t, _ => by cases t; rfl
  | d :: ds, _, _, t, h => by
    cases t with
    | cons o t n =>
      rw [List.all_cons, Bool.and_eq_true] at h
      rw [List.all_cons, fl_flat t h.2, Bool.and_true]
      exact (eqV_eqv o o h.1 h.1).2.1
theorem tO_idxT {K : PySem.W.Frag} {g h : O} {σ : St} {H : Hp} {Q : VK} (z : tO K (oIdxT g h) σ H Q) : tO K g σ H fun x H1 => (∃ a xs, x = .ref a ∧ SqD K H1 a xs) ∧ tA K (aCons h aNil) σ H1 fun ws H2 => rIdxT K x ws H2 Q := by
  obtain ⟨s, Fs, rf, s', R, e, q⟩ := z
  obtain ⟨r, s1, e1, e⟩ := bind_inv e
  refine ⟨s, Fs, r, s1, R, e1, fun v H1 Fs1 F1 R1 E1 k1 n1 => ?_⟩
  split at e
  · rename_i ds0 hd0
    obtain ⟨F0, o0⟩ := k1.dp R1 hd0
    have ty : ∃ a xs, v = .ref a ∧ SqD K H1 a xs := by
      cases o0 with
      | tup hq t => exact ⟨_, _, rfl, hq⟩
    refine ⟨ty, ?_⟩
    obtain ⟨r2, s2, e2, e⟩ := bind_inv e
    refine ⟨s1, Fs1, [r2], s2, R1, by unfold aCons aNil; rw [e2]; rfl, fun ws H2 Fs2 Gs R2 E2 k2 n2 => ?_⟩
    split at e
    · cases e
    · rename_i ds hds
      split at e
      · cases e
      · rename_i d hd
        cases e
        cases k2 with
        | @val d2 v2 F2 rs vs Gs2 A2 nn kr =>
          cases kr
          have rr := rfs2 (k1.ev E2) (.val A2) R2 hds
          unfold pIndexT at hd
          split at hd
          · obtain ⟨x, y, F, G, ee, oa, ob⟩ := rr.two
            cases ee
            split at hd
            · rename_i hp
              cases hj : (List.findIdx? (fun z => PyData.eqv z _) _) with
              | none => rw [hj] at hd; cases hd
              | some j =>
                rw [hj] at hd
                cases hd
                cases oa with
                | tup hq t =>
                  obtain ⟨z, h1, h2, h3⟩ := find_fl ob hp.1 t hp.2 j hj
                  refine ⟨_, _, _, j, z, rfl, rfl, hq, (eqV_eqv ob ob hp.1 hp.1).2.1, fl_flat t hp.2, h1, h2, h3, ?_⟩
                  exact q _ H2 Fs2 [] R2 (E1.trans E2) (.val ⟨.int _, fun _ _ _ z => nomatch z⟩) (fun _ z => nomatch z)
            · cases hd
          · cases hd
        | @slot i v2 rs vs Gs2 hv kr =>
          cases kr
          have rr := rfs2 (k1.ev E2) (.slot hv) R2 hds
          unfold pIndexT at hd
          split at hd
          · obtain ⟨x, y, F, G, ee, oa, ob⟩ := rr.two
            cases ee
            split at hd
            · rename_i hp
              cases hj : (List.findIdx? (fun z => PyData.eqv z _) _) with
              | none => rw [hj] at hd; cases hd
              | some j =>
                rw [hj] at hd
                cases hd
                cases oa with
                | tup hq t =>
                  obtain ⟨z, h1, h2, h3⟩ := find_fl ob hp.1 t hp.2 j hj
                  refine ⟨_, _, _, j, z, rfl, rfl, hq, (eqV_eqv ob ob hp.1 hp.1).2.1, fl_flat t hp.2, h1, h2, h3, ?_⟩
                  exact q _ H2 Fs2 [] R2 (E1.trans E2) (.val ⟨.int _, fun _ _ _ z => nomatch z⟩) (fun _ z => nomatch z)
            · cases hd
          · cases hd
  · cases e
theorem so_idxT {ga gb : O} (ho : SimO X o ga) (ha : SimO X e gb)
    (hbase : attributeBase o "index" X.env (eval o X.env) = eval o X.env := by rfl)
    (hfew : ((backTo cpos (starEach [e] X.env)).all (fun x => !x.1) && (backToKw cpos (keywordEach [] X.env)).all (fun x => x.1.isSome)
      && decide (([e] : List Expr).length + ([] : List Keyword).length + (if ([] : List Keyword).isEmpty then 0 else 1) < 30)) = true := by rfl)
    (hline : (apos.endLine == cpos.line) = true := by rfl) (hs : starEach [e] X.env = (false, eval e X.env) :: starEach [] X.env := by rfl) (hplain : (backTo cpos (starEach [] X.env)).any (·.1) = false := by rfl) :
    SimO X (.Call (.Attribute o "index" apos) [e] [] cpos) (oIdxT ga gb) :=
  pe_imp (pe_bmT PySem.F.slot_tuple_index PySem.F.type_tuple_index mt_idxT ho (sa_cons ha sa_nil hs) hbase hfew hline hs hplain) fun _ _ _ h => tO_idxT h
end
def putAll : List Nat → List D → Sg → Sg
  | i :: l, d :: ds, s => putAll l ds (s.set i (some d))
  | _, _, s => s
def sPar (l : List Nat) (g : AL) : S := fun s => (g s).bind fun rs s1 => match owns rs s1 with
  | none => .bad
  | some ds => if ds.length = l.length then .ok .nx (putAll l ds s1) else .bad
section
variable [Tb] [Vs] {X : Cx} {lk : Nat → Bool}
theorem ss_par {i j : Nat} {x y : Str} {a b : Expr} {g : AL} {px py pt pos pt2 : Pos} {kt k2 : Nat} (hc : X.calm = true) (hN : X.N.Nodup) (hi : X.N[i]? = some x) (hj : X.N[j]? = some y) (hij : i ≠ j)
    (hx : X.env.scope.names.lookup x = some .local) (hy : X.env.scope.names.lookup y = some .local) (li : lk i = false) (lj : lk j = false) (ha : SimA X [a, b] g)
    (hw : swappedStores [.Tuple [.Name x px, .Name y py] kt pt] (.Tuple [a, b] k2 pt2) X.env = pure (some [x, y]) := by rfl)
    (hs : swapsWithSole [.Tuple [.Name x px, .Name y py] kt pt] (.Tuple [a, b] k2 pt2) pos.line X.env = pure false := by rfl) (ki : Vs.ok i := by first | exact trivial | assumption | exact ⟨by decide, by decide⟩) (kj : Vs.ok j := by first | exact trivial | assumption | exact ⟨by decide, by decide⟩) :
    SimS X lk (.Assign [.Tuple [.Name x px, .Name y py] kt pt] (.Tuple [a, b] k2 pt2) pos) (sPar [i, j] g) := by
  refine ps_imp (ps_par hc hN hi hj hij hx hy ha hw hs) fun D σ H z => ?_
  obtain ⟨s, Fs, fl, s', R, e, q⟩ := z
  obtain ⟨rs, s1, e1, e⟩ := bind_inv e
  refine ⟨s, Fs, rs, s1, R, e1, fun vs H1 Fs1 Gs R1 E1 k1 n1 => ?_⟩
  split at e
  · cases e
  · rename_i ds hds
    split at e
    · rename_i hl
      cases e
      obtain ⟨oa, dj⟩ := k1.own R1 hds
      match ds, hl with
      | [d1, d2], _ =>
        have gf : ∀ a, a ∈ Gs.flatten → H a = none := fun a ha => by
          obtain ⟨G, hG, hb⟩ := List.mem_flatten.mp ha
          exact n1 G hG a hb
        generalize hGf : Gs.flatten = GF at *
        cases oa with
        | @cons v1 _ _ _ F1 F2' o1 t1 nn =>
          obtain ⟨v2, rfl, o2⟩ := owna1 t1
          refine ⟨v1, v2, rfl, ?_⟩
          obtain ⟨FsA, RA, nA⟩ := R1.put ⟨o1, fun k a hk ha => dj k a hk (List.mem_append_left _ ha)⟩ i ki
          obtain ⟨FsB, RB, nB⟩ := RA.put ⟨o2, fun k a hk ha => by
            rcases nA k a hk with ⟨w, _⟩ | ⟨w, _⟩
            · exact dj k a w (List.mem_append_right _ ha)
            · exact nn a w ha⟩ j kj
          refine q _ H1 FsB RB (Ev.r ⟨E1.chg, fun k a h => ?_⟩) ((Lk.set li).trans (Lk.set lj))
          rcases nB k a h with ⟨w, _⟩ | ⟨w, _⟩
          · rcases nA k a w with ⟨w, _⟩ | ⟨w, _⟩
            · exact E1.new k a w
            · exact .inr (gf a (List.mem_append_left _ w))
          · exact .inr (gf a (List.mem_append_right _ w))
    · cases e
end
end Sim
namespace Sim
open PySem PySem.Spec L2
section
variable [Tb] [Vs] {K : PySem.W.Frag} {H : Hp} {s : Sg} {σ : St} {Fs : Fp} {lk : Nat → Bool}
theorem Rfs.off {rs : List Rf} {vs : List V} {Gs : List (List Addr)} (r : Rfs K H σ Fs rs vs Gs) : ∀ G, G ∈ Gs → ∀ i a, a ∈ Fs i → a ∉ G := by
  induction r with
  | nil => intro G h; cases h
  | val A _ _ ih =>
    intro G h i a ha
    rcases List.mem_cons.mp h with rfl | h
    · exact A.dis i a ha
    · exact ih G h i a ha
  | slot _ _ ih =>
    intro G h i a ha
    rcases List.mem_cons.mp h with rfl | h
    · intro z; cases z
    · exact ih G h i a ha
end
section
variable [Tb] [Vs] {X : Cx} {lk : Nat → Bool} {pos p2 : Pos} {es : List Expr} {g : AL} {x1 : Nat}
end
end Sim
namespace Sim
open PySem PySem.Spec L2
section
open PySem.Calls PySem.NumText PyProof.Rows
def tenL (n : Nat) : List Nat := 49 :: List.replicate n 48
def tenS (n : Nat) : Str := ⟨(tenL n).toArray⟩
section
variable {M : Model} {A : Around} {E : Value → Shared → Prop} {s : Shared}
/-- how many signs a numeral may have: as it was at first -/
def Dg (h : Heap) : Prop := ∃ K : PySem.W.Frag, K.In h ∧ PySem.W.nsIn K cStatics "sys.int_max_str_digits" = some none
theorem intMax_any {Q : Nat → Shared → Prop} (hn : Dg s.heap) (h : Q 4300 s) : wpAny M A Builtin.intMaxStrDigits Q E s := by
  obtain ⟨K, hK, e⟩ := hn
  unfold Builtin.intMaxStrDigits
  exact wpAny_bind ((PySem.W.looks_nsIn hK e).here (wpAny_pure h))
theorem wp_textL {Q : Value → Shared → Prop} {v : Value} {text : List Nat} {n : Int}
    (hs : ¬ (text.takeWhile (· != 0)).length ≤ 640) (hr : (int_private% "readNumeral") 4300 10 (text.takeWhile (· != 0)) = (int_private% "Numeral.value") n)
    (ha : ((text.takeWhile (· != 0)).length == text.length) = true) (hn : Dg s.heap) (h : Q (.int n s.toks) { s with toks := s.toks + 1 }) :
    wpAny M A ((int_private% "intFromText") v text 10) Q E s := by
  obtain ⟨hp, g, d, tk, os⟩ := s
  repeat (any_goals (first
    | assumption
    | (with_reducible refine wpAny_ite_false (decide_eq_false hs) ?_)
    | (with_reducible refine intMax_any hn ?_)
    | (with_reducible refine wpAny_ite_true (decide_eq_true ha) ?_)
    | wp_step))
  all_goals (try rw [hr])
  all_goals (try dsimp only)
  repeat (any_goals (first
    | assumption
    | (with_reducible refine wpAny_ite_true (decide_eq_true ha) ?_)
    | wp_step))
theorem meets_textL {x : PySem.Str} {u : Tok} {n : Int} (hl : ¬ (numSeenOf x).length ≤ 640) (hx : x.length ≤ sizeLine) (hn : PySem.intText? x = some n) : Meets (Builtin.«int.__new__» ⟨[.type "int", .str x u], []⟩) (fun _ R s => Dg s.heap ∧ R (.ok (.ret (.int n s.toks))) { s with toks := s.toks + 1 }) :=
  .of_wp fun prog w A R s h => by
    obtain ⟨hp, g, d, tk, os⟩ := s
    obtain ⟨hd, h⟩ := h
    have f1 := F.conv_sub_int
    have f2 := F.madeHere_int
    have f3 := PySem.W.KIN.str_int
    have f4 := PySem.W.KIN.str_idx
    have f5 := PySem.W.KIN.str_trunc
    have f6 : typeOf (.str x u) = pure (.type "str") := rfl
    have hr : (int_private% "readNumeral") 4300 10 (numSeenOf x) = (int_private% "Numeral.value") n ∧ ((numSeenOf x).length == (numTextOf x).length) = true := by
      rcases read4300 x hx with ⟨m, h1, h2, h3⟩ | ⟨h1, _⟩
      · rw [hn] at h1
        injection h1 with h1
        subst h1
        exact ⟨h3, h2⟩
      · rw [hn] at h1
        cases h1
    have hk := PySem.W.KIN.Hid.mk (And.intro hl hr)
    clear hl hr hn hx
    repeat (any_goals (first
      | assumption
      | ((with_reducible show wpAny _ _ ((int_private% "intFromText") _ _ _) _ _ _); refine wp_textL hk.out.1 hk.out.2.1 hk.out.2.2 hd ?_)
      | wp_step))
    all_goals first | exact ⟨_, rfl, h⟩ | skip
end
theorem ten_take (n : Nat) : (tenL n).takeWhile (· != 0) = tenL n := by
  have : ∀ l : List Nat, (∀ x ∈ l, x ≠ 0) → l.takeWhile (· != 0) = l := by
    intro l
    induction l with
    | nil => intro _; rfl
    | cons a l ih => intro h; rw [List.takeWhile_cons_of_pos (by simpa using h a (by simp)), ih fun x hx => h x (List.mem_cons_of_mem _ hx)]
  refine this _ fun x hx => ?_
  rcases List.mem_cons.mp hx with rfl | hx
  · decide
  · rw [List.eq_of_mem_replicate hx]; decide
theorem ten_text (n : Nat) : numTextOf (tenS n) = tenL n := by
  have : (tenS n).cps.all (· < 128) = true := by
    show (tenL n).toArray.all _ = true
    rw [List.all_toArray]
    refine List.all_eq_true.mpr fun x hx => ?_
    rcases List.mem_cons.mp hx with rfl | hx
    · decide
    · rw [List.eq_of_mem_replicate hx]; decide
  unfold numTextOf
  rw [if_pos this]; rfl
theorem ten_seen (n : Nat) : numSeenOf (tenS n) = tenL n := by
  unfold numSeenOf
  rw [ten_text, ten_take]
theorem ten_fold : ∀ (n : Nat) (a : Array Nat), (List.replicate n 48).foldlM (PySem.NumText.step 10) (a, true) = some (a ++ Array.replicate n 0, true)
  | 0, a => by simp
  | n + 1, a => by
    rw [List.replicate_succ, List.foldlM_cons]
    have : PySem.NumText.step 10 (a, true) 48 = some (a.push 0, true) := rfl
    rw [this]
    show (List.replicate n 48).foldlM (PySem.NumText.step 10) (a.push 0, true) = _
    rw [ten_fold n]
    congr 2
    apply Array.ext'
    simp [List.replicate_succ]
theorem ten_core (n : Nat) : core (tenL n) = tenL n := by
  unfold core
  have h1 : (tenL n).dropWhile blank = tenL n := by
    unfold tenL
    rw [List.dropWhile_cons_of_neg (by decide)]
  rw [h1]
  show ((tenL n).reverse.dropWhile blank).reverse = tenL n
  have h2 : (tenL n).reverse.dropWhile blank = (tenL n).reverse := by
    unfold tenL
    rw [List.reverse_cons, List.reverse_replicate]
    cases n with
    | zero => rfl
    | succ n => rw [List.replicate_succ, List.cons_append, List.dropWhile_cons_of_neg (by decide)]
  rw [h2, List.reverse_reverse]
theorem ten_worth : ∀ (n a : Nat), (List.replicate n 0).foldl (fun acc d => acc * 10 + d) a = a * 10 ^ n
  | 0, a => by simp
  | n + 1, a => by
    rw [List.replicate_succ, List.foldl_cons, ten_worth n, Nat.pow_succ, Nat.add_zero, Nat.mul_assoc, Nat.mul_comm 10]
@[irreducible] def tenN (n : Nat) : Int := ((10 ^ n : Nat) : Int)
theorem ten_int (n : Nat) (h : n + 1 ≤ 4300) : PySem.intText? (tenS n) = some (tenN n) := by
  unfold tenN
  have hd : PySem.NumText.digits? 10 (core (numSeenOf (tenS n))) = some (#[1] ++ Array.replicate n 0) := by
    rw [ten_seen, ten_core]
    unfold PySem.NumText.digits? tenL
    rw [List.foldlM_cons]
    have : PySem.NumText.step 10 (#[], false) 49 = some (#[1], true) := rfl
    rw [this]
    show ((List.replicate n 48).foldlM (PySem.NumText.step 10) (#[1], true)).bind _ = _
    rw [ten_fold]; rfl
  unfold PySem.intText?
  rw [ten_text, ten_seen, if_pos (by simp)]
  rw [ten_seen] at hd
  rw [hd]
  simp only []
  rw [if_pos (by simp; omega)]
  have hs : (sign ((tenL n).dropWhile blank)).1 = false := by
    unfold tenL
    rw [List.dropWhile_cons_of_neg (by decide)]; rfl
  unfold worth
  rw [hs]
  simp only [Bool.false_eq_true, if_false]
  congr 2
  rw [← Array.foldl_toList]
  simp only [Array.toList_append, Array.toList_replicate]
  show (1 :: List.replicate n 0).foldl _ 0 = _
  rw [List.foldl_cons, ten_worth]
  simp
end
def repS (a : Str) (n : Int) : Str := ⟨(List.replicate n.toNat a.cps).foldl (· ++ ·) #[]⟩
def pMulS : List D → Option D
  | [.str a, .int b] => if a.length = 1 ∧ 2 ≤ b ∧ b ≤ 100000 then some (.str (repS a b)) else none
  | _ => none
def pIntTen (n : Nat) : List D → Option D
  | [.str z] => if z = tenS n then some (.int (tenN n)) else none
  | _ => none
section
variable {X : Cx}
theorem op_mulS : OpR X (binaryOp .Mult) (fun x y H Q => ∃ a n, x = .str a ∧ y = .int n ∧ a.length = 1 ∧ 2 ≤ n ∧ n ≤ 100000 ∧ Q (.str (repS a n)) H) := by
  intro pins s σ H x y v u Q I rx ry h
  obtain ⟨a, n, rfl, rfl, ha, h1, h2, q⟩ := h
  obtain ⟨t, rfl⟩ := rx
  obtain ⟨t2, rfl⟩ := ry
  have c0 : (decide (n < -(2 ^ 63 : Int)) || decide (n ≥ 2 ^ 63)) = false := by
    rw [decide_eq_false (by omega), decide_eq_false (by omega)] <;> rfl
  have c1 : (n == 1 || a.length == 0) = false := by
    rw [ha]
    simp
    omega
  have len : ∀ (k : Nat) (acc : Array Nat), ((List.replicate k a.cps).foldl (· ++ ·) acc).size = acc.size + k := by
    intro k
    induction k with
    | zero => intro acc; rfl
    | succ k ih =>
      intro acc
      rw [List.replicate_succ, List.foldl_cons, ih, Array.size_append]
      have : a.cps.size = 1 := ha
      omega
  have hz : (repS a n).length ≤ sizeLine := by
    show ((List.replicate n.toNat a.cps).foldl (· ++ ·) #[]).size ≤ sizeLine
    rw [len, sizeLine_eq]
    simp
    omega
  refine P.mul_str c0 (fun _ _ => ?_) (fun _ _ => ?_) ?_
  · rw [ha]
    have : (1 : Int) ≤ (2 ^ 63 - 1) / n := by
      rw [Int.le_ediv_iff_mul_le (by omega)]
      omega
    omega
  · rw [ha]
    unfold Builtin.Str.tooLong
    rw [sizeLine_eq]
    exact decide_eq_false (by omega)
  · rw [if_neg (by omega), if_neg (by rw [c1]; exact Bool.false_ne_true)]
    exact ⟨hz, .str (repS a n), H, I.tok _, ⟨_, rfl⟩, q⟩
theorem pr_mulS {K : PySem.W.Frag} : PrimR K (u2 fun x y H Q => ∃ a n, x = .str a ∧ y = .int n ∧ a.length = 1 ∧ 2 ≤ n ∧ n ≤ 100000 ∧ Q (.str (repS a n)) H) pMulS := by
  intro vs ds d H Q h e q
  unfold pMulS at e
  split at e
  · obtain ⟨x, y, F, G, rfl, o1, o2⟩ := h.two
    split at e
    · rename_i hc
      cases e
      cases o1
      cases o2
      exact ⟨_, _, rfl, rfl, hc.1, hc.2.1, hc.2.2, q _ _ (.sc (.str _))⟩
    · cases e
  · cases e
open PySem.Calls PySem.NumText PyProof.Rows in
theorem call_int_ten (hd : PySem.W.nsIn X.K cStatics "sys.int_max_str_digits" = some none) (n : Nat) (h1 : 640 ≤ n) (h2 : n ≤ 4200) : CallR X (.type "int") (fun xs H Q => xs = [.str (tenS n)] ∧ Q (.int (tenN n)) H) := by
  intro pins s σ H xs us Q I rs h
  obtain ⟨rfl, q⟩ := h
  cases rs with
  | cons r1 rs =>
    cases rs
    obtain ⟨t, rfl⟩ := r1
    have e := ten_int n (by omega)
    have hl : ¬ (numSeenOf (tenS n)).length ≤ 640 := by
      rw [ten_seen]
      unfold tenL
      rw [List.length_cons, List.length_replicate]; omega
    have hx : (tenS n).length ≤ sizeLine := by
      show (tenL n).toArray.size ≤ sizeLine
      rw [List.size_toArray, sizeLine_eq]
      unfold tenL
      rw [List.length_cons, List.length_replicate]; omega
    exact call_int_1 (meets_textL hl hx e) ⟨⟨X.K, I.kIn, hd⟩, rfl, .int _, H, I.tok _, ⟨_, rfl⟩, q⟩
theorem pr_intTen {K : PySem.W.Frag} (n : Nat) : PrimR K (fun xs H Q => xs = [.str (tenS n)] ∧ Q (.int (tenN n)) H) (pIntTen n) := by
  intro vs ds d H Q h e q
  unfold pIntTen at e
  split at e
  · obtain ⟨x, F, rfl, o⟩ := h.one
    split at e
    · rename_i hc
      subst hc
      cases e
      cases o
      exact ⟨rfl, q _ _ (.sc (.int _))⟩
    · cases e
  · cases e
def oTen (n : Nat) : O := oPrim (pIntTen n) (aCons (o2 pAdd (oC (.str "1")) (o2 pMulS (oC (.str "0")) (oC (.int (n : Int))))) aNil)
theorem rep_len : ∀ (k : Nat) (acc : Array Nat), (List.replicate k (#[48] : Array Nat)).foldl (· ++ ·) acc = acc ++ (List.replicate k 48).toArray
  | 0, acc => by simp
  | k + 1, acc => by
    rw [List.replicate_succ, List.foldl_cons, rep_len k, List.replicate_succ]
    apply Array.ext'
    simp
theorem rep_eq (n : Nat) : repS ⟨#[48]⟩ n = ⟨(List.replicate n 48).toArray⟩ := by
  unfold repS
  rw [rep_len, Int.toNat_natCast]
  simp
theorem ten_eq (n : Nat) (h : n + 1 ≤ 1000000) : pAdd [.str "1", .str (repS "0" n)] = some (.str (tenS n)) := by
  have h0 : ("0" : Str) = ⟨#[48]⟩ := by decide +kernel
  have h1 : ("1" : Str) = ⟨#[49]⟩ := by decide +kernel
  rw [h0, h1, rep_eq]
  have l2 : (⟨(List.replicate n 48).toArray⟩ : Str).length = n := by
    show (List.replicate n 48).toArray.size = n
    rw [List.size_toArray, List.length_replicate]
  have l1 : (⟨#[49]⟩ : Str).length = 1 := rfl
  show (if (⟨#[49]⟩ : Str).length + (⟨(List.replicate n 48).toArray⟩ : Str).length ≤ 1000000 then some (PyData.str (_ ++ _)) else none) = _
  rw [l2, l1, if_pos (by omega)]
  refine congrArg (fun z => some (PyData.str z)) ?_
  show (⟨#[49] ++ (List.replicate n 48).toArray⟩ : Str) = ⟨(49 :: List.replicate n 48).toArray⟩
  congr 1
  apply Array.ext'
  simp
theorem ev_ten (n : Nat) (h1 : 2 ≤ n) (h2 : n ≤ 100000) (s : Sg) : oTen n s = .ok (.val (.int (tenN n))) s := by
  have h0 : ("0" : Str).length = 1 := by decide +kernel
  have m : pMulS [.str "0", .int (n : Int)] = some (.str (repS "0" n)) := by
    show (if ("0" : Str).length = 1 ∧ 2 ≤ (n : Int) ∧ (n : Int) ≤ 100000 then some (PyData.str (repS "0" n)) else none) = _
    rw [if_pos ⟨h0, by omega, by omega⟩]
  have t : pIntTen n [.str (tenS n)] = some (.int (tenN n)) := by
    show (if tenS n = tenS n then some (PyData.int (tenN n)) else none) = _
    rw [if_pos rfl]
  have t2 := ten_eq n (by omega)
  unfold oTen
  rw [ev_prim, ev_aCons, ev_o2, ev_oC, ev_ok, ev_consK, ev_aCons, ev_o2, ev_oC, ev_ok, ev_consK, ev_aCons, ev_oC, ev_ok, ev_consK, ev_aNil, ev_ok, ev_consK2, ev_ok, ev_consK2, ev_ok, ev_primK]
  rw [rds_cons, rd_val, rds_cons, rd_val, rds_nil, rdsK_some, rdsK_some, ev_primK2, m, ev_primK3, ev_ok, ev_consK, ev_aNil, ev_ok, ev_consK2, ev_ok, ev_consK2, ev_ok, ev_primK]
  rw [rds_cons, rd_val, rds_cons, rd_val, rds_nil, rdsK_some, rdsK_some, ev_primK2, t2, ev_primK3, ev_ok, ev_consK, ev_aNil, ev_ok, ev_consK2, ev_ok, ev_primK]
  rw [rds_cons, rd_val, rds_nil, rdsK_some, ev_primK2, t, ev_primK3]
end
end Sim
namespace Sim
open PySem PySem.Spec L2
section
variable [Tb] [Vs] {X : Cx} {K : PySem.W.Frag} {lk : Nat → Bool}
end
end Sim
namespace Sim
open PySem PySem.Spec L2
section
variable {K : PySem.W.Frag} {H : Hp}
end
section
variable [Tb] [Vs] {X : Cx}
end
end Sim
namespace Sim
open PySem PySem.Spec L2
open Sem (wp)
section
variable {prog : Program} {w : World} {A : Around} {E : Value → Shared → Prop} {s : Shared} {z TI TO i1 i2 : Addr} {fp1 fp2 : List Addr} {n1 n2 i : Nat} {P1 P2 : Nat → Value → Prop} {St1 St2 : Nat → Heap → Prop} {a1 a2 : Value} {f : Value} {b : Bool}
end
end Sim
namespace Sim
open PySem PySem.Spec L2
open Sem (wp)
end Sim
namespace Sim
open PySem PySem.Spec L2
open Sem (wp)
section
variable {prog : Program} {w : World} {A : Around} {E : Value → Shared → Prop} {k l : Bool} {z TI TO i1 i2 a b S : Addr} {xs ys : Array Value} {n0 : Nat}
/-- all but these stands -/
def KeepBut (fp : List Addr) (s s' : Shared) : Prop := (∀ c o, c ∉ fp → s.heap.get? c = some o → s'.heap.get? c = some o) ∧ s'.gens = s.gens ∧ s'.drawn = s.drawn ∧ s'.os = s.os
theorem KeepBut.trans {fp : List Addr} {s s' s'' : Shared} (h : KeepBut fp s s') (h' : KeepBut fp s' s'') : KeepBut fp s s'' :=
  ⟨fun c o q e => h'.1 c o q (h.1 c o q e), h'.2.1.trans h.2.1, h'.2.2.1.trans h.2.2.1, h'.2.2.2.trans h.2.2.2⟩
end
end Sim
namespace Sim
open PySem PySem.Spec L2 PySem.SeqAt
mutual
def flat : D → List Int
  | .int i => [i]
  | .tuple ds => flats ds
  | _ => []
def flats : List D → List Int
  | [] => []
  | d :: ds => flat d ++ flats ds
end
mutual
/-- of one shape, numbers within -/
def alike : D → D → Bool
  | .int _, .int _ => true
  | .tuple ds, .tuple es => alikes ds es
  | _, _ => false
def alikes : List D → List D → Bool
  | [], [] => true
  | d :: ds, e :: es => alike d e && alikes ds es
  | _, _ => false
end
mutual
/-- how deep, 0 a number -/
def deepD : D → Nat
  | .tuple ds => 1 + deepsD ds
  | _ => 0
def deepsD : List D → Nat
  | [] => 0
  | d :: ds => max (deepD d) (deepsD ds)
end
mutual
def Rn (h : Heap) : D → Value → Prop
  | .int i, v => ∃ t, v = .int i t
  | .tuple ds, v => ∃ a o xs n, v = .ref a ∧ h.get? a = some o ∧ o.cls = .type "tuple" ∧ o.data = .seq xs n ∧ Rns h ds xs.toList
  | _, _ => False
def Rns (h : Heap) : List D → List Value → Prop
  | [], [] => True
  | d :: ds, v :: vs => Rn h d v ∧ Rns h ds vs
  | _, _ => False
end
theorem Rns.len : ∀ {h : Heap} {ds : List D} {vs : List Value}, Rns h ds vs → vs.length = ds.length
  | _, [], [], _ => rfl
  | _, d :: ds, v :: vs, r => congrArg (· + 1) (Rns.len r.2)
  | _, [], _ :: _, r => r.elim
  | _, _ :: _, [], r => r.elim
/-- keeps all tuples -/
def KeepT (h h' : Heap) : Prop := ∀ b o, h.get? b = some o → o.cls = .type "tuple" → h'.get? b = some o
mutual
theorem Rn.keep {h h' : Heap} (k : KeepT h h') : ∀ {d : D} {v : Value}, Rn h d v → Rn h' d v
  | .int _, _, r => r
  | .tuple ds, _, ⟨a, o, xs, n, e, ho, hc, hd, r⟩ => ⟨a, o, xs, n, e, k a o ho hc, hc, hd, Rns.keep k r⟩
  | .none, _, r | .bool _, _, r | .str _, _, r | .list _, _, r | .dict _, _, r => r.elim
theorem Rns.keep {h h' : Heap} (k : KeepT h h') : ∀ {ds : List D} {vs : List Value}, Rns h ds vs → Rns h' ds vs
  | [], [], _ => trivial
  | _ :: _, _ :: _, r => ⟨Rn.keep k r.1, Rns.keep k r.2⟩
  | [], _ :: _, r => r.elim
  | _ :: _, [], r => r.elim
end
mutual
theorem Rn.inj {h : Heap} : ∀ {d d' : D} {v : Value}, Rn h d v → Rn h d' v → d = d'
  | .int i, d', v, ⟨t, e⟩, r' => by
    subst e
    cases d' with
    | int j => obtain ⟨u, e⟩ := r'; cases e; rfl
    | tuple es => obtain ⟨a, o, xs, n, e, _⟩ := r'; cases e
    | _ => exact r'.elim
  | .tuple ds, d', v, ⟨a, o, xs, n, e, ho, hc, hd, r⟩, r' => by
    subst e
    cases d' with
    | int j => obtain ⟨u, e⟩ := r'; cases e
    | tuple es =>
      obtain ⟨a', o', xs', n', e', ho', hc', hd', r'⟩ := r'
      cases e'
      rw [ho] at ho'
      cases ho'
      rw [hd] at hd'
      cases hd'
      rw [Rns.inj r r']
    | _ => exact r'.elim
  | .none, _, _, r, _ | .bool _, _, _, r, _ | .str _, _, _, r, _ | .list _, _, _, r, _ | .dict _, _, _, r, _ => r.elim
theorem Rns.inj {h : Heap} : ∀ {ds ds' : List D} {vs : List Value}, Rns h ds vs → Rns h ds' vs → ds = ds'
  | [], [], _, _, _ => rfl
  | d :: ds, d' :: ds', v :: vs, r, r' => by rw [Rn.inj r.1 r'.1, Rns.inj r.2 r'.2]
  | [], _ :: _, [], _, r' => r'.elim
  | [], _ :: _, _ :: _, r, _ => r.elim
  | _ :: _, [], [], r, _ => r.elim
  | _ :: _, [], _ :: _, _, r' => r'.elim
  | _ :: _, _ :: _, [], r, _ => r.elim
end
theorem Rns.at {h : Heap} : ∀ {ds : List D} {vs : List Value}, Rns h ds vs → ∀ (j : Nat) (l : j < vs.length) (l2 : j < ds.length), Rn h ds[j] vs[j]
  | d :: ds, v :: vs, r, 0, _, _ => r.1
  | d :: ds, v :: vs, r, j + 1, l, l2 => Rns.at r.2 j (by simpa using l) (by simpa using l2)
  | [], [], _, _, l, _ => absurd l (by simp)
  | [], _ :: _, r, _, _, _ => r.elim
  | _ :: _, [], r, _, _, _ => r.elim
section
variable {prog : Program} {w : World} {A : Around} {s : Shared}
end
end Sim
namespace Sim
open PySem PySem.Spec L2 PySem.SeqAt SrtO
section
variable {prog : Program} {w : World} {A : Around} {s : Shared}
end
section
variable {α : Type}
end
/-- what can be sorted so: tuples, not empty, of one shape, not deep -/
def okN : List D → Bool
  | [] => true
  | d :: ds => (match d with | .tuple (_ :: _) => true | _ => false) && decide (deepD d ≤ 8) && (d :: ds).all fun e => alike d e
section
variable {X : Cx} {pins : List (Addr × Obj)} {σ : St} {H : Hp} {s : Shared}
theorem OwnA.at1 {K : PySem.W.Frag} {H : Hp} : ∀ {ds : List D} {vs : List V}, OwnA K H ds vs [] → ∀ (us : List Value), Vals vs us → ∀ u ∈ us, ∃ d ∈ ds, ∃ v, RelV v u ∧ Own K H d v []
  | [], _, h, us, r, u, hu => by
    cases h
    cases r
    cases hu
  | d :: ds, v :: vs, h, _, r, u, hu => by
    obtain ⟨o1, o2⟩ := OwnA.nil2 h
    cases r with
    | cons r1 r2 =>
      rcases List.mem_cons.mp hu with rfl | hu
      · exact ⟨d, List.mem_cons_self .., v, r1, o1⟩
      · obtain ⟨d', m, v', r', o'⟩ := OwnA.at1 o2 _ r2 u hu
        exact ⟨d', List.mem_cons_of_mem _ m, v', r', o'⟩
open Classical in
end
end Sim
namespace Sim
open PySem PySem.Spec L2 PySem.SeqAt SrtO
section
variable {X : Cx} {pins : List (Addr × Obj)} {σ : St} {H : Hp} {s : Shared}
end
section
variable {k l : Bool} {a b : Addr} {xs ys : Array Value}
end
end Sim
namespace Sim
open PySem PySem.Spec L2 PySem.SeqAt SrtO
section
variable {prog : Program} {w : World} {A : Around} {E : Value → Shared → Prop} {s : Shared} {k l : Bool} {z TI TO i1 i2 a b : Addr} {xs ys : Array Value}
end
end Sim
namespace Sim
open PySem PySem.Spec L2 PySem.SeqAt SrtO
def seqLT : D → Option (List D)
  | .list ds => some ds
  | .tuple ds => some ds
  | .dict [(.none, .list ds)] => some ds
  | _ => none
section
variable {X : Cx} {e e2 : Expr} {ta : TA} {p pos p2 pos2 : Pos}
end
end Sim
namespace Sim
open PySem PySem.Spec L2 PySem.SeqAt SrtO
section
variable [Tb] [Vs] {X : Cx} {e e2 : Expr} {ta : TA} {p pos p2 pos2 : Pos}
variable {g : AL}
end
end Sim
namespace Sim
open PySem PySem.Spec L2
section
variable [Tb] [Vs] {X : Cx}
theorem so_globI {x : Str} {i : Int} {t : Tok} {pos : Pos} (hg : Gl X x) (hm : X.mg x = some (.int i t)) (hd : (x == ("__debug__" : Str)) = false := by decide) : SimO X (.Name x pos) (oC (.int i)) :=
  pe_imp (pe_glob (v := .int i) hg hm ⟨t, rfl⟩ hd) fun _ _ _ h => tO_c (fun _ => .int i) h
end
end Sim
namespace Sim
open PySem PySem.Spec L2
def dd : List Int → List Int
  | [] => []
  | x :: xs => if x ∈ xs then dd xs else x :: dd xs
section
variable [Tb] [Vs] {X : Cx} {a : Expr} {ta : TA} {p p2 q pos : Pos}
variable {ga : AL}
end
end Sim
namespace Sim
open PySem PySem.Spec L2
mutual
def cnt : D → Nat
  | .tuple xs => cnts xs
  | .int _ => 1
  | .none => 1
  | .bool _ => 1
  | .str _ => 1
  | .list _ => 1
  | .dict _ => 1
def cnts : List D → Nat
  | [] => 0
  | x :: xs => cnt x + 1 + cnts xs
end
section
variable {X : Cx}
end
end Sim
namespace Sim
open PySem PySem.Spec L2
structure FnOkG (P : Program) (w : World) (K : PySem.W.Frag) (mg : Str → Option Value) (base : Heap) (k : Nat) (f : Addr) (fd : FuncData) (ps : List Str) (sp : Sp) : Prop where
  len : ∀ vs H Q E, sp vs H Q E → vs.length = ps.length
  run : ∀ (A : Around) (outer : List Env) (s : Shared) (H : Hp) (args : Args) (us : List Value) (vs : List V) (Q : VK) (E : XK), A.guards = some [] → Room k A → Env0 P w K mg base A outer s H →
    BindsTo s fd args (ps.zip us) → Vals vs us → sp vs H Q E → codeAny (model P w) A (.call (.ref f) args) (CR CX0 outer P w H s Q E) s
theorem FnOkG.of {P : Program} {w : World} {K : PySem.W.Frag} {mg : Str → Option Value} {base : Heap} {k : Nat} {f : Addr} {fd : FuncData} {ps : List Str} {sp : Sp} (F : FnOk P w K mg base CX0 k f fd ps sp) : FnOkG P w K mg base k f fd ps sp :=
  ⟨F.len, fun A outer s H args us vs Q E _ hr e0 hb r h => F.run A outer s H args us vs Q E hr e0 hb r h⟩
section
variable [Tb] {P : Program} {w : World} {K : PySem.W.Frag} {mg : Str → Option Value} {base : Heap}
end
section
open PyProof.Rows
end
end Sim
namespace Sim
open PySem PySem.Spec L2
section
variable [Tb] [Vs] {X : Cx} {K : PySem.W.Frag}
end
end Sim
namespace Sim
open PySem PySem.Spec L2
section
variable [Tb] [Vs] {X : Cx} {e : Expr} {x : Str} {p apos cpos : Pos} {tab : List (Int × Int)} {a : Addr}
end
end Sim
namespace Sim
open PySem PySem.Spec L2
section
variable {X : Cx}
end
end Sim
namespace Sim
open PySem PySem.Spec L2
section
variable [Tb] [Vs] {X : Cx} {pos : Pos}
inductive SelOk (X : Cx) (n : Nat) : List Addr → List Fn → Prop
  | nil : SelOk X n [] []
  | cons {k : Nat} {f : Addr} {fd : FuncData} {ps : List Str} {fn : Fn} {as : List Addr} {fns : List Fn} : FnOk X.prog X.w X.K X.mg X.base CX0 k f fd ps (spF X.K n fn) → Room k X.A → PySem.W.keepIn X.K (.ref f) = true → Binds X.K fd ps [] → (∀ ds r as, fn ds = .ok r as → ds.length = n) → SelOk X n as fns → SelOk X n (f :: as) (fn :: fns)
theorem SelOk.get {n : Nat} {as : List Addr} {fns : List Fn} (h : SelOk X n as fns) : ∀ {i : Nat} {fn : Fn}, fns[i]? = some fn → ∃ k f fd ps, as[i]? = some f ∧ FnOk X.prog X.w X.K X.mg X.base CX0 k f fd ps (spF X.K n fn) ∧ Room k X.A ∧ PySem.W.keepIn X.K (.ref f) = true ∧ Binds X.K fd ps [] ∧ (∀ ds r as, fn ds = .ok r as → ds.length = n) := by
  induction h with
  | nil => intro i fn e; simp at e
  | cons a b c d e _ ih =>
    intro i fn e'
    cases i with
    | zero => cases e'; exact ⟨_, _, _, _, rfl, a, b, c, d, e⟩
    | succ i => exact ih e'
end
end Sim
namespace Sim
open PySem PySem.Spec L2
section
variable [Tb] [Vs] {X : Cx} {k : Nat} {f : Addr} {fd : FuncData} {ps : List Str} {fn : Fn} {x : Str} {p pos : Pos}
end
end Sim
namespace Sim
open PySem PySem.Spec L2
def okM2 : List Nat → List D → Bool
  | [], [] => true
  | m :: ms, d :: ds => (m == 0 || m == 2 || pur d) && okM2 ms ds
  | _, _ => false
def mkFn2 (ms : List Nat) (i n : Nat) (g : S) : Fn := fun ds => if okM2 ms ds = true then (match (ds[i]?).bind fun d => pList [d] with
    | none => .bad
    | some d' => (match g ((ds.map some ++ List.replicate (n - ds.length) none).set i (some d')) with
      | .ok fl s => (match coll ms ds 0 s with
        | none => .bad
        | some as => (match fl with
          | .nx => .ok .none as
          | .rt d => .ok d as
          | _ => .bad))
      | .exc c v _ => .exc c v
      | .bad => .bad)) else .bad
theorem okM2_len : ∀ {ms : List Nat} {ds : List D}, okM2 ms ds = true → ds.length = ms.length
  | [], [], _ => rfl
  | m :: ms, d :: ds, h => by
    simp only [okM2, Bool.and_eq_true] at h
    rw [List.length_cons, List.length_cons, okM2_len h.2]
  | [], _ :: _, h => by simp [okM2] at h
  | _ :: _, [], h => by simp [okM2] at h
theorem mkFn2_len {ms : List Nat} {i n : Nat} {g : S} {ds : List D} {r : D} {as : List D} (h : mkFn2 ms i n g ds = .ok r as) : ds.length = ms.length := by
  unfold mkFn2 at h
  split at h
  · rename_i hk
    exact okM2_len hk
  · cases h
section
variable [Tb] [Vs] {K : PySem.W.Frag} {H H' : Hp}
theorem coll_own2 {Fs' : Fp} {s : Sg} {σ' : St} (R : RelS K H' s σ' Fs') : ∀ {ms : List Nat} {ds : List D} {vs : List V} {Fl : List (List Addr)} {as : List D} (j : Nat),
    OwnLs K H ds vs Fl → okM2 ms ds = true → coll ms ds j s = some as → (∀ i, i < ms.length → ms[i]? = some 0 → σ'[j + i]? = (vs[i]?).map some) → (∀ i a, a ∈ Fs' (j + i) → ms[i]? = some 0 → a ∈ Fl.getD i [] ∨ H a = none) →
    (∀ (l m : Nat) (d : D) (v : V) (F : List Addr), ms[l]? = some m → m ≠ 0 → ds[l]? = some d → vs[l]? = some v → Fl[l]? = some F → Own K H' d v F) →
    (∀ (l m : Nat) (F : List Addr), ms[l]? = some m → m ≠ 0 → Fl[l]? = some F → ∀ i a, a ∈ Fs' i → a ∉ F) →
    ∃ Fl', OwnLs K H' as vs Fl' ∧ NewL H Fl Fl' ∧ ∀ G, G ∈ Fl' → ∀ a, a ∈ G → (∃ i, j ≤ i ∧ ms[i - j]? = some 0 ∧ a ∈ Fs' i) ∨ ∃ (l m : Nat) (F : List Addr), ms[l]? = some m ∧ m ≠ 0 ∧ Fl[l]? = some F ∧ a ∈ F := by
  intro ms
  induction ms with
  | nil =>
    intro ds vs Fl as j o ok e L n k1 k2
    cases ds with
    | cons _ _ => simp [okM2] at ok
    | nil =>
      simp only [coll] at e
      cases e
      cases o
      exact ⟨[], .nil, trivial, by simp⟩
  | cons m ms ih =>
    intro ds vs Fl as j o ok e L n k1 k2
    cases ds with
    | nil => simp [okM2] at ok
    | cons d ds =>
      simp only [okM2, Bool.and_eq_true] at ok
      simp only [coll] at e
      split at e
      · cases e
      · rename_i as' hc
        cases o with
        | @cons _ v F _ vs Fl o1 n1 o =>
          obtain ⟨Fl', h1, h2, h3⟩ := ih (j + 1) o ok.2 hc (fun i hi hm => by
            have := L (i + 1) (by simpa using hi) (by simpa using hm)
            rw [show j + 1 + i = j + (i + 1) by omega, this]
            simp) (fun i a ha hi => by
            have := n (i + 1) a (by rw [show j + (i + 1) = j + 1 + i by omega]; exact ha) (by simpa using hi)
            simpa using this) (fun l q d v F a b c e f => k1 (l + 1) q d v F (by simpa using a) b (by simpa using c) (by simpa using e) (by simpa using f))
            (fun l q F a b c => k2 (l + 1) q F (by simpa using a) b (by simpa using c))
          have h3' : ∀ G, G ∈ Fl' → ∀ a, a ∈ G → (∃ i, j < i ∧ (m :: ms)[i - j]? = some 0 ∧ a ∈ Fs' i) ∨ ∃ (l q : Nat) (F0 : List Addr), (m :: ms)[l + 1]? = some q ∧ q ≠ 0 ∧ Fl[l]? = some F0 ∧ a ∈ F0 := fun G hG a ha => by
            rcases h3 G hG a ha with ⟨i, q1, q2, q3⟩ | ⟨l, q, F0, q1, q2, q3, q4⟩
            · refine .inl ⟨i, by omega, ?_, q3⟩
              rw [show i - j = (i - (j + 1)) + 1 by omega, List.getElem?_cons_succ]
              exact q2
            · exact .inr ⟨l, q, F0, by simpa using q1, q2, q3, q4⟩
          have wk : ∀ G, G ∈ Fl' → ∀ a, a ∈ G → (∃ i, j ≤ i ∧ (m :: ms)[i - j]? = some 0 ∧ a ∈ Fs' i) ∨ ∃ (l q : Nat) (F0 : List Addr), (m :: ms)[l]? = some q ∧ q ≠ 0 ∧ (F :: Fl)[l]? = some F0 ∧ a ∈ F0 := fun G hG a ha => by
            rcases h3' G hG a ha with ⟨i, q1, q2, q3⟩ | ⟨l, q, F0, q1, q2, q3, q4⟩
            · exact .inl ⟨i, Nat.le_of_lt q1, q2, q3⟩
            · exact .inr ⟨l + 1, q, F0, q1, q2, by simpa using q3, q4⟩
          split at e
          · rename_i hm
            subst hm
            split at e
            · cases e
            · rename_i d' hd'
              cases e
              obtain ⟨v', hv', o'⟩ := R.has j d' (join_some hd')
              have := L 0 (by simp) rfl
              rw [Nat.add_zero, hv'] at this
              simp at this
              subst this
              refine ⟨Fs' j :: Fl', .cons o' (fun G hG a ha hb => ?_) h1, ⟨fun a ha => ?_, h2⟩, fun G hG a ha => ?_⟩
              · rcases h3' G hG a hb with ⟨i, q1, _, q3⟩ | ⟨l, q, F0, q1, q2, q3, q4⟩
                · have := R.dis j i a ha q3
                  omega
                · exact k2 (l + 1) q F0 q1 q2 (by simpa using q3) j a ha q4
              · have := n 0 a (by simpa using ha) (by simp)
                simpa using this
              · rcases List.mem_cons.mp hG with rfl | hG
                · exact .inl ⟨j, Nat.le_refl _, by simp, ha⟩
                · exact wk G hG a ha
          · rename_i hm
            cases e
            refine ⟨F :: Fl', .cons (k1 0 m d v F (by simp) hm (by simp) (by simp) (by simp)) (fun G hG a ha hb => ?_) h1, ⟨fun a ha => .inl ha, h2⟩, fun G hG a ha => ?_⟩
            · rcases h3' G hG a hb with ⟨i, q1, _, q3⟩ | ⟨l, q, F0, q1, q2, q3, q4⟩
              · exact k2 0 m F (by simp) hm (by simp) i a q3 ha
              · exact n1 F0 (List.mem_of_getElem? q3) a ha q4
            · rcases List.mem_cons.mp hG with rfl | hG
              · exact .inr ⟨0, m, _, by simp, hm, by simp, ha⟩
              · exact wk G hG a ha
theorem OwnLs.get {K : PySem.W.Frag} {H : Hp} : ∀ {ds : List D} {vs : List V} {Fl : List (List Addr)}, OwnLs K H ds vs Fl → ∀ {i : Nat} {d : D}, ds[i]? = some d → ∃ v F, vs[i]? = some v ∧ Fl[i]? = some F ∧ Own K H d v F
  | _, _, _, .cons (v := v) (F := F) o n r, 0, d', e => by
    simp at e
    subst e
    exact ⟨v, F, rfl, rfl, o⟩
  | _, _, _, .cons o n r, i + 1, d', e => by
    obtain ⟨v, F, h1, h2, h3⟩ := r.get (i := i) (by simpa using e)
    exact ⟨v, F, by simpa using h1, by simpa using h2, h3⟩
theorem OwnLs.lenF {K : PySem.W.Frag} {H : Hp} {ds : List D} {vs : List V} {Fl : List (List Addr)} (o : OwnLs K H ds vs Fl) : Fl.length = ds.length := by
  induction o with
  | nil => rfl
  | cons _ _ _ ih => rw [List.length_cons, List.length_cons, ih]
theorem OwnLs.pure_at2 {K : PySem.W.Frag} {H : Hp} : ∀ {ms : List Nat} {ds : List D} {vs : List V} {Fl : List (List Addr)}, OwnLs K H ds vs Fl → okM2 ms ds = true → ∀ i m, ms[i]? = some m → m ≠ 0 → m ≠ 2 → Fl.getD i [] = []
  | m :: ms, d :: ds, _, _, o, ok, 0, q, h, h0, h2 => by
    cases o with
    | @cons _ _ F _ _ Fl o1 n1 o =>
      simp at h
      subst h
      simp only [okM2, Bool.and_eq_true, Bool.or_eq_true, beq_iff_eq] at ok
      have hp : pur d = true := by
        rcases ok.1 with (z | z) | z
        · exact absurd z h0
        · exact absurd z h2
        · exact z
      simpa using o1.pur hp
  | m :: ms, d :: ds, _, _, o, ok, i + 1, q, h, h0, h2 => by
    cases o with
    | @cons _ _ F _ _ Fl o1 n1 o =>
      simp only [okM2, Bool.and_eq_true] at ok
      have := OwnLs.pure_at2 o ok.2 i q (by simpa using h) h0 h2
      simpa using this
  | [], _ :: _, _, _, _, ok, _, _, _, _, _ => by simp [okM2] at ok
  | _ :: _, [], _, _, _, ok, _, _, _, _, _ => by simp [okM2] at ok
  | [], [], _, _, o, _, i, q, h, _, _ => by simp at h
def rList (K : PySem.W.Frag) : List V → Hp → VK → Prop := fun xs H Q => ∃ p ys, xs = [V.ref p] ∧ (SqL K H p ys ∨ SqT K H p ys) ∧ ∀ l, H l = none → Q (.ref l) (upd H l (.lst ys))
end
theorem one2 {ms : List Nat} {i : Nat} (h : (List.range ms.length).all (fun j => ms.getD j 0 != 2 || j == i) = true) : ∀ j, ms[j]? = some 2 → j = i := fun j e => by
  have hj := (List.getElem?_eq_some_iff.mp e).1
  have := List.all_eq_true.mp h j (List.mem_range.mpr hj)
  rw [List.getD_eq_getElem?_getD, e] at this
  simpa using this
section
variable [Tb] {P : Program} {w : World} {K : PySem.W.Frag} {mg : Str → Option Value} {base : Heap}
theorem fn_sim2 {x qual : Str} {st fs : Stmt} {rest : List Stmt} {f : Addr} {fd : FuncData} {N ps : List Str} {ms : List Nat} {n k i : Nat} {g : S} (F : Fun K x qual st f fd) (Sc : FnScope N ps (defScope st)) (hn : N.length = n) (hm : ms.length = ps.length)
    (hbd : defBody st = fs :: rest) (hi : ms[i]? = some 2) (h2 : ∀ j, ms[j]? = some 2 → j = i)
    (h1 : ∀ (cdv : Value) (A : Around) (outer : List Env) (s : Shared) (H : Hp) (E : XK), Room k (A.deeper (PyProof.Rows.envOfC qual (defScope st) s.heap.objs.size f cdv)) →
      PS (cxOf CX0 P w K mg base N qual (defScope st) f cdv A outer s H E).nox fs (tAsg (tCB (rList K) (tCons (tVar i) tNil)) (gName i)))
    (hb : ∀ (cdv : Value) (A : Around) (outer : List Env) (s : Shared) (H : Hp) (E : XK), Room k (A.deeper (PyProof.Rows.envOfC qual (defScope st) s.heap.objs.size f cdv)) →
      SimSs (cxOf CX0 P w K mg base N qual (defScope st) f cdv A outer s H E).nox (lkM ms) rest g) : FnOk P w K mg base CX0 (k + 1) f fd ps (spF K ps.length (mkFn2 ms i n g)) := by
  refine F.ok Sc (fun vs H Q E h => ?_) (fun cdv A outer s H vs Q E hr h => ⟨_, by rw [hbd]; exact pss_cons (h1 cdv A outer s H E hr) (hb cdv A outer s H E hr), ?_⟩)
  · obtain ⟨ds, Fl, r, as, hf, hl, _⟩ := h
    exact hl
  · obtain ⟨ds, Fl, r, as, hf, hl, tt, ol, q⟩ := h
    unfold mkFn2 at hf
    split at hf
    · rename_i hok
      have hlm := okM2_len hok
      split at hf
      · cases hf
      · rename_i d1 hd1
        obtain ⟨d0, hd0, hp0⟩ := Option.bind_eq_some_iff.mp hd1
        obtain ⟨v0, F0, hv0, hF0, o0⟩ := ol.get hd0
        split at hf
        · rename_i fl s' hg
          split at hf
          · cases hf
          · rename_i as' hc
            have est : L2.start N vs = vs.map some ++ List.replicate (n - ds.length) none := by
              unfold L2.start
              rw [hn, ← ol.len]
            have R0 := relS_start tt ol (n - ds.length)
            rw [est]
            have hiv : i < vs.length := (List.getElem?_eq_some_iff.mp hv0).1
            show ∃ v, (vs.map some ++ List.replicate (n - ds.length) none)[i]? = some (some v) ∧ rList K [v] H fun x H1 => tS K (lkM ms) g { nx := fun _ H' => Q .non H', rt := Q } ((vs.map some ++ List.replicate (n - ds.length) none).set i (some x)) H1
            refine ⟨v0, by rw [List.getElem?_append_left (by simpa using hiv), List.getElem?_map, hv0]; rfl, ?_⟩
            unfold rList
            refine pr_list (K := K) [v0] [d0] d1 H (fun x H1 => tS K (lkM ms) g { nx := fun _ H' => Q .non H', rt := Q } ((vs.map some ++ List.replicate (n - ds.length) none).set i (some x)) H1) (.cons o0 .nil) hp0 fun v2 H2 hnew => ?_
            have R1 := R0.drop i (d0 := d0) (by rw [List.getElem?_append_left (by rw [List.length_map, ← ol.len]; exact hiv), List.getElem?_map, hd0]; rfl)
            obtain ⟨R2, E2, F2, k2, n2⟩ := hnew.ok R1
            cases k2 with
            | val A2 =>
              obtain ⟨Fs3, R3, n3⟩ := R2.put A2 i trivial
              rw [List.set_set] at R3
              refine ⟨_, Fs3, fl, s', R3, hg, ?_⟩
              have sub3 : ∀ j a, a ∈ Fs3 j → (a ∈ Fl.getD j [] ∧ j ≠ i) ∨ (H a = none ∧ j = i) := fun j a h => by
                rcases n3 j a h with ⟨z, z2⟩ | ⟨z, z2⟩
                · refine .inl ⟨?_, z2⟩
                  unfold upF at z
                  rw [if_neg z2] at z
                  exact z
                · exact .inr ⟨n2 a z, z2⟩
              have disF : ∀ j a, a ∈ Fs3 j → a ∉ F0 := fun j a h hb => by
                rcases sub3 j a h with ⟨z, z2⟩ | ⟨z, _⟩
                · refine z2 (R0.dis j i a z ?_)
                  show a ∈ Fl.getD i []
                  rw [List.getD_eq_getElem?_getD, hF0]
                  exact hb
                · obtain ⟨xs, y⟩ := o0.mem a hb
                  rw [z] at y; cases y
              have fin : ∀ {σ' : St} {H' : Hp} {Fs' : Fp}, RelS K H' s' σ' Fs' → EvR (lkM ms) H2 Fs3 H' Fs' → Lk (lkM ms) ((vs.map some ++ List.replicate (n - ds.length) none).set i (some v2)) σ' →
                  ∃ Fl', OwnLs K H' as' vs Fl' ∧ NewL H Fl Fl' ∧ (Chg (fun a => ∃ G, G ∈ Fl ∧ a ∈ G) H H') ∧ ∀ G, G ∈ Fl' → ∀ a, a ∈ G → (∃ i, lkM ms i = true ∧ a ∈ Fs' i) ∨ a ∈ F0 := by
                intro σ' H' Fs' R' E' L'
                have c3 : Chg (InF Fs3) H H' := (Chg.same hnew.1).trans E'.chg
                have c2 : Chg (fun a => ∃ G, G ∈ Fl ∧ a ∈ G) H H' := c3.mono fun a ob ho ⟨j, hj⟩ => by
                  rcases sub3 j a hj with ⟨y, _⟩ | ⟨y, _⟩
                  · obtain ⟨G, hG, ha⟩ := getD_of y
                    exact ⟨G, List.mem_of_getElem? hG, ha⟩
                  · rw [ho] at y; cases y
                have non : ∀ (l m : Nat) (F : List Addr), ms[l]? = some m → m ≠ 0 → Fl[l]? = some F → F = [] ∨ (l = i ∧ F = F0) := fun l m F a b c => by
                  by_cases hm2 : m = 2
                  · have := h2 l (by rw [a, hm2])
                    subst this
                    rw [hF0] at c
                    cases c
                    exact .inr ⟨rfl, rfl⟩
                  · have := ol.pure_at2 hok l m a b hm2
                    rw [List.getD_eq_getElem?_getD, c] at this
                    exact .inl this
                have dis' : ∀ j a, a ∈ Fs' j → a ∉ F0 := fun j a h hb => by
                  rcases E'.new j a h with (z | z) | ⟨_, k, _, z⟩
                  · exact disF j a z hb
                  · obtain ⟨xs, y⟩ := o0.mem a hb
                    rw [E2.chg.there a z] at y; cases y
                  · exact disF k a z hb
                obtain ⟨Fl', g1, g2, g3⟩ := coll_own2 (Fs' := Fs') R' 0 ol hok hc (fun j hj h0 => by
                    have hne : i ≠ j := fun e => by rw [e] at hi; rw [hi] at h0; cases h0
                    have := L' j (by unfold lkM; rw [h0]; rfl)
                    rw [Nat.zero_add, this, List.getElem?_set_ne hne, List.getElem?_append_left (by rw [List.length_map, ol.len, hlm]; exact hj), List.getElem?_map]) (fun j a ha h0 => by
                    have hne : j ≠ i := fun e => by rw [← e] at hi; rw [hi] at h0; cases h0
                    rw [Nat.zero_add] at ha
                    rcases E'.new j a ha with (z | z) | ⟨z, _⟩
                    · rcases sub3 j a z with ⟨y, _⟩ | ⟨y, y2⟩
                      · exact .inl y
                      · exact absurd y2 hne
                    · exact .inr (E2.chg.there a z)
                    · unfold lkM at z
                      rw [h0] at z
                      cases z) (fun l m d v F a b c e f => by
                    obtain ⟨v', F', e1, e2, o'⟩ := ol.get c
                    rw [e] at e1
                    rw [f] at e2
                    cases e1
                    cases e2
                    refine o'.chg c3 fun x hx ⟨j, hj⟩ => ?_
                    rcases non l m F a b f with rfl | ⟨_, rfl⟩
                    · cases hx
                    · exact disF j x hj hx) (fun l m F a b c j x hj hx => by
                    rcases non l m F a b c with rfl | ⟨_, rfl⟩
                    · cases hx
                    · exact dis' j x hj hx)
                refine ⟨Fl', g1, g2, c2, fun G hG a ha => ?_⟩
                rcases g3 G hG a ha with ⟨j, _, q2, q3⟩ | ⟨l, m, F, q1, q2, q3, q4⟩
                · exact .inl ⟨j, by unfold lkM; rw [Nat.sub_zero] at q2; rw [q2]; rfl, q3⟩
                · rcases non l m F q1 q2 q3 with rfl | ⟨_, rfl⟩
                  · cases q4
                  · exact .inr q4
              have lki : lkM ms i = false := by unfold lkM; rw [hi]; rfl
              cases fl with
              | nx =>
                cases hf
                intro σ' H' Fs' R' E' L'
                obtain ⟨Fl', g1, g2, c2, _⟩ := fin R' E'.r L'
                exact q .non H' Fl' [] g1 c2 g2 .non (by simp) (by simp)
              | rt d =>
                cases hf
                intro v σ' H' Fs' F' R' E' L' o nn m
                obtain ⟨Fl', g1, g2, c2, g3⟩ := fin R' E' L'
                have fr : ∀ a, a ∈ F' → H a = none := fun a ha => by
                  rcases nn a ha with z | ⟨j, hj, z⟩
                  · exact E2.chg.there a z
                  · rcases sub3 j a z with ⟨y, y2⟩ | ⟨y, _⟩
                    · exfalso
                      obtain ⟨G, hG, hGa⟩ := getD_of y
                      have hjl : j < ms.length := by
                        have := (List.getElem?_eq_some_iff.mp hG).1
                        have l2 : Fl.length = ds.length := ol.lenF
                        omega
                      have e1 := List.getElem?_eq_getElem hjl
                      have n0 : ms[j] ≠ 0 := fun e0 => by
                        unfold lkM at hj
                        rw [e1, e0] at hj
                        cases hj
                      by_cases h22 : ms[j] = 2
                      · exact y2 (h2 j (by rw [e1, h22]))
                      · rw [ol.pure_at2 hok j _ e1 n0 h22] at y
                        cases y
                    · exact y
                refine q v H' Fl' F' g1 c2 g2 o fr fun G hG a ha hb => ?_
                rcases g3 G hG a ha with ⟨j, hj, q3⟩ | z
                · exact m j a hj q3 hb
                · obtain ⟨xs, y⟩ := o0.mem a z
                  rw [fr a hb] at y; cases y
              | bk => cases hf
              | ct => cases hf
        · cases hf
        · cases hf
    · cases hf
end
end Sim
namespace Sim
open PySem PySem.Spec L2
section
open PyProof.Rows
variable {prog : Program} {w : World} {A : Around} {E : Value → Shared → Prop} {s : Shared}
theorem sliceApplied_one {sl : Addr} {vs : Value} {n : Nat} {Q : Int × Int × Nat → Shared → Prop} (hs : s.heap.IsSliceOf sl .none .none vs) (ps : IsPart vs (some 1))
    (h : Q (0, 1, n) s) : wpAny (model prog w) A (Builtin.Slice.sliceApplied (.ref sl) (pure (n : Int))) Q E s := by
  obtain ⟨os, hos, hcs, hds⟩ := id hs
  unfold Builtin.Slice.sliceApplied Builtin.Slice.sliceFields
  refine wpAny_bind (wpAny_bind (wpAny_field hos hds (x := .none) rfl (wpAny_bind (wpAny_field hos hds (x := .none) rfl (wpAny_bind (wpAny_field hos hds (x := vs) rfl (wpAny_pure ?_)))))))
  refine wpAny_bind (HT.slicePart_ ps ?_)
  show wpAny _ _ (if ((1 : Int) == 0) = true then _ else _) _ _ s
  rw [if_neg (by decide)]
  refine wpAny_bind (slicePart_none (wpAny_bind (slicePart_none (wpAny_bind (wpAny_pure ?_)))))
  have e1 : Builtin.Slice.sliceAdjust none none 1 (n : Int) = (0, (n : Int)) := by
    unfold Builtin.Slice.sliceAdjust; simp
  have e2 : Builtin.Slice.slicePlaces 0 (n : Int) 1 = n := by
    unfold Builtin.Slice.slicePlaces
    simp only [show (1 : Int) > 0 by omega, if_true, Int.ediv_one]
    split <;> omega
  show wpAny _ _ (match Builtin.Slice.sliceAdjust none none 1 (n : Int) with | (lo, hi) => pure (lo, (1 : Int), Builtin.Slice.slicePlaces lo hi 1)) _ _ s
  rw [e1]
  show wpAny _ _ (pure ((0 : Int), (1 : Int), Builtin.Slice.slicePlaces 0 (n : Int) 1)) _ _ s
  rw [e2]
  exact wpAny_pure h
theorem getItem_tuple_one {t sl : Addr} {items : Array Value} {vs : Value} {Q : Value → Shared → Prop} (ht : IsTup s.heap t items) (hs : s.heap.IsSliceOf sl .none .none vs) (ps : IsPart vs (some 1))
    (h : Q (.ref t) s) : wpAny (model prog w) A (getItem (.ref t) (.ref sl)) Q E s := by
  obtain ⟨os, hos, hcs, hds⟩ := id hs
  have hTs : s.TypeIs (.ref sl) "slice" := ⟨os, hos, hcs⟩
  unfold getItem
  try with_reducible refine wpAny_holding ?_
  first | refine wpAny_bind (wpAny_pure ?_) | skip
  refine wpAny_bind (wpAny_sequenceKey ht.typeIs (by decide) ?_)
  refine wpAny_bind (wpAny_callSpecial?_slot (name := Str.ofString "__getitem__") ht.typeIs PyProof.Rows.slot_tuple_getitem
    (wpAny_call_entry PyProof.Rows.slot_tuple_getitem ht.typeIs entry_tuple_getitem ?_ (args_tuple_getitem _ _)))
  show wpAny _ _ (Builtin.Tuple.tupleItemsOf (.ref t) >>= _) _ _ s
  refine wpAny_bind (tupleItemsOf_ ht ?_)
  refine wpAny_bind (wpAny_typeOf hTs ?_)
  rw [if_pos (by decide)]
  refine wpAny_bind (sliceApplied_one hs ps ?_)
  have hyes : (((0 : Int)) == 0 && (1 : Int) == 1 && items.size == items.size) = true := by simp
  show wpAny _ _ (if (((0 : Int)) == 0 && (1 : Int) == 1 && items.size == items.size) = true then _ else _) _ _ s
  rw [if_pos hyes]
  refine wpAny_bind ?_
  show wpAny _ _ (typeOf (.ref t) >>= fun T => pure (T == .type "tuple")) _ _ s
  refine wpAny_bind (wpAny_typeOf ht.typeIs (wpAny_pure ?_))
  first
    | rw [if_pos (by decide)]
    | simp only [beq_self_eq_true, if_true]
  first
    | exact wpAny_bind (wpAny_rule (wpAny_pure ⟨_, rfl, wpAny_pure h⟩))
    | exact wpAny_bind (wpAny_rule (wpAny_bind (wpAny_pure (wpAny_pure ⟨_, rfl, wpAny_pure h⟩))))
    | exact wpAny_bind (wpAny_bind (wpAny_rule (wpAny_pure ⟨_, rfl, wpAny_pure h⟩)))
end
def stE : D → Option Int → Option D
  | .tuple ds, some 1 => if purs ds = true then some (.tuple ds) else none
  | .tuple ds, some (-1) => if purs ds = true ∧ ds.length ≤ 1000000 then some (.tuple ds.reverse) else none
  | _, _ => none
def oStE (g : O) (st : Option O) : O := fun s => (g s).bind fun r s1 => (prt none s1).bind fun l s2 => (prt none s2).bind fun u s3 => (prt st s3).bind fun t s4 => match rd r s4 with
  | none => .bad
  | some d => match stE d t with
    | none => .bad
    | some d' => .ok (.val d') s4
section
variable [Tb] [Vs] {X : Cx} {a : Expr} {ga : O} {pos p2 : Pos}
theorem stE_inv {d d' : D} {k : Option Int} (h : stE d k = some d') : (∃ ds, d = .tuple ds ∧ k = some 1 ∧ d' = .tuple ds ∧ purs ds = true) ∨ (∃ ds, d = .tuple ds ∧ k = some (-1) ∧ d' = .tuple ds.reverse ∧ purs ds = true ∧ ds.length ≤ 1000000) := by
  unfold stE at h
  split at h
  · split at h
    · rename_i hp
      cases h
      exact .inl ⟨_, rfl, rfl, rfl, hp⟩
    · cases h
  · split at h
    · rename_i hp
      cases h
      exact .inr ⟨_, rfl, rfl, rfl, hp⟩
    · cases h
  · cases h
theorem so_stE {st : Expr} {t : Option O} (ha : SimO X a ga) (hs : SimP X (some st) t) : SimO X (.Subscript a (.Slice none none (some st) p2) pos) (oStE ga t) := by
  have hl : SimP X none none := sp_none
  have hu : SimP X none none := sp_none
  refine ⟨fun pins s σ H Q I z => ?_⟩
  obtain ⟨sg, Fs, rf, sg', R, e, q⟩ := z
  obtain ⟨r, g1, e1, e⟩ := bind_inv e
  obtain ⟨l', g2, e2, e⟩ := bind_inv e
  obtain ⟨u', g3, e3, e⟩ := bind_inv e
  obtain ⟨t', g4, e4, e⟩ := bind_inv e
  have e2' : Res.ok none g1 = Res.ok l' g2 := e2
  have e3' : Res.ok none g2 = Res.ok u' g3 := e3
  have w2 : l' = none := by cases e2'; rfl
  have w3 : u' = none := by cases e3'; rfl
  refine PyProof.Rows.Subscript_ (thn (ha.run pins s σ H (fun v H1 => ∃ Fs1 F, RelS X.K H1 g1 σ Fs1 ∧ Ev H Fs H1 Fs1 ∧ RfOk X.K H1 σ Fs1 r v F) I ⟨sg, Fs, r, g1, R, e1, fun v H1 Fs1 F R1 E1 k1 n1 => ⟨Fs1, F, R1, E1, k1⟩⟩) fun v s1 ⟨x, H1, I1, r1, Fs1, F, R1, E1, k1⟩ => ?_)
  refine wpAny_Slice (thn (hl.run pins s1 σ H1 (fun o H2 => o = l' ∧ ∃ Fs2, RelS X.K H2 g2 σ Fs2 ∧ Ev H1 Fs1 H2 Fs2) I1 ⟨g1, Fs1, l', g2, R1, e2, fun H2 Fs2 R2 E2 => ⟨rfl, Fs2, R2, E2⟩⟩) fun vl s2 ⟨o1, H2, I2, pl, eo1, Fs2, R2, E2⟩ => ?_)
  subst eo1
  refine thn (hu.run pins s2 σ H2 (fun o H3 => o = u' ∧ ∃ Fs3, RelS X.K H3 g3 σ Fs3 ∧ Ev H2 Fs2 H3 Fs3) I2 ⟨g2, Fs2, u', g3, R2, e3, fun H3 Fs3 R3 E3 => ⟨rfl, Fs3, R3, E3⟩⟩) fun vu s3 ⟨o2, H3, I3, pu, eo2, Fs3, R3, E3⟩ => ?_
  subst eo2
  refine thn (hs.run pins s3 σ H3 (fun o H4 => o = t' ∧ ∃ Fs4, RelS X.K H4 g4 σ Fs4 ∧ Ev H3 Fs3 H4 Fs4) I3 ⟨g3, Fs3, t', g4, R3, e4, fun H4 Fs4 R4 E4 => ⟨rfl, Fs4, R4, E4⟩⟩) fun vs s4 ⟨o3, H4, I4, ps, eo3, Fs4, R4, E4⟩ => ?_
  subst eo3
  split at e
  · cases e
  · rename_i d hd
    split at e
    · cases e
    · rename_i d' hd'
      cases e
      obtain ⟨F', o⟩ := (((k1.ev E2).ev E3).ev E4).dp R4 hd
      rcases stE_inv hd' with ⟨ds, rfl, rfl, rfl, hp⟩ | ⟨ds, rfl, rfl, rfl, hp⟩
      · ·
          cases o with
          | @tup ad xs _ _ hx tt =>
            have e0 := tt.pur hp
            subst e0
            cases r1
            have I5 : Inv X pins σ H4 { s4 with heap := s4.heap.push { cls := .type "slice", data := .fields #[vl, vu, vs] } } := I4.kept (t' := s4.toks) fun b ob q => Heap.get?_push_of_some _ q
            obtain ⟨its, rr, ht, hz⟩ := I5.tuple hx.sq
            rw [w2] at pl
            rw [w3] at pu
            cases pl
            cases pu
            show wpAny (model X.prog X.w) X.A (PyProof.Rows.subscriptTail a (.Slice none none (some st) p2) (.ref ad) (.ref s4.heap.objs.size)) (EP X pins σ Q) X.xe { s4 with heap := s4.heap.push { cls := .type "slice", data := .fields #[.none, .none, vs] } }
            refine PyProof.Rows.tail_any (ops := [.ref ad, .ref s4.heap.objs.size]) ht.typeIs (PyProof.Rows.slot_tuple_getitem.lookup) ?_ (by with_unfolding_all rfl)
            refine getItem_tuple_one ht (Heap.IsSliceOf.new _ .none .none vs) ps ?_
            have fr := (((E1.trans E2).trans E3).trans E4)
            refine ⟨.ref ad, H4, I5, rfl, ?_⟩
            obtain ⟨R5, E5, F5, k5, n5⟩ := (NewV.sc (K := X.K) (d := .tuple ds) (v := .ref ad) (H := H4) (.tup hx tt)).ok R4
            exact q _ _ Fs4 F5 R5 (fr.trans E5) k5 fun a ha => fr.chg.there a (n5 a ha)
      · ·
          cases o with
          | @tup ad xs _ _ hx tt =>
            have e0 := tt.pur hp.1
            subst e0
            cases r1
            have I5 : Inv X pins σ H4 { s4 with heap := s4.heap.push { cls := .type "slice", data := .fields #[vl, vu, vs] } } := I4.kept (t' := s4.toks) fun b ob q => Heap.get?_push_of_some _ q
            obtain ⟨its, rr, ht, hz⟩ := I5.tuple hx.sq
            have hlen := rr.length
            rw [w2] at pl
            rw [w3] at pu
            cases pl
            cases pu
            show wpAny (model X.prog X.w) X.A (PyProof.Rows.subscriptTail a (.Slice none none (some st) p2) (.ref ad) (.ref s4.heap.objs.size)) (EP X pins σ Q) X.xe { s4 with heap := s4.heap.push { cls := .type "slice", data := .fields #[.none, .none, vs] } }
            refine PyProof.Rows.tail_any (ops := [.ref ad, .ref s4.heap.objs.size]) ht.typeIs (PyProof.Rows.slot_tuple_getitem.lookup) ?_ (by with_unfolding_all rfl)
            refine getItem_tuple_rev ht (Heap.IsSliceOf.new _ .none .none vs) ps ?_ (by rw [← hlen]; exact hz)
            have ll : xs.reverse.length ≤ sizeLine := by rw [List.length_reverse]; exact hz
            refine lay_tup (t' := s4.toks) I5 (vals_rev rr) ll fun p ob hpn hd => ?_
            have nv : NewV X.K H4 (.tuple ds.reverse) (.ref p) (upd H4 p (.frz ob (.tup xs.reverse))) := .tup (owna_rev tt hp.1) hpn hd
            obtain ⟨R5, E5, F5, k5, n5⟩ := nv.ok R4
            have fr := (((E1.trans E2).trans E3).trans E4)
            exact q _ _ Fs4 F5 R5 (fr.trans E5) k5 fun a ha => fr.chg.there a (n5 a ha)
end
end Sim
namespace Sim
open PySem PySem.Spec L2
def pMulV : List D → Option D
  | [.str a, .int b] => if a.length = 1 ∧ 0 ≤ b ∧ b ≤ 600 then some (.str (repS a b)) else none
  | _ => none
def pIntS : List D → Option D
  | [.str a] => if a.length ≤ 640 then (PySem.intText? a).map .int else none
  | _ => none
section
variable {X : Cx}
theorem op_mulV : OpR X (binaryOp .Mult) (fun x y H Q => ∃ a n, x = .str a ∧ y = .int n ∧ a.length = 1 ∧ 0 ≤ n ∧ n ≤ 600 ∧ Q (.str (repS a n)) H) := by
  intro pins s σ H x y v u Q I rx ry h
  by_cases hn : 2 ≤ (match y with | .int n => n | _ => 0)
  · obtain ⟨a, n, rfl, rfl, ha, h1, h2, q⟩ := h
    exact op_mulS pins s σ H _ _ v u Q I rx ry ⟨a, n, rfl, rfl, ha, hn, by omega, q⟩
  · obtain ⟨a, n, rfl, rfl, ha, h1, h2, q⟩ := h
    have hn' : ¬ 2 ≤ n := hn
    obtain ⟨t, rfl⟩ := rx
    obtain ⟨t2, rfl⟩ := ry
    have c0 : (decide (n < -(2 ^ 63 : Int)) || decide (n ≥ 2 ^ 63)) = false := by
      rw [decide_eq_false (by omega), decide_eq_false (by omega)] <;> rfl
    by_cases h0 : n < 1
    · have e0 : n = 0 := by omega
      subst e0
      refine P.mul_str c0 (fun z _ => absurd h0 z) (fun z _ => absurd h0 z) ?_
      rw [if_pos h0]
      exact ⟨by decide, .str Str.empty, H, I.tok _, ⟨_, rfl⟩, q⟩
    · have e0 : n = 1 := by omega
      subst e0
      have c1 : (((1 : Int) == 1) || a.length == 0) = true := rfl
      refine P.mul_str c0 (fun _ z => by rw [c1] at z; cases z) (fun _ z => by rw [c1] at z; cases z) ?_
      rw [if_neg h0, if_pos c1]
      have er : repS a 1 = a := by
        unfold repS
        show (⟨#[] ++ a.cps⟩ : Str) = a
        rw [Array.empty_append]
      rw [er] at q
      exact ⟨.str a, H, I, ⟨_, rfl⟩, q⟩
theorem pr_mulV {K : PySem.W.Frag} : PrimR K (u2 fun x y H Q => ∃ a n, x = .str a ∧ y = .int n ∧ a.length = 1 ∧ 0 ≤ n ∧ n ≤ 600 ∧ Q (.str (repS a n)) H) pMulV := by
  intro vs ds d H Q h e q
  unfold pMulV at e
  split at e
  · obtain ⟨x, y, F, G, rfl, o1, o2⟩ := h.two
    split at e
    · rename_i hc
      cases e
      cases o1
      cases o2
      exact ⟨_, _, rfl, rfl, hc.1, hc.2.1, hc.2.2, q _ _ (.sc (.str _))⟩
    · cases e
  · cases e
theorem pr_intS {K : PySem.W.Frag} : PrimR K (fun xs H Q => ∃ a n, xs = [V.str a] ∧ PySem.intText? a = some n ∧ a.length ≤ 640 ∧ Q (.int n) H) pIntS := by
  intro vs ds d H Q h e q
  unfold pIntS at e
  split at e
  · obtain ⟨x, F, rfl, o⟩ := h.one
    split at e
    · rename_i hc
      obtain ⟨n, hn, e⟩ := Option.map_eq_some_iff.mp e
      subst e
      cases o
      exact ⟨_, _, rfl, hn, hc, q _ _ (.sc (.int _))⟩
    · cases e
  · cases e
end
def oTenV (g : O) : O := oPrim pIntS (aCons (o2 pAdd (oC (.str "1")) (o2 pMulV (oC (.str "0")) g)) aNil)
theorem ev_tenV {g : O} {s s1 : Sg} {r : Rf} {n : Nat} (h : g s = .ok r s1) (hr : rd r s1 = some (.int (n : Int))) (h2 : n ≤ 600) : oTenV g s = .ok (.val (.int (tenN n))) s1 := by
  have h0 : ("0" : Str).length = 1 := by decide +kernel
  have m : pMulV [.str "0", .int (n : Int)] = some (.str (repS "0" n)) := by
    show (if ("0" : Str).length = 1 ∧ 0 ≤ (n : Int) ∧ (n : Int) ≤ 600 then some (PyData.str (repS "0" n)) else none) = _
    rw [if_pos ⟨h0, by omega, by omega⟩]
  have tl : (tenS n).length ≤ 640 := by
    show (tenL n).toArray.size ≤ 640
    rw [List.size_toArray]
    unfold tenL
    rw [List.length_cons, List.length_replicate]; omega
  have t : pIntS [.str (tenS n)] = some (.int (tenN n)) := by
    show (if (tenS n).length ≤ 640 then (PySem.intText? (tenS n)).map PyData.int else none) = _
    rw [if_pos tl, ten_int n (by omega)]
    rfl
  have t2 := ten_eq n (by omega)
  unfold oTenV
  rw [ev_prim, ev_aCons, ev_o2, ev_oC, ev_ok, ev_consK, ev_aCons, ev_o2, ev_oC, ev_ok, ev_consK, ev_aCons, h, ev_ok, ev_consK, ev_aNil, ev_ok, ev_consK2, ev_ok, ev_consK2, ev_ok, ev_primK]
  rw [rds_cons, rd_val, rds_cons, hr, rds_nil, rdsK_some, rdsK_some, ev_primK2, m, ev_primK3, ev_ok, ev_consK, ev_aNil, ev_ok, ev_consK2, ev_ok, ev_consK2, ev_ok, ev_primK]
  rw [rds_cons, rd_val, rds_cons, rd_val, rds_nil, rdsK_some, rdsK_some, ev_primK2, t2, ev_primK3, ev_ok, ev_consK, ev_aNil, ev_ok, ev_consK2, ev_ok, ev_primK]
  rw [rds_cons, rd_val, rds_nil, rdsK_some, ev_primK2, t, ev_primK3]
end Sim
namespace Sim
open PySem PySem.Spec L2
section
open PySem.Calls PySem.NumText PyProof.Rows
@[irreducible] def ninN (n : Nat) : Int := ((10 ^ n : Nat) : Int) - 1
end
end Sim
namespace Sim
open PySem PySem.Spec L2
section
variable [Tb] [Vs] {X : Cx} {e : Expr} {ga : O}
end
end Sim
namespace Sim
open PySem PySem.Spec L2
mutual
/-- no text within -/
def noTx : NestedKey → Bool
  | .none => true
  | .num _ => true
  | .text _ => false
  | .tup ks => noTxs ks
def noTxs : List NestedKey → Bool
  | [] => true
  | k :: ks => noTx k && noTxs ks
end
def tupN : NestedKey → Bool
  | .tup _ => true
  | _ => false
def kOk (k : NestedKey) : Bool := tupN k && noTx k && decide (k.depth ≤ 8)
theorem kOk_dp {k : NestedKey} (h : kOk k = true) : k.depth ≤ 8 := by
  unfold kOk at h
  simp only [Bool.and_eq_true, decide_eq_true_eq] at h
  exact h.2
theorem kOk_tup {k : NestedKey} (h : kOk k = true) : ∃ ks, k = .tup ks := by
  unfold kOk at h
  simp only [Bool.and_eq_true] at h
  cases k with
  | tup ks => exact ⟨ks, rfl⟩
  | _ => exact absurd h.1.1 (by simp [tupN])
abbrev NE := NestedKey × Addr × V
def getE (es : List NE) (k : NestedKey) : Option V := (es.find? fun e => decide (e.1 = k)).map fun e => e.2.2
def putE (es : List NE) (k : NestedKey) (b : Addr) (v : V) : List NE :=
  if (es.any fun e => decide (e.1 = k)) = true then es.map (fun e => if e.1 = k then (e.1, e.2.1, v) else e) else es ++ [(k, b, v)]
section
variable {X : Cx} {pins : List (Addr × Obj)} {σ : St} {H : Hp} {s : Shared}
mutual
theorem key_is (I : L2.Inv X pins σ H s) : ∀ (k : NestedKey) {v : V} {F : List Addr} {u : Value}, Own X.K H (nkD k) v F → RelV v u → NestedIs s.heap k u
  | .none, v, F, u, o, r => by
    rw [nkD] at o
    cases o
    obtain rfl : u = Value.none := r
    exact .none
  | .num i, v, F, u, o, r => by
    rw [nkD] at o
    cases o
    obtain ⟨t, rfl⟩ := (show ∃ t, u = Value.int i t from r)
    exact .int i t
  | .text x, v, F, u, o, r => by
    rw [nkD] at o
    cases o
    obtain ⟨t, rfl⟩ := (show ∃ t, u = Value.str x t from r)
    exact .text x t
  | .tup ks, v, F, u, o, r => by
    rw [nkD] at o
    cases o with
    | tup h t =>
      rename_i a xs
      obtain rfl : u = Value.ref a := r
      obtain ⟨its, rr, ⟨ob, ho, hc, n, hd⟩, _⟩ := I.tuple h.sq
      exact .tup ho hc hd (keys_are I ks t rr)
theorem keys_are (I : L2.Inv X pins σ H s) : ∀ (ks : List NestedKey) {vs : List V} {F : List Addr} {us : List Value}, OwnA X.K H (nkDs ks) vs F → Vals vs us → NestedAll s.heap ks us
  | [], vs, F, us, o, r => by
    rw [nkDs] at o
    cases o
    cases r
    exact .nil
  | k :: ks, vs, F, us, o, r => by
    rw [nkDs] at o
    cases o with
    | cons o t n =>
      cases r with
      | cons r1 r2 => exact .cons (key_is I k o r1) (keys_are I ks t r2)
end
abbrev EX : List NE → List (NestedKey × Addr × Value) → Prop := Paired fun p q => p.1 = q.1 ∧ p.2.1 = q.2.1 ∧ RelV p.2.2 q.2.2
theorem EX.fst : ∀ {es : List NE} {xs : List (NestedKey × Addr × Value)}, EX es xs → es.map (fun e => e.1) = xs.map fun x => x.1
  | _, _, .nil => rfl
  | _, _, .cons h t => by rw [List.map_cons, List.map_cons, h.1, EX.fst t]
theorem EX.get {k : NestedKey} : ∀ {es : List NE} {xs : List (NestedKey × Addr × Value)}, EX es xs → RelO (getE es k) ((atKey xs k).map (·.2))
  | _, _, .nil => True.intro
  | e :: es, x :: xs, .cons h t => by
    have ih := EX.get (k := k) t
    unfold getE atKey at ih ⊢
    rw [List.find?_cons, List.find?_cons]
    by_cases c : e.1 = k
    · have c' : x.1 = k := h.1.symm.trans c
      rw [decide_eq_true c, decide_eq_true c']
      exact h.2.2
    · have c' : ¬ x.1 = k := fun z => c (h.1.trans z)
      rw [decide_eq_false c, decide_eq_false c']
      exact ih
theorem EX.any {k : NestedKey} {es : List NE} {xs : List (NestedKey × Addr × Value)} (h : EX es xs) : (es.any fun e => decide (e.1 = k)) = (atKey xs k).isSome := by
  induction h with
  | nil => rfl
  | @cons e x es xs h t ih =>
    unfold atKey at ih ⊢
    rw [List.any_cons, List.find?_cons, ih]
    by_cases c : e.1 = k
    · have c' : x.1 = k := h.1.symm.trans c
      rw [decide_eq_true c, decide_eq_true c']; rfl
    · have c' : ¬ x.1 = k := fun z => c (h.1.trans z)
      rw [decide_eq_false c, decide_eq_false c']; rfl
theorem EX.put {k : NestedKey} {b : Addr} {v : V} {u : Value} (r : RelV v u) {es : List NE} {xs : List (NestedKey × Addr × Value)} (h : EX es xs) : EX (putE es k b v) (storedH xs k b u) := by
  unfold putE storedH
  rw [h.any]
  split
  · rename_i hc0
    clear hc0
    induction h with
    | nil => exact .nil
    | @cons e x es xs h t ih =>
      rw [List.map_cons, List.map_cons]
      refine .cons ?_ ih
      unfold putAt
      by_cases c : e.1 = k
      · rw [if_pos c, if_pos (h.1.symm.trans c)]; exact ⟨h.1, h.2.1, r⟩
      · rw [if_neg c, if_neg (fun z => c (h.1.trans z))]; exact h
  · exact Paired.snoc h ⟨rfl, rfl, r⟩
theorem EX.mem : ∀ {es : List NE} {xs : List (NestedKey × Addr × Value)}, EX es xs → ∀ x, x ∈ xs → ∃ e, e ∈ es ∧ e.1 = x.1 ∧ e.2.1 = x.2.1
  | _, _, .nil, x, h => by cases h
  | p :: es, q :: xs, .cons hh t, x, hx => by
    rcases List.mem_cons.mp hx with rfl | hx
    · exact ⟨p, List.mem_cons_self .., hh.1, hh.2.1⟩
    · obtain ⟨e, h1, h2⟩ := EX.mem t x hx
      exact ⟨e, List.mem_cons_of_mem _ h1, h2⟩
end
end Sim
namespace Sim
open PySem PySem.Spec L2
/-- the value y is the key k -/
structure KeyN (K : PySem.W.Frag) (H : Hp) (k : NestedKey) (y : V) : Prop where
  own : Own K H (nkD k) y []
  ok : kOk k = true
theorem KeyN.ref {K : PySem.W.Frag} {H : Hp} {k : NestedKey} {y : V} (h : KeyN K H k y) : ∃ b, y = .ref b := by
  obtain ⟨o, ok⟩ := h
  obtain ⟨ks, rfl⟩ := kOk_tup ok
  rw [nkD] at o
  cases o with
  | tup _ _ => exact ⟨_, rfl⟩
section
variable {X : Cx} {pins : List (Addr × Obj)} {σ : St} {H : Hp} {s : Shared}
theorem KeyN.is {k : NestedKey} {b : Addr} (I : L2.Inv X pins σ H s) (h : KeyN X.K H k (.ref b)) : (nestedKind X.prog X.w).is s.heap k b := ⟨key_is I k h.own rfl, kOk_dp h.ok⟩
variable {o e : Expr} {es : List Expr} {to : TE} {t : TA} {name : Str} {apos cpos : Pos} {id : String} {r : V → List V → Hp → VK → Prop}
end
end Sim
namespace SimSrt
open PySem PyProof.Rows Srt SrtO
section
variable {prog : Program} {w : World} {A : Around} {E : Value → Shared → Prop} {s : Shared}
end
end SimSrt
namespace Sim
open PySem PySem.Spec L2
open PyProof.Rows hiding St
section
variable {X : Cx} {pins : List (Addr × Obj)} {σ : St} {H : Hp} {s : Shared}
end
end Sim
namespace Sim
open PySem PySem.Spec L2
open PyProof.Rows hiding St
section
variable {prog : Program} {w : World} {A : Around} {E : Value → Shared → Prop} {s : Shared}
end
section
variable {X : Cx} {pins : List (Addr × Obj)} {σ : St} {H : Hp} {s : Shared}
end
section
variable {P : Program} {w : World} {K : PySem.W.Frag} {tg : Expr} {d : Addr} {o : Obj} {ents : Array DictEntry} {ep : Nat}
end
section
variable {X : Cx} {tg e : Expr} {td : TE} {apos cpos : Pos}
end
end Sim
namespace Sim
open PySem PySem.Spec L2
section
variable {K : PySem.W.Frag}
end
section
variable [Tb] [Vs] {X : Cx} {a b : Expr} {ga gb : O} {pos : Pos}
end
section
variable [Tb] [Vs] {X : Cx} {K : PySem.W.Frag} {σ : St} {H : Hp} {Q : VK}
end
end Sim
namespace Sim
open PySem PySem.Spec L2
section
variable [Tb] [Vs] {K : PySem.W.Frag} {H H' : Hp} {s : Sg} {σ : St} {Fs : Fp}
end
section
variable {K : PySem.W.Frag} {H H' : Hp}
theorem KeyN.chg [Tb] {Fa : Addr → Prop} (c : Chg Fa H H') {k : NestedKey} {y : V} (h : KeyN K H k y) : KeyN K H' k y := ⟨h.own.chg c (fun _ z => by cases z), h.ok⟩
end
section
variable [Tb] [Vs] {X : Cx} {lk : Nat → Bool} {pos : Pos} {ga gb : O} {e : Expr}
end
section
variable [Tb] [Vs] {X : Cx} {K : PySem.W.Frag} {σ : St} {H : Hp} {Q : VK}
end
end Sim
namespace Sim
open PySem PySem.Spec L2
section
variable [Tb] [Vs] {X : Cx} {K : PySem.W.Frag}
variable {tg e : Expr} {ga : O}
end
end Sim
namespace SimMin
open PySem PySem.Spec PySem.W
section
variable {prog : Program} {w : World} {A : Around} {E : Value → Shared → Prop} {s : Shared}
end
end SimMin
namespace Sim
open PySem PySem.Spec L2
section
variable {X : Cx}
end
end Sim
namespace Sim
open PySem PySem.Spec L2
section
variable {K : PySem.W.Frag} {H : Hp}
end
section
variable [Tb] [Vs] {X : Cx} {a b : Expr} {ga gb : O} {pos : Pos}
end
section
variable {K : PySem.W.Frag} {H : Hp}
end
end Sim
namespace Sim
open PySem PySem.Spec L2
section
variable [Tb] [Vs] {K : PySem.W.Frag} {H : Hp} {X : Cx}
end
section
variable [Tb] [Vs] {X : Cx} {lk : Nat → Bool} {pos : Pos} {ga gb : O} {e : Expr}
end
section
variable [Tb] [Vs] {X : Cx} {K : PySem.W.Frag} {σ : St} {H : Hp} {Q : VK}
end
end Sim
namespace Sim
open PySem PySem.Spec L2
section
variable {K : PySem.W.Frag}
end
section
variable [Tb] [Vs] {X : Cx} {e : Expr} {ga : O}
end
end Sim
namespace Sim
open PySem PySem.Spec L2
section
variable [Tb] [Vs] {X : Cx} {x : Str} {p pos : Pos} {es : List Expr} {ga : AL} {i : Nat}
end
end Sim
namespace Sim
open PySem PySem.Spec L2
section
variable [Tb] [Vs] {X : Cx} {x : Str} {p : Pos} {i : Nat}
end
end Sim
namespace Sim
open PySem PySem.Spec L2
section
variable {K : PySem.W.Frag} {H : Hp}
end
section
variable {prog : Program} {w : World} {A : Around} {E : Value → Shared → Prop} {s : Shared}
end
section
variable {X : Cx}
end
end Sim
namespace Sim
open PySem PySem.Spec L2
section
variable [Tb] [Vs] {X : Cx} {lk : Nat → Bool} {pos : Pos} {ga gb : O} {e : Expr} {op : Operator} {f : Int → Int → Int}
end
end Sim
namespace Sim
open PySem PySem.Spec L2
section
variable [Tb] [Vs] {X : Cx} {K : PySem.W.Frag} {σ : St} {H : Hp} {Q : VK}
end
end Sim
namespace Sim
open PySem PySem.Spec L2
section
variable [Tb] [Vs] {X : Cx} {o : Expr} {ga : O} {apos pos : Pos}
end
end Sim
namespace Sim
open PySem PySem.Spec L2
section
variable [Tb] [Vs] {X : Cx} {K : PySem.W.Frag} {σ : St} {H : Hp} {Q : VK}
end
end Sim
namespace Sim
open PySem PySem.Spec L2
def StrEnts : List DictEntry → List Str → Prop
  | [], [] => True
  | e :: es, k :: ks => (∃ t, e.key = .str k t) ∧ StrEnts es ks
  | _, _ => False
def StrKeys (K : PySem.W.Frag) (w : World) (a : Addr) (keys : List Str) : Prop := ∃ es n, KDict K w a es n ∧ StrEnts es.toList keys
section
variable [Tb] [Vs] {X : Cx} {a : Addr} {x : Str} {keys : List Str} {e : Expr} {g : O} {p pos : Pos}
end
end Sim
namespace Sim
open PySem PySem.Spec L2
/-- the same but for such slots -/
structure GhEq (X : Cx) (σ σ' : St) : Prop where
  len : σ'.length = σ.length
  vis : ∀ (i : Nat) (x : Str), X.N[i]? = some x → Vis X.env.scope x → σ'[i]? = σ[i]?
theorem GhEq.symm {X : Cx} {σ σ' : St} (h : GhEq X σ σ') : GhEq X σ' σ := ⟨h.len.symm, fun i x a b => (h.vis i x a b).symm⟩
theorem GhEq.refl (X : Cx) (σ : St) : GhEq X σ σ := ⟨rfl, fun _ _ _ _ => rfl⟩
theorem not_vis {X : Cx} {x : Str} (h : X.env.scope.names.lookup x = none) : ¬ Vis X.env.scope x := fun v => by
  rcases v with v | v | v <;> rw [h] at v <;> cases v
theorem GhEq.set {X : Cx} {σ : St} {i : Nat} {x : Str} {v : Option V} (hN : X.N[i]? = some x) (h : X.env.scope.names.lookup x = none) : GhEq X σ (σ.set i v) := ⟨List.length_set, fun j y a b => by
  by_cases hj : j = i
  · subst hj
    rw [hN] at a
    cases a
    exact absurd b (not_vis h)
  · exact List.getElem?_set_ne (Ne.symm hj)⟩
section
variable {X : Cx}
end
structure LnkO (b : Nat) (p C : Addr) (g : Nat) (ns : List Str) (q : Nat) (fa : Addr) (σ : St) (H : Hp) : Prop where
  base : σ[b]? = some (some (.ref p))
  len : σ.length = g + ns.length
  pin : σ[q]? = some (some (.ref fa))
  obj : ∃ dx fs, H p = some (.ins C dx fs) ∧ fs.length ≤ ns.length ∧ fs.map Prod.fst = ns.take fs.length ∧ ∀ k, k < ns.length → σ[g + k]? = some ((fs[k]?).map Prod.snd)
/-- (q, fa: a slot more that stays) -/
abbrev obVp (b : Nat) (p C : Addr) (g : Nat) (ns : List Str) (q : Nat) (fa : Addr) : Vs where
  fp i := if i = b then [p] else []
  lnk := LnkO b p C g ns q fa
  ok i := i ≠ b ∧ i < g ∧ i ≠ q
  keep {σ H H'} h k := by
    obtain ⟨h1, h2, hq, dx, fs, h3, h4⟩ := h
    exact ⟨h1, h2, hq, dx, fs, by rw [k b p (by rw [if_pos rfl]; exact List.mem_singleton.mpr rfl)]; exact h3, h4⟩
  put {σ H i v} ko := by
    have e1 : (σ.set i v)[b]? = σ[b]? := List.getElem?_set_ne ko.1
    have e3 : (σ.set i v)[q]? = σ[q]? := List.getElem?_set_ne ko.2.2
    have e2 : ∀ k, (σ.set i v)[g + k]? = σ[g + k]? := fun k => List.getElem?_set_ne (by have := ko.2.1; omega)
    constructor
    · rintro ⟨h1, h2, hq, dx, fs, h3, h4, h5, h6⟩
      exact ⟨e1.symm.trans h1, (List.length_set (as := σ) (i := i) (a := v)).symm.trans h2, e3.symm.trans hq, dx, fs, h3, h4, h5, fun k hk => (e2 k).symm.trans (h6 k hk)⟩
    · rintro ⟨h1, h2, hq, dx, fs, h3, h4, h5, h6⟩
      exact ⟨e1.trans h1, (List.length_set (as := σ) (i := i) (a := v)).trans h2, e3.trans hq, dx, fs, h3, h4, h5, fun k hk => (e2 k).trans (h6 k hk)⟩
  mem {σ H i a} h ha := by
    obtain ⟨h1, h2, hq, dx, fs, h3, h4⟩ := h
    split at ha
    · rw [List.mem_singleton.mp ha]
      exact ⟨.ins _ _ _, h3⟩
    · cases ha
  nil {i} ko := if_neg ko.1
abbrev obV (b : Nat) (p C : Addr) (g : Nat) (ns : List Str) : Vs := obVp b p C g ns b p
section
variable [Tb] {X : Cx} {b g k i q : Nat} {p C fa : Addr} {ns : List Str} {f : Str} {e : Expr} {pos pos' : Pos}
end
section
variable [Tb] {X : Cx} {b g k i q : Nat} {p C fa : Addr} {ns : List Str} {f gx : Str} {e value : Expr} {pos pos' : Pos} {lk : Nat → Bool} {pv : Option Nat}
end
end Sim
namespace Sim
open PySem PySem.Spec L2
theorem OwnA.ls {K : PySem.W.Frag} {H : Hp} : ∀ {ds : List D} {vs : List V} {F : List Addr}, OwnA K H ds vs F → ∃ Gl, OwnLs K H ds vs Gl ∧ ∀ a, a ∈ F ↔ ∃ G, G ∈ Gl ∧ a ∈ G
  | [], _, _, t => by
    cases t
    exact ⟨[], .nil, by simp⟩
  | d :: ds, _, _, t => by
    cases t with
    | @cons v vs _ _ F1 F2 o t n =>
      obtain ⟨Gl, h1, h2⟩ := OwnA.ls t
      refine ⟨F1 :: Gl, .cons o (fun G hG a ha hb => n a ha ((h2 a).mpr ⟨G, hG, hb⟩)) h1, fun a => ?_⟩
      rw [List.mem_append, h2]
      constructor
      · rintro (h | ⟨G, hG, h⟩)
        · exact ⟨F1, List.mem_cons_self .., h⟩
        · exact ⟨G, List.mem_cons_of_mem _ hG, h⟩
      · rintro ⟨G, hG, h⟩
        rcases List.mem_cons.mp hG with rfl | hG
        · exact .inl h
        · exact .inr ⟨G, hG, h⟩
theorem OwnLs.a {K : PySem.W.Frag} {H : Hp} {ds : List D} {vs : List V} {Gl : List (List Addr)} (h : OwnLs K H ds vs Gl) : OwnA K H ds vs Gl.flatten := by
  induction h with
  | nil => exact .nil
  | cons o n _ ih =>
    rw [List.flatten_cons]
    refine .cons o ih fun a ha hb => ?_
    obtain ⟨G, hG, h⟩ := List.mem_flatten.mp hb
    exact n G hG a ha h
theorem OwnLs.at {K : PySem.W.Frag} {H : Hp} {ds : List D} {vs : List V} {Gl : List (List Addr)} (h : OwnLs K H ds vs Gl) : ∀ {i : Nat} {d : D}, ds[i]? = some d → ∃ v, vs[i]? = some v ∧ Own K H d v (Gl.getD i []) := by
  induction h with
  | nil => intro i d e; simp at e
  | @cons d0 v F ds vs Fl o n _ ih =>
    intro i d e
    cases i with
    | zero => simp at e; subst e; exact ⟨v, rfl, o⟩
    | succ i =>
      obtain ⟨v', h1, h2⟩ := ih (i := i) (d := d) (by simpa using e)
      exact ⟨v', by simpa using h1, by simpa using h2⟩
theorem OwnLs.dj {K : PySem.W.Frag} {H : Hp} {ds : List D} {vs : List V} {Gl : List (List Addr)} (h : OwnLs K H ds vs Gl) : ∀ {i j : Nat} {a : Addr}, a ∈ Gl.getD i [] → a ∈ Gl.getD j [] → i = j := by
  induction h with
  | nil => intro i j a e; simp at e
  | @cons d0 v F ds vs Fl o n _ ih =>
    intro i j a h1 h2
    cases i with
    | zero => cases j with
      | zero => rfl
      | succ j =>
        obtain ⟨G, hG, hm⟩ := getD_of (Fl := Fl) (i := j) (by simpa using h2)
        exact absurd hm (n G (List.mem_of_getElem? hG) a (by simpa using h1))
    | succ i => cases j with
      | zero =>
        obtain ⟨G, hG, hm⟩ := getD_of (Fl := Fl) (i := i) (by simpa using h1)
        exact absurd hm (n G (List.mem_of_getElem? hG) a (by simpa using h2))
      | succ j => rw [ih (i := i) (j := j) (by simpa using h1) (by simpa using h2)]
/-- what is put into the slots from g on -/
def putG {α : Type} : Nat → List α → List (Option α) → List (Option α)
  | _, [], s => s
  | g, d :: ds, s => putG (g + 1) ds (s.set g (some d))
section
variable [Tb] {K : PySem.W.Frag} {H : Hp} {s : Sg} {σ : St} {Fs : Fp} {j g : Nat} {ns : List Str} {nm : Str} {d : D} {fds : List D}
/-- what the opening of a slot's instance gives -/
structure Opened (K : PySem.W.Frag) (H : Hp) (s : Sg) (σ : St) (Fs : Fp) (j g : Nat) (nm : Str) (ns : List Str) (fds : List D) (p C : Addr) (σ2 : St) (Fs2 : Fp) : Prop where
  cn : ClsN K nm C
  at_ : σ[j]? = some (some (.ref p))
  rel : @RelS _ (obV j p C g ns) K H (putG g fds (s.set j none)) σ2 Fs2
  real : ∀ i, i < g → σ2[i]? = σ[i]?
  len : σ2.length = σ.length
  mem : p ∈ Fs j
  obj : Fs2 j = [p]
  low : ∀ i a, i < g → i ≠ j → a ∈ Fs2 i → a ∈ Fs i
  high : ∀ i a, g ≤ i → a ∈ Fs2 i → a ∈ Fs j
structure Closed (Fs Fs' : Fp) (j g : Nat) (p : Addr) : Prop where
  obj : ∀ a, a ∈ Fs' j → a = p ∨ ∃ k, g ≤ k ∧ a ∈ Fs k
  low : ∀ i a, i ≠ j → a ∈ Fs' i → a ∈ Fs i ∧ i < g
/-- from ahead of the opening to behind the closing -/
theorem Opened.ev {p C : Addr} {σ2 : St} {Fs2 Fs3 Fs4 : Fp} {H' : Hp} (o : Opened K H s σ Fs j g nm ns fds p C σ2 Fs2) (E : Ev H Fs2 H' Fs3) (c : Closed Fs3 Fs4 j g p) (pj : ∀ i a, a ∈ Fs2 i → i = j → a = p) : Ev H Fs H' Fs4 := by
  have sub : ∀ i a, a ∈ Fs2 i → ∃ k, a ∈ Fs k := fun i a ha => by
    by_cases hij : i = j
    · exact ⟨j, by rw [pj i a ha hij]; exact o.mem⟩
    · by_cases hig : i < g
      · exact ⟨i, o.low i a hig hij ha⟩
      · exact ⟨j, o.high i a (by omega) ha⟩
  refine ⟨E.chg.mono fun a _ _ ⟨i, hi⟩ => sub i a hi, fun i a ha => ?_⟩
  by_cases hij : i = j
  · subst hij
    rcases c.obj a ha with rfl | ⟨k, hk, h⟩
    · exact .inl o.mem
    · exact (E.new k a h).imp (o.high k a hk) id
  · obtain ⟨h, hig⟩ := c.low i a hij ha
    exact (E.new i a h).imp (o.low i a hig hij) id
/-- the same to a way out; low slots that no caller holds may hold what was the object's -/
theorem Opened.evR {lk : Nat → Bool} {p C : Addr} {σ2 : St} {Fs2 Fs3 Fs4 : Fp} {H' : Hp} (o : Opened K H s σ Fs j g nm ns fds p C σ2 Fs2) (E : EvR lk H Fs2 H' Fs3) (c : Closed Fs3 Fs4 j g p) (h0 : lk j = true) (hp : ∀ i, i < g → lk i = false → Fs i = []) :
    Chg (InF Fs) H H' ∧ ∀ i a, lk i = true → a ∈ Fs4 i → a ∈ Fs i ∨ H a = none := by
  have hpj : ∀ i a, a ∈ Fs2 i → i = j → a = p := fun i a ha hij => by
    rw [hij, o.obj] at ha
    exact List.mem_singleton.mp ha
  have sub : ∀ i a, a ∈ Fs2 i → ∃ k, a ∈ Fs k := fun i a ha => by
    by_cases hij : i = j
    · exact ⟨j, by rw [hpj i a ha hij]; exact o.mem⟩
    · by_cases hig : i < g
      · exact ⟨i, o.low i a hig hij ha⟩
      · exact ⟨j, o.high i a (by omega) ha⟩
  have un : ∀ k a, lk k = false → a ∈ Fs2 k → a ∈ Fs j := fun k a hk ha => by
    have hkj : k ≠ j := fun z => by rw [z, h0] at hk; cases hk
    by_cases hig : k < g
    · have := o.low k a hig hkj ha
      rw [hp k hig hk] at this
      cases this
    · exact o.high k a (by omega) ha
  refine ⟨E.chg.mono fun a _ _ ⟨i, hi⟩ => sub i a hi, fun i a hl ha => ?_⟩
  by_cases hij : i = j
  · subst hij
    rcases c.obj a ha with rfl | ⟨k, hk, h⟩
    · exact .inl o.mem
    · rcases E.new k a h with (z | z) | ⟨_, k', hk', z⟩
      · exact .inl (o.high k a hk z)
      · exact .inr z
      · exact .inl (un k' a hk' z)
  · obtain ⟨h, hig⟩ := c.low i a hij ha
    rcases E.new i a h with (z | z) | ⟨z, _⟩
    · exact .inl (o.low i a hig hij z)
    · exact .inr z
    · rw [hl] at z; cases z
end
end Sim
namespace Sim
open PySem PySem.Spec L2
section
variable [Tb] {X : Cx} {j g : Nat} {nm : Str} {ns : List Str} {C : Addr} {e : Expr}
end
section
variable [Tb] {P : Program} {w : World} {K : PySem.W.Frag} {mg : Str → Option Value} {base : Heap}
end
section
variable [Tb] {X : Cx} {j g : Nat} {nm : Str} {ns : List Str} {C : Addr} {k : Nat} {f : Addr} {fd : FuncData} {ps : List Str} {fn : Fn} {m : Str} {o e : Expr} {es : List Expr} {ga : AL} {apos pos : Pos}
end
end Sim
namespace Sim
open PySem PySem.Spec L2
section
variable [Tb] [Vs] {X : Cx} {nm : Str} {C : Addr} {k : Nat} {f : Addr} {fd : FuncData} {ps : List Str} {fn : Fn} {x : Str} {e : Expr} {es : List Expr} {ga : AL} {p pos : Pos}
end
section
variable [Tb] {X : Cx} {lk : Nat → Bool} {b g : Nat} {nm : Str} {ns : List Str} {C pp : Addr} {k : Nat} {f : Addr} {fd : FuncData} {ps : List Str} {fn : Fn} {m : Str} {o : Expr} {es : List Expr} {ga : AL} {apos pos : Pos}
end
end Sim
namespace Sim
open PySem PySem.Spec L2
open LamX (TabB TabS Tabs CodeO)
open PyProof.Rows (envOfC)
/-- the heap behind it: as it was, or the table has its code object more -/
structure LamNew [Tb] (X : Cx) (H H1 : Hp) (P c' : Addr) (pos : Pos) : Prop where
  keep : ∀ b o, H b = some o → isTbl o = false → H1 b = some o
  there : ∀ b, H1 b = none → H b = none
  tab : TabsOk H1
  row : ∃ ps, H1 P = some (.tbl ps) ∧ TriplesOk ps.toList ∧ codeAmong pos ps.toList = some (.ref c')
theorem LamNew.chg [Tb] {X : Cx} {H H1 : Hp} {P c' : Addr} {pos : Pos} (n : LamNew X H H1 P c' pos) (Fa : Addr → Prop) : Chg Fa H H1 := ⟨fun a o e c => n.keep a o e (by
  rcases c with c | c
  · exact c.2
  · cases o <;> first | rfl | cases c), n.there, fun _ => n.tab⟩
section
variable [Tb] {X : Cx} {pins : List (Addr × Obj)} {σ : St} {H : Hp} {s : Shared}
end
section
variable {X : Cx} {pins : List (Addr × Obj)} {σ : St} {H HZ : Hp} {s s1 : Shared}
end
end Sim
namespace Sim
open PySem PySem.Spec L2
open LamX (TabB)
open PyProof.Rows (envOfC)
section
variable [Tb] [Vs] {K : PySem.W.Frag} {H H' : Hp} {s : Sg} {σ : St} {Fs : Fp}
end
section
variable [Tb] {b g q : Nat} {p C fa : Addr} {ns : List Str} {K : PySem.W.Frag} {H : Hp} {s : Sg} {σ : St} {Fs : Fp}
end
section
variable [Tb] [Vs] {X : Cx} {lk : Nat → Bool} {g h : S}
end
section
variable [Tb] {X : Cx} {lk : Nat → Bool} {nm m a pn : Str} {ns : List Str} {C gA c P : Addr} {fd : FuncData} {j n k : Nat} {js : List Nat} {hL : O} {gb : (D → Option D) → S} {Ng : List Str} {st : Stmt} {qual : Str} {params : Arguments} {body o : Expr} {scope : Scope} {lpos apos pos pos2 : Pos}
end
end Sim
namespace Sim
open PySem PySem.Spec L2
open LamX (TabB LawAtS)
open PyProof.Rows (envOfC)
section
variable [Tb] {P : Program} {w : World} {K : PySem.W.Frag} {mg : Str → Option Value} {base : Heap}
end
end Sim
namespace Sim
open PySem PySem.Spec L2
section
variable [Tb] {X : Cx} {b g k i q x : Nat} {p C fa : Addr} {ns : List Str} {f gx nx : Str} {e : Expr} {pos pos' p1 : Pos} {lk : Nat → Bool} {pv : Option Nat} {rest : List Stmt} {h : S}
end
end Sim
namespace Sim
open PySem PySem.Spec L2
end Sim
namespace Sim
open PySem PySem.Spec L2
section
variable [Tb] [Vs]
end
section
variable [Tb] {X : Cx} {j g : Nat} {nm : Str} {ns : List Str} {C : Addr} {e : Expr}
end
end Sim
namespace Sim
open PySem PySem.Spec L2
section
variable [Tb] [Vs] {X : Cx} {lk : Nat → Bool}
end
end Sim
namespace Sim
open PySem PySem.Spec L2
section
variable [Tb] [Vs] {X : Cx} {a : Expr} {ga : O} {pos p2 : Pos}
end
section
variable {K : PySem.W.Frag}
end
section
variable [Tb] [Vs] {X : Cx}
end
end Sim
namespace Sim
open PySem PySem.Spec PyProof.Rows L2
section
variable {X : Cx}
end
end Sim
namespace Sim
open PySem PySem.Spec PyProof.Rows L2
end Sim
namespace Sim
open PySem PySem.Spec L2
section
variable {X : Cx}
end
end Sim
namespace Sim
open PySem PySem.Spec L2
open PyProof.Rows hiding St
section
variable {X : Cx} {pins : List (Addr × Obj)} {σ : St} {H : Hp} {s : Shared}
end
end Sim
namespace Sim
open PySem PySem.Spec L2
section
variable {K : PySem.W.Frag} {H : Hp}
end
section
variable [Tb] [Vs] {K : PySem.W.Frag} {H H' : Hp} {s s' : Sg} {σ σ' : St} {Fs Fs' : Fp}
end
section
variable [Tb] [Vs] {X : Cx} {lk lk' : Nat → Bool} {K : PySem.W.Frag}
end
end Sim
namespace Sim
open PySem PySem.Spec L2
open PyProof.Rows hiding St
section
variable [Tb] [Vs] {X : Cx} {K : PySem.W.Frag} {H : Hp}
end
section
variable {X : Cx} {pins : List (Addr × Obj)} {σ : St} {H : Hp} {s : Shared}
section
variable {P : Program} {w : World} {K : PySem.W.Frag} {tg : Expr} {d : Addr} {o ob : Obj} {ents : Array DictEntry} {ep : Nat}
end
end
section
variable [Tb] [Vs] {X : Cx} {K : PySem.W.Frag} {H : Hp}
variable {a b : Expr} {ga gb : O} {pos : Pos}
end
end Sim
namespace Sim
open PySem PySem.Spec L2
open PyProof.Rows hiding St
section
variable [Tb] [Vs] {X : Cx} {lk lk' : Nat → Bool} {pos : Pos} {i : Nat} {itm : D → Option (List D)}
end
end Sim
namespace Sim
open PySem PySem.Spec L2
section
open PyProof.Rows hiding St
variable {X : Cx} {K : PySem.W.Frag}
end
section
variable [Tb] [Vs] {X : Cx} {K : PySem.W.Frag} {σ : St} {H : Hp} {Q : VK}
end
end Sim
namespace Sim
open PySem PySem.Spec L2
section
variable [Tb] [Vs]
variable {X : Cx} {lk lk' : Nat → Bool} {pos : Pos} {i : Nat}
end
end Sim
namespace Sim
open PySem PySem.Spec L2
section
variable {X : Cx} {k : Nat} {f : Addr} {fd : FuncData} {ps : List Str} {sp : Sp} {dvs : List V} {ds : List Value} {E : XK} {x : Str} {p pos : Pos} {e : Expr} {es : List Expr} {t : TA}
end
section
variable [Tb] [Vs] {X : Cx} {k : Nat} {f : Addr} {fd : FuncData} {ps : List Str} {fn : Fn} {x : Str} {p pos : Pos} {e : Expr} {es : List Expr} {g : AL}
end
section
variable {X : Cx}
end
end Sim
namespace Sim
open PySem PySem.Spec L2
open LamX (TabB)
open PyProof.Rows (envOfC)
section
variable [Tb] {P : Program} {w : World} {K : PySem.W.Frag} {mg : Str → Option Value} {base : Heap}
end
open PyProof.Rows hiding St
section
variable {P : Program} {w : World} {K : PySem.W.Frag} {mg mb : Str → Option Value} {k : Nat} {fa a : Addr} {tb : List (Addr × Addr)} {fd : FuncData} {x : Str} {sp : Sp} {s₁ : Shared} {vs : List Value} {ns : List Int}
end
end Sim
namespace Sim
open PySem PySem.Spec L2
section
variable [Tb] [Vs] {X : Cx} {lk : Nat → Bool} {pos : Pos} {K : PySem.W.Frag}
end
section
variable [Tb] [Vs] {X : Cx} {a b : Expr} {ga : O} {pos : Pos}
end
end Sim
namespace Sim
open PySem PySem.Spec L2
section
open PySem.AutoSeq1
end
section
variable {K : PySem.W.Frag}
end
end Sim
namespace Sim
open PySem PySem.Spec L2
open PyProof.Rows hiding St
section
open PySem.W
variable {prog : Program} {w : World} {A : Around} {E : Value → Shared → Prop} {s : Shared} {r d : Addr} {n : Nat} {P : Nat → Value → Prop} {OK : Heap → Prop}
end
section
variable {X : Cx}
end
end Sim
namespace L2
open PySem PySem.Spec PyProof.Rows
section
variable {P : Program} {w : World} {A : Around} {E : Value → Shared → Prop} {s : Shared}
set_option maxRecDepth 100000 in
set_option maxHeartbeats 3200000 in
end
end L2
namespace Sim
open PySem PySem.Spec L2
section
variable [Tb] [Vs] {X : Cx} {a : Expr} {ta : TA} {p p2 q pos : Pos}
variable {ga : AL}
end
end Sim
namespace Sim
open PySem PySem.Spec L2
section
variable [Tb] [Vs] {K : PySem.W.Frag} {H H1 : Hp} {s s1 : Sg} {σ : St} {Fs Fs1 : Fp} {lk lk' : Nat → Bool}
/-- an end's way out, told from an earlier state -/
theorem PostS.from {D : Ends} {fl : Fl} {s' : Sg} {σ1 : St} (hlk : ∀ i, lk i = true → lk' i = true) (E : EvR lk H Fs H1 Fs1) (L : Lk lk σ σ1) (q : PostS K lk D σ H Fs s' fl) : PostS K lk' D σ1 H1 Fs1 s' fl := by
  have un : ∀ {i}, lk' i = false → lk i = false := fun {i} z => by
    cases e : lk i with
    | false => rfl
    | true => rw [hlk i e] at z; cases z
  have LL : ∀ {σ2 : St}, Lk lk' σ1 σ2 → Lk lk σ σ2 := fun {σ2} L2 => L.trans fun i hi => L2 i (hlk i hi)
  cases fl with
  | nx => exact fun σ' H' Fs' R' E' L' => q σ' H' Fs' R' (E.transR (E'.wk hlk)) (LL L')
  | bk => exact fun σ' H' Fs' R' E' L' => q σ' H' Fs' R' (E.transR (E'.wk hlk)) (LL L')
  | ct => exact fun σ' H' Fs' R' E' L' => q σ' H' Fs' R' (E.transR (E'.wk hlk)) (LL L')
  | rt d =>
    refine fun v σ' H' Fs' F R' E' L' o n m => q v σ' H' Fs' F R' (E.transR (E'.wk hlk)) (LL L') o (fun a ha => ?_) fun i a hi => m i a (hlk i hi)
    rcases n a ha with z | ⟨k, hk, z⟩
    · exact .inl (E.chg.there a z)
    · rcases E.new k a z with (w | w) | ⟨_, j, hj, w⟩
      · exact .inr ⟨k, un hk, w⟩
      · exact .inl w
      · exact .inr ⟨j, hj, w⟩
end
section
variable [Tb] [Vs] {X : Cx} {lk lk' : Nat → Bool} {pos : Pos}
end
end Sim
namespace Sim
open PySem PySem.Spec L2
/-- what is raised: the class's name -/
abbrev Exn := Str
/-- what a statement raises, and at which state -/
abbrev Rz := Sg → Option (Exn × Sg)
abbrev FnZ := List D → Option Exn
section
variable [Tb] [Vs] {X : Cx} {W : WX} {lk : Nat → Bool} {st : Stmt} {rest : List Stmt} {r a b : Rz} {g : S} {t : T} {e : Expr} {pos : Pos}
theorem ps_nox {u : TS} (h : PS X.nox st u) : PS X st u := ⟨fun pins s σ H D I hw =>
  wpAny_mono (h.run pins s σ H D (I.wish _) hw) (fun _ _ q => q.unwish) fun _ _ z => False.elim z⟩
theorem pa_nox {es : List Expr} {u : TA} (h : PA X.nox es u) : PA X es u := ⟨fun pos pins s σ H Q I hw =>
  wpAny_mono (h.run pos pins s σ H Q (I.wish _) hw) (fun _ _ ⟨v, H', I', r, q⟩ => ⟨v, H', I'.unwish, r, q⟩) fun _ _ z => False.elim z⟩
end
section
variable [Tb] {K : PySem.W.Frag} {H H' : Hp}
theorem RelS.chgZ [Vs] {s : Sg} {σ : St} {Fs : Fp} (R : RelS K H s σ Fs) (C : Chg (fun _ => False) H H') : RelS K H' s σ Fs ∧ Ev H Fs H' Fs :=
  ⟨⟨R.len, fun i d e => by
    obtain ⟨v, hv, q⟩ := R.has i d e
    exact ⟨v, hv, q.chg C fun _ _ z => z⟩, R.off, R.dis, R.lnk' (fun i a ha => by
    obtain ⟨m, e⟩ := Vs.mem R.lnk.1 ha
    rw [e]
    exact C.keep a _ e (.inl ⟨fun z => z, by cases m <;> rfl⟩)) (C.tab R.lnk.2), R.bse⟩, C.mono fun _ _ _ z => z.elim, fun _ _ h => .inl h⟩
theorem rda_own {vs : List V} {ds : List D} (h : RdA K H vs ds) : purs ds = true → ∃ Fl, OwnLs K H ds vs Fl := by
  induction h with
  | nil => exact fun _ => ⟨_, .nil⟩
  | @cons v d F vs ds o _ ih =>
    intro p
    simp only [purs, Bool.and_eq_true] at p
    obtain ⟨Fl, hl⟩ := ih p.2
    exact ⟨F :: Fl, .cons o (fun G _ a ha => by rw [o.pur p.1] at ha; cases ha) hl⟩
theorem rda_len {vs : List V} {ds : List D} (h : RdA K H vs ds) : vs.length = ds.length := by
  induction h with
  | nil => rfl
  | cons _ _ ih => rw [List.length_cons, List.length_cons, ih]
theorem OwnLs.pur0 {ds : List D} {vs : List V} {Fl : List (List Addr)} (h : OwnLs K H ds vs Fl) : purs ds = true → ∀ G, G ∈ Fl → G = [] := by
  induction h with
  | nil => exact fun _ G z => by cases z
  | cons o _ _ ih =>
    intro p G hG
    simp only [purs, Bool.and_eq_true] at p
    rcases List.mem_cons.mp hG with rfl | hG
    · exact o.pur p.1
    · exact ih p.2 G hG
end
section
variable [Tb] [Vs] {X : Cx} {W : WX} {k : Nat} {f : Addr} {fd : FuncData} {ps : List Str} {fn : FnZ} {x : Str} {p pos : Pos} {e : Expr} {es : List Expr} {g : AL}
end
section
variable [Tb] {P : Program} {w : World} {K : PySem.W.Frag} {mg : Str → Option Value} {base : Heap}
end
theorem exm_of {K : PySem.W.Frag} {C B : Addr} (h1 : PySem.W.subIn K (.ref B) (.type "BaseException") = some true) (h2 : (PySem.W.clsIn K B).isSome = true) (h3 : PySem.W.typeIn K (.ref B) = some (.type "type")) (h4 : PySem.W.subIn K (.ref C) (.ref B) = some true) : PySem.W.exmOne K (.ref C) (.ref B) = some true := by
  unfold PySem.W.exmOne PySem.W.kitCls
  rw [h1, if_pos (by rfl)]
  show (if ((PySem.W.clsIn K B).isSome && PySem.W.typeIn K (.ref B) == some (.type "type")) = true then _ else _) = _
  rw [h2, h3, if_pos (by rfl)]
  exact h4
section
variable [Tb] [Vs] {X : Cx} {lk : Nat → Bool} {r : Rz} {g h : S} {body suite : List Stmt} {b₀ : Stmt} {np pos pos' : Pos} {x : Str} {c : Value} {cs : List Str}
end
end Sim
namespace Sim
open PySem PySem.Spec L2
open PyProof.Rows (Compare_chain chain_link chain_last ite_ff ite_tt)
abbrev CK := Rf → Sg → Res Rf
section
variable [Tb] [Vs] {X : Cx} {a b c : Expr} {ga gb gc : O} {op op' : CmpOp} {ops : List CmpOp} {es : List Expr} {r : R2} {f : List D → Option D} {k : CK} {pos : Pos}
end
end Sim
namespace Sim
open PySem PySem.Spec L2
open PyProof.Rows hiding St
section
variable {P : Program} {w : World} {K : PySem.W.Frag} {tg : Expr} {d : Addr} {o : Obj} {ents : Array DictEntry} {ep : Nat}
end
section
variable {X : Cx} {tg e : Expr} {td : TE} {apos cpos : Pos}
end
section
variable [Tb] [Vs] {X : Cx} {K : PySem.W.Frag}
variable {tg e : Expr} {ga : O} {apos cpos : Pos}
end
end Sim
namespace Sim
open PySem PySem.Spec L2
section
variable [Tb] [Vs] {X : Cx} {K : PySem.W.Frag} {σ : St} {H : Hp} {Q : VK}
end
end Sim
namespace Sim
open PySem PySem.Spec L2
section
variable {X : Cx} {pins : List (Addr × Obj)} {σ : St} {H : Hp} {s : Shared}
end
section
variable {K : PySem.W.Frag}
end
end Sim
namespace Sim
open PySem PySem.Spec L2
def StrEntsV : List DictEntry → List Str → List Addr → Prop
  | [], [], [] => True
  | e :: es, k :: ks, a :: as => (∃ t, e.key = .str k t) ∧ e.val = .ref a ∧ StrEntsV es ks as
  | _, _, _ => False
def StrTab (K : PySem.W.Frag) (w : World) (a : Addr) (keys : List Str) (as : List Addr) : Prop := ∃ es n, KDict K w a es n ∧ StrEntsV es.toList keys as
theorem StrEntsV.keys : ∀ {l : List DictEntry} {ks : List Str} {as : List Addr}, StrEntsV l ks as → StrEnts l ks
  | [], [], [], _ => trivial
  | _ :: _, _ :: _, _ :: _, h => ⟨h.1, h.2.2.keys⟩
theorem StrTab.keys {K : PySem.W.Frag} {w : World} {a : Addr} {keys : List Str} {as : List Addr} (h : StrTab K w a keys as) : StrKeys K w a keys := by
  obtain ⟨es, n, D, e⟩ := h
  exact ⟨es, n, D, e.keys⟩
def selS {α : Type} : List Str → List α → Str → Option α
  | k :: ks, f :: fs, z => if k == z then some f else selS ks fs z
  | _, _, _ => none
section
variable [Tb] [Vs] {X : Cx} {pos : Pos}
theorem SelOk.tab {n : Nat} {z : Str} {fn : Fn} {as : List Addr} {fns : List Fn} (h : SelOk X n as fns) : ∀ {l : List DictEntry} {ks : List Str}, StrEntsV l ks as → selS ks fns z = some fn →
    ∃ f k fd ps, (match l.find? (·.key.isStr z) with
      | some e => some (some e.val)
      | none => if l.any (·.refKey) then none else some none) = some (some (.ref f)) ∧ FnOk X.prog X.w X.K X.mg X.base CX0 k f fd ps (spF X.K n fn) ∧ Room k X.A ∧ PySem.W.keepIn X.K (.ref f) = true ∧ Binds X.K fd ps [] ∧ (∀ ds r as, fn ds = .ok r as → ds.length = n) := by
  induction h with
  | nil =>
    intro l ks _ e
    cases ks <;> simp [selS] at e
  | @cons k f fd ps fn1 as fns a b c d e _ ih =>
    intro l ks hE es
    match l, ks, hE with
    | [], [], hE => exact hE.elim
    | [], _ :: _, hE => exact hE.elim
    | _ :: _, [], hE => exact hE.elim
    | en :: l, kk :: ks, hE =>
      obtain ⟨⟨t, ht⟩, hv, hE⟩ := hE
      have hk : en.key.isStr z = (kk == z) := by rw [ht]; rfl
      have hr : en.refKey = false := by unfold DictEntry.refKey; rw [ht]
      rw [List.find?_cons, hk, List.any_cons, hr, Bool.false_or]
      unfold selS at es
      cases hz : kk == z with
      | true =>
        rw [hz, if_pos rfl] at es
        cases es
        exact ⟨f, _, _, _, by rw [← hv], a, b, c, d, e⟩
      | false =>
        rw [hz, if_neg (by simp)] at es
        exact ih hE es
end
section
end
end Sim
namespace Sim
open PySem PySem.Spec L2
section
variable {X : Cx} {o e : Expr} {es : List Expr} {to : TE} {t : TA} {name : Str} {apos cpos : Pos} {id : String} {r : V → List V → Hp → VK → Prop}
end
section
variable [Tb] [Vs] {X : Cx} {K : PySem.W.Frag} {σ : St} {H : Hp} {Q : VK}
end
end Sim
namespace Sim
open PySem PySem.Spec L2
section
variable [Tb] [Vs] {X : Cx}
end
section
variable {K : PySem.W.Frag} {H : Hp}
end
section
variable {K : PySem.W.Frag}
end
section
variable {K : PySem.W.Frag}
end
section
variable [Tb] [Vs] {X : Cx}
end
end Sim
namespace Sim
open PySem PySem.Spec L2
section
variable [Tb] [Vs] {X : Cx} {e a b : Expr} {g0 : O} {al : AL} {p pos pos2 : Pos} {K : PySem.W.Frag} {σ : St} {H : Hp} {Q : VK}
end
end Sim
namespace Sim
open PySem PySem.Spec L2
/-- what is raised: the class's name, the field's, its value -/
abbrev ExnF := Str × Str × Int
def FldAt (K : PySem.W.Frag) (H : Hp) (x : ExnF) (cls : Value) (d : Option Addr) : Prop := ∃ C dd, ClsN K x.1 C ∧ cls = .ref C ∧ d = some dd ∧ H dd = some (.xd [(x.2.1, .int x.2.2)])
abbrev RzF := Sg → Option (ExnF × Sg)
abbrev FnZF := List D → Option ExnF
/-- an own class's __init__, taken from a class of its own, over ValueError's -/
theorem pe_clsinit {X : Cx} {x : Str} {L : Addr} {e : Expr} {es : List Expr} {ta : TA} {p1 p2 pos : Pos} {pl : Sem Bool} (hg : Gl X x) (hm : X.mg x = some (.ref L)) (hga : PySem.W.specialIn X.K (.ref L) "__getattribute__" = some (some (.builtin "type.__getattribute__")))
    (hrd : PySem.W.readsIn X.K L (.type "type") = true) (vV : PySem.W.findCls X.K (.ref L) (.type "type") "__init__" = some (.val (.builtin "ValueError.__init__"))) (ha : PA X (e :: es) ta) (hdb : (x == ("__debug__" : Str)) = false := by decide)
    (hc : eval (.Call (.Attribute (.Name x p1) "__init__" p2) (e :: es) [] pos) X.env = (do
      let ov ← eval (.Name x p1) X.env
      standAt p2.atName
      let (f, first) ← holding [ov] (getMethod ov "__init__" pl)
      callWith pos f first (backTo pos (starEach (e :: es) X.env)) (backToKw pos (keywordEach [] X.env))) := by rfl)
    (he : starEach (e :: es) X.env = (false, eval e X.env) :: starEach es X.env := by rfl) (hpl : (backTo pos (starEach es X.env)).any (·.1) = false := by rfl) :
    PE X (.Call (.Attribute (.Name x p1) "__init__" p2) (e :: es) [] pos) (tVeI X.K ta) := by
  refine ⟨fun pins s σ H Q I h => ?_⟩
  refine PySem.W.methodCall_KW (ld_glob I hg hm ?_ hdb) hc
  refine PySem.W.method_cls I.kIn hga (PySem.W.cls_value I.kIn hrd vV (by decide +kernel) ?_)
  show wpAny _ _ (callWith pos (Value.builtin "ValueError.__init__") [] (backTo pos (starEach (e :: es) X.env)) []) _ _ _
  refine PyProof.Rows.callWith_method1 (thn (ha.run pos pins _ σ H _ (I.tok _) h) fun us s1 ⟨vs, H1, I1, r1, a, C, ws, ev, hl, T, ea, q⟩ => ?_) he hpl
  subst ev
  cases r1 with
  | @cons _ u0 _ ur ra rw' =>
    obtain rfl : u0 = Value.ref a := ra
    have hlen : ur.length ≤ sizeLine := by
      rw [← Paired.length rw', sizeLine_eq]
      omega
    exact oinit_ok T I1 ea hlen fun s' J => ⟨.non, H1, J, rfl, q⟩
/-- what C's __init__ does: the field is kept -/
def spXI (K : PySem.W.Frag) (C : Addr) (fd : Str) : L2.Sp := fun vs H Q _ => ∃ (a : Addr) (i : Int), vs = [.ref a, .int i] ∧ OexC K C ∧ PySem.W.findIn K (.ref C) fd = some none ∧ H a = some (exo a C none) ∧
  ∀ dx, H dx = none → dx ≠ a → Q .non (upd (upd H dx (exd dx [(fd, .int i)])) a (exo a C (some dx)))
def tInitF (K : PySem.W.Frag) (fd m : Str) : TS := tSeq (tDrop (tVeI K (tCons (tVar 0) (tCons (tC (.str m)) tNil)))) (tOst K fd (tVar 0) (tVar 1))
theorem init_okF {P : Program} {w : World} {K : PySem.W.Frag} {mg : Str → Option Value} {base : Heap} {x qual fd m sf pv : Str} {st : Stmt} {f C : Addr} {fdt : FuncData} {k : Nat} (F : Fun K x qual st f fdt) (Sc : FnScope [sf, pv] [sf, pv] (defScope st))
    (hb : ∀ (cdv : Value) (A : Around) (outer : List Env) (s : Shared) (H : Hp) (E : XK), PSs (cxOf (L2.CX P w) P w K mg base [sf, pv] qual (defScope st) f cdv A outer s H E) (defBody st) (tInitF K fd m)) : FnOk P w K mg base (L2.CX P w) (k + 1) f fdt [sf, pv] (spXI K C fd) := by
  refine F.okX Sc (fun vs H Q E h => ?_) (fun cdv A outer s H vs Q E hr h => ⟨_, hb cdv A outer s H E, ?_⟩)
  · obtain ⟨a, i, rfl, _⟩ := h
    rfl
  · obtain ⟨a, i, rfl, T, no, ea, q⟩ := h
    exact ⟨.ref a, rfl, a, C, [.str m], rfl, (by show 1 ≤ 1000; decide), T, ea, .int i, rfl, .ref a, rfl, a, C, rfl, T, no, .inl ⟨ea, fun dx n ne => q dx n ne⟩⟩
def spZF [Tb] (K : PySem.W.Frag) (n : Nat) (f : FnZF) : Sp := fun vs H Q E => ∃ ds Fl x, f ds = some x ∧ purs ds = true ∧ vs.length = n ∧ TabsOk H ∧ OwnLs K H ds vs Fl ∧
  ∀ cls d H', Chg (fun _ => False) H H' → FldAt K H' x cls d → E cls d H'
def tZF [Tb] [Vs] (K : PySem.W.Frag) (lk : Nat → Bool) (W : WX) (r : RzF) : TS := fun D σ H => ∃ s Fs x s', RelS K H s σ Fs ∧ r s = some (x, s') ∧
  ∀ cls d σ' H' Fs', RelS K H' s' σ' Fs' → EvR lk H Fs H' Fs' → Lk lk σ σ' → FldAt K H' x cls d → W cls d σ' H'
def tZEF [Tb] [Vs] (K : PySem.W.Frag) (W : WX) (r : RzF) : TE := fun σ H Q => ∃ s Fs x s', RelS K H s σ Fs ∧ r s = some (x, s') ∧
  ∀ cls d H' Fs', RelS K H' s' σ Fs' → Ev H Fs H' Fs' → FldAt K H' x cls d → W cls d σ H'
def RzSF [Tb] [Vs] (X : Cx) (W : WX) (lk : Nat → Bool) (st : Stmt) (r : RzF) : Prop := PS X st (tZF X.K lk W r)
def RzSsF [Tb] [Vs] (X : Cx) (W : WX) (lk : Nat → Bool) (sts : List Stmt) (r : RzF) : Prop := PSs X sts (tZF X.K lk W r)
def RzEF [Tb] [Vs] (X : Cx) (W : WX) (e : Expr) (r : RzF) : Prop := PE X e (tZEF X.K W r)
def zThenF (g : S) (r : RzF) : RzF := fun s => match g s with
  | .ok .nx s1 => r s1
  | _ => none
def zIfF (t : T) (a b : RzF) : RzF := fun s => match t s with
  | .ok c s1 => if c = true then a s1 else b s1
  | _ => none
def zNoF : RzF := fun _ => none
def zRaiseF (c fd : Str) (g : AL) : RzF := fun s => match g s with
  | .ok rs s1 => (match rds rs s1 with
    | some [.int i] => some ((c, fd, i), s1)
    | _ => none)
  | _ => none
def zCallF (f : FnZF) (g : AL) : RzF := fun s => match g s with
  | .ok rs s1 => (match rds rs s1 with
    | some ds => if purs ds = true then (f ds).map (fun x => (x, s1)) else none
    | none => none)
  | _ => none
def mkFzF (ms : List Nat) (n : Nat) (r : RzF) : FnZF := fun ds => if purs ds = true ∧ ds.length = ms.length then (r (ds.map some ++ List.replicate (n - ds.length) none)).map (·.1) else none
theorem mkFz_lenF {ms : List Nat} {n : Nat} {r : RzF} {ds : List D} {x : ExnF} (h : mkFzF ms n r ds = some x) : ds.length = ms.length := by
  unfold mkFzF at h
  split at h
  · rename_i c; exact c.2
  · cases h
section
variable [Tb] [Vs] {X : Cx} {W : WX} {lk : Nat → Bool} {st : Stmt} {rest : List Stmt} {r a b : RzF} {g : S} {t : T} {e : Expr} {pos : Pos}
theorem rz_hereF (h : RzSF X W lk st r) : RzSsF X W lk (st :: rest) r := pss_imp (pss_cons h pss_never) fun _ _ _ z => z
theorem rz_noF : RzSsF X W lk rest zNoF := pss_imp pss_never fun D σ H z => by
  obtain ⟨_, _, _, _, _, e, _⟩ := z
  cases e
theorem rz_thenF (h : SimS X.nox lk st g) (hr : RzSsF X W lk rest r) : RzSsF X W lk (st :: rest) (zThenF g r) := pss_imp (pss_cons (ps_nox h) hr) fun D σ H z => by
  obtain ⟨s, Fs, x, s', R, e, q⟩ := z
  unfold zThenF at e
  split at e
  · rename_i s1 hs1
    exact ⟨s, Fs, .nx, s1, R, hs1, fun σ' H' Fs' R' E' L' => ⟨s1, Fs', x, s', R', e, fun cls d σ2 H2 Fs2 R2 E2 L2 ex => q cls d σ2 H2 Fs2 R2 (E'.transR E2) (L'.trans L2) ex⟩⟩
  · cases e
theorem rz_ifF {aa bb : List Stmt} (ht : SimT X.nox e t) (ha : RzSsF X W lk aa a) (hb : RzSsF X W lk bb b) : RzSF X W lk (.If e aa bb pos) (zIfF t a b) := ps_imp (ps_if (PT.nox ht) ha hb) fun D σ H z => by
  obtain ⟨s, Fs, x, s', R, e, q⟩ := z
  unfold zIfF at e
  split at e
  · rename_i c s1 hs1
    refine ⟨s, Fs, c, s1, R, hs1, fun H1 Fs1 R1 E1 => ?_⟩
    have fin : ∀ {r : RzF}, r s1 = some (x, s') → tZF X.K lk W r D σ H1 := fun er => ⟨s1, Fs1, x, s', R1, er, fun cls d σ2 H2 Fs2 R2 E2 L2 ex => q cls d σ2 H2 Fs2 R2 (E1.transR E2) L2 ex⟩
    cases c with
    | true => rw [if_pos rfl] at e; exact fin e
    | false => rw [if_neg (by simp)] at e; exact fin e
  · cases e
theorem rz_ifxF {aa : List Stmt} (ht : SimT X.nox e t) (ha : RzSsF X W lk aa a) (hr : RzSsF X W lk rest b) : RzSsF X W lk (.If e aa [] pos :: rest) (zIfF t a b) := pss_imp (pss_cons (ps_if (PT.nox ht) ha pss_nil) hr) fun D σ H z => by
  obtain ⟨s, Fs, x, s', R, e, q⟩ := z
  unfold zIfF at e
  split at e
  · rename_i c s1 hs1
    refine ⟨s, Fs, c, s1, R, hs1, fun H1 Fs1 R1 E1 => ?_⟩
    cases c with
    | true => rw [if_pos rfl] at e; exact ⟨s1, Fs1, x, s', R1, e, fun cls d σ2 H2 Fs2 R2 E2 L2 ex => q cls d σ2 H2 Fs2 R2 (E1.transR E2) L2 ex⟩
    | false => rw [if_neg (by simp)] at e; exact ⟨s1, Fs1, x, s', R1, e, fun cls d σ2 H2 Fs2 R2 E2 L2 ex => q cls d σ2 H2 Fs2 R2 (E1.transR E2) L2 ex⟩
  · cases e
theorem rz_retF (he : RzEF X W e r) : RzSF X W lk (.Return (some e) pos) r := ps_imp (ps_ret he) fun D σ H z => by
  obtain ⟨s, Fs, x, s', R, e, q⟩ := z
  exact ⟨s, Fs, x, s', R, e, fun cls d H' Fs' R' E' ex => q cls d σ H' Fs' R' E'.r (.refl _ _) ex⟩
theorem rz_setF {i : Nat} {x : Str} {pos' : Pos} (hN : X.N.Nodup) (hi : X.N[i]? = some x) (hx : Loc X.env.scope x) (he : RzEF X W e r) (hs : swapsWith e (some (.Name x pos')) pos.line X.env = pure false := by rfl) (hf : X.fn x = true ∨ X.env.scope.names.lookup x = some .local := by first | exact .inl rfl | exact .inr rfl | assumption) :
    RzSF X W lk (.Assign [.Name x pos'] e pos) r := ps_imp (ps_set hN hi hx he hs hf) fun D σ H z => by
  obtain ⟨s, Fs, x, s', R, e, q⟩ := z
  exact ⟨s, Fs, x, s', R, e, fun cls d H' Fs' R' E' ex => q cls d σ H' Fs' R' E'.r (.refl _ _) ex⟩
end
section
variable [Tb] [Vs] {X : Cx} {W : WX} {k : Nat} {f : Addr} {fd : FuncData} {ps : List Str} {fn : FnZF} {x : Str} {p pos : Pos} {e : Expr} {es : List Expr} {g : AL}
theorem rz_callF (tk : Takes X W) (F : FnOk X.prog X.w X.K X.mg X.base (L2.CX X.prog X.w) k f fd ps (spZF X.K ps.length fn)) (hr : Room k X.A) (hg : Gl X x) (hm : X.mg x = some (.ref f)) (hk : PySem.W.keepIn X.K (.ref f) = true) (hb : Binds X.K fd ps []) (ha : SimA X.nox (e :: es) g)
    (hn : ∀ ds r, fn ds = some r → ds.length = ps.length) (hdb : (x == ("__debug__" : Str)) = false := by decide) (he : starEach (e :: es) X.env = (false, eval e X.env) :: starEach es X.env := by rfl) (hpl : (backTo pos (starEach es X.env)).any (·.1) = false := by rfl) :
    RzEF X W (.Call (.Name x p) (e :: es) [] pos) (zCallF fn g) := by
  refine pe_imp (pe_callS F hr hg hm hk hb (fun σ => passAt tk σ) (pa_nox ha) hdb he hpl) fun σ H Q z => ?_
  obtain ⟨s, Fs, x, s', R, e, q⟩ := z
  unfold zCallF at e
  split at e
  · rename_i rs s1 hga
    split at e
    · rename_i ds hds
      split at e
      · rename_i hp
        obtain ⟨y, hy, ee⟩ := Option.map_eq_some_iff.mp e
        cases ee
        refine ⟨s, Fs, rs, s', R, hga, fun vs H1 Fs1 Gs R1 E1 k1 n1 => ?_⟩
        have rd := k1.dp R1 hds
        obtain ⟨Fl, ol⟩ := rda_own rd hp
        refine ⟨ds, Fl, x, hy, hp, by rw [rda_len rd, hn _ _ hy], R1.lnk.2, ol, fun cls d H' C ex => ?_⟩
        obtain ⟨R2, E2⟩ := R1.chgZ C
        exact q cls d H' Fs1 R2 (E1.trans E2) ex
      · cases e
    · cases e
  · cases e
end
section
variable [Tb] {P : Program} {w : World} {K : PySem.W.Frag} {mg : Str → Option Value} {base : Heap}
theorem fn_simZF {x qual : Str} {st : Stmt} {f : Addr} {fd : FuncData} {N ps : List Str} {ms : List Nat} {n k : Nat} {r : RzF} (F : Fun K x qual st f fd) (Sc : FnScope N ps (defScope st)) (hn : N.length = n) (hm : ms.length = ps.length)
    (hb : ∀ (cdv : Value) (A : Around) (outer : List Env) (s : Shared) (H : Hp) (E : XK), Room k (A.deeper (PyProof.Rows.envOfC qual (defScope st) s.heap.objs.size f cdv)) → ∀ W : WX, Takes (cxOf (L2.CX P w) P w K mg base N qual (defScope st) f cdv A outer s H E) W →
      RzSsF (cxOf (L2.CX P w) P w K mg base N qual (defScope st) f cdv A outer s H E) W (lkM ms) (defBody st) r) : FnOk P w K mg base (L2.CX P w) (k + 1) f fd ps (spZF K ps.length (mkFzF ms n r)) := by
  refine F.okX Sc (fun vs H Q E h => ?_) (fun cdv A outer s H vs Q E hr h => ⟨_, hb cdv A outer s H E hr (fun cls d _ H => E cls d H) (takes_of rfl rfl rfl rfl), ?_⟩)
  · obtain ⟨ds, Fl, x, hf, hp, hl, _⟩ := h
    exact hl
  · obtain ⟨ds, Fl, x, hf, hp, hl, tt, ol, q⟩ := h
    unfold mkFzF at hf
    split at hf
    · rename_i hok
      obtain ⟨⟨y, s'⟩, hr0, rfl⟩ := Option.map_eq_some_iff.mp hf
      have est : L2.start N vs = vs.map some ++ List.replicate (n - ds.length) none := by
        unfold L2.start
        rw [hn, ← ol.len]
      have R0 := relS_start tt ol (n - ds.length)
      rw [est]
      refine ⟨_, _, y, s', R0, hr0, fun cls d σ' H' Fs' R' E' L' ex => q cls d H' (E'.chg.mono fun a _ _ ⟨i, hi⟩ => ?_) ex⟩
      obtain ⟨G, hG, ha⟩ := getD_of hi
      rw [ol.pur0 hp G (List.mem_of_getElem? hG)] at ha
      cases ha
    · cases hf
end
section
variable [Tb] [Vs] {X : Cx} {W : WX} {lk : Nat → Bool} {e : Expr} {g : AL}
theorem rda_int {K : PySem.W.Frag} {H : Hp} {vs : List V} {i : Int} (h : RdA K H vs [.int i]) : vs = [.int i] := by
  cases h with
  | cons o h =>
    cases h
    cases o
    rfl
theorem rzf_raise {x fd : Str} {p pos pos' : Pos} {C fI : Addr} {k : Nat} {fdt : FuncData} {ps : List Str} (hc : X.calm = true) (tk : Takes X W) (T : OexC X.K C) (hno : PySem.W.findIn X.K (.ref C) fd = some none) (iC : PySem.W.findIn X.K (.ref C) "__init__" = some (some (.ref fI))) (tI : PySem.W.typeIn X.K (.ref fI) = some (.type "function"))
    (F1 : FnOk X.prog X.w X.K X.mg X.base (L2.CX X.prog X.w) k fI fdt ps (spXI X.K C fd)) (hr : Room (k + 1) X.A) (hb : Binds X.K fdt ps []) (hC : ClsN X.K x C) (hg : Gl X x) (hm : X.mg x = some (.ref C)) (ha : SimA X.nox [e] g)
    (hdb : (x == ("__debug__" : Str)) = false := by decide) (he : starEach [e] X.env = (false, eval e X.env) :: starEach [] X.env := by rfl) (hpl : (backTo pos (starEach [] X.env)).any (·.1) = false := by rfl) :
    RzSF X W lk (.Raise (some (.Call (.Name x p) [e] [] pos)) none pos') (zRaiseF x fd g) := ps_imp (ps_raise hc tk (pmk_oex (ds := []) (dvs := []) T iC tI F1 hr hb .nil passL hg hm (pa_nox ha) hdb he hpl)) fun D σ H z => by
  obtain ⟨s, Fs, y, s', R, ez, q⟩ := z
  unfold zRaiseF at ez
  split at ez
  · rename_i rs s1 hga
    split at ez
    · rename_i i hds
      cases ez
      refine ⟨s, Fs, rs, s', R, hga, fun vs H1 Fs1 Gs R1 E1 k1 n1 => ?_⟩
      have ev := rda_int (k1.dp R1 hds)
      subst ev
      refine ⟨(by show 1 ≤ 1000; decide), fun a na => ⟨a, i, rfl, T, hno, upd_same, fun dx nd ne => ?_⟩⟩
      have nd : H1 dx = none := by rwa [upd_ne ne] at nd
      refine ⟨rfl, dx, [(fd, .int i)], upd_same, by rw [upd_ne ne, upd_same], nd, ?_⟩
      have sm : ∀ b o, H1 b = some o → (upd (del (upd (upd (upd H1 a (exo a C none)) dx (exd dx [(fd, .int i)])) a (exo a C (some dx))) a) dx (.xd [(fd, .int i)])) b = some o := fun b o hbo => by
        have b1 : b ≠ a := fun z => by rw [z, na] at hbo; cases hbo
        have b2 : b ≠ dx := fun z => by rw [z, nd] at hbo; cases hbo
        rw [upd_ne b2, del_ne b1, upd_ne b1, upd_ne b2, upd_ne b1]
        exact hbo
      obtain ⟨R2, E2⟩ := R1.chgZ (Chg.same (Fa := fun _ => False) sm)
      exact q _ _ σ _ Fs1 R2 (E1.trans E2).r (.refl _ _) ⟨C, dx, hC, rfl, rfl, upd_same⟩
    · cases ez
  · cases ez
end
end Sim
namespace Sim
open PySem PySem.Spec L2
/-- isinstance(e, c), e the exception that the suite holds, with its field -/
def rIsF (K : PySem.W.Frag) (a : Addr) (cls : Value) (d : Option Addr) : List V → Hp → VK → Prop := fun xs H Q => ∃ (D dd : Addr) (fs : List (Str × V)) (c : V) (cv : Value) (b : Bool), cls = .ref D ∧ d = some dd ∧ H dd = some (.xd fs) ∧ ExcC K D ∧ xs = [.ref a, c] ∧ (∀ u, RelV c u → u = cv) ∧ PySem.W.kitOne K (.ref D) cv = some b ∧ Q (.bl b) H
theorem call_isF {X : Cx} {a : Addr} {oe : Obj} {pn : List (Addr × Obj)} {cls : Value} {d : Option Addr} (hz : Zc cls d oe) (hf : ∃ vs, oe.data = .fields vs) : CallR (X.suite a ((a, oe) :: pn)) (.builtin "isinstance") (rIsF X.K a cls d) := by
  intro pins s σ H xs us Q I r h
  obtain ⟨D, dd, fs, c, cv, b, ec, ed, hdd, C, rfl, hcv, e, q⟩ := h
  subst ec
  subst ed
  cases r with
  | cons rx rr =>
    cases rr with
    | cons rt rr =>
      cases rr
      cases rx
      have ec := hcv _ rt
      subst ec
      obtain ⟨hget, _⟩ := I.pin (a, oe) (List.mem_append.mpr (.inl List.mem_cons_self))
      obtain ⟨vs, hv⟩ := hf
      have hx : ObjOk X.prog X.w H s.heap dd (.xd fs) := I.hok dd _ hdd
      obtain ⟨mA, hns, _⟩ := hx
      obtain ⟨od, ho, _⟩ := lookIn_ns hns
      have J : PySem.W.InstAt s.heap a oe D (some od) := ⟨hget, hz.1, by unfold PySem.W.notCls; rw [hv] <;> rfl, by rw [hz.2]; exact ho⟩
      exact PySem.W.kia_one (PySem.W.kitx_exc (by obtain ⟨cd, hc, _⟩ := PySem.W.any_some C.hd; rw [hc]; rfl) C.hg C.hk C.hs C.ha C.hn C.ht C.hm) I.kIn J e (fun z => nomatch z) fun tk => ⟨.bl b, H, I.kept (t' := tk) fun _ _ z => z, rfl, q⟩
/-- a test of the exception that is caught: of cs one, with the field fd; it lies in the slot i -/
def tXb (K : PySem.W.Frag) (i : Nat) (a : Addr) (cls : Value) (d : Option Addr) (cs : List Str) (fd : Str) (b : ExnF → Bool) : TT := fun σ H Q => ∃ x : ExnF, σ[i]? = some (some (.ref a)) ∧ FldAt K H x cls d ∧ cs.contains x.1 = true ∧ x.2.1 = fd ∧ Q (b x) H
def XcT (X : Cx) (i : Nat) (cs : List Str) (fd : Str) (c : Expr) (b : ExnF → Bool) : Prop := ∀ (a : Addr) (oe : Obj) (cls : Value) (d : Option Addr) (pn : List (Addr × Obj)), Zc cls d oe → (∃ vs, oe.data = .fields vs) → PT (X.suite a ((a, oe) :: pn)) c (tXb X.K i a cls d cs fd b)
def XcW (X : Cx) (i : Nat) (cs : List Str) (fd : Str) (c : Expr) (b : ExnF → Bool) : Prop := ∀ (a : Addr) (oe : Obj) (cls : Value) (d : Option Addr) (pn : List (Addr × Obj)), Zc cls d oe → (∃ vs, oe.data = .fields vs) → PW (X.suite a ((a, oe) :: pn)) c (tXb X.K i a cls d cs fd b)
section
variable {X : Cx} {i : Nat} {cs : List Str} {fd : Str} {c c2 : Expr} {rest : List Expr} {b b2 : ExnF → Bool} {pos : Pos}
theorem xc_w (h : XcW X i cs fd c b) : XcT X i cs fd c b := fun a oe cls d pn hz hf => PW.pt (h a oe cls d pn hz hf)
theorem xc_not (h : XcT X i cs fd c b) : XcT X i cs fd (.UnaryOp .Not c pos) (fun x => !(b x)) := fun a oe cls d pn hz hf => pt_imp (pt_not (h a oe cls d pn hz hf)) fun σ H Q z => by
  obtain ⟨x, h1, h2, h3, h4, q⟩ := z
  exact ⟨x, h1, h2, h3, h4, q⟩
theorem xc_and1 (h : XcT X i cs fd c b) : XcW X i cs fd (.BoolOp .And [c] pos) b := fun a oe cls d pn hz hf => pw_and1 (h a oe cls d pn hz hf)
theorem xc_and (h : XcT X i cs fd c b) (h2 : XcW X i cs fd (.BoolOp .And (c2 :: rest) pos) b2) : XcW X i cs fd (.BoolOp .And (c :: c2 :: rest) pos) (fun x => b x && b2 x) := fun a oe cls d pn hz hf => pw_imp (pw_and (h a oe cls d pn hz hf) (h2 a oe cls d pn hz hf)) fun σ H Q z => by
  obtain ⟨x, h1, h2, h3, h4, q⟩ := z
  refine ⟨x, h1, h2, h3, h4, ?_⟩
  have q : Q (b x && b2 x) H := q
  cases e : b x with
  | true =>
    rw [e, Bool.true_and] at q
    dsimp only
    rw [if_pos rfl]
    exact ⟨x, h1, h2, h3, h4, q⟩
  | false =>
    rw [e, Bool.false_and] at q
    dsimp only
    rw [if_neg Bool.false_ne_true]
    exact q
theorem xc_is {nm y : Str} {p p1 p2 : Pos} {C2 : Addr} {sub : List Str} (hN : X.N[i]? = some nm) (hv : Vis X.env.scope nm) (hgi : Gl X "isinstance") (hmi : X.mg "isinstance" = none) (hg : Gl X y) (hm : X.mg y = some (.ref C2))
    (hC : ∀ n, n ∈ cs → ∀ C, ClsN X.K n C → ExcC X.K C ∧ PySem.W.kitOne X.K (.ref C) (.ref C2) = some (sub.contains n))
    (h1 : (nm == ("__debug__" : Str)) = false := by decide) (h2 : (nm == ("__classdict__" : Str)) = false := by decide) (h3 : (y == ("__debug__" : Str)) = false := by decide)
    (he : starEach [.Name nm p1, .Name y p2] X.env = (false, eval (.Name nm p1) X.env) :: starEach [.Name y p2] X.env := by rfl) (he2 : starEach [.Name y p2] X.env = (false, eval (.Name y p2) X.env) :: starEach [] X.env := by rfl) (hpl : (backTo pos (starEach [.Name y p2] X.env)).any (·.1) = false := by rfl)
    (ht : ∀ whole, isTrue (.Call (.Name "isinstance" p) [.Name nm p1, .Name y p2] [] pos) X.env whole = (do let v ← whole; standAt pos; holding [v] (truthy v)) := by intro _; rfl) :
    XcT X i cs fd (.Call (.Name "isinstance" p) [.Name nm p1, .Name y p2] [] pos) (fun x => sub.contains x.1) := fun a oe cls d pn hz hf => by
  refine pt_imp (pt_val (pe_callB (X := X.suite a ((a, oe) :: pn)) (call_isF hz hf) hgi hmi rfl (pa_cons (pe_var hN hv h1 h2) (pa_cons (pe_glob (v := .ref C2) hg hm rfl h3) pa_nil he2) he) (by decide) (by decide) he hpl) ht) fun σ H Q z => ?_
  obtain ⟨x, e1, ⟨C, dd, hCn, ec, ed, hdd⟩, hcs, e4, q⟩ := z
  obtain ⟨k1, k2⟩ := hC x.1 (by simpa using hcs) C hCn
  exact ⟨.ref a, e1, C, dd, _, .ref C2, .ref C2, _, ec, ed, hdd, k1, rfl, fun u z => z, k2, _, rfl, q⟩
theorem xc_fld {nm : Str} {p p1 : Pos} {v : Int} {j : Nat} {p2 : Pos} (hN : X.N[i]? = some nm) (hv : Vis X.env.scope nm) (hC : ∀ n, n ∈ cs → ∀ C, ClsN X.K n C → XfC X.K C ∧ PySem.W.findIn X.K (.ref C) fd = some none)
    (h1 : (nm == ("__debug__" : Str)) = false := by decide) (h2 : (nm == ("__classdict__" : Str)) = false := by decide) (hb : attributeBase (.Name nm p1) fd X.env (eval (.Name nm p1) X.env) = eval (.Name nm p1) X.env := by rfl)
    (hm : behindInMarks .Eq (.Constant (.int v) j p2) = false := by rfl) :
    XcT X i cs fd (.Compare (.Attribute (.Name nm p1) fd p) [.Eq] [.Constant (.int v) j p2] pos) (fun x => decide (x.2.2 = v)) := fun a oe cls d pn hz hf => by
  by_cases hx : ∃ C n, n ∈ cs ∧ ClsN X.K n C ∧ cls = .ref C
  · obtain ⟨C, n, hn, hCn, ec⟩ := hx
    obtain ⟨T, no⟩ := hC n hn C hCn
    refine pt_imp (pt_cmpR (X := X.suite a ((a, oe) :: pn)) op_eq (pe_xf (X := X) T no hz hf (pe_var hN hv h1 h2) hb) pe_int hm) fun σ H Q z => ?_
    obtain ⟨x, e1, ⟨C', dd, hCn', ec', ed, hdd⟩, hcs, e4, q⟩ := z
    refine ⟨.ref a, e1, rfl, ec, dd, _, .int x.2.2, ed, hdd, ?_, ?_⟩
    · rw [e4]
      simp [List.lookup]
    · refine ⟨rfl, _, rfl, ?_⟩
      rw [show decide (V.int x.2.2 = V.int v) = decide (x.2.2 = v) from decide_eq_decide.mpr ⟨fun z => by cases z; rfl, fun z => by rw [z]⟩]
      exact q
  · refine ⟨fun pins s σ H Q I z => ?_⟩
    obtain ⟨x, e1, ⟨C', dd, hCn', ec', ed, hdd⟩, hcs, e4, q⟩ := z
    exact absurd ⟨C', x.1, by simpa using hcs, hCn', ec'⟩ hx
end
section
variable [Tb] [Vs] {K : PySem.W.Frag} {H : Hp} {s : Sg} {σ : St} {Fs : Fp} {lk : Nat → Bool}
/-- a slot is told no more: it may hold anything -/
def dropF (Fs : Fp) (i : Nat) : Fp := fun j => if j = i then [] else Fs j
theorem dropF_mem {Fs : Fp} {i j : Nat} {a : Addr} (h : a ∈ dropF Fs i j) : a ∈ Fs j := by
  unfold dropF at h
  split at h
  · cases h
  · exact h
theorem set_none {s : Sg} {i : Nat} {d : D} : (s.set i none)[i]? ≠ some (some d) := fun z => by
  rw [List.getElem?_set_self'] at z
  cases e : s[i]? with
  | none => rw [e] at z; cases z
  | some o => rw [e] at z; cases z
theorem RelS.dropX {i : Nat} {v : Option V} (R : RelS K H s σ Fs) (hok : Vs.ok i) : RelS K H (s.set i none) (σ.set i v) (dropF Fs i) := by
  refine ⟨by rw [List.length_set, List.length_set]; exact R.len, fun j d e => ?_, fun j h => ?_, fun j k a h1 h2 => R.dis j k a (dropF_mem h1) (dropF_mem h2), ⟨(Vs.put hok).mpr R.lnk.1, R.lnk.2⟩, fun j h d e => ?_⟩
  · by_cases hj : i = j
    · subst hj
      exact absurd e set_none
    · rw [List.getElem?_set_ne hj] at e
      obtain ⟨u, hu, o⟩ := R.has j d e
      refine ⟨u, by rw [List.getElem?_set_ne hj]; exact hu, ?_⟩
      unfold dropF
      rw [if_neg (Ne.symm hj)]
      exact o
  · unfold dropF
    by_cases hj : j = i
    · rw [if_pos hj, hj]
      exact (Vs.nil hok).symm
    · rw [if_neg hj]
      exact R.off j fun d z => h d (by rw [List.getElem?_set_ne (Ne.symm hj)]; exact z)
  · by_cases hj : i = j
    · subst hj
      exact set_none e
    · rw [List.getElem?_set_ne hj] at e
      exact R.bse j h d e
theorem EvR.dropl {H' : Hp} {Fs' : Fp} {i : Nat} (e : EvR lk H (dropF Fs i) H' Fs') : EvR lk H Fs H' Fs' :=
  ⟨e.chg.mono fun a _ _ ⟨k, hk⟩ => ⟨k, dropF_mem hk⟩, fun j a h => (e.new j a h).imp (fun z => z.imp dropF_mem id) fun ⟨z, k, hk, w⟩ => ⟨z, k, hk, dropF_mem w⟩⟩
theorem EvR.dropr {H' : Hp} {Fs' : Fp} {i : Nat} (e : EvR lk H Fs H' Fs') : EvR lk H Fs H' (dropF Fs' i) := ⟨e.chg, fun j a h => e.new j a (dropF_mem h)⟩
def sTryF (cs : List Str) (fd : Str) (i : Nat) (r : RzF) (g : S) (b : ExnF → Bool) (h : S) : S := fun s => match r s with
  | some (x, s1) => if cs.contains x.1 = true ∧ x.2.1 = fd ∧ i < s1.length then (if b x = true then (match h (s1.set i none) with
      | .ok fl s2 => .ok fl (s2.set i none)
      | e => e) else .ok .nx (s1.set i none)) else .bad
  | none => g s
theorem PostS.drop {D : Ends} {fl : Fl} {s' : Sg} {i : Nat} {v : Option V} (hlk : lk i = false) (hok : Vs.ok i) (q : PostS K lk D σ H Fs (s'.set i none) fl) :
    PostS K lk { nx := fun σ' H' => D.nx (σ'.set i none) H', rt := D.rt, bk := fun σ' H' => D.bk (σ'.set i none) H', ct := fun σ' H' => D.ct (σ'.set i none) H' } (σ.set i v) H (dropF Fs i) s' fl := by
  have L0 : Lk lk σ (σ.set i v) := .set hlk
  cases fl with
  | nx => exact fun σ' H' Fs' R' E' L' => q _ H' _ (R'.dropX hok) E'.dropl.dropr ((L0.trans L').trans (.set hlk))
  | bk => exact fun σ' H' Fs' R' E' L' => q _ H' _ (R'.dropX hok) E'.dropl.dropr ((L0.trans L').trans (.set hlk))
  | ct => exact fun σ' H' Fs' R' E' L' => q _ H' _ (R'.dropX hok) E'.dropl.dropr ((L0.trans L').trans (.set hlk))
  | rt d => exact fun u σ' H' Fs' F R' E' L' o n m => q u (σ'.set i none) H' _ F (R'.dropX hok) E'.dropl.dropr ((L0.trans L').trans (.set hlk)) o (fun a ha => (n a ha).imp id fun ⟨k, hk, w⟩ => ⟨k, hk, dropF_mem w⟩) fun k a hk ha => m k a hk (dropF_mem ha)
end
section
variable [Tb] [Vs] {X : Cx} {lk : Nat → Bool} {r : RzF} {g h : S} {body suite : List Stmt} {c : Expr} {np pos pos' ip : Pos} {x n fd : Str} {cv : Value} {cs : List Str} {i : Nat} {b : ExnF → Bool}
/-- try: body, except x as n: if c: suite -/
theorem ss_tryF (hs : X.stack = X.env :: X.outer) (hf : X.env.frame = some X.env.locals) (hN : X.N.Nodup) (hi : X.N[i]? = some n) (hln : X.env.kindOf n = some .local) (hc : Names X x cv) (hm : ∀ n, n ∈ cs → ∀ C, ClsN X.K n C → PySem.W.exmOne X.K (.ref C) cv = some true) (hlk : lk i = false) (hok : Vs.ok i) (hg : SimSs X.nox lk body g)
    (hr : ∀ (W : WX) (pn : List (Addr × Obj)) (xe : Value → Shared → Prop), Takes (X.tr pn xe) W → RzSsF (X.tr pn xe) W lk body r) (ht : XcT X i cs fd c b) (hh : ∀ (a : Addr) (pn : List (Addr × Obj)), SimSs (X.suite a pn) lk suite h) :
    SimS X lk (.Try body [.ExceptHandler (some (.Name x np)) (some n) [.If c suite [] ip] pos'] [] [] pos) (sTryF cs fd i r g b h) := ⟨fun pins s σ H D I z => by
  obtain ⟨s0, Fs, fl, s', R, e, q⟩ := z
  unfold sTryF at e
  split at e
  · rename_i y s1 hy
    split at e
    · rename_i hcs
      obtain ⟨h1, h2, h3⟩ := hcs
      refine (ps_try_as (tb := fun W => tZF X.K lk W r) (ts := fun a cls d => tIfS (tXb X.K i a cls d cs fd b) (tS X.K lk h) tNext) (Wout := fun _ _ _ _ => False) hs hf hN hi hln hc takes0 (fun W pn xe tk _ => hr W pn xe tk) (fun a oe cls d pn hz hfl => pss_one (ps_if (ht a oe cls d pn hz hfl) (hh a _) pss_nil))).run pins s σ H D I ?_
      refine ⟨s0, Fs, y, s1, R, hy, fun cls d σ' H' Fs' R' E' L' ex => ?_⟩
      have ex2 := ex
      obtain ⟨C, dd, hC, rfl, rfl, hdd⟩ := ex
      refine ⟨true, hm y.1 (by simpa using h1) C hC, fun _ a _ => ?_, fun z => by cases z⟩
      have hlen : i < σ'.length := by
        rw [← R'.len]
        exact h3
      refine ⟨y, by rw [List.getElem?_set_self hlen], ex2, h1, h2, ?_⟩
      have q2 : PostS X.K lk D σ' H' Fs' s' fl := q.from (fun _ z => z) E' L'
      split at e
      · rename_i hb
        dsimp only
        rw [if_pos hb]
        split at e
        · rename_i fl2 s2 h4
          cases e
          exact ⟨s1.set i none, _, fl, s2, R'.dropX hok, h4, q2.drop hlk hok⟩
        · rename_i ne
          exact absurd e (ne _ _)
      · rename_i hb
        dsimp only
        rw [if_neg hb]
        cases e
        have q3 : PostS X.K lk D σ' H' Fs' (s1.set i none) .nx := q2
        exact q3 ((σ'.set i (some (.ref a))).set i none) H' _ (by rw [List.set_set]; exact R'.dropX hok) (EvR.refl _ _).dropr (by rw [List.set_set]; exact .set hlk)
    · cases e
  · exact (ps_try_thru0 hg).run pins s σ H D I ⟨s0, Fs, fl, s', R, e, q⟩⟩
end
end Sim
namespace Sim
open PySem PySem.Spec L2
def oexB (K : PySem.W.Frag) (C : Addr) : Bool := match K.lookup C with
  | some ⟨.type "type", _, .cls cd, sl⟩ => (match cd.mro, sl.toList with
    | .ref C' :: bm, [_, _, _, _, some (.builtin n), _] => C' == C && n == "ValueError.__new__" && !cd.hasDel && cd.hasDict && PySem.HandSPX.refsVE bm
    | _, _ => false)
  | _ => false
theorem oexB_ok {K : PySem.W.Frag} {C : Addr} (q : oexB K C = true) : ∃ nm qn N bs bm sn sub ab col dd k0 k1 k2 k3 k5, K.lookup C = some (excClassObj nm qn C N bs bm true sn sub ab col dd k0 k1 k2 k3 k5 "ValueError.__new__") ∧ PySem.HandSPX.refsVE bm = true := by
  unfold oexB at q
  split at q
  · rename_i dd cd sl ho
    split at q
    · rename_i C' bm k0 k1 k2 k3 n k5 hm hs
      simp only [Bool.and_eq_true, beq_iff_eq, Bool.not_eq_true'] at q
      obtain ⟨⟨⟨⟨rfl, rfl⟩, hdel⟩, hdi⟩, hv⟩ := q
      obtain ⟨nm, bs, mro, ns, qn, hd, sn, sub, ab, col, del⟩ := cd
      dsimp only at hm hdel hdi
      subst hm hdel hdi
      have hsl : sl = #[k0, k1, k2, k3, some (.builtin "ValueError.__new__"), k5] := by
        obtain ⟨l⟩ := sl
        simp only at hs
        rw [hs]
      subst hsl
      exact ⟨nm, qn, ns, bs, bm, sn, sub, ab, col, dd, k0, k1, k2, k3, k5, ho, hv⟩
    · cases q
  · cases q
/-- C has its own __init__ at fI, its instances keep fd -/
def fldB (K : PySem.W.Frag) (C fI : Addr) (fd : Str) : Bool := oexB K C && decide (PySem.W.findIn K (.ref C) "__setattr__" = some (some (.builtin "object.__setattr__"))) && decide (PySem.W.subIn K (.ref C) (.type "BaseException") = some true) && decide (PySem.W.typeIn K (.ref C) = some (.type "type")) && PySem.W.keepIn K (.ref C) &&
  decide (PySem.W.findIn K (.ref C) fd = some none) && decide (PySem.W.findIn K (.ref C) "__init__" = some (some (.ref fI))) && decide (PySem.W.typeIn K (.ref fI) = some (.type "function"))
structure FldC (K : PySem.W.Frag) (C fI : Addr) (fd : Str) : Prop where
  ox : OexC K C
  no : PySem.W.findIn K (.ref C) fd = some none
  iC : PySem.W.findIn K (.ref C) "__init__" = some (some (.ref fI))
  tI : PySem.W.typeIn K (.ref fI) = some (.type "function")
theorem fldB_ok {K : PySem.W.Frag} {C fI : Addr} {fd : Str} (h : fldB K C fI fd = true) : FldC K C fI fd := by
  simp only [fldB, Bool.and_eq_true, decide_eq_true_eq] at h
  obtain ⟨⟨⟨⟨⟨⟨⟨h1, h2⟩, h3⟩, h4⟩, h5⟩, h6⟩, h7⟩, h8⟩ := h
  exact ⟨⟨oexB_ok h1, h2, h3, h4, h5⟩, h6, h7, h8⟩
/-- L.__init__ is ValueError's -/
def initB (K : PySem.W.Frag) (L : Addr) : Bool := decide (PySem.W.specialIn K (.ref L) "__getattribute__" = some (some (.builtin "type.__getattribute__"))) && PySem.W.readsIn K L (.type "type") && (match PySem.W.findCls K (.ref L) (.type "type") "__init__" with
  | some (.val (.builtin n)) => n == "ValueError.__init__"
  | _ => false)
structure InitC (K : PySem.W.Frag) (L : Addr) : Prop where
  ga : PySem.W.specialIn K (.ref L) "__getattribute__" = some (some (.builtin "type.__getattribute__"))
  rd : PySem.W.readsIn K L (.type "type") = true
  vi : PySem.W.findCls K (.ref L) (.type "type") "__init__" = some (.val (.builtin "ValueError.__init__"))
theorem initB_ok {K : PySem.W.Frag} {L : Addr} (h : initB K L = true) : InitC K L := by
  simp only [initB, Bool.and_eq_true, decide_eq_true_eq] at h
  obtain ⟨⟨h1, h2⟩, h3⟩ := h
  refine ⟨h1, h2, ?_⟩
  split at h3
  · rename_i n e
    rw [e, eq_of_beq h3]
  · cases h3
/-- what is asked of a caught one's class -/
def caughtB (K : PySem.W.Frag) (D : Addr) (fd : Str) : Bool := xfB K D && decide (PySem.W.findIn K (.ref D) fd = some none) && decide (PySem.W.findIn K (.ref D) "__class__" = some (some (.builtin "object.__class__"))) &&
  decide (PySem.W.specialIn K (.builtin "object.__class__") "__get__" = some (some (.builtin "getset_descriptor.__get__"))) && decide (PySem.W.takesIn K (.builtin "object.__class__") = some true) && decide (PySem.W.mroIn K D (.type "object") = some true)
structure CaughtC (K : PySem.W.Frag) (D : Addr) (fd : Str) : Prop where
  xf : XfC K D
  no : PySem.W.findIn K (.ref D) fd = some none
  ex : ExcC K D
theorem caughtB_ok {K : PySem.W.Frag} {D : Addr} {fd : Str} (h : caughtB K D fd = true) : CaughtC K D fd := by
  simp only [caughtB, Bool.and_eq_true, decide_eq_true_eq] at h
  obtain ⟨⟨⟨⟨⟨h1, h2⟩, h3⟩, h4⟩, h5⟩, h6⟩ := h
  have x := xfB_ok h1
  exact ⟨x, h2, ⟨x.ga, x.gg, x.exC, x.hdC, h3, h4, h5, h6⟩⟩
end Sim
namespace Sim
open PySem PySem.Spec L2
def oOrV (g h : O) : O := fun s => (g s).bind fun r s1 => match rd r s1 with
  | some .none => h s1
  | some (.tuple (_ :: _)) => .ok r s1
  | _ => .bad
section
variable [Tb] [Vs] {X : Cx} {K : PySem.W.Frag} {σ : St} {H : Hp} {Q : VK}
theorem tO_orV {g h : O} (z : tO K (oOrV g h) σ H Q) : tOrT K (tO K g) (tO K h) σ H Q := by
  obtain ⟨s, Fs, r, s', R, e, q⟩ := z
  obtain ⟨r1, s1, e1, e⟩ := bind_inv e
  refine ⟨s, Fs, r1, s1, R, e1, fun v H1 Fs1 F R1 E1 k1 n1 => ?_⟩
  split at e
  · rename_i hb
    obtain ⟨F', o⟩ := k1.dp R1 hb
    cases o
    exact ⟨false, by first | rfl | exact .non | simp [TruV], s1, Fs1, r, s', R1, e, fun v H2 Fs2 F2 R2 E2 k2 n2 => q v H2 Fs2 F2 R2 (E1.trans E2) k2 fun a ha => E1.chg.there a (n2 a ha)⟩
  · rename_i d ds hb
    cases e
    obtain ⟨F', o⟩ := k1.dp R1 hb
    cases o with
    | @tup a xs _ _ sq oa =>
      cases oa
      exact ⟨true, .inr (.inl ⟨_, SqD.sq sq, rfl⟩), q _ H1 Fs1 F R1 E1 k1 n1⟩
  · cases e
theorem so_orV {a b : Expr} {ga gb : O} {rest : List Expr} {pos : Pos} (ha : SimO X a ga) (hb : SimO X (.BoolOp .Or (b :: rest) pos) gb) : SimO X (.BoolOp .Or (a :: b :: rest) pos) (oOrV ga gb) := pe_imp (pe_orT ha hb) fun _ _ _ h => tO_orV h
end
end Sim
namespace Sim
open PySem PySem.Spec L2
abbrev Pt := List (Option D)
def gtP : Pt → Nat → Option D
  | [], _ => none
  | o :: _, 0 => o
  | _ :: p, n + 1 => gtP p n
def stP : Pt → Nat → Option D → Pt
  | [], _, _ => []
  | _ :: p, 0, o => o :: p
  | q :: p, n + 1, o => q :: stP p n o
structure Mt (p : Pt) (s : Sg) : Prop where
  len : p.length = s.length
  has : ∀ i d, gtP p i = some d → s[i]? = some (some d)
structure Wk (q p : Pt) : Prop where
  len : q.length = p.length
  has : ∀ i d, gtP q i = some d → gtP p i = some d
theorem stP_len : ∀ (p : Pt) (i : Nat) (o : Option D), (stP p i o).length = p.length
  | [], _, _ => rfl
  | _ :: _, 0, _ => rfl
  | _ :: p, i + 1, o => congrArg (· + 1) (stP_len p i o)
theorem gtP_stP : ∀ (p : Pt) (i j : Nat) (o : Option D), gtP (stP p i o) j = if i = j ∧ i < p.length then o else gtP p j
  | [], i, j, o => by rw [if_neg (by simp)]; rfl
  | a :: p, 0, 0, o => by simp [stP, gtP]
  | a :: p, 0, j + 1, o => by simp [stP, gtP]
  | a :: p, i + 1, 0, o => by simp [stP, gtP]
  | a :: p, i + 1, j + 1, o => by
    show gtP (stP p i o) j = _
    rw [gtP_stP p i j o]
    simp [gtP]
theorem Mt.get {p : Pt} {s : Sg} (h : Mt p s) {i : Nat} {d : D} (e : gtP p i = some d) : (s[i]?).join = some d := by rw [h.has i d e]; rfl
theorem Mt.put {p : Pt} {s : Sg} (h : Mt p s) (i : Nat) (d : D) : Mt (stP p i (some d)) (s.set i (some d)) := by
  refine ⟨by rw [stP_len, List.length_set, h.len], fun j e hj => ?_⟩
  rw [gtP_stP] at hj
  rw [List.getElem?_set]
  by_cases c : i = j
  · subst c
    by_cases c2 : i < p.length
    · rw [if_pos ⟨rfl, c2⟩] at hj
      rw [if_pos rfl, if_pos (by rw [← h.len]; exact c2), hj]
    · rw [if_neg (by simp [c2])] at hj
      have := h.has i e hj
      rw [List.getElem?_eq_none (by rw [← h.len]; omega)] at this
      cases this
  · rw [if_neg (by simp [c])] at hj
    rw [if_neg c]
    exact h.has j e hj
theorem Mt.off {p : Pt} {s : Sg} (h : Mt p s) (i : Nat) (o : Option D) : Mt (stP p i none) (s.set i o) := by
  refine ⟨by rw [stP_len, List.length_set, h.len], fun j e hj => ?_⟩
  rw [gtP_stP] at hj
  rw [List.getElem?_set]
  by_cases c : i = j
  · subst c
    by_cases c2 : i < p.length
    · rw [if_pos ⟨rfl, c2⟩] at hj; cases hj
    · rw [if_neg (by simp [c2])] at hj
      have := h.has i e hj
      rw [List.getElem?_eq_none (by rw [← h.len]; omega)] at this
      cases this
  · rw [if_neg (by simp [c])] at hj
    rw [if_neg c]
    exact h.has j e hj
theorem Mt.wk {q p : Pt} {s : Sg} (h : Mt p s) (w : Wk q p) : Mt q s := ⟨w.len.trans h.len, fun i d e => h.has i d (w.has i d e)⟩
theorem Mt.refl (s : Sg) : Mt s s := by
  refine ⟨rfl, fun i d e => ?_⟩
  induction s generalizing i with
  | nil => cases e
  | cons o s ih =>
    cases i with
    | zero => have e : o = some d := e; rw [e]; rfl
    | succ i => rw [List.getElem?_cons_succ]; exact ih i e
theorem wk_nil : Wk [] [] := ⟨rfl, fun _ _ e => by cases e⟩
theorem wk_a {q p : Pt} {o : Option D} (h : Wk q p) : Wk (none :: q) (o :: p) := ⟨congrArg (· + 1) h.len, fun i d e => by
  cases i with
  | zero => cases e
  | succ i => exact h.has i d e⟩
theorem wk_s {q p : Pt} {o : Option D} (h : Wk q p) : Wk (o :: q) (o :: p) := ⟨congrArg (· + 1) h.len, fun i d e => by
  cases i with
  | zero => exact e
  | succ i => exact h.has i d e⟩
theorem Wk.refl (p : Pt) : Wk p p := ⟨rfl, fun _ _ e => e⟩
abbrev eI : Int → D := PyData.int
abbrev eB : Bool → D := PyData.bool
abbrev eS : Str → D := PyData.str
def eU : Unit → D := fun _ => PyData.none
def eL {α : Type} (e : α → D) (xs : List α) : D := .list (xs.map e)
def eT {α : Type} (e : α → D) (xs : List α) : D := .tuple (xs.map e)
def eZ (xs : List Int) : D := .dict [(.none, .list (xs.map .int))]
def eP {α β : Type} (a : α → D) (b : β → D) (x : α × β) : D := .tuple [a x.1, b x.2]
def eQ {α β γ : Type} (a : α → D) (b : β → D) (c : γ → D) (x : α × β × γ) : D := .tuple [a x.1, b x.2.1, c x.2.2]
def eO {α : Type} (e : α → D) : Option α → D
  | none => PyData.none
  | some x => e x
/-- nothing in it changes -/
def Pu {α : Type} (e : α → D) : Prop := ∀ x, pur (e x) = true
theorem puI : Pu eI := fun _ => rfl
theorem puB : Pu eB := fun _ => rfl
theorem puS : Pu eS := fun _ => rfl
theorem puU : Pu eU := fun _ => rfl
theorem puZ : Pu eZ := fun xs => pur_frz _
theorem purs_pu {α : Type} {e : α → D} (h : Pu e) : ∀ xs : List α, purs (xs.map e) = true
  | [] => rfl
  | x :: xs => by rw [List.map_cons, purs_cons, h x, purs_pu h xs]; rfl
theorem puT {α : Type} {e : α → D} (h : Pu e) : Pu (eT e) := fun xs => by rw [eT, pur_tuple, purs_pu h]
theorem puP {α β : Type} {a : α → D} {b : β → D} (h : Pu a) (h2 : Pu b) : Pu (eP a b) := fun x => by rw [eP, pur_tuple, purs_cons, purs_cons, h, h2]; rfl
theorem puQ {α β γ : Type} {a : α → D} {b : β → D} {c : γ → D} (h : Pu a) (h2 : Pu b) (h3 : Pu c) : Pu (eQ a b c) := fun x => by rw [eQ, pur_tuple, purs_cons, purs_cons, purs_cons, h, h2, h3]; rfl
theorem puO' {α : Type} {e : α → D} (h : Pu e) : Pu (eO e) := fun x => by
  cases x with
  | none => rfl
  | some x => exact h x
def Rd (vl : Bool) (p : Pt) (r : Rf) (d : D) : Prop := r = .val d ∨ (vl = false ∧ ∃ i, r = .slot i ∧ gtP p i = some d)
section
variable {α β δ γ : Type}
theorem Rd.rd {vl : Bool} {p : Pt} {r : Rf} {d : D} {s : Sg} (h : Rd vl p r d) (m : Mt p s) : rd r s = some d := by
  rcases h with rfl | ⟨_, i, rfl, e⟩
  · rfl
  · exact m.get e
theorem Rd.own {vl : Bool} {p : Pt} {r : Rf} {d : D} {s : Sg} (h : Rd vl p r d) (m : Mt p s) (c : vl = true ∨ pur d = true) : own r s = some d := by
  rcases h with rfl | ⟨e0, i, rfl, e⟩
  · rfl
  · rcases c with c | c
    · rw [e0] at c; cases c
    · rw [own_slot, m.get e, ownK_some, if_pos c]
def X (vl : Bool) (p : Pt) (g : O) (v : α → D) (q : α → Pt) (F : (α → Option γ) → Option γ) : Prop :=
  ∀ k z, F k = some z → ∃ x, k x = some z ∧ ∀ s, Mt p s → ∃ r s', g s = .ok r s' ∧ Mt (q x) s' ∧ Rd vl (q x) r (v x)
theorem x_var {p : Pt} (i : Nat) {d : D} (h : gtP p i = some d) : X (γ := γ) false p (oV i) (fun _ : Unit => d) (fun _ => p) (fun k => k ()) :=
  fun k z e => ⟨(), e, fun s m => ⟨.slot i, s, by rw [ev_oV, m.get h, ev_oVK], m, .inr ⟨rfl, i, rfl, h⟩⟩⟩
theorem x_c {p : Pt} (d : D) : X (γ := γ) true p (oC d) (fun _ : Unit => d) (fun _ => p) (fun k => k ()) :=
  fun k z e => ⟨(), e, fun s m => ⟨.val d, s, rfl, m, .inl rfl⟩⟩
theorem X.up {p : Pt} {g : O} {v : α → D} {q : α → Pt} {F : (α → Option γ) → Option γ} {vl : Bool} (h : X vl p g v q F) : X false p g v q F := fun k z e => by
  obtain ⟨x, e1, h⟩ := h k z e
  refine ⟨x, e1, fun s m => ?_⟩
  obtain ⟨r, s', h1, h2, h3⟩ := h s m
  exact ⟨r, s', h1, h2, h3.imp id fun h => ⟨rfl, h.2⟩⟩
/-- told otherwise: the same value by another name -/
theorem X.as {p : Pt} {g : O} {v : α → D} {q : α → Pt} {F : (α → Option γ) → Option γ} {vl : Bool} (h : X vl p g v q F) (v' : α → D) (e : v = v') : X vl p g v' q F := e ▸ h
inductive AK where
  | v | s (i : Nat)
def Rk (p : Pt) : List AK → List Rf → List D → Prop
  | [], [], [] => True
  | .v :: ks, r :: rs, d :: ds => (Rd false p r d ∧ (r = .val d ∨ pur d = true)) ∧ Rk p ks rs ds
  | .s i :: ks, r :: rs, d :: ds => (r = .slot i ∧ gtP p i = some d ∧ pur d = false) ∧ Rk p ks rs ds
  | _, _, _ => False
theorem Rk.rds {p : Pt} {s : Sg} (m : Mt p s) : ∀ {ks : List AK} {rs : List Rf} {ds : List D}, Rk p ks rs ds → rds rs s = some ds
  | [], [], [], _ => rfl
  | .v :: ks, r :: rs, d :: ds, h => by rw [rds_cons, h.1.1.rd m, Rk.rds m h.2]; rfl
  | .s i :: ks, r :: rs, d :: ds, h => by rw [rds_cons, h.1.1, rd_slot, m.get h.1.2.1, Rk.rds m h.2]; rfl
theorem Rk.owns {p : Pt} {s : Sg} (m : Mt p s) : ∀ {ks : List AK} {rs : List Rf} {ds : List D}, Rk p ks rs ds → (∀ k ∈ ks, k = .v) → owns rs s = some ds
  | [], [], [], _, _ => rfl
  | .v :: ks, r :: rs, d :: ds, h, a => by
    have o : own r s = some d := by
      rcases h.1.2 with z | z
      · rw [z]; rfl
      · exact h.1.1.own m (.inr z)
    rw [owns_cons, o, Rk.owns m h.2 fun k hk => a k (List.mem_cons_of_mem _ hk)]; rfl
  | .s i :: ks, r :: rs, d :: ds, h, a => by have := a _ (List.mem_cons_self ..); cases this
def kl : List AK → List D → List (Nat × D)
  | .s i :: ks, d :: ds => (i, d) :: kl ks ds
  | .v :: ks, _ :: ds => kl ks ds
  | _, _ => []
theorem Rk.lks {p : Pt} : ∀ {ks : List AK} {rs : List Rf} {ds : List D}, Rk p ks rs ds → lks rs ds = kl ks ds
  | [], [], [], _ => rfl
  | .v :: ks, r :: rs, d :: ds, h => by
    cases r with
    | val x => rw [lks_val, Rk.lks h.2]; rfl
    | slot i =>
      rcases h.1.2 with z | z
      · cases z
      · rw [lks_slot, if_pos z, Rk.lks h.2]; rfl
  | .s i :: ks, r :: rs, d :: ds, h => by
    rw [h.1.1, lks_slot, if_neg (by rw [h.1.2.2]; simp), Rk.lks h.2]; rfl
theorem Rk.lkz {p : Pt} : ∀ {ks : List AK} {rs : List Rf} {ds as : List D}, Rk p ks rs ds → as.length = ds.length → lkz rs ds as = kl ks as
  | [], [], [], [], _, _ => rfl
  | .v :: ks, r :: rs, d :: ds, a :: as, h, l => by
    have l : as.length = ds.length := by simpa using l
    cases r with
    | val x => rw [lkz_val, Rk.lkz h.2 l]; rfl
    | slot i =>
      rcases h.1.2 with z | z
      · cases z
      · rw [lkz_slot, if_pos z, Rk.lkz h.2 l]; rfl
  | .s i :: ks, r :: rs, d :: ds, a :: as, h, l => by
    have l : as.length = ds.length := by simpa using l
    rw [h.1.1, lkz_slot, if_neg (by rw [h.1.2.2]; simp), Rk.lkz h.2 l]; rfl
def AK.isV : AK → Bool
  | .v => true
  | .s _ => false
theorem kv {ks : List AK} (h : ks.all AK.isV = true) : ∀ k ∈ ks, k = .v := fun k hk => by
  have := List.all_eq_true.mp h k hk
  cases k with
  | v => rfl
  | s i => cases this
theorem Rk.len {p : Pt} : ∀ {ks : List AK} {rs : List Rf} {ds : List D}, Rk p ks rs ds → ds.length = ks.length
  | [], [], [], _ => rfl
  | .v :: ks, r :: rs, d :: ds, h => congrArg (· + 1) (Rk.len h.2)
  | .s i :: ks, r :: rs, d :: ds, h => congrArg (· + 1) (Rk.len h.2)
def XA (p : Pt) (gs : AL) (ks : List AK) (vs : α → List D) (q : α → Pt) (F : (α → Option γ) → Option γ) : Prop :=
  ∀ k z, F k = some z → ∃ x, k x = some z ∧ ∀ s, Mt p s → ∃ rs s', gs s = .ok rs s' ∧ Mt (q x) s' ∧ Rk (q x) ks rs (vs x)
theorem xa_nil {p : Pt} : XA (γ := γ) p aNil [] (fun _ : Unit => []) (fun _ => p) (fun k => k ()) :=
  fun k z e => ⟨(), e, fun s m => ⟨[], s, rfl, m, trivial⟩⟩
section
variable {p : Pt} {g : O} {gs : AL} {v : α → D} {q : α → Pt} {F : (α → Option γ) → Option γ} {vl : Bool}
  {ks : List AK} {vs : α → β → List D} {q2 : α → β → Pt} {F2 : α → (β → Option γ) → Option γ}
/-- a value ahead of more -/
theorem xa_v (h : X true p g v q F) (h2 : ∀ x, XA (q x) gs ks (vs x) (q2 x) (F2 x)) :
    XA p (aCons g gs) (.v :: ks) (fun w : α × β => v w.1 :: vs w.1 w.2) (fun w => q2 w.1 w.2) (fun k => F fun x => F2 x fun y => k (x, y)) := fun k z e => by
  obtain ⟨x, e1, h⟩ := h _ z e
  obtain ⟨y, e2, h2⟩ := h2 x _ z e1
  refine ⟨(x, y), e2, fun s m => ?_⟩
  obtain ⟨r, s1, a1, a2, a3⟩ := h s m
  obtain ⟨rs, s2, b1, b2, b3⟩ := h2 s1 a2
  have a3 : r = .val (v x) := by
    rcases a3 with a3 | ⟨a3, _⟩
    · exact a3
    · cases a3
  refine ⟨r :: rs, s2, by rw [ev_aCons, a1, ev_ok, ev_consK, b1, ev_ok, ev_consK2], b2, ⟨.inl a3, .inl a3⟩, b3⟩
/-- what never changes, ahead of what changes nothing -/
theorem xa_p {vs : α → β → List D} (h : X vl p g v q F) (hp : ∀ x, pur (v x) = true) (h2 : ∀ x, XA (q x) gs ks (vs x) (fun _ => q x) (F2 x)) :
    XA p (aCons g gs) (.v :: ks) (fun w : α × β => v w.1 :: vs w.1 w.2) (fun w => q w.1) (fun k => F fun x => F2 x fun y => k (x, y)) := fun k z e => by
  obtain ⟨x, e1, h⟩ := h _ z e
  obtain ⟨y, e2, h2⟩ := h2 x _ z e1
  refine ⟨(x, y), e2, fun s m => ?_⟩
  obtain ⟨r, s1, a1, a2, a3⟩ := h s m
  obtain ⟨rs, s2, b1, b2, b3⟩ := h2 s1 a2
  exact ⟨r :: rs, s2, by rw [ev_aCons, a1, ev_ok, ev_consK, b1, ev_ok, ev_consK2], b2, ⟨a3.imp id fun z => ⟨rfl, z.2⟩, .inr (hp x)⟩, b3⟩
/-- a name that keeps what never changes, ahead of anything -/
theorem xa_n {vs : β → List D} {q2 : β → Pt} {F2 : (β → Option γ) → Option γ} (i : Nat) {d : D} (h0 : gtP p i = some d) (h2 : XA p gs ks vs q2 F2) (h1 : ∀ y, gtP (q2 y) i = some d) (hp : pur d = true) :
    XA p (aCons (oV i) gs) (.v :: ks) (fun w : β => d :: vs w) (fun w => q2 w) F2 := fun k z e => by
  obtain ⟨y, e2, h2⟩ := h2 _ z e
  refine ⟨y, e2, fun s m => ?_⟩
  obtain ⟨rs, s2, b1, b2, b3⟩ := h2 s m
  exact ⟨.slot i :: rs, s2, by rw [ev_aCons, ev_oV, m.get h0, ev_oVK, ev_ok, ev_consK, b1, ev_ok, ev_consK2], b2, ⟨.inr ⟨rfl, i, rfl, h1 y⟩, .inr hp⟩, b3⟩
/-- a name of a list -/
theorem xa_s {vs : β → List D} {q2 : β → Pt} {F2 : (β → Option γ) → Option γ} {d : β → D} {d0 : D} (i : Nat) (h0 : gtP p i = some d0) (h2 : XA p gs ks vs q2 F2) (h1 : ∀ y, gtP (q2 y) i = some (d y)) (hp : ∀ y, pur (d y) = false) :
    XA p (aCons (oV i) gs) (.s i :: ks) (fun w : β => d w :: vs w) (fun w => q2 w) F2 := fun k z e => by
  obtain ⟨y, e2, h2⟩ := h2 _ z e
  refine ⟨y, e2, fun s m => ?_⟩
  obtain ⟨rs, s2, b1, b2, b3⟩ := h2 s m
  exact ⟨.slot i :: rs, s2, by rw [ev_aCons, ev_oV, m.get h0, ev_oVK, ev_ok, ev_consK, b1, ev_ok, ev_consK2], b2, ⟨rfl, h1 y, hp y⟩, b3⟩
end
section
variable {p : Pt} {gs : AL} {q : α → Pt} {F : (α → Option γ) → Option γ} {ks : List AK} {vs : α → List D}
theorem x_prim {f : List D → Option D} {m : α → Option β} {rv : α → β → D} (h : XA p gs ks vs q F) (hf : ∀ x z, m x = some z → f (vs x) = some (rv x z)) :
    X true p (oPrim f gs) (fun w : α × β => rv w.1 w.2) (fun w => q w.1) (fun k => F fun x => (m x).bind fun z => k (x, z)) := fun k z e => by
  obtain ⟨x, e1, h⟩ := h _ z e
  obtain ⟨y, e2, e3⟩ := Option.bind_eq_some_iff.mp e1
  refine ⟨(x, y), e3, fun s mm => ?_⟩
  obtain ⟨rs, s2, b1, b2, b3⟩ := h s mm
  exact ⟨.val (rv x y), s2, by rw [ev_prim, b1, ev_ok, ev_primK, b3.rds b2, ev_primK2, hf x y e2, ev_primK3], b2, .inl rfl⟩
theorem x_primT {f : List D → Option D} {rv : α → D} (h : XA p gs ks vs q F) (hf : ∀ x, f (vs x) = some (rv x)) :
    X true p (oPrim f gs) rv q F := fun k z e => by
  obtain ⟨x, e1, h⟩ := h _ z e
  refine ⟨x, e1, fun s mm => ?_⟩
  obtain ⟨rs, s2, b1, b2, b3⟩ := h s mm
  exact ⟨.val (rv x), s2, by rw [ev_prim, b1, ev_ok, ev_primK, b3.rds b2, ev_primK2, hf x, ev_primK3], b2, .inl rfl⟩
theorem x_tup (h : XA p gs ks vs q F) (hk : ks.all AK.isV = true) (hl : ks.length ≤ 1000000) : X true p (oTup gs) (fun x => .tuple (vs x)) q F := fun k z e => by
  obtain ⟨x, e1, h⟩ := h _ z e
  refine ⟨x, e1, fun s mm => ?_⟩
  obtain ⟨rs, s2, b1, b2, b3⟩ := h s mm
  exact ⟨.val (.tuple (vs x)), s2, by rw [ev_oTup, b1, ev_ok, ev_tupK, b3.owns b2 (kv hk), ev_tupK2, if_pos (by rw [b3.len]; exact hl)], b2, .inl rfl⟩
theorem x_lst (h : XA p gs ks vs q F) (hk : ks.all AK.isV = true) (hl : ks.length ≤ 1000000) : X true p (oLst gs) (fun x => .list (vs x)) q F := fun k z e => by
  obtain ⟨x, e1, h⟩ := h _ z e
  refine ⟨x, e1, fun s mm => ?_⟩
  obtain ⟨rs, s2, b1, b2, b3⟩ := h s mm
  exact ⟨.val (.list (vs x)), s2, by rw [ev_oLst, b1, ev_ok, ev_lstK, b3.owns b2 (kv hk), ev_lstK2, if_pos (by rw [b3.len]; exact hl)], b2, .inl rfl⟩
def lkP : List (Nat × D) → Pt → Pt
  | [], p => p
  | a :: l, p => lkP l (stP p a.1 none)
def ulP : List (Nat × D) → Pt → Pt
  | [], p => p
  | a :: l, p => ulP l (stP p a.1 (some a.2))
theorem Mt.lk : ∀ (l : List (Nat × D)) {p : Pt} {s : Sg}, Mt p s → Mt (lkP l p) (lockS l s)
  | [], _, _, h => h
  | a :: l, _, _, h => by rw [lockS_cons]; exact Mt.lk l (h.off a.1 none)
theorem Mt.ul : ∀ (l : List (Nat × D)) {p : Pt} {s : Sg}, Mt p s → Mt (ulP l p) (unlockS l s)
  | [], _, _, h => h
  | a :: l, _, _, h => by rw [unlockS_cons]; exact Mt.ul l (h.put a.1 a.2)
def kn : List AK → List Nat
  | [] => []
  | .s i :: ks => i :: kn ks
  | .v :: ks => kn ks
theorem kl_kn : ∀ (ks : List AK) (ds : List D), ds.length = ks.length → (kl ks ds).map (·.1) = kn ks
  | [], [], _ => rfl
  | .v :: ks, d :: ds, h1 => kl_kn ks ds (by simpa using h1)
  | .s i :: ks, d :: ds, h1 => by
    have := kl_kn ks ds (by simpa using h1)
    simp [kl, kn, this]
theorem ul_go : ∀ (L : List (Nat × D)) (p : Pt) (s : Sg), p.length = s.length → (∀ i d, gtP p i = some d → i ∈ L.map (·.1) ∨ s[i]? = some (some d)) → Mt (ulP L p) (unlockS L s)
  | [], p, s, l, h => ⟨l, fun i d e => (h i d e).elim (fun z => by cases z) id⟩
  | a :: L, p, s, l, h => by
    rw [unlockS_cons]
    refine ul_go L _ _ (by rw [stP_len, List.length_set, l]) fun i d e => ?_
    rw [gtP_stP] at e
    rw [List.getElem?_set]
    by_cases c : a.1 = i
    · right
      by_cases c2 : a.1 < p.length
      · rw [if_pos ⟨c, c2⟩] at e
        rw [if_pos c, if_pos (by omega), e]
      · rw [if_neg (by simp [c2])] at e
        exact absurd (by have : ∀ (p : Pt) (i : Nat) (d : D), gtP p i = some d → i < p.length := by
                            intro p
                            induction p with
                            | nil => intro i d h; cases h
                            | cons o p ih =>
                              intro i d h
                              cases i with
                              | zero => exact Nat.zero_lt_succ _
                              | succ i => exact Nat.succ_lt_succ (ih i d h)
                         rw [c]; exact this p i d e) c2
    · rw [if_neg (by simp [c])] at e
      rw [if_neg c]
      rcases h i d e with z | z
      · rw [List.map_cons] at z
        rcases List.mem_cons.mp z with z | z
        · exact absurd z.symm c
        · exact .inl z
      · exact .inr z
/-- a call: m is what the callee tells, its arguments as they are then -/
theorem x_call {f : Fn} {m : α → Option β} {rv : α → β → D} {as : α → β → List D} (h : XA p gs ks vs q F) (hn : nodupB (kn ks) = true)
    (hf : ∀ x z, m x = some z → f (vs x) = .ok (rv x z) (as x z)) (hl : ∀ x z, (as x z).length = (vs x).length) (L : α → β → List (Nat × D)) (hL : ∀ x z, kl ks (as x z) = L x z) :
    X true p (oCall f gs) (fun w : α × β => rv w.1 w.2) (fun w => ulP (L w.1 w.2) (q w.1)) (fun k => F fun x => (m x).bind fun z => k (x, z)) := fun k z e => by
  obtain ⟨x, e1, h⟩ := h _ z e
  obtain ⟨y, e2, e3⟩ := Option.bind_eq_some_iff.mp e1
  refine ⟨(x, y), e3, fun s mm => ?_⟩
  obtain ⟨rs, s2, b1, b2, b3⟩ := h s mm
  refine ⟨.val (rv x y), _, oCall_ok b1 (b3.rds b2) (by rw [b3.lks, kl_kn _ _ b3.len, hn]) (hf x y e2), ?_, .inl rfl⟩
  rw [b3.lks, b3.lkz (hl x y), hL]
  have ll : ∀ (L : List (Nat × D)) (s : Sg), (lockS L s).length = s.length := by
    intro L
    induction L with
    | nil => intro s; rfl
    | cons a L ih => intro s; rw [lockS_cons, ih, List.length_set]
  refine ul_go _ _ _ (by rw [ll, b2.len]) fun i d e => ?_
  by_cases c : i ∈ (L x y).map (·.1)
  · exact .inl c
  · right
    have k1 : (L x y).map (·.1) = kn ks := by rw [← hL, kl_kn _ _ (by rw [hl, b3.len])]
    have k2 : (kl ks (vs x)).map (·.1) = kn ks := kl_kn _ _ b3.len
    have lg : ∀ (L : List (Nat × D)) (s : Sg), i ∉ L.map (·.1) → (lockS L s)[i]? = s[i]? := by
      intro L
      induction L with
      | nil => intro s _; rfl
      | cons a L ih =>
        intro s h
        rw [List.map_cons] at h
        rw [lockS_cons, ih _ (fun z => h (List.mem_cons_of_mem _ z)), List.getElem?_set, if_neg (fun z => h (by rw [← z]; exact List.mem_cons_self ..))]
    rw [lg _ _ (by rw [k2, ← k1]; exact c)]
    exact b2.has i d e
/-- a call by which no list changes -/
theorem x_callP {f : Fn} {m : α → Option β} {rv : α → β → D} (h : XA p gs ks vs q F) (hn : nodupB (kn ks) = true)
    (hf : ∀ x z, m x = some z → f (vs x) = .ok (rv x z) (vs x)) :
    X true p (oCall f gs) (fun w : α × β => rv w.1 w.2) (fun w => q w.1) (fun k => F fun x => (m x).bind fun z => k (x, z)) := fun k z e => by
  obtain ⟨x, e1, h⟩ := h _ z e
  obtain ⟨y, e2, e3⟩ := Option.bind_eq_some_iff.mp e1
  refine ⟨(x, y), e3, fun s mm => ?_⟩
  obtain ⟨rs, s2, b1, b2, b3⟩ := h s mm
  refine ⟨.val (rv x y), _, oCall_ok b1 (b3.rds b2) (by rw [b3.lks, kl_kn _ _ b3.len, hn]) (hf x y e2), ?_, .inl rfl⟩
  rw [b3.lks, b3.lkz rfl]
  have key : ∀ (ks : List AK) (rs : List Rf) (ds : List D), Rk (q x) ks rs ds → ∀ i d, (i, d) ∈ kl ks ds → gtP (q x) i = some d := by
    intro ks
    induction ks with
    | nil => intro rs ds h i d hm; cases ds <;> simp [kl] at hm
    | cons a ks ih =>
      intro rs ds h i d hm
      cases a with
      | v =>
        cases rs with
        | nil => cases ds <;> exact h.elim
        | cons r rs => cases ds with
          | nil => exact h.elim
          | cons e ds => exact ih rs ds h.2 i d hm
      | s j =>
        cases rs with
        | nil => cases ds <;> exact h.elim
        | cons r rs => cases ds with
          | nil => exact h.elim
          | cons e ds =>
            rcases List.mem_cons.mp hm with z | z
            · cases z; exact h.1.2.1
            · exact ih rs ds h.2 i d z
  have kk := key ks rs (vs x) b3
  generalize kl ks (vs x) = L at kk
  clear key
  -- what is closed and opened again is as it was
  have go : ∀ (L : List (Nat × D)), (∀ i d, (i, d) ∈ L → gtP (q x) i = some d) → ∀ s', s'.length = (q x).length → (∀ i d, gtP (q x) i = some d → (i, d) ∈ L ∨ s'[i]? = some (some d)) → Mt (q x) (unlockS L s') := by
    intro L
    induction L with
    | nil => intro _ s' hl h; exact ⟨hl.symm, fun i d e => (h i d e).elim (fun z => by cases z) id⟩
    | cons a L ih =>
      intro hk s' hl h
      rw [unlockS_cons]
      refine ih (fun i d z => hk i d (List.mem_cons_of_mem _ z)) _ (by rw [List.length_set, hl]) fun i d e => ?_
      have ha := hk a.1 a.2 (List.mem_cons_self ..)
      rw [List.getElem?_set]
      by_cases c : a.1 = i
      · rw [if_pos c]
        rw [c, e] at ha
        cases ha
        have : i < s'.length := by
          have := b2.has i a.2 e
          have l2 := b2.len
          rcases Nat.lt_or_ge i s'.length with z | z
          · exact z
          · rw [List.getElem?_eq_none (by omega)] at this; cases this
        right
        rw [if_pos (by omega)]
      · rw [if_neg c]
        rcases h i d e with z | z
        · rcases List.mem_cons.mp z with z | z
          · exact absurd (by rw [← z]) c
          · exact .inl z
        · exact .inr z
  refine go L kk _ ?_ fun i d e => ?_
  · have : ∀ (L : List (Nat × D)) (s : Sg), (lockS L s).length = s.length := by
      intro L
      induction L with
      | nil => intro s; rfl
      | cons a L ih => intro s; rw [lockS_cons, ih, List.length_set]
    rw [this, b2.len]
  · have : ∀ (L : List (Nat × D)) (s : Sg), (∀ i d, (i, d) ∈ L → gtP (q x) i = some d) → s[i]? = some (some d) → (i, d) ∈ L ∨ (lockS L s)[i]? = some (some d) := by
      intro L
      induction L with
      | nil => intro s _ h; exact .inr h
      | cons a L ih =>
        intro s hk h
        rw [lockS_cons]
        by_cases c : a.1 = i
        · have ha := hk a.1 a.2 (List.mem_cons_self ..)
          rw [c, e] at ha
          cases ha
          left
          rw [← c]
          exact List.mem_cons_self ..
        · exact (ih (s.set a.1 none) (fun i d z => hk i d (List.mem_cons_of_mem _ z)) (by rw [List.getElem?_set, if_neg c]; exact h)).imp (List.mem_cons_of_mem _) id
    exact this L s2 kk (b2.has i d e)
end
end
end Sim
namespace Sim
open PySem PySem.Spec L2
section
variable {α β δ γ σ τ : Type}
theorem only {γ : Type} {β : Type} (z : γ) (y0 : β) : ∃ k : β → Option γ, k y0 = some z ∧ ∀ y, k y = some z → y = y0 := by
  classical
  refine ⟨fun y => if y = y0 then some z else none, by simp, fun y h => ?_⟩
  by_cases c : y = y0
  · exact c
  · simp [c] at h
def XT (p : Pt) (t : T) (b : α → Bool) (q : α → Pt) (F : (α → Option γ) → Option γ) : Prop :=
  ∀ k z, F k = some z → ∃ x, k x = some z ∧ ∀ s, Mt p s → ∃ s', t s = .ok (b x) s' ∧ Mt (q x) s'
section
variable {p : Pt} {g : O} {t u : T} {b : α → Bool} {q : α → Pt} {F : (α → Option γ) → Option γ} {vl : Bool} {v : α → D}
theorem xt_tst (h : X vl p g (fun x => .bool (b x)) q F) : XT p (tst g) b q F := fun k z e => by
  obtain ⟨x, e1, h⟩ := h k z e
  refine ⟨x, e1, fun s m => ?_⟩
  obtain ⟨r, s', h1, h2, h3⟩ := h s m
  exact ⟨s', by rw [ev_tst, h1, ev_ok, ev_tstK, h3.rd h2, ev_tstK2], h2⟩
theorem xt_tstA (h : X vl p g v q F) (ht : ∀ x, truD (v x) = some (b x)) : XT p (tstA g) b q F := fun k z e => by
  obtain ⟨x, e1, h⟩ := h k z e
  refine ⟨x, e1, fun s m => ?_⟩
  obtain ⟨r, s', h1, h2, h3⟩ := h s m
  exact ⟨s', by rw [ev_tstA, h1, ev_ok, ev_tstAK, h3.rd h2, ev_tstAK2, ht x, ev_tstAK3], h2⟩
theorem xt_not (h : XT p t b q F) : XT p (tNot t) (fun x => !b x) q F := fun k z e => by
  obtain ⟨x, e1, h⟩ := h k z e
  refine ⟨x, e1, fun s m => ?_⟩
  obtain ⟨s', h1, h2⟩ := h s m
  exact ⟨s', by rw [ev_tNot, h1, ev_ok, ev_tNotK], h2⟩
variable {c : α → β → Bool} {q2 : α → β → Pt}
theorem xt_orP {F2 : α → (β → Option Bool) → Option Bool} (h : XT p t b q F) (h2 : ∀ x, XT (q x) u (c x) (fun _ => q x) (F2 x)) :
    XT p (tOr t u) (fun w : α × Bool => w.2) (fun w => q w.1) (fun k => F fun x => (if b x = true then some true else F2 x (fun y => some (c x y))).bind fun z => k (x, z)) := fun k z e => by
  obtain ⟨x, e1, h⟩ := h _ z e
  obtain ⟨w, e2, e3⟩ := Option.bind_eq_some_iff.mp e1
  refine ⟨(x, w), e3, fun s m => ?_⟩
  obtain ⟨s', a1, a2⟩ := h s m
  cases hb : b x with
  | true =>
    rw [if_pos hb] at e2
    cases e2
    exact ⟨s', by rw [ev_tOr, a1, ev_ok, ev_tOrK, if_pos hb], a2⟩
  | false =>
    rw [if_neg (by simp [hb])] at e2
    obtain ⟨y, e4, h2⟩ := h2 x _ w e2
    obtain ⟨s2, b1, b2⟩ := h2 s' a2
    cases e4
    exact ⟨s2, by rw [ev_tOr, a1, ev_ok, ev_tOrK, if_neg (by simp [hb]), b1], b2⟩
/-- and, where the second part changes something -/
theorem xt_andM {F2 : α → (β → Option (Bool × σ)) → Option (Bool × σ)} (h : XT p t b q F) (h2 : ∀ x, XT (q x) u (c x) (q2 x) (F2 x)) (st1 : α → β → σ) (st0 : α → σ) (qs : α → σ → Pt) (w1 : ∀ x y, Wk (qs x (st1 x y)) (q2 x y)) (w0 : ∀ x, Wk (qs x (st0 x)) (q x)) :
    XT p (tAnd t u) (fun w : α × Bool × σ => w.2.1) (fun w => qs w.1 w.2.2) (fun k => F fun x => (if b x = true then F2 x (fun y => some (c x y, st1 x y)) else some (false, st0 x)).bind fun z => k (x, z)) := fun k z e => by
  obtain ⟨x, e1, h⟩ := h _ z e
  obtain ⟨w, e2, e3⟩ := Option.bind_eq_some_iff.mp e1
  refine ⟨(x, w), e3, fun s m => ?_⟩
  obtain ⟨s', a1, a2⟩ := h s m
  cases hb : b x with
  | true =>
    rw [if_pos hb] at e2
    obtain ⟨y, e4, h2⟩ := h2 x _ w e2
    obtain ⟨s2, b1, b2⟩ := h2 s' a2
    cases e4
    exact ⟨s2, by rw [ev_tAnd, a1, ev_ok, ev_tAndK, if_pos hb, b1], b2.wk (w1 x y)⟩
  | false =>
    rw [if_neg (by simp [hb])] at e2
    cases e2
    exact ⟨s', by rw [ev_tAnd, a1, ev_ok, ev_tAndK, if_neg (by simp [hb])], a2.wk (w0 x)⟩
end
section
variable {p : Pt} {g h' : O} {t : T} {b : α → Bool} {q : α → Pt} {F : (α → Option γ) → Option γ} {vl vl2 : Bool} {c : α → β → Bool}
theorem x_not (h : X vl p g (fun x => .bool (b x)) q F) : X true p (oNot g) (fun x => .bool (!b x)) q F := fun k z e => by
  obtain ⟨x, e1, h⟩ := h k z e
  refine ⟨x, e1, fun s m => ?_⟩
  obtain ⟨r, s', h1, h2, h3⟩ := h s m
  exact ⟨_, s', by rw [ev_oNot, h1, ev_ok, ev_notK, h3.rd h2, ev_notK2], h2, .inl rfl⟩
theorem x_andT {y0 : α → β} (h : X vl p g (fun x => .bool (b x)) q F) (h2 : ∀ x, X (γ := γ) vl2 (q x) h' (fun y => .bool (c x y)) (fun _ => q x) (fun k => k (y0 x))) : X false p (oAnd g h') (fun x => .bool (b x && c x (y0 x))) q F := fun k z e => by
  obtain ⟨x, e1, h⟩ := h k z e
  refine ⟨x, e1, fun s m => ?_⟩
  obtain ⟨r, s', a1, a2, a3⟩ := h s m
  obtain ⟨k2, k3, k4⟩ := only z (y0 x)
  obtain ⟨y, e2, h2⟩ := h2 x k2 z k3
  rw [k4 y e2] at h2
  obtain ⟨r2, s2, b1, b2, b3⟩ := h2 s' a2
  cases hb : b x with
  | true => exact ⟨r2, s2, by rw [ev_oAnd, a1, ev_ok, ev_andK, a3.rd a2, ev_andK2, if_pos hb, b1], b2, by simp only [hb, Bool.true_and, Bool.false_or]; exact b3.imp id fun z => ⟨rfl, z.2⟩⟩
  | false => exact ⟨_, s', by rw [ev_oAnd, a1, ev_ok, ev_andK, a3.rd a2, ev_andK2, if_neg (by simp [hb])], a2, .inl (by simp [hb])⟩
theorem x_andP {F2 : α → (β → Option Bool) → Option Bool} (h : X vl p g (fun x => .bool (b x)) q F) (h2 : ∀ x, X vl2 (q x) h' (fun y => .bool (c x y)) (fun _ => q x) (F2 x)) :
    X false p (oAnd g h') (fun w : α × Bool => .bool w.2) (fun w => q w.1) (fun k => F fun x => (if b x = true then F2 x (fun y => some (c x y)) else some false).bind fun z => k (x, z)) := fun k z e => by
  obtain ⟨x, e1, h⟩ := h _ z e
  obtain ⟨w, e2, e3⟩ := Option.bind_eq_some_iff.mp e1
  refine ⟨(x, w), e3, fun s m => ?_⟩
  obtain ⟨r, s', a1, a2, a3⟩ := h s m
  cases hb : b x with
  | true =>
    rw [if_pos hb] at e2
    obtain ⟨y, e4, h2⟩ := h2 x _ w e2
    obtain ⟨r2, s2, b1, b2, b3⟩ := h2 s' a2
    cases e4
    exact ⟨r2, s2, by rw [ev_oAnd, a1, ev_ok, ev_andK, a3.rd a2, ev_andK2, if_pos hb, b1], b2, b3.imp id fun z => ⟨rfl, z.2⟩⟩
  | false =>
    rw [if_neg (by simp [hb])] at e2
    cases e2
    exact ⟨_, s', by rw [ev_oAnd, a1, ev_ok, ev_andK, a3.rd a2, ev_andK2, if_neg (by simp [hb])], a2, .inl rfl⟩
end
section
variable {p : Pt} {g h' : O} {t : T} {b : α → Bool} {q : α → Pt} {F : (α → Option γ) → Option γ} {vl vl2 : Bool}
end
end
end Sim
namespace Sim
open PySem PySem.Spec L2
section
variable {α β δ γ σ τ ρ : Type}
def As (t : Tg) (d : D) (p p' : Pt) : Prop := ∀ s, Mt p s → ∃ s', asg t d s = some s' ∧ Mt p' s'
def Ass (l : List Tg) (ds : List D) (p p' : Pt) : Prop := ∀ s, Mt p s → ∃ s', asgs l ds s = some s' ∧ Mt p' s'
theorem as_nm {i : Nat} {d : D} {p : Pt} : As (.nm i) d p (stP p i (some d)) := fun s m => ⟨_, asg_nm i d s, m.put i d⟩
theorem as_tp {l : List Tg} {ds : List D} {p p' : Pt} (h : Ass l ds p p') : As (.tp l) (.tuple ds) p p' := fun s m => by
  obtain ⟨s', e, m'⟩ := h s m
  exact ⟨s', by rw [asg_tp, e], m'⟩
theorem ass_nil {p : Pt} : Ass [] [] p p := fun s m => ⟨s, asgs_nil s, m⟩
theorem ass_cons {t : Tg} {l : List Tg} {d : D} {ds : List D} {p p1 p2 : Pt} (h : As t d p p1) (h2 : Ass l ds p1 p2) : Ass (t :: l) (d :: ds) p p2 := fun s m => by
  obtain ⟨s', e, m'⟩ := h s m
  obtain ⟨s2, e2, m2⟩ := h2 s' m'
  exact ⟨s2, by rw [asgs_cons, e, asgsK_some, e2], m2⟩
def XI (p : Pt) (it : I) (ey : β → D) (ys : α → List β) (lk : α → List (Nat × D)) (q : α → Pt) (F : (α → Option γ) → Option γ) : Prop :=
  ∀ k z, F k = some z → ∃ x, k x = some z ∧ (∀ i d, (i, d) ∈ lk x → gtP (q x) i = some d) ∧ ∀ s, Mt p s → ∃ s1, it s = .ok ((ys x).map ey, lk x) (lockS (lk x) s1) ∧ Mt (q x) s1
theorem kl_has {p : Pt} : ∀ (ks : List AK) (rs : List Rf) (ds : List D), Rk p ks rs ds → ∀ i d, (i, d) ∈ kl ks ds → gtP p i = some d
  | [], [], [], _, i, d, hm => by cases hm
  | .v :: ks, r :: rs, e :: ds, h, i, d, hm => kl_has ks rs ds h.2 i d hm
  | .s j :: ks, r :: rs, e :: ds, h, i, d, hm => by
    rcases List.mem_cons.mp hm with z | z
    · cases z; exact h.1.2.1
    · exact kl_has ks rs ds h.2 i d z
section
variable {p : Pt} {gs : AL} {ks : List AK} {vs : α → List D} {q : α → Pt} {F : (α → Option γ) → Option γ} {itm : List D → Option (List D)} {ey : β → D}
theorem xi_mk {ys : α → List β} (h : XA p gs ks vs q F) (hn : nodupB (kn ks) = true) (hp : Pu ey) (hi : ∀ x, itm (vs x) = some ((ys x).map ey)) (hM : Nonempty Sg := ⟨[]⟩) :
    XI p (mkI itm gs) ey ys (fun x => kl ks (vs x)) q F := fun k z e => by
  obtain ⟨x, e1, h⟩ := h k z e
  by_cases c : ∃ s, Mt p s
  · obtain ⟨s0, m0⟩ := c
    refine ⟨x, e1, ?_, fun s m => ?_⟩
    · obtain ⟨rs, s', a1, a2, a3⟩ := h s0 m0
      exact kl_has ks rs (vs x) a3
    · obtain ⟨rs, s', a1, a2, a3⟩ := h s m
      refine ⟨s', ?_, a2⟩
      rw [ev_mkI, a1, ev_ok, ev_mkIK, a3.rds a2, ev_mkIK2, hi x, ev_mkIK3, a3.lks, kl_kn _ _ a3.len, if_pos ⟨purs_pu hp _, hn⟩]
  · exfalso
    exact c (by
      refine ⟨p, Mt.refl p⟩)
theorem xi_mkP {ys : α → δ → List β} {m : α → Option δ} (h : XA p gs ks vs q F) (hn : nodupB (kn ks) = true) (hp : Pu ey) (hi : ∀ x z, m x = some z → itm (vs x) = some ((ys x z).map ey)) :
    XI p (mkI itm gs) ey (fun w : α × δ => ys w.1 w.2) (fun w => kl ks (vs w.1)) (fun w => q w.1) (fun k => F fun x => (m x).bind fun z => k (x, z)) := fun k z e => by
  obtain ⟨x, e1, h⟩ := h _ z e
  obtain ⟨y, e2, e3⟩ := Option.bind_eq_some_iff.mp e1
  refine ⟨(x, y), e3, ?_, fun s m => ?_⟩
  · obtain ⟨rs, s', a1, a2, a3⟩ := h p (Mt.refl p)
    exact kl_has ks rs (vs x) a3
  · obtain ⟨rs, s', a1, a2, a3⟩ := h s m
    refine ⟨s', ?_, a2⟩
    rw [ev_mkI, a1, ev_ok, ev_mkIK, a3.rds a2, ev_mkIK2, hi x y e2, ev_mkIK3, a3.lks, kl_kn _ _ a3.len, if_pos ⟨purs_pu hp _, hn⟩]
end
def B (p : Pt) (g : S) (m : Option γ) (Q : γ → Fl → Sg → Prop) : Prop := ∀ z, m = some z → ∀ s, Mt p s → ∃ fl s', g s = .ok fl s' ∧ Q z fl s'
inductive Lf (σ ρ : Type) where
  | go (x : σ) | brk (x : σ) | ret (z : ρ)
def Lf.on (w : Lf σ ρ) (f : σ → τ) (g : ρ → τ) : τ := match w with
  | .go x => f x
  | .brk x => f x
  | .ret z => g z
@[simp] theorem Lf.on_go (x : σ) (f : σ → τ) (g : ρ → τ) : (Lf.go x : Lf σ ρ).on f g = f x := rfl
@[simp] theorem Lf.on_brk (x : σ) (f : σ → τ) (g : ρ → τ) : (Lf.brk x : Lf σ ρ).on f g = f x := rfl
@[simp] theorem Lf.on_ret (z : ρ) (f : σ → τ) (g : ρ → τ) : (Lf.ret z : Lf σ ρ).on f g = g z := rfl
def Qn (q : γ → Pt) : γ → Fl → Sg → Prop := fun z fl s => fl = .nx ∧ Mt (q z) s
def QF (rv : γ → D) (q : γ → Pt) : γ → Fl → Sg → Prop := fun z fl s => (fl = .rt (rv z) ∨ (fl = .nx ∧ rv z = .none)) ∧ Mt (q z) s
def Qc (q : σ → Pt) : σ → Fl → Sg → Prop := fun z fl s => (fl = .nx ∨ fl = .ct) ∧ Mt (q z) s
def QL (qb : σ → Pt) (rv : ρ → D) (qi : ρ → Pt) : Lf σ ρ → Fl → Sg → Prop
  | .go x, fl, s => (fl = .nx ∨ fl = .ct) ∧ Mt (qb x) s
  | .brk x, fl, s => fl = .bk ∧ Mt (qb x) s
  | .ret z, fl, s => fl = .rt (rv z) ∧ Mt (qi z) s
theorem B.cv {p : Pt} {g : S} {m m' : Option γ} {Q : γ → Fl → Sg → Prop} (h : B p g m Q) (e : m = m') : B p g m' Q := e ▸ h
section
variable {p : Pt} {g h th el rest : S} {m : Option γ} {Q : γ → Fl → Sg → Prop}
theorem seq_skip (g : S) (s : Sg) : sSeq g sSkip s = g s := by
  rw [ev_sSeq]
  cases h : g s with
  | ok fl s1 => cases fl <;> rfl
  | exc c v s1 => rfl
  | bad => rfl
theorem seq_asc (a b c : S) (s : Sg) : sSeq (sSeq a b) c s = sSeq a (sSeq b c) s := by
  rw [ev_sSeq, ev_sSeq, ev_sSeq]
  cases h : a s with
  | ok fl s1 => cases fl <;> rfl
  | exc c v s1 => rfl
  | bad => rfl
theorem b_last (h : B p (sSeq g sSkip) m Q) : B p g m Q := fun z e s mm => by
  obtain ⟨fl, s', h1, h2⟩ := h z e s mm
  exact ⟨fl, s', by rw [← h1, seq_skip], h2⟩
theorem b_asc {a b c : S} (h : B p (sSeq a (sSeq b c)) m Q) : B p (sSeq (sSeq a b) c) m Q := fun z e s mm => by
  obtain ⟨fl, s', h1, h2⟩ := h z e s mm
  exact ⟨fl, s', by rw [← h1, seq_asc], h2⟩
theorem b_skip (h : B p rest m Q) : B p (sSeq sSkip rest) m Q := fun z e s mm => by
  obtain ⟨fl, s', h1, h2⟩ := h z e s mm
  exact ⟨fl, s', h1, h2⟩
theorem b_end {q : γ → Pt} {z : γ} (w : Wk (q z) p) : B p sSkip (some z) (Qn q) := fun z' e s mm => by cases e; exact ⟨.nx, s, rfl, rfl, mm.wk w⟩
theorem b_endC {q : γ → Pt} {z : γ} (w : Wk (q z) p) : B p sSkip (some z) (Qc q) := fun z' e s mm => by cases e; exact ⟨.nx, s, rfl, .inl rfl, mm.wk w⟩
theorem b_endL {qb : σ → Pt} {rv : ρ → D} {qi : ρ → Pt} {z : σ} (w : Wk (qb z) p) : B p sSkip (some (.go z)) (QL qb rv qi) := fun z' e s mm => by cases e; exact ⟨.nx, s, rfl, .inl rfl, mm.wk w⟩
section
variable {e : O} {v : α → D} {q : α → Pt} {F : (α → Option γ) → Option γ} {vl : Bool} {M : α → Option γ} {i : Nat}
theorem b_set (h : X vl p e v q F) (c : vl = true ∨ ∀ x, pur (v x) = true) (hr : ∀ x, B (stP (q x) i (some (v x))) rest (M x) Q) : B p (sSeq (sSet i e) rest) (F M) Q := fun z e0 s mm => by
  obtain ⟨x, e1, h⟩ := h M z e0
  obtain ⟨r, s1, a1, a2, a3⟩ := h s mm
  obtain ⟨fl, s', h1, h2⟩ := hr x z e1 _ (a2.put i (v x))
  refine ⟨fl, s', ?_, h2⟩
  rw [ev_sSeq, ev_sSet, a1, ev_ok, ev_asgK, a3.own a2 (c.imp id fun c => c x), ev_asgK2, asg_nm, ev_asgK3, ev_ok, ev_seqK_nx, h1]
theorem b_setL {τ : Type} (e1 : τ → D) {vv : α → τ} {M : α → τ → Option γ} (h : X vl p e (fun x => e1 (vv x)) q F) (c : vl = true ∨ ∀ x, pur (e1 (vv x)) = true) (hr : ∀ x y, B (stP (q x) i (some (e1 y))) rest (M x y) Q) : B p (sSeq (sSet i e) rest) (F fun x => (some (vv x)).bind (M x)) Q :=
  b_set h c fun x => hr x (vv x)
theorem b_asg {t : Tg} {p' : α → Pt} (h : X vl p e v q F) (c : vl = true ∨ ∀ x, pur (v x) = true) (ha : ∀ x, As t (v x) (q x) (p' x)) (hr : ∀ x, B (p' x) rest (M x) Q) : B p (sSeq (sAsg t e) rest) (F M) Q := fun z e0 s mm => by
  obtain ⟨x, e1, h⟩ := h M z e0
  obtain ⟨r, s1, a1, a2, a3⟩ := h s mm
  obtain ⟨s2, b1, b2⟩ := ha x s1 a2
  obtain ⟨fl, s', h1, h2⟩ := hr x z e1 _ b2
  refine ⟨fl, s', ?_, h2⟩
  rw [ev_sSeq, ev_sAsg, a1, ev_ok, ev_asgK, a3.own a2 (c.imp id fun c => c x), ev_asgK2, b1, ev_asgK3, ev_ok, ev_seqK_nx, h1]
theorem b_expr (h : X vl p e v q F) (hr : ∀ x, B (q x) rest (M x) Q) : B p (sSeq (sExpr e) rest) (F M) Q := fun z e0 s mm => by
  obtain ⟨x, e1, h⟩ := h M z e0
  obtain ⟨r, s1, a1, a2, a3⟩ := h s mm
  obtain ⟨fl, s', h1, h2⟩ := hr x z e1 _ a2
  refine ⟨fl, s', ?_, h2⟩
  rw [ev_sSeq, ev_sExpr, a1, ev_ok, ev_exprK, ev_ok, ev_seqK_nx, h1]
theorem b_par {l : List Nat} {gs : AL} {ks : List AK} {vs : α → List D} (h : XA p gs ks vs q F) (hk : ks.all AK.isV = true) (hl : ∀ x, (vs x).length = l.length) {p' : α → Pt} (hp : ∀ x s, Mt (q x) s → Mt (p' x) (putAll l (vs x) s))
    (hr : ∀ x, B (p' x) rest (M x) Q) : B p (sSeq (sPar l gs) rest) (F M) Q := fun z e0 s mm => by
  obtain ⟨x, e1, h⟩ := h M z e0
  obtain ⟨rs, s1, a1, a2, a3⟩ := h s mm
  obtain ⟨fl, s', h1, h2⟩ := hr x z e1 _ (hp x s1 a2)
  refine ⟨fl, s', ?_, h2⟩
  have : sPar l gs s = .ok .nx (putAll l (vs x) s1) := by
    unfold sPar
    rw [a1, ev_ok]
    simp only [a3.owns a2 (kv hk)]
    rw [if_pos (hl x)]
  rw [ev_sSeq, this, ev_ok, ev_seqK_nx, h1]
theorem put2 {i j : Nat} {a b : D} {p : Pt} : ∀ s, Mt p s → Mt (stP (stP p i (some a)) j (some b)) (putAll [i, j] [a, b] s) := fun s m => (m.put i a).put j b
theorem b_ret {lk : Nat → Bool} (h : X vl p e v q F) (R : α → γ) (c : vl = true ∨ ∀ x, pur (v x) = true) (hQ : ∀ x s, Mt (q x) s → Q (R x) (.rt (v x)) s) : B p (sSeq (sRet lk e) rest) (F fun x => some (R x)) Q := fun z e0 s mm => by
  obtain ⟨x, e1, h⟩ := h _ z e0
  cases e1
  obtain ⟨r, s1, a1, a2, a3⟩ := h s mm
  refine ⟨.rt (v x), s1, ?_, hQ x s1 a2⟩
  rw [ev_sSeq, ev_sRet, a1, ev_ok]
  rcases a3 with rfl | ⟨hv, i, rfl, hg⟩
  · rfl
  · rcases c with c | c
    · rw [hv] at c; cases c
    · rw [ev_retK_slot, a2.get hg, ev_retK2, if_pos (.inl (c x))]; rfl
/-- a list of one's own is given -/
theorem b_retS {lk : Nat → Bool} {d : D} {R : γ} (h : gtP p i = some d) (hl : lk i = false) (hQ : ∀ s, Mt p s → Q R (.rt d) s) : B p (sSeq (sRet lk (oV i)) rest) (some R) Q := fun z e0 s mm => by
  cases e0
  refine ⟨.rt d, s, ?_, hQ s mm⟩
  rw [ev_sSeq, ev_sRet, ev_oV, mm.get h, ev_oVK, ev_ok, ev_retK_slot, mm.get h, ev_retK2, if_pos (.inr hl)]; rfl
theorem qf_ret {rv : γ → D} {q : γ → Pt} {z : γ} {d : D} (e : d = rv z) (w : Wk (q z) p) : ∀ s, Mt p s → QF rv q z (.rt d) s := fun s m => ⟨.inl (by rw [e]), m.wk w⟩
theorem ql_ret {qb : σ → Pt} {rv : ρ → D} {qi : ρ → Pt} {z : ρ} {d : D} (e : d = rv z) (w : Wk (qi z) p) : ∀ s, Mt p s → QL qb rv qi (.ret z) (.rt d) s := fun s m => ⟨by rw [e], m.wk w⟩
/-- x[k] = e -/
def setT (xs : List τ) (k : Int) (v : τ) : Option (List τ) := (ixN xs.length k).map fun j => xs.set j v
theorem b_setIx {ga : O} {e1 : τ → D} {vx : α → τ} {β : Type} {vk : α → β → Int} {q2 : α → β → Pt} {F2 : α → (β → Option γ) → Option γ} {xs : α → β → List τ} {M : α → β → List τ → Option γ} {vl2 : Bool}
    (h : X vl p e (fun x => e1 (vx x)) q F) (hp : Pu e1) (hi : ∀ x, ∃ d, gtP (q x) i = some d) (h2 : ∀ x, X vl2 (q x) ga (fun y => .int (vk x y)) (q2 x) (F2 x)) (hv : ∀ x y, vl = true ∨ q2 x y = q x) (hi2 : ∀ x y, gtP (q2 x y) i = some (eL e1 (xs x y)))
    (hr : ∀ x y ys, B (stP (q2 x y) i (some (eL e1 ys))) rest (M x y ys) Q) : B p (sSeq (sSetIx i ga e) rest) (F fun x => F2 x fun y => (setT (xs x y) (vk x y) (vx x)).bind (M x y)) Q := fun z e0 s mm => by
  obtain ⟨x, e2, h⟩ := h _ z e0
  obtain ⟨y, e3, h2⟩ := h2 x _ z e2
  obtain ⟨ys, e4, e5⟩ := Option.bind_eq_some_iff.mp e3
  obtain ⟨r, s1, a1, a2, a3⟩ := h s mm
  obtain ⟨r2, s2, b1, b2, b3⟩ := h2 s1 a2
  unfold setT at e4
  obtain ⟨j, e6, e7⟩ := Option.map_eq_some_iff.mp e4
  have b4 := b2.put i (eL e1 ys)
  obtain ⟨fl, s', h1, h2⟩ := hr x y ys z e5 _ b4
  refine ⟨fl, s', ?_, h2⟩
  obtain ⟨d0, hd0⟩ := hi x
  have o : own r s2 = some (e1 (vx x)) := by
    rcases hv x y with c | c
    · rcases a3 with rfl | ⟨c2, _⟩
      · rfl
      · rw [c] at c2; cases c2
    · rw [c] at b2
      exact Rd.own a3 b2 (.inr (hp _))
  have l : (List.map e1 (xs x y)).length = (xs x y).length := by simp
  rw [ev_sSeq, ev_sSetIx, a1, ev_ok, ev_ixK, ev_oV, a2.get hd0, ev_oVK, ev_ok, ev_ixK1, b1, ev_ok, ev_ixK2, o, b3.rd b2, b2.get (hi2 x y)]
  show ((ixK3 i s2 (some (e1 (vx x))) (some (.int (vk x y))) (some (.list ((xs x y).map e1)))).bind (seqK rest)) = _
  rw [ev_ixK3, if_pos (hp _), l, e6, ev_ixK4, ev_ok, ev_seqK_nx, ← h1]
  refine congrArg rest (congrArg (fun d => s2.set i (some d)) ?_)
  rw [← e7, eL, List.map_set]
end
section
variable {t : T} {b : α → Bool} {q : α → Pt} {F : (α → Option γ) → Option γ}
/-- what is behind stands behind both -/
theorem b_if {m1 m2 : α → Option γ} (h : XT p t b q F) (h1 : ∀ x, B (q x) (sSeq th rest) (m1 x) Q) (h2 : ∀ x, B (q x) (sSeq el rest) (m2 x) Q) :
    B p (sSeq (sIf t th el) rest) (F fun x => if b x = true then m1 x else m2 x) Q := fun z e0 s mm => by
  obtain ⟨x, e1, h⟩ := h _ z e0
  obtain ⟨s1, a1, a2⟩ := h s mm
  cases hb : b x with
  | true =>
    rw [if_pos hb] at e1
    obtain ⟨fl, s', b1, b2⟩ := h1 x z e1 s1 a2
    refine ⟨fl, s', ?_, b2⟩
    rw [ev_sSeq, ev_sIf, a1, ev_ok, ev_ifK, if_pos hb, ← b1, ev_sSeq]
  | false =>
    rw [if_neg (by simp [hb])] at e1
    obtain ⟨fl, s', b1, b2⟩ := h2 x z e1 s1 a2
    refine ⟨fl, s', ?_, b2⟩
    rw [ev_sSeq, ev_sIf, a1, ev_ok, ev_ifK, if_neg (by simp [hb]), ← b1, ev_sSeq]
/-- both go on, with the same names told -/
theorem b_ifj {m1 m2 : α → Option τ} {M : α → τ → Option γ} (h : XT p t b q F) (qj : α → τ → Pt) (h1 : ∀ x, B (q x) th (m1 x) (Qn (qj x))) (h2 : ∀ x, B (q x) el (m2 x) (Qn (qj x)))
    (hr : ∀ x y, B (qj x y) rest (M x y) Q) : B p (sSeq (sIf t th el) rest) (F fun x => (if b x = true then m1 x else m2 x).bind (M x)) Q := fun z e0 s mm => by
  obtain ⟨x, e1, h⟩ := h _ z e0
  obtain ⟨y, e2, e3⟩ := Option.bind_eq_some_iff.mp e1
  obtain ⟨s1, a1, a2⟩ := h s mm
  cases hb : b x with
  | true =>
    rw [if_pos hb] at e2
    obtain ⟨fl, s2, b1, b2, b3⟩ := h1 x y e2 s1 a2
    subst b2
    obtain ⟨fl, s', c1, c2⟩ := hr x y z e3 s2 b3
    refine ⟨fl, s', ?_, c2⟩
    rw [ev_sSeq, ev_sIf, a1, ev_ok, ev_ifK, if_pos hb, b1, ev_ok, ev_seqK_nx, c1]
  | false =>
    rw [if_neg (by simp [hb])] at e2
    obtain ⟨fl, s2, b1, b2, b3⟩ := h2 x y e2 s1 a2
    subst b2
    obtain ⟨fl, s', c1, c2⟩ := hr x y z e3 s2 b3
    refine ⟨fl, s', ?_, c2⟩
    rw [ev_sSeq, ev_sIf, a1, ev_ok, ev_ifK, if_neg (by simp [hb]), b1, ev_ok, ev_seqK_nx, c1]
end
def lpN (F : σ → β → Option σ) : List β → σ → Option σ
  | [], s => some s
  | y :: ys, s => (F s y).bind (lpN F ys)
def lpR (F : σ → β → Option (Lf σ ρ)) : List β → σ → Option (Lf σ ρ)
  | [], s => some (.go s)
  | y :: ys, s => (F s y).bind fun w => match w with
    | .go s => lpR F ys s
    | .brk s => some (.go s)
    | .ret z => some (.ret z)
theorem loop_N {t : Tg} {g : S} {ey : β → D} {qb : σ → Pt} {pb : σ → β → Pt} {mb : σ → β → Option σ} (hT : ∀ x y, As t (ey y) (qb x) (pb x y)) (hb : ∀ x y, B (pb x y) g (mb x y) (Qc qb)) :
    ∀ (ys : List β) (x x' : σ) (s : Sg), lpN mb ys x = some x' → Mt (qb x) s → ∃ s', loopS t g (ys.map ey) s = .ok .nx s' ∧ Mt (qb x') s'
  | [], x, x', s, e, m => by cases e; exact ⟨s, rfl, m⟩
  | y :: ys, x, x', s, e, m => by
    obtain ⟨x1, e1, e2⟩ := Option.bind_eq_some_iff.mp e
    obtain ⟨s1, a1, a2⟩ := hT x y s m
    obtain ⟨fl, s2, b1, b2, b3⟩ := hb x y x1 e1 s1 a2
    obtain ⟨s', c1, c2⟩ := loop_N hT hb ys x1 x' s2 e2 b3
    refine ⟨s', ?_, c2⟩
    rw [List.map_cons, loop_cons, a1, loopK1_some, b1, ev_ok]
    rcases b2 with rfl | rfl <;> exact c1
theorem loop_R {t : Tg} {g : S} {ey : β → D} {qb : σ → Pt} {pb : σ → β → Pt} {mb : σ → β → Option (Lf σ ρ)} {rv : ρ → D} {qi : ρ → Pt} (hT : ∀ x y, As t (ey y) (qb x) (pb x y)) (hb : ∀ x y, B (pb x y) g (mb x y) (QL qb rv qi)) :
    ∀ (ys : List β) (x : σ) (w : Lf σ ρ) (s : Sg), lpR mb ys x = some w → Mt (qb x) s → (∃ x' s', w = .go x' ∧ loopS t g (ys.map ey) s = .ok .nx s' ∧ Mt (qb x') s') ∨ (∃ z s', w = .ret z ∧ loopS t g (ys.map ey) s = .ok (.rt (rv z)) s' ∧ Mt (qi z) s')
  | [], x, x', s, e, m => by cases e; exact .inl ⟨x, s, rfl, rfl, m⟩
  | y :: ys, x, x', s, e, m => by
    obtain ⟨w, e1, e2⟩ := Option.bind_eq_some_iff.mp e
    obtain ⟨s1, a1, a2⟩ := hT x y s m
    obtain ⟨fl, s2, b1, b2⟩ := hb x y w e1 s1 a2
    cases w with
    | go x1 =>
      have ih := loop_R hT hb ys x1 x' s2 e2 b2.2
      have key : loopS t g ((y :: ys).map ey) s = loopS t g (ys.map ey) s2 := by
        rw [List.map_cons, loop_cons, a1, loopK1_some, b1, ev_ok]
        rcases b2.1 with rfl | rfl <;> rfl
      rw [key]
      exact ih
    | brk x1 =>
      cases e2
      refine .inl ⟨x1, s2, rfl, ?_, b2.2⟩
      rw [List.map_cons, loop_cons, a1, loopK1_some, b1, ev_ok, b2.1]; rfl
    | ret z =>
      cases e2
      refine .inr ⟨z, s2, rfl, ?_, b2.2⟩
      rw [List.map_cons, loop_cons, a1, loopK1_some, b1, ev_ok, b2.1]; rfl
section
variable {it : I} {ey : β → D} {ys : α → List β} {lk : α → List (Nat × D)} {q : α → Pt} {F : (α → Option γ) → Option γ} {lkf : Nat → Bool} {t : Tg} {pb : α → σ → β → Pt}
theorem b_for {mb : α → σ → β → Option σ} {M : α → σ → Option γ} (h : XI p it ey ys lk q F) (qb : α → σ → Pt) (s0 : α → σ) (hl : ∀ x, ((lk x).all fun q => lkf q.1) = true) (h0 : ∀ x, Wk (qb x (s0 x)) (lkP (lk x) (q x)))
    (hT : ∀ x s y, As t (ey y) (qb x s) (pb x s y)) (hb : ∀ x s y, B (pb x s y) g (mb x s y) (Qc (qb x))) (hr : ∀ x s, B (ulP (lk x) (qb x s)) rest (M x s) Q) :
    B p (sSeq (sFor lkf it t g) rest) (F fun x => (lpN (fun s y => mb x s y) (ys x) (s0 x)).bind (M x)) Q := fun z e0 s mm => by
  obtain ⟨x, e1, hx, h⟩ := h _ z e0
  obtain ⟨s1, a1, a2⟩ := h s mm
  obtain ⟨x', e2, e3⟩ := Option.bind_eq_some_iff.mp e1
  obtain ⟨s2, b1, b2⟩ := loop_N (hT x) (hb x) (ys x) (s0 x) x' _ e2 ((a2.lk _).wk (h0 x))
  obtain ⟨fl, s', c1, c2⟩ := hr x x' z e3 _ (b2.ul (lk x))
  refine ⟨fl, s', ?_, c2⟩
  rw [ev_sSeq, for_ok a1 (hl x) b1, ev_ok, ev_seqK_nx, c1]
theorem b_forR {mb : α → σ → β → Option (Lf σ ρ)} {M : α → σ → Option γ} (h : XI p it ey ys lk q F) (qb : α → σ → Pt) (s0 : α → σ) (rv : ρ → D) (qi : α → ρ → Pt) (R : ρ → γ) (hl : ∀ x, ((lk x).all fun q => lkf q.1) = true) (h0 : ∀ x, Wk (qb x (s0 x)) (lkP (lk x) (q x)))
    (hT : ∀ x s y, As t (ey y) (qb x s) (pb x s y)) (hb : ∀ x s y, B (pb x s y) g (mb x s y) (QL (qb x) rv (qi x))) (hR : ∀ x z s, Mt (ulP (lk x) (qi x z)) s → Q (R z) (.rt (rv z)) s) (hr : ∀ x s, B (ulP (lk x) (qb x s)) rest (M x s) Q) :
    B p (sSeq (sFor lkf it t g) rest) (F fun x => (lpR (fun s y => mb x s y) (ys x) (s0 x)).bind fun w => w.on (M x) (fun z => some (R z))) Q := fun z e0 s mm => by
  obtain ⟨x, e1, hx, h⟩ := h _ z e0
  obtain ⟨s1, a1, a2⟩ := h s mm
  obtain ⟨w, e2, e3⟩ := Option.bind_eq_some_iff.mp e1
  rcases loop_R (hT x) (hb x) (ys x) (s0 x) w _ e2 ((a2.lk _).wk (h0 x)) with ⟨x', s2, rfl, b1, b2⟩ | ⟨z', s2, rfl, b1, b2⟩
  · obtain ⟨fl, s', c1, c2⟩ := hr x x' z e3 _ (b2.ul (lk x))
    refine ⟨fl, s', ?_, c2⟩
    rw [ev_sSeq, for_ok a1 (hl x) b1, ev_ok, ev_seqK_nx, c1]
  · cases e3
    refine ⟨.rt (rv z'), _, ?_, hR x z' _ (b2.ul (lk x))⟩
    rw [ev_sSeq, for_ok a1 (hl x) b1, ev_ok, ev_seqK_rt]
end
end
def lpW (F : σ → Option (Option (Lf σ ρ))) : Nat → σ → Option (Lf σ ρ)
  | 0, _ => none
  | n + 1, s => (F s).bind fun o => match o with
    | none => some (.go s)
    | some (.go s) => lpW F n s
    | some (.brk s) => some (.go s)
    | some (.ret z) => some (.ret z)
theorem while_W {t : T} {g : S} {qb : σ → Pt} {rv : ρ → D} {qi : ρ → Pt} {cv : σ → α → Bool} {Fc : σ → (α → Option (Option (Lf σ ρ))) → Option (Option (Lf σ ρ))} {mb : σ → α → Option (Lf σ ρ)}
    (hT : ∀ s, XT (qb s) t (cv s) (fun _ => qb s) (Fc s)) (hb : ∀ s x, B (qb s) g (mb s x) (QL qb rv qi)) :
    ∀ (n : Nat) (x : σ) (w : Lf σ ρ) (s : Sg), lpW (fun s => Fc s fun x => if cv s x = true then (mb s x).bind fun w => some (some w) else some none) n x = some w → Mt (qb x) s →
      (∃ x' s', w = .go x' ∧ sWhile t g n s = .ok .nx s' ∧ Mt (qb x') s') ∨ (∃ z s', w = .ret z ∧ sWhile t g n s = .ok (.rt (rv z)) s' ∧ Mt (qi z) s')
  | 0, _, _, _, e, _ => by cases e
  | n + 1, x, w, s, e, m => by
    obtain ⟨o, e1, e2⟩ := Option.bind_eq_some_iff.mp e
    obtain ⟨y, e3, h⟩ := hT x _ _ e1
    obtain ⟨s1, a1, a2⟩ := h s m
    cases hc : cv x y with
    | false =>
      rw [if_neg (by simp [hc])] at e3
      cases e3
      cases e2
      exact .inl ⟨x, s1, rfl, by rw [sWhile]; simp only [a1, hc, ev_ok, Bool.false_eq_true, if_false], a2⟩
    | true =>
      rw [if_pos hc] at e3
      obtain ⟨w1, e4, e5⟩ := Option.bind_eq_some_iff.mp e3
      cases e5
      obtain ⟨fl, s2, b1, b2⟩ := hb x y w1 e4 s1 a2
      cases w1 with
      | go x1 =>
        have ih := while_W hT hb n x1 w s2 e2 b2.2
        have key : sWhile t g (n + 1) s = sWhile t g n s2 := by
          rw [sWhile]
          simp only [a1, hc, ev_ok, if_true, b1]
          rcases b2.1 with rfl | rfl <;> rfl
        rw [key]
        exact ih
      | brk x1 =>
        cases e2
        exact .inl ⟨x1, s2, rfl, by rw [sWhile]; simp only [a1, hc, ev_ok, if_true, b1, b2.1], b2.2⟩
      | ret z =>
        cases e2
        exact .inr ⟨z, s2, rfl, by rw [sWhile]; simp only [a1, hc, ev_ok, if_true, b1, b2.1], b2.2⟩
theorem b_while {p : Pt} {g rest : S} {Q : γ → Fl → Sg → Prop} {t : T} {n : Nat} {cv : σ → α → Bool} {Fc : σ → (α → Option (Option (Lf σ ρ))) → Option (Option (Lf σ ρ))} {mb : σ → α → Option (Lf σ ρ)} {M : σ → Option γ}
    (qb : σ → Pt) (s0 : σ) (rv : ρ → D) (qi : ρ → Pt) (R : ρ → γ) (h0 : Wk (qb s0) p) (hT : ∀ s, XT (qb s) t (cv s) (fun _ => qb s) (Fc s)) (hb : ∀ s x, B (qb s) g (mb s x) (QL qb rv qi)) (hR : ∀ z s, Mt (qi z) s → Q (R z) (.rt (rv z)) s) (hr : ∀ s, B (qb s) rest (M s) Q) :
    B p (sSeq (sWhile t g n) rest) ((lpW (fun s => Fc s fun x => if cv s x = true then (mb s x).bind fun w => some (some w) else some none) n s0).bind fun w => w.on M (fun z => some (R z))) Q := fun z e0 s mm => by
  obtain ⟨w, e2, e3⟩ := Option.bind_eq_some_iff.mp e0
  rcases while_W hT hb n s0 w s e2 (mm.wk h0) with ⟨x', s2, rfl, b1, b2⟩ | ⟨z', s2, rfl, b1, b2⟩
  · obtain ⟨fl, s', c1, c2⟩ := hr x' z e3 _ b2
    exact ⟨fl, s', by rw [ev_sSeq, b1, ev_ok, ev_seqK_nx, c1], c2⟩
  · cases e3
    exact ⟨.rt (rv z'), _, by rw [ev_sSeq, b1, ev_ok, ev_seqK_rt], hR z' _ b2⟩
theorem puL {e : α → D} {xs : List α} : pur (eL e xs) = false := pur_list _
theorem fn_t {ms : List Nat} {n : Nat} {g : S} {ds : List D} {p0 : Pt} {m : Option γ} {rv : γ → D} {q : γ → Pt} {outs : γ → List D} (hb : B p0 g m (QF rv q)) (h0 : ds.map some ++ List.replicate (n - ds.length) none = p0) (h1 : okM ms ds = true)
    (h2 : ∀ z s, Mt (q z) s → coll ms ds 0 s = some (outs z)) : ∀ z, m = some z → mkFn ms n g ds = .ok (rv z) (outs z) := fun z e => by
  obtain ⟨fl, s', a1, a2, a3⟩ := hb z e p0 (Mt.refl _)
  rw [← h0] at a1
  rcases a2 with rfl | ⟨rfl, e2⟩
  · exact mkFn_rt h1 a1 (h2 z s' a3)
  · rw [e2]; exact mkFn_nx h1 a1 (h2 z s' a3)
theorem coll_nilP {p : Pt} {j : Nat} : ∀ s, Mt p s → coll [] [] j s = some [] := fun s _ => rfl
theorem coll_0P {p : Pt} {j : Nat} {ms : List Nat} {d d' : D} {ds as : List D} (h : gtP p j = some d') (h2 : ∀ s, Mt p s → coll ms ds (j + 1) s = some as) : ∀ s, Mt p s → coll (0 :: ms) (d :: ds) j s = some (d' :: as) := fun s m => by
  rw [coll_0, m.get h, h2 s m]; rfl
end
end Sim
namespace Sim
open PySem PySem.Spec L2
def lim {α : Type} (n : Nat) (m : Option α) : Option α := if n ≤ 1000000 then m else none
theorem lim_of {α : Type} {n : Nat} {m : Option α} (h : n ≤ 1000000) : lim n m = m := if_pos h
section
variable {α β δ γ σ τ ρ ε ζ : Type}
def XPr (p : Pt) (po : Option O) (l : α → Option Int) (F : (α → Option γ) → Option γ) : Prop :=
  ∀ k z, F k = some z → ∃ x, k x = some z ∧ ∀ s, Mt p s → ∃ s', prt po s = .ok (l x) s' ∧ Mt p s'
theorem xpr_none {p : Pt} : XPr (γ := γ) p none (fun _ : Unit => none) (fun k => k ()) := fun k z e => ⟨(), e, fun s m => ⟨s, rfl, m⟩⟩
theorem xpr_some {p : Pt} {g : O} {i : α → Int} {F : (α → Option γ) → Option γ} {vl : Bool} (h : X vl p g (fun x => .int (i x)) (fun _ => p) F) : XPr p (some g) (fun x => some (i x)) F := fun k z e => by
  obtain ⟨x, e1, h⟩ := h k z e
  refine ⟨x, e1, fun s m => ?_⟩
  obtain ⟨r, s', a1, a2, a3⟩ := h s m
  exact ⟨s', by rw [ev_prt_some, a1, ev_ok, ev_prtK, a3.rd a2, ev_prtK2], a2⟩
section
variable {p : Pt} {g : O} {lo hi st : Option O} {v : α → D} {q : α → Pt} {F : (α → Option γ) → Option γ} {vl : Bool} {l : α → β → Option Int} {F1 : α → (β → Option γ) → Option γ}
  {u : α → β → δ → Option Int} {F2 : α → β → (δ → Option γ) → Option γ}
theorem x_sl {rv : α → β → δ → D} (h : X vl p g v q F) (h1 : ∀ x, XPr (q x) lo (l x) (F1 x)) (h2 : ∀ x y, XPr (q x) hi (u x y) (F2 x y)) (hs : ∀ x y w, slD (v x) (l x y) (u x y w) = some (rv x y w)) :
    X true p (oSl g lo hi) (fun w : α × β × δ => rv w.1 w.2.1 w.2.2) (fun w => q w.1) (fun k => F fun x => F1 x fun y => F2 x y fun w => k (x, y, w)) := fun k z e => by
  obtain ⟨x, e1, h⟩ := h _ z e
  obtain ⟨y, e2, h1⟩ := h1 x _ z e1
  obtain ⟨w, e3, h2⟩ := h2 x y _ z e2
  refine ⟨(x, y, w), e3, fun s m => ?_⟩
  obtain ⟨r, s1, a1, a2, a3⟩ := h s m
  obtain ⟨s2, b1, b2⟩ := h1 s1 a2
  obtain ⟨s3, c1, c2⟩ := h2 s2 b2
  exact ⟨.val (rv x y w), s3, by rw [ev_oSl, a1, ev_ok, ev_slK1, b1, ev_ok, ev_slK2, c1, ev_ok, ev_slK3, a3.rd c2, ev_slK4, hs, ev_slK5], c2, .inl rfl⟩
end
section
variable {p : Pt} {g : O} {lo hi st : Option O} {v : α → D} {q : α → Pt} {F : (α → Option γ) → Option γ} {vl : Bool} {l : α → β → Option Int} {F1 : α → (β → Option γ) → Option γ}
  {u : α → β → δ → Option Int} {F2 : α → β → (δ → Option γ) → Option γ}
end
theorem x_ten {p : Pt} (n : Nat) (h1 : 2 ≤ n) (h2 : n ≤ 100000) : X (γ := γ) true p (oTen n) (fun _ : Unit => .int (tenN n)) (fun _ => p) (fun k => k ()) :=
  fun k z e => ⟨(), e, fun s m => ⟨_, s, ev_ten n h1 h2 s, m, .inl rfl⟩⟩
theorem x_mt {p : Pt} {gs : AL} {ks : List AK} {vs : α → List D} {q : α → Pt} {F : (α → Option γ) → Option γ} {f : List D → List D → Option (List D × D)} {i : Nat} {e : τ → D} {x0 : List τ} {xs : α → List τ} {m : α → Option β} {xs' : α → β → List τ} {rv : α → β → D}
    (h0 : gtP p i = some (eL e x0)) (h : XA p gs ks vs q F) (hk : ks.all AK.isV = true) (h1 : ∀ x, gtP (q x) i = some (eL e (xs x))) (hf : ∀ x z, m x = some z → f ((xs x).map e) (vs x) = some ((xs' x z).map e, rv x z)) (hp : ∀ x z, pur (rv x z) = true) :
    X true p (oMt f i gs) (fun w : α × β => rv w.1 w.2) (fun w => stP (q w.1) i (some (eL e (xs' w.1 w.2)))) (fun k => F fun x => (m x).bind fun z => k (x, z)) := fun k z e0 => by
  obtain ⟨x, e1, h⟩ := h _ z e0
  obtain ⟨y, e2, e3⟩ := Option.bind_eq_some_iff.mp e1
  refine ⟨(x, y), e3, fun s mm => ?_⟩
  obtain ⟨rs, s2, b1, b2, b3⟩ := h s mm
  refine ⟨.val (rv x y), s2.set i (some (eL e (xs' x y))), ?_, b2.put i _, .inl rfl⟩
  have g1 : (s[i]?).join = some (.list (x0.map e)) := mm.get h0
  have g2 : (s2[i]?).join = some (.list ((xs x).map e)) := b2.get (h1 x)
  rw [ev_oMt, ev_oV, g1, ev_oVK, ev_ok, ev_mtK, g1, ev_mtK1, b1, ev_ok, ev_mtK2, g2, b3.owns b2 (kv hk), ev_mtK3, hf x y e2, ev_mtK4, if_pos (hp x y)]
  rfl
theorem x_idx {p : Pt} {g h' : O} {v : α → D} {ds : α → List D} {q : α → Pt} {F : (α → Option γ) → Option γ} {vl vl2 : Bool} {v2 : α → β → D} {F2 : α → (β → Option γ) → Option γ} {m : α → β → Option δ} {rv : α → β → δ → D}
    (h : X vl p g v q F) (hd : ∀ x, v x = .tuple (ds x)) (h2 : ∀ x, X vl2 (q x) h' (v2 x) (fun _ => q x) (F2 x)) (hf : ∀ x y z, m x y = some z → pIndexT [.tuple (ds x), v2 x y] = some (rv x y z)) :
    X true p (oIdxT g h') (fun w : α × β × δ => rv w.1 w.2.1 w.2.2) (fun w => q w.1) (fun k => F fun x => F2 x fun y => (m x y).bind fun z => k (x, y, z)) := fun k z e => by
  obtain ⟨x, e1, h⟩ := h _ z e
  obtain ⟨y, e2, h2⟩ := h2 x _ z e1
  obtain ⟨w, e3, e4⟩ := Option.bind_eq_some_iff.mp e2
  refine ⟨(x, y, w), e4, fun s mm => ?_⟩
  obtain ⟨r, s1, a1, a2, a3⟩ := h s mm
  obtain ⟨r2, s2, b1, b2, b3⟩ := h2 s1 a2
  refine ⟨.val (rv x y w), s2, ?_, b2, .inl rfl⟩
  have e5 : rds [r, r2] s2 = some [.tuple (ds x), v2 x y] := by rw [rds_cons, rds_cons, rds_nil, a3.rd b2, b3.rd b2, hd]; rfl
  unfold oIdxT
  rw [a1, ev_ok, a3.rd a2, hd]
  simp only [b1, ev_ok, e5, hf x y w e3]
def clP : List Nat → Pt → Pt
  | [], p => p
  | v :: vs, p => stP (clP vs p) v none
theorem Mt.cl : ∀ (vs : List Nat) {p : Pt} {s : Sg}, Mt p s → Mt (clP vs p) (clrS vs s)
  | [], _, _, h => h
  | v :: vs, _, _, h => by rw [clrS_cons]; exact (Mt.cl vs h).off v none
theorem own_mem : ∀ {vs : List Nat} {s : Sg} {i : Nat} {d : D}, (i, d) ∈ ownSl vs s ↔ i ∈ vs ∧ (s[i]?).join = some d
  | [], s, i, d => by simp
  | v :: vs, s, i, d => by
    rw [ownSl_cons]
    cases h : (s[v]?).join with
    | none =>
      rw [ownSlK_none, own_mem]
      constructor
      · rintro ⟨a, b⟩; exact ⟨List.mem_cons_of_mem _ a, b⟩
      · rintro ⟨a, b⟩
        rcases List.mem_cons.mp a with rfl | a
        · rw [h] at b; cases b
        · exact ⟨a, b⟩
    | some e =>
      rw [ownSlK_some, List.mem_cons, own_mem]
      constructor
      · rintro (a | ⟨a, b⟩)
        · cases a; exact ⟨List.mem_cons_self .., h⟩
        · exact ⟨List.mem_cons_of_mem _ a, b⟩
      · rintro ⟨a, b⟩
        rcases List.mem_cons.mp a with rfl | a
        · rw [h] at b; cases b; exact .inl rfl
        · exact .inr ⟨a, b⟩
theorem own_nodup : ∀ {vs : List Nat} {s : Sg}, nodupB vs = true → nodupB ((ownSl vs s).map (·.1)) = true
  | [], s, _ => by simp
  | v :: vs, s, h => by
    rw [ev_nodupB, Bool.and_eq_true] at h
    rw [ownSl_cons]
    have ih := own_nodup (s := s) h.2
    cases e : (s[v]?).join with
    | none => rw [ownSlK_none]; exact ih
    | some d =>
      rw [ownSlK_some, List.map_cons, ev_nodupB, ih, Bool.and_true]
      have h1 := h.1
      simp only [Bool.not_eq_true', List.contains_eq_mem, decide_eq_false_iff_not] at h1 ⊢
      intro z
      obtain ⟨a, ha, hb⟩ := List.mem_map.mp z
      obtain ⟨a1, a2⟩ := a
      have hb : a1 = v := hb
      subst hb
      exact h1 (own_mem.mp ha).1
theorem lock_get : ∀ {L : List (Nat × D)} {s : Sg} {i : Nat}, (∀ d, (i, d) ∉ L) → (lockS L s)[i]? = s[i]?
  | [], s, i, _ => rfl
  | a :: L, s, i, h => by
    rw [lockS_cons, lock_get fun d z => h d (List.mem_cons_of_mem _ z), List.getElem?_set, if_neg]
    intro z
    exact h a.2 (by rw [← z]; exact List.mem_cons_self ..)
theorem lock_len : ∀ (L : List (Nat × D)) (s : Sg), (lockS L s).length = s.length
  | [], _ => rfl
  | a :: L, s => by rw [lockS_cons, lock_len L, List.length_set]
theorem unlock_len : ∀ (L : List (Nat × D)) (s : Sg), (unlockS L s).length = s.length
  | [], _ => rfl
  | a :: L, s => by rw [unlockS_cons, unlock_len L, List.length_set]
theorem clr_len : ∀ (vs : List Nat) (s : Sg), (clrS vs s).length = s.length
  | [], _ => rfl
  | v :: vs, s => by rw [clrS_cons, List.length_set, clr_len vs]
theorem unlock_get : ∀ {L : List (Nat × D)} {s : Sg} {i : Nat} {d : D}, (∀ d', (i, d') ∈ L → d' = d) → i < s.length → ((∃ d', (i, d') ∈ L) ∨ s[i]? = some (some d)) → (unlockS L s)[i]? = some (some d)
  | [], s, i, d, _, _, h => by
    rcases h with ⟨d', h⟩ | h
    · cases h
    · exact h
  | a :: L, s, i, d, h1, h2, h => by
    rw [unlockS_cons]
    refine unlock_get (fun d' z => h1 d' (List.mem_cons_of_mem _ z)) (by rw [List.length_set]; exact h2) ?_
    rw [List.getElem?_set]
    by_cases c : a.1 = i
    · right
      rw [if_pos c, if_pos (by omega), h1 a.2 (by rw [← c]; exact List.mem_cons_self ..)]
    · rw [if_neg c]
      rcases h with ⟨d', h⟩ | h
      · rcases List.mem_cons.mp h with z | z
        · exact absurd (by rw [← z]) c
        · exact .inl ⟨d', z⟩
      · exact .inr h
theorem gtP_lt : ∀ {p : Pt} {i : Nat} {d : D}, gtP p i = some d → i < p.length
  | [], _, _, h => by cases h
  | _ :: _, 0, _, _ => Nat.zero_lt_succ _
  | _ :: p, i + 1, _, h => Nat.succ_lt_succ (gtP_lt (p := p) h)
theorem clP_get : ∀ {vs : List Nat} {p : Pt} {i : Nat} {d : D}, gtP (clP vs p) i = some d → i ∉ vs ∧ gtP p i = some d
  | [], _, _, _, h => ⟨by simp, h⟩
  | v :: vs, p, i, d, h => by
    have hh : gtP (stP (clP vs p) v none) i = some d := h
    have h : gtP (stP (clP vs p) v none) i = some d := h
    rw [gtP_stP] at h
    by_cases c : v = i ∧ v < (clP vs p).length
    · rw [if_pos c] at h; cases h
    · rw [if_neg c] at h
      obtain ⟨h1, h2⟩ := clP_get h
      refine ⟨fun z => ?_, h2⟩
      rcases List.mem_cons.mp z with rfl | z
      · exact c ⟨rfl, by have := gtP_lt hh; rw [stP_len] at this; exact this⟩
      · exact h1 z
theorem clr_get : ∀ {vs : List Nat} {s : Sg} {i : Nat}, i ∉ vs → (clrS vs s)[i]? = s[i]?
  | [], _, _, _ => rfl
  | v :: vs, s, i, h => by
    rw [clrS_cons, List.getElem?_set, if_neg (fun z => h (by rw [z]; exact List.mem_cons_self ..)), clr_get fun z => h (List.mem_cons_of_mem _ z)]
theorem cl_own {vs : List Nat} {p : Pt} {s s0 : Sg} (m : Mt p s) : Mt (clP vs p) (clrS vs (lockS (ownSl vs s0) s)) := by
  have e : ∀ vs : List Nat, (clP vs p).length = p.length := by
    intro vs
    induction vs with
    | nil => rfl
    | cons v vs ih => show (stP _ _ _).length = _; rw [stP_len, ih]
  refine ⟨by rw [e, clr_len, lock_len, m.len], fun i d h => ?_⟩
  obtain ⟨h1, h2⟩ := clP_get h
  rw [clr_get h1, lock_get fun d' z => h1 (own_mem.mp z).1]
  exact m.has i d h2
def lcS (F : σ → β → Option (Option δ × σ)) : List β → σ → Option (List δ × σ)
  | [], s => some ([], s)
  | y :: ys, s => (F s y).bind fun w => (lcS F ys w.2).bind fun r => some ((match w.1 with
    | some d => d :: r.1
    | none => r.1), r.2)
theorem comp_S {t : Tg} {c : T} {e : O} {vs : List Nat} {ey : β → D} {ee : δ → D} {qb : σ → Pt} {F : σ → β → Option (Option δ × σ)}
    (hs : ∀ u y w, F u y = some w → ∀ s, Mt (qb u) s → ∃ s1 s2 b, asg t (ey y) s = some s1 ∧ c s1 = .ok b s2 ∧ ((b = false ∧ w.1 = none ∧ Mt (qb w.2) (clrS vs s2)) ∨ (b = true ∧ ∃ d r s3, w.1 = some d ∧ e s2 = .ok r s3 ∧ own r s3 = some (ee d) ∧ Mt (qb w.2) (clrS vs s3)))) :
    ∀ (ys : List β) (u : σ) (acc : List D) (z : List δ × σ) (s : Sg), lcS F ys u = some z → acc.length + ys.length ≤ 1000000 → Mt (qb u) s → ∃ s', compL t c e vs (ys.map ey) acc s = .ok (acc ++ z.1.map ee) s' ∧ Mt (qb z.2) s'
  | [], u, acc, z, s, h, _, m => by cases h; exact ⟨s, by simp, m⟩
  | y :: ys, u, acc, z, s, h, hl, m => by
    obtain ⟨w, e1, e2⟩ := Option.bind_eq_some_iff.mp h
    obtain ⟨r, e3, e4⟩ := Option.bind_eq_some_iff.mp e2
    rw [List.length_cons] at hl
    obtain ⟨s1, s2, b, a1, a2, a3⟩ := hs u y w e1 s m
    rcases a3 with ⟨rfl, hw, m2⟩ | ⟨rfl, d, rr, s3, hw, b1, b2, m2⟩
    · obtain ⟨s', c1, c2⟩ := comp_S hs ys w.2 acc r _ e3 (by omega) m2
      cases e4
      refine ⟨s', ?_, c2⟩
      rw [hw]
      rw [List.map_cons, compL]
      simp only [a1, a2, ev_ok, Bool.false_eq_true, if_false, c1]
    · obtain ⟨s', c1, c2⟩ := comp_S hs ys w.2 (acc ++ [ee d]) r _ e3 (by rw [List.length_append, List.length_singleton]; omega) m2
      cases e4
      refine ⟨s', ?_, c2⟩
      rw [hw]
      rw [List.map_cons, compL]
      simp only [a1, a2, ev_ok, if_true, b1, b2]
      rw [if_pos (by omega), c1]
      simp
section
variable {p : Pt} {it : I} {ey : β → D} {ys : α → List β} {lk : α → List (Nat × D)} {q : α → Pt} {F : (α → Option γ) → Option γ} {t : Tg} {c : T} {e : O} {vs : List Nat} {ee : δ → D}
theorem x_compG {qb : α → σ → Pt} {s0 : α → σ} {G : α → σ → β → Option (Option δ × σ)} {p' : α → σ → Pt} (h : XI p it ey ys lk q F) (hv : nodupB vs = true) (h0 : ∀ x, Wk (qb x (s0 x)) (clP vs (lkP (lk x) (q x))))
    (hs : ∀ x u y w, G x u y = some w → ∀ s, Mt (qb x u) s → ∃ s1 s2 b, asg t (ey y) s = some s1 ∧ c s1 = .ok b s2 ∧ ((b = false ∧ w.1 = none ∧ Mt (qb x w.2) (clrS vs s2)) ∨ (b = true ∧ ∃ d r s3, w.1 = some d ∧ e s2 = .ok r s3 ∧ own r s3 = some (ee d) ∧ Mt (qb x w.2) (clrS vs s3))))
    (hp : ∀ x u, (p' x u).length = (qb x u).length ∧ (qb x u).length = (q x).length ∧ ∀ i d, gtP (p' x u) i = some d → gtP (q x) i = some d ∧ (i ∈ vs ∨ i ∈ (lk x).map (·.1)) ∨ gtP (qb x u) i = some d ∧ i ∉ vs ∧ i ∉ (lk x).map (·.1)) :
    X true p (oComp it t c e vs) (fun w : α × List δ × σ => eL ee w.2.1) (fun w => p' w.1 w.2.2) (fun k => F fun x => lim (ys x).length ((lcS (G x) (ys x) (s0 x)).bind fun z => k (x, z))) := fun k z e0 => by
  obtain ⟨x, e1, hx, h⟩ := h _ z e0
  unfold lim at e1
  by_cases hl : (ys x).length ≤ 1000000
  · rw [if_pos hl] at e1
    obtain ⟨w, e2, e3⟩ := Option.bind_eq_some_iff.mp e1
    refine ⟨(x, w), e3, fun s mm => ?_⟩
    obtain ⟨s1, a1, a2⟩ := h s mm
    obtain ⟨s2, b1, b2⟩ := comp_S (hs x) (ys x) (s0 x) [] w _ e2 (by simpa using hl) ((cl_own (vs := vs) (s0 := lockS (lk x) s1) (a2.lk (lk x))).wk (h0 x))
    refine ⟨.val (eL ee w.1), unlockS (ownSl vs (lockS (lk x) s1) ++ lk x) s2, ?_, ?_, .inl rfl⟩
    · unfold oComp
      rw [a1, ev_ok, if_pos (own_nodup hv), b1, ev_ok]
      rfl
    · obtain ⟨l1, l2, l3⟩ := hp x w.2
      refine ⟨by rw [unlock_len, l1, b2.len], fun i d hi => ?_⟩
      have hi2 : i < s2.length := by rw [← b2.len, ← l1]; exact gtP_lt hi
      refine unlock_get (fun d' z => ?_) hi2 ?_
      · rcases l3 i d hi with ⟨z1, z2⟩ | ⟨z1, z2, z3⟩
        · rcases List.mem_append.mp z with y | y
          · obtain ⟨y1, y2⟩ := own_mem.mp y
            by_cases c : ∃ d2, (i, d2) ∈ lk x
            · obtain ⟨d2, c⟩ := c
              have : ∀ (L : List (Nat × D)) (s : Sg), (i, d2) ∈ L → (lockS L s)[i]?.join = none := by
                intro L
                induction L with
                | nil => intro s z; cases z
                | cons a L ih =>
                  intro s z
                  rw [lockS_cons]
                  by_cases c2 : ∃ d3, (i, d3) ∈ L
                  · obtain ⟨d3, c2⟩ := c2
                    have : ∀ (L : List (Nat × D)) (s : Sg), ((s[i]?).join = none ∨ ∃ d3, (i, d3) ∈ L) → (lockS L s)[i]?.join = none := by
                      intro L
                      induction L with
                      | nil => intro s z; rcases z with z | ⟨_, z⟩; exact z; cases z
                      | cons b L ih =>
                        intro s z
                        rw [lockS_cons]
                        refine ih _ ?_
                        rw [List.getElem?_set]
                        by_cases c : b.1 = i
                        · left; rw [if_pos c]; split <;> rfl
                        · rw [if_neg c]
                          rcases z with z | ⟨d4, z⟩
                          · exact .inl z
                          · rcases List.mem_cons.mp z with z | z
                            · exact absurd (by rw [← z]) c
                            · exact .inr ⟨d4, z⟩
                    exact this L _ (.inr ⟨d3, c2⟩)
                  · rw [lock_get (fun d3 z => c2 ⟨d3, z⟩), List.getElem?_set]
                    rcases List.mem_cons.mp z with z | z
                    · have : a.1 = i := by rw [← z]
                      rw [if_pos this]; split <;> rfl
                    · exact absurd ⟨d2, z⟩ c2
              rw [this (lk x) s1 c] at y2
              cases y2
            · rw [lock_get (fun d3 z => c ⟨d3, z⟩)] at y2
              have := a2.get z1
              rw [y2] at this
              cases this; rfl
          · have := hx i d' y
            rw [z1] at this
            cases this; rfl
        · rcases List.mem_append.mp z with y | y
          · exact absurd (own_mem.mp y).1 z2
          · exact absurd (List.mem_map.mpr ⟨_, y, rfl⟩) z3
      · rcases l3 i d hi with ⟨z1, z2⟩ | ⟨z1, z2, z3⟩
        · left
          by_cases c : i ∈ (lk x).map (·.1)
          · obtain ⟨a, ha, hb⟩ := List.mem_map.mp c
            obtain ⟨a1', a2'⟩ := a
            have hb : a1' = i := hb
            subst hb
            exact ⟨a2', List.mem_append_right _ ha⟩
          · rcases z2 with z2 | z2
            · refine ⟨d, List.mem_append_left _ (own_mem.mpr ⟨z2, ?_⟩)⟩
              rw [lock_get (fun d3 z => c (List.mem_map.mpr ⟨_, z, rfl⟩))]
              exact a2.get z1
            · exact absurd z2 c
        · right; exact b2.has i d z1
  · rw [if_neg hl] at e1; cases e1
end
theorem clP_len : ∀ (vs : List Nat) (p : Pt), (clP vs p).length = p.length
  | [], _ => rfl
  | v :: vs, p => by show (stP _ _ _).length = _; rw [stP_len, clP_len vs]
theorem lkP_len : ∀ (L : List (Nat × D)) (p : Pt), (lkP L p).length = p.length
  | [], _ => rfl
  | a :: L, p => by show (lkP L (stP p a.1 none)).length = _; rw [lkP_len L, stP_len]
theorem clP_keep : ∀ {vs : List Nat} {p : Pt} {i : Nat}, i ∉ vs → gtP (clP vs p) i = gtP p i
  | [], _, _, _ => rfl
  | v :: vs, p, i, h => by
    show gtP (stP (clP vs p) v none) i = _
    rw [gtP_stP, if_neg, clP_keep fun z => h (List.mem_cons_of_mem _ z)]
    rintro ⟨z, _⟩
    exact h (by rw [z]; exact List.mem_cons_self ..)
theorem lkP_keep : ∀ {L : List (Nat × D)} {p : Pt} {i : Nat}, i ∉ L.map (·.1) → gtP (lkP L p) i = gtP p i
  | [], _, _, _ => rfl
  | a :: L, p, i, h => by
    show gtP (lkP L (stP p a.1 none)) i = _
    rw [lkP_keep (fun z => h (by rw [List.map_cons]; exact List.mem_cons_of_mem _ z)), gtP_stP, if_neg]
    rintro ⟨z, _⟩
    exact h (by rw [List.map_cons, z]; exact List.mem_cons_self ..)
section
variable {p : Pt} {it : I} {ey : β → D} {ys : α → List β} {lk : α → List (Nat × D)} {q : α → Pt} {F : (α → Option γ) → Option γ} {t : Tg} {c : T} {e : O} {vs : List Nat} {ee : δ → D}
theorem X.cvF {p : Pt} {g : O} {v : α → D} {q : α → Pt} {F F' : (α → Option γ) → Option γ} {vl : Bool} (h : X vl p g v q F) (e : F = F') : X vl p g v q F' := e ▸ h
theorem pureP {x : α} : (q x).length = (clP vs (lkP (lk x) (q x))).length ∧ (clP vs (lkP (lk x) (q x))).length = (q x).length ∧ ∀ i d, gtP (q x) i = some d → gtP (q x) i = some d ∧ (i ∈ vs ∨ i ∈ (lk x).map (·.1)) ∨ gtP (clP vs (lkP (lk x) (q x))) i = some d ∧ i ∉ vs ∧ i ∉ (lk x).map (·.1) := by
  have e : (clP vs (lkP (lk x) (q x))).length = (q x).length := by rw [clP_len, lkP_len]
  refine ⟨e.symm, e, fun i d hi => ?_⟩
  by_cases c : i ∈ vs ∨ i ∈ (lk x).map (·.1)
  · exact .inl ⟨hi, c⟩
  · have c1 : i ∉ vs := fun z => c (.inl z)
    have c2 : i ∉ (lk x).map (·.1) := fun z => c (.inr z)
    exact .inr ⟨by rw [clP_keep c1, lkP_keep c2, hi], c1, c2⟩
/-- nothing changes -/
theorem x_compP {vl : Bool} {pb : α → β → Pt} {cv : α → β → ε → Bool} {Fc : α → β → (ε → Option (Option δ × Unit)) → Option (Option δ × Unit)}
    {ev : α → β → ε → ζ → δ} {Fe : α → β → ε → (ζ → Option (Option δ × Unit)) → Option (Option δ × Unit)}
    (h : XI p it ey ys lk q F) (hv : nodupB vs = true) (hT : ∀ x y, As t (ey y) (clP vs (lkP (lk x) (q x))) (pb x y))
    (hc : ∀ x y, XT (pb x y) c (cv x y) (fun _ => pb x y) (Fc x y)) (he : ∀ x y w, X vl (pb x y) e (fun w2 => ee (ev x y w w2)) (fun _ => pb x y) (Fe x y w)) (ho : vl = true ∨ Pu ee)
    (hn : ∀ x y, Wk (clP vs (lkP (lk x) (q x))) (clP vs (pb x y))) :
    X true p (oComp it t c e vs) (fun w : α × List δ × Unit => eL ee w.2.1) (fun w => q w.1)
      (fun k => F fun x => lim (ys x).length ((lcS (fun _ y => Fc x y fun w => if cv x y w = true then Fe x y w fun w2 => some (some (ev x y w w2), ()) else some (none, ())) (ys x) ()).bind fun z => k (x, z))) :=
  x_compG (G := fun x _ y => Fc x y fun w => if cv x y w = true then Fe x y w fun w2 => some (some (ev x y w w2), ()) else some (none, ())) (qb := fun x _ => clP vs (lkP (lk x) (q x))) (s0 := fun _ => ()) (p' := fun x _ => q x) h hv (fun x => Wk.refl _) (fun x u y w e1 s m => by
    obtain ⟨s1, a1, a2⟩ := hT x y s m
    obtain ⟨w1, e2, hc⟩ := hc x y _ _ e1
    obtain ⟨s2, b1, b2⟩ := hc s1 a2
    refine ⟨s1, s2, _, a1, b1, ?_⟩
    cases hb : cv x y w1 with
    | false =>
      rw [if_neg (by simp [hb])] at e2
      cases e2
      exact .inl ⟨rfl, rfl, (b2.cl vs).wk (hn x y)⟩
    | true =>
      rw [if_pos hb] at e2
      obtain ⟨w2, e3, he⟩ := he x y w1 _ _ e2
      obtain ⟨r, s3, c1, c2, c3⟩ := he s2 b2
      cases e3
      exact .inr ⟨rfl, _, r, s3, rfl, c1, c3.own c2 (ho.imp id fun z => z _), (c2.cl vs).wk (hn x y)⟩) (fun x u => pureP)
theorem lcS_fil (c : β → Bool) (f : β → δ) : ∀ ys : List β, lcS (fun (_ : Unit) y => if c y = true then some (some (f y), ()) else some (none, ())) ys () = some ((ys.filter c).map f, ())
  | [] => rfl
  | y :: ys => by
    cases h : c y with
    | true =>
      show (if c y = true then _ else _ : Option (Option δ × Unit)).bind _ = _
      rw [if_pos h, Option.bind_some, lcS_fil c f ys, List.filter_cons_of_pos h]; rfl
    | false =>
      show (if c y = true then _ else _ : Option (Option δ × Unit)).bind _ = _
      rw [if_neg (by simp [h]), Option.bind_some, lcS_fil c f ys, List.filter_cons_of_neg (by simp [h])]; rfl
/-- those that, each sure to be told -/
theorem x_filT {vl : Bool} {pb : α → β → Pt} {cv : α → β → ε → Bool} {y0 : α → β → ε} {ev : α → β → ζ → δ} {y1 : α → β → ζ}
    (h : XI p it ey ys lk q F) (hv : nodupB vs = true) (hT : ∀ x y, As t (ey y) (clP vs (lkP (lk x) (q x))) (pb x y))
    (hc : ∀ x y, XT (γ := Option δ × Unit) (pb x y) c (cv x y) (fun _ => pb x y) (fun k => k (y0 x y)))
    (he : ∀ x y, X (γ := Option δ × Unit) vl (pb x y) e (fun w2 => ee (ev x y w2)) (fun _ => pb x y) (fun k => k (y1 x y))) (ho : vl = true ∨ Pu ee)
    (hn : ∀ x y, Wk (clP vs (lkP (lk x) (q x))) (clP vs (pb x y))) :
    X true p (oComp it t c e vs) (fun w : α × List δ × Unit => eL ee w.2.1) (fun w => q w.1) (fun k => F fun x => lim (ys x).length (k (x, ((ys x).filter fun y => cv x y (y0 x y)).map (fun y => ev x y (y1 x y)), ()))) := by
  refine (x_compP (ev := fun x y _ => ev x y) h hv hT hc (fun x y _ => he x y) ho hn).cvF (funext fun k => congrArg F (funext fun x => congrArg (lim _) ?_))
  have := lcS_fil (fun y => cv x y (y0 x y)) (fun y => ev x y (y1 x y)) (ys x)
  show (lcS (fun _ y => if cv x y (y0 x y) = true then some (some (ev x y (y1 x y)), ()) else some (none, ())) (ys x) ()).bind _ = _
  rw [this]; rfl
end
end
end Sim
namespace Sim
open PySem PySem.Spec L2
section
variable {α β δ : Type}
structure Eqv [DecidableEq α] (n : Nat) (e : α → D) : Prop where
  lay : ∀ x, PyData.canLay0 (e x) = true
  dep : ∀ x, PyData.depth (e x) ≤ n
  nod : ∀ x, noD (e x) = true
  eq : ∀ x y, PyData.eqv (e x) (e y) = decide (x = y)
theorem eqI : Eqv 0 eI := ⟨fun _ => rfl, fun _ => Nat.le_refl _, fun _ => rfl, fun x y => by simp [PyData.eqv]; rfl⟩
theorem eqv_all [DecidableEq α] {n : Nat} {e : α → D} (h : Eqv n e) : ∀ xs ys : List α, PyData.eqvAll (xs.map e) (ys.map e) = decide (xs = ys)
  | [], [] => by simp [PyData.eqvAll]
  | [], _ :: _ => by simp [PyData.eqvAll]
  | _ :: _, [] => by simp [PyData.eqvAll]
  | x :: xs, y :: ys => by
    rw [List.map_cons, List.map_cons, PyData.eqvAll, h.eq, eqv_all h xs ys, Bool.eq_iff_iff]
    simp
theorem lay_all {n : Nat} [DecidableEq α] {e : α → D} (h : Eqv n e) : ∀ xs : List α, PyData.canLayAll0 (xs.map e) = true ∧ PyData.depthAll (xs.map e) ≤ n ∧ noDs (xs.map e) = true
  | [] => ⟨rfl, Nat.zero_le _, rfl⟩
  | x :: xs => by
    obtain ⟨a, b, c⟩ := lay_all h xs
    refine ⟨?_, ?_, ?_⟩
    · rw [List.map_cons, PyData.canLayAll0, h.lay, a]; rfl
    · rw [List.map_cons, PyData.depthAll]; exact Nat.max_le.mpr ⟨h.dep x, b⟩
    · rw [List.map_cons, noDs, h.nod, c]; rfl
theorem eqL [DecidableEq α] {n : Nat} {e : α → D} (h : Eqv n e) : Eqv (n + 1) (eL e) :=
  ⟨fun x => by rw [eL, PyData.canLay0]; exact (lay_all h x).1, fun x => by rw [eL, PyData.depth]; have := (lay_all h x).2.1; omega, fun x => by rw [eL, noD]; exact (lay_all h x).2.2, fun x y => by rw [eL, eL, PyData.eqv, eqv_all h]⟩
theorem eqT [DecidableEq α] {n : Nat} {e : α → D} (h : Eqv n e) : Eqv (n + 1) (eT e) :=
  ⟨fun x => by rw [eT, PyData.canLay0]; exact (lay_all h x).1, fun x => by rw [eT, PyData.depth]; have := (lay_all h x).2.1; omega, fun x => by rw [eT, noD]; exact (lay_all h x).2.2, fun x y => by rw [eT, eT, PyData.eqv, eqv_all h]⟩
theorem Eqv.up [DecidableEq α] {n m : Nat} {e : α → D} (h : Eqv n e) (z : n ≤ m) : Eqv m e := ⟨h.lay, fun x => Nat.le_trans (h.dep x) z, h.nod, h.eq⟩
theorem eqP [DecidableEq α] [DecidableEq β] {n m : Nat} {a : α → D} {b : β → D} (h : Eqv n a) (h2 : Eqv m b) : Eqv (max n m + 1) (eP a b) :=
  ⟨fun x => by simp [eP, PyData.canLay0, PyData.canLayAll0, h.lay, h2.lay], fun x => by simp [eP, PyData.depth, PyData.depthAll]; have := h.dep x.1; have := h2.dep x.2; omega, fun x => by simp [eP, noD, noDs, h.nod, h2.nod],
   fun x y => by
    obtain ⟨x1, x2⟩ := x
    obtain ⟨y1, y2⟩ := y
    rw [eP, eP, PyData.eqv, PyData.eqvAll, PyData.eqvAll, PyData.eqvAll, h.eq, h2.eq, Bool.eq_iff_iff]
    simp⟩
theorem Eqv.shp [DecidableEq α] {n : Nat} {e : α → D} (h : Eqv n e) (z : n ≤ 64) (x : α) : shp (e x) = true := by
  have := h.dep x
  simp only [Sim.shp, SeqAt.shaped, h.lay, h.nod, Bool.true_and, Bool.and_true, decide_eq_true_eq]
  omega
theorem op_eq [DecidableEq α] {n : Nat} {e : α → D} (h : Eqv n e) (z : n ≤ 64) (x y : α) : pEq [e x, e y] = some (.bool (decide (x = y))) := by
  rw [ev_eq, if_pos ⟨h.shp z x, h.shp z y⟩, h.eq]
theorem op_ne [DecidableEq α] {n : Nat} {e : α → D} (h : Eqv n e) (z : n ≤ 64) (x y : α) : pNe [e x, e y] = some (.bool (!decide (x = y))) := by
  rw [ev_ne, if_pos ⟨h.shp z x, h.shp z y⟩, h.eq]
theorem op_add (i j : Int) : pAdd [.int i, .int j] = some (.int (i + j)) := rfl
theorem op_sub' (i j : Int) : pSub [.int i, .int j] = some (.int (i - j)) := rfl
theorem op_neg (i : Int) : pNeg [.int i] = some (.int (-i)) := rfl
theorem op_lt' (i j : Int) : pLt [.int i, .int j] = some (.bool (decide (i < j))) := rfl
theorem op_gt' (i j : Int) : pGt [.int i, .int j] = some (.bool (decide (j < i))) := rfl
theorem op_ge' (i j : Int) : pGe [.int i, .int j] = some (.bool (decide (j ≤ i))) := rfl
theorem op_mulL {a b : Int} (h : -(2 ^ 64) < a ∧ a < 2 ^ 64) : pMul [.int a, .int b] = some (.int (a * b)) := by
  rw [ev_mul, if_pos (mulOk_l h.1 h.2)]
theorem op_mulR {a b : Int} (h : -(2 ^ 64) < b ∧ b < 2 ^ 64) : pMul [.int a, .int b] = some (.int (a * b)) := by
  rw [ev_mul, if_pos (mulOk_r h.1 h.2)]
theorem op_mulB (a : Int) (b : Bool) : pMul [.int a, .int (if b = true then 1 else 0)] = some (.int (a * (if b = true then 1 else 0))) :=
  op_mulR (by cases b <;> decide)
def mulT (a b : Int) : Option Int := if mulOk a b = true then some (a * b) else none
theorem op_mul {a b z : Int} (h : mulT a b = some z) : pMul [.int a, .int b] = some (.int z) := by
  unfold mulT at h
  split at h
  · rename_i c; cases h; rw [ev_mul, if_pos c]
  · cases h
theorem op_divC {i c : Int} (h : 0 < c ∧ c.natAbs.log2 < 9000) : pDiv [.int i, .int c] = some (.int (i / c)) := by rw [ev_div, if_pos h]
theorem op_modC {i c : Int} (h : 0 < c) : pMod [.int i, .int c] = some (.int (i % c)) := by rw [ev_mod, if_pos h]
def divT (a b : Int) : Option Int := if 0 < b ∧ b.natAbs.log2 < 9000 then some (a / b) else none
theorem op_div {a b z : Int} (h : divT a b = some z) : pDiv [.int a, .int b] = some (.int z) := by
  unfold divT at h
  split at h
  · rename_i c; cases h; rw [ev_div, if_pos c]
  · cases h
def modT (a b : Int) : Option Int := if 0 < b then some (a % b) else none
theorem op_mod' {a b z : Int} (h : modT a b = some z) : pMod [.int a, .int b] = some (.int z) := by
  unfold modT at h
  split at h
  · rename_i c; cases h; rw [ev_mod, if_pos c]
  · cases h
theorem op_powC {a b c : Int} (h : 0 ≤ b ∧ b ≤ 1000000 ∧ a.natAbs < 2 ^ 64) (e : a ^ b.toNat = c) : pPow [.int a, .int b] = some (.int c) := by rw [ev_pow, if_pos h, e]
def shlT (a b : Int) : Option Int := if 0 ≤ b ∧ b ≤ 1000000 ∧ a.natAbs < 2 ^ 64 then some (a * 2 ^ b.toNat) else none
theorem op_shl' {a b z : Int} (h : shlT a b = some z) : pShl [.int a, .int b] = some (.int z) := by
  unfold shlT at h
  split at h
  · rename_i c; cases h; rw [ev_shl, if_pos c]
  · cases h
theorem op_max2 (i j : Int) : pMax2 [.int i, .int j] = some (.int (max i j)) := rfl
theorem op_min2 (i j : Int) : pMin2 [.int i, .int j] = some (.int (min i j)) := rfl
def absT (i : Int) : Int := if i < 0 then -i else i
theorem op_abs (i : Int) : pAbs [.int i] = some (.int (absT i)) := rfl
theorem op_intB (b : Bool) : pInt [.bool b] = some (.int (if b = true then 1 else 0)) := rfl
theorem atI_map {e : α → D} {xs : List α} {i : Int} {z : α} (h : atI xs i = some z) : atI (xs.map e) i = some (e z) := by
  unfold atI at h ⊢
  obtain ⟨j, h1, h2⟩ := Option.bind_eq_some_iff.mp h
  rw [List.length_map, h1]
  show (xs.map e)[j]? = _
  rw [List.getElem?_map, h2]; rfl
theorem op_ixL {e : α → D} (p : Pu e) {xs : List α} {i : Int} {z : α} (h : atI xs i = some z) : pIx [eL e xs, .int i] = some (e z) := by
  rw [eL, ev_ixL, atI_map h, ev_puO, if_pos (p z)]
theorem op_ixT {e : α → D} (p : Pu e) {xs : List α} {i : Int} {z : α} (h : atI xs i = some z) : pIx [eT e xs, .int i] = some (e z) := by
  rw [eT, ev_ixT, atI_map h, ev_puO, if_pos (p z)]
theorem op_ixZ {xs : List Int} {i z : Int} (h : atI xs i = some z) : pIx [eZ xs, .int i] = some (.int z) := by
  rw [eZ, ev_ixF, atI_map h, ev_puO, if_pos (pur_int _)]
theorem op_ixQ0 {a : α → D} {b : β → D} {c : δ → D} (p : Pu a) (x : α × β × δ) : pIx [eQ a b c x, .int 0] = some (a x.1) := by
  show puO (some (a x.1)) = _
  rw [ev_puO, if_pos (p _)]
theorem op_ixQ1 {a : α → D} {b : β → D} {c : δ → D} (p : Pu b) (x : α × β × δ) : pIx [eQ a b c x, .int 1] = some (b x.2.1) := by
  show puO (some (b x.2.1)) = _
  rw [ev_puO, if_pos (p _)]
theorem op_ixQ2 {a : α → D} {b : β → D} {c : δ → D} (p : Pu c) (x : α × β × δ) : pIx [eQ a b c x, .int 2] = some (c x.2.2) := by
  show puO (some (c x.2.2)) = _
  rw [ev_puO, if_pos (p _)]
theorem op_lenL {e : α → D} (xs : List α) : pLen [eL e xs] = some (.int (xs.length : Int)) := by rw [eL, ev_lenL, List.length_map]
theorem op_lenT {e : α → D} (xs : List α) : pLen [eT e xs] = some (.int (xs.length : Int)) := by rw [eT, ev_lenT, List.length_map]
theorem op_lenZ (xs : List Int) : pLen [eZ xs] = some (.int (xs.length : Int)) := by rw [eZ, ev_lenF, List.length_map]
theorem op_tupL {e : α → D} (p : Pu e) (xs : List α) : pTuple [eL e xs] = some (eT e xs) := by rw [eL, ev_tupL, if_pos (purs_pu p xs)]; rfl
theorem op_lstL {e : α → D} (p : Pu e) (xs : List α) : pList [eL e xs] = some (eL e xs) := by rw [eL, ev_lstL, if_pos (purs_pu p xs)]
theorem op_lstT {e : α → D} (p : Pu e) (xs : List α) : pList [eT e xs] = some (eL e xs) := by rw [eT, ev_lstT, if_pos (purs_pu p xs)]; rfl
def catT (xs ys : List α) : Option (List α) := if xs.length + ys.length ≤ 1000000 then some (xs ++ ys) else none
theorem op_catL {e : α → D} (p : Pu e) {xs ys z : List α} (h : catT xs ys = some z) : pAdd [eL e xs, eL e ys] = some (eL e z) := by
  unfold catT at h
  split at h
  · rename_i c; cases h; rw [eL, eL, ev_addL, if_pos ⟨by simpa using c, purs_pu p _, purs_pu p _⟩, ← List.map_append]; rfl
  · cases h
theorem op_catT {e : α → D} (p : Pu e) {xs ys z : List α} (h : catT xs ys = some z) : pAdd [eT e xs, eT e ys] = some (eT e z) := by
  unfold catT at h
  split at h
  · rename_i c; cases h; rw [eT, eT, ev_addT, if_pos ⟨by simpa using c, purs_pu p _, purs_pu p _⟩, ← List.map_append]; rfl
  · cases h
def repT (xs : List α) (n : Int) : Option (List α) := if -1000 ≤ n ∧ n ≤ 1000 ∧ xs.length ≤ 1000 then some (List.replicate n.toNat xs).flatten else none
theorem op_repT' {e : α → D} (p : Pu e) {xs z : List α} {n : Int} (h : repT xs n = some z) : pMul [eT e xs, .int n] = some (eT e z) := by
  unfold repT at h
  split at h
  · rename_i c
    cases h
    obtain ⟨c1, c2, c3⟩ := c
    show (if -1000 ≤ n ∧ n ≤ 1000 ∧ (xs.map e).length ≤ 1000 ∧ purs (xs.map e) = true then _ else _) = _
    rw [if_pos ⟨c1, c2, by rw [List.length_map]; exact c3, purs_pu p xs⟩]
    simp [eT]
  · cases h
theorem cutL_map {e : α → β} (xs : List α) (l u : Option Int) : cutL (xs.map e) l u = (cutL xs l u).map e := by
  unfold cutL
  rw [List.length_map, List.map_take, List.map_drop]
theorem op_slT {e : α → D} (p : Pu e) (xs : List α) (l u : Option Int) : slD (eT e xs) l u = some (eT e (cutL xs l u)) := by
  rw [eT, ev_slT, if_pos (purs_pu p xs), cutL_map]; rfl
theorem ev_ninT (d : D) (b : List D) : pNotIn [d, .tuple b] = if pIn.fl d = true ∧ b.all pIn.fl = true then some (.bool (!b.any fun z => PyData.eqv z d)) else none := by cases d <;> rfl
theorem op_inP (a : Int) (x : Int × Int) : pIn [.int a, eP eI eI x] = some (.bool (decide (x.1 = a) || decide (x.2 = a))) := by
  rw [eP, ev_inT, if_pos ⟨rfl, rfl⟩]
  show some (PyData.bool (PyData.eqv (.int x.1) (.int a) || (PyData.eqv (.int x.2) (.int a) || false))) = _
  rw [eqI.eq, eqI.eq, Bool.or_false]
theorem op_ninP (a : Int) (x : Int × Int) : pNotIn [.int a, eP eI eI x] = some (.bool (!(decide (x.1 = a) || decide (x.2 = a)))) := by
  rw [eP, ev_ninT, if_pos ⟨rfl, rfl⟩]
  show some (PyData.bool (!(PyData.eqv (.int x.1) (.int a) || (PyData.eqv (.int x.2) (.int a) || false)))) = _
  rw [eqI.eq, eqI.eq, Bool.or_false]
def rngI (lo : Int) (n : Nat) : List Int := (List.range n).map fun i => lo + (i : Nat)
theorem rngD_I (lo : Int) (n : Nat) : rngD lo n = (rngI lo n).map eI := by unfold rngD rngI; simp
def rngO (j : Int) : Option (List Int) := if -1000000 < j ∧ j < 1000000 then some (rngI 0 j.toNat) else none
theorem it_r1 {j : Int} {z : List Int} (h : rngO j = some z) : itR1 [.int j] = some (z.map eI) := by
  unfold rngO at h
  split at h
  · rename_i c
    cases h
    show (if -1000000 < j ∧ j < 1000000 then some (rngD 0 j.toNat) else none) = _
    rw [if_pos c, rngD_I]
  · cases h
theorem it_r1C {j : Int} (h : -1000000 < j ∧ j < 1000000) : itR1 [.int j] = some ((rngI 0 j.toNat).map eI) := it_r1 (by unfold rngO; rw [if_pos h])
theorem op_lrg1 {j : Int} {z : List Int} (h : rngO j = some z) : pListRg [.int j] = some (eL eI z) := by
  unfold rngO at h
  split at h
  · rename_i c
    cases h
    show (if -1000000 < j ∧ j < 1000000 then some (PyData.list (rngD 0 j.toNat)) else none) = _
    rw [if_pos c, rngD_I]; rfl
  · cases h
theorem it_T {e : α → D} (xs : List α) : itP [eT e xs] = some (xs.map e) := rfl
def enumT : Nat → List α → List (Int × α)
  | _, [] => []
  | n, x :: xs => ((n : Int), x) :: enumT (n + 1) xs
theorem enumD_T {e : α → D} : ∀ (n : Nat) (xs : List α), enumD n (xs.map e) = (enumT n xs).map (eP eI e)
  | _, [] => rfl
  | n, x :: xs => by rw [List.map_cons, enumD, enumD_T (n + 1) xs]; rfl
theorem it_eT {e : α → D} (xs : List α) : itE [eT e xs] = some ((enumT 0 xs).map (eP eI e)) := by
  show some (enumD 0 (xs.map e)) = _
  rw [enumD_T]
def appT (xs : List α) (x : α) : Option (List α) := if xs.length < 1000000 then some (xs ++ [x]) else none
theorem mt_app' {e : α → D} {xs : List α} {x : α} {z : List α} (h : appT xs x = some z) : mApp (xs.map e) [e x] = some (z.map e, .none) := by
  unfold appT at h
  split at h
  · rename_i c; cases h; show (if (xs.map e).length < 1000000 then _ else _) = _; rw [List.length_map, if_pos c, List.map_append]; rfl
  · cases h
/-- what is taken out, what is left -/
def popT (xs : List α) (i : Int) : Option (α × List α) := if xs.length ≤ 1000000 then (ixN xs.length i).bind fun j => (xs[j]?).map fun x => (x, xs.eraseIdx j) else none
theorem erase_map {e : α → β} : ∀ (xs : List α) (j : Nat), (xs.map e).eraseIdx j = (xs.eraseIdx j).map e
  | [], _ => rfl
  | _ :: _, 0 => rfl
  | x :: xs, j + 1 => by rw [List.map_cons, List.eraseIdx_cons_succ, List.eraseIdx_cons_succ, List.map_cons, erase_map xs j]
theorem mt_pop' {e : α → D} (p : Pu e) {xs : List α} {i : Int} {z : α × List α} (h : popT xs i = some z) : mPopAt (xs.map e) [.int i] = some (z.2.map e, e z.1) := by
  unfold popT at h
  split at h
  · rename_i c
    obtain ⟨j, h1, h2⟩ := Option.bind_eq_some_iff.mp h
    obtain ⟨x, h3, h4⟩ := Option.map_eq_some_iff.mp h2
    cases h4
    have e1 : (xs.map e)[j]? = some (e x) := by rw [List.getElem?_map, h3]; rfl
    show (if purs (xs.map e) = true ∧ (xs.map e).length ≤ 1000000 then (match ixN (xs.map e).length i with
      | none => none
      | some j => (match (xs.map e)[j]? with
        | none => none
        | some d => some ((xs.map e).eraseIdx j, d))) else none) = _
    rw [if_pos ⟨purs_pu p xs, by simpa using c⟩]
    simp only [List.length_map, h1, e1, erase_map]
  · cases h
def idxT (xs : List Int) (y : Int) : Option Int := (xs.findIdx? fun z => decide (z = y)).map fun (j : Nat) => (j : Int)
theorem op_idx {xs : List Int} {y z : Int} (h : idxT xs y = some z) : pIndexT [.tuple (xs.map eI), .int y] = some (.int z) := by
  unfold idxT at h
  obtain ⟨j, h1, h2⟩ := Option.map_eq_some_iff.mp h
  cases h2
  show (if pIn.fl (.int y) = true ∧ (xs.map PyData.int).all pIn.fl = true then _ else _) = _
  rw [if_pos ⟨rfl, by simp [pIn.fl]⟩, List.findIdx?_map]
  have : (fun z => PyData.eqv z (PyData.int y)) ∘ PyData.int = fun z : Int => decide (z = y) := by
    funext z; simp [PyData.eqv]; rfl
  rw [this, h1]; rfl
theorem tr_B (b : Bool) : truD (.bool b) = some b := rfl
end
end Sim
namespace Sim
open PySem PySem.Spec L2
end Sim
namespace Sim
open PySem PySem.Spec L2
def Sp {α : Type} (m : Option α) (Q : α → Prop) : Prop := ∃ x, m = some x ∧ Q x
section
variable {α β γ σ ρ τ δ : Type}
theorem Sp.mono {m : Option α} {P Q : α → Prop} (h : Sp m P) (i : ∀ x, P x → Q x) : Sp m Q := by
  obtain ⟨x, e, p⟩ := h
  exact ⟨x, e, i x p⟩
theorem w_some {x : α} {Q : α → Prop} (h : Q x) : Sp (some x) Q := ⟨x, rfl, h⟩
theorem w_bind {m : Option α} {k : α → Option β} {P : α → Prop} {Q : β → Prop} (h : Sp m P) (h2 : ∀ x, P x → Sp (k x) Q) : Sp (m.bind k) Q := by
  obtain ⟨x, rfl, p⟩ := h
  exact h2 x p
theorem w_eq {m : Option α} {k : α → Option β} {x : α} {Q : β → Prop} (e : m = some x) (h2 : Sp (k x) Q) : Sp (m.bind k) Q := by rw [e]; exact h2
theorem w_let {x : α} {k : α → Option β} {Q : β → Prop} (h2 : ∀ y, y = x → Sp (k y) Q) : Sp ((some x).bind k) Q := h2 x rfl
theorem w_ite {c : Bool} {a b : Option α} {Q : α → Prop} (h1 : c = true → Sp a Q) (h2 : c = false → Sp b Q) : Sp (if c = true then a else b) Q := by
  cases c with
  | true => exact h1 rfl
  | false => exact h2 rfl
theorem w_lpN {F : σ → β → Option σ} (I : Nat → σ → Prop) {ys : List β} {s0 : σ} (h0 : I 0 s0) (hs : ∀ i s y, ys[i]? = some y → I i s → Sp (F s y) (I (i + 1))) : Sp (lpN F ys s0) (I ys.length) := by
  have key : ∀ (zs : List β) (k : Nat) (s : σ), I k s → (∀ i s y, zs[i]? = some y → I (k + i) s → Sp (F s y) (I (k + i + 1))) → Sp (lpN F zs s) (I (k + zs.length)) := by
    intro zs
    induction zs with
    | nil => intro k s h _; exact ⟨s, rfl, h⟩
    | cons y zs ih =>
      intro k s h hs
      refine w_bind (hs 0 s y rfl h) fun s1 h1 => ?_
      have := ih (k + 1) s1 h1 fun i s y hy hi => by
        have := hs (i + 1) s y (by simpa using hy) (by rw [show k + (i + 1) = k + 1 + i by omega]; exact hi)
        rw [show k + (i + 1) + 1 = k + 1 + i + 1 by omega] at this
        exact this
      rw [show k + 1 + zs.length = k + (y :: zs).length by rw [List.length_cons]; omega] at this
      exact this
  have := key ys 0 s0 h0 fun i s y hy hi => by simpa using hs i s y hy (by simpa using hi)
  simpa using this
/-- of a loop that may leave: it goes on to its end -/
def Go (P : σ → Prop) : Lf σ ρ → Prop := fun w => ∃ s, w = .go s ∧ P s
theorem w_go {x : σ} {P : σ → Prop} (h : P x) : Sp (some (Lf.go x : Lf σ ρ)) (Go P) := ⟨_, rfl, x, rfl, h⟩
theorem w_lpR {F : σ → β → Option (Lf σ ρ)} (I : Nat → σ → Prop) {ys : List β} {s0 : σ} (h0 : I 0 s0) (hs : ∀ i s y, ys[i]? = some y → I i s → Sp (F s y) (Go (I (i + 1)))) : Sp (lpR F ys s0) (Go (I ys.length)) := by
  have key : ∀ (zs : List β) (k : Nat) (s : σ), I k s → (∀ i s y, zs[i]? = some y → I (k + i) s → Sp (F s y) (Go (I (k + i + 1)))) → Sp (lpR F zs s) (Go (I (k + zs.length))) := by
    intro zs
    induction zs with
    | nil => intro k s h _; exact ⟨_, rfl, s, rfl, h⟩
    | cons y zs ih =>
      intro k s h hs
      refine w_bind (hs 0 s y rfl h) fun w hw => ?_
      obtain ⟨s1, rfl, h1⟩ := hw
      have := ih (k + 1) s1 h1 fun i s y hy hi => by
        have := hs (i + 1) s y (by simpa using hy) (by rw [show k + (i + 1) = k + 1 + i by omega]; exact hi)
        rw [show k + (i + 1) + 1 = k + 1 + i + 1 by omega] at this
        exact this
      rw [show k + 1 + zs.length = k + (y :: zs).length by rw [List.length_cons]; omega] at this
      exact this
  have := key ys 0 s0 h0 fun i s y hy hi => by simpa using hs i s y hy (by simpa using hi)
  simpa using this
theorem w_on {m : Option (Lf σ ρ)} {f : σ → Option τ} {g : ρ → Option τ} {P : σ → Prop} {Q : τ → Prop} (h : Sp m (Go P)) (h2 : ∀ s, P s → Sp (f s) Q) : Sp (m.bind fun w => w.on f g) Q := by
  obtain ⟨w, rfl, s, rfl, hp⟩ := h
  exact h2 s hp
theorem ixN_nn {n : Nat} {i : Int} (h0 : 0 ≤ i) (h : i < n) : ixN n i = some i.toNat := by unfold ixN; rw [if_pos h0, if_pos h]
theorem atI_nn {xs : List α} {i : Int} (h0 : 0 ≤ i) (h : i < xs.length) : atI xs i = xs[i.toNat]? := by
  unfold atI; rw [ixN_nn h0 h]; rfl
theorem atI_get' {xs : List α} {i : Int} (h0 : 0 ≤ i) (h : i < xs.length) : atI xs i = some (xs[i.toNat]'(by omega)) := by
  rw [atI_nn h0 h, List.getElem?_eq_getElem]
theorem atI_D {xs : List α} {i : Int} (d : α) (h0 : 0 ≤ i) (h : i < xs.length) : atI xs i = some (xs.getD i.toNat d) := by
  rw [atI_nn h0 h, List.getD_eq_getElem?_getD, List.getElem?_eq_getElem (by omega)]; rfl
theorem w_atI {xs : List α} {i : Int} (h0 : 0 ≤ i) (h : i < xs.length) : Sp (atI xs i) (fun x => x ∈ xs) := by
  rw [atI_get' h0 h]; exact w_some (List.getElem_mem _)
theorem atI_lastne {xs : List α} (h : xs ≠ []) : atI xs (-1) = some (xs.getLast h) := by
  have e := List.dropLast_concat_getLast h
  have z := L2.atI_last xs.dropLast (xs.getLast h)
  rw [e] at z; exact z
theorem setT_nn {xs : List α} {i : Int} {v : α} (h0 : 0 ≤ i) (h : i < xs.length) : setT xs i v = some (xs.set i.toNat v) := by unfold setT; rw [ixN_nn h0 h]; rfl
theorem appT_of {xs : List α} {x : α} (h : xs.length < 1000000) : appT xs x = some (xs ++ [x]) := if_pos h
theorem catT_of {xs ys : List α} (h : xs.length + ys.length ≤ 1000000) : catT xs ys = some (xs ++ ys) := if_pos h
theorem rngO_of {j : Int} (h : -1000000 < j ∧ j < 1000000) : rngO j = some (rngI 0 j.toNat) := if_pos h
theorem modT_of {a b : Int} (h : 0 < b) : modT a b = some (a % b) := if_pos h
theorem divT_of {a b : Int} (h : 0 < b) (h2 : b < 1000000000000000000000000) : divT a b = some (a / b) := by
  refine if_pos ⟨h, Nat.lt_of_lt_of_le (log2_lt (k := 80) (by omega) (by decide)) (by decide)⟩
theorem mulT_l {a b : Int} (h : -(2 ^ 64) < a) (h2 : a < 2 ^ 64) : mulT a b = some (a * b) := by unfold mulT; rw [if_pos (mulOk_l h h2)]
theorem mulT_r {a b : Int} (h : -(2 ^ 64) < b) (h2 : b < 2 ^ 64) : mulT a b = some (a * b) := by unfold mulT; rw [if_pos (mulOk_r h h2)]
theorem repT_of {xs : List α} {n : Int} (h : -1000 ≤ n ∧ n ≤ 1000) (h2 : xs.length ≤ 1000) : repT xs n = some (List.replicate n.toNat xs).flatten := if_pos ⟨h.1, h.2, h2⟩
theorem repT_1 {x : α} {n : Int} (h : -1000 ≤ n ∧ n ≤ 1000) : repT [x] n = some (List.replicate n.toNat x) := by
  rw [repT_of h (by simp)]
  have : ∀ k : Nat, (List.replicate k [x]).flatten = List.replicate k x := by
    intro k
    induction k with
    | zero => rfl
    | succ k ih => rw [List.replicate_succ, List.flatten_cons, ih]; rfl
  rw [this]
theorem popT_of {xs : List α} {i : Int} (hl : xs.length ≤ 1000000) (h0 : 0 ≤ i) (h : i < xs.length) : popT xs i = some (xs[i.toNat]'(by omega), xs.eraseIdx i.toNat) := by
  unfold popT
  rw [if_pos hl, ixN_nn h0 h]
  show (xs[i.toNat]?).map _ = _
  rw [List.getElem?_eq_getElem (by omega)]; rfl
@[simp] theorem at0 (a : α) (l : List α) : atI (a :: l) 0 = some a := by
  rw [atI_nn (by decide) (by rw [List.length_cons]; omega)]; rfl
@[simp] theorem at1 (a b : α) (l : List α) : atI (a :: b :: l) 1 = some b := by
  rw [atI_nn (by decide) (by simp only [List.length_cons]; omega)]; rfl
@[simp] theorem at2 (a b c : α) (l : List α) : atI (a :: b :: c :: l) 2 = some c := by
  rw [atI_nn (by decide) (by simp only [List.length_cons]; omega)]; rfl
@[simp] theorem set0 (a v : α) (l : List α) : setT (a :: l) 0 v = some (v :: l) := by
  rw [setT_nn (by decide) (by rw [List.length_cons]; omega)]; rfl
@[simp] theorem set1 (a b v : α) (l : List α) : setT (a :: b :: l) 1 v = some (a :: v :: l) := by
  rw [setT_nn (by decide) (by simp only [List.length_cons]; omega)]; rfl
@[simp] theorem set2 (a b c v : α) (l : List α) : setT (a :: b :: c :: l) 2 v = some (a :: b :: v :: l) := by
  rw [setT_nn (by decide) (by simp only [List.length_cons]; omega)]; rfl
theorem rngI_len (lo : Int) (n : Nat) : (rngI lo n).length = n := by unfold rngI; simp
theorem rngI_get {lo : Int} {n i : Nat} {y : Int} (h : (rngI lo n)[i]? = some y) : y = lo + i ∧ i < n := by
  unfold rngI at h
  rw [List.getElem?_map] at h
  obtain ⟨j, h1, h2⟩ := Option.map_eq_some_iff.mp h
  obtain ⟨h3, h4⟩ := List.getElem?_eq_some_iff.mp h1
  rw [List.getElem_range] at h4
  subst h4
  exact ⟨h2.symm, by simpa using h3⟩
theorem rngI_mem {lo : Int} {n : Nat} {y : Int} (h : y ∈ rngI lo n) : lo ≤ y ∧ y < lo + n := by
  unfold rngI at h
  obtain ⟨j, h1, h2⟩ := List.mem_map.mp h
  have := List.mem_range.mp h1
  omega
theorem enumT_len : ∀ (n : Nat) (xs : List α), (enumT n xs).length = xs.length
  | _, [] => rfl
  | n, x :: xs => by rw [enumT, List.length_cons, List.length_cons, enumT_len]
theorem enumT_get : ∀ {n : Nat} {xs : List α} {i : Nat} {y : Int × α}, (enumT n xs)[i]? = some y → y.1 = (n + i : Nat) ∧ xs[i]? = some y.2
  | n, [], i, y, h => by simp [enumT] at h
  | n, x :: xs, 0, y, h => by simp [enumT] at h; subst h; exact ⟨by simp, rfl⟩
  | n, x :: xs, i + 1, y, h => by
    rw [enumT, List.getElem?_cons_succ] at h
    obtain ⟨h1, h2⟩ := enumT_get h
    exact ⟨by rw [h1]; omega, by rw [List.getElem?_cons_succ]; exact h2⟩
end
end Sim
namespace Sim
open PySem PySem.Spec L2
section
variable {α β : Type}
/-- how a kind of values is sorted -/
structure Flt (e : α → D) (f : α → List Int) : Prop where
  fl : ∀ x, flat (e x) = f x
  al : ∀ x y, alike (e x) (e y) = true
  tp : ∀ x, (match e x with | .tuple (_ :: _) => true | _ => false) = true
  dp : ∀ x, deepD (e x) ≤ 8
theorem Flt.ok {e : α → D} {f : α → List Int} (h : Flt e f) : ∀ xs : List α, okN (xs.map e) = true
  | [] => rfl
  | x :: xs => by
    rw [List.map_cons]
    simp only [okN, Bool.and_eq_true, decide_eq_true_eq, List.all_eq_true]
    refine ⟨⟨h.tp x, h.dp x⟩, fun d hd => ?_⟩
    rw [← List.map_cons] at hd
    obtain ⟨y, _, rfl⟩ := List.mem_map.mp hd
    exact h.al x y
/-- a list or a tuple -/
inductive SqE (e : α → D) : (List α → D) → Prop
  | l : SqE e (eL e)
  | t : SqE e (eT e)
theorem SqE.seq {e : α → D} {g : List α → D} (h : SqE e g) (xs : List α) : seqLT (g xs) = some (xs.map e) := by cases h <;> rfl
theorem op_isiT {k : Kd} {d : D} (h : pIsi k [d] = some (.bool true)) : pIsi k [d] = some (eB true) := h
theorem op_isiF {k : Kd} {d : D} (h : pIsi k [d] = some (.bool false)) : pIsi k [d] = some (eB false) := h
def un3 : List α → Option (α × α × α)
  | [a, b, c] => some (a, b, c)
  | _ => none
end
end Sim
namespace Sim
open PySem PySem.Spec L2
section
variable {α : Type}
end
end Sim
namespace Sim
open PySem PySem.Spec L2
section
variable {α β γ δ : Type}
end
end Sim
namespace Sim
open PySem PySem.Spec L2
abbrev PD := {d : D // pur d = true}
def eV (d : PD) : D := d.1
theorem puV : Pu eV := fun d => d.2
def toPD {α : Type} {e : α → D} (h : Pu e) (x : α) : PD := ⟨e x, h x⟩
def dP (o : Option D) : Option PD := o.bind fun d => if h : pur d = true then some ⟨d, h⟩ else none
theorem dP_ok {o : Option D} {z : PD} (h : dP o = some z) : o = some (eV z) := by
  obtain ⟨d, e, h⟩ := Option.bind_eq_some_iff.mp h
  split at h
  · cases h; exact e
  · cases h
def dB : Option D → Option Bool
  | some (.bool b) => some b
  | _ => none
theorem dB_ok {o : Option D} {z : Bool} (h : dB o = some z) : o = some (eB z) := by
  unfold dB at h
  split at h
  · cases h; rfl
  · cases h
def dI : Option D → Option Int
  | some (.int b) => some b
  | _ => none
theorem dI_ok {o : Option D} {z : Int} (h : dI o = some z) : o = some (eI z) := by
  unfold dI at h
  split at h
  · cases h; rfl
  · cases h
/-- a thing read as one of a known kind -/
def DnOk {τ : Type} (e : τ → D) (r : D → Option τ) : Prop := ∀ d z, r d = some z → d = e z
def rI : D → Option Int
  | .int i => some i
  | _ => none
def rU : D → Option Unit
  | .none => some ()
  | _ => none
theorem dnI : DnOk eI rI := fun d z h => by cases d <;> simp [rI] at h; rw [h]
section
variable {α γ τ : Type}
theorem x_dn {vl : Bool} {p : Pt} {g : O} {v : α → D} {q : α → Pt} {F : (α → Option γ) → Option γ} (e : τ → D) {r : D → Option τ} (hr : DnOk e r) (h : X vl p g v q F) (o : α → PD) (hv : ∀ x, v x = eV (o x)) :
    X vl p g (fun w : α × τ => e w.2) (fun w => q w.1) (fun k => F fun x => (r (o x).1).bind fun z => k (x, z)) := fun k z e0 => by
  obtain ⟨x, e1, h⟩ := h _ z e0
  obtain ⟨y, e2, e3⟩ := Option.bind_eq_some_iff.mp e1
  refine ⟨(x, y), e3, fun s mm => ?_⟩
  obtain ⟨r', s', a1, a2, a3⟩ := h s mm
  have a3 : Rd vl (q x) r' (v x) := a3
  rw [hv x, show eV (o x) = (o x).1 from rfl, hr _ _ e2] at a3
  exact ⟨r', s', a1, a2, a3⟩
end
theorem okD_pur {d : D} (h : pur d = true) : okD d = true := by
  cases d with
  | dict kvs => simpa [pur, okD] using h
  | _ => rfl
theorem op_isiD (k : Kd) (d : PD) : pIsi k [eV d] = some (eB (isK k d.1)) := by
  show (if okD d.1 = true then _ else _) = _
  rw [if_pos (okD_pur d.2)]; rfl
section
variable {α γ : Type}
end
end Sim
namespace Sim
open PySem PySem.Spec L2
section
variable {β γ : Type}
end
end Sim
namespace Sim
open PySem PySem.Spec L2
section
variable {α β γ δ σ ρ : Type} {X : Cx} {p : Pt}
theorem fn_t2 {ms : List Nat} {i n : Nat} {g : S} {ds : List D} {d : D} {p0 : Pt} {m : Option γ} {rv : γ → D} {q : γ → Pt} {outs : γ → List D} (hb : B p0 g m (QF rv q)) (hd : ((ds[i]?).bind fun d => pList [d]) = some d)
    (h0 : (ds.map some ++ List.replicate (n - ds.length) none).set i (some d) = p0) (h1 : okM2 ms ds = true)
    (h2 : ∀ z s, Mt (q z) s → coll ms ds 0 s = some (outs z)) : ∀ z, m = some z → mkFn2 ms i n g ds = .ok (rv z) (outs z) := fun z e => by
  obtain ⟨fl, s', a1, a2, a3⟩ := hb z e p0 (Mt.refl _)
  have a4 := h2 z s' a3
  unfold mkFn2
  rw [if_pos h1, hd]
  rcases a2 with rfl | ⟨rfl, e2⟩
  · simp only [h0, a1, a4]
  · simp only [h0, a1, a4, e2]
theorem coll_2P {p : Pt} {j : Nat} {ms : List Nat} {d : D} {ds as : List D} (h2 : ∀ s, Mt p s → coll ms ds (j + 1) s = some as) : ∀ s, Mt p s → coll (2 :: ms) (d :: ds) j s = some (d :: as) := fun s m => by
  unfold coll
  rw [h2 s m]
  rfl
theorem b_raise {rest : S} {Q : γ → Fl → Sg → Prop} : B p (sSeq sNever rest) none Q := fun z e => by cases e
end
end Sim
namespace Sim
open PySem PySem.Spec L2
section
variable {α β γ δ σ ρ τ : Type} {p : Pt}
def stepP (x : τ × τ) (k : Int) : Option (τ × τ) := if k = 1 then some x else if k = -1 then some (x.2, x.1) else none
theorem op_stE {a : τ → D} (h : Pu a) {x : τ × τ} {k : Int} {z : τ × τ} (e : stepP x k = some z) : stE (eP a a x) (some k) = some (eP a a z) := by
  have hp : purs [a x.1, a x.2] = true := by simp [purs, h x.1, h x.2]
  unfold stepP at e
  split at e
  · rename_i hk
    subst hk
    cases e
    show (if purs [a x.1, a x.2] = true then some (PyData.tuple [a x.1, a x.2]) else none) = _
    rw [if_pos hp]
    rfl
  · split at e
    · rename_i hk
      subst hk
      cases e
      show (if purs [a x.1, a x.2] = true ∧ [a x.1, a x.2].length ≤ 1000000 then some (PyData.tuple [a x.1, a x.2].reverse) else none) = _
      rw [if_pos ⟨hp, by simp⟩]
      rfl
    · cases e
theorem x_stE {g h : O} {a : τ → D} {v : α → τ × τ} {q : α → Pt} {F : (α → Option γ) → Option γ} {vl : Bool} {l : α → β → Int} {q2 : α → β → Pt} {F2 : α → (β → Option γ) → Option γ} (pa : Pu a)
    (h1 : X true p g (fun x => eP a a (v x)) q F) (h2 : ∀ x, X vl (q x) h (fun y => .int (l x y)) (q2 x) (F2 x)) :
    X true p (oStE g (some h)) (fun w : α × β × (τ × τ) => eP a a w.2.2) (fun w => q2 w.1 w.2.1) (fun k => F fun x => F2 x fun y => (stepP (v x) (l x y)).bind fun z => k (x, y, z)) := fun k z e => by
  obtain ⟨x, e1, h1⟩ := h1 _ z e
  obtain ⟨y, e2, h2⟩ := h2 x _ z e1
  obtain ⟨w, e3, e4⟩ := Option.bind_eq_some_iff.mp e2
  refine ⟨(x, y, w), e4, fun s m => ?_⟩
  obtain ⟨r, s1, a1, a2, a3⟩ := h1 s m
  obtain ⟨r2, s2, b1, b2, b3⟩ := h2 s1 a2
  have hr : r = .val (eP a a (v x)) := by
    rcases a3 with z | ⟨z, _⟩
    · exact z
    · cases z
  refine ⟨.val (eP a a w), s2, ?_, b2, .inl rfl⟩
  have hp : prt (some h) s1 = .ok (some (l x y)) s2 := by rw [ev_prt_some, b1, ev_ok, ev_prtK, b3.rd b2, ev_prtK2]
  show ((g s).bind fun r s1 => (prt none s1).bind fun l s2 => (prt none s2).bind fun u s3 => (prt (some h) s3).bind fun t s4 => _) = _
  simp only [a1, ev_ok, ev_prt_none, hp, hr, rd_val, op_stE pa e3]
def tenO (l : Int) : Option Int := if 0 ≤ l ∧ l ≤ 600 then some ((10 : Int) ^ l.toNat) else none
theorem x_tenV {g : O} {vl : Bool} {l : α → Int} {q : α → Pt} {F : (α → Option γ) → Option γ} (h : X vl p g (fun x => .int (l x)) q F) :
    X true p (oTenV g) (fun w : α × Int => .int w.2) (fun w => q w.1) (fun k => F fun x => (tenO (l x)).bind fun z => k (x, z)) := fun k z e => by
  obtain ⟨x, e1, h⟩ := h _ z e
  obtain ⟨w, e2, e3⟩ := Option.bind_eq_some_iff.mp e1
  refine ⟨(x, w), e3, fun s m => ?_⟩
  obtain ⟨r, s1, a1, a2, a3⟩ := h s m
  unfold tenO at e2
  split at e2
  · rename_i hl
    cases e2
    refine ⟨_, s1, ?_, a2, .inl rfl⟩
    have hn : l x = (((l x).toNat : Nat) : Int) := by omega
    have hr : rd r s1 = some (.int (l x)) := a3.rd a2
    rw [hn] at hr
    rw [ev_tenV a1 hr (by omega)]
    unfold tenN
    simp
  · cases e2
theorem x_unT3 {vl : Bool} {g : O} {e : τ → D} {xs : α → List τ} {q : α → Pt} {F : (α → Option γ) → Option γ} (h : X vl p g (fun x => eT e (xs x)) q F) :
    X vl p g (fun w : α × (τ × τ × τ) => eQ e e e w.2) (fun w => q w.1) (fun k => F fun x => (un3 (xs x)).bind fun z => k (x, z)) := fun k z e0 => by
  obtain ⟨x, e1, h⟩ := h _ z e0
  obtain ⟨y, e2, e3⟩ := Option.bind_eq_some_iff.mp e1
  have : xs x = [y.1, y.2.1, y.2.2] := by
    unfold un3 at e2
    split at e2
    · rename_i a b c hx
      cases e2; exact hx
    · cases e2
  refine ⟨(x, y), e3, fun s m => ?_⟩
  have := h s m
  simp only [*] at this
  exact this
end
end Sim
namespace Sim
open PySem PySem.Spec L2
section
variable {α β γ : Type} {p : Pt}
end
end Sim
namespace Sim
open PySem PySem.Spec L2
section
variable {α β γ : Type}
section
variable [DecidableEq α]
variable {ek : α → D} {f : α → NestedKey} {e : β → D}
end
end
section
variable {α β γ δ ρ : Type} {p : Pt} {gs : AL} {q : α → Pt} {F : (α → Option γ) → Option γ} {ks : List AK} {vs : α → List D} {i : Nat}
end
section
variable {α γ κ τ : Type} {p : Pt} {e : O} {q : α → Pt} {F : (α → Option γ) → Option γ} {vl : Bool} {i : Nat} {rest : S} {Q : γ → Fl → Sg → Prop} [DecidableEq κ]
end
end Sim
namespace Sim
open PySem PySem.Spec L2
section
variable {α β γ : Type}
variable [DecidableEq α] {ek : α → D} {f : α → Key} {e : β → D}
end
section
variable {α β γ δ ρ : Type} {p : Pt} {gs : AL} {q : α → Pt} {F : (α → Option γ) → Option γ} {ks : List AK} {i : Nat}
end
section
variable {α γ κ τ : Type} {p : Pt} {e : O} {q : α → Pt} {F : (α → Option γ) → Option γ} {vl : Bool} {i : Nat} {rest : S} {Q : γ → Fl → Sg → Prop} [DecidableEq κ]
end
end Sim
namespace Sim
open PySem PySem.Spec L2
section
variable {α β γ : Type} {p : Pt} {g : O} {q : α → Pt} {F : (α → Option γ) → Option γ}
end
end Sim
namespace Sim
open PySem PySem.Spec L2
def eF {τ : Type} (e : τ → D) (xs : List τ) : D := .dict [(.none, .list (xs.map e))]
section
variable {α β γ : Type} {p : Pt} {g : O} {ga : AL} {q : α → Pt} {F : (α → Option γ) → Option γ} {ks : List AK} {i : Nat}
end
end Sim
namespace Sim
open PySem PySem.Spec L2
section
variable {γ : Type} {p : Pt} {i : Nat}
end
end Sim
namespace Sim
open PySem PySem.Spec L2
end Sim
namespace Sim
open PySem PySem.Spec L2
section
variable {α γ : Type} {p : Pt} {e gi : O} {q : α → Pt} {F : (α → Option γ) → Option γ} {vl : Bool} {i : Nat} {rest : S} {Q : γ → Fl → Sg → Prop} {f : Int → Int → Int}
end
end Sim
namespace Sim
open PySem PySem.Spec L2
section
variable {α β γ : Type} {p : Pt} {g h' : O} {q : α → Pt} {F : (α → Option γ) → Option γ}
end
end Sim
namespace Sim
open PySem PySem.Spec L2
section
variable {α γ : Type} {p : Pt} {g : O} {q : α → Pt} {F : (α → Option γ) → Option γ}
end
end Sim
namespace Sim
open PySem PySem.Spec L2
section
variable {α β γ : Type} {p : Pt} {g h' : O} {q : α → Pt} {F : (α → Option γ) → Option γ}
end
end Sim
namespace Sim
open PySem PySem.Spec L2
end Sim
namespace Sim
open PySem PySem.Spec L2
section
variable {α γ : Type} {p : Pt} {g : O} {q : α → Pt} {F : (α → Option γ) → Option γ}
end
end Sim
namespace Sim
open PySem PySem.Spec L2
theorem gtP_eq : ∀ (p : List (Option D)) (i : Nat), gtP p i = (p[i]?).join
  | [], i => by simp [gtP]
  | o :: p, 0 => by simp [gtP]
  | o :: p, i + 1 => by rw [gtP, gtP_eq p i, List.getElem?_cons_succ]
theorem mt_iff {p : Pt} {s : Sg} : Mt p s ↔ List.length p = s.length ∧ ∀ (i : Nat) (d : D), (p : List (Option D))[i]? = some (some d) → (s : List (Option D))[i]? = some (some d) :=
  ⟨fun h => ⟨h.len, fun i d e => h.has i d (by rw [gtP_eq, e]; rfl)⟩, fun h => ⟨h.1, fun i d e => h.2 i d (by rw [gtP_eq] at e; exact join_some e)⟩⟩
theorem Mt.sets {p s : List (Option D)} (h : Mt p s) (i : Nat) (o : Option D) : Mt (p.set i o) (s.set i o) := by
  rw [mt_iff] at h ⊢
  refine ⟨by rw [List.length_set, List.length_set, h.1], fun j d e => ?_⟩
  by_cases hj : i = j
  · subst hj
    rw [List.getElem?_set] at e ⊢
    rw [if_pos rfl] at e ⊢
    rw [h.1] at e
    exact e
  · rw [List.getElem?_set_ne hj] at e ⊢
    exact h.2 j d e
theorem Mt.putG : ∀ {ds : List D} {g : Nat} {p s : List (Option D)}, Mt p s → Mt (Sim.putG g ds p) (Sim.putG g ds s)
  | [], _, _, _, h => h
  | d :: ds, g, p, s, h => by
    rw [Sim.putG, Sim.putG]
    exact Mt.putG (h.sets g (some d))
section
variable {α β δ γ κ τ σ : Type} {p : Pt}
end
theorem purs_n : purs ([] : List D) = true := rfl
theorem purs_c {d : D} {ds : List D} (h : pur d = true) (h2 : purs ds = true) : purs (d :: ds) = true := by rw [purs_cons, h, h2]; rfl
section
variable {α β γ σ : Type} {p : Pt} {e : O} {rest h : S} {i x : Nat} {pv : Option Nat} {v : α → D} {q : α → Pt} {F : (α → Option γ) → Option γ} {M : α → Option γ} {Q : γ → Fl → Sg → Prop} {vl : Bool}
end
end Sim
namespace Sim
open PySem PySem.Spec L2
section
variable {α β : Type}
end
section
variable {α β δ γ ε ζ : Type}
variable {p : Pt} {g : O} {lo hi st : Option O} {v : α → D} {q : α → Pt} {F : (α → Option γ) → Option γ} {vl : Bool} {l : α → β → Option Int} {F1 : α → (β → Option γ) → Option γ}
  {u : α → β → δ → Option Int} {F2 : α → β → (δ → Option γ) → Option γ}
end
section
variable {α β γ δ ε τ σ : Type} {p : Pt} {t : T} {b : α → Bool} {q : α → Pt} {F : (α → Option γ) → Option γ} {h' : O}
end
end Sim
namespace Sim
open PySem PySem.Spec L2
section
variable {α : Type}
end
end Sim
namespace Sim
open PySem PySem.Spec L2
end Sim
namespace Sim
open PySem PySem.Spec L2
end Sim
namespace Sim
open PySem PySem.Spec L2
section
variable {α β : Type} [DecidableEq α] {ek : α → D} {f : α → NestedKey} {e : β → D}
end
section
variable {β γ : Type} {p : Pt} {gs : AL} {ks : List AK}
end
end Sim
namespace Sim
open PySem PySem.Spec L2
section
variable {α β γ δ σ τ ρ κ : Type}
section
variable [DecidableEq κ] {ek : κ → D} {f : κ → Key} {e : τ → D}
end
section
variable [DecidableEq κ] {ek : κ → D} {f : κ → NestedKey} {e : τ → D}
end
variable {p : Pt} {i : Nat} {d dF : D} {itm : D → Option (List D)} {ey : β → D} {ys : List β}
section
variable {g rest : S} {t : Tg} {lkf : Nat → Bool} {pb : σ → β → Pt} {Q : γ → Fl → Sg → Prop}
end
end
section
variable {α β γ κ τ : Type}
end
end Sim
namespace Sim
open PySem PySem.Spec L2
section
variable {α β γ : Type}
end
end Sim
namespace Sim
open PySem PySem.Spec L2
end Sim
namespace Sim
open PySem PySem.Spec L2
section
variable {α β γ δ : Type}
/-- x = y, y not read behind -/
theorem Mt.none {p : Pt} {s : Sg} (h : Mt p s) (i : Nat) : Mt (stP p i none) (s.set i none) := by
  refine ⟨by rw [stP_len, List.length_set, h.len], fun j e hj => ?_⟩
  rw [gtP_stP] at hj
  by_cases c : i = j
  · subst c
    by_cases c2 : i < p.length
    · rw [if_pos ⟨rfl, c2⟩] at hj
      cases hj
    · rw [if_neg (fun z => c2 z.2)] at hj
      exact absurd (gtP_lt hj) c2
  · rw [if_neg (fun z => c z.1)] at hj
    rw [List.getElem?_set_ne c]
    exact h.has j e hj
end
end Sim
namespace Sim
open PySem PySem.Spec L2
end Sim
namespace Sim
open PySem PySem.Spec L2
end Sim
namespace Sim
open PySem PySem.Spec L2
/-- what a statement raises (none: nothing) -/
def BZ (p : Pt) (r : Rz) (m : Option (Option Str)) (q : Pt) : Prop := ∀ z, m = some z → ∀ s, Mt p s → match z with
  | none => r s = none
  | some c => ∃ s1, r s = some (c, s1) ∧ Mt q s1
section
variable {p q : Pt} {r ra rb : Rz} {m ma mb : Option (Option Str)}
theorem BZ.cv {m' : Option (Option Str)} (h : BZ p r m q) (e : m = m') : BZ p r m' q := e ▸ h
end
end Sim
namespace Sim
open PySem PySem.Spec L2
section
variable {α β γ : Type} {p : Pt} {g : O} {gs : List O} {v : α → D} {q : α → Pt} {F : (α → Option γ) → Option γ} {vs : α → β → List D} {F2 : α → (β → Option γ) → Option γ}
end
end Sim
namespace Sim
open PySem PySem.Spec L2
section
variable {α β : Type} [DecidableEq α] {ek : α → D} {f : α → NestedKey} {e : β → D}
end
end Sim
namespace Sim
open PySem PySem.Spec L2
section
variable {α β γ δ : Type}
end
end Sim
namespace Sim
open PySem PySem.Spec L2
section
variable {α γ : Type} {p : Pt} {gs : AL} {ks : List AK} {i : Nat} {q : α → Pt} {F : (α → Option γ) → Option γ}
end
end Sim
namespace Sim
open PySem PySem.Spec L2
section
variable {α β γ : Type} {p : Pt} {g0 g1 : O} {q : α → Pt} {F : (α → Option γ) → Option γ}
end
end Sim
namespace Sim
open PySem PySem.Spec L2
section
variable {α β γ : Type} {p : Pt} {g0 : O} {al : AL} {q : α → Pt} {F : (α → Option γ) → Option γ}
end
end Sim
namespace Sim
open PySem PySem.Spec L2
/-- what a statement raises (none: nothing) -/
def BZF (p : Pt) (r : RzF) (m : Option (Option ExnF)) (q : Pt) : Prop := ∀ z, m = some z → ∀ s, Mt p s → match z with
  | none => r s = none
  | some c => ∃ s1, r s = some (c, s1) ∧ Mt q s1
section
variable {p q : Pt} {r ra rb : RzF} {m ma mb : Option (Option ExnF)}
theorem bz_noF : BZF p zNoF (some none) q := fun z e s _ => by cases e; rfl
theorem bz_raiseF {α : Type} {c fd : Str} {gs : AL} {ks : List AK} {vs : α → List D} {q1 : α → Pt} {F : (α → Option (Option ExnF)) → Option (Option ExnF)} (i : α → Int) (h : XA p gs ks vs q1 F) (hv : ∀ x, vs x = [.int (i x)]) (w : ∀ x, Wk q (q1 x)) :
    BZF p (zRaiseF c fd gs) (F fun x => some (some (c, fd, i x))) q := fun z e0 s mm => by
  obtain ⟨x, e1, h⟩ := h _ z e0
  obtain ⟨rs, s1, a1, a2, a3⟩ := h s mm
  cases e1
  refine ⟨s1, ?_, a2.wk (w x)⟩
  unfold zRaiseF
  rw [a1]
  simp only [a3.rds a2, hv x]
theorem bz_ifF {α : Type} {t : T} {b : α → Bool} {q1 : α → Pt} {F : (α → Option (Option ExnF)) → Option (Option ExnF)} {m1 m2 : α → Option (Option ExnF)} (h : XT p t b q1 F) (h1 : ∀ x, BZF (q1 x) ra (m1 x) q) (h2 : ∀ x, BZF (q1 x) rb (m2 x) q) :
    BZF p (zIfF t ra rb) (F fun x => if b x = true then m1 x else m2 x) q := fun z e0 s mm => by
  obtain ⟨x, e1, h⟩ := h _ z e0
  obtain ⟨s1, a1, a2⟩ := h s mm
  cases hb : b x with
  | true =>
    rw [if_pos hb] at e1
    have w := h1 x z e1 s1 a2
    have e : zIfF t ra rb s = ra s1 := by unfold zIfF; rw [a1]; simp only [hb, if_true]
    cases z with
    | none => exact e.trans w
    | some c =>
      obtain ⟨s2, w1, w2⟩ := w
      exact ⟨s2, e.trans w1, w2⟩
  | false =>
    rw [if_neg (by simp [hb])] at e1
    have w := h2 x z e1 s1 a2
    have e : zIfF t ra rb s = rb s1 := by unfold zIfF; rw [a1]; simp [hb]
    cases z with
    | none => exact e.trans w
    | some c =>
      obtain ⟨s2, w1, w2⟩ := w
      exact ⟨s2, e.trans w1, w2⟩
theorem bz_thenF {τ : Type} {g : S} {m1 : Option τ} {M : τ → Option (Option ExnF)} (qj : τ → Pt) (h : B p g m1 (Qn qj)) (hr : ∀ y, BZF (qj y) r (M y) q) : BZF p (zThenF g r) (m1.bind M) q := fun z e0 s mm => by
  obtain ⟨y, e1, e2⟩ := Option.bind_eq_some_iff.mp e0
  obtain ⟨fl, s1, b1, b2, b3⟩ := h y e1 s mm
  subst b2
  have w := hr y z e2 s1 b3
  have e : zThenF g r s = r s1 := by unfold zThenF; rw [b1]
  cases z with
  | none => exact e.trans w
  | some c =>
    obtain ⟨s2, w1, w2⟩ := w
    exact ⟨s2, e.trans w1, w2⟩
theorem bz_callF {α : Type} {gs : AL} {ks : List AK} {vs : α → List D} {q1 : α → Pt} {F : (α → Option (Option ExnF)) → Option (Option ExnF)} {f : FnZF} {mz : α → Option (Option ExnF)} (h : XA p gs ks vs q1 F) (hp : ∀ x, purs (vs x) = true) (hf : ∀ x z, mz x = some z → f (vs x) = z) (w : ∀ x, Wk q (q1 x)) :
    BZF p (zCallF f gs) (F mz) q := fun z e0 s mm => by
  obtain ⟨x, e1, h⟩ := h _ z e0
  obtain ⟨rs, s1, a1, a2, a3⟩ := h s mm
  have e : zCallF f gs s = z.map (fun c => (c, s1)) := by
    unfold zCallF
    rw [a1]
    simp only [a3.rds a2, hp x, if_true, hf x z e1]
  cases z with
  | none => exact e
  | some c => exact ⟨s1, e, a2.wk (w x)⟩
theorem fn_zF {ms : List Nat} {n : Nat} {ds : List D} (hb : BZF p r m q) (h0 : ds.map some ++ List.replicate (n - ds.length) none = p) (hp : purs ds = true) (hl : ds.length = ms.length) : ∀ z, m = some z → mkFzF ms n r ds = z := fun z e => by
  have w := hb z e p (Mt.refl _)
  unfold mkFzF
  rw [if_pos ⟨hp, hl⟩, h0]
  cases z with
  | none => rw [show r p = none from w]; rfl
  | some c =>
    obtain ⟨s1, w1, _⟩ := w
    rw [w1]; rfl
theorem BZF.cv {m' : Option (Option ExnF)} (h : BZF p r m q) (e : m = m') : BZF p r m' q := e ▸ h
end
def tryTF {τ : Type} (cs : List Str) (fd : Str) (z : Option ExnF) (b : ExnF → Bool) (m1 m2 m3 : Option τ) : Option τ := match z with
  | none => m1
  | some c => if cs.contains c.1 = true ∧ c.2.1 = fd then (if b c = true then m2 else m3) else none
theorem mt_off {p : Pt} {s : Sg} {i : Nat} (h : Mt p s) (e : ∀ d, gtP p i ≠ some d) : Mt p (s.set i none) :=
  ⟨by rw [List.length_set]; exact h.len, fun j d ej => by
    have hj : i ≠ j := fun z => e d (by rw [z]; exact ej)
    rw [List.getElem?_set_ne hj]
    exact h.has j d ej⟩
theorem b_tryF {γ τ : Type} {p q : Pt} {cs : List Str} {fd : Str} {i : Nat} {b : ExnF → Bool} {r : RzF} {g h rest : S} {mz : Option (Option ExnF)} {m1 m2 m3 : Option τ} {M : τ → Option γ} {Q : γ → Fl → Sg → Prop} (qj : τ → Pt) (hz : BZF p r mz q) (h1 : B p g m1 (Qn qj)) (h2 : B q h m2 (Qn qj)) (h3 : B q sSkip m3 (Qn qj)) (hr : ∀ y, B (qj y) rest (M y) Q)
    (hi : i < q.length) (hq : ∀ d, gtP q i ≠ some d) (hj : ∀ y d, gtP (qj y) i ≠ some d) :
    B p (sSeq (sTryF cs fd i r g b h) rest) (mz.bind fun z => (tryTF cs fd z b m1 m2 m3).bind M) Q := fun z e0 s mm => by
  obtain ⟨x, e1, e2⟩ := Option.bind_eq_some_iff.mp e0
  obtain ⟨y, e3, e4⟩ := Option.bind_eq_some_iff.mp e2
  have w := hz x e1 s mm
  cases x with
  | none =>
    obtain ⟨fl, s2, b1, b2, b3⟩ := h1 y e3 s mm
    subst b2
    obtain ⟨fl, s', c1, c2⟩ := hr y z e4 s2 b3
    refine ⟨fl, s', ?_, c2⟩
    have e : sTryF cs fd i r g b h s = g s := by unfold sTryF; rw [show r s = none from w]
    rw [ev_sSeq, e, b1, ev_ok, ev_seqK_nx, c1]
  | some c =>
    obtain ⟨s1, w1, w2⟩ := w
    have e3 : (if cs.contains c.1 = true ∧ c.2.1 = fd then (if b c = true then m2 else m3) else none) = some y := e3
    split at e3
    · rename_i hcs
      have hlen : i < s1.length := by have := w2.len; omega
      have w3 := mt_off w2 hq
      split at e3
      · rename_i hb
        obtain ⟨fl, s2, b1, b2, b3⟩ := h2 y e3 _ w3
        subst b2
        obtain ⟨fl, s', c1, c2⟩ := hr y z e4 _ (mt_off b3 (hj y))
        refine ⟨fl, s', ?_, c2⟩
        have e : sTryF cs fd i r g b h s = .ok .nx (s2.set i none) := by unfold sTryF; rw [w1]; simp only [hcs.1, hcs.2, hlen, and_self, if_true, hb, b1]
        rw [ev_sSeq, e, ev_ok, ev_seqK_nx, c1]
      · rename_i hb
        obtain ⟨fl, s2, b1, b2, b3⟩ := h3 y e3 _ w3
        subst b2
        obtain ⟨fl, s', c1, c2⟩ := hr y z e4 _ b3
        refine ⟨fl, s', ?_, c2⟩
        have e0 : sSkip (s1.set i none) = .ok .nx (s1.set i none) := rfl
        have es : s2 = s1.set i none := by
          have := e0.symm.trans b1
          cases this
          rfl
        have e : sTryF cs fd i r g b h s = .ok .nx (s1.set i none) := by unfold sTryF; rw [w1]; simp only [hcs.1, hcs.2, hlen, and_self, if_true, (Bool.eq_false_iff.mpr hb : b c = false), Bool.false_eq_true, if_false]
        rw [ev_sSeq, e, ev_ok, ev_seqK_nx, ← es, c1]
    · cases e3
end Sim
namespace Sim
open PySem PySem.Spec L2
section
variable {α β γ τ : Type} {p : Pt} {g h' : O} {q : α → Pt} {F : (α → Option γ) → Option γ} {e : τ → D}
/-- a or b, a None or a tuple that isn't empty, b one that needs nothing -/
theorem x_orV (he : ∀ x, ∃ d ds, e x = .tuple (d :: ds)) {v : α → Option τ} {w : α → τ} {vl vl2 : Bool} (h : X vl p g (fun x => eO e (v x)) q F) (h2 : ∀ x, X (γ := γ) vl2 (q x) h' (fun _ : Unit => e (w x)) (fun _ => q x) (fun k => k ())) :
    X false p (oOrV g h') (fun x => e ((v x).getD (w x))) q F := fun k z e0 => by
  obtain ⟨x, e1, h⟩ := h _ z e0
  refine ⟨x, e1, fun s m => ?_⟩
  obtain ⟨r, s1, a1, a2, a3⟩ := h s m
  obtain ⟨_, _, h3⟩ := h2 x (fun _ => k x) z e1
  obtain ⟨r2, s2, b1, b2, b3⟩ := h3 s1 a2
  have hr : rd r s1 = some (eO e (v x)) := a3.rd a2
  show ∃ r s', oOrV g h' s = .ok r s' ∧ Mt (q x) s' ∧ Rd false (q x) r (e ((v x).getD (w x)))
  cases hv : v x with
  | none =>
    rw [hv] at hr
    have hr : rd r s1 = some .none := hr
    refine ⟨r2, s2, ?_, b2, b3.imp id fun z => ⟨rfl, z.2⟩⟩
    unfold oOrV
    rw [a1, bind_ok]
    simp only [hr]
    exact b1
  | some y =>
    have a3 : Rd vl (q x) r (eO e (v x)) := a3
    rw [hv] at hr a3
    obtain ⟨d, ds, ed⟩ := he y
    have hr : rd r s1 = some (.tuple (d :: ds)) := by rw [← ed]; exact hr
    refine ⟨r, s1, ?_, a2, a3.imp id fun z => ⟨rfl, z.2⟩⟩
    unfold oOrV
    rw [a1, bind_ok]
    simp only [hr]
end
end Sim
namespace Sim
open PySem PySem.Spec L2
def topS (i : Nat) : Stmt := PySem.Challenge.pw_stairlanes_k17_groups_that_come_together.main.body.getD i (.Pass ⟨0, 0, 0, 0⟩)
abbrev s_on_lane : Stmt := topS 5
theorem sc_on_lane : FnScope ["net", "lane", "number", "fork"] ["net", "lane"] (defScope s_on_lane) := ⟨rfl, rfl, rfl, by decide +kernel, rfl, by decide +kernel, by decide +kernel⟩
def b_on_lane : S :=
  (sRet (lkM [0, 0]) (oPrim pTuple (aCons (oComp (mkI itE (aCons (o2 pIx (oV 0) (oC (.int 1))) aNil)) (.tp [(.nm 2), (.nm 3)]) (tst (o2 pIn (oV 1) (oV 3))) (oV 2) [2, 3]) aNil)))
def f_on_lane : Fn := mkFn [0, 0] 4 b_on_lane
abbrev s_is_whole : Stmt := topS 8
theorem sc_is_whole : FnScope ["thing", "least"] ["thing", "least"] (defScope s_is_whole) := ⟨rfl, rfl, rfl, by decide +kernel, rfl, by decide +kernel, by decide +kernel⟩
def b_is_whole : S :=
  (sRet (lkM [0, 0]) (oAnd (o1 (pIsi .int) (oV 0)) (oAnd (oNot (o1 (pIsi .bool) (oV 0))) (o2 pGe (oV 0) (oV 1)))))
def f_is_whole : Fn := mkFn [0, 0] 2 b_is_whole
abbrev s_begun : Stmt := topS 9
theorem sc_begun : FnScope ["net"] ["net"] (defScope s_begun) := ⟨rfl, rfl, rfl, by decide +kernel, rfl, by decide +kernel, by decide +kernel⟩
def b_begun : S :=
  (sRet (lkM [0]) (oTup (aCons (o2 pMul (oTup (aCons (oC (.int 0)) aNil)) (oPrim pLen (aCons (o2 pIx (oV 0) (oC (.int 1))) aNil))) (aCons (oTup aNil) (aCons (o2 pMul (oTup (aCons (oC (.int 0)) aNil)) (o2 pIx (oV 0) (oC (.int 0)))) aNil)))))
def f_begun : Fn := mkFn [0] 1 b_begun
abbrev s_is_put : Stmt := topS 10
theorem sc_is_put : FnScope ["net", "thing"] ["net", "thing"] (defScope s_is_put) := ⟨rfl, rfl, rfl, by decide +kernel, rfl, by decide +kernel, by decide +kernel⟩
def b_is_put : S :=
  (sSeq (sIf (tOr (tNot (tstA (oCall f_is_whole (aCons (o2 pIx (oV 1) (oC (.int 1))) (aCons (oC (.int 0)) aNil))))) (tOr (tst (o2 pGe (o2 pIx (oV 1) (oC (.int 1))) (o2 pIx (oV 0) (oC (.int 0))))) (tNot (tstA (oCall f_is_whole (aCons (o2 pIx (oV 1) (oC (.int 2))) (aCons (o2 pSub (oC (.int 1)) (oC (.int 1000000000000000000000000000000))) aNil)))))))
  (sRet (lkM [0, 0]) (oC (.bool false)))
  sSkip) (sRet (lkM [0, 0]) (oAnd (o2 pNe (o2 pIx (oV 1) (oC (.int 2))) (oC (.int 0))) (o2 pLt (o2 pIx (oV 1) (oC (.int 2))) (oC (.int 1000000000000000000000000000000))))))
def f_is_put : Fn := mkFn [0, 0] 2 b_is_put
abbrev s_is_deed : Stmt := topS 11
theorem sc_is_deed : FnScope ["net", "thing"] ["net", "thing"] (defScope s_is_deed) := ⟨rfl, rfl, rfl, by decide +kernel, rfl, by decide +kernel, by decide +kernel⟩
def b_is_deed : S :=
  (sSeq (sIf (tOr (tNot (tstA (o1 (pIsi .tup) (oV 1)))) (tOr (tst (o2 pNotIn (oPrim pLen (aCons (oV 1) aNil)) (oTup (aCons (oC (.int 2)) (aCons (oC (.int 3)) aNil))))) (tNot (tstA (o1 (pIsi .str) (o2 pIx (oV 1) (oC (.int 0))))))))
  (sRet (lkM [0, 0]) (oC (.bool false)))
  sSkip) (sSeq (sIf (tst (o2 pEq (oPrim pLen (aCons (oV 1) aNil)) (oC (.int 2))))
  (sRet (lkM [0, 0]) (oAnd (o2 pEq (o2 pIx (oV 1) (oC (.int 0))) (oC (.str "step"))) (oCall f_is_whole (aCons (o2 pIx (oV 1) (oC (.int 1))) (aCons (oC (.int 0)) aNil)))))
  sSkip) (sSeq (sIf (tst (o2 pEq (o2 pIx (oV 1) (oC (.int 0))) (oC (.str "put"))))
  (sRet (lkM [0, 0]) (oCall f_is_put (aCons (oV 0) (aCons (oV 1) aNil))))
  sSkip) (sRet (lkM [0, 0]) (oAnd (o2 pEq (o2 pIx (oV 1) (oC (.int 0))) (oC (.str "join"))) (oAnd (oCall f_is_whole (aCons (o2 pIx (oV 1) (oC (.int 1))) (aCons (oC (.int 0)) aNil))) (oAnd (oCall f_is_whole (aCons (o2 pIx (oV 1) (oC (.int 2))) (aCons (oC (.int 0)) aNil))) (o2 pLt (o2 pIx (oV 1) (oC (.int 1))) (o2 pIx (oV 1) (oC (.int 2)))))))))))
def f_is_deed : Fn := mkFn [0, 0] 2 b_is_deed
abbrev s_fork_behind : Stmt := topS 12
theorem sc_fork_behind : FnScope ["net", "lane", "number", "fork"] ["net", "lane", "number"] (defScope s_fork_behind) := ⟨rfl, rfl, rfl, by decide +kernel, rfl, by decide +kernel, by decide +kernel⟩
def b_fork_behind : S :=
  (sSeq (sFor (lkM [0, 0, 0]) (mkI itP (aCons (oCall f_on_lane (aCons (oV 0) (aCons (oV 1) aNil))) aNil)) (.nm 3)
  (sIf (tst (o2 pGt (oV 3) (oV 2)))
  (sRet (lkM [0, 0, 0]) (oV 3))
  sSkip)) (sRet (lkM [0, 0, 0]) (oPrim pLen (aCons (o2 pIx (oV 0) (oC (.int 1))) aNil))))
def f_fork_behind : Fn := mkFn [0, 0, 0] 4 b_fork_behind
abbrev s_group_of : Stmt := topS 13
theorem sc_group_of : FnScope ["net", "many", "lane", "number"] ["net", "many", "lane", "number"] (defScope s_group_of) := ⟨rfl, rfl, rfl, by decide +kernel, rfl, by decide +kernel, by decide +kernel⟩
def b_group_of : S :=
  (sSeq (sIf (tst (o2 pEq (oV 1) (oC (.int 0))))
  (sRet (lkM [0, 0, 0, 0]) (oLst aNil))
  sSkip) (sRet (lkM [0, 0, 0, 0]) (oLst (aCons (oTup (aCons (oV 1) (aCons (oV 2) (aCons (oCall f_fork_behind (aCons (oV 0) (aCons (oV 2) (aCons (oV 3) aNil)))) aNil)))) aNil))))
def f_group_of : Fn := mkFn [0, 0, 0, 0] 4 b_group_of
abbrev s_come_out : Stmt := topS 14
theorem sc_come_out : FnScope ["net", "scene", "k", "turns", "groups", "out", "many", "lane", "fork", "end"] ["net", "scene", "k"] (defScope s_come_out) := ⟨rfl, rfl, rfl, by decide +kernel, rfl, by decide +kernel, by decide +kernel⟩
def b_come_out : S :=
  (sSeq (sAsg (.tp [(.nm 3), (.nm 4), (.nm 5)]) (oV 1)) (sSeq (sAsg (.tp [(.nm 6), (.nm 7), (.nm 8)]) (o2 pIx (oV 4) (oV 2))) (sSeq (sSet 9 (oIdxT (o2 pIx (oV 0) (oC (.int 2))) (oV 7))) (sRet (lkM [0, 0, 0]) (oTup (aCons (oV 3) (aCons (o2 pAdd (oSl (oV 4) none (some (oV 2))) (oSl (oV 4) (some (o2 pAdd (oV 2) (oC (.int 1)))) none)) (aCons (o2 pAdd (o2 pAdd (oSl (oV 5) none (some (oV 9))) (oTup (aCons (o2 pAdd (o2 pIx (oV 5) (oV 9)) (oV 6)) aNil))) (oSl (oV 5) (some (o2 pAdd (oV 9) (oC (.int 1)))) none)) aNil))))))))
def f_come_out : Fn := mkFn [0, 0, 0] 10 b_come_out
abbrev s_step_on : Stmt := topS 15
theorem sc_step_on : FnScope ["net", "scene", "k", "turns", "groups", "out", "many", "lane", "fork", "first", "second", "turn", "here", "apart", "later"] ["net", "scene", "k"] (defScope s_step_on) := ⟨rfl, rfl, rfl, by decide +kernel, rfl, by decide +kernel, by decide +kernel⟩
def b_step_on : S :=
  (sSeq (sAsg (.tp [(.nm 3), (.nm 4), (.nm 5)]) (oV 1)) (sSeq (sAsg (.tp [(.nm 6), (.nm 7), (.nm 8)]) (o2 pIx (oV 4) (oV 2))) (sSeq (sIf (tst (o2 pEq (oV 8) (oPrim pLen (aCons (o2 pIx (oV 0) (oC (.int 1))) aNil))))
  (sRet (lkM [0, 0, 0]) (oCall f_come_out (aCons (oV 0) (aCons (oV 1) (aCons (oV 2) aNil)))))
  sSkip) (sSeq (sAsg (.tp [(.nm 9), (.nm 10)]) (o2 pIx (o2 pIx (oV 0) (oC (.int 1))) (oV 8))) (sSeq (sSet 11 (o2 pIx (oV 3) (oV 8))) (sSeq (sSet 12 (o2 pSub (o2 pDiv (o2 pAdd (o2 pAdd (oV 11) (oV 6)) (oC (.int 1))) (oC (.int 2))) (oV 11))) (sSeq (sSet 13 (o2 pAdd (oCall f_group_of (aCons (oV 0) (aCons (oV 12) (aCons (oV 9) (aCons (oV 8) aNil))))) (oCall f_group_of (aCons (oV 0) (aCons (o2 pSub (oV 6) (oV 12)) (aCons (oV 10) (aCons (oV 8) aNil))))))) (sSeq (sSet 14 (o2 pAdd (o2 pAdd (oSl (oV 3) none (some (oV 8))) (oTup (aCons (o2 pMod (o2 pAdd (oV 11) (oV 6)) (oC (.int 2))) aNil))) (oSl (oV 3) (some (o2 pAdd (oV 8) (oC (.int 1)))) none))) (sRet (lkM [0, 0, 0]) (oTup (aCons (oV 14) (aCons (o2 pAdd (o2 pAdd (oSl (oV 4) none (some (oV 2))) (oPrim pTuple (aCons (oV 13) aNil))) (oSl (oV 4) (some (o2 pAdd (oV 2) (oC (.int 1)))) none)) (aCons (oV 5) aNil)))))))))))))
def f_step_on : Fn := mkFn [0, 0, 0] 15 b_step_on
abbrev s_joined_groups : Stmt := topS 16
theorem sc_joined_groups : FnScope ["scene", "j", "k", "turns", "groups", "out", "many", "one"] ["scene", "j", "k"] (defScope s_joined_groups) := ⟨rfl, rfl, rfl, by decide +kernel, rfl, by decide +kernel, by decide +kernel⟩
def b_joined_groups : S :=
  (sSeq (sAsg (.tp [(.nm 3), (.nm 4), (.nm 5)]) (oV 0)) (sSeq (sSet 6 (o2 pAdd (o2 pIx (o2 pIx (oV 4) (oV 1)) (oC (.int 0))) (o2 pIx (o2 pIx (oV 4) (oV 2)) (oC (.int 0))))) (sSeq (sSet 7 (o2 pMul (oTup (aCons (o2 pAdd (oTup (aCons (oV 6) aNil)) (oSl (o2 pIx (oV 4) (oV 1)) (some (oC (.int 1))) none)) aNil)) (oPrim pInt (aCons (o2 pNe (oV 6) (oC (.int 0))) aNil)))) (sRet (lkM [0, 0, 0]) (oTup (aCons (oV 3) (aCons (o2 pAdd (o2 pAdd (o2 pAdd (oSl (oV 4) none (some (oV 1))) (oV 7)) (oSl (oV 4) (some (o2 pAdd (oV 1) (oC (.int 1)))) (some (oV 2)))) (oSl (oV 4) (some (o2 pAdd (oV 2) (oC (.int 1)))) none)) (aCons (oV 5) aNil))))))))
def f_joined_groups : Fn := mkFn [0, 0, 0] 8 b_joined_groups
abbrev s_NoDeed__init : Stmt := inClass (topS 2) 0
theorem sc_NoDeed__init : FnScope ["self", "place"] ["self", "place"] (defScope s_NoDeed__init) := ⟨rfl, rfl, rfl, by decide +kernel, rfl, by decide +kernel, by decide +kernel⟩
abbrev s_NoGroup__init : Stmt := inClass (topS 3) 0
theorem sc_NoGroup__init : FnScope ["self", "place"] ["self", "place"] (defScope s_NoGroup__init) := ⟨rfl, rfl, rfl, by decide +kernel, rfl, by decide +kernel, by decide +kernel⟩
abbrev s_done_at : Stmt := topS 17
theorem sc_done_at : FnScope ["net", "scene", "deed", "place", "groups", "group"] ["net", "scene", "deed", "place"] (defScope s_done_at) := ⟨rfl, rfl, rfl, by decide +kernel, rfl, by decide +kernel, by decide +kernel⟩
def b_done_at : S :=
  (sSeq (sIf (tNot (tstA (oCall f_is_deed (aCons (oV 0) (aCons (oV 2) aNil)))))
  sNever
  sSkip) (sSeq (sSet 4 (o2 pIx (oV 1) (oC (.int 1)))) (sSeq (sIf (tst (o2 pEq (o2 pIx (oV 2) (oC (.int 0))) (oC (.str "put"))))
  (sSeq (sSet 5 (oTup (aCons (o2 pIx (oV 2) (oC (.int 2))) (aCons (o2 pIx (oV 2) (oC (.int 1))) (aCons (oCall f_fork_behind (aCons (oV 0) (aCons (o2 pIx (oV 2) (oC (.int 1))) (aCons (o1 pNeg (oC (.int 1))) aNil)))) aNil))))) (sRet (lkM [0, 0, 0, 0]) (oTup (aCons (o2 pIx (oV 1) (oC (.int 0))) (aCons (o2 pAdd (oV 4) (oTup (aCons (oV 5) aNil))) (aCons (o2 pIx (oV 1) (oC (.int 2))) aNil))))))
  sSkip) (sSeq (sIf (tst (o2 pGe (o2 pIx (oV 2) (o1 pNeg (oC (.int 1)))) (oPrim pLen (aCons (oV 4) aNil))))
  sNever
  sSkip) (sSeq (sIf (tst (o2 pEq (o2 pIx (oV 2) (oC (.int 0))) (oC (.str "step"))))
  (sRet (lkM [0, 0, 0, 0]) (oCall f_step_on (aCons (oV 0) (aCons (oV 1) (aCons (o2 pIx (oV 2) (oC (.int 1))) aNil)))))
  sSkip) (sSeq (sIf (tst (o2 pNe (oSl (o2 pIx (oV 4) (o2 pIx (oV 2) (oC (.int 1)))) (some (oC (.int 1))) none) (oSl (o2 pIx (oV 4) (o2 pIx (oV 2) (oC (.int 2)))) (some (oC (.int 1))) none)))
  sNever
  sSkip) (sRet (lkM [0, 0, 0, 0]) (oCall f_joined_groups (aCons (oV 1) (aCons (o2 pIx (oV 2) (oC (.int 1))) (aCons (o2 pIx (oV 2) (oC (.int 2))) aNil)))))))))))
def f_done_at : Fn := mkFn [0, 0, 0, 0] 6 b_done_at
def z_done_at : FnZF := mkFzF [0, 0, 0, 0] 6
  (zIfF (tNot (tstA (oCall f_is_deed (aCons (oV 0) (aCons (oV 2) aNil))))) (zRaiseF "NoDeed" "place" (aCons (oV 3) aNil)) (zThenF (sSet 4 (o2 pIx (oV 1) (oC (.int 1)))) (zIfF (tst (o2 pEq (o2 pIx (oV 2) (oC (.int 0))) (oC (.str "put")))) zNoF (zIfF (tst (o2 pGe (o2 pIx (oV 2) (o1 pNeg (oC (.int 1)))) (oPrim pLen (aCons (oV 4) aNil)))) (zRaiseF "NoGroup" "place" (aCons (oV 3) aNil)) (zIfF (tst (o2 pEq (o2 pIx (oV 2) (oC (.int 0))) (oC (.str "step")))) zNoF (zIfF (tst (o2 pNe (oSl (o2 pIx (oV 4) (o2 pIx (oV 2) (oC (.int 1)))) (some (oC (.int 1))) none) (oSl (o2 pIx (oV 4) (o2 pIx (oV 2) (oC (.int 2)))) (some (oC (.int 1))) none))) (zRaiseF "NoGroup" "place" (aCons (oV 3) aNil)) zNoF))))))
abbrev s_done : Stmt := topS 18
theorem sc_done : FnScope ["net", "scene", "deed"] ["net", "scene", "deed"] (defScope s_done) := ⟨rfl, rfl, rfl, by decide +kernel, rfl, by decide +kernel, by decide +kernel⟩
def b_done : S :=
  (sRet (lkM [0, 0, 0]) (oCall f_done_at (aCons (oV 0) (aCons (oV 1) (aCons (oV 2) (aCons (oC (.int 0)) aNil))))))
def f_done : Fn := mkFn [0, 0, 0] 3 b_done
def z_done : FnZF := mkFzF [0, 0, 0] 3
  (zCallF z_done_at (aCons (oV 0) (aCons (oV 1) (aCons (oV 2) (aCons (oC (.int 0)) aNil)))))
abbrev s__law_cell_at : Stmt := topS 20
theorem sc__law_cell_at : FnScope ["_law_script", "_law_k"] ["_law_script", "_law_k"] (defScope s__law_cell_at) := ⟨rfl, rfl, rfl, by decide +kernel, rfl, by decide +kernel, by decide +kernel⟩
def b__law_cell_at : S :=
  (sSeq (sIf (tst (o2 pLt (oV 1) (oPrim pLen (aCons (oV 0) aNil))))
  (sRet (lkM [0, 0]) (o2 pIx (oV 0) (oV 1)))
  sSkip) (sRet (lkM [0, 0]) (oC (.int 0))))
def f__law_cell_at : Fn := mkFn [0, 0] 2 b__law_cell_at
abbrev s__law_left : Stmt := topS 21
theorem sc__law_left : FnScope ["_law_script", "_law_k", "_law_cell", "_law_seed"] ["_law_script", "_law_k"] (defScope s__law_left) := ⟨rfl, rfl, rfl, by decide +kernel, rfl, by decide +kernel, by decide +kernel⟩
def b__law_left : S :=
  (sSeq (sSet 2 (oCall f__law_cell_at (aCons (oV 0) (aCons (o2 pMod (oV 1) (oPrim pMax2 (aCons (oC (.int 1)) (aCons (oPrim pLen (aCons (oV 0) aNil)) aNil)))) aNil)))) (sSeq (sSet 3 (o2 pMod (o2 pMul (o2 pAdd (o2 pAdd (o2 pMod (oV 2) (oC (.int 2147483629))) (o2 pMul (o2 pMul (oC (.int 7919)) (oV 1)) (oV 1))) (oC (.int 11))) (oC (.int 48271))) (oC (.int 2147483647)))) (sRet (lkM [0, 0]) (oLst (aCons (o2 pMod (o2 pMul (oPrim pAbs (aCons (oV 2) aNil)) (oPrim pInt (aCons (o2 pGe (oPrim pAbs (aCons (oV 2) aNil)) (o2 pPow (oC (.int 10)) (oC (.int 18)))) aNil))) (oTen 2000)) (aCons (oV 3) aNil))))))
def f__law_left : Fn := mkFn [0, 0] 4 b__law_left
abbrev s__law_pick : Stmt := topS 22
theorem sc__law_pick : FnScope ["_law_left_here", "_law_many_here", "_law_digit"] ["_law_left_here", "_law_many_here"] (defScope s__law_pick) := ⟨rfl, rfl, rfl, by decide +kernel, rfl, by decide +kernel, by decide +kernel⟩
def b__law_pick : S :=
  (sSeq (sIf (tst (o2 pGt (o2 pIx (oV 0) (oC (.int 0))) (oC (.int 0))))
  (sSeq (sSet 2 (o2 pMod (o2 pIx (oV 0) (oC (.int 0))) (oV 1))) (sSeq (sSetIx 0 (oC (.int 0)) (o2 pDiv (o2 pIx (oV 0) (oC (.int 0))) (oV 1))) (sRet (lkM [0, 0]) (oV 2))))
  sSkip) (sSeq (sSetIx 0 (oC (.int 1)) (o2 pMod (o2 pAdd (o2 pMul (o2 pIx (oV 0) (oC (.int 1))) (oC (.int 48271))) (oC (.int 12345))) (oC (.int 2147483647)))) (sRet (lkM [0, 0]) (o2 pMod (o2 pMod (o2 pMul (o2 pIx (oV 0) (oC (.int 1))) (o2 pIx (oV 0) (oC (.int 1)))) (oC (.int 1999999973))) (oV 1)))))
def f__law_pick : Fn := mkFn [0, 0] 3 b__law_pick
abbrev s__law_of : Stmt := topS 23
theorem sc__law_of : FnScope ["_law_left_here", "_law_some"] ["_law_left_here", "_law_some"] (defScope s__law_of) := ⟨rfl, rfl, rfl, by decide +kernel, rfl, by decide +kernel, by decide +kernel⟩
def b__law_of : S :=
  (sRet (lkM [0, 0]) (o2 pIx (oV 1) (oCall f__law_pick (aCons (oV 0) (aCons (oPrim pLen (aCons (oV 1) aNil)) aNil)))))
def f__law_of : Fn := mkFn [0, 0] 2 b__law_of
abbrev s__law_placed : Stmt := topS 24
theorem sc__law_placed : FnScope ["_law_left_here", "_law_some", "_law_found"] ["_law_left_here", "_law_some"] (defScope s__law_placed) := ⟨rfl, rfl, rfl, by decide +kernel, rfl, by decide +kernel, by decide +kernel⟩
def b__law_placed (n : Nat) : S :=
  (sSeq (sSet 2 (oLst aNil)) (sSeq (sWhile (tst (o2 pNe (oV 1) (oLst aNil)))
  (sExpr (oMt mApp 2 (aCons (oMt mPopAt 1 (aCons (oCall f__law_pick (aCons (oV 0) (aCons (oPrim pLen (aCons (oV 1) aNil)) aNil))) aNil)) aNil))) n) (sRet (lkM [0, 2]) (oV 2))))
def f__law_placed (n : Nat) : Fn := mkFn2 [0, 2] 1 3 (b__law_placed n)
theorem len__law_placed (n : Nat) (ds : List D) (r : D) (as : List D) (h : f__law_placed n ds = .ok r as) : ds.length = 2 := mkFn2_len h
abbrev s__law_net : Stmt := topS 25
theorem sc__law_net : FnScope ["_law_left_here", "_law_lanes", "_law_most", "_law_forks", "_law_k", "_law_a", "_law_b", "_law_ends"] ["_law_left_here", "_law_lanes", "_law_most"] (defScope s__law_net) := ⟨rfl, rfl, rfl, by decide +kernel, rfl, by decide +kernel, by decide +kernel⟩
def b__law_net (n : Nat) : S :=
  (sSeq (sSet 3 (oLst aNil)) (sSeq (sFor (lkM [0, 0, 0]) (mkI itR1 (aCons (o2 pMul (oCall f__law_pick (aCons (oV 0) (aCons (o2 pAdd (oV 2) (oC (.int 1))) aNil))) (oPrim pInt (aCons (o2 pGt (oV 1) (oC (.int 1))) aNil))) aNil)) (.nm 4)
  (sSeq (sSet 5 (oCall f__law_pick (aCons (oV 0) (aCons (oV 1) aNil)))) (sSeq (sSet 6 (o2 pMod (o2 pAdd (o2 pAdd (oV 5) (oC (.int 1))) (oCall f__law_pick (aCons (oV 0) (aCons (o2 pSub (oV 1) (oC (.int 1))) aNil)))) (oV 1))) (sSeq (sIf (tAnd (tst (o2 pNe (oV 3) (oLst aNil))) (tst (o2 pEq (oCall f__law_pick (aCons (oV 0) (aCons (oC (.int 4)) aNil))) (oC (.int 0)))))
  (sAsg (.tp [(.nm 5), (.nm 6)]) (oStE (o2 pIx (oV 3) (o1 pNeg (oC (.int 1)))) (some (oCall f__law_of (aCons (oV 0) (aCons (oLst (aCons (oC (.int 1)) (aCons (o1 pNeg (oC (.int 1))) aNil))) aNil))))))
  sSkip) (sExpr (oMt mApp 3 (aCons (oTup (aCons (oV 5) (aCons (oV 6) aNil))) aNil))))))) (sSeq (sSet 7 (oPrim (pListRg) (aCons (oV 1) aNil))) (sSeq (sIf (tst (o2 pEq (oCall f__law_pick (aCons (oV 0) (aCons (oC (.int 2)) aNil))) (oC (.int 0))))
  (sSet 7 (oCall (f__law_placed n) (aCons (oV 0) (aCons (oV 7) aNil))))
  sSkip) (sRet (lkM [0, 0, 0]) (oTup (aCons (oV 1) (aCons (oPrim pTuple (aCons (oV 3) aNil)) (aCons (oPrim pTuple (aCons (oV 7) aNil)) aNil)))))))))
def f__law_net (n : Nat) : Fn := mkFn [0, 0, 0] 8 (b__law_net n)
theorem len__law_net (n : Nat) (ds : List D) (r : D) (as : List D) (h : f__law_net n ds = .ok r as) : ds.length = 3 := mkFn_len h
abbrev s__law_many : Stmt := topS 26
theorem sc__law_many : FnScope ["_law_left_here", "_law_far", "_law_many_here"] ["_law_left_here"] (defScope s__law_many) := ⟨rfl, rfl, rfl, by decide +kernel, rfl, by decide +kernel, by decide +kernel⟩
def b__law_many : S :=
  (sSeq (sSet 1 (o2 pAdd (oTenV (oCall f__law_pick (aCons (oV 0) (aCons (oC (.int 29)) aNil)))) (oCall f__law_pick (aCons (oV 0) (aCons (oC (.int 5)) aNil))))) (sSeq (sSet 2 (oCall f__law_of (aCons (oV 0) (aCons (oLst (aCons (oC (.int 1)) (aCons (oC (.int 1)) (aCons (oC (.int 2)) (aCons (oC (.int 3)) (aCons (o2 pAdd (oC (.int 1)) (oCall f__law_pick (aCons (oV 0) (aCons (oC (.int 9)) aNil)))) (aCons (o2 pShl (oC (.int 1)) (oCall f__law_pick (aCons (oV 0) (aCons (oC (.int 20)) aNil)))) (aCons (oV 1) aNil)))))))) aNil)))) (sRet (lkM [0]) (o2 pMul (oV 2) (oCall f__law_of (aCons (oV 0) (aCons (oLst (aCons (oC (.int 1)) (aCons (oC (.int 1)) (aCons (o1 pNeg (oC (.int 1))) aNil)))) aNil)))))))
def f__law_many : Fn := mkFn [0] 3 b__law_many
abbrev s__law_joined : Stmt := topS 27
theorem sc__law_joined : FnScope ["_law_net_here", "_law_scene", "_law_j", "_law_k", "_law_found", "error"] ["_law_net_here", "_law_scene", "_law_j", "_law_k"] (defScope s__law_joined) := ⟨rfl, rfl, rfl, by decide +kernel, rfl, by decide +kernel, by decide +kernel⟩
def b__law_joined : S :=
  (sSeq (sSet 4 (oC (.int 0))) (sSeq (sTryF ["NoDeed", "NoGroup"] "place" 5 (zCallF z_done (aCons (oV 0) (aCons (oV 1) (aCons (oTup (aCons (oC (.str "join")) (aCons (oV 2) (aCons (oV 3) aNil)))) aNil))))
  (sSet 4 (oCall f_done (aCons (oV 0) (aCons (oV 1) (aCons (oTup (aCons (oC (.str "join")) (aCons (oV 2) (aCons (oV 3) aNil)))) aNil)))))
  (fun x => (fun x => (["NoGroup"] : List Str).contains x.1) x && (fun x => (fun x => !((fun x => (["NoDeed"] : List Str).contains x.1) x)) x && (fun x => decide (x.2.2 = 0)) x) x) (sSet 4 (oC .none))) (sRet (lkM [0, 0, 0, 0]) (oV 4))))
def f__law_joined : Fn := mkFn [0, 0, 0, 0] 6 b__law_joined
abbrev s__law_due : Stmt := topS 28
theorem sc__law_due : FnScope ["_law_scene", "_law_j", "_law_k", "_law_groups", "_law_total"] ["_law_scene", "_law_j", "_law_k"] (defScope s__law_due) := ⟨rfl, rfl, rfl, by decide +kernel, rfl, by decide +kernel, by decide +kernel⟩
def b__law_due : S :=
  (sSeq (sSet 3 (oPrim pList (aCons (o2 pIx (oV 0) (oC (.int 1))) aNil))) (sSeq (sIf (tOr (tst (o2 pNe (o2 pIx (o2 pIx (oV 3) (oV 1)) (oC (.int 1))) (o2 pIx (o2 pIx (oV 3) (oV 2)) (oC (.int 1))))) (tst (o2 pNe (o2 pIx (o2 pIx (oV 3) (oV 1)) (oC (.int 2))) (o2 pIx (o2 pIx (oV 3) (oV 2)) (oC (.int 2))))))
  (sRet (lkM [0, 0, 0]) (oC .none))
  sSkip) (sSeq (sSet 4 (o2 pAdd (o2 pIx (o2 pIx (oV 3) (oV 1)) (oC (.int 0))) (o2 pIx (o2 pIx (oV 3) (oV 2)) (oC (.int 0))))) (sSeq (sSetIx 3 (oV 1) (oTup (aCons (oV 4) (aCons (o2 pIx (o2 pIx (oV 3) (oV 1)) (oC (.int 1))) (aCons (o2 pIx (o2 pIx (oV 3) (oV 1)) (oC (.int 2))) aNil))))) (sSeq (sExpr (oMt mPopAt 3 (aCons (oV 2) aNil))) (sSeq (sIf (tst (o2 pEq (oV 4) (oC (.int 0))))
  (sExpr (oMt mPopAt 3 (aCons (oV 1) aNil)))
  sSkip) (sRet (lkM [0, 0, 0]) (oTup (aCons (o2 pIx (oV 0) (oC (.int 0))) (aCons (oPrim pTuple (aCons (oV 3) aNil)) (aCons (o2 pIx (oV 0) (oC (.int 2))) aNil)))))))))))
def f__law_due : Fn := mkFn [0, 0, 0] 5 b__law_due
abbrev s_law : Stmt := topS 29
theorem sc_law : FnScope ["_law_script", "_law_k", "_law_left_here", "_law_net_here", "_law_scene", "_law_lane", "_law_last", "_law_turn", "_law_j", "_law_other", "_law_due_here"] ["_law_script"] (defScope s_law) := ⟨rfl, rfl, rfl, by decide +kernel, rfl, by decide +kernel, by decide +kernel⟩
def b_law (n : Nat) : S :=
  (sSeq (sFor (lkM [0]) (mkI itR1 (aCons (oPrim pMax2 (aCons (oC (.int 1)) (aCons (oPrim pMin2 (aCons (oC (.int 8)) (aCons (oPrim pLen (aCons (oV 0) aNil)) aNil))) aNil))) aNil)) (.nm 1)
  (sSeq (sSet 2 (oCall f__law_left (aCons (oV 0) (aCons (oV 1) aNil)))) (sSeq (sSet 3 (oCall (f__law_net n) (aCons (oV 2) (aCons (oCall f__law_of (aCons (oV 2) (aCons (oLst (aCons (oC (.int 1)) (aCons (oC (.int 2)) (aCons (oC (.int 3)) (aCons (oC (.int 4)) (aCons (oC (.int 6)) aNil)))))) aNil))) (aCons (oC (.int 8)) aNil))))) (sSeq (sSet 4 (oCall f_begun (aCons (oV 3) aNil))) (sSeq (sPar [5, 6] (aCons (oCall f__law_pick (aCons (oV 2) (aCons (o2 pIx (oV 3) (oC (.int 0))) aNil))) (aCons (oC (.int 1)) aNil))) (sSeq (sFor (lkM [0]) (mkI itR1 (aCons (o2 pAdd (oC (.int 2)) (oCall f__law_pick (aCons (oV 2) (aCons (oC (.int 5)) aNil)))) aNil)) (.nm 7)
  (sSeq (sSet 6 (oCall f__law_of (aCons (oV 2) (aCons (oLst (aCons (oCall f__law_many (aCons (oV 2) aNil)) (aCons (o2 pSub (oC (.int 0)) (oV 6)) (aCons (o2 pSub (oC (.int 0)) (oV 6)) aNil)))) aNil)))) (sSet 4 (oCall f_done (aCons (oV 3) (aCons (oV 4) (aCons (oTup (aCons (oC (.str "put")) (aCons (oCall f__law_of (aCons (oV 2) (aCons (oLst (aCons (oV 5) (aCons (oV 5) (aCons (oCall f__law_pick (aCons (oV 2) (aCons (o2 pIx (oV 3) (oC (.int 0))) aNil))) aNil)))) aNil))) (aCons (oV 6) aNil)))) aNil))))))) (sSeq (sFor (lkM [0]) (mkI itR1 (aCons (oCall f__law_pick (aCons (oV 2) (aCons (oC (.int 7)) aNil))) aNil)) (.nm 7)
  (sIf (tst (o2 pNe (o2 pIx (oV 4) (oC (.int 1))) (oTup aNil)))
  (sSet 4 (oCall f_done (aCons (oV 3) (aCons (oV 4) (aCons (oTup (aCons (oC (.str "step")) (aCons (oCall f__law_pick (aCons (oV 2) (aCons (oPrim pLen (aCons (o2 pIx (oV 4) (oC (.int 1))) aNil)) aNil))) aNil))) aNil)))))
  sSkip)) (sFor (lkM [0]) (mkI itR1 (aCons (oC (.int 8)) aNil)) (.nm 7)
  (sIf (tst (o2 pGt (oPrim pLen (aCons (o2 pIx (oV 4) (oC (.int 1))) aNil)) (oC (.int 1))))
  (sSeq (sSet 8 (oCall f__law_pick (aCons (oV 2) (aCons (o2 pSub (oPrim pLen (aCons (o2 pIx (oV 4) (oC (.int 1))) aNil)) (oC (.int 1))) aNil)))) (sSeq (sSet 9 (o2 pAdd (o2 pAdd (oV 8) (oC (.int 1))) (oCall f__law_pick (aCons (oV 2) (aCons (o2 pSub (o2 pSub (oPrim pLen (aCons (o2 pIx (oV 4) (oC (.int 1))) aNil)) (oC (.int 1))) (oV 8)) aNil))))) (sSeq (sSet 10 (oCall f__law_due (aCons (oV 4) (aCons (oV 8) (aCons (oV 9) aNil))))) (sSeq (sIf (tst (o2 pNe (oCall f__law_joined (aCons (oV 3) (aCons (oV 4) (aCons (oV 8) (aCons (oV 9) aNil))))) (oV 10)))
  (sRet (lkM [0]) (oC (.bool false)))
  sSkip) (sSet 4 (oOrV (oV 10) (oV 4)))))))
  sSkip))))))))) (sRet (lkM [0]) (oC (.bool true))))
def f_law (n : Nat) : Fn := mkFn [0] 11 (b_law n)
theorem len_law (n : Nat) (ds : List D) (r : D) (as : List D) (h : f_law n ds = .ok r as) : ds.length = 1 := mkFn_len h
def p_on_lane (net : (Int × (List (Int × Int)) × (List Int))) (lane : Int) : Option (List Int) :=
  lim ((enumT 0 net.2.1).length) (some (List.map (fun y => y.1) ((enumT 0 net.2.1).filter fun y => ((decide (y.2.1 = lane) || decide (y.2.2 = lane))))))
def p_is_whole (thing : Int) (least : Int) : Option Bool :=
  some (true && ((!false) && (decide (least ≤ thing))))
def p_begun (net : (Int × (List (Int × Int)) × (List Int))) : Option ((List Int) × (List (List Int)) × (List Int)) :=
  ((repT [(0 : Int)] (net.2.1.length : Int))).bind fun t9 => ((repT [(0 : Int)] net.1)).bind fun t19 => some (t9, ([] : (List (List Int))), t19)
def p_is_put (net : (Int × (List (Int × Int)) × (List Int))) (thing : PD) : Option Bool :=
  ((dP (pIx [eV thing, eI (1 : Int)]))).bind fun t5 => ((rI (t5).1)).bind fun t6 => ((p_is_whole  t6 (0 : Int))).bind fun t10 => ((if (!t10) = true then some true else ((dP (pIx [eV thing, eI (1 : Int)]))).bind fun t14 => ((dB (pGe [eV t14, eI net.1]))).bind fun t19 => ((if t19 = true then some true else ((dP (pIx [eV thing, eI (2 : Int)]))).bind fun t23 => ((rI (t23).1)).bind fun t24 => ((p_is_whole  t24 ((1 : Int) - (1000000000000000000000000000000 : Int)))).bind fun t30 => some (!t30))).bind fun t31 => some t31)).bind fun t32 => if t32 = true then some false else ((dP (pIx [eV thing, eI (2 : Int)]))).bind fun t37 => ((dB (pNe [eV t37, eI (0 : Int)]))).bind fun t40 => ((if t40 = true then ((dP (pIx [eV thing, eI (2 : Int)]))).bind fun t44 => ((dB (pLt [eV t44, eI (1000000000000000000000000000000 : Int)]))).bind fun t47 => some t47 else some false)).bind fun t48 => some t48
def p_is_deed (net : (Int × (List (Int × Int)) × (List Int))) (thing : PD) : Option Bool :=
  ((if (!(isK .tup (thing).1)) = true then some true else ((dI (pLen [eV thing]))).bind fun t6 => ((if (!(decide (((2 : Int), (3 : Int)).1 = t6) || decide (((2 : Int), (3 : Int)).2 = t6))) = true then some true else ((dP (pIx [eV thing, eI (0 : Int)]))).bind fun t15 => some (!(isK .str (t15).1)))).bind fun t17 => some t17)).bind fun t18 => if t18 = true then some false else ((dI (pLen [eV thing]))).bind fun t22 => if (decide (t22 = (2 : Int))) = true then ((dP (pIx [eV thing, eI (0 : Int)]))).bind fun t28 => ((dB (pEq [eV t28, eS ("step" : Str)]))).bind fun t31 => ((if t31 = true then ((dP (pIx [eV thing, eI (1 : Int)]))).bind fun t35 => ((rI (t35).1)).bind fun t36 => ((p_is_whole  t36 (0 : Int))).bind fun t40 => some t40 else some false)).bind fun t41 => some t41 else ((dP (pIx [eV thing, eI (0 : Int)]))).bind fun t45 => ((dB (pEq [eV t45, eS ("put" : Str)]))).bind fun t48 => if t48 = true then ((p_is_put  net thing)).bind fun t52 => some t52 else ((dP (pIx [eV thing, eI (0 : Int)]))).bind fun t56 => ((dB (pEq [eV t56, eS ("join" : Str)]))).bind fun t59 => ((if t59 = true then ((dP (pIx [eV thing, eI (1 : Int)]))).bind fun t63 => ((rI (t63).1)).bind fun t64 => ((p_is_whole  t64 (0 : Int))).bind fun t68 => ((if t68 = true then ((dP (pIx [eV thing, eI (2 : Int)]))).bind fun t72 => ((rI (t72).1)).bind fun t73 => ((p_is_whole  t73 (0 : Int))).bind fun t77 => ((if t77 = true then ((dP (pIx [eV thing, eI (1 : Int)]))).bind fun t81 => ((dP (pIx [eV thing, eI (2 : Int)]))).bind fun t85 => ((dB (pLt [eV t81, eV t85]))).bind fun t87 => some t87 else some false)).bind fun t88 => some t88 else some false)).bind fun t89 => some t89 else some false)).bind fun t90 => some t90
def p_fork_behind (net : (Int × (List (Int × Int)) × (List Int))) (lane : Int) (number : Int) : Option Int :=
  ((p_on_lane  net lane)).bind fun t6 => (((lpR (fun (s9 : Unit) (fork : Int) => if (decide (number < fork)) = true then some (Lf.ret fork) else some (.go ())) t6 ()).bind fun w => w.on (fun s9 => some (net.2.1.length : Int)) (fun z => some (z))))
def p_group_of (net : (Int × (List (Int × Int)) × (List Int))) (many : Int) (lane : Int) (number : Int) : Option (List (List Int)) :=
  if (decide (many = (0 : Int))) = true then some ([] : (List (List Int))) else ((p_fork_behind  net lane number)).bind fun t15 => some [[many, lane, t15]]
def p_come_out (net : (Int × (List (Int × Int)) × (List Int))) (scene : ((List Int) × (List (List Int)) × (List Int))) (k : Int) : Option ((List Int) × (List (List Int)) × (List Int)) :=
  ((atI scene.2.1 k)).bind fun t7 => ((un3 t7)).bind fun t8 => ((idxT net.2.2 t8.2.1)).bind fun end_ => ((catT (cutL scene.2.1 none (some k)) (cutL scene.2.1 (some (k + (1 : Int))) none))).bind fun t28 => ((atI scene.2.2 end_)).bind fun t36 => ((catT (cutL scene.2.2 none (some end_)) [(t36 + t8.1)])).bind fun t42 => ((catT t42 (cutL scene.2.2 (some (end_ + (1 : Int))) none))).bind fun t52 => some (scene.1, t28, t52)
def p_step_on (net : (Int × (List (Int × Int)) × (List Int))) (scene : ((List Int) × (List (List Int)) × (List Int))) (k : Int) : Option ((List Int) × (List (List Int)) × (List Int)) :=
  ((atI scene.2.1 k)).bind fun t7 => ((un3 t7)).bind fun t8 => if (decide (t8.2.2 = (net.2.1.length : Int))) = true then ((p_come_out  net scene k)).bind fun t19 => some t19 else ((atI net.2.1 t8.2.2)).bind fun t25 => ((atI scene.1 t8.2.2)).bind fun turn => (some ((((turn + t8.1) + (1 : Int)) / (2 : Int)) - turn)).bind fun here => ((p_group_of  net here t25.1 t8.2.2)).bind fun t46 => ((p_group_of  net (t8.1 - here) t25.2 t8.2.2)).bind fun t54 => ((catT t46 t54)).bind fun apart => ((catT (cutL scene.1 none (some t8.2.2)) [((turn + t8.1) % (2 : Int))])).bind fun t69 => ((catT t69 (cutL scene.1 (some (t8.2.2 + (1 : Int))) none))).bind fun later => ((catT (cutL scene.2.1 none (some k)) apart)).bind fun t87 => ((catT t87 (cutL scene.2.1 (some (k + (1 : Int))) none))).bind fun t97 => some (later, t97, scene.2.2)
def p_joined_groups (scene : ((List Int) × (List (List Int)) × (List Int))) (j : Int) (k : Int) : Option ((List Int) × (List (List Int)) × (List Int)) :=
  ((atI scene.2.1 j)).bind fun t7 => ((atI t7 (0 : Int))).bind fun t10 => ((atI scene.2.1 k)).bind fun t14 => ((atI t14 (0 : Int))).bind fun t17 => (some (t10 + t17)).bind fun many => ((atI scene.2.1 j)).bind fun t27 => ((catT [many] (cutL t27 (some (1 : Int)) none))).bind fun t32 => ((repT [t32] (if (!decide (many = (0 : Int))) = true then 1 else 0))).bind fun one => ((catT (cutL scene.2.1 none (some j)) one)).bind fun t48 => ((catT t48 (cutL scene.2.1 (some (j + (1 : Int))) (some k)))).bind fun t56 => ((catT t56 (cutL scene.2.1 (some (k + (1 : Int))) none))).bind fun t66 => some (scene.1, t66, scene.2.2)
def p_done_at (net : (Int × (List (Int × Int)) × (List Int))) (scene : ((List Int) × (List (List Int)) × (List Int))) (deed : PD) (place : Int) : Option ((List Int) × (List (List Int)) × (List Int)) :=
  ((p_is_deed  net deed)).bind fun t7 => if (!t7) = true then none else ((dP (pIx [eV deed, eI (0 : Int)]))).bind fun t14 => ((dB (pEq [eV t14, eS ("put" : Str)]))).bind fun t17 => if t17 = true then ((dP (pIx [eV deed, eI (2 : Int)]))).bind fun t21 => ((rI (t21).1)).bind fun t22 => ((dP (pIx [eV deed, eI (1 : Int)]))).bind fun t27 => ((rI (t27).1)).bind fun t28 => ((dP (pIx [eV deed, eI (1 : Int)]))).bind fun t34 => ((rI (t34).1)).bind fun t35 => ((p_fork_behind  net t35 (-(1 : Int)))).bind fun t40 => (some [t22, t28, t40]).bind fun group => ((catT scene.2.1 [group])).bind fun t53 => some (scene.1, t53, scene.2.2) else ((dP (pIx [eV deed, eI (-(1 : Int))]))).bind fun t63 => ((dB (pGe [eV t63, eI (scene.2.1.length : Int)]))).bind fun t67 => if t67 = true then none else ((dP (pIx [eV deed, eI (0 : Int)]))).bind fun t71 => ((dB (pEq [eV t71, eS ("step" : Str)]))).bind fun t74 => if t74 = true then ((dP (pIx [eV deed, eI (1 : Int)]))).bind fun t80 => ((rI (t80).1)).bind fun t81 => ((p_step_on  net scene t81)).bind fun t84 => some t84 else ((dP (pIx [eV deed, eI (1 : Int)]))).bind fun t89 => ((rI (t89).1)).bind fun t90 => ((atI scene.2.1 t90)).bind fun t93 => ((dP (pIx [eV deed, eI (2 : Int)]))).bind fun t101 => ((rI (t101).1)).bind fun t102 => ((atI scene.2.1 t102)).bind fun t105 => if (!decide ((cutL t93 (some (1 : Int)) none) = (cutL t105 (some (1 : Int)) none))) = true then none else ((dP (pIx [eV deed, eI (1 : Int)]))).bind fun t114 => ((rI (t114).1)).bind fun t115 => ((dP (pIx [eV deed, eI (2 : Int)]))).bind fun t120 => ((rI (t120).1)).bind fun t121 => ((p_joined_groups  scene t115 t121)).bind fun t124 => some t124
def pz_done_at (net : (Int × (List (Int × Int)) × (List Int))) (scene : ((List Int) × (List (List Int)) × (List Int))) (deed : PD) (place : Int) : Option (Option ExnF) :=
  ((p_is_deed  net deed)).bind fun t7 => if (!t7) = true then some (some ("NoDeed", "place", place)) else (some scene.2.1).bind fun groups => ((dP (pIx [eV deed, eI (0 : Int)]))).bind fun t17 => ((dB (pEq [eV t17, eS ("put" : Str)]))).bind fun t20 => if t20 = true then some none else ((dP (pIx [eV deed, eI (-(1 : Int))]))).bind fun t25 => ((dB (pGe [eV t25, eI (groups.length : Int)]))).bind fun t29 => if t29 = true then some (some ("NoGroup", "place", place)) else ((dP (pIx [eV deed, eI (0 : Int)]))).bind fun t34 => ((dB (pEq [eV t34, eS ("step" : Str)]))).bind fun t37 => if t37 = true then some none else ((dP (pIx [eV deed, eI (1 : Int)]))).bind fun t42 => ((rI (t42).1)).bind fun t43 => ((atI groups t43)).bind fun t46 => ((dP (pIx [eV deed, eI (2 : Int)]))).bind fun t54 => ((rI (t54).1)).bind fun t55 => ((atI groups t55)).bind fun t58 => if (!decide ((cutL t46 (some (1 : Int)) none) = (cutL t58 (some (1 : Int)) none))) = true then some (some ("NoGroup", "place", place)) else some none
def p_done (net : (Int × (List (Int × Int)) × (List Int))) (scene : ((List Int) × (List (List Int)) × (List Int))) (deed : PD) : Option ((List Int) × (List (List Int)) × (List Int)) :=
  ((p_done_at  net scene deed (0 : Int))).bind fun t8 => some t8
def pz_done (net : (Int × (List (Int × Int)) × (List Int))) (scene : ((List Int) × (List (List Int)) × (List Int))) (deed : PD) : Option (Option ExnF) :=
  pz_done_at net scene deed (0 : Int)
def p__law_cell_at (script : (List Int)) (k : Int) : Option Int :=
  if (decide (k < (script.length : Int))) = true then ((atI script k)).bind fun t9 => some t9 else some (0 : Int)
def p__law_left (script : (List Int)) (k : Int) : Option (List Int) :=
  ((modT k (max (1 : Int) (script.length : Int)))).bind fun t9 => ((p__law_cell_at  script t9)).bind fun cell => ((mulT ((7919 : Int) * k) k)).bind fun t20 => (some (((((cell % (2147483629 : Int)) + t20) + (11 : Int)) * (48271 : Int)) % (2147483647 : Int))).bind fun seed => ((modT ((absT cell) * (if (decide ((1000000000000000000 : Int) ≤ (absT cell))) = true then 1 else 0)) (tenN 2000))).bind fun t42 => some [t42, seed]
def p__law_pick (left_here : (List Int)) (many_here : Int) : Option (Int × (List Int)) :=
  ((atI left_here (0 : Int))).bind fun t4 => if (decide ((0 : Int) < t4)) = true then ((atI left_here (0 : Int))).bind fun t9 => ((modT t9 many_here)).bind fun digit => ((atI left_here (0 : Int))).bind fun t15 => ((divT t15 many_here)).bind fun t18 => ((setT left_here (0 : Int) t18)).bind fun left_here => some (digit, left_here) else ((atI left_here (1 : Int))).bind fun t25 => ((setT left_here (1 : Int) (((t25 * (48271 : Int)) + (12345 : Int)) % (2147483647 : Int)))).bind fun left_here => ((atI left_here (1 : Int))).bind fun t37 => ((atI left_here (1 : Int))).bind fun t40 => ((mulT t37 t40)).bind fun t42 => ((modT (t42 % (1999999973 : Int)) many_here)).bind fun t47 => some (t47, left_here)
def p__law_of__at0 (left_here : (List Int)) (some_ : (List Int)) : Option (Int × (List Int)) :=
  ((p__law_pick  left_here (some_.length : Int))).bind fun t4 => ((atI some_ t4.1)).bind fun t6 => some (t6, t4.2)
def p__law_of__at1 (left_here : (List Int)) (some_ : (List Int)) : Option (Int × (List Int)) :=
  ((p__law_pick  left_here (some_.length : Int))).bind fun t4 => ((atI some_ t4.1)).bind fun t6 => some (t6, t4.2)
def p__law_of__at2 (left_here : (List Int)) (some_ : (List Int)) : Option (Int × (List Int)) :=
  ((p__law_pick  left_here (some_.length : Int))).bind fun t4 => ((atI some_ t4.1)).bind fun t6 => some (t6, t4.2)
def p__law_of__at3 (left_here : (List Int)) (some_ : (List Int)) : Option (Int × (List Int)) :=
  ((p__law_pick  left_here (some_.length : Int))).bind fun t4 => ((atI some_ t4.1)).bind fun t6 => some (t6, t4.2)
def p__law_of__at4 (left_here : (List Int)) (some_ : (List Int)) : Option (Int × (List Int)) :=
  ((p__law_pick  left_here (some_.length : Int))).bind fun t4 => ((atI some_ t4.1)).bind fun t6 => some (t6, t4.2)
def p__law_of__at5 (left_here : (List Int)) (some_ : (List Int)) : Option (Int × (List Int)) :=
  ((p__law_pick  left_here (some_.length : Int))).bind fun t4 => ((atI some_ t4.1)).bind fun t6 => some (t6, t4.2)
def p__law_placed (n : Nat) (left_here : (List Int)) (some_ : (List Int)) : Option ((List Int) × (List Int)) :=
  (some ([] : (List Int))).bind fun found => ((lpW (ρ := ((List Int) × (List Int))) (fun (s7 : ((List Int) × (List Int) × (List Int))) => if (!decide (s7.2.1 = ([] : (List Int)))) = true then (((p__law_pick  s7.1 (s7.2.1.length : Int))).bind fun t13 => ((popT s7.2.1 t13.1)).bind fun t15 => ((appT s7.2.2 t15.1)).bind fun found => some (.go (t13.2, t15.2, found))).bind fun w => some (some w) else some none) n (left_here, some_, found)).bind fun w => w.on (fun s7 => some (s7.2.2, s7.1)) (fun z => some (z)))
def p__law_net (n : Nat) (left_here : (List Int)) (lanes : Int) (most : Int) : Option ((Int × (List (Int × Int)) × (List Int)) × (List Int)) :=
  (some ([] : (List (Int × Int)))).bind fun forks => ((p__law_pick  left_here (most + (1 : Int)))).bind fun t11 => ((rngO (t11.1 * (if (decide ((1 : Int) < lanes)) = true then 1 else 0)))).bind fun t18 => ((lpN (fun (s20 : ((List Int) × (List (Int × Int)))) (k : Int) => ((p__law_pick  s20.1 lanes)).bind fun t25 => ((p__law_pick  t25.2 (lanes - (1 : Int)))).bind fun t33 => ((modT ((t25.1 + (1 : Int)) + t33.1) lanes)).bind fun b => ((if (!decide (s20.2 = ([] : (List (Int × Int))))) = true then ((p__law_pick  t33.2 (4 : Int))).bind fun t43 => some ((decide (t43.1 = (0 : Int))), t43.2) else some (false, t33.2))).bind fun t46 => ((if t46.1 = true then ((atI s20.2 (-(1 : Int)))).bind fun t53 => ((p__law_of__at0  t46.2 [(1 : Int), (-(1 : Int))])).bind fun t60 => ((stepP t53 t60.1)).bind fun t61 => some (t60.2, t61.1, t61.2) else some (t46.2, t25.1, b))).bind fun t64 => ((appT s20.2 (t64.2.1, t64.2.2))).bind fun forks => some (t64.1, forks)) t18 (t11.2, forks))).bind fun s20 => ((rngO lanes)).bind fun ends => ((p__law_pick  s20.1 (2 : Int))).bind fun t75 => ((if (decide (t75.1 = (0 : Int))) = true then ((p__law_placed n t75.2 ends)).bind fun t79 => some (t79.2, t79.1) else some (t75.2, ends))).bind fun t82 => some ((lanes, s20.2, t82.2), t82.1)
def p__law_many (left_here : (List Int)) : Option (Int × (List Int)) :=
  ((p__law_pick  left_here (29 : Int))).bind fun t3 => ((tenO t3.1)).bind fun t4 => ((p__law_pick  t3.2 (5 : Int))).bind fun t7 => (some (t4 + t7.1)).bind fun far => ((p__law_pick  t7.2 (9 : Int))).bind fun t18 => ((p__law_pick  t18.2 (20 : Int))).bind fun t23 => ((shlT (1 : Int) t23.1)).bind fun t25 => ((p__law_of__at1  t23.2 [(1 : Int), (1 : Int), (2 : Int), (3 : Int), ((1 : Int) + t18.1), t25, far])).bind fun t30 => ((p__law_of__at2  t30.2 [(1 : Int), (1 : Int), (-(1 : Int))])).bind fun t39 => ((mulT t30.1 t39.1)).bind fun t41 => some (t41, t39.2)
def p__law_joined (net_here : (Int × (List (Int × Int)) × (List Int))) (scene : ((List Int) × (List (List Int)) × (List Int))) (j : Int) (k : Int) : Option PD :=
  (some (toPD puI (0 : Int))).bind fun found => ((pz_done net_here scene (toPD (puQ puS puI puI) (("join" : Str), j, k)))).bind fun raised => ((tryTF ["NoDeed", "NoGroup"] "place" raised (fun x => (fun x => (["NoGroup"] : List Str).contains x.1) x && (fun x => (fun x => !((fun x => (["NoDeed"] : List Str).contains x.1) x)) x && (fun x => decide (x.2.2 = 0)) x) x) (((p_done  net_here scene (toPD (puQ puS puI puI) (("join" : Str), j, k)))).bind fun t25 => (some (toPD (puQ (puT puI) (puT (puT puI)) (puT puI)) t25)).bind fun found => some found) ((some (toPD puU ())).bind fun found => some found) (some found))).bind fun found => some found
def p__law_due (scene : ((List Int) × (List (List Int)) × (List Int))) (j : Int) (k : Int) : Option (Option ((List Int) × (List (List Int)) × (List Int))) :=
  ((atI scene.2.1 j)).bind fun t9 => ((atI t9 (1 : Int))).bind fun t12 => ((atI scene.2.1 k)).bind fun t15 => ((atI t15 (1 : Int))).bind fun t18 => ((if (!decide (t12 = t18)) = true then some true else ((atI scene.2.1 j)).bind fun t22 => ((atI t22 (2 : Int))).bind fun t25 => ((atI scene.2.1 k)).bind fun t28 => ((atI t28 (2 : Int))).bind fun t31 => some (!decide (t25 = t31)))).bind fun t33 => if t33 = true then some none else ((atI scene.2.1 j)).bind fun t37 => ((atI t37 (0 : Int))).bind fun t40 => ((atI scene.2.1 k)).bind fun t43 => ((atI t43 (0 : Int))).bind fun t46 => (some (t40 + t46)).bind fun total => ((atI scene.2.1 j)).bind fun t53 => ((atI t53 (1 : Int))).bind fun t56 => ((atI scene.2.1 j)).bind fun t59 => ((atI t59 (2 : Int))).bind fun t62 => ((setT scene.2.1 j [total, t56, t62])).bind fun groups => ((popT groups k)).bind fun t70 => ((if (decide (total = (0 : Int))) = true then ((popT t70.2 j)).bind fun t76 => some t76.2 else some t70.2)).bind fun groups => some (some (scene.1, groups, scene.2.2))
def p_law (n : Nat) (script : (List Int)) : Option Bool :=
  ((rngO (max (1 : Int) (min (8 : Int) (script.length : Int))))).bind fun t8 => (((lpR (fun (s10 : Unit) (k : Int) => ((p__law_left  script k)).bind fun left_here => ((p__law_of__at3  left_here [(1 : Int), (2 : Int), (3 : Int), (4 : Int), (6 : Int)])).bind fun t25 => ((p__law_net n t25.2 t25.1 (8 : Int))).bind fun t28 => ((p_begun  t28.1)).bind fun scene => ((p__law_pick  t28.2 t28.1.1)).bind fun t36 => ((p__law_pick  t36.2 (5 : Int))).bind fun t42 => ((rngO ((2 : Int) + t42.1))).bind fun t45 => ((lpN (fun (s47 : ((List Int) × ((List Int) × (List (List Int)) × (List Int)) × Int)) (turn : Int) => ((p__law_many  s47.1)).bind fun t51 => ((p__law_of__at4  t51.2 [t51.1, ((0 : Int) - s47.2.2), ((0 : Int) - s47.2.2)])).bind fun t61 => ((p__law_pick  t61.2 t28.1.1)).bind fun t71 => ((p__law_of__at5  t71.2 [t36.1, t36.1, t71.1])).bind fun t75 => ((p_done  t28.1 s47.2.1 (toPD (puQ puS puI puI) (("put" : Str), t75.1, t61.1)))).bind fun scene => some (t75.2, scene, t61.1)) t45 (t42.2, scene, (1 : Int)))).bind fun s47 => ((p__law_pick  s47.1 (7 : Int))).bind fun t84 => ((rngO t84.1)).bind fun t86 => ((lpN (fun (s88 : ((List Int) × ((List Int) × (List (List Int)) × (List Int)))) (turn : Int) => if (!decide (s88.2.2.1 = ([] : (List (List Int))))) = true then ((p__law_pick  s88.1 (s88.2.2.1.length : Int))).bind fun t105 => ((p_done  t28.1 s88.2 (toPD (puP puS puI) (("step" : Str), t105.1)))).bind fun scene => some (t105.2, scene) else some (s88.1, s88.2)) t86 (t84.2, s47.2.1))).bind fun s88 => (((lpR (fun (s114 : ((List Int) × ((List Int) × (List (List Int)) × (List Int)))) (turn : Int) => if (decide ((1 : Int) < (s114.2.2.1.length : Int))) = true then ((p__law_pick  s114.1 ((s114.2.2.1.length : Int) - (1 : Int)))).bind fun t130 => ((p__law_pick  t130.2 (((s114.2.2.1.length : Int) - (1 : Int)) - t130.1))).bind fun t143 => (some ((t130.1 + (1 : Int)) + t143.1)).bind fun other => ((p__law_due  s114.2 t130.1 other)).bind fun due_here => ((p__law_joined  t28.1 s114.2 t130.1 other)).bind fun t157 => ((dB (pNe [eV t157, (eO (eQ (eT eI) (eT (eT eI)) (eT eI))) due_here]))).bind fun t160 => if t160 = true then some (Lf.ret false) else (some ((due_here).getD s114.2)).bind fun scene => some (.go (t143.2, scene)) else some (.go (s114.1, s114.2))) (rngI 0 (Int.toNat 8)) (s88.1, s88.2)).bind fun w => w.on (fun s114 => some (.go ())) (fun z => some (Lf.ret z))))) t8 ()).bind fun w => w.on (fun s10 => some true) (fun z => some (z))))
theorem tok_on_lane (a0 : (Int × (List (Int × Int)) × (List Int))) (a1 : Int) : ∀ z, p_on_lane a0 a1 = some z → f_on_lane [(eQ eI (eT (eP eI eI)) (eT eI)) a0, eI a1] = .ok ((eT eI) z) [(eQ eI (eT (eP eI eI)) (eT eI)) a0, eI a1] :=
  fn_t (p0 := [some ((eQ eI (eT (eP eI eI)) (eT eI)) a0), some (eI a1), none, none]) (m := p_on_lane a0 a1) (rv := fun (z : (List Int)) => (eT eI) z) (q := fun (z : (List Int)) => [some ((eQ eI (eT (eP eI eI)) (eT eI)) a0), some (eI a1), none, none]) (outs := fun z => [(eQ eI (eT (eP eI eI)) (eT eI)) a0, eI a1]) (B.cv (b_last (b_ret (x_primT (xa_v (x_filT (ee := eI) (xi_mk (xa_v (x_primT (xa_p (x_var (d := (eQ eI (eT (eP eI eI)) (eT eI)) a0) 0 rfl) (fun _ => (puQ puI (puT (puP puI puI)) (puT puI)) _) (fun x3 => (xa_v (x_c (eI 1)) (fun x4 => xa_nil)))) (fun _ => op_ixQ1 (puT (puP puI puI)) _)) (fun x5 => xa_nil)) rfl (puP puI (puP puI puI)) (fun _ => it_eT _)) rfl (fun x6 x7 => (as_tp (ass_cons as_nm (ass_cons as_nm ass_nil)))) (fun x6 x7 => (xt_tst (x_primT (xa_p (x_var (d := eI a1) 1 rfl) (fun _ => puI _) (fun x10 => (xa_p (x_var (d := (eP eI eI) x7.2) 3 rfl) (fun _ => (puP puI puI) _) (fun x11 => xa_nil)))) (fun _ => op_inP _ _)))) (fun x6 x7 => (x_var (d := eI x7.1) 2 rfl)) (.inr puI) (fun _ _ => by repeat (first | exact wk_nil | apply wk_a | apply wk_s))) (fun x14 => xa_nil)) (fun _ => op_tupL puI _)) (fun x15 => x15.1.2.1) (.inl rfl) (fun x15 => qf_ret rfl (by repeat (first | exact wk_nil | apply wk_a | apply wk_s))))) (by dsimp only [p_on_lane])) rfl (by simp [okM]) (fun z => (coll_0P rfl (coll_0P rfl coll_nilP)))
theorem tok_is_whole (a0 : Int) (a1 : Int) : ∀ z, p_is_whole a0 a1 = some z → f_is_whole [eI a0, eI a1] = .ok (eB z) [eI a0, eI a1] :=
  fn_t (p0 := [some (eI a0), some (eI a1)]) (m := p_is_whole a0 a1) (rv := fun (z : Bool) => eB z) (q := fun (z : Bool) => [some (eI a0), some (eI a1)]) (outs := fun z => [eI a0, eI a1]) (B.cv (b_last (b_ret (x_andT (x_primT (xa_p (x_var (d := eI a0) 0 rfl) (fun _ => puI _) (fun x3 => xa_nil)) (fun _ => op_isiT rfl)) (fun x4 => (x_andT (x_not (x_primT (xa_p (x_var (d := eI a0) 0 rfl) (fun _ => puI _) (fun x5 => xa_nil)) (fun _ => op_isiF rfl))) (fun x6 => (x_primT (xa_p (x_var (d := eI a0) 0 rfl) (fun _ => puI _) (fun x7 => (xa_p (x_var (d := eI a1) 1 rfl) (fun _ => puI _) (fun x8 => xa_nil)))) (fun _ => op_ge' _ _)))))) (fun x9 => (true && ((!false) && (decide (a1 ≤ a0))))) (.inr (fun _ => puB _)) (fun x9 => qf_ret rfl (by repeat (first | exact wk_nil | apply wk_a | apply wk_s))))) (by dsimp only [p_is_whole])) rfl (by simp [okM]) (fun z => (coll_0P rfl (coll_0P rfl coll_nilP)))
theorem tok_begun (a0 : (Int × (List (Int × Int)) × (List Int))) : ∀ z, p_begun a0 = some z → f_begun [(eQ eI (eT (eP eI eI)) (eT eI)) a0] = .ok ((eQ (eT eI) (eT (eT eI)) (eT eI)) z) [(eQ eI (eT (eP eI eI)) (eT eI)) a0] :=
  fn_t (p0 := [some ((eQ eI (eT (eP eI eI)) (eT eI)) a0)]) (m := p_begun a0) (rv := fun (z : ((List Int) × (List (List Int)) × (List Int))) => (eQ (eT eI) (eT (eT eI)) (eT eI)) z) (q := fun (z : ((List Int) × (List (List Int)) × (List Int))) => [some ((eQ eI (eT (eP eI eI)) (eT eI)) a0)]) (outs := fun z => [(eQ eI (eT (eP eI eI)) (eT eI)) a0]) (B.cv (b_last (b_ret (X.as (x_tup (xa_v (x_prim (xa_v (X.as (x_tup (xa_v (x_c (eI 0)) (fun x2 => xa_nil)) rfl (by decide)) (fun x3 => (eT eI) [(0 : Int)]) rfl) (fun x4 => (xa_v (x_primT (xa_v (x_primT (xa_p (x_var (d := (eQ eI (eT (eP eI eI)) (eT eI)) a0) 0 rfl) (fun _ => (puQ puI (puT (puP puI puI)) (puT puI)) _) (fun x5 => (xa_v (x_c (eI 1)) (fun x6 => xa_nil)))) (fun _ => op_ixQ1 (puT (puP puI puI)) _)) (fun x7 => xa_nil)) (fun _ => op_lenT _)) (fun x8 => xa_nil)))) (fun _ _ h => op_repT' puI h)) (fun x10 => (xa_v (X.as (x_tup xa_nil rfl (by decide)) (fun x11 => (eT (eT eI)) ([] : (List (List Int)))) rfl) (fun x12 => (xa_v (x_prim (xa_v (X.as (x_tup (xa_v (x_c (eI 0)) (fun x13 => xa_nil)) rfl (by decide)) (fun x14 => (eT eI) [(0 : Int)]) rfl) (fun x15 => (xa_v (x_primT (xa_p (x_var (d := (eQ eI (eT (eP eI eI)) (eT eI)) a0) 0 rfl) (fun _ => (puQ puI (puT (puP puI puI)) (puT puI)) _) (fun x16 => (xa_v (x_c (eI 0)) (fun x17 => xa_nil)))) (fun _ => op_ixQ0 puI _)) (fun x18 => xa_nil)))) (fun _ _ h => op_repT' puI h)) (fun x20 => xa_nil)))))) rfl (by decide)) (fun x21 => (eQ (eT eI) (eT (eT eI)) (eT eI)) (x21.1.2, ([] : (List (List Int))), x21.2.2.1.2)) rfl) (fun x22 => (x22.1.2, ([] : (List (List Int))), x22.2.2.1.2)) (.inl rfl) (fun x22 => qf_ret rfl (by repeat (first | exact wk_nil | apply wk_a | apply wk_s))))) (by dsimp only [p_begun])) rfl (by simp [okM]) (fun z => (coll_0P rfl coll_nilP))
theorem tok_is_put (a0 : (Int × (List (Int × Int)) × (List Int))) (a1 : PD) : ∀ z, p_is_put a0 a1 = some z → f_is_put [(eQ eI (eT (eP eI eI)) (eT eI)) a0, eV a1] = .ok (eB z) [(eQ eI (eT (eP eI eI)) (eT eI)) a0, eV a1] :=
  fn_t (p0 := [some ((eQ eI (eT (eP eI eI)) (eT eI)) a0), some (eV a1)]) (m := p_is_put a0 a1) (rv := fun (z : Bool) => eB z) (q := fun (z : Bool) => [some ((eQ eI (eT (eP eI eI)) (eT eI)) a0), some (eV a1)]) (outs := fun z => [(eQ eI (eT (eP eI eI)) (eT eI)) a0, eV a1]) (B.cv (b_if (xt_orP (xt_not (xt_tstA (x_callP (xa_v (x_dn eI dnI (x_prim (xa_p (x_var (d := eV a1) 1 rfl) (fun _ => puV _) (fun x3 => (xa_v (x_c (eI 1)) (fun x4 => xa_nil)))) (fun _ _ h => dP_ok h)) (fun x7 => x7.2) (fun _ => rfl)) (fun x8 => (xa_v (x_c (eI 0)) (fun x9 => xa_nil)))) rfl (fun _ _ h => tok_is_whole  _ _ _ h)) (fun _ => tr_B _))) (fun x11 => (xt_orP (xt_tst (x_prim (xa_v (x_prim (xa_p (x_var (d := eV a1) 1 rfl) (fun _ => puV _) (fun x12 => (xa_v (x_c (eI 1)) (fun x13 => xa_nil)))) (fun _ _ h => dP_ok h)) (fun x15 => (xa_v (x_primT (xa_p (x_var (d := (eQ eI (eT (eP eI eI)) (eT eI)) a0) 0 rfl) (fun _ => (puQ puI (puT (puP puI puI)) (puT puI)) _) (fun x16 => (xa_v (x_c (eI 0)) (fun x17 => xa_nil)))) (fun _ => op_ixQ0 puI _)) (fun x18 => xa_nil)))) (fun _ _ h => dB_ok h))) (fun x20 => (xt_not (xt_tstA (x_callP (xa_v (x_dn eI dnI (x_prim (xa_p (x_var (d := eV a1) 1 rfl) (fun _ => puV _) (fun x21 => (xa_v (x_c (eI 2)) (fun x22 => xa_nil)))) (fun _ _ h => dP_ok h)) (fun x25 => x25.2) (fun _ => rfl)) (fun x26 => (xa_v (x_primT (xa_v (x_c (eI 1)) (fun x27 => (xa_v (x_c (eI 1000000000000000000000000000000)) (fun x28 => xa_nil)))) (fun _ => op_sub' _ _)) (fun x29 => xa_nil)))) rfl (fun _ _ h => tok_is_whole  _ _ _ h)) (fun _ => tr_B _))))))) (fun x33 => (b_ret (x_c (eB false)) (fun x34 => false) (.inl rfl) (fun x34 => qf_ret rfl (by repeat (first | exact wk_nil | apply wk_a | apply wk_s))))) (fun x33 => (b_skip (b_last (b_ret (x_andP (x_prim (xa_v (x_prim (xa_p (x_var (d := eV a1) 1 rfl) (fun _ => puV _) (fun x35 => (xa_v (x_c (eI 2)) (fun x36 => xa_nil)))) (fun _ _ h => dP_ok h)) (fun x38 => (xa_v (x_c (eI 0)) (fun x39 => xa_nil)))) (fun _ _ h => dB_ok h)) (fun x41 => (x_prim (xa_v (x_prim (xa_p (x_var (d := eV a1) 1 rfl) (fun _ => puV _) (fun x42 => (xa_v (x_c (eI 2)) (fun x43 => xa_nil)))) (fun _ _ h => dP_ok h)) (fun x45 => (xa_v (x_c (eI 1000000000000000000000000000000)) (fun x46 => xa_nil)))) (fun _ _ h => dB_ok h)))) (fun x49 => x49.2) (.inr (fun _ => puB _)) (fun x49 => qf_ret rfl (by repeat (first | exact wk_nil | apply wk_a | apply wk_s)))))))) (by dsimp only [p_is_put])) rfl (by simp [okM]) (fun z => (coll_0P rfl (coll_0P rfl coll_nilP)))
theorem tok_is_deed (a0 : (Int × (List (Int × Int)) × (List Int))) (a1 : PD) : ∀ z, p_is_deed a0 a1 = some z → f_is_deed [(eQ eI (eT (eP eI eI)) (eT eI)) a0, eV a1] = .ok (eB z) [(eQ eI (eT (eP eI eI)) (eT eI)) a0, eV a1] :=
  fn_t (p0 := [some ((eQ eI (eT (eP eI eI)) (eT eI)) a0), some (eV a1)]) (m := p_is_deed a0 a1) (rv := fun (z : Bool) => eB z) (q := fun (z : Bool) => [some ((eQ eI (eT (eP eI eI)) (eT eI)) a0), some (eV a1)]) (outs := fun z => [(eQ eI (eT (eP eI eI)) (eT eI)) a0, eV a1]) (B.cv (b_if (xt_orP (xt_not (xt_tstA (x_primT (xa_p (x_var (d := eV a1) 1 rfl) (fun _ => puV _) (fun x3 => xa_nil)) (fun _ => op_isiD .tup _)) (fun _ => tr_B _))) (fun x4 => (xt_orP (xt_tst (x_primT (xa_v (x_prim (xa_p (x_var (d := eV a1) 1 rfl) (fun _ => puV _) (fun x5 => xa_nil)) (fun _ _ h => dI_ok h)) (fun x7 => (xa_v (X.as (x_tup (xa_v (x_c (eI 2)) (fun x8 => (xa_v (x_c (eI 3)) (fun x9 => xa_nil)))) rfl (by decide)) (fun x10 => (eP eI eI) ((2 : Int), (3 : Int))) rfl) (fun x11 => xa_nil)))) (fun _ => op_ninP _ _))) (fun x12 => (xt_not (xt_tstA (x_primT (xa_v (x_prim (xa_p (x_var (d := eV a1) 1 rfl) (fun _ => puV _) (fun x13 => (xa_v (x_c (eI 0)) (fun x14 => xa_nil)))) (fun _ _ h => dP_ok h)) (fun x16 => xa_nil)) (fun _ => op_isiD .str _)) (fun _ => tr_B _))))))) (fun x19 => (b_ret (x_c (eB false)) (fun x20 => false) (.inl rfl) (fun x20 => qf_ret rfl (by repeat (first | exact wk_nil | apply wk_a | apply wk_s))))) (fun x19 => (b_skip (b_if (xt_tst (x_primT (xa_v (x_prim (xa_p (x_var (d := eV a1) 1 rfl) (fun _ => puV _) (fun x21 => xa_nil)) (fun _ _ h => dI_ok h)) (fun x23 => (xa_v (x_c (eI 2)) (fun x24 => xa_nil)))) (fun _ => op_eq eqI (by decide) _ _))) (fun x25 => (b_ret (x_andP (x_prim (xa_v (x_prim (xa_p (x_var (d := eV a1) 1 rfl) (fun _ => puV _) (fun x26 => (xa_v (x_c (eI 0)) (fun x27 => xa_nil)))) (fun _ _ h => dP_ok h)) (fun x29 => (xa_v (x_c (eS "step")) (fun x30 => xa_nil)))) (fun _ _ h => dB_ok h)) (fun x32 => (x_callP (xa_v (x_dn eI dnI (x_prim (xa_p (x_var (d := eV a1) 1 rfl) (fun _ => puV _) (fun x33 => (xa_v (x_c (eI 1)) (fun x34 => xa_nil)))) (fun _ _ h => dP_ok h)) (fun x37 => x37.2) (fun _ => rfl)) (fun x38 => (xa_v (x_c (eI 0)) (fun x39 => xa_nil)))) rfl (fun _ _ h => tok_is_whole  _ _ _ h)))) (fun x42 => x42.2) (.inr (fun _ => puB _)) (fun x42 => qf_ret rfl (by repeat (first | exact wk_nil | apply wk_a | apply wk_s))))) (fun x25 => (b_skip (b_if (xt_tst (x_prim (xa_v (x_prim (xa_p (x_var (d := eV a1) 1 rfl) (fun _ => puV _) (fun x43 => (xa_v (x_c (eI 0)) (fun x44 => xa_nil)))) (fun _ _ h => dP_ok h)) (fun x46 => (xa_v (x_c (eS "put")) (fun x47 => xa_nil)))) (fun _ _ h => dB_ok h))) (fun x49 => (b_ret (x_callP (xa_p (x_var (d := (eQ eI (eT (eP eI eI)) (eT eI)) a0) 0 rfl) (fun _ => (puQ puI (puT (puP puI puI)) (puT puI)) _) (fun x50 => (xa_p (x_var (d := eV a1) 1 rfl) (fun _ => puV _) (fun x51 => xa_nil)))) rfl (fun _ _ h => tok_is_put  _ _ _ h)) (fun x53 => x53.2) (.inl rfl) (fun x53 => qf_ret rfl (by repeat (first | exact wk_nil | apply wk_a | apply wk_s))))) (fun x49 => (b_skip (b_last (b_ret (x_andP (x_prim (xa_v (x_prim (xa_p (x_var (d := eV a1) 1 rfl) (fun _ => puV _) (fun x54 => (xa_v (x_c (eI 0)) (fun x55 => xa_nil)))) (fun _ _ h => dP_ok h)) (fun x57 => (xa_v (x_c (eS "join")) (fun x58 => xa_nil)))) (fun _ _ h => dB_ok h)) (fun x60 => (x_andP (x_callP (xa_v (x_dn eI dnI (x_prim (xa_p (x_var (d := eV a1) 1 rfl) (fun _ => puV _) (fun x61 => (xa_v (x_c (eI 1)) (fun x62 => xa_nil)))) (fun _ _ h => dP_ok h)) (fun x65 => x65.2) (fun _ => rfl)) (fun x66 => (xa_v (x_c (eI 0)) (fun x67 => xa_nil)))) rfl (fun _ _ h => tok_is_whole  _ _ _ h)) (fun x69 => (x_andP (x_callP (xa_v (x_dn eI dnI (x_prim (xa_p (x_var (d := eV a1) 1 rfl) (fun _ => puV _) (fun x70 => (xa_v (x_c (eI 2)) (fun x71 => xa_nil)))) (fun _ _ h => dP_ok h)) (fun x74 => x74.2) (fun _ => rfl)) (fun x75 => (xa_v (x_c (eI 0)) (fun x76 => xa_nil)))) rfl (fun _ _ h => tok_is_whole  _ _ _ h)) (fun x78 => (x_prim (xa_v (x_prim (xa_p (x_var (d := eV a1) 1 rfl) (fun _ => puV _) (fun x79 => (xa_v (x_c (eI 1)) (fun x80 => xa_nil)))) (fun _ _ h => dP_ok h)) (fun x82 => (xa_v (x_prim (xa_p (x_var (d := eV a1) 1 rfl) (fun _ => puV _) (fun x83 => (xa_v (x_c (eI 2)) (fun x84 => xa_nil)))) (fun _ _ h => dP_ok h)) (fun x86 => xa_nil)))) (fun _ _ h => dB_ok h)))))))) (fun x91 => x91.2) (.inr (fun _ => puB _)) (fun x91 => qf_ret rfl (by repeat (first | exact wk_nil | apply wk_a | apply wk_s)))))))))))))) (by dsimp only [p_is_deed])) rfl (by simp [okM]) (fun z => (coll_0P rfl (coll_0P rfl coll_nilP)))
theorem tok_fork_behind (a0 : (Int × (List (Int × Int)) × (List Int))) (a1 : Int) (a2 : Int) : ∀ z, p_fork_behind a0 a1 a2 = some z → f_fork_behind [(eQ eI (eT (eP eI eI)) (eT eI)) a0, eI a1, eI a2] = .ok (eI z) [(eQ eI (eT (eP eI eI)) (eT eI)) a0, eI a1, eI a2] :=
  fn_t (p0 := [some ((eQ eI (eT (eP eI eI)) (eT eI)) a0), some (eI a1), some (eI a2), none]) (m := p_fork_behind a0 a1 a2) (rv := fun (z : Int) => eI z) (q := fun (z : Int) => [some ((eQ eI (eT (eP eI eI)) (eT eI)) a0), some (eI a1), some (eI a2), none]) (outs := fun z => [(eQ eI (eT (eP eI eI)) (eT eI)) a0, eI a1, eI a2]) (B.cv (b_forR (xi_mk (xa_v (x_callP (xa_p (x_var (d := (eQ eI (eT (eP eI eI)) (eT eI)) a0) 0 rfl) (fun _ => (puQ puI (puT (puP puI puI)) (puT puI)) _) (fun x4 => (xa_p (x_var (d := eI a1) 1 rfl) (fun _ => puI _) (fun x5 => xa_nil)))) rfl (fun _ _ h => tok_on_lane  _ _ _ h)) (fun x7 => xa_nil)) rfl puI (fun _ => it_T _)) (fun x8 (x9 : Unit) => [some ((eQ eI (eT (eP eI eI)) (eT eI)) a0), some (eI a1), some (eI a2), none]) (fun x8 => ()) (fun (z : Int) => eI z) (fun x8 x21 => [some ((eQ eI (eT (eP eI eI)) (eT eI)) a0), some (eI a1), some (eI a2), none]) (fun z => z) (fun _ => rfl) (fun x8 => by repeat (first | exact wk_nil | apply wk_a | apply wk_s)) (fun x8 x9 x10 => as_nm) (fun x8 x9 x10 => (b_last (b_if (xt_tst (x_primT (xa_p (x_var (d := eI x10) 3 rfl) (fun _ => puI _) (fun x13 => (xa_p (x_var (d := eI a2) 2 rfl) (fun _ => puI _) (fun x14 => xa_nil)))) (fun _ => op_gt' _ _))) (fun x15 => (b_ret (x_var (d := eI x10) 3 rfl) (fun x16 => (Lf.ret x10)) (.inr (fun _ => puI _)) (fun x16 => ql_ret rfl (by repeat (first | exact wk_nil | apply wk_a | apply wk_s))))) (fun x15 => (b_skip (b_endL (z := ()) (by repeat (first | exact wk_nil | apply wk_a | apply wk_s)))))))) (fun x8 x21 => qf_ret rfl (by repeat (first | exact wk_nil | apply wk_a | apply wk_s))) (fun x8 x9 => (b_last (b_ret (x_primT (xa_v (x_primT (xa_p (x_var (d := (eQ eI (eT (eP eI eI)) (eT eI)) a0) 0 rfl) (fun _ => (puQ puI (puT (puP puI puI)) (puT puI)) _) (fun x17 => (xa_v (x_c (eI 1)) (fun x18 => xa_nil)))) (fun _ => op_ixQ1 (puT (puP puI puI)) _)) (fun x19 => xa_nil)) (fun _ => op_lenT _)) (fun x20 => (a0.2.1.length : Int)) (.inl rfl) (fun x20 => qf_ret rfl (by repeat (first | exact wk_nil | apply wk_a | apply wk_s))))))) (by dsimp only [p_fork_behind])) rfl (by simp [okM]) (fun z => (coll_0P rfl (coll_0P rfl (coll_0P rfl coll_nilP))))
theorem tok_group_of (a0 : (Int × (List (Int × Int)) × (List Int))) (a1 : Int) (a2 : Int) (a3 : Int) : ∀ z, p_group_of a0 a1 a2 a3 = some z → f_group_of [(eQ eI (eT (eP eI eI)) (eT eI)) a0, eI a1, eI a2, eI a3] = .ok ((eL (eT eI)) z) [(eQ eI (eT (eP eI eI)) (eT eI)) a0, eI a1, eI a2, eI a3] :=
  fn_t (p0 := [some ((eQ eI (eT (eP eI eI)) (eT eI)) a0), some (eI a1), some (eI a2), some (eI a3)]) (m := p_group_of a0 a1 a2 a3) (rv := fun (z : (List (List Int))) => (eL (eT eI)) z) (q := fun (z : (List (List Int))) => [some ((eQ eI (eT (eP eI eI)) (eT eI)) a0), some (eI a1), some (eI a2), some (eI a3)]) (outs := fun z => [(eQ eI (eT (eP eI eI)) (eT eI)) a0, eI a1, eI a2, eI a3]) (B.cv (b_if (xt_tst (x_primT (xa_p (x_var (d := eI a1) 1 rfl) (fun _ => puI _) (fun x5 => (xa_v (x_c (eI 0)) (fun x6 => xa_nil)))) (fun _ => op_eq eqI (by decide) _ _))) (fun x7 => (b_ret (X.as (x_lst xa_nil rfl (by decide)) (fun x8 => (eL (eT eI)) ([] : (List (List Int)))) rfl) (fun x9 => ([] : (List (List Int)))) (.inl rfl) (fun x9 => qf_ret rfl (by repeat (first | exact wk_nil | apply wk_a | apply wk_s))))) (fun x7 => (b_skip (b_last (b_ret (X.as (x_lst (xa_v (X.as (x_tup (xa_p (x_var (d := eI a1) 1 rfl) (fun _ => puI _) (fun x10 => (xa_p (x_var (d := eI a2) 2 rfl) (fun _ => puI _) (fun x11 => (xa_v (x_callP (xa_p (x_var (d := (eQ eI (eT (eP eI eI)) (eT eI)) a0) 0 rfl) (fun _ => (puQ puI (puT (puP puI puI)) (puT puI)) _) (fun x12 => (xa_p (x_var (d := eI a2) 2 rfl) (fun _ => puI _) (fun x13 => (xa_p (x_var (d := eI a3) 3 rfl) (fun _ => puI _) (fun x14 => xa_nil)))))) rfl (fun _ _ h => tok_fork_behind  _ _ _ _ h)) (fun x16 => xa_nil)))))) rfl (by decide)) (fun x17 => (eT eI) [a1, a2, x17.2.2.1.2]) rfl) (fun x18 => xa_nil)) rfl (by decide)) (fun x19 => (eL (eT eI)) [[a1, a2, x19.1.2.2.1.2]]) rfl) (fun x20 => [[a1, a2, x20.1.2.2.1.2]]) (.inl rfl) (fun x20 => qf_ret rfl (by repeat (first | exact wk_nil | apply wk_a | apply wk_s)))))))) (by dsimp only [p_group_of])) rfl (by simp [okM]) (fun z => (coll_0P rfl (coll_0P rfl (coll_0P rfl (coll_0P rfl coll_nilP)))))
theorem tok_come_out (a0 : (Int × (List (Int × Int)) × (List Int))) (a1 : ((List Int) × (List (List Int)) × (List Int))) (a2 : Int) : ∀ z, p_come_out a0 a1 a2 = some z → f_come_out [(eQ eI (eT (eP eI eI)) (eT eI)) a0, (eQ (eT eI) (eT (eT eI)) (eT eI)) a1, eI a2] = .ok ((eQ (eT eI) (eT (eT eI)) (eT eI)) z) [(eQ eI (eT (eP eI eI)) (eT eI)) a0, (eQ (eT eI) (eT (eT eI)) (eT eI)) a1, eI a2] :=
  fn_t (p0 := [some ((eQ eI (eT (eP eI eI)) (eT eI)) a0), some ((eQ (eT eI) (eT (eT eI)) (eT eI)) a1), some (eI a2), none, none, none, none, none, none, none]) (m := p_come_out a0 a1 a2) (rv := fun (z : ((List Int) × (List (List Int)) × (List Int))) => (eQ (eT eI) (eT (eT eI)) (eT eI)) z) (q := fun (z : ((List Int) × (List (List Int)) × (List Int))) => [some ((eQ eI (eT (eP eI eI)) (eT eI)) a0), some ((eQ (eT eI) (eT (eT eI)) (eT eI)) a1), some (eI a2), none, none, none, none, none, none, none]) (outs := fun z => [(eQ eI (eT (eP eI eI)) (eT eI)) a0, (eQ (eT eI) (eT (eT eI)) (eT eI)) a1, eI a2]) (B.cv (b_asg (x_var (d := (eQ (eT eI) (eT (eT eI)) (eT eI)) a1) 1 rfl) (.inr (fun _ => (puQ (puT puI) (puT (puT puI)) (puT puI)) _)) (fun _ => (as_tp (ass_cons as_nm (ass_cons as_nm (ass_cons as_nm ass_nil))))) (fun x4 => (b_asg (x_unT3 (e := eI) (x_prim (xa_p (x_var (d := (eT (eT eI)) a1.2.1) 4 rfl) (fun _ => (puT (puT puI)) _) (fun x5 => (xa_p (x_var (d := eI a2) 2 rfl) (fun _ => puI _) (fun x6 => xa_nil)))) (fun _ _ h => op_ixT (puT puI) h))) (.inl rfl) (fun _ => (as_tp (ass_cons as_nm (ass_cons as_nm (ass_cons as_nm ass_nil))))) (fun x9 => (b_set (x_idx (x_primT (xa_p (x_var (d := (eQ eI (eT (eP eI eI)) (eT eI)) a0) 0 rfl) (fun _ => (puQ puI (puT (puP puI puI)) (puT puI)) _) (fun x10 => (xa_v (x_c (eI 2)) (fun x11 => xa_nil)))) (fun _ => op_ixQ2 (puT puI) _)) (fun _ => rfl) (fun x12 => (x_var (d := eI x9.2.2.1) 7 rfl)) (fun _ _ _ h => op_idx h)) (.inl rfl) (fun x14 => (b_last (b_ret (X.as (x_tup (xa_p (x_var (d := (eT eI) a1.1) 3 rfl) (fun _ => (puT puI) _) (fun x15 => (xa_v (x_prim (xa_v (x_sl (x_var (d := (eT (eT eI)) a1.2.1) 4 rfl) (fun x16 => xpr_none) (fun x16 x17 => (xpr_some (x_var (d := eI a2) 2 rfl))) (fun _ _ _ => op_slT (puT puI) _ _ _)) (fun x19 => (xa_v (x_sl (x_var (d := (eT (eT eI)) a1.2.1) 4 rfl) (fun x22 => (xpr_some (x_primT (xa_p (x_var (d := eI a2) 2 rfl) (fun _ => puI _) (fun x25 => (xa_v (x_c (eI 1)) (fun x26 => xa_nil)))) (fun _ => op_add _ _)))) (fun x22 x23 => xpr_none) (fun _ _ _ => op_slT (puT puI) _ _ _)) (fun x27 => xa_nil)))) (fun _ _ h => op_catT (puT puI) h)) (fun x29 => (xa_v (x_prim (xa_v (x_prim (xa_v (x_sl (x_var (d := (eT eI) a1.2.2) 5 rfl) (fun x30 => xpr_none) (fun x30 x31 => (xpr_some (x_var (d := eI x14.2.2) 9 rfl))) (fun _ _ _ => op_slT puI _ _ _)) (fun x33 => (xa_v (X.as (x_tup (xa_v (x_primT (xa_v (x_prim (xa_p (x_var (d := (eT eI) a1.2.2) 5 rfl) (fun _ => (puT puI) _) (fun x34 => (xa_p (x_var (d := eI x14.2.2) 9 rfl) (fun _ => puI _) (fun x35 => xa_nil)))) (fun _ _ h => op_ixT puI h)) (fun x37 => (xa_p (x_var (d := eI x9.2.1) 6 rfl) (fun _ => puI _) (fun x38 => xa_nil)))) (fun _ => op_add _ _)) (fun x39 => xa_nil)) rfl (by decide)) (fun x40 => (eT eI) [(x40.1.1.2 + x9.2.1)]) rfl) (fun x41 => xa_nil)))) (fun _ _ h => op_catT puI h)) (fun x43 => (xa_v (x_sl (x_var (d := (eT eI) a1.2.2) 5 rfl) (fun x46 => (xpr_some (x_primT (xa_p (x_var (d := eI x14.2.2) 9 rfl) (fun _ => puI _) (fun x49 => (xa_v (x_c (eI 1)) (fun x50 => xa_nil)))) (fun _ => op_add _ _)))) (fun x46 x47 => xpr_none) (fun _ _ _ => op_slT puI _ _ _)) (fun x51 => xa_nil)))) (fun _ _ h => op_catT puI h)) (fun x53 => xa_nil)))))) rfl (by decide)) (fun x54 => (eQ (eT eI) (eT (eT eI)) (eT eI)) (a1.1, x54.2.1.2, x54.2.2.1.2)) rfl) (fun x55 => (a1.1, x55.2.1.2, x55.2.2.1.2)) (.inl rfl) (fun x55 => qf_ret rfl (by repeat (first | exact wk_nil | apply wk_a | apply wk_s))))))))))) (by dsimp only [p_come_out])) rfl (by simp [okM]) (fun z => (coll_0P rfl (coll_0P rfl (coll_0P rfl coll_nilP))))
theorem tok_step_on (a0 : (Int × (List (Int × Int)) × (List Int))) (a1 : ((List Int) × (List (List Int)) × (List Int))) (a2 : Int) : ∀ z, p_step_on a0 a1 a2 = some z → f_step_on [(eQ eI (eT (eP eI eI)) (eT eI)) a0, (eQ (eT eI) (eT (eT eI)) (eT eI)) a1, eI a2] = .ok ((eQ (eT eI) (eT (eT eI)) (eT eI)) z) [(eQ eI (eT (eP eI eI)) (eT eI)) a0, (eQ (eT eI) (eT (eT eI)) (eT eI)) a1, eI a2] :=
  fn_t (p0 := [some ((eQ eI (eT (eP eI eI)) (eT eI)) a0), some ((eQ (eT eI) (eT (eT eI)) (eT eI)) a1), some (eI a2), none, none, none, none, none, none, none, none, none, none, none, none]) (m := p_step_on a0 a1 a2) (rv := fun (z : ((List Int) × (List (List Int)) × (List Int))) => (eQ (eT eI) (eT (eT eI)) (eT eI)) z) (q := fun (z : ((List Int) × (List (List Int)) × (List Int))) => [some ((eQ eI (eT (eP eI eI)) (eT eI)) a0), some ((eQ (eT eI) (eT (eT eI)) (eT eI)) a1), some (eI a2), none, none, none, none, none, none, none, none, none, none, none, none]) (outs := fun z => [(eQ eI (eT (eP eI eI)) (eT eI)) a0, (eQ (eT eI) (eT (eT eI)) (eT eI)) a1, eI a2]) (B.cv (b_asg (x_var (d := (eQ (eT eI) (eT (eT eI)) (eT eI)) a1) 1 rfl) (.inr (fun _ => (puQ (puT puI) (puT (puT puI)) (puT puI)) _)) (fun _ => (as_tp (ass_cons as_nm (ass_cons as_nm (ass_cons as_nm ass_nil))))) (fun x4 => (b_asg (x_unT3 (e := eI) (x_prim (xa_p (x_var (d := (eT (eT eI)) a1.2.1) 4 rfl) (fun _ => (puT (puT puI)) _) (fun x5 => (xa_p (x_var (d := eI a2) 2 rfl) (fun _ => puI _) (fun x6 => xa_nil)))) (fun _ _ h => op_ixT (puT puI) h))) (.inl rfl) (fun _ => (as_tp (ass_cons as_nm (ass_cons as_nm (ass_cons as_nm ass_nil))))) (fun x9 => (b_if (xt_tst (x_primT (xa_p (x_var (d := eI x9.2.2.2) 8 rfl) (fun _ => puI _) (fun x10 => (xa_v (x_primT (xa_v (x_primT (xa_p (x_var (d := (eQ eI (eT (eP eI eI)) (eT eI)) a0) 0 rfl) (fun _ => (puQ puI (puT (puP puI puI)) (puT puI)) _) (fun x11 => (xa_v (x_c (eI 1)) (fun x12 => xa_nil)))) (fun _ => op_ixQ1 (puT (puP puI puI)) _)) (fun x13 => xa_nil)) (fun _ => op_lenT _)) (fun x14 => xa_nil)))) (fun _ => op_eq eqI (by decide) _ _))) (fun x15 => (b_ret (x_callP (xa_p (x_var (d := (eQ eI (eT (eP eI eI)) (eT eI)) a0) 0 rfl) (fun _ => (puQ puI (puT (puP puI puI)) (puT puI)) _) (fun x16 => (xa_p (x_var (d := (eQ (eT eI) (eT (eT eI)) (eT eI)) a1) 1 rfl) (fun _ => (puQ (puT puI) (puT (puT puI)) (puT puI)) _) (fun x17 => (xa_p (x_var (d := eI a2) 2 rfl) (fun _ => puI _) (fun x18 => xa_nil)))))) rfl (fun _ _ h => tok_come_out  _ _ _ _ h)) (fun x20 => x20.2) (.inl rfl) (fun x20 => qf_ret rfl (by repeat (first | exact wk_nil | apply wk_a | apply wk_s))))) (fun x15 => (b_skip (b_asg (x_prim (xa_v (x_primT (xa_p (x_var (d := (eQ eI (eT (eP eI eI)) (eT eI)) a0) 0 rfl) (fun _ => (puQ puI (puT (puP puI puI)) (puT puI)) _) (fun x21 => (xa_v (x_c (eI 1)) (fun x22 => xa_nil)))) (fun _ => op_ixQ1 (puT (puP puI puI)) _)) (fun x23 => (xa_p (x_var (d := eI x9.2.2.2) 8 rfl) (fun _ => puI _) (fun x24 => xa_nil)))) (fun _ _ h => op_ixT (puP puI puI) h)) (.inl rfl) (fun _ => (as_tp (ass_cons as_nm (ass_cons as_nm ass_nil)))) (fun x26 => (b_set (x_prim (xa_p (x_var (d := (eT eI) a1.1) 3 rfl) (fun _ => (puT puI) _) (fun x27 => (xa_p (x_var (d := eI x9.2.2.2) 8 rfl) (fun _ => puI _) (fun x28 => xa_nil)))) (fun _ _ h => op_ixT puI h)) (.inl rfl) (fun x30 => (b_setL eI (x_primT (xa_v (x_primT (xa_v (x_primT (xa_v (x_primT (xa_p (x_var (d := eI x30.2) 11 rfl) (fun _ => puI _) (fun x31 => (xa_p (x_var (d := eI x9.2.1) 6 rfl) (fun _ => puI _) (fun x32 => xa_nil)))) (fun _ => op_add _ _)) (fun x33 => (xa_v (x_c (eI 1)) (fun x34 => xa_nil)))) (fun _ => op_add _ _)) (fun x35 => (xa_v (x_c (eI 2)) (fun x36 => xa_nil)))) (fun _ => op_divC (by decide +kernel))) (fun x37 => (xa_p (x_var (d := eI x30.2) 11 rfl) (fun _ => puI _) (fun x38 => xa_nil)))) (fun _ => op_sub' _ _)) (.inl rfl) (fun x39 x40 => (b_set (x_prim (xa_v (x_callP (xa_p (x_var (d := (eQ eI (eT (eP eI eI)) (eT eI)) a0) 0 rfl) (fun _ => (puQ puI (puT (puP puI puI)) (puT puI)) _) (fun x42 => (xa_p (x_var (d := eI x40) 12 rfl) (fun _ => puI _) (fun x43 => (xa_p (x_var (d := eI x26.2.1) 9 rfl) (fun _ => puI _) (fun x44 => (xa_p (x_var (d := eI x9.2.2.2) 8 rfl) (fun _ => puI _) (fun x45 => xa_nil)))))))) rfl (fun _ _ h => tok_group_of  _ _ _ _ _ h)) (fun x47 => (xa_v (x_callP (xa_p (x_var (d := (eQ eI (eT (eP eI eI)) (eT eI)) a0) 0 rfl) (fun _ => (puQ puI (puT (puP puI puI)) (puT puI)) _) (fun x48 => (xa_v (x_primT (xa_p (x_var (d := eI x9.2.1) 6 rfl) (fun _ => puI _) (fun x49 => (xa_p (x_var (d := eI x40) 12 rfl) (fun _ => puI _) (fun x50 => xa_nil)))) (fun _ => op_sub' _ _)) (fun x51 => (xa_p (x_var (d := eI x26.2.2) 10 rfl) (fun _ => puI _) (fun x52 => (xa_p (x_var (d := eI x9.2.2.2) 8 rfl) (fun _ => puI _) (fun x53 => xa_nil)))))))) rfl (fun _ _ h => tok_group_of  _ _ _ _ _ h)) (fun x55 => xa_nil)))) (fun _ _ h => op_catL (puT puI) h)) (.inl rfl) (fun x57 => (b_set (x_prim (xa_v (x_prim (xa_v (x_sl (x_var (d := (eT eI) a1.1) 3 rfl) (fun x58 => xpr_none) (fun x58 x59 => (xpr_some (x_var (d := eI x9.2.2.2) 8 rfl))) (fun _ _ _ => op_slT puI _ _ _)) (fun x61 => (xa_v (X.as (x_tup (xa_v (x_primT (xa_v (x_primT (xa_p (x_var (d := eI x30.2) 11 rfl) (fun _ => puI _) (fun x62 => (xa_p (x_var (d := eI x9.2.1) 6 rfl) (fun _ => puI _) (fun x63 => xa_nil)))) (fun _ => op_add _ _)) (fun x64 => (xa_v (x_c (eI 2)) (fun x65 => xa_nil)))) (fun _ => op_modC (by decide +kernel))) (fun x66 => xa_nil)) rfl (by decide)) (fun x67 => (eT eI) [((x30.2 + x9.2.1) % (2 : Int))]) rfl) (fun x68 => xa_nil)))) (fun _ _ h => op_catT puI h)) (fun x70 => (xa_v (x_sl (x_var (d := (eT eI) a1.1) 3 rfl) (fun x73 => (xpr_some (x_primT (xa_p (x_var (d := eI x9.2.2.2) 8 rfl) (fun _ => puI _) (fun x76 => (xa_v (x_c (eI 1)) (fun x77 => xa_nil)))) (fun _ => op_add _ _)))) (fun x73 x74 => xpr_none) (fun _ _ _ => op_slT puI _ _ _)) (fun x78 => xa_nil)))) (fun _ _ h => op_catT puI h)) (.inl rfl) (fun x80 => (b_last (b_ret (X.as (x_tup (xa_p (x_var (d := (eT eI) x80.2) 14 rfl) (fun _ => (puT puI) _) (fun x81 => (xa_v (x_prim (xa_v (x_prim (xa_v (x_sl (x_var (d := (eT (eT eI)) a1.2.1) 4 rfl) (fun x82 => xpr_none) (fun x82 x83 => (xpr_some (x_var (d := eI a2) 2 rfl))) (fun _ _ _ => op_slT (puT puI) _ _ _)) (fun x85 => (xa_v (x_primT (xa_s 13 rfl xa_nil (fun _ => rfl) (fun _ => puL)) (fun _ => op_tupL (puT puI) _)) (fun x86 => xa_nil)))) (fun _ _ h => op_catT (puT puI) h)) (fun x88 => (xa_v (x_sl (x_var (d := (eT (eT eI)) a1.2.1) 4 rfl) (fun x91 => (xpr_some (x_primT (xa_p (x_var (d := eI a2) 2 rfl) (fun _ => puI _) (fun x94 => (xa_v (x_c (eI 1)) (fun x95 => xa_nil)))) (fun _ => op_add _ _)))) (fun x91 x92 => xpr_none) (fun _ _ _ => op_slT (puT puI) _ _ _)) (fun x96 => xa_nil)))) (fun _ _ h => op_catT (puT puI) h)) (fun x98 => (xa_p (x_var (d := (eT eI) a1.2.2) 5 rfl) (fun _ => (puT puI) _) (fun x99 => xa_nil)))))) rfl (by decide)) (fun x100 => (eQ (eT eI) (eT (eT eI)) (eT eI)) (x80.2, x100.2.1.2, a1.2.2)) rfl) (fun x101 => (x80.2, x101.2.1.2, a1.2.2)) (.inl rfl) (fun x101 => qf_ret rfl (by repeat (first | exact wk_nil | apply wk_a | apply wk_s)))))))))))))))))))))) (by dsimp only [p_step_on])) rfl (by simp [okM]) (fun z => (coll_0P rfl (coll_0P rfl (coll_0P rfl coll_nilP))))
theorem tok_joined_groups (a0 : ((List Int) × (List (List Int)) × (List Int))) (a1 : Int) (a2 : Int) : ∀ z, p_joined_groups a0 a1 a2 = some z → f_joined_groups [(eQ (eT eI) (eT (eT eI)) (eT eI)) a0, eI a1, eI a2] = .ok ((eQ (eT eI) (eT (eT eI)) (eT eI)) z) [(eQ (eT eI) (eT (eT eI)) (eT eI)) a0, eI a1, eI a2] :=
  fn_t (p0 := [some ((eQ (eT eI) (eT (eT eI)) (eT eI)) a0), some (eI a1), some (eI a2), none, none, none, none, none]) (m := p_joined_groups a0 a1 a2) (rv := fun (z : ((List Int) × (List (List Int)) × (List Int))) => (eQ (eT eI) (eT (eT eI)) (eT eI)) z) (q := fun (z : ((List Int) × (List (List Int)) × (List Int))) => [some ((eQ (eT eI) (eT (eT eI)) (eT eI)) a0), some (eI a1), some (eI a2), none, none, none, none, none]) (outs := fun z => [(eQ (eT eI) (eT (eT eI)) (eT eI)) a0, eI a1, eI a2]) (B.cv (b_asg (x_var (d := (eQ (eT eI) (eT (eT eI)) (eT eI)) a0) 0 rfl) (.inr (fun _ => (puQ (puT puI) (puT (puT puI)) (puT puI)) _)) (fun _ => (as_tp (ass_cons as_nm (ass_cons as_nm (ass_cons as_nm ass_nil))))) (fun x4 => (b_setL eI (x_primT (xa_v (x_prim (xa_v (x_prim (xa_p (x_var (d := (eT (eT eI)) a0.2.1) 4 rfl) (fun _ => (puT (puT puI)) _) (fun x5 => (xa_p (x_var (d := eI a1) 1 rfl) (fun _ => puI _) (fun x6 => xa_nil)))) (fun _ _ h => op_ixT (puT puI) h)) (fun x8 => (xa_v (x_c (eI 0)) (fun x9 => xa_nil)))) (fun _ _ h => op_ixT puI h)) (fun x11 => (xa_v (x_prim (xa_v (x_prim (xa_p (x_var (d := (eT (eT eI)) a0.2.1) 4 rfl) (fun _ => (puT (puT puI)) _) (fun x12 => (xa_p (x_var (d := eI a2) 2 rfl) (fun _ => puI _) (fun x13 => xa_nil)))) (fun _ _ h => op_ixT (puT puI) h)) (fun x15 => (xa_v (x_c (eI 0)) (fun x16 => xa_nil)))) (fun _ _ h => op_ixT puI h)) (fun x18 => xa_nil)))) (fun _ => op_add _ _)) (.inl rfl) (fun x19 x20 => (b_set (x_prim (xa_v (X.as (x_tup (xa_v (x_prim (xa_v (X.as (x_tup (xa_p (x_var (d := eI x20) 6 rfl) (fun _ => puI _) (fun x22 => xa_nil)) rfl (by decide)) (fun x23 => (eT eI) [x20]) rfl) (fun x24 => (xa_v (x_sl (x_prim (xa_p (x_var (d := (eT (eT eI)) a0.2.1) 4 rfl) (fun _ => (puT (puT puI)) _) (fun x25 => (xa_p (x_var (d := eI a1) 1 rfl) (fun _ => puI _) (fun x26 => xa_nil)))) (fun _ _ h => op_ixT (puT puI) h)) (fun x28 => (xpr_some (x_c (eI 1)))) (fun x28 x29 => xpr_none) (fun _ _ _ => op_slT puI _ _ _)) (fun x31 => xa_nil)))) (fun _ _ h => op_catT puI h)) (fun x33 => xa_nil)) rfl (by decide)) (fun x34 => (eT (eT eI)) [x34.1.2]) rfl) (fun x35 => (xa_v (x_primT (xa_v (x_primT (xa_p (x_var (d := eI x20) 6 rfl) (fun _ => puI _) (fun x36 => (xa_v (x_c (eI 0)) (fun x37 => xa_nil)))) (fun _ => op_ne eqI (by decide) _ _)) (fun x38 => xa_nil)) (fun _ => op_intB _)) (fun x39 => xa_nil)))) (fun _ _ h => op_repT' (puT puI) h)) (.inl rfl) (fun x41 => (b_last (b_ret (X.as (x_tup (xa_p (x_var (d := (eT eI) a0.1) 3 rfl) (fun _ => (puT puI) _) (fun x42 => (xa_v (x_prim (xa_v (x_prim (xa_v (x_prim (xa_v (x_sl (x_var (d := (eT (eT eI)) a0.2.1) 4 rfl) (fun x43 => xpr_none) (fun x43 x44 => (xpr_some (x_var (d := eI a1) 1 rfl))) (fun _ _ _ => op_slT (puT puI) _ _ _)) (fun x46 => (xa_p (x_var (d := (eT (eT eI)) x41.2) 7 rfl) (fun _ => (puT (puT puI)) _) (fun x47 => xa_nil)))) (fun _ _ h => op_catT (puT puI) h)) (fun x49 => (xa_v (x_sl (x_var (d := (eT (eT eI)) a0.2.1) 4 rfl) (fun x50 => (xpr_some (x_primT (xa_p (x_var (d := eI a1) 1 rfl) (fun _ => puI _) (fun x53 => (xa_v (x_c (eI 1)) (fun x54 => xa_nil)))) (fun _ => op_add _ _)))) (fun x50 x51 => (xpr_some (x_var (d := eI a2) 2 rfl))) (fun _ _ _ => op_slT (puT puI) _ _ _)) (fun x55 => xa_nil)))) (fun _ _ h => op_catT (puT puI) h)) (fun x57 => (xa_v (x_sl (x_var (d := (eT (eT eI)) a0.2.1) 4 rfl) (fun x60 => (xpr_some (x_primT (xa_p (x_var (d := eI a2) 2 rfl) (fun _ => puI _) (fun x63 => (xa_v (x_c (eI 1)) (fun x64 => xa_nil)))) (fun _ => op_add _ _)))) (fun x60 x61 => xpr_none) (fun _ _ _ => op_slT (puT puI) _ _ _)) (fun x65 => xa_nil)))) (fun _ _ h => op_catT (puT puI) h)) (fun x67 => (xa_p (x_var (d := (eT eI) a0.2.2) 5 rfl) (fun _ => (puT puI) _) (fun x68 => xa_nil)))))) rfl (by decide)) (fun x69 => (eQ (eT eI) (eT (eT eI)) (eT eI)) (a0.1, x69.2.1.2, a0.2.2)) rfl) (fun x70 => (a0.1, x70.2.1.2, a0.2.2)) (.inl rfl) (fun x70 => qf_ret rfl (by repeat (first | exact wk_nil | apply wk_a | apply wk_s))))))))))) (by dsimp only [p_joined_groups])) rfl (by simp [okM]) (fun z => (coll_0P rfl (coll_0P rfl (coll_0P rfl coll_nilP))))
theorem tok_done_at (a0 : (Int × (List (Int × Int)) × (List Int))) (a1 : ((List Int) × (List (List Int)) × (List Int))) (a2 : PD) (a3 : Int) : ∀ z, p_done_at a0 a1 a2 a3 = some z → f_done_at [(eQ eI (eT (eP eI eI)) (eT eI)) a0, (eQ (eT eI) (eT (eT eI)) (eT eI)) a1, eV a2, eI a3] = .ok ((eQ (eT eI) (eT (eT eI)) (eT eI)) z) [(eQ eI (eT (eP eI eI)) (eT eI)) a0, (eQ (eT eI) (eT (eT eI)) (eT eI)) a1, eV a2, eI a3] :=
  fn_t (p0 := [some ((eQ eI (eT (eP eI eI)) (eT eI)) a0), some ((eQ (eT eI) (eT (eT eI)) (eT eI)) a1), some (eV a2), some (eI a3), none, none]) (m := p_done_at a0 a1 a2 a3) (rv := fun (z : ((List Int) × (List (List Int)) × (List Int))) => (eQ (eT eI) (eT (eT eI)) (eT eI)) z) (q := fun (z : ((List Int) × (List (List Int)) × (List Int))) => [some ((eQ eI (eT (eP eI eI)) (eT eI)) a0), some ((eQ (eT eI) (eT (eT eI)) (eT eI)) a1), some (eV a2), some (eI a3), none, none]) (outs := fun z => [(eQ eI (eT (eP eI eI)) (eT eI)) a0, (eQ (eT eI) (eT (eT eI)) (eT eI)) a1, eV a2, eI a3]) (B.cv (b_if (xt_not (xt_tstA (x_callP (xa_p (x_var (d := (eQ eI (eT (eP eI eI)) (eT eI)) a0) 0 rfl) (fun _ => (puQ puI (puT (puP puI puI)) (puT puI)) _) (fun x5 => (xa_p (x_var (d := eV a2) 2 rfl) (fun _ => puV _) (fun x6 => xa_nil)))) rfl (fun _ _ h => tok_is_deed  _ _ _ h)) (fun _ => tr_B _))) (fun x8 => b_raise) (fun x8 => (b_skip (b_set (x_primT (xa_p (x_var (d := (eQ (eT eI) (eT (eT eI)) (eT eI)) a1) 1 rfl) (fun _ => (puQ (puT puI) (puT (puT puI)) (puT puI)) _) (fun x9 => (xa_v (x_c (eI 1)) (fun x10 => xa_nil)))) (fun _ => op_ixQ1 (puT (puT puI)) _)) (.inl rfl) (fun x11 => (b_if (xt_tst (x_prim (xa_v (x_prim (xa_p (x_var (d := eV a2) 2 rfl) (fun _ => puV _) (fun x12 => (xa_v (x_c (eI 0)) (fun x13 => xa_nil)))) (fun _ _ h => dP_ok h)) (fun x15 => (xa_v (x_c (eS "put")) (fun x16 => xa_nil)))) (fun _ _ h => dB_ok h))) (fun x18 => (b_asc (b_setL (eT eI) (X.as (x_tup (xa_v (x_dn eI dnI (x_prim (xa_p (x_var (d := eV a2) 2 rfl) (fun _ => puV _) (fun x19 => (xa_v (x_c (eI 2)) (fun x20 => xa_nil)))) (fun _ _ h => dP_ok h)) (fun x23 => x23.2) (fun _ => rfl)) (fun x24 => (xa_v (x_dn eI dnI (x_prim (xa_p (x_var (d := eV a2) 2 rfl) (fun _ => puV _) (fun x25 => (xa_v (x_c (eI 1)) (fun x26 => xa_nil)))) (fun _ _ h => dP_ok h)) (fun x29 => x29.2) (fun _ => rfl)) (fun x30 => (xa_v (x_callP (xa_p (x_var (d := (eQ eI (eT (eP eI eI)) (eT eI)) a0) 0 rfl) (fun _ => (puQ puI (puT (puP puI puI)) (puT puI)) _) (fun x31 => (xa_v (x_dn eI dnI (x_prim (xa_p (x_var (d := eV a2) 2 rfl) (fun _ => puV _) (fun x32 => (xa_v (x_c (eI 1)) (fun x33 => xa_nil)))) (fun _ _ h => dP_ok h)) (fun x36 => x36.2) (fun _ => rfl)) (fun x37 => (xa_v (x_primT (xa_v (x_c (eI 1)) (fun x38 => xa_nil)) (fun _ => op_neg _)) (fun x39 => xa_nil)))))) rfl (fun _ _ h => tok_fork_behind  _ _ _ _ h)) (fun x41 => xa_nil)))))) rfl (by decide)) (fun x42 => (eT eI) [x42.1.2, x42.2.1.2, x42.2.2.1.2]) rfl) (.inl rfl) (fun x43 x44 => (b_ret (X.as (x_tup (xa_v (x_primT (xa_p (x_var (d := (eQ (eT eI) (eT (eT eI)) (eT eI)) a1) 1 rfl) (fun _ => (puQ (puT puI) (puT (puT puI)) (puT puI)) _) (fun x46 => (xa_v (x_c (eI 0)) (fun x47 => xa_nil)))) (fun _ => op_ixQ0 (puT puI) _)) (fun x48 => (xa_v (x_prim (xa_p (x_var (d := (eT (eT eI)) a1.2.1) 4 rfl) (fun _ => (puT (puT puI)) _) (fun x49 => (xa_v (X.as (x_tup (xa_p (x_var (d := (eT eI) x44) 5 rfl) (fun _ => (puT puI) _) (fun x50 => xa_nil)) rfl (by decide)) (fun x51 => (eT (eT eI)) [x44]) rfl) (fun x52 => xa_nil)))) (fun _ _ h => op_catT (puT puI) h)) (fun x54 => (xa_v (x_primT (xa_p (x_var (d := (eQ (eT eI) (eT (eT eI)) (eT eI)) a1) 1 rfl) (fun _ => (puQ (puT puI) (puT (puT puI)) (puT puI)) _) (fun x55 => (xa_v (x_c (eI 2)) (fun x56 => xa_nil)))) (fun _ => op_ixQ2 (puT puI) _)) (fun x57 => xa_nil)))))) rfl (by decide)) (fun x58 => (eQ (eT eI) (eT (eT eI)) (eT eI)) (a1.1, x58.2.1.2, a1.2.2)) rfl) (fun x59 => (a1.1, x59.2.1.2, a1.2.2)) (.inl rfl) (fun x59 => qf_ret rfl (by repeat (first | exact wk_nil | apply wk_a | apply wk_s)))))))) (fun x18 => (b_skip (b_if (xt_tst (x_prim (xa_v (x_prim (xa_p (x_var (d := eV a2) 2 rfl) (fun _ => puV _) (fun x60 => (xa_v (x_primT (xa_v (x_c (eI 1)) (fun x61 => xa_nil)) (fun _ => op_neg _)) (fun x62 => xa_nil)))) (fun _ _ h => dP_ok h)) (fun x64 => (xa_v (x_primT (xa_p (x_var (d := (eT (eT eI)) a1.2.1) 4 rfl) (fun _ => (puT (puT puI)) _) (fun x65 => xa_nil)) (fun _ => op_lenT _)) (fun x66 => xa_nil)))) (fun _ _ h => dB_ok h))) (fun x68 => b_raise) (fun x68 => (b_skip (b_if (xt_tst (x_prim (xa_v (x_prim (xa_p (x_var (d := eV a2) 2 rfl) (fun _ => puV _) (fun x69 => (xa_v (x_c (eI 0)) (fun x70 => xa_nil)))) (fun _ _ h => dP_ok h)) (fun x72 => (xa_v (x_c (eS "step")) (fun x73 => xa_nil)))) (fun _ _ h => dB_ok h))) (fun x75 => (b_ret (x_callP (xa_p (x_var (d := (eQ eI (eT (eP eI eI)) (eT eI)) a0) 0 rfl) (fun _ => (puQ puI (puT (puP puI puI)) (puT puI)) _) (fun x76 => (xa_p (x_var (d := (eQ (eT eI) (eT (eT eI)) (eT eI)) a1) 1 rfl) (fun _ => (puQ (puT puI) (puT (puT puI)) (puT puI)) _) (fun x77 => (xa_v (x_dn eI dnI (x_prim (xa_p (x_var (d := eV a2) 2 rfl) (fun _ => puV _) (fun x78 => (xa_v (x_c (eI 1)) (fun x79 => xa_nil)))) (fun _ _ h => dP_ok h)) (fun x82 => x82.2) (fun _ => rfl)) (fun x83 => xa_nil)))))) rfl (fun _ _ h => tok_step_on  _ _ _ _ h)) (fun x85 => x85.2) (.inl rfl) (fun x85 => qf_ret rfl (by repeat (first | exact wk_nil | apply wk_a | apply wk_s))))) (fun x75 => (b_skip (b_if (xt_tst (x_primT (xa_v (x_sl (x_prim (xa_p (x_var (d := (eT (eT eI)) a1.2.1) 4 rfl) (fun _ => (puT (puT puI)) _) (fun x86 => (xa_v (x_dn eI dnI (x_prim (xa_p (x_var (d := eV a2) 2 rfl) (fun _ => puV _) (fun x87 => (xa_v (x_c (eI 1)) (fun x88 => xa_nil)))) (fun _ _ h => dP_ok h)) (fun x91 => x91.2) (fun _ => rfl)) (fun x92 => xa_nil)))) (fun _ _ h => op_ixT (puT puI) h)) (fun x94 => (xpr_some (x_c (eI 1)))) (fun x94 x95 => xpr_none) (fun _ _ _ => op_slT puI _ _ _)) (fun x97 => (xa_v (x_sl (x_prim (xa_p (x_var (d := (eT (eT eI)) a1.2.1) 4 rfl) (fun _ => (puT (puT puI)) _) (fun x98 => (xa_v (x_dn eI dnI (x_prim (xa_p (x_var (d := eV a2) 2 rfl) (fun _ => puV _) (fun x99 => (xa_v (x_c (eI 2)) (fun x100 => xa_nil)))) (fun _ _ h => dP_ok h)) (fun x103 => x103.2) (fun _ => rfl)) (fun x104 => xa_nil)))) (fun _ _ h => op_ixT (puT puI) h)) (fun x106 => (xpr_some (x_c (eI 1)))) (fun x106 x107 => xpr_none) (fun _ _ _ => op_slT puI _ _ _)) (fun x109 => xa_nil)))) (fun _ => op_ne (eqT eqI) (by decide) _ _))) (fun x110 => b_raise) (fun x110 => (b_skip (b_last (b_ret (x_callP (xa_p (x_var (d := (eQ (eT eI) (eT (eT eI)) (eT eI)) a1) 1 rfl) (fun _ => (puQ (puT puI) (puT (puT puI)) (puT puI)) _) (fun x111 => (xa_v (x_dn eI dnI (x_prim (xa_p (x_var (d := eV a2) 2 rfl) (fun _ => puV _) (fun x112 => (xa_v (x_c (eI 1)) (fun x113 => xa_nil)))) (fun _ _ h => dP_ok h)) (fun x116 => x116.2) (fun _ => rfl)) (fun x117 => (xa_v (x_dn eI dnI (x_prim (xa_p (x_var (d := eV a2) 2 rfl) (fun _ => puV _) (fun x118 => (xa_v (x_c (eI 2)) (fun x119 => xa_nil)))) (fun _ _ h => dP_ok h)) (fun x122 => x122.2) (fun _ => rfl)) (fun x123 => xa_nil)))))) rfl (fun _ _ h => tok_joined_groups  _ _ _ _ h)) (fun x125 => x125.2) (.inl rfl) (fun x125 => qf_ret rfl (by repeat (first | exact wk_nil | apply wk_a | apply wk_s)))))))))))))))))))))) (by dsimp only [p_done_at])) rfl (by simp [okM]) (fun z => (coll_0P rfl (coll_0P rfl (coll_0P rfl (coll_0P rfl coll_nilP)))))
theorem tokz_done_at (a0 : (Int × (List (Int × Int)) × (List Int))) (a1 : ((List Int) × (List (List Int)) × (List Int))) (a2 : PD) (a3 : Int) : ∀ z, pz_done_at a0 a1 a2 a3 = some z → z_done_at [(eQ eI (eT (eP eI eI)) (eT eI)) a0, (eQ (eT eI) (eT (eT eI)) (eT eI)) a1, eV a2, eI a3] = z :=
  fn_zF (p := [some ((eQ eI (eT (eP eI eI)) (eT eI)) a0), some ((eQ (eT eI) (eT (eT eI)) (eT eI)) a1), some (eV a2), some (eI a3), none, none]) (q := [none, none, none, none, none, none]) (m := pz_done_at a0 a1 a2 a3) (BZF.cv (bz_ifF (xt_not (xt_tstA (x_callP (xa_p (x_var (d := (eQ eI (eT (eP eI eI)) (eT eI)) a0) 0 rfl) (fun _ => (puQ puI (puT (puP puI puI)) (puT puI)) _) (fun x5 => (xa_p (x_var (d := eV a2) 2 rfl) (fun _ => puV _) (fun x6 => xa_nil)))) rfl (fun _ _ h => tok_is_deed  _ _ _ h)) (fun _ => tr_B _))) (fun x8 => (bz_raiseF _ (xa_p (x_var (d := eI a3) 3 rfl) (fun _ => puI _) (fun x9 => xa_nil)) (fun _ => rfl) (fun _ => (by repeat (first | exact wk_nil | apply wk_a | apply wk_s))))) (fun x8 => (bz_thenF (fun (x13 : ((List (List Int)))) => [some ((eQ eI (eT (eP eI eI)) (eT eI)) a0), some ((eQ (eT eI) (eT (eT eI)) (eT eI)) a1), some (eV a2), some (eI a3), some ((eT (eT eI)) x13), none]) (b_last (b_set (x_primT (xa_p (x_var (d := (eQ (eT eI) (eT (eT eI)) (eT eI)) a1) 1 rfl) (fun _ => (puQ (puT puI) (puT (puT puI)) (puT puI)) _) (fun x10 => (xa_v (x_c (eI 1)) (fun x11 => xa_nil)))) (fun _ => op_ixQ1 (puT (puT puI)) _)) (.inl rfl) (fun x12 => (b_end (z := a1.2.1) (by repeat (first | exact wk_nil | apply wk_a | apply wk_s)))))) (fun x13 => (bz_ifF (xt_tst (x_prim (xa_v (x_prim (xa_p (x_var (d := eV a2) 2 rfl) (fun _ => puV _) (fun x15 => (xa_v (x_c (eI 0)) (fun x16 => xa_nil)))) (fun _ _ h => dP_ok h)) (fun x18 => (xa_v (x_c (eS "put")) (fun x19 => xa_nil)))) (fun _ _ h => dB_ok h))) (fun x21 => bz_noF) (fun x21 => (bz_ifF (xt_tst (x_prim (xa_v (x_prim (xa_p (x_var (d := eV a2) 2 rfl) (fun _ => puV _) (fun x22 => (xa_v (x_primT (xa_v (x_c (eI 1)) (fun x23 => xa_nil)) (fun _ => op_neg _)) (fun x24 => xa_nil)))) (fun _ _ h => dP_ok h)) (fun x26 => (xa_v (x_primT (xa_p (x_var (d := (eT (eT eI)) x13) 4 rfl) (fun _ => (puT (puT puI)) _) (fun x27 => xa_nil)) (fun _ => op_lenT _)) (fun x28 => xa_nil)))) (fun _ _ h => dB_ok h))) (fun x30 => (bz_raiseF _ (xa_p (x_var (d := eI a3) 3 rfl) (fun _ => puI _) (fun x31 => xa_nil)) (fun _ => rfl) (fun _ => (by repeat (first | exact wk_nil | apply wk_a | apply wk_s))))) (fun x30 => (bz_ifF (xt_tst (x_prim (xa_v (x_prim (xa_p (x_var (d := eV a2) 2 rfl) (fun _ => puV _) (fun x32 => (xa_v (x_c (eI 0)) (fun x33 => xa_nil)))) (fun _ _ h => dP_ok h)) (fun x35 => (xa_v (x_c (eS "step")) (fun x36 => xa_nil)))) (fun _ _ h => dB_ok h))) (fun x38 => bz_noF) (fun x38 => (bz_ifF (xt_tst (x_primT (xa_v (x_sl (x_prim (xa_p (x_var (d := (eT (eT eI)) x13) 4 rfl) (fun _ => (puT (puT puI)) _) (fun x39 => (xa_v (x_dn eI dnI (x_prim (xa_p (x_var (d := eV a2) 2 rfl) (fun _ => puV _) (fun x40 => (xa_v (x_c (eI 1)) (fun x41 => xa_nil)))) (fun _ _ h => dP_ok h)) (fun x44 => x44.2) (fun _ => rfl)) (fun x45 => xa_nil)))) (fun _ _ h => op_ixT (puT puI) h)) (fun x47 => (xpr_some (x_c (eI 1)))) (fun x47 x48 => xpr_none) (fun _ _ _ => op_slT puI _ _ _)) (fun x50 => (xa_v (x_sl (x_prim (xa_p (x_var (d := (eT (eT eI)) x13) 4 rfl) (fun _ => (puT (puT puI)) _) (fun x51 => (xa_v (x_dn eI dnI (x_prim (xa_p (x_var (d := eV a2) 2 rfl) (fun _ => puV _) (fun x52 => (xa_v (x_c (eI 2)) (fun x53 => xa_nil)))) (fun _ _ h => dP_ok h)) (fun x56 => x56.2) (fun _ => rfl)) (fun x57 => xa_nil)))) (fun _ _ h => op_ixT (puT puI) h)) (fun x59 => (xpr_some (x_c (eI 1)))) (fun x59 x60 => xpr_none) (fun _ _ _ => op_slT puI _ _ _)) (fun x62 => xa_nil)))) (fun _ => op_ne (eqT eqI) (by decide) _ _))) (fun x63 => (bz_raiseF _ (xa_p (x_var (d := eI a3) 3 rfl) (fun _ => puI _) (fun x64 => xa_nil)) (fun _ => rfl) (fun _ => (by repeat (first | exact wk_nil | apply wk_a | apply wk_s))))) (fun x63 => bz_noF)))))))))))) (by dsimp only [pz_done_at])) rfl (purs_c ((puQ puI (puT (puP puI puI)) (puT puI)) _) (purs_c ((puQ (puT puI) (puT (puT puI)) (puT puI)) _) (purs_c (puV _) (purs_c (puI _) purs_n)))) rfl
theorem tok_done (a0 : (Int × (List (Int × Int)) × (List Int))) (a1 : ((List Int) × (List (List Int)) × (List Int))) (a2 : PD) : ∀ z, p_done a0 a1 a2 = some z → f_done [(eQ eI (eT (eP eI eI)) (eT eI)) a0, (eQ (eT eI) (eT (eT eI)) (eT eI)) a1, eV a2] = .ok ((eQ (eT eI) (eT (eT eI)) (eT eI)) z) [(eQ eI (eT (eP eI eI)) (eT eI)) a0, (eQ (eT eI) (eT (eT eI)) (eT eI)) a1, eV a2] :=
  fn_t (p0 := [some ((eQ eI (eT (eP eI eI)) (eT eI)) a0), some ((eQ (eT eI) (eT (eT eI)) (eT eI)) a1), some (eV a2)]) (m := p_done a0 a1 a2) (rv := fun (z : ((List Int) × (List (List Int)) × (List Int))) => (eQ (eT eI) (eT (eT eI)) (eT eI)) z) (q := fun (z : ((List Int) × (List (List Int)) × (List Int))) => [some ((eQ eI (eT (eP eI eI)) (eT eI)) a0), some ((eQ (eT eI) (eT (eT eI)) (eT eI)) a1), some (eV a2)]) (outs := fun z => [(eQ eI (eT (eP eI eI)) (eT eI)) a0, (eQ (eT eI) (eT (eT eI)) (eT eI)) a1, eV a2]) (B.cv (b_last (b_ret (x_callP (xa_p (x_var (d := (eQ eI (eT (eP eI eI)) (eT eI)) a0) 0 rfl) (fun _ => (puQ puI (puT (puP puI puI)) (puT puI)) _) (fun x4 => (xa_p (x_var (d := (eQ (eT eI) (eT (eT eI)) (eT eI)) a1) 1 rfl) (fun _ => (puQ (puT puI) (puT (puT puI)) (puT puI)) _) (fun x5 => (xa_p (x_var (d := eV a2) 2 rfl) (fun _ => puV _) (fun x6 => (xa_v (x_c (eI 0)) (fun x7 => xa_nil)))))))) rfl (fun _ _ h => tok_done_at  _ _ _ _ _ h)) (fun x9 => x9.2) (.inl rfl) (fun x9 => qf_ret rfl (by repeat (first | exact wk_nil | apply wk_a | apply wk_s))))) (by dsimp only [p_done])) rfl (by simp [okM]) (fun z => (coll_0P rfl (coll_0P rfl (coll_0P rfl coll_nilP))))
theorem tokz_done (a0 : (Int × (List (Int × Int)) × (List Int))) (a1 : ((List Int) × (List (List Int)) × (List Int))) (a2 : PD) : ∀ z, pz_done a0 a1 a2 = some z → z_done [(eQ eI (eT (eP eI eI)) (eT eI)) a0, (eQ (eT eI) (eT (eT eI)) (eT eI)) a1, eV a2] = z :=
  fn_zF (p := [some ((eQ eI (eT (eP eI eI)) (eT eI)) a0), some ((eQ (eT eI) (eT (eT eI)) (eT eI)) a1), some (eV a2)]) (q := [none, none, none]) (m := pz_done a0 a1 a2) (BZF.cv (bz_callF (xa_p (x_var (d := (eQ eI (eT (eP eI eI)) (eT eI)) a0) 0 rfl) (fun _ => (puQ puI (puT (puP puI puI)) (puT puI)) _) (fun x4 => (xa_p (x_var (d := (eQ (eT eI) (eT (eT eI)) (eT eI)) a1) 1 rfl) (fun _ => (puQ (puT puI) (puT (puT puI)) (puT puI)) _) (fun x5 => (xa_p (x_var (d := eV a2) 2 rfl) (fun _ => puV _) (fun x6 => (xa_v (x_c (eI 0)) (fun x7 => xa_nil)))))))) (fun _ => (purs_c ((puQ puI (puT (puP puI puI)) (puT puI)) _) (purs_c ((puQ (puT puI) (puT (puT puI)) (puT puI)) _) (purs_c (puV _) (purs_c (puI _) purs_n))))) (fun _ z h => tokz_done_at _ _ _ _ z h) (fun _ => (by repeat (first | exact wk_nil | apply wk_a | apply wk_s)))) (by dsimp only [pz_done])) rfl (purs_c ((puQ puI (puT (puP puI puI)) (puT puI)) _) (purs_c ((puQ (puT puI) (puT (puT puI)) (puT puI)) _) (purs_c (puV _) purs_n))) rfl
theorem tok__law_cell_at (a0 : (List Int)) (a1 : Int) : ∀ z, p__law_cell_at a0 a1 = some z → f__law_cell_at [eZ a0, eI a1] = .ok (eI z) [eZ a0, eI a1] :=
  fn_t (p0 := [some (eZ a0), some (eI a1)]) (m := p__law_cell_at a0 a1) (rv := fun (z : Int) => eI z) (q := fun (z : Int) => [some (eZ a0), some (eI a1)]) (outs := fun z => [eZ a0, eI a1]) (B.cv (b_if (xt_tst (x_primT (xa_p (x_var (d := eI a1) 1 rfl) (fun _ => puI _) (fun x3 => (xa_v (x_primT (xa_p (x_var (d := eZ a0) 0 rfl) (fun _ => puZ _) (fun x4 => xa_nil)) (fun _ => op_lenZ _)) (fun x5 => xa_nil)))) (fun _ => op_lt' _ _))) (fun x6 => (b_ret (x_prim (xa_p (x_var (d := eZ a0) 0 rfl) (fun _ => puZ _) (fun x7 => (xa_p (x_var (d := eI a1) 1 rfl) (fun _ => puI _) (fun x8 => xa_nil)))) (fun _ _ h => op_ixZ h)) (fun x10 => x10.2) (.inl rfl) (fun x10 => qf_ret rfl (by repeat (first | exact wk_nil | apply wk_a | apply wk_s))))) (fun x6 => (b_skip (b_last (b_ret (x_c (eI 0)) (fun x11 => (0 : Int)) (.inl rfl) (fun x11 => qf_ret rfl (by repeat (first | exact wk_nil | apply wk_a | apply wk_s)))))))) (by dsimp only [p__law_cell_at])) rfl (by simp [okM]) (fun z => (coll_0P rfl (coll_0P rfl coll_nilP)))
theorem tok__law_left (a0 : (List Int)) (a1 : Int) : ∀ z, p__law_left a0 a1 = some z → f__law_left [eZ a0, eI a1] = .ok ((eL eI) z) [eZ a0, eI a1] :=
  fn_t (p0 := [some (eZ a0), some (eI a1), none, none]) (m := p__law_left a0 a1) (rv := fun (z : (List Int)) => (eL eI) z) (q := fun (z : (List Int)) => [some (eZ a0), some (eI a1), none, none]) (outs := fun z => [eZ a0, eI a1]) (B.cv (b_set (x_callP (xa_p (x_var (d := eZ a0) 0 rfl) (fun _ => puZ _) (fun x3 => (xa_v (x_prim (xa_p (x_var (d := eI a1) 1 rfl) (fun _ => puI _) (fun x4 => (xa_v (x_primT (xa_v (x_c (eI 1)) (fun x5 => (xa_v (x_primT (xa_p (x_var (d := eZ a0) 0 rfl) (fun _ => puZ _) (fun x6 => xa_nil)) (fun _ => op_lenZ _)) (fun x7 => xa_nil)))) (fun _ => op_max2 _ _)) (fun x8 => xa_nil)))) (fun _ _ h => op_mod' h)) (fun x10 => xa_nil)))) rfl (fun _ _ h => tok__law_cell_at  _ _ _ h)) (.inl rfl) (fun x12 => (b_setL eI (x_primT (xa_v (x_primT (xa_v (x_primT (xa_v (x_primT (xa_v (x_primT (xa_p (x_var (d := eI x12.2) 2 rfl) (fun _ => puI _) (fun x13 => (xa_v (x_c (eI 2147483629)) (fun x14 => xa_nil)))) (fun _ => op_modC (by decide +kernel))) (fun x15 => (xa_v (x_prim (xa_v (x_primT (xa_v (x_c (eI 7919)) (fun x16 => (xa_p (x_var (d := eI a1) 1 rfl) (fun _ => puI _) (fun x17 => xa_nil)))) (fun _ => op_mulL (by decide +kernel))) (fun x18 => (xa_p (x_var (d := eI a1) 1 rfl) (fun _ => puI _) (fun x19 => xa_nil)))) (fun _ _ h => op_mul h)) (fun x21 => xa_nil)))) (fun _ => op_add _ _)) (fun x22 => (xa_v (x_c (eI 11)) (fun x23 => xa_nil)))) (fun _ => op_add _ _)) (fun x24 => (xa_v (x_c (eI 48271)) (fun x25 => xa_nil)))) (fun _ => op_mulR (by decide +kernel))) (fun x26 => (xa_v (x_c (eI 2147483647)) (fun x27 => xa_nil)))) (fun _ => op_modC (by decide +kernel))) (.inl rfl) (fun x28 x29 => (b_last (b_ret (X.as (x_lst (xa_v (x_prim (xa_v (x_primT (xa_v (x_primT (xa_p (x_var (d := eI x12.2) 2 rfl) (fun _ => puI _) (fun x31 => xa_nil)) (fun _ => op_abs _)) (fun x32 => (xa_v (x_primT (xa_v (x_primT (xa_v (x_primT (xa_p (x_var (d := eI x12.2) 2 rfl) (fun _ => puI _) (fun x33 => xa_nil)) (fun _ => op_abs _)) (fun x34 => (xa_v (x_primT (xa_v (x_c (eI 10)) (fun x35 => (xa_v (x_c (eI 18)) (fun x36 => xa_nil)))) (fun _ => op_powC (c := 1000000000000000000) (by decide +kernel) (by decide +kernel))) (fun x37 => xa_nil)))) (fun _ => op_ge' _ _)) (fun x38 => xa_nil)) (fun _ => op_intB _)) (fun x39 => xa_nil)))) (fun _ => op_mulB _ _)) (fun x40 => (xa_v (x_ten 2000 (by decide) (by decide)) (fun x41 => xa_nil)))) (fun _ _ h => op_mod' h)) (fun x43 => (xa_p (x_var (d := eI x29) 3 rfl) (fun _ => puI _) (fun x44 => xa_nil)))) rfl (by decide)) (fun x45 => (eL eI) [x45.1.2, x29]) rfl) (fun x46 => [x46.1.2, x29]) (.inl rfl) (fun x46 => qf_ret rfl (by repeat (first | exact wk_nil | apply wk_a | apply wk_s))))))))) (by dsimp only [p__law_left])) rfl (by simp [okM]) (fun z => (coll_0P rfl (coll_0P rfl coll_nilP)))
theorem tok__law_pick (a0 : (List Int)) (a1 : Int) : ∀ z, p__law_pick a0 a1 = some z → f__law_pick [(eL eI) a0, eI a1] = .ok (eI z.1) [(eL eI) z.2, eI a1] :=
  fn_t (p0 := [some ((eL eI) a0), some (eI a1), none]) (m := p__law_pick a0 a1) (rv := fun (z : (Int × (List Int))) => eI z.1) (q := fun (z : (Int × (List Int))) => [some ((eL eI) z.2), some (eI a1), none]) (outs := fun z => [(eL eI) z.2, eI a1]) (B.cv (b_if (xt_tst (x_primT (xa_v (x_prim (xa_s 0 rfl (xa_v (x_c (eI 0)) (fun x3 => xa_nil)) (fun _ => rfl) (fun _ => puL)) (fun _ _ h => op_ixL puI h)) (fun x5 => (xa_v (x_c (eI 0)) (fun x6 => xa_nil)))) (fun _ => op_gt' _ _))) (fun x7 => (b_asc (b_set (x_prim (xa_v (x_prim (xa_s 0 rfl (xa_v (x_c (eI 0)) (fun x8 => xa_nil)) (fun _ => rfl) (fun _ => puL)) (fun _ _ h => op_ixL puI h)) (fun x10 => (xa_p (x_var (d := eI a1) 1 rfl) (fun _ => puI _) (fun x11 => xa_nil)))) (fun _ _ h => op_mod' h)) (.inl rfl) (fun x13 => (b_asc (b_setIx (e1 := eI) (x_prim (xa_v (x_prim (xa_s 0 rfl (xa_v (x_c (eI 0)) (fun x14 => xa_nil)) (fun _ => rfl) (fun _ => puL)) (fun _ _ h => op_ixL puI h)) (fun x16 => (xa_p (x_var (d := eI a1) 1 rfl) (fun _ => puI _) (fun x17 => xa_nil)))) (fun _ _ h => op_div h)) puI (fun _ => ⟨_, rfl⟩) (fun x19 => (x_c (eI 0))) (fun _ _ => .inl rfl) (fun _ _ => rfl) (fun x19 x20 x21 => (b_ret (x_var (d := eI x13.2) 2 rfl) (fun x23 => (x13.2, x21)) (.inr (fun _ => puI _)) (fun x23 => qf_ret rfl (by repeat (first | exact wk_nil | apply wk_a | apply wk_s))))))))))) (fun x7 => (b_skip (b_setIx (e1 := eI) (x_primT (xa_v (x_primT (xa_v (x_primT (xa_v (x_prim (xa_s 0 rfl (xa_v (x_c (eI 1)) (fun x24 => xa_nil)) (fun _ => rfl) (fun _ => puL)) (fun _ _ h => op_ixL puI h)) (fun x26 => (xa_v (x_c (eI 48271)) (fun x27 => xa_nil)))) (fun _ => op_mulR (by decide +kernel))) (fun x28 => (xa_v (x_c (eI 12345)) (fun x29 => xa_nil)))) (fun _ => op_add _ _)) (fun x30 => (xa_v (x_c (eI 2147483647)) (fun x31 => xa_nil)))) (fun _ => op_modC (by decide +kernel))) puI (fun _ => ⟨_, rfl⟩) (fun x32 => (x_c (eI 1))) (fun _ _ => .inl rfl) (fun _ _ => rfl) (fun x32 x33 x34 => (b_last (b_ret (x_prim (xa_v (x_primT (xa_v (x_prim (xa_v (x_prim (xa_s 0 rfl (xa_v (x_c (eI 1)) (fun x36 => xa_nil)) (fun _ => rfl) (fun _ => puL)) (fun _ _ h => op_ixL puI h)) (fun x38 => (xa_v (x_prim (xa_s 0 rfl (xa_v (x_c (eI 1)) (fun x39 => xa_nil)) (fun _ => rfl) (fun _ => puL)) (fun _ _ h => op_ixL puI h)) (fun x41 => xa_nil)))) (fun _ _ h => op_mul h)) (fun x43 => (xa_v (x_c (eI 1999999973)) (fun x44 => xa_nil)))) (fun _ => op_modC (by decide +kernel))) (fun x45 => (xa_p (x_var (d := eI a1) 1 rfl) (fun _ => puI _) (fun x46 => xa_nil)))) (fun _ _ h => op_mod' h)) (fun x48 => (x48.2, x34)) (.inl rfl) (fun x48 => qf_ret rfl (by repeat (first | exact wk_nil | apply wk_a | apply wk_s)))))))))) (by dsimp only [p__law_pick])) rfl (by simp [okM]) (fun z => (coll_0P rfl (coll_0P rfl coll_nilP)))
theorem tok__law_of__at0 (a0 : (List Int)) (a1 : (List Int)) : ∀ z, p__law_of__at0 a0 a1 = some z → f__law_of [(eL eI) a0, (eL eI) a1] = .ok (eI z.1) [(eL eI) z.2, (eL eI) a1] :=
  fn_t (p0 := [some ((eL eI) a0), some ((eL eI) a1)]) (m := p__law_of__at0 a0 a1) (rv := fun (z : (Int × (List Int))) => eI z.1) (q := fun (z : (Int × (List Int))) => [some ((eL eI) z.2), some ((eL eI) a1)]) (outs := fun z => [(eL eI) z.2, (eL eI) a1]) (B.cv (b_last (b_ret (x_prim (xa_s 1 rfl (xa_v (x_call (xa_s 0 rfl (xa_v (x_primT (xa_s 1 rfl xa_nil (fun _ => rfl) (fun _ => puL)) (fun _ => op_lenL _)) (fun x3 => xa_nil)) (fun _ => rfl) (fun _ => puL)) rfl (fun _ _ h => tok__law_pick  _ _ _ h) (fun _ _ => rfl) (fun _ (zz : Int × (List Int)) => [(0, (eL eI) zz.2)]) (fun _ _ => rfl)) (fun x5 => xa_nil)) (fun _ => rfl) (fun _ => puL)) (fun _ _ h => op_ixL puI h)) (fun x7 => (x7.2, x7.1.1.2.2)) (.inl rfl) (fun x7 => qf_ret rfl (by repeat (first | exact wk_nil | apply wk_a | apply wk_s))))) (by dsimp only [p__law_of__at0])) rfl (by simp [okM]) (fun z => (coll_0P rfl (coll_0P rfl coll_nilP)))
theorem tok__law_of__at1 (a0 : (List Int)) (a1 : (List Int)) : ∀ z, p__law_of__at1 a0 a1 = some z → f__law_of [(eL eI) a0, (eL eI) a1] = .ok (eI z.1) [(eL eI) z.2, (eL eI) a1] :=
  fn_t (p0 := [some ((eL eI) a0), some ((eL eI) a1)]) (m := p__law_of__at1 a0 a1) (rv := fun (z : (Int × (List Int))) => eI z.1) (q := fun (z : (Int × (List Int))) => [some ((eL eI) z.2), some ((eL eI) a1)]) (outs := fun z => [(eL eI) z.2, (eL eI) a1]) (B.cv (b_last (b_ret (x_prim (xa_s 1 rfl (xa_v (x_call (xa_s 0 rfl (xa_v (x_primT (xa_s 1 rfl xa_nil (fun _ => rfl) (fun _ => puL)) (fun _ => op_lenL _)) (fun x3 => xa_nil)) (fun _ => rfl) (fun _ => puL)) rfl (fun _ _ h => tok__law_pick  _ _ _ h) (fun _ _ => rfl) (fun _ (zz : Int × (List Int)) => [(0, (eL eI) zz.2)]) (fun _ _ => rfl)) (fun x5 => xa_nil)) (fun _ => rfl) (fun _ => puL)) (fun _ _ h => op_ixL puI h)) (fun x7 => (x7.2, x7.1.1.2.2)) (.inl rfl) (fun x7 => qf_ret rfl (by repeat (first | exact wk_nil | apply wk_a | apply wk_s))))) (by dsimp only [p__law_of__at1])) rfl (by simp [okM]) (fun z => (coll_0P rfl (coll_0P rfl coll_nilP)))
theorem tok__law_of__at2 (a0 : (List Int)) (a1 : (List Int)) : ∀ z, p__law_of__at2 a0 a1 = some z → f__law_of [(eL eI) a0, (eL eI) a1] = .ok (eI z.1) [(eL eI) z.2, (eL eI) a1] :=
  fn_t (p0 := [some ((eL eI) a0), some ((eL eI) a1)]) (m := p__law_of__at2 a0 a1) (rv := fun (z : (Int × (List Int))) => eI z.1) (q := fun (z : (Int × (List Int))) => [some ((eL eI) z.2), some ((eL eI) a1)]) (outs := fun z => [(eL eI) z.2, (eL eI) a1]) (B.cv (b_last (b_ret (x_prim (xa_s 1 rfl (xa_v (x_call (xa_s 0 rfl (xa_v (x_primT (xa_s 1 rfl xa_nil (fun _ => rfl) (fun _ => puL)) (fun _ => op_lenL _)) (fun x3 => xa_nil)) (fun _ => rfl) (fun _ => puL)) rfl (fun _ _ h => tok__law_pick  _ _ _ h) (fun _ _ => rfl) (fun _ (zz : Int × (List Int)) => [(0, (eL eI) zz.2)]) (fun _ _ => rfl)) (fun x5 => xa_nil)) (fun _ => rfl) (fun _ => puL)) (fun _ _ h => op_ixL puI h)) (fun x7 => (x7.2, x7.1.1.2.2)) (.inl rfl) (fun x7 => qf_ret rfl (by repeat (first | exact wk_nil | apply wk_a | apply wk_s))))) (by dsimp only [p__law_of__at2])) rfl (by simp [okM]) (fun z => (coll_0P rfl (coll_0P rfl coll_nilP)))
theorem tok__law_of__at3 (a0 : (List Int)) (a1 : (List Int)) : ∀ z, p__law_of__at3 a0 a1 = some z → f__law_of [(eL eI) a0, (eL eI) a1] = .ok (eI z.1) [(eL eI) z.2, (eL eI) a1] :=
  fn_t (p0 := [some ((eL eI) a0), some ((eL eI) a1)]) (m := p__law_of__at3 a0 a1) (rv := fun (z : (Int × (List Int))) => eI z.1) (q := fun (z : (Int × (List Int))) => [some ((eL eI) z.2), some ((eL eI) a1)]) (outs := fun z => [(eL eI) z.2, (eL eI) a1]) (B.cv (b_last (b_ret (x_prim (xa_s 1 rfl (xa_v (x_call (xa_s 0 rfl (xa_v (x_primT (xa_s 1 rfl xa_nil (fun _ => rfl) (fun _ => puL)) (fun _ => op_lenL _)) (fun x3 => xa_nil)) (fun _ => rfl) (fun _ => puL)) rfl (fun _ _ h => tok__law_pick  _ _ _ h) (fun _ _ => rfl) (fun _ (zz : Int × (List Int)) => [(0, (eL eI) zz.2)]) (fun _ _ => rfl)) (fun x5 => xa_nil)) (fun _ => rfl) (fun _ => puL)) (fun _ _ h => op_ixL puI h)) (fun x7 => (x7.2, x7.1.1.2.2)) (.inl rfl) (fun x7 => qf_ret rfl (by repeat (first | exact wk_nil | apply wk_a | apply wk_s))))) (by dsimp only [p__law_of__at3])) rfl (by simp [okM]) (fun z => (coll_0P rfl (coll_0P rfl coll_nilP)))
theorem tok__law_of__at4 (a0 : (List Int)) (a1 : (List Int)) : ∀ z, p__law_of__at4 a0 a1 = some z → f__law_of [(eL eI) a0, (eL eI) a1] = .ok (eI z.1) [(eL eI) z.2, (eL eI) a1] :=
  fn_t (p0 := [some ((eL eI) a0), some ((eL eI) a1)]) (m := p__law_of__at4 a0 a1) (rv := fun (z : (Int × (List Int))) => eI z.1) (q := fun (z : (Int × (List Int))) => [some ((eL eI) z.2), some ((eL eI) a1)]) (outs := fun z => [(eL eI) z.2, (eL eI) a1]) (B.cv (b_last (b_ret (x_prim (xa_s 1 rfl (xa_v (x_call (xa_s 0 rfl (xa_v (x_primT (xa_s 1 rfl xa_nil (fun _ => rfl) (fun _ => puL)) (fun _ => op_lenL _)) (fun x3 => xa_nil)) (fun _ => rfl) (fun _ => puL)) rfl (fun _ _ h => tok__law_pick  _ _ _ h) (fun _ _ => rfl) (fun _ (zz : Int × (List Int)) => [(0, (eL eI) zz.2)]) (fun _ _ => rfl)) (fun x5 => xa_nil)) (fun _ => rfl) (fun _ => puL)) (fun _ _ h => op_ixL puI h)) (fun x7 => (x7.2, x7.1.1.2.2)) (.inl rfl) (fun x7 => qf_ret rfl (by repeat (first | exact wk_nil | apply wk_a | apply wk_s))))) (by dsimp only [p__law_of__at4])) rfl (by simp [okM]) (fun z => (coll_0P rfl (coll_0P rfl coll_nilP)))
theorem tok__law_of__at5 (a0 : (List Int)) (a1 : (List Int)) : ∀ z, p__law_of__at5 a0 a1 = some z → f__law_of [(eL eI) a0, (eL eI) a1] = .ok (eI z.1) [(eL eI) z.2, (eL eI) a1] :=
  fn_t (p0 := [some ((eL eI) a0), some ((eL eI) a1)]) (m := p__law_of__at5 a0 a1) (rv := fun (z : (Int × (List Int))) => eI z.1) (q := fun (z : (Int × (List Int))) => [some ((eL eI) z.2), some ((eL eI) a1)]) (outs := fun z => [(eL eI) z.2, (eL eI) a1]) (B.cv (b_last (b_ret (x_prim (xa_s 1 rfl (xa_v (x_call (xa_s 0 rfl (xa_v (x_primT (xa_s 1 rfl xa_nil (fun _ => rfl) (fun _ => puL)) (fun _ => op_lenL _)) (fun x3 => xa_nil)) (fun _ => rfl) (fun _ => puL)) rfl (fun _ _ h => tok__law_pick  _ _ _ h) (fun _ _ => rfl) (fun _ (zz : Int × (List Int)) => [(0, (eL eI) zz.2)]) (fun _ _ => rfl)) (fun x5 => xa_nil)) (fun _ => rfl) (fun _ => puL)) (fun _ _ h => op_ixL puI h)) (fun x7 => (x7.2, x7.1.1.2.2)) (.inl rfl) (fun x7 => qf_ret rfl (by repeat (first | exact wk_nil | apply wk_a | apply wk_s))))) (by dsimp only [p__law_of__at5])) rfl (by simp [okM]) (fun z => (coll_0P rfl (coll_0P rfl coll_nilP)))
theorem tok__law_placed (n : Nat) (a0 : (List Int)) (a1 : (List Int)) : ∀ z, p__law_placed n a0 a1 = some z → f__law_placed n [(eL eI) a0, (eL eI) a1] = .ok ((eL eI) z.1) [(eL eI) z.2, (eL eI) a1] :=
  fn_t2 (d := (eL eI) a1) (p0 := [some ((eL eI) a0), some ((eL eI) a1), none]) (m := p__law_placed n a0 a1) (rv := fun (z : ((List Int) × (List Int))) => (eL eI) z.1) (q := fun (z : ((List Int) × (List Int))) => [some ((eL eI) z.2), none, none]) (outs := fun z => [(eL eI) z.2, (eL eI) a1]) (B.cv (b_setL (eL eI) (X.as (x_lst xa_nil rfl (by decide)) (fun x3 => (eL eI) ([] : (List Int))) rfl) (.inl rfl) (fun x4 x5 => (b_while (fun (x7 : ((List Int) × (List Int) × (List Int))) => [some ((eL eI) x7.1), some ((eL eI) x7.2.1), some ((eL eI) x7.2.2)]) (a0, a1, x5) (fun (z : ((List Int) × (List Int))) => (eL eI) z.1) (fun x19 => [some ((eL eI) x19.2), none, none]) (fun z => z) (by repeat (first | exact wk_nil | apply wk_a | apply wk_s)) (fun x7 => (xt_tst (x_primT (xa_s 1 rfl (xa_v (X.as (x_lst xa_nil rfl (by decide)) (fun x9 => (eL eI) ([] : (List Int))) rfl) (fun x10 => xa_nil)) (fun _ => rfl) (fun _ => puL)) (fun _ => op_ne (eqL eqI) (by decide) _ _)))) (fun x7 x11 => (b_last (b_expr (x_mt rfl (xa_v (x_mt rfl (xa_v (x_call (xa_s 0 rfl (xa_v (x_primT (xa_s 1 rfl xa_nil (fun _ => rfl) (fun _ => puL)) (fun _ => op_lenL _)) (fun x12 => xa_nil)) (fun _ => rfl) (fun _ => puL)) rfl (fun _ _ h => tok__law_pick  _ _ _ h) (fun _ _ => rfl) (fun _ (zz : Int × (List Int)) => [(0, (eL eI) zz.2)]) (fun _ _ => rfl)) (fun x14 => xa_nil)) rfl (fun _ => rfl) (fun _ _ h => mt_pop' puI h) (fun _ z => puI z.1)) (fun x16 => xa_nil)) rfl (fun _ => rfl) (fun _ _ h => mt_app' h) (fun _ _ => rfl)) (fun x18 => (b_endL (z := (x18.1.1.1.1.2.2, x18.1.1.2.2, x18.2)) (by repeat (first | exact wk_nil | apply wk_a | apply wk_s))))))) (fun x19 => qf_ret rfl (by repeat (first | exact wk_nil | apply wk_a | apply wk_s))) (fun x7 => (b_last (b_retS (R := (x7.2.2, x7.1)) (i := 2) rfl rfl (qf_ret rfl (by repeat (first | exact wk_nil | apply wk_a | apply wk_s))))))))) (by dsimp only [p__law_placed])) (op_lstL (puI) _) rfl (by simp [okM2, ]) (fun z => (coll_0P rfl (coll_2P coll_nilP)))
theorem tok__law_net (n : Nat) (a0 : (List Int)) (a1 : Int) (a2 : Int) : ∀ z, p__law_net n a0 a1 a2 = some z → f__law_net n [(eL eI) a0, eI a1, eI a2] = .ok ((eQ eI (eT (eP eI eI)) (eT eI)) z.1) [(eL eI) z.2, eI a1, eI a2] :=
  fn_t (p0 := [some ((eL eI) a0), some (eI a1), some (eI a2), none, none, none, none, none]) (m := p__law_net n a0 a1 a2) (rv := fun (z : ((Int × (List (Int × Int)) × (List Int)) × (List Int))) => (eQ eI (eT (eP eI eI)) (eT eI)) z.1) (q := fun (z : ((Int × (List (Int × Int)) × (List Int)) × (List Int))) => [some ((eL eI) z.2), some (eI a1), some (eI a2), none, none, none, none, none]) (outs := fun z => [(eL eI) z.2, eI a1, eI a2]) (B.cv (b_setL (eL (eP eI eI)) (X.as (x_lst xa_nil rfl (by decide)) (fun x4 => (eL (eP eI eI)) ([] : (List (Int × Int)))) rfl) (.inl rfl) (fun x5 x6 => (b_for (xi_mkP (xa_v (x_primT (xa_v (x_call (xa_s 0 rfl (xa_v (x_primT (xa_p (x_var (d := eI a2) 2 rfl) (fun _ => puI _) (fun x8 => (xa_v (x_c (eI 1)) (fun x9 => xa_nil)))) (fun _ => op_add _ _)) (fun x10 => xa_nil)) (fun _ => rfl) (fun _ => puL)) rfl (fun _ _ h => tok__law_pick  _ _ _ h) (fun _ _ => rfl) (fun _ (zz : Int × (List Int)) => [(0, (eL eI) zz.2)]) (fun _ _ => rfl)) (fun x12 => (xa_v (x_primT (xa_v (x_primT (xa_p (x_var (d := eI a1) 1 rfl) (fun _ => puI _) (fun x13 => (xa_v (x_c (eI 1)) (fun x14 => xa_nil)))) (fun _ => op_gt' _ _)) (fun x15 => xa_nil)) (fun _ => op_intB _)) (fun x16 => xa_nil)))) (fun _ => op_mulB _ _)) (fun x17 => xa_nil)) rfl puI (fun _ _ h => it_r1 h)) (fun x19 (x20 : ((List Int) × (List (Int × Int)))) => [some ((eL eI) x20.1), some (eI a1), some (eI a2), some ((eL (eP eI eI)) x20.2), none, none, none, none]) (fun x19 => (x19.1.1.1.2.2, x6)) (fun _ => rfl) (fun x19 => by repeat (first | exact wk_nil | apply wk_a | apply wk_s)) (fun x19 x20 x21 => as_nm) (fun x19 x20 x21 => (b_set (x_call (xa_s 0 rfl (xa_p (x_var (d := eI a1) 1 rfl) (fun _ => puI _) (fun x24 => xa_nil)) (fun _ => rfl) (fun _ => puL)) rfl (fun _ _ h => tok__law_pick  _ _ _ h) (fun _ _ => rfl) (fun _ (zz : Int × (List Int)) => [(0, (eL eI) zz.2)]) (fun _ _ => rfl)) (.inl rfl) (fun x26 => (b_set (x_prim (xa_v (x_primT (xa_v (x_primT (xa_p (x_var (d := eI x26.2.1) 5 rfl) (fun _ => puI _) (fun x27 => (xa_v (x_c (eI 1)) (fun x28 => xa_nil)))) (fun _ => op_add _ _)) (fun x29 => (xa_v (x_call (xa_s 0 rfl (xa_v (x_primT (xa_p (x_var (d := eI a1) 1 rfl) (fun _ => puI _) (fun x30 => (xa_v (x_c (eI 1)) (fun x31 => xa_nil)))) (fun _ => op_sub' _ _)) (fun x32 => xa_nil)) (fun _ => rfl) (fun _ => puL)) rfl (fun _ _ h => tok__law_pick  _ _ _ h) (fun _ _ => rfl) (fun _ (zz : Int × (List Int)) => [(0, (eL eI) zz.2)]) (fun _ _ => rfl)) (fun x34 => xa_nil)))) (fun _ => op_add _ _)) (fun x35 => (xa_p (x_var (d := eI a1) 1 rfl) (fun _ => puI _) (fun x36 => xa_nil)))) (fun _ _ h => op_mod' h)) (.inl rfl) (fun x38 => (b_ifj (xt_andM (xt_tst (x_primT (xa_s 3 rfl (xa_v (X.as (x_lst xa_nil rfl (by decide)) (fun x39 => (eL (eP eI eI)) ([] : (List (Int × Int)))) rfl) (fun x40 => xa_nil)) (fun _ => rfl) (fun _ => puL)) (fun _ => op_ne (eqL (eqP eqI eqI)) (by decide) _ _))) (fun x41 => (xt_tst (x_primT (xa_v (x_call (xa_s 0 rfl (xa_v (x_c (eI 4)) (fun x42 => xa_nil)) (fun _ => rfl) (fun _ => puL)) rfl (fun _ _ h => tok__law_pick  _ _ _ h) (fun _ _ => rfl) (fun _ (zz : Int × (List Int)) => [(0, (eL eI) zz.2)]) (fun _ _ => rfl)) (fun x44 => (xa_v (x_c (eI 0)) (fun x45 => xa_nil)))) (fun _ => op_eq eqI (by decide) _ _)))) (fun x41 x47 => x47.1.2.2) (fun x41 => x38.1.1.2.1.2.2) (fun x41 x48 => [some ((eL eI) x48), some (eI a1), some (eI a2), some ((eL (eP eI eI)) x20.2), some (eI x21), some (eI x26.2.1), some (eI x38.2), none]) (fun _ _ => by repeat (first | exact wk_nil | apply wk_a | apply wk_s)) (fun _ => by repeat (first | exact wk_nil | apply wk_a | apply wk_s))) (fun x50 (x63 : ((List Int) × Int × Int)) => [some ((eL eI) x63.1), some (eI a1), some (eI a2), some ((eL (eP eI eI)) x20.2), some (eI x21), some (eI x63.2.1), some (eI x63.2.2), none]) (fun x50 => (b_last (b_asg (x_stE puI (x_prim (xa_s 3 rfl (xa_v (x_primT (xa_v (x_c (eI 1)) (fun x51 => xa_nil)) (fun _ => op_neg _)) (fun x52 => xa_nil)) (fun _ => rfl) (fun _ => puL)) (fun _ _ h => op_ixL (puP puI puI) h)) (fun x54 => (x_call (xa_s 0 rfl (xa_v (X.as (x_lst (xa_v (x_c (eI 1)) (fun x55 => (xa_v (x_primT (xa_v (x_c (eI 1)) (fun x56 => xa_nil)) (fun _ => op_neg _)) (fun x57 => xa_nil)))) rfl (by decide)) (fun x58 => (eL eI) [(1 : Int), (-(1 : Int))]) rfl) (fun x59 => xa_nil)) (fun _ => rfl) (fun _ => puL)) rfl (fun _ _ h => tok__law_of__at0  _ _ _ h) (fun _ _ => rfl) (fun _ (zz : Int × (List Int)) => [(0, (eL eI) zz.2)]) (fun _ _ => rfl)))) (.inl rfl) (fun _ => (as_tp (ass_cons as_nm (ass_cons as_nm ass_nil)))) (fun x62 => (b_end (z := (x62.2.1.2.2, x62.2.2.1, x62.2.2.2)) (by repeat (first | exact wk_nil | apply wk_a | apply wk_s))))))) (fun x50 => (b_end (z := (x50.2.2, x26.2.1, x38.2)) (by repeat (first | exact wk_nil | apply wk_a | apply wk_s)))) (fun x50 x63 => (b_last (b_expr (x_mt rfl (xa_v (X.as (x_tup (xa_p (x_var (d := eI x63.2.1) 5 rfl) (fun _ => puI _) (fun x65 => (xa_p (x_var (d := eI x63.2.2) 6 rfl) (fun _ => puI _) (fun x66 => xa_nil)))) rfl (by decide)) (fun x67 => (eP eI eI) (x63.2.1, x63.2.2)) rfl) (fun x68 => xa_nil)) rfl (fun _ => rfl) (fun _ _ h => mt_app' h) (fun _ _ => rfl)) (fun x70 => (b_endC (z := (x63.1, x70.2)) (by repeat (first | exact wk_nil | apply wk_a | apply wk_s))))))))))))) (fun x19 x20 => (b_set (x_prim (xa_p (x_var (d := eI a1) 1 rfl) (fun _ => puI _) (fun x71 => xa_nil)) (fun _ _ h => op_lrg1 h)) (.inl rfl) (fun x73 => (b_ifj (xt_tst (x_primT (xa_v (x_call (xa_s 0 rfl (xa_v (x_c (eI 2)) (fun x74 => xa_nil)) (fun _ => rfl) (fun _ => puL)) rfl (fun _ _ h => tok__law_pick  _ _ _ h) (fun _ _ => rfl) (fun _ (zz : Int × (List Int)) => [(0, (eL eI) zz.2)]) (fun _ _ => rfl)) (fun x76 => (xa_v (x_c (eI 0)) (fun x77 => xa_nil)))) (fun _ => op_eq eqI (by decide) _ _))) (fun x78 (x81 : ((List Int) × (List Int))) => [some ((eL eI) x81.1), some (eI a1), some (eI a2), some ((eL (eP eI eI)) x20.2), none, none, none, some ((eL eI) x81.2)]) (fun x78 => (b_last (b_set (x_call (xa_s 0 rfl (xa_s 7 rfl xa_nil (fun _ => rfl) (fun _ => puL)) (fun _ => rfl) (fun _ => puL)) rfl (fun _ _ h => tok__law_placed n _ _ _ h) (fun _ _ => rfl) (fun _ (zz : (List Int) × (List Int)) => [(0, (eL eI) zz.2), (7, (eL eI) x73.2)]) (fun _ _ => rfl)) (.inl rfl) (fun x80 => (b_end (z := (x80.2.2, x80.2.1)) (by repeat (first | exact wk_nil | apply wk_a | apply wk_s))))))) (fun x78 => (b_end (z := (x78.1.2.2, x73.2)) (by repeat (first | exact wk_nil | apply wk_a | apply wk_s)))) (fun x78 x81 => (b_last (b_ret (X.as (x_tup (xa_p (x_var (d := eI a1) 1 rfl) (fun _ => puI _) (fun x83 => (xa_v (x_primT (xa_s 3 rfl xa_nil (fun _ => rfl) (fun _ => puL)) (fun _ => op_tupL (puP puI puI) _)) (fun x84 => (xa_v (x_primT (xa_s 7 rfl xa_nil (fun _ => rfl) (fun _ => puL)) (fun _ => op_tupL puI _)) (fun x85 => xa_nil)))))) rfl (by decide)) (fun x86 => (eQ eI (eT (eP eI eI)) (eT eI)) (a1, x20.2, x81.2)) rfl) (fun x87 => ((a1, x20.2, x81.2), x81.1)) (.inl rfl) (fun x87 => qf_ret rfl (by repeat (first | exact wk_nil | apply wk_a | apply wk_s))))))))))))) (by dsimp only [p__law_net])) rfl (by simp [okM]) (fun z => (coll_0P rfl (coll_0P rfl (coll_0P rfl coll_nilP))))
theorem tok__law_many (a0 : (List Int)) : ∀ z, p__law_many a0 = some z → f__law_many [(eL eI) a0] = .ok (eI z.1) [(eL eI) z.2] :=
  fn_t (p0 := [some ((eL eI) a0), none, none]) (m := p__law_many a0) (rv := fun (z : (Int × (List Int))) => eI z.1) (q := fun (z : (Int × (List Int))) => [some ((eL eI) z.2), none, none]) (outs := fun z => [(eL eI) z.2]) (B.cv (b_setL eI (x_primT (xa_v (x_tenV (x_call (xa_s 0 rfl (xa_v (x_c (eI 29)) (fun x2 => xa_nil)) (fun _ => rfl) (fun _ => puL)) rfl (fun _ _ h => tok__law_pick  _ _ _ h) (fun _ _ => rfl) (fun _ (zz : Int × (List Int)) => [(0, (eL eI) zz.2)]) (fun _ _ => rfl))) (fun x5 => (xa_v (x_call (xa_s 0 rfl (xa_v (x_c (eI 5)) (fun x6 => xa_nil)) (fun _ => rfl) (fun _ => puL)) rfl (fun _ _ h => tok__law_pick  _ _ _ h) (fun _ _ => rfl) (fun _ (zz : Int × (List Int)) => [(0, (eL eI) zz.2)]) (fun _ _ => rfl)) (fun x8 => xa_nil)))) (fun _ => op_add _ _)) (.inl rfl) (fun x9 x10 => (b_set (x_call (xa_s 0 rfl (xa_v (X.as (x_lst (xa_v (x_c (eI 1)) (fun x12 => (xa_v (x_c (eI 1)) (fun x13 => (xa_v (x_c (eI 2)) (fun x14 => (xa_v (x_c (eI 3)) (fun x15 => (xa_v (x_primT (xa_v (x_c (eI 1)) (fun x16 => (xa_v (x_call (xa_s 0 rfl (xa_v (x_c (eI 9)) (fun x17 => xa_nil)) (fun _ => rfl) (fun _ => puL)) rfl (fun _ _ h => tok__law_pick  _ _ _ h) (fun _ _ => rfl) (fun _ (zz : Int × (List Int)) => [(0, (eL eI) zz.2)]) (fun _ _ => rfl)) (fun x19 => xa_nil)))) (fun _ => op_add _ _)) (fun x20 => (xa_v (x_prim (xa_v (x_c (eI 1)) (fun x21 => (xa_v (x_call (xa_s 0 rfl (xa_v (x_c (eI 20)) (fun x22 => xa_nil)) (fun _ => rfl) (fun _ => puL)) rfl (fun _ _ h => tok__law_pick  _ _ _ h) (fun _ _ => rfl) (fun _ (zz : Int × (List Int)) => [(0, (eL eI) zz.2)]) (fun _ _ => rfl)) (fun x24 => xa_nil)))) (fun _ _ h => op_shl' h)) (fun x26 => (xa_p (x_var (d := eI x10) 1 rfl) (fun _ => puI _) (fun x27 => xa_nil)))))))))))))) rfl (by decide)) (fun x28 => (eL eI) [(1 : Int), (1 : Int), (2 : Int), (3 : Int), ((1 : Int) + x28.2.2.2.2.1.2.1.2.1), x28.2.2.2.2.2.1.2, x10]) rfl) (fun x29 => xa_nil)) (fun _ => rfl) (fun _ => puL)) rfl (fun _ _ h => tok__law_of__at1  _ _ _ h) (fun _ _ => rfl) (fun _ (zz : Int × (List Int)) => [(0, (eL eI) zz.2)]) (fun _ _ => rfl)) (.inl rfl) (fun x31 => (b_last (b_ret (x_prim (xa_n 2 rfl (xa_v (x_call (xa_s 0 rfl (xa_v (X.as (x_lst (xa_v (x_c (eI 1)) (fun x33 => (xa_v (x_c (eI 1)) (fun x34 => (xa_v (x_primT (xa_v (x_c (eI 1)) (fun x35 => xa_nil)) (fun _ => op_neg _)) (fun x36 => xa_nil)))))) rfl (by decide)) (fun x37 => (eL eI) [(1 : Int), (1 : Int), (-(1 : Int))]) rfl) (fun x38 => xa_nil)) (fun _ => rfl) (fun _ => puL)) rfl (fun _ _ h => tok__law_of__at2  _ _ _ h) (fun _ _ => rfl) (fun _ (zz : Int × (List Int)) => [(0, (eL eI) zz.2)]) (fun _ _ => rfl)) (fun x40 => xa_nil)) (fun _ => rfl) (puI _)) (fun _ _ h => op_mul h)) (fun x42 => (x42.2, x42.1.1.2.2)) (.inl rfl) (fun x42 => qf_ret rfl (by repeat (first | exact wk_nil | apply wk_a | apply wk_s))))))))) (by dsimp only [p__law_many])) rfl (by simp [okM]) (fun z => (coll_0P rfl coll_nilP))
theorem tok__law_joined (a0 : (Int × (List (Int × Int)) × (List Int))) (a1 : ((List Int) × (List (List Int)) × (List Int))) (a2 : Int) (a3 : Int) : ∀ z, p__law_joined a0 a1 a2 a3 = some z → f__law_joined [(eQ eI (eT (eP eI eI)) (eT eI)) a0, (eQ (eT eI) (eT (eT eI)) (eT eI)) a1, eI a2, eI a3] = .ok (eV z) [(eQ eI (eT (eP eI eI)) (eT eI)) a0, (eQ (eT eI) (eT (eT eI)) (eT eI)) a1, eI a2, eI a3] :=
  fn_t (p0 := [some ((eQ eI (eT (eP eI eI)) (eT eI)) a0), some ((eQ (eT eI) (eT (eT eI)) (eT eI)) a1), some (eI a2), some (eI a3), none, none]) (m := p__law_joined a0 a1 a2 a3) (rv := fun (z : PD) => eV z) (q := fun (z : PD) => [some ((eQ eI (eT (eP eI eI)) (eT eI)) a0), some ((eQ (eT eI) (eT (eT eI)) (eT eI)) a1), some (eI a2), some (eI a3), none, none]) (outs := fun z => [(eQ eI (eT (eP eI eI)) (eT eI)) a0, (eQ (eT eI) (eT (eT eI)) (eT eI)) a1, eI a2, eI a3]) (B.cv (b_setL eV (X.as (x_c (eI 0)) (fun x5 => eV (toPD puI (0 : Int))) rfl) (.inl rfl) (fun x6 x7 => (b_tryF (q := [some ((eQ eI (eT (eP eI eI)) (eT eI)) a0), some ((eQ (eT eI) (eT (eT eI)) (eT eI)) a1), some (eI a2), some (eI a3), some (eV x7), none]) (fun (x35 : (PD)) => [some ((eQ eI (eT (eP eI eI)) (eT eI)) a0), some ((eQ (eT eI) (eT (eT eI)) (eT eI)) a1), some (eI a2), some (eI a3), some (eV x35), none]) (bz_callF (xa_p (x_var (d := (eQ eI (eT (eP eI eI)) (eT eI)) a0) 0 rfl) (fun _ => (puQ puI (puT (puP puI puI)) (puT puI)) _) (fun x9 => (xa_p (x_var (d := (eQ (eT eI) (eT (eT eI)) (eT eI)) a1) 1 rfl) (fun _ => (puQ (puT puI) (puT (puT puI)) (puT puI)) _) (fun x10 => (xa_v (X.as (X.as (x_tup (xa_v (x_c (eS "join")) (fun x11 => (xa_p (x_var (d := eI a2) 2 rfl) (fun _ => puI _) (fun x12 => (xa_p (x_var (d := eI a3) 3 rfl) (fun _ => puI _) (fun x13 => xa_nil)))))) rfl (by decide)) (fun x14 => (eQ eS eI eI) (("join" : Str), a2, a3)) rfl) (fun x15 => eV (toPD (puQ puS puI puI) (("join" : Str), a2, a3))) rfl) (fun x16 => xa_nil)))))) (fun _ => (purs_c ((puQ puI (puT (puP puI puI)) (puT puI)) _) (purs_c ((puQ (puT puI) (puT (puT puI)) (puT puI)) _) (purs_c (puV _) purs_n)))) (fun _ z h => tokz_done _ _ _ z h) (fun _ => (by repeat (first | exact wk_nil | apply wk_a | apply wk_s)))) (b_last (b_setL eV (X.as (x_callP (xa_p (x_var (d := (eQ eI (eT (eP eI eI)) (eT eI)) a0) 0 rfl) (fun _ => (puQ puI (puT (puP puI puI)) (puT puI)) _) (fun x17 => (xa_p (x_var (d := (eQ (eT eI) (eT (eT eI)) (eT eI)) a1) 1 rfl) (fun _ => (puQ (puT puI) (puT (puT puI)) (puT puI)) _) (fun x18 => (xa_v (X.as (X.as (x_tup (xa_v (x_c (eS "join")) (fun x19 => (xa_p (x_var (d := eI a2) 2 rfl) (fun _ => puI _) (fun x20 => (xa_p (x_var (d := eI a3) 3 rfl) (fun _ => puI _) (fun x21 => xa_nil)))))) rfl (by decide)) (fun x22 => (eQ eS eI eI) (("join" : Str), a2, a3)) rfl) (fun x23 => eV (toPD (puQ puS puI puI) (("join" : Str), a2, a3))) rfl) (fun x24 => xa_nil)))))) rfl (fun _ _ h => tok_done  _ _ _ _ h)) (fun x26 => eV (toPD (puQ (puT puI) (puT (puT puI)) (puT puI)) x26.2)) rfl) (.inl rfl) (fun x27 x28 => (b_end (z := x28) (by repeat (first | exact wk_nil | apply wk_a | apply wk_s)))))) (b_last (b_setL eV (X.as (x_c PyData.none) (fun x30 => eV (toPD puU ())) rfl) (.inl rfl) (fun x31 x32 => (b_end (z := x32) (by repeat (first | exact wk_nil | apply wk_a | apply wk_s)))))) (b_end (z := x7) (by repeat (first | exact wk_nil | apply wk_a | apply wk_s))) (fun x35 => (b_last (b_ret (x_var (d := eV x35) 4 rfl) (fun x37 => x35) (.inr (fun _ => puV _)) (fun x37 => qf_ret rfl (by repeat (first | exact wk_nil | apply wk_a | apply wk_s)))))) (by simp) (fun d z => by have z : (none : Option D) = some d := z; cases z) (fun _ => (fun d z => by have z : (none : Option D) = some d := z; cases z))))) (by dsimp only [p__law_joined])) rfl (by simp [okM]) (fun z => (coll_0P rfl (coll_0P rfl (coll_0P rfl (coll_0P rfl coll_nilP)))))
theorem tok__law_due (a0 : ((List Int) × (List (List Int)) × (List Int))) (a1 : Int) (a2 : Int) : ∀ z, p__law_due a0 a1 a2 = some z → f__law_due [(eQ (eT eI) (eT (eT eI)) (eT eI)) a0, eI a1, eI a2] = .ok ((eO (eQ (eT eI) (eT (eT eI)) (eT eI))) z) [(eQ (eT eI) (eT (eT eI)) (eT eI)) a0, eI a1, eI a2] :=
  fn_t (p0 := [some ((eQ (eT eI) (eT (eT eI)) (eT eI)) a0), some (eI a1), some (eI a2), none, none]) (m := p__law_due a0 a1 a2) (rv := fun (z : (Option ((List Int) × (List (List Int)) × (List Int)))) => (eO (eQ (eT eI) (eT (eT eI)) (eT eI))) z) (q := fun (z : (Option ((List Int) × (List (List Int)) × (List Int)))) => [some ((eQ (eT eI) (eT (eT eI)) (eT eI)) a0), some (eI a1), some (eI a2), none, none]) (outs := fun z => [(eQ (eT eI) (eT (eT eI)) (eT eI)) a0, eI a1, eI a2]) (B.cv (b_set (x_primT (xa_v (x_primT (xa_p (x_var (d := (eQ (eT eI) (eT (eT eI)) (eT eI)) a0) 0 rfl) (fun _ => (puQ (puT puI) (puT (puT puI)) (puT puI)) _) (fun x4 => (xa_v (x_c (eI 1)) (fun x5 => xa_nil)))) (fun _ => op_ixQ1 (puT (puT puI)) _)) (fun x6 => xa_nil)) (fun _ => op_lstT (puT puI) _)) (.inl rfl) (fun x7 => (b_if (xt_orP (xt_tst (x_primT (xa_v (x_prim (xa_v (x_prim (xa_s 3 rfl (xa_p (x_var (d := eI a1) 1 rfl) (fun _ => puI _) (fun x8 => xa_nil)) (fun _ => rfl) (fun _ => puL)) (fun _ _ h => op_ixL (puT puI) h)) (fun x10 => (xa_v (x_c (eI 1)) (fun x11 => xa_nil)))) (fun _ _ h => op_ixT puI h)) (fun x13 => (xa_v (x_prim (xa_v (x_prim (xa_s 3 rfl (xa_p (x_var (d := eI a2) 2 rfl) (fun _ => puI _) (fun x14 => xa_nil)) (fun _ => rfl) (fun _ => puL)) (fun _ _ h => op_ixL (puT puI) h)) (fun x16 => (xa_v (x_c (eI 1)) (fun x17 => xa_nil)))) (fun _ _ h => op_ixT puI h)) (fun x19 => xa_nil)))) (fun _ => op_ne eqI (by decide) _ _))) (fun x20 => (xt_tst (x_primT (xa_v (x_prim (xa_v (x_prim (xa_s 3 rfl (xa_p (x_var (d := eI a1) 1 rfl) (fun _ => puI _) (fun x21 => xa_nil)) (fun _ => rfl) (fun _ => puL)) (fun _ _ h => op_ixL (puT puI) h)) (fun x23 => (xa_v (x_c (eI 2)) (fun x24 => xa_nil)))) (fun _ _ h => op_ixT puI h)) (fun x26 => (xa_v (x_prim (xa_v (x_prim (xa_s 3 rfl (xa_p (x_var (d := eI a2) 2 rfl) (fun _ => puI _) (fun x27 => xa_nil)) (fun _ => rfl) (fun _ => puL)) (fun _ _ h => op_ixL (puT puI) h)) (fun x29 => (xa_v (x_c (eI 2)) (fun x30 => xa_nil)))) (fun _ _ h => op_ixT puI h)) (fun x32 => xa_nil)))) (fun _ => op_ne eqI (by decide) _ _))))) (fun x34 => (b_ret (x_c PyData.none) (fun x35 => none) (.inl rfl) (fun x35 => qf_ret rfl (by repeat (first | exact wk_nil | apply wk_a | apply wk_s))))) (fun x34 => (b_skip (b_setL eI (x_primT (xa_v (x_prim (xa_v (x_prim (xa_s 3 rfl (xa_p (x_var (d := eI a1) 1 rfl) (fun _ => puI _) (fun x36 => xa_nil)) (fun _ => rfl) (fun _ => puL)) (fun _ _ h => op_ixL (puT puI) h)) (fun x38 => (xa_v (x_c (eI 0)) (fun x39 => xa_nil)))) (fun _ _ h => op_ixT puI h)) (fun x41 => (xa_v (x_prim (xa_v (x_prim (xa_s 3 rfl (xa_p (x_var (d := eI a2) 2 rfl) (fun _ => puI _) (fun x42 => xa_nil)) (fun _ => rfl) (fun _ => puL)) (fun _ _ h => op_ixL (puT puI) h)) (fun x44 => (xa_v (x_c (eI 0)) (fun x45 => xa_nil)))) (fun _ _ h => op_ixT puI h)) (fun x47 => xa_nil)))) (fun _ => op_add _ _)) (.inl rfl) (fun x48 x49 => (b_setIx (e1 := (eT eI)) (X.as (x_tup (xa_p (x_var (d := eI x49) 4 rfl) (fun _ => puI _) (fun x51 => (xa_v (x_prim (xa_v (x_prim (xa_s 3 rfl (xa_p (x_var (d := eI a1) 1 rfl) (fun _ => puI _) (fun x52 => xa_nil)) (fun _ => rfl) (fun _ => puL)) (fun _ _ h => op_ixL (puT puI) h)) (fun x54 => (xa_v (x_c (eI 1)) (fun x55 => xa_nil)))) (fun _ _ h => op_ixT puI h)) (fun x57 => (xa_v (x_prim (xa_v (x_prim (xa_s 3 rfl (xa_p (x_var (d := eI a1) 1 rfl) (fun _ => puI _) (fun x58 => xa_nil)) (fun _ => rfl) (fun _ => puL)) (fun _ _ h => op_ixL (puT puI) h)) (fun x60 => (xa_v (x_c (eI 2)) (fun x61 => xa_nil)))) (fun _ _ h => op_ixT puI h)) (fun x63 => xa_nil)))))) rfl (by decide)) (fun x64 => (eT eI) [x49, x64.2.1.2, x64.2.2.1.2]) rfl) (puT puI) (fun _ => ⟨_, rfl⟩) (fun x65 => (x_var (d := eI a1) 1 rfl)) (fun _ _ => .inl rfl) (fun _ _ => rfl) (fun x65 x66 x67 => (b_expr (x_mt rfl (xa_p (x_var (d := eI a2) 2 rfl) (fun _ => puI _) (fun x69 => xa_nil)) rfl (fun _ => rfl) (fun _ _ h => mt_pop' (puT puI) h) (fun _ z => (puT puI) z.1)) (fun x71 => (b_ifj (xt_tst (x_primT (xa_p (x_var (d := eI x49) 4 rfl) (fun _ => puI _) (fun x72 => (xa_v (x_c (eI 0)) (fun x73 => xa_nil)))) (fun _ => op_eq eqI (by decide) _ _))) (fun x74 (x78 : ((List (List Int)))) => [some ((eQ (eT eI) (eT (eT eI)) (eT eI)) a0), some (eI a1), some (eI a2), some ((eL (eT eI)) x78), some (eI x49)]) (fun x74 => (b_last (b_expr (x_mt rfl (xa_p (x_var (d := eI a1) 1 rfl) (fun _ => puI _) (fun x75 => xa_nil)) rfl (fun _ => rfl) (fun _ _ h => mt_pop' (puT puI) h) (fun _ z => (puT puI) z.1)) (fun x77 => (b_end (z := x77.2.2) (by repeat (first | exact wk_nil | apply wk_a | apply wk_s))))))) (fun x74 => (b_end (z := x71.2.2) (by repeat (first | exact wk_nil | apply wk_a | apply wk_s)))) (fun x74 x78 => (b_last (b_ret (X.as (x_tup (xa_v (x_primT (xa_p (x_var (d := (eQ (eT eI) (eT (eT eI)) (eT eI)) a0) 0 rfl) (fun _ => (puQ (puT puI) (puT (puT puI)) (puT puI)) _) (fun x80 => (xa_v (x_c (eI 0)) (fun x81 => xa_nil)))) (fun _ => op_ixQ0 (puT puI) _)) (fun x82 => (xa_v (x_primT (xa_s 3 rfl xa_nil (fun _ => rfl) (fun _ => puL)) (fun _ => op_tupL (puT puI) _)) (fun x83 => (xa_v (x_primT (xa_p (x_var (d := (eQ (eT eI) (eT (eT eI)) (eT eI)) a0) 0 rfl) (fun _ => (puQ (puT puI) (puT (puT puI)) (puT puI)) _) (fun x84 => (xa_v (x_c (eI 2)) (fun x85 => xa_nil)))) (fun _ => op_ixQ2 (puT puI) _)) (fun x86 => xa_nil)))))) rfl (by decide)) (fun x87 => (eQ (eT eI) (eT (eT eI)) (eT eI)) (a0.1, x78, a0.2.2)) rfl) (fun x88 => (some (a0.1, x78, a0.2.2))) (.inl rfl) (fun x88 => qf_ret rfl (by repeat (first | exact wk_nil | apply wk_a | apply wk_s)))))))))))))))))) (by dsimp only [p__law_due])) rfl (by simp [okM]) (fun z => (coll_0P rfl (coll_0P rfl (coll_0P rfl coll_nilP))))
theorem tok_law (n : Nat) (a0 : (List Int)) : ∀ z, p_law n a0 = some z → f_law n [eZ a0] = .ok (eB z) [eZ a0] :=
  fn_t (p0 := [some (eZ a0), none, none, none, none, none, none, none, none, none, none]) (m := p_law n a0) (rv := fun (z : Bool) => eB z) (q := fun (z : Bool) => [some (eZ a0), none, none, none, none, none, none, none, none, none, none]) (outs := fun z => [eZ a0]) (B.cv (b_forR (xi_mkP (xa_v (x_primT (xa_v (x_c (eI 1)) (fun x2 => (xa_v (x_primT (xa_v (x_c (eI 8)) (fun x3 => (xa_v (x_primT (xa_p (x_var (d := eZ a0) 0 rfl) (fun _ => puZ _) (fun x4 => xa_nil)) (fun _ => op_lenZ _)) (fun x5 => xa_nil)))) (fun _ => op_min2 _ _)) (fun x6 => xa_nil)))) (fun _ => op_max2 _ _)) (fun x7 => xa_nil)) rfl puI (fun _ _ h => it_r1 h)) (fun x9 (x10 : Unit) => [some (eZ a0), none, none, none, none, none, none, none, none, none, none]) (fun x9 => ()) (fun (z : Bool) => eB z) (fun x9 x168 => [some (eZ a0), none, none, none, none, none, none, none, none, none, none]) (fun z => z) (fun _ => rfl) (fun x9 => by repeat (first | exact wk_nil | apply wk_a | apply wk_s)) (fun x9 x10 x11 => as_nm) (fun x9 x10 x11 => (b_set (x_callP (xa_p (x_var (d := eZ a0) 0 rfl) (fun _ => puZ _) (fun x14 => (xa_p (x_var (d := eI x11) 1 rfl) (fun _ => puI _) (fun x15 => xa_nil)))) rfl (fun _ _ h => tok__law_left  _ _ _ h)) (.inl rfl) (fun x17 => (b_set (x_call (xa_s 2 rfl (xa_v (x_call (xa_s 2 rfl (xa_v (X.as (x_lst (xa_v (x_c (eI 1)) (fun x18 => (xa_v (x_c (eI 2)) (fun x19 => (xa_v (x_c (eI 3)) (fun x20 => (xa_v (x_c (eI 4)) (fun x21 => (xa_v (x_c (eI 6)) (fun x22 => xa_nil)))))))))) rfl (by decide)) (fun x23 => (eL eI) [(1 : Int), (2 : Int), (3 : Int), (4 : Int), (6 : Int)]) rfl) (fun x24 => xa_nil)) (fun _ => rfl) (fun _ => puL)) rfl (fun _ _ h => tok__law_of__at3  _ _ _ h) (fun _ _ => rfl) (fun _ (zz : Int × (List Int)) => [(2, (eL eI) zz.2)]) (fun _ _ => rfl)) (fun x26 => (xa_v (x_c (eI 8)) (fun x27 => xa_nil)))) (fun _ => rfl) (fun _ => puL)) rfl (fun _ _ h => tok__law_net n _ _ _ _ h) (fun _ _ => rfl) (fun _ (zz : (Int × (List (Int × Int)) × (List Int)) × (List Int)) => [(2, (eL eI) zz.2)]) (fun _ _ => rfl)) (.inl rfl) (fun x29 => (b_set (x_callP (xa_p (x_var (d := (eQ eI (eT (eP eI eI)) (eT eI)) x29.2.1) 3 rfl) (fun _ => (puQ puI (puT (puP puI puI)) (puT puI)) _) (fun x30 => xa_nil)) rfl (fun _ _ h => tok_begun  _ _ h)) (.inl rfl) (fun x32 => (b_par (xa_v (x_call (xa_s 2 rfl (xa_v (x_primT (xa_p (x_var (d := (eQ eI (eT (eP eI eI)) (eT eI)) x29.2.1) 3 rfl) (fun _ => (puQ puI (puT (puP puI puI)) (puT puI)) _) (fun x33 => (xa_v (x_c (eI 0)) (fun x34 => xa_nil)))) (fun _ => op_ixQ0 puI _)) (fun x35 => xa_nil)) (fun _ => rfl) (fun _ => puL)) rfl (fun _ _ h => tok__law_pick  _ _ _ h) (fun _ _ => rfl) (fun _ (zz : Int × (List Int)) => [(2, (eL eI) zz.2)]) (fun _ _ => rfl)) (fun x37 => (xa_v (x_c (eI 1)) (fun x38 => xa_nil)))) rfl (fun _ => rfl) (fun _ => put2) (fun x39 => (b_for (xi_mkP (xa_v (x_primT (xa_v (x_c (eI 2)) (fun x40 => (xa_v (x_call (xa_s 2 rfl (xa_v (x_c (eI 5)) (fun x41 => xa_nil)) (fun _ => rfl) (fun _ => puL)) rfl (fun _ _ h => tok__law_pick  _ _ _ h) (fun _ _ => rfl) (fun _ (zz : Int × (List Int)) => [(2, (eL eI) zz.2)]) (fun _ _ => rfl)) (fun x43 => xa_nil)))) (fun _ => op_add _ _)) (fun x44 => xa_nil)) rfl puI (fun _ _ h => it_r1 h)) (fun x46 (x47 : ((List Int) × ((List Int) × (List (List Int)) × (List Int)) × Int)) => [some (eZ a0), some (eI x11), some ((eL eI) x47.1), some ((eQ eI (eT (eP eI eI)) (eT eI)) x29.2.1), some ((eQ (eT eI) (eT (eT eI)) (eT eI)) x47.2.1), some (eI x39.1.2.1), some (eI x47.2.2), none, none, none, none]) (fun x46 => (x46.1.1.2.1.2.2, x32.2, (1 : Int))) (fun _ => rfl) (fun x46 => by repeat (first | exact wk_nil | apply wk_a | apply wk_s)) (fun x46 x47 x48 => as_nm) (fun x46 x47 x48 => (b_set (x_call (xa_s 2 rfl (xa_v (X.as (x_lst (xa_v (x_call (xa_s 2 rfl xa_nil (fun _ => rfl) (fun _ => puL)) rfl (fun _ _ h => tok__law_many  _ _ h) (fun _ _ => rfl) (fun _ (zz : Int × (List Int)) => [(2, (eL eI) zz.2)]) (fun _ _ => rfl)) (fun x52 => (xa_v (x_primT (xa_v (x_c (eI 0)) (fun x53 => (xa_p (x_var (d := eI x47.2.2) 6 rfl) (fun _ => puI _) (fun x54 => xa_nil)))) (fun _ => op_sub' _ _)) (fun x55 => (xa_v (x_primT (xa_v (x_c (eI 0)) (fun x56 => (xa_p (x_var (d := eI x47.2.2) 6 rfl) (fun _ => puI _) (fun x57 => xa_nil)))) (fun _ => op_sub' _ _)) (fun x58 => xa_nil)))))) rfl (by decide)) (fun x59 => (eL eI) [x59.1.2.1, ((0 : Int) - x47.2.2), ((0 : Int) - x47.2.2)]) rfl) (fun x60 => xa_nil)) (fun _ => rfl) (fun _ => puL)) rfl (fun _ _ h => tok__law_of__at4  _ _ _ h) (fun _ _ => rfl) (fun _ (zz : Int × (List Int)) => [(2, (eL eI) zz.2)]) (fun _ _ => rfl)) (.inl rfl) (fun x62 => (b_last (b_set (x_callP (xa_n 3 rfl (xa_n 4 rfl (xa_v (X.as (X.as (x_tup (xa_v (x_c (eS "put")) (fun x65 => (xa_v (x_call (xa_s 2 rfl (xa_v (X.as (x_lst (xa_n 5 rfl (xa_n 5 rfl (xa_v (x_call (xa_s 2 rfl (xa_v (x_primT (xa_p (x_var (d := (eQ eI (eT (eP eI eI)) (eT eI)) x29.2.1) 3 rfl) (fun _ => (puQ puI (puT (puP puI puI)) (puT puI)) _) (fun x68 => (xa_v (x_c (eI 0)) (fun x69 => xa_nil)))) (fun _ => op_ixQ0 puI _)) (fun x70 => xa_nil)) (fun _ => rfl) (fun _ => puL)) rfl (fun _ _ h => tok__law_pick  _ _ _ h) (fun _ _ => rfl) (fun _ (zz : Int × (List Int)) => [(2, (eL eI) zz.2)]) (fun _ _ => rfl)) (fun x72 => xa_nil)) (fun _ => rfl) (puI _)) (fun _ => rfl) (puI _)) rfl (by decide)) (fun x73 => (eL eI) [x39.1.2.1, x39.1.2.1, x73.1.2.1]) rfl) (fun x74 => xa_nil)) (fun _ => rfl) (fun _ => puL)) rfl (fun _ _ h => tok__law_of__at5  _ _ _ h) (fun _ _ => rfl) (fun _ (zz : Int × (List Int)) => [(2, (eL eI) zz.2)]) (fun _ _ => rfl)) (fun x76 => (xa_p (x_var (d := eI x62.2.1) 6 rfl) (fun _ => puI _) (fun x77 => xa_nil)))))) rfl (by decide)) (fun x78 => (eQ eS eI eI) (("put" : Str), x78.2.1.2.1, x62.2.1)) rfl) (fun x79 => eV (toPD (puQ puS puI puI) (("put" : Str), x79.2.1.2.1, x62.2.1))) rfl) (fun x80 => xa_nil)) (fun _ => rfl) ((puQ (puT puI) (puT (puT puI)) (puT puI)) _)) (fun _ => rfl) ((puQ puI (puT (puP puI puI)) (puT puI)) _)) rfl (fun _ _ h => tok_done  _ _ _ _ h)) (.inl rfl) (fun x82 => (b_endC (z := (x82.1.1.2.1.2.2, x82.2, x62.2.1)) (by repeat (first | exact wk_nil | apply wk_a | apply wk_s))))))))) (fun x46 x47 => (b_for (xi_mkP (xa_v (x_call (xa_s 2 rfl (xa_v (x_c (eI 7)) (fun x83 => xa_nil)) (fun _ => rfl) (fun _ => puL)) rfl (fun _ _ h => tok__law_pick  _ _ _ h) (fun _ _ => rfl) (fun _ (zz : Int × (List Int)) => [(2, (eL eI) zz.2)]) (fun _ _ => rfl)) (fun x85 => xa_nil)) rfl puI (fun _ _ h => it_r1 h)) (fun x87 (x88 : ((List Int) × ((List Int) × (List (List Int)) × (List Int)))) => [some (eZ a0), some (eI x11), some ((eL eI) x88.1), some ((eQ eI (eT (eP eI eI)) (eT eI)) x29.2.1), some ((eQ (eT eI) (eT (eT eI)) (eT eI)) x88.2), some (eI x39.1.2.1), some (eI x47.2.2), none, none, none, none]) (fun x87 => (x87.1.1.2.2, x47.2.1)) (fun _ => rfl) (fun x87 => by repeat (first | exact wk_nil | apply wk_a | apply wk_s)) (fun x87 x88 x89 => as_nm) (fun x87 x88 x89 => (b_last (b_if (xt_tst (x_primT (xa_v (x_primT (xa_p (x_var (d := (eQ (eT eI) (eT (eT eI)) (eT eI)) x88.2) 4 rfl) (fun _ => (puQ (puT puI) (puT (puT puI)) (puT puI)) _) (fun x92 => (xa_v (x_c (eI 1)) (fun x93 => xa_nil)))) (fun _ => op_ixQ1 (puT (puT puI)) _)) (fun x94 => (xa_v (X.as (x_tup xa_nil rfl (by decide)) (fun x95 => (eT (eT eI)) ([] : (List (List Int)))) rfl) (fun x96 => xa_nil)))) (fun _ => op_ne (eqT (eqT eqI)) (by decide) _ _))) (fun x97 => (b_set (x_callP (xa_n 3 rfl (xa_n 4 rfl (xa_v (X.as (X.as (x_tup (xa_v (x_c (eS "step")) (fun x100 => (xa_v (x_call (xa_s 2 rfl (xa_v (x_primT (xa_v (x_primT (xa_p (x_var (d := (eQ (eT eI) (eT (eT eI)) (eT eI)) x88.2) 4 rfl) (fun _ => (puQ (puT puI) (puT (puT puI)) (puT puI)) _) (fun x101 => (xa_v (x_c (eI 1)) (fun x102 => xa_nil)))) (fun _ => op_ixQ1 (puT (puT puI)) _)) (fun x103 => xa_nil)) (fun _ => op_lenT _)) (fun x104 => xa_nil)) (fun _ => rfl) (fun _ => puL)) rfl (fun _ _ h => tok__law_pick  _ _ _ h) (fun _ _ => rfl) (fun _ (zz : Int × (List Int)) => [(2, (eL eI) zz.2)]) (fun _ _ => rfl)) (fun x106 => xa_nil)))) rfl (by decide)) (fun x107 => (eP eS eI) (("step" : Str), x107.2.1.2.1)) rfl) (fun x108 => eV (toPD (puP puS puI) (("step" : Str), x108.2.1.2.1))) rfl) (fun x109 => xa_nil)) (fun _ => rfl) ((puQ (puT puI) (puT (puT puI)) (puT puI)) _)) (fun _ => rfl) ((puQ puI (puT (puP puI puI)) (puT puI)) _)) rfl (fun _ _ h => tok_done  _ _ _ _ h)) (.inl rfl) (fun x111 => (b_endC (z := (x111.1.1.2.1.2.2, x111.2)) (by repeat (first | exact wk_nil | apply wk_a | apply wk_s)))))) (fun x97 => (b_skip (b_endC (z := (x88.1, x88.2)) (by repeat (first | exact wk_nil | apply wk_a | apply wk_s)))))))) (fun x87 x88 => (b_last (b_forR (xi_mk (xa_v (x_c (eI 8)) (fun x112 => xa_nil)) rfl puI (fun _ => it_r1C (by decide))) (fun x113 (x114 : ((List Int) × ((List Int) × (List (List Int)) × (List Int)))) => [some (eZ a0), some (eI x11), some ((eL eI) x114.1), some ((eQ eI (eT (eP eI eI)) (eT eI)) x29.2.1), some ((eQ (eT eI) (eT (eT eI)) (eT eI)) x114.2), some (eI x39.1.2.1), some (eI x47.2.2), none, none, none, none]) (fun x113 => (x88.1, x88.2)) (fun (z : Bool) => eB z) (fun x113 x166 => [some (eZ a0), none, none, none, none, none, none, none, none, none, none]) Lf.ret (fun _ => rfl) (fun x113 => by repeat (first | exact wk_nil | apply wk_a | apply wk_s)) (fun x113 x114 x115 => as_nm) (fun x113 x114 x115 => (b_last (b_if (xt_tst (x_primT (xa_v (x_primT (xa_v (x_primT (xa_p (x_var (d := (eQ (eT eI) (eT (eT eI)) (eT eI)) x114.2) 4 rfl) (fun _ => (puQ (puT puI) (puT (puT puI)) (puT puI)) _) (fun x118 => (xa_v (x_c (eI 1)) (fun x119 => xa_nil)))) (fun _ => op_ixQ1 (puT (puT puI)) _)) (fun x120 => xa_nil)) (fun _ => op_lenT _)) (fun x121 => (xa_v (x_c (eI 1)) (fun x122 => xa_nil)))) (fun _ => op_gt' _ _))) (fun x123 => (b_asc (b_set (x_call (xa_s 2 rfl (xa_v (x_primT (xa_v (x_primT (xa_v (x_primT (xa_p (x_var (d := (eQ (eT eI) (eT (eT eI)) (eT eI)) x114.2) 4 rfl) (fun _ => (puQ (puT puI) (puT (puT puI)) (puT puI)) _) (fun x124 => (xa_v (x_c (eI 1)) (fun x125 => xa_nil)))) (fun _ => op_ixQ1 (puT (puT puI)) _)) (fun x126 => xa_nil)) (fun _ => op_lenT _)) (fun x127 => (xa_v (x_c (eI 1)) (fun x128 => xa_nil)))) (fun _ => op_sub' _ _)) (fun x129 => xa_nil)) (fun _ => rfl) (fun _ => puL)) rfl (fun _ _ h => tok__law_pick  _ _ _ h) (fun _ _ => rfl) (fun _ (zz : Int × (List Int)) => [(2, (eL eI) zz.2)]) (fun _ _ => rfl)) (.inl rfl) (fun x131 => (b_asc (b_setL eI (x_primT (xa_v (x_primT (xa_p (x_var (d := eI x131.2.1) 8 rfl) (fun _ => puI _) (fun x132 => (xa_v (x_c (eI 1)) (fun x133 => xa_nil)))) (fun _ => op_add _ _)) (fun x134 => (xa_v (x_call (xa_s 2 rfl (xa_v (x_primT (xa_v (x_primT (xa_v (x_primT (xa_v (x_primT (xa_p (x_var (d := (eQ (eT eI) (eT (eT eI)) (eT eI)) x114.2) 4 rfl) (fun _ => (puQ (puT puI) (puT (puT puI)) (puT puI)) _) (fun x135 => (xa_v (x_c (eI 1)) (fun x136 => xa_nil)))) (fun _ => op_ixQ1 (puT (puT puI)) _)) (fun x137 => xa_nil)) (fun _ => op_lenT _)) (fun x138 => (xa_v (x_c (eI 1)) (fun x139 => xa_nil)))) (fun _ => op_sub' _ _)) (fun x140 => (xa_p (x_var (d := eI x131.2.1) 8 rfl) (fun _ => puI _) (fun x141 => xa_nil)))) (fun _ => op_sub' _ _)) (fun x142 => xa_nil)) (fun _ => rfl) (fun _ => puL)) rfl (fun _ _ h => tok__law_pick  _ _ _ h) (fun _ _ => rfl) (fun _ (zz : Int × (List Int)) => [(2, (eL eI) zz.2)]) (fun _ _ => rfl)) (fun x144 => xa_nil)))) (fun _ => op_add _ _)) (.inl rfl) (fun x145 x146 => (b_asc (b_set (x_callP (xa_p (x_var (d := (eQ (eT eI) (eT (eT eI)) (eT eI)) x114.2) 4 rfl) (fun _ => (puQ (puT puI) (puT (puT puI)) (puT puI)) _) (fun x148 => (xa_p (x_var (d := eI x131.2.1) 8 rfl) (fun _ => puI _) (fun x149 => (xa_p (x_var (d := eI x146) 9 rfl) (fun _ => puI _) (fun x150 => xa_nil)))))) rfl (fun _ _ h => tok__law_due  _ _ _ _ h)) (.inl rfl) (fun x152 => (b_asc (b_if (xt_tst (x_prim (xa_v (x_callP (xa_p (x_var (d := (eQ eI (eT (eP eI eI)) (eT eI)) x29.2.1) 3 rfl) (fun _ => (puQ puI (puT (puP puI puI)) (puT puI)) _) (fun x153 => (xa_p (x_var (d := (eQ (eT eI) (eT (eT eI)) (eT eI)) x114.2) 4 rfl) (fun _ => (puQ (puT puI) (puT (puT puI)) (puT puI)) _) (fun x154 => (xa_p (x_var (d := eI x131.2.1) 8 rfl) (fun _ => puI _) (fun x155 => (xa_p (x_var (d := eI x146) 9 rfl) (fun _ => puI _) (fun x156 => xa_nil)))))))) rfl (fun _ _ h => tok__law_joined  _ _ _ _ _ h)) (fun x158 => (xa_p (x_var (d := (eO (eQ (eT eI) (eT (eT eI)) (eT eI))) x152.2) 10 rfl) (fun _ => (puO' (puQ (puT puI) (puT (puT puI)) (puT puI))) _) (fun x159 => xa_nil)))) (fun _ _ h => dB_ok h))) (fun x161 => (b_ret (x_c (eB false)) (fun x162 => (Lf.ret false)) (.inl rfl) (fun x162 => ql_ret rfl (by repeat (first | exact wk_nil | apply wk_a | apply wk_s))))) (fun x161 => (b_skip (b_setL (eQ (eT eI) (eT (eT eI)) (eT eI)) (x_orV (e := (eQ (eT eI) (eT (eT eI)) (eT eI))) (w := fun _ => _) (fun _ => ⟨_, _, rfl⟩) (x_var (d := (eO (eQ (eT eI) (eT (eT eI)) (eT eI))) x152.2) 10 rfl) (fun _ => (x_var (d := (eQ (eT eI) (eT (eT eI)) (eT eI)) x114.2) 4 rfl))) (.inr (fun _ => (puQ (puT puI) (puT (puT puI)) (puT puI)) _)) (fun x163 x164 => (b_endL (z := (x145.2.1.2.2, x164)) (by repeat (first | exact wk_nil | apply wk_a | apply wk_s))))))))))))))))))) (fun x123 => (b_skip (b_endL (z := (x114.1, x114.2)) (by repeat (first | exact wk_nil | apply wk_a | apply wk_s)))))))) (fun x113 x166 => ql_ret rfl (by repeat (first | exact wk_nil | apply wk_a | apply wk_s))) (fun x113 x114 => (b_endL (z := ()) (by repeat (first | exact wk_nil | apply wk_a | apply wk_s))))))))))))))))))) (fun x9 x168 => qf_ret rfl (by repeat (first | exact wk_nil | apply wk_a | apply wk_s))) (fun x9 x10 => (b_last (b_ret (x_c (eB true)) (fun x167 => true) (.inl rfl) (fun x167 => qf_ret rfl (by repeat (first | exact wk_nil | apply wk_a | apply wk_s))))))) (by dsimp only [p_law])) rfl (by simp [okM]) (fun z => (coll_0P rfl coll_nilP))
/-! digits picked of a cell's own and of numbers mixed -/
def St2 (s : List Int) : Prop := ∃ a b : Int, s = [a, b] ∧ 0 ≤ a ∧ 0 ≤ b ∧ b < 2147483647
theorem pick_w {s : List Int} {m : Int} (h : St2 s) (hm : 0 < m) (hm2 : m < 10000000) : Sp (p__law_pick s m) (fun r => 0 ≤ r.1 ∧ r.1 < m ∧ St2 r.2) := by
  obtain ⟨a, b, rfl, ha, hb, hb2⟩ := h
  unfold p__law_pick
  simp only [at0, at1, set0, set1, Option.bind_some]
  refine w_ite (fun c0 => ?_) fun c0 => ?_
  · rw [modT_of hm, Option.bind_some, divT_of hm (by omega)]
    exact w_some ⟨Int.emod_nonneg _ (by omega), Int.emod_lt_of_pos _ hm, _, _, rfl, Int.ediv_nonneg ha (by omega), hb, hb2⟩
  · rw [mulT_l (by omega) (by omega), Option.bind_some, modT_of hm]
    exact w_some ⟨Int.emod_nonneg _ (by omega), Int.emod_lt_of_pos _ hm, _, _, rfl, ha, by omega, by omega⟩
theorem tenN_pos (n : Nat) : 0 < tenN n := by
  unfold tenN
  exact Int.natCast_pos.mpr (Nat.pow_pos (by decide))
theorem cell_at_w (ns : List Int) (k : Int) (h : 0 ≤ k) : Sp (p__law_cell_at ns k) (fun _ => True) := by
  unfold p__law_cell_at
  refine w_ite (fun c => ?_) fun c => w_some trivial
  have c := of_decide_eq_true c
  rw [atI_get' h c]
  exact w_some trivial
theorem left_w (ns : List Int) (k : Int) (h0 : 0 ≤ k) (h1 : k < 1000000) : Sp (p__law_left ns k) St2 := by
  unfold p__law_left
  have hp : 0 < max (1 : Int) (ns.length : Int) := by omega
  rw [modT_of hp, Option.bind_some]
  refine w_bind (cell_at_w ns _ (Int.emod_nonneg _ (by omega))) fun cell _ => ?_
  rw [mulT_r (by omega) (by omega), Option.bind_some]
  refine w_let fun seed hs => ?_
  rw [modT_of (tenN_pos 2000), Option.bind_some]
  refine w_some ⟨_, _, rfl, Int.emod_nonneg _ (by have := tenN_pos 2000; omega), ?_, ?_⟩
  · rw [hs]; exact Int.emod_nonneg _ (by decide)
  · rw [hs]; exact Int.emod_lt_of_pos _ (by decide)
/-! nets that are drawn -/
abbrev Net := Int × List (Int × Int) × List Int
def GoodF (L : Int) (p : Int × Int) : Prop := 0 ≤ p.1 ∧ p.1 < L ∧ 0 ≤ p.2 ∧ p.2 < L ∧ p.1 ≠ p.2
structure GoodN (N : Net) : Prop where
  l1 : 1 ≤ N.1
  l16 : N.1 ≤ 16
  many : N.2.1.length ≤ 128
  forks : ∀ p ∈ N.2.1, GoodF N.1 p
  ends : N.2.2.Perm (rngI 0 N.1.toNat)
theorem GoodN.elen {N : Net} (h : GoodN N) : N.2.2.length = N.1.toNat := by rw [h.ends.length_eq, rngI_len]
theorem GoodN.eget {N : Net} (h : GoodN N) {x : Int} (hx : x ∈ N.2.2) : 0 ≤ x ∧ x < N.1 := by
  have := rngI_mem (h.ends.mem_iff.mp hx)
  have := h.l1
  omega
theorem ring_ne {L a b : Int} (hL : 2 ≤ L) (a0 : 0 ≤ a) (a1 : a < L) (b0 : 0 ≤ b) (b1 : b < L - 1) : (a + 1 + b) % L ≠ a := by
  intro z
  rcases Int.lt_or_le (a + 1 + b) L with y | y
  · rw [Int.emod_eq_of_lt (by omega) y] at z; omega
  · rw [show a + 1 + b = (a + 1 + b - L) + L * 1 by omega, Int.add_mul_emod_self_left, Int.emod_eq_of_lt (by omega) (by omega)] at z; omega
theorem next_ne {L k : Int} (hL : 2 ≤ L) : k % L ≠ (k + 1) % L := by
  intro z
  have q1 := Int.emod_nonneg k (show L ≠ 0 by omega)
  have q2 := Int.emod_lt_of_pos k (show 0 < L by omega)
  have := ring_ne (b := 0) hL q1 q2 (by omega) (by omega)
  apply this
  rw [Int.add_zero, Int.emod_add_emod]
  exact z.symm
theorem perm_pop {α : Type} (lf en : List α) (j : Nat) (hj : j < lf.length) : (lf.eraseIdx j ++ (en ++ [lf[j]])).Perm (lf ++ en) := by
  have e : lf.Perm (lf[j] :: lf.eraseIdx j) := by
    rw [List.eraseIdx_eq_take_drop_succ]
    have z : lf = lf.take j ++ lf[j] :: lf.drop (j + 1) := by
      rw [← List.drop_eq_getElem_cons hj, List.take_append_drop]
    conv => lhs; rw [z]
    exact List.perm_middle
  refine .trans ?_ (e.append_right en).symm
  rw [← List.append_assoc]
  exact (List.perm_append_comm (l₁ := lf.eraseIdx j ++ en) (l₂ := [lf[j]]))
/-! what is drawn out of a list, one by one -/
def placedF : (List Int) × (List Int) × (List Int) → Option (Option (Lf ((List Int) × (List Int) × (List Int)) ((List Int) × (List Int)))) := (fun (s7 : ((List Int) × (List Int) × (List Int))) => if (!decide (s7.2.1 = ([] : (List Int)))) = true then (((p__law_pick  s7.1 (s7.2.1.length : Int))).bind fun t13 => ((popT s7.2.1 t13.1)).bind fun t15 => ((appT s7.2.2 t15.1)).bind fun found => some (.go (t13.2, t15.2, found))).bind fun w => some (some w) else some none)
theorem placed_while : ∀ (m n : Nat) (s xs fs : List Int), xs.length = m → m < n → St2 s → fs.length + m ≤ 1000 →
    Sp (lpW placedF n (s, xs, fs)) (Go fun w => St2 w.1 ∧ w.2.2.Perm (xs ++ fs))
  | _, 0, _, _, _, _, h, _, _ => by omega
  | 0, n + 1, s, xs, fs, hr, _, hs, _ => by
    have : xs = [] := List.length_eq_zero_iff.mp hr
    subst this
    exact ⟨_, rfl, _, rfl, hs, .refl _⟩
  | m + 1, n + 1, s, xs, fs, hr, hn, hs, hl => by
    have hne : decide (xs = ([] : List Int)) = false := by cases xs with
      | nil => simp at hr
      | cons _ _ => simp
    obtain ⟨u, e, u0, u1, hu⟩ := pick_w hs (m := (xs.length : Int)) (by omega) (by omega)
    have hk : u.1.toNat < xs.length := by omega
    have ep := popT_of (xs := xs) (by omega) u0 (by omega)
    have hp := perm_pop xs fs u.1.toNat hk
    have hlen : (xs.eraseIdx u.1.toNat).length = m := by rw [List.length_eraseIdx_of_lt hk]; omega
    generalize xs.eraseIdx u.1.toNat = xs2 at hp hlen ep
    generalize xs[u.1.toNat] = f at hp ep
    have st : placedF (s, xs, fs) = some (some (.go (u.2, xs2, fs ++ [f]))) := by
      unfold placedF
      simp only [hne, Bool.not_false, if_true]
      rw [e, Option.bind_some, ep, Option.bind_some]
      simp only []
      rw [appT_of (by omega)]; rfl
    rw [lpW, st, Option.bind_some]
    obtain ⟨x, x1, y, x2, y1, y2⟩ := placed_while m n u.2 xs2 (fs ++ [f]) hlen (by omega) hu (by simp; omega)
    exact ⟨x, x1, y, x2, y1, y2.trans hp⟩
theorem placed_w {n : Nat} {s xs : List Int} (hn : xs.length < n) (hx : xs.length ≤ 900) (h : St2 s) : Sp (p__law_placed n s xs) (fun r => r.1.Perm xs ∧ St2 r.2) := by
  unfold p__law_placed
  refine w_let fun f0 hf0 => ?_
  subst hf0
  refine w_on (placed_while _ n s xs [] rfl hn h (by simp; omega)) fun w ⟨w1, w2⟩ => w_some ⟨by simpa using w2, w1⟩
/-! a net drawn, its ends placed -/
theorem netP_w {n : Nat} (hn : 17 ≤ n) {s : List Int} (h : St2 s) {L most : Int} (hL : 1 ≤ L) (hL2 : L ≤ 16) (hm0 : 0 ≤ most) (hm1 : most ≤ 128) : Sp (p__law_net n s L most) (fun r => GoodN r.1 ∧ r.1.1 = L ∧ St2 r.2) := by
  unfold p__law_net
  refine w_let fun f0 hf0 => ?_
  subst hf0
  refine w_bind (pick_w h (by omega) (by omega)) fun r1 ⟨a0, a1, s1⟩ => ?_
  obtain ⟨many, hmany⟩ : ∃ x, x = r1.1 * (if decide (1 < L) = true then 1 else 0) := ⟨_, rfl⟩
  rw [← hmany]
  have hmany : 0 ≤ many ∧ many ≤ most ∧ (0 < many → 2 ≤ L) := by
    rw [hmany]
    by_cases c : (1 : Int) < L
    · rw [decide_eq_true c, if_pos rfl]; omega
    · rw [decide_eq_false c, if_neg (by simp)]; omega
  rw [rngO_of (by omega), Option.bind_some]
  refine w_bind (w_lpN (fun i s => s.2.length = i ∧ (∀ p ∈ s.2, GoodF L p) ∧ St2 s.1) ⟨rfl, by simp, s1⟩ fun i s y hy hi => ?_) fun sF hF => ?_
  · obtain ⟨y1, y2⟩ := rngI_get hy
    obtain ⟨h1, h2, h3⟩ := hi
    have hL2 : 2 ≤ L := by omega
    refine w_bind (pick_w h3 (by omega) (by omega)) fun u1 ⟨c0, c1, t1⟩ => ?_
    refine w_bind (pick_w t1 (by omega) (by omega)) fun u2 ⟨d0, d1, t2⟩ => ?_
    rw [modT_of (by omega), Option.bind_some]
    have m0 := Int.emod_nonneg (u1.1 + 1 + u2.1) (show L ≠ 0 by omega)
    have m1 := Int.emod_lt_of_pos (u1.1 + 1 + u2.1) (show 0 < L by omega)
    have g0 : GoodF L (u1.1, (u1.1 + 1 + u2.1) % L) := ⟨c0, c1, m0, m1, fun z => ring_ne hL2 c0 c1 d0 (by omega) z.symm⟩
    refine w_bind (P := fun x => (x.1 = true → s.2 ≠ []) ∧ St2 x.2) ?_ fun x hx => ?_
    · refine w_ite (fun c => ?_) fun c => w_some ⟨fun z => by simp at z, t2⟩
      refine w_bind (pick_w t2 (by decide) (by decide)) fun u3 ⟨e0, e1, t3⟩ => w_some ⟨fun _ => by simpa using c, t3⟩
    refine w_bind (P := fun x => St2 x.1 ∧ GoodF L (x.2.1, x.2.2)) ?_ fun x2 hx2 => ?_
    · refine w_ite (fun c => ?_) fun c => w_some ⟨hx.2, g0⟩
      have hne := hx.1 c
      rw [atI_lastne hne, Option.bind_some]
      have hg := h2 _ (List.getLast_mem hne)
      unfold p__law_of__at0
      refine w_bind (P := fun r => (r.1 = 1 ∨ r.1 = -1) ∧ St2 r.2) ?_ fun r hr => ?_
      · refine w_bind (pick_w hx.2 (by decide) (by decide)) fun u4 ⟨i0, i1, t4⟩ => ?_
        refine w_bind (w_atI i0 i1) fun q hq => w_some ⟨?_, t4⟩
        simpa using hq
      · rcases hr.1 with z | z
        · rw [z]
          exact w_some ⟨hr.2, hg⟩
        · rw [z]
          exact w_some ⟨hr.2, ⟨hg.2.2.1, hg.2.2.2.1, hg.1, hg.2.1, fun z => hg.2.2.2.2 z.symm⟩⟩
    rw [appT_of (by omega), Option.bind_some]
    refine w_some ⟨by simp [h1], fun p hp => ?_, hx2.1⟩
    rcases List.mem_append.mp hp with z | z
    · exact h2 p z
    · rw [List.mem_singleton.mp z]; exact hx2.2
  obtain ⟨f1, f2, f3⟩ := hF
  rw [rngI_len] at f1
  rw [rngO_of (by omega), Option.bind_some]
  refine w_bind (pick_w f3 (by decide) (by decide)) fun u ⟨u0, u1, us⟩ => ?_
  refine w_bind (P := fun x => St2 x.1 ∧ List.Perm x.2 (rngI 0 L.toNat)) ?_ fun x hx => ?_
  · refine w_ite (fun c => ?_) fun c => w_some ⟨us, .refl _⟩
    refine w_bind (placed_w (by rw [rngI_len]; omega) (by rw [rngI_len]; omega) us) fun r hr => w_some ⟨hr.2, hr.1⟩
  · exact w_some ⟨⟨hL, hL2, (show sF.2.length ≤ 128 by omega), f2, hx.2⟩, rfl, hx.1⟩
/-! a net drawn: so many forks at most -/
theorem netL_w {n : Nat} (hn : 17 ≤ n) {s : List Int} (h : St2 s) {L most : Int} (hL : 1 ≤ L) (hL2 : L ≤ 16) (hm0 : 0 ≤ most) (hm1 : most ≤ 128) : Sp (p__law_net n s L most) (fun r => (r.1.2.1.length : Int) ≤ most) := by
  unfold p__law_net
  refine w_let fun f0 hf0 => ?_
  subst hf0
  refine w_bind (pick_w h (by omega) (by omega)) fun r1 ⟨a0, a1, s1⟩ => ?_
  obtain ⟨many, hmany⟩ : ∃ x, x = r1.1 * (if decide (1 < L) = true then 1 else 0) := ⟨_, rfl⟩
  rw [← hmany]
  have hmany : 0 ≤ many ∧ many ≤ most ∧ (0 < many → 2 ≤ L) := by
    rw [hmany]
    by_cases c : (1 : Int) < L
    · rw [decide_eq_true c, if_pos rfl]; omega
    · rw [decide_eq_false c, if_neg (by simp)]; omega
  rw [rngO_of (by omega), Option.bind_some]
  refine w_bind (w_lpN (fun i s => s.2.length = i ∧ (∀ p ∈ s.2, GoodF L p) ∧ St2 s.1) ⟨rfl, by simp, s1⟩ fun i s y hy hi => ?_) fun sF hF => ?_
  · obtain ⟨y1, y2⟩ := rngI_get hy
    obtain ⟨h1, h2, h3⟩ := hi
    have hL2 : 2 ≤ L := by omega
    refine w_bind (pick_w h3 (by omega) (by omega)) fun u1 ⟨c0, c1, t1⟩ => ?_
    refine w_bind (pick_w t1 (by omega) (by omega)) fun u2 ⟨d0, d1, t2⟩ => ?_
    rw [modT_of (by omega), Option.bind_some]
    have m0 := Int.emod_nonneg (u1.1 + 1 + u2.1) (show L ≠ 0 by omega)
    have m1 := Int.emod_lt_of_pos (u1.1 + 1 + u2.1) (show 0 < L by omega)
    have g0 : GoodF L (u1.1, (u1.1 + 1 + u2.1) % L) := ⟨c0, c1, m0, m1, fun z => ring_ne hL2 c0 c1 d0 (by omega) z.symm⟩
    refine w_bind (P := fun x => (x.1 = true → s.2 ≠ []) ∧ St2 x.2) ?_ fun x hx => ?_
    · refine w_ite (fun c => ?_) fun c => w_some ⟨fun z => by simp at z, t2⟩
      refine w_bind (pick_w t2 (by decide) (by decide)) fun u3 ⟨e0, e1, t3⟩ => w_some ⟨fun _ => by simpa using c, t3⟩
    refine w_bind (P := fun x => St2 x.1 ∧ GoodF L (x.2.1, x.2.2)) ?_ fun x2 hx2 => ?_
    · refine w_ite (fun c => ?_) fun c => w_some ⟨hx.2, g0⟩
      have hne := hx.1 c
      rw [atI_lastne hne, Option.bind_some]
      have hg := h2 _ (List.getLast_mem hne)
      unfold p__law_of__at0
      refine w_bind (P := fun r => (r.1 = 1 ∨ r.1 = -1) ∧ St2 r.2) ?_ fun r hr => ?_
      · refine w_bind (pick_w hx.2 (by decide) (by decide)) fun u4 ⟨i0, i1, t4⟩ => ?_
        refine w_bind (w_atI i0 i1) fun q hq => w_some ⟨?_, t4⟩
        simpa using hq
      · rcases hr.1 with z | z
        · rw [z]
          exact w_some ⟨hr.2, hg⟩
        · rw [z]
          exact w_some ⟨hr.2, ⟨hg.2.2.1, hg.2.2.2.1, hg.1, hg.2.1, fun z => hg.2.2.2.2 z.symm⟩⟩
    rw [appT_of (by omega), Option.bind_some]
    refine w_some ⟨by simp [h1], fun p hp => ?_, hx2.1⟩
    rcases List.mem_append.mp hp with z | z
    · exact h2 p z
    · rw [List.mem_singleton.mp z]; exact hx2.2
  obtain ⟨f1, f2, f3⟩ := hF
  rw [rngI_len] at f1
  rw [rngO_of (by omega), Option.bind_some]
  refine w_bind (pick_w f3 (by decide) (by decide)) fun u ⟨u0, u1, us⟩ => ?_
  refine w_bind (P := fun x => St2 x.1 ∧ List.Perm x.2 (rngI 0 L.toNat)) ?_ fun x hx => ?_
  · refine w_ite (fun c => ?_) fun c => w_some ⟨us, .refl _⟩
    refine w_bind (placed_w (by rw [rngI_len]; omega) (by rw [rngI_len]; omega) us) fun r hr => w_some ⟨hr.2, hr.1⟩
  · exact w_some (show (sF.2.length : Int) ≤ most by omega)
/-! what comes of counts -/
def manyL (c : List Int) (p : Int × Int) : Int := c.getD p.1.toNat 0 + c.getD p.2.toNat 0
def hafL (c : List Int) (p : Int × Int) : List Int := (c.set p.1.toNat ((manyL c p + 1) / 2)).set p.2.toNat (manyL c p / 2)
def lanesL : List Int → List (Int × Int) → List Int
  | c, [] => c
  | c, p :: fs => lanesL (hafL c p) fs
def totalsL : List Int → List (Int × Int) → List Int
  | _, [] => []
  | c, p :: fs => manyL c p :: totalsL (hafL c p) fs
theorem haf_len (c : List Int) (p : Int × Int) : (hafL c p).length = c.length := by unfold hafL; simp
theorem lanesL_len : ∀ (fs : List (Int × Int)) (c : List Int), (lanesL c fs).length = c.length
  | [], _ => rfl
  | p :: fs, c => by rw [lanesL, lanesL_len fs, haf_len]
theorem totalsL_len : ∀ (fs : List (Int × Int)) (c : List Int), (totalsL c fs).length = fs.length
  | [], _ => rfl
  | p :: fs, c => by rw [totalsL, List.length_cons, List.length_cons, totalsL_len fs]
theorem GoodN.lens {N : Net} (h : GoodN N) {c : List Int} (hc : (c.length : Int) = N.1) : ∀ p ∈ N.2.1, GoodF c.length p := fun p hp => by rw [hc]; exact h.forks p hp
def endsL (N : Net) (c : List Int) : List Int := N.2.2.map fun e => (lanesL c N.2.1).getD e.toNat 0
def turnsL (N : Net) (c : List Int) : List Int := (totalsL c N.2.1).map fun m => m % 2
theorem endsL_len {N : Net} {c : List Int} : (endsL N c).length = N.2.2.length := by unfold endsL; simp
theorem turnsL_len {N : Net} {c : List Int} : (turnsL N c).length = N.2.1.length := by unfold turnsL; rw [List.length_map, totalsL_len]
theorem sum_set : ∀ (xs : List Int) (i : Nat) (v : Int), i < xs.length → (xs.set i v).sum = xs.sum - xs.getD i 0 + v
  | [], i, v, h => by simp at h
  | x :: xs, 0, v, _ => by simp; omega
  | x :: xs, i + 1, v, h => by
    have := sum_set xs i v (by simpa using h)
    rw [List.set_cons_succ, List.sum_cons, List.sum_cons, this, List.getD_cons_succ]; omega
theorem haf_sum {c : List Int} {p : Int × Int} (h : GoodF c.length p) : (hafL c p).sum = c.sum := by
  obtain ⟨g1, g2, g3, g4, g5⟩ := h
  unfold hafL
  rw [sum_set _ _ _ (by rw [List.length_set]; omega), sum_set _ _ _ (by omega)]
  have : (c.set p.1.toNat ((manyL c p + 1) / 2)).getD p.2.toNat 0 = c.getD p.2.toNat 0 := by
    rw [List.getD_eq_getElem?_getD, List.getElem?_set, if_neg (by omega), List.getD_eq_getElem?_getD]
  rw [this]
  have e : manyL c p = c.getD p.1.toNat 0 + c.getD p.2.toNat 0 := rfl
  omega
theorem lanesL_sum : ∀ (fs : List (Int × Int)) (c : List Int), (∀ p ∈ fs, GoodF c.length p) → (lanesL c fs).sum = c.sum
  | [], _, _ => rfl
  | p :: fs, c, h => by
    rw [lanesL, lanesL_sum fs _ fun q hq => by rw [haf_len]; exact h q (List.mem_cons_of_mem _ hq), haf_sum (h p (List.mem_cons_self ..))]
theorem map_range_get (xs : List Int) : (rngI 0 xs.length).map (fun e => xs.getD e.toNat 0) = xs := by
  unfold rngI
  rw [List.map_map]
  refine List.ext_getElem (by simp) fun i h1 h2 => ?_
  rw [List.getElem_map, List.getElem_range]
  simp only [Function.comp]
  rw [show ((0 : Int) + (i : Nat)).toNat = i by omega, List.getD_eq_getElem?_getD, List.getElem?_eq_getElem h2]; rfl
theorem perm_sum : ∀ {a b : List Int}, a.Perm b → a.sum = b.sum := fun h => by
  induction h with
  | nil => rfl
  | cons x _ ih => rw [List.sum_cons, List.sum_cons, ih]
  | swap x y l => simp only [List.sum_cons]; omega
  | trans _ _ a b => exact a.trans b
theorem ends_sum {N : Net} {c : List Int} (h : GoodN N) (hc : (c.length : Int) = N.1) : (endsL N c).sum = c.sum := by
  have h1 := perm_sum (h.ends.map fun e => (lanesL c N.2.1).getD e.toNat 0)
  have h2 : N.1.toNat = (lanesL c N.2.1).length := by rw [lanesL_len]; omega
  unfold endsL
  rw [h1, h2, map_range_get, lanesL_sum _ _ (h.lens hc)]
/-! balls one by one -/
def addL (c : List Int) (a : Nat) (d : Int) : List Int := c.set a (c.getD a 0 + d)
theorem addL_len (c : List Int) (a : Nat) (d : Int) : (addL c a d).length = c.length := by unfold addL; simp
theorem get_set' (c : List Int) (i j : Nat) (v : Int) (h : i < c.length) : (c.set i v).getD j 0 = if i = j then v else c.getD j 0 := by
  rw [List.getD_eq_getElem?_getD, List.getElem?_set, List.getD_eq_getElem?_getD]
  by_cases e : i = j
  · rw [if_pos e, if_pos h, if_pos e]; rfl
  · rw [if_neg e, if_neg e]
theorem ext_D {a b : List Int} (hl : a.length = b.length) (h : ∀ i, i < a.length → a.getD i 0 = b.getD i 0) : a = b := by
  refine List.ext_getElem hl fun i h1 h2 => ?_
  have := h i h1
  rw [List.getD_eq_getElem?_getD, List.getElem?_eq_getElem h1, List.getD_eq_getElem?_getD, List.getElem?_eq_getElem h2] at this
  exact this
theorem add_get {c : List Int} {a : Nat} (d : Int) (h : a < c.length) (i : Nat) : (addL c a d).getD i 0 = if a = i then c.getD a 0 + d else c.getD i 0 := get_set' _ _ _ _ h
theorem haf_get {c : List Int} {p : Int × Int} (h : GoodF c.length p) (i : Nat) : (hafL c p).getD i 0 = if p.2.toNat = i then manyL c p / 2 else if p.1.toNat = i then (manyL c p + 1) / 2 else c.getD i 0 := by
  obtain ⟨g1, g2, g3, g4, g5⟩ := h
  unfold hafL
  rw [get_set' _ _ _ _ (by rw [List.length_set]; omega), get_set' _ _ _ _ (by omega)]
def onF' (a : Int) (p : Int × Int) : Bool := decide (p.1 = a) || decide (p.2 = a)
def nxtL (d t : Int) (p : Int × Int) : Int := if (d = 1) = (t = 0) then p.1 else p.2
theorem nx_p0 (p : Int × Int) : nxtL 1 0 p = p.1 := by simp [nxtL]
theorem nx_p1 (p : Int × Int) : nxtL 1 1 p = p.2 := by simp [nxtL]
theorem nx_m0 (p : Int × Int) : nxtL (-1) 0 p = p.2 := by simp [nxtL]
theorem nx_m1 (p : Int × Int) : nxtL (-1) 1 p = p.1 := by simp [nxtL]
theorem haf_off {c : List Int} {p : Int × Int} (h : GoodF c.length p) {a : Nat} (ha : a < c.length) (d : Int) (ho : onF' a p = false) : hafL (addL c a d) p = addL (hafL c p) a d ∧ manyL (addL c a d) p = manyL c p := by
  obtain ⟨g1, g2, g3, g4, g5⟩ := id h
  unfold onF' at ho
  rw [Bool.or_eq_false_iff] at ho
  have o1 := of_decide_eq_false ho.1
  have o2 := of_decide_eq_false ho.2
  have e : manyL (addL c a d) p = manyL c p := by
    unfold manyL
    rw [add_get d ha, add_get d ha, if_neg (by omega), if_neg (by omega)]
  refine ⟨ext_D (by rw [haf_len, addL_len, addL_len, haf_len]) fun i _ => ?_, e⟩
  rw [haf_get (by rw [addL_len]; exact h), e, add_get (c := c) d ha, add_get (c := hafL c p) d (show a < (hafL c p).length by rw [haf_len]; exact ha) i, haf_get h, haf_get h]
  rw [if_neg (by omega : ¬ p.2.toNat = a), if_neg (by omega : ¬ p.1.toNat = a)]
  by_cases c1 : a = i
  · subst c1
    rw [if_neg (by omega), if_neg (by omega), if_pos rfl, if_pos rfl]
  · rw [if_neg c1, if_neg c1]
theorem haf_on {c : List Int} {p : Int × Int} (h : GoodF c.length p) {a : Nat} (ha : a < c.length) {d : Int} (hd : d = 1 ∨ d = -1) (ho : onF' a p = true) :
    hafL (addL c a d) p = addL (hafL c p) (nxtL d (manyL c p % 2) p).toNat d ∧ manyL (addL c a d) p = manyL c p + d := by
  obtain ⟨g1, g2, g3, g4, g5⟩ := id h
  unfold onF' at ho
  rw [Bool.or_eq_true] at ho
  have e : manyL (addL c a d) p = manyL c p + d := by
    unfold manyL
    rw [add_get d ha, add_get d ha]
    rcases ho with ho | ho
    · have ho := of_decide_eq_true ho
      rw [if_pos (by omega), if_neg (by omega), show a = p.1.toNat by omega]; omega
    · have ho := of_decide_eq_true ho
      rw [if_neg (by omega), if_pos (by omega), show a = p.2.toNat by omega]; omega
  have hn : (nxtL d (manyL c p % 2) p).toNat < c.length := by unfold nxtL; split <;> omega
  refine ⟨ext_D (by rw [haf_len, addL_len, addL_len, haf_len]) fun i _ => ?_, e⟩
  rw [haf_get (by rw [addL_len]; exact h), e, add_get (c := c) d ha, add_get (c := hafL c p) d (show (nxtL d (manyL c p % 2) p).toNat < (hafL c p).length by rw [haf_len]; exact hn) i, haf_get h, haf_get h]
  have hm : manyL c p % 2 = 0 ∨ manyL c p % 2 = 1 := by omega
  have ho' : p.1 = a ∨ p.2 = a := ho.imp of_decide_eq_true of_decide_eq_true
  rcases hd with rfl | rfl <;> rcases hm with hm | hm
  · rw [hm, nx_p0]; (repeat' split) <;> omega
  · rw [hm, nx_p1]; (repeat' split) <;> omega
  · rw [hm, nx_m0]; (repeat' split) <;> omega
  · rw [hm, nx_m1]; (repeat' split) <;> omega
/-- a ball's way: its last lane, the turns behind it -/
def modsL (c : List Int) (fs : List (Int × Int)) : List Int := (totalsL c fs).map fun m => m % 2
/-! a ball's end -/
theorem idx_ex (b : Int) : ∀ {xs : List Int}, b ∈ xs → ∃ e : Nat, xs.findIdx? (fun z => decide (z = b)) = some e ∧ xs[e]? = some b
  | [], h => by cases h
  | x :: xs, h => by
    rw [List.findIdx?_cons]
    by_cases c : x = b
    · exact ⟨0, by simp [c], by simp [c]⟩
    · obtain ⟨e, e1, e2⟩ := idx_ex b (xs := xs) (by
        rcases List.mem_cons.mp h with z | z
        · exact absurd z.symm c
        · exact z)
      exact ⟨e + 1, by simp [c, e1], by simpa using e2⟩
theorem GoodN.nodup {N : Net} (h : GoodN N) : N.2.2.Nodup := h.ends.nodup_iff.mpr (by
  unfold rngI
  exact List.Pairwise.map _ (fun a b (z : a ≠ b) => by omega) List.nodup_range)
theorem end_of {N : Net} (h : GoodN N) {b : Int} (b0 : 0 ≤ b) (b1 : b < N.1) : ∃ e : Nat, idxT N.2.2 b = some (e : Int) ∧ e < N.2.2.length ∧ N.2.2[e]? = some b := by
  have hm : b ∈ N.2.2 := h.ends.mem_iff.mpr (by
    unfold rngI
    exact List.mem_map.mpr ⟨b.toNat, List.mem_range.mpr (by omega), by omega⟩)
  obtain ⟨e, e1, e2⟩ := idx_ex b hm
  refine ⟨e, ?_, (List.getElem?_eq_some_iff.mp e2).1, e2⟩
  unfold idxT
  rw [e1]; rfl
/-! the program's walks -/
theorem mods_01 (c : List Int) (fs : List (Int × Int)) : ∀ t ∈ modsL c fs, t = 0 ∨ t = 1 := fun t ht => by
  obtain ⟨m, _, rfl⟩ := List.mem_map.mp ht
  omega
theorem at_mid (l : List Int) (t : Int) (r : List Int) : atI (l ++ t :: r) (l.length : Int) = some t := atI_nat (by rw [List.getElem?_append_right (Nat.le_refl _), Nat.sub_self]; rfl)
theorem set_mid (l : List Int) (t v : Int) (r : List Int) : setT (l ++ t :: r) (l.length : Int) v = some (l ++ v :: r) := by
  rw [setT_nn (by omega) (by simp; omega), Int.toNat_natCast]
  congr 1
  rw [List.set_append_right _ _ (Nat.le_refl _), Nat.sub_self]; rfl
theorem turns_01 (N : Net) (c : List Int) : ∀ t ∈ turnsL N c, t = 0 ∨ t = 1 := mods_01 c N.2.1
theorem haf_zero {n : Nat} {p : Int × Int} (h : GoodF n p) : hafL (List.replicate n 0) p = List.replicate n 0 := by
  have h' : GoodF (List.replicate n (0 : Int)).length p := by rw [List.length_replicate]; exact h
  have gz : ∀ i, (List.replicate n (0 : Int)).getD i 0 = 0 := fun i => by
    rw [List.getD_eq_getElem?_getD, List.getElem?_replicate]; split <;> rfl
  refine ext_D (haf_len _ _) fun i _ => ?_
  rw [haf_get h', gz]
  have : manyL (List.replicate n 0) p = 0 := by unfold manyL; rw [gz, gz]; rfl
  rw [this]
  split
  · rfl
  · split <;> rfl
theorem lanes_zero {n : Nat} : ∀ (fs : List (Int × Int)), (∀ p ∈ fs, GoodF n p) → lanesL (List.replicate n 0) fs = List.replicate n 0 ∧ totalsL (List.replicate n 0) fs = List.replicate fs.length 0
  | [], _ => ⟨rfl, rfl⟩
  | p :: fs, h => by
    obtain ⟨i1, i2⟩ := lanes_zero fs fun q hq => h q (List.mem_cons_of_mem _ hq)
    have e := haf_zero (h p (List.mem_cons_self ..))
    have gz : ∀ i, (List.replicate n (0 : Int)).getD i 0 = 0 := fun i => by
      rw [List.getD_eq_getElem?_getD, List.getElem?_replicate]; split <;> rfl
    have em : manyL (List.replicate n 0) p = 0 := by unfold manyL; rw [gz, gz]; rfl
    exact ⟨by rw [lanesL, e, i1], by rw [totalsL, e, i2, em]; rfl⟩
theorem zero_ok {N : Net} (h : GoodN N) : turnsL N (List.replicate N.1.toNat 0) = List.replicate N.2.1.length 0 ∧ endsL N (List.replicate N.1.toNat 0) = List.replicate N.1.toNat 0 := by
  have l1 := h.l1
  obtain ⟨i1, i2⟩ := lanes_zero (n := N.1.toNat) N.2.1 fun p hp => by rw [show ((N.1.toNat : Nat) : Int) = N.1 by omega]; exact h.forks p hp
  refine ⟨by unfold turnsL; rw [i2]; simp, ?_⟩
  have el := h.elen
  refine ext_D (by rw [endsL_len, List.length_replicate, el]) fun i hi => ?_
  unfold endsL
  rw [i1]
  rw [List.getD_eq_getElem?_getD, List.getElem?_map, List.getD_eq_getElem?_getD, List.getElem?_replicate]
  cases N.2.2[i]? with
  | none => split <;> rfl
  | some x =>
    simp only [Option.map_some, Option.getD_some]
    rw [List.getD_eq_getElem?_getD, List.getElem?_replicate]
    split <;> split <;> rfl
def onF (a : Int) (p : Int × Int) : Bool := decide (p.1 = a) || decide (p.2 = a)
def laneE (n : Nat) (fs : List (Int × Int)) (a : Int) : List Int := ((enumT n fs).filter fun y => onF a y.2).map (·.1)
theorem on_lane_eq {N : Net} (hm : N.2.1.length ≤ 128) (a : Int) : p_on_lane N a = some (laneE 0 N.2.1 a) := by
  unfold p_on_lane
  rw [lim_of (by rw [enumT_len]; omega)]; rfl
/-! the numbers of a lane -/
theorem laneE_cons (n : Nat) (p : Int × Int) (fs : List (Int × Int)) (a : Int) : laneE n (p :: fs) a = (if onF a p = true then [(n : Int)] else []) ++ laneE (n + 1) fs a := by
  unfold laneE
  rw [enumT]
  cases h : onF a p with
  | true => rw [List.filter_cons_of_pos (by exact h)]; rfl
  | false => rw [List.filter_cons_of_neg (by simp [h])]; rfl
theorem laneE_get : ∀ (fs : List (Int × Int)) (n : Nat) (a x : Int), x ∈ laneE n fs a → ∃ (i : Nat) (p : Int × Int), x = ((n + i : Nat) : Int) ∧ fs[i]? = some p ∧ onF a p = true
  | fs, n, a, x, h => by
    unfold laneE at h
    obtain ⟨y, hy, rfl⟩ := List.mem_map.mp h
    obtain ⟨hy, ho⟩ := List.mem_filter.mp hy
    obtain ⟨i, hi, he⟩ := List.getElem_of_mem hy
    obtain ⟨g1, g2⟩ := enumT_get (n := n) (xs := fs) (i := i) (y := y) (by rw [← he]; exact List.getElem?_eq_getElem hi)
    exact ⟨i, y.2, g1, g2, ho⟩
theorem laneE_rise : ∀ (fs : List (Int × Int)) (n : Nat) (a : Int), (laneE n fs a).Pairwise (· < ·)
  | [], _, _ => .nil
  | p :: fs, n, a => by
    rw [laneE_cons]
    refine List.pairwise_append.mpr ⟨by split <;> simp, laneE_rise fs (n + 1) a, fun x hx y hy => ?_⟩
    obtain ⟨i, q, rfl, _⟩ := laneE_get fs (n + 1) a y hy
    split at hx
    · simp at hx; omega
    · simp at hx
theorem sort_perm {a b : List Int} (h : a.Perm b) : sortI a = sortI b := rise_eq (((sortI_perm a).trans h).trans (sortI_perm b).symm) (sortI_rise a) (sortI_rise b)
/-! groups run to the end, told by sums -/
def hereI (t m : Int) : Int := (t + m + 1) / 2 - t
theorem here_add {t : Int} (ht : t = 0 ∨ t = 1) (m k : Int) : hereI t (m + k) = hereI t m + hereI ((t + m) % 2) k := by
  unfold hereI
  rcases ht with rfl | rfl <;> omega
theorem here_zero {t : Int} (ht : t = 0 ∨ t = 1) : hereI t 0 = 0 := by
  unfold hereI
  rcases ht with rfl | rfl <;> decide
abbrev GF := Nat → Int → Int
def updF (x : Int → Int) (a v : Int) : Int → Int := fun b => if b = a then v else x b
def runF (G : GF) : Nat → List ((Int × Int) × Int) → (Int → Int) → List Int × (Int → Int)
  | j, [], x => ([], fun a => x a + G j a)
  | j, (p, t) :: r, x =>
    ((t + (x p.1 + G j p.1 + (x p.2 + G j p.2))) % 2 :: (runF G (j + 1) r (updF (updF (fun a => x a + G j a) p.1 (hereI t (x p.1 + G j p.1 + (x p.2 + G j p.2)))) p.2 ((x p.1 + G j p.1 + (x p.2 + G j p.2)) - hereI t (x p.1 + G j p.1 + (x p.2 + G j p.2))))).1,
      (runF G (j + 1) r (updF (updF (fun a => x a + G j a) p.1 (hereI t (x p.1 + G j p.1 + (x p.2 + G j p.2)))) p.2 ((x p.1 + G j p.1 + (x p.2 + G j p.2)) - hereI t (x p.1 + G j p.1 + (x p.2 + G j p.2))))).2)
def oneG (f : Nat) (l m : Int) : GF := fun i a => if i = f ∧ a = l then m else 0
def addG (G H : GF) : GF := fun i a => G i a + H i a
def addX (x : Int → Int) (l m : Int) : Int → Int := fun a => x a + if a = l then m else 0
theorem run_congr {G G' : GF} : ∀ (r : List ((Int × Int) × Int)) (j : Nat) (x : Int → Int), (∀ i, j ≤ i → ∀ a, G i a = G' i a) → runF G j r x = runF G' j r x
  | [], j, x, h => by
    rw [runF, runF]
    simp only [h j (Nat.le_refl _)]
  | (p, t) :: r, j, x, h => by
    rw [runF, runF]
    simp only [h j (Nat.le_refl _)]
    rw [run_congr r (j + 1) _ fun i hi a => h i (by omega) a]
theorem upd_comm {x : Int → Int} {a b v w l m : Int} (ha : a ≠ l) (hb : b ≠ l) : updF (updF (addX x l m) a v) b w = addX (updF (updF x a v) b w) l m := by
  funext c
  show (if c = b then w else if c = a then v else x c + (if c = l then m else 0)) = (if c = b then w else if c = a then v else x c) + if c = l then m else 0
  by_cases h1 : c = b
  · rw [if_pos h1, if_pos h1, if_neg (by omega)]; omega
  · rw [if_neg h1, if_neg h1]
    by_cases h2 : c = a
    · rw [if_pos h2, if_pos h2, if_neg (by omega)]; omega
    · rw [if_neg h2, if_neg h2]
theorem run_put {G : GF} {f : Nat} {l m : Int} : ∀ (r : List ((Int × Int) × Int)) (j : Nat) (x : Int → Int), j ≤ f → f ≤ j + r.length → (∀ i q, j + i < f → r[i]? = some q → q.1.1 ≠ l ∧ q.1.2 ≠ l) →
    runF G j r (addX x l m) = runF (addG G (oneG f l m)) j r x
  | [], j, x, h1, h2, _ => by
    have : f = j := by simp at h2; omega
    subst this
    rw [runF, runF]
    refine Prod.ext rfl (funext fun a => ?_)
    show addX x l m a + G f a = x a + (G f a + if f = f ∧ a = l then m else 0)
    unfold addX
    by_cases h : a = l
    · rw [if_pos h, if_pos ⟨rfl, h⟩]; omega
    · rw [if_neg h, if_neg (fun z => h z.2)]; omega
  | (p, t) :: r, j, x, h1, h2, h3 => by
    rw [List.length_cons] at h2
    by_cases e : f = j
    · subst e
      have x1 : (fun a => addX x l m a + G f a) = fun a => x a + addG G (oneG f l m) f a := funext fun a => by
        show x a + (if a = l then m else 0) + G f a = x a + (G f a + if f = f ∧ a = l then m else 0)
        by_cases h : a = l
        · rw [if_pos h, if_pos ⟨rfl, h⟩]; omega
        · rw [if_neg h, if_neg (fun z => h z.2)]; omega
      have xp : ∀ a, addX x l m a + G f a = x a + addG G (oneG f l m) f a := fun a => congrFun x1 a
      rw [runF, runF]
      rw [x1, xp, xp]
      rw [run_congr (G' := addG G (oneG f l m)) r (f + 1) _ fun i hi a => by
        show G i a = G i a + if i = f ∧ a = l then m else 0
        rw [if_neg (by omega)]; omega]
    · have hj : j < f := by omega
      obtain ⟨n1, n2⟩ := h3 0 (p, t) (by omega) rfl
      have gz : ∀ a, addG G (oneG f l m) j a = G j a := fun a => by
        show G j a + (if j = f ∧ a = l then m else 0) = G j a
        rw [if_neg (by omega)]; omega
      have xa : ∀ a, a ≠ l → addX x l m a = x a := fun a ha => by
        unfold addX
        rw [if_neg ha]; omega
      have x1 : (fun a => addX x l m a + G j a) = addX (fun a => x a + G j a) l m := funext fun a => by
        show x a + (if a = l then m else 0) + G j a = x a + G j a + (if a = l then m else 0)
        omega
      have ih : ∀ y, runF G (j + 1) r (addX y l m) = runF (addG G (oneG f l m)) (j + 1) r y := fun y => run_put r (j + 1) y (by omega) (by omega) fun i q hi hq => h3 (i + 1) q (by omega) hq
      rw [runF, runF]
      simp only [gz, xa p.1 n1, xa p.2 n2]
      rw [x1, upd_comm n1 n2, ih]
/-- a group goes through its fork -/
theorem run_step {G : GF} {f f1 f2 : Nat} {l m t : Int} {p : Int × Int} {suf : List ((Int × Int) × Int)} (hl : l = p.1 ∨ l = p.2) (hp : p.1 ≠ p.2) (ht : t = 0 ∨ t = 1)
    (g1 : f < f1 ∧ f1 ≤ f + 1 + suf.length) (g2 : f < f2 ∧ f2 ≤ f + 1 + suf.length) (n1 : ∀ i q, f + 1 + i < f1 → suf[i]? = some q → q.1.1 ≠ p.1 ∧ q.1.2 ≠ p.1) (n2 : ∀ i q, f + 1 + i < f2 → suf[i]? = some q → q.1.1 ≠ p.2 ∧ q.1.2 ≠ p.2) :
    ∀ (pre : List ((Int × Int) × Int)) (j : Nat) (x : Int → Int), j + pre.length = f →
    runF (addG G (oneG f l m)) j (pre ++ (p, t) :: suf) x = runF (addG (addG G (oneG f1 p.1 (hereI t m))) (oneG f2 p.2 (m - hereI t m))) j (pre ++ (p, (t + m) % 2) :: suf) x
  | q :: pre, j, x, h => by
    rw [List.length_cons] at h
    have e1 : ∀ a, addG G (oneG f l m) j a = G j a := fun a => by
      show G j a + (if j = f ∧ a = l then m else 0) = G j a
      rw [if_neg (by omega)]; omega
    have e2 : ∀ a, addG (addG G (oneG f1 p.1 (hereI t m))) (oneG f2 p.2 (m - hereI t m)) j a = G j a := fun a => by
      show G j a + (if j = f1 ∧ a = p.1 then hereI t m else 0) + (if j = f2 ∧ a = p.2 then m - hereI t m else 0) = G j a
      rw [if_neg (by omega), if_neg (by omega)]; omega
    obtain ⟨q, u⟩ := q
    rw [List.cons_append, List.cons_append, runF, runF]
    simp only [e1, e2]
    rw [run_step hl hp ht g1 g2 n1 n2 pre (j + 1) _ (by omega)]
  | [], j, x, h => by
    have h : j = f := h
    subst h
    rw [List.nil_append, List.nil_append, runF, runF]
    have e2 : ∀ a, addG (addG G (oneG f1 p.1 (hereI t m))) (oneG f2 p.2 (m - hereI t m)) j a = G j a := fun a => by
      show G j a + (if j = f1 ∧ a = p.1 then hereI t m else 0) + (if j = f2 ∧ a = p.2 then m - hereI t m else 0) = G j a
      rw [if_neg (by omega), if_neg (by omega)]; omega
    have e1 : ∀ a, addG G (oneG j l m) j a = G j a + if a = l then m else 0 := fun a => by
      show G j a + (if j = j ∧ a = l then m else 0) = _
      by_cases h : a = l
      · rw [if_pos h, if_pos ⟨rfl, h⟩]
      · rw [if_neg h, if_neg (fun z => h z.2)]
    obtain ⟨T, hT⟩ : ∃ T, T = x p.1 + G j p.1 + (x p.2 + G j p.2) := ⟨_, rfl⟩
    have tot : x p.1 + addG G (oneG j l m) j p.1 + (x p.2 + addG G (oneG j l m) j p.2) = m + T := by
      rw [e1, e1, hT]
      rcases hl with h | h
      · rw [if_pos h.symm, if_neg (by omega)]; omega
      · rw [if_neg (by omega), if_pos h.symm]; omega
    simp only [e2]
    rw [tot, ← hT, here_add ht m T]
    have up : updF (updF (fun a => x a + addG G (oneG j l m) j a) p.1 (hereI t m + hereI ((t + m) % 2) T)) p.2 (m + T - (hereI t m + hereI ((t + m) % 2) T)) =
        addX (addX (updF (updF (fun a => x a + G j a) p.1 (hereI ((t + m) % 2) T)) p.2 (T - hereI ((t + m) % 2) T)) p.1 (hereI t m)) p.2 (m - hereI t m) := funext fun a => by
      show (if a = p.2 then m + T - (hereI t m + hereI ((t + m) % 2) T) else if a = p.1 then hereI t m + hereI ((t + m) % 2) T else x a + addG G (oneG j l m) j a) =
        (if a = p.2 then T - hereI ((t + m) % 2) T else if a = p.1 then hereI ((t + m) % 2) T else x a + G j a) + (if a = p.1 then hereI t m else 0) + (if a = p.2 then m - hereI t m else 0)
      by_cases h1 : a = p.2
      · rw [if_pos h1, if_pos h1, if_pos h1, if_neg (by omega)]; omega
      · rw [if_neg h1, if_neg h1, if_neg h1]
        by_cases h2 : a = p.1
        · rw [if_pos h2, if_pos h2, if_pos h2]; omega
        · rw [if_neg h2, if_neg h2, if_neg h2, e1]
          rcases hl with h | h
          · rw [if_neg (by omega)]; omega
          · rw [if_neg (by omega)]; omega
    have cg : ∀ y, runF (addG G (oneG j l m)) (j + 1) suf y = runF G (j + 1) suf y := fun y => run_congr suf (j + 1) y fun i hi a => by
      show G i a + (if i = j ∧ a = l then m else 0) = G i a
      rw [if_neg (by omega)]; omega
    rw [up, cg, run_put suf (j + 1) _ (by omega) (by omega) n2, run_put suf (j + 1) _ (by omega) (by omega) n1]
    have cc : addG (addG G (oneG f2 p.2 (m - hereI t m))) (oneG f1 p.1 (hereI t m)) = addG (addG G (oneG f1 p.1 (hereI t m))) (oneG f2 p.2 (m - hereI t m)) := by
      funext i a
      unfold addG
      omega
    rw [cc, show (t + (m + T)) % 2 = ((t + m) % 2 + T) % 2 by omega]
def zeroG : GF := fun _ _ => 0
theorem run_zero : ∀ (fs : List (Int × Int)) (ts : List Int) (j : Nat), ts.length = fs.length → (∀ t ∈ ts, t = 0 ∨ t = 1) → runF zeroG j (fs.zip ts) (fun _ => 0) = (ts, fun _ => 0)
  | [], ts, j, hl, _ => by
    have : ts = [] := List.length_eq_zero_iff.mp hl
    subst this
    rfl
  | p :: fs, [], j, hl, _ => by cases hl
  | p :: fs, t :: ts, j, hl, h01 => by
    have ht := h01 t (List.mem_cons_self ..)
    rw [List.zip_cons_cons, runF]
    have z : (0 : Int) + zeroG j p.1 + (0 + zeroG j p.2) = 0 := rfl
    rw [z, here_zero ht]
    have u : updF (updF (fun a => (0 : Int) + zeroG j a) p.1 0) p.2 (0 - 0) = fun _ => 0 := funext fun a => by
      unfold updF zeroG
      split
      · rfl
      · split <;> rfl
    rw [u, run_zero fs ts (j + 1) (by simpa using hl) fun u hu => h01 u (List.mem_cons_of_mem _ hu)]
    rw [show (t + 0) % 2 = t by rcases ht with rfl | rfl <;> rfl]
theorem run_len {G : GF} : ∀ (fs : List (Int × Int)) (ts : List Int) (j : Nat) (x : Int → Int), ts.length = fs.length → (runF G j (fs.zip ts) x).1.length = fs.length ∧ ∀ t ∈ (runF G j (fs.zip ts) x).1, t = 0 ∨ t = 1
  | [], ts, j, x, hl => by
    have : ts = [] := List.length_eq_zero_iff.mp hl
    subst this
    exact ⟨rfl, fun t ht => by cases ht⟩
  | p :: fs, [], j, x, hl => by cases hl
  | p :: fs, t :: ts, j, x, hl => by
    rw [List.zip_cons_cons, runF]
    obtain ⟨i1, i2⟩ := run_len (G := G) fs ts (j + 1) (updF (updF (fun a => x a + G j a) p.1 (hereI t (x p.1 + G j p.1 + (x p.2 + G j p.2)))) p.2 ((x p.1 + G j p.1 + (x p.2 + G j p.2)) - hereI t (x p.1 + G j p.1 + (x p.2 + G j p.2)))) (by simpa using hl)
    refine ⟨by show _ + 1 = _ + 1; rw [i1], fun u hu => ?_⟩
    rcases List.mem_cons.mp hu with rfl | hu
    · exact Int.emod_two_eq _
    · exact i2 u hu
theorem run_add : ∀ (fs : List (Int × Int)) (ts : List Int) (j : Nat) (x y : Int → Int), ts.length = fs.length → (∀ t ∈ ts, t = 0 ∨ t = 1) → (∀ p ∈ fs, p.1 ≠ p.2) →
    runF zeroG j (fs.zip ts) (fun a => x a + y a) = ((runF zeroG j (fs.zip (runF zeroG j (fs.zip ts) x).1) y).1, fun a => (runF zeroG j (fs.zip ts) x).2 a + (runF zeroG j (fs.zip (runF zeroG j (fs.zip ts) x).1) y).2 a)
  | [], ts, j, x, y, hl, _, _ => by
    have : ts = [] := List.length_eq_zero_iff.mp hl
    subst this
    refine Prod.ext rfl (funext fun a => ?_)
    show x a + y a + 0 = x a + 0 + (y a + 0)
    omega
  | p :: fs, [], j, x, y, hl, _, _ => by cases hl
  | p :: fs, t :: ts, j, x, y, hl, h01, hp => by
    have ht := h01 t (List.mem_cons_self ..)
    have hpp := hp p (List.mem_cons_self ..)
    have z : ∀ a : Int, zeroG j a = 0 := fun _ => rfl
    rw [List.zip_cons_cons, runF, runF, List.zip_cons_cons, runF]
    simp only [z, Int.add_zero]
    obtain ⟨X, hX⟩ : ∃ X, X = x p.1 + x p.2 := ⟨_, rfl⟩
    obtain ⟨Y, hY⟩ : ∃ Y, Y = y p.1 + y p.2 := ⟨_, rfl⟩
    rw [show x p.1 + y p.1 + (x p.2 + y p.2) = X + Y by omega, ← hX, ← hY, here_add ht X Y]
    have u : updF (updF (fun a => x a + y a) p.1 (hereI t X + hereI ((t + X) % 2) Y)) p.2 (X + Y - (hereI t X + hereI ((t + X) % 2) Y)) =
        fun a => updF (updF (fun a => x a) p.1 (hereI t X)) p.2 (X - hereI t X) a + updF (updF (fun a => y a) p.1 (hereI ((t + X) % 2) Y)) p.2 (Y - hereI ((t + X) % 2) Y) a := funext fun a => by
      unfold updF
      by_cases h1 : a = p.2
      · rw [if_pos h1, if_pos h1, if_pos h1]; omega
      · rw [if_neg h1, if_neg h1, if_neg h1]
        by_cases h2 : a = p.1
        · rw [if_pos h2, if_pos h2, if_pos h2]
        · rw [if_neg h2, if_neg h2, if_neg h2]
    rw [u, run_add fs ts (j + 1) _ _ (by simpa using hl) (fun u hu => h01 u (List.mem_cons_of_mem _ hu)) fun q hq => hp q (List.mem_cons_of_mem _ hq)]
    rw [show (t + (X + Y)) % 2 = ((t + X) % 2 + Y) % 2 by omega]
/-- a group behind all forks -/
theorem run_end {G : GF} {f : Nat} {l m : Int} : ∀ (r : List ((Int × Int) × Int)) (j : Nat) (x : Int → Int), f = j + r.length → runF (addG G (oneG f l m)) j r x = ((runF G j r x).1, addX (runF G j r x).2 l m)
  | [], j, x, h => by
    have h : f = j := h
    subst h
    refine Prod.ext rfl (funext fun a => ?_)
    show x a + (G f a + if f = f ∧ a = l then m else 0) = x a + G f a + if a = l then m else 0
    by_cases h : a = l
    · rw [if_pos h, if_pos ⟨rfl, h⟩]; omega
    · rw [if_neg h, if_neg (fun z => h z.2)]; omega
  | (p, t) :: r, j, x, h => by
    rw [List.length_cons] at h
    have e1 : ∀ a, addG G (oneG f l m) j a = G j a := fun a => by
      show G j a + (if j = f ∧ a = l then m else 0) = G j a
      rw [if_neg (by omega)]; omega
    rw [runF, runF]
    simp only [e1]
    rw [run_end r (j + 1) _ (by omega)]
/-! scenes: steps and joins keep what comes out -/
abbrev Scn := List Int × List (List Int) × List Int
def gsum (gs : List (List Int)) : GF := fun i a => (gs.map fun g => if g.getD 2 0 = (i : Int) ∧ g.getD 1 0 = a then g.getD 0 0 else 0).sum
theorem gsum_nil : gsum [] = zeroG := rfl
theorem gsum_app (a b : List (List Int)) : gsum (a ++ b) = addG (gsum a) (gsum b) := by
  funext i l
  show ((a ++ b).map _).sum = _
  rw [List.map_append, List.sum_append]
  rfl
theorem gsum_one (m l : Int) (f : Nat) : gsum [[m, l, (f : Int)]] = oneG f l m := by
  funext i a
  show (if (f : Int) = (i : Int) ∧ l = a then m else 0) + 0 = if i = f ∧ a = l then m else 0
  by_cases h : i = f ∧ a = l
  · rw [if_pos h, if_pos ⟨by omega, h.2.symm⟩]; omega
  · rw [if_neg h, if_neg (fun z => h ⟨by omega, z.2.symm⟩)]; rfl
theorem gsum_mid (a c : List (List Int)) (g : List Int) : gsum (a ++ g :: c) = addG (gsum (a ++ c)) (gsum [g]) := by
  rw [show g :: c = [g] ++ c from rfl, gsum_app, gsum_app, gsum_app]
  funext i l
  unfold addG
  omega
theorem oneG_zero (f : Nat) (l : Int) : oneG f l 0 = zeroG := by
  funext i a
  show (if i = f ∧ a = l then (0 : Int) else 0) = 0
  split <;> rfl
theorem addG_zero (G : GF) : addG G zeroG = G := by
  funext i a
  show G i a + 0 = G i a
  omega
def GrpOk (N : Net) (g : List Int) : Prop := ∃ (m l : Int) (f : Nat), g = [m, l, (f : Int)] ∧ 0 ≤ l ∧ l < N.1 ∧ (f = N.2.1.length ∨ ∃ p, N.2.1[f]? = some p ∧ (l = p.1 ∨ l = p.2))
structure OkS (N : Net) (S : Scn) : Prop where
  turns : S.1.length = N.2.1.length
  t01 : ∀ t ∈ S.1, t = 0 ∨ t = 1
  out : S.2.2.length = N.2.2.length
  grp : ∀ g ∈ S.2.1, GrpOk N g
def finS (N : Net) (S : Scn) : List Int × List Int := ((runF (gsum S.2.1) 0 (N.2.1.zip S.1) (fun _ => 0)).1, List.zipWith (fun o l => o + (runF (gsum S.2.1) 0 (N.2.1.zip S.1) (fun _ => 0)).2 l) S.2.2 N.2.2)
def totS (S : Scn) : Int := S.2.2.sum + (S.2.1.map fun g => g.getD 0 0).sum
theorem laneE_mem {fs : List (Int × Int)} {i : Nat} {p : Int × Int} {a : Int} (h : fs[i]? = some p) (ho : onF a p = true) : (i : Int) ∈ laneE 0 fs a := by
  unfold laneE
  have hi := (List.getElem?_eq_some_iff.mp h).1
  have hl : i < (enumT 0 fs).length := by rw [enumT_len]; exact hi
  obtain ⟨y1, y2⟩ := enumT_get (List.getElem?_eq_getElem hl)
  rw [h] at y2
  have y2 : p = ((enumT 0 fs)[i]).2 := Option.some.inj y2
  refine List.mem_map.mpr ⟨(enumT 0 fs)[i], List.mem_filter.mpr ⟨List.getElem_mem hl, by rw [← y2]; exact ho⟩, by rw [y1, Nat.zero_add]⟩
theorem lpR_find2 {β ρ : Type} (c : β → Bool) (g : β → ρ) : ∀ ys : List β, lpR (fun (_ : Unit) y => if c y = true then some (Lf.ret (g y)) else some (.go ())) ys () = some (match ys.find? c with | some y => .ret (g y) | none => .go ())
  | [] => rfl
  | y :: ys => by
    rw [lpR, List.find?_cons]
    cases h : c y with
    | true => rfl
    | false =>
      have ih := lpR_find2 c g ys
      simp only [Bool.false_eq_true, if_false]
      exact ih
theorem behind_w {N : Net} (h : GoodN N) (l n : Int) (hn : n < (N.2.1.length : Int)) (hn0 : -1 ≤ n) : ∃ f : Nat, p_fork_behind N l n = some (f : Int) ∧ n < (f : Int) ∧ f ≤ N.2.1.length ∧ (f = N.2.1.length ∨ ∃ p, N.2.1[f]? = some p ∧ (l = p.1 ∨ l = p.2)) ∧
    ∀ (i : Nat) p, n < (i : Int) → i < f → N.2.1[i]? = some p → p.1 ≠ l ∧ p.2 ≠ l := by
  have e : lpR (fun (s9 : Unit) (fork : Int) => if (decide (n < fork)) = true then some (Lf.ret (ρ := Int) fork) else some (.go ())) (laneE 0 N.2.1 l) () = _ := lpR_find2 (fun fork : Int => decide (n < fork)) id (laneE 0 N.2.1 l)
  have off : ∀ (i : Nat) p, N.2.1[i]? = some p → (i : Int) ∉ laneE 0 N.2.1 l → p.1 ≠ l ∧ p.2 ≠ l := fun i p hp hi => by
    refine ⟨fun z => hi (laneE_mem hp ?_), fun z => hi (laneE_mem hp ?_)⟩ <;> unfold onF <;> simp [z]
  unfold p_fork_behind
  rw [on_lane_eq h.many, Option.bind_some, e, Option.bind_some]
  cases hf : (laneE 0 N.2.1 l).find? (fun fork : Int => decide (n < fork)) with
  | none =>
    refine ⟨N.2.1.length, rfl, hn, Nat.le_refl _, .inl rfl, fun i p h1 _ hp => off i p hp fun hm => ?_⟩
    have := List.find?_eq_none.mp hf _ hm
    simp at this
    omega
  | some y =>
    obtain ⟨as, bs, ey, hno⟩ : ∃ as bs, laneE 0 N.2.1 l = as ++ y :: bs ∧ ∀ a ∈ as, ¬ (n < a) := by
      obtain ⟨_, as, bs, e, hn⟩ := List.find?_eq_some_iff_append.mp hf
      exact ⟨as, bs, e, fun a ha => by simpa using hn a ha⟩
    have hy : n < y := by simpa using List.find?_some hf
    obtain ⟨i, p, ei, ep, ho⟩ := laneE_get N.2.1 0 l y (by rw [ey]; exact List.mem_append_right _ (List.mem_cons_self ..))
    rw [Nat.zero_add] at ei
    have il := (List.getElem?_eq_some_iff.mp ep).1
    refine ⟨i, by rw [ei]; rfl, by omega, by omega, .inr ⟨p, ep, ?_⟩, fun i' p' h1 h2 hp' => off i' p' hp' fun hm => ?_⟩
    · unfold onF at ho
      simp only [Bool.or_eq_true, decide_eq_true_eq] at ho
      exact ho.imp Eq.symm Eq.symm
    · have rise := laneE_rise N.2.1 0 l
      rw [ey] at hm rise
      rcases List.mem_append.mp hm with hm | hm
      · exact hno _ hm h1
      · rcases List.mem_cons.mp hm with hm | hm
        · omega
        · have := (List.pairwise_append.mp rise).2.1
          rw [List.pairwise_cons] at this
          have := this.1 _ hm
          omega
theorem zip_mid {α β : Type} (fa : List α) (p : α) (fb : List α) (ta : List β) (t : β) (tb : List β) (h : fa.length = ta.length) : (fa ++ p :: fb).zip (ta ++ t :: tb) = fa.zip ta ++ (p, t) :: fb.zip tb := by
  rw [List.zip_append h, List.zip_cons_cons]
theorem split_at {α : Type} (l : List α) (k : Nat) (h : k < l.length) : l = l.take k ++ l[k] :: l.drop (k + 1) := by
  have := List.drop_eq_getElem_cons (l := l) (i := k) h
  rw [← this, List.take_append_drop]
/-- a step of a group -/
theorem step_w {N : Net} (h : GoodN N) {S : Scn} (o : OkS N S) (hg : S.2.1.length ≤ 1000) {k : Nat} (hk : k < S.2.1.length) : ∃ S', p_step_on N S (k : Int) = some S' ∧ OkS N S' ∧ finS N S' = finS N S ∧ totS S' = totS S ∧
    ∃ ap : List (List Int), S'.2.1 = S.2.1.take k ++ ap ++ S.2.1.drop (k + 1) ∧ ap.length ≤ 2 ∧ (∀ g ∈ ap, (S.2.1[k]).getD 2 0 < g.getD 2 0) ∧ ((S.2.1[k]).getD 2 0 = (N.2.1.length : Int) → ap = []) := by
  obtain ⟨ts, gs, out⟩ := S
  have hk : k < gs.length := hk
  have hg : gs.length ≤ 1000 := hg
  have o1 : ts.length = N.2.1.length := o.turns
  have o2 : out.length = N.2.2.length := o.out
  have el := h.elen
  have l16 := h.l16
  have many := h.many
  obtain ⟨m, l, f, eg, l0, l1, hf⟩ := o.grp gs[k] (List.getElem_mem hk)
  have esp := split_at gs k hk
  obtain ⟨A, hA⟩ : ∃ A, A = gs.take k := ⟨_, rfl⟩
  obtain ⟨C, hC⟩ : ∃ C, C = gs.drop (k + 1) := ⟨_, rfl⟩
  have gA : ∀ g ∈ A, GrpOk N g := fun g hg => o.grp g (by rw [hA] at hg; exact List.mem_of_mem_take hg)
  have gC : ∀ g ∈ C, GrpOk N g := fun g hg => o.grp g (by rw [hC] at hg; exact List.mem_of_mem_drop hg)
  have lA : A.length = k := by rw [hA, List.length_take]; omega
  have lC : C.length + k + 1 = gs.length := by rw [hC, List.length_drop]; omega
  have esp' : gs = A ++ [m, l, (f : Int)] :: C := by rw [hA, hC, ← eg]; exact esp
  have ak : atI gs (k : Int) = some [m, l, (f : Int)] := by rw [← eg]; exact atI_nat (List.getElem?_eq_getElem hk)
  have c0 : cutL gs none (some (k : Int)) = A := by rw [cutL_to, hA]
  have c1 : cutL gs (some ((k : Int) + 1)) none = C := by rw [show (k : Int) + 1 = ((k + 1 : Nat) : Int) by rfl, cutL_from, hC]
  have u3 : un3 [m, l, (f : Int)] = some (m, l, (f : Int)) := rfl
  show ∃ S', p_step_on N (ts, gs, out) (k : Int) = some S' ∧ _
  unfold p_step_on
  rw [ak, Option.bind_some, u3, Option.bind_some]
  have hg2 : gs[k].getD 2 0 = (f : Int) := by rw [eg]; rfl
  by_cases hF : f = N.2.1.length
  · -- it comes out
    obtain ⟨e, ee, el2, eget⟩ := end_of h l0 l1
    have heo : e < out.length := by omega
    have ae : atI out (e : Int) = some (out.getD e 0) := by rw [atI_D 0 (by omega) (by omega), Int.toNat_natCast]
    have d0 : cutL out none (some (e : Int)) = out.take e := cutL_to _ _
    have d1 : cutL out (some ((e : Int) + 1)) none = out.drop (e + 1) := by rw [show (e : Int) + 1 = ((e + 1 : Nat) : Int) by rfl, cutL_from]
    have eset : out.take e ++ [out.getD e 0 + m] ++ out.drop (e + 1) = out.set e (out.getD e 0 + m) := by
      rw [List.set_eq_take_append_cons_drop, if_pos heo, List.append_assoc]
      rfl
    have ec : p_come_out N (ts, gs, out) (k : Int) = some (ts, A ++ C, out.set e (out.getD e 0 + m)) := by
      unfold p_come_out
      rw [ak, Option.bind_some, u3, Option.bind_some]
      show ((idxT N.2.2 l).bind _) = _
      rw [ee, Option.bind_some]
      show ((catT (cutL gs none (some (k : Int))) (cutL gs (some ((k : Int) + 1)) none)).bind _) = _
      rw [c0, c1, catT_of (by omega), Option.bind_some]
      show ((atI out (e : Int)).bind _) = _
      rw [ae, Option.bind_some]
      show ((catT (cutL out none (some (e : Int))) [out.getD e 0 + m]).bind fun t42 => (catT t42 (cutL out (some ((e : Int) + 1)) none)).bind _) = _
      rw [d0, d1, catT_of (by rw [List.length_take]; simp; omega), Option.bind_some, catT_of (by simp; omega), Option.bind_some, eset]
    rw [if_pos (decide_eq_true (by show (f : Int) = _; omega)), ec, Option.bind_some]
    refine ⟨_, rfl, ⟨o1, o.t01, by show (out.set e _).length = _; rw [List.length_set]; exact o2, fun g hg => ?_⟩, ?_, ?_, [], by show A ++ C = _; rw [hA, hC, List.append_nil], by simp, fun g hg => (by cases hg), fun _ => rfl⟩
    · rcases List.mem_append.mp hg with hg | hg
      · exact gA g hg
      · exact gC g hg
    · have eG : gsum gs = addG (gsum (A ++ C)) (oneG f l m) := by rw [esp', gsum_mid, gsum_one]
      have er := run_end (G := gsum (A ++ C)) (f := f) (l := l) (m := m) (N.2.1.zip ts) 0 (fun _ => 0) (by rw [List.length_zip, o1]; omega)
      unfold finS
      show ((runF (gsum (A ++ C)) 0 (N.2.1.zip ts) (fun _ => 0)).1, List.zipWith (fun o l => o + (runF (gsum (A ++ C)) 0 (N.2.1.zip ts) (fun _ => 0)).2 l) (out.set e (out.getD e 0 + m)) N.2.2) = ((runF (gsum gs) 0 (N.2.1.zip ts) (fun _ => 0)).1, List.zipWith (fun o l => o + (runF (gsum gs) 0 (N.2.1.zip ts) (fun _ => 0)).2 l) out N.2.2)
      rw [eG, er]
      refine Prod.ext rfl ?_
      show List.zipWith _ _ _ = List.zipWith (fun o l' => o + addX (runF (gsum (A ++ C)) 0 (N.2.1.zip ts) (fun _ => 0)).2 l m l') out N.2.2
      generalize (runF (gsum (A ++ C)) 0 (N.2.1.zip ts) (fun _ => 0)).2 = z
      refine List.ext_getElem (by rw [List.length_zipWith, List.length_zipWith, List.length_set]) fun i h1 h2 => ?_
      rw [List.length_zipWith, List.length_set] at h1
      rw [List.getElem_zipWith, List.getElem_zipWith, List.getElem_set]
      have nd := h.nodup
      have ge : N.2.2[e]'el2 = l := by
        have := List.getElem?_eq_getElem el2
        rw [eget] at this
        exact (Option.some.inj this).symm
      unfold addX
      by_cases q : e = i
      · subst q
        rw [if_pos rfl, if_pos ge, ge, List.getD_eq_getElem?_getD, List.getElem?_eq_getElem heo, Option.getD_some]
        omega
      · have : N.2.2[i]'(by omega) ≠ l := fun z => by
          have pw := List.pairwise_iff_getElem.mp nd
          rcases Nat.lt_or_gt_of_ne q with w | w
          · exact pw e i el2 (by omega) w (by rw [ge, z])
          · exact pw i e (by omega) el2 w (by rw [ge, z])
        rw [if_neg q, if_neg this]
        omega
    · unfold totS
      show (out.set e (out.getD e 0 + m)).sum + ((A ++ C).map fun g => g.getD 0 0).sum = out.sum + (gs.map fun g => g.getD 0 0).sum
      rw [esp', List.map_append, List.map_append, List.map_cons, List.sum_append, List.sum_append, List.sum_cons, sum_set out e _ heo]
      show out.sum - out.getD e 0 + (out.getD e 0 + m) + _ = out.sum + (_ + (m + _))
      omega
  · -- it goes through its fork
    obtain ⟨p, ep, hl⟩ := hf.resolve_left hF
    have hfl := (List.getElem?_eq_some_iff.mp ep).1
    have hft : f < ts.length := by omega
    have af : atI N.2.1 (f : Int) = some p := atI_nat ep
    have atf : atI ts (f : Int) = some ts[f] := atI_nat (List.getElem?_eq_getElem hft)
    obtain ⟨t, ht⟩ : ∃ t, t = ts[f] := ⟨_, rfl⟩
    have t01 : t = 0 ∨ t = 1 := o.t01 t (by rw [ht]; exact List.getElem_mem hft)
    have gp := h.forks p (List.mem_of_getElem? ep)
    have hp : p.1 ≠ p.2 := gp.2.2.2.2
    obtain ⟨f1, b1, g1, le1, on1, no1⟩ := behind_w h p.1 (f : Int) (by omega) (by omega)
    obtain ⟨f2, b2, g2, le2, on2, no2⟩ := behind_w h p.2 (f : Int) (by omega) (by omega)
    obtain ⟨hh, ehh⟩ : ∃ hh, hh = hereI t m := ⟨_, rfl⟩
    have go1 : p_group_of N hh p.1 (f : Int) = some (if hh = 0 then [] else [[hh, p.1, (f1 : Int)]]) := by
      unfold p_group_of
      by_cases z : hh = 0
      · rw [if_pos (decide_eq_true z), if_pos z]
      · rw [if_neg (by simp [z]), if_neg z, b1, Option.bind_some]
    have go2 : p_group_of N (m - hh) p.2 (f : Int) = some (if m - hh = 0 then [] else [[m - hh, p.2, (f2 : Int)]]) := by
      unfold p_group_of
      by_cases z : m - hh = 0
      · rw [if_pos (decide_eq_true z), if_pos z]
      · rw [if_neg (by simp only [decide_eq_true_eq]; exact z), if_neg z, b2, Option.bind_some]
    obtain ⟨a1, ea1⟩ : ∃ a, a = (if hh = 0 then [] else [[hh, p.1, (f1 : Int)]] : List (List Int)) := ⟨_, rfl⟩
    obtain ⟨a2, ea2⟩ : ∃ a, a = (if m - hh = 0 then [] else [[m - hh, p.2, (f2 : Int)]] : List (List Int)) := ⟨_, rfl⟩
    rw [← ea1] at go1
    rw [← ea2] at go2
    have la1 : a1.length ≤ 1 := by rw [ea1]; split <;> simp
    have la2 : a2.length ≤ 1 := by rw [ea2]; split <;> simp
    have s1 : gsum a1 = oneG f1 p.1 hh := by
      rw [ea1]
      split
      · rename_i z; rw [z, oneG_zero]; rfl
      · exact gsum_one _ _ _
    have s2 : gsum a2 = oneG f2 p.2 (m - hh) := by
      rw [ea2]
      split
      · rename_i z; rw [z, oneG_zero]; rfl
      · exact gsum_one _ _ _
    have ts1 : (a1.map fun g => g.getD 0 0).sum = hh := by
      rw [ea1]
      split
      · rename_i z; rw [z]; rfl
      · show hh + 0 = hh; omega
    have ts2 : (a2.map fun g => g.getD 0 0).sum = m - hh := by
      rw [ea2]
      split
      · rename_i z; rw [z]; rfl
      · show m - hh + 0 = m - hh; omega
    have d0 : cutL ts none (some (f : Int)) = ts.take f := cutL_to _ _
    have d1 : cutL ts (some ((f : Int) + 1)) none = ts.drop (f + 1) := by rw [show (f : Int) + 1 = ((f + 1 : Nat) : Int) by rfl, cutL_from]
    rw [if_neg (by simp only [decide_eq_true_eq]; omega)]
    show ∃ S', ((atI N.2.1 (f : Int)).bind fun t25 => ((atI ts (f : Int))).bind fun turn => (some ((((turn + m) + (1 : Int)) / (2 : Int)) - turn)).bind fun here => ((p_group_of N here t25.1 (f : Int))).bind fun t46 => ((p_group_of N (m - here) t25.2 (f : Int))).bind fun t54 => ((catT t46 t54)).bind fun apart => ((catT (cutL ts none (some (f : Int))) [((turn + m) % (2 : Int))])).bind fun t69 => ((catT t69 (cutL ts (some ((f : Int) + (1 : Int))) none))).bind fun later => ((catT (cutL gs none (some (k : Int))) apart)).bind fun t87 => ((catT t87 (cutL gs (some ((k : Int) + (1 : Int))) none))).bind fun t97 => some (later, t97, out)) = some S' ∧ _
    rw [af, Option.bind_some, atf, Option.bind_some, Option.bind_some, ← ht, show (t + m + 1) / 2 - t = hh by rw [ehh]; rfl, go1, Option.bind_some, go2, Option.bind_some, catT_of (by omega), Option.bind_some, d0, d1, catT_of (by rw [List.length_take]; simp; omega), Option.bind_some, catT_of (by simp; omega), Option.bind_some, c0, c1, catT_of (by simp; omega), Option.bind_some, catT_of (by simp; omega), Option.bind_some]
    have tsp : ts = ts.take f ++ t :: ts.drop (f + 1) := by rw [ht]; exact split_at ts f hft
    have fsp : N.2.1 = N.2.1.take f ++ p :: N.2.1.drop (f + 1) := by
      have := split_at N.2.1 f hfl
      have e2 : N.2.1[f] = p := (List.getElem?_eq_some_iff.mp ep).2
      rw [e2] at this
      exact this
    have ltk : (N.2.1.take f).length = (ts.take f).length := by rw [List.length_take, List.length_take]; omega
    refine ⟨_, rfl, ⟨?_, fun u hu => ?_, o2, fun g hg => ?_⟩, ?_, ?_, a1 ++ a2, ?_, by rw [List.length_append]; omega, fun g hg => ?_, fun z => absurd (by rw [hg2] at z; omega) hF⟩
    · show (ts.take f ++ [(t + m) % 2] ++ ts.drop (f + 1)).length = _
      rw [List.length_append, List.length_append, List.length_take, List.length_drop, List.length_singleton]
      omega
    · rcases List.mem_append.mp hu with hu | hu
      · rcases List.mem_append.mp hu with hu | hu
        · exact o.t01 u (List.mem_of_mem_take hu)
        · rw [List.mem_singleton.mp hu]; exact Int.emod_two_eq _
      · exact o.t01 u (List.mem_of_mem_drop hu)
    · rcases List.mem_append.mp hg with hg | hg
      · rcases List.mem_append.mp hg with hg | hg
        · exact gA g hg
        · rcases List.mem_append.mp hg with hg | hg
          · rw [ea1] at hg
            split at hg
            · cases hg
            · rw [List.mem_singleton.mp hg]; exact ⟨_, _, f1, rfl, gp.1, gp.2.1, on1⟩
          · rw [ea2] at hg
            split at hg
            · cases hg
            · rw [List.mem_singleton.mp hg]; exact ⟨_, _, f2, rfl, gp.2.2.1, gp.2.2.2.1, on2⟩
      · exact gC g hg
    · have eG : gsum gs = addG (gsum (A ++ C)) (oneG f l m) := by rw [esp', gsum_mid, gsum_one]
      have eG2 : gsum (A ++ (a1 ++ a2) ++ C) = addG (addG (gsum (A ++ C)) (oneG f1 p.1 hh)) (oneG f2 p.2 (m - hh)) := by
        rw [gsum_app, gsum_app, gsum_app, gsum_app, s1, s2]
        funext i a
        unfold addG
        omega
      have st := run_step (G := gsum (A ++ C)) (f := f) (f1 := f1) (f2 := f2) (l := l) (m := m) (t := t) (p := p) (suf := (N.2.1.drop (f + 1)).zip (ts.drop (f + 1))) hl hp t01
        ⟨by omega, by rw [List.length_zip, List.length_drop, List.length_drop]; omega⟩ ⟨by omega, by rw [List.length_zip, List.length_drop, List.length_drop]; omega⟩
        (fun i q hi hq => by
          have := List.getElem?_zip_eq_some.mp hq
          rw [List.getElem?_drop] at this
          exact no1 (f + 1 + i) q.1 (by omega) (by omega) this.1)
        (fun i q hi hq => by
          have := List.getElem?_zip_eq_some.mp hq
          rw [List.getElem?_drop] at this
          exact no2 (f + 1 + i) q.1 (by omega) (by omega) this.1)
        ((N.2.1.take f).zip (ts.take f)) 0 (fun _ => 0) (by rw [List.length_zip, List.length_take, List.length_take]; omega)
      rw [← ehh] at st
      have z1 : N.2.1.zip ts = (N.2.1.take f).zip (ts.take f) ++ (p, t) :: (N.2.1.drop (f + 1)).zip (ts.drop (f + 1)) := by
        conv => lhs; rw [fsp, tsp]
        exact zip_mid _ _ _ _ _ _ ltk
      have z2 : N.2.1.zip (ts.take f ++ [(t + m) % 2] ++ ts.drop (f + 1)) = (N.2.1.take f).zip (ts.take f) ++ (p, (t + m) % 2) :: (N.2.1.drop (f + 1)).zip (ts.drop (f + 1)) := by
        conv => lhs; rw [fsp]
        rw [List.append_assoc]
        exact zip_mid _ _ _ _ _ _ ltk
      unfold finS
      show ((runF (gsum (A ++ (a1 ++ a2) ++ C)) 0 (N.2.1.zip (ts.take f ++ [(t + m) % 2] ++ ts.drop (f + 1))) (fun _ => 0)).1, List.zipWith (fun o l => o + (runF (gsum (A ++ (a1 ++ a2) ++ C)) 0 (N.2.1.zip (ts.take f ++ [(t + m) % 2] ++ ts.drop (f + 1))) (fun _ => 0)).2 l) out N.2.2) = ((runF (gsum gs) 0 (N.2.1.zip ts) (fun _ => 0)).1, List.zipWith (fun o l => o + (runF (gsum gs) 0 (N.2.1.zip ts) (fun _ => 0)).2 l) out N.2.2)
      rw [eG, eG2, z1, z2, st]
    · unfold totS
      show out.sum + ((A ++ (a1 ++ a2) ++ C).map fun g => g.getD 0 0).sum = out.sum + (gs.map fun g => g.getD 0 0).sum
      rw [esp', List.map_append, List.map_append, List.map_append, List.map_append, List.map_cons, List.sum_append, List.sum_append, List.sum_append, List.sum_append, List.sum_cons, ts1, ts2]
      show _ = out.sum + (_ + (m + _))
      omega
    · show A ++ (a1 ++ a2) ++ C = _
      rw [hA, hC]
    · show gs[k].getD 2 0 < _
      rw [hg2]
      rcases List.mem_append.mp hg with hg | hg
      · rw [ea1] at hg
        split at hg
        · cases hg
        · rw [List.mem_singleton.mp hg]; exact g1
      · rw [ea2] at hg
        split at hg
        · cases hg
        · rw [List.mem_singleton.mp hg]; exact g2
/-! scenes: joins; deeds; how many deeds are left -/
theorem cut_mid {α : Type} (l : List α) (a b : Nat) (h : a ≤ b) (hb : b ≤ l.length) : cutL l (some (a : Int)) (some (b : Int)) = (l.drop a).take (b - a) := by
  unfold cutL
  rw [HT.sIx_nat, HT.sIx_nat, Nat.min_eq_left (by omega), Nat.min_eq_left (by omega)]
theorem split_two {α : Type} (l : List α) (j k : Nat) (hjk : j < k) (hk : k < l.length) : l = l.take j ++ l[j]'(by omega) :: ((l.drop (j + 1)).take (k - (j + 1)) ++ l[k] :: l.drop (k + 1)) := by
  have e1 := split_at l j (by omega)
  have hk2 : k - (j + 1) < (l.drop (j + 1)).length := by rw [List.length_drop]; omega
  have e2 := split_at (l.drop (j + 1)) (k - (j + 1)) hk2
  rw [List.getElem_drop, List.drop_drop] at e2
  have i1 : j + 1 + (k - (j + 1)) = k := by omega
  have i2 : j + 1 + (k - (j + 1) + 1) = k + 1 := by omega
  simp only [i1, i2] at e2
  rw [← e2]
  exact e1
theorem join_w {N : Net} {S : Scn} (o : OkS N S) (hg : S.2.1.length ≤ 1000) {j k : Nat} (hjk : j < k) (hk : k < S.2.1.length) (al : cutL (S.2.1[j]'(by omega)) (some 1) none = cutL S.2.1[k] (some 1) none) :
    ∃ S', p_joined_groups S (j : Int) (k : Int) = some S' ∧ OkS N S' ∧ finS N S' = finS N S ∧ totS S' = totS S ∧ S'.2.1.length + 1 ≤ S.2.1.length ∧ (S'.2.1.map fun g => g.getD 2 0).Sublist (S.2.1.map fun g => g.getD 2 0) := by
  obtain ⟨ts, gs, out⟩ := S
  have hk : k < gs.length := hk
  have hg : gs.length ≤ 1000 := hg
  have hj : j < gs.length := by omega
  obtain ⟨m1, l, f, e1, l0, l1, hf⟩ := o.grp gs[j] (List.getElem_mem hj)
  obtain ⟨m2, l', f', e2, _⟩ := o.grp gs[k] (List.getElem_mem hk)
  have al : cutL gs[j] (some ((1 : Nat) : Int)) none = cutL gs[k] (some ((1 : Nat) : Int)) none := al
  rw [e1, e2, cutL_from, cutL_from] at al
  have al : [l, (f : Int)] = [l', (f' : Int)] := al
  have ll : l' = l := by
    have := congrArg (fun x : List Int => x.getD 0 0) al
    exact this.symm
  have ff : (f' : Int) = (f : Int) := by
    have := congrArg (fun x : List Int => x.getD 1 0) al
    exact this.symm
  rw [ll, ff] at e2
  have esp := split_two gs j k hjk hk
  obtain ⟨A, hA⟩ : ∃ A, A = gs.take j := ⟨_, rfl⟩
  obtain ⟨B, hB⟩ : ∃ B, B = (gs.drop (j + 1)).take (k - (j + 1)) := ⟨_, rfl⟩
  obtain ⟨C, hC⟩ : ∃ C, C = gs.drop (k + 1) := ⟨_, rfl⟩
  rw [← hA, ← hB, ← hC, e1, e2] at esp
  have lens := congrArg List.length esp
  rw [List.length_append, List.length_cons, List.length_append, List.length_cons] at lens
  have a1 : atI gs (j : Int) = some [m1, l, (f : Int)] := by rw [← e1]; exact atI_nat (List.getElem?_eq_getElem hj)
  have a2 : atI gs (k : Int) = some [m2, l, (f : Int)] := by rw [← e2]; exact atI_nat (List.getElem?_eq_getElem hk)
  have c0 : cutL gs none (some (j : Int)) = A := by rw [cutL_to, hA]
  have c1 : cutL gs (some ((j : Int) + 1)) (some (k : Int)) = B := by rw [show (j : Int) + 1 = ((j + 1 : Nat) : Int) by rfl, cut_mid _ _ _ (by omega) (by omega), hB]
  have c2 : cutL gs (some ((k : Int) + 1)) none = C := by rw [show (k : Int) + 1 = ((k + 1 : Nat) : Int) by rfl, cutL_from, hC]
  have ct : cutL [m1, l, (f : Int)] (some (1 : Int)) none = [l, (f : Int)] := by rw [show (1 : Int) = ((1 : Nat) : Int) by rfl, cutL_from]; rfl
  obtain ⟨one, hone⟩ : ∃ one, one = (if m1 + m2 = 0 then [] else [[m1 + m2, l, (f : Int)]] : List (List Int)) := ⟨_, rfl⟩
  have lo : one.length ≤ 1 := by rw [hone]; split <;> simp
  have er : repT [[m1 + m2, l, (f : Int)]] (if (!decide (m1 + m2 = (0 : Int))) = true then 1 else 0) = some one := by
    rw [hone]
    by_cases z : m1 + m2 = 0
    · rw [if_pos z, decide_eq_true z]; rfl
    · rw [if_neg z, decide_eq_false z]; rfl
  have res : p_joined_groups (ts, gs, out) (j : Int) (k : Int) = some (ts, A ++ one ++ B ++ C, out) := by
    unfold p_joined_groups
    show ((atI gs (j : Int)).bind fun t7 => ((atI t7 (0 : Int))).bind fun t10 => ((atI gs (k : Int))).bind fun t14 => ((atI t14 (0 : Int))).bind fun t17 => (some (t10 + t17)).bind fun many => ((atI gs (j : Int))).bind fun t27 => ((catT [many] (cutL t27 (some (1 : Int)) none))).bind fun t32 => ((repT [t32] (if (!decide (many = (0 : Int))) = true then 1 else 0))).bind fun one => ((catT (cutL gs none (some (j : Int))) one)).bind fun t48 => ((catT t48 (cutL gs (some ((j : Int) + (1 : Int))) (some (k : Int))))).bind fun t56 => ((catT t56 (cutL gs (some ((k : Int) + (1 : Int))) none))).bind fun t66 => some (ts, t66, out)) = _
    rw [a1, Option.bind_some, show atI [m1, l, (f : Int)] (0 : Int) = some m1 from rfl, Option.bind_some, a2, Option.bind_some, show atI [m2, l, (f : Int)] (0 : Int) = some m2 from rfl, Option.bind_some, Option.bind_some, Option.bind_some, ct, catT_of (by simp), Option.bind_some]
    show ((repT [[m1 + m2, l, (f : Int)]] _).bind _) = _
    rw [er, Option.bind_some, c0, catT_of (by omega), Option.bind_some, c1, catT_of (by rw [List.length_append]; omega), Option.bind_some, c2, catT_of (by rw [List.length_append, List.length_append]; omega), Option.bind_some]
  have gA : ∀ g ∈ A, GrpOk N g := fun g hg => o.grp g (by rw [hA] at hg; exact List.mem_of_mem_take hg)
  have gB : ∀ g ∈ B, GrpOk N g := fun g hg => o.grp g (by rw [hB] at hg; exact List.mem_of_mem_drop (List.mem_of_mem_take hg))
  have gC : ∀ g ∈ C, GrpOk N g := fun g hg => o.grp g (by rw [hC] at hg; exact List.mem_of_mem_drop hg)
  have s1 : gsum one = addG (oneG f l m1) (oneG f l m2) := by
    have : oneG f l (m1 + m2) = addG (oneG f l m1) (oneG f l m2) := by
      funext i a
      show (if i = f ∧ a = l then m1 + m2 else 0) = (if i = f ∧ a = l then m1 else 0) + (if i = f ∧ a = l then m2 else 0)
      split <;> omega
    rw [hone, ← this]
    split
    · rename_i z; rw [z, oneG_zero]; rfl
    · exact gsum_one _ _ _
  have ts1 : (one.map fun g => g.getD 0 0).sum = m1 + m2 := by
    rw [hone]
    split
    · rename_i z; rw [z]; rfl
    · show m1 + m2 + 0 = m1 + m2; omega
  have eG : gsum (A ++ one ++ B ++ C) = gsum gs := by
    conv => rhs; rw [esp]
    rw [gsum_mid, gsum_app A, gsum_mid B C, gsum_app B C, gsum_one, gsum_one, gsum_app, gsum_app, gsum_app, s1]
    funext i a
    unfold addG
    omega
  refine ⟨_, res, ⟨o.turns, o.t01, o.out, fun g hg => ?_⟩, ?_, ?_, ?_, ?_⟩
  · rcases List.mem_append.mp hg with hg | hg
    · rcases List.mem_append.mp hg with hg | hg
      · rcases List.mem_append.mp hg with hg | hg
        · exact gA g hg
        · rw [hone] at hg
          split at hg
          · cases hg
          · rw [List.mem_singleton.mp hg]; exact ⟨_, _, f, rfl, l0, l1, hf⟩
      · exact gB g hg
    · exact gC g hg
  · unfold finS
    show ((runF (gsum (A ++ one ++ B ++ C)) 0 (N.2.1.zip ts) (fun _ => 0)).1, List.zipWith (fun o l => o + (runF (gsum (A ++ one ++ B ++ C)) 0 (N.2.1.zip ts) (fun _ => 0)).2 l) out N.2.2) = _
    rw [eG]
  · unfold totS
    show out.sum + ((A ++ one ++ B ++ C).map fun g => g.getD 0 0).sum = out.sum + (gs.map fun g => g.getD 0 0).sum
    conv => rhs; rw [esp]
    rw [List.map_append, List.map_append, List.map_append, List.map_append, List.map_cons, List.map_append, List.map_cons, List.sum_append, List.sum_append, List.sum_append, List.sum_append, List.sum_cons, List.sum_append, List.sum_cons, ts1]
    show _ = out.sum + (_ + (m1 + (_ + (m2 + _))))
    omega
  · show (A ++ one ++ B ++ C).length + 1 ≤ gs.length
    rw [List.length_append, List.length_append, List.length_append]
    omega
  · show ((A ++ one ++ B ++ C).map fun g => g.getD 2 0).Sublist (gs.map fun g => g.getD 2 0)
    conv => rhs; rw [esp]
    rw [List.map_append, List.map_append, List.map_append, List.map_append, List.map_cons, List.map_append, List.map_cons, List.append_assoc, List.append_assoc]
    refine List.Sublist.append (List.Sublist.refl _) ?_
    have so : (one.map fun g => g.getD 2 0).Sublist [(f : Int)] := by
      rw [hone]
      split
      · exact List.nil_sublist _
      · exact List.Sublist.refl _
    show List.Sublist _ ([(f : Int)] ++ (B.map (fun g => g.getD 2 0) ++ (f : Int) :: C.map (fun g => g.getD 2 0)))
    exact List.Sublist.append so (List.Sublist.append (List.Sublist.refl _) (List.sublist_cons_self _ _))
/-! how many deeds are left -/
def sJ (ps : List Int) (j : Nat) : Nat := if ps.any (fun x => decide (x < (j : Int))) = true then 2 else min 2 (ps.count (j : Int))
def slots (F : Nat) (ps : List Int) : Nat := ((List.range F).map (sJ ps)).sum
theorem sJ_le (ps : List Int) (j : Nat) : sJ ps j ≤ 2 := by
  unfold sJ
  split <;> omega
theorem msum_le {f g : Nat → Nat} : ∀ l : List Nat, (∀ x ∈ l, f x ≤ g x) → (l.map f).sum ≤ (l.map g).sum
  | [], _ => Nat.le_refl _
  | x :: l, h => by
    rw [List.map_cons, List.map_cons, List.sum_cons, List.sum_cons]
    have := h x (List.mem_cons_self ..)
    have := msum_le l fun y hy => h y (List.mem_cons_of_mem _ hy)
    omega
theorem msum_lt {f g : Nat → Nat} {z : Nat} : ∀ l : List Nat, (∀ x ∈ l, f x ≤ g x) → z ∈ l → f z + 1 ≤ g z → (l.map f).sum + 1 ≤ (l.map g).sum
  | [], _, h, _ => by cases h
  | x :: l, h, hz, hl => by
    rw [List.map_cons, List.map_cons, List.sum_cons, List.sum_cons]
    have h1 := h x (List.mem_cons_self ..)
    have h2 := msum_le l fun y hy => h y (List.mem_cons_of_mem _ hy)
    rcases List.mem_cons.mp hz with rfl | hz
    · omega
    · have := msum_lt l (fun y hy => h y (List.mem_cons_of_mem _ hy)) hz hl
      omega
theorem slots_le (F : Nat) (ps : List Int) : slots F ps ≤ 2 * F := by
  unfold slots
  have := msum_le (f := sJ ps) (g := fun _ => 2) (List.range F) fun x _ => sJ_le ps x
  refine Nat.le_trans this ?_
  have : ∀ l : List Nat, (l.map fun _ => 2).sum = 2 * l.length := fun l => by
    induction l with
    | nil => rfl
    | cons x l ih => rw [List.map_cons, List.sum_cons, ih, List.length_cons]; omega
  rw [this, List.length_range]
  exact Nat.le_refl _
theorem slots_sub {F : Nat} {ps qs : List Int} (h : ps.Sublist qs) : slots F ps ≤ slots F qs := by
  refine msum_le _ fun j _ => ?_
  unfold sJ
  by_cases a : ps.any (fun x => decide (x < (j : Int))) = true
  · have : qs.any (fun x => decide (x < (j : Int))) = true := by
      rw [List.any_eq_true] at a ⊢
      obtain ⟨x, hx, hh⟩ := a
      exact ⟨x, h.subset hx, hh⟩
    rw [if_pos a, if_pos this]
    exact Nat.le_refl _
  · rw [if_neg a]
    split
    · omega
    · have := h.count_le (j : Int)
      omega
theorem slots_step {F f : Nat} (hf : f < F) {a c n : List Int} (h1 : ∀ x ∈ a ++ (f : Int) :: c, (f : Int) ≤ x) (h2 : ∀ y ∈ n, (f : Int) < y) (h3 : (a ++ (f : Int) :: c).count (f : Int) ≤ 2) : slots F (a ++ n ++ c) + 1 ≤ slots F (a ++ (f : Int) :: c) := by
  have hn : n.count (f : Int) = 0 := List.count_eq_zero.mpr fun z => by have := h2 _ z; omega
  have cnt : (a ++ (f : Int) :: c).count (f : Int) = (a ++ n ++ c).count (f : Int) + 1 := by
    rw [List.count_append, List.count_append, List.count_append, List.count_cons_self, hn]
    omega
  have ge : ∀ x ∈ a ++ n ++ c, (f : Int) ≤ x := fun x hx => by
    rcases List.mem_append.mp hx with hx | hx
    · rcases List.mem_append.mp hx with hx | hx
      · exact h1 x (List.mem_append_left _ hx)
      · have := h2 x hx; omega
    · exact h1 x (List.mem_append_right _ (List.mem_cons_of_mem _ hx))
  refine msum_lt (z := f) _ (fun j _ => ?_) (List.mem_range.mpr hf) ?_
  · rcases Nat.lt_trichotomy j f with w | w | w
    · unfold sJ
      have n1 : ¬ ((a ++ n ++ c).any (fun x => decide (x < (j : Int))) = true) := fun z => by
        obtain ⟨x, hx, hh⟩ := List.any_eq_true.mp z
        have := ge x hx
        have := of_decide_eq_true hh
        omega
      rw [if_neg n1]
      have : (a ++ n ++ c).count (j : Int) = 0 := List.count_eq_zero.mpr fun z => by have := ge _ z; omega
      rw [this]
      simp
    · subst w
      unfold sJ
      have n1 : ¬ ((a ++ n ++ c).any (fun x => decide (x < (j : Int))) = true) := fun z => by
        obtain ⟨x, hx, hh⟩ := List.any_eq_true.mp z
        have := ge x hx
        have := of_decide_eq_true hh
        omega
      rw [if_neg n1]
      split
      · omega
      · omega
    · have : sJ (a ++ (f : Int) :: c) j = 2 := by
        unfold sJ
        rw [if_pos]
        rw [List.any_eq_true]
        exact ⟨(f : Int), List.mem_append_right _ (List.mem_cons_self ..), decide_eq_true (by omega)⟩
      rw [this]
      exact sJ_le _ _
  · unfold sJ
    have n1 : ¬ ((a ++ n ++ c).any (fun x => decide (x < (f : Int))) = true) := fun z => by
      obtain ⟨x, hx, hh⟩ := List.any_eq_true.mp z
      have := ge x hx
      have := of_decide_eq_true hh
      omega
    have n2 : ¬ ((a ++ (f : Int) :: c).any (fun x => decide (x < (f : Int))) = true) := fun z => by
      obtain ⟨x, hx, hh⟩ := List.any_eq_true.mp z
      have := h1 x hx
      have := of_decide_eq_true hh
      omega
    rw [if_neg n1, if_neg n2]
    omega
/-! deeds -/
abbrev stepD (k : Int) : PD := toPD (puP puS puI) (("step" : Str), k)
abbrev joinD (j k : Int) : PD := toPD (puQ puS puI puI) (("join" : Str), j, k)
theorem ge_f {a b : Int} (h : a < b) : dB (pGe [eV (toPD puI a), eI b]) = some false := by
  show (match (some (PyData.bool (decide (b ≤ a))) : Option D) with | some (.bool b) => some b | _ => none) = _
  rw [decide_eq_false (by omega)]
theorem done_step (N : Net) (S : Scn) {k : Int} (k0 : 0 ≤ k) (k1 : k < S.2.1.length) : p_done N S (stepD k) = p_step_on N S k := by
  have i0 : dP (pIx [eV (stepD k), eI 0]) = some (toPD puS ("step" : Str)) := rfl
  have i1 : dP (pIx [eV (stepD k), eI 1]) = some (toPD puI k) := rfl
  have i2 : dP (pIx [eV (stepD k), eI (-1)]) = some (toPD puI k) := rfl
  have q0 : isK .tup (stepD k).1 = true := rfl
  have q1 : dI (pLen [eV (stepD k)]) = some 2 := rfl
  have q2 : isK .str (toPD puS ("step" : Str)).1 = true := rfl
  have r1 : rI (toPD puI k).1 = some k := rfl
  have e1 : dB (pEq [eV (toPD puS ("step" : Str)), eS ("step" : Str)]) = some true := by decide +kernel
  have e2 : dB (pEq [eV (toPD puS ("step" : Str)), eS ("put" : Str)]) = some false := by decide +kernel
  have w1 : p_is_whole k 0 = some true := by unfold p_is_whole; rw [decide_eq_true k0]; rfl
  have dd : p_is_deed N (stepD k) = some true := by
    unfold p_is_deed
    have d1 : (!(decide (((2 : Int), (3 : Int)).1 = 2) || decide (((2 : Int), (3 : Int)).2 = 2))) = false := by decide
    have d2 : decide ((2 : Int) = 2) = true := by decide
    simp only [q0, q1, i0, q2, d1, e1, i1, r1, w1, Option.bind_some, Bool.not_true, Bool.false_eq_true, if_false, if_true]
    rfl
  have g := ge_f k1
  unfold p_done p_done_at
  simp only [dd, i0, e1, e2, i1, i2, r1, g, Option.bind_some, Bool.not_true, Bool.false_eq_true, if_false, if_true]
  cases p_step_on N S k <;> rfl
theorem done_join (N : Net) (S : Scn) {j k : Nat} (hjk : j < k) (hk : k < S.2.1.length) (al : cutL (S.2.1[j]'(by omega)) (some 1) none = cutL S.2.1[k] (some 1) none) : p_done N S (joinD (j : Int) (k : Int)) = p_joined_groups S (j : Int) (k : Int) := by
  have i0 : dP (pIx [eV (joinD (j : Int) (k : Int)), eI 0]) = some (toPD puS ("join" : Str)) := rfl
  have i1 : dP (pIx [eV (joinD (j : Int) (k : Int)), eI 1]) = some (toPD puI (j : Int)) := rfl
  have i2 : dP (pIx [eV (joinD (j : Int) (k : Int)), eI 2]) = some (toPD puI (k : Int)) := rfl
  have i3 : dP (pIx [eV (joinD (j : Int) (k : Int)), eI (-1)]) = some (toPD puI (k : Int)) := rfl
  have q0 : isK .tup (joinD (j : Int) (k : Int)).1 = true := rfl
  have q1 : dI (pLen [eV (joinD (j : Int) (k : Int))]) = some 3 := rfl
  have q2 : isK .str (toPD puS ("join" : Str)).1 = true := rfl
  have r1 : rI (toPD puI (j : Int)).1 = some (j : Int) := rfl
  have r2 : rI (toPD puI (k : Int)).1 = some (k : Int) := rfl
  have e1 : dB (pEq [eV (toPD puS ("join" : Str)), eS ("step" : Str)]) = some false := by decide +kernel
  have e2 : dB (pEq [eV (toPD puS ("join" : Str)), eS ("put" : Str)]) = some false := by decide +kernel
  have e3 : dB (pEq [eV (toPD puS ("join" : Str)), eS ("join" : Str)]) = some true := by decide +kernel
  have w1 : p_is_whole (j : Int) 0 = some true := by unfold p_is_whole; rw [decide_eq_true (by omega)]; rfl
  have w2 : p_is_whole (k : Int) 0 = some true := by unfold p_is_whole; rw [decide_eq_true (by omega)]; rfl
  have lt : dB (pLt [eV (toPD puI (j : Int)), eV (toPD puI (k : Int))]) = some true := by
    show (match (some (PyData.bool (decide ((j : Int) < (k : Int)))) : Option D) with | some (.bool b) => some b | _ => none) = _
    rw [decide_eq_true (by omega)]
  have dd : p_is_deed N (joinD (j : Int) (k : Int)) = some true := by
    unfold p_is_deed
    have d1 : (!(decide (((2 : Int), (3 : Int)).1 = 3) || decide (((2 : Int), (3 : Int)).2 = 3))) = false := by decide
    have d2 : decide ((3 : Int) = 2) = false := by decide
    simp only [q0, q1, i0, q2, d1, e2, e3, i1, i2, r1, r2, w1, w2, lt, Option.bind_some, Bool.not_true, Bool.false_eq_true, if_false, if_true]
    rfl
  have g := ge_f (a := (k : Int)) (b := (S.2.1.length : Int)) (by omega)
  have a1 : atI S.2.1 (j : Int) = some (S.2.1[j]'(by omega)) := atI_nat (List.getElem?_eq_getElem (by omega))
  have a2 : atI S.2.1 (k : Int) = some S.2.1[k] := atI_nat (List.getElem?_eq_getElem hk)
  unfold p_done p_done_at
  simp only [dd, i0, e1, e2, i1, i2, i3, r1, r2, g, a1, a2, al, Option.bind_some, Bool.not_true, Bool.false_eq_true, if_false, if_true, decide_true]
  cases p_joined_groups S (j : Int) (k : Int) <;> rfl
/-! scenes: puts; all groups come out -/
abbrev putD (l m : Int) : PD := toPD (puQ puS puI puI) (("put" : Str), l, m)
theorem put_at {N : Net} (h : GoodN N) (sc : Scn) {l m : Int} (h0 : 0 ≤ l) (h1 : l < N.1) (m0 : m ≠ 0) (m1 : (1 : Int) - 1000000000000000000000000000000 ≤ m) (m2 : m < 1000000000000000000000000000000) (hl : sc.2.1.length ≤ 1000) {f : Int} (hf : p_fork_behind N l (-1) = some f) :
    p_done N sc (putD l m) = some (sc.1, sc.2.1 ++ [[m, l, f]], sc.2.2) := by
  have i0 : dP (pIx [eV (putD l m), eI 0]) = some (toPD puS ("put" : Str)) := rfl
  have i1 : dP (pIx [eV (putD l m), eI 1]) = some (toPD puI l) := rfl
  have i2 : dP (pIx [eV (putD l m), eI 2]) = some (toPD puI m) := rfl
  have k0 : isK .tup (putD l m).1 = true := rfl
  have k1 : dI (pLen [eV (putD l m)]) = some 3 := rfl
  have k2 : isK .str (toPD puS ("put" : Str)).1 = true := rfl
  have r1 : rI (toPD puI l).1 = some l := rfl
  have r2 : rI (toPD puI m).1 = some m := rfl
  have e1 : dB (pEq [eV (toPD puS ("put" : Str)), eS ("put" : Str)]) = some true := by decide +kernel
  have e2 : dB (pGe [eV (toPD puI l), eI N.1]) = some false := by
    show (match (some (PyData.bool (decide (N.1 ≤ l))) : Option D) with | some (.bool b) => some b | _ => none) = _
    rw [decide_eq_false (by omega)]
  have e3 : dB (pNe [eV (toPD puI m), eI 0]) = some true := by
    have e := op_ne (e := eI) eqI (by decide) m 0
    show dB (pNe [eI m, eI 0]) = _
    rw [e, decide_eq_false m0]
    rfl
  have e4 : dB (pLt [eV (toPD puI m), eI 1000000000000000000000000000000]) = some true := by
    show (match (some (PyData.bool (decide (m < 1000000000000000000000000000000))) : Option D) with | some (.bool b) => some b | _ => none) = _
    rw [decide_eq_true m2]
  have w1 : p_is_whole l 0 = some true := by unfold p_is_whole; rw [decide_eq_true h0]; rfl
  have w2 : p_is_whole m ((1 : Int) - 1000000000000000000000000000000) = some true := by unfold p_is_whole; rw [decide_eq_true m1]; rfl
  have q1 : p_is_put N (putD l m) = some true := by
    unfold p_is_put
    simp only [i1, i2, r1, r2, w1, w2, e2, e3, e4, Option.bind_some, Bool.not_true, Bool.false_eq_true, if_false, if_true]
  have q2 : p_is_deed N (putD l m) = some true := by
    unfold p_is_deed
    have d1 : (!(decide (((2 : Int), (3 : Int)).1 = 3) || decide (((2 : Int), (3 : Int)).2 = 3))) = false := by decide
    have d2 : decide ((3 : Int) = 2) = false := by decide
    simp only [k0, k1, i0, k2, d1, d2, e1, q1, Option.bind_some, Bool.not_true, Bool.false_eq_true, if_false, if_true]
    rfl
  unfold p_done p_done_at
  simp only [q2, i0, e1, i2, i1, r1, r2, hf, Option.bind_some, Bool.not_true, Bool.false_eq_true, if_false, if_true]
  rw [catT_of (by simp; omega)]
  rfl
theorem put_ok {N : Net} (h : GoodN N) {S : Scn} (o : OkS N S) {l m : Int} (h0 : 0 ≤ l) (h1 : l < N.1) {f : Nat} (hf : f = N.2.1.length ∨ ∃ p, N.2.1[f]? = some p ∧ (l = p.1 ∨ l = p.2)) :
    OkS N (S.1, S.2.1 ++ [[m, l, (f : Int)]], S.2.2) ∧ totS (S.1, S.2.1 ++ [[m, l, (f : Int)]], S.2.2) = totS S + m := by
  refine ⟨⟨o.turns, o.t01, o.out, fun g hg => ?_⟩, ?_⟩
  · rcases List.mem_append.mp hg with hg | hg
    · exact o.grp g hg
    · rw [List.mem_singleton.mp hg]; exact ⟨m, l, f, rfl, h0, h1, hf⟩
  · unfold totS
    show S.2.2.sum + ((S.2.1 ++ [[m, l, (f : Int)]]).map fun g => g.getD 0 0).sum = _
    rw [List.map_append, List.sum_append]
    show S.2.2.sum + (_ + (m + 0)) = _
    omega
/-! what k20 draws -/
theorem of1_w {s xs : List Int} (h : St2 s) (h0 : xs ≠ []) (h1 : xs.length ≤ 100) : Sp (p__law_of__at1 s xs) (fun r => r.1 ∈ xs ∧ St2 r.2) := by
  have : 0 < xs.length := List.length_pos_iff.mpr h0
  unfold p__law_of__at1
  refine w_bind (pick_w h (by omega) (by omega)) fun u ⟨i0, i1, t⟩ => ?_
  exact w_bind (w_atI i0 i1) fun q hq => w_some ⟨hq, t⟩
theorem of2_w {s xs : List Int} (h : St2 s) (h0 : xs ≠ []) (h1 : xs.length ≤ 100) : Sp (p__law_of__at2 s xs) (fun r => r.1 ∈ xs ∧ St2 r.2) := of1_w h h0 h1
theorem of3_w {s xs : List Int} (h : St2 s) (h0 : xs ≠ []) (h1 : xs.length ≤ 100) : Sp (p__law_of__at3 s xs) (fun r => r.1 ∈ xs ∧ St2 r.2) := of1_w h h0 h1
theorem tenO_w {k : Int} (h0 : 0 ≤ k) (h1 : k < 29) : Sp (tenO k) (fun v => 1 ≤ v ∧ v ≤ 10000000000000000000000000000) := by
  have e : ∀ i : Fin 29, 1 ≤ (10 : Int) ^ i.1 ∧ (10 : Int) ^ i.1 ≤ 10000000000000000000000000000 := by decide +kernel
  unfold tenO
  rw [if_pos ⟨h0, by omega⟩]
  exact w_some (e ⟨k.toNat, by omega⟩)
theorem shl_w {k : Int} (h0 : 0 ≤ k) (h1 : k < 20) : Sp (shlT 1 k) (fun v => 1 ≤ v ∧ v ≤ 1048576) := by
  have e : ∀ i : Fin 20, (match shlT 1 ((i.1 : Nat) : Int) with | some v => decide (1 ≤ v) && decide (v ≤ 1048576) | none => false) = true := by decide +kernel
  have z := e ⟨k.toNat, by omega⟩
  rw [show (((⟨k.toNat, by omega⟩ : Fin 20).1 : Nat) : Int) = k by simp; omega] at z
  cases hh : shlT 1 k with
  | none => rw [hh] at z; cases z
  | some v =>
    rw [hh] at z
    simp only [Bool.and_eq_true, decide_eq_true_eq] at z
    exact w_some z
theorem many_w {s : List Int} (h : St2 s) : Sp (p__law_many s) (fun r => r.1 ≠ 0 ∧ (1 : Int) - 1000000000000000000000000000000 ≤ r.1 ∧ r.1 < 1000000000000000000000000000000 ∧ St2 r.2) := by
  unfold p__law_many
  refine w_bind (pick_w h (by decide) (by decide)) fun u1 ⟨a0, a1, s1⟩ => ?_
  refine w_bind (tenO_w a0 a1) fun v hv => ?_
  refine w_bind (pick_w s1 (by decide) (by decide)) fun u2 ⟨b0, b1, s2⟩ => ?_
  refine w_let fun far hfar => ?_
  refine w_bind (pick_w s2 (by decide) (by decide)) fun u3 ⟨c0, c1, s3⟩ => ?_
  refine w_bind (pick_w s3 (by decide) (by decide)) fun u4 ⟨d0, d1, s4⟩ => ?_
  refine w_bind (shl_w d0 d1) fun w hw => ?_
  refine w_bind (of1_w s4 (by simp) (by simp)) fun r ⟨hr, s5⟩ => ?_
  refine w_bind (of2_w s5 (by simp) (by simp)) fun r2 ⟨hr2, s6⟩ => ?_
  have h1 : 1 ≤ r.1 ∧ r.1 < 100000000000000000000000000000 := by
    simp only [List.mem_cons, List.not_mem_nil, or_false] at hr
    omega
  simp only [List.mem_cons, List.not_mem_nil, or_false] at hr2
  have h2 : r2.1 = 1 ∨ r2.1 = -1 := by omega
  rw [mulT_r (by omega) (by omega), Option.bind_some]
  rcases h2 with e | e <;> rw [e] <;> exact w_some ⟨by simp only []; omega, by simp only []; omega, by simp only []; omega, s6⟩
/-! things compared -/
def Dk (n : Nat) (d : D) : Prop := PyData.canLay0 d = true ∧ PyData.depth d ≤ n ∧ noD d = true
def Dks (n : Nat) (ds : List D) : Prop := PyData.canLayAll0 ds = true ∧ PyData.depthAll ds ≤ n ∧ noDs ds = true
theorem dk_int (i : Int) : Dk 0 (.int i) := ⟨rfl, Nat.le_refl _, rfl⟩
theorem dk_non : Dk 0 .none := ⟨rfl, Nat.le_refl _, rfl⟩
theorem dk_bool (b : Bool) : Dk 0 (.bool b) := ⟨rfl, Nat.le_refl _, rfl⟩
theorem Dk.up {n m : Nat} {d : D} (h : Dk n d) (z : n ≤ m) : Dk m d := ⟨h.1, Nat.le_trans h.2.1 z, h.2.2⟩
theorem dks_nil {n : Nat} : Dks n [] := ⟨rfl, Nat.zero_le _, rfl⟩
theorem dks_cons {n : Nat} {d : D} {ds : List D} (h : Dk n d) (t : Dks n ds) : Dks n (d :: ds) :=
  ⟨by rw [PyData.canLayAll0, h.1, t.1]; rfl, by rw [PyData.depthAll]; exact Nat.max_le.mpr ⟨h.2.1, t.2.1⟩, by rw [noDs, h.2.2, t.2.2]; rfl⟩
theorem dk_tup {n : Nat} {ds : List D} (h : Dks n ds) : Dk (n + 1) (.tuple ds) :=
  ⟨by rw [PyData.canLay0]; exact h.1, by rw [PyData.depth]; exact Nat.succ_le_succ h.2.1, by rw [noD]; exact h.2.2⟩
theorem dks_ints {n : Nat} (xs : List Int) : Dks n (xs.map PyData.int) := by
  induction xs with
  | nil => exact dks_nil
  | cons x xs ih => exact dks_cons ((dk_int x).up (Nat.zero_le _)) ih
theorem Dk.shp {n : Nat} {d : D} (h : Dk n d) (z : n ≤ 64) : shp d = true := by
  unfold Sim.shp SeqAt.shaped
  rw [h.1, h.2.2, decide_eq_true (Nat.le_trans h.2.1 z)]; rfl
theorem dk_eq {n m : Nat} {a b : D} (h : Dk n a) (h2 : Dk m b) (z : n ≤ 64) (z2 : m ≤ 64) : dB (pEq [a, b]) = some (PyData.eqv a b) := by
  show dB (if _ then _ else _) = _
  rw [if_pos ⟨h.shp z, h2.shp z2⟩]; rfl
theorem dk_ne {n m : Nat} {a b : D} (h : Dk n a) (h2 : Dk m b) (z : n ≤ 64) (z2 : m ≤ 64) : dB (pNe [a, b]) = some (!PyData.eqv a b) := by
  show dB (if _ then _ else _) = _
  rw [if_pos ⟨h.shp z, h2.shp z2⟩]; rfl
mutual
theorem eqv_self : ∀ d : D, noD d = true → PyData.eqv d d = true
  | .none, _ => rfl
  | .bool b, _ => by cases b <;> rfl
  | .int i, _ => by simp [PyData.eqv]
  | .str x, _ => by simp [PyData.eqv]
  | .list xs, h => by rw [PyData.eqv]; exact eqv_selfs xs (by simpa [noD] using h)
  | .tuple xs, h => by rw [PyData.eqv]; exact eqv_selfs xs (by simpa [noD] using h)
  | .dict _, h => by simp [noD] at h
theorem eqv_selfs : ∀ ds : List D, noDs ds = true → PyData.eqvAll ds ds = true
  | [], _ => rfl
  | d :: ds, h => by
    simp only [noDs, Bool.and_eq_true] at h
    rw [PyData.eqvAll, eqv_self d h.1, eqv_selfs ds h.2]; rfl
end
/-! groups that come together -/
theorem set17 {α : Type} (A : List α) (a x : α) (R : List α) : (A ++ a :: R).set A.length x = A ++ x :: R := by
  induction A with
  | nil => rfl
  | cons b A ih => show b :: (A ++ a :: R).set A.length x = b :: (A ++ x :: R); rw [ih]
theorem erase_mid {α : Type} (A : List α) (a : α) (R : List α) : (A ++ a :: R).eraseIdx A.length = A ++ R := by
  induction A with
  | nil => rfl
  | cons b A ih => show b :: (A ++ a :: R).eraseIdx A.length = b :: (A ++ R); rw [ih]
/-- the parts of a row of groups about two of them -/
theorem parts {gs : List (List Int)} {j k : Nat} (hjk : j < k) (hk : k < gs.length) : ∃ A B C, gs = A ++ (gs[j]'(by omega)) :: (B ++ gs[k] :: C) ∧ A = gs.take j ∧ B = (gs.drop (j + 1)).take (k - (j + 1)) ∧ C = gs.drop (k + 1) ∧ A.length = j ∧ B.length = k - (j + 1) := by
  refine ⟨_, _, _, split_two gs j k hjk hk, rfl, rfl, rfl, ?_, ?_⟩
  · rw [List.length_take]; omega
  · rw [List.length_take, List.length_drop]; omega
def oneL (m l : Int) (f : Nat) : List (List Int) := if m = 0 then [] else [[m, l, (f : Int)]]
theorem join_res {ts out : List Int} {gs : List (List Int)} (hg : gs.length ≤ 1000) {j k : Nat} (hjk : j < k) (hk : k < gs.length) {m1 m2 l : Int} {f : Nat} (e1 : (gs[j]'(by omega)) = [m1, l, (f : Int)]) (e2 : gs[k] = [m2, l, (f : Int)]) :
    p_joined_groups (ts, gs, out) (j : Int) (k : Int) = some (ts, gs.take j ++ oneL (m1 + m2) l f ++ (gs.drop (j + 1)).take (k - (j + 1)) ++ gs.drop (k + 1), out) := by
  have hj : j < gs.length := by omega
  obtain ⟨A, B, C, esp, hA, hB, hC, lA, lB⟩ := parts hjk hk
  rw [e1, e2] at esp
  have lens := congrArg List.length esp
  rw [List.length_append, List.length_cons, List.length_append, List.length_cons] at lens
  have a1 : atI gs (j : Int) = some [m1, l, (f : Int)] := by rw [← e1]; exact atI_nat (List.getElem?_eq_getElem hj)
  have a2 : atI gs (k : Int) = some [m2, l, (f : Int)] := by rw [← e2]; exact atI_nat (List.getElem?_eq_getElem hk)
  have c0 : cutL gs none (some (j : Int)) = A := by rw [cutL_to, hA]
  have c1 : cutL gs (some ((j : Int) + 1)) (some (k : Int)) = B := by rw [show (j : Int) + 1 = ((j + 1 : Nat) : Int) by rfl, cut_mid _ _ _ (by omega) (by omega), hB]
  have c2 : cutL gs (some ((k : Int) + 1)) none = C := by rw [show (k : Int) + 1 = ((k + 1 : Nat) : Int) by rfl, cutL_from, hC]
  have ct : cutL [m1, l, (f : Int)] (some (1 : Int)) none = [l, (f : Int)] := by rw [show (1 : Int) = ((1 : Nat) : Int) by rfl, cutL_from]; rfl
  obtain ⟨one, hone⟩ : ∃ one, one = oneL (m1 + m2) l f := ⟨_, rfl⟩
  have lo : one.length ≤ 1 := by rw [hone]; unfold oneL; split <;> simp
  have er : repT [[m1 + m2, l, (f : Int)]] (if (!decide (m1 + m2 = (0 : Int))) = true then 1 else 0) = some one := by
    rw [hone]
    unfold oneL
    by_cases z : m1 + m2 = 0
    · rw [if_pos z, decide_eq_true z]; rfl
    · rw [if_neg z, decide_eq_false z]; rfl
  rw [← hA, ← hB, ← hC, ← hone]
  unfold p_joined_groups
  show ((atI gs (j : Int)).bind fun t7 => ((atI t7 (0 : Int))).bind fun t10 => ((atI gs (k : Int))).bind fun t14 => ((atI t14 (0 : Int))).bind fun t17 => (some (t10 + t17)).bind fun many => ((atI gs (j : Int))).bind fun t27 => ((catT [many] (cutL t27 (some (1 : Int)) none))).bind fun t32 => ((repT [t32] (if (!decide (many = (0 : Int))) = true then 1 else 0))).bind fun one => ((catT (cutL gs none (some (j : Int))) one)).bind fun t48 => ((catT t48 (cutL gs (some ((j : Int) + (1 : Int))) (some (k : Int))))).bind fun t56 => ((catT t56 (cutL gs (some ((k : Int) + (1 : Int))) none))).bind fun t66 => some (ts, t66, out)) = _
  rw [a1, Option.bind_some, show atI [m1, l, (f : Int)] (0 : Int) = some m1 from rfl, Option.bind_some, a2, Option.bind_some, show atI [m2, l, (f : Int)] (0 : Int) = some m2 from rfl, Option.bind_some, Option.bind_some, Option.bind_some, ct, catT_of (by simp), Option.bind_some]
  show ((repT [[m1 + m2, l, (f : Int)]] _).bind _) = _
  rw [er, Option.bind_some, c0, catT_of (by omega), Option.bind_some, c1, catT_of (by rw [List.length_append]; omega), Option.bind_some, c2, catT_of (by rw [List.length_append, List.length_append]; omega), Option.bind_some]
theorem due_yes {ts out : List Int} {gs : List (List Int)} (hg : gs.length ≤ 1000) {j k : Nat} (hjk : j < k) (hk : k < gs.length) {m1 m2 l l' : Int} {f f' : Nat} (e1 : (gs[j]'(by omega)) = [m1, l, (f : Int)]) (e2 : gs[k] = [m2, l', (f' : Int)]) (c1 : l = l') (c2 : f = f') :
    p__law_due (ts, gs, out) (j : Int) (k : Int) = some (some (ts, gs.take j ++ oneL (m1 + m2) l f ++ (gs.drop (j + 1)).take (k - (j + 1)) ++ gs.drop (k + 1), out)) := by
  have hj : j < gs.length := by omega
  obtain ⟨A, B, C, esp, hA, hB, hC, lA, lB⟩ := parts hjk hk
  rw [e1, e2] at esp
  have a1 : atI gs (j : Int) = some [m1, l, (f : Int)] := by rw [← e1]; exact atI_nat (List.getElem?_eq_getElem hj)
  have a2 : atI gs (k : Int) = some [m2, l', (f' : Int)] := by rw [← e2]; exact atI_nat (List.getElem?_eq_getElem hk)
  have i0 : ∀ m l f : Int, atI [m, l, f] 0 = some m := fun _ _ _ => rfl
  have i1 : ∀ m l f : Int, atI [m, l, f] 1 = some l := fun _ _ _ => rfl
  have i2 : ∀ m l f : Int, atI [m, l, f] 2 = some f := fun _ _ _ => rfl
  unfold p__law_due
  simp only [a1, a2, i0, i1, i2, Option.bind_some]
  rw [decide_eq_true c1]
  simp only [Bool.not_true, Bool.false_eq_true, if_false, Option.bind_some]
  rw [decide_eq_true (by rw [c2] : (f : Int) = (f' : Int))]
  simp only [Bool.not_true, Bool.false_eq_true, if_false]
  have s1 : gs.set j [m1 + m2, l, (f : Int)] = A ++ [m1 + m2, l, (f : Int)] :: (B ++ [m2, l', (f' : Int)] :: C) := by
    conv => lhs; rw [esp, ← lA]
    exact set17 _ _ _ _
  rw [setT_nn (by omega) (by omega), Option.bind_some, Int.toNat_natCast, s1]
  have lens := congrArg List.length esp
  simp only [List.length_append, List.length_cons] at lens
  rw [popT_of (by simp only [List.length_append, List.length_cons]; omega) (by omega) (by simp only [List.length_append, List.length_cons]; omega), Option.bind_some]
  have s2 : (A ++ [m1 + m2, l, (f : Int)] :: (B ++ [m2, l', (f' : Int)] :: C)).eraseIdx (Int.toNat (k : Int)) = A ++ [m1 + m2, l, (f : Int)] :: (B ++ C) := by
    have e3 : A ++ [m1 + m2, l, (f : Int)] :: (B ++ [m2, l', (f' : Int)] :: C) = (A ++ [m1 + m2, l, (f : Int)] :: B) ++ [m2, l', (f' : Int)] :: C := by simp
    have e4 : Int.toNat (k : Int) = (A ++ [m1 + m2, l, (f : Int)] :: B).length := by simp only [List.length_append, List.length_cons]; omega
    rw [e3, e4, erase_mid]
    simp
  simp only [s2]
  by_cases z : m1 + m2 = 0
  · rw [decide_eq_true z, if_pos rfl, popT_of (by simp only [List.length_append, List.length_cons]; omega) (by omega) (by simp only [List.length_append, List.length_cons]; omega), Option.bind_some, Option.bind_some]
    have s3 : (A ++ [m1 + m2, l, (f : Int)] :: (B ++ C)).eraseIdx (Int.toNat (j : Int)) = A ++ (B ++ C) := by
      rw [Int.toNat_natCast, ← lA, erase_mid]
    simp only [s3]
    rw [← hA, ← hB, ← hC]
    unfold oneL
    rw [if_pos z]
    simp
  · rw [decide_eq_false z, if_neg (by simp), Option.bind_some]
    rw [← hA, ← hB, ← hC]
    unfold oneL
    rw [if_neg z]
    simp
theorem due_no {ts out : List Int} {gs : List (List Int)} (hg : gs.length ≤ 1000) {j k : Nat} (hjk : j < k) (hk : k < gs.length) {m1 m2 l l' : Int} {f f' : Nat} (e1 : (gs[j]'(by omega)) = [m1, l, (f : Int)]) (e2 : gs[k] = [m2, l', (f' : Int)]) (c : ¬ (l = l' ∧ f = f')) : p__law_due (ts, gs, out) (j : Int) (k : Int) = some none := by
  have hj : j < gs.length := by omega
  obtain ⟨A, B, C, esp, hA, hB, hC, lA, lB⟩ := parts hjk hk
  rw [e1, e2] at esp
  have a1 : atI gs (j : Int) = some [m1, l, (f : Int)] := by rw [← e1]; exact atI_nat (List.getElem?_eq_getElem hj)
  have a2 : atI gs (k : Int) = some [m2, l', (f' : Int)] := by rw [← e2]; exact atI_nat (List.getElem?_eq_getElem hk)
  have i0 : ∀ m l f : Int, atI [m, l, f] 0 = some m := fun _ _ _ => rfl
  have i1 : ∀ m l f : Int, atI [m, l, f] 1 = some l := fun _ _ _ => rfl
  have i2 : ∀ m l f : Int, atI [m, l, f] 2 = some f := fun _ _ _ => rfl
  unfold p__law_due
  simp only [a1, a2, i0, i1, i2, Option.bind_some]
  by_cases c1 : l = l'
  · rw [decide_eq_true c1]
    simp only [Bool.not_true, Bool.false_eq_true, if_false, Option.bind_some]
    rw [decide_eq_false (fun z => c ⟨c1, by omega⟩)]
    rfl
  · rw [decide_eq_false c1]
    rfl
theorem pz_join (N : Net) (S : Scn) {j k : Nat} (hjk : j < k) (hk : k < S.2.1.length) : pz_done N S (joinD (j : Int) (k : Int)) = some (if cutL (S.2.1[j]'(by omega)) (some 1) none = cutL S.2.1[k] (some 1) none then none else some ((("NoGroup" : Str), ("place" : Str), (0 : Int)) : ExnF)) := by
  have i0 : dP (pIx [eV (joinD (j : Int) (k : Int)), eI 0]) = some (toPD puS ("join" : Str)) := rfl
  have i1 : dP (pIx [eV (joinD (j : Int) (k : Int)), eI 1]) = some (toPD puI (j : Int)) := rfl
  have i2 : dP (pIx [eV (joinD (j : Int) (k : Int)), eI 2]) = some (toPD puI (k : Int)) := rfl
  have i3 : dP (pIx [eV (joinD (j : Int) (k : Int)), eI (-1)]) = some (toPD puI (k : Int)) := rfl
  have q0 : isK .tup (joinD (j : Int) (k : Int)).1 = true := rfl
  have q1 : dI (pLen [eV (joinD (j : Int) (k : Int))]) = some 3 := rfl
  have q2 : isK .str (toPD puS ("join" : Str)).1 = true := rfl
  have r1 : rI (toPD puI (j : Int)).1 = some (j : Int) := rfl
  have r2 : rI (toPD puI (k : Int)).1 = some (k : Int) := rfl
  have e1 : dB (pEq [eV (toPD puS ("join" : Str)), eS ("step" : Str)]) = some false := by decide +kernel
  have e2 : dB (pEq [eV (toPD puS ("join" : Str)), eS ("put" : Str)]) = some false := by decide +kernel
  have e3 : dB (pEq [eV (toPD puS ("join" : Str)), eS ("join" : Str)]) = some true := by decide +kernel
  have w1 : p_is_whole (j : Int) 0 = some true := by unfold p_is_whole; rw [decide_eq_true (by omega)]; rfl
  have w2 : p_is_whole (k : Int) 0 = some true := by unfold p_is_whole; rw [decide_eq_true (by omega)]; rfl
  have lt : dB (pLt [eV (toPD puI (j : Int)), eV (toPD puI (k : Int))]) = some true := by
    show (match (some (PyData.bool (decide ((j : Int) < (k : Int)))) : Option D) with | some (.bool b) => some b | _ => none) = _
    rw [decide_eq_true (by omega)]
  have dd : p_is_deed N (joinD (j : Int) (k : Int)) = some true := by
    unfold p_is_deed
    have d1 : (!(decide (((2 : Int), (3 : Int)).1 = 3) || decide (((2 : Int), (3 : Int)).2 = 3))) = false := by decide
    have d2 : decide ((3 : Int) = 2) = false := by decide
    simp only [q0, q1, i0, q2, d1, e2, e3, i1, i2, r1, r2, w1, w2, lt, Option.bind_some, Bool.not_true, Bool.false_eq_true, if_false, if_true]
    rfl
  have g := ge_f (a := (k : Int)) (b := (S.2.1.length : Int)) (by omega)
  have a1 : atI S.2.1 (j : Int) = some (S.2.1[j]'(by omega)) := atI_nat (List.getElem?_eq_getElem (by omega))
  have a2 : atI S.2.1 (k : Int) = some S.2.1[k] := atI_nat (List.getElem?_eq_getElem hk)
  unfold pz_done pz_done_at
  simp only [dd, i0, e1, e2, i1, i2, i3, r1, r2, g, a1, a2, Option.bind_some, Bool.not_true, Bool.false_eq_true, if_false]
  by_cases al : cutL (S.2.1[j]'(by omega)) (some 1) none = cutL S.2.1[k] (some 1) none
  · rw [if_pos al, decide_eq_true al]; rfl
  · rw [if_neg al, decide_eq_false al]; rfl
abbrev eScn : Scn → D := eQ (eT eI) (eT (eT eI)) (eT eI)
theorem dks_rows {n : Nat} (xs : List (List Int)) : Dks (n + 1) (xs.map (eT eI)) := by
  induction xs with
  | nil => exact dks_nil
  | cons x xs ih => exact dks_cons (dk_tup (dks_ints x)) ih
theorem scn_dk (S : Scn) : Dk 3 (eScn S) :=
  dk_tup (dks_cons ((dk_tup (dks_ints (n := 0) S.1)).up (by omega)) (dks_cons (dk_tup (dks_rows (n := 0) S.2.1)) (dks_cons ((dk_tup (dks_ints (n := 0) S.2.2)).up (by omega)) dks_nil)))
theorem same_scn (S : Scn) : dB (pNe [eScn S, eScn S]) = some false := by
  rw [dk_ne (scn_dk S) (scn_dk S) (by decide) (by decide), eqv_self _ (scn_dk S).2.2]; rfl
theorem same_non : dB (pNe [PyData.none, PyData.none]) = some false := by rw [dk_ne dk_non dk_non (by decide) (by decide)]; rfl
theorem law_join {N : Net} {S : Scn} (o : OkS N S) (hg : S.2.1.length ≤ 1000) {j k : Nat} (hjk : j < k) (hk : k < S.2.1.length) :
    ∃ due t, p__law_due S (j : Int) (k : Int) = some due ∧ p__law_joined N S (j : Int) (k : Int) = some t ∧ dB (pNe [eV t, (eO eScn) due]) = some false ∧ OkS N (due.getD S) ∧ (due.getD S).2.1.length ≤ S.2.1.length := by
  have oo := o
  obtain ⟨ts, gs, out⟩ := S
  have hk : k < gs.length := hk
  have hg : gs.length ≤ 1000 := hg
  have hj : j < gs.length := by omega
  obtain ⟨m1, l, f, e1, _⟩ := o.grp gs[j] (List.getElem_mem hj)
  obtain ⟨m2, l', f', e2, _⟩ := o.grp gs[k] (List.getElem_mem hk)
  have ct : ∀ (m l f : Int), cutL [m, l, f] (some (1 : Int)) none = [l, f] := fun m l f => by rw [show (1 : Int) = ((1 : Nat) : Int) by rfl, cutL_from]; rfl
  have p := pz_join N (ts, gs, out) hjk hk
  have p : pz_done N (ts, gs, out) (joinD (j : Int) (k : Int)) = some (if cutL gs[j] (some 1) none = cutL gs[k] (some 1) none then none else some ((("NoGroup" : Str), ("place" : Str), (0 : Int)) : ExnF)) := p
  by_cases c : l = l' ∧ f = f'
  · obtain ⟨rfl, rfl⟩ := c
    have al : cutL gs[j] (some 1) none = cutL gs[k] (some 1) none := by rw [e1, e2, ct, ct]
    rw [if_pos al] at p
    obtain ⟨X, r, d⟩ : ∃ X : Scn, p_joined_groups (ts, gs, out) (j : Int) (k : Int) = some X ∧ p__law_due (ts, gs, out) (j : Int) (k : Int) = some (some X) := ⟨_, join_res hg hjk hk e1 e2, due_yes hg hjk hk e1 e2 rfl rfl⟩
    obtain ⟨S', w1, w2, _, _, w3, _⟩ := join_w oo hg hjk hk al
    rw [r] at w1
    have w1 := Option.some.inj w1
    subst w1
    refine ⟨some X, toPD (puQ (puT puI) (puT (puT puI)) (puT puI)) X, d, ?_, same_scn X, w2, by show X.2.1.length ≤ gs.length; have : X.2.1.length + 1 ≤ gs.length := w3; omega⟩
    have e := done_join N (ts, gs, out) hjk hk al
    unfold p__law_joined
    show ((some (toPD puI (0 : Int))).bind fun found => ((pz_done N (ts, gs, out) (joinD (j : Int) (k : Int)))).bind _) = _
    rw [Option.bind_some, p, Option.bind_some]
    show ((((p_done N (ts, gs, out) (joinD (j : Int) (k : Int)))).bind _).bind _) = _
    rw [e, r]
    rfl
  · have d := due_no (ts := ts) (out := out) hg hjk hk e1 e2 c
    have nal : ¬ cutL gs[j] (some 1) none = cutL gs[k] (some 1) none := by
      rw [e1, e2, ct, ct]
      intro z
      have z1 := congrArg (fun x : List Int => x.getD 0 0) z
      have z2 := congrArg (fun x : List Int => x.getD 1 0) z
      have z1 : l = l' := z1
      have z2 : (f : Int) = (f' : Int) := z2
      exact c ⟨z1, by omega⟩
    rw [if_neg nal] at p
    refine ⟨_, toPD puU (), d, ?_, same_non, oo, Nat.le_refl _⟩
    unfold p__law_joined
    show ((some (toPD puI (0 : Int))).bind fun found => ((pz_done N (ts, gs, out) (joinD (j : Int) (k : Int)))).bind _) = _
    rw [Option.bind_some, p, Option.bind_some]
    rfl
theorem of4_w {s xs : List Int} (h : St2 s) (h0 : xs ≠ []) (h1 : xs.length ≤ 100) : Sp (p__law_of__at4 s xs) (fun r => r.1 ∈ xs ∧ St2 r.2) := of1_w h h0 h1
theorem of5_w {s xs : List Int} (h : St2 s) (h0 : xs ≠ []) (h1 : xs.length ≤ 100) : Sp (p__law_of__at5 s xs) (fun r => r.1 ∈ xs ∧ St2 r.2) := of1_w h h0 h1
theorem p_law_true (ns : List Int) (hlen : ns.length ≤ 63) : p_law 64 ns = some true := by
  have main : Sp (p_law 64 ns) (fun b => b = true) := by
    unfold p_law
    rw [rngO_of (by omega), Option.bind_some]
    refine w_on (P := fun _ => True) ((w_lpR (fun _ _ => True) trivial fun i s y hy _ => ?_).mono fun z hz => ?_) fun s _ => w_some rfl
    · obtain ⟨y1, y2⟩ := rngI_get hy
      refine w_bind (left_w ns y (by omega) (by omega)) fun st hst => ?_
      refine w_bind (of3_w hst (by simp) (by simp)) fun r ⟨hr, s1⟩ => ?_
      have hr : 1 ≤ r.1 ∧ r.1 ≤ 16 := by
        simp only [List.mem_cons, List.not_mem_nil, or_false] at hr
        omega
      refine w_bind (netP_w (by decide) s1 hr.1 hr.2 (by decide) (by decide)) fun N ⟨g, hN, s2⟩ => ?_
      obtain ⟨N, sN⟩ := N
      have g : GoodN N := g
      have gl1 := g.l1
      have gl16 := g.l16
      have gm := g.many
      dsimp only
      unfold p_begun
      rw [repT_1 (by omega), Option.bind_some, repT_1 (by omega), Option.bind_some, Option.bind_some]
      refine w_bind (pick_w s2 (show 0 < N.1 by omega) (show N.1 < 10000000 by omega)) fun la ⟨p0, p1, s3⟩ => ?_
      refine w_bind (pick_w s3 (by decide) (by decide)) fun u ⟨u0, u1, s4⟩ => ?_
      rw [rngO_of (by omega), Option.bind_some]
      refine w_bind (w_lpN (fun i s => St2 s.1 ∧ OkS N s.2.1 ∧ s.2.1.2.1.length = i ∧ s.2.2 ≠ 0 ∧ (1 : Int) - 1000000000000000000000000000000 ≤ s.2.2 ∧ s.2.2 < 1000000000000000000000000000000) ⟨s4, ⟨by simp, fun t ht => .inl (List.eq_of_mem_replicate ht), by rw [g.elen]; simp, fun g hg => by cases hg⟩, rfl, (by show (1 : Int) ≠ 0; decide), (by show (1 : Int) - 1000000000000000000000000000000 ≤ 1; decide), (by show (1 : Int) < 1000000000000000000000000000000; decide)⟩ fun i s y hy hi => ?_) fun t ht => ?_
      · obtain ⟨y1, y2⟩ := rngI_get hy
        obtain ⟨t1, t2, t3, t4, t5, t6⟩ := hi
        refine w_bind (many_w t1) fun m ⟨m0, m1, m2, q2⟩ => ?_
        refine w_bind (of4_w q2 (by simp) (by simp)) fun a ⟨a1, q3⟩ => ?_
        have ha : a.1 ≠ 0 ∧ (1 : Int) - 1000000000000000000000000000000 ≤ a.1 ∧ a.1 < 1000000000000000000000000000000 := by
          simp only [List.mem_cons, List.not_mem_nil, or_false] at a1
          omega
        refine w_bind (pick_w q3 (show 0 < N.1 by omega) (show N.1 < 10000000 by omega)) fun b ⟨b0, b1, q4⟩ => ?_
        refine w_bind (of5_w q4 (by simp) (by simp)) fun c ⟨c1, q5⟩ => ?_
        have hc : 0 ≤ c.1 ∧ c.1 < N.1 := by
          simp only [List.mem_cons, List.not_mem_nil, or_false] at c1
          rcases c1 with c1 | c1 | c1 <;> rw [c1]
          · exact ⟨p0, p1⟩
          · exact ⟨p0, p1⟩
          · exact ⟨b0, b1⟩
        obtain ⟨f, hf, _, hf1, hf2, hf3⟩ := behind_w g c.1 (-1) (by omega) (by omega)
        have hi6 : i < 10 := by omega
        refine w_eq (put_at g s.2.1 hc.1 hc.2 ha.1 ha.2.1 ha.2.2 (by omega) hf) ?_
        exact w_some ⟨q5, (put_ok g t2 hc.1 hc.2 hf2).1, by show (s.2.1.2.1 ++ _).length = _; rw [List.length_append, t3]; rfl, ha⟩
      · obtain ⟨t1, t2, t3, _⟩ := ht
        rw [rngI_len] at t3
        refine w_bind (pick_w t1 (by decide) (by decide)) fun v ⟨v0, v1, s5⟩ => ?_
        rw [rngO_of (by omega), Option.bind_some]
        refine w_bind (w_lpN (fun i s => St2 s.1 ∧ OkS N s.2 ∧ s.2.2.1.length ≤ 10 + i) ⟨s5, t2, by show t.2.1.2.1.length ≤ 10 + 0; omega⟩ fun i s y hy hi => ?_) fun w hw => ?_
        · obtain ⟨y1, y2⟩ := rngI_get hy
          obtain ⟨x1, x2, x3⟩ := hi
          refine w_ite (fun c => ?_) fun c => w_some ⟨x1, x2, by show s.2.2.1.length ≤ 10 + (i + 1); omega⟩
          have hne : s.2.2.1 ≠ [] := by simpa using c
          have hpos : 0 < s.2.2.1.length := List.length_pos_iff.mpr hne
          refine w_bind (pick_w x1 (by omega) (by omega)) fun d ⟨d0, d1, s6⟩ => ?_
          obtain ⟨n, hn⟩ := Int.eq_ofNat_of_zero_le d0
          rw [hn] at d1 ⊢
          obtain ⟨S', z1, z2, _, _, ap, z3, z4, _⟩ := step_w g x2 (by omega) (k := n) (by omega)
          refine w_eq ((done_step N s.2 (by omega) d1).trans z1) ?_
          refine w_some ⟨s6, z2, ?_⟩
          show S'.2.1.length ≤ _
          rw [z3, List.length_append, List.length_append, List.length_take, List.length_drop]
          omega
        · obtain ⟨w1, w2, w3⟩ := hw
          rw [rngI_len] at w3
          refine w_on (P := fun _ => True) ((w_lpR (fun _ s => St2 s.1 ∧ OkS N s.2 ∧ s.2.2.1.length ≤ 30) ⟨w1, w2, by show w.2.2.1.length ≤ 30; omega⟩ fun i s y hy hi => ?_).mono fun z hz => ?_) fun s _ => w_go trivial
          · obtain ⟨x1, x2, x3⟩ := hi
            refine w_ite (fun c => ?_) fun c => w_go ⟨x1, x2, x3⟩
            have c := of_decide_eq_true c
            refine w_bind (pick_w x1 (by omega) (by omega)) fun d ⟨d0, d1, s6⟩ => ?_
            refine w_bind (pick_w s6 (by omega) (by omega)) fun e ⟨e0, e1, s7⟩ => ?_
            rw [Option.bind_some]
            obtain ⟨j, hj⟩ := Int.eq_ofNat_of_zero_le d0
            obtain ⟨k, hk⟩ := Int.eq_ofNat_of_zero_le (show 0 ≤ d.1 + 1 + e.1 by omega)
            rw [hj] at d1 e1 hk ⊢
            rw [hk]
            obtain ⟨due, t, r1, r2, r3, r4, r5⟩ := law_join x2 (by omega) (j := j) (k := k) (by omega) (by omega)
            rw [r1, Option.bind_some, r2, Option.bind_some, r3, Option.bind_some, if_neg (by simp), Option.bind_some]
            exact w_go ⟨s7, r4, by show (due.getD s.2).2.1.length ≤ 30; omega⟩
          · obtain ⟨x, rfl, _⟩ := hz
            exact ⟨x, rfl, trivial⟩
    · obtain ⟨x, rfl, _⟩ := hz
      exact ⟨x, rfl, trivial⟩
  obtain ⟨b, e, hb⟩ := main
  rw [e, hb]
theorem law_holds : ∀ ns : List Int, ns.length ≤ 63 → ∃ as, f_law 64 [.dict [(.none, .list (ns.map .int))]] = .ok (.bool true) as := fun ns h => ⟨_, tok_law 64 ns true (p_law_true ns h)⟩
structure Txt (K : PySem.W.Frag) (mg : Str → Option Value) where
  a_on_lane : Addr
  d_on_lane : FuncData
  F_on_lane : Fun K "on_lane" "on_lane" s_on_lane a_on_lane d_on_lane
  g_on_lane : mg "on_lane" = some (.ref a_on_lane)
  b_on_lane : Binds K d_on_lane ["net", "lane"] []
  a_is_whole : Addr
  d_is_whole : FuncData
  F_is_whole : Fun K "is_whole" "is_whole" s_is_whole a_is_whole d_is_whole
  g_is_whole : mg "is_whole" = some (.ref a_is_whole)
  b_is_whole : Binds K d_is_whole ["thing", "least"] []
  a_begun : Addr
  d_begun : FuncData
  F_begun : Fun K "begun" "begun" s_begun a_begun d_begun
  g_begun : mg "begun" = some (.ref a_begun)
  b_begun : Binds K d_begun ["net"] []
  a_is_put : Addr
  d_is_put : FuncData
  F_is_put : Fun K "is_put" "is_put" s_is_put a_is_put d_is_put
  g_is_put : mg "is_put" = some (.ref a_is_put)
  b_is_put : Binds K d_is_put ["net", "thing"] []
  a_is_deed : Addr
  d_is_deed : FuncData
  F_is_deed : Fun K "is_deed" "is_deed" s_is_deed a_is_deed d_is_deed
  g_is_deed : mg "is_deed" = some (.ref a_is_deed)
  b_is_deed : Binds K d_is_deed ["net", "thing"] []
  a_fork_behind : Addr
  d_fork_behind : FuncData
  F_fork_behind : Fun K "fork_behind" "fork_behind" s_fork_behind a_fork_behind d_fork_behind
  g_fork_behind : mg "fork_behind" = some (.ref a_fork_behind)
  b_fork_behind : Binds K d_fork_behind ["net", "lane", "number"] []
  a_group_of : Addr
  d_group_of : FuncData
  F_group_of : Fun K "group_of" "group_of" s_group_of a_group_of d_group_of
  g_group_of : mg "group_of" = some (.ref a_group_of)
  b_group_of : Binds K d_group_of ["net", "many", "lane", "number"] []
  a_come_out : Addr
  d_come_out : FuncData
  F_come_out : Fun K "come_out" "come_out" s_come_out a_come_out d_come_out
  g_come_out : mg "come_out" = some (.ref a_come_out)
  b_come_out : Binds K d_come_out ["net", "scene", "k"] []
  a_step_on : Addr
  d_step_on : FuncData
  F_step_on : Fun K "step_on" "step_on" s_step_on a_step_on d_step_on
  g_step_on : mg "step_on" = some (.ref a_step_on)
  b_step_on : Binds K d_step_on ["net", "scene", "k"] []
  a_joined_groups : Addr
  d_joined_groups : FuncData
  F_joined_groups : Fun K "joined_groups" "joined_groups" s_joined_groups a_joined_groups d_joined_groups
  g_joined_groups : mg "joined_groups" = some (.ref a_joined_groups)
  b_joined_groups : Binds K d_joined_groups ["scene", "j", "k"] []
  a_NoDeed__init : Addr
  d_NoDeed__init : FuncData
  F_NoDeed__init : Fun K "__init__" "NoDeed.__init__" s_NoDeed__init a_NoDeed__init d_NoDeed__init
  b_NoDeed__init : Binds K d_NoDeed__init ["self", "place"] []
  a_NoGroup__init : Addr
  d_NoGroup__init : FuncData
  F_NoGroup__init : Fun K "__init__" "NoGroup.__init__" s_NoGroup__init a_NoGroup__init d_NoGroup__init
  b_NoGroup__init : Binds K d_NoGroup__init ["self", "place"] []
  a_done_at : Addr
  d_done_at : FuncData
  F_done_at : Fun K "done_at" "done_at" s_done_at a_done_at d_done_at
  g_done_at : mg "done_at" = some (.ref a_done_at)
  b_done_at : Binds K d_done_at ["net", "scene", "deed", "place"] []
  a_done : Addr
  d_done : FuncData
  F_done : Fun K "done" "done" s_done a_done d_done
  g_done : mg "done" = some (.ref a_done)
  b_done : Binds K d_done ["net", "scene", "deed"] []
  a__law_cell_at : Addr
  d__law_cell_at : FuncData
  F__law_cell_at : Fun K "_law_cell_at" "_law_cell_at" s__law_cell_at a__law_cell_at d__law_cell_at
  g__law_cell_at : mg "_law_cell_at" = some (.ref a__law_cell_at)
  b__law_cell_at : Binds K d__law_cell_at ["_law_script", "_law_k"] []
  a__law_left : Addr
  d__law_left : FuncData
  F__law_left : Fun K "_law_left" "_law_left" s__law_left a__law_left d__law_left
  g__law_left : mg "_law_left" = some (.ref a__law_left)
  b__law_left : Binds K d__law_left ["_law_script", "_law_k"] []
  a__law_pick : Addr
  d__law_pick : FuncData
  F__law_pick : Fun K "_law_pick" "_law_pick" s__law_pick a__law_pick d__law_pick
  g__law_pick : mg "_law_pick" = some (.ref a__law_pick)
  b__law_pick : Binds K d__law_pick ["_law_left_here", "_law_many_here"] []
  a__law_of : Addr
  d__law_of : FuncData
  F__law_of : Fun K "_law_of" "_law_of" s__law_of a__law_of d__law_of
  g__law_of : mg "_law_of" = some (.ref a__law_of)
  b__law_of : Binds K d__law_of ["_law_left_here", "_law_some"] []
  a__law_placed : Addr
  d__law_placed : FuncData
  F__law_placed : Fun K "_law_placed" "_law_placed" s__law_placed a__law_placed d__law_placed
  g__law_placed : mg "_law_placed" = some (.ref a__law_placed)
  b__law_placed : Binds K d__law_placed ["_law_left_here", "_law_some"] []
  a__law_net : Addr
  d__law_net : FuncData
  F__law_net : Fun K "_law_net" "_law_net" s__law_net a__law_net d__law_net
  g__law_net : mg "_law_net" = some (.ref a__law_net)
  b__law_net : Binds K d__law_net ["_law_left_here", "_law_lanes", "_law_most"] []
  a__law_many : Addr
  d__law_many : FuncData
  F__law_many : Fun K "_law_many" "_law_many" s__law_many a__law_many d__law_many
  g__law_many : mg "_law_many" = some (.ref a__law_many)
  b__law_many : Binds K d__law_many ["_law_left_here"] []
  a__law_joined : Addr
  d__law_joined : FuncData
  F__law_joined : Fun K "_law_joined" "_law_joined" s__law_joined a__law_joined d__law_joined
  g__law_joined : mg "_law_joined" = some (.ref a__law_joined)
  b__law_joined : Binds K d__law_joined ["_law_net_here", "_law_scene", "_law_j", "_law_k"] []
  a__law_due : Addr
  d__law_due : FuncData
  F__law_due : Fun K "_law_due" "_law_due" s__law_due a__law_due d__law_due
  g__law_due : mg "_law_due" = some (.ref a__law_due)
  b__law_due : Binds K d__law_due ["_law_scene", "_law_j", "_law_k"] []
  a_law : Addr
  d_law : FuncData
  F_law : Fun K "law" "law" s_law a_law d_law
  g_law : mg "law" = some (.ref a_law)
  b_law : Binds K d_law ["_law_script"] []
  xA_LaneError : Addr
  xC_LaneError : ClsN K "LaneError" xA_LaneError
  xg_LaneError : mg "LaneError" = some (.ref xA_LaneError)
  xx_LaneError : PySem.W.excIn K xA_LaneError [.type "ValueError", .type "Exception", .type "BaseException", .type "object"] "ValueError.__new__" = true
  xk_LaneError : PySem.W.keepIn K (.ref xA_LaneError) = true
  xb_LaneError : PySem.W.subIn K (.ref xA_LaneError) (.type "BaseException") = some true
  xt_LaneError : PySem.W.typeIn K (.ref xA_LaneError) = some (.type "type")
  xi_LaneError : (PySem.W.clsIn K xA_LaneError).isSome = true
  xA_NoDeed : Addr
  xC_NoDeed : ClsN K "NoDeed" xA_NoDeed
  xg_NoDeed : mg "NoDeed" = some (.ref xA_NoDeed)
  xk_NoDeed : PySem.W.keepIn K (.ref xA_NoDeed) = true
  xb_NoDeed : PySem.W.subIn K (.ref xA_NoDeed) (.type "BaseException") = some true
  xt_NoDeed : PySem.W.typeIn K (.ref xA_NoDeed) = some (.type "type")
  xi_NoDeed : (PySem.W.clsIn K xA_NoDeed).isSome = true
  xA_NoGroup : Addr
  xC_NoGroup : ClsN K "NoGroup" xA_NoGroup
  xg_NoGroup : mg "NoGroup" = some (.ref xA_NoGroup)
  xk_NoGroup : PySem.W.keepIn K (.ref xA_NoGroup) = true
  xb_NoGroup : PySem.W.subIn K (.ref xA_NoGroup) (.type "BaseException") = some true
  xt_NoGroup : PySem.W.typeIn K (.ref xA_NoGroup) = some (.type "type")
  xi_NoGroup : (PySem.W.clsIn K xA_NoGroup).isSome = true
  xv_LaneError : InitC K xA_LaneError
  xo_NoDeed : FldC K xA_NoDeed a_NoDeed__init "place"
  xt2_NoDeed : CaughtC K xA_NoDeed "place"
  xo_NoGroup : FldC K xA_NoGroup a_NoGroup__init "place"
  xt2_NoGroup : CaughtC K xA_NoGroup "place"
  xk2_NoDeed_NoDeed : PySem.W.kitOne K (.ref xA_NoDeed) (.ref xA_NoDeed) = some true
  xk2_NoDeed_NoGroup : PySem.W.kitOne K (.ref xA_NoDeed) (.ref xA_NoGroup) = some false
  xk2_NoGroup_NoDeed : PySem.W.kitOne K (.ref xA_NoGroup) (.ref xA_NoDeed) = some false
  xk2_NoGroup_NoGroup : PySem.W.kitOne K (.ref xA_NoGroup) (.ref xA_NoGroup) = some true
  xs_LaneError_LaneError : PySem.W.subIn K (.ref xA_LaneError) (.ref xA_LaneError) = some true
  xs_NoDeed_LaneError : PySem.W.subIn K (.ref xA_NoDeed) (.ref xA_LaneError) = some true
  xs_NoDeed_NoDeed : PySem.W.subIn K (.ref xA_NoDeed) (.ref xA_NoDeed) = some true
  xs_NoGroup_LaneError : PySem.W.subIn K (.ref xA_NoGroup) (.ref xA_LaneError) = some true
  xs_NoGroup_NoGroup : PySem.W.subIn K (.ref xA_NoGroup) (.ref xA_NoGroup) = some true
  z_abs : mg "abs" = none
  z_bool : mg "bool" = none
  z_enumerate : mg "enumerate" = none
  z_int : mg "int" = none
  z_isinstance : mg "isinstance" = none
  z_len : mg "len" = none
  z_list : mg "list" = none
  z_max : mg "max" = none
  z_min : mg "min" = none
  z_range : mg "range" = none
  z_str : mg "str" = none
  z_tuple : mg "tuple" = none
  t_MOST_MANY : Tok
  m_MOST_MANY : mg "MOST_MANY" = some (.int 1000000000000000000000000000000 t_MOST_MANY)
  k_dig : PySem.W.nsIn K cStatics "sys.int_max_str_digits" = some none
section
variable {P : Program} {w : World} {K : PySem.W.Frag} {mg : Str → Option Value} {base : Heap}
theorem ok_on_lane (T : Txt K mg) : FnOk P w K mg base CX0 1 T.a_on_lane T.d_on_lane ["net", "lane"] (spF K 2 f_on_lane) :=
  fn_sim T.F_on_lane sc_on_lane rfl rfl fun cdv A outer s H E hr => ((ss_one (ss_ret (so_callTy call_tuple_ofD pr_tuple (by rfl) T.z_tuple bt_tuple (sa_cons (so_comp (own := [("number", 2), ("fork", 3)]) rfl sc_on_lane.nd (si_enum (by rfl) T.z_enumerate (sa_cons (so_ix (so_var (pv 0)) so_int) sa_nil)) (blkOk_by (by kernel_rfl)) (fun _ _ _ _ _ => (sg_tup rfl (sgs_cons (sg_name sc_on_lane.nd rfl (by first | exact .inl rfl | exact .inr rfl) (by rfl)) (sgs_cons (sg_name sc_on_lane.nd rfl (by first | exact .inl rfl | exact .inr rfl) (by rfl)) sgs_nil)))) (fun _ _ _ _ _ => (spt_one (st_cmp (op_inA (units65 hr)) pr_in (so_var (pv 1)) (so_var (pv 3)) (by rfl)))) (fun _ _ _ _ _ => (so_var (pv 2)))) sa_nil)))))
theorem ok_is_whole (T : Txt K mg) : FnOk P w K mg base CX0 1 T.a_is_whole T.d_is_whole ["thing", "least"] (spF K 2 f_is_whole) :=
  fn_sim T.F_is_whole sc_is_whole rfl rfl fun cdv A outer s H E hr => ((ss_one (ss_ret (so_and (so_isi .int (by rfl) T.z_isinstance (by rfl) T.z_int (so_var (pv 0))) (so_and (so_not (so_isi .bool (by rfl) T.z_isinstance (by rfl) T.z_bool (so_var (pv 0)))) (so_one (so_cmp op_ge pr_ge (so_var (pv 0)) (so_var (pv 1)) (nomark _))))))))
theorem ok_begun (T : Txt K mg) : FnOk P w K mg base CX0 1 T.a_begun T.d_begun ["net"] (spF K 1 f_begun) :=
  fn_sim T.F_begun sc_begun rfl rfl fun cdv A outer s H E hr => ((ss_one (ss_ret (so_tup (sa_cons (so_bin op_mulA pr_mul (so_tup (sa_cons so_int sa_nil)) (so_callB cr_len pr_len (by rfl) T.z_len bt_len (sa_cons (so_ix (so_var (pv 0)) so_int) sa_nil))) (sa_cons (so_tup sa_nil) (sa_cons (so_bin op_mulA pr_mul (so_tup (sa_cons so_int sa_nil)) (so_ix (so_var (pv 0)) so_int)) sa_nil)))))))
theorem ok_is_put (T : Txt K mg) : FnOk P w K mg base CX0 2 T.a_is_put T.d_is_put ["net", "thing"] (spF K 2 f_is_put) :=
  fn_sim T.F_is_put sc_is_put rfl rfl fun cdv A outer s H E hr => ((ss_cons (ss_if (st_w (sw_or (st_not (st_any (so_call (ok_is_whole T) (hr.mono (by omega)) (by rfl) T.g_is_whole T.F_is_whole.kp T.b_is_whole (sa_cons (so_ix (so_var (pv 1)) so_int) (sa_cons so_int sa_nil)) (fun _ _ _ h => mkFn_len h)))) (sw_or (st_cmp op_ge pr_ge (so_ix (so_var (pv 1)) so_int) (so_ix (so_var (pv 0)) so_int) (nomark _)) (sw_or1 (st_not (st_any (so_call (ok_is_whole T) (hr.mono (by omega)) (by rfl) T.g_is_whole T.F_is_whole.kp T.b_is_whole (sa_cons (so_ix (so_var (pv 1)) so_int) (sa_cons (so_bin op_sub pr_sub so_int (so_globI (by rfl) T.m_MOST_MANY)) sa_nil)) (fun _ _ _ h => mkFn_len h))))))))
  (ss_one (ss_ret so_bl))
  ss_nil) (ss_one (ss_ret (so_and (so_cmp (op_neD hr.units) pr_ne (so_ix (so_var (pv 1)) so_int) so_int (nomark _)) (so_one (so_cmp op_lt pr_lt (so_ix (so_var (pv 1)) so_int) (so_globI (by rfl) T.m_MOST_MANY) (nomark _))))))))
theorem ok_is_deed (T : Txt K mg) : FnOk P w K mg base CX0 3 T.a_is_deed T.d_is_deed ["net", "thing"] (spF K 2 f_is_deed) :=
  fn_sim T.F_is_deed sc_is_deed rfl rfl fun cdv A outer s H E hr => ((ss_cons (ss_if (st_w (sw_or (st_not (st_any (so_isi .tup (by rfl) T.z_isinstance (by rfl) T.z_tuple (so_var (pv 1))))) (sw_or (st_cmp (op_notInA (units65 hr)) pr_notin (so_callB cr_len pr_len (by rfl) T.z_len bt_len (sa_cons (so_var (pv 1)) sa_nil)) (so_tup (sa_cons so_int (sa_cons so_int sa_nil))) (by rfl)) (sw_or1 (st_not (st_any (so_isi .str (by rfl) T.z_isinstance (by rfl) T.z_str (so_ix (so_var (pv 1)) so_int))))))))
  (ss_one (ss_ret so_bl))
  ss_nil) (ss_cons (ss_if (st_cmp (op_eqD hr.units) pr_eq (so_callB cr_len pr_len (by rfl) T.z_len bt_len (sa_cons (so_var (pv 1)) sa_nil)) so_int (nomark _))
  (ss_one (ss_ret (so_and (so_cmp (op_eqD hr.units) pr_eq (so_ix (so_var (pv 1)) so_int) so_str (nomark _)) (so_one (so_call (ok_is_whole T) (hr.mono (by omega)) (by rfl) T.g_is_whole T.F_is_whole.kp T.b_is_whole (sa_cons (so_ix (so_var (pv 1)) so_int) (sa_cons so_int sa_nil)) (fun _ _ _ h => mkFn_len h))))))
  ss_nil) (ss_cons (ss_if (st_cmp (op_eqD hr.units) pr_eq (so_ix (so_var (pv 1)) so_int) so_str (nomark _))
  (ss_one (ss_ret (so_call (ok_is_put T) (hr.mono (by omega)) (by rfl) T.g_is_put T.F_is_put.kp T.b_is_put (sa_cons (so_var (pv 0)) (sa_cons (so_var (pv 1)) sa_nil)) (fun _ _ _ h => mkFn_len h))))
  ss_nil) (ss_one (ss_ret (so_and (so_cmp (op_eqD hr.units) pr_eq (so_ix (so_var (pv 1)) so_int) so_str (nomark _)) (so_and (so_call (ok_is_whole T) (hr.mono (by omega)) (by rfl) T.g_is_whole T.F_is_whole.kp T.b_is_whole (sa_cons (so_ix (so_var (pv 1)) so_int) (sa_cons so_int sa_nil)) (fun _ _ _ h => mkFn_len h)) (so_and (so_call (ok_is_whole T) (hr.mono (by omega)) (by rfl) T.g_is_whole T.F_is_whole.kp T.b_is_whole (sa_cons (so_ix (so_var (pv 1)) so_int) (sa_cons so_int sa_nil)) (fun _ _ _ h => mkFn_len h)) (so_one (so_cmp op_lt pr_lt (so_ix (so_var (pv 1)) so_int) (so_ix (so_var (pv 1)) so_int) (nomark _))))))))))))
theorem ok_fork_behind (T : Txt K mg) : FnOk P w K mg base CX0 2 T.a_fork_behind T.d_fork_behind ["net", "lane", "number"] (spF K 3 f_fork_behind) :=
  fn_sim T.F_fork_behind sc_fork_behind rfl rfl fun cdv A outer s H E hr => ((ss_cons (ss_for PassesOwn.never rfl (si_seq (so_call (ok_on_lane T) (hr.mono (by omega)) (by rfl) T.g_on_lane T.F_on_lane.kp T.b_on_lane (sa_cons (so_var (pv 0)) (sa_cons (so_var (pv 1)) sa_nil)) (fun _ _ _ h => mkFn_len h))) (sg_name sc_fork_behind.nd rfl (by first | exact .inl rfl | exact .inr rfl) (by rfl))
  (ss_one (ss_if (st_cmp op_gt pr_gt (so_var (pv 3)) (so_var (pv 2)) (nomark _))
  (ss_one (ss_ret (so_var (pv 3))))
  ss_nil)) (fun _ h => h)) (ss_one (ss_ret (so_callB cr_len pr_len (by rfl) T.z_len bt_len (sa_cons (so_ix (so_var (pv 0)) so_int) sa_nil))))))
theorem ok_group_of (T : Txt K mg) : FnOk P w K mg base CX0 3 T.a_group_of T.d_group_of ["net", "many", "lane", "number"] (spF K 4 f_group_of) :=
  fn_sim T.F_group_of sc_group_of rfl rfl fun cdv A outer s H E hr => ((ss_cons (ss_if (st_cmp (op_eqD hr.units) pr_eq (so_var (pv 1)) so_int (nomark _))
  (ss_one (ss_ret (so_lst sa_nil)))
  ss_nil) (ss_one (ss_ret (so_lst (sa_cons (so_tup (sa_cons (so_var (pv 1)) (sa_cons (so_var (pv 2)) (sa_cons (so_call (ok_fork_behind T) (hr.mono (by omega)) (by rfl) T.g_fork_behind T.F_fork_behind.kp T.b_fork_behind (sa_cons (so_var (pv 0)) (sa_cons (so_var (pv 2)) (sa_cons (so_var (pv 3)) sa_nil))) (fun _ _ _ h => mkFn_len h)) sa_nil)))) sa_nil))))))
theorem ok_come_out (T : Txt K mg) : FnOk P w K mg base CX0 1 T.a_come_out T.d_come_out ["net", "scene", "k"] (spF K 3 f_come_out) :=
  fn_sim T.F_come_out sc_come_out rfl rfl fun cdv A outer s H E hr => ((ss_cons (ss_asg (so_var (pv 1)) (sg_tup rfl (sgs_cons (sg_name sc_come_out.nd rfl (by first | exact .inl rfl | exact .inr rfl) (by rfl)) (sgs_cons (sg_name sc_come_out.nd rfl (by first | exact .inl rfl | exact .inr rfl) (by rfl)) (sgs_cons (sg_name sc_come_out.nd rfl (by first | exact .inl rfl | exact .inr rfl) (by rfl)) sgs_nil))))) (ss_cons (ss_asg (so_ix (so_var (pv 4)) (so_var (pv 2))) (sg_tup rfl (sgs_cons (sg_name sc_come_out.nd rfl (by first | exact .inl rfl | exact .inr rfl) (by rfl)) (sgs_cons (sg_name sc_come_out.nd rfl (by first | exact .inl rfl | exact .inr rfl) (by rfl)) (sgs_cons (sg_name sc_come_out.nd rfl (by first | exact .inl rfl | exact .inr rfl) (by rfl)) sgs_nil))))) (ss_cons (ss_set sc_come_out.nd rfl (by first | exact .inl rfl | exact .inr rfl) (by rfl) (so_idxT (so_ix (so_var (pv 0)) so_int) (so_var (pv 7)))) (ss_one (ss_ret (so_tup (sa_cons (so_var (pv 3)) (sa_cons (so_bin op_addA pr_add (so_slice (so_var (pv 4)) sp_none (sp_some (so_var (pv 2)))) (so_slice (so_var (pv 4)) (sp_some (so_bin op_addA pr_add (so_var (pv 2)) so_int)) sp_none)) (sa_cons (so_bin op_addA pr_add (so_bin op_addA pr_add (so_slice (so_var (pv 5)) sp_none (sp_some (so_var (pv 9)))) (so_tup (sa_cons (so_bin op_addA pr_add (so_ix (so_var (pv 5)) (so_var (pv 9))) (so_var (pv 6))) sa_nil))) (so_slice (so_var (pv 5)) (sp_some (so_bin op_addA pr_add (so_var (pv 9)) so_int)) sp_none)) sa_nil))))))))))
theorem ok_step_on (T : Txt K mg) : FnOk P w K mg base CX0 4 T.a_step_on T.d_step_on ["net", "scene", "k"] (spF K 3 f_step_on) :=
  fn_sim T.F_step_on sc_step_on rfl rfl fun cdv A outer s H E hr => ((ss_cons (ss_asg (so_var (pv 1)) (sg_tup rfl (sgs_cons (sg_name sc_step_on.nd rfl (by first | exact .inl rfl | exact .inr rfl) (by rfl)) (sgs_cons (sg_name sc_step_on.nd rfl (by first | exact .inl rfl | exact .inr rfl) (by rfl)) (sgs_cons (sg_name sc_step_on.nd rfl (by first | exact .inl rfl | exact .inr rfl) (by rfl)) sgs_nil))))) (ss_cons (ss_asg (so_ix (so_var (pv 4)) (so_var (pv 2))) (sg_tup rfl (sgs_cons (sg_name sc_step_on.nd rfl (by first | exact .inl rfl | exact .inr rfl) (by rfl)) (sgs_cons (sg_name sc_step_on.nd rfl (by first | exact .inl rfl | exact .inr rfl) (by rfl)) (sgs_cons (sg_name sc_step_on.nd rfl (by first | exact .inl rfl | exact .inr rfl) (by rfl)) sgs_nil))))) (ss_cons (ss_if (st_cmp (op_eqD hr.units) pr_eq (so_var (pv 8)) (so_callB cr_len pr_len (by rfl) T.z_len bt_len (sa_cons (so_ix (so_var (pv 0)) so_int) sa_nil)) (nomark _))
  (ss_one (ss_ret (so_call (ok_come_out T) (hr.mono (by omega)) (by rfl) T.g_come_out T.F_come_out.kp T.b_come_out (sa_cons (so_var (pv 0)) (sa_cons (so_var (pv 1)) (sa_cons (so_var (pv 2)) sa_nil))) (fun _ _ _ h => mkFn_len h))))
  ss_nil) (ss_cons (ss_asg (so_ix (so_ix (so_var (pv 0)) so_int) (so_var (pv 8))) (sg_tup rfl (sgs_cons (sg_name sc_step_on.nd rfl (by first | exact .inl rfl | exact .inr rfl) (by rfl)) (sgs_cons (sg_name sc_step_on.nd rfl (by first | exact .inl rfl | exact .inr rfl) (by rfl)) sgs_nil)))) (ss_cons (ss_set sc_step_on.nd rfl (by first | exact .inl rfl | exact .inr rfl) (by rfl) (so_ix (so_var (pv 3)) (so_var (pv 8)))) (ss_cons (ss_set sc_step_on.nd rfl (by first | exact .inl rfl | exact .inr rfl) (by rfl) (so_bin op_sub pr_sub (so_bin op_fdivW pr_div (so_bin op_addA pr_add (so_bin op_addA pr_add (so_var (pv 11)) (so_var (pv 6))) so_int) so_int) (so_var (pv 11)))) (ss_cons (ss_set sc_step_on.nd rfl (by first | exact .inl rfl | exact .inr rfl) (by rfl) (so_bin op_addA pr_add (so_call (ok_group_of T) (hr.mono (by omega)) (by rfl) T.g_group_of T.F_group_of.kp T.b_group_of (sa_cons (so_var (pv 0)) (sa_cons (so_var (pv 12)) (sa_cons (so_var (pv 9)) (sa_cons (so_var (pv 8)) sa_nil)))) (fun _ _ _ h => mkFn_len h)) (so_call (ok_group_of T) (hr.mono (by omega)) (by rfl) T.g_group_of T.F_group_of.kp T.b_group_of (sa_cons (so_var (pv 0)) (sa_cons (so_bin op_sub pr_sub (so_var (pv 6)) (so_var (pv 12))) (sa_cons (so_var (pv 10)) (sa_cons (so_var (pv 8)) sa_nil)))) (fun _ _ _ h => mkFn_len h)))) (ss_cons (ss_set sc_step_on.nd rfl (by first | exact .inl rfl | exact .inr rfl) (by rfl) (so_bin op_addA pr_add (so_bin op_addA pr_add (so_slice (so_var (pv 3)) sp_none (sp_some (so_var (pv 8)))) (so_tup (sa_cons (so_bin op_mod pr_mod (so_bin op_addA pr_add (so_var (pv 11)) (so_var (pv 6))) so_int) sa_nil))) (so_slice (so_var (pv 3)) (sp_some (so_bin op_addA pr_add (so_var (pv 8)) so_int)) sp_none))) (ss_one (ss_ret (so_tup (sa_cons (so_var (pv 14)) (sa_cons (so_bin op_addA pr_add (so_bin op_addA pr_add (so_slice (so_var (pv 4)) sp_none (sp_some (so_var (pv 2)))) (so_callTy call_tuple_ofD pr_tuple (by rfl) T.z_tuple bt_tuple (sa_cons (so_var (pv 13)) sa_nil))) (so_slice (so_var (pv 4)) (sp_some (so_bin op_addA pr_add (so_var (pv 2)) so_int)) sp_none)) (sa_cons (so_var (pv 5)) sa_nil)))))))))))))))
theorem ok_joined_groups (T : Txt K mg) : FnOk P w K mg base CX0 1 T.a_joined_groups T.d_joined_groups ["scene", "j", "k"] (spF K 3 f_joined_groups) :=
  fn_sim T.F_joined_groups sc_joined_groups rfl rfl fun cdv A outer s H E hr => ((ss_cons (ss_asg (so_var (pv 0)) (sg_tup rfl (sgs_cons (sg_name sc_joined_groups.nd rfl (by first | exact .inl rfl | exact .inr rfl) (by rfl)) (sgs_cons (sg_name sc_joined_groups.nd rfl (by first | exact .inl rfl | exact .inr rfl) (by rfl)) (sgs_cons (sg_name sc_joined_groups.nd rfl (by first | exact .inl rfl | exact .inr rfl) (by rfl)) sgs_nil))))) (ss_cons (ss_set sc_joined_groups.nd rfl (by first | exact .inl rfl | exact .inr rfl) (by rfl) (so_bin op_addA pr_add (so_ix (so_ix (so_var (pv 4)) (so_var (pv 1))) so_int) (so_ix (so_ix (so_var (pv 4)) (so_var (pv 2))) so_int))) (ss_cons (ss_set sc_joined_groups.nd rfl (by first | exact .inl rfl | exact .inr rfl) (by rfl) (so_bin op_mulA pr_mul (so_tup (sa_cons (so_bin op_addA pr_add (so_tup (sa_cons (so_var (pv 6)) sa_nil)) (so_slice (so_ix (so_var (pv 4)) (so_var (pv 1))) (sp_some so_int) sp_none)) sa_nil)) (so_callTy call_int1 pr_int (by rfl) T.z_int bt_int (sa_cons (so_cmp (op_neD hr.units) pr_ne (so_var (pv 6)) so_int (nomark _)) sa_nil)))) (ss_one (ss_ret (so_tup (sa_cons (so_var (pv 3)) (sa_cons (so_bin op_addA pr_add (so_bin op_addA pr_add (so_bin op_addA pr_add (so_slice (so_var (pv 4)) sp_none (sp_some (so_var (pv 1)))) (so_var (pv 7))) (so_slice (so_var (pv 4)) (sp_some (so_bin op_addA pr_add (so_var (pv 1)) so_int)) (sp_some (so_var (pv 2))))) (so_slice (so_var (pv 4)) (sp_some (so_bin op_addA pr_add (so_var (pv 2)) so_int)) sp_none)) (sa_cons (so_var (pv 5)) sa_nil))))))))))
theorem ok_NoDeed__init (T : Txt K mg) : FnOk P w K mg base (L2.CX P w) 1 T.a_NoDeed__init T.d_NoDeed__init ["self", "place"] (spXI K T.xA_NoDeed "place") :=
  init_okF (m := "no deed") T.F_NoDeed__init sc_NoDeed__init fun cdv A outer s H E => (pss_cons (ps_expr (pe_clsinit (by rfl) T.xg_LaneError T.xv_LaneError.ga T.xv_LaneError.rd T.xv_LaneError.vi (pa_cons (pv 0) (pa_cons pe_str pa_nil)))) (pss_one (ps_ost (pv 0) (pv 1))))
theorem ok_NoGroup__init (T : Txt K mg) : FnOk P w K mg base (L2.CX P w) 1 T.a_NoGroup__init T.d_NoGroup__init ["self", "place"] (spXI K T.xA_NoGroup "place") :=
  init_okF (m := "no such group") T.F_NoGroup__init sc_NoGroup__init fun cdv A outer s H E => (pss_cons (ps_expr (pe_clsinit (by rfl) T.xg_LaneError T.xv_LaneError.ga T.xv_LaneError.rd T.xv_LaneError.vi (pa_cons (pv 0) (pa_cons pe_str pa_nil)))) (pss_one (ps_ost (pv 0) (pv 1))))
theorem ok_done_at (T : Txt K mg) : FnOk P w K mg base CX0 5 T.a_done_at T.d_done_at ["net", "scene", "deed", "place"] (spF K 4 f_done_at) :=
  fn_sim T.F_done_at sc_done_at rfl rfl fun cdv A outer s H E hr => ((ss_cons (ss_if (st_not (st_any (so_call (ok_is_deed T) (hr.mono (by omega)) (by rfl) T.g_is_deed T.F_is_deed.kp T.b_is_deed (sa_cons (so_var (pv 0)) (sa_cons (so_var (pv 2)) sa_nil)) (fun _ _ _ h => mkFn_len h))))
  (ss_one ss_never)
  ss_nil) (ss_cons (ss_set sc_done_at.nd rfl (by first | exact .inl rfl | exact .inr rfl) (by rfl) (so_ix (so_var (pv 1)) so_int)) (ss_cons (ss_if (st_cmp (op_eqD hr.units) pr_eq (so_ix (so_var (pv 2)) so_int) so_str (nomark _))
  (ss_cons (ss_set sc_done_at.nd rfl (by first | exact .inl rfl | exact .inr rfl) (by rfl) (so_tup (sa_cons (so_ix (so_var (pv 2)) so_int) (sa_cons (so_ix (so_var (pv 2)) so_int) (sa_cons (so_call (ok_fork_behind T) (hr.mono (by omega)) (by rfl) T.g_fork_behind T.F_fork_behind.kp T.b_fork_behind (sa_cons (so_var (pv 0)) (sa_cons (so_ix (so_var (pv 2)) so_int) (sa_cons (so_un un_neg pr_neg so_int) sa_nil))) (fun _ _ _ h => mkFn_len h)) sa_nil))))) (ss_one (ss_ret (so_tup (sa_cons (so_ix (so_var (pv 1)) so_int) (sa_cons (so_bin op_addA pr_add (so_var (pv 4)) (so_tup (sa_cons (so_var (pv 5)) sa_nil))) (sa_cons (so_ix (so_var (pv 1)) so_int) sa_nil)))))))
  ss_nil) (ss_cons (ss_if (st_cmp op_ge pr_ge (so_ix (so_var (pv 2)) (so_un un_neg pr_neg so_int)) (so_callB cr_len pr_len (by rfl) T.z_len bt_len (sa_cons (so_var (pv 4)) sa_nil)) (nomark _))
  (ss_one ss_never)
  ss_nil) (ss_cons (ss_if (st_cmp (op_eqD hr.units) pr_eq (so_ix (so_var (pv 2)) so_int) so_str (nomark _))
  (ss_one (ss_ret (so_call (ok_step_on T) (hr.mono (by omega)) (by rfl) T.g_step_on T.F_step_on.kp T.b_step_on (sa_cons (so_var (pv 0)) (sa_cons (so_var (pv 1)) (sa_cons (so_ix (so_var (pv 2)) so_int) sa_nil))) (fun _ _ _ h => mkFn_len h))))
  ss_nil) (ss_cons (ss_if (st_cmp (op_neD hr.units) pr_ne (so_slice (so_ix (so_var (pv 4)) (so_ix (so_var (pv 2)) so_int)) (sp_some so_int) sp_none) (so_slice (so_ix (so_var (pv 4)) (so_ix (so_var (pv 2)) so_int)) (sp_some so_int) sp_none) (nomark _))
  (ss_one ss_never)
  ss_nil) (ss_one (ss_ret (so_call (ok_joined_groups T) (hr.mono (by omega)) (by rfl) T.g_joined_groups T.F_joined_groups.kp T.b_joined_groups (sa_cons (so_var (pv 1)) (sa_cons (so_ix (so_var (pv 2)) so_int) (sa_cons (so_ix (so_var (pv 2)) so_int) sa_nil))) (fun _ _ _ h => mkFn_len h)))))))))))
theorem okz_done_at (T : Txt K mg) : FnOk P w K mg base (L2.CX P w) 5 T.a_done_at T.d_done_at ["net", "scene", "deed", "place"] (spZF K 4 z_done_at) :=
  fn_simZF T.F_done_at sc_done_at rfl rfl fun cdv A outer s H E hr W tk => ((rz_ifxF (st_not (st_any (so_call (ok_is_deed T) (hr.mono (by omega)) (by rfl) T.g_is_deed T.F_is_deed.kp T.b_is_deed (sa_cons (so_var (pv 0)) (sa_cons (so_var (pv 2)) sa_nil)) (fun _ _ _ h => mkFn_len h)))) (rz_hereF (rzf_raise rfl tk T.xo_NoDeed.ox T.xo_NoDeed.no T.xo_NoDeed.iC T.xo_NoDeed.tI (ok_NoDeed__init T) (hr.mono (by omega)) T.b_NoDeed__init T.xC_NoDeed (by rfl) T.xg_NoDeed (sa_cons (so_var (pv 3)) sa_nil))) (rz_thenF (ss_set sc_done_at.nd rfl (by first | exact .inl rfl | exact .inr rfl) (by rfl) (so_ix (so_var (pv 1)) so_int)) (rz_ifxF (st_cmp (op_eqD hr.units) pr_eq (so_ix (so_var (pv 2)) so_int) so_str (nomark _)) rz_noF (rz_ifxF (st_cmp op_ge pr_ge (so_ix (so_var (pv 2)) (so_un un_neg pr_neg so_int)) (so_callB cr_len pr_len (by rfl) T.z_len bt_len (sa_cons (so_var (pv 4)) sa_nil)) (nomark _)) (rz_hereF (rzf_raise rfl tk T.xo_NoGroup.ox T.xo_NoGroup.no T.xo_NoGroup.iC T.xo_NoGroup.tI (ok_NoGroup__init T) (hr.mono (by omega)) T.b_NoGroup__init T.xC_NoGroup (by rfl) T.xg_NoGroup (sa_cons (so_var (pv 3)) sa_nil))) (rz_ifxF (st_cmp (op_eqD hr.units) pr_eq (so_ix (so_var (pv 2)) so_int) so_str (nomark _)) rz_noF (rz_hereF (rz_ifF (st_cmp (op_neD hr.units) pr_ne (so_slice (so_ix (so_var (pv 4)) (so_ix (so_var (pv 2)) so_int)) (sp_some so_int) sp_none) (so_slice (so_ix (so_var (pv 4)) (so_ix (so_var (pv 2)) so_int)) (sp_some so_int) sp_none) (nomark _)) (rz_hereF (rzf_raise rfl tk T.xo_NoGroup.ox T.xo_NoGroup.no T.xo_NoGroup.iC T.xo_NoGroup.tI (ok_NoGroup__init T) (hr.mono (by omega)) T.b_NoGroup__init T.xC_NoGroup (by rfl) T.xg_NoGroup (sa_cons (so_var (pv 3)) sa_nil))) rz_noF))))))))
theorem ok_done (T : Txt K mg) : FnOk P w K mg base CX0 6 T.a_done T.d_done ["net", "scene", "deed"] (spF K 3 f_done) :=
  fn_sim T.F_done sc_done rfl rfl fun cdv A outer s H E hr => ((ss_one (ss_ret (so_call (ok_done_at T) (hr.mono (by omega)) (by rfl) T.g_done_at T.F_done_at.kp T.b_done_at (sa_cons (so_var (pv 0)) (sa_cons (so_var (pv 1)) (sa_cons (so_var (pv 2)) (sa_cons so_int sa_nil)))) (fun _ _ _ h => mkFn_len h)))))
theorem okz_done (T : Txt K mg) : FnOk P w K mg base (L2.CX P w) 6 T.a_done T.d_done ["net", "scene", "deed"] (spZF K 3 z_done) :=
  fn_simZF T.F_done sc_done rfl rfl fun cdv A outer s H E hr W tk => ((rz_hereF (rz_retF (rz_callF tk (okz_done_at T) (hr.mono (by omega)) (by rfl) T.g_done_at T.F_done_at.kp T.b_done_at (sa_cons (so_var (pv 0)) (sa_cons (so_var (pv 1)) (sa_cons (so_var (pv 2)) (sa_cons so_int sa_nil)))) (fun _ _ h => mkFz_lenF h)))))
theorem ok__law_cell_at (T : Txt K mg) : FnOk P w K mg base CX0 1 T.a__law_cell_at T.d__law_cell_at ["_law_script", "_law_k"] (spF K 2 f__law_cell_at) :=
  fn_sim T.F__law_cell_at sc__law_cell_at rfl rfl fun cdv A outer s H E hr => ((ss_cons (ss_if (st_cmp op_lt pr_lt (so_var (pv 1)) (so_callB cr_len pr_len (by rfl) T.z_len bt_len (sa_cons (so_var (pv 0)) sa_nil)) (nomark _))
  (ss_one (ss_ret (so_ix (so_var (pv 0)) (so_var (pv 1)))))
  ss_nil) (ss_one (ss_ret so_int))))
theorem ok__law_left (T : Txt K mg) : FnOk P w K mg base CX0 2 T.a__law_left T.d__law_left ["_law_script", "_law_k"] (spF K 2 f__law_left) :=
  fn_sim T.F__law_left sc__law_left rfl rfl fun cdv A outer s H E hr => ((ss_cons (ss_set sc__law_left.nd rfl (by first | exact .inl rfl | exact .inr rfl) (by rfl) (so_call (ok__law_cell_at T) (hr.mono (by omega)) (by rfl) T.g__law_cell_at T.F__law_cell_at.kp T.b__law_cell_at (sa_cons (so_var (pv 0)) (sa_cons (so_bin op_mod pr_mod (so_var (pv 1)) (so_callB (call_max2 rfl) pr_max2 (by rfl) T.z_max bt_max (sa_cons so_int (sa_cons (so_callB cr_len pr_len (by rfl) T.z_len bt_len (sa_cons (so_var (pv 0)) sa_nil)) sa_nil)))) sa_nil)) (fun _ _ _ h => mkFn_len h))) (ss_cons (ss_set sc__law_left.nd rfl (by first | exact .inl rfl | exact .inr rfl) (by rfl) (so_bin op_mod pr_mod (so_bin op_mulA pr_mul (so_bin op_addA pr_add (so_bin op_addA pr_add (so_bin op_mod pr_mod (so_var (pv 2)) so_int) (so_bin op_mulA pr_mul (so_bin op_mulA pr_mul so_int (so_var (pv 1))) (so_var (pv 1)))) so_int) so_int) so_int)) (ss_one (ss_ret (so_lst (sa_cons (so_bin op_mod pr_mod (so_bin op_mulA pr_mul (so_callB call_abs pr_abs (by rfl) T.z_abs bt_abs (sa_cons (so_var (pv 2)) sa_nil)) (so_callTy call_int1 pr_int (by rfl) T.z_int bt_int (sa_cons (so_cmp op_ge pr_ge (so_callB call_abs pr_abs (by rfl) T.z_abs bt_abs (sa_cons (so_var (pv 2)) sa_nil)) (so_bin op_pow pr_pow so_int so_int) (nomark _)) sa_nil))) (so_callTy (call_int_ten T.k_dig 2000 (by decide) (by decide)) (pr_intTen 2000) (by rfl) T.z_int bt_int (sa_cons (so_bin op_addA pr_add so_str (so_bin op_mulS pr_mulS so_str so_int)) sa_nil))) (sa_cons (so_var (pv 3)) sa_nil))))))))
theorem ok__law_pick (T : Txt K mg) : FnOk P w K mg base CX0 1 T.a__law_pick T.d__law_pick ["_law_left_here", "_law_many_here"] (spF K 2 f__law_pick) :=
  fn_sim T.F__law_pick sc__law_pick rfl rfl fun cdv A outer s H E hr => ((ss_cons (ss_if (st_cmp op_gt pr_gt (so_ix (so_var (pv 0)) so_int) so_int (nomark _))
  (ss_cons (ss_set sc__law_pick.nd rfl (by first | exact .inl rfl | exact .inr rfl) (by rfl) (so_bin op_mod pr_mod (so_ix (so_var (pv 0)) so_int) (so_var (pv 1)))) (ss_cons (ss_setIx (pv 0) so_int (so_bin op_fdivW pr_div (so_ix (so_var (pv 0)) so_int) (so_var (pv 1)))) (ss_one (ss_ret (so_var (pv 2))))))
  ss_nil) (ss_cons (ss_setIx (pv 0) so_int (so_bin op_mod pr_mod (so_bin op_addA pr_add (so_bin op_mulA pr_mul (so_ix (so_var (pv 0)) so_int) so_int) so_int) so_int)) (ss_one (ss_ret (so_bin op_mod pr_mod (so_bin op_mod pr_mod (so_bin op_mulA pr_mul (so_ix (so_var (pv 0)) so_int) (so_ix (so_var (pv 0)) so_int)) so_int) (so_var (pv 1))))))))
theorem ok__law_of (T : Txt K mg) : FnOk P w K mg base CX0 2 T.a__law_of T.d__law_of ["_law_left_here", "_law_some"] (spF K 2 f__law_of) :=
  fn_sim T.F__law_of sc__law_of rfl rfl fun cdv A outer s H E hr => ((ss_one (ss_ret (so_ix (so_var (pv 1)) (so_call (ok__law_pick T) (hr.mono (by omega)) (by rfl) T.g__law_pick T.F__law_pick.kp T.b__law_pick (sa_cons (so_var (pv 0)) (sa_cons (so_callB cr_len pr_len (by rfl) T.z_len bt_len (sa_cons (so_var (pv 1)) sa_nil)) sa_nil)) (fun _ _ _ h => mkFn_len h))))))
theorem ok__law_placed (n : Nat) (T : Txt K mg) : FnOk P w K mg base CX0 (n + 2) T.a__law_placed T.d__law_placed ["_law_left_here", "_law_some"] (spF K 2 (f__law_placed n)) :=
  fn_sim2 T.F__law_placed sc__law_placed rfl rfl rfl rfl (one2 rfl) (fun cdv A outer s H E hr => ps_set sc__law_placed.nd rfl (by first | exact .inl rfl | exact .inr rfl) (pe_callTy call_list_of (by rfl) T.z_list bt_list (pa_cons (pv 1) pa_nil))) fun cdv A outer s H E hr => ((ss_cons (ss_set sc__law_placed.nd rfl (by first | exact .inl rfl | exact .inr rfl) (by rfl) (so_lst sa_nil)) (ss_cons (ss_while n PassesOwn.never (st_cmp (op_neD hr.units) pr_ne (so_var (pv 1)) (so_lst sa_nil) (nomark _))
  (ss_one (ss_expr (so_mt md_app PySem.F.slot_list_append PySem.F.type_list_append mt_append (pv 2) (sa_cons (so_mt md_popAt PySem.F.slot_list_pop PySem.F.type_list_pop mt_popAt (pv 1) (sa_cons (so_call (ok__law_pick T) (hr.mono (by omega)) (by rfl) T.g__law_pick T.F__law_pick.kp T.b__law_pick (sa_cons (so_var (pv 0)) (sa_cons (so_callB cr_len pr_len (by rfl) T.z_len bt_len (sa_cons (so_var (pv 1)) sa_nil)) sa_nil)) (fun _ _ _ h => mkFn_len h)) sa_nil)) sa_nil))))) (ss_one (ss_ret (so_var (pv 2)))))))
theorem ok__law_net (n : Nat) (T : Txt K mg) : FnOk P w K mg base CX0 (n + 3) T.a__law_net T.d__law_net ["_law_left_here", "_law_lanes", "_law_most"] (spF K 3 (f__law_net n)) :=
  fn_sim T.F__law_net sc__law_net rfl rfl fun cdv A outer s H E hr => ((ss_cons (ss_set sc__law_net.nd rfl (by first | exact .inl rfl | exact .inr rfl) (by rfl) (so_lst sa_nil)) (ss_cons (ss_for PassesOwn.never rfl (si_range1 (by rfl) T.z_range (sa_cons (so_bin op_mulA pr_mul (so_call (ok__law_pick T) (hr.mono (by omega)) (by rfl) T.g__law_pick T.F__law_pick.kp T.b__law_pick (sa_cons (so_var (pv 0)) (sa_cons (so_bin op_addA pr_add (so_var (pv 2)) so_int) sa_nil)) (fun _ _ _ h => mkFn_len h)) (so_callTy call_int1 pr_int (by rfl) T.z_int bt_int (sa_cons (so_cmp op_gt pr_gt (so_var (pv 1)) so_int (nomark _)) sa_nil))) sa_nil)) (sg_name sc__law_net.nd rfl (by first | exact .inl rfl | exact .inr rfl) (by rfl))
  (ss_cons (ss_set sc__law_net.nd rfl (by first | exact .inl rfl | exact .inr rfl) (by rfl) (so_call (ok__law_pick T) (hr.mono (by omega)) (by rfl) T.g__law_pick T.F__law_pick.kp T.b__law_pick (sa_cons (so_var (pv 0)) (sa_cons (so_var (pv 1)) sa_nil)) (fun _ _ _ h => mkFn_len h))) (ss_cons (ss_set sc__law_net.nd rfl (by first | exact .inl rfl | exact .inr rfl) (by rfl) (so_bin op_mod pr_mod (so_bin op_addA pr_add (so_bin op_addA pr_add (so_var (pv 5)) so_int) (so_call (ok__law_pick T) (hr.mono (by omega)) (by rfl) T.g__law_pick T.F__law_pick.kp T.b__law_pick (sa_cons (so_var (pv 0)) (sa_cons (so_bin op_sub pr_sub (so_var (pv 1)) so_int) sa_nil)) (fun _ _ _ h => mkFn_len h))) (so_var (pv 1)))) (ss_cons (ss_if (st_w (sw_and (st_cmp (op_neD hr.units) pr_ne (so_var (pv 3)) (so_lst sa_nil) (nomark _)) (sw_and1 (st_cmp (op_eqD hr.units) pr_eq (so_call (ok__law_pick T) (hr.mono (by omega)) (by rfl) T.g__law_pick T.F__law_pick.kp T.b__law_pick (sa_cons (so_var (pv 0)) (sa_cons so_int sa_nil)) (fun _ _ _ h => mkFn_len h)) so_int (nomark _)))))
  (ss_one (ss_asg (so_stE (so_ix (so_var (pv 3)) (so_un un_neg pr_neg so_int)) (sp_some (so_call (ok__law_of T) (hr.mono (by omega)) (by rfl) T.g__law_of T.F__law_of.kp T.b__law_of (sa_cons (so_var (pv 0)) (sa_cons (so_lst (sa_cons so_int (sa_cons (so_un un_neg pr_neg so_int) sa_nil))) sa_nil)) (fun _ _ _ h => mkFn_len h)))) (sg_tup rfl (sgs_cons (sg_name sc__law_net.nd rfl (by first | exact .inl rfl | exact .inr rfl) (by rfl)) (sgs_cons (sg_name sc__law_net.nd rfl (by first | exact .inl rfl | exact .inr rfl) (by rfl)) sgs_nil)))))
  ss_nil) (ss_one (ss_expr (so_mt md_app PySem.F.slot_list_append PySem.F.type_list_append mt_append (pv 3) (sa_cons (so_tup (sa_cons (so_var (pv 5)) (sa_cons (so_var (pv 6)) sa_nil))) sa_nil))))))) (fun _ h => h)) (ss_cons (ss_set sc__law_net.nd rfl (by first | exact .inl rfl | exact .inr rfl) (by rfl) (so_listRg1 rfl (by rfl) T.z_list (by rfl) T.z_range (so_var (pv 1)))) (ss_cons (ss_if (st_cmp (op_eqD hr.units) pr_eq (so_call (ok__law_pick T) (hr.mono (by omega)) (by rfl) T.g__law_pick T.F__law_pick.kp T.b__law_pick (sa_cons (so_var (pv 0)) (sa_cons so_int sa_nil)) (fun _ _ _ h => mkFn_len h)) so_int (nomark _))
  (ss_one (ss_set sc__law_net.nd rfl (by first | exact .inl rfl | exact .inr rfl) (by rfl) (so_call (ok__law_placed n T) (hr.mono (by omega)) (by rfl) T.g__law_placed T.F__law_placed.kp T.b__law_placed (sa_cons (so_var (pv 0)) (sa_cons (so_var (pv 7)) sa_nil)) (fun ds r as h => len__law_placed n ds r as h))))
  ss_nil) (ss_one (ss_ret (so_tup (sa_cons (so_var (pv 1)) (sa_cons (so_callTy call_tuple_ofD pr_tuple (by rfl) T.z_tuple bt_tuple (sa_cons (so_var (pv 3)) sa_nil)) (sa_cons (so_callTy call_tuple_ofD pr_tuple (by rfl) T.z_tuple bt_tuple (sa_cons (so_var (pv 7)) sa_nil)) sa_nil)))))))))))
theorem ok__law_many (T : Txt K mg) : FnOk P w K mg base CX0 3 T.a__law_many T.d__law_many ["_law_left_here"] (spF K 1 f__law_many) :=
  fn_sim T.F__law_many sc__law_many rfl rfl fun cdv A outer s H E hr => ((ss_cons (ss_set sc__law_many.nd rfl (by first | exact .inl rfl | exact .inr rfl) (by rfl) (so_bin op_addA pr_add (so_callTy call_int_str pr_intS (by rfl) T.z_int bt_int (sa_cons (so_bin op_addA pr_add so_str (so_bin op_mulV pr_mulV so_str (so_call (ok__law_pick T) (hr.mono (by omega)) (by rfl) T.g__law_pick T.F__law_pick.kp T.b__law_pick (sa_cons (so_var (pv 0)) (sa_cons so_int sa_nil)) (fun _ _ _ h => mkFn_len h)))) sa_nil)) (so_call (ok__law_pick T) (hr.mono (by omega)) (by rfl) T.g__law_pick T.F__law_pick.kp T.b__law_pick (sa_cons (so_var (pv 0)) (sa_cons so_int sa_nil)) (fun _ _ _ h => mkFn_len h)))) (ss_cons (ss_set sc__law_many.nd rfl (by first | exact .inl rfl | exact .inr rfl) (by rfl) (so_call (ok__law_of T) (hr.mono (by omega)) (by rfl) T.g__law_of T.F__law_of.kp T.b__law_of (sa_cons (so_var (pv 0)) (sa_cons (so_lst (sa_cons so_int (sa_cons so_int (sa_cons so_int (sa_cons so_int (sa_cons (so_bin op_addA pr_add so_int (so_call (ok__law_pick T) (hr.mono (by omega)) (by rfl) T.g__law_pick T.F__law_pick.kp T.b__law_pick (sa_cons (so_var (pv 0)) (sa_cons so_int sa_nil)) (fun _ _ _ h => mkFn_len h))) (sa_cons (so_bin op_shl pr_shl so_int (so_call (ok__law_pick T) (hr.mono (by omega)) (by rfl) T.g__law_pick T.F__law_pick.kp T.b__law_pick (sa_cons (so_var (pv 0)) (sa_cons so_int sa_nil)) (fun _ _ _ h => mkFn_len h))) (sa_cons (so_var (pv 1)) sa_nil)))))))) sa_nil)) (fun _ _ _ h => mkFn_len h))) (ss_one (ss_ret (so_bin op_mulA pr_mul (so_var (pv 2)) (so_call (ok__law_of T) (hr.mono (by omega)) (by rfl) T.g__law_of T.F__law_of.kp T.b__law_of (sa_cons (so_var (pv 0)) (sa_cons (so_lst (sa_cons so_int (sa_cons so_int (sa_cons (so_un un_neg pr_neg so_int) sa_nil)))) sa_nil)) (fun _ _ _ h => mkFn_len h))))))))
theorem ok__law_joined (T : Txt K mg) : FnOk P w K mg base CX0 7 T.a__law_joined T.d__law_joined ["_law_net_here", "_law_scene", "_law_j", "_law_k"] (spF K 4 f__law_joined) :=
  fn_sim T.F__law_joined sc__law_joined rfl rfl fun cdv A outer s H E hr => ((ss_cons (ss_set sc__law_joined.nd rfl (by first | exact .inl rfl | exact .inr rfl) (by rfl) so_int) (ss_cons (ss_tryF rfl rfl sc__law_joined.nd rfl (by first | rfl | decide +kernel) ⟨rfl, by decide, .inl T.xg_LaneError⟩ (List.forall_mem_cons.mpr ⟨fun C hC => by rw [hC.eq T.xC_NoDeed]; exact exm_of T.xb_LaneError T.xi_LaneError T.xt_LaneError T.xs_NoDeed_LaneError, (List.forall_mem_cons.mpr ⟨fun C hC => by rw [hC.eq T.xC_NoGroup]; exact exm_of T.xb_LaneError T.xi_LaneError T.xt_LaneError T.xs_NoGroup_LaneError, (fun _ h => nomatch h)⟩)⟩) (by rfl) trivial (ss_one (ss_set sc__law_joined.nd rfl (by first | exact .inl rfl | exact .inr rfl) (by rfl) (so_call (ok_done T) (hr.mono (by omega)) (by rfl) T.g_done T.F_done.kp T.b_done (sa_cons (so_var (pv 0)) (sa_cons (so_var (pv 1)) (sa_cons (so_tup (sa_cons so_str (sa_cons (so_var (pv 2)) (sa_cons (so_var (pv 3)) sa_nil)))) sa_nil))) (fun _ _ _ h => mkFn_len h)))) (fun W pn xe tk => (rz_hereF (rz_setF (i := 4) sc__law_joined.nd rfl (by first | exact .inl rfl | exact .inr rfl) (rz_callF tk (okz_done T) (hr.mono (by omega)) (by rfl) T.g_done T.F_done.kp T.b_done (sa_cons (so_var (pv 0)) (sa_cons (so_var (pv 1)) (sa_cons (so_tup (sa_cons so_str (sa_cons (so_var (pv 2)) (sa_cons (so_var (pv 3)) sa_nil)))) sa_nil))) (fun _ _ h => mkFz_lenF h))))) (xc_w (xc_and (xc_is (sub := ["NoGroup"]) rfl (by first | exact Or.inl rfl | exact Or.inr (Or.inl rfl) | exact Or.inr (Or.inr rfl)) (by rfl) T.z_isinstance (by rfl) T.xg_NoGroup (List.forall_mem_cons.mpr ⟨fun C hC => by rw [hC.eq T.xC_NoDeed]; exact ⟨T.xt2_NoDeed.ex, T.xk2_NoDeed_NoGroup⟩, (List.forall_mem_cons.mpr ⟨fun C hC => by rw [hC.eq T.xC_NoGroup]; exact ⟨T.xt2_NoGroup.ex, T.xk2_NoGroup_NoGroup⟩, (fun _ h => nomatch h)⟩)⟩)) (xc_and (xc_not (xc_is (sub := ["NoDeed"]) rfl (by first | exact Or.inl rfl | exact Or.inr (Or.inl rfl) | exact Or.inr (Or.inr rfl)) (by rfl) T.z_isinstance (by rfl) T.xg_NoDeed (List.forall_mem_cons.mpr ⟨fun C hC => by rw [hC.eq T.xC_NoDeed]; exact ⟨T.xt2_NoDeed.ex, T.xk2_NoDeed_NoDeed⟩, (List.forall_mem_cons.mpr ⟨fun C hC => by rw [hC.eq T.xC_NoGroup]; exact ⟨T.xt2_NoGroup.ex, T.xk2_NoGroup_NoDeed⟩, (fun _ h => nomatch h)⟩)⟩))) (xc_and1 (xc_fld rfl (by first | exact Or.inl rfl | exact Or.inr (Or.inl rfl) | exact Or.inr (Or.inr rfl)) (List.forall_mem_cons.mpr ⟨fun C hC => by rw [hC.eq T.xC_NoDeed]; exact ⟨T.xt2_NoDeed.xf, T.xt2_NoDeed.no⟩, (List.forall_mem_cons.mpr ⟨fun C hC => by rw [hC.eq T.xC_NoGroup]; exact ⟨T.xt2_NoGroup.xf, T.xt2_NoGroup.no⟩, (fun _ h => nomatch h)⟩)⟩)))))) (fun a pn => (ss_one (ss_set sc__law_joined.nd rfl (by first | exact .inl rfl | exact .inr rfl) (by rfl) so_non)))) (ss_one (ss_ret (so_var (pv 4)))))))
theorem ok__law_due (T : Txt K mg) : FnOk P w K mg base CX0 1 T.a__law_due T.d__law_due ["_law_scene", "_law_j", "_law_k"] (spF K 3 f__law_due) :=
  fn_sim T.F__law_due sc__law_due rfl rfl fun cdv A outer s H E hr => ((ss_cons (ss_set sc__law_due.nd rfl (by first | exact .inl rfl | exact .inr rfl) (by rfl) (so_callTy call_list_of pr_list (by rfl) T.z_list bt_list (sa_cons (so_ix (so_var (pv 0)) so_int) sa_nil))) (ss_cons (ss_if (st_w (sw_or (st_cmp (op_neD hr.units) pr_ne (so_ix (so_ix (so_var (pv 3)) (so_var (pv 1))) so_int) (so_ix (so_ix (so_var (pv 3)) (so_var (pv 2))) so_int) (nomark _)) (sw_or1 (st_cmp (op_neD hr.units) pr_ne (so_ix (so_ix (so_var (pv 3)) (so_var (pv 1))) so_int) (so_ix (so_ix (so_var (pv 3)) (so_var (pv 2))) so_int) (nomark _)))))
  (ss_one (ss_ret so_non))
  ss_nil) (ss_cons (ss_set sc__law_due.nd rfl (by first | exact .inl rfl | exact .inr rfl) (by rfl) (so_bin op_addA pr_add (so_ix (so_ix (so_var (pv 3)) (so_var (pv 1))) so_int) (so_ix (so_ix (so_var (pv 3)) (so_var (pv 2))) so_int))) (ss_cons (ss_setIx (pv 3) (so_var (pv 1)) (so_tup (sa_cons (so_var (pv 4)) (sa_cons (so_ix (so_ix (so_var (pv 3)) (so_var (pv 1))) so_int) (sa_cons (so_ix (so_ix (so_var (pv 3)) (so_var (pv 1))) so_int) sa_nil))))) (ss_cons (ss_expr (so_mt md_popAt PySem.F.slot_list_pop PySem.F.type_list_pop mt_popAt (pv 3) (sa_cons (so_var (pv 2)) sa_nil))) (ss_cons (ss_if (st_cmp (op_eqD hr.units) pr_eq (so_var (pv 4)) so_int (nomark _))
  (ss_one (ss_expr (so_mt md_popAt PySem.F.slot_list_pop PySem.F.type_list_pop mt_popAt (pv 3) (sa_cons (so_var (pv 1)) sa_nil))))
  ss_nil) (ss_one (ss_ret (so_tup (sa_cons (so_ix (so_var (pv 0)) so_int) (sa_cons (so_callTy call_tuple_ofD pr_tuple (by rfl) T.z_tuple bt_tuple (sa_cons (so_var (pv 3)) sa_nil)) (sa_cons (so_ix (so_var (pv 0)) so_int) sa_nil)))))))))))))
theorem ok_law (n : Nat) (T : Txt K mg) : FnOk P w K mg base CX0 (n + 8) T.a_law T.d_law ["_law_script"] (spF K 1 (f_law n)) :=
  fn_sim T.F_law sc_law rfl rfl fun cdv A outer s H E hr => ((ss_cons (ss_for PassesOwn.never rfl (si_range1 (by rfl) T.z_range (sa_cons (so_callB (call_max2 rfl) pr_max2 (by rfl) T.z_max bt_max (sa_cons so_int (sa_cons (so_callB (call_min2 rfl) pr_min2 (by rfl) T.z_min bt_min (sa_cons so_int (sa_cons (so_callB cr_len pr_len (by rfl) T.z_len bt_len (sa_cons (so_var (pv 0)) sa_nil)) sa_nil))) sa_nil))) sa_nil)) (sg_name sc_law.nd rfl (by first | exact .inl rfl | exact .inr rfl) (by rfl))
  (ss_cons (ss_set sc_law.nd rfl (by first | exact .inl rfl | exact .inr rfl) (by rfl) (so_call (ok__law_left T) (hr.mono (by omega)) (by rfl) T.g__law_left T.F__law_left.kp T.b__law_left (sa_cons (so_var (pv 0)) (sa_cons (so_var (pv 1)) sa_nil)) (fun _ _ _ h => mkFn_len h))) (ss_cons (ss_set sc_law.nd rfl (by first | exact .inl rfl | exact .inr rfl) (by rfl) (so_call (ok__law_net n T) (hr.mono (by omega)) (by rfl) T.g__law_net T.F__law_net.kp T.b__law_net (sa_cons (so_var (pv 2)) (sa_cons (so_call (ok__law_of T) (hr.mono (by omega)) (by rfl) T.g__law_of T.F__law_of.kp T.b__law_of (sa_cons (so_var (pv 2)) (sa_cons (so_lst (sa_cons so_int (sa_cons so_int (sa_cons so_int (sa_cons so_int (sa_cons so_int sa_nil)))))) sa_nil)) (fun _ _ _ h => mkFn_len h)) (sa_cons so_int sa_nil))) (fun ds r as h => len__law_net n ds r as h))) (ss_cons (ss_set sc_law.nd rfl (by first | exact .inl rfl | exact .inr rfl) (by rfl) (so_call (ok_begun T) (hr.mono (by omega)) (by rfl) T.g_begun T.F_begun.kp T.b_begun (sa_cons (so_var (pv 3)) sa_nil) (fun _ _ _ h => mkFn_len h))) (ss_cons (ss_par (i := 5) (j := 6) rfl sc_law.nd rfl rfl (by decide) rfl rfl (by rfl) (by rfl) (sa_cons (so_call (ok__law_pick T) (hr.mono (by omega)) (by rfl) T.g__law_pick T.F__law_pick.kp T.b__law_pick (sa_cons (so_var (pv 2)) (sa_cons (so_ix (so_var (pv 3)) so_int) sa_nil)) (fun _ _ _ h => mkFn_len h)) (sa_cons so_int sa_nil))) (ss_cons (ss_for PassesOwn.never rfl (si_range1 (by rfl) T.z_range (sa_cons (so_bin op_addA pr_add so_int (so_call (ok__law_pick T) (hr.mono (by omega)) (by rfl) T.g__law_pick T.F__law_pick.kp T.b__law_pick (sa_cons (so_var (pv 2)) (sa_cons so_int sa_nil)) (fun _ _ _ h => mkFn_len h))) sa_nil)) (sg_name sc_law.nd rfl (by first | exact .inl rfl | exact .inr rfl) (by rfl))
  (ss_cons (ss_set sc_law.nd rfl (by first | exact .inl rfl | exact .inr rfl) (by rfl) (so_call (ok__law_of T) (hr.mono (by omega)) (by rfl) T.g__law_of T.F__law_of.kp T.b__law_of (sa_cons (so_var (pv 2)) (sa_cons (so_lst (sa_cons (so_call (ok__law_many T) (hr.mono (by omega)) (by rfl) T.g__law_many T.F__law_many.kp T.b__law_many (sa_cons (so_var (pv 2)) sa_nil) (fun _ _ _ h => mkFn_len h)) (sa_cons (so_bin op_sub pr_sub so_int (so_var (pv 6))) (sa_cons (so_bin op_sub pr_sub so_int (so_var (pv 6))) sa_nil)))) sa_nil)) (fun _ _ _ h => mkFn_len h))) (ss_one (ss_set sc_law.nd rfl (by first | exact .inl rfl | exact .inr rfl) (by rfl) (so_call (ok_done T) (hr.mono (by omega)) (by rfl) T.g_done T.F_done.kp T.b_done (sa_cons (so_var (pv 3)) (sa_cons (so_var (pv 4)) (sa_cons (so_tup (sa_cons so_str (sa_cons (so_call (ok__law_of T) (hr.mono (by omega)) (by rfl) T.g__law_of T.F__law_of.kp T.b__law_of (sa_cons (so_var (pv 2)) (sa_cons (so_lst (sa_cons (so_var (pv 5)) (sa_cons (so_var (pv 5)) (sa_cons (so_call (ok__law_pick T) (hr.mono (by omega)) (by rfl) T.g__law_pick T.F__law_pick.kp T.b__law_pick (sa_cons (so_var (pv 2)) (sa_cons (so_ix (so_var (pv 3)) so_int) sa_nil)) (fun _ _ _ h => mkFn_len h)) sa_nil)))) sa_nil)) (fun _ _ _ h => mkFn_len h)) (sa_cons (so_var (pv 6)) sa_nil)))) sa_nil))) (fun _ _ _ h => mkFn_len h))))) (fun _ h => h)) (ss_cons (ss_for PassesOwn.never rfl (si_range1 (by rfl) T.z_range (sa_cons (so_call (ok__law_pick T) (hr.mono (by omega)) (by rfl) T.g__law_pick T.F__law_pick.kp T.b__law_pick (sa_cons (so_var (pv 2)) (sa_cons so_int sa_nil)) (fun _ _ _ h => mkFn_len h)) sa_nil)) (sg_name sc_law.nd rfl (by first | exact .inl rfl | exact .inr rfl) (by rfl))
  (ss_one (ss_if (st_cmp (op_neD hr.units) pr_ne (so_ix (so_var (pv 4)) so_int) (so_tup sa_nil) (nomark _))
  (ss_one (ss_set sc_law.nd rfl (by first | exact .inl rfl | exact .inr rfl) (by rfl) (so_call (ok_done T) (hr.mono (by omega)) (by rfl) T.g_done T.F_done.kp T.b_done (sa_cons (so_var (pv 3)) (sa_cons (so_var (pv 4)) (sa_cons (so_tup (sa_cons so_str (sa_cons (so_call (ok__law_pick T) (hr.mono (by omega)) (by rfl) T.g__law_pick T.F__law_pick.kp T.b__law_pick (sa_cons (so_var (pv 2)) (sa_cons (so_callB cr_len pr_len (by rfl) T.z_len bt_len (sa_cons (so_ix (so_var (pv 4)) so_int) sa_nil)) sa_nil)) (fun _ _ _ h => mkFn_len h)) sa_nil))) sa_nil))) (fun _ _ _ h => mkFn_len h))))
  ss_nil)) (fun _ h => h)) (ss_one (ss_for PassesOwn.never rfl (si_range1 (by rfl) T.z_range (sa_cons so_int sa_nil)) (sg_name sc_law.nd rfl (by first | exact .inl rfl | exact .inr rfl) (by rfl))
  (ss_one (ss_if (st_cmp op_gt pr_gt (so_callB cr_len pr_len (by rfl) T.z_len bt_len (sa_cons (so_ix (so_var (pv 4)) so_int) sa_nil)) so_int (nomark _))
  (ss_cons (ss_set sc_law.nd rfl (by first | exact .inl rfl | exact .inr rfl) (by rfl) (so_call (ok__law_pick T) (hr.mono (by omega)) (by rfl) T.g__law_pick T.F__law_pick.kp T.b__law_pick (sa_cons (so_var (pv 2)) (sa_cons (so_bin op_sub pr_sub (so_callB cr_len pr_len (by rfl) T.z_len bt_len (sa_cons (so_ix (so_var (pv 4)) so_int) sa_nil)) so_int) sa_nil)) (fun _ _ _ h => mkFn_len h))) (ss_cons (ss_set sc_law.nd rfl (by first | exact .inl rfl | exact .inr rfl) (by rfl) (so_bin op_addA pr_add (so_bin op_addA pr_add (so_var (pv 8)) so_int) (so_call (ok__law_pick T) (hr.mono (by omega)) (by rfl) T.g__law_pick T.F__law_pick.kp T.b__law_pick (sa_cons (so_var (pv 2)) (sa_cons (so_bin op_sub pr_sub (so_bin op_sub pr_sub (so_callB cr_len pr_len (by rfl) T.z_len bt_len (sa_cons (so_ix (so_var (pv 4)) so_int) sa_nil)) so_int) (so_var (pv 8))) sa_nil)) (fun _ _ _ h => mkFn_len h)))) (ss_cons (ss_set sc_law.nd rfl (by first | exact .inl rfl | exact .inr rfl) (by rfl) (so_call (ok__law_due T) (hr.mono (by omega)) (by rfl) T.g__law_due T.F__law_due.kp T.b__law_due (sa_cons (so_var (pv 4)) (sa_cons (so_var (pv 8)) (sa_cons (so_var (pv 9)) sa_nil))) (fun _ _ _ h => mkFn_len h))) (ss_cons (ss_if (st_cmp (op_neD hr.units) pr_ne (so_call (ok__law_joined T) (hr.mono (by omega)) (by rfl) T.g__law_joined T.F__law_joined.kp T.b__law_joined (sa_cons (so_var (pv 3)) (sa_cons (so_var (pv 4)) (sa_cons (so_var (pv 8)) (sa_cons (so_var (pv 9)) sa_nil)))) (fun _ _ _ h => mkFn_len h)) (so_var (pv 10)) (nomark _))
  (ss_one (ss_ret so_bl))
  ss_nil) (ss_one (ss_set sc_law.nd rfl (by first | exact .inl rfl | exact .inr rfl) (by rfl) (so_orV (so_var (pv 10)) (so_one (so_var (pv 4))))))))))
  ss_nil)) (fun _ h => h))))))))) (fun _ h => h)) (ss_one (ss_ret so_bl))))
end
theorem all_mk {l : PySem.W.OpenLaw} {w : World} {K : PySem.W.Frag} {h : Heap} {mg : Str → Option Value} {fa f1 f2 f3 f4 f5 f6 f7 f8 f9 f10 f11 f12 f13 f14 f15 f16 f17 f18 f19 f20 f21 f22 f23 f24 : Addr} (n : Nat) (X : K.In h) (G : h.Ns mainGlobals mg) (hfa : mg "law" = some (.ref fa))
    {od1 an1 od2 an2 od3 an3 od4 an4 od5 an5 od6 an6 od7 an7 od8 an8 od9 an9 od10 an10 od11 an11 od12 an12 od13 an13 od14 an14 od15 an15 od16 an16 od17 an17 od18 an18 od19 an19 od20 an20 od21 an21 od22 an22 od23 an23 od24 an24 : Option Addr} {sl1 sl2 sl3 sl4 sl5 sl6 sl7 sl8 sl9 sl10 sl11 sl12 sl13 sl14 sl15 sl16 sl17 sl18 sl19 sl20 sl21 sl22 sl23 sl24 : Array (Option Value)} {oc1 kV1 dc1 pm1 cd1 ct1 oc2 kV2 dc2 pm2 cd2 ct2 oc3 kV3 dc3 pm3 cd3 ct3 oc4 kV4 dc4 pm4 cd4 ct4 oc5 kV5 dc5 pm5 cd5 ct5 oc6 kV6 dc6 pm6 cd6 ct6 oc7 kV7 dc7 pm7 cd7 ct7 oc8 kV8 dc8 pm8 cd8 ct8 oc9 kV9 dc9 pm9 cd9 ct9 oc10 kV10 dc10 pm10 cd10 ct10 oc11 kV11 dc11 pm11 cd11 ct11 oc12 kV12 dc12 pm12 cd12 ct12 oc13 kV13 dc13 pm13 cd13 ct13 oc14 kV14 dc14 pm14 cd14 ct14 oc15 kV15 dc15 pm15 cd15 ct15 oc16 kV16 dc16 pm16 cd16 ct16 oc17 kV17 dc17 pm17 cd17 ct17 oc18 kV18 dc18 pm18 cd18 ct18 oc19 kV19 dc19 pm19 cd19 ct19 oc20 kV20 dc20 pm20 cd20 ct20 oc21 kV21 dc21 pm21 cd21 ct21 oc22 kV22 dc22 pm22 cd22 ct22 oc23 kV23 dc23 pm23 cd23 ct23 oc24 kV24 dc24 pm24 cd24 ct24 : Value}
    {xA_LaneError : Addr} (xa_LaneError : PySem.W.nsIn K mainGlobals "LaneError" = some (some (.ref xA_LaneError))) (xx_LaneError : PySem.W.excIn K xA_LaneError [.type "ValueError", .type "Exception", .type "BaseException", .type "object"] "ValueError.__new__" = true) (xk_LaneError : PySem.W.keepIn K (.ref xA_LaneError) = true) (xb_LaneError : PySem.W.subIn K (.ref xA_LaneError) (.type "BaseException") = some true) (xt_LaneError : PySem.W.typeIn K (.ref xA_LaneError) = some (.type "type")) (xi_LaneError : (PySem.W.clsIn K xA_LaneError).isSome = true)
    {xA_NoDeed : Addr} (xa_NoDeed : PySem.W.nsIn K mainGlobals "NoDeed" = some (some (.ref xA_NoDeed))) (xk_NoDeed : PySem.W.keepIn K (.ref xA_NoDeed) = true) (xb_NoDeed : PySem.W.subIn K (.ref xA_NoDeed) (.type "BaseException") = some true) (xt_NoDeed : PySem.W.typeIn K (.ref xA_NoDeed) = some (.type "type")) (xi_NoDeed : (PySem.W.clsIn K xA_NoDeed).isSome = true)
    {xA_NoGroup : Addr} (xa_NoGroup : PySem.W.nsIn K mainGlobals "NoGroup" = some (some (.ref xA_NoGroup))) (xk_NoGroup : PySem.W.keepIn K (.ref xA_NoGroup) = true) (xb_NoGroup : PySem.W.subIn K (.ref xA_NoGroup) (.type "BaseException") = some true) (xt_NoGroup : PySem.W.typeIn K (.ref xA_NoGroup) = some (.type "type")) (xi_NoGroup : (PySem.W.clsIn K xA_NoGroup).isSome = true)
    (xs_LaneError_LaneError : PySem.W.subIn K (.ref xA_LaneError) (.ref xA_LaneError) = some true)
    (xs_NoDeed_LaneError : PySem.W.subIn K (.ref xA_NoDeed) (.ref xA_LaneError) = some true)
    (xs_NoDeed_NoDeed : PySem.W.subIn K (.ref xA_NoDeed) (.ref xA_NoDeed) = some true)
    (xs_NoGroup_LaneError : PySem.W.subIn K (.ref xA_NoGroup) (.ref xA_LaneError) = some true)
    (xs_NoGroup_NoGroup : PySem.W.subIn K (.ref xA_NoGroup) (.ref xA_NoGroup) = some true)
    (xv_LaneError : initB K xA_LaneError = true)
    (xI_NoDeed : PySem.W.findIn K (.ref xA_NoDeed) "__init__" = some (some (.ref f11)))
    (xo_NoDeed : fldB K xA_NoDeed f11 "place" = true)
    (xt2_NoDeed : caughtB K xA_NoDeed "place" = true)
    (xI_NoGroup : PySem.W.findIn K (.ref xA_NoGroup) "__init__" = some (some (.ref f12)))
    (xo_NoGroup : fldB K xA_NoGroup f12 "place" = true)
    (xt2_NoGroup : caughtB K xA_NoGroup "place" = true)
    (xk2_NoDeed_NoDeed : PySem.W.kitOne K (.ref xA_NoDeed) (.ref xA_NoDeed) = some true)
    (xk2_NoDeed_NoGroup : PySem.W.kitOne K (.ref xA_NoDeed) (.ref xA_NoGroup) = some false)
    (xk2_NoGroup_NoDeed : PySem.W.kitOne K (.ref xA_NoGroup) (.ref xA_NoDeed) = some false)
    (xk2_NoGroup_NoGroup : PySem.W.kitOne K (.ref xA_NoGroup) (.ref xA_NoGroup) = some true)
    (a1 : PySem.W.nsIn K mainGlobals "on_lane" = some (some (.ref f1))) (l1 : K.lookup f1 = some ⟨oc1, od1, .func (PySem.W.fnOf "on_lane" "on_lane" (defArgs s_on_lane) (defBody s_on_lane) (defScope s_on_lane) .none kV1 dc1 pm1 an1 cd1 ct1), sl1⟩) (c1 : PySem.W.codeIn K cd1 "on_lane" = true) (k1 : PySem.W.keepIn K (.ref f1) = true)
    (a2 : PySem.W.nsIn K mainGlobals "is_whole" = some (some (.ref f2))) (l2 : K.lookup f2 = some ⟨oc2, od2, .func (PySem.W.fnOf "is_whole" "is_whole" (defArgs s_is_whole) (defBody s_is_whole) (defScope s_is_whole) .none kV2 dc2 pm2 an2 cd2 ct2), sl2⟩) (c2 : PySem.W.codeIn K cd2 "is_whole" = true) (k2 : PySem.W.keepIn K (.ref f2) = true)
    (a3 : PySem.W.nsIn K mainGlobals "begun" = some (some (.ref f3))) (l3 : K.lookup f3 = some ⟨oc3, od3, .func (PySem.W.fnOf "begun" "begun" (defArgs s_begun) (defBody s_begun) (defScope s_begun) .none kV3 dc3 pm3 an3 cd3 ct3), sl3⟩) (c3 : PySem.W.codeIn K cd3 "begun" = true) (k3 : PySem.W.keepIn K (.ref f3) = true)
    (a4 : PySem.W.nsIn K mainGlobals "is_put" = some (some (.ref f4))) (l4 : K.lookup f4 = some ⟨oc4, od4, .func (PySem.W.fnOf "is_put" "is_put" (defArgs s_is_put) (defBody s_is_put) (defScope s_is_put) .none kV4 dc4 pm4 an4 cd4 ct4), sl4⟩) (c4 : PySem.W.codeIn K cd4 "is_put" = true) (k4 : PySem.W.keepIn K (.ref f4) = true)
    (a5 : PySem.W.nsIn K mainGlobals "is_deed" = some (some (.ref f5))) (l5 : K.lookup f5 = some ⟨oc5, od5, .func (PySem.W.fnOf "is_deed" "is_deed" (defArgs s_is_deed) (defBody s_is_deed) (defScope s_is_deed) .none kV5 dc5 pm5 an5 cd5 ct5), sl5⟩) (c5 : PySem.W.codeIn K cd5 "is_deed" = true) (k5 : PySem.W.keepIn K (.ref f5) = true)
    (a6 : PySem.W.nsIn K mainGlobals "fork_behind" = some (some (.ref f6))) (l6 : K.lookup f6 = some ⟨oc6, od6, .func (PySem.W.fnOf "fork_behind" "fork_behind" (defArgs s_fork_behind) (defBody s_fork_behind) (defScope s_fork_behind) .none kV6 dc6 pm6 an6 cd6 ct6), sl6⟩) (c6 : PySem.W.codeIn K cd6 "fork_behind" = true) (k6 : PySem.W.keepIn K (.ref f6) = true)
    (a7 : PySem.W.nsIn K mainGlobals "group_of" = some (some (.ref f7))) (l7 : K.lookup f7 = some ⟨oc7, od7, .func (PySem.W.fnOf "group_of" "group_of" (defArgs s_group_of) (defBody s_group_of) (defScope s_group_of) .none kV7 dc7 pm7 an7 cd7 ct7), sl7⟩) (c7 : PySem.W.codeIn K cd7 "group_of" = true) (k7 : PySem.W.keepIn K (.ref f7) = true)
    (a8 : PySem.W.nsIn K mainGlobals "come_out" = some (some (.ref f8))) (l8 : K.lookup f8 = some ⟨oc8, od8, .func (PySem.W.fnOf "come_out" "come_out" (defArgs s_come_out) (defBody s_come_out) (defScope s_come_out) .none kV8 dc8 pm8 an8 cd8 ct8), sl8⟩) (c8 : PySem.W.codeIn K cd8 "come_out" = true) (k8 : PySem.W.keepIn K (.ref f8) = true)
    (a9 : PySem.W.nsIn K mainGlobals "step_on" = some (some (.ref f9))) (l9 : K.lookup f9 = some ⟨oc9, od9, .func (PySem.W.fnOf "step_on" "step_on" (defArgs s_step_on) (defBody s_step_on) (defScope s_step_on) .none kV9 dc9 pm9 an9 cd9 ct9), sl9⟩) (c9 : PySem.W.codeIn K cd9 "step_on" = true) (k9 : PySem.W.keepIn K (.ref f9) = true)
    (a10 : PySem.W.nsIn K mainGlobals "joined_groups" = some (some (.ref f10))) (l10 : K.lookup f10 = some ⟨oc10, od10, .func (PySem.W.fnOf "joined_groups" "joined_groups" (defArgs s_joined_groups) (defBody s_joined_groups) (defScope s_joined_groups) .none kV10 dc10 pm10 an10 cd10 ct10), sl10⟩) (c10 : PySem.W.codeIn K cd10 "joined_groups" = true) (k10 : PySem.W.keepIn K (.ref f10) = true)
    (l11 : K.lookup f11 = some ⟨oc11, od11, .func (PySem.W.fnOf "__init__" "NoDeed.__init__" (defArgs s_NoDeed__init) (defBody s_NoDeed__init) (defScope s_NoDeed__init) .none kV11 dc11 pm11 an11 cd11 ct11), sl11⟩) (c11 : PySem.W.codeIn K cd11 "NoDeed.__init__" = true) (k11 : PySem.W.keepIn K (.ref f11) = true)
    (l12 : K.lookup f12 = some ⟨oc12, od12, .func (PySem.W.fnOf "__init__" "NoGroup.__init__" (defArgs s_NoGroup__init) (defBody s_NoGroup__init) (defScope s_NoGroup__init) .none kV12 dc12 pm12 an12 cd12 ct12), sl12⟩) (c12 : PySem.W.codeIn K cd12 "NoGroup.__init__" = true) (k12 : PySem.W.keepIn K (.ref f12) = true)
    (a13 : PySem.W.nsIn K mainGlobals "done_at" = some (some (.ref f13))) (l13 : K.lookup f13 = some ⟨oc13, od13, .func (PySem.W.fnOf "done_at" "done_at" (defArgs s_done_at) (defBody s_done_at) (defScope s_done_at) .none kV13 dc13 pm13 an13 cd13 ct13), sl13⟩) (c13 : PySem.W.codeIn K cd13 "done_at" = true) (k13 : PySem.W.keepIn K (.ref f13) = true)
    (a14 : PySem.W.nsIn K mainGlobals "done" = some (some (.ref f14))) (l14 : K.lookup f14 = some ⟨oc14, od14, .func (PySem.W.fnOf "done" "done" (defArgs s_done) (defBody s_done) (defScope s_done) .none kV14 dc14 pm14 an14 cd14 ct14), sl14⟩) (c14 : PySem.W.codeIn K cd14 "done" = true) (k14 : PySem.W.keepIn K (.ref f14) = true)
    (a15 : PySem.W.nsIn K mainGlobals "_law_cell_at" = some (some (.ref f15))) (l15 : K.lookup f15 = some ⟨oc15, od15, .func (PySem.W.fnOf "_law_cell_at" "_law_cell_at" (defArgs s__law_cell_at) (defBody s__law_cell_at) (defScope s__law_cell_at) .none kV15 dc15 pm15 an15 cd15 ct15), sl15⟩) (c15 : PySem.W.codeIn K cd15 "_law_cell_at" = true) (k15 : PySem.W.keepIn K (.ref f15) = true)
    (a16 : PySem.W.nsIn K mainGlobals "_law_left" = some (some (.ref f16))) (l16 : K.lookup f16 = some ⟨oc16, od16, .func (PySem.W.fnOf "_law_left" "_law_left" (defArgs s__law_left) (defBody s__law_left) (defScope s__law_left) .none kV16 dc16 pm16 an16 cd16 ct16), sl16⟩) (c16 : PySem.W.codeIn K cd16 "_law_left" = true) (k16 : PySem.W.keepIn K (.ref f16) = true)
    (a17 : PySem.W.nsIn K mainGlobals "_law_pick" = some (some (.ref f17))) (l17 : K.lookup f17 = some ⟨oc17, od17, .func (PySem.W.fnOf "_law_pick" "_law_pick" (defArgs s__law_pick) (defBody s__law_pick) (defScope s__law_pick) .none kV17 dc17 pm17 an17 cd17 ct17), sl17⟩) (c17 : PySem.W.codeIn K cd17 "_law_pick" = true) (k17 : PySem.W.keepIn K (.ref f17) = true)
    (a18 : PySem.W.nsIn K mainGlobals "_law_of" = some (some (.ref f18))) (l18 : K.lookup f18 = some ⟨oc18, od18, .func (PySem.W.fnOf "_law_of" "_law_of" (defArgs s__law_of) (defBody s__law_of) (defScope s__law_of) .none kV18 dc18 pm18 an18 cd18 ct18), sl18⟩) (c18 : PySem.W.codeIn K cd18 "_law_of" = true) (k18 : PySem.W.keepIn K (.ref f18) = true)
    (a19 : PySem.W.nsIn K mainGlobals "_law_placed" = some (some (.ref f19))) (l19 : K.lookup f19 = some ⟨oc19, od19, .func (PySem.W.fnOf "_law_placed" "_law_placed" (defArgs s__law_placed) (defBody s__law_placed) (defScope s__law_placed) .none kV19 dc19 pm19 an19 cd19 ct19), sl19⟩) (c19 : PySem.W.codeIn K cd19 "_law_placed" = true) (k19 : PySem.W.keepIn K (.ref f19) = true)
    (a20 : PySem.W.nsIn K mainGlobals "_law_net" = some (some (.ref f20))) (l20 : K.lookup f20 = some ⟨oc20, od20, .func (PySem.W.fnOf "_law_net" "_law_net" (defArgs s__law_net) (defBody s__law_net) (defScope s__law_net) .none kV20 dc20 pm20 an20 cd20 ct20), sl20⟩) (c20 : PySem.W.codeIn K cd20 "_law_net" = true) (k20 : PySem.W.keepIn K (.ref f20) = true)
    (a21 : PySem.W.nsIn K mainGlobals "_law_many" = some (some (.ref f21))) (l21 : K.lookup f21 = some ⟨oc21, od21, .func (PySem.W.fnOf "_law_many" "_law_many" (defArgs s__law_many) (defBody s__law_many) (defScope s__law_many) .none kV21 dc21 pm21 an21 cd21 ct21), sl21⟩) (c21 : PySem.W.codeIn K cd21 "_law_many" = true) (k21 : PySem.W.keepIn K (.ref f21) = true)
    (a22 : PySem.W.nsIn K mainGlobals "_law_joined" = some (some (.ref f22))) (l22 : K.lookup f22 = some ⟨oc22, od22, .func (PySem.W.fnOf "_law_joined" "_law_joined" (defArgs s__law_joined) (defBody s__law_joined) (defScope s__law_joined) .none kV22 dc22 pm22 an22 cd22 ct22), sl22⟩) (c22 : PySem.W.codeIn K cd22 "_law_joined" = true) (k22 : PySem.W.keepIn K (.ref f22) = true)
    (a23 : PySem.W.nsIn K mainGlobals "_law_due" = some (some (.ref f23))) (l23 : K.lookup f23 = some ⟨oc23, od23, .func (PySem.W.fnOf "_law_due" "_law_due" (defArgs s__law_due) (defBody s__law_due) (defScope s__law_due) .none kV23 dc23 pm23 an23 cd23 ct23), sl23⟩) (c23 : PySem.W.codeIn K cd23 "_law_due" = true) (k23 : PySem.W.keepIn K (.ref f23) = true)
    (a24 : PySem.W.nsIn K mainGlobals "law" = some (some (.ref f24))) (l24 : K.lookup f24 = some ⟨oc24, od24, .func (PySem.W.fnOf "law" "law" (defArgs s_law) (defBody s_law) (defScope s_law) .none kV24 dc24 pm24 an24 cd24 ct24), sl24⟩) (c24 : PySem.W.codeIn K cd24 "law" = true) (k24 : PySem.W.keepIn K (.ref f24) = true)
    (z_abs : PySem.W.nsIn K mainGlobals "abs" = some none)
    (z_bool : PySem.W.nsIn K mainGlobals "bool" = some none)
    (z_enumerate : PySem.W.nsIn K mainGlobals "enumerate" = some none)
    (z_int : PySem.W.nsIn K mainGlobals "int" = some none)
    (z_isinstance : PySem.W.nsIn K mainGlobals "isinstance" = some none)
    (z_len : PySem.W.nsIn K mainGlobals "len" = some none)
    (z_list : PySem.W.nsIn K mainGlobals "list" = some none)
    (z_max : PySem.W.nsIn K mainGlobals "max" = some none)
    (z_min : PySem.W.nsIn K mainGlobals "min" = some none)
    (z_range : PySem.W.nsIn K mainGlobals "range" = some none)
    (z_str : PySem.W.nsIn K mainGlobals "str" = some none)
    (z_tuple : PySem.W.nsIn K mainGlobals "tuple" = some none)
    {t_MOST_MANY : Tok} (m_MOST_MANY : PySem.W.nsIn K mainGlobals "MOST_MANY" = some (some (.int 1000000000000000000000000000000 t_MOST_MANY)))
    (k_dig : PySem.W.nsIn K cStatics "sys.int_max_str_digits" = some none)
    : ∃ fd : FuncData, (∀ (s : Shared) (v : Value), BindsTo s fd ⟨[v], []⟩ [("_law_script", v)]) ∧ ∀ base : Heap, K.In base → base.Ns mainGlobals mg → FnOk l.prog w K mg base CX0 (n + 8) fa fd ["_law_script"] (spF K 1 (f_law n)) := by
  have e := hfa.symm.trans (PySem.W.mg_of X G a24)
  have e2 : f24 = fa := by cases e; rfl
  subst e2
  have F1 := fun_mk (st := s_on_lane) l1 c1 k1
  have b1 := F1.binds (ps := ["net", "lane"]) fun _ _ _ _ _ _ us hl => match us, hl with | [_, _], _ => rfl
  have F2 := fun_mk (st := s_is_whole) l2 c2 k2
  have b2 := F2.binds (ps := ["thing", "least"]) fun _ _ _ _ _ _ us hl => match us, hl with | [_, _], _ => rfl
  have F3 := fun_mk (st := s_begun) l3 c3 k3
  have b3 := F3.binds (ps := ["net"]) fun _ _ _ _ _ _ us hl => match us, hl with | [_], _ => rfl
  have F4 := fun_mk (st := s_is_put) l4 c4 k4
  have b4 := F4.binds (ps := ["net", "thing"]) fun _ _ _ _ _ _ us hl => match us, hl with | [_, _], _ => rfl
  have F5 := fun_mk (st := s_is_deed) l5 c5 k5
  have b5 := F5.binds (ps := ["net", "thing"]) fun _ _ _ _ _ _ us hl => match us, hl with | [_, _], _ => rfl
  have F6 := fun_mk (st := s_fork_behind) l6 c6 k6
  have b6 := F6.binds (ps := ["net", "lane", "number"]) fun _ _ _ _ _ _ us hl => match us, hl with | [_, _, _], _ => rfl
  have F7 := fun_mk (st := s_group_of) l7 c7 k7
  have b7 := F7.binds (ps := ["net", "many", "lane", "number"]) fun _ _ _ _ _ _ us hl => match us, hl with | [_, _, _, _], _ => rfl
  have F8 := fun_mk (st := s_come_out) l8 c8 k8
  have b8 := F8.binds (ps := ["net", "scene", "k"]) fun _ _ _ _ _ _ us hl => match us, hl with | [_, _, _], _ => rfl
  have F9 := fun_mk (st := s_step_on) l9 c9 k9
  have b9 := F9.binds (ps := ["net", "scene", "k"]) fun _ _ _ _ _ _ us hl => match us, hl with | [_, _, _], _ => rfl
  have F10 := fun_mk (st := s_joined_groups) l10 c10 k10
  have b10 := F10.binds (ps := ["scene", "j", "k"]) fun _ _ _ _ _ _ us hl => match us, hl with | [_, _, _], _ => rfl
  have F11 := fun_mk (st := s_NoDeed__init) l11 c11 k11
  have b11 := F11.binds (ps := ["self", "place"]) fun _ _ _ _ _ _ us hl => match us, hl with | [_, _], _ => rfl
  have F12 := fun_mk (st := s_NoGroup__init) l12 c12 k12
  have b12 := F12.binds (ps := ["self", "place"]) fun _ _ _ _ _ _ us hl => match us, hl with | [_, _], _ => rfl
  have F13 := fun_mk (st := s_done_at) l13 c13 k13
  have b13 := F13.binds (ps := ["net", "scene", "deed", "place"]) fun _ _ _ _ _ _ us hl => match us, hl with | [_, _, _, _], _ => rfl
  have F14 := fun_mk (st := s_done) l14 c14 k14
  have b14 := F14.binds (ps := ["net", "scene", "deed"]) fun _ _ _ _ _ _ us hl => match us, hl with | [_, _, _], _ => rfl
  have F15 := fun_mk (st := s__law_cell_at) l15 c15 k15
  have b15 := F15.binds (ps := ["_law_script", "_law_k"]) fun _ _ _ _ _ _ us hl => match us, hl with | [_, _], _ => rfl
  have F16 := fun_mk (st := s__law_left) l16 c16 k16
  have b16 := F16.binds (ps := ["_law_script", "_law_k"]) fun _ _ _ _ _ _ us hl => match us, hl with | [_, _], _ => rfl
  have F17 := fun_mk (st := s__law_pick) l17 c17 k17
  have b17 := F17.binds (ps := ["_law_left_here", "_law_many_here"]) fun _ _ _ _ _ _ us hl => match us, hl with | [_, _], _ => rfl
  have F18 := fun_mk (st := s__law_of) l18 c18 k18
  have b18 := F18.binds (ps := ["_law_left_here", "_law_some"]) fun _ _ _ _ _ _ us hl => match us, hl with | [_, _], _ => rfl
  have F19 := fun_mk (st := s__law_placed) l19 c19 k19
  have b19 := F19.binds (ps := ["_law_left_here", "_law_some"]) fun _ _ _ _ _ _ us hl => match us, hl with | [_, _], _ => rfl
  have F20 := fun_mk (st := s__law_net) l20 c20 k20
  have b20 := F20.binds (ps := ["_law_left_here", "_law_lanes", "_law_most"]) fun _ _ _ _ _ _ us hl => match us, hl with | [_, _, _], _ => rfl
  have F21 := fun_mk (st := s__law_many) l21 c21 k21
  have b21 := F21.binds (ps := ["_law_left_here"]) fun _ _ _ _ _ _ us hl => match us, hl with | [_], _ => rfl
  have F22 := fun_mk (st := s__law_joined) l22 c22 k22
  have b22 := F22.binds (ps := ["_law_net_here", "_law_scene", "_law_j", "_law_k"]) fun _ _ _ _ _ _ us hl => match us, hl with | [_, _, _, _], _ => rfl
  have F23 := fun_mk (st := s__law_due) l23 c23 k23
  have b23 := F23.binds (ps := ["_law_scene", "_law_j", "_law_k"]) fun _ _ _ _ _ _ us hl => match us, hl with | [_, _, _], _ => rfl
  have F24 := fun_mk (st := s_law) l24 c24 k24
  have b24 := F24.binds (ps := ["_law_script"]) fun _ _ _ _ _ _ us hl => match us, hl with | [_], _ => rfl
  let T : Txt K mg := { a_on_lane := f1, d_on_lane := _, F_on_lane := F1, g_on_lane := PySem.W.mg_of X G a1, b_on_lane := b1, a_is_whole := f2, d_is_whole := _, F_is_whole := F2, g_is_whole := PySem.W.mg_of X G a2, b_is_whole := b2, a_begun := f3, d_begun := _, F_begun := F3, g_begun := PySem.W.mg_of X G a3, b_begun := b3, a_is_put := f4, d_is_put := _, F_is_put := F4, g_is_put := PySem.W.mg_of X G a4, b_is_put := b4, a_is_deed := f5, d_is_deed := _, F_is_deed := F5, g_is_deed := PySem.W.mg_of X G a5, b_is_deed := b5, a_fork_behind := f6, d_fork_behind := _, F_fork_behind := F6, g_fork_behind := PySem.W.mg_of X G a6, b_fork_behind := b6, a_group_of := f7, d_group_of := _, F_group_of := F7, g_group_of := PySem.W.mg_of X G a7, b_group_of := b7, a_come_out := f8, d_come_out := _, F_come_out := F8, g_come_out := PySem.W.mg_of X G a8, b_come_out := b8, a_step_on := f9, d_step_on := _, F_step_on := F9, g_step_on := PySem.W.mg_of X G a9, b_step_on := b9, a_joined_groups := f10, d_joined_groups := _, F_joined_groups := F10, g_joined_groups := PySem.W.mg_of X G a10, b_joined_groups := b10, a_NoDeed__init := f11, d_NoDeed__init := _, F_NoDeed__init := F11, b_NoDeed__init := b11, a_NoGroup__init := f12, d_NoGroup__init := _, F_NoGroup__init := F12, b_NoGroup__init := b12, a_done_at := f13, d_done_at := _, F_done_at := F13, g_done_at := PySem.W.mg_of X G a13, b_done_at := b13, a_done := f14, d_done := _, F_done := F14, g_done := PySem.W.mg_of X G a14, b_done := b14, a__law_cell_at := f15, d__law_cell_at := _, F__law_cell_at := F15, g__law_cell_at := PySem.W.mg_of X G a15, b__law_cell_at := b15, a__law_left := f16, d__law_left := _, F__law_left := F16, g__law_left := PySem.W.mg_of X G a16, b__law_left := b16, a__law_pick := f17, d__law_pick := _, F__law_pick := F17, g__law_pick := PySem.W.mg_of X G a17, b__law_pick := b17, a__law_of := f18, d__law_of := _, F__law_of := F18, g__law_of := PySem.W.mg_of X G a18, b__law_of := b18, a__law_placed := f19, d__law_placed := _, F__law_placed := F19, g__law_placed := PySem.W.mg_of X G a19, b__law_placed := b19, a__law_net := f20, d__law_net := _, F__law_net := F20, g__law_net := PySem.W.mg_of X G a20, b__law_net := b20, a__law_many := f21, d__law_many := _, F__law_many := F21, g__law_many := PySem.W.mg_of X G a21, b__law_many := b21, a__law_joined := f22, d__law_joined := _, F__law_joined := F22, g__law_joined := PySem.W.mg_of X G a22, b__law_joined := b22, a__law_due := f23, d__law_due := _, F__law_due := F23, g__law_due := PySem.W.mg_of X G a23, b__law_due := b23, a_law := f24, d_law := _, F_law := F24, g_law := PySem.W.mg_of X G a24, b_law := b24, xA_LaneError := xA_LaneError, xC_LaneError := xa_LaneError, xg_LaneError := PySem.W.mg_of X G xa_LaneError, xx_LaneError := xx_LaneError, xk_LaneError := xk_LaneError, xb_LaneError := xb_LaneError, xt_LaneError := xt_LaneError, xi_LaneError := xi_LaneError, xA_NoDeed := xA_NoDeed, xC_NoDeed := xa_NoDeed, xg_NoDeed := PySem.W.mg_of X G xa_NoDeed, xk_NoDeed := xk_NoDeed, xb_NoDeed := xb_NoDeed, xt_NoDeed := xt_NoDeed, xi_NoDeed := xi_NoDeed, xA_NoGroup := xA_NoGroup, xC_NoGroup := xa_NoGroup, xg_NoGroup := PySem.W.mg_of X G xa_NoGroup, xk_NoGroup := xk_NoGroup, xb_NoGroup := xb_NoGroup, xt_NoGroup := xt_NoGroup, xi_NoGroup := xi_NoGroup, xv_LaneError := initB_ok xv_LaneError, xo_NoDeed := fldB_ok xo_NoDeed, xt2_NoDeed := caughtB_ok xt2_NoDeed, xo_NoGroup := fldB_ok xo_NoGroup, xt2_NoGroup := caughtB_ok xt2_NoGroup, xk2_NoDeed_NoDeed := xk2_NoDeed_NoDeed, xk2_NoDeed_NoGroup := xk2_NoDeed_NoGroup, xk2_NoGroup_NoDeed := xk2_NoGroup_NoDeed, xk2_NoGroup_NoGroup := xk2_NoGroup_NoGroup, xs_LaneError_LaneError := xs_LaneError_LaneError, xs_NoDeed_LaneError := xs_NoDeed_LaneError, xs_NoDeed_NoDeed := xs_NoDeed_NoDeed, xs_NoGroup_LaneError := xs_NoGroup_LaneError, xs_NoGroup_NoGroup := xs_NoGroup_NoGroup, z_abs := PySem.W.mg_none_of X G z_abs, z_bool := PySem.W.mg_none_of X G z_bool, z_enumerate := PySem.W.mg_none_of X G z_enumerate, z_int := PySem.W.mg_none_of X G z_int, z_isinstance := PySem.W.mg_none_of X G z_isinstance, z_len := PySem.W.mg_none_of X G z_len, z_list := PySem.W.mg_none_of X G z_list, z_max := PySem.W.mg_none_of X G z_max, z_min := PySem.W.mg_none_of X G z_min, z_range := PySem.W.mg_none_of X G z_range, z_str := PySem.W.mg_none_of X G z_str, z_tuple := PySem.W.mg_none_of X G z_tuple, t_MOST_MANY := t_MOST_MANY, m_MOST_MANY := PySem.W.mg_of X G m_MOST_MANY, k_dig := k_dig }
  exact ⟨PySem.W.fnOf "law" "law" (defArgs s_law) (defBody s_law) (defScope s_law) .none kV24 dc24 pm24 an24 cd24 ct24, fun s v => .of_eq rfl, fun base _ _ => (ok_law n T)⟩
end Sim

open PySem PySem.W PyProof.Rows in
set_option maxRecDepth 100000 in
set_option maxHeartbeats 0 in
theorem PySem.Challenge.cw_stairlanes_k17_groups_that_come_together_holds : PySem.Challenge.rw_stairlanes_k17_groups_that_come_together.Holds := by
  w_on; o_law; k_head; (case hw => w_witness2)
  k_fill
  refine L2.walk_ofK (l := PySem.Challenge.rw_stairlanes_k17_groups_that_come_together) (n := 63) (k := (64 + 8)) (x := "_law_script") (CX := L2.CX0) (sp := fun K => Sim.spF K 1 (Sim.f_law 64)) rfl (by decide) rfl ⟨rfl, by decide, by decide⟩ (fun w h Y => PySem.W.kIn_of Y) ?F (fun K H a ns h1 h2 h3 => Sim.spF_law Sim.law_holds K H a ns h1 h2 h3) (fun _ _ _ _ h => h)
  case F =>
    intro w mg fa h KX G hmg
    refine' Sim.all_mk 64 KX G hmg ?xa_LaneError ?xx_LaneError ?xk_LaneError ?xb_LaneError ?xt_LaneError ?xi_LaneError ?xa_NoDeed ?xk_NoDeed ?xb_NoDeed ?xt_NoDeed ?xi_NoDeed ?xa_NoGroup ?xk_NoGroup ?xb_NoGroup ?xt_NoGroup ?xi_NoGroup ?xs_LaneError_LaneError ?xs_NoDeed_LaneError ?xs_NoDeed_NoDeed ?xs_NoGroup_LaneError ?xs_NoGroup_NoGroup ?xv_LaneError ?xI_NoDeed ?xo_NoDeed ?xt2_NoDeed ?xI_NoGroup ?xo_NoGroup ?xt2_NoGroup ?xk2_NoDeed_NoDeed ?xk2_NoDeed_NoGroup ?xk2_NoGroup_NoDeed ?xk2_NoGroup_NoGroup ?a1 ?l1 ?c1 ?k1 ?a2 ?l2 ?c2 ?k2 ?a3 ?l3 ?c3 ?k3 ?a4 ?l4 ?c4 ?k4 ?a5 ?l5 ?c5 ?k5 ?a6 ?l6 ?c6 ?k6 ?a7 ?l7 ?c7 ?k7 ?a8 ?l8 ?c8 ?k8 ?a9 ?l9 ?c9 ?k9 ?a10 ?l10 ?c10 ?k10 ?l11 ?c11 ?k11 ?l12 ?c12 ?k12 ?a13 ?l13 ?c13 ?k13 ?a14 ?l14 ?c14 ?k14 ?a15 ?l15 ?c15 ?k15 ?a16 ?l16 ?c16 ?k16 ?a17 ?l17 ?c17 ?k17 ?a18 ?l18 ?c18 ?k18 ?a19 ?l19 ?c19 ?k19 ?a20 ?l20 ?c20 ?k20 ?a21 ?l21 ?c21 ?k21 ?a22 ?l22 ?c22 ?k22 ?a23 ?l23 ?c23 ?k23 ?a24 ?l24 ?c24 ?k24 ?z_abs ?z_bool ?z_enumerate ?z_int ?z_isinstance ?z_len ?z_list ?z_max ?z_min ?z_range ?z_str ?z_tuple ?m_MOST_MANY ?k_dig
    (case xa_LaneError => k_is); (case xx_LaneError => first | k_exc | k_is | rfl | decide +kernel); (case xk_LaneError => k_is); (case xb_LaneError => k_is); (case xt_LaneError => k_is); (case xi_LaneError => first | k_is | rfl | decide +kernel); (case xa_NoDeed => k_is); (case xk_NoDeed => k_is); (case xb_NoDeed => k_is); (case xt_NoDeed => k_is); (case xi_NoDeed => first | k_is | rfl | decide +kernel); (case xa_NoGroup => k_is); (case xk_NoGroup => k_is); (case xb_NoGroup => k_is); (case xt_NoGroup => k_is); (case xi_NoGroup => first | k_is | rfl | decide +kernel); (case xs_LaneError_LaneError => first | k_is | rfl | decide +kernel); (case xs_NoDeed_LaneError => first | k_is | rfl | decide +kernel); (case xs_NoDeed_NoDeed => first | k_is | rfl | decide +kernel); (case xs_NoGroup_LaneError => first | k_is | rfl | decide +kernel); (case xs_NoGroup_NoGroup => first | k_is | rfl | decide +kernel); (case xv_LaneError => first | k_is | rfl | decide +kernel); (case xI_NoDeed => k_is); (case xo_NoDeed => first | k_is | rfl | decide +kernel); (case xt2_NoDeed => first | k_is | rfl | decide +kernel); (case xI_NoGroup => k_is); (case xo_NoGroup => first | k_is | rfl | decide +kernel); (case xt2_NoGroup => first | k_is | rfl | decide +kernel); (case xk2_NoDeed_NoDeed => first | k_is | rfl | decide +kernel); (case xk2_NoDeed_NoGroup => first | k_is | rfl | decide +kernel); (case xk2_NoGroup_NoDeed => first | k_is | rfl | decide +kernel); (case xk2_NoGroup_NoGroup => first | k_is | rfl | decide +kernel); (case a1 => k_is); (case l1 => k_is); (case c1 => k_is); (case k1 => k_is); (case a2 => k_is); (case l2 => k_is); (case c2 => k_is); (case k2 => k_is); (case a3 => k_is); (case l3 => k_is); (case c3 => k_is); (case k3 => k_is); (case a4 => k_is); (case l4 => k_is); (case c4 => k_is); (case k4 => k_is); (case a5 => k_is); (case l5 => k_is); (case c5 => k_is); (case k5 => k_is); (case a6 => k_is); (case l6 => k_is); (case c6 => k_is); (case k6 => k_is); (case a7 => k_is); (case l7 => k_is); (case c7 => k_is); (case k7 => k_is); (case a8 => k_is); (case l8 => k_is); (case c8 => k_is); (case k8 => k_is); (case a9 => k_is); (case l9 => k_is); (case c9 => k_is); (case k9 => k_is); (case a10 => k_is); (case l10 => k_is); (case c10 => k_is); (case k10 => k_is); (case l11 => k_is); (case c11 => k_is); (case k11 => k_is); (case l12 => k_is); (case c12 => k_is); (case k12 => k_is); (case a13 => k_is); (case l13 => k_is); (case c13 => k_is); (case k13 => k_is); (case a14 => k_is); (case l14 => k_is); (case c14 => k_is); (case k14 => k_is); (case a15 => k_is); (case l15 => k_is); (case c15 => k_is); (case k15 => k_is); (case a16 => k_is); (case l16 => k_is); (case c16 => k_is); (case k16 => k_is); (case a17 => k_is); (case l17 => k_is); (case c17 => k_is); (case k17 => k_is); (case a18 => k_is); (case l18 => k_is); (case c18 => k_is); (case k18 => k_is); (case a19 => k_is); (case l19 => k_is); (case c19 => k_is); (case k19 => k_is); (case a20 => k_is); (case l20 => k_is); (case c20 => k_is); (case k20 => k_is); (case a21 => k_is); (case l21 => k_is); (case c21 => k_is); (case k21 => k_is); (case a22 => k_is); (case l22 => k_is); (case c22 => k_is); (case k22 => k_is); (case a23 => k_is); (case l23 => k_is); (case c23 => k_is); (case k23 => k_is); (case a24 => k_is); (case l24 => k_is); (case c24 => k_is); (case k24 => k_is); (case z_abs => k_is); (case z_bool => k_is); (case z_enumerate => k_is); (case z_int => k_is); (case z_isinstance => k_is); (case z_len => k_is); (case z_list => k_is); (case z_max => k_is); (case z_min => k_is); (case z_range => k_is); (case z_str => k_is); (case z_tuple => k_is); (case m_MOST_MANY => k_is); (case k_dig => k_is)
