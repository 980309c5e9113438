import PyProof.Rows.All
import Wide.All
import OpenK.AllK
import Wide.FinOn
import HandS.ForMost
import HandS.TupAny
import HandS.TupMul
import HandS.Wide
import HandS.WideBits
import KE.KDictKeyed
import KE.KeyNested
import HandS.Lambda
import HandS.TupLe
import HandS.IsInst
import HandS.Deep
import HandS.SortInts
import HandS.NoneIn
import HandS.Walk
import HandS.Zip
import KE.GoesEnum
import KE.KTupSum
import PyProof.MinMaxWalk
import KE.KEqSeq
import HandS.Conv
import HandS.Style
import PyProof.Rows.SortShell
import PyProof.SeqIndex
import HandS.More
import PyProof.EqAt
import KE.KIntText
import KE.GoesZip
import KE.KDictZip
import KE.LtSeq
import KE.KSortTup
import HandS.SortRule
import HandS.ExcValue
import PyProof.ListNew
import HandS.SetFor
import PyProof.ReprLen
import HandS.Iter
import HandS.Dict
import KE.DataMinMax
import KE.KDictWalk
import KE.KDictPairs
import PyProof.Rows.SeqRoads
import PyProof.Rows.SeqItemCall
import KE.KDictSum
import KE.KDictItemsList
import PyProof.DictItems
import KE.KDictCopyH
import KE.KEqDict
import KE.KDictDisplayH
import KE.DataCmp
import HandS.WordsDict
import PyProof.DictUpdate
import HandS.RaiseMore
import PyProof.CallStr
import PyProof.FString2
import HandS.Flow
import KE.KNest
import HandS.EndTab
import HandS.Call
import PyProof.ReprRoads
import PyProof.AutoSeq1
import HandS.Spec
import HandS.ExcOwn
import HandS.TryOnly
import HandS.WordsExc
import PyProof.DictWalks
import HandS.Text
import HandS.Sort
import KE.BitLaws
import PySem.Challenge.RW_stairlanes_k73_nets_as_texts
set_option Elab.async false
set_option linter.all false
set_option maxRecDepth 100000
set_option autoImplicit false
set_option maxHeartbeats 4000000
set_option exponentiation.threshold 20000
namespace Sim
open PySem PySem.Spec L2
open AutoSeq1 (wpAny_loadPart')
def SqD (K : PySem.W.Frag) (H : Hp) (a : Addr) (xs : List V) : Prop :=
  (∃ o : Obj, H a = some (.frz o (.tup xs)) ∧ o.dict = none) ∨
    ∃ (o : Obj) (its : Array Value) (n : Nat), K.lookup a = some o ∧ o.cls = .type "tuple" ∧ o.dict = none ∧ o.data = .seq its n ∧ its.size ≤ sizeLine ∧ Vals xs its.toList
theorem SqD.sq {K : PySem.W.Frag} {H : Hp} {a : Addr} {xs : List V} (h : SqD K H a xs) : SqT K H a xs := by
  rcases h with ⟨o, h, _⟩ | ⟨o, its, n, h1, h2, _, h3, h4, h5⟩
  · exact .inl (.inr ⟨o, h⟩)
  · exact .inr ⟨o, its, n, h1, h2, h3, h4, h5⟩
theorem SqD.of {K : PySem.W.Frag} {H : Hp} {a : Addr} {o : Obj} {xs : List V} (h : H a = some (.frz o (.tup xs))) (n : o.dict = none) : SqD K H a xs := .inl ⟨o, h, n⟩
/-- a new tuple -/
def rNewT (xs : List V) (H : Hp) (Q : VK) : Prop := ∀ p o, H p = none → o.dict = none → Q (.ref p) (upd H p (.frz o (.tup xs)))
section
variable {X : Cx} {pins : List (Addr × Obj)} {σ : St} {H : Hp} {s : Shared} {xs : List V} {its : List Value} {Q : VK}
theorem lay_tup {t' : Nat} (I : Inv X pins σ H s) (r : Vals xs its) (z : xs.length ≤ sizeLine) (q : rNewT xs H Q) :
    EP X pins σ Q (.ref s.heap.objs.size) { s with heap := s.heap.push { cls := .type "tuple", data := .seq its.toArray }, toks := t' } := by
  have e : (s.heap.push { cls := .type "tuple", data := .seq its.toArray }).get? s.heap.objs.size = some { cls := .type "tuple", data := .seq its.toArray } := Heap.get?_push_size _ rfl
  refine ⟨.ref s.heap.objs.size, _, I.laid (t' := t') (o := .frz { cls := .type "tuple", data := .seq its.toArray } (.tup xs)) (fun b ob q => Heap.get?_push_of_some _ q) (Nat.le_refl _) ⟨e, z, its, r, ⟨_, e, rfl, _, rfl⟩⟩, rfl, q _ _ (I.hok.fresh (Nat.le_refl _)) rfl⟩
def tTupD (t : TA) : TE := fun σ H Q => t σ H fun xs H1 => xs.length ≤ sizeLine ∧ rNewT xs H1 Q
theorem pe_tupD {es : List Expr} {t : TA} {pos : Pos} {x1 : Nat} (h : PA X es t) : PE X (.Tuple es x1 pos) (tTupD t) := by
  refine ⟨fun pins s σ H Q I hq => ?_⟩
  exact wpAny_Tuple_spliced (thn (h.run pos pins s σ H _ I hq) fun us s1 ⟨xs, H1, I1, r, z, q⟩ => ⟨by rw [← r.length]; exact z, lay_tup (t' := s1.toks) I1 r z q⟩)
theorem call_tuple_ofD : CallR X (.type "tuple") (fun xs H Q => ∃ p ys, xs = [.ref p] ∧ ((SqL X.K H p ys ∧ rNewT ys H Q) ∨ (SqT X.K H p ys ∧ Q (.ref p) H))) := by
  intro pins s σ H xs us Q I r h
  obtain ⟨p, ys, rfl, h⟩ := h
  obtain ⟨u, rfl, rx⟩ := vals1 r
  cases rx
  rcases h with ⟨hq, q⟩ | ⟨hq, q⟩
  · obtain ⟨its, r', pl, hz⟩ := I.list hq
    have hlen := r'.length
    refine call_tuple_list pl.isList (fun h' kp => ?_) (by simp only [List.size_toArray] <;> omega)
    have I1 : Inv X pins σ H { s with heap := h' } := I.kept (t' := s.toks) kp
    exact lay_tup (t' := s.toks) I1 r' hz q
  · obtain ⟨its, r', pl, hz⟩ := I.tuple hq
    exact call_tuple_same pl ⟨.ref p, H, I, rfl, q⟩
def rSlD (K : PySem.W.Frag) : V → Option Int → Option Int → Hp → VK → Prop := fun x lo hi H Q => ∃ a xs, x = .ref a ∧ SqT K H a xs ∧
  (HT.sIx xs.length 0 lo = 0 ∧ HT.sIx xs.length xs.length hi = xs.length → Q (.ref a) H) ∧ (¬ (HT.sIx xs.length 0 lo = 0 ∧ HT.sIx xs.length xs.length hi = xs.length) → rNewT (cutV xs lo hi) H Q)
theorem sl_tupD : SlR X (rSlD X.K) := by
  intro pins s σ H x v vl vu lo hi sl Q I rx hs pl pu h
  obtain ⟨a, xs, rfl, hx, q1, q2⟩ := h
  cases rx
  obtain ⟨its, r, ht, hz⟩ := I.tuple hx
  have hlen : its.toArray.size = xs.length := by rw [List.size_toArray]; exact r.length.symm
  refine ⟨"tuple", _, PyProof.Rows.slot_tuple_getitem.lookup, ht.typeIs, ?_⟩
  by_cases hw : HT.sIx xs.length 0 lo = 0 ∧ HT.sIx xs.length xs.length hi = xs.length
  · exact getItem_tuple_whole ht hs pl pu (by rw [hlen]; exact hw) ⟨.ref a, H, I, rfl, q1 hw⟩
  · refine HT.getItem_tuple_cut ht hs pl pu (by rw [hlen]; exact hw) ?_ (by rw [hlen]; exact hz)
    rw [hlen]
    exact lay_tup (t' := s.toks) I ((r.drop (HT.sIx xs.length 0 lo)).take (HT.sIx xs.length xs.length hi - HT.sIx xs.length 0 lo)) (Nat.le_trans (cutV_length xs lo hi) hz) (q2 hw)
def rCatD (K : PySem.W.Frag) : R2 := fun x y H Q => ∃ a b xs ys, x = .ref a ∧ y = .ref b ∧ SqT K H a xs ∧ SqT K H b ys ∧ xs.length + ys.length ≤ sizeLine ∧
  (xs = [] → Q (.ref b) H) ∧ (xs ≠ [] → ys = [] → Q (.ref a) H) ∧ (xs ≠ [] → ys ≠ [] → rNewT (xs ++ ys) H Q)
theorem op_catD : OpR X (binaryOp .Add) (rCatD X.K) := by
  intro pins s σ H x y v u Q I rx ry h
  obtain ⟨a, b, xs, ys, rfl, rfl, ha, hb, hz, q0, q1, q2⟩ := h
  cases rx
  cases ry
  obtain ⟨its, r1, p1, _⟩ := I.tuple ha
  obtain ⟨its2, r2, p2, _⟩ := I.tuple hb
  by_cases hx : xs = []
  · subst hx
    cases r1
    exact cat_tup0 p1 p2 ⟨.ref b, H, I, rfl, q0 rfl⟩
  · refine HT.cat_tup p1 p2 (fun z => hx (r1.nil_iff.mp z)) (fun z => ⟨.ref a, H, I, rfl, q1 hx (r2.nil_iff.mp z)⟩) (fun z => ?_) (by rw [← r1.length, ← r2.length]; exact hz)
    exact lay_tup (t' := s.toks) I (r1.append r2) (by rw [List.length_append]; exact hz) (q2 hx fun w => z (r2.nil_iff.mpr w))
theorem tuple_mulS (l : Addr) (items : Array Value) (n : Nat) (dd : Option Addr) (sl : Array (Option Value)) (x : Int) (u : Tok) (c0 : (decide (x < -(2 ^ 63)) || decide (x ≥ 2 ^ 63)) = false) (c1 : (items.isEmpty || x == 1) = true) :
    Meets (Builtin.«tuple.__mul__» ⟨[.ref l, .int x u], []⟩) (fun _ R s => s.heap.get? l = some { cls := .type "tuple", dict := dd, data := .seq items n, slots := sl } ∧ R (.ok (.ret (Value.ref l))) s) :=
  .of_wp fun prog w A R s h => by
    obtain ⟨hp, g, d, tk, os⟩ := s
    obtain ⟨hl, h⟩ := h
    have f1 := AutoSeq1.idx_int
    wp_walk using wpAny_loadPart' hl
    repeat (first
      | (refine wpAny_ite_false (decide_eq_false (by rw [c0]; exact Bool.false_ne_true)) ?_; wp_walk using wpAny_loadPart' hl)
      | (refine wpAny_ite_true (decide_eq_true (by rw [c1])) ?_; wp_walk using wpAny_loadPart' hl))
    exact ⟨_, rfl, h⟩
theorem tuple_mul0 (l : Addr) (items : Array Value) (n : Nat) (dd : Option Addr) (sl : Array (Option Value)) (x : Int) (u : Tok) (c0 : (decide (x < -(2 ^ 63)) || decide (x ≥ 2 ^ 63)) = false) (c1 : (items.isEmpty || x == 1) = false) (c2 : (decide (x ≤ 0) || items.isEmpty) = true) :
    Meets (Builtin.«tuple.__mul__» ⟨[.ref l, .int x u], []⟩) (fun _ R s => s.heap.get? l = some { cls := .type "tuple", dict := dd, data := .seq items n, slots := sl } ∧
      R (.ok (.ret (Value.ref s.heap.objs.size))) { s with heap := s.heap.push { cls := Value.type "tuple", data := Data.seq #[] }, toks := s.toks }) :=
  .of_wp fun prog w A R s h => by
    obtain ⟨hp, g, d, tk, os⟩ := s
    obtain ⟨hl, h⟩ := h
    have f1 := AutoSeq1.idx_int
    wp_walk using wpAny_loadPart' hl
    repeat (first
      | (refine wpAny_ite_false (decide_eq_false (by rw [c0]; exact Bool.false_ne_true)) ?_; wp_walk using wpAny_loadPart' hl)
      | (refine wpAny_ite_false (decide_eq_false (by rw [c1]; exact Bool.false_ne_true)) ?_; wp_walk using wpAny_loadPart' hl)
      | (refine wpAny_ite_true (decide_eq_true (by rw [c2])) ?_; wp_walk using wpAny_loadPart' hl)
      | (refine wpAny_ite_false (decide_eq_false (by decide)) ?_; wp_walk using wpAny_loadPart' hl))
    exact ⟨_, rfl, h⟩
def rRepD (K : PySem.W.Frag) : R2 := fun x y H Q => ∃ l k xs, x = .ref l ∧ y = .int k ∧ SqT K H l xs ∧ -1000 ≤ k ∧ k ≤ 1000 ∧ xs.length ≤ 1000 ∧
  (xs = [] ∨ k = 1 → Q (.ref l) H) ∧ (xs ≠ [] → k ≠ 1 → rNewT (List.replicate k.toNat xs).flatten H Q)
theorem op_repD : OpR X (binaryOp .Mult) (rRepD X.K) := by
  intro pins s σ H x y v u Q I rx ry h
  obtain ⟨l, k, xs, rfl, rfl, hT, h1, h2, hz, q1, q2⟩ := h
  cases rx
  obtain ⟨t, rfl⟩ := ry
  obtain ⟨its, r, ⟨⟨cls, dd, data, sl⟩, ho, hc, n, hd⟩, hs⟩ := I.tuple hT
  simp only at hc hd
  subst hc hd
  have hle : its.length = xs.length := r.length.symm
  have hsz0 : its.toArray.size = xs.length := by rw [List.size_toArray, hle]
  have hm : ((its.toArray.size : Nat) : Int) * k ≤ 1000000 := by
    rw [hsz0]
    rcases Int.lt_or_le k 0 with hk | hk
    · have : ((xs.length : Nat) : Int) * k ≤ 0 := Int.mul_nonpos_of_nonneg_of_nonpos (by omega) (by omega)
      omega
    · have a1 : ((xs.length : Nat) : Int) * k ≤ 1000 * k := Int.mul_le_mul_of_nonneg_right (by omega) (by omega)
      omega
  have flen : (List.replicate k.toNat its).flatten.length ≤ 1000000 := by
    rw [PyProof.Rows.lm_len_rep_flat, hle]
    have a1 : k.toNat * xs.length ≤ 1000 * 1000 := Nat.mul_le_mul (by omega) hz
    omega
  have flen2 : (List.replicate k.toNat xs).flatten.length ≤ sizeLine := by
    rw [PyProof.Rows.lm_len_rep_flat, sizeLine_eq]
    have a1 : k.toNat * xs.length ≤ 1000 * 1000 := Nat.mul_le_mul (by omega) hz
    omega
  have c0 : (decide (k < -(2 ^ 63)) || decide (k ≥ 2 ^ 63)) = false := by
    rw [decide_eq_false (by omega), decide_eq_false (by omega)] <;> rfl
  have go : ∀ {Q' : Value → Shared → Prop}, wpAny (model X.prog X.w) (X.A) (call (.builtin "tuple.__mul__") [.ref l, .int k t]) Q' X.xe s → wpAny (model X.prog X.w) X.A (binaryOp .Mult (.ref l) (.int k t)) Q' X.xe s := fun {Q'} z =>
    wpAny_binaryOp_repeat_ref (T := "tuple") (U := "int") (by decide) ⟨_, ho, rfl⟩ (fun s' => typeIs_int s' k t) noFill_tuple_mul F.fills_int_mul F.slot_int_rmul repeat_tuple F.slot_int_index.lookup
      (call_meets F.slot_int_rmul (typeIs_int s k t) F.entry_int_rmul (F.args_int_rmul_2 _ _) (int_rmul_tuple k t l its.toArray n dd sl) ⟨ho, rfl, ⟨_, ho, rfl⟩, z⟩)
  refine go ?_
  cases c1 : (its.toArray.isEmpty || k == 1) with
  | true =>
    refine call_meets F.slot_tuple_mul ⟨_, ho, rfl⟩ F.entry_tuple_mul (F.args_tuple_mul_2 _ _) (tuple_mulS l its.toArray n dd sl k t c0 c1) ⟨ho, .ref l, H, I, rfl, q1 ?_⟩
    rw [Bool.or_eq_true] at c1
    rcases c1 with z | z
    · left
      have : its.length = 0 := by
        cases its with
        | nil => rfl
        | cons a b => simp at z
      exact List.eq_nil_of_length_eq_zero (by omega)
    · right
      exact eq_of_beq z
  | false =>
    have c1' := c1
    rw [Bool.or_eq_false_iff] at c1'
    have hne : xs ≠ [] := fun e => by
      subst e
      cases r
      simp at c1'
    have hk1 : k ≠ 1 := fun e => by rw [e] at c1'; simp at c1'
    cases c2 : (decide (k ≤ 0) || its.toArray.isEmpty) with
    | true =>
      refine call_meets F.slot_tuple_mul ⟨_, ho, rfl⟩ F.entry_tuple_mul (F.args_tuple_mul_2 _ _) (tuple_mul0 l its.toArray n dd sl k t c0 c1 c2) ⟨ho, ?_⟩
      rw [c1'.1, Bool.or_false] at c2
      have hk : k.toNat = 0 := by have := of_decide_eq_true c2; omega
      have e0 : (List.replicate k.toNat xs).flatten = [] := by rw [hk]; rfl
      have q3 := q2 hne hk1
      rw [e0] at q3
      exact lay_tup (t' := s.toks) I (its := []) .nil (Nat.zero_le _) q3
    | false =>
      have c4 : Builtin.Tuple.tupleTooMany (((its.toArray.size : Nat) : Int) * k) = false := by
        unfold Builtin.Tuple.tupleTooMany
        rw [sizeLine_eq]
        exact decide_eq_false (by omega)
      refine call_meets F.slot_tuple_mul ⟨_, ho, rfl⟩ F.entry_tuple_mul (F.args_tuple_mul_2 _ _) (tuple_mulW l its.toArray n dd sl k t c0 c1 c2 (by omega) c4 (by rw [size_rep, List.size_toArray, sizeLine_eq]; omega)) ⟨ho, ?_⟩
      rw [size_rep]
      exact lay_tup (t' := s.toks) I (r.rep k.toNat) flen2 (q2 hne hk1)
end
end Sim
namespace Sim
open PySem PySem.Spec L2
abbrev D := PyData
abbrev Sg := List (Option D)
/-- an outcome -/
inductive Res (α : Type) where
  | ok (a : α) (s : Sg)
  | exc (c : Str) (v : D) (s : Sg)
  | bad
def Res.bind {α β : Type} (m : Res α) (k : α → Sg → Res β) : Res β :=
  match m with
  | .ok a s => k a s
  | .exc c v s => .exc c v s
  | .bad => .bad
theorem bind_ok {α β : Type} (a : α) (s : Sg) (k : α → Sg → Res β) : (Res.ok a s).bind k = k a s := rfl
theorem bind_inv {α β : Type} {m : Res α} {k : α → Sg → Res β} {b : β} {s : Sg} (h : m.bind k = .ok b s) : ∃ a s1, m = .ok a s1 ∧ k a s1 = .ok b s := by
  cases m with
  | ok a s1 => exact ⟨a, s1, rfl, h⟩
  | exc c v s1 => cases h
  | bad => cases h
/-- an operand: a value, or what a slot holds -/
inductive Rf where
  | val (d : D)
  | slot (i : Nat)
def rd (r : Rf) (s : Sg) : Option D :=
  match r with
  | .val d => some d
  | .slot i => (s[i]?).join
def rds : List Rf → Sg → Option (List D)
  | [], _ => some []
  | r :: rs, s => match rd r s with
    | none => none
    | some d => match rds rs s with
      | none => none
      | some ds => some (d :: ds)
abbrev O := Sg → Res Rf
abbrev AL := Sg → Res (List Rf)
abbrev T := Sg → Res Bool
inductive Fl where
  | nx | rt (d : D) | bk | ct
abbrev S := Sg → Res Fl
/-- a list that never changes is told so -/
def frzT : List (D × D) → Bool
  | [(.none, .list _)] => true
  | [(.none, .dict _)] => true
  | _ => false
mutual
/-- no list that may change, no object within -/
def pur : D → Bool
  | .list _ => false
  | .dict kvs => frzT kvs
  | .tuple xs => purs xs
  | .none => true
  | .bool _ => true
  | .int _ => true
  | .str _ => true
def purs : List D → Bool
  | [] => true
  | x :: xs => pur x && purs xs
end
mutual
/-- nothing told by a dict within -/
def noD : D → Bool
  | .list xs => noDs xs
  | .dict _ => false
  | .tuple xs => noDs xs
  | .none => true
  | .bool _ => true
  | .int _ => true
  | .str _ => true
def noDs : List D → Bool
  | [] => true
  | x :: xs => noD x && noDs xs
end
/-- a list that never changes -/
def SqF (K : PySem.W.Frag) (H : Hp) (a : Addr) (xs : List V) : Prop :=
  (∃ o, H a = some (.frz o (.lst xs))) ∨
    ∃ (o : Obj) (its : Array Value) (n : Nat), K.lookup a = some o ∧ o.cls = .type "list" ∧ o.dict = none ∧ o.data = .seq its n ∧ its.size ≤ sizeLine ∧ Vals xs its.toList
theorem SqF.sq {K : PySem.W.Frag} {H : Hp} {a : Addr} {xs : List V} (h : SqF K H a xs) : SqL K H a xs := by
  rcases h with h | h
  · exact .inl (.inr h)
  · exact .inr h
/-- the entries of a dict whose keys are tuples, as they stand in its object -/
def RawO (a : Addr) (es : List (NestedKey × Addr × V)) (o : Obj) : HO := .ext fun h => es.length ≤ sizeLine ∧ (a == sysModules) = false ∧ (es.map (·.1)).Nodup ∧ h.get? a = some o ∧
  ∃ (ents : Array DictEntry) (ep : Nat), o.ExactDict ∧ o.data = .dict ents ep ∧
    Paired (fun (p : NestedKey × Addr × V) (e : DictEntry) => (∀ w, e.hash = p.1.hash w) ∧ e.key = .ref p.2.1 ∧ RelV p.2.2 e.val) es ents.toList
/-- an object that may change: a list, a dict, an instance -/
inductive MO
  | lst (xs : List V)
  | dct (kvs : List (Key × V))
  | dcn (a : Addr) (es : List (NestedKey × Addr × V)) (o : Obj)
  | ins (C dx : Addr) (fs : List (Str × V))
  | frk (o : Obj) (kvs : List (Key × V))
  | frn (a : Addr) (es : List (NestedKey × Addr × V)) (od o : Obj)
def MO.ho : MO → HO
  | .lst xs => .lst xs
  | .dct kvs => .dK kvs
  | .dcn a es o => RawO a es o
  | .ins C dx fs => .ins C dx fs
  | .frk o kvs => .frz o (.dK kvs)
  | .frn a es od o => .frz o (RawO a es od)
def isMut : HO → Bool
  | .lst _ => true
  | .dK _ => true
  | .ins _ _ _ => true
  | .ext _ => true
  | .tbl _ => true
  | _ => false
def isTbl : HO → Bool
  | .tbl _ => true
  | _ => false
theorem MO.ntb (m : MO) : isTbl m.ho = false := by cases m <;> rfl
/-- no object of ours is a code object -/
theorem MO.nco (m : MO) (c : Addr) (q : Str) : m.ho ≠ LamX.CodeO c q := by
  cases m with
  | lst _ => intro z; cases z
  | dct _ => intro z; cases z
  | ins _ _ _ => intro z; cases z
  | frk _ _ => intro z; cases z
  | frn _ _ _ _ => intro z; cases z
  | dcn a es o =>
    intro z
    have e := HO.ext.inj z
    let h0 : Heap := { objs := Array.replicate (c + 1) { cls := .none, data := .fields #[.none, .str q 0] } }
    have hc : h0.get? c = some { cls := .none, data := .fields #[.none, .str q 0] } := by
      show (match (Array.replicate (c + 1) ({ cls := .none, data := .fields #[.none, .str q 0] } : Obj))[c]? with
        | some ⟨_, _, .freed, _⟩ => none
        | o => o) = _
      rw [Array.getElem?_replicate, if_pos (Nat.lt_succ_self c)]
    have h1 := (congrFun e h0).mpr ⟨_, _, _, hc, rfl, rfl⟩
    obtain ⟨_, _, _, ho, ents, ep, _, hd, _⟩ := h1
    by_cases ha : a = c
    · rw [ha, hc] at ho
      cases ho
      cases hd
    · have : ∀ b o', h0.get? b = some o' → o' = { cls := .none, data := .fields #[.none, .str q 0] } := fun b o' hb => by
        have hb : (match (Array.replicate (c + 1) ({ cls := .none, data := .fields #[.none, .str q 0] } : Obj))[b]? with
          | some ⟨_, _, .freed, _⟩ => none
          | o => o) = some o' := hb
        rw [Array.getElem?_replicate] at hb
        by_cases hlt : b < c + 1
        · rw [if_pos hlt] at hb
          cases hb
          rfl
        · rw [if_neg hlt] at hb
          cases hb
      rw [this a o ho] at hd
      cases hd
/-- the tables of code objects that stand open: their addresses, the names of the code objects -/
class Tb where
  l : List (Addr × Str)
instance noTb : Tb := ⟨[]⟩
def TabsOk [Tb] (H : Hp) : Prop := LamX.Tabs Tb.l H
theorem TabsOk.ext [Tb] {H H' : Hp} (t : TabsOk H) (e : ∀ b o, H b = some o → H' b = some o) : TabsOk H' := fun p h => (t p h).ext e
theorem TabsOk.upd [Tb] {H : Hp} {a : Addr} {m : MO} {o : HO} (h : H a = some m.ho) (t : TabsOk H) : TabsOk (upd H a o) := fun p hp => by
  obtain ⟨ps, h1, h2, h3⟩ := t p hp
  refine ⟨ps, by rw [upd_ne (fun z => by rw [z, h] at h1; have := Option.some.inj h1; cases m <;> cases this)]; exact h1, h2, fun pos cv e => ?_⟩
  obtain ⟨c, e1, e2⟩ := h3 pos cv e
  exact ⟨c, e1, by rw [upd_ne (fun z => by rw [z, h] at e2; exact m.nco _ _ (Option.some.inj e2))]; exact e2⟩
/-- a key as it is told -/
def kD : Key → D
  | .inl i => .int i
  | .inr x => .str x
mutual
def nkD : NestedKey → D
  | .none => .none
  | .num i => .int i
  | .text x => .str x
  | .tup ks => .tuple (nkDs ks)
def nkDs : List NestedKey → List D
  | [] => []
  | k :: ks => nkD k :: nkDs ks
end
def zkd {κ : Type} (f : κ → D) : List κ → List D → List (D × D)
  | k :: ks, d :: ds => (f k, d) :: zkd f ks ds
  | _, _ => []
abbrev dIT (C : Str) (fs : List Str) (ds : List D) : D := .dict ((.bool false, .str C) :: zkd PyData.str fs ds)
/-- which class a name of the program's top means -/
def ClsN (K : PySem.W.Frag) (nm : Str) (C : Addr) : Prop := PySem.W.nsIn K mainGlobals nm = some (some (.ref C))
theorem ClsN.eq {K : PySem.W.Frag} {nm : Str} {C C' : Addr} (a : ClsN K nm C) (b : ClsN K nm C') : C = C' := by
  have := (show PySem.W.nsIn K mainGlobals nm = _ from a).symm.trans b
  cases this
  rfl
mutual
inductive Own (K : PySem.W.Frag) (H : Hp) : D → V → List Addr → Prop
  | non : Own K H .none .non []
  | bl (b : Bool) : Own K H (.bool b) (.bl b) []
  | int (i : Int) : Own K H (.int i) (.int i) []
  | str (x : Str) : Own K H (.str x) (.str x) []
  | tup {a : Addr} {xs : List V} {ds : List D} {F : List Addr} : SqD K H a xs → OwnA K H ds xs F → Own K H (.tuple ds) (.ref a) F
  | frz {a : Addr} {xs : List V} {ds : List D} : SqF K H a xs → OwnA K H ds xs [] → Own K H (.dict [(.none, .list ds)]) (.ref a) []
  | opq (a : Addr) : Own K H (.dict [(.none, .bool true)]) (.ref a) []
  | frd {a : Addr} {o : Obj} : H a = some (.frz o (.dK [])) → Own K H (.dict [(.none, .dict [])]) (.ref a) []
  | dct {a : Addr} {kvs : List (Key × V)} {ds : List D} {F : List Addr} : H a = some (.dK kvs) → OwnA K H ds (kvs.map Prod.snd) F → a ∉ F → Own K H (.dict ((.bool true, .none) :: zkd kD (kvs.map Prod.fst) ds)) (.ref a) (a :: F)
  | dcn {a : Addr} {es : List (NestedKey × Addr × V)} {o : Obj} {ds : List D} : H a = some (RawO a es o) → OwnA K H (es.map fun e => nkD e.1) (es.map fun e => V.ref e.2.1) [] → OwnA K H ds (es.map fun e => e.2.2) [] → Own K H (.dict ((.bool true, .int 0) :: zkd nkD (es.map fun e => e.1) ds)) (.ref a) [a]
  | frk {a : Addr} {o : Obj} {kvs : List (Key × V)} {ds : List D} : H a = some (.frz o (.dK kvs)) → OwnA K H ds (kvs.map Prod.snd) [] → Own K H (.dict ((.bool true, .bool false) :: zkd kD (kvs.map Prod.fst) ds)) (.ref a) [a]
  | frn {a : Addr} {es : List (NestedKey × Addr × V)} {od o : Obj} {ds : List D} : H a = some (.frz o (RawO a es od)) → OwnA K H (es.map fun e => nkD e.1) (es.map fun e => V.ref e.2.1) [] → OwnA K H ds (es.map fun e => e.2.2) [] → Own K H (.dict ((.bool true, .bool true) :: zkd nkD (es.map fun e => e.1) ds)) (.ref a) [a]
  | ins {a C dx : Addr} {nm : Str} {fs : List (Str × V)} {ds : List D} {F : List Addr} : ClsN K nm C → H a = some (.ins C dx fs) → OwnA K H ds (fs.map Prod.snd) F → a ∉ F → Own K H (.dict ((.bool false, .str nm) :: zkd PyData.str (fs.map Prod.fst) ds)) (.ref a) (a :: F)
  | lst {a : Addr} {xs : List V} {ds : List D} {F : List Addr} : H a = some (.lst xs) → OwnA K H ds xs F → a ∉ F → Own K H (.list ds) (.ref a) (a :: F)
inductive OwnA (K : PySem.W.Frag) (H : Hp) : List D → List V → List Addr → Prop
  | nil : OwnA K H [] [] []
  | cons {v : V} {vs : List V} {d : D} {ds : List D} {F G : List Addr} : Own K H d v F → OwnA K H ds vs G → (∀ a, a ∈ F → a ∉ G) → OwnA K H (d :: ds) (v :: vs) (F ++ G)
end
section
variable {K : PySem.W.Frag} {H H' : Hp}
mutual
theorem Own.dp : ∀ {d : D} {v : V} {F : List Addr}, Own K H d v F → noD d = true → Dp K H v d
  | _, _, _, .non, _ => .non
  | _, _, _, .bl b, _ => .bl b
  | _, _, _, .int b, _ => .int b
  | _, _, _, .str b, _ => .str b
  | _, _, _, .frz _ _, p => by simp [noD] at p
  | _, _, _, .frd _, p => by simp [noD] at p
  | _, _, _, .opq _, p => by simp [noD] at p
  | _, _, _, .dct _ _ _, p => by simp [noD] at p
  | _, _, _, .dcn _ _ _, p => by simp [noD] at p
  | _, _, _, .frk _ _, p => by simp [noD] at p
  | _, _, _, .frn _ _ _, p => by simp [noD] at p
  | _, _, _, .ins _ _ _ _, p => by simp [noD] at p
  | _, _, _, .lst h t _, p => .lst (SqL.of h) (OwnA.dp t (by simpa [noD] using p))
  | _, _, _, .tup h t, p => .tup h.sq (OwnA.dp t (by simpa [noD] using p))
theorem OwnA.dp : ∀ {ds : List D} {vs : List V} {F : List Addr}, OwnA K H ds vs F → noDs ds = true → DpAll K H vs ds
  | _, _, _, .nil, _ => .nil
  | _, _, _, .cons h t _, p => by
    simp only [noDs, Bool.and_eq_true] at p
    exact .cons (Own.dp h p.1) (OwnA.dp t p.2)
end
mutual
theorem Own.pur : ∀ {d : D} {v : V} {F : List Addr}, Own K H d v F → pur d = true → F = []
  | _, _, _, .non, _ => rfl
  | _, _, _, .bl b, _ => rfl
  | _, _, _, .int b, _ => rfl
  | _, _, _, .str b, _ => rfl
  | _, _, _, .lst _ _ _, p => by simp [Sim.pur] at p
  | _, _, _, .frz _ _, _ => rfl
  | _, _, _, .frd _, _ => rfl
  | _, _, _, .opq _, p => by simp [Sim.pur, frzT] at p
  | _, _, _, .dct _ _ _, p => by simp [Sim.pur, frzT] at p
  | _, _, _, .dcn _ _ _, p => by simp [Sim.pur, frzT] at p
  | _, _, _, .frk _ _, p => by simp [Sim.pur, frzT] at p
  | _, _, _, .frn _ _ _, p => by simp [Sim.pur, frzT] at p
  | _, _, _, .ins _ _ _ _, p => by simp [Sim.pur, frzT] at p
  | _, _, _, .tup h t, p => OwnA.pur t (by simpa [Sim.pur] using p)
theorem OwnA.pur : ∀ {ds : List D} {vs : List V} {F : List Addr}, OwnA K H ds vs F → purs ds = true → F = []
  | _, _, _, .nil, _ => rfl
  | _, _, _, .cons h t _, p => by
    simp only [purs, Bool.and_eq_true] at p
    rw [Own.pur h p.1, OwnA.pur t p.2]
    rfl
end
mutual
theorem Own.mem : ∀ {d : D} {v : V} {F : List Addr}, Own K H d v F → ∀ a, a ∈ F → ∃ xs : MO, H a = some xs.ho
  | _, _, _, .non, _, h => by simp at h
  | _, _, _, .bl b, _, h => by simp at h
  | _, _, _, .int b, _, h => by simp at h
  | _, _, _, .str b, _, h => by simp at h
  | _, _, _, .frz _ _, _, h => by simp at h
  | _, _, _, .frd _, _, h => by simp at h
  | _, _, _, .opq _, _, h => by simp at h
  | _, _, _, .dct e t _, a, h => by
    rcases List.mem_cons.mp h with rfl | h
    · exact ⟨.dct _, e⟩
    · exact OwnA.mem t a h
  | _, _, _, .dcn e _ _, a, h => by rw [List.mem_singleton.mp h]; exact ⟨.dcn _ _ _, e⟩
  | _, _, _, .frk e _, a, h => by rw [List.mem_singleton.mp h]; exact ⟨.frk _ _, e⟩
  | _, _, _, .frn e _ _, a, h => by rw [List.mem_singleton.mp h]; exact ⟨.frn _ _ _ _, e⟩
  | _, _, _, .ins _ e t _, a, h => by
    rcases List.mem_cons.mp h with rfl | h
    · exact ⟨.ins _ _ _, e⟩
    · exact OwnA.mem t a h
  | _, _, _, .lst e t _, a, h => by
    rcases List.mem_cons.mp h with rfl | h
    · exact ⟨.lst _, e⟩
    · exact OwnA.mem t a h
  | _, _, _, .tup _ t, a, h => OwnA.mem t a h
theorem OwnA.mem : ∀ {ds : List D} {vs : List V} {F : List Addr}, OwnA K H ds vs F → ∀ a, a ∈ F → ∃ xs : MO, H a = some xs.ho
  | _, _, _, .nil, _, h => by simp at h
  | _, _, _, .cons h1 t _, a, h => by
    rcases List.mem_append.mp h with h | h
    · exact Own.mem h1 a h
    · exact OwnA.mem t a h
end
/-- the change of a heap: but the lists at Fa all stands -/
structure Chg [Tb] (Fa : Addr → Prop) (H H' : Hp) : Prop where
  keep : ∀ a o, H a = some o → ((¬ Fa a ∧ isTbl o = false) ∨ isMut o = false) → H' a = some o
  there : ∀ a, H' a = none → H a = none
  tab : TabsOk H → TabsOk H'
theorem Chg.refl [Tb] (Fa : Addr → Prop) (H : Hp) : Chg Fa H H := ⟨fun _ _ h _ => h, fun _ h => h, fun h => h⟩
theorem Chg.same [Tb] {Fa : Addr → Prop} (h : Same H H') : Chg Fa H H' := ⟨fun _ _ e _ => h _ _ e, fun _ e => h.free e, fun t => t.ext h⟩
theorem Chg.mono [Tb] {Fa Fb : Addr → Prop} (c : Chg Fa H H') (h : ∀ a o, H a = some o → Fa a → Fb a) : Chg Fb H H' := ⟨fun a o e cc => c.keep a o e (cc.imp (fun z => ⟨fun w => z.1 (h a o e w), z.2⟩) id), c.there, c.tab⟩
theorem Chg.trans [Tb] {Fa : Addr → Prop} {H1 : Hp} (a : Chg Fa H H1) (b : Chg Fa H1 H') : Chg Fa H H' := ⟨fun x o e cc => b.keep x o (a.keep x o e cc) cc, fun x e => a.there x (b.there x e), fun t => b.tab (a.tab t)⟩
/-- one object of ours is written -/
theorem Chg.upd1 [Tb] {a : Addr} {m : MO} {o : HO} (h : H a = some m.ho) (hm : isMut m.ho = true := by rfl) : Chg (fun b => b = a) H (upd H a o) := ⟨fun b ob e c => by
  by_cases hb : b = a
  · subst hb
    rcases c with c | c
    · exact absurd rfl c.1
    · rw [h] at e
      cases e
      rw [hm] at c
      cases c
  · rw [upd_ne hb]; exact e, fun b e => by
  by_cases hb : b = a
  · subst hb; rw [upd_same] at e; cases e
  · rw [upd_ne hb] at e; exact e, fun t => t.upd h⟩
/-- a later change of what is new -/
theorem Chg.transN [Tb] {Fa Fb : Addr → Prop} {H1 : Hp} (a : Chg Fa H H1) (b : Chg Fb H1 H') (n : ∀ x o, H x = some o → ¬ Fb x) : Chg Fa H H' :=
  ⟨fun x o e cc => b.keep x o (a.keep x o e cc) (cc.imp (fun z => ⟨n x o e, z.2⟩) id), fun x e => a.there x (b.there x e), fun t => b.tab (a.tab t)⟩
/-- what stands and is not changed -/
theorem Chg.mo [Tb] {Fa : Addr → Prop} (c : Chg Fa H H') {a : Addr} {m : MO} (h : H a = some m.ho) (n : ¬ Fa a) : H' a = some m.ho := c.keep a _ h (.inl ⟨n, m.ntb⟩)
theorem Chg.sqD [Tb] {Fa : Addr → Prop} (c : Chg Fa H H') {a : Addr} {xs : List V} (h : SqD K H a xs) : SqD K H' a xs := by
  rcases h with ⟨o, h, n⟩ | h
  · exact .inl ⟨o, c.keep _ _ h (.inr rfl), n⟩
  · exact .inr h
theorem Chg.sqF [Tb] {Fa : Addr → Prop} (c : Chg Fa H H') {a : Addr} {xs : List V} (h : SqF K H a xs) : SqF K H' a xs := by
  rcases h with ⟨o, h⟩ | h
  · exact .inl ⟨o, c.keep _ _ h (.inr rfl)⟩
  · exact .inr h
mutual
theorem Own.chg [Tb] {Fa : Addr → Prop} (c : Chg Fa H H') : ∀ {d : D} {v : V} {F : List Addr}, Own K H d v F → (∀ a, a ∈ F → ¬ Fa a) → Own K H' d v F
  | _, _, _, .non, _ => .non
  | _, _, _, .bl b, _ => .bl b
  | _, _, _, .int b, _ => .int b
  | _, _, _, .str b, _ => .str b
  | _, _, _, .lst h t n, q => .lst (c.keep _ _ h (.inl ⟨q _ (List.mem_cons_self ..), rfl⟩)) (OwnA.chg c t fun a ha => q a (List.mem_cons_of_mem _ ha)) n
  | _, _, _, .frz h t, q => .frz (c.sqF h) (OwnA.chg c t q)
  | _, _, _, .frd h, q => .frd (c.keep _ _ h (.inr rfl))
  | _, _, _, .opq a, _ => .opq a
  | _, _, _, .dct h t n, q => .dct (c.keep _ _ h (.inl ⟨q _ (List.mem_cons_self ..), rfl⟩)) (OwnA.chg c t fun a ha => q a (List.mem_cons_of_mem _ ha)) n
  | _, _, _, .dcn h t t2, q => .dcn (c.keep _ _ h (.inl ⟨q _ (List.mem_cons_self ..), rfl⟩)) (OwnA.chg c t fun a ha => by cases ha) (OwnA.chg c t2 fun a ha => by cases ha)
  | _, _, _, .frk h t, q => .frk (c.keep _ _ h (.inr rfl)) (OwnA.chg c t fun a ha => by cases ha)
  | _, _, _, .frn h t t2, q => .frn (c.keep _ _ h (.inr rfl)) (OwnA.chg c t fun a ha => by cases ha) (OwnA.chg c t2 fun a ha => by cases ha)
  | _, _, _, .ins cn h t n, q => .ins cn (c.keep _ _ h (.inl ⟨q _ (List.mem_cons_self ..), rfl⟩)) (OwnA.chg c t fun a ha => q a (List.mem_cons_of_mem _ ha)) n
  | _, _, _, .tup h t, q => .tup (c.sqD h) (OwnA.chg c t q)
theorem OwnA.chg [Tb] {Fa : Addr → Prop} (c : Chg Fa H H') : ∀ {ds : List D} {vs : List V} {F : List Addr}, OwnA K H ds vs F → (∀ a, a ∈ F → ¬ Fa a) → OwnA K H' ds vs F
  | _, _, _, .nil, _ => .nil
  | _, _, _, .cons h t n, q => .cons (Own.chg c h fun a ha => q a (List.mem_append_left _ ha)) (OwnA.chg c t fun a ha => q a (List.mem_append_right _ ha)) n
end
theorem Own.same (h : Same H H') {d : D} {v : V} {F : List Addr} (o : Own K H d v F) : Own K H' d v F := o.chg (Fa := fun _ => False) (@Chg.same _ _ noTb _ h) fun _ _ z => z
theorem OwnA.len : ∀ {ds : List D} {vs : List V} {F : List Addr}, OwnA K H ds vs F → vs.length = ds.length
  | _, _, _, .nil => rfl
  | _, _, _, .cons _ t _ => by rw [List.length_cons, List.length_cons, OwnA.len t]
end
end Sim
namespace Sim
open PySem PySem.Spec L2
abbrev Fp := Nat → List Addr
def InF (Fs : Fp) : Addr → Prop := fun a => ∃ i, a ∈ Fs i
/-- what else stands while a body runs: an object whose fields are slots of their own (none, of a plain def) -/
class Vs where
  fp : Nat → List Addr
  lnk : St → Hp → Prop
  ok : Nat → Prop
  keep : ∀ {σ : St} {H H' : Hp}, lnk σ H → (∀ i a, a ∈ fp i → H' a = H a) → lnk σ H'
  put : ∀ {σ : St} {H : Hp} {i : Nat} {v : Option V}, ok i → (lnk (σ.set i v) H ↔ lnk σ H)
  mem : ∀ {σ : St} {H : Hp} {i : Nat} {a : Addr}, lnk σ H → a ∈ fp i → ∃ m : MO, H a = some m.ho
  nil : ∀ {i : Nat}, ok i → fp i = []
instance noVs : Vs := ⟨fun _ => [], fun _ _ => True, fun _ => True, fun _ _ => trivial, fun _ => Iff.rfl, fun _ h => by simp at h, fun _ => rfl⟩
/-- the slots' values, as they are told, stand -/
def Lk2 [Tb] [Vs] (σ : St) (H : Hp) : Prop := Vs.lnk σ H ∧ TabsOk H
structure RelS [Tb] [Vs] (K : PySem.W.Frag) (H : Hp) (s : Sg) (σ : St) (Fs : Fp) : Prop where
  len : s.length = σ.length
  has : ∀ i d, s[i]? = some (some d) → ∃ v, σ[i]? = some (some v) ∧ Own K H d v (Fs i)
  off : ∀ i, (∀ d, s[i]? ≠ some (some d)) → Fs i = Vs.fp i
  dis : ∀ i j a, a ∈ Fs i → a ∈ Fs j → i = j
  lnk : Lk2 σ H
  bse : ∀ i, Vs.fp i ≠ [] → ∀ d, s[i]? ≠ some (some d)
/-- from one heap to a later one -/
structure Ev [Tb] (H : Hp) (Fs : Fp) (H' : Hp) (Fs' : Fp) : Prop where
  chg : Chg (InF Fs) H H'
  new : ∀ i a, a ∈ Fs' i → a ∈ Fs i ∨ H a = none
section
variable [Tb] [Vs] {K : PySem.W.Frag} {H H1 H' : Hp} {s s' : Sg} {σ σ' : St} {Fs Fs1 Fs' : Fp}
theorem RelS.mem (R : RelS K H s σ Fs) {i : Nat} {a : Addr} (h : a ∈ Fs i) : ∃ xs : MO, H a = some xs.ho := by
  cases e : s[i]? with
  | none =>
    rw [R.off i (fun d z => by rw [e] at z; cases z)] at h
    exact Vs.mem R.lnk.1 h
  | some o =>
    cases o with
    | none =>
      rw [R.off i (fun d z => by rw [e] at z; cases z)] at h
      exact Vs.mem R.lnk.1 h
    | some d =>
      obtain ⟨v, _, q⟩ := R.has i d e
      exact q.mem a h
/-- a slot that holds an open object -/
theorem RelS.fpF (R : RelS K H s σ Fs) {i : Nat} {a : Addr} (h : a ∈ Vs.fp i) : a ∈ Fs i := by
  rw [R.off i (R.bse i (fun e => by rw [e] at h; cases h))]
  exact h
/-- what stands elsewhere is no open object -/
theorem RelS.nfp (R : RelS K H s σ Fs) {i j : Nat} {a : Addr} {d : D} (e : s[i]? = some (some d)) (h : a ∈ Fs i) : a ∉ Vs.fp j := fun z => by
  have := R.dis i j a h (R.fpF z)
  subst this
  exact R.bse i (fun e => by rw [e] at z; cases z) d e
/-- where the lists of told slots alone change -/
theorem RelS.lnk' (R : RelS K H s σ Fs) (k : ∀ i a, a ∈ Vs.fp i → H' a = H a) (t : TabsOk H') : Lk2 σ H' := ⟨Vs.keep R.lnk.1 k, t⟩
theorem RelS.lnkS (R : RelS K H s σ Fs) (h : Same H H') : Lk2 σ H' := R.lnk' (fun i a ha => by
  obtain ⟨m, e⟩ := Vs.mem R.lnk.1 ha
  rw [e]
  exact h _ _ e) (R.lnk.2.ext h)
theorem Ev.refl (H : Hp) (Fs : Fp) : Ev H Fs H Fs := ⟨.refl _ _, fun _ _ h => .inl h⟩
theorem Ev.same (Fs : Fp) (h : Same H H') : Ev H Fs H' Fs := ⟨.same h, fun _ _ h => .inl h⟩
theorem Ev.trans (a : Ev H Fs H1 Fs1) (b : Ev H1 Fs1 H' Fs') : Ev H Fs H' Fs' := by
  refine ⟨⟨fun x o e c => ?_, fun x e => a.chg.there x (b.chg.there x e), fun t => b.chg.tab (a.chg.tab t)⟩, fun i x h => ?_⟩
  · have e1 := a.chg.keep x o e c
    refine b.chg.keep x o e1 (c.imp (fun n => ⟨fun z => ?_, n.2⟩) id)
    obtain ⟨i, hi⟩ := z
    rcases a.new i x hi with q | q
    · exact n.1 ⟨i, q⟩
    · rw [e] at q; cases q
  · rcases b.new i x h with q | q
    · exact a.new i x q
    · exact .inr (a.chg.there x q)
theorem RelS.same (R : RelS K H s σ Fs) (h : Same H H') : RelS K H' s σ Fs :=
  ⟨R.len, fun i d e => by
    obtain ⟨v, hv, q⟩ := R.has i d e
    exact ⟨v, hv, q.same h⟩, R.off, R.dis, R.lnkS h, R.bse⟩
/-- what stands apart from the slots -/
structure Apart (K : PySem.W.Frag) (H : Hp) (Fs : Fp) (d : D) (v : V) (F : List Addr) : Prop where
  own : Own K H d v F
  dis : ∀ i a, a ∈ Fs i → a ∉ F
theorem Apart.ev {d : D} {v : V} {F : List Addr} (A : Apart K H Fs d v F) (e : Ev H Fs H' Fs') : Apart K H' Fs' d v F := by
  refine ⟨A.own.chg e.chg fun a ha ⟨i, hi⟩ => A.dis i a hi ha, fun i a hi ha => ?_⟩
  rcases e.new i a hi with q | q
  · exact A.dis i a q ha
  · obtain ⟨xs, z⟩ := A.own.mem a ha
    rw [q] at z; cases z
/-- operands as they came -/
inductive Rfs (K : PySem.W.Frag) (H : Hp) (σ : St) (Fs : Fp) : List Rf → List V → List (List Addr) → Prop
  | nil : Rfs K H σ Fs [] [] []
  | val {d : D} {v : V} {F : List Addr} {rs : List Rf} {vs : List V} {Gs : List (List Addr)} : Apart K H Fs d v F → (∀ G, G ∈ Gs → ∀ a, a ∈ F → a ∉ G) → Rfs K H σ Fs rs vs Gs → Rfs K H σ Fs (.val d :: rs) (v :: vs) (F :: Gs)
  | slot {i : Nat} {v : V} {rs : List Rf} {vs : List V} {Gs : List (List Addr)} : σ[i]? = some (some v) → Rfs K H σ Fs rs vs Gs → Rfs K H σ Fs (.slot i :: rs) (v :: vs) ([] :: Gs)
theorem Rfs.mem {rs : List Rf} {vs : List V} {Gs : List (List Addr)} (r : Rfs K H σ Fs rs vs Gs) : ∀ G, G ∈ Gs → ∀ a, a ∈ G → ∃ xs : MO, H a = some xs.ho := by
  induction r with
  | nil => intro G h; cases h
  | val A _ _ ih =>
    intro G h a ha
    rcases List.mem_cons.mp h with rfl | h
    · exact A.own.mem a ha
    · exact ih G h a ha
  | slot _ _ ih =>
    intro G h a ha
    rcases List.mem_cons.mp h with rfl | h
    · cases ha
    · exact ih G h a ha
theorem join_some {i : Nat} {d : D} (e : (s[i]?).join = some d) : s[i]? = some (some d) := by
  cases h : s[i]? with
  | none => rw [h] at e; cases e
  | some o => rw [h] at e; rw [show o = some d from e]
/-- values that are told -/
inductive RdA (K : PySem.W.Frag) (H : Hp) : List V → List D → Prop
  | nil : RdA K H [] []
  | cons {v : V} {d : D} {F : List Addr} {vs : List V} {ds : List D} : Own K H d v F → RdA K H vs ds → RdA K H (v :: vs) (d :: ds)
theorem Rfs.dp (R : RelS K H s σ Fs) {rs : List Rf} {vs : List V} {Gs : List (List Addr)} (r : Rfs K H σ Fs rs vs Gs) : ∀ {ds : List D}, rds rs s = some ds → RdA K H vs ds := by
  induction r with
  | nil => intro ds e; cases e; exact .nil
  | @val d v F rs vs Gs A _ _ ih =>
    intro ds e
    unfold rds at e
    simp only [rd] at e
    split at e
    · cases e
    · rename_i es h; cases e; exact .cons A.own (ih h)
  | @slot i v rs vs Gs hv _ ih =>
    intro ds e
    unfold rds at e
    simp only [rd] at e
    split at e
    · cases e
    · rename_i d hd
      split at e
      · cases e
      · rename_i es h
        cases e
        obtain ⟨v', hv', q⟩ := R.has _ _ (join_some hd)
        rw [hv] at hv'
        cases hv'
        exact .cons q (ih h)
/-- one operand as it came -/
inductive RfOk (K : PySem.W.Frag) (H : Hp) (σ : St) (Fs : Fp) : Rf → V → List Addr → Prop
  | val {d : D} {v : V} {F : List Addr} : Apart K H Fs d v F → RfOk K H σ Fs (.val d) v F
  | slot {i : Nat} {v : V} : σ[i]? = some (some v) → RfOk K H σ Fs (.slot i) v []
theorem RfOk.ev {r : Rf} {v : V} {F : List Addr} (h : RfOk K H σ Fs r v F) (e : Ev H Fs H' Fs') : RfOk K H' σ Fs' r v F := by
  cases h with
  | val A => exact .val (A.ev e)
  | slot h => exact .slot h
theorem RfOk.mem {r : Rf} {v : V} {F : List Addr} (h : RfOk K H σ Fs r v F) : ∀ a, a ∈ F → ∃ xs : MO, H a = some xs.ho := by
  cases h with
  | val A => exact A.own.mem
  | slot h => intro a h; cases h
theorem RfOk.dp (R : RelS K H s σ Fs) {r : Rf} {v : V} {F : List Addr} (h : RfOk K H σ Fs r v F) {d : D} (e : rd r s = some d) : ∃ F', Own K H d v F' := by
  cases h with
  | val A => cases e; exact ⟨_, A.own⟩
  | slot h =>
    obtain ⟨v', hv', q⟩ := R.has _ _ (join_some e)
    rw [h] at hv'
    cases hv'
    exact ⟨_, q⟩
end
section
variable [Tb] [Vs] (K : PySem.W.Frag)
def tO (g : O) : TE := fun σ H Q => ∃ s Fs r s', RelS K H s σ Fs ∧ g s = .ok r s' ∧
  ∀ v H' Fs' F, RelS K H' s' σ Fs' → Ev H Fs H' Fs' → RfOk K H' σ Fs' r v F → (∀ a, a ∈ F → H a = none) → Q v H'
def tA (g : AL) : TA := fun σ H Q => ∃ s Fs rs s', RelS K H s σ Fs ∧ g s = .ok rs s' ∧
  ∀ vs H' Fs' Gs, RelS K H' s' σ Fs' → Ev H Fs H' Fs' → Rfs K H' σ Fs' rs vs Gs → (∀ G, G ∈ Gs → ∀ a, a ∈ G → H a = none) → Q vs H'
def tT (g : T) : TT := fun σ H Q => ∃ s Fs b s', RelS K H s σ Fs ∧ g s = .ok b s' ∧ ∀ H' Fs', RelS K H' s' σ Fs' → Ev H Fs H' Fs' → Q b H'
end
def SimO [Tb] [Vs] (X : Cx) (e : Expr) (g : O) : Prop := PE X e (tO X.K g)
def SimA [Tb] [Vs] (X : Cx) (es : List Expr) (g : AL) : Prop := PA X es (tA X.K g)
def SimT [Tb] [Vs] (X : Cx) (e : Expr) (g : T) : Prop := PT X e (tT X.K g)
theorem pe_imp {X : Cx} {e : Expr} {t t' : TE} (h : PE X e t) (i : ∀ σ H Q, t' σ H Q → t σ H Q) : PE X e t' := ⟨fun pins s σ H Q I q => h.run pins s σ H Q I (i σ H Q q)⟩
theorem pt_imp {X : Cx} {e : Expr} {t t' : TT} (h : PT X e t) (i : ∀ σ H Q, t' σ H Q → t σ H Q) : PT X e t' := ⟨fun pins s σ H Q I q => h.run pins s σ H Q I (i σ H Q q)⟩
theorem pa_imp {X : Cx} {e : List Expr} {t t' : TA} (h : PA X e t) (i : ∀ σ H Q, t' σ H Q → t σ H Q) : PA X e t' := ⟨fun pos pins s σ H Q I q => h.run pos pins s σ H Q I (i σ H Q q)⟩
def aNil : AL := fun s => .ok [] s
def aCons (g : O) (h : AL) : AL := fun s => (g s).bind fun r s1 => (h s1).bind fun rs s2 => .ok (r :: rs) s2
section
variable [Tb] [Vs] {X : Cx} {K : PySem.W.Frag}
theorem tA_nil {σ : St} {H : Hp} {Q : List V → Hp → Prop} (h : tA K aNil σ H Q) : tNil σ H Q := by
  obtain ⟨s, Fs, rs, s', R, e, q⟩ := h
  cases e
  exact q [] H Fs [] R (.refl _ _) .nil (by intro G h; cases h)
theorem tA_cons {g : O} {gs : AL} {σ : St} {H : Hp} {Q : List V → Hp → Prop} (h : tA K (aCons g gs) σ H Q) : tCons (tO K g) (tA K gs) σ H Q := by
  obtain ⟨s, Fs, rs, s', R, e, q⟩ := h
  obtain ⟨r, s1, e1, e⟩ := bind_inv e
  obtain ⟨rs1, s2, e2, e⟩ := bind_inv e
  cases e
  refine ⟨s, Fs, r, s1, R, e1, fun v H1 Fs1 F R1 E1 k1 n1 => ⟨s1, Fs1, rs1, s', R1, e2, fun vs H2 Fs2 Gs R2 E2 k2 n2 => ?_⟩⟩
  have k1' := k1.ev E2
  have nn : ∀ G, G ∈ Gs → ∀ a, a ∈ G → H a = none := fun G hG a ha => E1.chg.there a (n2 G hG a ha)
  cases k1' with
  | val A =>
    refine q _ H2 Fs2 (F :: Gs) R2 (E1.trans E2) (.val A (fun G hG a ha hb => ?_) k2) (fun G hG a ha => ?_)
    · obtain ⟨xs, z⟩ := k1.mem a ha
      rw [n2 G hG a hb] at z; cases z
    · rcases List.mem_cons.mp hG with rfl | hG
      · exact n1 a ha
      · exact nn G hG a ha
  | slot hv =>
    refine q _ H2 Fs2 ([] :: Gs) R2 (E1.trans E2) (.slot hv k2) (fun G hG a ha => ?_)
    rcases List.mem_cons.mp hG with rfl | hG
    · cases ha
    · exact nn G hG a ha
theorem sa_nil : SimA X [] aNil := pa_imp pa_nil fun _ _ _ h => tA_nil h
theorem sa_cons {e : Expr} {es : List Expr} {g : O} {gs : AL} (ha : SimO X e g) (hr : SimA X es gs) (hs : starEach (e :: es) X.env = (false, eval e X.env) :: starEach es X.env := by rfl) : SimA X (e :: es) (aCons g gs) :=
  pa_imp (pa_cons ha hr hs) fun _ _ _ h => tA_cons h
theorem tO_mono {g : O} {σ : St} {H : Hp} {Q Q' : VK} (i : ∀ v H, Q v H → Q' v H) (h : tO K g σ H Q) : tO K g σ H Q' := by
  obtain ⟨s, Fs, r, s', R, e, q⟩ := h
  exact ⟨s, Fs, r, s', R, e, fun v H' Fs' F a b c d => i _ _ (q v H' Fs' F a b c d)⟩
theorem tA_mono {g : AL} {σ : St} {H : Hp} {Q Q' : List V → Hp → Prop} (i : ∀ v H, Q v H → Q' v H) (h : tA K g σ H Q) : tA K g σ H Q' := by
  obtain ⟨s, Fs, r, s', R, e, q⟩ := h
  exact ⟨s, Fs, r, s', R, e, fun v H' Fs' F a b c d => i _ _ (q v H' Fs' F a b c d)⟩
theorem tA1 {a : O} {σ : St} {H : Hp} {Q : List V → Hp → Prop} (h : tA K (aCons a aNil) σ H Q) : tO K a σ H fun x H1 => Q [x] H1 :=
  tO_mono (fun _ _ h => by have z := tA_nil h; exact z) (tA_cons h)
theorem tA2 {a b : O} {σ : St} {H : Hp} {Q : List V → Hp → Prop} (h : tA K (aCons a (aCons b aNil)) σ H Q) : tO K a σ H fun x H1 => tO K b σ H1 fun y H2 => Q [x, y] H2 :=
  tO_mono (fun _ _ h => by have z := tA1 h; exact z) (tA_cons h)
end
def NewV (K : PySem.W.Frag) (H : Hp) (d : D) (v : V) (H' : Hp) : Prop := Same H H' ∧ ∃ F, Own K H' d v F ∧ ∀ a, a ∈ F → H a = none
def PrimR (K : PySem.W.Frag) (r : List V → Hp → VK → Prop) (f : List D → Option D) : Prop :=
  ∀ vs ds d H Q, RdA K H vs ds → f ds = some d → (∀ v H', NewV K H d v H' → Q v H') → r vs H Q
def oPrim (f : List D → Option D) (g : AL) : O := fun s => (g s).bind fun rs s1 => match rds rs s1 with
  | none => .bad
  | some ds => match f ds with
    | none => .bad
    | some d => .ok (.val d) s1
section
variable [Tb] [Vs] {X : Cx} {K : PySem.W.Frag} {H H' : Hp}
theorem NewV.ok {s : Sg} {σ : St} {Fs : Fp} {d : D} {v : V} (R : RelS K H s σ Fs) (h : NewV K H d v H') : RelS K H' s σ Fs ∧ Ev H Fs H' Fs ∧ ∃ F, RfOk K H' σ Fs (.val d) v F ∧ ∀ a, a ∈ F → H a = none := by
  obtain ⟨sm, F, o, n⟩ := h
  refine ⟨R.same sm, .same _ sm, F, .val ⟨o, fun i a hi ha => ?_⟩, n⟩
  obtain ⟨xs, z⟩ := R.mem hi
  rw [n a ha] at z; cases z
theorem prim {r : List V → Hp → VK → Prop} {f : List D → Option D} {g : AL} (hp : PrimR K r f) {σ : St} {H : Hp} {Q : VK} (h : tO K (oPrim f g) σ H Q) : tA K g σ H fun vs H1 => r vs H1 Q := by
  obtain ⟨s, Fs, rf, s', R, e, q⟩ := h
  obtain ⟨rs, s1, e1, e⟩ := bind_inv e
  refine ⟨s, Fs, rs, s1, R, e1, fun vs H1 Fs1 Gs R1 E1 k1 n1 => ?_⟩
  split at e
  · cases e
  · rename_i ds hds
    split at e
    · cases e
    · rename_i d hd
      cases e
      refine hp vs ds d H1 Q (k1.dp R1 hds) hd fun v H2 hv => ?_
      obtain ⟨R2, E2, F, k, n⟩ := hv.ok R1
      exact q v H2 Fs1 F R2 (E1.trans E2) k fun a ha => E1.chg.there a (n a ha)
theorem NewV.sc {d : D} {v : V} (h : Own K H d v []) : NewV K H d v H := ⟨Same.refl _, [], h, fun _ z => by cases z⟩
theorem NewV.pu {d : D} {v : V} {F : List Addr} (h : Own K H d v F) (p : pur d = true) : NewV K H d v H := .sc (by rw [h.pur p] at h; exact h)
/-- a new object -/
theorem same_new {a : Addr} {o : HO} (h : H a = none) : Same H (upd H a o) := fun b x e => by rw [upd_ne (ne_of_none e h)]; exact e
theorem NewV.tup {ds : List D} {vs : List V} {a : Addr} {o : Obj} (h : OwnA K H ds vs []) (n : H a = none) (nd : o.dict = none) : NewV K H (.tuple ds) (.ref a) (upd H a (.frz o (.tup vs))) := by
  have sm : Same H (upd H a (.frz o (.tup vs))) := same_new n
  exact ⟨sm, [], .tup (SqD.of upd_same nd) (h.chg (Fa := fun _ => False) (.same sm) fun _ _ z => z), fun _ z => by cases z⟩
theorem NewV.lst {ds : List D} {vs : List V} {a : Addr} (h : OwnA K H ds vs []) (n : H a = none) : NewV K H (.list ds) (.ref a) (upd H a (.lst vs)) := by
  have sm : Same H (upd H a (.lst vs)) := same_new n
  exact ⟨sm, [a], .lst upd_same (h.chg (Fa := fun _ => False) (.same sm) fun _ _ z => z) (by simp), fun b z => by rw [List.mem_singleton.mp z]; exact n⟩
end
end Sim
namespace Sim
open PySem PySem.Spec L2
theorem big_le : 1000000 ≤ sizeLine := by decide
def u2 (r : R2) : List V → Hp → VK → Prop
  | [x, y], H, Q => r x y H Q
  | _, _, _ => False
def u1 (r : V → Hp → VK → Prop) : List V → Hp → VK → Prop
  | [x], H, Q => r x H Q
  | _, _, _ => False
def mulOk (a b : Int) : Bool := (decide (-(2 ^ 64) < a) && decide (a < 2 ^ 64)) || (decide (-(2 ^ 64) < b) && decide (b < 2 ^ 64)) || decide (a.natAbs.log2 + b.natAbs.log2 < 1000000)
def pAdd : List D → Option D
  | [.int a, .int b] => some (.int (a + b))
  | [.str a, .str b] => if a.length + b.length ≤ 1000000 then some (.str (a ++ b)) else none
  | [.list a, .list b] => if a.length + b.length ≤ 1000000 ∧ purs a = true ∧ purs b = true then some (.list (a ++ b)) else none
  | [.tuple a, .tuple b] => if a.length + b.length ≤ 1000000 ∧ purs a = true ∧ purs b = true then some (.tuple (a ++ b)) else none
  | _ => none
def pSub : List D → Option D
  | [.int a, .int b] => some (.int (a - b))
  | _ => none
def pMul : List D → Option D
  | [.int a, .int b] => if mulOk a b = true then some (.int (a * b)) else none
  | [.tuple a, .int b] => if -1000 ≤ b ∧ b ≤ 1000 ∧ a.length ≤ 1000 ∧ purs a = true then some (.tuple (List.replicate b.toNat a).flatten) else none
  | [.list a, .int b] => if b < 2 ^ 63 ∧ -(2 ^ 63) ≤ b ∧ a.length * b.toNat ≤ 1000000 ∧ purs a = true then some (.list (List.replicate b.toNat a).flatten) else none
  | _ => none
def pDiv : List D → Option D
  | [.int a, .int b] => if 0 < b ∧ b.natAbs.log2 < 9000 then some (.int (a / b)) else none
  | _ => none
def pMod : List D → Option D
  | [.int a, .int b] => if 0 < b then some (.int (a % b)) else none
  | _ => none
def pPow : List D → Option D
  | [.int a, .int b] => if 0 ≤ b ∧ b ≤ 1000000 ∧ a.natAbs < 2 ^ 64 then some (.int (a ^ b.toNat)) else none
  | _ => none
def pShl : List D → Option D
  | [.int a, .int b] => if 0 ≤ b ∧ b ≤ 1000000 ∧ a.natAbs < 2 ^ 64 then some (.int (a * 2 ^ b.toNat)) else none
  | _ => none
def pNeg : List D → Option D
  | [.int a] => some (.int (-a))
  | _ => none
def pLt : List D → Option D
  | [.int a, .int b] => some (.bool (decide (a < b)))
  | _ => none
def pLe : List D → Option D
  | [.int a, .int b] => some (.bool (decide (a ≤ b)))
  | _ => none
def pGt : List D → Option D
  | [.int a, .int b] => some (.bool (decide (b < a)))
  | _ => none
def pGe : List D → Option D
  | [.int a, .int b] => some (.bool (decide (b ≤ a)))
  | _ => none
/-- what may be compared by == -/
def shp (d : D) : Bool := SeqAt.shaped d && noD d
def pEq : List D → Option D
  | [a, b] => if shp a = true ∧ shp b = true then some (.bool (PyData.eqv a b)) else none
  | _ => none
def pNe : List D → Option D
  | [a, b] => if shp a = true ∧ shp b = true then some (.bool (!PyData.eqv a b)) else none
  | _ => none
def isN : D → Bool
  | .none => true
  | _ => false
def pIsN : List D → Option D
  | [a, .none] => some (.bool (isN a))
  | [.bool a, .bool b] => some (.bool (decide (a = b)))
  | _ => none
def pNotN : List D → Option D
  | [a, .none] => some (.bool (!isN a))
  | [.bool a, .bool b] => some (.bool (!decide (a = b)))
  | _ => none
def pIn : List D → Option D
  | [a, .list b] => if shp a = true ∧ shp (.list b) = true then some (.bool (b.any fun z => PyData.eqv z a)) else none
  | [a, .tuple b] => if fl a = true ∧ b.all fl = true then some (.bool (b.any fun z => PyData.eqv z a)) else none
  | [.str a, .str b] => some (.bool (!(Builtin.Str.occurrences b a 0 b.length 1).isEmpty))
  | _ => none
where fl : D → Bool
  | .none => true
  | .bool _ => true
  | .int _ => true
  | .str _ => true
  | _ => false
section
variable {K : PySem.W.Frag}
theorem RdA.two {H : Hp} {vs : List V} {a b : D} (h : RdA K H vs [a, b]) : ∃ x y F G, vs = [x, y] ∧ Own K H a x F ∧ Own K H b y G := by
  cases h with
  | cons o h =>
    cases h with
    | cons o2 h =>
      cases h
      exact ⟨_, _, _, _, rfl, o, o2⟩
theorem RdA.one {H : Hp} {vs : List V} {a : D} (h : RdA K H vs [a]) : ∃ x F, vs = [x] ∧ Own K H a x F := by
  cases h with
  | cons o h =>
    cases h
    exact ⟨_, _, rfl, o⟩
theorem RdA.zero {H : Hp} {vs : List V} (h : RdA K H vs []) : vs = [] := by
  cases h
  rfl
theorem RdA.three {H : Hp} {vs : List V} {a b c : D} (h : RdA K H vs [a, b, c]) : ∃ x y z F G G', vs = [x, y, z] ∧ Own K H a x F ∧ Own K H b y G ∧ Own K H c z G' := by
  cases h with
  | cons o h =>
    obtain ⟨y, z, G, G', rfl, o2, o3⟩ := h.two
    exact ⟨_, _, _, _, _, _, rfl, o, o2, o3⟩
theorem purs_app {a b : List D} : purs (a ++ b) = (purs a && purs b) := by
  induction a with
  | nil => simp [purs]
  | cons x a ih => simp [purs, ih, Bool.and_assoc]
theorem OwnA.nil2 {H : Hp} {v : V} {vs : List V} {d : D} {ds : List D} (h : OwnA K H (d :: ds) (v :: vs) []) : Own K H d v [] ∧ OwnA K H ds vs [] := by
  generalize e : ([] : List Addr) = F at h
  cases h with
  | @cons _ _ _ _ F G o t n =>
    have e1 : F = [] ∧ G = [] := List.append_eq_nil_iff.mp e.symm
    obtain ⟨rfl, rfl⟩ := e1
    exact ⟨o, t⟩
theorem OwnA.cons0 {H : Hp} {v : V} {vs : List V} {d : D} {ds : List D} (o : Own K H d v []) (t : OwnA K H ds vs []) : OwnA K H (d :: ds) (v :: vs) [] := OwnA.cons (F := []) (G := []) o t (by simp)
theorem OwnA.app {H : Hp} : ∀ {as bs : List D} {vs ws : List V}, OwnA K H as vs [] → OwnA K H bs ws [] → OwnA K H (as ++ bs) (vs ++ ws) []
  | [], _, [], _, _, g => g
  | _ :: _, _, _ :: _, _, h, g => .cons0 h.nil2.1 (OwnA.app h.nil2.2 g)
  | [], _, _ :: _, _, h, _ => nomatch h
  | _ :: _, _, [], _, h, _ => nomatch h
theorem OwnA.rep {H : Hp} {as : List D} {vs : List V} (h : OwnA K H as vs []) : ∀ k : Nat, OwnA K H (List.replicate k as).flatten (List.replicate k vs).flatten []
  | 0 => .nil
  | k + 1 => by
    rw [List.replicate_succ, List.replicate_succ, List.flatten_cons, List.flatten_cons]
    exact h.app (OwnA.rep h k)
theorem OwnA.take {H : Hp} : ∀ {as : List D} {vs : List V}, OwnA K H as vs [] → ∀ n, OwnA K H (as.take n) (vs.take n) []
  | [], [], _, _ => by simp; exact .nil
  | _ :: _, _ :: _, _, 0 => .nil
  | _ :: _, _ :: _, h, n + 1 => .cons0 h.nil2.1 (OwnA.take h.nil2.2 n)
  | [], _ :: _, h, _ => nomatch h
  | _ :: _, [], h, _ => nomatch h
theorem OwnA.drop {H : Hp} : ∀ {as : List D} {vs : List V}, OwnA K H as vs [] → ∀ n, OwnA K H (as.drop n) (vs.drop n) []
  | [], [], _, _ => by simp; exact .nil
  | _ :: _, _ :: _, h, 0 => h
  | _ :: _, _ :: _, h, n + 1 => OwnA.drop h.nil2.2 n
  | [], _ :: _, h, _ => nomatch h
  | _ :: _, [], h, _ => nomatch h
theorem OwnA.get {H : Hp} : ∀ {as : List D} {vs : List V} {F : List Addr}, OwnA K H as vs F → ∀ (i : Nat) (d : D), as[i]? = some d → ∃ v G, vs[i]? = some v ∧ Own K H d v G ∧ ∀ a, a ∈ G → a ∈ F
  | [], _, _, _, i, d, e => by simp at e
  | d :: ds, _, _, h, 0, d', e => by
    simp at e
    subst e
    cases h with
    | cons o t n => exact ⟨_, _, rfl, o, fun a h => List.mem_append_left _ h⟩
  | d :: ds, _, _, h, i + 1, d', e => by
    cases h with
    | cons o t n =>
      obtain ⟨v', G', h1, h2, h3⟩ := OwnA.get t i d' (by simpa using e)
      exact ⟨v', G', by simpa using h1, h2, fun a h => List.mem_append_right _ (h3 a h)⟩
def rAddA (K : PySem.W.Frag) : R2 := fun x y H Q => rI0 (fun i j => .int (i + j)) x y H Q ∨ (∃ i j, x = .str i ∧ y = .str j ∧ i.length + j.length ≤ sizeLine ∧ Q (.str (i ++ j)) H) ∨ rCat x y H Q ∨ rCatD K x y H Q
theorem op_addA {X : Cx} : OpR X (binaryOp .Add) (rAddA X.K) := op_add.or (op_add_str.or (op_cat.or op_catD))
theorem pr_add : PrimR K (u2 (rAddA K)) pAdd := by
  intro vs ds d H Q h e q
  unfold pAdd at e
  split at e
  · obtain ⟨x, y, F, G, rfl, o1, o2⟩ := h.two
    cases o1; cases o2; cases e
    exact .inl ⟨_, _, rfl, rfl, q _ _ (.sc (.int _))⟩
  · obtain ⟨x, y, F, G, rfl, o1, o2⟩ := h.two
    split at e
    · rename_i hl
      cases o1; cases o2; cases e
      exact .inr (.inl ⟨_, _, rfl, rfl, Nat.le_trans hl big_le, q _ _ (.sc (.str _))⟩)
    · cases e
  · obtain ⟨x, y, F, G, rfl, o1, o2⟩ := h.two
    split at e
    · rename_i hl
      cases e
      cases o1 with
      | lst e1 t1 n1 =>
        cases o2 with
        | lst e2 t2 n2 =>
          have l1 := t1.len
          have l2 := t2.len
          refine .inr (.inr (.inl ⟨_, _, _, _, rfl, rfl, e1, e2, by have := big_le; omega, fun p hp => q _ _ (.lst ?_ hp)⟩))
          have p1 := t1.pur hl.2.1
          have p2 := t2.pur hl.2.2
          subst p1; subst p2
          exact t1.app t2
    · cases e
  · obtain ⟨x, y, F, G, rfl, o1, o2⟩ := h.two
    split at e
    · rename_i a b hl
      cases e
      cases o1 with
      | tup e1 t1 =>
        cases o2 with
        | tup e2 t2 =>
          have l1 := t1.len
          have l2 := t2.len
          have p1 := t1.pur hl.2.1
          have p2 := t2.pur hl.2.2
          subst p1; subst p2
          refine .inr (.inr (.inr ⟨_, _, _, _, rfl, rfl, e1.sq, e2.sq, by have := big_le; omega, fun z => ?_, fun _ z => ?_, fun _ _ p o hp hn => q _ _ (.tup (t1.app t2) hp hn)⟩))
          · subst z
            cases t1
            exact q _ _ (.sc (.tup e2 t2))
          · subst z
            cases t2
            rw [List.append_nil] at q
            exact q _ _ (.sc (.tup e1 t1))
    · cases e
  · cases e
theorem pr_sub : PrimR K (u2 (rI0 fun i j => .int (i - j))) pSub := by
  intro vs ds d H Q h e q
  unfold pSub at e
  split at e
  · obtain ⟨x, y, F, G, rfl, o1, o2⟩ := h.two
    cases o1; cases o2; cases e
    exact ⟨_, _, rfl, rfl, q _ _ (.sc (.int _))⟩
  · cases e
def CMulA (i j : Int) : Prop := CMul i j ∨ CMulW i j
theorem CMulA.ok {i j : Int} (h : CMulA i j) : IntMulOk i j := h.elim CMul.ok CMulW.ok
def rMulA (K : PySem.W.Frag) : R2 := fun x y H Q => rI CMulA (fun i j => .int (i * j)) x y H Q ∨ rRep x y H Q ∨ rRepD K x y H Q
theorem op_mulA {X : Cx} : OpR X (binaryOp .Mult) (rMulA X.K) := (opI fun _ _ _ _ _ _ _ hc q => PyProof.Rows.mul_int q hc.ok).or (op_rep.or op_repD)
theorem pr_mul : PrimR K (u2 (rMulA K)) pMul := by
  intro vs ds d H Q h e q
  unfold pMul at e
  split at e
  · obtain ⟨x, y, F, G, rfl, o1, o2⟩ := h.two
    split at e
    · rename_i hm
      cases o1; cases o2; cases e
      refine .inl ⟨_, _, rfl, rfl, ?_, q _ _ (.sc (.int _))⟩
      unfold mulOk at hm
      simp only [Bool.or_eq_true, Bool.and_eq_true, decide_eq_true_eq] at hm
      rcases hm with hm | hm
      · exact .inl hm
      · exact .inr hm
    · cases e
  · obtain ⟨x, y, F, G, rfl, o1, o2⟩ := h.two
    split at e
    · rename_i hm
      cases o2; cases e
      cases o1 with
      | tup e1 t1 =>
        have p1 := t1.pur hm.2.2.2
        subst p1
        have l1 := t1.len
        refine .inr (.inr ⟨_, _, _, rfl, rfl, e1.sq, hm.1, hm.2.1, by omega, fun z => ?_, fun _ _ p o hp hn => q _ _ (.tup (t1.rep _) hp hn)⟩)
        rcases z with z | z
        · subst z
          have e0 := t1.len
          cases t1
          rw [List.flatten_replicate_nil] at q
          exact q _ _ (.sc (.tup e1 .nil))
        · subst z
          simp only [Int.toNat_one, List.replicate_one, List.flatten_singleton] at q
          exact q _ _ (.sc (.tup e1 t1))
    · cases e
  · obtain ⟨x, y, F, G, rfl, o1, o2⟩ := h.two
    split at e
    · rename_i hm
      cases o2; cases e
      cases o1 with
      | lst e1 t1 n1 =>
        have l1 := t1.len
        have p1 := t1.pur hm.2.2.2
        subst p1
        refine .inr (.inl ⟨_, _, _, rfl, rfl, e1, hm.2.1, hm.1, ?_, fun p hp => q _ _ (.lst (t1.rep _) hp)⟩)
        rw [l1]
        exact Nat.le_trans hm.2.2.1 big_le
    · cases e
  · cases e
theorem pr_div : PrimR K (u2 (rI CDivW fun i j => .int (i / j))) pDiv := by
  intro vs ds d H Q h e q
  unfold pDiv at e
  split at e
  · obtain ⟨x, y, F, G, rfl, o1, o2⟩ := h.two
    split at e
    · rename_i hm
      cases o1; cases o2; cases e
      exact ⟨_, _, rfl, rfl, hm, q _ _ (.sc (.int _))⟩
    · cases e
  · cases e
theorem pr_mod : PrimR K (u2 (rI (fun _ j => 0 < j) fun i j => .int (i % j))) pMod := by
  intro vs ds d H Q h e q
  unfold pMod at e
  split at e
  · obtain ⟨x, y, F, G, rfl, o1, o2⟩ := h.two
    split at e
    · rename_i hm
      cases o1; cases o2; cases e
      exact ⟨_, _, rfl, rfl, hm, q _ _ (.sc (.int _))⟩
    · cases e
  · cases e
theorem pr_pow : PrimR K (u2 (rI CPow fun i j => .int (i ^ j.toNat))) pPow := by
  intro vs ds d H Q h e q
  unfold pPow at e
  split at e
  · obtain ⟨x, y, F, G, rfl, o1, o2⟩ := h.two
    split at e
    · rename_i hm
      cases o1; cases o2; cases e
      exact ⟨_, _, rfl, rfl, hm, q _ _ (.sc (.int _))⟩
    · cases e
  · cases e
theorem pr_neg : PrimR K (u1 (rU fun i => .int (-i))) pNeg := by
  intro vs ds d H Q h e q
  unfold pNeg at e
  split at e
  · obtain ⟨x, F, rfl, o1⟩ := h.one
    cases o1; cases e
    exact ⟨_, rfl, q _ _ (.sc (.int _))⟩
  · cases e
theorem pr_lt : PrimR K (u2 (rI0 fun i j => .bl (decide (i < j)))) pLt := by
  intro vs ds d H Q h e q
  unfold pLt at e
  split at e
  · obtain ⟨x, y, F, G, rfl, o1, o2⟩ := h.two
    cases o1; cases o2; cases e
    exact ⟨_, _, rfl, rfl, q _ _ (.sc (.bl _))⟩
  · cases e
theorem pr_le : PrimR K (u2 (rI0 fun i j => .bl (decide (i ≤ j)))) pLe := by
  intro vs ds d H Q h e q
  unfold pLe at e
  split at e
  · obtain ⟨x, y, F, G, rfl, o1, o2⟩ := h.two
    cases o1; cases o2; cases e
    exact ⟨_, _, rfl, rfl, q _ _ (.sc (.bl _))⟩
  · cases e
theorem pr_gt : PrimR K (u2 (rI0 fun i j => .bl (decide (j < i)))) pGt := by
  intro vs ds d H Q h e q
  unfold pGt at e
  split at e
  · obtain ⟨x, y, F, G, rfl, o1, o2⟩ := h.two
    cases o1; cases o2; cases e
    exact ⟨_, _, rfl, rfl, q _ _ (.sc (.bl _))⟩
  · cases e
theorem pr_ge : PrimR K (u2 (rI0 fun i j => .bl (decide (j ≤ i)))) pGe := by
  intro vs ds d H Q h e q
  unfold pGe at e
  split at e
  · obtain ⟨x, y, F, G, rfl, o1, o2⟩ := h.two
    cases o1; cases o2; cases e
    exact ⟨_, _, rfl, rfl, q _ _ (.sc (.bl _))⟩
  · cases e
theorem pr_eq : PrimR K (u2 (rEqD K)) pEq := by
  intro vs ds d H Q h e q
  unfold pEq at e
  split at e
  · obtain ⟨x, y, F, G, rfl, o1, o2⟩ := h.two
    split at e
    · rename_i hm
      cases e
      simp only [shp, Bool.and_eq_true] at hm
      exact ⟨_, _, o1.dp hm.1.2, o2.dp hm.2.2, hm.1.1, hm.2.1, q _ _ (.sc (.bl _))⟩
    · cases e
  · cases e
theorem pr_ne : PrimR K (u2 (rNeD K)) pNe := by
  intro vs ds d H Q h e q
  unfold pNe at e
  split at e
  · obtain ⟨x, y, F, G, rfl, o1, o2⟩ := h.two
    split at e
    · rename_i hm
      cases e
      simp only [shp, Bool.and_eq_true] at hm
      exact ⟨_, _, o1.dp hm.1.2, o2.dp hm.2.2, hm.1.1, hm.2.1, q _ _ (.sc (.bl _))⟩
    · cases e
  · cases e
theorem isN_of {H : Hp} {d : D} {v : V} {F : List Addr} (o : Own K H d v F) : decide (v = V.non) = isN d := by
  cases o <;> rfl
def rIsA : R2 := fun x y H Q => (y = .non ∧ Q (.bl (decide (x = .non))) H) ∨ (∃ a b, x = .bl a ∧ y = .bl b ∧ Q (.bl (decide (a = b))) H)
theorem op_isA {X : Cx} : OpR X (compareOp .Is) rIsA := op_isN.or op_is_bl
theorem pr_is : PrimR K (u2 rIsA) pIsN := by
  intro vs ds d H Q h e q
  unfold pIsN at e
  split at e
  · obtain ⟨x, y, F, G, rfl, o1, o2⟩ := h.two
    cases o2; cases e
    refine .inl ⟨rfl, ?_⟩
    rw [isN_of o1]
    exact q _ _ (.sc (.bl _))
  · obtain ⟨x, y, F, G, rfl, o1, o2⟩ := h.two
    cases o1; cases o2; cases e
    exact .inr ⟨_, _, rfl, rfl, q _ _ (.sc (.bl _))⟩
  · cases e
def rIsNotA : R2 := fun x y H Q => (y = .non ∧ Q (.bl (!decide (x = .non))) H) ∨ (∃ a b, x = .bl a ∧ y = .bl b ∧ Q (.bl (!decide (a = b))) H)
theorem op_isNotA {X : Cx} : OpR X (compareOp .IsNot) rIsNotA := op_notN.or op_isnot_bl
theorem pr_isnot : PrimR K (u2 rIsNotA) pNotN := by
  intro vs ds d H Q h e q
  unfold pNotN at e
  split at e
  · obtain ⟨x, y, F, G, rfl, o1, o2⟩ := h.two
    cases o2; cases e
    refine .inl ⟨rfl, ?_⟩
    rw [isN_of o1]
    exact q _ _ (.sc (.bl _))
  · obtain ⟨x, y, F, G, rfl, o1, o2⟩ := h.two
    cases o1; cases o2; cases e
    exact .inr ⟨_, _, rfl, rfl, q _ _ (.sc (.bl _))⟩
  · cases e
theorem eqV_eqv {H : Hp} {a b : D} {x y : V} {F G : List Addr} (o : Own K H a x F) (o2 : Own K H b y G) (h1 : pIn.fl a = true) (h2 : pIn.fl b = true) : eqV x y = PyData.eqv a b ∧ flatV x = true ∧ flatV y = true := by
  cases o <;> simp [pIn.fl] at h1 <;> cases o2 <;> simp [pIn.fl] at h2 <;> refine ⟨?_, rfl, rfl⟩ <;> simp [eqV, PyData.eqv]
theorem inV_any {H : Hp} {a : D} {x : V} {F : List Addr} (o : Own K H a x F) (h1 : pIn.fl a = true) : ∀ {bs : List D} {ys : List V} {G : List Addr}, OwnA K H bs ys G → bs.all pIn.fl = true →
    inV x ys = (bs.any fun z => PyData.eqv z a) ∧ ys.all flatV = true
  | [], _, _, t, _ => by cases t; exact ⟨rfl, rfl⟩
  | d :: ds, _, _, t, h2 => by
    cases t with
    | cons o' t n =>
      rw [List.all_cons, Bool.and_eq_true] at h2
      obtain ⟨h3, h4⟩ := inV_any o h1 t h2.2
      obtain ⟨e1, e2, e3⟩ := eqV_eqv o' o h2.1 h1
      unfold inV at h3 ⊢
      rw [List.any_cons, List.any_cons, e1, h3, List.all_cons, e2, h4]
      exact ⟨rfl, rfl⟩
def rInA (K : PySem.W.Frag) : R2 := fun x y H Q => rInD K x y H Q ∨ rIn K false x y H Q ∨ (∃ i j, x = .str i ∧ y = .str j ∧ Q (.bl (!(Builtin.Str.occurrences j i 0 j.length 1).isEmpty)) H)
theorem op_inA {X : Cx} (hu : X.A.units + 65 < cLine) : OpR X (compareOp .In) (rInA X.K) := (op_inD hu).or (op_in_seq.or op_in_str)
theorem pr_in : PrimR K (u2 (rInA K)) pIn := by
  intro vs ds d H Q h e q
  unfold pIn at e
  split at e
  · obtain ⟨x, y, F, G, rfl, o1, o2⟩ := h.two
    split at e
    · rename_i hm
      cases e
      simp only [shp, Bool.and_eq_true] at hm
      exact .inl ⟨_, _, o1.dp hm.1.2, o2.dp hm.2.2, hm.1.1, hm.2.1, q _ _ (.sc (.bl _))⟩
    · cases e
  · obtain ⟨x, y, F, G, rfl, o1, o2⟩ := h.two
    split at e
    · rename_i hm
      cases e
      cases o2 with
      | tup e2 t2 =>
        obtain ⟨h3, h4⟩ := inV_any o1 hm.1 t2 hm.2
        refine .inr (.inl ⟨_, _, rfl, .inr e2.sq, ?_, h4, ?_⟩)
        · exact (eqV_eqv o1 o1 hm.1 hm.1).2.1
        · rw [if_neg (by simp), h3]
          exact q _ _ (.sc (.bl _))
    · cases e
  · obtain ⟨x, y, F, G, rfl, o1, o2⟩ := h.two
    cases o1; cases o2; cases e
    exact .inr (.inr ⟨_, _, rfl, rfl, q _ _ (.sc (.bl _))⟩)
  · cases e
end
end Sim
namespace Sim
open PySem PySem.Spec L2
def oV (i : Nat) : O := fun s => match (s[i]?).join with
  | some _ => .ok (.slot i) s
  | none => .bad
def oC (d : D) : O := fun s => .ok (.val d) s
def o1 (f : List D → Option D) (a : O) : O := oPrim f (aCons a aNil)
def o2 (f : List D → Option D) (a b : O) : O := oPrim f (aCons a (aCons b aNil))
def tst (g : O) : T := fun s => (g s).bind fun r s1 => match rd r s1 with
  | some (.bool b) => .ok b s1
  | _ => .bad
def oAnd (g h : O) : O := fun s => (g s).bind fun r s1 => match rd r s1 with
  | some (.bool true) => h s1
  | some (.bool false) => .ok (.val (.bool false)) s1
  | _ => .bad
def oOr (g h : O) : O := fun s => (g s).bind fun r s1 => match rd r s1 with
  | some (.bool true) => .ok (.val (.bool true)) s1
  | some (.bool false) => h s1
  | _ => .bad
def oNot (g : O) : O := fun s => (g s).bind fun r s1 => match rd r s1 with
  | some (.bool b) => .ok (.val (.bool (!b))) s1
  | _ => .bad
def tAnd (t u : T) : T := fun s => (t s).bind fun b s1 => if b = true then u s1 else .ok false s1
def tOr (t u : T) : T := fun s => (t s).bind fun b s1 => if b = true then .ok true s1 else u s1
def tNot (t : T) : T := fun s => (t s).bind fun b s1 => .ok (!b) s1
def oIf (c : T) (a b : O) : O := fun s => (c s).bind fun k s1 => if k = true then a s1 else b s1
def oChain (f f' : List D → Option D) (a b c : O) : O := fun s => (a s).bind fun ra s1 => (b s1).bind fun rb s2 => match rds [ra, rb] s2 with
  | none => .bad
  | some ds => match f ds with
    | some (.bool true) => (c s2).bind fun rc s3 => (match rds [rb, rc] s3 with
      | none => .bad
      | some es => match f' es with
        | none => .bad
        | some d => .ok (.val d) s3)
    | some (.bool false) => .ok (.val (.bool false)) s2
    | _ => .bad
/-- a value for oneself: a slot's only where nothing in it may change -/
def own (r : Rf) (s : Sg) : Option D := match r with
  | .val d => some d
  | .slot i => match (s[i]?).join with
    | none => none
    | some d => if pur d = true then some d else none
def owns : List Rf → Sg → Option (List D)
  | [], _ => some []
  | r :: rs, s => match own r s with
    | none => none
    | some d => match owns rs s with
      | none => none
      | some ds => some (d :: ds)
def oTup (g : AL) : O := fun s => (g s).bind fun rs s1 => match owns rs s1 with
  | none => .bad
  | some ds => if ds.length ≤ 1000000 then .ok (.val (.tuple ds)) s1 else .bad
def oLst (g : AL) : O := fun s => (g s).bind fun rs s1 => match owns rs s1 with
  | none => .bad
  | some ds => if ds.length ≤ 1000000 then .ok (.val (.list ds)) s1 else .bad
def puO (o : Option D) : Option D := match o with
  | none => none
  | some d => if pur d = true then some d else none
def pIx : List D → Option D
  | [.list ds, .int i] => puO (atI ds i)
  | [.tuple ds, .int i] => puO (atI ds i)
  | [.dict [(.none, .list ds)], .int i] => puO (atI ds i)
  | [.str z, .int i] => if z.length ≤ 1000000 then (match atI z.cps.toList i with
    | none => none
    | some c => some (.str ⟨#[c]⟩)) else none
  | _ => none
def cutL {α : Type} (xs : List α) (lo hi : Option Int) : List α := (xs.drop (HT.sIx xs.length 0 lo)).take (HT.sIx xs.length xs.length hi - HT.sIx xs.length 0 lo)
def slD : D → Option Int → Option Int → Option D
  | .list ds, lo, hi => if purs ds = true then some (.list (cutL ds lo hi)) else none
  | .tuple ds, lo, hi => if purs ds = true then some (.tuple (cutL ds lo hi)) else none
  | .dict [(.none, .list ds)], lo, hi => some (.list (cutL ds lo hi))
  | .str z, lo, hi => if z.length ≤ 1000000 then some (.str (cutS z lo hi)) else none
  | _, _, _ => none
def prt (p : Option O) : Sg → Res (Option Int) := match p with
  | none => fun s => .ok none s
  | some g => fun s => (g s).bind fun r s1 => match rd r s1 with
    | some (.int i) => .ok (some i) s1
    | _ => .bad
def oSl (g : O) (lo hi : Option O) : O := fun s => (g s).bind fun r s1 => (prt lo s1).bind fun l s2 => (prt hi s2).bind fun u s3 => match rd r s3 with
  | none => .bad
  | some d => match slD d l u with
    | none => .bad
    | some d' => .ok (.val d') s3
section
variable [Tb] [Vs] {X : Cx} {K : PySem.W.Frag} {H : Hp} {σ : St} {Q : VK}
/-- what reads a slot: a name, or a field of the open object -/
def tSl (i : Nat) : TE := fun σ H Q => ∃ v, σ[i]? = some (some v) ∧ Vs.lnk σ H ∧ Q v H
theorem tsl_of {e : Expr} {i : Nat} (h : PE X e (tVar i)) : PE X e (tSl i) := pe_imp h fun _ _ _ ⟨v, a, _, q⟩ => ⟨v, a, q⟩
theorem so_sl {e : Expr} {i : Nat} (h : PE X e (tSl i)) : SimO X e (oV i) := by
  refine pe_imp h fun σ H Q h => ?_
  obtain ⟨s, Fs, r, s', R, e, q⟩ := h
  unfold oV at e
  split at e
  · rename_i d hd
    cases e
    obtain ⟨v, hv, o⟩ := R.has i d (join_some hd)
    exact ⟨v, hv, R.lnk.1, q v H Fs [] R (.refl _ _) (.slot hv) (by intro a h; cases h)⟩
  · cases e
theorem so_var {i : Nat} {x : Str} {pos : Pos} (h : PE X (.Name x pos) (tVar i)) : SimO X (.Name x pos) (oV i) := by
  refine pe_imp h fun σ H Q h => ?_
  obtain ⟨s, Fs, r, s', R, e, q⟩ := h
  unfold oV at e
  split at e
  · rename_i d hd
    cases e
    obtain ⟨v, hv, o⟩ := R.has i d (join_some hd)
    exact ⟨v, hv, q v H Fs [] R (.refl _ _) (.slot hv) (by intro a h; cases h)⟩
  · cases e
theorem tO_c {d : D} {v : V} (o : ∀ H, Own K H d v []) (h : tO K (oC d) σ H Q) : tC v σ H Q := by
  obtain ⟨s, Fs, r, s', R, e, q⟩ := h
  cases e
  exact q v H Fs [] R (.refl _ _) (.val ⟨o H, fun _ _ _ z => by cases z⟩) (by intro a h; cases h)
theorem so_int {i : Int} {j : Nat} {pos : Pos} : SimO X (.Constant (.int i) j pos) (oC (.int i)) := pe_imp pe_int fun _ _ _ h => tO_c (fun _ => .int i) h
theorem so_bl {b : Bool} {j : Nat} {pos : Pos} : SimO X (.Constant (.bool b) j pos) (oC (.bool b)) := pe_imp pe_bl fun _ _ _ h => tO_c (fun _ => .bl b) h
theorem so_non {j : Nat} {pos : Pos} : SimO X (.Constant .none j pos) (oC .none) := pe_imp pe_non fun _ _ _ h => tO_c (fun _ => .non) h
theorem so_str {x : Str} {j : Nat} {pos : Pos} : SimO X (.Constant (.str x) j pos) (oC (.str x)) := pe_imp pe_str fun _ _ _ h => tO_c (fun _ => .str x) h
variable {a b c : Expr} {ga gb gc : O} {pos : Pos}
theorem so_bin {op : Operator} {r : R2} {f : List D → Option D} (ho : OpR X (binaryOp op) r) (hp : PrimR X.K (u2 r) f) (ha : SimO X a ga) (hb : SimO X b gb) : SimO X (.BinOp a op b pos) (o2 f ga gb) :=
  pe_imp (pe_op ho ha hb) fun _ _ _ h => by have z := tA2 (prim hp h); exact z
theorem so_un {op : UnaryOp} {r : V → Hp → VK → Prop} {f : List D → Option D} (ho : UnR X (unaryOp op) r) (hp : PrimR X.K (u1 r) f) (ha : SimO X a ga) : SimO X (.UnaryOp op a pos) (o1 f ga) :=
  pe_imp (pe_un ho ha) fun _ _ _ h => by have z := tA1 (prim hp h); exact z
theorem so_cmp {op : CmpOp} {r : R2} {f : List D → Option D} (ho : OpR X (compareOp op) r) (hp : PrimR X.K (u2 r) f) (ha : SimO X a ga) (hb : SimO X b gb) (hm : behindInMarks op b = false) : SimO X (.Compare a [op] [b] pos) (o2 f ga gb) :=
  pe_imp (pe_cmpR ho ha hb hm) fun _ _ _ h => by have z := tA2 (prim hp h); exact z
theorem tT_tst {g : O} {Q : Bool → Hp → Prop} (h : tT K (tst g) σ H Q) : tO K g σ H fun x H1 => ∃ k, x = .bl k ∧ Q k H1 := by
  obtain ⟨s, Fs, b, s', R, e, q⟩ := h
  obtain ⟨r, s1, e1, e⟩ := bind_inv e
  refine ⟨s, Fs, r, s1, R, e1, fun v H1 Fs1 F R1 E1 k1 n1 => ?_⟩
  split at e
  · rename_i b' hb
    cases e
    obtain ⟨F', o⟩ := k1.dp R1 hb
    cases o
    exact ⟨_, rfl, q H1 Fs1 R1 E1⟩
  · cases e
theorem st_cmp {op : CmpOp} {r : R2} {f : List D → Option D} (ho : OpR X (compareOp op) r) (hp : PrimR X.K (u2 r) f) (ha : SimO X a ga) (hb : SimO X b gb) (hm : behindInMarks op b = false) : SimT X (.Compare a [op] [b] pos) (tst (o2 f ga gb)) :=
  pt_imp (pt_cmpR ho ha hb hm) fun _ _ _ h => by have z := tA2 (prim hp (tT_tst h)); exact z
theorem tT_and {t u : T} {Q : Bool → Hp → Prop} (h : tT K (tAnd t u) σ H Q) : L2.tAnd (tT K t) (tT K u) σ H Q := by
  obtain ⟨s, Fs, b, s', R, e, q⟩ := h
  obtain ⟨b1, s1, e1, e⟩ := bind_inv e
  refine ⟨s, Fs, b1, s1, R, e1, fun H1 Fs1 R1 E1 => ?_⟩
  cases b1 with
  | true => exact ⟨s1, Fs1, b, s', R1, e, fun H2 Fs2 R2 E2 => q H2 Fs2 R2 (E1.trans E2)⟩
  | false => cases e; exact q H1 Fs1 R1 E1
theorem tT_or {t u : T} {Q : Bool → Hp → Prop} (h : tT K (tOr t u) σ H Q) : L2.tOr (tT K t) (tT K u) σ H Q := by
  obtain ⟨s, Fs, b, s', R, e, q⟩ := h
  obtain ⟨b1, s1, e1, e⟩ := bind_inv e
  refine ⟨s, Fs, b1, s1, R, e1, fun H1 Fs1 R1 E1 => ?_⟩
  cases b1 with
  | false => exact ⟨s1, Fs1, b, s', R1, e, fun H2 Fs2 R2 E2 => q H2 Fs2 R2 (E1.trans E2)⟩
  | true => cases e; exact q H1 Fs1 R1 E1
theorem tT_not {t : T} {Q : Bool → Hp → Prop} (h : tT K (tNot t) σ H Q) : L2.tNot (tT K t) σ H Q := by
  obtain ⟨s, Fs, b, s', R, e, q⟩ := h
  obtain ⟨b1, s1, e1, e⟩ := bind_inv e
  refine ⟨s, Fs, b1, s1, R, e1, fun H1 Fs1 R1 E1 => ?_⟩
  cases e
  exact q H1 Fs1 R1 E1
/-- and, or, whatever the whole is -/
def SimW (X : Cx) (e : Expr) (g : T) : Prop := PW X e (tT X.K g)
theorem pw_imp {e : Expr} {t t' : TT} (h : PW X e t) (i : ∀ σ H Q, t' σ H Q → t σ H Q) : PW X e t' := ⟨fun wh pins s σ H Q I q => h.run wh pins s σ H Q I (i σ H Q q)⟩
theorem sw_and1 {t : T} (ha : SimT X a t) : SimW X (.BoolOp .And [a] pos) t := pw_and1 ha
theorem sw_or1 {t : T} (ha : SimT X a t) : SimW X (.BoolOp .Or [a] pos) t := pw_or1 ha
theorem sw_and {rest : List Expr} {t u : T} (ha : SimT X a t) (hb : SimW X (.BoolOp .And (b :: rest) pos) u) : SimW X (.BoolOp .And (a :: b :: rest) pos) (tAnd t u) := pw_imp (pw_and ha hb) fun _ _ _ h => tT_and h
theorem sw_or {rest : List Expr} {t u : T} (ha : SimT X a t) (hb : SimW X (.BoolOp .Or (b :: rest) pos) u) : SimW X (.BoolOp .Or (a :: b :: rest) pos) (tOr t u) := pw_imp (pw_or ha hb) fun _ _ _ h => tT_or h
theorem st_w {e : Expr} {t : T} (h : SimW X e t) : SimT X e t := PW.pt h
theorem st_not {t : T} (ha : SimT X a t) : SimT X (.UnaryOp .Not a pos) (tNot t) := pt_imp (pt_not ha) fun _ _ _ h => tT_not h
theorem tO_and {g h : O} (z : tO K (oAnd g h) σ H Q) : tAndV (tO K g) (tO K h) σ H Q := by
  obtain ⟨s, Fs, r, s', R, e, q⟩ := z
  obtain ⟨r1, s1, e1, e⟩ := bind_inv e
  refine ⟨s, Fs, r1, s1, R, e1, fun v H1 Fs1 F R1 E1 k1 n1 => ?_⟩
  split at e
  · rename_i hb
    obtain ⟨F', o⟩ := k1.dp R1 hb
    cases o
    exact ⟨true, rfl, s1, Fs1, r, s', R1, e, fun v H2 Fs2 F2 R2 E2 k2 n2 => q v H2 Fs2 F2 R2 (E1.trans E2) k2 fun a ha => E1.chg.there a (n2 a ha)⟩
  · rename_i hb
    obtain ⟨F', o⟩ := k1.dp R1 hb
    cases o
    cases e
    exact ⟨false, rfl, q _ H1 Fs1 [] R1 E1 (.val ⟨.bl _, fun _ _ _ z => by cases z⟩) (by intro a h; cases h)⟩
  · cases e
theorem tO_not {g : O} (z : tO K (oNot g) σ H Q) : tNotV (tO K g) σ H Q := by
  obtain ⟨s, Fs, r, s', R, e, q⟩ := z
  obtain ⟨r1, s1, e1, e⟩ := bind_inv e
  refine ⟨s, Fs, r1, s1, R, e1, fun v H1 Fs1 F R1 E1 k1 n1 => ?_⟩
  split at e
  · rename_i b hb
    obtain ⟨F', o⟩ := k1.dp R1 hb
    cases o
    cases e
    exact ⟨b, rfl, q _ H1 Fs1 [] R1 E1 (.val ⟨.bl _, fun _ _ _ z => by cases z⟩) (by intro a h; cases h)⟩
  · cases e
theorem so_one {op : BoolOp} (h : SimO X a ga) : SimO X (.BoolOp op [a] pos) ga := pe_one h
theorem so_and {rest : List Expr} (ha : SimO X a ga) (hb : SimO X (.BoolOp .And (b :: rest) pos) gb) : SimO X (.BoolOp .And (a :: b :: rest) pos) (oAnd ga gb) := pe_imp (pe_and ha hb) fun _ _ _ h => tO_and h
theorem so_not (ha : SimO X a ga) : SimO X (.UnaryOp .Not a pos) (oNot ga) := pe_imp (pe_not ha) fun _ _ _ h => tO_not h
theorem rfs2 {Fs : Fp} {r1 r2 : Rf} {x y : V} {F G : List Addr} (k1 : RfOk K H σ Fs r1 x F) (k2 : RfOk K H σ Fs r2 y G) {s : Sg} (R : RelS K H s σ Fs) {ds : List D} (e : rds [r1, r2] s = some ds) : RdA K H [x, y] ds := by
  unfold rds at e
  split at e
  · cases e
  · rename_i d1 h1
    split at e
    · cases e
    · rename_i es h2
      cases e
      obtain ⟨F1, o1⟩ := k1.dp R h1
      unfold rds at h2
      split at h2
      · cases h2
      · rename_i d2 h3
        cases h2
        obtain ⟨F2, o2⟩ := k2.dp R h3
        exact .cons o1 (.cons o2 .nil)
theorem tO_chain {r r' : R2} {f f' : List D → Option D} (hp : PrimR K (u2 r) f) (hp' : PrimR K (u2 r') f') (z : tO K (oChain f f' ga gb gc) σ H Q) : tChain r r' (tO K ga) (tO K gb) (tO K gc) σ H Q := by
  obtain ⟨s, Fs, rf, s', R, e, q⟩ := z
  obtain ⟨r1, s1, e1, e⟩ := bind_inv e
  refine ⟨s, Fs, r1, s1, R, e1, fun x H1 Fs1 F1 R1 E1 k1 n1 => ?_⟩
  obtain ⟨r2, s2, e2, e⟩ := bind_inv e
  refine ⟨s1, Fs1, r2, s2, R1, e2, fun y H2 Fs2 F2 R2 E2 k2 n2 => ?_⟩
  split at e
  · cases e
  · rename_i ds hds
    have rr := rfs2 (k1.ev E2) k2 R2 hds
    split at e
    · rename_i hf
      refine hp [x, y] ds _ H2 _ rr hf fun v H3 hv => ?_
      obtain ⟨R3, E3, F3, k3, n3⟩ := hv.ok R2
      cases k3 with
      | val A3 =>
        cases A3.own
        refine ⟨true, rfl, iteT ?_⟩
        obtain ⟨r4, s4, e4, e⟩ := bind_inv e
        refine ⟨s2, Fs2, r4, s4, R3, e4, fun w H4 Fs4 F4 R4 E4 k4 n4 => ?_⟩
        split at e
        · cases e
        · rename_i es hes
          split at e
          · cases e
          · rename_i d hd
            cases e
            have rr' := rfs2 ((k2.ev E3).ev E4) k4 R4 hes
            refine hp' [y, w] es d H4 Q rr' hd fun v H5 hv => ?_
            obtain ⟨R5, E5, F5, k5, n5⟩ := hv.ok R4
            exact q v H5 Fs4 F5 R5 ((((E1.trans E2).trans E3).trans E4).trans E5) k5 fun a ha => (((E1.trans E2).trans E3).trans E4).chg.there a (n5 a ha)
    · rename_i hf
      cases e
      refine hp [x, y] ds _ H2 _ rr hf fun v H3 hv => ?_
      obtain ⟨R3, E3, F3, k3, n3⟩ := hv.ok R2
      have k3' := k3
      cases k3 with
      | val A3 =>
        cases A3.own
        exact ⟨false, rfl, iteF (q _ H3 Fs2 _ R3 ((E1.trans E2).trans E3) k3' (by intro a h; cases h))⟩
    · cases e
theorem so_chain {op op' : CmpOp} {r r' : R2} {f f' : List D → Option D} (ho : OpR X (compareOp op) r) (hp : PrimR X.K (u2 r) f) (ho' : OpR X (compareOp op') r') (hp' : PrimR X.K (u2 r') f') (ha : SimO X a ga) (hb : SimO X b gb) (hc : SimO X c gc)
    (hm : lastMarks [op, op'] [b, c] = false := by with_unfolding_all rfl) : SimO X (.Compare a [op, op'] [b, c] pos) (oChain f f' ga gb gc) := pe_imp (pe_chain ho ho' ha hb hc hm) fun _ _ _ h => tO_chain hp hp' h
theorem st_chain {op op' : CmpOp} {r r' : R2} {f f' : List D → Option D} (ho : OpR X (compareOp op) r) (hp : PrimR X.K (u2 r) f) (ho' : OpR X (compareOp op') r') (hp' : PrimR X.K (u2 r') f') (ha : SimO X a ga) (hb : SimO X b gb) (hc : SimO X c gc)
    (hm : lastMarks [op, op'] [b, c] = false := by with_unfolding_all rfl) : SimT X (.Compare a [op, op'] [b, c] pos) (tst (oChain f f' ga gb gc)) := pt_imp (pt_chain ho ho' ha hb hc hm) fun _ _ _ h => by have z := tO_chain hp hp' (tT_tst h); exact z
theorem Rfs.own {s : Sg} {Fs : Fp} (R : RelS K H s σ Fs) {rs : List Rf} {vs : List V} {Gs : List (List Addr)} (r : Rfs K H σ Fs rs vs Gs) : ∀ {ds : List D}, owns rs s = some ds → OwnA K H ds vs Gs.flatten ∧ ∀ i a, a ∈ Fs i → a ∉ Gs.flatten := by
  induction r with
  | nil => intro ds e; cases e; exact ⟨.nil, by simp⟩
  | @val d v F rs vs Gs A n _ ih =>
    intro ds e
    unfold owns at e
    simp only [Sim.own] at e
    split at e
    · cases e
    · rename_i es h
      cases e
      obtain ⟨h1, h2⟩ := ih h
      rw [List.flatten_cons]
      refine ⟨.cons A.own h1 fun a ha hb => ?_, fun i a hi ha => ?_⟩
      · obtain ⟨G, hG, hb⟩ := List.mem_flatten.mp hb
        exact n G hG a ha hb
      · rcases List.mem_append.mp ha with ha | ha
        · exact A.dis i a hi ha
        · exact h2 i a hi ha
  | @slot i v rs vs Gs hv _ ih =>
    intro ds e
    unfold owns at e
    simp only [Sim.own] at e
    split at e
    · cases e
    · rename_i d hd
      split at e
      · cases e
      · rename_i es h
        cases e
        split at hd
        · cases hd
        · rename_i d' hd'
          split at hd
          · rename_i hp
            cases hd
            obtain ⟨h1, h2⟩ := ih h
            obtain ⟨v', hv', o⟩ := R.has i d (join_some hd')
            rw [hv] at hv'
            cases hv'
            have e0 := o.pur hp
            rw [e0] at o
            rw [List.flatten_cons]
            exact ⟨OwnA.cons (F := []) o h1 (by simp), h2⟩
          · cases hd
theorem tO_tup {g : AL} (z : tO K (oTup g) σ H Q) : tTupD (tA K g) σ H Q := by
  obtain ⟨s, Fs, rf, s', R, e, q⟩ := z
  obtain ⟨rs, s1, e1, e⟩ := bind_inv e
  refine ⟨s, Fs, rs, s1, R, e1, fun vs H1 Fs1 Gs R1 E1 k1 n1 => ?_⟩
  split at e
  · cases e
  · rename_i ds hds
    split at e
    · rename_i hl
      cases e
      obtain ⟨o, dj⟩ := k1.own R1 hds
      refine ⟨by rw [o.len]; exact Nat.le_trans hl big_le, fun p ob hp hn => ?_⟩
      have sm : Same H1 (upd H1 p (.frz ob (.tup vs))) := same_new hp
      refine q _ _ Fs1 Gs.flatten (R1.same sm) (E1.trans (.same _ sm)) (.val ⟨.tup (SqD.of upd_same hn) (o.chg (Fa := fun _ => False) (.same sm) fun _ _ z => z), dj⟩) fun a ha => ?_
      obtain ⟨G, hG, hb⟩ := List.mem_flatten.mp ha
      exact n1 G hG a hb
    · cases e
theorem tO_lst {g : AL} (z : tO K (oLst g) σ H Q) : tLst (tA K g) σ H Q := by
  obtain ⟨s, Fs, rf, s', R, e, q⟩ := z
  obtain ⟨rs, s1, e1, e⟩ := bind_inv e
  refine ⟨s, Fs, rs, s1, R, e1, fun vs H1 Fs1 Gs R1 E1 k1 n1 => ?_⟩
  split at e
  · cases e
  · rename_i ds hds
    split at e
    · rename_i hl
      cases e
      obtain ⟨o, dj⟩ := k1.own R1 hds
      refine ⟨by rw [o.len]; exact Nat.le_trans hl big_le, fun p hp => ?_⟩
      have sm : Same H1 (upd H1 p (.lst vs)) := same_new hp
      have np : p ∉ Gs.flatten := fun z => by
        obtain ⟨xs, w⟩ := o.mem p z
        rw [hp] at w; cases w
      refine q _ _ Fs1 (p :: Gs.flatten) (R1.same sm) (E1.trans (.same _ sm)) (.val ⟨.lst upd_same (o.chg (Fa := fun _ => False) (.same sm) fun _ _ z => z) np, fun i a hi ha => ?_⟩) fun a ha => ?_
      · rcases List.mem_cons.mp ha with rfl | ha
        · obtain ⟨xs, w⟩ := R1.mem hi
          rw [hp] at w; cases w
        · exact dj i a hi ha
      · rcases List.mem_cons.mp ha with rfl | ha
        · exact E1.chg.there _ hp
        · obtain ⟨G, hG, hb⟩ := List.mem_flatten.mp ha
          exact n1 G hG a hb
    · cases e
theorem so_tup {es : List Expr} {k : Nat} {g : AL} (h : SimA X es g) : SimO X (.Tuple es k pos) (oTup g) := pe_imp (pe_tupD h) fun _ _ _ h => tO_tup h
theorem so_lst {es : List Expr} {g : AL} (h : SimA X es g) : SimO X (.List es pos) (oLst g) := pe_imp (pe_lst h) fun _ _ _ h => tO_lst h
theorem atI_own {ds : List D} {vs : List V} {F : List Addr} (t : OwnA K H ds vs F) {i : Int} {d : D} (e : puO (atI ds i) = some d) : ∃ v, atI vs i = some v ∧ Own K H d v [] ∧ pur d = true := by
  unfold puO at e
  split at e
  · cases e
  · rename_i d' h
    split at e
    · rename_i hp
      cases e
      unfold atI at h ⊢
      rw [t.len]
      cases hj : ixN ds.length i with
      | none => rw [hj] at h; cases h
      | some j =>
        rw [hj] at h
        obtain ⟨v, G, hv, o, _⟩ := t.get j d h
        have e0 := o.pur hp
        rw [e0] at o
        exact ⟨v, hv, o, hp⟩
    · cases e
theorem pr_ix : PrimR K (u2 (rIx K)) pIx := by
  intro vs ds d H Q h e q
  unfold pIx at e
  split at e
  · obtain ⟨x, y, F, G, rfl, o1, o2⟩ := h.two
    cases o2
    cases o1 with
    | lst h1 t n =>
      obtain ⟨v, hv, o, hp⟩ := atI_own t e
      exact .inl ⟨_, _, _, v, rfl, rfl, SqL.of h1, hv, q _ _ (.sc o)⟩
  · obtain ⟨x, y, F, G, rfl, o1, o2⟩ := h.two
    cases o2
    cases o1 with
    | tup h1 t =>
      obtain ⟨v, hv, o, hp⟩ := atI_own t e
      exact .inr (.inl ⟨_, _, _, v, rfl, rfl, h1.sq, hv, q _ _ (.sc o)⟩)
  · obtain ⟨x, y, F, G, rfl, o1, o2⟩ := h.two
    cases o2
    cases o1 with
    | frz h1 t =>
      obtain ⟨v, hv, o, hp⟩ := atI_own t e
      exact .inl ⟨_, _, _, v, rfl, rfl, h1.sq, hv, q _ _ (.sc o)⟩
  · obtain ⟨x, y, F, G, rfl, o1, o2⟩ := h.two
    cases o2; cases o1
    split at e
    · rename_i hz
      split at e
      · cases e
      · rename_i c hc
        cases e
        exact .inr (.inr ⟨_, _, c, rfl, rfl, Nat.le_trans hz big_le, hc, q _ _ (.sc (.str _))⟩)
    · cases e
  · cases e
theorem so_ix (ha : SimO X a ga) (hb : SimO X b gb) (hs : PlainIx b := by exact fun _ _ => rfl) : SimO X (.Subscript a b pos) (o2 pIx ga gb) := pe_imp (pe_ix ix_seq ha hb hs) fun _ _ _ h => by have z := tA2 (prim pr_ix h); exact z
def SimP (X : Cx) (e : Option Expr) (p : Option O) : Prop :=
  PO X e fun σ H Q => ∃ s Fs o s', RelS X.K H s σ Fs ∧ prt p s = .ok o s' ∧ ∀ H' Fs', RelS X.K H' s' σ Fs' → Ev H Fs H' Fs' → Q o H'
theorem po_imp {e : Option Expr} {t t' : TO} (h : PO X e t) (i : ∀ σ H Q, t' σ H Q → t σ H Q) : PO X e t' := ⟨fun pins s σ H Q I q => h.run pins s σ H Q I (i σ H Q q)⟩
theorem sp_none : SimP X none none := po_imp po_none fun σ H Q ⟨s, Fs, o, s', R, e, q⟩ => by
  cases e
  exact q H Fs R (.refl _ _)
theorem sp_some (ha : SimO X a ga) : SimP X (some a) (some ga) := po_imp (po_some ha) fun σ H Q ⟨s, Fs, o, s', R, e, q⟩ => by
  obtain ⟨r, s1, e1, e⟩ := bind_inv e
  refine ⟨s, Fs, r, s1, R, e1, fun v H1 Fs1 F R1 E1 k1 n1 => ?_⟩
  split at e
  · rename_i i hb
    cases e
    obtain ⟨F', o⟩ := k1.dp R1 hb
    cases o
    exact ⟨_, rfl, q H1 Fs1 R1 E1⟩
  · cases e
def rSlAll (K : PySem.W.Frag) : V → Option Int → Option Int → Hp → VK → Prop := fun x lo hi H Q => rSlL K x lo hi H Q ∨ rSlD K x lo hi H Q ∨ rSlS x lo hi H Q
theorem cutL_whole {α : Type} {xs : List α} {lo hi : Option Int} (h : HT.sIx xs.length 0 lo = 0 ∧ HT.sIx xs.length xs.length hi = xs.length) : cutL xs lo hi = xs := by
  unfold cutL
  rw [h.1, h.2]
  simp
theorem OwnA.cut {ds : List D} {vs : List V} (t : OwnA K H ds vs []) (lo hi : Option Int) : OwnA K H (cutL ds lo hi) (cutV vs lo hi) [] := by
  unfold cutL cutV
  rw [t.len]
  exact (t.drop _).take _
theorem sl_all {d d' : D} {l u : Option Int} {v : V} {F : List Addr} (o : Own K H d v F) (e : slD d l u = some d') (q : ∀ v H', NewV K H d' v H' → Q v H') : rSlAll K v l u H Q := by
  unfold slD at e
  split at e
  · split at e
    · rename_i hp
      cases e
      cases o with
      | lst h1 t n =>
        have e0 := t.pur hp
        subst e0
        exact .inl ⟨_, _, rfl, SqL.of h1, fun p hp => q _ _ (.lst (t.cut l u) hp)⟩
    · cases e
  · split at e
    · rename_i hp
      cases e
      cases o with
      | tup h1 t =>
        have e0 := t.pur hp
        subst e0
        refine .inr (.inl ⟨_, _, rfl, h1.sq, fun hw => q _ _ (.sc ?_), fun _ p ob hp hn => q _ _ (.tup (t.cut l u) hp hn)⟩)
        rw [t.len] at hw
        rw [cutL_whole hw]
        exact .tup h1 t
    · cases e
  · cases e
    cases o with
    | frz h1 t => exact .inl ⟨_, _, rfl, h1.sq, fun p hp => q _ _ (.lst (t.cut l u) hp)⟩
  · split at e
    · rename_i hz
      cases e
      cases o
      exact .inr (.inr ⟨_, rfl, Nat.le_trans hz big_le, q _ _ (.sc (.str _))⟩)
    · cases e
  · cases e
theorem so_slice {lo hi : Option Expr} {l u : Option O} {p2 : Pos} (ha : SimO X a ga) (hl : SimP X lo l) (hu : SimP X hi u) : SimO X (.Subscript a (.Slice lo hi none p2) pos) (oSl ga l u) := by
  refine pe_imp (pe_slice (r := rSlAll X.K) (sl_list.or (sl_tupD.or sl_str)) ha hl hu) fun σ H Q z => ?_
  obtain ⟨s, Fs, rf, s', R, e, q⟩ := z
  obtain ⟨r, s1, e1, e⟩ := bind_inv e
  refine ⟨s, Fs, r, s1, R, e1, fun v H1 Fs1 F R1 E1 k1 n1 => ?_⟩
  obtain ⟨l', s2, e2, e⟩ := bind_inv e
  refine ⟨s1, Fs1, l', s2, R1, e2, fun H2 Fs2 R2 E2 => ?_⟩
  obtain ⟨u', s3, e3, e⟩ := bind_inv e
  refine ⟨s2, Fs2, u', s3, R2, e3, fun H3 Fs3 R3 E3 => ?_⟩
  split at e
  · cases e
  · rename_i d hd
    split at e
    · cases e
    · rename_i d' hd'
      cases e
      obtain ⟨F', o⟩ := ((k1.ev E2).ev E3).dp R3 hd
      refine sl_all o hd' fun v' H4 hv => ?_
      obtain ⟨R4, E4, F4, k4, n4⟩ := hv.ok R3
      exact q v' H4 Fs3 F4 R4 (((E1.trans E2).trans E3).trans E4) k4 fun a ha => ((E1.trans E2).trans E3).chg.there a (n4 a ha)
theorem so_callB {x : Str} {p : Pos} {e : Expr} {es : List Expr} {g : AL} {id : String} {r : List V → Hp → VK → Prop} {f : List D → Option D} (hc : CallR X (.builtin id) r) (hp : PrimR X.K r f) (hg : Gl X x) (hm : X.mg x = none) (hv : bootBuiltins x = some (.builtin id)) (ha : SimA X (e :: es) g)
    (hn : x ≠ "__name__" := by decide) (hdb : (x == ("__debug__" : Str)) = false := by decide) (he : starEach (e :: es) X.env = (false, eval e X.env) :: starEach es X.env := by rfl) (hpl : (backTo pos (starEach es X.env)).any (·.1) = false := by rfl) :
    SimO X (.Call (.Name x p) (e :: es) [] pos) (oPrim f g) := pe_imp (pe_callB hc hg hm hv ha hn hdb he hpl) fun _ _ _ h => prim hp h
theorem so_callTy {x : Str} {p : Pos} {e : Expr} {es : List Expr} {g : AL} {T : String} {r : List V → Hp → VK → Prop} {f : List D → Option D} (hc : CallR X (.type T) r) (hp : PrimR X.K r f) (hg : Gl X x) (hm : X.mg x = none) (hv : bootBuiltins x = some (.type T)) (ha : SimA X (e :: es) g)
    (hn : x ≠ "__name__" := by decide) (hdb : (x == ("__debug__" : Str)) = false := by decide) (he : starEach (e :: es) X.env = (false, eval e X.env) :: starEach es X.env := by rfl) (hpl : (backTo pos (starEach es X.env)).any (·.1) = false := by rfl) :
    SimO X (.Call (.Name x p) (e :: es) [] pos) (oPrim f g) := pe_imp (pe_callTy hc hg hm hv ha hn hdb he hpl) fun _ _ _ h => prim hp h
end
end Sim
namespace Sim
open PySem PySem.Spec L2
def upF (Fs : Fp) (i : Nat) (F : List Addr) : Fp := fun j => if j = i then F else Fs j
def Lk (lk : Nat → Bool) (σ σ' : St) : Prop := ∀ i, lk i = true → σ'[i]? = σ[i]?
theorem Lk.refl (lk : Nat → Bool) (σ : St) : Lk lk σ σ := fun _ _ => rfl
theorem Lk.trans {lk : Nat → Bool} {σ σ1 σ' : St} (a : Lk lk σ σ1) (b : Lk lk σ1 σ') : Lk lk σ σ' := fun i h => (b i h).trans (a i h)
theorem Lk.set {lk : Nat → Bool} {σ : St} {i : Nat} {v : Option V} (h : lk i = false) : Lk lk σ (σ.set i v) := fun j hj => by
  rw [List.getElem?_set_ne]
  intro e
  subst e
  rw [h] at hj
  cases hj
section
variable [Tb] [Vs] {K : PySem.W.Frag} {H H1 H' : Hp} {s s' : Sg} {σ σ' : St} {Fs Fs1 Fs' : Fp}
/-- a slot gets what stands apart -/
theorem RelS.put (R : RelS K H s σ Fs) {d : D} {v : V} {F : List Addr} (A : Apart K H Fs d v F) (i : Nat) (ko : Vs.ok i) : ∃ Fs', RelS K H (s.set i (some d)) (σ.set i (some v)) Fs' ∧ ∀ j a, a ∈ Fs' j → (a ∈ Fs j ∧ j ≠ i) ∨ (a ∈ F ∧ j = i) := by
  by_cases hi : i < s.length
  · refine ⟨upF Fs i F, ⟨by rw [List.length_set, List.length_set, R.len], fun j d' e => ?_, fun j h => ?_, fun j k a h1 h2 => ?_, ⟨(Vs.put ko).mpr R.lnk.1, R.lnk.2⟩, fun j h d' e => ?_⟩, fun j a h => ?_⟩
    · by_cases hj : j = i
      · subst hj
        rw [List.getElem?_set_self hi] at e
        cases e
        refine ⟨v, by rw [List.getElem?_set_self (by rw [← R.len]; exact hi)], ?_⟩
        unfold upF
        rw [if_pos rfl]
        exact A.own
      · rw [List.getElem?_set_ne (Ne.symm hj)] at e
        obtain ⟨v', hv', o⟩ := R.has j d' e
        refine ⟨v', by rw [List.getElem?_set_ne (Ne.symm hj)]; exact hv', ?_⟩
        unfold upF
        rw [if_neg hj]
        exact o
    · unfold upF
      by_cases hj : j = i
      · subst hj
        exact absurd (List.getElem?_set_self hi) (h d)
      · rw [if_neg hj]
        exact R.off j fun d' e => h d' (by rw [List.getElem?_set_ne (Ne.symm hj)]; exact e)
    · unfold upF at h1 h2
      split at h1
      · split at h2
        · omega
        · exact absurd h1 (A.dis k a h2)
      · split at h2
        · exact absurd h2 (A.dis j a h1)
        · exact R.dis j k a h1 h2
    · by_cases hj : j = i
      · subst hj
        exact h (Vs.nil ko)
      · rw [List.getElem?_set_ne (Ne.symm hj)] at e
        exact R.bse j h d' e
    · unfold upF at h
      split at h
      · exact .inr ⟨h, by assumption⟩
      · exact .inl ⟨h, by assumption⟩
  · have e1 : s.set i (some d) = s := by rw [List.set_eq_of_length_le (by omega)]
    have e2 : σ.set i (some v) = σ := by rw [List.set_eq_of_length_le (by rw [← R.len]; omega)]
    rw [e1, e2]
    refine ⟨Fs, R, fun j a h => .inl ⟨h, ?_⟩⟩
    rintro rfl
    rw [R.off j (fun d e => by rw [List.getElem?_eq_none (by omega)] at e; cases e), Vs.nil ko] at h
    cases h
theorem RelS.fp0 (R : RelS K H s σ Fs) {i : Nat} {d0 : D} (e0 : s[i]? = some (some d0)) : Vs.fp i = [] := by
  cases e : Vs.fp i with
  | nil => rfl
  | cons a l => exact absurd e0 (R.bse i (by rw [e]; intro z; cases z) d0)
/-- what it held is told of a slot anew -/
theorem RelS.reput (R : RelS K H s σ Fs) {d : D} {v : V} {F : List Addr} (A : Apart K H Fs d v F) (i : Nat) (hv : σ[i]? = some (some v)) (fp : Vs.fp i = []) : ∃ Fs', RelS K H (s.set i (some d)) σ Fs' ∧ ∀ j a, a ∈ Fs' j → (a ∈ Fs j ∧ j ≠ i) ∨ (a ∈ F ∧ j = i) := by
  have hi : i < s.length := by rw [R.len]; exact (List.getElem?_eq_some_iff.mp hv).1
  refine ⟨upF Fs i F, ⟨by rw [List.length_set, R.len], fun j d' e => ?_, fun j h => ?_, fun j k a h1 h2 => ?_, R.lnk, fun j h d' e => ?_⟩, fun j a h => ?_⟩
  · by_cases hj : j = i
    · subst hj
      rw [List.getElem?_set_self hi] at e
      cases e
      refine ⟨v, hv, ?_⟩
      unfold upF
      rw [if_pos rfl]
      exact A.own
    · rw [List.getElem?_set_ne (Ne.symm hj)] at e
      obtain ⟨v', hv', o⟩ := R.has j d' e
      refine ⟨v', hv', ?_⟩
      unfold upF
      rw [if_neg hj]
      exact o
  · unfold upF
    by_cases hj : j = i
    · subst hj
      exact absurd (List.getElem?_set_self hi) (h d)
    · rw [if_neg hj]
      exact R.off j fun d' e => h d' (by rw [List.getElem?_set_ne (Ne.symm hj)]; exact e)
  · unfold upF at h1 h2
    split at h1
    · split at h2
      · omega
      · exact absurd h1 (A.dis k a h2)
    · split at h2
      · exact absurd h2 (A.dis j a h1)
      · exact R.dis j k a h1 h2
  · by_cases hj : j = i
    · subst hj
      exact h fp
    · rw [List.getElem?_set_ne (Ne.symm hj)] at e
      exact R.bse j h d' e
  · unfold upF at h
    split at h
    · exact .inr ⟨h, by assumption⟩
    · exact .inl ⟨h, by assumption⟩
theorem RelS.lnkC (R : RelS K H s σ Fs) {Fa : Addr → Prop} (c : Chg Fa H H') (n : ∀ i a, a ∈ Vs.fp i → ¬ Fa a) : Lk2 σ H' := R.lnk' (fun i a ha => by
  obtain ⟨m, e⟩ := Vs.mem R.lnk.1 ha
  rw [e]
  exact c.mo e (n i a ha)) (c.tab R.lnk.2)
/-- a slot is emptied -/
theorem RelS.drop (R : RelS K H s σ Fs) (i : Nat) {d0 : D} (e0 : s[i]? = some (some d0)) : RelS K H (s.set i none) σ (upF Fs i []) := by
  have fp0 := R.fp0 e0
  refine ⟨by rw [List.length_set, R.len], fun j d' e => ?_, fun j h => ?_, fun j k a h1 h2 => ?_, R.lnk, fun j h d' e => ?_⟩
  · by_cases hj : j = i
    · subst hj
      by_cases hi : j < s.length
      · rw [List.getElem?_set_self hi] at e; cases e
      · rw [List.getElem?_eq_none (by rw [List.length_set]; omega)] at e; cases e
    · rw [List.getElem?_set_ne (Ne.symm hj)] at e
      obtain ⟨v', hv', o⟩ := R.has j d' e
      refine ⟨v', hv', ?_⟩
      unfold upF
      rw [if_neg hj]
      exact o
  · unfold upF
    by_cases hj : j = i
    · rw [if_pos hj, hj, fp0]
    · rw [if_neg hj]
      exact R.off j fun d' e => h d' (by rw [List.getElem?_set_ne (Ne.symm hj)]; exact e)
  · unfold upF at h1 h2
    split at h1
    · cases h1
    · split at h2
      · cases h2
      · exact R.dis j k a h1 h2
  · by_cases hj : j = i
    · rw [hj] at h
      exact h fp0
    · rw [List.getElem?_set_ne (Ne.symm hj)] at e
      exact R.bse j h d' e
/-- the list of a slot is written -/
theorem RelS.wr (R : RelS K H s σ Fs) {i : Nat} {ds ds' : List D} {l : Addr} {vs vs' : List V} {F F' Fd : List Addr} (e : s[i]? = some (some (.list ds))) (ev : σ[i]? = some (some (.ref l))) (hl : H l = some (.lst vs)) (eF : Fs i = l :: F)
    (o : OwnA K H ds' vs' F') (n : l ∉ F') (hF : ∀ a, a ∈ F' → a ∈ F ∨ a ∈ Fd) (hd : ∀ j a, a ∈ Fs j → a ∉ Fd) :
    ∃ Fs', RelS K (upd H l (.lst vs')) (s.set i (some (.list ds'))) σ Fs' ∧ Chg (InF Fs) H (upd H l (.lst vs')) ∧ ∀ j a, a ∈ Fs' j → a ∈ Fs j ∨ a ∈ Fd := by
  have hi : i < s.length := by
    rcases Nat.lt_or_ge i s.length with h | h
    · exact h
    · rw [List.getElem?_eq_none h] at e; cases e
  have li : l ∈ Fs i := by rw [eF]; exact List.mem_cons_self ..
  have chg : Chg (fun a => a = l) H (upd H l (.lst vs')) := .upd1 (m := .lst _) hl
  refine ⟨upF Fs i (l :: F'), ⟨by rw [List.length_set, R.len], fun j d' e' => ?_, fun j h => ?_, fun j k a h1 h2 => ?_, R.lnkC chg (fun j a h w => R.nfp e li (by rw [← w]; exact h)), fun j h d' e' => ?_⟩, chg.mono (fun a _ _ w => ⟨i, by rw [w]; exact li⟩), fun j a h => ?_⟩
  · by_cases hj : j = i
    · subst hj
      rw [List.getElem?_set_self hi] at e'
      cases e'
      refine ⟨_, ev, ?_⟩
      unfold upF
      rw [if_pos rfl]
      exact .lst upd_same (o.chg chg fun a ha w => n (by rw [← w]; exact ha)) n
    · rw [List.getElem?_set_ne (Ne.symm hj)] at e'
      obtain ⟨v', hv', o'⟩ := R.has j d' e'
      refine ⟨v', hv', ?_⟩
      unfold upF
      rw [if_neg hj]
      exact o'.chg chg fun a ha w => hj (R.dis j i l (by rw [← w]; exact ha) li)
  · unfold upF
    by_cases hj : j = i
    · subst hj
      exact absurd (List.getElem?_set_self hi) (h _)
    · rw [if_neg hj]
      exact R.off j fun d' e => h d' (by rw [List.getElem?_set_ne (Ne.symm hj)]; exact e)
  · have key : ∀ {m : Nat}, m ≠ i → a ∈ l :: F' → a ∈ Fs m → False := fun {m} hm g1 g2 => by
      rcases List.mem_cons.mp g1 with e3 | g1
      · exact hm (R.dis m i a g2 (by rw [e3]; exact li))
      · rcases hF a g1 with q | q
        · exact hm (R.dis m i a g2 (by rw [eF]; exact List.mem_cons_of_mem _ q))
        · exact hd m a g2 q
    by_cases hj : j = i
    · by_cases hk : k = i
      · omega
      · unfold upF at h1 h2
        rw [if_pos hj] at h1
        rw [if_neg hk] at h2
        exact (key hk h1 h2).elim
    · by_cases hk : k = i
      · unfold upF at h1 h2
        rw [if_neg hj] at h1
        rw [if_pos hk] at h2
        exact (key hj h2 h1).elim
      · unfold upF at h1 h2
        rw [if_neg hj] at h1
        rw [if_neg hk] at h2
        exact R.dis j k a h1 h2
  · by_cases hj : j = i
    · subst hj
      exact R.bse j h _ e
    · rw [List.getElem?_set_ne (Ne.symm hj)] at e'
      exact R.bse j h d' e'
  · unfold upF at h
    split at h
    · rename_i hj
      subst hj
      rcases List.mem_cons.mp h with rfl | h
      · exact .inl li
      · rcases hF a h with q | q
        · exact .inl (by rw [eF]; exact List.mem_cons_of_mem _ q)
        · exact .inr q
    · exact .inl h
theorem own_list {H : Hp} {ds : List D} {v : V} {G : List Addr} (h : Own K H (.list ds) v G) : ∃ l vs F, v = .ref l ∧ G = l :: F ∧ H l = some (.lst vs) ∧ OwnA K H ds vs F ∧ l ∉ F := by
  cases h with
  | lst h1 t n => exact ⟨_, _, _, rfl, rfl, h1, t, n⟩
theorem own_tup {H : Hp} {ds : List D} {v : V} {G : List Addr} (h : Own K H (.tuple ds) v G) : ∃ a vs, v = .ref a ∧ SqT K H a vs ∧ OwnA K H ds vs G := by
  cases h with
  | tup h1 t => exact ⟨_, _, rfl, h1.sq, t⟩
theorem OwnA.snoc {H : Hp} {d : D} {v : V} {G : List Addr} (o : Own K H d v G) : ∀ {ds : List D} {vs : List V} {F : List Addr}, OwnA K H ds vs F → (∀ a, a ∈ F → a ∉ G) → ∃ F', OwnA K H (ds ++ [d]) (vs ++ [v]) F' ∧ ∀ a, a ∈ F' → a ∈ F ∨ a ∈ G
  | [], _, _, t, _ => by
    cases t
    refine ⟨G ++ [], .cons o .nil (by simp), fun a h => ?_⟩
    rw [List.append_nil] at h
    exact .inr h
  | d' :: ds, _, _, t, n => by
    cases t with
    | @cons v' vs _ _ F1 F2 o' t n' =>
      obtain ⟨F', h1, h2⟩ := OwnA.snoc o t fun a ha => n a (List.mem_append_right _ ha)
      refine ⟨F1 ++ F', .cons o' h1 fun a ha hb => ?_, fun a h => ?_⟩
      · rcases h2 a hb with q | q
        · exact n' a ha q
        · exact n a (List.mem_append_left _ ha) q
      · rcases List.mem_append.mp h with q | q
        · exact .inl (List.mem_append_left _ q)
        · rcases h2 a q with q | q
          · exact .inl (List.mem_append_right _ q)
          · exact .inr q
theorem OwnA.put {H : Hp} {d : D} {v : V} (o : Own K H d v []) : ∀ {ds : List D} {vs : List V} {F : List Addr} (j : Nat), OwnA K H ds vs F → ∃ F', OwnA K H (ds.set j d) (vs.set j v) F' ∧ ∀ a, a ∈ F' → a ∈ F
  | [], _, _, _, t => by
    cases t
    exact ⟨[], .nil, by simp⟩
  | d' :: ds, _, _, 0, t => by
    cases t with
    | @cons v' vs _ _ F1 F2 o' t n' => exact ⟨[] ++ F2, .cons o t (by simp), fun a h => List.mem_append_right _ (by simpa using h)⟩
  | d' :: ds, _, _, j + 1, t => by
    cases t with
    | @cons v' vs _ _ F1 F2 o' t n' =>
      obtain ⟨F', h1, h2⟩ := OwnA.put o j t
      refine ⟨F1 ++ F', .cons o' h1 fun a ha hb => n' a ha (h2 a hb), fun a h => ?_⟩
      rcases List.mem_append.mp h with q | q
      · exact List.mem_append_left _ q
      · exact List.mem_append_right _ (h2 a q)
end
inductive Tg where
  | nm (i : Nat)
  | tp (l : List Tg)
  | ls (l : List Tg)
mutual
def asg : Tg → D → Sg → Option Sg
  | .nm i, d, s => some (s.set i (some d))
  | .tp l, .tuple ds, s => asgs l ds s
  | .tp _, _, _ => none
  | .ls l, .list ds, s => asgs l ds s
  | .ls _, _, _ => none
def asgs : List Tg → List D → Sg → Option Sg
  | [], [], s => some s
  | t :: l, d :: ds, s => match asg t d s with
    | none => none
    | some s1 => asgs l ds s1
  | _, _, _ => none
end
section
variable [Tb] [Vs] (K : PySem.W.Frag) (lk : Nat → Bool)
def tG (t : Tg) : TG := fun v σ H Q => ∃ s Fs d F s', RelS K H s σ Fs ∧ Apart K H Fs d v F ∧ asg t d s = some s' ∧ ∀ σ' Fs', RelS K H s' σ' Fs' → (∀ i a, a ∈ Fs' i → a ∈ Fs i ∨ a ∈ F) → Lk lk σ σ' → Q σ' H
def tGs (l : List Tg) : TGs := fun vs σ H Q => ∃ s Fs ds F s', RelS K H s σ Fs ∧ OwnA K H ds vs F ∧ (∀ i a, a ∈ Fs i → a ∉ F) ∧ asgs l ds s = some s' ∧ ∀ σ' Fs', RelS K H s' σ' Fs' → (∀ i a, a ∈ Fs' i → a ∈ Fs i ∨ a ∈ F) → Lk lk σ σ' → Q σ' H
end
def SimG [Tb] [Vs] (X : Cx) (lk : Nat → Bool) (e : Expr) (t : Tg) : Prop := PG X e (tG X.K lk t)
def SimGs [Tb] [Vs] (X : Cx) (lk : Nat → Bool) (es : List Expr) (l : List Tg) : Prop := PGs X es (tGs X.K lk l)
section
variable [Tb] [Vs] {X : Cx} {lk : Nat → Bool} {pos : Pos} {K : PySem.W.Frag}
theorem pg_imp {e : Expr} {t t' : TG} (h : PG X e t) (i : ∀ v σ H Q, t' v σ H Q → t v σ H Q) : PG X e t' := ⟨fun pins s σ H v u Q I r q => h.run pins s σ H v u Q I r (i v σ H Q q)⟩
theorem pgs_imp {e : List Expr} {t t' : TGs} (h : PGs X e t) (i : ∀ v σ H Q, t' v σ H Q → t v σ H Q) : PGs X e t' := ⟨fun pins s σ H v u Q I r q => h.run pins s σ H v u Q I r (i v σ H Q q)⟩
theorem tG_nm {i : Nat} (hl : lk i = false) (ko : Vs.ok i) {v : V} {σ : St} {H : Hp} {Q : St → Hp → Prop} (h : tG K lk (.nm i) v σ H Q) : gName i v σ H Q := by
  obtain ⟨s, Fs, d, F, s', R, A, e, q⟩ := h
  simp only [asg] at e
  cases e
  obtain ⟨Fs', R', n⟩ := R.put A i ko
  exact q _ Fs' R' (fun j a h => (n j a h).imp And.left And.left) (.set hl)
theorem sg_name {i : Nat} {x : Str} (hN : X.N.Nodup) (hi : X.N[i]? = some x) (hx : Loc X.env.scope x) (hl : lk i = false) (hf : X.fn x = true ∨ X.env.scope.names.lookup x = some .local := by first | exact .inl rfl | exact .inr rfl | assumption) (ko : Vs.ok i := by first | exact trivial | assumption | exact ⟨by decide, by decide⟩) : SimG X lk (.Name x pos) (.nm i) :=
  pg_imp (pg_name hN hi hx hf) fun _ _ _ _ h => tG_nm hl ko h
theorem tGs_nil {vs : List V} {σ : St} {H : Hp} {Q : St → Hp → Prop} (h : tGs K lk [] vs σ H Q) : gNil vs σ H Q := by
  obtain ⟨s, Fs, ds, F, s', R, o, dj, e, q⟩ := h
  cases ds with
  | nil =>
    simp only [asgs] at e
    cases e
    cases o
    exact ⟨rfl, q σ Fs R (fun _ _ h => .inl h) (.refl _ _)⟩
  | cons d ds => simp [asgs] at e
theorem tGs_cons {t : Tg} {l : List Tg} {vs : List V} {σ : St} {H : Hp} {Q : St → Hp → Prop} (h : tGs K lk (t :: l) vs σ H Q) : gCons (tG K lk t) (tGs K lk l) vs σ H Q := by
  obtain ⟨s, Fs, ds, F, s', R, o, dj, e, q⟩ := h
  cases ds with
  | nil => simp [asgs] at e
  | cons d ds =>
    simp only [asgs] at e
    split at e
    · cases e
    · rename_i s1 h1
      cases o with
      | @cons v vs _ _ F1 F2 o1 o2 n =>
        refine ⟨v, vs, rfl, s, Fs, d, F1, s1, R, ⟨o1, fun i a hi ha => dj i a hi (List.mem_append_left _ ha)⟩, h1, fun σ1 Fs1 R1 n1 L1 => ⟨s1, Fs1, ds, F2, s', R1, o2, fun i a hi ha => ?_, e, fun σ2 Fs2 R2 n2 L2 => ?_⟩⟩
        · rcases n1 i a hi with z | z
          · exact dj i a z (List.mem_append_right _ ha)
          · exact n a z ha
        · refine q σ2 Fs2 R2 (fun i a h => ?_) (L1.trans L2)
          rcases n2 i a h with z | z
          · rcases n1 i a z with z | z
            · exact .inl z
            · exact .inr (List.mem_append_left _ z)
          · exact .inr (List.mem_append_right _ z)
theorem sgs_nil : SimGs X lk [] [] := pgs_imp pgs_nil fun _ _ _ _ h => tGs_nil h
theorem sgs_cons {e : Expr} {es : List Expr} {t : Tg} {l : List Tg} (h1 : SimG X lk e t) (h2 : SimGs X lk es l) (hs : (assignEach (e :: es) X.env).map (·.2) = assign e X.env :: (assignEach es X.env).map (·.2) := by rfl) : SimGs X lk (e :: es) (t :: l) :=
  pgs_imp (pgs_cons h1 h2 hs) fun _ _ _ _ h => tGs_cons h
theorem asgs_len {l : List Tg} : ∀ {ds : List D} {s s' : Sg}, asgs l ds s = some s' → ds.length = l.length := by
  induction l with
  | nil => intro ds s s' h; cases ds with
    | nil => rfl
    | cons d ds => simp [asgs] at h
  | cons t l ih => intro ds s s' h; cases ds with
    | nil => simp [asgs] at h
    | cons d ds =>
      simp only [asgs] at h
      split at h
      · cases h
      · rw [List.length_cons, List.length_cons, ih h]
theorem sg_tup {es : List Expr} {k : Nat} {l : List Tg} (hc : X.calm = true) (h : SimGs X lk es l) (hn : (assignEach es X.env).length = l.length := by rfl) (hst : (assignEach es X.env).findIdx? (·.1) = none := by rfl) : SimG X lk (.Tuple es k pos) (.tp l) := by
  refine pg_imp (pg_tup hc h hn hst) fun v σ H Q z => ?_
  obtain ⟨s, Fs, d, F, s', R, A, e, q⟩ := z
  cases d with
  | tuple ds =>
    simp only [asg] at e
    obtain ⟨a, vs, rfl, hq, o⟩ := own_tup A.own
    exact ⟨a, vs, rfl, hq, by rw [o.len, asgs_len e], s, Fs, ds, F, s', R, o, A.dis, e, q⟩
  | _ => simp [asg] at e
end
/-- to a way out: what no caller holds may have changed places -/
structure EvR [Tb] (lk : Nat → Bool) (H : Hp) (Fs : Fp) (H' : Hp) (Fs' : Fp) : Prop where
  chg : Chg (InF Fs) H H'
  new : ∀ i a, a ∈ Fs' i → (a ∈ Fs i ∨ H a = none) ∨ (lk i = false ∧ ∃ k, lk k = false ∧ a ∈ Fs k)
theorem Ev.r [Tb] {lk : Nat → Bool} {H H' : Hp} {Fs Fs' : Fp} (e : Ev H Fs H' Fs') : EvR lk H Fs H' Fs' := ⟨e.chg, fun i a h => .inl (e.new i a h)⟩
theorem Ev.transR [Tb] {lk : Nat → Bool} {H H1 H' : Hp} {Fs Fs1 Fs' : Fp} (a : Ev H Fs H1 Fs1) (b : EvR lk H1 Fs1 H' Fs') : EvR lk H Fs H' Fs' := by
  refine ⟨⟨fun x o e c => ?_, fun x e => a.chg.there x (b.chg.there x e), fun t => b.chg.tab (a.chg.tab t)⟩, fun i x h => ?_⟩
  · have e1 := a.chg.keep x o e c
    refine b.chg.keep x o e1 (c.imp (fun n => ⟨fun z => ?_, n.2⟩) id)
    obtain ⟨i, hi⟩ := z
    rcases a.new i x hi with q | q
    · exact n.1 ⟨i, q⟩
    · rw [e] at q; cases q
  · rcases b.new i x h with (q | q) | ⟨q, k, hk, q2⟩
    · exact .inl (a.new i x q)
    · exact .inl (.inr (a.chg.there x q))
    · rcases a.new k x q2 with w | w
      · exact .inr ⟨q, k, hk, w⟩
      · exact .inl (.inr w)
theorem EvR.transR [Tb] {lk : Nat → Bool} {H H1 H' : Hp} {Fs Fs1 Fs' : Fp} (a : EvR lk H Fs H1 Fs1) (b : EvR lk H1 Fs1 H' Fs') : EvR lk H Fs H' Fs' := by
  have old : ∀ i x, x ∈ Fs1 i → (∃ k, x ∈ Fs k) ∨ H x = none := fun i x h => by
    rcases a.new i x h with (q | q) | ⟨_, k, _, q⟩
    · exact .inl ⟨i, q⟩
    · exact .inr q
    · exact .inl ⟨k, q⟩
  refine ⟨⟨fun x o e c => ?_, fun x e => a.chg.there x (b.chg.there x e), fun t => b.chg.tab (a.chg.tab t)⟩, fun i x h => ?_⟩
  · have e1 := a.chg.keep x o e c
    refine b.chg.keep x o e1 (c.imp (fun n => ⟨fun z => ?_, n.2⟩) id)
    obtain ⟨i, hi⟩ := z
    rcases old i x hi with q | q
    · exact n.1 q
    · rw [e] at q; cases q
  · rcases b.new i x h with (q | q) | ⟨q, k, hk, q2⟩
    · exact a.new i x q
    · exact .inl (.inr (a.chg.there x q))
    · rcases a.new k x q2 with (w | w) | ⟨_, j, hj, w⟩
      · exact .inr ⟨q, k, hk, w⟩
      · exact .inl (.inr w)
      · exact .inr ⟨q, j, hj, w⟩
theorem EvR.trans [Tb] {lk : Nat → Bool} {H H1 H' : Hp} {Fs Fs1 Fs' : Fp} (a : EvR lk H Fs H1 Fs1) (b : Ev H1 Fs1 H' Fs') : EvR lk H Fs H' Fs' := a.transR b.r
theorem EvR.wk [Tb] {lk lk' : Nat → Bool} {H H' : Hp} {Fs Fs' : Fp} (h : ∀ i, lk i = true → lk' i = true) (a : EvR lk' H Fs H' Fs') : EvR lk H Fs H' Fs' := by
  have f : ∀ i, lk' i = false → lk i = false := fun i z => by
    cases e : lk i with
    | false => rfl
    | true => rw [h i e] at z; cases z
  exact ⟨a.chg, fun i x z => (a.new i x z).imp id fun ⟨q, k, hk, w⟩ => ⟨f i q, k, f k hk, w⟩⟩
theorem EvR.refl [Tb] {lk : Nat → Bool} (H : Hp) (Fs : Fp) : EvR lk H Fs H Fs := (Ev.refl _ _).r
theorem EvR.e0 [Tb] {lk : Nat → Bool} {H H' : Hp} {Fs Fs' : Fp} (a : EvR lk H Fs H' Fs') : Ev H Fs H' (fun _ => []) := ⟨a.chg, fun _ _ h => by cases h⟩
theorem EvR.r [Tb] {lk : Nat → Bool} {H H' : Hp} {Fs Fs' : Fp} (a : EvR lk H Fs H' Fs') : EvR lk H Fs H' Fs' := a
instance EvR.coe [Tb] {lk : Nat → Bool} {H H' : Hp} {Fs Fs' : Fp} : Coe (Ev H Fs H' Fs') (EvR lk H Fs H' Fs') := ⟨Ev.r⟩
section
variable [Tb] [Vs] (K : PySem.W.Frag) (lk : Nat → Bool)
def PostS (D : Ends) (σ : St) (H : Hp) (Fs : Fp) (s' : Sg) (fl : Fl) : Prop := match fl with
  | .nx => ∀ σ' H' Fs', RelS K H' s' σ' Fs' → EvR lk H Fs H' Fs' → Lk lk σ σ' → D.nx σ' H'
  | .bk => ∀ σ' H' Fs', RelS K H' s' σ' Fs' → EvR lk H Fs H' Fs' → Lk lk σ σ' → D.bk σ' H'
  | .ct => ∀ σ' H' Fs', RelS K H' s' σ' Fs' → EvR lk H Fs H' Fs' → Lk lk σ σ' → D.ct σ' H'
  | .rt d => ∀ v σ' H' Fs' F, RelS K H' s' σ' Fs' → EvR lk H Fs H' Fs' → Lk lk σ σ' → Own K H' d v F → (∀ a, a ∈ F → H a = none ∨ ∃ i, lk i = false ∧ a ∈ Fs i) → (∀ i a, lk i = true → a ∈ Fs' i → a ∉ F) → D.rt v H'
def tS (g : S) : TS := fun D σ H => ∃ s Fs fl s', RelS K H s σ Fs ∧ g s = .ok fl s' ∧ PostS K lk D σ H Fs s' fl
end
def SimS [Tb] [Vs] (X : Cx) (lk : Nat → Bool) (st : Stmt) (g : S) : Prop := PS X st (tS X.K lk g)
def SimSs [Tb] [Vs] (X : Cx) (lk : Nat → Bool) (st : List Stmt) (g : S) : Prop := PSs X st (tS X.K lk g)
theorem ps_imp {X : Cx} {e : Stmt} {t t' : TS} (h : PS X e t) (i : ∀ D σ H, t' D σ H → t D σ H) : PS X e t' := ⟨fun pins s σ H D I q => h.run pins s σ H D I (i D σ H q)⟩
theorem pss_imp {X : Cx} {e : List Stmt} {t t' : TS} (h : PSs X e t) (i : ∀ D σ H, t' D σ H → t D σ H) : PSs X e t' := ⟨fun pins s σ H D I q => h.run pins s σ H D I (i D σ H q)⟩
def sSkip : S := fun s => .ok .nx s
def sSeq (g h : S) : S := fun s => (g s).bind fun fl s1 => match fl with
  | .nx => h s1
  | fl => .ok fl s1
def sExpr (g : O) : S := fun s => (g s).bind fun _ s1 => .ok .nx s1
def sRet (lk : Nat → Bool) (g : O) : S := fun s => (g s).bind fun r s1 => match r with
  | .val d => .ok (.rt d) s1
  | .slot i => match (s1[i]?).join with
    | none => .bad
    | some d => if pur d = true ∨ lk i = false then .ok (.rt d) s1 else .bad
def sRetN : S := fun s => .ok (.rt .none) s
def sBreak : S := fun s => .ok .bk s
def sCont : S := fun s => .ok .ct s
def sNever : S := fun _ => .bad
def sIf (t : T) (g h : S) : S := fun s => (t s).bind fun b s1 => if b = true then g s1 else h s1
def sAsg (t : Tg) (g : O) : S := fun s => (g s).bind fun r s1 => match own r s1 with
  | none => .bad
  | some d => match asg t d s1 with
    | none => .bad
    | some s2 => .ok .nx s2
def sSet (i : Nat) (g : O) : S := sAsg (.nm i) g
/-- x[k] = e -/
def sSetIx (i : Nat) (gi g : O) : S := fun s => (g s).bind fun r s1 => (oV i s1).bind fun _ s1 => (gi s1).bind fun ri s2 => match own r s2, rd ri s2, (s2[i]?).join with
  | some d, some (.int k), some (.list ds) => if pur d = true then (match ixN ds.length k with
    | none => .bad
    | some j => .ok .nx (s2.set i (some (.list (ds.set j d))))) else .bad
  | _, _, _ => .bad
section
variable [Tb] [Vs] {X : Cx} {lk : Nat → Bool} {pos : Pos} {K : PySem.W.Frag} {g h : S} {D : Ends} {σ : St} {H : Hp} {ga gb : O} {e : Expr}
theorem ss_nil : SimSs X lk [] sSkip := pss_imp pss_nil fun D σ H ⟨s, Fs, fl, s', R, e, q⟩ => by
  cases e
  exact q σ H Fs R (.refl _ _) (.refl _ _)
theorem ss_never {st : Stmt} : SimS X lk st sNever := ps_imp ps_never fun D σ H ⟨s, Fs, fl, s', R, e, q⟩ => by cases e
/-- what follows a first part -/
theorem tS_after {s : Sg} {Fs Fs1 : Fp} {σ1 : St} {H1 : Hp} {s1 s' : Sg} {fl : Fl} (R1 : RelS K H1 s1 σ1 Fs1) (E1 : EvR lk H Fs H1 Fs1) (L1 : Lk lk σ σ1) (e : h s1 = .ok fl s')
    (q : PostS K lk D σ H Fs s' fl) :
    tS K lk h D σ1 H1 := by
  refine ⟨s1, Fs1, fl, s', R1, e, ?_⟩
  cases fl with
  | nx => exact fun σ' H' Fs' R' E' L' => q σ' H' Fs' R' (E1.transR E') (L1.trans L')
  | bk => exact fun σ' H' Fs' R' E' L' => q σ' H' Fs' R' (E1.transR E') (L1.trans L')
  | ct => exact fun σ' H' Fs' R' E' L' => q σ' H' Fs' R' (E1.transR E') (L1.trans L')
  | rt d =>
    refine fun v σ' H' Fs' F R' E' L' o n m => q v σ' H' Fs' F R' (E1.transR E') (L1.trans L') o (fun a ha => ?_) m
    rcases n a ha with z | ⟨i, hi, z⟩
    · exact .inl (E1.chg.there a z)
    · rcases E1.new i a z with (z | z) | ⟨_, k, hk, z⟩
      · exact .inr ⟨i, hi, z⟩
      · exact .inl z
      · exact .inr ⟨k, hk, z⟩
theorem tS_seq (z : tS K lk (sSeq g h) D σ H) : tSeq (tS K lk g) (tS K lk h) D σ H := by
  obtain ⟨s, Fs, fl, s', R, e, q⟩ := z
  obtain ⟨f1, s1, e1, e⟩ := bind_inv e
  refine ⟨s, Fs, f1, s1, R, e1, ?_⟩
  cases f1 with
  | nx => exact fun σ1 H1 Fs1 R1 E1 L1 => tS_after (s := s) R1 E1 L1 e q
  | bk => cases e; exact q
  | ct => cases e; exact q
  | rt d => cases e; exact q
theorem ss_cons {st : Stmt} {rest : List Stmt} (h1 : SimS X lk st g) (h2 : SimSs X lk rest h) : SimSs X lk (st :: rest) (sSeq g h) := pss_imp (pss_cons h1 h2) fun _ _ _ z => tS_seq z
theorem ss_one {st : Stmt} (h1 : SimS X lk st g) : SimSs X lk [st] g := pss_one h1
theorem ss_expr (he : SimO X e ga) (hs : swapsWith e none pos.line X.env = pure false := by rfl) : SimS X lk (.Expr e pos) (sExpr ga) := by
  refine ps_imp (ps_expr he hs) fun D σ H z => ?_
  obtain ⟨s, Fs, fl, s', R, e, q⟩ := z
  obtain ⟨r, s1, e1, e⟩ := bind_inv e
  refine ⟨s, Fs, r, s1, R, e1, fun v H1 Fs1 F R1 E1 k1 n1 => ?_⟩
  cases e
  exact q σ H1 Fs1 R1 E1 (.refl _ _)
theorem ss_ret (he : SimO X e ga) : SimS X lk (.Return (some e) pos) (sRet lk ga) := by
  refine ps_imp (ps_ret he) fun D σ H z => ?_
  obtain ⟨s, Fs, fl, s', R, e, q⟩ := z
  obtain ⟨r, s1, e1, e⟩ := bind_inv e
  refine ⟨s, Fs, r, s1, R, e1, fun v H1 Fs1 F R1 E1 k1 n1 => ?_⟩
  cases k1 with
  | val A =>
    cases e
    exact q v σ H1 Fs1 F R1 E1.r (.refl _ _) A.own (fun a ha => .inl (n1 a ha)) fun i a _ hi ha => A.dis i a hi ha
  | @slot i v hv =>
    simp only at e
    split at e
    · cases e
    · rename_i d hd
      split at e
      · rename_i hp
        cases e
        obtain ⟨v', hv', o⟩ := R1.has i d (join_some hd)
        rw [hv] at hv'
        cases hv'
        refine q v σ H1 Fs1 (Fs1 i) R1 E1.r (.refl _ _) o (fun a ha => ?_) fun j a hj hi ha => ?_
        · rcases hp with hp | hp
          · rw [o.pur hp] at ha; cases ha
          · rcases E1.new i a ha with z | z
            · exact .inr ⟨i, hp, z⟩
            · exact .inl z
        · rcases hp with hp | hp
          · rw [o.pur hp] at ha; cases ha
          · have := R1.dis j i a hi ha
            subst this
            rw [hp] at hj; cases hj
      · cases e
theorem ss_if {c : Expr} {as bs : List Stmt} {t : T} (hc : SimT X c t) (ha : SimSs X lk as g) (hb : SimSs X lk bs h) : SimS X lk (.If c as bs pos) (sIf t g h) := by
  refine ps_imp (ps_if hc ha hb) fun D σ H z => ?_
  obtain ⟨s, Fs, fl, s', R, e, q⟩ := z
  obtain ⟨b, s1, e1, e⟩ := bind_inv e
  refine ⟨s, Fs, b, s1, R, e1, fun H1 Fs1 R1 E1 => ?_⟩
  cases b with
  | true => exact iteT (tS_after (s := s) R1 E1 (.refl _ _) e q)
  | false => exact iteF (tS_after (s := s) R1 E1 (.refl _ _) e q)
theorem rfOk_own {Fs : Fp} {r : Rf} {v : V} {F : List Addr} {s : Sg} {d : Sim.D} (k : RfOk K H σ Fs r v F) (R : RelS K H s σ Fs) (e : own r s = some d) : Apart K H Fs d v F := by
  cases k with
  | val A => cases e; exact A
  | @slot i v hv =>
    simp only [own] at e
    split at e
    · cases e
    · rename_i d' hd
      split at e
      · rename_i hp
        cases e
        obtain ⟨v', hv', o⟩ := R.has i d (join_some hd)
        rw [hv] at hv'
        cases hv'
        rw [o.pur hp] at o
        exact ⟨o, fun _ _ _ z => by cases z⟩
      · cases e
theorem tS_asg {t : Tg} (z : tS K lk (sAsg t ga) D σ H) : tAsg (tO K ga) (tG K lk t) D σ H := by
  obtain ⟨s, Fs, fl, s', R, e, q⟩ := z
  obtain ⟨r, s1, e1, e⟩ := bind_inv e
  refine ⟨s, Fs, r, s1, R, e1, fun v H1 Fs1 F R1 E1 k1 n1 => ?_⟩
  split at e
  · cases e
  · rename_i d hd
    split at e
    · cases e
    · rename_i s2 hs2
      cases e
      refine ⟨s1, Fs1, d, F, _, R1, rfOk_own k1 R1 hd, hs2, fun σ2 Fs2 R2 n2 L2 => q σ2 H1 Fs2 R2 ⟨E1.chg, fun i a h => ?_⟩ L2⟩
      rcases n2 i a h with z | z
      · exact .inl (E1.new i a z)
      · exact .inl (.inr (n1 a z))
theorem ss_asg {tg : Expr} {t : Tg} (he : SimO X e ga) (hg : SimG X lk tg t) (hs : swapsWithSole [tg] e pos.line X.env = pure false := by rfl) (hw : swappedStores [tg] e X.env = pure none := by rfl)
    (h1 : (assignEach [tg] X.env).map (·.2) = [assign tg X.env] := by rfl) : SimS X lk (.Assign [tg] e pos) (sAsg t ga) := ps_imp (ps_asg he hg hs hw h1) fun _ _ _ z => tS_asg z
theorem ss_set {i : Nat} {x : Str} {pos' : Pos} (hN : X.N.Nodup) (hi : X.N[i]? = some x) (hx : Loc X.env.scope x) (hl : lk i = false) (he : SimO X e ga) (hs : swapsWith e (some (.Name x pos')) pos.line X.env = pure false := by rfl) (hf : X.fn x = true ∨ X.env.scope.names.lookup x = some .local := by first | exact .inl rfl | exact .inr rfl | assumption) (ko : Vs.ok i := by first | exact trivial | assumption | exact ⟨by decide, by decide⟩) :
    SimS X lk (.Assign [.Name x pos'] e pos) (sSet i ga) := ps_imp (ps_set hN hi hx he hs hf) fun D σ H z => tO_mono (fun v H h => by have w := tG_nm hl ko h; exact w) (tS_asg z)
theorem ss_setIxF {e0 : Expr} {i : Nat} {ix : Expr} {p2 : Pos} (hv : PE X e0 (tSl i)) (hix : SimO X ix gb) (he : SimO X e ga)
    (ha : ∀ v, assign (.Subscript e0 ix p2) X.env v = (do
      let ov ← holding [v] (eval e0 X.env)
      let iv ← holding [v, ov] (eval ix X.env)
      standAt p2
      holding [v, ov, iv] (setItem ov iv v)
      release [v, ov, iv] []) := by intro _; rfl)
    (hs : swapsWithSole [.Subscript e0 ix p2] e pos.line X.env = pure false := by rfl) (hw : swappedStores [.Subscript e0 ix p2] e X.env = pure none := by rfl)
    (h1 : (assignEach [.Subscript e0 ix p2] X.env).map (·.2) = [assign (.Subscript e0 ix p2) X.env] := by rfl) : SimS X lk (.Assign [.Subscript e0 ix p2] e pos) (sSetIx i gb ga) := by
  refine ps_imp (ps_asg he (pg_sub hv hix set_list ha) hs hw h1) fun D σ H z => ?_
  obtain ⟨s, Fs, fl, s', R, e, q⟩ := z
  obtain ⟨r, s1, e1, e⟩ := bind_inv e
  refine ⟨s, Fs, r, s1, R, e1, fun v H1 Fs1 F R1 E1 k1 n1 => ?_⟩
  obtain ⟨rv, s1', e1', e⟩ := bind_inv e
  unfold oV at e1'
  split at e1'
  · rename_i d0 hd0
    cases e1'
    obtain ⟨vl, hvl, _⟩ := R1.has i d0 (join_some hd0)
    refine ⟨vl, hvl, R1.lnk.1, ?_⟩
    obtain ⟨ri, s2, e2, e⟩ := bind_inv e
    refine ⟨s1, Fs1, ri, s2, R1, e2, fun vi H2 Fs2 F2 R2 E2 k2 n2 => ?_⟩
    split at e
    · rename_i d k ds hd hk hs2
      split at e
      · rename_i hp
        split at e
        · cases e
        · rename_i j hj
          cases e
          obtain ⟨vl', hvl', o⟩ := R2.has i _ (join_some hs2)
          rw [hvl] at hvl'
          cases hvl'
          obtain ⟨l, vs, F0, rfl, eF, hl, t, nl⟩ := own_list o
          obtain ⟨F', oi⟩ := k2.dp R2 hk
          cases oi
          have A := rfOk_own (k1.ev E2) R2 hd
          have o1 := A.own
          rw [o1.pur hp] at o1
          obtain ⟨F3, t3, hF3⟩ := OwnA.put o1 j t
          refine ⟨l, vs, k, j, rfl, rfl, hl, by rw [t.len]; exact hj, ?_⟩
          obtain ⟨Fs3, R3, C3, n3⟩ := R2.wr (join_some hs2) hvl hl eF t3 (fun z => nl (hF3 _ z)) (fun a ha => .inl (hF3 a ha)) (Fd := []) (by simp)
          refine q σ _ Fs3 R3 ((E1.trans E2).trans ⟨C3, fun j a h => (n3 j a h).imp id (fun z => by cases z)⟩) (.refl _ _)
      · cases e
    · cases e
  · cases e1'
theorem ss_setIx {i : Nat} {x : Str} {ix : Expr} {p1 p2 : Pos} (hv : PE X (.Name x p1) (tVar i)) (hix : SimO X ix gb) (he : SimO X e ga)
    (ha : ∀ v, assign (.Subscript (.Name x p1) ix p2) X.env v = (do
      let ov ← holding [v] (eval (.Name x p1) X.env)
      let iv ← holding [v, ov] (eval ix X.env)
      standAt p2
      holding [v, ov, iv] (setItem ov iv v)
      release [v, ov, iv] []) := by intro _; rfl)
    (hs : swapsWithSole [.Subscript (.Name x p1) ix p2] e pos.line X.env = pure false := by rfl) (hw : swappedStores [.Subscript (.Name x p1) ix p2] e X.env = pure none := by rfl)
    (h1 : (assignEach [.Subscript (.Name x p1) ix p2] X.env).map (·.2) = [assign (.Subscript (.Name x p1) ix p2) X.env] := by rfl) : SimS X lk (.Assign [.Subscript (.Name x p1) ix p2] e pos) (sSetIx i gb ga) :=
  ss_setIxF (tsl_of hv) hix he ha hs hw h1
end
end Sim
namespace Sim
open PySem PySem.Spec L2
def lks : List Rf → List D → List (Nat × D)
  | .slot i :: rs, d :: ds => if pur d = true then lks rs ds else (i, d) :: lks rs ds
  | .val _ :: rs, _ :: ds => lks rs ds
  | _, _ => []
def lockS : List (Nat × D) → Sg → Sg
  | [], s => s
  | p :: l, s => lockS l (s.set p.1 none)
def unlockS : List (Nat × D) → Sg → Sg
  | [], s => s
  | p :: l, s => unlockS l (s.set p.1 (some p.2))
def nodupB : List Nat → Bool
  | [] => true
  | x :: l => !l.contains x && nodupB l
/-- what is closed, stands apart -/
structure HvS [Tb] [Vs] (σ : St) (i : Nat) (v : V) : Prop where
  get : σ[i]? = some (some v)
  fp : Vs.fp i = []
inductive Hid [Tb] [Vs] (K : PySem.W.Frag) (H : Hp) (σ : St) (Fs : Fp) : List (Nat × D) → List (List Addr) → Prop
  | nil : Hid K H σ Fs [] []
  | cons {i : Nat} {d : D} {v : V} {F : List Addr} {l : List (Nat × D)} {Gs : List (List Addr)} : HvS σ i v → Apart K H Fs d v F → (∀ G, G ∈ Gs → ∀ a, a ∈ F → a ∉ G) → Hid K H σ Fs l Gs → Hid K H σ Fs ((i, d) :: l) (F :: Gs)
/-- where what is closed comes from -/
def From (H0 : Hp) (Fs0 : Fp) : List (Nat × D) → List (List Addr) → Prop
  | [], [] => True
  | p :: l, F :: Gs => (∀ a, a ∈ F → a ∈ Fs0 p.1 ∨ H0 a = none) ∧ From H0 Fs0 l Gs
  | _, _ => False
section
variable [Tb] [Vs] {K : PySem.W.Frag} {H H1 H' H0 : Hp} {s s' : Sg} {σ σ' : St} {Fs Fs1 Fs' Fs0 : Fp} {l : List (Nat × D)} {Gs : List (List Addr)}
theorem Hid.ev (h : Hid K H σ Fs l Gs) (e : Ev H Fs H' Fs') (L : ∀ p, p ∈ l → σ'[p.1]? = σ[p.1]?) : Hid K H' σ' Fs' l Gs := by
  induction h with
  | nil => exact .nil
  | @cons i d v F l Gs hv A n _ ih =>
    exact .cons ⟨(L _ (List.mem_cons_self ..)).trans hv.get, hv.fp⟩ (A.ev e) n (ih fun p hp => L p (List.mem_cons_of_mem _ hp))
theorem Hid.evR {lk : Nat → Bool} (h : Hid K H σ Fs l Gs) (e : EvR lk H Fs H' Fs') (L : ∀ p, p ∈ l → σ'[p.1]? = σ[p.1]?) : Hid K H' σ' Fs' l Gs := by
  induction h with
  | nil => exact .nil
  | @cons i d v F l Gs hv A n _ ih =>
    refine .cons ⟨(L _ (List.mem_cons_self ..)).trans hv.get, hv.fp⟩ ⟨A.own.chg e.chg fun a ha ⟨i, hi⟩ => A.dis i a hi ha, fun i a hi ha => ?_⟩ n (ih fun p hp => L p (List.mem_cons_of_mem _ hp))
    rcases e.new i a hi with (q | q) | ⟨_, k, _, q⟩
    · exact A.dis i a q ha
    · obtain ⟨xs, z⟩ := A.own.mem a ha
      rw [q] at z; cases z
    · exact A.dis k a q ha
theorem Hid.mem (h : Hid K H σ Fs l Gs) : ∀ G, G ∈ Gs → ∀ a, a ∈ G → (∃ xs : MO, H a = some xs.ho) ∧ ∀ i, a ∉ Fs i := by
  induction h with
  | nil => intro G h; cases h
  | cons hv A n _ ih =>
    intro G h a ha
    rcases List.mem_cons.mp h with rfl | h
    · exact ⟨A.own.mem a ha, fun i hi => A.dis i a hi ha⟩
    · exact ih G h a ha
theorem From.trans (h : From H Fs l Gs) (e : ∀ i a, a ∈ Fs i → a ∈ Fs0 i ∨ H0 a = none) (t : ∀ a, H a = none → H0 a = none) : From H0 Fs0 l Gs := by
  induction l generalizing Gs with
  | nil => cases Gs with
    | nil => trivial
    | cons _ _ => exact h.elim
  | cons p l ih => cases Gs with
    | nil => exact h.elim
    | cons F Gs =>
      refine ⟨fun a ha => ?_, ih h.2⟩
      rcases h.1 a ha with z | z
      · exact e _ a z
      · exact .inr (t a z)
theorem nodupB_cons {x : Nat} {l : List Nat} (h : nodupB (x :: l) = true) : x ∉ l ∧ nodupB l = true := by
  simp only [nodupB, Bool.and_eq_true, Bool.not_eq_true', List.contains_eq_mem, decide_eq_false_iff_not] at h
  exact h
theorem RelS.lock (R : RelS K H s σ Fs) (hs : ∀ p, p ∈ l → s[p.1]? = some (some p.2)) (nd : nodupB (l.map (·.1)) = true) :
    ∃ Fs' Gs, RelS K H (lockS l s) σ Fs' ∧ Hid K H σ Fs' l Gs ∧ (∀ j a, a ∈ Fs' j → a ∈ Fs j) ∧ From H Fs l Gs := by
  induction l generalizing s Fs with
  | nil => exact ⟨Fs, [], R, .nil, fun _ _ h => h, trivial⟩
  | cons p l ih =>
    obtain ⟨n1, n2⟩ := nodupB_cons nd
    obtain ⟨v, hv, o⟩ := R.has p.1 p.2 (hs p (List.mem_cons_self ..))
    obtain ⟨Fs', Gs, R', hd, sub, fr⟩ := ih (R.drop p.1 (hs p (List.mem_cons_self ..))) (fun q hq => by
      rw [List.getElem?_set_ne]
      · exact hs q (List.mem_cons_of_mem _ hq)
      · intro e
        refine n1 ?_
        show p.1 ∈ _
        rw [e]
        exact List.mem_map_of_mem (f := fun x : Nat × D => x.1) hq) n2
    have sub2 : ∀ j a, a ∈ upF Fs p.1 [] j → a ∈ Fs j ∧ j ≠ p.1 := fun j a h => by
      unfold upF at h
      split at h
      · cases h
      · exact ⟨h, by assumption⟩
    refine ⟨Fs', Fs p.1 :: Gs, R', .cons ⟨hv, R.fp0 (hs p (List.mem_cons_self ..))⟩ ⟨o, fun i a hi ha => ?_⟩ (fun G hG a ha hb => ?_) hd, fun j a h => (sub2 j a (sub j a h)).1, fun a h => .inl h, fr.trans (fun i a h => .inl (sub2 i a h).1) fun _ h => h⟩
    · obtain ⟨h1, h2⟩ := sub2 i a (sub i a hi)
      exact h2 (R.dis i p.1 a h1 ha)
    · -- a closed one's places are another slot's
      have key : ∀ (l : List (Nat × D)) (Gs : List (List Addr)), From H (upF Fs p.1 []) l Gs → G ∈ Gs → ∃ i, a ∈ upF Fs p.1 [] i ∨ H a = none := fun l => by
        induction l with
        | nil => intro Gs h1 h2; cases Gs with
          | nil => cases h2
          | cons _ _ => exact h1.elim
        | cons q l ih => intro Gs h1 h2; cases Gs with
          | nil => cases h2
          | cons F Gs =>
            rcases List.mem_cons.mp h2 with rfl | h2
            · exact ⟨q.1, h1.1 a hb⟩
            · exact ih Gs h1.2 h2
      obtain ⟨i, hi | hi⟩ := key l Gs fr hG
      · obtain ⟨h1, h2⟩ := sub2 i a hi
        exact h2 (R.dis i p.1 a h1 ha)
      · obtain ⟨xs, w⟩ := o.mem a ha
        rw [hi] at w; cases w
theorem RelS.unlock (R : RelS K H s σ Fs) (hd : Hid K H σ Fs l Gs) (fr : From H0 Fs0 l Gs) :
    ∃ Fs', RelS K H (unlockS l s) σ Fs' ∧ ∀ j a, a ∈ Fs' j → a ∈ Fs j ∨ ((a ∈ Fs0 j ∨ H0 a = none) ∧ ∃ G, G ∈ Gs ∧ a ∈ G) := by
  induction l generalizing s Fs Gs with
  | nil =>
    cases hd
    exact ⟨Fs, R, fun _ _ h => .inl h⟩
  | cons p l ih =>
    cases hd with
    | @cons i d v F l Gs hv A n hd =>
      obtain ⟨Fs1, R1, n1⟩ := R.reput A i hv.get hv.fp
      have hd1 : Hid K H σ Fs1 l Gs := by
        clear ih R fr
        induction hd with
        | nil => exact .nil
        | @cons j d' v' F' l Gs hv' A' n' hd' ih' =>
          refine .cons hv' ⟨A'.own, fun k a hk ha => ?_⟩ n' (ih' fun G hG => n G (List.mem_cons_of_mem _ hG))
          rcases n1 k a hk with z | z
          · exact A'.dis k a z.1 ha
          · exact n F' (List.mem_cons_self ..) a z.1 ha
      obtain ⟨Fs', R', n2⟩ := ih (s := s.set i (some d)) R1 hd1 fr.2
      refine ⟨Fs', R', fun j a h => ?_⟩
      rcases n2 j a h with z | ⟨z, G, hG, ha⟩
      · rcases n1 j a z with w | w
        · exact .inl w.1
        · refine .inr ⟨?_, F, List.mem_cons_self .., w.1⟩
          rw [w.2]
          exact fr.1 a w.1
      · exact .inr ⟨z, G, List.mem_cons_of_mem _ hG, ha⟩
end
abbrev I := Sg → Res (List D × List (Nat × D))
structure WalkD (K : PySem.W.Frag) (J : It) (G : Hp → Prop) (es : List D) : Prop where
  goes : ∀ i H, i < es.length → G H → J.go i H
  stops : ∀ H, G H → J.stop es.length H
  yields : ∀ i H x H', i < es.length → G H → J.yld i H x H' → ∃ d, es[i]? = some d ∧ Same H H' ∧ Own K H' d x []
def tI [Tb] [Vs] (K : PySem.W.Frag) (g : I) : TI := fun σ H R => ∃ s Fs es l s', RelS K H s σ Fs ∧ g s = .ok (es, l) s' ∧
  ∀ J H1 Fs1 Gs (G : Hp → Prop), RelS K H1 s' σ Fs1 → Chg (InF Fs) H H1 → (∀ j a, a ∈ Fs1 j → a ∈ Fs j ∨ H a = none) → Hid K H1 σ Fs1 l Gs → From H Fs l Gs → WalkD K J G es →
    (∀ H2 Fs2, Ev H1 Fs1 H2 Fs2 → G H2) → R J H1
def SimI [Tb] [Vs] (X : Cx) (tg iter : Expr) (g : I) : Prop := PI X tg iter (tI X.K g)
theorem pi_imp {X : Cx} {tg e : Expr} {t t' : TI} (h : PI X tg e t) (i : ∀ σ H Q, t' σ H Q → t σ H Q) : PI X tg e t' := ⟨fun pins s σ H Q I q => h.run pins s σ H Q I (i σ H Q q)⟩
/-- from operands that stand: items -/
def mkI (itm : List D → Option (List D)) (g : AL) : I := fun s => (g s).bind fun rs s1 => match rds rs s1 with
  | none => .bad
  | some ds => match itm ds with
    | none => .bad
    | some es => if purs es = true ∧ nodupB ((lks rs ds).map (·.1)) = true then .ok (es, lks rs ds) (lockS (lks rs ds) s1) else .bad
section
variable [Tb] [Vs] {X : Cx} {K : PySem.W.Frag}
theorem lks_has {H : Hp} {s : Sg} {σ : St} {Fs : Fp} {rs : List Rf} {vs : List V} {Gs : List (List Addr)} (r : Rfs K H σ Fs rs vs Gs) : ∀ {ds : List D}, rds rs s = some ds → ∀ p, p ∈ lks rs ds → s[p.1]? = some (some p.2) := by
  induction r with
  | nil => intro ds e p h; cases e; simp [lks] at h
  | @val d v F rs vs Gs A n _ ih =>
    intro ds e p h
    unfold rds at e
    simp only [rd] at e
    split at e
    · cases e
    · rename_i es he
      cases e
      exact ih he p (by simpa [lks] using h)
  | @slot i v rs vs Gs hv _ ih =>
    intro ds e p h
    unfold rds at e
    simp only [rd] at e
    split at e
    · cases e
    · rename_i d hd
      split at e
      · cases e
      · rename_i es he
        cases e
        unfold lks at h
        split at h
        · exact ih he p h
        · rcases List.mem_cons.mp h with rfl | h
          · exact join_some hd
          · exact ih he p h
/-- the operands stand through what a loop does -/
theorem lks_stand {H H2 : Hp} {s : Sg} {σ : St} {Fs Fs1 Fs2 : Fp} (R : RelS K H s σ Fs) (sub : ∀ j a, a ∈ Fs1 j → a ∈ Fs j) (e : Ev H Fs1 H2 Fs2) {l : List (Nat × D)} {Gl : List (List Addr)} (hd : Hid K H σ Fs1 l Gl) :
    ∀ {rs : List Rf} {vs : List V} {Gs : List (List Addr)}, Rfs K H σ Fs rs vs Gs → ∀ {ds : List D}, rds rs s = some ds → (∀ p, p ∈ lks rs ds → p ∈ l) → RdA K H2 vs ds := by
  intro rs vs Gs r
  induction r with
  | nil => intro ds e _; cases e; exact .nil
  | @val d v F rs vs Gs A n _ ih =>
    intro ds e' h
    unfold rds at e'
    simp only [rd] at e'
    split at e'
    · cases e'
    · rename_i es he
      cases e'
      have A1 : Apart K H Fs1 d v F := ⟨A.own, fun i a hi ha => A.dis i a (sub i a hi) ha⟩
      exact .cons (A1.ev e).own (ih he fun p hp => h p (by simpa [lks] using hp))
  | @slot i v rs vs Gs hv _ ih =>
    intro ds e' h
    unfold rds at e'
    simp only [rd] at e'
    split at e'
    · cases e'
    · rename_i d hd0
      split at e'
      · cases e'
      · rename_i es he
        cases e'
        obtain ⟨v', hv', o⟩ := R.has i d (join_some hd0)
        rw [hv] at hv'
        cases hv'
        by_cases hp : pur d = true
        · rw [o.pur hp] at o
          refine .cons (o.chg e.chg fun _ z => by cases z) (ih he fun p hp' => h p ?_)
          unfold lks
          rw [if_pos hp]
          exact hp'
        · have hm : (i, d) ∈ l := h (i, d) (by unfold lks; rw [if_neg hp]; exact List.mem_cons_self ..)
          have key : ∀ {l : List (Nat × D)} {Gl : List (List Addr)}, Hid K H σ Fs1 l Gl → (i, d) ∈ l → ∃ F, Apart K H Fs1 d v F := fun {l Gl} q => by
            induction q with
            | nil => intro h; cases h
            | @cons j d' v' F l Gl hv' A n _ ih =>
              intro h
              rcases List.mem_cons.mp h with z | h
              · cases z
                have hv' := hv'.get
                rw [hv] at hv'
                cases hv'
                exact ⟨F, A⟩
              · exact ih h
          obtain ⟨F, A⟩ := key hd hm
          refine .cons (A.ev e).own (ih he fun p hp' => h p ?_)
          unfold lks
          rw [if_neg hp]
          exact List.mem_cons_of_mem _ hp'
/-- the rule of a walk over operands: J as the values say -/
theorem mkI_ok {itm : List D → Option (List D)} {g : AL} {σ : St} {H : Hp} {R : It → Hp → Prop} (h : tI K (mkI itm g) σ H R) {w : List V → Hp → (It → Hp → Prop) → Prop}
    (hw : ∀ vs ds es H R, RdA K H vs ds → itm ds = some es → purs es = true → (∀ J, WalkD K J (fun H2 => RdA K H2 vs ds) es → R J H) → w vs H R) : tA K g σ H fun vs H1 => w vs H1 R := by
  obtain ⟨s, Fs, es, l, s', R0, e, q⟩ := h
  obtain ⟨rs, s1, e1, e⟩ := bind_inv e
  refine ⟨s, Fs, rs, s1, R0, e1, fun vs H1 Fs1 Gs R1 E1 k1 n1 => ?_⟩
  split at e
  · cases e
  · rename_i ds hds
    split at e
    · cases e
    · rename_i es' hes
      split at e
      · rename_i hp
        cases e
        obtain ⟨Fs2, Gl, R2, hd, sub, fr⟩ := R1.lock (lks_has k1 hds) hp.2
        refine hw vs ds es H1 R (k1.dp R1 hds) hes hp.1 fun J W => ?_
        refine q J H1 Fs2 Gl _ R2 E1.chg (fun j a h => E1.new j a (sub j a h)) hd (fr.trans E1.new fun a h => E1.chg.there a h) W fun H2 Fs3 E => ?_
        exact lks_stand R1 sub E hd k1 hds fun p h => h
      · cases e
theorem purs_get {es : List D} (h : purs es = true) {i : Nat} {d : D} (e : es[i]? = some d) : pur d = true := by
  induction es generalizing i with
  | nil => simp at e
  | cons x es ih =>
    simp only [purs, Bool.and_eq_true] at h
    cases i with
    | zero => simp at e; rw [← e]; exact h.1
    | succ i => exact ih h.2 (by simpa using e)
theorem OwnA.at {H : Hp} {ds : List D} {vs : List V} {F : List Addr} (t : OwnA K H ds vs F) (p : purs ds = true) {i : Nat} {x : V} (e : vs[i]? = some x) : ∃ d, ds[i]? = some d ∧ Own K H d x [] := by
  have hl := t.len
  have hi : i < ds.length := by rw [← hl]; exact (List.getElem?_eq_some_iff.mp e).1
  obtain ⟨v, G, hv, o, _⟩ := t.get i ds[i] (List.getElem?_eq_getElem hi)
  rw [e] at hv
  cases hv
  have pp := purs_get p (List.getElem?_eq_getElem hi)
  rw [o.pur pp] at o
  exact ⟨_, List.getElem?_eq_getElem hi, o⟩
/-- plain: a list, a tuple, a list that never changes -/
def itP : List D → Option (List D)
  | [.list ds] => some ds
  | [.tuple ds] => some ds
  | [.dict [(.none, .list ds)]] => some ds
  | _ => none
def wP (K : PySem.W.Frag) : List V → Hp → (It → Hp → Prop) → Prop := fun vs H R => ∃ a, vs = [.ref a] ∧ ((∃ xs, SqL K H a xs) ∧ R (Itl K a) H ∨ (∃ xs, SqT K H a xs) ∧ R (Itt K a) H)
theorem rd_list {H : Hp} {a : Addr} {ds : List D} (h : RdA K H [.ref a] [.list ds]) : ∃ xs F, SqL K H a xs ∧ OwnA K H ds xs F := by
  cases h with
  | cons o _ =>
    cases o with
    | lst h t n => exact ⟨_, _, SqL.of h, t⟩
theorem rd_tup {H : Hp} {a : Addr} {ds : List D} (h : RdA K H [.ref a] [.tuple ds]) : ∃ xs F, SqT K H a xs ∧ OwnA K H ds xs F := by
  cases h with
  | cons o _ =>
    cases o with
    | tup h t => exact ⟨_, _, h.sq, t⟩
theorem rd_frz {H : Hp} {a : Addr} {ds : List D} (h : RdA K H [.ref a] [.dict [(.none, .list ds)]]) : ∃ xs F, SqL K H a xs ∧ OwnA K H ds xs F := by
  cases h with
  | cons o _ =>
    cases o with
    | frz h t => exact ⟨_, _, h.sq, t⟩
theorem walkD_l {a : Addr} {ds : List D} {G : Hp → Prop} (p : purs ds = true) (h : ∀ H, G H → ∃ xs F, SqL K H a xs ∧ OwnA K H ds xs F) : WalkD K (Itl K a) G ds := by
  refine ⟨fun i H hi g => ?_, fun H g => ?_, fun i H x H' hi g y => ?_⟩
  · obtain ⟨xs, F, hq, t⟩ := h H g
    have hl := t.len
    exact ⟨xs, xs[i]'(by omega), hq, List.getElem?_eq_getElem _⟩
  · obtain ⟨xs, F, hq, t⟩ := h H g
    have hl := t.len
    exact ⟨xs, hq, by omega⟩
  · obtain ⟨xs, F, hq, t⟩ := h H g
    obtain ⟨rfl, y⟩ := y
    obtain ⟨d, hd, o⟩ := t.at p (y xs hq)
    exact ⟨d, hd, Same.refl _, o⟩
theorem walkD_t {a : Addr} {ds : List D} {G : Hp → Prop} (p : purs ds = true) (h : ∀ H, G H → ∃ xs F, SqT K H a xs ∧ OwnA K H ds xs F) : WalkD K (Itt K a) G ds := by
  refine ⟨fun i H hi g => ?_, fun H g => ?_, fun i H x H' hi g y => ?_⟩
  · obtain ⟨xs, F, hq, t⟩ := h H g
    have hl := t.len
    exact ⟨xs, xs[i]'(by omega), hq, List.getElem?_eq_getElem _⟩
  · obtain ⟨xs, F, hq, t⟩ := h H g
    have hl := t.len
    exact ⟨xs, hq, by omega⟩
  · obtain ⟨xs, F, hq, t⟩ := h H g
    obtain ⟨rfl, y⟩ := y
    obtain ⟨d, hd, o⟩ := t.at p (y xs hq)
    exact ⟨d, hd, Same.refl _, o⟩
theorem wP_ok : ∀ (vs : List V) (ds es : List D) (H : Hp) (R : It → Hp → Prop), RdA K H vs ds → itP ds = some es → purs es = true → (∀ J, WalkD K J (fun H2 => RdA K H2 vs ds) es → R J H) → wP K vs H R := by
  intro vs ds es H R h e p q
  unfold itP at e
  split at e
  · cases e
    obtain ⟨x, F, rfl, o⟩ := h.one
    cases o with
    | lst h1 t n => exact ⟨_, rfl, .inl ⟨⟨_, SqL.of h1⟩, q _ (walkD_l p fun H2 g => rd_list g)⟩⟩
  · cases e
    obtain ⟨x, F, rfl, o⟩ := h.one
    cases o with
    | tup h1 t => exact ⟨_, rfl, .inr ⟨⟨_, h1.sq⟩, q _ (walkD_t p fun H2 g => rd_tup g)⟩⟩
  · cases e
    obtain ⟨x, F, rfl, o⟩ := h.one
    cases o with
    | frz h1 t => exact ⟨_, rfl, .inl ⟨⟨_, h1.sq⟩, q _ (walkD_l p fun H2 g => rd_frz g)⟩⟩
  · cases e
/-- over a list or a tuple -/
theorem pi_seq {tg e : Expr} {te : TE} (he : PE X e te) : PI X tg e (fun σ H R => te σ H fun x H1 => wP X.K [x] H1 R) := by
  refine ⟨fun pins s σ H R I h => ?_⟩
  -- the value is known only when it is there: both rules run on the same evaluation
  refine thn (he.run pins s σ H _ I h) fun v s1 ⟨x, H1, I1, r1, a, ex, q⟩ => ?_
  have ex' : x = V.ref a := by cases ex; rfl
  subst ex'
  rcases q with ⟨⟨xs, hq⟩, q⟩ | ⟨⟨xs, hq⟩, q⟩
  · cases r1
    obtain ⟨its, rv, p, hz⟩ := I1.list hq
    refine wpAny_pyIter_list p.isList ?_
    refine ⟨s1.heap.objs.size, [s1.heap.objs.size], _, _, H1, rfl, I1.kept (t' := s1.toks) fun b o e => Heap.get?_push_of_some _ e, turn_list a _, ⟨_, Heap.get?_push_size _ rfl, rfl, rfl⟩, fun b hb => ?_, q⟩
    have e : b = s1.heap.objs.size := by simpa using hb
    subst e
    exact I1.fpOk (Nat.le_refl _) (I1.hok.fresh (Nat.le_refl _))
  · cases r1
    obtain ⟨its, rv, p, hz⟩ := I1.tuple hq
    refine wpAny_pyIter_tuple (show s1.heap.IsTuple a its.toArray from p) ?_
    refine ⟨s1.heap.objs.size, [s1.heap.objs.size], _, _, H1, rfl, I1.kept (t' := s1.toks) fun b o e => Heap.get?_push_of_some _ e, turn_tuple a _, ⟨_, Heap.get?_push_size _ rfl, rfl, rfl⟩, fun b hb => ?_, q⟩
    have e : b = s1.heap.objs.size := by simpa using hb
    subst e
    exact I1.fpOk (Nat.le_refl _) (I1.hok.fresh (Nat.le_refl _))
theorem si_seq {tg e : Expr} {ga : O} (he : SimO X e ga) : SimI X tg e (mkI itP (aCons ga aNil)) :=
  pi_imp (pi_seq he) fun _ _ _ h => by have z := tA1 (mkI_ok h wP_ok); exact z
def rngD (lo : Int) (n : Nat) : List D := (List.range n).map fun i => .int (lo + (i : Nat))
def itR1 : List D → Option (List D)
  | [.int j] => if -1000000 < j ∧ j < 1000000 then some (rngD 0 j.toNat) else none
  | _ => none
def itR2 : List D → Option (List D)
  | [.int i, .int j] => if -1000000 < i ∧ i < 1000000 ∧ -1000000 < j ∧ j < 1000000 then some (rngD i (j - i).toNat) else none
  | _ => none
theorem rngD_len (lo : Int) (n : Nat) : (rngD lo n).length = n := by unfold rngD; simp
theorem walkD_r {lo : Int} {n : Nat} {G : Hp → Prop} : WalkD K (Itr lo n) G (rngD lo n) := by
  refine ⟨fun i H hi g => by rw [rngD_len] at hi; exact hi, fun H g => by rw [rngD_len]; exact Nat.le_refl _, fun i H x H' hi g y => ?_⟩
  obtain ⟨rfl, rfl⟩ := y
  rw [rngD_len] at hi
  refine ⟨.int (lo + (i : Nat)), ?_, Same.refl _, .int _⟩
  unfold rngD
  rw [List.getElem?_map, List.getElem?_range hi]
  rfl
theorem si_range1 {tg a : Expr} {ga : O} {p pos : Pos} (hg : Gl X "range") (hm : X.mg "range" = none) (ha : SimA X [a] (aCons ga aNil)) (hs : starEach [a] X.env = [(false, eval a X.env)] := by rfl) : SimI X tg (.Call (.Name "range" p) [a] [] pos) (mkI itR1 (aCons ga aNil)) := by
  refine pi_imp (pi_range1 hg hm ha hs) fun σ H R h => ?_
  exact mkI_ok h (w := fun vs H1 R => ∃ j : Int, vs = [.int j] ∧ -(2 ^ 62) ≤ j ∧ j < 2 ^ 62 ∧ R (Itr 0 j.toNat) H1) (fun vs ds es H R h e p q => by
    unfold itR1 at e
    split at e
    · obtain ⟨x, F, rfl, o⟩ := h.one
      cases o
      split at e
      · rename_i hj
        cases e
        exact ⟨_, rfl, by omega, by omega, q _ walkD_r⟩
      · cases e
    · cases e)
end
end Sim
namespace Sim
open PySem PySem.Spec L2
open Sem (wp)
theorem meets_enumerate_newB1 {v : Value} {o : Obj} {H : Heap → Prop} (B : Begins v o H) :
    Meets (Builtin.«enumerate.__new__» ⟨[.type "enumerate", v], []⟩) (fun _ R s => H s.heap ∧
      R (.ok (.ret (.ref (s.heap.push o).objs.size))) { s with heap := (s.heap.push o).push { cls := .type "enumerate", data := .fields #[.none, .bool false, .ref s.heap.objs.size, rawInt 0, .none, .none] } }) :=
  .of_wp fun prog w A R s h => by
    obtain ⟨hp, g, d, tk, os⟩ := s; obtain ⟨h1, h⟩ := h
    have hsub := sub_enumerate
    have q1 : ∀ {A' : Around} {E : Value → Shared → Prop} {Q : Value → Shared → Prop}, Q (.ref hp.objs.size) ⟨hp.push o, g, d, tk, os⟩ → wpAny (model prog w) A' (pyIter v) Q E ⟨hp, g, d, tk, os⟩ :=
      fun q => B.iter prog w _ _ ⟨hp, g, d, tk, os⟩ _ h1 q
    wp_walk using q1
    refine wpAny_stack_any fun st => wpAny_pure ?_
    split
    · rename_i c _ _ _ _ _
      cases (c == Value.type "enumerate")
      · wp_walk using q1
        exact ⟨_, rfl, h⟩
      · wp_walk using q1
        exact ⟨_, rfl, h⟩
    · wp_walk using q1
      exact ⟨_, rfl, h⟩
theorem enum_begins1 {prog : Program} {w : World} {A : Around} {E : Value → Shared → Prop} {s : Shared} {v : Value} {o : Obj} {H : Heap → Prop} {Q : Value → Shared → Prop} (B : Begins v o H) (h1 : H s.heap)
    (h : ∀ h', IsEnum h' (s.heap.objs.size + 1) s.heap.objs.size 0 .none → h'.get? s.heap.objs.size = some o → h'.objs.size = s.heap.objs.size + 2 →
      (∀ b o, s.heap.get? b = some o → h'.get? b = some o) → Q (.ref (s.heap.objs.size + 1)) { s with heap := h' }) :
    wpAny (model prog w) A (call (.type "enumerate") [v]) Q E s := by
  refine callType_new F.called_enumerate (by decide) (F.typeCall_enumerate_1 _) (F.newCall_enumerate_1 _) (fun obj => F.args_object_init_2 obj _) F.entry_enumerate_new
    (meets_enumerate_newB1 B) ⟨h1, ?_⟩
  have hz : (s.heap.push o).objs.size = s.heap.objs.size + 1 := Heap.size_push ..
  show _ ∧ _
  rw [hz]
  have he : IsEnum ((s.heap.push o).push { cls := .type "enumerate", data := .fields #[.none, .bool false, .ref s.heap.objs.size, rawInt 0, .none, .none] }) (s.heap.objs.size + 1) s.heap.objs.size 0 .none := by
    have := Heap.get?_push_size (s.heap.push o) (o := { cls := .type "enumerate", data := .fields #[.none, .bool false, .ref s.heap.objs.size, rawInt 0, .none, .none] }) rfl
    rw [hz] at this; exact this
  refine ⟨⟨_, he, rfl⟩, h _ he (Heap.get?_push_of_some _ (Heap.get?_push_size _ B.free)) (by rw [Heap.size_push, hz]) fun b o x => Heap.get?_push_of_some _ (Heap.get?_push_of_some _ x)⟩
def Sq2 (K : PySem.W.Frag) (H : Hp) (k : Bool) (a : Addr) (xs : List V) : Prop := match k with
  | true => SqL K H a xs
  | false => SqT K H a xs
def SrcH (h : Heap) (k : Bool) (a : Addr) (items : Array Value) : Prop := match k with
  | true => h.IsList a items
  | false => h.IsTuple a items
def ItH (h : Heap) (k : Bool) (it a : Addr) (i : Nat) : Prop := match k with
  | true => h.IsListIter it a i
  | false => h.IsTupleIter it a i
theorem sq2_src {X : Cx} {pins : List (Addr × Obj)} {σ : St} {H : Hp} {s : Shared} {k : Bool} {a : Addr} {xs : List V} (I : Inv X pins σ H s) (h : Sq2 X.K H k a xs) : ∃ its : List Value, Vals xs its ∧ SrcH s.heap k a its.toArray ∧ xs.length ≤ sizeLine := by
  cases k with
  | true =>
    obtain ⟨its, r, p, z⟩ := I.list h
    exact ⟨its, r, p.isList, z⟩
  | false =>
    obtain ⟨its, r, p, z⟩ := I.tuple h
    exact ⟨its, r, p, z⟩
theorem sq2_inj {X : Cx} {pins : List (Addr × Obj)} {σ : St} {H : Hp} {s : Shared} {k : Bool} {a : Addr} {xs ys : List V} (I : Inv X pins σ H s) (h : Sq2 X.K H k a xs) (h2 : Sq2 X.K H k a ys) : xs = ys := by
  cases k with
  | true => exact I.list_inj h h2
  | false => exact I.tuple_inj h h2
theorem itH_obj {h : Heap} {k : Bool} {it a : Addr} {i : Nat} (st : ItH h k it a i) : ∃ o, h.get? it = some o ∧ ∀ v, o.data ≠ .cell v := by
  cases k with
  | true =>
    obtain ⟨o, ho, hc, hd⟩ := st
    exact ⟨o, ho, fun v q => by rw [hd] at q; cases q⟩
  | false =>
    obtain ⟨o, ho, hc, hd⟩ := st
    exact ⟨o, ho, fun v q => by rw [hd] at q; cases q⟩
theorem itH_at {h h' : Heap} {k : Bool} {it a : Addr} {i : Nat} (st : ItH h k it a i) (q : ∀ o, h.get? it = some o → h'.get? it = some o) : ItH h' k it a i := by
  cases k with
  | true => exact Heap.IsListIter.at st q
  | false => exact Heap.IsTupleIter.at st q
theorem itH_lt {h : Heap} {k : Bool} {it a : Addr} {i : Nat} (st : ItH h k it a i) : it < h.objs.size := by
  obtain ⟨o, ho, _⟩ := itH_obj st
  exact Heap.lt_size ho
theorem src_apart {h : Heap} {k k2 : Bool} {it b a : Addr} {i : Nat} {items : Array Value} (st : ItH h k it b i) (ht : SrcH h k2 a items) : a ≠ it := by
  rintro rfl
  have e1 : ∃ o, h.get? a = some o ∧ (o.cls = .type "list_iterator" ∨ o.cls = .type "tuple_iterator") := by
    cases k with
    | true => obtain ⟨o, ho, hc, _⟩ := st; exact ⟨o, ho, .inl hc⟩
    | false => obtain ⟨o, ho, hc, _⟩ := st; exact ⟨o, ho, .inr hc⟩
  have e2 : ∃ o, h.get? a = some o ∧ (o.cls = .type "list" ∨ o.cls = .type "tuple") := by
    cases k2 with
    | true => obtain ⟨o, ho, hc, _⟩ := ht; exact ⟨o, ho, .inl hc⟩
    | false => obtain ⟨o, ho, hc, _⟩ := ht; exact ⟨o, ho, .inr hc⟩
  obtain ⟨o, ho, hc⟩ := e1
  obtain ⟨o', ho', hc'⟩ := e2
  rw [ho] at ho'
  cases ho'
  rcases hc with hc | hc <;> rcases hc' with hc' | hc' <;> rw [hc] at hc' <;> injection hc' with z <;> exact absurd z (by decide)
theorem src_cls {h : Heap} {k : Bool} {a : Addr} {items : Array Value} (ht : SrcH h k a items) {o : Obj} (ho : h.get? a = some o) : o.cls = .type "list" ∨ o.cls = .type "tuple" := by
  cases k with
  | true => obtain ⟨o', ho', hc, _⟩ := ht; rw [ho] at ho'; cases ho'; exact .inl hc
  | false => obtain ⟨o', ho', hc, _⟩ := ht; rw [ho] at ho'; cases ho'; exact .inr hc
theorem draws_src {prog : Program} {w : World} {A : Around} (hh : A.handled = none) (k : Bool) (it a : Addr) (hne : a ≠ it) (items : Array Value) :
    Draws prog w A it [it, a] items.size (fun i v => items[i]? = some v) (fun i h => ItH h k it a i ∧ SrcH h k a items) := by
  cases k with
  | true => exact Draws.list hh it a hne items
  | false => exact Draws.tuple hh it a hne items
theorem begins_src (k : Bool) (a : Addr) (items : Array Value) : ∃ o, Begins (.ref a) o (fun h => SrcH h k a items) ∧ ∀ (h : Heap) (it : Addr), h.get? it = some o → ItH h k it a 0 := by
  cases k with
  | true => exact ⟨_, begins_list a items, fun h it e => ⟨_, e, rfl, rfl⟩⟩
  | false => exact ⟨_, begins_tuple a items, fun h it e => ⟨_, e, rfl, rfl⟩⟩
def IteA (K : PySem.W.Frag) (k : Bool) (a : Addr) : It :=
  ⟨fun i H => ∃ (xs : List V) (x : V), Sq2 K H k a xs ∧ xs[i]? = some x, fun i H v H' => ∃ T o x, v = .ref T ∧ H T = none ∧ o.dict = none ∧ H' = upd H T (.frz o (.tup [.int (i : Nat), x])) ∧ ∀ xs, Sq2 K H k a xs → xs[i]? = some x, fun i H => ∃ xs : List V, Sq2 K H k a xs ∧ xs.length = i⟩
theorem enum_apart {h : Heap} {k : Bool} {e a : Addr} {i : Addr} {c : Int} {old : Value} {items : Array Value} (he : IsEnum h e i c old) (ht : SrcH h k a items) : e ≠ a := by
  rintro rfl
  have he' : h.get? e = some _ := he
  rcases src_cls ht he' with z | z <;> injection z with z <;> exact absurd z (by decide)
theorem turn_enumA {P : Program} {w : World} {K : PySem.W.Frag} {elts : List Expr} {kk : Nat} {tpos : Pos} (k : Bool) (a e it : Addr) :
    Turn P w K (.Tuple elts kk tpos) (IteA K k a) [e, it] e (fun i h => (∃ old, IsEnum h e it ((i : Nat) : Int) old) ∧ ItH h k it a i ∧ e ≠ it) where
  mem := by simp
  obj := fun i h st b hb => by
    obtain ⟨⟨old, he⟩, hi, _⟩ := st
    have e' : b = e ∨ b = it := by simpa using hb
    rcases e' with z | z
    · rw [z]; exact ⟨_, he, fun v q => nomatch q⟩
    · rw [z]; exact itH_obj hi
  keep := fun i h h' st k => let ⟨⟨old, he⟩, hi, hne⟩ := st; ⟨⟨old, k e (by simp) _ he⟩, itH_at hi fun o q => k it (by simp) o q, hne⟩
  item := by
    intro X hP hw hK hc i pins s σ H E I hf st hg
    subst hP hw hK
    obtain ⟨⟨old, he⟩, hit, hne⟩ := st
    obtain ⟨xs, x, hq, hx⟩ := hg
    obtain ⟨its, rv, ht, hz⟩ := sq2_src I hq
    obtain ⟨u, hu, ru⟩ := rv.get hx
    have hel : e < s.heap.objs.size := Heap.lt_size he
    have hil := itH_lt hit
    have hai := src_apart hit ht
    have hea := enum_apart he ht
    have hh : X.A.in1.handled = none := I.ok.hd hc
    have hlt : i < its.toArray.size := by
      have := (List.getElem?_eq_some_iff.mp hu).1
      simpa using this
    refine wpAny_pyNext_enum_itemC (draws_src hh k it a hai its.toArray) he ⟨hit, ht⟩ hlt hne (by simp [hne, hea]) fun x' h' tk hP ho hst hT hsz hk => ?_
    have hxu : x' = u := by
      have q : its.toArray[i]? = some u := by simpa using hu
      rw [q] at hP
      exact (Option.some.inj hP).symm
    subst hxu
    refine ⟨_, rfl, wpAny_letOwnedTupleGo_enum (s := { s with heap := h', toks := tk + 1 }) ho fun h'' he' sb => ?_⟩
    have hT2 : h''.get? s.heap.objs.size = some { cls := .type "tuple", data := .seq #[.int i tk, x'] } := (sb.2 _ (Nat.ne_of_gt hel)).trans hT
    have new : ObjOk X.prog X.w (upd H s.heap.objs.size (.frz { cls := .type "tuple", data := .seq #[.int i tk, x'] } (.tup [.int (i : Nat), x]))) h'' s.heap.objs.size (.frz { cls := .type "tuple", data := .seq #[.int i tk, x'] } (.tup [.int (i : Nat), x])) :=
      ⟨hT2, by show 2 ≤ sizeLine; decide, [.int i tk, x'], .cons ⟨_, rfl⟩ (.cons ru .nil), ⟨_, hT2, rfl, _, rfl⟩⟩
    have I1 : Inv X pins σ (upd H s.heap.objs.size (.frz { cls := .type "tuple", data := .seq #[.int i tk, x'] } (.tup [.int (i : Nat), x]))) { s with heap := h'', toks := tk + 1 } :=
      I.turnedNew (ch := [e, it]) (fun b ob hb q => (sb.2 b (fun z => hb (by simp [z]))).trans (hk b ob (fun z => hb (by simp [z])) (fun z => hb (by simp [z])) q)) hf (Nat.le_refl _) new
    refine ⟨.ref s.heap.objs.size, _, I1, rfl, ⟨_, _, x, rfl, I.hok.fresh (Nat.le_refl _), rfl, rfl, fun ys hy => by rw [sq2_inj I hy hq]; exact hx⟩, ⟨⟨x', ?_⟩, itH_at hst.1 fun o q => (sb.2 it (Ne.symm hne)).trans q, hne⟩, fun b hb => ?_⟩
    · have e1 : ((i + 1 : Nat) : Int) = (i : Int) + 1 := by omega
      rw [e1]; exact he'
    · have hb' : b < s.heap.objs.size := by
        have e' : b = e ∨ b = it := by simpa using hb
        rcases e' with z | z
        · rw [z]; exact hel
        · rw [z]; exact hil
      rw [upd_ne (Nat.ne_of_lt hb')]
      exact (hf b hb).1
  done := by
    intro X hP hw hK hc i pins s σ H E I hf st hg
    subst hP hw hK
    obtain ⟨⟨old, he⟩, hit, hne⟩ := st
    obtain ⟨xs, hq, hx⟩ := hg
    obtain ⟨its, rv, ht, hz⟩ := sq2_src I hq
    obtain ⟨f0, f1, f2, f3, f4, f5⟩ := hf it (by simp)
    have hl := rv.length
    have hai := src_apart hit ht
    have hh : X.A.in1.handled = none := I.ok.hd hc
    have hi : i = its.toArray.size := by rw [List.size_toArray]; omega
    subst hi
    exact wpAny_pyNext_enum_endD (draws_src hh k it a hai its.toArray) he ⟨hit, ht⟩ fun h' eb => ⟨rfl, I.turned (t' := s.toks) (fun b o hb q => eb b o hb q) f0 f1 f3 f4 f5⟩
  self := fun A i s Q E st h => let ⟨⟨_, he⟩, _⟩ := st; wpAny_pyIter_enum he h
def iEnumA (K : PySem.W.Frag) (ta : TA) : TI := fun σ H R => ta σ H fun vs H1 => ∃ k a xs, vs = [.ref a] ∧ Sq2 K H1 k a xs ∧ R (IteA K k a) H1
theorem pi_enumA {X : Cx} {e : Expr} {ta : TA} {p pos tpos : Pos} {elts : List Expr} {kk : Nat} (hg : Gl X "enumerate") (hm : X.mg "enumerate" = none) (ha : PA X [e] ta) (hs : starEach [e] X.env = [(false, eval e X.env)] := by rfl) :
    PI X (.Tuple elts kk tpos) (.Call (.Name "enumerate" p) [e] [] pos) (iEnumA X.K ta) := by
  refine ⟨fun pins s σ H R I h => ?_⟩
  refine PyProof.Rows.Call_ (ld_blt I hg hm PyProof.Rows.boot_enumerate (PyProof.Rows.callWith_type1 (thn (ha.run pos pins s σ H _ I h) fun us s1 ⟨vs, H1, I1, r1, q1⟩ => ?_) hs rfl))
  obtain ⟨k, a, xs, ex, hq, q⟩ := q1
  subst ex
  cases r1 with
  | cons r rr =>
    cases rr
    cases r
    have fin : ∀ b, b ∈ [s1.heap.objs.size + 1, s1.heap.objs.size] → FpOk X pins H1 b := fun b hb => by
      have e' : b = s1.heap.objs.size + 1 ∨ b = s1.heap.objs.size := by simpa using hb
      have hle : s1.heap.objs.size ≤ b := by
        rcases e' with z | z
        · rw [z]; exact Nat.le_add_right _ _
        · rw [z]; exact Nat.le_refl _
      exact I1.fpOk hle (I1.hok.fresh hle)
    obtain ⟨its, rv, ht, hz⟩ := sq2_src I1 hq
    obtain ⟨o, B, hB⟩ := begins_src k a its.toArray
    refine enum_begins1 B ht fun h' he hit hsz hk => wpAny_pyIter_enum he ?_
    have I2 : Inv X pins σ H1 { s1 with heap := h' } := I1.kept (t' := s1.toks) hk
    exact ⟨s1.heap.objs.size + 1, [s1.heap.objs.size + 1, s1.heap.objs.size], _, _, H1, rfl, I2, turn_enumA k a (s1.heap.objs.size + 1) s1.heap.objs.size, ⟨⟨.none, he⟩, hB _ _ hit, Nat.succ_ne_self _⟩, fin, q⟩
def ItzA (K : PySem.W.Frag) (k l : Bool) (a b : Addr) : It :=
  ⟨fun i H => ∃ (xs ys : List V) (x y : V), Sq2 K H k a xs ∧ Sq2 K H l b ys ∧ xs[i]? = some x ∧ ys[i]? = some y,
    fun i H v H' => ∃ T o x y, v = .ref T ∧ H T = none ∧ o.dict = none ∧ H' = upd H T (.frz o (.tup [x, y])) ∧ (∀ xs, Sq2 K H k a xs → xs[i]? = some x) ∧ ∀ ys, Sq2 K H l b ys → ys[i]? = some y,
    fun i H => ∃ xs ys : List V, Sq2 K H k a xs ∧ Sq2 K H l b ys ∧ i = min xs.length ys.length⟩
def ZSt (h : Heap) (k l : Bool) (z TI TO i1 i2 a b : Addr) (f0 : Value) (i : Nat) : Prop :=
  IsZip h z TI TO f0 ∧ IsTupOf2 h TI (.ref i1) (.ref i2) ∧ (∃ x y, IsTupOf2 h TO x y) ∧ ItH h k i1 a i ∧ ItH h l i2 b i
structure ZAp (z TI TO i1 i2 : Addr) : Prop where
  TIz : TI ≠ z
  TOz : TO ≠ z
  TITO : TI ≠ TO
  TIi1 : TI ≠ i1
  TIi2 : TI ≠ i2
  zi1 : z ≠ i1
  zi2 : z ≠ i2
  Ti1 : TO ≠ i1
  Ti2 : TO ≠ i2
  ii : i1 ≠ i2
theorem zap (n : Nat) : ZAp (n + 4) (n + 2) (n + 3) n (n + 1) := by
  constructor <;> (intro e; have e' : (_ : Nat) = _ := e; omega)
theorem zsep {h : Heap} {k l : Bool} {z TI TO i1 i2 a b : Addr} {f0 : Value} {i : Nat} {xs ys : Array Value} (D : ZAp z TI TO i1 i2) (st : ZSt h k l z TI TO i1 i2 a b f0 i) (h1 : SrcH h k a xs) (h2 : SrcH h l b ys) (hTO : TO ≠ a ∧ TO ≠ b) : ZipSep2 z TI TO i1 i2 [i1, a] [i2, b] := by
  have hz : h.get? z = some _ := st.1
  have za : ∀ {k a} {xs : Array Value}, SrcH h k a xs → z ≠ a := fun {k a xs} hh e => by
    subst e
    rcases src_cls hh hz with w | w <;> injection w with w <;> exact absurd w (by decide)
  have ia := src_apart st.2.2.2.1 h2
  have ib := src_apart st.2.2.2.2 h1
  exact ⟨D.TIz, D.TOz, D.TITO, D.TIi1, by simp, by simp [D.zi1, za h1], by simp [D.Ti1, hTO.1], D.TIi2, by simp, by simp [D.zi2, za h2], by simp [D.Ti2, hTO.2], by simp [D.ii, ia.symm], by simp [D.ii.symm, ib.symm]⟩
/-- the source's place isn't the iterator's own -/
theorem src_ne {X : Cx} {pins : List (Addr × Obj)} {H : Hp} {k : Bool} {a : Addr} {xs : List V} {T : Addr} (hf : FpOk X pins H T) (hq : Sq2 X.K H k a xs) {s : Shared} {σ : St} (I : Inv X pins σ H s) : T ≠ a := by
  rintro rfl
  have n := hf.1
  have key : ∀ {u : HO}, ¬ Rd H T u := fun {u} r => by
    rcases r with r | ⟨o, r⟩
    · rw [n] at r; cases r
    · rw [n] at r; cases r
  have kk : ∀ {o : Obj}, X.K.lookup T = some o → False := fun {o} hk => by
    have e1 : X.base.get? T = some o := I.ok.mod.kin T o hk
    have e2 := Heap.lt_size e1
    rcases hf.2.2.2.1 with z | z
    · exact I.ok.noex T o e1 z
    · exact absurd (Nat.lt_of_lt_of_le e2 (Nat.le_trans I.ok.bsz z)) (Nat.lt_irrefl _)
  cases k with
  | true =>
    rcases hq with r | ⟨o, _, _, hk, _⟩
    · exact key r
    · exact kk hk
  | false =>
    rcases hq with r | ⟨o, _, _, hk, _⟩
    · exact key r
    · exact kk hk
theorem turn_zipA {P : Program} {w : World} {K : PySem.W.Frag} {elts : List Expr} {kk : Nat} {tpos : Pos} (k l : Bool) {z TI TO i1 i2 : Addr} (a b : Addr) (D : ZAp z TI TO i1 i2) :
    Turn P w K (.Tuple elts kk tpos) (ItzA K k l a b) [z, TI, TO, i1, i2] z (fun i h => ZSt h k l z TI TO i1 i2 a b .none i) where
  mem := by simp
  obj := fun i h st c hc => by
    obtain ⟨hz, hTI, ⟨x, y, hTO⟩, h1, h2⟩ := st
    have e' : c = z ∨ c = TI ∨ c = TO ∨ c = i1 ∨ c = i2 := by simpa using hc
    rcases e' with q | q | q | q | q
    · rw [q]; exact ⟨_, hz, fun v q => nomatch q⟩
    · rw [q]; exact ⟨_, hTI, fun v q => nomatch q⟩
    · rw [q]; exact ⟨_, hTO, fun v q => nomatch q⟩
    · rw [q]; exact itH_obj h1
    · rw [q]; exact itH_obj h2
  keep := fun i h h' st k => by
    obtain ⟨hz, hTI, ⟨x, y, hTO⟩, h1, h2⟩ := st
    exact ⟨k z (by simp) _ hz, k TI (by simp) _ hTI, ⟨x, y, k TO (by simp) _ hTO⟩, itH_at h1 fun o q => k i1 (by simp) o q, itH_at h2 fun o q => k i2 (by simp) o q⟩
  item := by
    intro X hP hw hK hc i pins s σ H E I hf st hg
    subst hP hw hK
    obtain ⟨xs, ys, x, y, hqx, hqy, hx, hy⟩ := hg
    obtain ⟨its, rv, p, _⟩ := sq2_src I hqx
    obtain ⟨its2, rv2, p2, _⟩ := sq2_src I hqy
    obtain ⟨u, hu, ru⟩ := rv.get hx
    obtain ⟨u2, hu2, ru2⟩ := rv2.get hy
    have S := zsep D st p p2 ⟨src_ne (hf TO (by simp)) hqx I, src_ne (hf TO (by simp)) hqy I⟩
    obtain ⟨hz, hTI, ⟨x0, y0, hTO⟩, h1, h2⟩ := st
    have hzl : z < s.heap.objs.size := Heap.lt_size hz
    have hh : X.A.in1.handled = none := I.ok.hd hc
    have lt1 : i < its.toArray.size := by have := (List.getElem?_eq_some_iff.mp hu).1; simpa using this
    have lt2 : i < its2.toArray.size := by have := (List.getElem?_eq_some_iff.mp hu2).1; simpa using this
    refine wpAny_pyNext_zipD2_item S (draws_src hh k i1 a (src_apart h1 p) its.toArray) (draws_src hh l i2 b (src_apart h2 p2) its2.toArray) hz hTI hTO ⟨h1, p⟩ ⟨h2, p2⟩ lt1 lt2 fun v1 v2 h' tk q1 q2 z' TO' st1 st2 hT hsz hk => ?_
    have e1 : v1 = u := by
      have q : its.toArray[i]? = some u := by simpa using hu
      rw [q] at q1; exact (Option.some.inj q1).symm
    have e2 : v2 = u2 := by
      have q : its2.toArray[i]? = some u2 := by simpa using hu2
      rw [q] at q2; exact (Option.some.inj q2).symm
    subst e1 e2
    refine ⟨_, rfl, wpAny_letOwnedTupleGo_zip (s := { s with heap := h', toks := tk }) z' fun h'' z'' sb => ?_⟩
    have hT2 : h''.get? s.heap.objs.size = some { cls := .type "tuple", data := .seq #[v1, v2] } := (sb.2 _ (Nat.ne_of_gt hzl)).trans hT
    have new : ObjOk X.prog X.w (upd H s.heap.objs.size (.frz { cls := .type "tuple", data := .seq #[v1, v2] } (.tup [x, y]))) h'' s.heap.objs.size (.frz { cls := .type "tuple", data := .seq #[v1, v2] } (.tup [x, y])) :=
      ⟨hT2, by show 2 ≤ sizeLine; decide, [v1, v2], .cons ru (.cons ru2 .nil), ⟨_, hT2, rfl, _, rfl⟩⟩
    have I1 : Inv X pins σ (upd H s.heap.objs.size (.frz { cls := .type "tuple", data := .seq #[v1, v2] } (.tup [x, y]))) { s with heap := h'', toks := tk } :=
      I.turnedNew (ch := [z, TI, TO, i1, i2]) (fun c o hb q => (sb.2 c (fun q' => hb (by simp [q']))).trans (hk c o (fun q' => hb (by simp [q'])) (fun q' => hb (by simp [q'])) (fun q' => hb (by simp [q'])) (fun q' => hb (by simp [q'])) q)) hf (Nat.le_refl _) new
    refine ⟨.ref s.heap.objs.size, _, I1, rfl, ⟨_, _, x, y, rfl, I.hok.fresh (Nat.le_refl _), rfl, rfl, fun l hl => by rw [sq2_inj I hl hqx]; exact hx, fun l hl => by rw [sq2_inj I hl hqy]; exact hy⟩, ⟨z'', ?_, ⟨v1, v2, ?_⟩, ?_, ?_⟩, fun c hcm => ?_⟩
    · exact (sb.2 _ D.TIz).trans (hk _ _ D.TIz D.TITO D.TIi1 D.TIi2 hTI)
    · exact (sb.2 _ D.TOz).trans TO'
    · exact itH_at st1.1 fun o q => (sb.2 _ D.zi1.symm).trans q
    · exact itH_at st2.1 fun o q => (sb.2 _ D.zi2.symm).trans q
    · have hlt : c < s.heap.objs.size := by
        have e' : c = z ∨ c = TI ∨ c = TO ∨ c = i1 ∨ c = i2 := by simpa using hcm
        rcases e' with q | q | q | q | q
        · rw [q]; exact hzl
        · rw [q]; exact Heap.lt_size hTI
        · rw [q]; exact Heap.lt_size hTO
        · rw [q]; exact itH_lt h1
        · rw [q]; exact itH_lt h2
      rw [upd_ne (Nat.ne_of_lt hlt)]
      exact (hf c hcm).1
  done := by
    intro X hP hw hK hc i pins s σ H E I hf st hg
    subst hP hw hK
    obtain ⟨xs, ys, hqx, hqy, hend⟩ := hg
    obtain ⟨its, rv, p, _⟩ := sq2_src I hqx
    obtain ⟨its2, rv2, p2, _⟩ := sq2_src I hqy
    have S := zsep D st p p2 ⟨src_ne (hf TO (by simp)) hqx I, src_ne (hf TO (by simp)) hqy I⟩
    obtain ⟨hz, hTI, ⟨x0, y0, hTO⟩, h1, h2⟩ := st
    have hh : X.A.in1.handled = none := I.ok.hd hc
    have l1 := rv.length
    have l2 := rv2.length
    exact wpAny_pyNext_zipD2_end S (draws_src hh k i1 a (src_apart h1 p) its.toArray) (draws_src hh l i2 b (src_apart h2 p2) its2.toArray) hz hTI hTO ⟨h1, p⟩ ⟨h2, p2⟩ (by simp; omega) (by simp; omega) (by simp; omega)
      fun h' tk hk => ⟨rfl, I.turnedL (t' := tk) (ch := [z, TI, TO, i1, i2]) (fun c o hb q => hk c o (fun q' => hb (by simp [q'])) (fun q' => hb (by simp [q'])) (fun q' => hb (by simp [q'])) (fun q' => hb (by simp [q'])) q) hf⟩
  self := fun A i s Q E st h => wpAny_pyIter_zip st.1 h
def iZipA (K : PySem.W.Frag) (ta : TA) : TI := fun σ H R => ta σ H fun vs H1 => ∃ k l a b xs ys, vs = [.ref a, .ref b] ∧ Sq2 K H1 k a xs ∧ Sq2 K H1 l b ys ∧ R (ItzA K k l a b) H1
theorem pi_zipA {X : Cx} {e e2 : Expr} {ta : TA} {p pos tpos : Pos} {elts : List Expr} {kk : Nat} (hg : Gl X "zip") (hm : X.mg "zip" = none) (ha : PA X [e, e2] ta)
    (hs : starEach [e, e2] X.env = (false, eval e X.env) :: starEach [e2] X.env := by rfl) (hpl : (backTo pos (starEach [e2] X.env)).any (·.1) = false := by rfl) :
    PI X (.Tuple elts kk tpos) (.Call (.Name "zip" p) [e, e2] [] pos) (iZipA X.K ta) := by
  refine ⟨fun pins s σ H R I h => ?_⟩
  refine PyProof.Rows.Call_ (ld_blt I hg hm PyProof.Rows.boot_zip (PyProof.Rows.callWith_type1 (thn (ha.run pos pins s σ H _ I h) fun us s1 ⟨vs, H1, I1, r1, q1⟩ => ?_) hs hpl))
  obtain ⟨k, l, a, b, xs, ys, ex, hqx, hqy, q⟩ := q1
  subst ex
  cases r1 with
  | cons r rr =>
    cases rr with
    | cons r' rr =>
      cases rr
      cases r
      cases r'
      have fresh5 : ∀ c, c ∈ [s1.heap.objs.size + 4, s1.heap.objs.size + 2, s1.heap.objs.size + 3, s1.heap.objs.size, s1.heap.objs.size + 1] → FpOk X pins H1 c := fun c hcm => by
        have e' : c = s1.heap.objs.size + 4 ∨ c = s1.heap.objs.size + 2 ∨ c = s1.heap.objs.size + 3 ∨ c = s1.heap.objs.size ∨ c = s1.heap.objs.size + 1 := by simpa using hcm
        have hle : s1.heap.objs.size ≤ c := by omega
        exact I1.fpOk hle (I1.hok.fresh hle)
      obtain ⟨its, rv, p1, _⟩ := sq2_src I1 hqx
      obtain ⟨its2, rv2, p2, _⟩ := sq2_src I1 hqy
      obtain ⟨o1, B1, hB1⟩ := begins_src k a its.toArray
      obtain ⟨o2, B2, hB2⟩ := begins_src l b its2.toArray
      refine zip_begins2 B1 B2 p1 p2 fun h' hz hTI hTO h1 h2 hsz hk => wpAny_pyIter_zip hz ?_
      have I2 : Inv X pins σ H1 { s1 with heap := h' } := I1.kept (t' := s1.toks) hk
      exact ⟨s1.heap.objs.size + 4, [s1.heap.objs.size + 4, s1.heap.objs.size + 2, s1.heap.objs.size + 3, s1.heap.objs.size, s1.heap.objs.size + 1], _, _, H1, rfl, I2,
        turn_zipA k l a b (zap s1.heap.objs.size), ⟨hz, hTI, ⟨_, _, hTO⟩, hB1 _ _ h1, hB2 _ _ h2⟩, fresh5, q⟩
def enumD : Nat → List D → List D
  | _, [] => []
  | n, d :: ds => .tuple [.int (n : Int), d] :: enumD (n + 1) ds
def zipD : List D → List D → List D
  | d :: ds, e :: es => .tuple [d, e] :: zipD ds es
  | _, _ => []
def itE : List D → Option (List D)
  | [.list ds] => some (enumD 0 ds)
  | [.tuple ds] => some (enumD 0 ds)
  | [.dict [(.none, .list ds)]] => some (enumD 0 ds)
  | _ => none
def itZ : List D → Option (List D)
  | [.list ds, .list es] => some (zipD ds es)
  | [.tuple ds, .tuple es] => some (zipD ds es)
  | [.list ds, .tuple es] => some (zipD ds es)
  | [.tuple ds, .list es] => some (zipD ds es)
  | _ => none
theorem enumD_len : ∀ (n : Nat) (ds : List D), (enumD n ds).length = ds.length
  | _, [] => rfl
  | n, _ :: ds => by rw [enumD, List.length_cons, List.length_cons, enumD_len (n + 1) ds]
theorem enumD_get : ∀ (n : Nat) (ds : List D) (i : Nat) (d : D), ds[i]? = some d → (enumD n ds)[i]? = some (.tuple [.int ((n + i : Nat) : Int), d])
  | _, [], _, _, h => by simp at h
  | n, x :: ds, 0, d, h => by simp at h; subst h; rfl
  | n, x :: ds, i + 1, d, h => by
    have := enumD_get (n + 1) ds i d (by simpa using h)
    rw [enumD, List.getElem?_cons_succ, this]
    congr 5
    omega
theorem enumD_purs : ∀ (n : Nat) (ds : List D), purs (enumD n ds) = purs ds
  | _, [] => rfl
  | n, d :: ds => by simp [enumD, purs, pur, enumD_purs (n + 1) ds]
theorem zipD_len : ∀ (ds es : List D), (zipD ds es).length = min ds.length es.length
  | [], _ => by simp [zipD]
  | _ :: _, [] => by simp [zipD]
  | _ :: ds, _ :: es => by simp [zipD, zipD_len ds es]
theorem zipD_get : ∀ (ds es : List D) (i : Nat) (d e : D), ds[i]? = some d → es[i]? = some e → (zipD ds es)[i]? = some (.tuple [d, e])
  | [], _, _, _, _, h, _ => by simp at h
  | _ :: _, [], _, _, _, _, h => by simp at h
  | x :: ds, y :: es, 0, d, e, h, h2 => by simp at h h2; subst h; subst h2; rfl
  | x :: ds, y :: es, i + 1, d, e, h, h2 => by
    rw [zipD, List.getElem?_cons_succ]
    exact zipD_get ds es i d e (by simpa using h) (by simpa using h2)
section
variable [Tb] [Vs] {X : Cx} {K : PySem.W.Frag}
theorem pair_own {H H' : Hp} {T : Addr} {ob : Obj} {x y : V} {d e : D} (hT : H T = none) (hn : ob.dict = none) (hH : H' = upd H T (.frz ob (.tup [x, y]))) (o1 : Own K H d x []) (o2 : Own K H e y []) : Same H H' ∧ Own K H' (.tuple [d, e]) (.ref T) [] := by
  subst hH
  have sm : Same H (upd H T (.frz ob (.tup [x, y]))) := same_new hT
  exact ⟨sm, .tup (SqD.of upd_same hn) (.cons0 (o1.same sm) (.cons0 (o2.same sm) .nil))⟩
theorem purs_zip {ds es : List D} : ∀ {i : Nat} {d e : D}, purs (zipD ds es) = true → ds[i]? = some d → es[i]? = some e → pur d = true ∧ pur e = true := fun {i d e} p h1 h2 => by
  have := purs_get p (zipD_get ds es i d e h1 h2)
  simpa [pur, purs] using this
theorem walkD_e {k : Bool} {a : Addr} {ds : List D} {G : Hp → Prop} (p : purs ds = true) (h : ∀ H, G H → ∃ xs F, Sq2 K H k a xs ∧ OwnA K H ds xs F) : WalkD K (IteA K k a) G (enumD 0 ds) := by
  refine ⟨fun i H hi g => ?_, fun H g => ?_, fun i H x H' hi g y => ?_⟩
  · obtain ⟨xs, F, hq, t⟩ := h H g
    have hl := t.len
    rw [enumD_len] at hi
    exact ⟨xs, xs[i]'(by omega), hq, List.getElem?_eq_getElem _⟩
  · obtain ⟨xs, F, hq, t⟩ := h H g
    have hl := t.len
    rw [enumD_len]
    exact ⟨xs, hq, by omega⟩
  · obtain ⟨xs, F, hq, t⟩ := h H g
    obtain ⟨T, ob, x', rfl, hT, hn, hH, y⟩ := y
    obtain ⟨d, hd, o⟩ := t.at p (y xs hq)
    obtain ⟨sm, o2⟩ := pair_own hT hn hH (.int (i : Nat)) o
    exact ⟨_, by rw [enumD_get 0 ds i d hd, Nat.zero_add], sm, o2⟩
theorem si_enum {e : Expr} {ga : O} {p pos tpos : Pos} {elts : List Expr} {kk : Nat} (hg : Gl X "enumerate") (hm : X.mg "enumerate" = none) (ha : SimA X [e] (aCons ga aNil)) (hs : starEach [e] X.env = [(false, eval e X.env)] := by rfl) :
    SimI X (.Tuple elts kk tpos) (.Call (.Name "enumerate" p) [e] [] pos) (mkI itE (aCons ga aNil)) := by
  refine pi_imp (pi_enumA hg hm ha hs) fun σ H R h => ?_
  exact mkI_ok h (w := fun vs H1 R => ∃ k a xs, vs = [.ref a] ∧ Sq2 X.K H1 k a xs ∧ R (IteA X.K k a) H1) (fun vs ds es H R h e p q => by
    unfold itE at e
    split at e
    · cases e
      rw [enumD_purs] at p
      obtain ⟨x, F, rfl, o⟩ := h.one
      cases o with
      | lst h1 t n => exact ⟨true, _, _, rfl, SqL.of h1, q _ (walkD_e p fun H2 g => rd_list g)⟩
    · cases e
      rw [enumD_purs] at p
      obtain ⟨x, F, rfl, o⟩ := h.one
      cases o with
      | tup h1 t => exact ⟨false, _, _, rfl, h1.sq, q _ (walkD_e p fun H2 g => rd_tup g)⟩
    · cases e
      rw [enumD_purs] at p
      obtain ⟨x, F, rfl, o⟩ := h.one
      cases o with
      | frz h1 t => exact ⟨true, _, _, rfl, h1.sq, q _ (walkD_e p fun H2 g => rd_frz g)⟩
    · cases e)
/-- a list or a tuple, told -/
def seqD : Bool → List D → D
  | true, ds => .list ds
  | false, ds => .tuple ds
theorem rd_seq {H : Hp} {k : Bool} {ds : List D} {v : V} {F : List Addr} (o : Own K H (seqD k ds) v F) : ∃ a xs G, v = .ref a ∧ Sq2 K H k a xs ∧ OwnA K H ds xs G := by
  cases k with
  | true =>
    obtain ⟨l, vs, F', rfl, _, hl, t, _⟩ := own_list o
    exact ⟨l, vs, F', rfl, SqL.of hl, t⟩
  | false =>
    obtain ⟨a, vs, rfl, hq, t⟩ := own_tup o
    exact ⟨a, vs, _, rfl, hq, t⟩
theorem OwnA.at0 {H : Hp} {ds : List D} {vs : List V} {F : List Addr} (t : OwnA K H ds vs F) {i : Nat} {x : V} (e : vs[i]? = some x) : ∃ d G, ds[i]? = some d ∧ Own K H d x G := by
  have hl := t.len
  have hi : i < ds.length := by rw [← hl]; exact (List.getElem?_eq_some_iff.mp e).1
  obtain ⟨v, G, hv, o, _⟩ := t.get i ds[i] (List.getElem?_eq_getElem hi)
  rw [e] at hv
  cases hv
  exact ⟨_, _, List.getElem?_eq_getElem hi, o⟩
theorem rd2_seq {H : Hp} {k l : Bool} {a b : Addr} {ds es : List D} (h : RdA K H [.ref a, .ref b] [seqD k ds, seqD l es]) : ∃ xs ys F G, Sq2 K H k a xs ∧ OwnA K H ds xs F ∧ Sq2 K H l b ys ∧ OwnA K H es ys G := by
  obtain ⟨x, y, F, G, e, o1, o2⟩ := h.two
  cases e
  obtain ⟨a', xs, G1, e1, h1, t1⟩ := rd_seq o1
  obtain ⟨b', ys, G2, e2, h2, t2⟩ := rd_seq o2
  cases e1
  cases e2
  exact ⟨_, _, _, _, h1, t1, h2, t2⟩
theorem walkD_z {k l : Bool} {a b : Addr} {ds es : List D} (p : purs (zipD ds es) = true) : WalkD K (ItzA K k l a b) (fun H2 => RdA K H2 [.ref a, .ref b] [seqD k ds, seqD l es]) (zipD ds es) := by
  refine ⟨fun i H hi g => ?_, fun H g => ?_, fun i H x H' hi g y => ?_⟩
  · obtain ⟨xs, ys, F, G, hq, t, hq2, t2⟩ := rd2_seq g
    have hl := t.len
    have hl2 := t2.len
    rw [zipD_len] at hi
    exact ⟨xs, ys, xs[i]'(by omega), ys[i]'(by omega), hq, hq2, List.getElem?_eq_getElem _, List.getElem?_eq_getElem _⟩
  · obtain ⟨xs, ys, F, G, hq, t, hq2, t2⟩ := rd2_seq g
    have hl := t.len
    have hl2 := t2.len
    rw [zipD_len]
    exact ⟨xs, ys, hq, hq2, by omega⟩
  · obtain ⟨xs, ys, F, G, hq, t, hq2, t2⟩ := rd2_seq g
    obtain ⟨T, ob, x', y', rfl, hT, hn, hH, y1, y2⟩ := y
    obtain ⟨d, F1, hd, o1⟩ := t.at0 (y1 xs hq)
    obtain ⟨e, F2, he, o2⟩ := t2.at0 (y2 ys hq2)
    obtain ⟨p1, p2⟩ := purs_zip p hd he
    rw [o1.pur p1] at o1
    rw [o2.pur p2] at o2
    obtain ⟨sm, o3⟩ := pair_own hT hn hH o1 o2
    exact ⟨_, zipD_get ds es i d e hd he, sm, o3⟩
theorem itZ_inv {ds : List D} {es : List D} (h : itZ ds = some es) : ∃ k l xs ys, ds = [seqD k xs, seqD l ys] ∧ es = zipD xs ys := by
  unfold itZ at h
  split at h
  · cases h; exact ⟨true, true, _, _, rfl, rfl⟩
  · cases h; exact ⟨false, false, _, _, rfl, rfl⟩
  · cases h; exact ⟨true, false, _, _, rfl, rfl⟩
  · cases h; exact ⟨false, true, _, _, rfl, rfl⟩
  · cases h
theorem wZ_ok : ∀ (vs : List V) (ds es : List D) (H : Hp) (R : It → Hp → Prop), RdA K H vs ds → itZ ds = some es → purs es = true → (∀ J, WalkD K J (fun H2 => RdA K H2 vs ds) es → R J H) →
    ∃ k l a b xs ys, vs = [.ref a, .ref b] ∧ Sq2 K H k a xs ∧ Sq2 K H l b ys ∧ R (ItzA K k l a b) H := by
  intro vs ds es H R h e p q
  obtain ⟨k, l, xs, ys, rfl, rfl⟩ := itZ_inv e
  obtain ⟨x, y, F, G, rfl, o1, o2⟩ := h.two
  obtain ⟨a, xs', G1, rfl, h1, t1⟩ := rd_seq o1
  obtain ⟨b, ys', G2, rfl, h2, t2⟩ := rd_seq o2
  exact ⟨k, l, a, b, xs', ys', rfl, h1, h2, q _ (walkD_z p)⟩
theorem si_zip {e e2 : Expr} {g : AL} {p pos tpos : Pos} {elts : List Expr} {kk : Nat} (hg : Gl X "zip") (hm : X.mg "zip" = none) (ha : SimA X [e, e2] g)
    (hs : starEach [e, e2] X.env = (false, eval e X.env) :: starEach [e2] X.env := by rfl) (hpl : (backTo pos (starEach [e2] X.env)).any (·.1) = false := by rfl) :
    SimI X (.Tuple elts kk tpos) (.Call (.Name "zip" p) [e, e2] [] pos) (mkI itZ g) :=
  pi_imp (pi_zipA hg hm ha hs hpl) fun σ H R h => mkI_ok h wZ_ok
end
end Sim
namespace Sim
open PySem PySem.Spec L2
def loopS (t : Tg) (g : S) : List D → S
  | [] => fun s => .ok .nx s
  | d :: ds => fun s => match asg t d s with
    | none => .bad
    | some s1 => (g s1).bind fun fl s2 => match fl with
      | .nx => loopS t g ds s2
      | .ct => loopS t g ds s2
      | .bk => .ok .nx s2
      | .rt d => .ok (.rt d) s2
def sFor (lk' : Nat → Bool) (it : I) (t : Tg) (g : S) : S := fun s => (it s).bind fun p s1 =>
  if (p.2.all fun q => lk' q.1) = true then (loopS t g p.1 s1).bind fun fl s2 => .ok fl (unlockS p.2 s2) else .bad
section
variable [Tb] [Vs] {X : Cx} {lk lk' : Nat → Bool} {pos : Pos} {K : PySem.W.Frag}
/-- the closed slots are opened again -/
theorem finish {H0 H1 Hc : Hp} {s1 sc : Sg} {σ σc : St} {Fs0 Fs1 Fsc : Fp} {l : List (Nat × D)} {Gl : List (List Addr)} (E01 : Ev H0 Fs0 H1 Fs1) (hd : Hid K H1 σ Fs1 l Gl) (fr : From H0 Fs0 l Gl)
    (R : RelS K Hc sc σc Fsc) (E : Ev H1 Fs1 Hc Fsc) (L : ∀ p, p ∈ l → σc[p.1]? = σ[p.1]?) :
    ∃ Fs', RelS K Hc (unlockS l sc) σc Fs' ∧ Ev H0 Fs0 Hc Fs' ∧ ∀ j a, a ∈ Fs' j → a ∈ Fsc j ∨ ((∃ xs : MO, Hc a = some xs.ho) ∧ (H1 a ≠ none) ∧ (∀ i, a ∉ Fs1 i) ∧ ∀ i, a ∉ Fsc i) := by
  have hd' := hd.ev E L
  obtain ⟨Fs', R', n⟩ := R.unlock hd' fr
  refine ⟨Fs', R', ⟨(E01.trans E).chg, fun j a h => ?_⟩, fun j a h => ?_⟩
  · rcases n j a h with z | ⟨z, _⟩
    · exact (E01.trans E).new j a z
    · exact z
  · rcases n j a h with z | ⟨_, G, hG, ha⟩
    · exact .inl z
    · obtain ⟨h1, h2⟩ := hd'.mem G hG a ha
      obtain ⟨⟨xs, h3⟩, h4⟩ := hd.mem G hG a ha
      exact .inr ⟨h1, by rw [h3]; simp, h4, h2⟩
theorem finishR {H0 H1 Hc : Hp} {s1 sc : Sg} {σ σc : St} {Fs0 Fs1 Fsc : Fp} {l : List (Nat × D)} {Gl : List (List Addr)} (hlk : ∀ i, lk i = true → lk' i = true) (E01 : Ev H0 Fs0 H1 Fs1) (hd : Hid K H1 σ Fs1 l Gl) (fr : From H0 Fs0 l Gl)
    (R : RelS K Hc sc σc Fsc) (E : EvR lk' H1 Fs1 Hc Fsc) (L : ∀ p, p ∈ l → σc[p.1]? = σ[p.1]?) :
    ∃ Fs', RelS K Hc (unlockS l sc) σc Fs' ∧ EvR lk H0 Fs0 Hc Fs' ∧ ∀ j a, a ∈ Fs' j → a ∈ Fsc j ∨ ((∃ xs : MO, Hc a = some xs.ho) ∧ (H1 a ≠ none) ∧ (∀ i, a ∉ Fs1 i) ∧ ∀ i, a ∉ Fsc i) := by
  have hd' := hd.evR E L
  have E0 := E01.transR E
  have sub : ∀ j, lk' j = false → lk j = false := fun j h => by
    cases q : lk j with
    | false => rfl
    | true => rw [hlk j q] at h; cases h
  obtain ⟨Fs', R', n⟩ := R.unlock hd' fr
  refine ⟨Fs', R', ⟨E0.chg, fun j a h => ?_⟩, fun j a h => ?_⟩
  · rcases n j a h with z | ⟨z, _⟩
    · rcases E0.new j a z with w | ⟨w1, k, w2, w3⟩
      · exact .inl w
      · exact .inr ⟨sub j w1, k, sub k w2, w3⟩
    · exact .inl z
  · rcases n j a h with z | ⟨_, G, hG, ha⟩
    · exact .inl z
    · obtain ⟨h1, h2⟩ := hd'.mem G hG a ha
      obtain ⟨⟨xs, h3⟩, h4⟩ := hd.mem G hG a ha
      exact .inr ⟨h1, by rw [h3]; simp, h4, h2⟩
theorem ss_for {tg iter : Expr} {body : List Stmt} {it : I} {t : Tg} {g : S} (hp : PassesOwn (model X.prog X.w) X.A X.env X.xe) (hc : X.calm = true) (hi : SimI X tg iter it) (hg : SimG X lk' tg t) (hb : SimSs X lk' body g)
    (hlk : ∀ i, lk i = true → lk' i = true) (hs : ∀ x, foldedSetIterable iter X.env x = pure x := by intro _; rfl) : SimS X lk (.For tg iter body [] pos) (sFor lk' it t g) := by
  refine ps_imp (ps_for hp hc hi hg hb hs) fun D σ H z => ?_
  obtain ⟨s, Fs, fl, s', R, e, q⟩ := z
  obtain ⟨⟨es, l⟩, s1, e1, e⟩ := bind_inv e
  refine ⟨s, Fs, es, l, s1, R, e1, fun J H1 Fs1 Gl G R1 C1 n1 hd fr W hG => ?_⟩
  have E01 : Ev H Fs H1 Fs1 := ⟨C1, n1⟩
  split at e
  · rename_i hall
    obtain ⟨fl', s2, e2, e⟩ := bind_inv e
    have hL : ∀ {σc : St}, Lk lk' σ σc → ∀ p, p ∈ l → σc[p.1]? = σ[p.1]? := fun {σc} L p hp => L p.1 (List.all_eq_true.mp hall p hp)
    have done : ∀ {σc : St} {Hc : Hp} {sc : Sg} {Fsc : Fp}, RelS X.K Hc sc σc Fsc → EvR lk' H1 Fs1 Hc Fsc → Lk lk' σ σc → Res.ok fl' s2 = Res.ok Fl.nx sc → D.nx σc Hc := by
      intro σc Hc sc Fsc Rc Ec Lc ee
      cases ee
      cases e
      obtain ⟨Fs', R', E', _⟩ := finishR (s1 := s1) hlk E01 hd fr Rc Ec (hL Lc)
      exact q σc Hc Fs' R' E' fun i hi => Lc i (hlk i hi)
    refine ⟨fun i m σc Hc => m = es.length - i ∧ i ≤ es.length ∧ ∃ sc Fsc, RelS X.K Hc sc σc Fsc ∧ EvR lk' H1 Fs1 Hc Fsc ∧ Lk lk' σ σc ∧ loopS t g (es.drop i) sc = .ok fl' s2,
      ⟨es.length, by simp, Nat.zero_le _, s1, Fs1, R1, .refl _ _, .refl _ _, e2⟩, ?_⟩
    rintro i m σc Hc ⟨rfl, hi, sc, Fsc, Rc, Ec, Lc, ec⟩
    by_cases hlt : i < es.length
    · refine .inr ⟨W.goes i Hc hlt (hG Hc _ Ec.e0), fun σ' H' => i + 1 ≤ es.length ∧ ∃ sc Fsc, RelS X.K H' sc σ' Fsc ∧ EvR lk' H1 Fs1 H' Fsc ∧ Lk lk' σ σ' ∧ loopS t g (es.drop (i + 1)) sc = .ok fl' s2, fun σ' H' ⟨h1, h2⟩ => ⟨es.length - (i + 1), by omega, rfl, h1, h2⟩, fun x H' y => ?_⟩
      obtain ⟨d, hd1, sm, o⟩ := W.yields i Hc x H' hlt (hG Hc _ Ec.e0) y
      have ed : es.drop i = d :: es.drop (i + 1) := by
        rw [List.drop_eq_getElem_cons hlt]
        rw [List.getElem?_eq_getElem hlt] at hd1
        rw [Option.some.inj hd1]
      rw [ed] at ec
      unfold loopS at ec
      split at ec
      · cases ec
      · rename_i s3 hs3
        obtain ⟨fl3, s4, e4, ec⟩ := bind_inv ec
        refine ⟨sc, Fsc, d, [], s3, Rc.same sm, ⟨o, fun _ _ _ z => by cases z⟩, hs3, fun σ2 Fs2 R2 n2 L2 => ?_⟩
        have E2 : EvR lk' H1 Fs1 H' Fs2 := Ec.trans ⟨.same sm, fun j a h => .inl ((n2 j a h).resolve_right (by simp))⟩
        refine ⟨s3, Fs2, fl3, s4, R2, e4, ?_⟩
        cases fl3 with
        | nx => exact fun σ' H'' Fs' R' E' L' => ⟨hlt, s4, Fs', R', E2.transR E', (Lc.trans L2).trans L', ec⟩
        | ct => exact fun σ' H'' Fs' R' E' L' => ⟨hlt, s4, Fs', R', E2.transR E', (Lc.trans L2).trans L', ec⟩
        | bk => exact fun σ' H'' Fs' R' E' L' => done R' (E2.transR E') ((Lc.trans L2).trans L') ec.symm
        | rt d =>
          cases ec
          cases e
          refine fun v σ' H'' Fs' F R' E' L' o n m => ?_
          have E3 := E2.transR E'
          obtain ⟨Fs'', R'', E'', nn⟩ := finishR (s1 := s1) hlk E01 hd fr R' E3 (hL ((Lc.trans L2).trans L'))
          have hF : ∀ a, a ∈ F → H1 a = none ∨ ∃ i, lk' i = false ∧ a ∈ Fs1 i := fun a ha => by
            rcases n a ha with z | ⟨k, hk, z⟩
            · exact .inl (E2.chg.there a z)
            · rcases E2.new k a z with (z | z) | ⟨_, j, hj, z⟩
              · exact .inr ⟨k, hk, z⟩
              · exact .inl z
              · exact .inr ⟨j, hj, z⟩
          refine q v σ' H'' Fs'' F R'' E'' (fun i hi => ((Lc.trans L2).trans L') i (hlk i hi)) o (fun a ha => ?_) fun k a hk hk2 ha => ?_
          · rcases hF a ha with z | ⟨k, hk, z⟩
            · exact .inl (C1.there a z)
            · rcases n1 k a z with z | z
              · refine .inr ⟨k, ?_, z⟩
                cases hq : lk k with
                | false => rfl
                | true => rw [hlk k hq] at hk; cases hk
              · exact .inl z
          · rcases nn k a hk2 with z | ⟨_, h1, h2, h3⟩
            · exact m k a (hlk k hk) z ha
            · rcases hF a ha with z | ⟨k', _, z⟩
              · exact h1 z
              · exact h2 k' z
    · have ei : i = es.length := by omega
      subst ei
      rw [List.drop_length] at ec
      exact .inl ⟨W.stops Hc (hG Hc _ Ec.e0), done Rc Ec Lc ec.symm⟩
  · cases e
end
section
variable [Tb] [Vs] {X : Cx} {lk : Nat → Bool} {pos : Pos} {K : PySem.W.Frag}
end
def clrS : List Nat → Sg → Sg
  | [], s => s
  | v :: vs, s => (clrS vs s).set v none
def ownSl : List Nat → Sg → List (Nat × D)
  | [], _ => []
  | v :: vs, s => match (s[v]?).join with
    | some d => (v, d) :: ownSl vs s
    | none => ownSl vs s
def compL (t : Tg) (c : T) (e : O) (vs : List Nat) : List D → List D → Sg → Res (List D)
  | [], acc, s => .ok acc s
  | d :: ds, acc, s => match asg t d s with
    | none => .bad
    | some s1 => (c s1).bind fun b s2 => if b = true then (e s2).bind fun r s3 => (match own r s3 with
        | none => .bad
        | some y => if acc.length < 1000000 then compL t c e vs ds (acc ++ [y]) (clrS vs s3) else .bad)
      else compL t c e vs ds acc (clrS vs s2)
def oComp (it : I) (t : Tg) (c : T) (e : O) (vs : List Nat) : O := fun s => (it s).bind fun p s1 =>
  if nodupB ((ownSl vs s1).map (·.1)) = true then (compL t c e vs p.1 [] (clrS vs (lockS (ownSl vs s1) s1))).bind fun acc s2 => .ok (.val (.list acc)) (unlockS (ownSl vs s1 ++ p.2) s2) else .bad
def tYesT : T := fun s => .ok true s
def SimPT [Tb] [Vs] (X : Cx) (ifs : List Expr) (c : T) : Prop := PTs X ifs (tT X.K c)
section
variable [Tb] [Vs] {X : Cx} {K : PySem.W.Frag}
theorem pts_imp {X : Cx} {e : List Expr} {t t' : TT} (h : PTs X e t) (i : ∀ σ H Q, t' σ H Q → t σ H Q) : PTs X e t' := ⟨fun pins s σ H Q I q => h.run pins s σ H Q I (i σ H Q q)⟩
theorem spt_nil : SimPT X [] tYesT := pts_imp pts_nil fun σ H Q ⟨s, Fs, b, s', R, e, q⟩ => by
  cases e
  exact q H Fs R (.refl _ _)
theorem clrS_len : ∀ (vs : List Nat) (s : Sg), (clrS vs s).length = s.length
  | [], _ => rfl
  | v :: vs, s => by rw [clrS, List.length_set, clrS_len vs s]
theorem clrS_some {vs : List Nat} {s : Sg} {i : Nat} {d : D} (h : (clrS vs s)[i]? = some (some d)) : s[i]? = some (some d) ∧ i ∉ vs := by
  induction vs with
  | nil => exact ⟨h, by simp⟩
  | cons v vs ih =>
    unfold clrS at h
    by_cases hi : v = i
    · subst hi
      by_cases hv : v < (clrS vs s).length
      · rw [List.getElem?_set_self hv] at h; cases h
      · rw [List.getElem?_eq_none (by simpa using hv)] at h; cases h
    · rw [List.getElem?_set_ne hi] at h
      obtain ⟨h1, h2⟩ := ih h
      exact ⟨h1, by simp only [List.mem_cons, not_or]; exact ⟨fun e => hi e.symm, h2⟩⟩
theorem wipe_get {σ : St} {vs : List Nat} {i : Nat} (h : i ∉ vs) : (wipe σ vs)[i]? = σ[i]? := by
  induction vs with
  | nil => rfl
  | cons v vs ih =>
    simp only [List.mem_cons, not_or] at h
    unfold wipe
    rw [List.getElem?_set_ne (fun e => h.1 e.symm), ih h.2]
/-- the own names' slots are emptied, on both sides -/
theorem lnk_wipe {σ : St} {H : Hp} : ∀ {vs : List Nat}, (∀ v, v ∈ vs → Vs.ok v) → (Vs.lnk (wipe σ vs) H ↔ Vs.lnk σ H)
  | [], _ => Iff.rfl
  | v :: vs, h => by
    rw [wipe]
    exact (Vs.put (h v (List.mem_cons_self ..))).trans (lnk_wipe fun w hw => h w (List.mem_cons_of_mem _ hw))
theorem RelS.clr {H : Hp} {s : Sg} {σ : St} {Fs : Fp} (R : RelS K H s σ Fs) (vs : List Nat) (ko : ∀ v, v ∈ vs → Vs.ok v) : ∃ Fs', RelS K H (clrS vs s) (wipe σ vs) Fs' ∧ ∀ j a, a ∈ Fs' j → a ∈ Fs j ∧ j ∉ vs := by
  refine ⟨fun j => if j ∈ vs then [] else Fs j, ⟨by rw [clrS_len, wipe_length, R.len], fun i d e => ?_, fun i h => ?_, fun i j a h1 h2 => ?_, ⟨(lnk_wipe ko).mpr R.lnk.1, R.lnk.2⟩, fun i h d e => R.bse i h d (clrS_some e).1⟩, fun j a h => ?_⟩
  · obtain ⟨e1, e2⟩ := clrS_some e
    obtain ⟨v, hv, o⟩ := R.has i d e1
    refine ⟨v, by rw [wipe_get e2]; exact hv, ?_⟩
    simp only [if_neg e2]
    exact o
  · by_cases hi : i ∈ vs
    · simp only [if_pos hi]
      rw [Vs.nil (ko i hi)]
    · simp only [if_neg hi]
      refine R.off i fun d e => h d ?_
      have key : ∀ (vs : List Nat), i ∉ vs → (clrS vs s)[i]? = s[i]? := fun vs => by
        induction vs with
        | nil => intro _; rfl
        | cons v vs ih =>
          intro h
          simp only [List.mem_cons, not_or] at h
          unfold clrS
          rw [List.getElem?_set_ne (fun e => h.1 e.symm), ih h.2]
      rw [key vs hi]
      exact e
  · split at h1
    · cases h1
    · split at h2
      · cases h2
      · exact R.dis i j a h1 h2
  · have h : a ∈ (if j ∈ vs then [] else Fs j) := h
    split at h
    · cases h
    · exact ⟨h, by assumption⟩
/-- a state without the own names stands for the block's outer slots too -/
theorem RelS.unwipe {H : Hp} {s : Sg} {σ : St} {Fs : Fp} {vs : List Nat} (ko : ∀ v, v ∈ vs → Vs.ok v) (R : RelS K H s (wipe σ vs) Fs) : RelS K H s σ Fs := by
  refine ⟨by rw [R.len, wipe_length], fun i d e => ?_, R.off, R.dis, ⟨(lnk_wipe ko).mp R.lnk.1, R.lnk.2⟩, R.bse⟩
  obtain ⟨v, hv, o⟩ := R.has i d e
  exact ⟨v, (wipe_some hv).1, o⟩
theorem ownSl_has {s : Sg} : ∀ {vs : List Nat} {p : Nat × D}, p ∈ ownSl vs s → s[p.1]? = some (some p.2) ∧ p.1 ∈ vs
  | [], _, h => by cases h
  | v :: vs, p, h => by
    unfold ownSl at h
    split at h
    · rename_i d hd
      rcases List.mem_cons.mp h with rfl | h
      · exact ⟨join_some hd, List.mem_cons_self ..⟩
      · obtain ⟨h1, h2⟩ := ownSl_has h
        exact ⟨h1, List.mem_cons_of_mem _ h2⟩
    · obtain ⟨h1, h2⟩ := ownSl_has h
      exact ⟨h1, List.mem_cons_of_mem _ h2⟩
/-- an object that no slot holds changes -/
theorem RelS.out {H : Hp} {s : Sg} {σ : St} {Fs : Fp} (R : RelS K H s σ Fs) {D' : Addr} {acc acc' : List V} (h : H D' = some (.lst acc)) (n : ∀ i, D' ∉ Fs i) : RelS K (upd H D' (.lst acc')) s σ Fs ∧ Chg (fun a => a = D') H (upd H D' (.lst acc')) := by
  have chg : Chg (fun a => a = D') H (upd H D' (.lst acc')) := .upd1 (m := .lst _) h
  refine ⟨⟨R.len, fun i d e => ?_, R.off, R.dis, R.lnkC chg (fun i a ha w => n i (by rw [← w]; exact R.fpF ha)), R.bse⟩, chg⟩
  obtain ⟨v, hv, o⟩ := R.has i d e
  exact ⟨v, hv, o.chg chg fun a ha w => n i (by rw [← w]; exact ha)⟩
theorem Hid.sub {H : Hp} {σ : St} {Fs Fs' : Fp} {l : List (Nat × D)} {Gs : List (List Addr)} (h : Hid K H σ Fs l Gs) (e : ∀ j a, a ∈ Fs' j → a ∈ Fs j) : Hid K H σ Fs' l Gs := by
  induction h with
  | nil => exact .nil
  | cons hv A n _ ih => exact .cons hv ⟨A.own, fun i a hi ha => A.dis i a (e i a hi) ha⟩ n ih
theorem Hid.append {H : Hp} {σ : St} {Fs : Fp} {l l2 : List (Nat × D)} {Gs Gs2 : List (List Addr)} (h : Hid K H σ Fs l Gs) (h2 : Hid K H σ Fs l2 Gs2) (n : ∀ G, G ∈ Gs → ∀ G2, G2 ∈ Gs2 → ∀ a, a ∈ G → a ∉ G2) : Hid K H σ Fs (l ++ l2) (Gs ++ Gs2) := by
  induction h with
  | nil => exact h2
  | @cons i d v F l Gs hv A n' _ ih =>
    refine .cons hv A (fun G hG a ha hb => ?_) (ih fun G hG => n G (List.mem_cons_of_mem _ hG))
    rcases List.mem_append.mp hG with hG | hG
    · exact n' G hG a ha hb
    · exact n F (List.mem_cons_self ..) G hG a ha hb
theorem From.append {H : Hp} {Fs : Fp} {l l2 : List (Nat × D)} {Gs Gs2 : List (List Addr)} (h : From H Fs l Gs) (h2 : From H Fs l2 Gs2) : From H Fs (l ++ l2) (Gs ++ Gs2) := by
  induction l generalizing Gs with
  | nil => cases Gs with
    | nil => exact h2
    | cons _ _ => exact h.elim
  | cons p l ih => cases Gs with
    | nil => exact h.elim
    | cons F Gs => exact ⟨h.1, ih h.2⟩
theorem From.mem {H : Hp} {Fs : Fp} {l : List (Nat × D)} {Gs : List (List Addr)} (h : From H Fs l Gs) : ∀ G, G ∈ Gs → ∀ a, a ∈ G → (∃ i, a ∈ Fs i) ∨ H a = none := by
  induction l generalizing Gs with
  | nil => cases Gs with
    | nil => intro G h; cases h
    | cons _ _ => exact h.elim
  | cons p l ih => cases Gs with
    | nil => exact h.elim
    | cons F Gs =>
      intro G hG a ha
      rcases List.mem_cons.mp hG with rfl | hG
      · exact (h.1 a ha).imp (fun z => ⟨_, z⟩) id
      · exact ih h.2 G hG a ha
mutual
theorem asg_len : ∀ {t : Tg} {d : Sim.D} {s s' : Sg}, asg t d s = some s' → s'.length = s.length
  | .nm i, d, s, s', h => by
    simp only [asg] at h
    cases h
    rw [List.length_set]
  | .tp l, .tuple ds, s, s', h => asgs_len2 (by simpa [asg] using h)
  | .tp l, .none, s, s', h => by simp [asg] at h
  | .tp l, .bool _, s, s', h => by simp [asg] at h
  | .tp l, .int _, s, s', h => by simp [asg] at h
  | .tp l, .str _, s, s', h => by simp [asg] at h
  | .tp l, .list _, s, s', h => by simp [asg] at h
  | .tp l, .dict _, s, s', h => by simp [asg] at h
  | .ls l, .list ds, s, s', h => asgs_len2 (by simpa [asg] using h)
  | .ls l, .none, s, s', h => by simp [asg] at h
  | .ls l, .bool _, s, s', h => by simp [asg] at h
  | .ls l, .int _, s, s', h => by simp [asg] at h
  | .ls l, .str _, s, s', h => by simp [asg] at h
  | .ls l, .tuple _, s, s', h => by simp [asg] at h
  | .ls l, .dict _, s, s', h => by simp [asg] at h
theorem asgs_len2 : ∀ {l : List Tg} {ds : List Sim.D} {s s' : Sg}, asgs l ds s = some s' → s'.length = s.length
  | [], [], s, s', h => by
    simp only [asgs] at h
    cases h
    rfl
  | [], _ :: _, s, s', h => by simp [asgs] at h
  | _ :: _, [], s, s', h => by simp [asgs] at h
  | t :: l, d :: ds, s, s', h => by
    simp only [asgs] at h
    split at h
    · cases h
    · rename_i s1 h1
      rw [asgs_len2 h, asg_len h1]
end
def lkc (vs : List Nat) : Nat → Bool := fun i => !vs.contains i
theorem wipe_lk {vs : List Nat} {σ σ2 : St} (hl : σ2.length = σ.length) (h : Lk (lkc vs) (wipe σ vs) σ2) : wipe σ2 vs = wipe σ vs := by
  have key : ∀ (σ : St) (vs : List Nat) (i : Nat), i ∈ vs → (wipe σ vs)[i]? = if i < σ.length then some none else none := fun σ vs i => by
    induction vs with
    | nil => intro h; cases h
    | cons v vs ih =>
      intro h
      unfold wipe
      by_cases hv : v = i
      · subst hv
        by_cases hx : v < σ.length
        · rw [List.getElem?_set_self (by rw [wipe_length]; exact hx), if_pos hx]
        · rw [List.getElem?_eq_none (by rw [List.length_set, wipe_length]; omega), if_neg hx]
      · rw [List.getElem?_set_ne hv]
        exact ih ((List.mem_cons.mp h).resolve_left fun e => hv e.symm)
  refine List.ext_getElem? fun i => ?_
  by_cases hi : i ∈ vs
  · rw [key _ _ i hi, key _ _ i hi, hl]
  · rw [wipe_get hi]
    have := h i (by unfold lkc; simp [hi])
    rw [this]
theorem tO_comp [Tb] [Vs] {it : I} {t : Tg} {c : T} {e : O} {vs : List Nat} (ko : ∀ v, v ∈ vs → Vs.ok v) {σ : St} {H : Hp} {Q : VK} (z : tO K (oComp it t c e vs) σ H Q) : tLc (tI K it) (tG K (lkc vs) t) (tT K c) (tO K e) vs σ H Q := by
  obtain ⟨s, Fs, rf, s', R, e0, q⟩ := z
  obtain ⟨⟨es, l⟩, s1, e1, e0⟩ := bind_inv e0
  refine ⟨s, Fs, es, l, s1, R, e1, fun J H1 Fs1 Gl G R1 C1 n1 hd fr W hG => ?_⟩
  split at e0
  · rename_i hnd
    obtain ⟨accF, s2, e2, e0⟩ := bind_inv e0
    obtain ⟨Fs2, Gl2, R2, hd2, sub2, fr2⟩ := R1.lock (fun p hp => (ownSl_has hp).1) hnd
    obtain ⟨Fs3, R3, sub3⟩ := R2.clr vs ko
    have sub : ∀ j a, a ∈ Fs3 j → a ∈ Fs1 j := fun j a h => sub2 j a (sub3 j a h).1
    have E01 : Ev H Fs H1 Fs3 := ⟨C1, fun j a h => n1 j a (sub j a h)⟩
    have hdA : Hid K H1 σ Fs3 (ownSl vs s1 ++ l) (Gl2 ++ Gl) := (hd2.sub fun j a h => (sub3 j a h).1).append (hd.sub sub) fun G2 hG2 G hG a ha hb => by
      obtain ⟨⟨xs, hx⟩, hn⟩ := hd.mem G hG a hb
      rcases fr2.mem G2 hG2 a ha with ⟨i, z⟩ | z
      · exact hn i z
      · rw [hx] at z; cases z
    have frA : From H Fs (ownSl vs s1 ++ l) (Gl2 ++ Gl) := (fr2.trans n1 fun a h => C1.there a h).append fr
    intro Dn hDn
    have smD : Same H1 (upd H1 Dn (.lst [])) := same_new hDn
    have nD3 : ∀ i, Dn ∉ Fs3 i := fun i h => by
      obtain ⟨xs, w⟩ := R3.mem h
      rw [hDn] at w; cases w
    refine ⟨fun i m Hc => m = es.length - i ∧ i ≤ es.length ∧ ∃ sc Fsc acc accV Facc, RelS K Hc sc (wipe σ vs) Fsc ∧ Ev H1 Fs3 Hc Fsc ∧ Hc Dn = some (.lst accV) ∧ OwnA K Hc acc accV Facc ∧ Dn ∉ Facc ∧ (∀ i, Dn ∉ Fsc i) ∧ (∀ i a, a ∈ Fsc i → a ∉ Facc) ∧ (∀ a, a ∈ Facc → H1 a = none) ∧
      compL t c e vs (es.drop i) acc sc = .ok accF s2, ⟨es.length, by simp, Nat.zero_le _, _, Fs3, [], [], [], R3.same smD, .same _ smD, upd_same, .nil, by simp, nD3, by simp, by simp, e2⟩, ?_⟩
    rintro i m Hc ⟨rfl, hi, sc, Fsc, acc, accV, Facc, Rc, Ec, hDc, oa, nDa, nDf, dja, fra, ec⟩
    have EG : Ev H1 Fs1 Hc Fsc → G Hc := hG Hc Fsc
    have Ec1 : Ev H1 Fs1 Hc Fsc := ⟨Ec.chg.mono (fun a _ _ w => w.imp fun i => sub i a), fun j a h => (Ec.new j a h).imp (sub j a) id⟩
    by_cases hlt : i < es.length
    · refine .inr ⟨W.goes i Hc hlt (EG Ec1), fun H' => i + 1 ≤ es.length ∧ ∃ sc Fsc acc accV Facc, RelS K H' sc (wipe σ vs) Fsc ∧ Ev H1 Fs3 H' Fsc ∧ H' Dn = some (.lst accV) ∧ OwnA K H' acc accV Facc ∧ Dn ∉ Facc ∧ (∀ i, Dn ∉ Fsc i) ∧ (∀ i a, a ∈ Fsc i → a ∉ Facc) ∧ (∀ a, a ∈ Facc → H1 a = none) ∧
        compL t c e vs (es.drop (i + 1)) acc sc = .ok accF s2, fun H' ⟨h1, h2⟩ => ⟨es.length - (i + 1), by omega, rfl, h1, h2⟩, fun x H' y => ?_⟩
      obtain ⟨d, hd1, sm, o⟩ := W.yields i Hc x H' hlt (EG Ec1) y
      have ed : es.drop i = d :: es.drop (i + 1) := by
        rw [List.drop_eq_getElem_cons hlt]
        rw [List.getElem?_eq_getElem hlt] at hd1
        rw [Option.some.inj hd1]
      rw [ed] at ec
      unfold compL at ec
      split at ec
      · cases ec
      · rename_i s3 hs3
        obtain ⟨b, s4, e4, ec⟩ := bind_inv ec
        refine ⟨sc, Fsc, d, [], s3, Rc.same sm, ⟨o, fun _ _ _ z => by cases z⟩, hs3, fun σ2 Fs4 R4 n4 L4 => ?_⟩
        have hw : wipe σ2 vs = wipe σ vs := wipe_lk (by
          have l1 := R4.len
          have l2 := Rc.len
          have l3 := asg_len hs3
          rw [wipe_length] at l2
          omega) L4
        refine ⟨hw, ?_⟩
        · skip
          have E4 : Ev H1 Fs3 H' Fs4 := Ec.trans ⟨.same sm, fun j a h => .inl ((n4 j a h).resolve_right (by simp))⟩
          have nD4 : ∀ i, Dn ∉ Fs4 i := fun i h => nDf i ((n4 i Dn h).resolve_right (by simp))
          have dj4 : ∀ i a, a ∈ Fs4 i → a ∉ Facc := fun i a h => dja i a ((n4 i a h).resolve_right (by simp))
          refine ⟨s3, Fs4, b, s4, R4, e4, fun H3 Fs5 R5 E5 => ?_⟩
          -- what a test or an item's reckoning leaves of the new list
          have keepD : ∀ {H3 : Hp} {Fs5 : Fp}, Ev H' Fs4 H3 Fs5 → H3 Dn = some (.lst accV) ∧ OwnA K H3 acc accV Facc ∧ (∀ i, Dn ∉ Fs5 i) ∧ (∀ i a, a ∈ Fs5 i → a ∉ Facc) := fun {H3 Fs5} E5 => by
            have h1 : H' Dn = some (.lst accV) := sm _ _ hDc
            have o1 : OwnA K H' acc accV Facc := oa.chg (Fa := fun _ => False) (.same sm) fun _ _ z => z
            refine ⟨E5.chg.keep _ _ h1 (.inl ⟨fun ⟨i, w⟩ => nD4 i w, rfl⟩), o1.chg E5.chg fun a ha ⟨i, w⟩ => dj4 i a w ha, fun i h => ?_, fun i a h ha => ?_⟩
            · rcases E5.new i Dn h with w | w
              · exact nD4 i w
              · rw [h1] at w; cases w
            · rcases E5.new i a h with w | w
              · exact dj4 i a w ha
              · obtain ⟨xs, z⟩ := o1.mem a ha
                rw [w] at z; cases z
          cases b with
          | false =>
            rw [if_neg Bool.false_ne_true] at ec
            refine iteF ⟨hlt, ?_⟩
            obtain ⟨h1, h2, h3, h4⟩ := keepD E5
            obtain ⟨Fs6, R6, sub6⟩ := R5.clr vs ko
            rw [hw] at R6
            exact ⟨_, Fs6, acc, accV, Facc, R6, E4.trans ⟨E5.chg, fun j a h => E5.new j a (sub6 j a h).1⟩, h1, h2, nDa, fun i h => h3 i (sub6 i _ h).1, fun i a h => h4 i a (sub6 i a h).1, fra, ec⟩
          | true =>
            rw [if_pos rfl] at ec
            refine iteT ?_
            obtain ⟨r, s6, e6, ec⟩ := bind_inv ec
            refine ⟨s4, Fs5, r, s6, R5, e6, fun v H4 Fs6 F R6 E6 k6 n6 => ?_⟩
            split at ec
            · cases ec
            · rename_i y hy
              split at ec
              · rename_i hlen
                have A6 := rfOk_own k6 R6 hy
                have E56 := E5.trans E6
                obtain ⟨h1, h2, h3, h4⟩ := keepD E56
                have n6' : ∀ a, a ∈ F → H' a = none := fun a ha => E5.chg.there a (n6 a ha)
                have h1' : H' Dn = some (.lst accV) := sm _ _ hDc
                have o1' : OwnA K H' acc accV Facc := oa.chg (Fa := fun _ => False) (.same sm) fun _ _ z => z
                obtain ⟨Facc', t', hF'⟩ := OwnA.snoc A6.own h2 fun a ha hb => by
                  obtain ⟨xs, z⟩ := o1'.mem a ha
                  rw [n6' a hb] at z; cases z
                have nDn : Dn ∉ Facc' := fun w => by
                  rcases hF' Dn w with w | w
                  · exact nDa w
                  · rw [n6' Dn w] at h1'; cases h1'
                refine ⟨accV, h1, by rw [h2.len]; exact Nat.lt_of_lt_of_le hlen big_le, hlt, ?_⟩
                obtain ⟨R7, C7⟩ := R6.out (acc' := accV ++ [v]) h1 h3
                obtain ⟨Fs8, R8, sub8⟩ := R7.clr vs ko
                rw [hw] at R8
                refine ⟨_, Fs8, acc ++ [y], accV ++ [v], Facc', R8, ?_, upd_same, t'.chg C7 fun a ha w => nDn (by rw [← w]; exact ha), nDn, fun i h => h3 i (sub8 i _ h).1, fun i a h ha => ?_, fun a ha => ?_, ec⟩
                · have E7 := E4.trans E56
                  exact ⟨E7.chg.transN C7 (fun a o ho w => by rw [w, hDn] at ho; cases ho), fun j a h => E7.new j a (sub8 j a h).1⟩
                · rcases hF' a ha with w | w
                  · exact h4 i a (sub8 i a h).1 w
                  · exact A6.dis i a (sub8 i a h).1 w
                · rcases hF' a ha with w | w
                  · exact fra a w
                  · exact E4.chg.there a (n6' a w)
              · cases ec
    · have ei : i = es.length := by omega
      subst ei
      rw [List.drop_length] at ec
      cases ec
      cases e0
      refine .inl ⟨W.stops Hc (EG Ec1), ?_⟩
      obtain ⟨Fs', R', E', nn⟩ := finish (s1 := s1) E01 hdA frA (Rc.unwipe ko) Ec fun _ _ => rfl
      refine q (.ref Dn) Hc Fs' (Dn :: Facc) R' E' (.val ⟨.lst hDc oa nDa, fun j a h ha => ?_⟩) fun a ha => ?_
      · rcases nn j a h with w | ⟨_, w, _, _⟩
        · rcases List.mem_cons.mp ha with rfl | ha
          · exact nDf j w
          · exact dja j a w ha
        · rcases List.mem_cons.mp ha with rfl | ha
          · exact w hDn
          · exact w (fra a ha)
      · rcases List.mem_cons.mp ha with rfl | ha
        · exact C1.there _ hDn
        · exact C1.there _ (fra a ha)
  · cases e0
theorem so_comp [Tb] [Vs] {elt tg iter : Expr} {ifs : List Expr} {scope : Scope} {own : List (Str × Nat)} {pos : Pos} {it : I} {t : Tg} {c : T} {e : O} (hc : X.calm = true) (hN : X.N.Nodup) (hi : SimI X tg iter it) (ok : BlkOk X.N X.env.scope scope own)
    (hg : ∀ (s : Shared) (H : Hp) (C : Addr) (cl : List (Str × Addr)) (fp : List Addr), SimG (X.blk s H scope (compEnvC scope cl C X.env) fp) (lkc (own.map (·.2))) tg t) (ht : ∀ (s : Shared) (H : Hp) (C : Addr) (cl : List (Str × Addr)) (fp : List Addr), SimPT (X.blk s H scope (compEnvC scope cl C X.env) fp) ifs c)
    (he : ∀ (s : Shared) (H : Hp) (C : Addr) (cl : List (Str × Addr)) (fp : List Addr), SimO (X.blk s H scope (compEnvC scope cl C X.env) fp) elt e) (hs : ∀ x, foldedSetIterable iter X.env x = pure x := by intro _; rfl) (ko : ∀ v, v ∈ own.map (·.2) → Vs.ok v := by first | exact fun _ _ => trivial | assumption | decide) :
    SimO X (.ListComp elt [⟨tg, iter, ifs, 0⟩] scope pos) (oComp it t c e (own.map (·.2))) := by
  have hg' : ∀ (s : Shared) (H : Hp) (C : Addr) (cl : List (Str × Addr)) (fp : List Addr), PG (X.blk s H scope (compEnvC scope cl C X.env) fp) tg (tG X.K (lkc (own.map (·.2))) t) := hg
  have ht' : ∀ (s : Shared) (H : Hp) (C : Addr) (cl : List (Str × Addr)) (fp : List Addr), PTs (X.blk s H scope (compEnvC scope cl C X.env) fp) ifs (tT X.K c) := ht
  have he' : ∀ (s : Shared) (H : Hp) (C : Addr) (cl : List (Str × Addr)) (fp : List Addr), PE (X.blk s H scope (compEnvC scope cl C X.env) fp) elt (tO X.K e) := he
  exact pe_imp (pe_lc hc hN hi ok hg' ht' he' hs) fun σ H Q z => tO_comp ko z
end
end Sim
namespace Sim
open PySem PySem.Spec L2
inductive FRes where
  | ok (r : D) (as : List D)
  | exc (c : Str) (v : D)
  | bad
abbrev Fn := List D → FRes
/-- the arguments, each with the places that it holds -/
inductive OwnLs (K : PySem.W.Frag) (H : Hp) : List D → List V → List (List Addr) → Prop
  | nil : OwnLs K H [] [] []
  | cons {d : D} {v : V} {F : List Addr} {ds : List D} {vs : List V} {Fl : List (List Addr)} : Own K H d v F → (∀ G, G ∈ Fl → ∀ a, a ∈ F → a ∉ G) → OwnLs K H ds vs Fl → OwnLs K H (d :: ds) (v :: vs) (F :: Fl)
def NewL (H : Hp) : List (List Addr) → List (List Addr) → Prop
  | [], [] => True
  | F :: Fl, F' :: Fl' => (∀ a, a ∈ F' → a ∈ F ∨ H a = none) ∧ NewL H Fl Fl'
  | _, _ => False
def spF [Tb] (K : PySem.W.Frag) (n : Nat) (f : Fn) : Sp := fun vs H Q E => ∃ ds Fl r as, f ds = .ok r as ∧ vs.length = n ∧ TabsOk H ∧ OwnLs K H ds vs Fl ∧
  ∀ v H' Fl' F, OwnLs K H' as vs Fl' → Chg (fun a => ∃ G, G ∈ Fl ∧ a ∈ G) H H' → NewL H Fl Fl' → Own K H' r v F → (∀ a, a ∈ F → H a = none) → (∀ G, G ∈ Fl' → ∀ a, a ∈ G → a ∉ F) → Q v H'
def lkz : List Rf → List D → List D → List (Nat × D)
  | .slot i :: rs, d :: ds, a :: as => if pur d = true then lkz rs ds as else (i, a) :: lkz rs ds as
  | .val _ :: rs, _ :: ds, _ :: as => lkz rs ds as
  | _, _, _ => []
def oCall (f : Fn) (g : AL) : O := fun s => (g s).bind fun rs s1 => match rds rs s1 with
  | none => .bad
  | some ds => if nodupB ((lks rs ds).map (·.1)) = true then (match f ds with
      | .ok r as => .ok (.val r) (unlockS (lkz rs ds as) (lockS (lks rs ds) s1))
      | .exc c v => .exc c v s1
      | .bad => .bad) else .bad
section
variable [Tb] [Vs] {K : PySem.W.Frag} {H H' : Hp} {σ : St} {Fs : Fp}
theorem OwnLs.mem {ds : List D} {vs : List V} {Fl : List (List Addr)} (h : OwnLs K H ds vs Fl) : ∀ G, G ∈ Fl → ∀ a, a ∈ G → ∃ xs : MO, H a = some xs.ho := by
  induction h with
  | nil => intro G h; cases h
  | cons o _ _ ih =>
    intro G hG a ha
    rcases List.mem_cons.mp hG with rfl | hG
    · exact o.mem a ha
    · exact ih G hG a ha
theorem OwnLs.len {ds : List D} {vs : List V} {Fl : List (List Addr)} (h : OwnLs K H ds vs Fl) : vs.length = ds.length := by
  induction h with
  | nil => rfl
  | cons _ _ _ ih => rw [List.length_cons, List.length_cons, ih]
/-- which argument is which closed slot's -/
def Al : List Rf → List D → List (List Addr) → List (List Addr) → Prop
  | [], [], [], [] => True
  | .val _ :: rs, _ :: ds, Gl, _ :: Fl => Al rs ds Gl Fl
  | .slot _ :: rs, d :: ds, Gl, F :: Fl => if pur d = true then Al rs ds Gl Fl else (match Gl with
    | [] => False
    | G :: Gl => G = F ∧ Al rs ds Gl Fl)
  | _, _, _, _ => False
/-- the operands of a call as its arguments -/
theorem args_own {s : Sg} {FsL : Fp} (R : RelS K H s σ Fs) {rs : List Rf} {vs : List V} {Gs : List (List Addr)} (r : Rfs K H σ Fs rs vs Gs) : ∀ {ds : List D} {Gl : List (List Addr)}, rds rs s = some ds → Hid K H σ FsL (lks rs ds) Gl → From H Fs (lks rs ds) Gl →
    ∃ Fl, OwnLs K H ds vs Fl ∧ (∀ F, F ∈ Fl → ∀ a, a ∈ F → (∃ G, G ∈ Gs ∧ a ∈ G) ∨ ∃ G, G ∈ Gl ∧ a ∈ G) ∧ Al rs ds Gl Fl := by
  induction r with
  | nil =>
    intro ds Gl e hd _
    cases e
    cases hd
    exact ⟨[], .nil, by simp, trivial⟩
  | @val d v F rs vs Gs A n r ih =>
    intro ds Gl e hd fr
    unfold rds at e
    simp only [rd] at e
    split at e
    · cases e
    · rename_i es he
      cases e
      obtain ⟨Fl, h1, h2, h0⟩ := ih he (by simpa [lks] using hd) (by simpa [lks] using fr)
      refine ⟨F :: Fl, .cons A.own (fun G hG a ha hb => ?_) h1, fun G hG a ha => ?_, by simpa [Al] using h0⟩
      · rcases h2 G hG a hb with ⟨G', hG', h⟩ | ⟨G', hG', h⟩
        · exact n G' hG' a ha h
        · rcases fr.mem G' (by simpa [lks] using hG') a h with ⟨i, z⟩ | z
          · exact A.dis i a z ha
          · obtain ⟨xs, w⟩ := A.own.mem a ha
            rw [z] at w; cases w
      · rcases List.mem_cons.mp hG with rfl | hG
        · exact .inl ⟨_, List.mem_cons_self .., ha⟩
        · rcases h2 G hG a ha with ⟨G', hG', h⟩ | h
          · exact .inl ⟨G', List.mem_cons_of_mem _ hG', h⟩
          · exact .inr h
  | @slot i v rs vs Gs hv r ih =>
    intro ds Gl e hd fr
    unfold rds at e
    simp only [rd] at e
    split at e
    · cases e
    · rename_i d hd0
      split at e
      · cases e
      · rename_i es he
        cases e
        obtain ⟨v', hv', o⟩ := R.has i d (join_some hd0)
        rw [hv] at hv'
        cases hv'
        by_cases hp : pur d = true
        · have el : lks (.slot i :: rs) (d :: es) = lks rs es := by rw [lks, if_pos hp]
          rw [el] at hd fr
          obtain ⟨Fl, h1, h2, h0⟩ := ih he hd fr
          rw [o.pur hp] at o
          refine ⟨[] :: Fl, .cons o (by simp) h1, fun G hG a ha => ?_, by unfold Al; rw [if_pos hp]; exact h0⟩
          rcases List.mem_cons.mp hG with rfl | hG
          · cases ha
          · rcases h2 G hG a ha with ⟨G', hG', h⟩ | h
            · exact .inl ⟨G', List.mem_cons_of_mem _ hG', h⟩
            · exact .inr h
        · have el : lks (.slot i :: rs) (d :: es) = (i, d) :: lks rs es := by rw [lks, if_neg hp]
          rw [el] at hd fr
          cases hd with
          | @cons _ _ v2 F _ Gl hv2 A n hd =>
            have hv2 := hv2.get
            rw [hv] at hv2
            cases hv2
            obtain ⟨Fl, h1, h2, h0⟩ := ih he hd fr.2
            refine ⟨F :: Fl, .cons A.own (fun G hG a ha hb => ?_) h1, fun G hG a ha => ?_, by unfold Al; rw [if_neg hp]; exact ⟨rfl, h0⟩⟩
            · rcases h2 G hG a hb with ⟨G', hG', h⟩ | ⟨G', hG', h⟩
              · -- another operand's own value stands apart from all slots
                have key : ∀ {rs : List Rf} {vs : List V} {Gs : List (List Addr)}, Rfs K H σ Fs rs vs Gs → G' ∈ Gs → ∀ i, a ∉ Fs i := fun {rs vs Gs} r => by
                  induction r with
                  | nil => intro h; cases h
                  | val A _ _ ih =>
                    intro hh i hi
                    rcases List.mem_cons.mp hh with e1 | hh
                    · exact A.dis i a hi (by rw [← e1]; exact h)
                    · exact ih hh i hi
                  | slot _ _ ih =>
                    intro hh i hi
                    rcases List.mem_cons.mp hh with e1 | hh
                    · rw [e1] at h; cases h
                    · exact ih hh i hi
                rcases fr.1 a ha with z | z
                · exact key r hG' _ z
                · obtain ⟨xs, w⟩ := A.own.mem a ha
                  rw [z] at w; cases w
              · exact n G' hG' a ha h
            · rcases List.mem_cons.mp hG with rfl | hG
              · exact .inr ⟨_, List.mem_cons_self .., ha⟩
              · rcases h2 G hG a ha with ⟨G', hG', h⟩ | ⟨G', hG', h⟩
                · exact .inl ⟨G', List.mem_cons_of_mem _ hG', h⟩
                · exact .inr ⟨G', List.mem_cons_of_mem _ hG', h⟩
/-- behind the call: what the slots' lists came to -/
theorem args_back {H0 : Hp} {Fs0 FsL : Fp} {s : Sg} (R : RelS K H s σ Fs) {rs : List Rf} {vs : List V} {Gs : List (List Addr)} (r : Rfs K H σ Fs rs vs Gs) : ∀ {ds as : List D} {Gl Fl Fl' : List (List Addr)}, rds rs s = some ds → Hid K H σ FsL (lks rs ds) Gl → From H0 Fs0 (lks rs ds) Gl → Al rs ds Gl Fl →
    OwnLs K H ds vs Fl → OwnLs K H' as vs Fl' → NewL H Fl Fl' → (∀ i a, a ∈ FsL i → (∀ F, F ∈ Fl → a ∉ F) ∧ H a ≠ none) → (∀ a, H a = none → H0 a = none) →
    ∃ Gl', Hid K H' σ FsL (lkz rs ds as) Gl' ∧ From H0 Fs0 (lkz rs ds as) Gl' ∧ ∀ G, G ∈ Gl' → G ∈ Fl' := by
  induction r with
  | nil =>
    intro ds as Gl Fl Fl' e hd fr al o o' nl _ _
    cases e
    exact ⟨[], .nil, trivial, by simp⟩
  | @val d v F rs vs Gs A n r ih =>
    intro ds as Gl Fl Fl' e hd fr al o o' nl ap th
    unfold rds at e
    simp only [rd] at e
    split at e
    · cases e
    · rename_i es he
      cases e
      cases o with
      | cons o1 n1 o =>
        cases o' with
        | cons o1' n1' o' =>
          obtain ⟨Gl', h1, h2, h3⟩ := ih he (by simpa [lks] using hd) (by simpa [lks] using fr) (by simpa [Al] using al) o o' nl.2 (fun i a h => ⟨fun F hF => (ap i a h).1 F (List.mem_cons_of_mem _ hF), (ap i a h).2⟩) th
          exact ⟨Gl', by simpa [lkz] using h1, by simpa [lkz] using h2, fun G hG => List.mem_cons_of_mem _ (h3 G hG)⟩
  | @slot i v rs vs Gs hv r ih =>
    intro ds as Gl Fl Fl' e hd fr al o o' nl ap th
    unfold rds at e
    simp only [rd] at e
    split at e
    · cases e
    · rename_i d hd0
      split at e
      · cases e
      · rename_i es he
        cases e
        cases o with
        | @cons _ _ F0 _ _ Fl0 o1 n1 o =>
          cases o' with
          | @cons a' _ F' as' _ Fl' o1' n1' o' =>
            have ap' : ∀ i a, a ∈ FsL i → (∀ F, F ∈ Fl0 → a ∉ F) ∧ H a ≠ none := fun i a h => ⟨fun F hF => (ap i a h).1 F (List.mem_cons_of_mem _ hF), (ap i a h).2⟩
            by_cases hp : pur d = true
            · have el : lks (.slot i :: rs) (d :: es) = lks rs es := by rw [lks, if_pos hp]
              have el' : lkz (.slot i :: rs) (d :: es) (a' :: as') = lkz rs es as' := by rw [lkz, if_pos hp]
              rw [el] at hd fr
              rw [el']
              obtain ⟨Gl', h1, h2, h3⟩ := ih he hd fr (by unfold Al at al; rw [if_pos hp] at al; exact al) o o' nl.2 ap' th
              exact ⟨Gl', h1, h2, fun G hG => List.mem_cons_of_mem _ (h3 G hG)⟩
            · have el : lks (.slot i :: rs) (d :: es) = (i, d) :: lks rs es := by rw [lks, if_neg hp]
              have el' : lkz (.slot i :: rs) (d :: es) (a' :: as') = (i, a') :: lkz rs es as' := by rw [lkz, if_neg hp]
              rw [el] at hd fr
              rw [el']
              cases hd with
              | @cons _ _ v2 F _ Gl hv2' A n hd =>
                have hv2 := hv2'.get
                rw [hv] at hv2
                cases hv2
                unfold Al at al
                rw [if_neg hp] at al
                obtain ⟨e0, al⟩ := al
                subst e0
                obtain ⟨Gl', h1, h2, h3⟩ := ih he hd fr.2 al o o' nl.2 ap' th
                refine ⟨F' :: Gl', .cons ⟨hv, hv2'.fp⟩ ⟨o1', fun j a hj ha => ?_⟩ (fun G hG a ha hb => n1' G (h3 G hG) a ha hb) h1, ⟨fun a ha => ?_, h2⟩, fun G hG => ?_⟩
                · rcases nl.1 a ha with z | z
                  · exact (ap j a hj).1 _ (List.mem_cons_self ..) z
                  · exact (ap j a hj).2 z
                · rcases nl.1 a ha with z | z
                  · exact fr.1 a z
                  · exact .inr (th a z)
                · rcases List.mem_cons.mp hG with rfl | hG
                  · exact List.mem_cons_self ..
                  · exact List.mem_cons_of_mem _ (h3 G hG)
theorem NewL.mem {Fl Fl' : List (List Addr)} (h : NewL H Fl Fl') : ∀ G, G ∈ Fl' → ∀ a, a ∈ G → (∃ F, F ∈ Fl ∧ a ∈ F) ∨ H a = none := by
  induction Fl generalizing Fl' with
  | nil => cases Fl' with
    | nil => intro G h; cases h
    | cons _ _ => exact h.elim
  | cons F Fl ih => cases Fl' with
    | nil => exact h.elim
    | cons F' Fl' =>
      intro G hG a ha
      rcases List.mem_cons.mp hG with rfl | hG
      · exact (h.1 a ha).imp (fun z => ⟨F, List.mem_cons_self .., z⟩) id
      · exact (ih h.2 G hG a ha).imp (fun ⟨F, h1, h2⟩ => ⟨F, List.mem_cons_of_mem _ h1, h2⟩) id
theorem tO_call {f : Fn} {n : Nat} {g : AL} {Q : VK} {E : XK} (z : tO K (oCall f g) σ H Q) (hn : ∀ ds r as, f ds = .ok r as → ds.length = n) : tA K g σ H fun vs H1 => spF K n f vs H1 Q E := by
  obtain ⟨s, Fs, rf, s', R, e, q⟩ := z
  obtain ⟨rs, s1, e1, e⟩ := bind_inv e
  refine ⟨s, Fs, rs, s1, R, e1, fun vs H1 Fs1 Gs R1 E1 k1 n1 => ?_⟩
  split at e
  · cases e
  · rename_i ds hds
    split at e
    · rename_i hnd
      split at e
      · rename_i r as hf
        cases e
        obtain ⟨FsL, Gl, RL, hd, sub, fr⟩ := R1.lock (lks_has k1 hds) hnd
        obtain ⟨Fl, ol, hl, al⟩ := args_own (FsL := FsL) R1 k1 hds hd fr
        have apart : ∀ i a, a ∈ FsL i → (∀ F, F ∈ Fl → a ∉ F) ∧ H1 a ≠ none := fun i a h => by
          refine ⟨fun F hF ha => ?_, fun w => ?_⟩
          · rcases hl F hF a ha with ⟨G, hG, hb⟩ | ⟨G, hG, hb⟩
            · have key : ∀ {rs : List Rf} {vs : List V} {Gs : List (List Addr)}, Rfs K H1 σ Fs1 rs vs Gs → G ∈ Gs → ∀ i, a ∉ Fs1 i := fun {rs vs Gs} r => by
                induction r with
                | nil => intro h; cases h
                | val A _ _ ih =>
                  intro hh i hi
                  rcases List.mem_cons.mp hh with e1 | hh
                  · exact A.dis i a hi (by rw [← e1]; exact hb)
                  · exact ih hh i hi
                | slot _ _ ih =>
                  intro hh i hi
                  rcases List.mem_cons.mp hh with e1 | hh
                  · rw [e1] at hb; cases hb
                  · exact ih hh i hi
              exact key k1 hG i (sub i a h)
            · exact (hd.mem G hG a hb).2 i h
          · obtain ⟨xs, y⟩ := RL.mem h
            rw [w] at y; cases y
        refine ⟨ds, Fl, r, as, hf, by rw [ol.len]; exact hn _ _ _ hf, R1.lnk.2, ol, fun v H2 Fl' F ol' c nl o nF dj => ?_⟩
        have R2 : RelS K H2 (lockS (lks rs ds) s1) σ FsL := ⟨RL.len, fun i d e => by
          obtain ⟨v, hv, o⟩ := RL.has i d e
          exact ⟨v, hv, o.chg c fun a ha ⟨G, hG, hb⟩ => (apart i a ha).1 G hG hb⟩, RL.off, RL.dis, RL.lnkC c (fun i a ha ⟨G, hG, hb⟩ => (apart i a (RL.fpF ha)).1 G hG hb), RL.bse⟩
        obtain ⟨Gl', hd', fr', sub'⟩ := args_back (H0 := H) (Fs0 := Fs) R1 k1 hds hd (fr.trans E1.new fun a h => E1.chg.there a h) al ol ol' nl apart fun a h => E1.chg.there a h
        obtain ⟨Fs', R', n'⟩ := R2.unlock hd' fr'
        refine q v H2 Fs' F R' ⟨⟨fun a ob ho cc => ?_, fun a h => E1.chg.there a (c.there a h), fun t => c.tab (E1.chg.tab t)⟩, fun j a h => ?_⟩ (.val ⟨o, fun j a h ha => ?_⟩) fun a ha => E1.chg.there a (nF a ha)
        · refine c.keep a ob (E1.chg.keep a ob ho cc) (cc.imp (fun w2 => ⟨fun ⟨G, hG, hb⟩ => ?_, w2.2⟩) id)
          have w := w2.1
          rcases hl G hG a hb with ⟨G', hG', h⟩ | ⟨G', hG', h⟩
          · rw [n1 G' hG' a h] at ho; cases ho
          · rcases fr.mem G' hG' a h with ⟨i, z⟩ | z
            · rcases E1.new i a z with z | z
              · exact w ⟨i, z⟩
              · rw [z] at ho; cases ho
            · rw [E1.chg.there a z] at ho; cases ho
        · rcases n' j a h with z | ⟨z, _⟩
          · exact E1.new j a (sub j a z)
          · exact z
        · rcases n' j a h with z | ⟨_, G, hG, hb⟩
          · exact (apart j a z).2 (nF a ha)
          · exact dj G (sub' G hG) a hb ha
      · cases e
      · cases e
    · cases e
end
def coll : List Nat → List D → Nat → Sg → Option (List D)
  | [], [], _, _ => some []
  | m :: ms, d :: ds, j, s => match coll ms ds (j + 1) s with
    | none => none
    | some as => if m = 0 then (match (s[j]?).join with
      | none => none
      | some d' => some (d' :: as)) else some (d :: as)
  | _, _, _, _ => none
/-- which parameters' names keep what they hold -/
def lkM (ms : List Nat) : Nat → Bool := fun i => ms[i]? == some 0
def okM : List Nat → List D → Bool
  | [], [] => true
  | m :: ms, d :: ds => (m == 0 || pur d) && okM ms ds
  | _, _ => false
/-- n names in all, the parameters by their modes: 0 keeps its name's value, 1 holds what has no list -/
def mkFn (ms : List Nat) (n : Nat) (g : S) : Fn := fun ds => if okM ms ds = true then (match g (ds.map some ++ List.replicate (n - ds.length) none) with
    | .ok fl s => (match coll ms ds 0 s with
      | none => .bad
      | some as => (match fl with
        | .nx => .ok .none as
        | .rt d => .ok d as
        | _ => .bad))
    | .exc c v _ => .exc c v
    | .bad => .bad) else .bad
section
variable [Tb] [Vs] {K : PySem.W.Frag} {H H' : Hp}
theorem okM_len : ∀ {ms : List Nat} {ds : List D}, okM ms ds = true → ds.length = ms.length
  | [], [], _ => rfl
  | m :: ms, d :: ds, h => by
    simp only [okM, Bool.and_eq_true] at h
    rw [List.length_cons, List.length_cons, okM_len h.2]
  | [], _ :: _, h => by simp [okM] at h
  | _ :: _, [], h => by simp [okM] at h
theorem mkFn_len {ms : List Nat} {n : Nat} {g : S} {ds : List D} {r : D} {as : List D} (h : mkFn ms n g ds = .ok r as) : ds.length = ms.length := by
  unfold mkFn at h
  split at h
  · rename_i hk
    exact okM_len hk
  · cases h
omit [Vs] in
/-- the arguments as the first slots -/
theorem relS_start (tt : TabsOk H) {ds : List D} {vs : List V} {Fl : List (List Addr)} (h : OwnLs K H ds vs Fl) (m : Nat) : @RelS _ noVs K H (ds.map some ++ List.replicate m none) (vs.map some ++ List.replicate m none) (fun j => Fl.getD j []) := by
  have hl := h.len
  have key : ∀ (i : Nat) (d : D), ds[i]? = some d → ∃ v F, vs[i]? = some v ∧ Fl[i]? = some F ∧ Own K H d v F := by
    clear hl
    induction h with
    | nil => intro i d h; simp at h
    | @cons d v F ds vs Fl o n _ ih =>
      intro i d' e
      cases i with
      | zero => simp at e; subst e; exact ⟨v, F, rfl, rfl, o⟩
      | succ i => exact ih i d' (by simpa using e)
  have lenF : Fl.length = ds.length := by
    clear key hl
    induction h with
    | nil => rfl
    | cons _ _ _ ih => rw [List.length_cons, List.length_cons, ih]
  have dj : ∀ (i j : Nat) (F G : List Addr) (a : Addr), Fl[i]? = some F → Fl[j]? = some G → a ∈ F → a ∈ G → i = j := by
    clear key hl lenF
    induction h with
    | nil => intro i j F G a h; simp at h
    | @cons d v F0 ds vs Fl o n _ ih =>
      intro i j F G a h1 h2 h3 h4
      cases i with
      | zero => cases j with
        | zero => rfl
        | succ j =>
          simp at h1
          subst h1
          exact absurd h4 (n G (List.mem_of_getElem? (by simpa using h2)) a h3)
      | succ i => cases j with
        | zero =>
          simp at h2
          subst h2
          exact absurd h3 (n F (List.mem_of_getElem? (by simpa using h1)) a h4)
        | succ j => rw [ih i j F G a (by simpa using h1) (by simpa using h2) h3 h4]
  refine ⟨by simp [hl], fun i d e => ?_, fun i e => ?_, fun i j a h1 h2 => ?_, ⟨trivial, tt⟩, fun i h => absurd rfl h⟩
  · by_cases hi : i < ds.length
    · rw [List.getElem?_append_left (by simpa using hi), List.getElem?_map] at e
      cases hd : ds[i]? with
      | none => rw [hd] at e; cases e
      | some d' =>
        rw [hd] at e
        cases e
        obtain ⟨v, F, hv, hF, o⟩ := key i d hd
        refine ⟨v, by rw [List.getElem?_append_left (by simp; omega), List.getElem?_map, hv]; rfl, ?_⟩
        show Own K H d v (Fl.getD i [])
        rw [List.getD_eq_getElem?_getD, hF]
        exact o
    · rw [List.getElem?_append_right (by simpa using hi), List.getElem?_replicate] at e
      split at e <;> cases e
  · show Fl.getD i [] = []
    by_cases hi : i < ds.length
    · exfalso
      refine e ds[i] ?_
      rw [List.getElem?_append_left (by simpa using hi), List.getElem?_map, List.getElem?_eq_getElem hi]
      rfl
    · rw [List.getD_eq_getElem?_getD, List.getElem?_eq_none (by omega)]
      rfl
  · have f1 : ∀ {i : Nat}, a ∈ Fl.getD i [] → ∃ F, Fl[i]? = some F ∧ a ∈ F := fun {i} h => by
      rw [List.getD_eq_getElem?_getD] at h
      cases e : Fl[i]? with
      | none => rw [e] at h; cases h
      | some F => rw [e] at h; exact ⟨F, rfl, h⟩
    obtain ⟨F, e1, m1⟩ := f1 h1
    obtain ⟨G, e2, m2⟩ := f1 h2
    exact dj i j F G a e1 e2 m1 m2
/-- the arguments behind the body -/
theorem coll_own {Fs' : Fp} {s : Sg} {σ' : St} (R : RelS K H' s σ' Fs') (c : Chg (fun _ => True) H H') (new : ∀ i a, a ∈ Fs' i → H' a ≠ none) : ∀ {ms : List Nat} {ds : List D} {vs : List V} {Fl : List (List Addr)} {as : List D} (j : Nat),
    OwnLs K H ds vs Fl → okM ms ds = true → coll ms ds j s = some as → (∀ i, i < ms.length → ms[i]? = some 0 → σ'[j + i]? = (vs[i]?).map some) → (∀ i a, ms[i]? = some 0 → a ∈ Fs' (j + i) → i < Fl.length → a ∈ Fl.getD i [] ∨ H a = none) →
    ∃ Fl', OwnLs K H' as vs Fl' ∧ NewL H Fl Fl' ∧ ∀ G, G ∈ Fl' → ∀ a, a ∈ G → ∃ i, j ≤ i ∧ ms[i - j]? = some 0 ∧ a ∈ Fs' i := by
  intro ms
  induction ms with
  | nil =>
    intro ds vs Fl as j o ok e L n
    cases ds with
    | cons _ _ => simp [okM] at ok
    | nil =>
      simp only [coll] at e
      cases e
      cases o
      exact ⟨[], .nil, trivial, by simp⟩
  | cons m ms ih =>
    intro ds vs Fl as j o ok e L n
    cases ds with
    | nil => simp [okM] at ok
    | cons d ds =>
      simp only [okM, Bool.and_eq_true, Bool.or_eq_true, beq_iff_eq] at ok
      simp only [coll] at e
      split at e
      · cases e
      · rename_i as' hc
        cases o with
        | @cons _ v F _ vs Fl o1 n1 o =>
          obtain ⟨Fl', h1, h2, h3⟩ := ih (j + 1) o ok.2 hc (fun i hi hm => by
            have := L (i + 1) (by simpa using hi) (by simpa using hm)
            rw [show j + 1 + i = j + (i + 1) by omega, this]
            simp) (fun i a hm ha hi => by
            have := n (i + 1) a (by simpa using hm) (by rw [show j + (i + 1) = j + 1 + i by omega]; exact ha) (by simpa using hi)
            simpa using this)
          have h3' : ∀ G, G ∈ Fl' → ∀ a, a ∈ G → ∃ i, j < i ∧ (m :: ms)[i - j]? = some 0 ∧ a ∈ Fs' i := fun G hG a ha => by
            obtain ⟨i, q1, q2, q3⟩ := h3 G hG a ha
            refine ⟨i, by omega, ?_, q3⟩
            rw [show i - j = (i - (j + 1)) + 1 by omega, List.getElem?_cons_succ]
            exact q2
          split at e
          · rename_i hm
            subst hm
            split at e
            · cases e
            · rename_i d' hd'
              cases e
              obtain ⟨v', hv', o'⟩ := R.has j d' (join_some hd')
              have := L 0 (by simp) rfl
              rw [Nat.add_zero, hv'] at this
              simp at this
              subst this
              refine ⟨Fs' j :: Fl', .cons o' (fun G hG a ha hb => ?_) h1, ⟨fun a ha => ?_, h2⟩, fun G hG a ha => ?_⟩
              · obtain ⟨i, q1, _, q3⟩ := h3' G hG a hb
                have := R.dis j i a ha q3
                omega
              · have := n 0 a rfl (by simpa using ha) (by simp)
                simpa using this
              · rcases List.mem_cons.mp hG with rfl | hG
                · exact ⟨j, Nat.le_refl _, by simp, ha⟩
                · obtain ⟨i, q1, q2, q3⟩ := h3' G hG a ha
                  exact ⟨i, Nat.le_of_lt q1, q2, q3⟩
          · rename_i hm
            cases e
            have hp : pur d = true := ok.1.resolve_left hm
            have e0 := o1.pur hp
            subst e0
            refine ⟨[] :: Fl', .cons (o1.chg c fun _ z => by cases z) (by simp) h1, ⟨by simp, h2⟩, fun G hG a ha => ?_⟩
            rcases List.mem_cons.mp hG with rfl | hG
            · cases ha
            · obtain ⟨i, q1, q2, q3⟩ := h3' G hG a ha
              exact ⟨i, Nat.le_of_lt q1, q2, q3⟩
end
end Sim
namespace Sim
open PySem PySem.Spec L2
theorem getD_of {Fl : List (List Addr)} {i : Nat} {a : Addr} (h : a ∈ Fl.getD i []) : ∃ G, Fl[i]? = some G ∧ a ∈ G := by
  rw [List.getD_eq_getElem?_getD] at h
  cases e : Fl[i]? with
  | none => rw [e] at h; cases h
  | some F => rw [e] at h; exact ⟨F, rfl, h⟩
theorem OwnLs.pure_at {K : PySem.W.Frag} {H : Hp} : ∀ {ms : List Nat} {ds : List D} {vs : List V} {Fl : List (List Addr)}, OwnLs K H ds vs Fl → okM ms ds = true → ∀ i, ms[i]? ≠ some 0 → Fl.getD i [] = []
  | [], [], _, _, o, _, i, _ => by cases o; simp
  | m :: ms, d :: ds, _, _, o, ok, 0, h => by
    cases o with
    | @cons _ _ F _ _ Fl o1 n1 o =>
      simp only [okM, Bool.and_eq_true, Bool.or_eq_true, beq_iff_eq] at ok
      have hp : pur d = true := ok.1.resolve_left fun e => h (by rw [e]; rfl)
      simpa using o1.pur hp
  | m :: ms, d :: ds, _, _, o, ok, i + 1, h => by
    cases o with
    | @cons _ _ F _ _ Fl o1 n1 o =>
      simp only [okM, Bool.and_eq_true] at ok
      have := OwnLs.pure_at o ok.2 i (by simpa using h)
      simpa using this
  | [], _ :: _, _, _, _, ok, _, _ => by simp [okM] at ok
  | _ :: _, [], _, _, _, ok, _, _ => by simp [okM] at ok
section
variable [Tb] {P : Program} {w : World} {K : PySem.W.Frag} {mg : Str → Option Value} {base : Heap}
theorem fn_sim {x qual : Str} {st : Stmt} {f : Addr} {fd : FuncData} {N ps : List Str} {ms : List Nat} {n k : Nat} {g : S} (F : Fun K x qual st f fd) (Sc : FnScope N ps (defScope st)) (hn : N.length = n) (hm : ms.length = ps.length)
    (hb : ∀ (cdv : Value) (A : Around) (outer : List Env) (s : Shared) (H : Hp) (E : XK), Room k (A.deeper (PyProof.Rows.envOfC qual (defScope st) s.heap.objs.size f cdv)) →
      SimSs (cxOf CX0 P w K mg base N qual (defScope st) f cdv A outer s H E).nox (lkM ms) (defBody st) g) : FnOk P w K mg base CX0 (k + 1) f fd ps (spF K ps.length (mkFn ms n g)) := by
  refine F.ok Sc (fun vs H Q E h => ?_) (fun cdv A outer s H vs Q E hr h => ⟨_, hb cdv A outer s H E hr, ?_⟩)
  · obtain ⟨ds, Fl, r, as, hf, hl, _⟩ := h
    exact hl
  · obtain ⟨ds, Fl, r, as, hf, hl, tt, ol, q⟩ := h
    unfold mkFn at hf
    split at hf
    · rename_i hok
      have hlm := okM_len hok
      split at hf
      · rename_i fl s' hg
        split at hf
        · cases hf
        · rename_i as' hc
          have est : L2.start N vs = vs.map some ++ List.replicate (n - ds.length) none := by
            unfold L2.start
            rw [hn, ← ol.len]
          have R0 := relS_start tt ol (n - ds.length)
          rw [est]
          refine ⟨_, _, fl, s', R0, hg, ?_⟩
          have fin : ∀ {σ' : St} {H' : Hp} {Fs' : Fp}, RelS K H' s' σ' Fs' → EvR (lkM ms) H (fun j => Fl.getD j []) H' Fs' → Lk (lkM ms) (vs.map some ++ List.replicate (n - ds.length) none) σ' →
              ∃ Fl', OwnLs K H' as' vs Fl' ∧ NewL H Fl Fl' ∧ (Chg (fun a => ∃ G, G ∈ Fl ∧ a ∈ G) H H') ∧ ∀ G, G ∈ Fl' → ∀ a, a ∈ G → ∃ i, lkM ms i = true ∧ a ∈ Fs' i := by
            intro σ' H' Fs' R' E' L'
            have c2 : Chg (fun a => ∃ G, G ∈ Fl ∧ a ∈ G) H H' := E'.chg.mono fun a _ _ ⟨i, hi⟩ => by
              obtain ⟨G, hG, ha⟩ := getD_of hi
              exact ⟨G, List.mem_of_getElem? hG, ha⟩
            have c3 : Chg (fun _ => True) H H' := E'.chg.mono fun _ _ _ _ => trivial
            obtain ⟨Fl', h1, h2, h3⟩ := coll_own (Fs' := Fs') R' c3 (fun i a h => by
              obtain ⟨xs, z⟩ := R'.mem h
              rw [z]
              simp) 0 ol hok hc (fun i hi h0 => by
                have := L' i (by unfold lkM; rw [h0]; rfl)
                rw [Nat.zero_add, this, List.getElem?_append_left (by rw [List.length_map, ol.len, hlm]; exact hi), List.getElem?_map]) (fun i a hm ha hi => by
                rw [Nat.zero_add] at ha
                rcases E'.new i a ha with z | ⟨z, _⟩
                · exact z
                · unfold lkM at z
                  rw [hm] at z
                  cases z)
            refine ⟨Fl', h1, h2, c2, fun G hG a ha => ?_⟩
            obtain ⟨i, _, q2, q3⟩ := h3 G hG a ha
            exact ⟨i, by unfold lkM; rw [Nat.sub_zero] at q2; rw [q2]; rfl, q3⟩
          cases fl with
          | nx =>
            cases hf
            intro σ' H' Fs' R' E' L'
            obtain ⟨Fl', h1, h2, c2, _⟩ := fin R' E'.r L'
            exact q .non H' Fl' [] h1 c2 h2 .non (by simp) (by simp)
          | rt d =>
            cases hf
            intro v σ' H' Fs' F' R' E' L' o nn m
            obtain ⟨Fl', h1, h2, c2, h3⟩ := fin R' E' L'
            refine q v H' Fl' F' h1 c2 h2 o (fun a ha => ?_) fun G hG a ha hb => ?_
            · rcases nn a ha with z | ⟨i, hi, z⟩
              · exact z
              · exfalso
                have z' : a ∈ Fl.getD i [] := z
                rw [ol.pure_at hok i (fun e => by unfold lkM at hi; rw [e] at hi; cases hi)] at z'
                cases z'
            · obtain ⟨i, hi, q3⟩ := h3 G hG a ha
              exact m i a hi q3 hb
          | bk => cases hf
          | ct => cases hf
      · cases hf
      · cases hf
    · cases hf
end
section
variable [Tb] [Vs] {X : Cx} {k : Nat} {f : Addr} {fd : FuncData} {ps : List Str} {fn : Fn} {x : Str} {p pos : Pos} {e : Expr} {es : List Expr} {g : AL}
theorem so_call (F : FnOk X.prog X.w X.K X.mg X.base CX0 k f fd ps (spF X.K ps.length fn)) (hr : Room k X.A) (hg : Gl X x) (hm : X.mg x = some (.ref f)) (hk : PySem.W.keepIn X.K (.ref f) = true) (hb : Binds X.K fd ps []) (ha : SimA X (e :: es) g)
    (hn : ∀ ds r as, fn ds = .ok r as → ds.length = ps.length) (hdb : (x == ("__debug__" : Str)) = false := by decide) (he : starEach (e :: es) X.env = (false, eval e X.env) :: starEach es X.env := by rfl) (hpl : (backTo pos (starEach es X.env)).any (·.1) = false := by rfl) :
    SimO X (.Call (.Name x p) (e :: es) [] pos) (oCall fn g) := by
  refine pe_imp (pe_call F hr hg hm hk hb .nil pass0 ha hdb he hpl) fun σ H Q z => ?_
  have z' := tO_call (E := E0) z hn
  exact tA_mono (fun vs H h => by rw [List.append_nil]; exact h) z'
end
end Sim
namespace Sim
open PySem PySem.Spec L2
def intsD : List D → Option (List Int)
  | [] => some []
  | .int i :: ds => (intsD ds).map (i :: ·)
  | _ => none
def bools : List D → Option (List Bool)
  | [] => some []
  | .bool i :: ds => (bools ds).map (i :: ·)
  | _ => none
def seqOf : D → Option (List D)
  | .list ds => some ds
  | .tuple ds => some ds
  | .dict [(.none, .list ds)] => some ds
  | _ => none
def pLen : List D → Option D
  | [.str z] => if z.length ≤ 1000000 then some (.int z.length) else none
  | [d] => match seqOf d with
    | some ds => some (.int ds.length)
    | none => none
  | _ => none
def pAbs : List D → Option D
  | [.int i] => some (.int (if i < 0 then -i else i))
  | _ => none
def pInt : List D → Option D
  | [.int i] => some (.int i)
  | [.bool k] => some (.int (if k then 1 else 0))
  | _ => none
def pMax2 : List D → Option D
  | [.int i, .int j] => some (.int (max i j))
  | _ => none
def pMin2 : List D → Option D
  | [.int i, .int j] => some (.int (min i j))
  | _ => none
def intsOf (d : D) : Option (List Int) := match seqOf d with
  | some ds => intsD ds
  | none => none
def pSum : List D → Option D
  | [d] => (intsOf d).map fun ns => .int ns.sum
  | _ => none
def pTuple : List D → Option D
  | [d] => match seqOf d with
    | some ds => if purs ds = true then some (.tuple ds) else none
    | none => none
  | _ => none
def pList : List D → Option D
  | [d] => match seqOf d with
    | some ds => if purs ds = true then some (.list ds) else none
    | none => none
  | _ => none
def pDivmod : List D → Option D
  | [.int i, .int j] => if 0 < j ∧ j < 1000000 then some (.tuple [.int (i / j), .int (i % j)]) else none
  | _ => none
def pAll : List D → Option D
  | [.list ds] => (bools ds).map fun bs => .bool (bs.all id)
  | _ => none
def pAny : List D → Option D
  | [.list ds] => (bools ds).map fun bs => .bool (bs.any id)
  | _ => none
section
variable {K : PySem.W.Frag} {H : Hp}
theorem own_ints : ∀ {ds : List D} {vs : List V} {F : List Addr} {ns : List Int}, OwnA K H ds vs F → intsD ds = some ns → vs = ns.map V.int
  | [], _, _, _, h, e => by cases h; cases e; rfl
  | d :: ds, _, _, _, h, e => by
    cases h with
    | cons o t n =>
      cases o with
      | int i =>
        simp only [intsD] at e
        cases hi : intsD ds with
        | none => rw [hi] at e; cases e
        | some ns' =>
          rw [hi] at e
          cases e
          rw [own_ints t hi]
          rfl
      | _ => simp [intsD] at e
theorem own_bools : ∀ {ds : List D} {vs : List V} {F : List Addr} {ns : List Bool}, OwnA K H ds vs F → bools ds = some ns → vs = ns.map V.bl
  | [], _, _, _, h, e => by cases h; cases e; rfl
  | d :: ds, _, _, _, h, e => by
    cases h with
    | cons o t n =>
      cases o with
      | bl i =>
        simp only [bools] at e
        cases hi : bools ds with
        | none => rw [hi] at e; cases e
        | some ns' =>
          rw [hi] at e
          cases e
          rw [own_bools t hi]
          rfl
      | _ => simp [bools] at e
theorem own_seq {d : D} {v : V} {F : List Addr} {ds : List D} (o : Own K H d v F) (e : seqOf d = some ds) : ∃ a xs G, v = .ref a ∧ (SqL K H a xs ∨ SqT K H a xs) ∧ OwnA K H ds xs G ∧ (purs ds = true → G = [] ∧ (∀ e2, d = .tuple e2 → SqD K H a xs)) ∧ ((∃ e2, d = .tuple e2) ∨ SqL K H a xs) := by
  unfold seqOf at e
  split at e
  · cases e
    cases o with
    | lst h t n => exact ⟨_, _, _, rfl, .inl (SqL.of h), t, fun p => ⟨t.pur p, fun _ z => by cases z⟩, .inr (SqL.of h)⟩
  · cases e
    cases o with
    | tup h t => exact ⟨_, _, _, rfl, .inr h.sq, t, fun p => ⟨t.pur p, fun _ _ => h⟩, .inl ⟨_, rfl⟩⟩
  · cases e
    cases o with
    | frz h t => exact ⟨_, _, _, rfl, .inl h.sq, t, fun p => ⟨rfl, fun _ z => by cases z⟩, .inr h.sq⟩
  · cases e
end
section
variable {prog : Program} {w : World} {A : Around} {E : Value → Shared → Prop} {s : Shared} {t : Addr} {xs : Array (Int × Tok)}
end
section
variable {X : Cx}
end
end Sim
namespace Sim
open PySem PySem.Spec L2
section
variable {K : PySem.W.Frag}
def rLenA (K : PySem.W.Frag) : List V → Hp → VK → Prop := fun xs H Q => (∃ p ys, xs = [V.ref p] ∧ (SqL K H p ys ∨ SqT K H p ys) ∧ Q (.int ys.length) H) ∨ ∃ z, xs = [V.str z] ∧ z.length ≤ sizeLine ∧ Q (.int z.length) H
theorem CallR.or {X : Cx} {f : Value} {r r' : List V → Hp → VK → Prop} (h : CallR X f r) (h' : CallR X f r') : CallR X f (fun xs H Q => r xs H Q ∨ r' xs H Q) := fun pins s σ H xs us Q I rv q =>
  q.elim (h pins s σ H xs us Q I rv) (h' pins s σ H xs us Q I rv)
theorem cr_len {X : Cx} : CallR X (.builtin "len") (rLenA X.K) := CallR.or call_len_seq call_len_str
theorem pr_len : PrimR K (rLenA K) pLen := by
  intro vs ds d H Q h e q
  unfold pLen at e
  split at e
  · obtain ⟨x, F, rfl, o⟩ := h.one
    cases o
    split at e
    · rename_i hz
      cases e
      exact .inr ⟨_, rfl, Nat.le_trans hz big_le, q _ _ (.sc (.int _))⟩
    · cases e
  · obtain ⟨x, F, rfl, o⟩ := h.one
    split at e
    · rename_i es hs
      cases e
      obtain ⟨a, xs, G, rfl, hq, t, _⟩ := own_seq o hs
      refine .inl ⟨_, _, rfl, hq, ?_⟩
      rw [t.len]
      exact q _ _ (.sc (.int _))
    · cases e
  · cases e
theorem pr_abs : PrimR K (fun xs H Q => ∃ i : Int, xs = [V.int i] ∧ Q (.int (if i < 0 then -i else i)) H) pAbs := by
  intro vs ds d H Q h e q
  unfold pAbs at e
  split at e
  · obtain ⟨x, F, rfl, o⟩ := h.one
    cases o; cases e
    exact ⟨_, rfl, q _ _ (.sc (.int _))⟩
  · cases e
theorem pr_int : PrimR K (fun xs H Q => (∃ i, xs = [V.int i] ∧ Q (.int i) H) ∨ ∃ k, xs = [V.bl k] ∧ Q (.int (if k then 1 else 0)) H) pInt := by
  intro vs ds d H Q h e q
  unfold pInt at e
  split at e
  · obtain ⟨x, F, rfl, o⟩ := h.one
    cases o; cases e
    exact .inl ⟨_, rfl, q _ _ (.sc (.int _))⟩
  · obtain ⟨x, F, rfl, o⟩ := h.one
    cases o; cases e
    exact .inr ⟨_, rfl, q _ _ (.sc (.int _))⟩
  · cases e
theorem pr_max2 : PrimR K (fun xs H Q => ∃ i j : Int, xs = [V.int i, .int j] ∧ Q (.int (if j > i then j else i)) H) pMax2 := by
  intro vs ds d H Q h e q
  unfold pMax2 at e
  split at e
  · rename_i i j
    obtain ⟨x, y, F, G, rfl, o, o2⟩ := h.two
    cases o; cases o2; cases e
    refine ⟨_, _, rfl, ?_⟩
    have z : (if j > i then j else i) = max i j := by split <;> omega
    rw [z]
    exact q _ _ (.sc (.int _))
  · cases e
theorem pr_min2 : PrimR K (fun xs H Q => ∃ i j : Int, xs = [V.int i, .int j] ∧ Q (.int (if j < i then j else i)) H) pMin2 := by
  intro vs ds d H Q h e q
  unfold pMin2 at e
  split at e
  · rename_i i j
    obtain ⟨x, y, F, G, rfl, o, o2⟩ := h.two
    cases o; cases o2; cases e
    refine ⟨_, _, rfl, ?_⟩
    have z : (if j < i then j else i) = min i j := by split <;> omega
    rw [z]
    exact q _ _ (.sc (.int _))
  · cases e
theorem own_intsOf {H : Hp} {d : D} {v : V} {F : List Addr} {ns : List Int} (o : Own K H d v F) (e : intsOf d = some ns) : ∃ a, v = .ref a ∧ (SqL K H a (ns.map V.int) ∨ SqT K H a (ns.map V.int)) := by
  unfold intsOf at e
  split at e
  · rename_i es hs
    obtain ⟨a, xs, G, rfl, hq, t, _⟩ := own_seq o hs
    rw [own_ints t e] at hq
    exact ⟨a, rfl, hq⟩
  · cases e
theorem pr_tuple : PrimR K (fun xs H Q => ∃ p ys, xs = [V.ref p] ∧ ((SqL K H p ys ∧ rNewT ys H Q) ∨ (SqT K H p ys ∧ Q (.ref p) H))) pTuple := by
  intro vs ds d H Q h e q
  unfold pTuple at e
  split at e
  · obtain ⟨x, F, rfl, o⟩ := h.one
    split at e
    · rename_i es hs
      split at e
      · rename_i hp
        cases e
        obtain ⟨a, xs, G, rfl, hq, t, h1, h2⟩ := own_seq o hs
        obtain ⟨rfl, h3⟩ := h1 hp
        refine ⟨a, xs, rfl, ?_⟩
        rcases h2 with ⟨e2, h2⟩ | h2
        · exact .inr ⟨(h3 e2 h2).sq, q _ _ (.sc (.tup (h3 e2 h2) t))⟩
        · exact .inl ⟨h2, fun p ob hp hn => q _ _ (.tup t hp hn)⟩
      · cases e
    · cases e
  · cases e
theorem pr_all : PrimR K (rAll K) pAll := by
  intro vs ds d H Q h e q
  unfold pAll at e
  split at e
  · obtain ⟨x, F, rfl, o⟩ := h.one
    rename_i es
    cases hi : bools es with
    | none => rw [hi] at e; cases e
    | some ns =>
      rw [hi] at e
      cases e
      cases o with
      | lst h1 t n =>
        rw [own_bools t hi] at h1
        exact ⟨_, _, rfl, SqL.of h1, q _ _ (.sc (.bl _))⟩
  · cases e
end
theorem bt_len : bootBuiltins "len" = some (.builtin "len") := by decide +kernel
theorem bt_abs : bootBuiltins "abs" = some (.builtin "abs") := by decide +kernel
theorem bt_max : bootBuiltins "max" = some (.builtin "max") := by decide +kernel
theorem bt_min : bootBuiltins "min" = some (.builtin "min") := by decide +kernel
theorem bt_all : bootBuiltins "all" = some (.builtin "all") := by decide +kernel
theorem bt_sorted : bootBuiltins "sorted" = some (.builtin "sorted") := by decide +kernel
theorem bt_isinstance : bootBuiltins "isinstance" = some (.builtin "isinstance") := by decide +kernel
theorem bt_int : bootBuiltins "int" = some (.type "int") := by decide +kernel
theorem bt_str : bootBuiltins "str" = some (.type "str") := by decide +kernel
theorem bt_tuple : bootBuiltins "tuple" = some (.type "tuple") := by decide +kernel
theorem bt_range : bootBuiltins "range" = some (.type "range") := by decide +kernel
inductive Kd where
  | int | bool | str | tup | lst
def kdN : Kd → Str
  | .int => "int"
  | .bool => "bool"
  | .str => "str"
  | .tup => "tuple"
  | .lst => "list"
def kdT : Kd → String
  | .int => "int"
  | .bool => "bool"
  | .str => "str"
  | .tup => "tuple"
  | .lst => "list"
def frdB : List (D × D) → Bool
  | [(.none, .dict _)] => true
  | _ => false
def isK : Kd → D → Bool
  | .int, .int _ => true
  | .int, .bool _ => true
  | .bool, .bool _ => true
  | .str, .str _ => true
  | .tup, .tuple _ => true
  | .lst, .list _ => true
  | .lst, .dict kvs => !frdB kvs
  | _, _ => false
def okD : D → Bool
  | .dict kvs => frzT kvs
  | _ => true
def pIsi (k : Kd) : List D → Option D
  | [d] => if okD d = true then some (.bool (isK k d)) else none
  | _ => none
def tyN : D → String
  | .none => "NoneType"
  | .bool _ => "bool"
  | .int _ => "int"
  | .str _ => "str"
  | .tuple _ => "tuple"
  | .list _ => "list"
  | .dict kvs => if frdB kvs = true then "dict" else "list"
theorem kit_d (k : Kd) (d : D) : kitB (tyN d) (kdT k) = some (isK k d) := by
  cases d with
  | dict kvs =>
    cases hk : frdB kvs <;> cases k <;> simp only [tyN, kdT, isK, hk, if_true, if_false, Bool.false_eq_true, Bool.not_true, Bool.not_false] <;> decide +kernel
  | _ => cases k <;> simp only [tyN, kdT, isK] <;> decide +kernel
theorem own_ty {K : PySem.W.Frag} {H : Hp} {d : D} {v : V} {F : List Addr} (o : Own K H d v F) (ok : okD d = true) : TyX K H v (.type (tyN d)) := by
  cases o with
  | dct _ _ _ => simp [okD, frzT] at ok
  | dcn _ _ _ => simp [okD, frzT] at ok
  | frk _ _ => simp [okD, frzT] at ok
  | frn _ _ _ => simp [okD, frzT] at ok
  | ins _ _ _ _ => simp [okD, frzT] at ok
  | opq _ => simp [okD, frzT] at ok
  | non => exact .base .non
  | bl b => exact .base (.bl b)
  | int b => exact .base (.int b)
  | str b => exact .base (.str b)
  | tup h t =>
    rcases h with ⟨o, h, _⟩ | ⟨o, its, n, h1, h2, _⟩
    · exact .fTuple h
    · exact .kTuple h1 h2
  | frz h t =>
    rcases h with ⟨o, h⟩ | ⟨o, its, n, h1, h2, _⟩
    · exact .base (.frz h)
    · exact .kList h1 h2
  | frd h => exact .fDict h
  | lst h t n => exact .base (.lst h)
def rIsiK (K : PySem.W.Frag) (k : Kd) : List V → Hp → VK → Prop := fun vs H Q => rIsi K (vs ++ [.ty (kdT k)]) H Q
theorem pr_isi {K : PySem.W.Frag} (k : Kd) : PrimR K (rIsiK K k) (pIsi k) := by
  intro vs ds d H Q h e q
  unfold pIsi at e
  split at e
  · obtain ⟨x, F, rfl, o⟩ := h.one
    split at e
    · rename_i ok
      cases e
      exact ⟨x, _, _, _, _, rfl, .ty _, own_ty o ok, kit_ty (kit_d k _), q _ _ (.sc (.bl _))⟩
    · cases e
  · cases e
theorem so_isi [Tb] [Vs] {X : Cx} {e : Expr} {ga : O} {p p2 pos : Pos} (k : Kd) (hg : Gl X "isinstance") (hm : X.mg "isinstance" = none) (hg2 : Gl X (kdN k)) (hm2 : X.mg (kdN k) = none) (ha : SimO X e ga)
    (he : starEach (e :: [.Name (kdN k) p2]) X.env = (false, eval e X.env) :: starEach [.Name (kdN k) p2] X.env := by rfl) (hpl : (backTo pos (starEach [.Name (kdN k) p2] X.env)).any (·.1) = false := by rfl)
    (hs2 : starEach [.Name (kdN k) p2] X.env = (false, eval (.Name (kdN k) p2) X.env) :: starEach [] X.env := by rfl) : SimO X (.Call (.Name "isinstance" p) [e, .Name (kdN k) p2] [] pos) (o1 (pIsi k) ga) := by
  have hb : bootBuiltins (kdN k) = some (.type (kdT k)) := by cases k <;> decide +kernel
  have hn : kdN k ≠ "__name__" := by cases k <;> decide
  have hd : (kdN k == ("__debug__" : Str)) = false := by cases k <;> decide
  refine pe_imp (pe_callB call_isi hg hm bt_isinstance (pa_cons ha (pa_cons (pe_bltn hg2 hm2 hb (v := .ty (kdT k)) rfl hn hd) pa_nil hs2) he) (he := he) (hpl := hpl)) fun σ H Q h => ?_
  have z := tA1 (prim (pr_isi k) h)
  exact z
end Sim
namespace Sim
open PySem PySem.Spec L2
/-- x.m(args): the list that x's slot holds, as it becomes; what is given -/
def oMt (f : List D → List D → Option (List D × D)) (i : Nat) (g : AL) : O := fun s => (oV i s).bind fun _ s => match (s[i]?).join with
  | some (.list _) => (g s).bind fun rs s1 => (match (s1[i]?).join, owns rs s1 with
    | some (.list ds), some as => (match f ds as with
      | some (ds', d) => if pur d = true then .ok (.val d) (s1.set i (some (.list ds'))) else .bad
      | none => .bad)
    | _, _ => .bad)
  | _ => .bad
/-- what a rule of a method asks: the list becomes .., the answer -/
def MtD (K : PySem.W.Frag) (r : V → List V → Hp → VK → Prop) (f : List D → List D → Option (List D × D)) : Prop :=
  ∀ (l : Addr) (vs : List V) (F : List Addr) (ds as : List D) (ws : List V) (G : List Addr) (ds' : List D) (d : D) (H : Hp) (Q : VK),
    H l = some (.lst vs) → OwnA K H ds vs F → l ∉ F → OwnA K H as ws G → (∀ a, a ∈ G → a ∉ l :: F) → f ds as = some (ds', d) → pur d = true →
    (∀ vs' F' v, OwnA K H ds' vs' F' → (∀ a, a ∈ F' → a ∈ F ∨ a ∈ G) → Own K H d v [] → Q v (upd H l (.lst vs'))) → r (.ref l) ws H Q
theorem Ev.step [Tb] {H H1 H' : Hp} {Fs Fs1 Fs' : Fp} (a : Ev H Fs H1 Fs1) (c : Chg (InF Fs1) H1 H') (n : ∀ i x, x ∈ Fs' i → x ∈ Fs i ∨ H x = none) : Ev H Fs H' Fs' := by
  refine ⟨⟨fun x o e cc => c.keep x o (a.chg.keep x o e cc) (cc.imp (fun n => ⟨fun z => ?_, n.2⟩) id), fun x e => a.chg.there x (c.there x e), fun t => c.tab (a.chg.tab t)⟩, n⟩
  obtain ⟨i, hi⟩ := z
  rcases a.new i x hi with q | q
  · exact n.1 ⟨i, q⟩
  · rw [e] at q; cases q
section
variable [Tb] [Vs] {X : Cx} {K : PySem.W.Frag} {σ : St} {H : Hp} {Q : VK}
theorem tO_mt {f : List D → List D → Option (List D × D)} {r : V → List V → Hp → VK → Prop} {i : Nat} {g : AL} (hr : MtD K r f) (z : tO K (oMt f i g) σ H Q) : tBM K "list" r (tSl i) (tA K g) σ H Q := by
  obtain ⟨s, Fs, rf, s', R, e, q⟩ := z
  obtain ⟨r0, s0, e0, e⟩ := bind_inv e
  unfold oV at e0
  split at e0
  · rename_i d0 hd0
    cases e0
    split at e
    · rename_i ds0 hds0
      rw [hd0] at hds0
      cases hds0
      obtain ⟨v0, hv0, o0⟩ := R.has i _ (join_some hd0)
      obtain ⟨l, vs0, F0, rfl, hF0, hl0, t0, n0⟩ := own_list o0
      refine ⟨.ref l, hv0, R.lnk.1, .inl ⟨rfl, _, SqL.of hl0⟩, ?_⟩
      obtain ⟨rs, s1, e1, e⟩ := bind_inv e
      refine ⟨s, Fs, rs, s1, R, e1, fun ws H1 Fs1 Gs R1 E1 k1 n1 => ?_⟩
      split at e
      · rename_i ds as hds has
        split at e
        · rename_i ds' d hf
          split at e
          · rename_i hp
            cases e
            obtain ⟨v1, hv1, o1⟩ := R1.has i _ (join_some hds)
            rw [hv0] at hv1
            cases hv1
            obtain ⟨l', vs, F, e2, hF, hl, t, n⟩ := own_list o1
            cases e2
            obtain ⟨oa, dj⟩ := k1.own R1 has
            have li : ∀ a, a ∈ Gs.flatten → a ∉ l :: F := fun a ha hb => dj i a (by rw [hF]; exact hb) ha
            refine hr l vs F ds as ws Gs.flatten ds' d H1 Q hl t n oa li hf hp fun vs' F' v o' sub ov => ?_
            have n' : l ∉ F' := fun h => by
              rcases sub l h with z | z
              · exact n z
              · exact li l z (List.mem_cons_self ..)
            obtain ⟨Fs2, R2, c2, w2⟩ := R1.wr (Fd := Gs.flatten) (join_some hds) hv0 hl hF o' n' sub (fun j a ha => dj j a ha)
            have ch : Chg (fun a => a = l) H1 (upd H1 l (.lst vs')) := .upd1 (m := .lst _) hl
            refine q v _ Fs2 [] R2 (E1.step c2 fun j a ha => ?_) (.val ⟨ov.chg ch (fun _ z => nomatch z), fun _ _ _ z => nomatch z⟩) (fun _ z => nomatch z)
            rcases w2 j a ha with z | z
            · exact E1.new j a z
            · obtain ⟨G, hG, hb⟩ := List.mem_flatten.mp z
              exact .inr (n1 G hG a hb)
          · cases e
        · cases e
      · cases e
    · cases e
  · cases e0
theorem so_mtF {e0 : Expr} {f : List D → List D → Option (List D × D)} {r : V → List V → Hp → VK → Prop} {i : Nat} {g : AL} {name : Str} {id : String} {apos cpos : Pos} {e : Expr} {es : List Expr} (hr : MtD X.K r f) (slot : Slot "list" name id) (hty : typeOf (.builtin id) = pure (.type "method_descriptor")) (hm : MtR X id r)
    (ho : PE X e0 (tSl i)) (ha : SimA X (e :: es) g)
    (hbase : attributeBase e0 name X.env (eval e0 X.env) = eval e0 X.env := by rfl)
    (hfew : ((backTo cpos (starEach (e :: es) X.env)).all (fun x => !x.1) && (backToKw cpos (keywordEach [] X.env)).all (fun x => x.1.isSome)
      && decide ((e :: es).length + ([] : List Keyword).length + (if ([] : List Keyword).isEmpty then 0 else 1) < 30)) = true := by rfl)
    (hline : (apos.endLine == cpos.line) = true := by rfl) (hs : starEach (e :: es) X.env = (false, eval e X.env) :: starEach es X.env := by rfl) (hplain : (backTo cpos (starEach es X.env)).any (·.1) = false := by rfl) :
    SimO X (.Call (.Attribute e0 name apos) (e :: es) [] cpos) (oMt f i g) :=
  pe_imp (pe_bm PySem.F.plainAttrs_list slot hty hm ho ha hbase hfew hline hs hplain) fun _ _ _ h => tO_mt hr h
theorem so_mt {f : List D → List D → Option (List D × D)} {r : V → List V → Hp → VK → Prop} {i : Nat} {g : AL} {x name : Str} {id : String} {p apos cpos : Pos} {e : Expr} {es : List Expr} (hr : MtD X.K r f) (slot : Slot "list" name id) (hty : typeOf (.builtin id) = pure (.type "method_descriptor")) (hm : MtR X id r)
    (ho : PE X (.Name x p) (tVar i)) (ha : SimA X (e :: es) g)
    (hbase : attributeBase (.Name x p) name X.env (eval (.Name x p) X.env) = eval (.Name x p) X.env := by rfl)
    (hfew : ((backTo cpos (starEach (e :: es) X.env)).all (fun x => !x.1) && (backToKw cpos (keywordEach [] X.env)).all (fun x => x.1.isSome)
      && decide ((e :: es).length + ([] : List Keyword).length + (if ([] : List Keyword).isEmpty then 0 else 1) < 30)) = true := by rfl)
    (hline : (apos.endLine == cpos.line) = true := by rfl) (hs : starEach (e :: es) X.env = (false, eval e X.env) :: starEach es X.env := by rfl) (hplain : (backTo cpos (starEach es X.env)).any (·.1) = false := by rfl) :
    SimO X (.Call (.Attribute (.Name x p) name apos) (e :: es) [] cpos) (oMt f i g) :=
  so_mtF hr slot hty hm (tsl_of ho) ha hbase hfew hline hs hplain
end
def mApp : List D → List D → Option (List D × D)
  | ds, [d] => if ds.length < 1000000 then some (ds ++ [d], .none) else none
  | _, _ => none
def mPopAt : List D → List D → Option (List D × D)
  | ds, [.int i] => if purs ds = true ∧ ds.length ≤ 1000000 then (match ixN ds.length i with
    | none => none
    | some j => (match ds[j]? with
      | none => none
      | some d => some (ds.eraseIdx j, d))) else none
  | _, _ => none
section
variable {K : PySem.W.Frag} {H : Hp}
theorem owna1 {d : D} {vs : List V} {F : List Addr} (h : OwnA K H [d] vs F) : ∃ v, vs = [v] ∧ Own K H d v F := by
  cases h with
  | @cons v _ _ _ F G o t n =>
    cases t
    rw [List.append_nil]
    exact ⟨v, rfl, o⟩
theorem OwnA.er {H : Hp} : ∀ {as : List D} {vs : List V}, OwnA K H as vs [] → ∀ n, OwnA K H (as.eraseIdx n) (vs.eraseIdx n) []
  | [], [], _, _ => .nil
  | _ :: _, _ :: _, h, 0 => h.nil2.2
  | _ :: _, _ :: _, h, n + 1 => .cons0 h.nil2.1 (OwnA.er h.nil2.2 n)
  | [], _ :: _, h, _ => nomatch h
  | _ :: _, [], h, _ => nomatch h
theorem md_app : MtD K rAppend mApp := by
  intro l vs F ds as ws G ds' d H Q hl t n oa li hf hp q
  unfold mApp at hf
  split at hf
  · rename_i ds y
    split at hf
    · rename_i hz
      cases hf
      obtain ⟨v, rfl, o⟩ := owna1 oa
      obtain ⟨F', t', sub⟩ := OwnA.snoc o t fun a ha hb => li a hb (List.mem_cons_of_mem _ ha)
      refine ⟨l, _, v, rfl, rfl, hl, ?_, q _ F' .non t' sub .non⟩
      rw [t.len]
      exact Nat.lt_of_lt_of_le hz big_le
    · cases hf
  · cases hf
theorem md_popAt : MtD K rPopAt mPopAt := by
  intro l vs F ds as ws G ds' d H Q hl t n oa li hf hp q
  unfold mPopAt at hf
  split at hf
  · rename_i ds i
    split at hf
    · rename_i hz
      split at hf
      · cases hf
      · rename_i j hj
        split at hf
        · cases hf
        · rename_i y hy
          cases hf
          obtain ⟨v, rfl, o⟩ := owna1 oa
          cases o
          have e1 := t.pur hz.1
          subst e1
          obtain ⟨v, G', hv, o', sb⟩ := t.get j _ hy
          have e2 := o'.pur hp
          subst e2
          obtain ⟨h1, h2, h3, h4⟩ := L2.ixN_seq hj
          refine ⟨l, vs, i, j, v, rfl, rfl, hl, by omega, by omega, by rw [t.len]; exact h1, hv, q _ [] v (t.er j) (fun _ z => nomatch z) o'⟩
    · cases hf
  · cases hf
end
end Sim
namespace Sim
open PySem PySem.Spec L2
def truD : D → Option Bool
  | .none => some false
  | .bool b => some b
  | .int i => some (i != 0)
  | .str z => if z.length ≤ 1000000 then some ((z.length : Int) != 0) else none
  | .list ds => some (!ds.isEmpty)
  | .tuple ds => some (!ds.isEmpty)
  | .dict [(.none, .list ds)] => some (!ds.isEmpty)
  | .dict _ => none
def tstA (g : O) : T := fun s => (g s).bind fun r s1 => match rd r s1 with
  | some d => (match truD d with
    | some b => .ok b s1
    | none => .bad)
  | none => .bad
theorem OwnA.emp {K : PySem.W.Frag} {H : Hp} {ds : List D} {vs : List V} {F : List Addr} (t : OwnA K H ds vs F) : ds.isEmpty = vs.isEmpty := by
  cases t <;> rfl
section
variable [Tb] [Vs] {X : Cx} {K : PySem.W.Frag} {H : Hp} {σ : St} {Q : VK} {a : Expr} {ga : O}
theorem tT_tstA {g : O} {Q : Bool → Hp → Prop} (h : tT K (tstA g) σ H Q) : tO K g σ H fun x H1 => ∃ k, TruV K x H1 k ∧ Q k H1 := by
  obtain ⟨s, Fs, b, s', R, e, q⟩ := h
  obtain ⟨r, s1, e1, e⟩ := bind_inv e
  refine ⟨s, Fs, r, s1, R, e1, fun v H1 Fs1 F R1 E1 k1 n1 => ?_⟩
  split at e
  · rename_i d hb
    split at e
    · rename_i b' ht
      cases e
      obtain ⟨F', o⟩ := k1.dp R1 hb
      refine ⟨b, ?_, q H1 Fs1 R1 E1⟩
      cases o with
      | frd _ => simp [truD] at ht
      | dct _ _ _ => simp [truD] at ht
      | dcn _ _ _ => simp [truD] at ht
      | frk _ _ => simp [truD] at ht
      | frn _ _ _ => simp [truD] at ht
      | ins _ _ _ _ => simp [truD] at ht
      | opq _ => simp [truD] at ht
      | non => cases ht; rfl
      | bl b => cases ht; rfl
      | int i => cases ht; rfl
      | str z =>
        simp only [truD] at ht
        split at ht
        · rename_i hz
          cases ht
          exact ⟨Nat.le_trans hz big_le, rfl⟩
        · cases ht
      | tup h t =>
        cases ht
        exact .inr (.inl ⟨_, h.sq, by rw [t.emp]⟩)
      | frz h t =>
        cases ht
        exact .inl ⟨_, h.sq, by rw [t.emp]⟩
      | lst h t n =>
        cases ht
        exact .inl ⟨_, SqL.of h, by rw [t.emp]⟩
    · cases e
  · cases e
theorem st_any (ha : SimO X a ga) (he : ∀ whole, isTrue a X.env whole = (do let v ← whole; standAt a.pos; holding [v] (truthy v)) := by intro _; rfl) : SimT X a (tstA ga) :=
  pt_imp (pt_truth ha he) fun _ _ _ h => tT_tstA h
end
section
variable [Tb] [Vs] {X : Cx} {lk : Nat → Bool}
theorem ss_nevers {sts : List Stmt} : SimSs X lk sts sNever := pss_imp pss_never fun D σ H ⟨s, Fs, fl, s', R, e, q⟩ => by cases e
end
/-- more slots held -/
def lkp (is : List Nat) (lk : Nat → Bool) : Nat → Bool := fun j => is.contains j || lk j
theorem lkp_sub {is : List Nat} {lk : Nat → Bool} : ∀ i, lk i = true → lkp is lk i = true := fun i h => by unfold lkp; rw [h, Bool.or_true]
theorem units65 {k : Nat} {A : Around} (r : Room k A) : A.units + 65 < cLine := by have := r.un; omega
theorem spF_law {f : Fn} (hf : ∀ ns : List Int, ns.length ≤ 63 → ∃ as, f [.dict [(.none, .list (ns.map .int))]] = .ok (.bool true) as) (K : PySem.W.Frag) (H : Hp) (a : Addr) (ns : List Int) (h1 : ns.length ≤ 63) (h2 : Only H) (h3 : SqL K H a (ns.map V.int)) :
    spF K 1 f [.ref a] H (fun v _ => v = .bl true) fun _ _ _ => False := by
  obtain ⟨as, e⟩ := hf ns h1
  have hq : SqF K H a (ns.map V.int) := by
    rcases h3 with (h | ⟨o, h⟩) | h
    · rcases h2 a with z | ⟨o, xs, z⟩ <;> rw [h] at z <;> cases z
    · exact .inl ⟨o, h⟩
    · exact .inr h
  have ho : ∀ ns : List Int, OwnA K H (ns.map .int) (ns.map V.int) [] := fun ns => by
    induction ns with
    | nil => exact .nil
    | cons n ns ih => exact OwnA.cons0 (.int n) ih
  refine ⟨_, [[]], _, as, e, rfl, (fun _ h => nomatch h), .cons (.frz hq (ho ns)) (by simp) .nil, fun v H' Fl' F h c n o _ _ => ?_⟩
  cases o
  rfl
end Sim
namespace Sim
open PySem PySem.Spec L2
@[simp] theorem ev_ok {α β : Type} (a : α) (s : Sg) (k : α → Sg → Res β) : (Res.ok a s).bind k = k a s := rfl
@[simp] theorem ev_exc {α β : Type} (c : Str) (v : D) (s : Sg) (k : α → Sg → Res β) : (Res.exc c v s).bind k = .exc c v s := rfl
@[simp] theorem ev_bad {α β : Type} (k : α → Sg → Res β) : (Res.bad : Res α).bind k = .bad := rfl
@[simp] theorem rd_val (d : D) (s : Sg) : rd (.val d) s = some d := rfl
@[simp] theorem rd_slot (i : Nat) (s : Sg) : rd (.slot i) s = (s[i]?).join := rfl
def rdsK (a : Option D) (b : Option (List D)) : Option (List D) := match a with
  | none => none
  | some d => match b with
    | none => none
    | some ds => some (d :: ds)
@[simp] theorem rds_nil (s : Sg) : rds [] s = some [] := rfl
@[simp] theorem rds_cons (r : Rf) (rs : List Rf) (s : Sg) : rds (r :: rs) s = rdsK (rd r s) (rds rs s) := rfl
@[simp] theorem rdsK_some (d : D) (ds : List D) : rdsK (some d) (some ds) = some (d :: ds) := rfl
def ownK : Option D → Option D
  | none => none
  | some d => if pur d = true then some d else none
@[simp] theorem own_val (d : D) (s : Sg) : own (.val d) s = some d := rfl
@[simp] theorem own_slot (i : Nat) (s : Sg) : own (.slot i) s = ownK (s[i]?).join := rfl
@[simp] theorem ownK_some (d : D) : ownK (some d) = if pur d = true then some d else none := rfl
@[simp] theorem owns_nil (s : Sg) : owns [] s = some [] := rfl
@[simp] theorem owns_cons (r : Rf) (rs : List Rf) (s : Sg) : owns (r :: rs) s = rdsK (own r s) (owns rs s) := rfl
@[simp] theorem pur_non : pur .none = true := by rfl
@[simp] theorem pur_bool (b : Bool) : pur (.bool b) = true := by rfl
@[simp] theorem pur_int (b : Int) : pur (.int b) = true := by rfl
@[simp] theorem pur_str (b : Str) : pur (.str b) = true := by rfl
@[simp] theorem pur_tuple (b : List D) : pur (.tuple b) = purs b := by simp [pur]
@[simp] theorem pur_list (b : List D) : pur (.list b) = false := by simp [pur]
@[simp] theorem pur_frz (b : List D) : pur (.dict [(.none, .list b)]) = true := by simp [pur, frzT]
@[simp] theorem purs_nil : purs [] = true := by rfl
@[simp] theorem purs_cons (d : D) (b : List D) : purs (d :: b) = (pur d && purs b) := by simp [purs]
@[simp] theorem purs_ints (l : List Int) : purs (l.map .int) = true := by induction l <;> simp_all
@[simp] theorem purs_map {α : Type} (f : α → Int) (l : List α) : purs (l.map fun a => .int (f a)) = true := by induction l <;> simp_all
@[simp] theorem purs_mapB {α : Type} (f : α → Bool) (l : List α) : purs (l.map fun a => .bool (f a)) = true := by induction l <;> simp_all
@[simp] theorem purs_append (a b : List D) : purs (a ++ b) = (purs a && purs b) := purs_app
def oVK (i : Nat) (s : Sg) : Option D → Res Rf
  | some _ => .ok (.slot i) s
  | none => .bad
@[simp] theorem ev_oV (i : Nat) (s : Sg) : oV i s = oVK i s (s[i]?).join := by
  unfold oV oVK; rfl
@[simp] theorem ev_oVK (i : Nat) (s : Sg) (d : D) : oVK i s (some d) = .ok (.slot i) s := rfl
@[simp] theorem ev_oC (d : D) (s : Sg) : oC d s = .ok (.val d) s := rfl
@[simp] theorem ev_aNil (s : Sg) : aNil s = .ok [] s := rfl
def consK2 (r : Rf) (rs : List Rf) (s : Sg) : Res (List Rf) := .ok (r :: rs) s
def consK (h : AL) (r : Rf) (s : Sg) : Res (List Rf) := (h s).bind (consK2 r)
@[simp] theorem ev_aCons (g : O) (h : AL) (s : Sg) : aCons g h s = (g s).bind (consK h) := rfl
@[simp] theorem ev_consK (h : AL) (r : Rf) (s : Sg) : consK h r s = (h s).bind (consK2 r) := rfl
@[simp] theorem ev_consK2 (r : Rf) (rs : List Rf) (s : Sg) : consK2 r rs s = .ok (r :: rs) s := rfl
def primK3 (s : Sg) : Option D → Res Rf
  | none => .bad
  | some d => .ok (.val d) s
def primK2 (f : List D → Option D) (s : Sg) : Option (List D) → Res Rf
  | none => .bad
  | some ds => primK3 s (f ds)
def primK (f : List D → Option D) (rs : List Rf) (s : Sg) : Res Rf := primK2 f s (rds rs s)
@[simp] theorem ev_prim (f : List D → Option D) (g : AL) (s : Sg) : oPrim f g s = (g s).bind (primK f) := by
  unfold oPrim; refine congrArg (Res.bind _) ?_; funext rs s1; unfold primK primK2; cases rds rs s1 <;> rfl
@[simp] theorem ev_primK (f : List D → Option D) (rs : List Rf) (s : Sg) : primK f rs s = primK2 f s (rds rs s) := rfl
@[simp] theorem ev_primK2 (f : List D → Option D) (ds : List D) (s : Sg) : primK2 f s (some ds) = primK3 s (f ds) := rfl
@[simp] theorem ev_primK3 (d : D) (s : Sg) : primK3 s (some d) = .ok (.val d) s := rfl
@[simp] theorem ev_o1 (f : List D → Option D) (a : O) (s : Sg) : o1 f a s = ((a s).bind (consK aNil)).bind (primK f) := by unfold o1; rw [ev_prim]; rfl
@[simp] theorem ev_o2 (f : List D → Option D) (a b : O) (s : Sg) : o2 f a b s = ((a s).bind (consK (aCons b aNil))).bind (primK f) := by unfold o2; rw [ev_prim]; rfl
def tstK2 (s : Sg) : Option D → Res Bool
  | some (.bool b) => .ok b s
  | _ => .bad
def tstK (r : Rf) (s : Sg) : Res Bool := tstK2 s (rd r s)
@[simp] theorem ev_tst (g : O) (s : Sg) : tst g s = (g s).bind tstK := rfl
@[simp] theorem ev_tstK (r : Rf) (s : Sg) : tstK r s = tstK2 s (rd r s) := rfl
@[simp] theorem ev_tstK2 (s : Sg) (b : Bool) : tstK2 s (some (.bool b)) = .ok b s := rfl
def tstAK3 (s : Sg) : Option Bool → Res Bool
  | some b => .ok b s
  | none => .bad
def tstAK2 (s : Sg) : Option D → Res Bool
  | some d => tstAK3 s (truD d)
  | none => .bad
def tstAK (r : Rf) (s : Sg) : Res Bool := tstAK2 s (rd r s)
@[simp] theorem ev_tstA (g : O) (s : Sg) : tstA g s = (g s).bind tstAK := by
  unfold tstA; refine congrArg (Res.bind _) ?_; funext r s1; unfold tstAK tstAK2; cases rd r s1 with
  | none => rfl
  | some d => cases h : truD d <;> simp [h, tstAK3]
@[simp] theorem ev_tstAK (r : Rf) (s : Sg) : tstAK r s = tstAK2 s (rd r s) := rfl
@[simp] theorem ev_tstAK2 (s : Sg) (d : D) : tstAK2 s (some d) = tstAK3 s (truD d) := rfl
@[simp] theorem ev_tstAK3 (s : Sg) (b : Bool) : tstAK3 s (some b) = .ok b s := rfl
@[simp] theorem tru_bool (b : Bool) : truD (.bool b) = some b := rfl
@[simp] theorem tru_int (b : Int) : truD (.int b) = some (b != 0) := rfl
@[simp] theorem tru_list (b : List D) : truD (.list b) = some (!b.isEmpty) := rfl
@[simp] theorem tru_tuple (b : List D) : truD (.tuple b) = some (!b.isEmpty) := rfl
def andK2 (h : O) (s : Sg) : Option D → Res Rf
  | some (.bool true) => h s
  | some (.bool false) => .ok (.val (.bool false)) s
  | _ => .bad
def andK (h : O) (r : Rf) (s : Sg) : Res Rf := andK2 h s (rd r s)
@[simp] theorem ev_oAnd (g h : O) (s : Sg) : oAnd g h s = (g s).bind (andK h) := rfl
@[simp] theorem ev_andK (h : O) (r : Rf) (s : Sg) : andK h r s = andK2 h s (rd r s) := rfl
@[simp] theorem ev_andK2 (h : O) (s : Sg) (b : Bool) : andK2 h s (some (.bool b)) = if b = true then h s else .ok (.val (.bool false)) s := by cases b <;> rfl
def orK2 (h : O) (s : Sg) : Option D → Res Rf
  | some (.bool true) => .ok (.val (.bool true)) s
  | some (.bool false) => h s
  | _ => .bad
def orK (h : O) (r : Rf) (s : Sg) : Res Rf := orK2 h s (rd r s)
@[simp] theorem ev_oOr (g h : O) (s : Sg) : oOr g h s = (g s).bind (orK h) := rfl
@[simp] theorem ev_orK (h : O) (r : Rf) (s : Sg) : orK h r s = orK2 h s (rd r s) := rfl
@[simp] theorem ev_orK2 (h : O) (s : Sg) (b : Bool) : orK2 h s (some (.bool b)) = if b = true then .ok (.val (.bool true)) s else h s := by cases b <;> rfl
def notK2 (s : Sg) : Option D → Res Rf
  | some (.bool b) => .ok (.val (.bool (!b))) s
  | _ => .bad
def notK (r : Rf) (s : Sg) : Res Rf := notK2 s (rd r s)
@[simp] theorem ev_oNot (g : O) (s : Sg) : oNot g s = (g s).bind notK := rfl
@[simp] theorem ev_notK (r : Rf) (s : Sg) : notK r s = notK2 s (rd r s) := rfl
@[simp] theorem ev_notK2 (s : Sg) (b : Bool) : notK2 s (some (.bool b)) = .ok (.val (.bool (!b))) s := rfl
def tAndK (u : T) (b : Bool) (s : Sg) : Res Bool := if b = true then u s else .ok false s
@[simp] theorem ev_tAnd (t u : T) (s : Sg) : tAnd t u s = (t s).bind (tAndK u) := rfl
@[simp] theorem ev_tAndK (u : T) (b : Bool) (s : Sg) : tAndK u b s = if b = true then u s else .ok false s := rfl
def tOrK (u : T) (b : Bool) (s : Sg) : Res Bool := if b = true then .ok true s else u s
@[simp] theorem ev_tOr (t u : T) (s : Sg) : tOr t u s = (t s).bind (tOrK u) := rfl
@[simp] theorem ev_tOrK (u : T) (b : Bool) (s : Sg) : tOrK u b s = if b = true then .ok true s else u s := rfl
def tNotK (b : Bool) (s : Sg) : Res Bool := .ok (!b) s
@[simp] theorem ev_tNot (t : T) (s : Sg) : tNot t s = (t s).bind tNotK := rfl
@[simp] theorem ev_tNotK (b : Bool) (s : Sg) : tNotK b s = .ok (!b) s := rfl
def oIfK (a b : O) (k : Bool) (s : Sg) : Res Rf := if k = true then a s else b s
@[simp] theorem ev_oIf (c : T) (a b : O) (s : Sg) : oIf c a b s = (c s).bind (oIfK a b) := rfl
@[simp] theorem ev_oIfK (a b : O) (k : Bool) (s : Sg) : oIfK a b k s = if k = true then a s else b s := rfl
def chK4 (s : Sg) : Option D → Res Rf
  | none => .bad
  | some d => .ok (.val d) s
def chK3 (f' : List D → Option D) (s : Sg) : Option (List D) → Res Rf
  | none => .bad
  | some es => chK4 s (f' es)
def chK2c (f' : List D → Option D) (rb rc : Rf) (s : Sg) : Res Rf := chK3 f' s (rds [rb, rc] s)
def chK2b (f' : List D → Option D) (c : O) (rb : Rf) (s : Sg) : Option D → Res Rf
  | some (.bool true) => (c s).bind (chK2c f' rb)
  | some (.bool false) => .ok (.val (.bool false)) s
  | _ => .bad
def chK2a (f f' : List D → Option D) (c : O) (rb : Rf) (s : Sg) : Option (List D) → Res Rf
  | none => .bad
  | some ds => chK2b f' c rb s (f ds)
def chK1 (f f' : List D → Option D) (c : O) (ra rb : Rf) (s : Sg) : Res Rf := chK2a f f' c rb s (rds [ra, rb] s)
def chK0 (f f' : List D → Option D) (b c : O) (ra : Rf) (s : Sg) : Res Rf := (b s).bind (chK1 f f' c ra)
@[simp] theorem ev_chain (f f' : List D → Option D) (a b c : O) (s : Sg) : oChain f f' a b c s = (a s).bind (chK0 f f' b c) := by
  unfold oChain; refine congrArg (Res.bind _) ?_; funext ra s1; unfold chK0; refine congrArg (Res.bind _) ?_; funext rb s2; unfold chK1 chK2a
  cases rds [ra, rb] s2 with
  | none => rfl
  | some ds =>
    show _ = chK2b f' c rb s2 (f ds)
    unfold chK2b
    cases hf : f ds with
    | none => simp [hf]
    | some d => cases d with
      | bool b => cases b with
        | false => simp [hf]
        | true =>
          simp only [hf]
          refine congrArg (Res.bind _) ?_; funext rc s3; unfold chK2c chK3
          cases rds [rb, rc] s3 with
          | none => rfl
          | some es => cases hg : f' es <;> simp [hg, chK4]
      | _ => simp [hf]
@[simp] theorem ev_chK0 (f f' : List D → Option D) (b c : O) (ra : Rf) (s : Sg) : chK0 f f' b c ra s = (b s).bind (chK1 f f' c ra) := rfl
@[simp] theorem ev_chK1 (f f' : List D → Option D) (c : O) (ra rb : Rf) (s : Sg) : chK1 f f' c ra rb s = chK2a f f' c rb s (rds [ra, rb] s) := rfl
@[simp] theorem ev_chK2a (f f' : List D → Option D) (c : O) (rb : Rf) (s : Sg) (ds : List D) : chK2a f f' c rb s (some ds) = chK2b f' c rb s (f ds) := rfl
@[simp] theorem ev_chK2b (f' : List D → Option D) (c : O) (rb : Rf) (s : Sg) (b : Bool) : chK2b f' c rb s (some (.bool b)) = if b = true then (c s).bind (chK2c f' rb) else .ok (.val (.bool false)) s := by cases b <;> rfl
@[simp] theorem ev_chK2c (f' : List D → Option D) (rb rc : Rf) (s : Sg) : chK2c f' rb rc s = chK3 f' s (rds [rb, rc] s) := rfl
@[simp] theorem ev_chK3 (f' : List D → Option D) (s : Sg) (ds : List D) : chK3 f' s (some ds) = chK4 s (f' ds) := rfl
@[simp] theorem ev_chK4 (s : Sg) (d : D) : chK4 s (some d) = .ok (.val d) s := rfl
def tupK2 (s : Sg) : Option (List D) → Res Rf
  | none => .bad
  | some ds => if ds.length ≤ 1000000 then .ok (.val (.tuple ds)) s else .bad
def tupK (rs : List Rf) (s : Sg) : Res Rf := tupK2 s (owns rs s)
@[simp] theorem ev_oTup (g : AL) (s : Sg) : oTup g s = (g s).bind tupK := rfl
@[simp] theorem ev_tupK (rs : List Rf) (s : Sg) : tupK rs s = tupK2 s (owns rs s) := rfl
@[simp] theorem ev_tupK2 (s : Sg) (ds : List D) : tupK2 s (some ds) = if ds.length ≤ 1000000 then .ok (.val (.tuple ds)) s else .bad := rfl
def lstK2 (s : Sg) : Option (List D) → Res Rf
  | none => .bad
  | some ds => if ds.length ≤ 1000000 then .ok (.val (.list ds)) s else .bad
def lstK (rs : List Rf) (s : Sg) : Res Rf := lstK2 s (owns rs s)
@[simp] theorem ev_oLst (g : AL) (s : Sg) : oLst g s = (g s).bind lstK := rfl
@[simp] theorem ev_lstK (rs : List Rf) (s : Sg) : lstK rs s = lstK2 s (owns rs s) := rfl
@[simp] theorem ev_lstK2 (s : Sg) (ds : List D) : lstK2 s (some ds) = if ds.length ≤ 1000000 then .ok (.val (.list ds)) s else .bad := rfl
def prtK2 (s : Sg) : Option D → Res (Option Int)
  | some (.int i) => .ok (some i) s
  | _ => .bad
def prtK (r : Rf) (s : Sg) : Res (Option Int) := prtK2 s (rd r s)
@[simp] theorem ev_prt_none (s : Sg) : prt none s = .ok none s := rfl
@[simp] theorem ev_prt_some (g : O) (s : Sg) : prt (some g) s = (g s).bind prtK := rfl
@[simp] theorem ev_prtK (r : Rf) (s : Sg) : prtK r s = prtK2 s (rd r s) := rfl
@[simp] theorem ev_prtK2 (s : Sg) (i : Int) : prtK2 s (some (.int i)) = .ok (some i) s := rfl
def slK5 (s : Sg) : Option D → Res Rf
  | none => .bad
  | some d => .ok (.val d) s
def slK4 (l u : Option Int) (s : Sg) : Option D → Res Rf
  | none => .bad
  | some d => slK5 s (slD d l u)
def slK3 (r : Rf) (l u : Option Int) (s : Sg) : Res Rf := slK4 l u s (rd r s)
def slK2 (hi : Option O) (r : Rf) (l : Option Int) (s : Sg) : Res Rf := (prt hi s).bind (slK3 r l)
def slK1 (lo hi : Option O) (r : Rf) (s : Sg) : Res Rf := (prt lo s).bind (slK2 hi r)
@[simp] theorem ev_oSl (g : O) (lo hi : Option O) (s : Sg) : oSl g lo hi s = (g s).bind (slK1 lo hi) := by
  unfold oSl; refine congrArg (Res.bind _) ?_; funext r s1; unfold slK1; refine congrArg (Res.bind _) ?_; funext l s2; unfold slK2; refine congrArg (Res.bind _) ?_; funext u s3; unfold slK3 slK4
  cases rd r s3 with
  | none => rfl
  | some d => cases h : slD d l u <;> simp [h, slK5]
@[simp] theorem ev_slK1 (lo hi : Option O) (r : Rf) (s : Sg) : slK1 lo hi r s = (prt lo s).bind (slK2 hi r) := rfl
@[simp] theorem ev_slK2 (hi : Option O) (r : Rf) (l : Option Int) (s : Sg) : slK2 hi r l s = (prt hi s).bind (slK3 r l) := rfl
@[simp] theorem ev_slK3 (r : Rf) (l u : Option Int) (s : Sg) : slK3 r l u s = slK4 l u s (rd r s) := rfl
@[simp] theorem ev_slK4 (d : D) (l u : Option Int) (s : Sg) : slK4 l u s (some d) = slK5 s (slD d l u) := rfl
@[simp] theorem ev_slK5 (d : D) (s : Sg) : slK5 s (some d) = .ok (.val d) s := rfl
def callK3 (rs : List Rf) (ds : List D) (s : Sg) : FRes → Res Rf
  | .ok r as => .ok (.val r) (unlockS (lkz rs ds as) (lockS (lks rs ds) s))
  | .exc c v => .exc c v s
  | .bad => .bad
def callK2 (f : Fn) (rs : List Rf) (s : Sg) : Option (List D) → Res Rf
  | none => .bad
  | some ds => if nodupB ((lks rs ds).map (·.1)) = true then callK3 rs ds s (f ds) else .bad
def callK (f : Fn) (rs : List Rf) (s : Sg) : Res Rf := callK2 f rs s (rds rs s)
@[simp] theorem ev_oCall (f : Fn) (g : AL) (s : Sg) : oCall f g s = (g s).bind (callK f) := by
  unfold oCall; refine congrArg (Res.bind _) ?_; funext rs s1; unfold callK callK2
  cases rds rs s1 with
  | none => rfl
  | some ds =>
    simp only
    split
    · cases h : f ds <;> simp [h, callK3]
    · rfl
@[simp] theorem ev_callK (f : Fn) (rs : List Rf) (s : Sg) : callK f rs s = callK2 f rs s (rds rs s) := rfl
@[simp] theorem ev_callK2 (f : Fn) (rs : List Rf) (s : Sg) (ds : List D) : callK2 f rs s (some ds) = if nodupB ((lks rs ds).map (·.1)) = true then callK3 rs ds s (f ds) else .bad := rfl
@[simp] theorem ev_callK3 (rs : List Rf) (ds : List D) (s : Sg) (r : D) (as : List D) : callK3 rs ds s (.ok r as) = .ok (.val r) (unlockS (lkz rs ds as) (lockS (lks rs ds) s)) := rfl
@[simp] theorem lks_nil : lks [] [] = [] := rfl
@[simp] theorem lks_slot (i : Nat) (rs : List Rf) (d : D) (ds : List D) : lks (.slot i :: rs) (d :: ds) = if pur d = true then lks rs ds else (i, d) :: lks rs ds := rfl
@[simp] theorem lks_val (x : D) (rs : List Rf) (d : D) (ds : List D) : lks (.val x :: rs) (d :: ds) = lks rs ds := rfl
@[simp] theorem lkz_nil : lkz [] [] [] = [] := rfl
@[simp] theorem lkz_slot (i : Nat) (rs : List Rf) (d : D) (ds : List D) (a : D) (as : List D) : lkz (.slot i :: rs) (d :: ds) (a :: as) = if pur d = true then lkz rs ds as else (i, a) :: lkz rs ds as := rfl
@[simp] theorem lkz_val (x : D) (rs : List Rf) (d : D) (ds : List D) (a : D) (as : List D) : lkz (.val x :: rs) (d :: ds) (a :: as) = lkz rs ds as := rfl
@[simp] theorem lockS_nil (s : Sg) : lockS [] s = s := rfl
@[simp] theorem lockS_cons (p : Nat × D) (l : List (Nat × D)) (s : Sg) : lockS (p :: l) s = lockS l (s.set p.1 none) := rfl
@[simp] theorem unlockS_nil (s : Sg) : unlockS [] s = s := rfl
@[simp] theorem unlockS_cons (p : Nat × D) (l : List (Nat × D)) (s : Sg) : unlockS (p :: l) s = unlockS l (s.set p.1 (some p.2)) := rfl
@[simp] theorem nodupB_nil : nodupB [] = true := rfl
@[simp] theorem ev_nodupB (x : Nat) (l : List Nat) : nodupB (x :: l) = (!l.contains x && nodupB l) := rfl
@[simp] theorem clrS_nil (s : Sg) : clrS [] s = s := rfl
@[simp] theorem clrS_cons (v : Nat) (vs : List Nat) (s : Sg) : clrS (v :: vs) s = (clrS vs s).set v none := rfl
def ownSlK (v : Nat) (l : List (Nat × D)) : Option D → List (Nat × D)
  | some d => (v, d) :: l
  | none => l
@[simp] theorem ownSl_nil (s : Sg) : ownSl [] s = [] := rfl
@[simp] theorem ownSl_cons (v : Nat) (vs : List Nat) (s : Sg) : ownSl (v :: vs) s = ownSlK v (ownSl vs s) (s[v]?).join := by
  unfold ownSlK; rw [ownSl] <;> try (cases (s[v]?).join <;> rfl)
@[simp] theorem ownSlK_some (v : Nat) (l : List (Nat × D)) (d : D) : ownSlK v l (some d) = (v, d) :: l := rfl
@[simp] theorem ownSlK_none (v : Nat) (l : List (Nat × D)) : ownSlK v l none = l := rfl
def mtK4 (i : Nat) (s : Sg) : Option (List D × D) → Res Rf
  | some (ds', d) => if pur d = true then .ok (.val d) (s.set i (some (.list ds'))) else .bad
  | none => .bad
def mtK3 (f : List D → List D → Option (List D × D)) (i : Nat) (s : Sg) : Option D → Option (List D) → Res Rf
  | some (.list ds), some as => mtK4 i s (f ds as)
  | _, _ => .bad
def mtK2 (f : List D → List D → Option (List D × D)) (i : Nat) (rs : List Rf) (s : Sg) : Res Rf := mtK3 f i s (s[i]?).join (owns rs s)
def mtK1 (f : List D → List D → Option (List D × D)) (i : Nat) (g : AL) (s : Sg) : Option D → Res Rf
  | some (.list _) => (g s).bind (mtK2 f i)
  | _ => .bad
def mtK (f : List D → List D → Option (List D × D)) (i : Nat) (g : AL) (_ : Rf) (s : Sg) : Res Rf := mtK1 f i g s (s[i]?).join
@[simp] theorem ev_oMt (f : List D → List D → Option (List D × D)) (i : Nat) (g : AL) (s : Sg) : oMt f i g s = (oV i s).bind (mtK f i g) := by
  unfold oMt; refine congrArg (Res.bind _) ?_; funext r s1; unfold mtK
  cases h : (s1[i]?).join with
  | none => rfl
  | some d => cases d with
    | list ds =>
      refine congrArg (Res.bind (g s1)) ?_
      funext rs s2; unfold mtK2
      cases h1 : (s2[i]?).join with
      | none => rfl
      | some d2 => cases d2 with
        | list ds2 => cases h2 : owns rs s2 with
          | none => rfl
          | some as => cases hf : f ds2 as <;> simp [hf, mtK3, mtK4]
        | _ => rfl
    | _ => rfl
@[simp] theorem ev_mtK (f : List D → List D → Option (List D × D)) (i : Nat) (g : AL) (r : Rf) (s : Sg) : mtK f i g r s = mtK1 f i g s (s[i]?).join := rfl
@[simp] theorem ev_mtK1 (f : List D → List D → Option (List D × D)) (i : Nat) (g : AL) (ds : List D) (s : Sg) : mtK1 f i g s (some (.list ds)) = (g s).bind (mtK2 f i) := rfl
@[simp] theorem ev_mtK2 (f : List D → List D → Option (List D × D)) (i : Nat) (rs : List Rf) (s : Sg) : mtK2 f i rs s = mtK3 f i s (s[i]?).join (owns rs s) := rfl
@[simp] theorem ev_mtK3 (f : List D → List D → Option (List D × D)) (i : Nat) (s : Sg) (ds as : List D) : mtK3 f i s (some (.list ds)) (some as) = mtK4 i s (f ds as) := rfl
@[simp] theorem ev_mtK4 (i : Nat) (s : Sg) (ds : List D) (d : D) : mtK4 i s (some (ds, d)) = if pur d = true then .ok (.val d) (s.set i (some (.list ds))) else .bad := rfl
@[simp] theorem ev_sSkip (s : Sg) : sSkip s = .ok .nx s := rfl
@[simp] theorem ev_sBreak (s : Sg) : sBreak s = .ok .bk s := rfl
@[simp] theorem ev_sCont (s : Sg) : sCont s = .ok .ct s := rfl
@[simp] theorem ev_sRetN (s : Sg) : sRetN s = .ok (.rt .none) s := rfl
def seqK (h : S) (fl : Fl) (s : Sg) : Res Fl := match fl with
  | .nx => h s
  | fl => .ok fl s
@[simp] theorem ev_sSeq (g h : S) (s : Sg) : sSeq g h s = (g s).bind (seqK h) := rfl
@[simp] theorem ev_seqK_nx (h : S) (s : Sg) : seqK h .nx s = h s := rfl
@[simp] theorem ev_seqK_rt (h : S) (d : D) (s : Sg) : seqK h (.rt d) s = .ok (.rt d) s := rfl
@[simp] theorem ev_seqK_bk (h : S) (s : Sg) : seqK h .bk s = .ok .bk s := rfl
@[simp] theorem ev_seqK_ct (h : S) (s : Sg) : seqK h .ct s = .ok .ct s := rfl
def exprK (_ : Rf) (s : Sg) : Res Fl := .ok .nx s
@[simp] theorem ev_sExpr (g : O) (s : Sg) : sExpr g s = (g s).bind exprK := rfl
@[simp] theorem ev_exprK (r : Rf) (s : Sg) : exprK r s = .ok .nx s := rfl
def retK2 (lk : Nat → Bool) (i : Nat) (s : Sg) : Option D → Res Fl
  | none => .bad
  | some d => if pur d = true ∨ lk i = false then .ok (.rt d) s else .bad
def retK (lk : Nat → Bool) (r : Rf) (s : Sg) : Res Fl := match r with
  | .val d => .ok (.rt d) s
  | .slot i => retK2 lk i s (s[i]?).join
@[simp] theorem ev_sRet (lk : Nat → Bool) (g : O) (s : Sg) : sRet lk g s = (g s).bind (retK lk) := by
  unfold sRet; refine congrArg (Res.bind _) ?_; funext r s1; cases r <;> rfl
@[simp] theorem ev_retK_val (lk : Nat → Bool) (d : D) (s : Sg) : retK lk (.val d) s = .ok (.rt d) s := rfl
@[simp] theorem ev_retK_slot (lk : Nat → Bool) (i : Nat) (s : Sg) : retK lk (.slot i) s = retK2 lk i s (s[i]?).join := rfl
@[simp] theorem ev_retK2 (lk : Nat → Bool) (i : Nat) (s : Sg) (d : D) : retK2 lk i s (some d) = if pur d = true ∨ lk i = false then .ok (.rt d) s else .bad := rfl
def ifK (g h : S) (b : Bool) (s : Sg) : Res Fl := if b = true then g s else h s
@[simp] theorem ev_sIf (t : T) (g h : S) (s : Sg) : sIf t g h s = (t s).bind (ifK g h) := rfl
@[simp] theorem ev_ifK (g h : S) (b : Bool) (s : Sg) : ifK g h b s = if b = true then g s else h s := rfl
def asgK3 : Option Sg → Res Fl
  | none => .bad
  | some s => .ok .nx s
def asgK2 (t : Tg) (s : Sg) : Option D → Res Fl
  | none => .bad
  | some d => asgK3 (asg t d s)
def asgK (t : Tg) (r : Rf) (s : Sg) : Res Fl := asgK2 t s (own r s)
@[simp] theorem ev_sAsg (t : Tg) (g : O) (s : Sg) : sAsg t g s = (g s).bind (asgK t) := by
  unfold sAsg; refine congrArg (Res.bind _) ?_; funext r s1; unfold asgK asgK2
  cases own r s1 with
  | none => rfl
  | some d => cases h : asg t d s1 <;> simp [h, asgK3]
@[simp] theorem ev_sSet (i : Nat) (g : O) (s : Sg) : sSet i g s = (g s).bind (asgK (.nm i)) := ev_sAsg _ _ _
@[simp] theorem ev_asgK (t : Tg) (r : Rf) (s : Sg) : asgK t r s = asgK2 t s (own r s) := rfl
@[simp] theorem ev_asgK2 (t : Tg) (d : D) (s : Sg) : asgK2 t s (some d) = asgK3 (asg t d s) := rfl
@[simp] theorem ev_asgK3 (s : Sg) : asgK3 (some s) = .ok .nx s := rfl
@[simp] theorem asg_nm (i : Nat) (d : D) (s : Sg) : asg (.nm i) d s = some (s.set i (some d)) := by simp [asg]
@[simp] theorem asg_tp (l : List Tg) (ds : List D) (s : Sg) : asg (.tp l) (.tuple ds) s = asgs l ds s := by simp [asg]
@[simp] theorem asgs_nil (s : Sg) : asgs [] [] s = some s := by simp [asgs]
def asgsK (l : List Tg) (ds : List D) : Option Sg → Option Sg
  | none => none
  | some s => asgs l ds s
@[simp] theorem asgs_cons (t : Tg) (l : List Tg) (d : D) (ds : List D) (s : Sg) : asgs (t :: l) (d :: ds) s = asgsK l ds (asg t d s) := by
  rw [asgs]; unfold asgsK; cases asg t d s <;> rfl
@[simp] theorem asgsK_some (l : List Tg) (ds : List D) (s : Sg) : asgsK l ds (some s) = asgs l ds s := rfl
def ixK4 (i : Nat) (d : D) (ds : List D) (s : Sg) : Option Nat → Res Fl
  | none => .bad
  | some j => .ok .nx (s.set i (some (.list (ds.set j d))))
def ixK3 (i : Nat) (s : Sg) : Option D → Option D → Option D → Res Fl
  | some d, some (.int k), some (.list ds) => if pur d = true then ixK4 i d ds s (ixN ds.length k) else .bad
  | _, _, _ => .bad
def ixK2 (i : Nat) (r : Rf) (ri : Rf) (s : Sg) : Res Fl := ixK3 i s (own r s) (rd ri s) (s[i]?).join
def ixK1 (i : Nat) (gi : O) (r : Rf) (_ : Rf) (s : Sg) : Res Fl := (gi s).bind (ixK2 i r)
def ixK (i : Nat) (gi : O) (r : Rf) (s : Sg) : Res Fl := (oV i s).bind (ixK1 i gi r)
@[simp] theorem ev_sSetIx (i : Nat) (gi g : O) (s : Sg) : sSetIx i gi g s = (g s).bind (ixK i gi) := by
  unfold sSetIx; refine congrArg (Res.bind _) ?_; funext r s1; unfold ixK; refine congrArg (Res.bind _) ?_; funext r2 s2; unfold ixK1; refine congrArg (Res.bind _) ?_; funext ri s3; unfold ixK2
  cases h1 : own r s3 with
  | none => rfl
  | some d => cases h2 : rd ri s3 with
    | none => rfl
    | some k => cases k with
      | int k => cases h3 : (s3[i]?).join with
        | none => rfl
        | some ds => cases ds with
          | list ds => cases h4 : ixN ds.length k <;> simp [h4, ixK3, ixK4]
          | _ => rfl
      | _ => rfl
@[simp] theorem ev_ixK (i : Nat) (gi : O) (r : Rf) (s : Sg) : ixK i gi r s = (oV i s).bind (ixK1 i gi r) := rfl
@[simp] theorem ev_ixK1 (i : Nat) (gi : O) (r r2 : Rf) (s : Sg) : ixK1 i gi r r2 s = (gi s).bind (ixK2 i r) := rfl
@[simp] theorem ev_ixK2 (i : Nat) (r ri : Rf) (s : Sg) : ixK2 i r ri s = ixK3 i s (own r s) (rd ri s) (s[i]?).join := rfl
@[simp] theorem ev_ixK3 (i : Nat) (s : Sg) (d : D) (k : Int) (ds : List D) : ixK3 i s (some d) (some (.int k)) (some (.list ds)) = if pur d = true then ixK4 i d ds s (ixN ds.length k) else .bad := rfl
@[simp] theorem ev_ixK4 (i : Nat) (s : Sg) (d : D) (j : Nat) (ds : List D) : ixK4 i d ds s (some j) = .ok .nx (s.set i (some (.list (ds.set j d)))) := rfl
def mkK2 (fl : Fl) : Option (List D) → FRes
  | none => .bad
  | some as => match fl with
    | .nx => .ok .none as
    | .rt d => .ok d as
    | _ => .bad
def mkK (ms : List Nat) (ds : List D) : Res Fl → FRes
  | .ok fl s => mkK2 fl (coll ms ds 0 s)
  | .exc c v _ => .exc c v
  | .bad => .bad
theorem ev_mkFn (ms : List Nat) (n : Nat) (g : S) (ds : List D) : mkFn ms n g ds = if okM ms ds = true then mkK ms ds (g (ds.map some ++ List.replicate (n - ds.length) none)) else .bad := by
  unfold mkFn
  split
  · unfold mkK
    cases g (ds.map some ++ List.replicate (n - ds.length) none) with
    | ok fl s =>
      simp only
      cases h : coll ms ds 0 s with
      | none => simp [h, mkK2]
      | some as => cases fl <;> simp [h, mkK2]
    | exc c v s => rfl
    | bad => rfl
  · rfl
@[simp] theorem ev_mkK (ms : List Nat) (ds : List D) (fl : Fl) (s : Sg) : mkK ms ds (.ok fl s) = mkK2 fl (coll ms ds 0 s) := rfl
@[simp] theorem ev_mkK2_rt (d : D) (as : List D) : mkK2 (.rt d) (some as) = .ok d as := rfl
@[simp] theorem ev_mkK2_nx (as : List D) : mkK2 .nx (some as) = .ok .none as := rfl
@[simp] theorem coll_nil (j : Nat) (s : Sg) : coll [] [] j s = some [] := rfl
def collK0 (a : Option D) (b : Option (List D)) : Option (List D) := match b with
  | none => none
  | some as => match a with
    | none => none
    | some d' => some (d' :: as)
@[simp] theorem coll_0 (ms : List Nat) (d : D) (ds : List D) (j : Nat) (s : Sg) : coll (0 :: ms) (d :: ds) j s = collK0 (s[j]?).join (coll ms ds (j + 1) s) := by
  rw [coll]; unfold collK0; cases coll ms ds (j + 1) s <;> rfl
@[simp] theorem coll_1 (ms : List Nat) (d : D) (ds : List D) (j : Nat) (s : Sg) : coll (1 :: ms) (d :: ds) j s = collK0 (some d) (coll ms ds (j + 1) s) := by
  rw [coll]; unfold collK0; cases coll ms ds (j + 1) s <;> rfl
@[simp] theorem collK0_some (d : D) (as : List D) : collK0 (some d) (some as) = some (d :: as) := rfl
@[simp] theorem okM_nil : okM [] [] = true := rfl
@[simp] theorem okM_cons (m : Nat) (ms : List Nat) (d : D) (ds : List D) : okM (m :: ms) (d :: ds) = ((m == 0 || pur d) && okM ms ds) := rfl
def mkIK3 (rs : List Rf) (ds : List D) (s : Sg) : Option (List D) → Res (List D × List (Nat × D))
  | none => .bad
  | some es => if purs es = true ∧ nodupB ((lks rs ds).map (·.1)) = true then .ok (es, lks rs ds) (lockS (lks rs ds) s) else .bad
def mkIK2 (itm : List D → Option (List D)) (rs : List Rf) (s : Sg) : Option (List D) → Res (List D × List (Nat × D))
  | none => .bad
  | some ds => mkIK3 rs ds s (itm ds)
def mkIK (itm : List D → Option (List D)) (rs : List Rf) (s : Sg) : Res (List D × List (Nat × D)) := mkIK2 itm rs s (rds rs s)
@[simp] theorem ev_mkI (itm : List D → Option (List D)) (g : AL) (s : Sg) : mkI itm g s = (g s).bind (mkIK itm) := by
  unfold mkI; refine congrArg (Res.bind _) ?_; funext rs s1; unfold mkIK mkIK2
  cases rds rs s1 with
  | none => rfl
  | some ds => cases h : itm ds <;> simp [h, mkIK3]
@[simp] theorem ev_mkIK (itm : List D → Option (List D)) (rs : List Rf) (s : Sg) : mkIK itm rs s = mkIK2 itm rs s (rds rs s) := rfl
@[simp] theorem ev_mkIK2 (itm : List D → Option (List D)) (rs : List Rf) (s : Sg) (ds : List D) : mkIK2 itm rs s (some ds) = mkIK3 rs ds s (itm ds) := rfl
@[simp] theorem ev_mkIK3 (rs : List Rf) (ds : List D) (s : Sg) (es : List D) : mkIK3 rs ds s (some es) = if purs es = true ∧ nodupB ((lks rs ds).map (·.1)) = true then .ok (es, lks rs ds) (lockS (lks rs ds) s) else .bad := rfl
def forK2 (l : List (Nat × D)) (fl : Fl) (s : Sg) : Res Fl := .ok fl (unlockS l s)
def forK (lk : Nat → Bool) (t : Tg) (g : S) (p : List D × List (Nat × D)) (s : Sg) : Res Fl := if (p.2.all fun q => lk q.1) = true then (loopS t g p.1 s).bind (forK2 p.2) else .bad
@[simp] theorem ev_sFor (lk : Nat → Bool) (it : I) (t : Tg) (g : S) (s : Sg) : sFor lk it t g s = (it s).bind (forK lk t g) := rfl
@[simp] theorem ev_forK (lk : Nat → Bool) (t : Tg) (g : S) (es : List D) (l : List (Nat × D)) (s : Sg) : forK lk t g (es, l) s = if (l.all fun q => lk q.1) = true then (loopS t g es s).bind (forK2 l) else .bad := rfl
@[simp] theorem ev_forK2 (l : List (Nat × D)) (fl : Fl) (s : Sg) : forK2 l fl s = .ok fl (unlockS l s) := rfl
def compK2 (l : List (Nat × D)) (acc : List D) (s : Sg) : Res Rf := .ok (.val (.list acc)) (unlockS l s)
def compK (t : Tg) (c : T) (e : O) (vs : List Nat) (p : List D × List (Nat × D)) (s : Sg) : Res Rf :=
  if nodupB ((ownSl vs s).map (·.1)) = true then (compL t c e vs p.1 [] (clrS vs (lockS (ownSl vs s) s))).bind (compK2 (ownSl vs s ++ p.2)) else .bad
@[simp] theorem ev_oComp (it : I) (t : Tg) (c : T) (e : O) (vs : List Nat) (s : Sg) : oComp it t c e vs s = (it s).bind (compK t c e vs) := rfl
@[simp] theorem ev_compK (t : Tg) (c : T) (e : O) (vs : List Nat) (es : List D) (l : List (Nat × D)) (s : Sg) : compK t c e vs (es, l) s =
  if nodupB ((ownSl vs s).map (·.1)) = true then (compL t c e vs es [] (clrS vs (lockS (ownSl vs s) s))).bind (compK2 (ownSl vs s ++ l)) else .bad := rfl
@[simp] theorem ev_compK2 (l : List (Nat × D)) (acc : List D) (s : Sg) : compK2 l acc s = .ok (.val (.list acc)) (unlockS l s) := rfl
@[simp] theorem ev_tYes (s : Sg) : tYesT s = .ok true s := rfl
@[simp] theorem ev_add (a b : Int) : pAdd [.int a, .int b] = some (.int (a + b)) := rfl
@[simp] theorem ev_addL (a b : List D) : pAdd [.list a, .list b] = if a.length + b.length ≤ 1000000 ∧ purs a = true ∧ purs b = true then some (.list (a ++ b)) else none := rfl
@[simp] theorem ev_addT (a b : List D) : pAdd [.tuple a, .tuple b] = if a.length + b.length ≤ 1000000 ∧ purs a = true ∧ purs b = true then some (.tuple (a ++ b)) else none := rfl
@[simp] theorem ev_sub (a b : Int) : pSub [.int a, .int b] = some (.int (a - b)) := rfl
@[simp] theorem ev_mul (a b : Int) : pMul [.int a, .int b] = if mulOk a b = true then some (.int (a * b)) else none := rfl
@[simp] theorem ev_div (a b : Int) : pDiv [.int a, .int b] = if 0 < b ∧ b.natAbs.log2 < 9000 then some (.int (a / b)) else none := rfl
@[simp] theorem ev_mod (a b : Int) : pMod [.int a, .int b] = if 0 < b then some (.int (a % b)) else none := rfl
@[simp] theorem ev_pow (a b : Int) : pPow [.int a, .int b] = if 0 ≤ b ∧ b ≤ 1000000 ∧ a.natAbs < 2 ^ 64 then some (.int (a ^ b.toNat)) else none := rfl
@[simp] theorem ev_shl (a b : Int) : pShl [.int a, .int b] = if 0 ≤ b ∧ b ≤ 1000000 ∧ a.natAbs < 2 ^ 64 then some (.int (a * 2 ^ b.toNat)) else none := rfl
@[simp] theorem ev_neg (a : Int) : pNeg [.int a] = some (.int (-a)) := rfl
@[simp] theorem ev_lt (a b : Int) : pLt [.int a, .int b] = some (.bool (decide (a < b))) := rfl
@[simp] theorem ev_le (a b : Int) : pLe [.int a, .int b] = some (.bool (decide (a ≤ b))) := rfl
@[simp] theorem ev_gt (a b : Int) : pGt [.int a, .int b] = some (.bool (decide (b < a))) := rfl
@[simp] theorem ev_ge (a b : Int) : pGe [.int a, .int b] = some (.bool (decide (b ≤ a))) := rfl
@[simp] theorem ev_eq (a b : D) : pEq [a, b] = if shp a = true ∧ shp b = true then some (.bool (PyData.eqv a b)) else none := rfl
@[simp] theorem ev_ne (a b : D) : pNe [a, b] = if shp a = true ∧ shp b = true then some (.bool (!PyData.eqv a b)) else none := rfl
@[simp] theorem ev_isB (a b : Bool) : pIsN [.bool a, .bool b] = some (.bool (decide (a = b))) := rfl
@[simp] theorem ev_notB (a b : Bool) : pNotN [.bool a, .bool b] = some (.bool (!decide (a = b))) := rfl
@[simp] theorem ev_isN (a : D) : pIsN [a, .none] = some (.bool (isN a)) := rfl
@[simp] theorem ev_notN (a : D) : pNotN [a, .none] = some (.bool (!isN a)) := rfl
@[simp] theorem ev_inT (a : D) (b : List D) : pIn [a, .tuple b] = if pIn.fl a = true ∧ b.all pIn.fl = true then some (.bool (b.any fun z => PyData.eqv z a)) else none := by cases a <;> rfl
@[simp] theorem ev_ixL (ds : List D) (i : Int) : pIx [.list ds, .int i] = puO (atI ds i) := rfl
@[simp] theorem ev_ixT (ds : List D) (i : Int) : pIx [.tuple ds, .int i] = puO (atI ds i) := rfl
@[simp] theorem ev_ixF (ds : List D) (i : Int) : pIx [.dict [(.none, .list ds)], .int i] = puO (atI ds i) := rfl
@[simp] theorem ev_puO (d : D) : puO (some d) = if pur d = true then some d else none := rfl
@[simp] theorem ev_slL (ds : List D) (l u : Option Int) : slD (.list ds) l u = if purs ds = true then some (.list (cutL ds l u)) else none := rfl
@[simp] theorem ev_slT (ds : List D) (l u : Option Int) : slD (.tuple ds) l u = if purs ds = true then some (.tuple (cutL ds l u)) else none := rfl
@[simp] theorem ev_slF (ds : List D) (l u : Option Int) : slD (.dict [(.none, .list ds)]) l u = some (.list (cutL ds l u)) := rfl
@[simp] theorem ev_lenL (ds : List D) : pLen [.list ds] = some (.int ds.length) := rfl
@[simp] theorem ev_lenT (ds : List D) : pLen [.tuple ds] = some (.int ds.length) := rfl
@[simp] theorem ev_lenF (ds : List D) : pLen [.dict [(.none, .list ds)]] = some (.int ds.length) := rfl
@[simp] theorem ev_abs (i : Int) : pAbs [.int i] = some (.int (if i < 0 then -i else i)) := rfl
@[simp] theorem ev_intI (i : Int) : pInt [.int i] = some (.int i) := rfl
@[simp] theorem ev_intB (k : Bool) : pInt [.bool k] = some (.int (if k then 1 else 0)) := rfl
@[simp] theorem ev_max2 (i j : Int) : pMax2 [.int i, .int j] = some (.int (max i j)) := rfl
@[simp] theorem ev_min2 (i j : Int) : pMin2 [.int i, .int j] = some (.int (min i j)) := rfl
@[simp] theorem ev_tupL (ds : List D) : pTuple [.list ds] = if purs ds = true then some (.tuple ds) else none := rfl
@[simp] theorem ev_tupT (ds : List D) : pTuple [.tuple ds] = if purs ds = true then some (.tuple ds) else none := rfl
@[simp] theorem ev_lstL (ds : List D) : pList [.list ds] = if purs ds = true then some (.list ds) else none := rfl
@[simp] theorem ev_lstT (ds : List D) : pList [.tuple ds] = if purs ds = true then some (.list ds) else none := rfl
@[simp] theorem ev_divmod (i j : Int) : pDivmod [.int i, .int j] = if 0 < j ∧ j < 1000000 then some (.tuple [.int (i / j), .int (i % j)]) else none := rfl
@[simp] theorem bools_map {α : Type} (f : α → Bool) (l : List α) : bools (l.map fun a => .bool (f a)) = some (l.map f) := by
  induction l with
  | nil => rfl
  | cons a l ih => simp [bools, ih]
@[simp] theorem intsD_map {α : Type} (f : α → Int) (l : List α) : intsD (l.map fun a => .int (f a)) = some (l.map f) := by
  induction l with
  | nil => rfl
  | cons a l ih => simp [intsD, ih]
@[simp] theorem intsD_int (l : List Int) : intsD (l.map .int) = some l := by
  induction l with
  | nil => rfl
  | cons a l ih => simp [intsD, ih]
@[simp] theorem ev_all (ds : List D) : pAll [.list ds] = (bools ds).map fun bs => .bool (bs.all id) := rfl
@[simp] theorem ev_any (ds : List D) : pAny [.list ds] = (bools ds).map fun bs => .bool (bs.any id) := rfl
@[simp] theorem ev_sumL (ds : List D) : pSum [.list ds] = (intsD ds).map fun ns => .int ns.sum := rfl
@[simp] theorem ev_sumT (ds : List D) : pSum [.tuple ds] = (intsD ds).map fun ns => .int ns.sum := rfl
@[simp] theorem ev_itPL (ds : List D) : itP [.list ds] = some ds := rfl
@[simp] theorem ev_itPT (ds : List D) : itP [.tuple ds] = some ds := rfl
@[simp] theorem ev_itPF (ds : List D) : itP [.dict [(.none, .list ds)]] = some ds := rfl
@[simp] theorem ev_itEL (ds : List D) : itE [.list ds] = some (enumD 0 ds) := rfl
@[simp] theorem ev_itET (ds : List D) : itE [.tuple ds] = some (enumD 0 ds) := rfl
@[simp] theorem ev_itEF (ds : List D) : itE [.dict [(.none, .list ds)]] = some (enumD 0 ds) := rfl
@[simp] theorem purs_enumD (n : Nat) (ds : List D) : purs (enumD n ds) = purs ds := enumD_purs n ds
@[simp] theorem purs_rngD (lo : Int) (n : Nat) : purs (rngD lo n) = true := by unfold rngD; exact purs_map _ _
@[simp] theorem ev_itR1 (j : Int) : itR1 [.int j] = if -1000000 < j ∧ j < 1000000 then some (rngD 0 j.toNat) else none := rfl
@[simp] theorem ev_itR2 (i j : Int) : itR2 [.int i, .int j] = if -1000000 < i ∧ i < 1000000 ∧ -1000000 < j ∧ j < 1000000 then some (rngD i (j - i).toNat) else none := rfl
@[simp] theorem ev_itZLL (a b : List D) : itZ [.list a, .list b] = some (zipD a b) := rfl
@[simp] theorem ev_itZTT (a b : List D) : itZ [.tuple a, .tuple b] = some (zipD a b) := rfl
@[simp] theorem ev_itZLT (a b : List D) : itZ [.list a, .tuple b] = some (zipD a b) := rfl
@[simp] theorem ev_itZTL (a b : List D) : itZ [.tuple a, .list b] = some (zipD a b) := rfl
@[simp] theorem ev_mApp (ds : List D) (d : D) : mApp ds [d] = if ds.length < 1000000 then some (ds ++ [d], .none) else none := rfl
@[simp] theorem ev_isi (k : Kd) (d : D) : pIsi k [d] = if okD d = true then some (.bool (isK k d)) else none := rfl
@[simp] theorem lkM_eq (ms : List Nat) (i : Nat) : lkM ms i = (ms[i]? == some 0) := rfl
@[simp] theorem lkp_eq (is : List Nat) (lk : Nat → Bool) (i : Nat) : lkp is lk i = (is.contains i || lk i) := rfl
@[simp] theorem eqv_int (a b : Int) : PyData.eqv (.int a) (.int b) = decide (a = b) := by
  first | rfl | simp [PyData.eqv] | (unfold PyData.eqv; simp)
@[simp] theorem eqv_bool (a b : Bool) : PyData.eqv (.bool a) (.bool b) = decide (a = b) := by
  first | (cases a <;> cases b <;> rfl) | simp [PyData.eqv]
end Sim
namespace Sim
open PySem PySem.Spec L2
theorem lay_ints : ∀ ns : List Int, PyData.canLayAll0 (ns.map PyData.int) = true
  | [] => rfl
  | _ :: r => by simp [PyData.canLayAll0, PyData.canLay0, lay_ints r]
theorem depth_ints : ∀ ns : List Int, PyData.depthAll (ns.map PyData.int) = 0
  | [] => rfl
  | _ :: r => by simp [PyData.depthAll, PyData.depth, depth_ints r]
theorem noD_ints : ∀ ns : List Int, noDs (ns.map PyData.int) = true
  | [] => rfl
  | _ :: r => by simp [noDs, noD, noD_ints r]
@[simp] theorem shp_int (i : Int) : shp (.int i) = true := by simp [shp, SeqAt.shaped, PyData.canLay0, PyData.depth, noD]
@[simp] theorem shp_bool (i : Bool) : shp (.bool i) = true := by simp [shp, SeqAt.shaped, PyData.canLay0, PyData.depth, noD]
@[simp] theorem shp_tupI (ns : List Int) : shp (.tuple (ns.map PyData.int)) = true := by
  simp [shp, SeqAt.shaped, PyData.canLay0, PyData.depth, lay_ints, depth_ints, noD, noD_ints]
@[simp] theorem shp_lstI (ns : List Int) : shp (.list (ns.map PyData.int)) = true := by
  simp [shp, SeqAt.shaped, PyData.canLay0, PyData.depth, lay_ints, depth_ints, noD, noD_ints]
theorem eqvAll_ints : ∀ ns ms : List Int, PyData.eqvAll (ns.map PyData.int) (ms.map PyData.int) = decide (ns = ms)
  | [], [] => by simp [PyData.eqvAll]
  | [], _ :: _ => by simp [PyData.eqvAll]
  | _ :: _, [] => by simp [PyData.eqvAll]
  | a :: r, b :: t => by
    simp only [List.map_cons, PyData.eqvAll, eqv_int, eqvAll_ints r t]
    by_cases h : a = b <;> by_cases h' : r = t <;> simp [h, h']
@[simp] theorem eqv_tupI (ns ms : List Int) : PyData.eqv (.tuple (ns.map PyData.int)) (.tuple (ms.map PyData.int)) = decide (ns = ms) := by
  simp only [PyData.eqv]; exact eqvAll_ints ns ms
@[simp] theorem eqv_lstI (ns ms : List Int) : PyData.eqv (.list (ns.map PyData.int)) (.list (ms.map PyData.int)) = decide (ns = ms) := by
  simp only [PyData.eqv]; exact eqvAll_ints ns ms
@[simp] theorem cutL_to {α : Type} (xs : List α) (n : Nat) : cutL xs none (some (n : Int)) = xs.take n := by
  unfold cutL
  rw [HT.sIx_nat, HT.sIx_none, Nat.sub_zero, List.drop_zero]
  rcases Nat.le_total n xs.length with h | h
  · rw [Nat.min_eq_left h]
  · rw [Nat.min_eq_right h, List.take_length, List.take_of_length_le h]
@[simp] theorem cutL_from {α : Type} (xs : List α) (n : Nat) : cutL xs (some (n : Int)) none = xs.drop n := by
  unfold cutL
  rw [HT.sIx_nat, HT.sIx_none]
  rcases Nat.le_total n xs.length with h | h
  · rw [Nat.min_eq_left h, List.take_of_length_le (by simp)]
  · rw [Nat.min_eq_right h, Nat.sub_self, List.take_zero, List.drop_of_length_le h]
/-- a number's length in bits is small -/
theorem log2_lt {n : Nat} {k : Nat} (h : n < 2 ^ k) (hk : 0 < k) : n.log2 < k := by
  by_cases h0 : n = 0
  · subst h0; simpa using hk
  · exact (Nat.log2_lt h0).mpr h
theorem mulOk_l {a b : Int} (h1 : -(2 ^ 64) < a) (h2 : a < 2 ^ 64) : mulOk a b = true := by unfold mulOk; simp only [decide_eq_true h1, decide_eq_true h2, Bool.and_self, Bool.true_or, Bool.or_true]
theorem mulOk_r {a b : Int} (h1 : -(2 ^ 64) < b) (h2 : b < 2 ^ 64) : mulOk a b = true := by unfold mulOk; simp only [decide_eq_true h1, decide_eq_true h2, Bool.and_self, Bool.true_or, Bool.or_true]
@[simp] theorem loop_nil (t : Tg) (g : S) (s : Sg) : loopS t g [] s = .ok .nx s := rfl
def loopK2 (t : Tg) (g : S) (ds : List D) (fl : Fl) (s : Sg) : Res Fl := match fl with
  | .nx => loopS t g ds s
  | .ct => loopS t g ds s
  | .bk => .ok .nx s
  | .rt d => .ok (.rt d) s
def loopK1 (t : Tg) (g : S) (ds : List D) : Option Sg → Res Fl
  | none => .bad
  | some s => (g s).bind (loopK2 t g ds)
@[simp] theorem loop_cons (t : Tg) (g : S) (d : D) (ds : List D) (s : Sg) : loopS t g (d :: ds) s = loopK1 t g ds (asg t d s) := by
  rw [loopS]; dsimp only; unfold loopK1; cases asg t d s <;> rfl
@[simp] theorem loopK1_some (t : Tg) (g : S) (ds : List D) (s : Sg) : loopK1 t g ds (some s) = (g s).bind (loopK2 t g ds) := rfl
@[simp] theorem loopK2_nx (t : Tg) (g : S) (ds : List D) (s : Sg) : loopK2 t g ds .nx s = loopS t g ds s := rfl
@[simp] theorem loopK2_ct (t : Tg) (g : S) (ds : List D) (s : Sg) : loopK2 t g ds .ct s = loopS t g ds s := rfl
@[simp] theorem loopK2_bk (t : Tg) (g : S) (ds : List D) (s : Sg) : loopK2 t g ds .bk s = .ok .nx s := rfl
@[simp] theorem loopK2_rt (t : Tg) (g : S) (ds : List D) (d : D) (s : Sg) : loopK2 t g ds (.rt d) s = .ok (.rt d) s := rfl
@[simp] theorem comp_nil (t : Tg) (c : T) (e : O) (vs : List Nat) (acc : List D) (s : Sg) : compL t c e vs [] acc s = .ok acc s := rfl
def cmK5 (t : Tg) (c : T) (e : O) (vs : List Nat) (ds acc : List D) (s : Sg) : Option D → Res (List D)
  | none => .bad
  | some y => if acc.length < 1000000 then compL t c e vs ds (acc ++ [y]) (clrS vs s) else .bad
def cmK4 (t : Tg) (c : T) (e : O) (vs : List Nat) (ds acc : List D) (r : Rf) (s : Sg) : Res (List D) := cmK5 t c e vs ds acc s (own r s)
def cmK3 (t : Tg) (c : T) (e : O) (vs : List Nat) (ds acc : List D) (b : Bool) (s : Sg) : Res (List D) := if b = true then (e s).bind (cmK4 t c e vs ds acc) else compL t c e vs ds acc (clrS vs s)
def cmK1 (t : Tg) (c : T) (e : O) (vs : List Nat) (ds acc : List D) : Option Sg → Res (List D)
  | none => .bad
  | some s => (c s).bind (cmK3 t c e vs ds acc)
@[simp] theorem comp_cons (t : Tg) (c : T) (e : O) (vs : List Nat) (d : D) (ds acc : List D) (s : Sg) : compL t c e vs (d :: ds) acc s = cmK1 t c e vs ds acc (asg t d s) := by
  rw [compL]; unfold cmK1
  cases asg t d s with
  | none => rfl
  | some s1 =>
    simp only
    refine congrArg (Res.bind _) ?_
    funext b s2
    unfold cmK3
    split
    · refine congrArg (Res.bind _) ?_
      funext r s3
      unfold cmK4 cmK5
      cases own r s3 <;> rfl
    · rfl
@[simp] theorem cmK1_some (t : Tg) (c : T) (e : O) (vs : List Nat) (ds acc : List D) (s : Sg) : cmK1 t c e vs ds acc (some s) = (c s).bind (cmK3 t c e vs ds acc) := rfl
@[simp] theorem cmK3_eq (t : Tg) (c : T) (e : O) (vs : List Nat) (ds acc : List D) (b : Bool) (s : Sg) : cmK3 t c e vs ds acc b s = if b = true then (e s).bind (cmK4 t c e vs ds acc) else compL t c e vs ds acc (clrS vs s) := rfl
@[simp] theorem cmK4_eq (t : Tg) (c : T) (e : O) (vs : List Nat) (ds acc : List D) (r : Rf) (s : Sg) : cmK4 t c e vs ds acc r s = cmK5 t c e vs ds acc s (own r s) := rfl
@[simp] theorem cmK5_some (t : Tg) (c : T) (e : O) (vs : List Nat) (ds acc : List D) (s : Sg) (y : D) : cmK5 t c e vs ds acc s (some y) = if acc.length < 1000000 then compL t c e vs ds (acc ++ [y]) (clrS vs s) else .bad := rfl
/-- one item of a comprehension, then the rest -/
theorem comp_one {t : Tg} {c : T} {e : O} {vs : List Nat} {d : D} {ds acc l : List D} {s s' : Sg} (h : compL t c e vs [d] [] s = .ok l s') (ha : acc.length < 1000000) : compL t c e vs (d :: ds) acc s = compL t c e vs ds (acc ++ l) s' ∧ l.length ≤ 1 := by
  rw [comp_cons] at h ⊢
  cases h1 : asg t d s with
  | none => rw [h1] at h; cases h
  | some s1 =>
    rw [h1, cmK1_some] at h
    rw [cmK1_some]
    cases h2 : c s1 with
    | ok b s2 =>
      rw [h2, ev_ok, cmK3_eq] at h
      rw [ev_ok, cmK3_eq]
      cases b with
      | false =>
        simp only [Bool.false_eq_true, if_false, comp_nil] at h ⊢
        cases h
        exact ⟨by rw [List.append_nil], Nat.zero_le _⟩
      | true =>
        simp only [if_true] at h ⊢
        cases h3 : e s2 with
        | ok r s3 =>
          rw [h3, ev_ok, cmK4_eq] at h
          rw [ev_ok, cmK4_eq]
          cases h4 : own r s3 with
          | none => rw [h4] at h; cases h
          | some y =>
            rw [h4, cmK5_some] at h
            rw [cmK5_some, if_pos ha]
            simp only [List.length_nil, Nat.zero_lt_succ, if_true, List.nil_append, comp_nil] at h
            cases h
            exact ⟨rfl, Nat.le_refl _⟩
        | exc _ _ _ => rw [h3] at h; cases h
        | bad => rw [h3] at h; cases h
    | exc _ _ _ => rw [h2] at h; cases h
    | bad => rw [h2] at h; cases h
theorem comp_map {α : Type} {t : Tg} {c : T} {e : O} {vs : List Nat} {s : Sg} (f : α → D) (G : α → D) (l : List α) (h : ∀ a, a ∈ l → compL t c e vs [f a] [] s = .ok [G a] s) (hl : l.length ≤ 1000000) : compL t c e vs (l.map f) [] s = .ok (l.map G) s := by
  have key : ∀ (l : List α) (acc : List D), (∀ a, a ∈ l → compL t c e vs [f a] [] s = .ok [G a] s) → acc.length + l.length ≤ 1000000 → compL t c e vs (l.map f) acc s = .ok (acc ++ l.map G) s := by
    intro l
    induction l with
    | nil => intro acc _ _; simp
    | cons a l ih =>
      intro acc h hl
      rw [List.length_cons] at hl
      obtain ⟨h1, _⟩ := comp_one (ds := l.map f) (h a (List.mem_cons_self ..)) (acc := acc) (by omega)
      rw [List.map_cons, h1, ih _ (fun a ha => h a (List.mem_cons_of_mem _ ha)) (by rw [List.length_append, List.length_singleton]; omega), List.map_cons]
      simp
  simpa using key l [] h (by simpa using hl)
end Sim
namespace Sim
open PySem PySem.Spec L2
theorem for_ok {lk : Nat → Bool} {it : I} {t : Tg} {g : S} {s s1 s2 : Sg} {es : List D} {l : List (Nat × D)} {fl : Fl} (h1 : it s = .ok (es, l) s1) (h2 : (l.all fun q => lk q.1) = true) (h3 : loopS t g es s1 = .ok fl s2) : sFor lk it t g s = .ok fl (unlockS l s2) := by
  rw [ev_sFor, h1, ev_ok, ev_forK, if_pos h2, h3]; rfl
theorem mkFn_rt {ms : List Nat} {n : Nat} {g : S} {ds as : List D} {r : D} {s : Sg} (h1 : okM ms ds = true) (h2 : g (ds.map some ++ List.replicate (n - ds.length) none) = .ok (.rt r) s) (h3 : coll ms ds 0 s = some as) : mkFn ms n g ds = .ok r as := by
  rw [ev_mkFn, if_pos h1, h2, ev_mkK, h3]; rfl
theorem mkFn_nx {ms : List Nat} {n : Nat} {g : S} {ds as : List D} {s : Sg} (h1 : okM ms ds = true) (h2 : g (ds.map some ++ List.replicate (n - ds.length) none) = .ok .nx s) (h3 : coll ms ds 0 s = some as) : mkFn ms n g ds = .ok .none as := by
  rw [ev_mkFn, if_pos h1, h2, ev_mkK, h3]; rfl
theorem oCall_ok {f : Fn} {g : AL} {s s1 : Sg} {rs : List Rf} {ds as : List D} {r : D} (h1 : g s = .ok rs s1) (h2 : rds rs s1 = some ds) (h3 : nodupB ((lks rs ds).map (·.1)) = true) (h4 : f ds = .ok r as) : oCall f g s = .ok (.val r) (unlockS (lkz rs ds as) (lockS (lks rs ds) s1)) := by
  rw [ev_oCall, h1, ev_ok, ev_callK, h2, ev_callK2, if_pos h3, h4]; rfl
@[simp] theorem purs_takeI (A : List Int) (n : Nat) : purs (List.take n (A.map PyData.int)) = true := by rw [← List.map_take]; exact purs_ints _
@[simp] theorem purs_dropI (A : List Int) (n : Nat) : purs (List.drop n (A.map PyData.int)) = true := by rw [← List.map_drop]; exact purs_ints _
end Sim
namespace Sim
open PySem PySem.Spec L2
section
open PyProof.Rows
variable {prog : Program} {w : World} {A : Around} {E : Value → Shared → Prop} {s : Shared}
end
section
variable [Tb] [Vs] {K : PySem.W.Frag} {H : Hp}
variable {X : Cx} {a : Expr} {ga : O} {pos p2 : Pos}
def pListRg : List D → Option D
  | [.int j] => if -1000000 < j ∧ j < 1000000 then some (.list (rngD 0 j.toNat)) else none
  | [.int i, .int j] => if -1000000 < i ∧ i < 1000000 ∧ -1000000 < j ∧ j < 1000000 then some (.list (rngD i (j - i).toNat)) else none
  | _ => none
theorem own_rgV (i j : Int) : OwnA K H (rngD i (j - i).toNat) (rgV i j) [] := by
  unfold rngD rgV
  generalize (List.range (j - i).toNat) = l
  induction l with
  | nil => exact .nil
  | cons n l ih => exact .cons0 (.int _) ih
def rLRg : List V → Hp → VK → Prop := fun vs H Q => (∃ j, vs = [.int j] ∧ RgOk 0 j ∧ ∀ q, H q = none → Q (.ref q) (upd H q (.lst (rgV 0 j)))) ∨ ∃ i j, vs = [.int i, .int j] ∧ RgOk i j ∧ ∀ q, H q = none → Q (.ref q) (upd H q (.lst (rgV i j)))
theorem pr_lrg : PrimR K rLRg pListRg := by
  intro vs ds d H Q h e q
  unfold pListRg at e
  split at e
  · obtain ⟨x, F, rfl, o⟩ := h.one
    cases o
    split at e
    · rename_i j hj
      cases e
      have z := own_rgV (K := K) (H := H) 0 j
      rw [Int.sub_zero] at z
      exact .inl ⟨_, rfl, ⟨by omega, by omega, by omega, by omega, by omega⟩, fun p hp => q _ _ (.lst z hp)⟩
    · cases e
  · obtain ⟨x, y, F, G, rfl, o, o2⟩ := h.two
    cases o; cases o2
    split at e
    · rename_i i j hj
      cases e
      exact .inr ⟨_, _, rfl, ⟨by omega, by omega, by omega, by omega, by omega⟩, fun p hp => q _ _ (.lst (own_rgV i j) hp)⟩
    · cases e
  · cases e
variable {b : Expr} {p pos2 : Pos} {gb : O}
theorem so_listRg1 (hc : X.calm = true) (hg : Gl X "list") (hm : X.mg "list" = none) (hg2 : Gl X "range") (hm2 : X.mg "range" = none) (ha : SimO X a ga) (na : starEach [a] X.env = (false, eval a X.env) :: starEach [] X.env := by rfl)
    (nr : starEach [.Call (.Name "range" p2) [a] [] pos2] X.env = (false, eval (.Call (.Name "range" p2) [a] [] pos2) X.env) :: starEach [] X.env := by rfl) : SimO X (.Call (.Name "list" p) [.Call (.Name "range" p2) [a] [] pos2] [] pos) (oPrim pListRg (aCons ga aNil)) :=
  pe_imp (pe_listRg hc hg hm (prg_1 hg2 hm2 ha na) nr) fun σ H Q h => by
    have z := tA1 (prim pr_lrg h)
    refine tO_mono (fun v H1 w => ?_) z
    rcases w with ⟨j, e, w⟩ | ⟨i, j, e, w⟩
    · cases e; exact ⟨_, rfl, w⟩
    · cases e
end
end Sim
namespace SimSrt
open PySem PyProof.Rows Srt SrtO
section
variable {prog : Program} {w : World} {A : Around} {E : Value → Shared → Prop} {s : Shared}
theorem collect_tup {l : Addr} {vs : List Value} {Q : List Value → Shared → Prop} (hl : s.heap.IsTuple l vs.toArray)
    (h : Q vs { s with heap := (s.heap.push (seqObj "list" #[] 0)).update s.heap.objs.size (Obj.mapSeq (· ++ vs.toArray)) }) (hsz : vs.length ≤ sizeLine) :
    wpAny (model prog w) A (collect (.ref l)) Q E s := by
  obtain ⟨o, ho, hc, n, hd⟩ := id hl
  unfold collect
  refine wpAny_bind (wpAny_runValue (codeAny_builtin entry_proto_collect' ?_))
  show wpAny _ _ (do again (.builtin "list.__iadd__" ⟨[← newList [], .ref l], []⟩)) _ _ s
  refine wpAny_bind (wpAny_newList (wpAny_pure ⟨Code.quiet_builtin _ (by decide +kernel), codeAny_builtin entry_list_iadd' ?_⟩))
  show wpAny _ _ (Builtin.List.listExtendWith (.ref s.heap.objs.size) (.ref l) (.ref s.heap.objs.size)) _ _ { s with heap := s.heap.push (seqObj "list" #[] 0) }
  unfold Builtin.List.listExtendWith
  have ho' : (s.heap.push (seqObj "list" #[] 0)).get? l = some o := Heap.get?_push_of_some _ ho
  refine wpAny_bind (wpAny_typeOf (T := "tuple") ⟨o, ho', hc⟩ ?_)
  have ht : (Value.type "tuple" == Value.type "tuple") = true := by rfl
  rw [if_pos (by rw [ht]; simp)]
  refine wpAny_bind (listItems_at ho' hd ?_)
  refine wpAny_bind (listItems_at (xs := #[]) (n := 0) (Heap.get?_push_size _ rfl) rfl ?_)
  rw [if_neg (by simp)]
  refine wpAny_bind (listUpdate_at (xs := #[]) (n := 0) (Heap.get?_push_size _ rfl) rfl ?_ (Nat.zero_le _) (by show (#[] ++ vs.toArray).size ≤ sizeLine + 1; simp only [Array.size_append, List.size_toArray, List.length_nil]; omega))
  refine wpAny_pure ?_
  show wpAny (model prog w) A (do
      let o ← load s.heap.objs.size
      match o.data with
      | .seq xs _ => pure xs.toList
      | _ => unsupported "internal:collect") Q E { s with heap := (s.heap.push (seqObj "list" #[] 0)).update s.heap.objs.size (Obj.mapSeq (· ++ vs.toArray)) }
  refine wpAny_bind (wpAny_load (get?_update_seq (Heap.get?_push_size _ rfl) _) ?_)
  show wpAny _ _ (pure ((#[] : Array Value) ++ vs.toArray).toList) Q E _
  rw [show ((#[] : Array Value) ++ vs.toArray).toList = vs by simp]
  exact wpAny_pure h
theorem sorted_ordT {l : Addr} {vs : List Value} {ltv : Value → Value → Bool} {Q : Value → Shared → Prop} (O : Swo ltv) (hl : s.heap.IsTuple l vs.toArray) (hz : vs.length ≤ sizeLine)
    (hS : 2 ≤ vs.length → ∀ (h₁ : Heap) (a : Addr), h₁.get? a = some (seqObj "list" vs.toArray 0) → (∀ b o, s.heap.get? b = some o → b ≠ a ∧ h₁.get? b = some o) → SortableO prog w A.in1.in1 { s with heap := h₁ } a vs ltv)
    (h : ∀ out : List Value, Srtd ltv out → Stb ltv out vs → Q (.ref (s.heap.objs.size + 1)) { s with heap := sortedAll s.heap vs out.toArray }) :
    wpAny (model prog w) A (call (.builtin "sorted") [.ref l]) Q E s := by
  refine Calls.call_function_entry kind_sorted plain_sorted entry_sorted (args_sorted1 _) ?_
  unfold Builtin.«sorted»
  refine wpAny_bind (m := checkCount "sorted" 1 1 _) (wpAny_pure ?_)
  refine wpAny_bind (collect_tup hl ?_ hz)
  refine wpAny_bind (wpAny_newList ?_ hz)
  have hsz : ((s.heap.push (seqObj "list" #[] 0)).update s.heap.objs.size (Obj.mapSeq (· ++ vs.toArray))).objs.size = s.heap.objs.size + 1 := by
    rw [Heap.size_update, size_push']
  have hoL : (((s.heap.push (seqObj "list" #[] 0)).update s.heap.objs.size (Obj.mapSeq (· ++ vs.toArray))).push (seqObj "list" vs.toArray 0)).get? (s.heap.objs.size + 1) = some (seqObj "list" vs.toArray 0) := by
    rw [← hsz]; exact Heap.get?_push_size _ rfl
  have keep : ∀ b o, s.heap.get? b = some o → b ≠ s.heap.objs.size + 1 ∧ (((s.heap.push (seqObj "list" #[] 0)).update s.heap.objs.size (Obj.mapSeq (· ++ vs.toArray))).push (seqObj "list" vs.toArray 0)).get? b = some o := fun b o q => by
    have hlt : b < s.heap.objs.size := Heap.lt_size q
    refine ⟨Nat.ne_of_lt (Nat.lt_succ_of_lt hlt), Heap.get?_push_of_some _ ?_⟩
    rw [Heap.get?_update_ne _ _ _ _ (Nat.ne_of_lt hlt)]
    exact Heap.get?_push_of_some _ q
  show wpAny _ _ _ _ _ { s with heap := ((s.heap.push (seqObj "list" #[] 0)).update s.heap.objs.size (Obj.mapSeq (· ++ vs.toArray))).push (seqObj "list" vs.toArray 0) }
  rw [hsz]
  refine wpAny_bind (wpAny_holding (wpAny_call_entry slot_list_sort ⟨_, hoL, rfl⟩ entry_list_sort (list_sort_ord O hoL hz (fun h2 => hS h2 _ _ hoL keep) fun out hs hb => ⟨_, rfl, ?_⟩) (args_list_sort _)))
  exact wpAny_pure ⟨_, rfl, h out hs hb⟩
end
end SimSrt
namespace Sim
open PySem PySem.Spec L2
def rSortA (K : PySem.W.Frag) : List V → Hp → VK → Prop := fun vs H Q => ∃ (a : Addr) (ns : List Int), vs = [V.ref a] ∧ (SqL K H a (ns.map V.int) ∨ SqT K H a (ns.map V.int)) ∧ ∀ (ns' : List Int) (p : Addr), ns'.Perm ns → ns'.Pairwise (· ≤ ·) → H p = none → Q (.ref p) (upd H p (.lst (ns'.map V.int)))
theorem cr_sortA {X : Cx} : CallR X (.builtin "sorted") (rSortA X.K) := by
  intro pins s σ H vs us Q I r h
  obtain ⟨a, ns, rfl, hs, q⟩ := h
  rcases hs with hs | hs
  · exact cr_sortedI pins s σ H _ us Q I r ⟨a, ns, rfl, hs, q⟩
  · obtain ⟨its, rv, hl, hz⟩ := I.tuple hs
    rw [Vals.ref1 r]
    have hi := rv.ints
    refine SimSrt.sorted_ordT SrtO.swo_int hl (by rw [← rv.length]; exact hz) (fun h2 h₁ a' _ _ => SrtO.ints_sortable hi h2) fun out h1 h2 => ?_
    obtain ⟨k1, k2, k3⟩ := SrtO.ints_out hi h1 h2
    obtain ⟨ep, he'⟩ := PyProof.Rows.sortedAll_at s.heap its out.toArray
    have hlen : ((out.map SrtO.iv).map V.int).length ≤ sizeLine := by
      rw [List.length_map, k2.length_eq]
      rw [List.length_map] at hz
      exact hz
    exact ⟨.ref _, upd H (s.heap.objs.size + 1) (.lst ((out.map SrtO.iv).map V.int)), I.laid (t' := s.toks) (fun _ _ => PyProof.Rows.sortedAll_old) (Nat.le_succ _) ⟨hlen, out, ep, vals_of_ints k1, he'⟩, rfl, q _ _ k2 k3 (I.hok.fresh (Nat.le_succ _))⟩
/-- numbers, rising -/
def insI (n : Int) : List Int → List Int
  | [] => [n]
  | m :: l => if n ≤ m then n :: m :: l else m :: insI n l
def sortI : List Int → List Int
  | [] => []
  | n :: l => insI n (sortI l)
theorem insI_perm (n : Int) : ∀ l : List Int, (insI n l).Perm (n :: l)
  | [] => .refl _
  | m :: l => by
    unfold insI
    split
    · exact .refl _
    · exact ((insI_perm n l).cons m).trans (.swap n m l)
theorem sortI_perm : ∀ l : List Int, (sortI l).Perm l
  | [] => .refl _
  | n :: l => (insI_perm n (sortI l)).trans ((sortI_perm l).cons n)
theorem insI_rise (n : Int) : ∀ l : List Int, l.Pairwise (· ≤ ·) → (insI n l).Pairwise (· ≤ ·)
  | [], _ => by simp [insI]
  | m :: l, h => by
    rw [List.pairwise_cons] at h
    unfold insI
    split
    · rename_i hnm
      rw [List.pairwise_cons, List.pairwise_cons]
      refine ⟨fun x hx => ?_, h⟩
      rcases List.mem_cons.mp hx with rfl | hx
      · exact hnm
      · exact Int.le_trans hnm (h.1 x hx)
    · rename_i hnm
      rw [List.pairwise_cons]
      refine ⟨fun x hx => ?_, insI_rise n l h.2⟩
      rcases List.mem_cons.mp ((insI_perm n l).mem_iff.mp hx) with rfl | hx
      · omega
      · exact h.1 x hx
theorem sortI_rise : ∀ l : List Int, (sortI l).Pairwise (· ≤ ·)
  | [] => .nil
  | n :: l => insI_rise n _ (sortI_rise l)
theorem rise_eq : ∀ {a b : List Int}, a.Perm b → a.Pairwise (· ≤ ·) → b.Pairwise (· ≤ ·) → a = b := fun {a b} p h1 h2 =>
  p.eq_of_pairwise (fun x y _ _ h h' => Int.le_antisymm h h') h1 h2
def pSorted : List D → Option D
  | [d] => (intsOf d).map fun ns => .list ((sortI ns).map .int)
  | _ => none
theorem own_intL {K : PySem.W.Frag} {H : Hp} : ∀ ns : List Int, OwnA K H (ns.map .int) (ns.map V.int) []
  | [] => .nil
  | n :: ns => .cons0 (.int n) (own_intL ns)
theorem pr_sorted {K : PySem.W.Frag} : PrimR K (rSortA K) pSorted := by
  intro vs ds d H Q h e q
  unfold pSorted at e
  split at e
  · obtain ⟨x, F, rfl, o⟩ := h.one
    rename_i d'
    cases hi : intsOf d' with
    | none => rw [hi] at e; cases e
    | some ns =>
      rw [hi] at e
      cases e
      obtain ⟨a, rfl, hq⟩ := own_intsOf o hi
      refine ⟨a, ns, rfl, hq, fun ns' p hp hr hn => ?_⟩
      have := rise_eq (hp.trans (sortI_perm ns).symm) hr (sortI_rise ns)
      subst this
      exact q _ _ (.lst (own_intL _) hn)
  · cases e
end Sim
namespace Sim
open PySem PySem.Spec L2
section
variable [Tb] [Vs] {X : Cx}
variable {o e : Expr} {es : List Expr} {to : TE} {t : TA} {name : Str} {apos cpos : Pos} {T id : String} {r : V → List V → Hp → VK → Prop}
end
def putAll : List Nat → List D → Sg → Sg
  | i :: l, d :: ds, s => putAll l ds (s.set i (some d))
  | _, _, s => s
def sPar (l : List Nat) (g : AL) : S := fun s => (g s).bind fun rs s1 => match owns rs s1 with
  | none => .bad
  | some ds => if ds.length = l.length then .ok .nx (putAll l ds s1) else .bad
section
variable [Tb] [Vs] {X : Cx} {lk : Nat → Bool}
theorem ss_par {i j : Nat} {x y : Str} {a b : Expr} {g : AL} {px py pt pos pt2 : Pos} {kt k2 : Nat} (hc : X.calm = true) (hN : X.N.Nodup) (hi : X.N[i]? = some x) (hj : X.N[j]? = some y) (hij : i ≠ j)
    (hx : X.env.scope.names.lookup x = some .local) (hy : X.env.scope.names.lookup y = some .local) (li : lk i = false) (lj : lk j = false) (ha : SimA X [a, b] g)
    (hw : swappedStores [.Tuple [.Name x px, .Name y py] kt pt] (.Tuple [a, b] k2 pt2) X.env = pure (some [x, y]) := by rfl)
    (hs : swapsWithSole [.Tuple [.Name x px, .Name y py] kt pt] (.Tuple [a, b] k2 pt2) pos.line X.env = pure false := by rfl) (ki : Vs.ok i := by first | exact trivial | assumption | exact ⟨by decide, by decide⟩) (kj : Vs.ok j := by first | exact trivial | assumption | exact ⟨by decide, by decide⟩) :
    SimS X lk (.Assign [.Tuple [.Name x px, .Name y py] kt pt] (.Tuple [a, b] k2 pt2) pos) (sPar [i, j] g) := by
  refine ps_imp (ps_par hc hN hi hj hij hx hy ha hw hs) fun D σ H z => ?_
  obtain ⟨s, Fs, fl, s', R, e, q⟩ := z
  obtain ⟨rs, s1, e1, e⟩ := bind_inv e
  refine ⟨s, Fs, rs, s1, R, e1, fun vs H1 Fs1 Gs R1 E1 k1 n1 => ?_⟩
  split at e
  · cases e
  · rename_i ds hds
    split at e
    · rename_i hl
      cases e
      obtain ⟨oa, dj⟩ := k1.own R1 hds
      match ds, hl with
      | [d1, d2], _ =>
        have gf : ∀ a, a ∈ Gs.flatten → H a = none := fun a ha => by
          obtain ⟨G, hG, hb⟩ := List.mem_flatten.mp ha
          exact n1 G hG a hb
        generalize hGf : Gs.flatten = GF at *
        cases oa with
        | @cons v1 _ _ _ F1 F2' o1 t1 nn =>
          obtain ⟨v2, rfl, o2⟩ := owna1 t1
          refine ⟨v1, v2, rfl, ?_⟩
          obtain ⟨FsA, RA, nA⟩ := R1.put ⟨o1, fun k a hk ha => dj k a hk (List.mem_append_left _ ha)⟩ i ki
          obtain ⟨FsB, RB, nB⟩ := RA.put ⟨o2, fun k a hk ha => by
            rcases nA k a hk with ⟨w, _⟩ | ⟨w, _⟩
            · exact dj k a w (List.mem_append_right _ ha)
            · exact nn a w ha⟩ j kj
          refine q _ H1 FsB RB (Ev.r ⟨E1.chg, fun k a h => ?_⟩) ((Lk.set li).trans (Lk.set lj))
          rcases nB k a h with ⟨w, _⟩ | ⟨w, _⟩
          · rcases nA k a w with ⟨w, _⟩ | ⟨w, _⟩
            · exact E1.new k a w
            · exact .inr (gf a (List.mem_append_left _ w))
          · exact .inr (gf a (List.mem_append_right _ w))
    · cases e
end
end Sim
namespace Sim
open PySem PySem.Spec L2
section
variable [Tb] [Vs] {K : PySem.W.Frag} {H : Hp} {s : Sg} {σ : St} {Fs : Fp} {lk : Nat → Bool}
theorem Rfs.off {rs : List Rf} {vs : List V} {Gs : List (List Addr)} (r : Rfs K H σ Fs rs vs Gs) : ∀ G, G ∈ Gs → ∀ i a, a ∈ Fs i → a ∉ G := by
  induction r with
  | nil => intro G h; cases h
  | val A _ _ ih =>
    intro G h i a ha
    rcases List.mem_cons.mp h with rfl | h
    · exact A.dis i a ha
    · exact ih G h i a ha
  | slot _ _ ih =>
    intro G h i a ha
    rcases List.mem_cons.mp h with rfl | h
    · intro z; cases z
    · exact ih G h i a ha
end
section
variable [Tb] [Vs] {X : Cx} {lk : Nat → Bool} {pos p2 : Pos} {es : List Expr} {g : AL} {x1 : Nat}
end
end Sim
namespace Sim
open PySem PySem.Spec L2
section
open PySem.Calls PySem.NumText PyProof.Rows
section
variable {M : Model} {A : Around} {E : Value → Shared → Prop} {s : Shared}
end
@[irreducible] def tenN (n : Nat) : Int := ((10 ^ n : Nat) : Int)
end
section
variable {X : Cx}
open PySem.Calls PySem.NumText PyProof.Rows in
end
end Sim
namespace Sim
open PySem PySem.Spec L2
section
variable [Tb] [Vs] {X : Cx} {K : PySem.W.Frag} {lk : Nat → Bool}
end
end Sim
namespace Sim
open PySem PySem.Spec L2
section
variable {K : PySem.W.Frag} {H : Hp}
end
section
variable [Tb] [Vs] {X : Cx}
end
end Sim
namespace Sim
open PySem PySem.Spec L2
open Sem (wp)
section
variable {prog : Program} {w : World} {A : Around} {E : Value → Shared → Prop} {s : Shared} {z TI TO i1 i2 : Addr} {fp1 fp2 : List Addr} {n1 n2 i : Nat} {P1 P2 : Nat → Value → Prop} {St1 St2 : Nat → Heap → Prop} {a1 a2 : Value} {f : Value} {b : Bool}
end
end Sim
namespace Sim
open PySem PySem.Spec L2
open Sem (wp)
end Sim
namespace Sim
open PySem PySem.Spec L2
open Sem (wp)
section
variable {prog : Program} {w : World} {A : Around} {E : Value → Shared → Prop} {k l : Bool} {z TI TO i1 i2 a b S : Addr} {xs ys : Array Value} {n0 : Nat}
/-- all but these stands -/
def KeepBut (fp : List Addr) (s s' : Shared) : Prop := (∀ c o, c ∉ fp → s.heap.get? c = some o → s'.heap.get? c = some o) ∧ s'.gens = s.gens ∧ s'.drawn = s.drawn ∧ s'.os = s.os
theorem KeepBut.trans {fp : List Addr} {s s' s'' : Shared} (h : KeepBut fp s s') (h' : KeepBut fp s' s'') : KeepBut fp s s'' :=
  ⟨fun c o q e => h'.1 c o q (h.1 c o q e), h'.2.1.trans h.2.1, h'.2.2.1.trans h.2.2.1, h'.2.2.2.trans h.2.2.2⟩
end
end Sim
namespace Sim
open PySem PySem.Spec L2 PySem.SeqAt
mutual
def flat : D → List Int
  | .int i => [i]
  | .tuple ds => flats ds
  | _ => []
def flats : List D → List Int
  | [] => []
  | d :: ds => flat d ++ flats ds
end
mutual
/-- of one shape, numbers within -/
def alike : D → D → Bool
  | .int _, .int _ => true
  | .tuple ds, .tuple es => alikes ds es
  | _, _ => false
def alikes : List D → List D → Bool
  | [], [] => true
  | d :: ds, e :: es => alike d e && alikes ds es
  | _, _ => false
end
mutual
/-- how deep, 0 a number -/
def deepD : D → Nat
  | .tuple ds => 1 + deepsD ds
  | _ => 0
def deepsD : List D → Nat
  | [] => 0
  | d :: ds => max (deepD d) (deepsD ds)
end
mutual
def Rn (h : Heap) : D → Value → Prop
  | .int i, v => ∃ t, v = .int i t
  | .tuple ds, v => ∃ a o xs n, v = .ref a ∧ h.get? a = some o ∧ o.cls = .type "tuple" ∧ o.data = .seq xs n ∧ Rns h ds xs.toList
  | _, _ => False
def Rns (h : Heap) : List D → List Value → Prop
  | [], [] => True
  | d :: ds, v :: vs => Rn h d v ∧ Rns h ds vs
  | _, _ => False
end
def lexI : List Int → List Int → Bool
  | [], [] => false
  | [], _ :: _ => true
  | _ :: _, [] => false
  | x :: xs, y :: ys => if x = y then lexI xs ys else decide (x < y)
theorem lexI_cons (x y : Int) (xs ys : List Int) : lexI (x :: xs) (y :: ys) = if x = y then lexI xs ys else decide (x < y) := rfl
theorem lexI_app : ∀ (a a' b b' : List Int), a.length = a'.length → lexI (a ++ b) (a' ++ b') = if a = a' then lexI b b' else lexI a a'
  | [], [], b, b', _ => by rw [if_pos rfl]; rfl
  | x :: a, y :: a', b, b', h => by
    have ih := lexI_app a a' b b' (by simpa using h)
    simp only [List.cons_append, lexI_cons]
    by_cases e : x = y
    · subst e
      simp only [if_true, ih]
      by_cases e2 : a = a'
      · simp [e2]
      · simp [e2]
    · simp [e]
  | [], _ :: _, _, _, h => by simp at h
  | _ :: _, [], _, _, h => by simp at h
theorem lexI_asym : ∀ a b : List Int, lexI a b = true → lexI b a = false
  | [], [], h => by cases h
  | [], _ :: _, _ => rfl
  | _ :: _, [], h => by cases h
  | x :: a, y :: b, h => by
    rw [lexI_cons] at h ⊢
    by_cases e : x = y
    · rw [if_pos e] at h
      rw [if_pos e.symm]
      exact lexI_asym a b h
    · rw [if_neg e] at h
      rw [if_neg (Ne.symm e)]
      have := of_decide_eq_true h
      exact decide_eq_false (by omega)
theorem lexI_tr : ∀ a b c : List Int, lexI b a = false → lexI c b = false → lexI c a = false
  | [], b, c, h1, h2 => by
    cases c with
    | nil => rfl
    | cons z c => rfl
  | x :: a, [], c, h1, h2 => by cases h1
  | x :: a, y :: b, [], h1, h2 => by cases h2
  | x :: a, y :: b, z :: c, h1, h2 => by
    rw [lexI_cons] at h1 h2 ⊢
    by_cases e1 : y = x
    · subst e1
      rw [if_pos rfl] at h1
      by_cases e2 : z = y
      · subst e2
        rw [if_pos rfl] at h2 ⊢
        exact lexI_tr a b c h1 h2
      · rw [if_neg e2] at h2 ⊢
        exact h2
    · rw [if_neg e1] at h1
      have g1 := of_decide_eq_false h1
      by_cases e2 : z = y
      · subst e2
        rw [if_neg e1]
        exact h1
      · rw [if_neg e2] at h2
        have g2 := of_decide_eq_false h2
        rw [if_neg (by omega)]
        exact decide_eq_false (by omega)
theorem swo_flat {α : Type} (k : α → List Int) : SrtO.Swo (fun v u : α => lexI (k v) (k u)) := ⟨fun x y h => lexI_asym _ _ h, fun x y z h1 h2 => lexI_tr _ _ _ h1 h2⟩
mutual
theorem alike_len : ∀ d e : D, alike d e = true → (flat d).length = (flat e).length
  | .int _, .int _, _ => rfl
  | .tuple ds, .tuple es, h => by
    have h : alikes ds es = true := by simpa [alike] using h
    exact alikes_len ds es h
  | .none, _, h | .bool _, _, h | .str _, _, h | .list _, _, h | .dict _, _, h => by simp [alike] at h
  | .int _, .none, h | .int _, .bool _, h | .int _, .str _, h | .int _, .list _, h | .int _, .dict _, h | .int _, .tuple _, h => by simp [alike] at h
  | .tuple _, .none, h | .tuple _, .bool _, h | .tuple _, .str _, h | .tuple _, .list _, h | .tuple _, .dict _, h | .tuple _, .int _, h => by simp [alike] at h
theorem alikes_len : ∀ ds es : List D, alikes ds es = true → (flats ds).length = (flats es).length
  | [], [], _ => rfl
  | d :: ds, e :: es, h => by
    simp only [alikes, Bool.and_eq_true] at h
    show (flat d ++ flats ds).length = (flat e ++ flats es).length
    rw [List.length_append, List.length_append, alike_len d e h.1, alikes_len ds es h.2]
  | [], _ :: _, h | _ :: _, [], h => by simp [alikes] at h
end
theorem alikes_size : ∀ ds es : List D, alikes ds es = true → ds.length = es.length
  | [], [], _ => rfl
  | d :: ds, e :: es, h => by
    simp only [alikes, Bool.and_eq_true] at h
    exact congrArg (· + 1) (alikes_size ds es h.2)
  | [], _ :: _, h | _ :: _, [], h => by simp [alikes] at h
theorem app_inj {a a' b b' : List Int} (h : a.length = a'.length) : a ++ b = a' ++ b' ↔ a = a' ∧ b = b' := ⟨fun e => List.append_inj e h, fun ⟨e, e'⟩ => by rw [e, e']⟩
theorem Rns.len : ∀ {h : Heap} {ds : List D} {vs : List Value}, Rns h ds vs → vs.length = ds.length
  | _, [], [], _ => rfl
  | _, d :: ds, v :: vs, r => congrArg (· + 1) (Rns.len r.2)
  | _, [], _ :: _, r => r.elim
  | _, _ :: _, [], r => r.elim
/-- keeps all tuples -/
def KeepT (h h' : Heap) : Prop := ∀ b o, h.get? b = some o → o.cls = .type "tuple" → h'.get? b = some o
mutual
theorem Rn.keep {h h' : Heap} (k : KeepT h h') : ∀ {d : D} {v : Value}, Rn h d v → Rn h' d v
  | .int _, _, r => r
  | .tuple ds, _, ⟨a, o, xs, n, e, ho, hc, hd, r⟩ => ⟨a, o, xs, n, e, k a o ho hc, hc, hd, Rns.keep k r⟩
  | .none, _, r | .bool _, _, r | .str _, _, r | .list _, _, r | .dict _, _, r => r.elim
theorem Rns.keep {h h' : Heap} (k : KeepT h h') : ∀ {ds : List D} {vs : List Value}, Rns h ds vs → Rns h' ds vs
  | [], [], _ => trivial
  | _ :: _, _ :: _, r => ⟨Rn.keep k r.1, Rns.keep k r.2⟩
  | [], _ :: _, r => r.elim
  | _ :: _, [], r => r.elim
end
mutual
theorem Rn.inj {h : Heap} : ∀ {d d' : D} {v : Value}, Rn h d v → Rn h d' v → d = d'
  | .int i, d', v, ⟨t, e⟩, r' => by
    subst e
    cases d' with
    | int j => obtain ⟨u, e⟩ := r'; cases e; rfl
    | tuple es => obtain ⟨a, o, xs, n, e, _⟩ := r'; cases e
    | _ => exact r'.elim
  | .tuple ds, d', v, ⟨a, o, xs, n, e, ho, hc, hd, r⟩, r' => by
    subst e
    cases d' with
    | int j => obtain ⟨u, e⟩ := r'; cases e
    | tuple es =>
      obtain ⟨a', o', xs', n', e', ho', hc', hd', r'⟩ := r'
      cases e'
      rw [ho] at ho'
      cases ho'
      rw [hd] at hd'
      cases hd'
      rw [Rns.inj r r']
    | _ => exact r'.elim
  | .none, _, _, r, _ | .bool _, _, _, r, _ | .str _, _, _, r, _ | .list _, _, _, r, _ | .dict _, _, _, r, _ => r.elim
theorem Rns.inj {h : Heap} : ∀ {ds ds' : List D} {vs : List Value}, Rns h ds vs → Rns h ds' vs → ds = ds'
  | [], [], _, _, _ => rfl
  | d :: ds, d' :: ds', v :: vs, r, r' => by rw [Rn.inj r.1 r'.1, Rns.inj r.2 r'.2]
  | [], _ :: _, [], _, r' => r'.elim
  | [], _ :: _, _ :: _, r, _ => r.elim
  | _ :: _, [], [], r, _ => r.elim
  | _ :: _, [], _ :: _, _, r' => r'.elim
  | _ :: _, _ :: _, [], r, _ => r.elim
end
theorem Rns.at {h : Heap} : ∀ {ds : List D} {vs : List Value}, Rns h ds vs → ∀ (j : Nat) (l : j < vs.length) (l2 : j < ds.length), Rn h ds[j] vs[j]
  | d :: ds, v :: vs, r, 0, _, _ => r.1
  | d :: ds, v :: vs, r, j + 1, l, l2 => Rns.at r.2 j (by simpa using l) (by simpa using l2)
  | [], [], _, _, l, _ => absurd l (by simp)
  | [], _ :: _, r, _, _, _ => r.elim
  | _ :: _, [], r, _, _, _ => r.elim
theorem alikes_at : ∀ {ds es : List D}, alikes ds es = true → ∀ (j : Nat) (l : j < ds.length) (l2 : j < es.length), alike ds[j] es[j] = true
  | d :: ds, e :: es, h, 0, _, _ => by simp only [alikes, Bool.and_eq_true] at h; exact h.1
  | d :: ds, e :: es, h, j + 1, l, l2 => by simp only [alikes, Bool.and_eq_true] at h; exact alikes_at h.2 j (by simpa using l) (by simpa using l2)
  | [], _, _, _, l, _ => absurd l (by simp)
  | _ :: _, [], _, _, _, l => absurd l (by simp)
theorem deeps_at : ∀ (ds : List D) (j : Nat) (l : j < ds.length), deepD ds[j] ≤ deepsD ds
  | d :: ds, 0, _ => Nat.le_max_left _ _
  | d :: ds, j + 1, l => Nat.le_trans (deeps_at ds j (by simpa using l)) (Nat.le_max_right _ _)
  | [], _, l => absurd l (by simp)
theorem all_flats : ∀ (ds es : List D), alikes ds es = true → (List.range ds.length).all (fun j => decide (flat (ds.getD j .none) = flat (es.getD j .none))) = decide (flats ds = flats es)
  | [], [], _ => by simp [flats]
  | d :: ds, e :: es, h => by
    simp only [alikes, Bool.and_eq_true] at h
    have ih := all_flats ds es h.2
    rw [List.length_cons, List.range_succ_eq_map, List.all_cons, List.all_map]
    have e1 : ((fun j => decide (flat ((d :: ds).getD j .none) = flat ((e :: es).getD j .none))) ∘ Nat.succ) = fun j => decide (flat (ds.getD j .none) = flat (es.getD j .none)) := by funext j; simp
    rw [e1, ih]
    show (decide (flat d = flat e) && decide (flats ds = flats es)) = decide (flat d ++ flats ds = flat e ++ flats es)
    have := app_inj (b := flats ds) (b' := flats es) (alike_len d e h.1)
    rw [← Bool.decide_and]
    exact decide_eq_decide.mpr this.symm
  | [], _ :: _, h | _ :: _, [], h => by simp [alikes] at h
theorem firstLt_flats (ds es : List D) : ∀ (n i : Nat) , alikes ds es = true → ds.length - i = n → i ≤ ds.length →
    firstLt (fun j => decide (flat (ds.getD j .none) = flat (es.getD j .none))) (fun j => lexI (flat (ds.getD j .none)) (flat (es.getD j .none))) false ((List.range ds.length).drop i) = lexI (flats (ds.drop i)) (flats (es.drop i)) := by
  intro n
  induction n with
  | zero =>
    intro i h hn hi
    have e : i = ds.length := by omega
    subst e
    rw [List.drop_of_length_le (by simp), List.drop_of_length_le (Nat.le_refl _), List.drop_of_length_le (by rw [alikes_size ds es h]; exact Nat.le_refl _)]
    rfl
  | succ n ih =>
    intro i h hn hi
    have l : i < ds.length := by omega
    have l2 : i < es.length := by rw [← alikes_size ds es h]; exact l
    have hd : (List.range ds.length).drop i = i :: (List.range ds.length).drop (i + 1) := by rw [List.drop_eq_getElem_cons (by simpa using l)]; simp
    rw [hd, List.drop_eq_getElem_cons l, List.drop_eq_getElem_cons l2]
    show _ = lexI (flat ds[i] ++ flats (ds.drop (i + 1))) (flat es[i] ++ flats (es.drop (i + 1)))
    rw [lexI_app _ _ _ _ (alike_len _ _ (alikes_at h i l l2))]
    have g1 : ds.getD i .none = ds[i] := by simp [List.getD, l]
    have g2 : es.getD i .none = es[i] := by simp [List.getD, l2]
    by_cases c : flat ds[i] = flat es[i]
    · rw [firstLt_yes (by rw [g1, g2]; exact decide_eq_true c), if_pos c]
      exact ih (i + 1) h (by omega) (by omega)
    · rw [firstLt_no (by rw [g1, g2]; exact decide_eq_false c), if_neg c, g1, g2]
theorem rn_eq : ∀ (m : Nat) (d e : D), deepD d < m → ∀ {A : Around} {s : Shared} {v u : Value}, Rn s.heap d v → Rn s.heap e u → alike d e = true → A.units + deepD d < cLine → EqAt A s v u (decide (flat d = flat e))
  | 0, _, _, h, _, _, _, _, _, _, _, _ => absurd h (Nat.not_lt_zero _)
  | m + 1, d, e, hm, A, s, v, u, r, r', h, hu => by
    cases d with
    | int i =>
      cases e with
      | int j =>
        obtain ⟨t, e1⟩ := r
        obtain ⟨t', e2⟩ := r'
        subst e1 e2
        have := EqAt.int_int (A := A) (s := s) i t j t'
        have e : decide (flat (.int i) = flat (.int j)) = (i == j) := by
          show decide ([i] = [j]) = _
          by_cases c : i = j
          · subst c; simp
          · simp [c]
        rw [e]; exact this
      | _ => simp [alike] at h
    | tuple ds =>
      cases e with
      | tuple es =>
        obtain ⟨a, o, xs, n, e1, ho, hc, hd, r⟩ := r
        obtain ⟨a', o', xs', n', e2, ho', hc', hd', r'⟩ := r'
        have h : alikes ds es = true := by simpa [alike] using h
        have hu : A.units + (1 + deepsD ds) < cLine := hu
        have hm : 1 + deepsD ds < m + 1 := hm
        subst e1 e2
        by_cases c : a = a'
        · subst c
          rw [ho] at ho'
          cases ho'
          rw [hd] at hd'
          cases hd'
          have := Rns.inj r r'
          subst this
          rw [decide_eq_true rfl]
          exact EqAt.same _
        · have l1 := Rns.len r
          have l2 := Rns.len r'
          have ls := alikes_size ds es h
          rw [Array.length_toList] at l1 l2
          have k := RcAt.tuples (A := A) (s := s) (e := fun j => decide (flat (ds.getD j .none) = flat (es.getD j .none))) ⟨o, ho, hc, n, hd⟩ ⟨o', ho', hc', n', hd'⟩ (by omega) (fun j h1 h2 => ?_)
          · refine EqAt.of_refs c ?_
            have e3 : ((List.range (min xs.size xs'.size)).all (fun j => decide (flat (ds.getD j .none) = flat (es.getD j .none))) && xs.size == xs'.size) = decide (flat (.tuple ds) = flat (.tuple es)) := by
              rw [l1, l2, ← ls, Nat.min_self, all_flats ds es h]
              simp only [flat, BEq.rfl, Bool.and_true]
              exact decide_eq_decide.mpr Iff.rfl
            rw [e3] at k
            exact k
          · have q1 : j < ds.length := by omega
            have q2 : j < es.length := by omega
            have g1 : ds.getD j .none = ds[j] := by simp [List.getD, q1]
            have g2 : es.getD j .none = es[j] := by simp [List.getD, q2]
            rw [g1, g2]
            have z1 := Rns.at r j (by simpa using h1) q1
            have z2 := Rns.at r' j (by simpa using h2) q2
            rw [Array.getElem_toList] at z1 z2
            have := deeps_at ds j q1
            exact rn_eq m ds[j] es[j] (by omega) z1 z2 (alikes_at h j q1 q2) (by show A.units + 1 + _ < _; omega)
      | _ => simp [alike] at h
    | _ => exact r.elim
theorem rn_lt : ∀ (m : Nat) (d e : D), deepD d < m → ∀ {A : Around} {s : Shared} {v u : Value}, Rn s.heap d v → Rn s.heap e u → alike d e = true → A.units + deepD d < cLine → RcLt A s v u (lexI (flat d) (flat e))
  | 0, _, _, h, _, _, _, _, _, _, _, _ => absurd h (Nat.not_lt_zero _)
  | m + 1, d, e, hm, A, s, v, u, r, r', h, hu => by
    cases d with
    | int i =>
      cases e with
      | int j =>
        obtain ⟨t, e1⟩ := r
        obtain ⟨t', e2⟩ := r'
        subst e1 e2
        intro prog w E Q q
        have e : lexI (flat (.int i)) (flat (.int j)) = decide (i < j) := by
          show lexI [i] [j] = _
          rw [lexI_cons]
          by_cases c : i = j
          · subst c; simp [lexI]
          · rw [if_neg c]
        rw [e] at q
        exact (PyProof.Rows.lt_int q : wpAny (model prog w) A (compareOp .Lt (.int i t) (.int j t')) Q E s)
      | _ => simp [alike] at h
    | tuple ds =>
      cases e with
      | tuple es =>
        obtain ⟨a, o, xs, n, e1, ho, hc, hd, r⟩ := r
        obtain ⟨a', o', xs', n', e2, ho', hc', hd', r'⟩ := r'
        have h : alikes ds es = true := by simpa [alike] using h
        have hu : A.units + (1 + deepsD ds) < cLine := hu
        have hm : 1 + deepsD ds < m + 1 := hm
        subst e1 e2
        have l1 := Rns.len r
        have l2 := Rns.len r'
        have ls := alikes_size ds es h
        rw [Array.length_toList] at l1 l2
        have it : ∀ j (h1 : j < xs.size) (h2 : j < xs'.size), Rn s.heap (ds.getD j .none) xs[j] ∧ Rn s.heap (es.getD j .none) xs'[j] ∧ alike (ds.getD j .none) (es.getD j .none) = true ∧ deepD (ds.getD j .none) ≤ deepsD ds := fun j h1 h2 => by
          have q1 : j < ds.length := by omega
          have q2 : j < es.length := by omega
          have g1 : ds.getD j .none = ds[j] := by simp [List.getD, q1]
          have g2 : es.getD j .none = es[j] := by simp [List.getD, q2]
          rw [g1, g2]
          have z1 := Rns.at r j (by simpa using h1) q1
          have z2 := Rns.at r' j (by simpa using h2) q2
          rw [Array.getElem_toList] at z1 z2
          exact ⟨z1, z2, alikes_at h j q1 q2, deeps_at ds j q1⟩
        have k := RcLt.tuples (A := A) (s := s) (e := fun j => decide (flat (ds.getD j .none) = flat (es.getD j .none))) (r := fun j => lexI (flat (ds.getD j .none)) (flat (es.getD j .none))) ⟨o, ho, hc, n, hd⟩ ⟨o', ho', hc', n', hd'⟩ (by omega)
          (fun j h1 h2 => by
            obtain ⟨z1, z2, z3, z4⟩ := it j h1 h2
            exact rn_eq m _ _ (by omega) z1 z2 z3 (by show A.units + 1 + _ < _; omega))
          (fun j h1 h2 _ => by
            obtain ⟨z1, z2, z3, z4⟩ := it j h1 h2
            exact rn_lt m _ _ (by omega) z1 z2 z3 (by show A.units + 1 + _ < _; omega))
        have e3 : firstLt (fun j => decide (flat (ds.getD j .none) = flat (es.getD j .none))) (fun j => lexI (flat (ds.getD j .none)) (flat (es.getD j .none))) (decide (xs.size < xs'.size)) (List.range (min xs.size xs'.size)) = lexI (flat (.tuple ds)) (flat (.tuple es)) := by
          rw [l1, l2, ← ls, Nat.min_self, decide_eq_false (Nat.lt_irrefl _)]
          exact firstLt_flats ds es _ 0 h rfl (Nat.zero_le _)
        rw [e3] at k
        exact k
      | _ => simp [alike] at h
    | _ => exact r.elim
section
variable {prog : Program} {w : World} {A : Around} {s : Shared}
theorem kat_rn {b : Bool} {Q : Bool → Shared → Prop} {B : Nat} (hu : A.units + B < cLine) : ∀ (ds es : List D) (vs us : List Value) (i : Nat), Rns s.heap ds vs → Rns s.heap es us → alikes ds es = true → deepsD ds ≤ B → (i = 0 → b = true → ∀ d ∈ ds.head?, ∃ n, d = .int n) →
    Q (lexI (flats ds) (flats es)) s → PySem.W.KatLex prog w A b false Q (vs.zip us) i s
  | [], [], [], [], _, _, _, _, _, _, q => q
  | d :: ds, e :: es, v :: vs, u :: us, i, r, r', h, hB, h0, q => by
    simp only [alikes, Bool.and_eq_true] at h
    have hB : max (deepD d) (deepsD ds) ≤ B := hB
    have q : Q (lexI (flat d ++ flats ds) (flat e ++ flats es)) s := q
    rw [lexI_app _ _ _ _ (alike_len d e h.1)] at q
    refine PySem.W.kat_cons (rn_eq _ d e (Nat.lt_succ_self _) r.1 r'.1 h.1 (by omega) prog w _ _ ?_)
    refine PySem.W.kat_go (fun c => ?_) (fun c => ?_)
    · have c := of_decide_eq_true c
      rw [if_pos c] at q
      exact PySem.W.kat_yes (kat_rn hu ds es vs us (i + 1) r.2 r'.2 h.2 (by omega) (fun z => absurd z (by omega)) q)
    · have c := of_decide_eq_false c
      rw [if_neg c] at q
      refine PySem.W.kat_no ?_
      by_cases z : (b && i == 0) = true
      · rw [z]
        obtain ⟨n, rfl⟩ := h0 (by simpa using (Bool.and_eq_true_iff.mp z).2) (Bool.and_eq_true_iff.mp z).1 d rfl
        cases e with
        | int m =>
          obtain ⟨t, e1⟩ := r.1
          obtain ⟨t', e2⟩ := r'.1
          subst e1 e2
          have e3 : lexI (flat (.int n)) (flat (.int m)) = decide (n < m) := by
            show lexI [n] [m] = _
            rw [lexI_cons, if_neg (fun x => c (by rw [x]))]
          rw [e3] at q
          exact PyProof.Rows.oneLt_int q
        | _ => simp [alike] at h
      · have z : (b && i == 0) = false := by simpa using z
        rw [z]
        exact PySem.W.kat_one _ _ (rn_lt _ d e (Nat.lt_succ_self _) r.1 r'.1 h.1 (by omega) prog w _ _ q)
  | [], [], _ :: _, _, _, r, _, _, _, _, _ => r.elim
  | [], [], [], _ :: _, _, _, r, _, _, _, _ => r.elim
  | _ :: _, _, [], _, _, r, _, _, _, _, _ => r.elim
  | _ :: _, _ :: _, _ :: _, [], _, _, r, _, _, _, _ => r.elim
  | [], _ :: _, _, _, _, _, _, h, _, _, _ | _ :: _, [], _, _, _, _, _, h, _, _, _ => by simp [alikes] at h
end
end Sim
namespace Sim
open PySem PySem.Spec L2 PySem.SeqAt SrtO
section
variable {prog : Program} {w : World} {A : Around} {s : Shared}
theorem rn_firsts {h : Heap} {k : Value → D} : ∀ {vs : List Value}, (∀ v ∈ vs, ∃ c cs, k v = .tuple (c :: cs) ∧ Rn h (k v) v) → ∃ fs : List Value, PySem.W.KatTups h vs fs ∧ fs.length = vs.length ∧ ∀ f ∈ fs, ∃ v ∈ vs, ∃ c cs, k v = .tuple (c :: cs) ∧ Rn h c f
  | [], _ => ⟨[], PySem.W.KatTups.nil, rfl, fun _ hm => by simp at hm⟩
  | v :: vs, hp => by
    obtain ⟨fs, h1, h2, h3⟩ := rn_firsts (vs := vs) fun v' hm => hp v' (List.mem_cons_of_mem _ hm)
    obtain ⟨c, cs, e, r⟩ := hp v (List.mem_cons_self ..)
    rw [e] at r
    obtain ⟨a, o, xs, n, e2, ho, hc, hd, r⟩ := r
    subst e2
    obtain ⟨xl⟩ := xs
    cases xl with
    | nil => exact r.elim
    | cons x xl =>
      refine ⟨x :: fs, PySem.W.KatTups.cons ho hc hd (by simp) h1, by rw [List.length_cons, List.length_cons, h2], fun f hm => ?_⟩
      rcases List.mem_cons.mp hm with rfl | hm
      · exact ⟨_, List.mem_cons_self .., c, cs, e, r.1⟩
      · obtain ⟨v', m', z⟩ := h3 f hm
        exact ⟨v', List.mem_cons_of_mem _ m', z⟩
theorem rn_sortable {a : Addr} {vs : List Value} {k : Value → D} {B : Nat} (h0 : 0 < vs.length) (hr : ∀ v ∈ vs, ∃ c cs, k v = .tuple (c :: cs) ∧ Rn s.heap (k v) v) (hal : ∀ v ∈ vs, ∀ u ∈ vs, alike (k v) (k u) = true) (hB : ∀ v ∈ vs, deepD (k v) ≤ B) (hu : A.units + B < cLine)
    (ha : ∀ o, s.heap.get? a = some o → o.cls ≠ .type "tuple") : SortableO prog w A s a vs fun v u => lexI (flat (k v)) (flat (k u)) := by
  intro h' keep
  have hk : KeepT s.heap h' := fun b o e c => keep b o (fun z => by subst z; exact ha o e c) e
  have hp : ∀ v ∈ vs, ∃ c cs, k v = .tuple (c :: cs) ∧ Rn h' (k v) v := fun v hm => by
    obtain ⟨c, cs, e, r⟩ := hr v hm
    exact ⟨c, cs, e, r.keep hk⟩
  obtain ⟨fs, h1, h2, h3⟩ := rn_firsts hp
  obtain ⟨v0, hv0⟩ : ∃ v0, v0 ∈ vs := by
    cases vs with
    | nil => exact absurd h0 (by simp)
    | cons v vs => exact ⟨v, List.mem_cons_self ..⟩
  obtain ⟨c0, cs0, e0, r0⟩ := hp v0 hv0
  -- the comparison, whichever kind
  have cmp : ∀ b : Bool, (b = true → ∃ n, c0 = .int n) → Cmp prog w A { s with heap := h' } (PyProof.Rows.tuples' b) (fun p => p.1 ∈ vs) (lt2 fun v u => lexI (flat (k v)) (flat (k u))) := by
    intro b hb p q hm hm'
    obtain ⟨c, cs, e, r⟩ := hp _ hm
    obtain ⟨c', cs', e', r'⟩ := hp _ hm'
    have al := hal _ hm _ hm'
    have al0 := hal _ hm _ hv0
    have dB := hB _ hm
    show wpAny (model prog w) A (PyProof.Rows.keyLt' (PyProof.Rows.tuples' b) p.1 q.1) (fun z s' => s' = { s with heap := h' } ∧ z = lexI (flat (k p.1)) (flat (k q.1))) (fun _ _ => False) { s with heap := h' }
    rw [e] at r al al0 dB ⊢
    rw [e'] at r' al ⊢
    rw [e0] at al0
    obtain ⟨a, o, xs, n, ev, ho, hc, hd, r⟩ := r
    obtain ⟨a', o', xs', n', ev', ho', hc', hd', r'⟩ := r'
    rw [ev, ev']
    have l1 := Rns.len r
    have l2 := Rns.len r'
    have al : alikes (c :: cs) (c' :: cs') = true := by simpa [alike] using al
    have al0 : alikes (c :: cs) (c0 :: cs0) = true := by simpa [alike] using al0
    have ls := alikes_size _ _ al
    rw [Array.length_toList] at l1 l2
    have dB : 1 + deepsD (c :: cs) ≤ B := dB
    refine PySem.W.kat_lt ho hd ho' hd' ?_
    rw [show decide (xs.size < xs'.size) = false from decide_eq_false (by omega)]
    refine kat_rn (s := { s with heap := h' }) (B := B) hu (c :: cs) (c' :: cs') _ _ 0 r r' al (by omega) (fun _ hb' d hd => ?_) ⟨rfl, rfl⟩
    have : d = c := by simpa using hd.symm
    subst this
    obtain ⟨n, rfl⟩ := hb hb'
    simp only [alikes, Bool.and_eq_true] at al0
    cases d with
    | int m => exact ⟨m, rfl⟩
    | _ => simp [alike] at al0
  have frs : ∀ f ∈ fs, ∃ c, Rn h' c f ∧ alike c c0 = true := fun f hf => by
    obtain ⟨v, hv, c, cs, e, r⟩ := h3 f hf
    refine ⟨c, r, ?_⟩
    have := hal v hv v0 hv0
    rw [e, e0] at this
    have : alikes (c :: cs) (c0 :: cs0) = true := by simpa [alike] using this
    simp only [alikes, Bool.and_eq_true] at this
    exact this.1
  cases c0 with
  | int n0 =>
    refine ⟨PyProof.Rows.tuples' true, fun Q E hq => ?_, cmp true fun _ => ⟨_, rfl⟩⟩
    refine PySem.W.kat_kind (s := { s with heap := h' }) (T := .type "int") h1 (by omega) (fun f hm => ?_) (by rfl) ?_
    · obtain ⟨c, r, al⟩ := frs f hm
      cases c with
      | int m =>
        obtain ⟨t, rfl⟩ := r
        exact PySem.W.Looks.now
      | _ => simp [alike] at al
    · have e : (Value.type "int" != Value.type "tuple") = true := by first | decide +kernel | rfl | decide
      rw [e]
      exact hq
  | tuple ds0 =>
    refine ⟨PyProof.Rows.tuples' false, fun Q E hq => ?_, cmp false fun z => by cases z⟩
    refine PySem.W.kat_kind (s := { s with heap := h' }) (T := .type "tuple") h1 (by omega) (fun f hm => ?_) (by rfl) ?_
    · obtain ⟨c, r, al⟩ := frs f hm
      cases c with
      | tuple es =>
        obtain ⟨a, o, xs, n, rfl, ho, hc, hd, _⟩ := r
        have z : PySem.W.Looks (model prog w) h' (typeOf (.ref a)) o.cls := (PySem.W.Looks.ld ho).andThen .now
        rw [hc] at z
        exact z
      | _ => simp [alike] at al
    · have e : (Value.type "tuple" != Value.type "tuple") = false := by first | decide +kernel | rfl | decide
      rw [e]
      exact hq
  | none => have z := hal v0 hv0 v0 hv0; rw [e0] at z; simp [alike, alikes] at z
  | bool _ => have z := hal v0 hv0 v0 hv0; rw [e0] at z; simp [alike, alikes] at z
  | str _ => have z := hal v0 hv0 v0 hv0; rw [e0] at z; simp [alike, alikes] at z
  | list _ => have z := hal v0 hv0 v0 hv0; rw [e0] at z; simp [alike, alikes] at z
  | dict _ => have z := hal v0 hv0 v0 hv0; rw [e0] at z; simp [alike, alikes] at z
end
section
variable {α : Type}
def insF (k : α → List Int) (d : α) : List α → List α
  | [] => [d]
  | e :: l => if lexI (k e) (k d) = true then e :: insF k d l else d :: e :: l
def sortF (k : α → List Int) : List α → List α
  | [] => []
  | d :: l => insF k d (sortF k l)
theorem insF_perm (k : α → List Int) (d : α) : ∀ l, (insF k d l).Perm (d :: l)
  | [] => .refl _
  | e :: l => by
    unfold insF
    split
    · exact ((insF_perm k d l).cons e).trans (.swap d e l)
    · exact .refl _
theorem sortF_perm (k : α → List Int) : ∀ l : List α, (sortF k l).Perm l
  | [] => .refl _
  | d :: l => (insF_perm k d _).trans ((sortF_perm k l).cons d)
abbrev ltF (k : α → List Int) (x y : α) : Bool := lexI (k x) (k y)
theorem insF_srt (k : α → List Int) (d : α) : ∀ l, Srtd (ltF k) l → Srtd (ltF k) (insF k d l)
  | [], _ => List.pairwise_singleton _ _
  | e :: l, h => by
    obtain ⟨h1, h2⟩ := List.pairwise_cons.mp h
    unfold insF
    split
    · rename_i c
      refine List.pairwise_cons.mpr ⟨fun x hx => ?_, insF_srt k d l h2⟩
      rcases List.mem_cons.mp ((insF_perm k d l).mem_iff.mp hx) with rfl | hx
      · exact lexI_asym _ _ c
      · exact h1 x hx
    · rename_i c
      have c : lexI (k e) (k d) = false := by simpa using c
      refine List.pairwise_cons.mpr ⟨fun x hx => ?_, h⟩
      rcases List.mem_cons.mp hx with rfl | hx
      · exact c
      · exact lexI_tr _ _ _ c (h1 x hx)
theorem sortF_srt (k : α → List Int) : ∀ l : List α, Srtd (ltF k) (sortF k l)
  | [] => .nil
  | d :: l => insF_srt k d _ (sortF_srt k l)
theorem insF_stb (k : α → List Int) (d : α) : ∀ l, Stb (ltF k) (insF k d l) (d :: l)
  | [] => Stb.refl _
  | e :: l => by
    have ih := insF_stb k d l
    unfold insF
    split
    · rename_i c
      refine ⟨(ih.perm.cons e).trans (.swap d e l), fun x => ?_⟩
      have z := ih.cls x
      -- not both are as x
      by_cases q1 : eqv (ltF k) x e = true
      · have q2 : ¬ eqv (ltF k) x d = true := fun q2 => by
          have a1 := eqv_iff.mp q1
          have a2 := eqv_iff.mp q2
          have := lexI_tr _ _ _ a2.1 a1.2
          have c' : lexI (k e) (k d) = true := c
          rw [this] at c'
          cases c'
        rw [List.filter_cons_of_pos q1, z, List.filter_cons_of_neg q2, List.filter_cons_of_neg q2, List.filter_cons_of_pos q1]
      · rw [List.filter_cons_of_neg q1, z]
        by_cases q2 : eqv (ltF k) x d = true
        · rw [List.filter_cons_of_pos q2, List.filter_cons_of_pos q2, List.filter_cons_of_neg q1]
        · rw [List.filter_cons_of_neg q2, List.filter_cons_of_neg q2, List.filter_cons_of_neg q1]
    · exact Stb.refl _
theorem sortF_stb (k : α → List Int) : ∀ l : List α, Stb (ltF k) (sortF k l) l
  | [] => Stb.refl _
  | d :: l => by
    have h1 := insF_stb k d (sortF k l)
    have h2 := sortF_stb k l
    refine ⟨h1.perm.trans (h2.perm.cons d), fun x => (h1.cls x).trans ?_⟩
    by_cases q : eqv (ltF k) x d = true
    · rw [List.filter_cons_of_pos q, List.filter_cons_of_pos q, h2.cls x]
    · rw [List.filter_cons_of_neg q, List.filter_cons_of_neg q, h2.cls x]
theorem sortF_uniq {k : α → List Int} {l m : List α} (h1 : Srtd (ltF k) l) (h2 : Stb (ltF k) l m) : l = sortF k m := by
  refine stb_uniq (swo_flat k) h1 (sortF_srt k m) ⟨h2.perm.trans (sortF_perm k m).symm, fun x => ?_⟩
  rw [h2.cls x, (sortF_stb k m).cls x]
end
/-- what can be sorted so: tuples, not empty, of one shape, not deep -/
def okN : List D → Bool
  | [] => true
  | d :: ds => (match d with | .tuple (_ :: _) => true | _ => false) && decide (deepD d ≤ 8) && (d :: ds).all fun e => alike d e
mutual
theorem alike_symm : ∀ d e : D, alike d e = true → alike e d = true
  | .int _, .int _, _ => rfl
  | .tuple ds, .tuple es, h => by
    have h : alikes ds es = true := by simpa [alike] using h
    show alikes es ds = true
    exact alikes_symm ds es h
  | .none, _, h | .bool _, _, h | .str _, _, h | .list _, _, h | .dict _, _, h => by simp [alike] at h
  | .int _, .none, h | .int _, .bool _, h | .int _, .str _, h | .int _, .list _, h | .int _, .dict _, h | .int _, .tuple _, h => by simp [alike] at h
  | .tuple _, .none, h | .tuple _, .bool _, h | .tuple _, .str _, h | .tuple _, .list _, h | .tuple _, .dict _, h | .tuple _, .int _, h => by simp [alike] at h
theorem alikes_symm : ∀ ds es : List D, alikes ds es = true → alikes es ds = true
  | [], [], _ => rfl
  | d :: ds, e :: es, h => by
    simp only [alikes, Bool.and_eq_true] at h ⊢
    exact ⟨alike_symm d e h.1, alikes_symm ds es h.2⟩
  | [], _ :: _, h | _ :: _, [], h => by simp [alikes] at h
end
mutual
theorem alike_trans : ∀ d e f : D, alike d e = true → alike e f = true → alike d f = true
  | .int _, .int _, .int _, _, _ => rfl
  | .tuple ds, .tuple es, .tuple fs, h, h2 => by
    have h : alikes ds es = true := by simpa [alike] using h
    have h2 : alikes es fs = true := by simpa [alike] using h2
    show alikes ds fs = true
    exact alikes_trans ds es fs h h2
  | .none, _, _, h, _ | .bool _, _, _, h, _ | .str _, _, _, h, _ | .list _, _, _, h, _ | .dict _, _, _, h, _ => by simp [alike] at h
  | .int _, .none, _, h, _ | .int _, .bool _, _, h, _ | .int _, .str _, _, h, _ | .int _, .list _, _, h, _ | .int _, .dict _, _, h, _ | .int _, .tuple _, _, h, _ => by simp [alike] at h
  | .tuple _, .none, _, h, _ | .tuple _, .bool _, _, h, _ | .tuple _, .str _, _, h, _ | .tuple _, .list _, _, h, _ | .tuple _, .dict _, _, h, _ | .tuple _, .int _, _, h, _ => by simp [alike] at h
  | .int _, .int _, .none, _, h | .int _, .int _, .bool _, _, h | .int _, .int _, .str _, _, h | .int _, .int _, .list _, _, h | .int _, .int _, .dict _, _, h | .int _, .int _, .tuple _, _, h => by simp [alike] at h
  | .tuple _, .tuple _, .none, _, h | .tuple _, .tuple _, .bool _, _, h | .tuple _, .tuple _, .str _, _, h | .tuple _, .tuple _, .list _, _, h | .tuple _, .tuple _, .dict _, _, h | .tuple _, .tuple _, .int _, _, h => by simp [alike] at h
theorem alikes_trans : ∀ ds es fs : List D, alikes ds es = true → alikes es fs = true → alikes ds fs = true
  | [], [], [], _, _ => rfl
  | d :: ds, e :: es, f :: fs, h, h2 => by
    simp only [alikes, Bool.and_eq_true] at h h2 ⊢
    exact ⟨alike_trans d e f h.1 h2.1, alikes_trans ds es fs h.2 h2.2⟩
  | [], _ :: _, _, h, _ | _ :: _, [], _, h, _ => by simp [alikes] at h
  | [], [], _ :: _, _, h | _ :: _, _ :: _, [], _, h => by simp [alikes] at h
end
mutual
theorem alike_deep : ∀ d e : D, alike d e = true → deepD d = deepD e
  | .int _, .int _, _ => rfl
  | .tuple ds, .tuple es, h => by
    have h : alikes ds es = true := by simpa [alike] using h
    show 1 + deepsD ds = 1 + deepsD es
    rw [alikes_deep ds es h]
  | .none, _, h | .bool _, _, h | .str _, _, h | .list _, _, h | .dict _, _, h => by simp [alike] at h
  | .int _, .none, h | .int _, .bool _, h | .int _, .str _, h | .int _, .list _, h | .int _, .dict _, h | .int _, .tuple _, h => by simp [alike] at h
  | .tuple _, .none, h | .tuple _, .bool _, h | .tuple _, .str _, h | .tuple _, .list _, h | .tuple _, .dict _, h | .tuple _, .int _, h => by simp [alike] at h
theorem alikes_deep : ∀ ds es : List D, alikes ds es = true → deepsD ds = deepsD es
  | [], [], _ => rfl
  | d :: ds, e :: es, h => by
    simp only [alikes, Bool.and_eq_true] at h
    show max _ _ = max _ _
    rw [alike_deep d e h.1, alikes_deep ds es h.2]
  | [], _ :: _, h | _ :: _, [], h => by simp [alikes] at h
end
theorem okN_all {ds : List D} (h : okN ds = true) : ∀ d ∈ ds, (∃ c cs, d = .tuple (c :: cs)) ∧ deepD d ≤ 8 ∧ ∀ e ∈ ds, alike d e = true := by
  cases ds with
  | nil => intro d hd; cases hd
  | cons d0 ds =>
    simp only [okN, Bool.and_eq_true, decide_eq_true_eq, List.all_eq_true] at h
    obtain ⟨⟨h1, h2⟩, h3⟩ := h
    have h0 : ∃ c cs, d0 = .tuple (c :: cs) := by
      split at h1
      · exact ⟨_, _, rfl⟩
      · cases h1
    intro d hd
    have z := h3 d hd
    refine ⟨?_, by rw [← alike_deep _ _ z]; exact h2, fun e he => alike_trans _ _ _ (alike_symm _ _ z) (h3 e he)⟩
    obtain ⟨c, cs, rfl⟩ := h0
    cases d with
    | tuple es =>
      cases es with
      | nil => simp [alike, alikes] at z
      | cons e es => exact ⟨e, es, rfl⟩
    | _ => simp [alike] at z
section
variable {X : Cx} {pins : List (Addr × Obj)} {σ : St} {H : Hp} {s : Shared}
mutual
theorem own_rn (I : Inv X pins σ H s) : ∀ (d : D) (v : V) (u : Value) (F : List Addr), Own X.K H d v F → RelV v u → alike d d = true → Rn s.heap d u
  | .int i, _, _, _, h, r, _ => by
    cases h
    obtain ⟨t, rfl⟩ := r
    exact ⟨t, rfl⟩
  | .tuple ds, _, _, _, h, r, al => by
    cases h with
    | tup hs ha =>
      cases r
      obtain ⟨its, rv, ⟨o, ho, hc, n, hd⟩, _⟩ := I.tuple hs.sq
      have al : alikes ds ds = true := by simpa [alike] using al
      exact ⟨_, o, _, n, rfl, ho, hc, hd, owns_rn I ds _ its _ ha rv al⟩
  | .none, _, _, _, _, _, h | .bool _, _, _, _, _, _, h | .str _, _, _, _, _, _, h | .list _, _, _, _, _, _, h | .dict _, _, _, _, _, _, h => by simp [alike] at h
theorem owns_rn (I : Inv X pins σ H s) : ∀ (ds : List D) (vs : List V) (us : List Value) (F : List Addr), OwnA X.K H ds vs F → Vals vs us → alikes ds ds = true → Rns s.heap ds us
  | [], _, _, _, h, r, _ => by
    cases h
    cases r
    trivial
  | d :: ds, _, _, _, h, r, al => by
    simp only [alikes, Bool.and_eq_true] at al
    cases h with
    | cons h1 h2 =>
      cases r with
      | cons r1 r2 => exact ⟨own_rn I d _ _ _ h1 r1 al.1, owns_rn I ds _ _ _ h2 r2 al.2⟩
end
theorem OwnA.at1 {K : PySem.W.Frag} {H : Hp} : ∀ {ds : List D} {vs : List V}, OwnA K H ds vs [] → ∀ (us : List Value), Vals vs us → ∀ u ∈ us, ∃ d ∈ ds, ∃ v, RelV v u ∧ Own K H d v []
  | [], _, h, us, r, u, hu => by
    cases h
    cases r
    cases hu
  | d :: ds, v :: vs, h, _, r, u, hu => by
    obtain ⟨o1, o2⟩ := OwnA.nil2 h
    cases r with
    | cons r1 r2 =>
      rcases List.mem_cons.mp hu with rfl | hu
      · exact ⟨d, List.mem_cons_self .., v, r1, o1⟩
      · obtain ⟨d', m, v', r', o'⟩ := OwnA.at1 o2 _ r2 u hu
        exact ⟨d', List.mem_cons_of_mem _ m, v', r', o'⟩
theorem own_back {K : PySem.W.Frag} {H : Hp} {k : Value → D} : ∀ (out : List Value), (∀ u ∈ out, ∃ v, RelV v u ∧ Own K H (k u) v []) → ∃ ys, Vals ys out ∧ OwnA K H (out.map k) ys []
  | [], _ => ⟨[], .nil, .nil⟩
  | u :: out, h => by
    obtain ⟨v, r, o⟩ := h u (List.mem_cons_self ..)
    obtain ⟨ys, r2, o2⟩ := own_back out fun u' hu' => h u' (List.mem_cons_of_mem _ hu')
    exact ⟨v :: ys, .cons r r2, OwnA.cons0 o o2⟩
/-- a reading of the items -/
theorem rns_key {h : Heap} : ∀ {ds : List D} {us : List Value}, Rns h ds us → ∀ (k : Value → D), (∀ u d, d ∈ ds → Rn h d u → k u = d) → us.map k = ds
  | [], [], _, _, _ => rfl
  | d :: ds, u :: us, r, k, hk => by rw [List.map_cons, hk u d (List.mem_cons_self ..) r.1, rns_key r.2 k fun u d m => hk u d (List.mem_cons_of_mem _ m)]
  | [], _ :: _, r, _, _ => r.elim
  | _ :: _, [], r, _, _ => r.elim
open Classical in
noncomputable def keyR (h : Heap) (ds : List D) (u : Value) : D := if e : ∃ d, d ∈ ds ∧ Rn h d u then e.choose else .none
theorem keyR_eq {h : Heap} {ds : List D} {u : Value} {d : D} (m : d ∈ ds) (r : Rn h d u) : keyR h ds u = d := by
  unfold keyR
  have e : ∃ d, d ∈ ds ∧ Rn h d u := ⟨d, m, r⟩
  rw [dif_pos e]
  exact Rn.inj e.choose_spec.2 r
theorem sort_known {its : List Value} {xs : List V} {ds : List D} (I : Inv X pins σ H s) (rv : Vals xs its) (ho : OwnA X.K H ds xs []) (ok : okN ds = true) :
    ∀ out : List Value, Srtd (fun v u => lexI (flat (keyR s.heap ds v)) (flat (keyR s.heap ds u))) out → Stb (fun v u => lexI (flat (keyR s.heap ds v)) (flat (keyR s.heap ds u))) out its → ∃ ys, Vals ys out ∧ OwnA X.K H (sortF flat ds) ys [] ∧ ys.length = xs.length := by
  intro out h1 h2
  have okd := okN_all ok
  have als : alikes ds ds = true := by
    have : ∀ l : List D, (∀ d ∈ l, alike d d = true) → alikes l l = true := by
      intro l
      induction l with
      | nil => intro _; rfl
      | cons d l ih => intro h; simp only [alikes, Bool.and_eq_true]; exact ⟨h d (List.mem_cons_self ..), ih fun e he => h e (List.mem_cons_of_mem _ he)⟩
    exact this ds fun d hd => (okd d hd).2.2 d hd
  have rn := owns_rn I ds xs its _ ho rv als
  have hk := rns_key rn (keyR s.heap ds) fun u d m r => keyR_eq m r
  have hb : Stb (ltF flat) (out.map (keyR s.heap ds)) ds := by
    have z := Stb.map (lt := ltF flat) (swo_flat flat) (keyR s.heap ds) h2
    rw [hk] at z
    exact z
  have hs : out.map (keyR s.heap ds) = sortF flat ds := sortF_uniq (srtd_map h1) hb
  obtain ⟨ys, ry, oy⟩ := own_back (K := X.K) (H := H) (k := keyR s.heap ds) out fun u hu => by
    have hu' := h2.perm.mem_iff.mp hu
    obtain ⟨d, m, v, r, o⟩ := OwnA.at1 ho its rv u hu'
    have := own_rn I d v u _ o r ((okd d m).2.2 d m)
    rw [keyR_eq m this]
    exact ⟨v, r, o⟩
  rw [hs] at oy
  exact ⟨ys, ry, oy, by rw [ry.length, h2.len, ← rv.length]⟩
/-- the sort of such values, laid: what is handed to all rules that sort -/
theorem sort_laid {its : List Value} {xs : List V} {ds : List D} {Q : VK} (I : Inv X pins σ H s) (rv : Vals xs its) (ho : OwnA X.K H ds xs []) (ok : okN ds = true) (hz : xs.length ≤ sizeLine)
    (q : ∀ ys p, OwnA X.K H (sortF flat ds) ys [] → H p = none → Q (.ref p) (upd H p (.lst ys))) :
    ∀ out : List Value, Srtd (fun v u => lexI (flat (keyR s.heap ds v)) (flat (keyR s.heap ds u))) out → Stb (fun v u => lexI (flat (keyR s.heap ds v)) (flat (keyR s.heap ds u))) out its → EP X pins σ Q (.ref (s.heap.objs.size + 1)) { s with heap := PyProof.Rows.sortedAll s.heap its out.toArray } := by
  intro out h1 h2
  obtain ⟨ys, ry, oy, ly⟩ := sort_known I rv ho ok out h1 h2
  obtain ⟨ep, he'⟩ := PyProof.Rows.sortedAll_at s.heap its out.toArray
  exact ⟨.ref _, upd H (s.heap.objs.size + 1) (.lst ys), I.laid (t' := s.toks) (fun _ _ => PyProof.Rows.sortedAll_old) (Nat.le_succ _) ⟨by rw [ly]; exact hz, out, ep, ry, he'⟩, rfl, q _ _ oy (I.hok.fresh (Nat.le_succ _))⟩
theorem sort_able {its : List Value} {xs : List V} {ds : List D} (I : Inv X pins σ H s) (hu : X.A.units + 65 < cLine) (rv : Vals xs its) (ho : OwnA X.K H ds xs []) (ok : okN ds = true) (h2 : 2 ≤ its.length) (h₁ : Heap) (a : Addr) (ha : h₁.get? a = some (PyProof.Rows.seqObj "list" its.toArray 0)) (k : ∀ b o, s.heap.get? b = some o → b ≠ a ∧ h₁.get? b = some o) :
    SortableO X.prog X.w X.A.in1.in1 { s with heap := h₁ } a its fun v u => lexI (flat (keyR s.heap ds v)) (flat (keyR s.heap ds u)) := by
  have okd := okN_all ok
  have kr : ∀ v ∈ its, keyR s.heap ds v ∈ ds ∧ Rn s.heap (keyR s.heap ds v) v := fun v hv => by
    obtain ⟨d, m, x, r, o⟩ := OwnA.at1 ho its rv v hv
    have := own_rn I d x v _ o r ((okd d m).2.2 d m)
    rw [keyR_eq m this]
    exact ⟨m, this⟩
  refine rn_sortable (B := 8) (by omega) (fun v hv => ?_) (fun v hv u hu => (okd _ (kr v hv).1).2.2 _ (kr u hu).1) (fun v hv => (okd _ (kr v hv).1).2.1) (by show X.A.units + 1 + 1 + 8 < cLine; omega) fun o e => ?_
  · obtain ⟨c, cs, e⟩ := (okd _ (kr v hv).1).1
    refine ⟨c, cs, e, (kr v hv).2.keep fun b o e _ => (k b o e).2⟩
  · have e' : some o = some (PyProof.Rows.seqObj "list" its.toArray 0) := e.symm.trans ha
    cases e'
    intro c
    exact absurd (Value.type.inj c) (by decide)
/-- sorted of a list or a tuple of such -/
def rSortN (K : PySem.W.Frag) : List V → Hp → VK → Prop := fun vs H Q => ∃ (a : Addr) (xs : List V) (ds : List D), vs = [V.ref a] ∧ (SqL K H a xs ∨ SqT K H a xs) ∧ OwnA K H ds xs [] ∧ okN ds = true ∧ ∀ ys p, OwnA K H (sortF flat ds) ys [] → H p = none → Q (.ref p) (upd H p (.lst ys))
theorem cr_sortN (hu : X.A.units + 65 < cLine) : CallR X (.builtin "sorted") (rSortN X.K) := by
  intro pins s σ H vs us Q I r h
  obtain ⟨a, xs, ds, rfl, hs, ho, ok, q⟩ := h
  rw [Vals.ref1 r]
  rcases hs with hs | hs
  · obtain ⟨its, rv, hl, hz⟩ := I.list hs
    exact sorted_ord (swo_flat fun v => flat (keyR s.heap ds v)) hl.isList (by rw [← rv.length]; exact hz) (fun h2 h₁ a' ha' k => sort_able I hu rv ho ok h2 h₁ a' ha' k) (sort_laid I rv ho ok hz q)
  · obtain ⟨its, rv, hl, hz⟩ := I.tuple hs
    exact SimSrt.sorted_ordT (swo_flat fun v => flat (keyR s.heap ds v)) hl (by rw [← rv.length]; exact hz) (fun h2 h₁ a' ha' k => sort_able I hu rv ho ok h2 h₁ a' ha' k) (sort_laid I rv ho ok hz q)
def pSortN : List D → Option D
  | [.list ds] => if okN ds && purs ds then some (.list (sortF flat ds)) else none
  | [.tuple ds] => if okN ds && purs ds then some (.list (sortF flat ds)) else none
  | _ => none
theorem pr_sortN {K : PySem.W.Frag} : PrimR K (rSortN K) pSortN := by
  intro vs ds d H Q h e q
  unfold pSortN at e
  split at e
  · obtain ⟨x, F, rfl, o⟩ := h.one
    split at e
    · rename_i ds c
      cases e
      rw [Bool.and_eq_true] at c
      cases o with
      | lst h1 t n =>
        have := t.pur c.2
        subst this
        exact ⟨_, _, ds, rfl, .inl (SqL.of h1), t, c.1, fun ys p oy hp => q _ _ (.lst oy hp)⟩
    · cases e
  · obtain ⟨x, F, rfl, o⟩ := h.one
    split at e
    · rename_i ds c
      cases e
      rw [Bool.and_eq_true] at c
      cases o with
      | tup h1 t =>
        have := t.pur c.2
        subst this
        exact ⟨_, _, ds, rfl, .inr h1.sq, t, c.1, fun ys p oy hp => q _ _ (.lst oy hp)⟩
    · cases e
  · cases e
end
end Sim
namespace Sim
open PySem PySem.Spec L2 PySem.SeqAt SrtO
section
variable {X : Cx} {pins : List (Addr × Obj)} {σ : St} {H : Hp} {s : Shared}
end
section
variable {k l : Bool} {a b : Addr} {xs ys : Array Value}
end
end Sim
namespace Sim
open PySem PySem.Spec L2 PySem.SeqAt SrtO
section
variable {prog : Program} {w : World} {A : Around} {E : Value → Shared → Prop} {s : Shared} {k l : Bool} {z TI TO i1 i2 a b : Addr} {xs ys : Array Value}
end
end Sim
namespace Sim
open PySem PySem.Spec L2 PySem.SeqAt SrtO
def seqLT : D → Option (List D)
  | .list ds => some ds
  | .tuple ds => some ds
  | .dict [(.none, .list ds)] => some ds
  | _ => none
section
variable {X : Cx} {e e2 : Expr} {ta : TA} {p pos p2 pos2 : Pos}
end
end Sim
namespace Sim
open PySem PySem.Spec L2 PySem.SeqAt SrtO
section
variable [Tb] [Vs] {X : Cx} {e e2 : Expr} {ta : TA} {p pos p2 pos2 : Pos}
variable {g : AL}
end
end Sim
namespace Sim
open PySem PySem.Spec L2
section
variable [Tb] [Vs] {X : Cx}
def rSortAny (K : PySem.W.Frag) : List V → Hp → VK → Prop := fun vs H Q => rSortA K vs H Q ∨ rSortN K vs H Q
theorem cr_sortAny (hu : X.A.units + 65 < cLine) : CallR X (.builtin "sorted") (rSortAny X.K) := by
  intro pins s σ H vs us Q I r h
  rcases h with h | h
  · exact cr_sortA pins s σ H vs us Q I r h
  · exact cr_sortN hu pins s σ H vs us Q I r h
def pSortAny (l : List D) : Option D := match pSorted l with
  | some d => some d
  | none => pSortN l
theorem pr_sortAny {K : PySem.W.Frag} : PrimR K (rSortAny K) pSortAny := by
  intro vs ds d H Q h e q
  unfold pSortAny at e
  split at e
  · rename_i d' e'
    cases e
    exact .inl (pr_sorted vs ds d H Q h e' q)
  · exact .inr (pr_sortN vs ds d H Q h e q)
theorem so_globI {x : Str} {i : Int} {t : Tok} {pos : Pos} (hg : Gl X x) (hm : X.mg x = some (.int i t)) (hd : (x == ("__debug__" : Str)) = false := by decide) : SimO X (.Name x pos) (oC (.int i)) :=
  pe_imp (pe_glob (v := .int i) hg hm ⟨t, rfl⟩ hd) fun _ _ _ h => tO_c (fun _ => .int i) h
theorem so_globS {x : Str} {i : Str} {t : Tok} {pos : Pos} (hg : Gl X x) (hm : X.mg x = some (.str i t)) (hd : (x == ("__debug__" : Str)) = false := by decide) : SimO X (.Name x pos) (oC (.str i)) :=
  pe_imp (pe_glob (v := .str i) hg hm ⟨t, rfl⟩ hd) fun _ _ _ h => tO_c (fun _ => .str i) h
end
end Sim
namespace Sim
open PySem PySem.Spec L2
def dd : List Int → List Int
  | [] => []
  | x :: xs => if x ∈ xs then dd xs else x :: dd xs
section
variable [Tb] [Vs] {X : Cx} {a : Expr} {ta : TA} {p p2 q pos : Pos}
variable {ga : AL}
end
end Sim
namespace Sim
open PySem PySem.Spec L2
mutual
/-- ints of short text, and tuples of such -/
def sh : D → Bool
  | .int i => decide (i.natAbs < 10 ^ 12)
  | .tuple xs => shs xs
  | _ => false
def shs : List D → Bool
  | [] => true
  | x :: xs => sh x && shs xs
end
section
variable {X : Cx}
end
end Sim
namespace Sim
open PySem PySem.Spec L2
structure FnOkG (P : Program) (w : World) (K : PySem.W.Frag) (mg : Str → Option Value) (base : Heap) (k : Nat) (f : Addr) (fd : FuncData) (ps : List Str) (sp : Sp) : Prop where
  len : ∀ vs H Q E, sp vs H Q E → vs.length = ps.length
  run : ∀ (A : Around) (outer : List Env) (s : Shared) (H : Hp) (args : Args) (us : List Value) (vs : List V) (Q : VK) (E : XK), A.guards = some [] → Room k A → Env0 P w K mg base A outer s H →
    BindsTo s fd args (ps.zip us) → Vals vs us → sp vs H Q E → codeAny (model P w) A (.call (.ref f) args) (CR CX0 outer P w H s Q E) s
theorem FnOkG.of {P : Program} {w : World} {K : PySem.W.Frag} {mg : Str → Option Value} {base : Heap} {k : Nat} {f : Addr} {fd : FuncData} {ps : List Str} {sp : Sp} (F : FnOk P w K mg base CX0 k f fd ps sp) : FnOkG P w K mg base k f fd ps sp :=
  ⟨F.len, fun A outer s H args us vs Q E _ hr e0 hb r h => F.run A outer s H args us vs Q E hr e0 hb r h⟩
section
variable [Tb] {P : Program} {w : World} {K : PySem.W.Frag} {mg : Str → Option Value} {base : Heap}
end
section
open PyProof.Rows
end
end Sim
namespace Sim
open PySem PySem.Spec L2
section
variable [Tb] [Vs] {X : Cx} {K : PySem.W.Frag}
end
end Sim
namespace Sim
open PySem PySem.Spec L2
section
variable [Tb] [Vs] {X : Cx} {e : Expr} {x : Str} {p apos cpos : Pos} {tab : List (Int × Int)} {a : Addr}
end
end Sim
namespace Sim
open PySem PySem.Spec L2
section
variable {X : Cx}
end
end Sim
namespace Sim
open PySem PySem.Spec L2
section
variable [Tb] [Vs] {X : Cx} {pos : Pos}
inductive SelOk (X : Cx) (n : Nat) : List Addr → List Fn → Prop
  | nil : SelOk X n [] []
  | cons {k : Nat} {f : Addr} {fd : FuncData} {ps : List Str} {fn : Fn} {as : List Addr} {fns : List Fn} : FnOk X.prog X.w X.K X.mg X.base CX0 k f fd ps (spF X.K n fn) → Room k X.A → PySem.W.keepIn X.K (.ref f) = true → Binds X.K fd ps [] → (∀ ds r as, fn ds = .ok r as → ds.length = n) → SelOk X n as fns → SelOk X n (f :: as) (fn :: fns)
theorem SelOk.get {n : Nat} {as : List Addr} {fns : List Fn} (h : SelOk X n as fns) : ∀ {i : Nat} {fn : Fn}, fns[i]? = some fn → ∃ k f fd ps, as[i]? = some f ∧ FnOk X.prog X.w X.K X.mg X.base CX0 k f fd ps (spF X.K n fn) ∧ Room k X.A ∧ PySem.W.keepIn X.K (.ref f) = true ∧ Binds X.K fd ps [] ∧ (∀ ds r as, fn ds = .ok r as → ds.length = n) := by
  induction h with
  | nil => intro i fn e; simp at e
  | cons a b c d e _ ih =>
    intro i fn e'
    cases i with
    | zero => cases e'; exact ⟨_, _, _, _, rfl, a, b, c, d, e⟩
    | succ i => exact ih e'
end
end Sim
namespace Sim
open PySem PySem.Spec L2
section
variable [Tb] [Vs] {X : Cx} {k : Nat} {f : Addr} {fd : FuncData} {ps : List Str} {fn : Fn} {x : Str} {p pos : Pos}
end
end Sim
namespace Sim
open PySem PySem.Spec L2
section
variable [Tb] [Vs] {K : PySem.W.Frag} {H H' : Hp}
theorem OwnLs.get {K : PySem.W.Frag} {H : Hp} : ∀ {ds : List D} {vs : List V} {Fl : List (List Addr)}, OwnLs K H ds vs Fl → ∀ {i : Nat} {d : D}, ds[i]? = some d → ∃ v F, vs[i]? = some v ∧ Fl[i]? = some F ∧ Own K H d v F
  | _, _, _, .cons (v := v) (F := F) o n r, 0, d', e => by
    simp at e
    subst e
    exact ⟨v, F, rfl, rfl, o⟩
  | _, _, _, .cons o n r, i + 1, d', e => by
    obtain ⟨v, F, h1, h2, h3⟩ := r.get (i := i) (by simpa using e)
    exact ⟨v, F, by simpa using h1, by simpa using h2, h3⟩
theorem OwnLs.lenF {K : PySem.W.Frag} {H : Hp} {ds : List D} {vs : List V} {Fl : List (List Addr)} (o : OwnLs K H ds vs Fl) : Fl.length = ds.length := by
  induction o with
  | nil => rfl
  | cons _ _ _ ih => rw [List.length_cons, List.length_cons, ih]
end
section
variable [Tb] {P : Program} {w : World} {K : PySem.W.Frag} {mg : Str → Option Value} {base : Heap}
end
end Sim
namespace Sim
open PySem PySem.Spec L2
section
open PyProof.Rows
variable {prog : Program} {w : World} {A : Around} {E : Value → Shared → Prop} {s : Shared}
end
section
variable [Tb] [Vs] {X : Cx} {a : Expr} {ga : O} {pos p2 : Pos}
end
end Sim
namespace Sim
open PySem PySem.Spec L2
section
variable {X : Cx}
end
end Sim
namespace Sim
open PySem PySem.Spec L2
section
open PySem.Calls PySem.NumText PyProof.Rows
@[irreducible] def ninN (n : Nat) : Int := ((10 ^ n : Nat) : Int) - 1
end
end Sim
namespace Sim
open PySem PySem.Spec L2
def oFrz (g : O) : O := fun s => (g s).bind fun r s1 => match r with
  | .val (.list ds) => if purs ds = true then .ok (.val (.dict [(.none, .list ds)])) s1 else .bad
  | _ => .bad
section
variable [Tb] [Vs] {X : Cx} {e : Expr} {ga : O}
theorem so_frz (ha : SimO X e ga) : SimO X e (oFrz ga) := by
  refine ⟨fun pins s σ H Q I z => ?_⟩
  obtain ⟨sg, Fs, rf, sg', R, e0, q⟩ := z
  obtain ⟨r, s1, e1, e2⟩ := bind_inv e0
  refine thn (ha.run pins s σ H (fun v H1 => ∃ Fs1 F, RelS X.K H1 s1 σ Fs1 ∧ Ev H Fs H1 Fs1 ∧ RfOk X.K H1 σ Fs1 r v F ∧ ∀ a, a ∈ F → H a = none) I ⟨sg, Fs, r, s1, R, e1, fun v H1 Fs1 F R1 E1 k1 n1 => ⟨Fs1, F, R1, E1, k1, n1⟩⟩) fun v s2 ⟨x, H1, I1, r1, Fs1, F, R1, E1, k1, n1⟩ => ?_
  clear e0
  split at e2
  · rename_i _ ds
    split at e2
    · rename_i hp
      cases e2
      cases k1 with
      | val A =>
        obtain ⟨a, xs, F0, rfl, rfl, hx, tt, nn⟩ := own_list A.own
        have e3 := tt.pur hp
        subst e3
        obtain ⟨od, I2⟩ := I1.lock hx trivial
        have na : H a = none := n1 a (List.mem_cons_self ..)
        have c : Chg (fun b => b = a) H1 (upd H1 a (.frz od (.lst xs))) := .upd1 (m := .lst _) hx
        have R2 : RelS X.K (upd H1 a (.frz od (.lst xs))) _ σ Fs1 := ⟨R1.len, fun i d ed => by
          obtain ⟨v', hv', o⟩ := R1.has i d ed
          exact ⟨v', hv', o.chg c fun b hb z => by
            subst z
            exact A.dis i b hb (List.mem_cons_self ..)⟩, R1.off, R1.dis, R1.lnkC c (fun i b hb z => A.dis i b (R1.fpF hb) (by rw [z]; exact List.mem_cons_self ..)), R1.bse⟩
        have E2 : Ev H Fs (upd H1 a (.frz od (.lst xs))) Fs1 := ⟨E1.chg.transN c (fun b o hb z => by rw [z, na] at hb; cases hb), E1.new⟩
        have o2 : OwnA X.K (upd H1 a (.frz od (.lst xs))) _ xs [] := OwnA.chg c tt (by simp)
        exact ⟨.ref a, _, I2, r1, q (.ref a) _ Fs1 [] R2 E2 (.val ⟨.frz (.inl ⟨od, upd_same ..⟩) o2, by simp⟩) (by simp)⟩
    · cases e2
  · cases e2
end
end Sim
namespace Sim
open PySem PySem.Spec L2
mutual
/-- no text within -/
def noTx : NestedKey → Bool
  | .none => true
  | .num _ => true
  | .text _ => false
  | .tup ks => noTxs ks
def noTxs : List NestedKey → Bool
  | [] => true
  | k :: ks => noTx k && noTxs ks
end
def tupN : NestedKey → Bool
  | .tup _ => true
  | _ => false
def kOk (k : NestedKey) : Bool := tupN k && noTx k && decide (k.depth ≤ 8)
theorem kOk_dp {k : NestedKey} (h : kOk k = true) : k.depth ≤ 8 := by
  unfold kOk at h
  simp only [Bool.and_eq_true, decide_eq_true_eq] at h
  exact h.2
theorem kOk_tup {k : NestedKey} (h : kOk k = true) : ∃ ks, k = .tup ks := by
  unfold kOk at h
  simp only [Bool.and_eq_true] at h
  cases k with
  | tup ks => exact ⟨ks, rfl⟩
  | _ => exact absurd h.1.1 (by simp [tupN])
abbrev NE := NestedKey × Addr × V
def getE (es : List NE) (k : NestedKey) : Option V := (es.find? fun e => decide (e.1 = k)).map fun e => e.2.2
def putE (es : List NE) (k : NestedKey) (b : Addr) (v : V) : List NE :=
  if (es.any fun e => decide (e.1 = k)) = true then es.map (fun e => if e.1 = k then (e.1, e.2.1, v) else e) else es ++ [(k, b, v)]
section
variable {X : Cx} {pins : List (Addr × Obj)} {σ : St} {H : Hp} {s : Shared}
mutual
theorem key_is (I : L2.Inv X pins σ H s) : ∀ (k : NestedKey) {v : V} {F : List Addr} {u : Value}, Own X.K H (nkD k) v F → RelV v u → NestedIs s.heap k u
  | .none, v, F, u, o, r => by
    rw [nkD] at o
    cases o
    obtain rfl : u = Value.none := r
    exact .none
  | .num i, v, F, u, o, r => by
    rw [nkD] at o
    cases o
    obtain ⟨t, rfl⟩ := (show ∃ t, u = Value.int i t from r)
    exact .int i t
  | .text x, v, F, u, o, r => by
    rw [nkD] at o
    cases o
    obtain ⟨t, rfl⟩ := (show ∃ t, u = Value.str x t from r)
    exact .text x t
  | .tup ks, v, F, u, o, r => by
    rw [nkD] at o
    cases o with
    | tup h t =>
      rename_i a xs
      obtain rfl : u = Value.ref a := r
      obtain ⟨its, rr, ⟨ob, ho, hc, n, hd⟩, _⟩ := I.tuple h.sq
      exact .tup ho hc hd (keys_are I ks t rr)
theorem keys_are (I : L2.Inv X pins σ H s) : ∀ (ks : List NestedKey) {vs : List V} {F : List Addr} {us : List Value}, OwnA X.K H (nkDs ks) vs F → Vals vs us → NestedAll s.heap ks us
  | [], vs, F, us, o, r => by
    rw [nkDs] at o
    cases o
    cases r
    exact .nil
  | k :: ks, vs, F, us, o, r => by
    rw [nkDs] at o
    cases o with
    | cons o t n =>
      cases r with
      | cons r1 r2 => exact .cons (key_is I k o r1) (keys_are I ks t r2)
end
abbrev EX : List NE → List (NestedKey × Addr × Value) → Prop := Paired fun p q => p.1 = q.1 ∧ p.2.1 = q.2.1 ∧ RelV p.2.2 q.2.2
theorem EX.fst : ∀ {es : List NE} {xs : List (NestedKey × Addr × Value)}, EX es xs → es.map (fun e => e.1) = xs.map fun x => x.1
  | _, _, .nil => rfl
  | _, _, .cons h t => by rw [List.map_cons, List.map_cons, h.1, EX.fst t]
theorem EX.get {k : NestedKey} : ∀ {es : List NE} {xs : List (NestedKey × Addr × Value)}, EX es xs → RelO (getE es k) ((atKey xs k).map (·.2))
  | _, _, .nil => True.intro
  | e :: es, x :: xs, .cons h t => by
    have ih := EX.get (k := k) t
    unfold getE atKey at ih ⊢
    rw [List.find?_cons, List.find?_cons]
    by_cases c : e.1 = k
    · have c' : x.1 = k := h.1.symm.trans c
      rw [decide_eq_true c, decide_eq_true c']
      exact h.2.2
    · have c' : ¬ x.1 = k := fun z => c (h.1.trans z)
      rw [decide_eq_false c, decide_eq_false c']
      exact ih
theorem EX.any {k : NestedKey} {es : List NE} {xs : List (NestedKey × Addr × Value)} (h : EX es xs) : (es.any fun e => decide (e.1 = k)) = (atKey xs k).isSome := by
  induction h with
  | nil => rfl
  | @cons e x es xs h t ih =>
    unfold atKey at ih ⊢
    rw [List.any_cons, List.find?_cons, ih]
    by_cases c : e.1 = k
    · have c' : x.1 = k := h.1.symm.trans c
      rw [decide_eq_true c, decide_eq_true c']; rfl
    · have c' : ¬ x.1 = k := fun z => c (h.1.trans z)
      rw [decide_eq_false c, decide_eq_false c']; rfl
theorem EX.put {k : NestedKey} {b : Addr} {v : V} {u : Value} (r : RelV v u) {es : List NE} {xs : List (NestedKey × Addr × Value)} (h : EX es xs) : EX (putE es k b v) (storedH xs k b u) := by
  unfold putE storedH
  rw [h.any]
  split
  · rename_i hc0
    clear hc0
    induction h with
    | nil => exact .nil
    | @cons e x es xs h t ih =>
      rw [List.map_cons, List.map_cons]
      refine .cons ?_ ih
      unfold putAt
      by_cases c : e.1 = k
      · rw [if_pos c, if_pos (h.1.symm.trans c)]; exact ⟨h.1, h.2.1, r⟩
      · rw [if_neg c, if_neg (fun z => c (h.1.trans z))]; exact h
  · exact Paired.snoc h ⟨rfl, rfl, r⟩
theorem EX.mem : ∀ {es : List NE} {xs : List (NestedKey × Addr × Value)}, EX es xs → ∀ x, x ∈ xs → ∃ e, e ∈ es ∧ e.1 = x.1 ∧ e.2.1 = x.2.1
  | _, _, .nil, x, h => by cases h
  | p :: es, q :: xs, .cons hh t, x, hx => by
    rcases List.mem_cons.mp hx with rfl | hx
    · exact ⟨p, List.mem_cons_self .., hh.1, hh.2.1⟩
    · obtain ⟨e, h1, h2⟩ := EX.mem t x hx
      exact ⟨e, List.mem_cons_of_mem _ h1, h2⟩
end
end Sim
namespace Sim
open PySem PySem.Spec L2
/-- the value y is the key k -/
structure KeyN (K : PySem.W.Frag) (H : Hp) (k : NestedKey) (y : V) : Prop where
  own : Own K H (nkD k) y []
  ok : kOk k = true
theorem KeyN.ref {K : PySem.W.Frag} {H : Hp} {k : NestedKey} {y : V} (h : KeyN K H k y) : ∃ b, y = .ref b := by
  obtain ⟨o, ok⟩ := h
  obtain ⟨ks, rfl⟩ := kOk_tup ok
  rw [nkD] at o
  cases o with
  | tup _ _ => exact ⟨_, rfl⟩
section
variable {X : Cx} {pins : List (Addr × Obj)} {σ : St} {H : Hp} {s : Shared}
theorem KeyN.is {k : NestedKey} {b : Addr} (I : L2.Inv X pins σ H s) (h : KeyN X.K H k (.ref b)) : (nestedKind X.prog X.w).is s.heap k b := ⟨key_is I k h.own rfl, kOk_dp h.ok⟩
variable {o e : Expr} {es : List Expr} {to : TE} {t : TA} {name : Str} {apos cpos : Pos} {id : String} {r : V → List V → Hp → VK → Prop}
end
end Sim
namespace SimSrt
open PySem PyProof.Rows Srt SrtO
section
variable {prog : Program} {w : World} {A : Around} {E : Value → Shared → Prop} {s : Shared}
end
end SimSrt
namespace Sim
open PySem PySem.Spec L2
open PyProof.Rows hiding St
section
variable {X : Cx} {pins : List (Addr × Obj)} {σ : St} {H : Hp} {s : Shared}
end
end Sim
namespace Sim
open PySem PySem.Spec L2
open PyProof.Rows hiding St
section
variable {prog : Program} {w : World} {A : Around} {E : Value → Shared → Prop} {s : Shared}
end
section
variable {X : Cx} {pins : List (Addr × Obj)} {σ : St} {H : Hp} {s : Shared}
end
section
variable {P : Program} {w : World} {K : PySem.W.Frag} {tg : Expr} {d : Addr} {o : Obj} {ents : Array DictEntry} {ep : Nat}
end
section
variable {X : Cx} {tg e : Expr} {td : TE} {apos cpos : Pos}
end
end Sim
namespace Sim
open PySem PySem.Spec L2
section
variable {K : PySem.W.Frag}
end
section
variable [Tb] [Vs] {X : Cx} {a b : Expr} {ga gb : O} {pos : Pos}
end
section
variable [Tb] [Vs] {X : Cx} {K : PySem.W.Frag} {σ : St} {H : Hp} {Q : VK}
end
end Sim
namespace Sim
open PySem PySem.Spec L2
section
variable [Tb] [Vs] {K : PySem.W.Frag} {H H' : Hp} {s : Sg} {σ : St} {Fs : Fp}
end
section
variable {K : PySem.W.Frag} {H H' : Hp}
theorem KeyN.chg [Tb] {Fa : Addr → Prop} (c : Chg Fa H H') {k : NestedKey} {y : V} (h : KeyN K H k y) : KeyN K H' k y := ⟨h.own.chg c (fun _ z => by cases z), h.ok⟩
end
section
variable [Tb] [Vs] {X : Cx} {lk : Nat → Bool} {pos : Pos} {ga gb : O} {e : Expr}
end
section
variable [Tb] [Vs] {X : Cx} {K : PySem.W.Frag} {σ : St} {H : Hp} {Q : VK}
end
end Sim
namespace Sim
open PySem PySem.Spec L2
section
variable [Tb] [Vs] {X : Cx} {K : PySem.W.Frag}
variable {tg e : Expr} {ga : O}
end
end Sim
namespace SimMin
open PySem PySem.Spec PySem.W
section
variable {prog : Program} {w : World} {A : Around} {E : Value → Shared → Prop} {s : Shared}
end
end SimMin
namespace Sim
open PySem PySem.Spec L2
section
variable {X : Cx}
end
end Sim
namespace Sim
open PySem PySem.Spec L2
section
variable {K : PySem.W.Frag} {H : Hp}
end
section
variable [Tb] [Vs] {X : Cx} {a b : Expr} {ga gb : O} {pos : Pos}
end
section
variable {K : PySem.W.Frag} {H : Hp}
end
end Sim
namespace Sim
open PySem PySem.Spec L2
section
variable [Tb] [Vs] {K : PySem.W.Frag} {H : Hp} {X : Cx}
end
section
variable [Tb] [Vs] {X : Cx} {lk : Nat → Bool} {pos : Pos} {ga gb : O} {e : Expr}
end
section
variable [Tb] [Vs] {X : Cx} {K : PySem.W.Frag} {σ : St} {H : Hp} {Q : VK}
end
end Sim
namespace Sim
open PySem PySem.Spec L2
section
variable {K : PySem.W.Frag}
end
section
variable [Tb] [Vs] {X : Cx} {e : Expr} {ga : O}
end
end Sim
namespace Sim
open PySem PySem.Spec L2
section
variable [Tb] [Vs] {X : Cx} {x : Str} {p pos : Pos} {es : List Expr} {ga : AL} {i : Nat}
end
end Sim
namespace Sim
open PySem PySem.Spec L2
section
variable [Tb] [Vs] {X : Cx} {x : Str} {p : Pos} {i : Nat}
end
end Sim
namespace Sim
open PySem PySem.Spec L2
section
variable {K : PySem.W.Frag} {H : Hp}
end
section
variable {prog : Program} {w : World} {A : Around} {E : Value → Shared → Prop} {s : Shared}
end
section
variable {X : Cx}
end
end Sim
namespace Sim
open PySem PySem.Spec L2
section
variable [Tb] [Vs] {X : Cx} {lk : Nat → Bool} {pos : Pos} {ga gb : O} {e : Expr} {op : Operator} {f : Int → Int → Int}
end
end Sim
namespace Sim
open PySem PySem.Spec L2
section
variable [Tb] [Vs] {X : Cx} {K : PySem.W.Frag} {σ : St} {H : Hp} {Q : VK}
end
end Sim
namespace Sim
open PySem PySem.Spec L2
section
variable [Tb] [Vs] {X : Cx} {o : Expr} {ga : O} {apos pos : Pos}
end
end Sim
namespace Sim
open PySem PySem.Spec L2
section
variable [Tb] [Vs] {X : Cx} {K : PySem.W.Frag} {σ : St} {H : Hp} {Q : VK}
end
end Sim
namespace Sim
open PySem PySem.Spec L2
def StrEnts : List DictEntry → List Str → Prop
  | [], [] => True
  | e :: es, k :: ks => (∃ t, e.key = .str k t) ∧ StrEnts es ks
  | _, _ => False
def StrKeys (K : PySem.W.Frag) (w : World) (a : Addr) (keys : List Str) : Prop := ∃ es n, KDict K w a es n ∧ StrEnts es.toList keys
section
variable [Tb] [Vs] {X : Cx} {a : Addr} {x : Str} {keys : List Str} {e : Expr} {g : O} {p pos : Pos}
end
end Sim
namespace Sim
open PySem PySem.Spec L2
/-- the same but for such slots -/
structure GhEq (X : Cx) (σ σ' : St) : Prop where
  len : σ'.length = σ.length
  vis : ∀ (i : Nat) (x : Str), X.N[i]? = some x → Vis X.env.scope x → σ'[i]? = σ[i]?
theorem GhEq.symm {X : Cx} {σ σ' : St} (h : GhEq X σ σ') : GhEq X σ' σ := ⟨h.len.symm, fun i x a b => (h.vis i x a b).symm⟩
theorem GhEq.refl (X : Cx) (σ : St) : GhEq X σ σ := ⟨rfl, fun _ _ _ _ => rfl⟩
theorem GhEq.inv {X : Cx} {pins : List (Addr × Obj)} {σ σ' : St} {H : Hp} {s : Shared} (g : GhEq X σ σ') (I : Inv X pins σ H s) : Inv X pins σ' H s :=
  ⟨I.ok, I.os, I.bare, I.base, let ⟨m, h1, h2⟩ := I.loc; ⟨m, h1, fun i x v a b c => h2 i x v a ((g.vis i x a c).symm.trans b) c⟩, I.cell, I.free, I.freeC, I.pin, I.hok, g.len.trans I.len⟩
theorem not_vis {X : Cx} {x : Str} (h : X.env.scope.names.lookup x = none) : ¬ Vis X.env.scope x := fun v => by
  rcases v with v | v | v <;> rw [h] at v <;> cases v
theorem GhEq.set {X : Cx} {σ : St} {i : Nat} {x : Str} {v : Option V} (hN : X.N[i]? = some x) (h : X.env.scope.names.lookup x = none) : GhEq X σ (σ.set i v) := ⟨List.length_set, fun j y a b => by
  by_cases hj : j = i
  · subst hj
    rw [hN] at a
    cases a
    exact absurd b (not_vis h)
  · exact List.getElem?_set_ne (Ne.symm hj)⟩
section
variable {X : Cx}
theorem pe_gh {e : Expr} {t : TE} (h : PE X e t) : PE X e (fun σ H Q => ∃ σ2, GhEq X σ σ2 ∧ t σ2 H Q) := ⟨fun pins s σ H Q I ⟨σ2, g, q⟩ => thn (h.run pins s σ2 H Q (g.inv I) q) fun u s' ⟨v, H', I', r, q'⟩ => ⟨v, H', g.symm.inv I', r, q'⟩⟩
theorem pss_gh {st : List Stmt} {t : TS} (h : PSs X st t) : PSs X st (fun D σ H => ∃ σ2, GhEq X σ σ2 ∧ t D σ2 H) := ⟨fun pins s σ H D I ⟨σ2, g, q⟩ => h.run pins s σ2 H D (g.inv I) q⟩
theorem ps_ghN {st : Stmt} {t : TS} (h : PS X st t) : PS X st (fun D σ H => t { D with nx := fun σ1 H1 => ∃ σ2, GhEq X σ1 σ2 ∧ D.nx σ2 H1 } σ H) := ⟨fun pins s σ H D I q => thn (h.run pins s σ H _ I q) fun f s' z => by
  cases f with
  | next =>
    obtain ⟨σ1, H1, I1, σ2, g, q⟩ := z
    exact ⟨σ2, H1, g.inv I1, q⟩
  | ret u => exact z
  | brk => exact z
  | cont => exact z⟩
end
structure LnkO (b : Nat) (p C : Addr) (g : Nat) (ns : List Str) (q : Nat) (fa : Addr) (σ : St) (H : Hp) : Prop where
  base : σ[b]? = some (some (.ref p))
  len : σ.length = g + ns.length
  pin : σ[q]? = some (some (.ref fa))
  obj : ∃ dx fs, H p = some (.ins C dx fs) ∧ fs.length ≤ ns.length ∧ fs.map Prod.fst = ns.take fs.length ∧ ∀ k, k < ns.length → σ[g + k]? = some ((fs[k]?).map Prod.snd)
/-- (q, fa: a slot more that stays) -/
abbrev obVp (b : Nat) (p C : Addr) (g : Nat) (ns : List Str) (q : Nat) (fa : Addr) : Vs where
  fp i := if i = b then [p] else []
  lnk := LnkO b p C g ns q fa
  ok i := i ≠ b ∧ i < g ∧ i ≠ q
  keep {σ H H'} h k := by
    obtain ⟨h1, h2, hq, dx, fs, h3, h4⟩ := h
    exact ⟨h1, h2, hq, dx, fs, by rw [k b p (by rw [if_pos rfl]; exact List.mem_singleton.mpr rfl)]; exact h3, h4⟩
  put {σ H i v} ko := by
    have e1 : (σ.set i v)[b]? = σ[b]? := List.getElem?_set_ne ko.1
    have e3 : (σ.set i v)[q]? = σ[q]? := List.getElem?_set_ne ko.2.2
    have e2 : ∀ k, (σ.set i v)[g + k]? = σ[g + k]? := fun k => List.getElem?_set_ne (by have := ko.2.1; omega)
    constructor
    · rintro ⟨h1, h2, hq, dx, fs, h3, h4, h5, h6⟩
      exact ⟨e1.symm.trans h1, (List.length_set (as := σ) (i := i) (a := v)).symm.trans h2, e3.symm.trans hq, dx, fs, h3, h4, h5, fun k hk => (e2 k).symm.trans (h6 k hk)⟩
    · rintro ⟨h1, h2, hq, dx, fs, h3, h4, h5, h6⟩
      exact ⟨e1.trans h1, (List.length_set (as := σ) (i := i) (a := v)).trans h2, e3.trans hq, dx, fs, h3, h4, h5, fun k hk => (e2 k).trans (h6 k hk)⟩
  mem {σ H i a} h ha := by
    obtain ⟨h1, h2, hq, dx, fs, h3, h4⟩ := h
    split at ha
    · rw [List.mem_singleton.mp ha]
      exact ⟨.ins _ _ _, h3⟩
    · cases ha
  nil {i} ko := if_neg ko.1
abbrev obV (b : Nat) (p C : Addr) (g : Nat) (ns : List Str) : Vs := obVp b p C g ns b p
theorem look_nd : ∀ {fs : List (Str × V)} {k : Nat} {f : Str} {v : V}, (fs.map Prod.fst).Nodup → fs[k]? = some (f, v) → fs.lookup f = some v
  | (f0, v0) :: fs, 0, f, v, nd, h => by
    simp at h
    obtain ⟨rfl, rfl⟩ := h
    simp [List.lookup]
  | (f0, v0) :: fs, k + 1, f, v, nd, h => by
    have h : fs[k]? = some (f, v) := by simpa using h
    rw [List.map_cons, List.nodup_cons] at nd
    have hm : f ∈ fs.map Prod.fst := by
      have := List.mem_of_getElem? h
      exact List.mem_map.mpr ⟨_, this, rfl⟩
    have hne : (f == f0) = false := by
      simp only [beq_eq_false_iff_ne, ne_eq]
      intro z
      exact nd.1 (by rw [← z]; exact hm)
    rw [List.lookup, hne]
    exact look_nd nd.2 h
theorem fs_at {fs : List (Str × V)} {ns : List Str} {k : Nat} {f : Str} {v : V} (h1 : fs.map Prod.fst = ns.take fs.length) (hk : ns[k]? = some f) (hv : (fs[k]?).map Prod.snd = some v) : fs[k]? = some (f, v) := by
  obtain ⟨q, hq, rfl⟩ := Option.map_eq_some_iff.mp hv
  have := congrArg (fun l => l[k]?) h1
  simp only [List.getElem?_map, hq, Option.map_some] at this
  have hlt : k < fs.length := (List.getElem?_eq_some_iff.mp hq).1
  rw [List.getElem?_take_of_lt hlt, hk] at this
  rw [hq, ← Option.some.inj this]
theorem putF_len_ex : ∀ {fs : List (Str × V)} {k : Nat} {f : Str} {w : V} (v : V), (fs.map Prod.fst).Nodup → fs[k]? = some (f, w) → putF f v fs = fs.set k (f, v)
  | (f0, v0) :: fs, 0, f, w, v, nd, h => by
    simp at h
    obtain ⟨rfl, rfl⟩ := h
    simp [putF]
  | (f0, v0) :: fs, k + 1, f, w, v, nd, h => by
    have h : fs[k]? = some (f, w) := by simpa using h
    rw [List.map_cons, List.nodup_cons] at nd
    have hm : f ∈ fs.map Prod.fst := List.mem_map.mpr ⟨_, List.mem_of_getElem? h, rfl⟩
    have hne : ¬ f0 = f := fun z => nd.1 (by rw [z]; exact hm)
    rw [putF, if_neg hne, List.set_cons_succ, putF_len_ex v nd.2 h]
theorem putF_new : ∀ {fs : List (Str × V)} {f : Str} (v : V), f ∉ fs.map Prod.fst → putF f v fs = fs ++ [(f, v)]
  | [], f, v, _ => rfl
  | (f0, v0) :: fs, f, v, h => by
    simp only [List.map_cons, List.mem_cons, not_or] at h
    rw [putF, if_neg (fun z => h.1 z.symm), putF_new v h.2]
    rfl
theorem nd_take {ns : List Str} (nd : ns.Nodup) (n : Nat) : (ns.take n).Nodup := nd.sublist (List.take_sublist n ns)
section
variable [Tb] {X : Cx} {b g k i q : Nat} {p C fa : Addr} {ns : List Str} {f : Str} {e : Expr} {pos pos' : Pos}
/-- o.f -/
theorem pe_fldO (hb : PE X e (tVar b)) (hk : ns[k]? = some f) (nd : ns.Nodup) (c : Cls X.K C) (n : NoAttr X.K C f) (hi : i = g + k := by rfl) (hb2 : attributeBase e f X.env (eval e X.env) = eval e X.env := by rfl) :
    PE X (.Attribute e f pos) (@tSl (obVp b p C g ns q fa) i) := by
  subst hi
  refine pe_imp (pe_fld hb hb2) fun σ H Q z => ?_
  obtain ⟨v, hv, ⟨h1, h2, hq, dx, fs, h3, h4, h5, h6⟩, qq⟩ := z
  have hlt : k < ns.length := (List.getElem?_eq_some_iff.mp hk).1
  have h7 := h6 k hlt
  rw [hv] at h7
  have h8 := fs_at h5 hk (Option.some.inj h7).symm
  exact ⟨.ref p, h1, p, C, dx, fs, v, rfl, h3, c, n, look_nd (by rw [h5]; exact nd_take nd _) h8, qq⟩
/-- a field's value is put -/
theorem LnkO.store {σ : St} {H : Hp} (L : LnkO b p C g ns q fa σ H) (nd : ns.Nodup) (hk : ns[k]? = some f) (hp : ∀ fs : List (Str × V), (∃ dx, H p = some (.ins C dx fs)) → k ≤ fs.length) (hbg : b < g) (hqg : q < g) (v : V) {dx : Addr} {fs : List (Str × V)} (h : H p = some (.ins C dx fs)) :
    LnkO b p C g ns q fa (σ.set (g + k) (some v)) (upd H p (.ins C dx (putF f v fs))) := by
  obtain ⟨h1, h2, hq, dx', fs', h3, h4, h5, h6⟩ := L
  rw [h] at h3
  cases h3
  have hle := hp _ ⟨_, h⟩
  have hkn : k < ns.length := (List.getElem?_eq_some_iff.mp hk).1
  refine ⟨by rw [List.getElem?_set_ne (by omega)]; exact h1, by rw [List.length_set]; exact h2, by rw [List.getElem?_set_ne (by omega)]; exact hq, dx, _, upd_same, ?_⟩
  have hfk : ns[k] = f := by
    have := List.getElem?_eq_some_iff.mp hk
    exact this.2
  have at_ : ∀ j, j < ns.length → (σ.set (g + k) (some v))[g + j]? = if j = k then some (some v) else σ[g + j]? := fun j hj => by
    by_cases hjk : j = k
    · subst hjk
      rw [if_pos rfl, List.getElem?_set_self (by omega)]
    · rw [if_neg hjk, List.getElem?_set_ne (by omega)]
  by_cases hlt : k < fs.length
  · have e1 : fs[k]? = some (f, fs[k].2) := by
      refine fs_at h5 hk ?_
      rw [List.getElem?_eq_getElem hlt]
      rfl
    rw [putF_len_ex v (by rw [h5]; exact nd_take nd _) e1]
    refine ⟨by rw [List.length_set]; exact h4, ?_, fun j hj => ?_⟩
    · rw [List.map_set, List.length_set, ← h5]
      have : (fs.map Prod.fst)[k]? = some f := by rw [List.getElem?_map, e1]; rfl
      obtain ⟨hx, hy⟩ := List.getElem?_eq_some_iff.mp this
      show (fs.map Prod.fst).set k f = _
      rw [← hy, List.set_getElem_self]
    · rw [at_ j hj]
      by_cases hjk : j = k
      · subst hjk
        rw [if_pos rfl, List.getElem?_set_self hlt]
        rfl
      · rw [if_neg hjk, h6 j hj, List.getElem?_set_ne (Ne.symm hjk)]
  · have ek : k = fs.length := by omega
    have nf : f ∉ fs.map Prod.fst := fun z => by
      rw [h5] at z
      obtain ⟨j, hj⟩ := List.getElem?_of_mem z
      have hj2 : j < fs.length := by
        have := (List.getElem?_eq_some_iff.mp hj).1
        rw [List.length_take] at this
        omega
      rw [List.getElem?_take_of_lt hj2] at hj
      have := (List.getElem?_inj hkn nd).mp (hk.trans hj.symm)
      omega
    rw [putF_new v nf]
    refine ⟨by rw [List.length_append, List.length_singleton]; omega, ?_, fun j hj => ?_⟩
    · rw [List.map_append, List.length_append, List.length_singleton, h5, List.take_add_one, ← ek, hk]
      rfl
    · rw [at_ j hj]
      by_cases hjk : j = k
      · rw [if_pos hjk, hjk, ek, List.getElem?_append_right (Nat.le_refl _), Nat.sub_self]
        rfl
      · rw [if_neg hjk, h6 j hj]
        by_cases hjl : j < fs.length
        · rw [List.getElem?_append_left hjl]
        · rw [List.getElem?_append_right (by omega), List.getElem?_eq_none (by omega), List.getElem?_eq_none (by rw [List.length_singleton]; omega)]
/-- a slot of the open object gets what stands apart -/
theorem relS_store {K : PySem.W.Frag} {H : Hp} {s : Sg} {σ : St} {Fs : Fp} {d : D} {v : V} {F : List Addr} (R : @RelS _ (obVp b p C g ns q fa) K H s σ Fs) (A : Apart K H Fs d v F) (nd : ns.Nodup) (hk : ns[k]? = some f)
    (hp : ∀ fs : List (Str × V), (∃ dx, H p = some (.ins C dx fs)) → k ≤ fs.length) (hbg : b < g) (hqg : q < g) {dx : Addr} {fs : List (Str × V)} (h : H p = some (.ins C dx fs)) :
    ∃ Fs', @RelS _ (obVp b p C g ns q fa) K (upd H p (.ins C dx (putF f v fs))) (s.set (g + k) (some d)) (σ.set (g + k) (some v)) Fs' ∧ Chg (InF Fs) H (upd H p (.ins C dx (putF f v fs))) ∧ ∀ j a, a ∈ Fs' j → (a ∈ Fs j ∧ j ≠ g + k) ∨ (a ∈ F ∧ j = g + k) := by
  letI := obVp b p C g ns q fa
  have pb : p ∈ Fs b := R.fpF (by show p ∈ (if b = b then [p] else []); rw [if_pos rfl]; exact List.mem_singleton.mpr rfl)
  have chg : Chg (fun a => a = p) H (upd H p (.ins C dx (putF f v fs))) := .upd1 (m := .ins _ _ _) h
  have hkn : k < ns.length := (List.getElem?_eq_some_iff.mp hk).1
  have hi : g + k < s.length := by rw [R.len, R.lnk.1.len]; omega
  have ni : g + k ≠ b := by omega
  refine ⟨upF Fs (g + k) F, ⟨by rw [List.length_set, List.length_set, R.len], fun j d' e => ?_, fun j hj => ?_, fun j l a h1 h2 => ?_, ⟨R.lnk.1.store nd hk hp hbg hqg v h, chg.tab R.lnk.2⟩, fun j hj d' e => ?_⟩, chg.mono (fun a _ _ w => ⟨b, by rw [w]; exact pb⟩), fun j a ha => ?_⟩
  · by_cases hj : j = g + k
    · subst hj
      rw [List.getElem?_set_self hi] at e
      cases e
      refine ⟨v, by rw [List.getElem?_set_self (by rw [← R.len]; exact hi)], ?_⟩
      unfold upF
      rw [if_pos rfl]
      exact A.own.chg chg fun a ha w => A.dis b p pb (by rw [← w]; exact ha)
    · rw [List.getElem?_set_ne (Ne.symm hj)] at e
      obtain ⟨v', hv', o⟩ := R.has j d' e
      refine ⟨v', by rw [List.getElem?_set_ne (Ne.symm hj)]; exact hv', ?_⟩
      unfold upF
      rw [if_neg hj]
      exact o.chg chg fun a ha w => by
        have := R.dis j b p (by rw [← w]; exact ha) pb
        subst this
        exact R.bse j (by show (if j = j then [p] else []) ≠ []; rw [if_pos rfl]; simp) d' e
  · unfold upF
    by_cases hj2 : j = g + k
    · subst hj2
      exact absurd (List.getElem?_set_self hi) (hj d)
    · rw [if_neg hj2]
      exact R.off j fun d' e => hj d' (by rw [List.getElem?_set_ne (Ne.symm hj2)]; exact e)
  · unfold upF at h1 h2
    split at h1
    · split at h2
      · omega
      · exact absurd h1 (A.dis l a h2)
    · split at h2
      · exact absurd h2 (A.dis j a h1)
      · exact R.dis j l a h1 h2
  · by_cases hj2 : j = g + k
    · subst hj2
      exact hj (if_neg ni)
    · rw [List.getElem?_set_ne (Ne.symm hj2)] at e
      exact R.bse j hj d' e
  · unfold upF at ha
    split at ha
    · exact .inr ⟨ha, by assumption⟩
    · exact .inl ⟨ha, by assumption⟩
end
def pvB : Option Nat → Sg → Bool
  | none, _ => true
  | some j, s => ((s[j]?).join).isSome
def sFldS (pv : Option Nat) (i : Nat) (g : O) : S := fun s => (g s).bind fun r s1 => match own r s1 with
  | none => .bad
  | some d => if pvB pv s1 = true then .ok .nx (s1.set i (some d)) else .bad
section
variable [Tb] {X : Cx} {b g k i q : Nat} {p C fa : Addr} {ns : List Str} {f gx : Str} {e value : Expr} {pos pos' : Pos} {lk : Nat → Bool} {pv : Option Nat}
theorem pv_ok {K : PySem.W.Frag} {H : Hp} {s : Sg} {σ : St} {Fs : Fp} (R : @RelS _ (obVp b p C g ns q fa) K H s σ Fs) (hpv : (k = 0 ∧ pv = none) ∨ (∃ j, k = j + 1 ∧ pv = some (g + j))) (h : pvB pv s = true) (hk : k < ns.length) : ∀ fs : List (Str × V), (∃ dx, H p = some (.ins C dx fs)) → k ≤ fs.length := by
  letI := obVp b p C g ns q fa
  rintro fs ⟨dx, hf⟩
  rcases hpv with ⟨rfl, _⟩ | ⟨j, rfl, rfl⟩
  · exact Nat.zero_le _
  · obtain ⟨d, hd⟩ := Option.isSome_iff_exists.mp h
    obtain ⟨v, hv, _⟩ := R.has _ _ (join_some hd)
    obtain ⟨h1, h2, hq, dx', fs', h3, h4, h5, h6⟩ := R.lnk.1
    rw [hf] at h3
    cases h3
    have := h6 j (by omega)
    rw [hv] at this
    cases hq : fs[j]? with
    | none => rw [hq] at this; cases this
    | some q => exact (List.getElem?_eq_some_iff.mp hq).1
theorem ss_fld {gv : O} (hb : PE X e (tVar b)) (hv : @SimO _ (obVp b p C g ns q fa) X value gv) (hk : ns[k]? = some f) (nd : ns.Nodup) (c : Cls X.K C) (n : NoAttr X.K C f) (hpv : (k = 0 ∧ pv = none) ∨ (∃ j, k = j + 1 ∧ pv = some (g + j))) (hbg : b < g) (hqg : q < g) (few : ns.length < 1000) (hl : lk i = false) (hN : X.N[i]? = some gx)
    (hgx : X.env.scope.names.lookup gx = none) (hi : i = g + k := by rfl) (hs : swapsWith value (some (.Attribute e f pos')) pos.line X.env = pure false := by rfl) :
    @SimS _ (obVp b p C g ns q fa) X lk (.Assign [.Attribute e f pos'] value pos) (sFldS pv i gv) := by
  letI := obVp b p C g ns q fa
  subst hi
  have hkn : k < ns.length := (List.getElem?_eq_some_iff.mp hk).1
  refine ps_imp (ps_ghN (ps_fld hb hv hs)) fun D σ H z => ?_
  obtain ⟨s, Fs, fl, s', R, e, qq⟩ := z
  obtain ⟨r, s1, e1, e⟩ := bind_inv e
  refine ⟨s, Fs, r, s1, R, e1, fun v H1 Fs1 F R1 E1 k1 n1 => ?_⟩
  split at e
  · cases e
  · rename_i d hd
    split at e
    · rename_i hpv2
      cases e
      have hp := pv_ok R1 hpv hpv2 hkn
      obtain ⟨h1, h2, hq, dx, fs, h3, h4, h5, h6⟩ := id R1.lnk.1
      refine ⟨.ref p, h1, p, C, dx, fs, rfl, h3, c, n, by omega, σ.set (g + k) (some v), .set hN hgx, ?_⟩
      obtain ⟨Fs2, R2, C2, n2⟩ := relS_store R1 (rfOk_own k1 R1 hd) nd hk hp hbg hqg h3
      refine qq _ _ Fs2 R2 (Ev.r (E1.step C2 fun j a ha => ?_)) (.set hl)
      rcases n2 j a ha with z | z
      · exact E1.new j a z.1
      · exact .inr (n1 a z.1)
    · cases e
end
end Sim
namespace Sim
open PySem PySem.Spec L2
theorem OwnA.ls {K : PySem.W.Frag} {H : Hp} : ∀ {ds : List D} {vs : List V} {F : List Addr}, OwnA K H ds vs F → ∃ Gl, OwnLs K H ds vs Gl ∧ ∀ a, a ∈ F ↔ ∃ G, G ∈ Gl ∧ a ∈ G
  | [], _, _, t => by
    cases t
    exact ⟨[], .nil, by simp⟩
  | d :: ds, _, _, t => by
    cases t with
    | @cons v vs _ _ F1 F2 o t n =>
      obtain ⟨Gl, h1, h2⟩ := OwnA.ls t
      refine ⟨F1 :: Gl, .cons o (fun G hG a ha hb => n a ha ((h2 a).mpr ⟨G, hG, hb⟩)) h1, fun a => ?_⟩
      rw [List.mem_append, h2]
      constructor
      · rintro (h | ⟨G, hG, h⟩)
        · exact ⟨F1, List.mem_cons_self .., h⟩
        · exact ⟨G, List.mem_cons_of_mem _ hG, h⟩
      · rintro ⟨G, hG, h⟩
        rcases List.mem_cons.mp hG with rfl | hG
        · exact .inl h
        · exact .inr ⟨G, hG, h⟩
theorem OwnLs.a {K : PySem.W.Frag} {H : Hp} {ds : List D} {vs : List V} {Gl : List (List Addr)} (h : OwnLs K H ds vs Gl) : OwnA K H ds vs Gl.flatten := by
  induction h with
  | nil => exact .nil
  | cons o n _ ih =>
    rw [List.flatten_cons]
    refine .cons o ih fun a ha hb => ?_
    obtain ⟨G, hG, h⟩ := List.mem_flatten.mp hb
    exact n G hG a ha h
theorem OwnLs.at {K : PySem.W.Frag} {H : Hp} {ds : List D} {vs : List V} {Gl : List (List Addr)} (h : OwnLs K H ds vs Gl) : ∀ {i : Nat} {d : D}, ds[i]? = some d → ∃ v, vs[i]? = some v ∧ Own K H d v (Gl.getD i []) := by
  induction h with
  | nil => intro i d e; simp at e
  | @cons d0 v F ds vs Fl o n _ ih =>
    intro i d e
    cases i with
    | zero => simp at e; subst e; exact ⟨v, rfl, o⟩
    | succ i =>
      obtain ⟨v', h1, h2⟩ := ih (i := i) (d := d) (by simpa using e)
      exact ⟨v', by simpa using h1, by simpa using h2⟩
theorem OwnLs.dj {K : PySem.W.Frag} {H : Hp} {ds : List D} {vs : List V} {Gl : List (List Addr)} (h : OwnLs K H ds vs Gl) : ∀ {i j : Nat} {a : Addr}, a ∈ Gl.getD i [] → a ∈ Gl.getD j [] → i = j := by
  induction h with
  | nil => intro i j a e; simp at e
  | @cons d0 v F ds vs Fl o n _ ih =>
    intro i j a h1 h2
    cases i with
    | zero => cases j with
      | zero => rfl
      | succ j =>
        obtain ⟨G, hG, hm⟩ := getD_of (Fl := Fl) (i := j) (by simpa using h2)
        exact absurd hm (n G (List.mem_of_getElem? hG) a (by simpa using h1))
    | succ i => cases j with
      | zero =>
        obtain ⟨G, hG, hm⟩ := getD_of (Fl := Fl) (i := i) (by simpa using h1)
        exact absurd hm (n G (List.mem_of_getElem? hG) a (by simpa using h2))
      | succ j => rw [ih (i := i) (j := j) (by simpa using h1) (by simpa using h2)]
/-- what is put into the slots from g on -/
def putG {α : Type} : Nat → List α → List (Option α) → List (Option α)
  | _, [], s => s
  | g, d :: ds, s => putG (g + 1) ds (s.set g (some d))
theorem putG_len {α : Type} : ∀ (ds : List α) (g : Nat) (s : List (Option α)), (putG g ds s).length = s.length
  | [], _, _ => rfl
  | d :: ds, g, s => by rw [putG, putG_len ds, List.length_set]
theorem putG_at {α : Type} : ∀ (ds : List α) (g : Nat) (s : List (Option α)) (i : Nat), g + ds.length ≤ s.length → (putG g ds s)[i]? = if g ≤ i ∧ i < g + ds.length then some (ds[i - g]?) else s[i]?
  | [], g, s, i, h => by
    rw [putG, if_neg]
    rw [List.length_nil]
    omega
  | d :: ds, g, s, i, h => by
    rw [List.length_cons] at h
    rw [putG, putG_at ds (g + 1) _ i (by rw [List.length_set]; omega)]
    by_cases h1 : g + 1 ≤ i ∧ i < g + 1 + ds.length
    · rw [if_pos h1, if_pos (by rw [List.length_cons]; omega), show i - g = (i - (g + 1)) + 1 by omega, List.getElem?_cons_succ]
    · rw [if_neg h1]
      by_cases h2 : i = g
      · subst h2
        rw [if_pos (by rw [List.length_cons]; omega), List.getElem?_set_self (by omega), Nat.sub_self]
        rfl
      · rw [if_neg (by rw [List.length_cons]; omega), List.getElem?_set_ne (Ne.symm h2)]
/-- what the slots from g on hold, all of them -/
def tolds : Nat → Nat → Sg → Option (List D)
  | _, 0, _ => some []
  | g, m + 1, s => match (s[g]?).join with
    | none => none
    | some d => match tolds (g + 1) m s with
      | none => none
      | some ds => some (d :: ds)
theorem tolds_at : ∀ {m g : Nat} {s : Sg} {ds : List D}, tolds g m s = some ds → ds.length = m ∧ ∀ k, k < m → s[g + k]? = some (ds[k]?)
  | 0, g, s, ds, h => by
    cases h
    exact ⟨rfl, fun k hk => absurd hk (by omega)⟩
  | m + 1, g, s, ds, h => by
    unfold tolds at h
    split at h
    · cases h
    · rename_i d hd
      split at h
      · cases h
      · rename_i ds' hds
        cases h
        obtain ⟨h1, h2⟩ := tolds_at hds
        refine ⟨by rw [List.length_cons, h1], fun k hk => ?_⟩
        cases k with
        | zero => simpa using join_some hd
        | succ k =>
          have := h2 k (by omega)
          rw [show g + (k + 1) = g + 1 + k by omega, this, List.getElem?_cons_succ]
/-- the slots from g on, emptied -/
def clrG : Nat → Nat → Sg → Sg
  | _, 0, s => s
  | g, m + 1, s => clrG (g + 1) m (s.set g none)
theorem clrG_len : ∀ (m g : Nat) (s : Sg), (clrG g m s).length = s.length
  | 0, _, _ => rfl
  | m + 1, g, s => by rw [clrG, clrG_len m, List.length_set]
theorem clrG_at : ∀ (m g : Nat) (s : Sg) (i : Nat), g + m ≤ s.length → (clrG g m s)[i]? = if g ≤ i ∧ i < g + m then some none else s[i]?
  | 0, g, s, i, h => by
    rw [clrG, if_neg]
    omega
  | m + 1, g, s, i, h => by
    rw [clrG, clrG_at m (g + 1) _ i (by rw [List.length_set]; omega)]
    by_cases h1 : g + 1 ≤ i ∧ i < g + 1 + m
    · rw [if_pos h1, if_pos (by omega)]
    · rw [if_neg h1]
      by_cases h2 : i = g
      · subst h2
        rw [if_pos (by omega), List.getElem?_set_self (by omega)]
      · rw [if_neg (by omega), List.getElem?_set_ne (Ne.symm h2)]
/-- the fields of an instance as it is told (the first of them, if it is not all made) -/
def keysB : List (D × D) → List Str → Bool
  | [], _ => true
  | (.str k, _) :: l, n :: ns => k == n && keysB l ns
  | _, _ => false
theorem keysB_ok : ∀ {l : List (D × D)} {ns : List Str}, keysB l ns = true → l.length ≤ ns.length ∧ l.map Prod.fst = (ns.take l.length).map PyData.str
  | [], ns, _ => ⟨Nat.zero_le _, by simp⟩
  | (.str k, v) :: l, n :: ns, h => by
    rw [keysB, Bool.and_eq_true, beq_iff_eq] at h
    obtain ⟨h1, h2⟩ := keysB_ok h.2
    refine ⟨by rw [List.length_cons, List.length_cons]; omega, ?_⟩
    rw [List.map_cons, List.length_cons, List.take_succ_cons, List.map_cons, h2, h.1]
  | (.none, _) :: _, _ :: _, h => by cases h
  | (.bool _, _) :: _, _ :: _, h => by cases h
  | (.int _, _) :: _, _ :: _, h => by cases h
  | (.list _, _) :: _, _ :: _, h => by cases h
  | (.tuple _, _) :: _, _ :: _, h => by cases h
  | (.dict _, _) :: _, _ :: _, h => by cases h
  | (.none, _) :: _, [], h => by cases h
  | (.bool _, _) :: _, [], h => by cases h
  | (.int _, _) :: _, [], h => by cases h
  | (.str _, _) :: _, [], h => by cases h
  | (.list _, _) :: _, [], h => by cases h
  | (.tuple _, _) :: _, [], h => by cases h
  | (.dict _, _) :: _, [], h => by cases h
def insP (nm : Str) (ns : List Str) : D → Option (List D)
  | .dict ((.bool false, .str nm') :: l) => if (nm' == nm && keysB l ns) = true then some (l.map Prod.snd) else none
  | _ => none
theorem zkd_len : ∀ {fs : List Str} {ds : List D}, fs.length = ds.length → (zkd PyData.str fs ds).map Prod.fst = fs.map PyData.str ∧ (zkd PyData.str fs ds).map Prod.snd = ds ∧ (zkd PyData.str fs ds).length = ds.length
  | [], [], _ => ⟨rfl, rfl, rfl⟩
  | f :: fs, d :: ds, h => by
    obtain ⟨h1, h2, h3⟩ := zkd_len (fs := fs) (ds := ds) (by simpa using h)
    exact ⟨by rw [zkd, List.map_cons, h1]; rfl, by rw [zkd, List.map_cons, h2], by rw [zkd, List.length_cons, List.length_cons, h3]⟩
  | [], _ :: _, h => by cases h
  | _ :: _, [], h => by cases h
theorem str_inj : ∀ {a b : List Str}, a.map PyData.str = b.map PyData.str → a = b
  | [], [], _ => rfl
  | x :: a, y :: b, h => by
    simp only [List.map_cons, List.cons.injEq, PyData.str.injEq] at h
    rw [h.1, str_inj h.2]
  | [], _ :: _, h => by cases h
  | _ :: _, [], h => by cases h
theorem own_ins {K : PySem.W.Frag} {H : Hp} {nm : Str} {ns : List Str} {d : D} {v : V} {F : List Addr} {fds : List D} (o : Own K H d v F) (h : insP nm ns d = some fds) :
    ∃ p C dx fs G, v = .ref p ∧ F = p :: G ∧ ClsN K nm C ∧ H p = some (.ins C dx fs) ∧ OwnA K H fds (fs.map Prod.snd) G ∧ p ∉ G ∧ fs.length ≤ ns.length ∧ fs.map Prod.fst = ns.take fs.length := by
  unfold insP at h
  split at h
  · rename_i nm' l
    split at h
    · rename_i hc0
      rw [Bool.and_eq_true, beq_iff_eq] at hc0
      have hc := And.intro hc0.1 (keysB_ok hc0.2)
      cases h
      cases o with
      | @ins a C dx nm2 fs ds F0 cn e t n =>
        have hlen := t.len
        rw [List.length_map] at hlen
        obtain ⟨z1, z2, z3⟩ := zkd_len (fs := fs.map Prod.fst) (ds := ds) (by rw [List.length_map]; exact hlen)
        rw [z1, z3, ← hlen] at hc
        rw [z2]
        refine ⟨a, C, dx, fs, F0, rfl, rfl, by rw [← hc.1]; exact cn, e, t, n, hc.2.1, ?_⟩
        exact str_inj hc.2.2
    · cases h
  · cases h
section
variable [Tb] {K : PySem.W.Frag} {H : Hp} {s : Sg} {σ : St} {Fs : Fp} {j g : Nat} {ns : List Str} {nm : Str} {d : D} {fds : List D}
/-- what the opening of a slot's instance gives -/
structure Opened (K : PySem.W.Frag) (H : Hp) (s : Sg) (σ : St) (Fs : Fp) (j g : Nat) (nm : Str) (ns : List Str) (fds : List D) (p C : Addr) (σ2 : St) (Fs2 : Fp) : Prop where
  cn : ClsN K nm C
  at_ : σ[j]? = some (some (.ref p))
  rel : @RelS _ (obV j p C g ns) K H (putG g fds (s.set j none)) σ2 Fs2
  real : ∀ i, i < g → σ2[i]? = σ[i]?
  len : σ2.length = σ.length
  mem : p ∈ Fs j
  obj : Fs2 j = [p]
  low : ∀ i a, i < g → i ≠ j → a ∈ Fs2 i → a ∈ Fs i
  high : ∀ i a, g ≤ i → a ∈ Fs2 i → a ∈ Fs j
theorem relS_open (R : @RelS _ noVs K H s σ Fs) (e : s[j]? = some (some d)) (h : insP nm ns d = some fds) (hj : j < g) (hs : s.length = g + ns.length) (hn : ∀ i, g ≤ i → ∀ d, s[i]? ≠ some (some d)) (hg : ∀ i, g + fds.length ≤ i → i < s.length → σ[i]? = some none) :
    ∃ p C σ2 Fs2, Opened K H s σ Fs j g nm ns fds p C σ2 Fs2 := by
  obtain ⟨v, hv, o⟩ := @RelS.has _ noVs _ _ _ _ _ R j d e
  obtain ⟨p, C, dx, fs, G, rfl, hF, cn, hp, t, np, hle, hfst⟩ := own_ins o h
  obtain ⟨Gl, ol, hG⟩ := t.ls
  have lF := ol.lenF
  have lv := ol.len
  rw [List.length_map] at lv
  have hlen : s.length = σ.length := @RelS.len _ noVs _ _ _ _ _ R
  have hsj : j < s.length := by omega
  have at2 : ∀ i, (putG g fds (s.set j none))[i]? = if g ≤ i ∧ i < g + fds.length then some (fds[i - g]?) else (s.set j none)[i]? := fun i => putG_at fds g _ i (by rw [List.length_set]; omega)
  have atσ : ∀ i, (putG g (fs.map Prod.snd) σ)[i]? = if g ≤ i ∧ i < g + fds.length then some ((fs.map Prod.snd)[i - g]?) else σ[i]? := fun i => by
    have := putG_at (fs.map Prod.snd) g σ i (by rw [List.length_map]; omega)
    rw [List.length_map, lv] at this
    exact this
  have hnone : ∀ i, g ≤ i → Fs i = [] := fun i hi => @RelS.off _ noVs _ _ _ _ _ R i (hn i hi)
  refine ⟨p, C, putG g (fs.map Prod.snd) σ, fun i => if i = j then [p] else if g ≤ i then Gl.getD (i - g) [] else Fs i, cn, hv, ?_, fun i hi => by rw [atσ, if_neg (by omega)], putG_len _ _ _, by rw [hF]; exact List.mem_cons_self .., if_pos rfl, fun i a hi hij ha => ?_, fun i a hi ha => ?_⟩
  · have inG : ∀ k a, a ∈ Gl.getD k [] → a ∈ G := fun k a ha => by
      obtain ⟨G', hG', hm⟩ := getD_of ha
      exact (hG a).mpr ⟨G', List.mem_of_getElem? hG', hm⟩
    have pj : p ∈ Fs j := by rw [hF]; exact List.mem_cons_self ..
    have Gj : ∀ a, a ∈ G → a ∈ Fs j := fun a ha => by rw [hF]; exact List.mem_cons_of_mem _ ha
    have RD := fun i k a => @RelS.dis _ noVs _ _ _ _ _ R i k a
    refine @RelS.mk _ (obV j p C g ns) _ _ _ _ _ (by rw [putG_len, putG_len, List.length_set, hlen]) (fun i d' e' => ?_) (fun i hi => ?_) (fun i k a h1 h2 => ?_) ⟨⟨?_, ?_, ?_, dx, fs, hp, hle, hfst, fun k hk => ?_⟩, (@RelS.lnk _ noVs _ _ _ _ _ R).2⟩ (fun i hi d' e' => ?_)
    · rw [at2] at e'
      split at e'
      · rename_i hi
        obtain ⟨w, hw, ow⟩ := ol.at (i := i - g) (d := d') (Option.some.inj e')
        refine ⟨w, by rw [atσ, if_pos hi, hw], ?_⟩
        rw [if_neg (by omega), if_pos hi.1]
        exact ow
      · by_cases hij : i = j
        · subst hij
          rw [List.getElem?_set_self hsj] at e'
          cases e'
        · rw [List.getElem?_set_ne (Ne.symm hij)] at e'
          have hig : ¬ g ≤ i := fun z => hn i z d' e'
          obtain ⟨w, hw, ow⟩ := @RelS.has _ noVs _ _ _ _ _ R i d' e'
          refine ⟨w, by rw [atσ, if_neg (by omega)]; exact hw, ?_⟩
          rw [if_neg hij, if_neg hig]
          exact ow
    · show (if i = j then [p] else if g ≤ i then Gl.getD (i - g) [] else Fs i) = (if i = j then [p] else [])
      by_cases hij : i = j
      · rw [if_pos hij, if_pos hij]
      · rw [if_neg hij, if_neg hij]
        by_cases hig : g ≤ i
        · rw [if_pos hig]
          by_cases hx : i < g + fds.length
          · exfalso
            have := hi fds[i - g]
            rw [at2, if_pos ⟨hig, hx⟩, List.getElem?_eq_getElem (by omega)] at this
            exact this rfl
          · rw [List.getD_eq_getElem?_getD, List.getElem?_eq_none (by omega)]
            rfl
        · rw [if_neg hig]
          refine @RelS.off _ noVs _ _ _ _ _ R i fun d' e' => hi d' ?_
          rw [at2, if_neg (by omega), List.getElem?_set_ne (Ne.symm hij)]
          exact e'
    · have h1 : a ∈ (if i = j then [p] else if g ≤ i then Gl.getD (i - g) [] else Fs i) := h1
      have h2 : a ∈ (if k = j then [p] else if g ≤ k then Gl.getD (k - g) [] else Fs k) := h2
      -- each place belongs to one of: p, the fields', another slot's
      by_cases hij : i = j
      · rw [if_pos hij] at h1
        have ea := List.mem_singleton.mp h1
        by_cases hkj : k = j
        · omega
        · rw [if_neg hkj] at h2
          split at h2
          · exact absurd (by rw [← ea]; exact inG _ _ h2) np
          · exact absurd (RD k j a h2 (by rw [ea]; exact pj)) hkj
      · rw [if_neg hij] at h1
        by_cases hkj : k = j
        · rw [if_pos hkj] at h2
          have ea := List.mem_singleton.mp h2
          split at h1
          · exact absurd (by rw [← ea]; exact inG _ _ h1) np
          · exact absurd (RD i j a h1 (by rw [ea]; exact pj)) hij
        · rw [if_neg hkj] at h2
          split at h1
          · split at h2
            · have := ol.dj h1 h2
              omega
            · exact absurd (RD k j a h2 (Gj a (inG _ _ h1))) hkj
          · split at h2
            · exact absurd (RD i j a h1 (Gj a (inG _ _ h2))) hij
            · exact RD i k a h1 h2
    · rw [atσ, if_neg (by omega)]
      exact hv
    · rw [putG_len]
      omega
    · rw [atσ, if_neg (by omega)]
      exact hv
    · rw [atσ]
      by_cases hk2 : k < fds.length
      · rw [if_pos (by omega), show g + k - g = k by omega, List.getElem?_map]
      · rw [if_neg (by omega), hg (g + k) (by omega) (by omega), List.getElem?_eq_none (by omega)]
        rfl
    · have hij : i = j := by
        by_cases hij : i = j
        · exact hij
        · exact absurd (if_neg hij) hi
      subst hij
      rw [at2, if_neg (by omega), List.getElem?_set_self hsj] at e'
      cases e'
  · have ha : a ∈ (if i = j then [p] else if g ≤ i then Gl.getD (i - g) [] else Fs i) := ha
    rw [if_neg hij, if_neg (by omega)] at ha
    exact ha
  · have ha : a ∈ (if i = j then [p] else if g ≤ i then Gl.getD (i - g) [] else Fs i) := ha
    rw [if_neg (by omega), if_pos hi] at ha
    obtain ⟨G', hG', hm⟩ := getD_of ha
    rw [hF]
    exact List.mem_cons_of_mem _ ((hG a).mpr ⟨G', List.mem_of_getElem? hG', hm⟩)
/-- the state behind the closing -/
def clS (j g m : Nat) (d : D) (s : Sg) : Sg := (clrG g m s).set j (some d)
structure Closed (Fs Fs' : Fp) (j g : Nat) (p : Addr) : Prop where
  obj : ∀ a, a ∈ Fs' j → a = p ∨ ∃ k, g ≤ k ∧ a ∈ Fs k
  low : ∀ i a, i ≠ j → a ∈ Fs' i → a ∈ Fs i ∧ i < g
theorem ownA_slots {p C : Addr} (R : @RelS _ (obV j p C g ns) K H s σ Fs) : ∀ {m g0 : Nat} {fds : List D} {vs : List V}, tolds g0 m s = some fds → (∀ k, k < m → σ[g0 + k]? = some (vs[k]?)) → vs.length = m →
    ∃ F, OwnA K H fds vs F ∧ ∀ a, a ∈ F → ∃ k, g0 ≤ k ∧ k < g0 + m ∧ a ∈ Fs k := by
  letI := obV j p C g ns
  intro m
  induction m with
  | zero =>
    intro g0 fds vs h hv hl
    cases h
    cases vs with
    | nil => exact ⟨[], .nil, by simp⟩
    | cons _ _ => cases hl
  | succ m ih =>
    intro g0 fds vs h hv hl
    unfold tolds at h
    split at h
    · cases h
    · rename_i d hd
      split at h
      · cases h
      · rename_i ds' hds
        cases h
        cases vs with
        | nil => cases hl
        | cons v vs =>
          obtain ⟨F, h1, h2⟩ := ih (g0 := g0 + 1) (fds := ds') (vs := vs) hds (fun k hk => by
            have := hv (k + 1) (by omega)
            rw [show g0 + 1 + k = g0 + (k + 1) by omega, this]
            simp) (by simpa using hl)
          obtain ⟨v', hv', o⟩ := R.has g0 d (join_some hd)
          have h0 := hv 0 (by omega)
          rw [Nat.add_zero, hv'] at h0
          simp at h0
          subst h0
          refine ⟨Fs g0 ++ F, .cons o h1 fun a ha hb => ?_, fun a ha => ?_⟩
          · obtain ⟨k, hk1, hk2, hk3⟩ := h2 a hb
            have := R.dis g0 k a ha hk3
            omega
          · rcases List.mem_append.mp ha with z | z
            · exact ⟨g0, Nat.le_refl _, by omega, z⟩
            · obtain ⟨k, hk1, hk2, hk3⟩ := h2 a z
              exact ⟨k, by omega, by omega, hk3⟩
theorem own_open {p C : Addr} (R : @RelS _ (obV j p C g ns) K H s σ Fs) (cn : ClsN K nm C) (h : tolds g ns.length s = some fds) (hj : j < g) :
    ∃ F, Own K H (dIT nm ns fds) (.ref p) (p :: F) ∧ ∀ a, a ∈ F → ∃ k, g ≤ k ∧ a ∈ Fs k := by
  letI := obV j p C g ns
  obtain ⟨h1, h2, hq, dx, fs, h3, h4, h5, h6⟩ := id R.lnk.1
  obtain ⟨t1, t2⟩ := tolds_at h
  have full : fs.length = ns.length := by
    by_cases hz : fs.length < ns.length
    · exfalso
      have a1 := t2 fs.length hz
      have a2 := h6 fs.length hz
      rw [List.getElem?_eq_none (Nat.le_refl _)] at a2
      rw [List.getElem?_eq_getElem (l := fds) (i := fs.length) (by omega)] at a1
      obtain ⟨v, hv, _⟩ := R.has _ _ a1
      rw [hv] at a2
      cases a2
    · omega
  obtain ⟨F, o, hF⟩ := ownA_slots R (vs := fs.map Prod.snd) h (fun k hk => by rw [h6 k hk, List.getElem?_map]) (by rw [List.length_map, full])
  have pb : p ∈ Fs j := R.fpF (by show p ∈ (if j = j then [p] else []); rw [if_pos rfl]; exact List.mem_singleton.mpr rfl)
  have np : p ∉ F := fun z => by
    obtain ⟨k, hk1, hk2, hk3⟩ := hF p z
    have := R.dis j k p pb hk3
    omega
  refine ⟨F, ?_, fun a ha => ?_⟩
  · have e : fs.map Prod.fst = ns := by rw [h5, full, List.take_length]
    have := Own.ins cn h3 o np
    rw [e] at this
    exact this
  · obtain ⟨k, hk1, _, hk3⟩ := hF a ha
    exact ⟨k, hk1, hk3⟩
theorem relS_close {p C : Addr} {σ0 : St} (R : @RelS _ (obV j p C g ns) K H s σ Fs) (cn : ClsN K nm C) (h : tolds g ns.length s = some fds) (hj : j < g) (hr : ∀ i, i < g → σ0[i]? = σ[i]?) (hl : σ0.length = σ.length) :
    ∃ Fs', @RelS _ noVs K H (clS j g ns.length (dIT nm ns fds) s) σ0 Fs' ∧ Closed Fs Fs' j g p := by
  letI := obV j p C g ns
  obtain ⟨F, o, hF⟩ := own_open R cn h hj
  have hls : s.length = g + ns.length := R.len.trans R.lnk.1.len
  have at2 : ∀ i, (clS j g ns.length (dIT nm ns fds) s)[i]? = if i = j then some (some (dIT nm ns fds)) else if g ≤ i ∧ i < g + ns.length then some none else s[i]? := fun i => by
    unfold clS
    by_cases hij : i = j
    · subst hij
      rw [if_pos rfl, List.getElem?_set_self (by rw [clrG_len]; omega)]
    · rw [if_neg hij, List.getElem?_set_ne (Ne.symm hij), clrG_at _ _ _ _ (by omega)]
  have pb : p ∈ Fs j := R.fpF (by show p ∈ (if j = j then [p] else []); rw [if_pos rfl]; exact List.mem_singleton.mpr rfl)
  have fj : Fs j = [p] := by
    rw [R.off j (R.bse j (by show (if j = j then [p] else []) ≠ []; rw [if_pos rfl]; simp))]
    exact if_pos rfl
  refine ⟨fun i => if i = j then p :: F else if g ≤ i then [] else Fs i, ?_, fun a ha => ?_, fun i a hij ha => ?_⟩
  · have inF : ∀ {i : Nat} {a : Addr}, a ∈ (if i = j then p :: F else if g ≤ i then [] else Fs i) → (i = j ∧ (a = p ∨ ∃ k, g ≤ k ∧ a ∈ Fs k)) ∨ (i ≠ j ∧ i < g ∧ a ∈ Fs i) := fun {i a} ha => by
      by_cases hij : i = j
      · rw [if_pos hij] at ha
        exact .inl ⟨hij, (List.mem_cons.mp ha).imp id (hF a)⟩
      · rw [if_neg hij] at ha
        split at ha
        · cases ha
        · exact .inr ⟨hij, by omega, ha⟩
    refine @RelS.mk _ noVs _ _ _ _ _ ?_ (fun i d' e' => ?_) (fun i hi => ?_) (fun i k a h1 h2 => ?_) ⟨trivial, R.lnk.2⟩ (fun i hi => absurd rfl hi)
    · unfold clS
      rw [List.length_set, clrG_len, hl, R.len]
    · rw [at2] at e'
      by_cases hij : i = j
      · rw [if_pos hij] at e'
        cases e'
        subst hij
        refine ⟨.ref p, (hr i hj).trans R.lnk.1.base, ?_⟩
        show Own K H _ _ (if i = i then p :: F else _)
        rw [if_pos rfl]
        exact o
      · rw [if_neg hij] at e'
        split at e'
        · cases e'
        · rename_i hgi
          obtain ⟨v, hv, ov⟩ := R.has i d' e'
          have hig : i < g := by
            have : i < s.length := (List.getElem?_eq_some_iff.mp e').1
            omega
          refine ⟨v, (hr i hig).trans hv, ?_⟩
          show Own K H _ _ (if i = j then p :: F else if g ≤ i then [] else Fs i)
          rw [if_neg hij, if_neg (by omega)]
          exact ov
    · show (if i = j then p :: F else if g ≤ i then [] else Fs i) = []
      by_cases hij : i = j
      · subst hij
        exact absurd (by rw [at2, if_pos rfl]) (hi (dIT nm ns fds))
      · rw [if_neg hij]
        split
        · rfl
        · rename_i hig
          rw [R.off i fun d' e' => hi d' (by rw [at2, if_neg hij, if_neg (by omega)]; exact e')]
          exact if_neg hij
    · rcases inF h1 with ⟨e1, m1⟩ | ⟨n1, l1, m1⟩
      · rcases inF h2 with ⟨e2, m2⟩ | ⟨n2, l2, m2⟩
        · rw [e1, e2]
        · exfalso
          rcases m1 with m1 | ⟨q, hq, m1⟩
          · exact n2 (R.dis k j a m2 (by rw [m1]; exact pb))
          · have := R.dis k q a m2 m1
            omega
      · rcases inF h2 with ⟨e2, m2⟩ | ⟨n2, l2, m2⟩
        · exfalso
          rcases m2 with m2 | ⟨q, hq, m2⟩
          · exact n1 (R.dis i j a m1 (by rw [m2]; exact pb))
          · have := R.dis i q a m1 m2
            omega
        · exact R.dis i k a m1 m2
  · have ha : a ∈ (if j = j then p :: F else if g ≤ j then [] else Fs j) := ha
    rw [if_pos rfl] at ha
    exact (List.mem_cons.mp ha).imp id (hF a)
  · have ha : a ∈ (if i = j then p :: F else if g ≤ i then [] else Fs i) := ha
    rw [if_neg hij] at ha
    split at ha
    · cases ha
    · exact ⟨ha, by omega⟩
/-- from ahead of the opening to behind the closing -/
theorem Opened.ev {p C : Addr} {σ2 : St} {Fs2 Fs3 Fs4 : Fp} {H' : Hp} (o : Opened K H s σ Fs j g nm ns fds p C σ2 Fs2) (E : Ev H Fs2 H' Fs3) (c : Closed Fs3 Fs4 j g p) (pj : ∀ i a, a ∈ Fs2 i → i = j → a = p) : Ev H Fs H' Fs4 := by
  have sub : ∀ i a, a ∈ Fs2 i → ∃ k, a ∈ Fs k := fun i a ha => by
    by_cases hij : i = j
    · exact ⟨j, by rw [pj i a ha hij]; exact o.mem⟩
    · by_cases hig : i < g
      · exact ⟨i, o.low i a hig hij ha⟩
      · exact ⟨j, o.high i a (by omega) ha⟩
  refine ⟨E.chg.mono fun a _ _ ⟨i, hi⟩ => sub i a hi, fun i a ha => ?_⟩
  by_cases hij : i = j
  · subst hij
    rcases c.obj a ha with rfl | ⟨k, hk, h⟩
    · exact .inl o.mem
    · exact (E.new k a h).imp (o.high k a hk) id
  · obtain ⟨h, hig⟩ := c.low i a hij ha
    exact (E.new i a h).imp (o.low i a hig hij) id
/-- the same to a way out; low slots that no caller holds may hold what was the object's -/
theorem Opened.evR {lk : Nat → Bool} {p C : Addr} {σ2 : St} {Fs2 Fs3 Fs4 : Fp} {H' : Hp} (o : Opened K H s σ Fs j g nm ns fds p C σ2 Fs2) (E : EvR lk H Fs2 H' Fs3) (c : Closed Fs3 Fs4 j g p) (h0 : lk j = true) (hp : ∀ i, i < g → lk i = false → Fs i = []) :
    Chg (InF Fs) H H' ∧ ∀ i a, lk i = true → a ∈ Fs4 i → a ∈ Fs i ∨ H a = none := by
  have hpj : ∀ i a, a ∈ Fs2 i → i = j → a = p := fun i a ha hij => by
    rw [hij, o.obj] at ha
    exact List.mem_singleton.mp ha
  have sub : ∀ i a, a ∈ Fs2 i → ∃ k, a ∈ Fs k := fun i a ha => by
    by_cases hij : i = j
    · exact ⟨j, by rw [hpj i a ha hij]; exact o.mem⟩
    · by_cases hig : i < g
      · exact ⟨i, o.low i a hig hij ha⟩
      · exact ⟨j, o.high i a (by omega) ha⟩
  have un : ∀ k a, lk k = false → a ∈ Fs2 k → a ∈ Fs j := fun k a hk ha => by
    have hkj : k ≠ j := fun z => by rw [z, h0] at hk; cases hk
    by_cases hig : k < g
    · have := o.low k a hig hkj ha
      rw [hp k hig hk] at this
      cases this
    · exact o.high k a (by omega) ha
  refine ⟨E.chg.mono fun a _ _ ⟨i, hi⟩ => sub i a hi, fun i a hl ha => ?_⟩
  by_cases hij : i = j
  · subst hij
    rcases c.obj a ha with rfl | ⟨k, hk, h⟩
    · exact .inl o.mem
    · rcases E.new k a h with (z | z) | ⟨_, k', hk', z⟩
      · exact .inl (o.high k a hk z)
      · exact .inr z
      · exact .inl (un k' a hk' z)
  · obtain ⟨h, hig⟩ := c.low i a hij ha
    rcases E.new i a h with (z | z) | ⟨z, _⟩
    · exact .inl (o.low i a hig hij z)
    · exact .inr z
    · rw [hl] at z; cases z
end
end Sim
namespace Sim
open PySem PySem.Spec L2
def noneG (g m : Nat) (s : Sg) : Bool := s.length == g + m && (s.drop g).all fun o => o.isNone
theorem noneG_ok {g m : Nat} {s : Sg} (h : noneG g m s = true) : s.length = g + m ∧ ∀ i, g ≤ i → ∀ d, s[i]? ≠ some (some d) := by
  unfold noneG at h
  rw [Bool.and_eq_true, beq_iff_eq, List.all_eq_true] at h
  refine ⟨h.1, fun i hi d e => ?_⟩
  have : (some d : Option D) ∈ s.drop g := by
    rw [List.mem_iff_getElem?]
    exact ⟨i - g, by rw [List.getElem?_drop, show g + (i - g) = i by omega]; exact e⟩
  have := h.2 _ this
  cases this
def oOpen (nm : Str) (ns : List Str) (j g : Nat) (h : O) : O := fun s => match ((s[j]?).join).bind (insP nm ns) with
  | none => .bad
  | some fds => if (fds.length == ns.length && noneG g ns.length s) = true then (h (putG g fds (s.set j none))).bind fun r s1 => (match r, tolds g ns.length s1 with
      | .val d, some fds' => .ok (.val d) (clS j g ns.length (dIT nm ns fds') s1)
      | _, _ => .bad) else .bad
section
variable [Tb] {X : Cx} {j g : Nat} {nm : Str} {ns : List Str} {C : Addr} {e : Expr}
theorem gh_of {σ σ2 : St} (hgh : ∀ (i : Nat) (x : Str), g ≤ i → X.N[i]? = some x → X.env.scope.names.lookup x = none) (h1 : ∀ i, i < g → σ2[i]? = σ[i]?) (h2 : σ2.length = σ.length) : GhEq X σ σ2 := ⟨h2, fun i x hN hv => by
  by_cases hi : i < g
  · exact h1 i hi
  · exact absurd hv (not_vis (hgh i x (by omega) hN))⟩
theorem so_open {hh : O} (hC : ClsN X.K nm C) (h : ∀ p, @SimO _ (obV j p C g ns) X e hh) (hgh : ∀ (i : Nat) (x : Str), g ≤ i → X.N[i]? = some x → X.env.scope.names.lookup x = none) (hj : j < g := by decide) : @SimO _ noVs X e (oOpen nm ns j g hh) := by
  refine ⟨fun pins s0 σ H Q I z => ?_⟩
  obtain ⟨s, Fs, rf, s', R, e0, q⟩ := z
  unfold oOpen at e0
  split at e0
  · cases e0
  · rename_i fds hf
    split at e0
    · rename_i hc
      rw [Bool.and_eq_true, beq_iff_eq] at hc
      obtain ⟨hl, hn⟩ := noneG_ok hc.2
      obtain ⟨d, hd, hi⟩ := Option.bind_eq_some_iff.mp hf
      obtain ⟨p, C', σ2, Fs2, O⟩ := relS_open R (join_some hd) hi hj hl hn (fun i h1 h2 => by omega)
      have hC' := O.cn.eq hC
      subst hC'
      obtain ⟨r, s1, e1, e0⟩ := bind_inv e0
      refine (pe_gh (h p)).run pins s0 σ H Q I ⟨σ2, gh_of hgh O.real O.len, _, Fs2, r, s1, O.rel, e1, fun v H' Fs3 F R3 E3 k3 n3 => ?_⟩
      split at e0
      · rename_i d' fds' ht
        cases e0
        obtain ⟨Fs4, R4, cl⟩ := relS_close (σ0 := σ) R3 O.cn ht hj (fun i hi => (O.real i hi).symm) O.len.symm
        cases k3 with
        | val A =>
          refine q v H' Fs4 F R4 (O.ev E3 cl fun i a ha hij => by rw [hij, O.obj] at ha; exact List.mem_singleton.mp ha) (.val ⟨A.own, fun i a hi ha => ?_⟩) n3
          by_cases hij : i = j
          · subst hij
            rcases cl.obj a hi with rfl | ⟨k, hk, hm⟩
            · refine A.dis i a (@RelS.fpF _ (obV i a C' g ns) _ _ _ _ _ R3 _ _ ?_) ha
              show a ∈ (if i = i then [a] else [])
              rw [if_pos rfl]
              exact List.mem_singleton.mpr rfl
            · exact A.dis k a hm ha
          · exact A.dis i a (cl.low i a hij hi).1 ha
      · cases e0
    · cases e0
end
def mkFnM (nm : Str) (ns : List Str) (ms : List Nat) (n : Nat) (g : S) : Fn := fun ds => match (ds[0]?).bind (insP nm ns) with
  | none => .bad
  | some fds => if okM (0 :: ms) ds = true then (match g (putG n fds ((ds.map some ++ List.replicate (n + ns.length - ds.length) none).set 0 none)) with
    | .ok fl s => (match tolds n ns.length s with
      | none => .bad
      | some fds' => (match coll (0 :: ms) ds 0 (clS 0 n ns.length (dIT nm ns fds') s) with
        | none => .bad
        | some as => (match fl with
          | .nx => .ok .none as
          | .rt d => if pur d = true then .ok d as else .bad
          | _ => .bad)))
    | .exc c v _ => .exc c v
    | .bad => .bad) else .bad
theorem mkFnM_len {nm : Str} {ns : List Str} {ms : List Nat} {n : Nat} {g : S} {ds : List D} {r : D} {as : List D} (h : mkFnM nm ns ms n g ds = .ok r as) : ds.length = ms.length + 1 := by
  unfold mkFnM at h
  split at h
  · cases h
  · split at h
    · rename_i hk
      exact okM_len hk
    · cases h
section
variable [Tb] {P : Program} {w : World} {K : PySem.W.Frag} {mg : Str → Option Value} {base : Heap}
theorem fn_simM {x qual : Str} {st : Stmt} {f : Addr} {fd : FuncData} {N ps : List Str} {ms : List Nat} {n k : Nat} {g : S} {nm : Str} {ns : List Str} {C : Addr} (F : Fun K x qual st f fd) (Sc : FnScope N ps (defScope st)) (hC : ClsN K nm C) (hn : N.length = n + ns.length) (hm : ms.length + 1 = ps.length) (hmn : ms.length < n)
    (hgh : ∀ (i : Nat) (x : Str), n ≤ i → N[i]? = some x → (defScope st).names.lookup x = none)
    (hb : ∀ (p : Addr) (cdv : Value) (A : Around) (outer : List Env) (s : Shared) (H : Hp) (E : XK), Room k (A.deeper (PyProof.Rows.envOfC qual (defScope st) s.heap.objs.size f cdv)) →
      @SimSs _ (obV 0 p C n ns) (cxOf CX0 P w K mg base N qual (defScope st) f cdv A outer s H E).nox (lkM (0 :: ms)) (defBody st) g) : FnOk P w K mg base CX0 (k + 1) f fd ps (spF K ps.length (mkFnM nm ns ms n g)) := by
  refine F.ok Sc (fun vs H Q E h => ?_) (fun cdv A outer s H vs Q E hr h => ?_)
  · obtain ⟨ds, Fl, r, as, hf, hl, _⟩ := h
    exact hl
  · obtain ⟨ds, Fl, r, as, hf, hl, tt, ol, q⟩ := h
    unfold mkFnM at hf
    split at hf
    · cases hf
    · rename_i fds hfd
      obtain ⟨d0, hd0, hins⟩ := Option.bind_eq_some_iff.mp hfd
      split at hf
      · rename_i hok
        have hlm : ds.length = ms.length + 1 := okM_len hok
        have est : L2.start N vs = vs.map some ++ List.replicate (n + ns.length - ds.length) none := by
          unfold L2.start
          rw [hn, ← ol.len]
        have R0 := relS_start tt ol (n + ns.length - ds.length)
        have hln : n + ns.length - ds.length + ds.length = n + ns.length := by omega
        have hs0 : (ds.map some ++ List.replicate (n + ns.length - ds.length) (none : Option D)).length = n + ns.length := by
          rw [List.length_append, List.length_map, List.length_replicate]
          omega
        have e0 : (ds.map some ++ List.replicate (n + ns.length - ds.length) (none : Option D))[0]? = some (some d0) := by
          rw [List.getElem?_append_left (by rw [List.length_map]; omega), List.getElem?_map, hd0]
          rfl
        have lv : vs.length = ds.length := ol.len
        obtain ⟨p, C', σ2, Fs2, O⟩ := relS_open R0 e0 hins (by omega) hs0 (fun i hi d e => by
          rw [List.getElem?_append_right (by rw [List.length_map]; omega), List.getElem?_replicate] at e
          split at e <;> cases e) (fun i h1 h2 => by
          rw [List.getElem?_append_right (by rw [List.length_map]; omega), List.getElem?_replicate, if_pos (by rw [List.length_map]; omega)])
        have hC' := O.cn.eq hC
        subst hC'
        refine ⟨_, pss_gh (hb p cdv A outer s H E hr), ?_⟩
        rw [est]
        refine ⟨σ2, gh_of (X := (cxOf CX0 P w K mg base N qual (defScope st) f cdv A outer s H E).nox) (g := n) hgh O.real O.len, ?_⟩
        split at hf
        · rename_i fl s' hg
          refine ⟨_, Fs2, fl, s', O.rel, hg, ?_⟩
          split at hf
          · cases hf
          · rename_i fds' ht
            split at hf
            · cases hf
            · rename_i as' hc
              have fin : ∀ {σ' : St} {H' : Hp} {Fs' : Fp}, @RelS _ (obV 0 p C' n ns) K H' s' σ' Fs' → EvR (lkM (0 :: ms)) H Fs2 H' Fs' → Lk (lkM (0 :: ms)) σ2 σ' →
                  ∃ (Fl' : List (List Addr)) (Fs4 : Fp), OwnLs K H' as' vs Fl' ∧ NewL H Fl Fl' ∧ (Chg (fun a => ∃ G, G ∈ Fl ∧ a ∈ G) H H') ∧ (∀ G, G ∈ Fl' → ∀ a, a ∈ G → ∃ i, lkM (0 :: ms) i = true ∧ a ∈ Fs4 i) := by
                intro σ' H' Fs' R' E' L'
                obtain ⟨Fs4, R4, cl⟩ := relS_close (σ0 := σ') R' O.cn ht (by omega) (fun _ _ => rfl) rfl
                obtain ⟨E4, E5⟩ := O.evR E' cl rfl (fun i hi h0 => ol.pure_at hok i fun e => by unfold lkM at h0; rw [e] at h0; cases h0)
                have c2 : Chg (fun a => ∃ G, G ∈ Fl ∧ a ∈ G) H H' := E4.mono fun a _ _ ⟨i, hi⟩ => by
                  obtain ⟨G, hG, ha⟩ := getD_of hi
                  exact ⟨G, List.mem_of_getElem? hG, ha⟩
                have c3 : Chg (fun _ => True) H H' := E4.mono fun _ _ _ _ => trivial
                obtain ⟨Fl', h1, h2, h3⟩ := @coll_own _ noVs _ _ _ _ _ _ R4 c3 (fun i a h => by
                  obtain ⟨xs, z⟩ := @RelS.mem _ noVs _ _ _ _ _ R4 _ _ h
                  rw [z]
                  simp) _ _ _ _ _ 0 ol hok hc (fun i hi h0 => by
                    have hin : i < n := by
                      have : i < ms.length + 1 := by simpa using hi
                      omega
                    have := L' i (by unfold lkM; rw [h0]; rfl)
                    rw [Nat.zero_add, this, O.real i hin, List.getElem?_append_left (by rw [List.length_map, lv, hlm]; simpa using hi), List.getElem?_map]) (fun i a hm ha hi => by
                    rw [Nat.zero_add] at ha
                    exact E5 i a (by unfold lkM; rw [hm]; rfl) ha)
                refine ⟨Fl', Fs4, h1, h2, c2, fun G hG a ha => ?_⟩
                obtain ⟨i, _, q2, q3⟩ := h3 G hG a ha
                exact ⟨i, by unfold lkM; rw [Nat.sub_zero] at q2; rw [q2]; rfl, q3⟩
              cases fl with
              | nx =>
                cases hf
                intro σ' H' Fs' R' E' L'
                obtain ⟨Fl', _, h1, h2, c2, _⟩ := fin R' E'.r L'
                exact q .non H' Fl' [] h1 c2 h2 .non (by simp) (by simp)
              | rt d =>
                simp only at hf
                split at hf
                · rename_i hp
                  cases hf
                  intro v σ' H' Fs' F' R' E' L' o nn m
                  obtain ⟨Fl', _, h1, h2, c2, h3⟩ := fin R' E' L'
                  rw [o.pur hp] at o
                  exact q v H' Fl' [] h1 c2 h2 o (by simp) (by simp)
                · cases hf
              | bk => cases hf
              | ct => cases hf
        · cases hf
        · cases hf
      · cases hf
end
/-- a method of a slot's instance is called -/
def oMeth (nm : Str) (ns : List Str) (j : Nat) (f : Fn) (ga : AL) : O := fun s => match ((s[j]?).join).bind (insP nm ns) with
  | none => .bad
  | some _ => oCall f (aCons (oV j) ga) s
theorem no_look {fs : List (Str × V)} {ns : List Str} {m : Str} (h : fs.map Prod.fst = ns.take fs.length) (hm : m ∉ ns) : fs.lookup m = none := by
  cases e : fs.lookup m with
  | none => rfl
  | some v =>
    exfalso
    have := PySem.mem_of_lookup e
    have h2 : m ∈ fs.map Prod.fst := List.mem_map.mpr ⟨_, this, rfl⟩
    rw [h] at h2
    exact hm (List.mem_of_mem_take h2)
section
variable [Tb] {X : Cx} {j g : Nat} {nm : Str} {ns : List Str} {C : Addr} {k : Nat} {f : Addr} {fd : FuncData} {ps : List Str} {fn : Fn} {m : Str} {o e : Expr} {es : List Expr} {ga : AL} {apos pos : Pos}
theorem tO_meth {σ : St} {H : Hp} {Q : VK} {E : XK} [Vs] {K : PySem.W.Frag} (hC : ClsN K nm C) (hm : m ∉ ns) (hn : ∀ ds r as, fn ds = .ok r as → ds.length = ps.length) (z : tO K (oMeth nm ns j fn ga) σ H Q) :
    tVar j σ H fun x H1 => ∃ a dx fs, x = .ref a ∧ H1 a = some (.ins C dx fs) ∧ fs.lookup m = none ∧ tA K ga σ H1 fun vs H2 => spF K ps.length fn (x :: (vs ++ [])) H2 Q E := by
  obtain ⟨s, Fs, rf, s', R, e0, q⟩ := z
  unfold oMeth at e0
  split at e0
  · cases e0
  · rename_i fds hf
    obtain ⟨d, hd, hi⟩ := Option.bind_eq_some_iff.mp hf
    obtain ⟨v, hv, ov⟩ := R.has j d (join_some hd)
    obtain ⟨p, C', dx, fs, G, rfl, hF, cn, hp, t, np, hle, hfst⟩ := own_ins ov hi
    have hC' := cn.eq hC
    subst hC'
    refine ⟨.ref p, hv, p, dx, fs, rfl, hp, no_look hfst hm, ?_⟩
    have z' := tO_call (E := E) (f := fn) (n := ps.length) (g := aCons (oV j) ga) ⟨s, Fs, rf, s', R, e0, q⟩ hn
    -- the receiver's evaluation leaves all as it is
    obtain ⟨s1, Fs1, rs, s2, R1, e1, q1⟩ := z'
    obtain ⟨r, s3, e3, e1⟩ := bind_inv e1
    unfold oV at e3
    split at e3
    · cases e3
      rename_i d3 hd3
      obtain ⟨rs2, s4, e4, e1⟩ := bind_inv e1
      cases e1
      refine ⟨s1, Fs1, rs2, _, R1, e4, fun vs H2 Fs2 Gs R2 E2 k2 n2 => ?_⟩
      have := q1 (.ref p :: vs) H2 Fs2 ([] :: Gs) R2 E2 (.slot hv k2) (fun G hG a ha => by
        rcases List.mem_cons.mp hG with rfl | hG
        · cases ha
        · exact n2 G hG a ha)
      show spF K ps.length fn (V.ref p :: (vs ++ [])) H2 Q E
      rw [List.append_nil]
      exact this
    · cases e3
theorem so_meth [Vs] {pl : Sem Bool} (hC : ClsN X.K nm C) (c : Cls X.K C) (hme : Meth X.K C m f) (F : FnOk X.prog X.w X.K X.mg X.base CX0 k f fd ps (spF X.K ps.length fn)) (hr : Room k X.A) (hb : Binds X.K fd ps []) (ho : PE X o (tVar j)) (ha : SimA X (e :: es) ga) (hm : m ∉ ns)
    (hn : ∀ ds r as, fn ds = .ok r as → ds.length = ps.length) (hst : starEach (e :: es) X.env = (false, eval e X.env) :: starEach es X.env := by rfl) (hpl : (backTo pos (starEach es X.env)).any (·.1) = false := by rfl)
    (ht : eval (.Call (.Attribute o m apos) (e :: es) [] pos) X.env = (do
      let ov ← eval o X.env
      standAt apos.atName
      let (f, first) ← holding [ov] (getMethod ov m pl)
      callWith pos f first (backTo pos (starEach (e :: es) X.env)) (backToKw pos (keywordEach [] X.env))) := by rfl) :
    SimO X (.Call (.Attribute o m apos) (e :: es) [] pos) (oMeth nm ns j fn ga) := by
  refine pe_imp (pe_meth (pl := pl) (E := E0) ho c hme F hr hb .nil pass0 ha hst hpl ht) fun σ H Q z => ?_
  exact tO_meth hC hm hn z
def oMake (nm : Str) (fn : Fn) (ga : AL) : O := fun s => (ga s).bind fun rs s1 => match rds rs s1 with
  | none => .bad
  | some ds => if purs ds = true then (match fn (.dict [(.bool false, .str nm)] :: ds) with
    | .ok .none (d :: _) => .ok (.val d) s1
    | _ => .bad) else .bad
theorem rda_pure {K : PySem.W.Frag} {H : Hp} : ∀ {vs : List V} {ds : List D}, RdA K H vs ds → purs ds = true → OwnLs K H ds vs (ds.map fun _ => [])
  | _, _, .nil, _ => .nil
  | _, _, .cons o t, h => by
    simp only [purs, Bool.and_eq_true] at h
    rw [o.pur h.1] at o
    exact .cons o (by simp) (rda_pure t h.2)
theorem tO_make {σ : St} {H : Hp} {Q : VK} {E : XK} [Vs] {K : PySem.W.Frag} (hC : ClsN K nm C) (hn : ∀ ds r as, fn ds = .ok r as → ds.length = ps.length) (z : tO K (oMake nm fn ga) σ H Q) :
    tMake C (spF K ps.length fn) [] E (tA K ga) σ H Q := by
  obtain ⟨s, Fs, rf, s', R, e0, q⟩ := z
  obtain ⟨rs, s1, e1, e0⟩ := bind_inv e0
  refine ⟨s, Fs, rs, s1, R, e1, fun vs H1 Fs1 Gs R1 E1 k1 n1 x dx hx hdx hne => ?_⟩
  split at e0
  · cases e0
  · rename_i ds hds
    split at e0
    · rename_i hp
      split at e0
      · rename_i d _ hf
        cases e0
        have sm1 : Same H1 (upd H1 dx (.own x)) := same_new hdx
        have hx1 : upd H1 dx (.own x) x = none := by rw [upd_ne hne.symm]; exact hx
        have sm2 : Same (upd H1 dx (.own x)) (upd (upd H1 dx (.own x)) x (.ins C dx [])) := same_new hx1
        have sm := Same.trans sm1 sm2
        have oargs := rda_pure (k1.dp R1 hds) hp
        have oargs2 : OwnLs K (upd (upd H1 dx (.own x)) x (.ins C dx [])) ds vs (ds.map fun _ => []) := rda_pure (by
          have key : ∀ {vs : List V} {ds : List D}, RdA K H1 vs ds → RdA K (upd (upd H1 dx (.own x)) x (.ins C dx [])) vs ds := fun {vs ds} r => by
            induction r with
            | nil => exact .nil
            | cons o _ ih => exact .cons (o.same sm) ih
          exact key (k1.dp R1 hds)) hp
        have hl : (PyData.dict [(.bool false, .str nm)] :: ds).length = ps.length := hn _ _ _ hf
        have o0 : Own K (upd (upd H1 dx (.own x)) x (.ins C dx [])) (.dict [(.bool false, .str nm)]) (.ref x) [x] := Own.ins (fs := []) hC upd_same .nil (by simp)
        rw [List.append_nil]
        refine ⟨_, [x] :: ds.map (fun _ => []), _, _, hf, by rw [← hl, List.length_cons, List.length_cons, oargs.len], R1.lnk.2.ext sm, .cons o0 (fun G hG a ha hb => by
          obtain ⟨d, _, rfl⟩ := List.mem_map.mp hG
          cases hb) oargs2, fun v H2 Fl' F ol' c nl ov nF dj => ?_⟩
        cases ol' with
        | @cons d' _ F0 _ _ Fl0 o1 nn _ =>
          cases ov
          have nx : ∀ i, x ∉ Fs1 i := fun i h => by
            obtain ⟨m, w⟩ := R1.mem h
            rw [hx] at w; cases w
          have hF0 : ∀ a, a ∈ F0 → a = x ∨ upd (upd H1 dx (.own x)) x (.ins C dx []) a = none := fun a ha => (nl.1 a ha).imp (fun z => List.mem_singleton.mp z) id
          have free : ∀ a, upd (upd H1 dx (.own x)) x (.ins C dx []) a = none → H1 a = none := fun a ha => sm.free ha
          have fr : ∀ a, a ∈ F0 → H1 a = none := fun a ha => by
            rcases hF0 a ha with rfl | z
            · exact hx
            · exact free a z
          have hc : ∀ (a : Addr), (∃ G, G ∈ [x] :: ds.map (fun _ => ([] : List Addr)) ∧ a ∈ G) → a = x := fun a ⟨G, hG, ha⟩ => by
            rcases List.mem_cons.mp hG with rfl | hG
            · exact List.mem_singleton.mp ha
            · obtain ⟨d, _, rfl⟩ := List.mem_map.mp hG
              cases ha
          have c1 : Chg (InF Fs1) H1 H2 := (Chg.same sm).transN c fun a o ho z => by
            rw [hc a z, hx] at ho
            cases ho
          have R2 : RelS K H2 _ σ Fs1 := ⟨R1.len, fun i d e => by
            obtain ⟨v, hv, o⟩ := R1.has i d e
            exact ⟨v, hv, (o.same sm).chg c fun a ha z => nx i (by rw [← hc a z]; exact ha)⟩, R1.off, R1.dis, (R1.same sm).lnkC c (fun i a ha z => nx i (by rw [← hc a z]; exact R1.fpF ha)), R1.bse⟩
          refine ⟨rfl, q _ H2 Fs1 F0 R2 (E1.trans ⟨c1, fun _ _ h => .inl h⟩) (.val ⟨o1, fun i a hi ha => ?_⟩) fun a ha => E1.chg.there a (fr a ha)⟩
          obtain ⟨m, w⟩ := R1.mem hi
          rw [fr a ha] at w; cases w
      · cases e0
    · cases e0
end
end Sim
namespace Sim
open PySem PySem.Spec L2
section
variable [Tb] [Vs] {X : Cx} {nm : Str} {C : Addr} {k : Nat} {f : Addr} {fd : FuncData} {ps : List Str} {fn : Fn} {x : Str} {e : Expr} {es : List Expr} {ga : AL} {p pos : Pos}
theorem so_make0 (hC : ClsN X.K nm C) (M : Mk X.K C f) (F : FnOk X.prog X.w X.K X.mg X.base CX0 k f fd ps (spF X.K ps.length fn)) (hr : Room (k + 1) X.A) (hg : Gl X x) (hm : X.mg x = some (.ref C)) (hb : Binds X.K fd ps [])
    (hn : ∀ ds r as, fn ds = .ok r as → ds.length = ps.length) (hdb : (x == ("__debug__" : Str)) = false := by decide) :
    SimO X (.Call (.Name x p) [] [] pos) (oMake nm fn aNil) :=
  pe_imp (pe_make0 (E := E0) M F hr hg hm hb .nil pass0 hdb) fun σ H Q z => by
    have := tO_make (E := E0) hC hn z
    exact tA_nil this
end
def aVals (ds : List D) : AL := fun s => .ok (ds.map Rf.val) s
def sRetM (nm : Str) (ns : List Str) (g : Nat) (f : Fn) (ga : AL) : S := fun s => (ga s).bind fun rs s1 => match rds rs s1, tolds g ns.length s1 with
  | some ds, some fds => if purs ds = true then (oCall f (aCons (oV 0) (aVals ds)) (clS 0 g ns.length (dIT nm ns fds) s1)).bind fun r s2 => (match r, ((s2[0]?).join).bind (insP nm ns) with
      | .val d, some fds' => if (pur d && fds'.length == ns.length && noneG g ns.length s2) = true then .ok (.rt d) (putG g fds' (s2.set 0 none)) else .bad
      | _, _ => .bad) else .bad
  | _, _ => .bad
theorem rfs_vals {K : PySem.W.Frag} {H : Hp} {σ : St} {Fs : Fp} : ∀ {vs : List V} {ds : List D}, RdA K H vs ds → purs ds = true → Rfs K H σ Fs (ds.map Rf.val) vs (ds.map fun _ => [])
  | _, _, .nil, _ => .nil
  | _, _, .cons o t, h => by
    simp only [purs, Bool.and_eq_true] at h
    rw [o.pur h.1] at o
    exact .val ⟨o, fun _ _ _ z => by cases z⟩ (by simp) (rfs_vals t h.2)
theorem rds_vals : ∀ (ds : List D) (s : Sg), rds (ds.map Rf.val) s = some ds
  | [], _ => rfl
  | d :: ds, s => by
    rw [List.map_cons, rds]
    show (match rds (ds.map Rf.val) s with
      | none => none
      | some ds' => some (d :: ds')) = _
    rw [rds_vals ds s]
theorem call_vals [Tb] {K : PySem.W.Frag} {σ : St} {H : Hp} {Q : VK} {E : XK} {fn : Fn} {n : Nat} {ds : List D} {vs : List V} {v0 : V} (z : tO K (oCall fn (aCons (oV 0) (aVals ds))) σ H Q) (hn : ∀ ds r as, fn ds = .ok r as → ds.length = n) (h1 : σ[0]? = some (some v0)) (rd1 : RdA K H vs ds) (hp : purs ds = true) :
    spF K n fn (v0 :: vs) H Q E := by
  obtain ⟨sx, Fsx, rsx, sx', Rx, ex, qx⟩ := tO_call (E := E) (n := n) z hn
  obtain ⟨r0, s0, e3, ex⟩ := bind_inv ex
  unfold oV at e3
  split at e3
  · cases e3
    obtain ⟨rs3, s3, e4, ex⟩ := bind_inv ex
    cases e4
    cases ex
    exact qx (v0 :: vs) H Fsx ([] :: ds.map fun _ => []) Rx (.refl _ _) (.slot h1 (rfs_vals rd1 hp)) (fun G hG a ha => by
      rcases List.mem_cons.mp hG with rfl | hG
      · cases ha
      · obtain ⟨_, _, rfl⟩ := List.mem_map.mp hG
        cases ha)
  · cases e3
section
variable [Tb] {X : Cx} {lk : Nat → Bool} {b g : Nat} {nm : Str} {ns : List Str} {C pp : Addr} {k : Nat} {f : Addr} {fd : FuncData} {ps : List Str} {fn : Fn} {m : Str} {o : Expr} {es : List Expr} {ga : AL} {apos pos : Pos}
theorem tS_retM {K : PySem.W.Frag} {D : Ends} {σ : St} {H : Hp} {E : XK} (hC : ClsN K nm C) (hm : m ∉ ns) (hg : 0 < g) (hlk : ∀ i, g ≤ i → lk i = false) (hn : ∀ ds r as, fn ds = .ok r as → ds.length = ps.length) (z : @tS _ (obV 0 pp C g ns) K lk (sRetM nm ns g fn ga) D σ H) :
    tVar 0 σ H fun x H1 => ∃ a dx fs, x = .ref a ∧ H1 a = some (.ins C dx fs) ∧ fs.lookup m = none ∧ @tA _ (obV 0 pp C g ns) K ga σ H1 fun vs H2 => spF K ps.length fn (x :: (vs ++ [])) H2 D.rt E := by
  letI V0 := obV 0 pp C g ns
  obtain ⟨s, Fs, fl, s', R, e0, q⟩ := z
  obtain ⟨h1, h2, hq, dx, fs, h3, h4, h5, h6⟩ := id R.lnk.1
  refine ⟨.ref pp, h1, pp, dx, fs, rfl, h3, no_look h5 hm, ?_⟩
  obtain ⟨rs, s1, e1, e0⟩ := bind_inv e0
  refine ⟨s, Fs, rs, s1, R, e1, fun vs H1 Fs1 Gs R1 E1 k1 n1 => ?_⟩
  split at e0
  · rename_i ds fds hds ht
    split at e0
    · rename_i hp
      obtain ⟨r, s2, e2, e0⟩ := bind_inv e0
      split at e0
      · rename_i d fds' hi
        split at e0
        · rename_i hc
          cases e0
          rw [Bool.and_eq_true, Bool.and_eq_true, beq_iff_eq] at hc
          obtain ⟨⟨hpd, hfl⟩, hno⟩ := hc
          have rd1 := k1.dp R1 hds
          obtain ⟨Fs4, R4, cl⟩ := relS_close (σ0 := σ) R1 hC ht hg (fun _ _ => rfl) rfl
          have pb : pp ∈ Fs1 0 := R1.fpF (by show pp ∈ (if 0 = 0 then [pp] else []); rw [if_pos rfl]; exact List.mem_singleton.mpr rfl)
          have cl0 : ∀ i a, a ∈ Fs4 i → ∃ k, a ∈ Fs1 k := fun i a ha => by
            by_cases hi0 : i = 0
            · subst hi0
              rcases cl.obj a ha with rfl | ⟨q, _, hm⟩
              · exact ⟨0, pb⟩
              · exact ⟨q, hm⟩
            · exact ⟨i, (cl.low i a hi0 ha).1⟩
          have z2 : @tO _ noVs K (oCall fn (aCons (oV 0) (aVals ds))) σ H1 D.rt := by
            refine ⟨_, Fs4, _, s2, R4, e2, fun v H' Fs5 F R5 E5 k5 n5 => ?_⟩
            obtain ⟨hl5, hn5⟩ := noneG_ok hno
            obtain ⟨d5, hd5, hi5⟩ := Option.bind_eq_some_iff.mp hi
            obtain ⟨p', C', σ2, Fs6, O⟩ := relS_open R5 (join_some hd5) hi5 hg hl5 hn5 (fun i a b => by omega)
            have hC' := O.cn.eq hC
            subst hC'
            have ep : p' = pp := by
              have := O.at_
              rw [h1] at this
              cases this
              rfl
            subst ep
            cases k5 with
            | val A5 =>
              have o5 := A5.own
              rw [o5.pur hpd] at o5
              refine q v σ2 H' Fs6 [] O.rel (E1.transR ⟨E5.chg.mono fun a _ _ ⟨i, hia⟩ => cl0 i a hia, fun i a ha => ?_⟩) (fun i hli => ?_) o5 (by simp) (by simp)
              · by_cases hi0 : i = 0
                · subst hi0
                  rw [O.obj] at ha
                  rw [List.mem_singleton.mp ha]
                  exact .inl (.inl pb)
                · by_cases hig : i < g
                  · rcases E5.new i a (O.low i a hig hi0 ha) with w | w
                    · exact .inl (.inl (cl.low i a hi0 w).1)
                    · exact .inl (.inr w)
                  · rcases E5.new 0 a (O.high i a (by omega) ha) with w | w
                    · rcases cl.obj a w with w | ⟨k, hk, w⟩
                      · exfalso
                        have := @RelS.dis _ (obV 0 p' C' g ns) _ _ _ _ _ O.rel i 0 a ha (by rw [O.obj, w]; exact List.mem_singleton.mpr rfl)
                        exact hi0 this
                      · exact .inr ⟨hlk i (by omega), k, hlk k hk, w⟩
                    · exact .inl (.inr w)
              · have hig : i < g := by
                  rcases Nat.lt_or_ge i g with w | w
                  · exact w
                  · rw [hlk i w] at hli; cases hli
                exact O.real i hig
          show spF K ps.length fn (V.ref pp :: (vs ++ [])) H1 D.rt E
          rw [List.append_nil]
          exact call_vals z2 hn h1 rd1 hp
        · cases e0
      · cases e0
    · cases e0
  · cases e0
theorem ss_retM {pl : Sem Bool} {e : Expr} {p2 : Pos} (hC : ClsN X.K nm C) (c : Cls X.K C) (hme : Meth X.K C m f) (F : FnOk X.prog X.w X.K X.mg X.base CX0 k f fd ps (spF X.K ps.length fn)) (hr : Room k X.A) (hb : Binds X.K fd ps []) (ho : PE X o (tVar 0)) (ha : @SimA _ (obV 0 pp C g ns) X (e :: es) ga) (hm : m ∉ ns)
    (hlk : ∀ i, g ≤ i → lk i = false) (hn : ∀ ds r as, fn ds = .ok r as → ds.length = ps.length) (hg : 0 < g := by decide) (hst : starEach (e :: es) X.env = (false, eval e X.env) :: starEach es X.env := by rfl) (hpl : (backTo pos (starEach es X.env)).any (·.1) = false := by rfl)
    (ht : eval (.Call (.Attribute o m apos) (e :: es) [] pos) X.env = (do
      let ov ← eval o X.env
      standAt apos.atName
      let (f, first) ← holding [ov] (getMethod ov m pl)
      callWith pos f first (backTo pos (starEach (e :: es) X.env)) (backToKw pos (keywordEach [] X.env))) := by rfl) :
    @SimS _ (obV 0 pp C g ns) X lk (.Return (some (.Call (.Attribute o m apos) (e :: es) [] pos)) p2) (sRetM nm ns g fn ga) :=
  ps_imp (ps_ret (pe_meth (pl := pl) (E := E0) ho c hme F hr hb .nil pass0 ha hst hpl ht)) fun D σ H z => tS_retM hC hm hg hlk hn z
end
end Sim
namespace Sim
open PySem PySem.Spec L2
open LamX (TabB TabS Tabs CodeO)
open PyProof.Rows (envOfC)
/-- the heap behind it: as it was, or the table has its code object more -/
structure LamNew [Tb] (X : Cx) (H H1 : Hp) (P c' : Addr) (pos : Pos) : Prop where
  keep : ∀ b o, H b = some o → isTbl o = false → H1 b = some o
  there : ∀ b, H1 b = none → H b = none
  tab : TabsOk H1
  row : ∃ ps, H1 P = some (.tbl ps) ∧ TriplesOk ps.toList ∧ codeAmong pos ps.toList = some (.ref c')
theorem LamNew.chg [Tb] {X : Cx} {H H1 : Hp} {P c' : Addr} {pos : Pos} (n : LamNew X H H1 P c' pos) (Fa : Addr → Prop) : Chg Fa H H1 := ⟨fun a o e c => n.keep a o e (by
  rcases c with c | c
  · exact c.2
  · cases o <;> first | rfl | cases c), n.there, fun _ => n.tab⟩
section
variable [Tb] {X : Cx} {pins : List (Addr × Obj)} {σ : St} {H : Hp} {s : Shared}
end
section
variable {X : Cx} {pins : List (Addr × Obj)} {σ : St} {H HZ : Hp} {s s1 : Shared}
end
end Sim
namespace Sim
open PySem PySem.Spec L2
open LamX (TabB)
open PyProof.Rows (envOfC)
section
variable [Tb] [Vs] {K : PySem.W.Frag} {H H' : Hp} {s : Sg} {σ : St} {Fs : Fp}
end
section
variable [Tb] {b g q : Nat} {p C fa : Addr} {ns : List Str} {K : PySem.W.Frag} {H : Hp} {s : Sg} {σ : St} {Fs : Fp}
end
section
variable [Tb] [Vs] {X : Cx} {lk : Nat → Bool} {g h : S}
end
section
variable [Tb] {X : Cx} {lk : Nat → Bool} {nm m a pn : Str} {ns : List Str} {C gA c P : Addr} {fd : FuncData} {j n k : Nat} {js : List Nat} {hL : O} {gb : (D → Option D) → S} {Ng : List Str} {st : Stmt} {qual : Str} {params : Arguments} {body o : Expr} {scope : Scope} {lpos apos pos pos2 : Pos}
end
end Sim
namespace Sim
open PySem PySem.Spec L2
open LamX (TabB LawAtS)
open PyProof.Rows (envOfC)
section
variable [Tb] {P : Program} {w : World} {K : PySem.W.Frag} {mg : Str → Option Value} {base : Heap}
end
end Sim
namespace Sim
open PySem PySem.Spec L2
section
variable [Tb] {X : Cx} {b g k i q x : Nat} {p C fa : Addr} {ns : List Str} {f gx nx : Str} {e : Expr} {pos pos' p1 : Pos} {lk : Nat → Bool} {pv : Option Nat} {rest : List Stmt} {h : S}
end
end Sim
namespace Sim
open PySem PySem.Spec L2
theorem gh_dec {N : List Str} {g : Nat} {sc : Scope} (h : (N.drop g).all (fun x => (sc.names.lookup x).isNone) = true) : ∀ (i : Nat) (x : Str), g ≤ i → N[i]? = some x → sc.names.lookup x = none := fun i x hi hx => by
  rw [List.all_eq_true] at h
  have : x ∈ N.drop g := by
    rw [List.mem_iff_getElem?]
    exact ⟨i - g, by rw [List.getElem?_drop, show g + (i - g) = i by omega]; exact hx⟩
  exact Option.isNone_iff_eq_none.mp (h x this)
end Sim
namespace Sim
open PySem PySem.Spec L2
def dropG : Nat → Sg → Sg
  | _, [] => []
  | 0, _ :: s => none :: dropG 0 s
  | g + 1, o :: s => o :: dropG g s
theorem dropG_len : ∀ (g : Nat) (s : Sg), (dropG g s).length = s.length
  | _, [] => by rw [dropG]
  | 0, o :: s => by rw [dropG, List.length_cons, dropG_len 0 s, List.length_cons]
  | g + 1, o :: s => by rw [dropG, List.length_cons, dropG_len g s, List.length_cons]
theorem dropG_lo : ∀ (g : Nat) (s : Sg) (i : Nat), i < g → (dropG g s)[i]? = s[i]?
  | _, [], i, h => by rw [dropG]
  | 0, o :: s, i, h => absurd h (Nat.not_lt_zero i)
  | g + 1, o :: s, i, h => by
    rw [dropG]
    cases i with
    | zero => rfl
    | succ i => rw [List.getElem?_cons_succ, List.getElem?_cons_succ, dropG_lo g s i (by omega)]
theorem dropG_hi : ∀ (g : Nat) (s : Sg) (i : Nat), g ≤ i → ∀ d, (dropG g s)[i]? ≠ some (some d)
  | _, [], i, h, d => by rw [dropG]; simp
  | 0, o :: s, i, h, d => by
    rw [dropG]
    cases i with
    | zero => simp
    | succ i => rw [List.getElem?_cons_succ]; exact dropG_hi 0 s i (Nat.zero_le _) d
  | g + 1, o :: s, i, h, d => by
    rw [dropG]
    cases i with
    | zero => omega
    | succ i => rw [List.getElem?_cons_succ]; exact dropG_hi g s i (by omega) d
theorem dropG_none : ∀ (g : Nat) (s : Sg), ((dropG g s).drop g).all (fun o => o.isNone) = true
  | _, [] => by rw [dropG]; simp
  | 0, o :: s => by
    rw [dropG, List.drop_zero, List.all_cons]
    have := dropG_none 0 s
    rw [List.drop_zero] at this
    rw [this]
    rfl
  | g + 1, o :: s => by rw [dropG, List.drop_succ_cons]; exact dropG_none g s
def oDropG (g : Nat) (h : O) : O := fun s => h (dropG g s)
section
variable [Tb] [Vs]
theorem RelS.dropG {K : PySem.W.Frag} {H : Hp} {s : Sg} {σ : St} {Fs : Fp} (R : RelS K H s σ Fs) (g : Nat) : RelS K H (dropG g s) σ (fun i => if i < g then Fs i else Vs.fp i) := by
  have sub : ∀ i a, a ∈ (if i < g then Fs i else Vs.fp i) → a ∈ Fs i := fun i a h => by
    split at h
    · exact h
    · exact R.fpF h
  refine ⟨by rw [dropG_len, R.len], fun i d e => ?_, fun i h => ?_, fun i j a h1 h2 => R.dis i j a (sub i a h1) (sub j a h2), R.lnk, fun i h d e => ?_⟩
  · by_cases hi : i < g
    · rw [dropG_lo g s i hi] at e
      obtain ⟨v, hv, o⟩ := R.has i d e
      exact ⟨v, hv, by rw [if_pos hi]; exact o⟩
    · exact absurd e (dropG_hi g s i (by omega) d)
  · by_cases hi : i < g
    · show (if i < g then Fs i else Vs.fp i) = _
      rw [if_pos hi]
      exact R.off i fun d e => h d (by rw [dropG_lo g s i hi]; exact e)
    · show (if i < g then Fs i else Vs.fp i) = _
      rw [if_neg hi]
  · by_cases hi : i < g
    · rw [dropG_lo g s i hi] at e
      exact R.bse i h d e
    · exact dropG_hi g s i (by omega) d e
theorem so_dropG {X : Cx} {e : Expr} {h : O} {g : Nat} (hs : SimO X e h) : SimO X e (oDropG g h) := pe_imp hs fun σ H Q z => by
  obtain ⟨s, Fs, rf, s', R, e0, q⟩ := z
  refine ⟨_, _, rf, s', R.dropG g, e0, fun v H' Fs' F R' E k n => q v H' Fs' F R' ⟨E.chg.mono fun a _ _ ⟨i, hi⟩ => ⟨i, ?_⟩, fun i a ha => (E.new i a ha).imp (fun hi => ?_) id⟩ k n⟩
  · have hi : a ∈ (if i < g then Fs i else Vs.fp i) := hi
    split at hi
    · exact hi
    · exact R.fpF hi
  · have hi : a ∈ (if i < g then Fs i else Vs.fp i) := hi
    split at hi
    · exact hi
    · exact R.fpF hi
theorem st_dropG {X : Cx} {e : Expr} {h : T} {g : Nat} (hs : SimT X e h) : SimT X e (fun s => h (dropG g s)) := pt_imp hs fun σ H Q z => by
  obtain ⟨s, Fs, rf, s', R, e0, q⟩ := z
  refine ⟨_, _, rf, s', R.dropG g, e0, fun H' Fs' R' E => q H' Fs' R' ⟨E.chg.mono fun a _ _ ⟨i, hi⟩ => ⟨i, ?_⟩, fun i a ha => (E.new i a ha).imp (fun hi => ?_) id⟩⟩
  · have hi : a ∈ (if i < g then Fs i else Vs.fp i) := hi
    split at hi
    · exact hi
    · exact R.fpF hi
  · have hi : a ∈ (if i < g then Fs i else Vs.fp i) := hi
    split at hi
    · exact hi
    · exact R.fpF hi
end
def tDropG (g : Nat) (h : T) : T := fun s => h (dropG g s)
/-- a test in which a slot's instance stands open -/
def tOpen (nm : Str) (ns : List Str) (j g : Nat) (h : T) : T := fun s => match ((s[j]?).join).bind (insP nm ns) with
  | none => .bad
  | some fds => if (fds.length == ns.length && noneG g ns.length s) = true then (h (putG g fds (s.set j none))).bind fun b s1 => (match tolds g ns.length s1 with
      | some fds' => .ok b (clS j g ns.length (dIT nm ns fds') s1)
      | none => .bad) else .bad
section
variable [Tb] {X : Cx} {j g : Nat} {nm : Str} {ns : List Str} {C : Addr} {e : Expr}
theorem pt_gh {e : Expr} {t : TT} (h : PT X e t) : PT X e (fun σ H Q => ∃ σ2, GhEq X σ σ2 ∧ t σ2 H Q) := ⟨fun pins s σ H Q I ⟨σ2, g, q⟩ => thn (h.run pins s σ2 H Q (g.inv I) q) fun u s' ⟨H', I', r⟩ => ⟨H', g.symm.inv I', r⟩⟩
theorem st_open {hh : T} (hC : ClsN X.K nm C) (h : ∀ p, @SimT _ (obV j p C g ns) X e hh) (hgh : ∀ (i : Nat) (x : Str), g ≤ i → X.N[i]? = some x → X.env.scope.names.lookup x = none) (hj : j < g := by decide) : @SimT _ noVs X e (tDropG g (tOpen nm ns j g hh)) := by
  refine st_dropG (g := g) (h := tOpen nm ns j g hh) ⟨fun pins s0 σ H Q I z => ?_⟩
  obtain ⟨s, Fs, rf, s', R, e0, q⟩ := z
  unfold tOpen at e0
  split at e0
  · cases e0
  · rename_i fds hf
    split at e0
    · rename_i hc
      rw [Bool.and_eq_true, beq_iff_eq] at hc
      obtain ⟨hl, hn⟩ := noneG_ok hc.2
      obtain ⟨d, hd, hi⟩ := Option.bind_eq_some_iff.mp hf
      obtain ⟨p, C', σ2, Fs2, O⟩ := relS_open R (join_some hd) hi hj hl hn (fun i h1 h2 => by omega)
      have hC' := O.cn.eq hC
      subst hC'
      obtain ⟨r, s1, e1, e0⟩ := bind_inv e0
      refine (pt_gh (h p)).run pins s0 σ H Q I ⟨σ2, gh_of hgh O.real O.len, _, Fs2, r, s1, O.rel, e1, fun H' Fs3 R3 E3 => ?_⟩
      split at e0
      · rename_i fds' ht
        cases e0
        obtain ⟨Fs4, R4, cl⟩ := relS_close (σ0 := σ) R3 O.cn ht hj (fun i hi => (O.real i hi).symm) O.len.symm
        exact q H' Fs4 R4 (O.ev E3 cl fun i a ha hij => by rw [hij, O.obj] at ha; exact List.mem_singleton.mp ha)
      · cases e0
    · cases e0
end
end Sim
namespace Sim
open PySem PySem.Spec L2
section
variable [Tb] [Vs] {X : Cx} {lk : Nat → Bool}
end
end Sim
namespace Sim
open PySem PySem.Spec L2
section
variable [Tb] [Vs] {X : Cx} {a : Expr} {ga : O} {pos p2 : Pos}
end
section
variable {K : PySem.W.Frag}
end
section
variable [Tb] [Vs] {X : Cx}
end
end Sim
namespace Sim
open PySem PySem.Spec PyProof.Rows L2
section
variable {X : Cx}
end
end Sim
namespace Sim
open PySem PySem.Spec PyProof.Rows L2
def pStrI : List D → Option D
  | [.int i] => if i.natAbs.log2 < 1920 then some (.str (toString i)) else none
  | _ => none
theorem pr_strI {K : PySem.W.Frag} : PrimR K (fun xs H Q => ∃ i, xs = [V.int i] ∧ i.natAbs.log2 < 1920 ∧ Q (.str (toString i)) H) pStrI := by
  intro vs ds d H Q h e q
  unfold pStrI at e
  split at e
  · obtain ⟨x, F, rfl, o⟩ := h.one
    split at e
    · rename_i c
      cases o; cases e
      exact ⟨_, rfl, c, q _ _ (.sc (.str _))⟩
    · cases e
  · cases e
end Sim
namespace Sim
open PySem PySem.Spec L2
section
variable {X : Cx}
end
end Sim
namespace Sim
open PySem PySem.Spec L2
open PyProof.Rows hiding St
section
variable {X : Cx} {pins : List (Addr × Obj)} {σ : St} {H : Hp} {s : Shared}
end
end Sim
namespace Sim
open PySem PySem.Spec L2
section
variable {K : PySem.W.Frag} {H : Hp}
end
section
variable [Tb] [Vs] {K : PySem.W.Frag} {H H' : Hp} {s s' : Sg} {σ σ' : St} {Fs Fs' : Fp}
end
section
variable [Tb] [Vs] {X : Cx} {lk lk' : Nat → Bool} {K : PySem.W.Frag}
end
end Sim
namespace Sim
open PySem PySem.Spec L2
open PyProof.Rows hiding St
section
variable [Tb] [Vs] {X : Cx} {K : PySem.W.Frag} {H : Hp}
end
section
variable {X : Cx} {pins : List (Addr × Obj)} {σ : St} {H : Hp} {s : Shared}
section
variable {P : Program} {w : World} {K : PySem.W.Frag} {tg : Expr} {d : Addr} {o ob : Obj} {ents : Array DictEntry} {ep : Nat}
end
end
section
variable [Tb] [Vs] {X : Cx} {K : PySem.W.Frag} {H : Hp}
variable {a b : Expr} {ga gb : O} {pos : Pos}
end
end Sim
namespace Sim
open PySem PySem.Spec L2
open PyProof.Rows hiding St
section
variable [Tb] [Vs] {X : Cx} {lk lk' : Nat → Bool} {pos : Pos} {i : Nat} {itm : D → Option (List D)}
end
end Sim
namespace Sim
open PySem PySem.Spec L2
section
open PyProof.Rows hiding St
variable {X : Cx} {K : PySem.W.Frag}
end
section
variable [Tb] [Vs] {X : Cx} {K : PySem.W.Frag} {σ : St} {H : Hp} {Q : VK}
end
end Sim
namespace Sim
open PySem PySem.Spec L2
section
variable [Tb] [Vs]
variable {X : Cx} {lk lk' : Nat → Bool} {pos : Pos} {i : Nat}
end
end Sim
namespace Sim
open PySem PySem.Spec L2
section
variable {X : Cx} {k : Nat} {f : Addr} {fd : FuncData} {ps : List Str} {sp : Sp} {dvs : List V} {ds : List Value} {E : XK} {x : Str} {p pos : Pos} {e : Expr} {es : List Expr} {t : TA}
end
section
variable [Tb] [Vs] {X : Cx} {k : Nat} {f : Addr} {fd : FuncData} {ps : List Str} {fn : Fn} {x : Str} {p pos : Pos} {e : Expr} {es : List Expr} {g : AL}
end
section
variable {X : Cx}
end
end Sim
namespace Sim
open PySem PySem.Spec L2
open LamX (TabB)
open PyProof.Rows (envOfC)
section
variable [Tb] {P : Program} {w : World} {K : PySem.W.Frag} {mg : Str → Option Value} {base : Heap}
end
open PyProof.Rows hiding St
section
variable {P : Program} {w : World} {K : PySem.W.Frag} {mg mb : Str → Option Value} {k : Nat} {fa a : Addr} {tb : List (Addr × Addr)} {fd : FuncData} {x : Str} {sp : Sp} {s₁ : Shared} {vs : List Value} {ns : List Int}
end
end Sim
namespace Sim
open PySem PySem.Spec L2
section
variable [Tb] [Vs] {X : Cx} {lk : Nat → Bool} {pos : Pos} {K : PySem.W.Frag}
end
section
variable [Tb] [Vs] {X : Cx} {a b : Expr} {ga : O} {pos : Pos}
end
end Sim
namespace Sim
open PySem PySem.Spec L2
section
open PySem.AutoSeq1
end
section
variable {K : PySem.W.Frag}
end
end Sim
namespace Sim
open PySem PySem.Spec L2
open PyProof.Rows hiding St
section
open PySem.W
variable {prog : Program} {w : World} {A : Around} {E : Value → Shared → Prop} {s : Shared} {r d : Addr} {n : Nat} {P : Nat → Value → Prop} {OK : Heap → Prop}
end
section
variable {X : Cx}
end
theorem lkM_off {ms : List Nat} {g i : Nat} (h : g ≤ i) (hl : ms.length ≤ g) : lkM ms i = false := by
  unfold lkM
  rw [List.getElem?_eq_none (Nat.le_trans hl h)]; rfl
end Sim
namespace L2
open PySem PySem.Spec PyProof.Rows
section
variable {P : Program} {w : World} {A : Around} {E : Value → Shared → Prop} {s : Shared}
set_option maxRecDepth 100000 in
set_option maxHeartbeats 3200000 in
end
end L2
namespace Sim
open PySem PySem.Spec L2
section
variable [Tb] [Vs] {X : Cx} {a : Expr} {ta : TA} {p p2 q pos : Pos}
variable {ga : AL}
end
end Sim
namespace Sim
open PySem PySem.Spec L2
section
variable [Tb] [Vs] {K : PySem.W.Frag} {H H1 : Hp} {s s1 : Sg} {σ : St} {Fs Fs1 : Fp} {lk lk' : Nat → Bool}
/-- an end's way out, told from an earlier state -/
theorem PostS.from {D : Ends} {fl : Fl} {s' : Sg} {σ1 : St} (hlk : ∀ i, lk i = true → lk' i = true) (E : EvR lk H Fs H1 Fs1) (L : Lk lk σ σ1) (q : PostS K lk D σ H Fs s' fl) : PostS K lk' D σ1 H1 Fs1 s' fl := by
  have un : ∀ {i}, lk' i = false → lk i = false := fun {i} z => by
    cases e : lk i with
    | false => rfl
    | true => rw [hlk i e] at z; cases z
  have LL : ∀ {σ2 : St}, Lk lk' σ1 σ2 → Lk lk σ σ2 := fun {σ2} L2 => L.trans fun i hi => L2 i (hlk i hi)
  cases fl with
  | nx => exact fun σ' H' Fs' R' E' L' => q σ' H' Fs' R' (E.transR (E'.wk hlk)) (LL L')
  | bk => exact fun σ' H' Fs' R' E' L' => q σ' H' Fs' R' (E.transR (E'.wk hlk)) (LL L')
  | ct => exact fun σ' H' Fs' R' E' L' => q σ' H' Fs' R' (E.transR (E'.wk hlk)) (LL L')
  | rt d =>
    refine fun v σ' H' Fs' F R' E' L' o n m => q v σ' H' Fs' F R' (E.transR (E'.wk hlk)) (LL L') o (fun a ha => ?_) fun i a hi => m i a (hlk i hi)
    rcases n a ha with z | ⟨k, hk, z⟩
    · exact .inl (E.chg.there a z)
    · rcases E.new k a z with (w | w) | ⟨_, j, hj, w⟩
      · exact .inr ⟨k, un hk, w⟩
      · exact .inl w
      · exact .inr ⟨j, hj, w⟩
end
section
variable [Tb] [Vs] {X : Cx} {lk lk' : Nat → Bool} {pos : Pos}
end
end Sim
namespace Sim
open PySem PySem.Spec L2
/-- what is raised: the class's name -/
abbrev Exn := Str
/-- what a statement raises, and at which state -/
abbrev Rz := Sg → Option (Exn × Sg)
abbrev FnZ := List D → Option Exn
section
variable [Tb] [Vs] {X : Cx} {W : WX} {lk : Nat → Bool} {st : Stmt} {rest : List Stmt} {r a b : Rz} {g : S} {t : T} {e : Expr} {pos : Pos}
end
section
variable [Tb] {K : PySem.W.Frag} {H H' : Hp}
end
section
variable [Tb] [Vs] {X : Cx} {W : WX} {k : Nat} {f : Addr} {fd : FuncData} {ps : List Str} {fn : FnZ} {x : Str} {p pos : Pos} {e : Expr} {es : List Expr} {g : AL}
end
section
variable [Tb] {P : Program} {w : World} {K : PySem.W.Frag} {mg : Str → Option Value} {base : Heap}
end
section
variable [Tb] [Vs] {X : Cx} {lk : Nat → Bool} {r : Rz} {g h : S} {body suite : List Stmt} {b₀ : Stmt} {np pos pos' : Pos} {x : Str} {c : Value} {cs : List Str}
end
end Sim
namespace Sim
open PySem PySem.Spec L2
open PyProof.Rows (Compare_chain chain_link chain_last ite_ff ite_tt)
abbrev CK := Rf → Sg → Res Rf
section
variable [Tb] [Vs] {X : Cx} {a b c : Expr} {ga gb gc : O} {op op' : CmpOp} {ops : List CmpOp} {es : List Expr} {r : R2} {f : List D → Option D} {k : CK} {pos : Pos}
end
end Sim
namespace Sim
open PySem PySem.Spec L2
open PyProof.Rows hiding St
section
variable {P : Program} {w : World} {K : PySem.W.Frag} {tg : Expr} {d : Addr} {o : Obj} {ents : Array DictEntry} {ep : Nat}
end
section
variable {X : Cx} {tg e : Expr} {td : TE} {apos cpos : Pos}
end
section
variable [Tb] [Vs] {X : Cx} {K : PySem.W.Frag}
variable {tg e : Expr} {ga : O} {apos cpos : Pos}
end
end Sim
namespace Sim
open PySem PySem.Spec L2
section
variable [Tb] [Vs] {X : Cx} {K : PySem.W.Frag} {σ : St} {H : Hp} {Q : VK}
end
end Sim
namespace Sim
open PySem PySem.Spec L2
section
variable {X : Cx} {pins : List (Addr × Obj)} {σ : St} {H : Hp} {s : Shared}
end
section
variable {K : PySem.W.Frag}
end
end Sim
namespace Sim
open PySem PySem.Spec L2
def StrEntsV : List DictEntry → List Str → List Addr → Prop
  | [], [], [] => True
  | e :: es, k :: ks, a :: as => (∃ t, e.key = .str k t) ∧ e.val = .ref a ∧ StrEntsV es ks as
  | _, _, _ => False
def StrTab (K : PySem.W.Frag) (w : World) (a : Addr) (keys : List Str) (as : List Addr) : Prop := ∃ es n, KDict K w a es n ∧ StrEntsV es.toList keys as
theorem StrEntsV.keys : ∀ {l : List DictEntry} {ks : List Str} {as : List Addr}, StrEntsV l ks as → StrEnts l ks
  | [], [], [], _ => trivial
  | _ :: _, _ :: _, _ :: _, h => ⟨h.1, h.2.2.keys⟩
theorem StrTab.keys {K : PySem.W.Frag} {w : World} {a : Addr} {keys : List Str} {as : List Addr} (h : StrTab K w a keys as) : StrKeys K w a keys := by
  obtain ⟨es, n, D, e⟩ := h
  exact ⟨es, n, D, e.keys⟩
def selS {α : Type} : List Str → List α → Str → Option α
  | k :: ks, f :: fs, z => if k == z then some f else selS ks fs z
  | _, _, _ => none
section
variable [Tb] [Vs] {X : Cx} {pos : Pos}
theorem SelOk.tab {n : Nat} {z : Str} {fn : Fn} {as : List Addr} {fns : List Fn} (h : SelOk X n as fns) : ∀ {l : List DictEntry} {ks : List Str}, StrEntsV l ks as → selS ks fns z = some fn →
    ∃ f k fd ps, (match l.find? (·.key.isStr z) with
      | some e => some (some e.val)
      | none => if l.any (·.refKey) then none else some none) = some (some (.ref f)) ∧ FnOk X.prog X.w X.K X.mg X.base CX0 k f fd ps (spF X.K n fn) ∧ Room k X.A ∧ PySem.W.keepIn X.K (.ref f) = true ∧ Binds X.K fd ps [] ∧ (∀ ds r as, fn ds = .ok r as → ds.length = n) := by
  induction h with
  | nil =>
    intro l ks _ e
    cases ks <;> simp [selS] at e
  | @cons k f fd ps fn1 as fns a b c d e _ ih =>
    intro l ks hE es
    match l, ks, hE with
    | [], [], hE => exact hE.elim
    | [], _ :: _, hE => exact hE.elim
    | _ :: _, [], hE => exact hE.elim
    | en :: l, kk :: ks, hE =>
      obtain ⟨⟨t, ht⟩, hv, hE⟩ := hE
      have hk : en.key.isStr z = (kk == z) := by rw [ht]; rfl
      have hr : en.refKey = false := by unfold DictEntry.refKey; rw [ht]
      rw [List.find?_cons, hk, List.any_cons, hr, Bool.false_or]
      unfold selS at es
      cases hz : kk == z with
      | true =>
        rw [hz, if_pos rfl] at es
        cases es
        exact ⟨f, _, _, _, by rw [← hv], a, b, c, d, e⟩
      | false =>
        rw [hz, if_neg (by simp)] at es
        exact ih hE es
end
section
end
end Sim
namespace Sim
open PySem PySem.Spec L2
section
variable {X : Cx} {o e : Expr} {es : List Expr} {to : TE} {t : TA} {name : Str} {apos cpos : Pos} {id : String} {r : V → List V → Hp → VK → Prop}
end
section
variable [Tb] [Vs] {X : Cx} {K : PySem.W.Frag} {σ : St} {H : Hp} {Q : VK}
end
end Sim
namespace Sim
open PySem PySem.Spec L2
def strsD : List D → Option (List Str)
  | [] => some []
  | .str x :: ds => (strsD ds).map fun xs => x :: xs
  | _ => none
def rowD : D → Option (List Str)
  | .list ds => strsD ds
  | .tuple ds => strsD ds
  | .dict [(.none, .list ds)] => strsD ds
  | _ => none
/-- o.m(x) of a text o -/
def oMS (f : Str → D → Option D) (g0 g1 : O) : O := fun s => (g0 s).bind fun r s1 => match rd r s1 with
  | some (.str a) => (g1 s1).bind fun r2 s2 => match rd r2 s2 with
    | some d => match f a d with
      | some z => .ok (.val z) s2
      | none => .bad
    | none => .bad
  | _ => .bad
section
variable [Tb] [Vs] {X : Cx}
theorem so_ms {ex : Expr} {f : Str → D → Option D} {r : V → List V → Hp → VK → Prop} {g0 g1 : O} (h : PE X ex (tM1 r (tO X.K g0) (tO X.K g1)))
    (hf : ∀ {a : Str} {d z : D} {v : V} {H : Hp} {F : List Addr}, Own X.K H d v F → f a d = some z → ∀ Q, (∀ v' H', NewV X.K H z v' H' → Q v' H') → r (.str a) [v] H Q) : SimO X ex (oMS f g0 g1) :=
  pe_imp h fun σ H Q z => by
    obtain ⟨s, Fs, rf, s', R, e, q⟩ := z
    obtain ⟨r0, s0, e0, e⟩ := bind_inv e
    refine ⟨s, Fs, r0, s0, R, e0, fun v H1 Fs1 F1 R1 E1 k1 n1 => ?_⟩
    split at e
    · rename_i a ha
      obtain ⟨F', ov⟩ := k1.dp R1 ha
      cases ov
      refine ⟨⟨a, rfl⟩, ?_⟩
      obtain ⟨r2, s2, e2, e⟩ := bind_inv e
      refine ⟨s0, Fs1, r2, s2, R1, e2, fun v2 H2 Fs2 F2 R2 E2 k2 n2 => ?_⟩
      split at e
      · rename_i d hd
        obtain ⟨F'', o2⟩ := k2.dp R2 hd
        split at e
        · rename_i z hz
          cases e
          refine hf o2 hz _ fun v' H' nv => ?_
          obtain ⟨R3, E3, F3, k3, n3⟩ := nv.ok R2
          exact q _ _ _ F3 R3 ((E1.trans E2).trans E3) k3 fun a ha => (E1.trans E2).chg.there a (n3 a ha)
        · cases e
      · cases e
    · cases e
end
section
variable {K : PySem.W.Frag} {H : Hp}
theorem own_strs : ∀ {ds : List D} {xs : List Str} {vs : List V} {F : List Addr}, strsD ds = some xs → OwnA K H ds vs F → vs = xs.map V.str
  | [], _, _, _, e, t => by cases e; cases t; rfl
  | d :: ds, xs, vs, F, e, t => by
    cases d with
    | str x =>
      obtain ⟨ys, e1, rfl⟩ := Option.map_eq_some_iff.mp e
      cases t with
      | cons o t n =>
        cases o
        rw [own_strs e1 t]; rfl
    | _ => simp [strsD] at e
theorem own_mk : ∀ xs : List Str, OwnA K H (xs.map PyData.str) (xs.map V.str) []
  | [] => .nil
  | x :: xs => .cons0 (.str x) (own_mk xs)
theorem own_row {d : D} {xs : List Str} {v : V} {F : List Addr} (o : Own K H d v F) (e : rowD d = some xs) : ∃ p, v = .ref p ∧ (SqL K H p (xs.map V.str) ∨ SqT K H p (xs.map V.str)) := by
  unfold rowD at e
  split at e
  · cases o with
    | lst h t n => rw [← own_strs e t]; exact ⟨_, rfl, .inl (SqL.of h)⟩
  · cases o with
    | tup h t => rw [← own_strs e t]; exact ⟨_, rfl, .inr h.sq⟩
  · cases o with
    | frz h t => rw [← own_strs e t]; exact ⟨_, rfl, .inl h.sq⟩
  · cases e
end
def sJoin : Str → D → Option D := fun a d => (rowD d).bind fun ys => if (ys.map (·.length)).sum + ys.length * a.length ≤ 1000000 then some (.str (PySem.Txt.join a ys)) else none
def sSplit : Str → D → Option D := fun a d => match d with
  | .str b => if b.length ≠ 0 ∧ a.length + 2 ≤ 1000000 then some (.list ((PySem.Txt.split a b).map PyData.str)) else none
  | _ => none
def sStarts : Str → D → Option D := fun a d => match d with
  | .str b => some (.bool (PySem.Txt.startswith a b))
  | _ => none
section
variable {K : PySem.W.Frag}
theorem ok_join {a : Str} {d z : D} {v : V} {H : Hp} {F : List Addr} (o : Own K H d v F) (e : sJoin a d = some z) (Q : VK) (q : ∀ v' H', NewV K H z v' H' → Q v' H') :
    ∃ a' p, ∃ ys : List Str, V.str a = .str a' ∧ [v] = [.ref p] ∧ (SqL K H p (ys.map V.str) ∨ SqT K H p (ys.map V.str)) ∧ (ys.map (·.length)).sum + ys.length * a'.length ≤ 16777216 ∧ Q (.str (PySem.Txt.join a' ys)) H := by
  unfold sJoin at e
  obtain ⟨ys, e1, e⟩ := Option.bind_eq_some_iff.mp e
  split at e
  · rename_i c
    cases e
    obtain ⟨p, rfl, h⟩ := own_row o e1
    exact ⟨a, p, ys, rfl, rfl, h, by omega, q _ _ (.sc (.str _))⟩
  · cases e
theorem ok_split {a : Str} {d z : D} {v : V} {H : Hp} {F : List Addr} (o : Own K H d v F) (e : sSplit a d = some z) (Q : VK) (q : ∀ v' H', NewV K H z v' H' → Q v' H') :
    ∃ a' b, V.str a = .str a' ∧ [v] = [.str b] ∧ (b.length == 0) = false ∧ a'.length + 2 ≤ sizeLine ∧ rNewStrs (PySem.Txt.split a' b) H Q := by
  unfold sSplit at e
  split at e
  · rename_i b
    split at e
    · rename_i c
      cases e
      cases o
      refine ⟨a, b, rfl, rfl, by simpa using c.1, Nat.le_trans c.2 big_le, fun p hp => q _ _ (.lst (own_mk _) hp)⟩
    · cases e
  · cases e
theorem ok_starts {a : Str} {d z : D} {v : V} {H : Hp} {F : List Addr} (o : Own K H d v F) (e : sStarts a d = some z) (Q : VK) (q : ∀ v' H', NewV K H z v' H' → Q v' H') :
    ∃ a' b, V.str a = .str a' ∧ [v] = [.str b] ∧ Q (.bl (PySem.Txt.startswith a' b)) H := by
  unfold sStarts at e
  split at e
  · cases e
    cases o
    exact ⟨a, _, rfl, rfl, q _ _ (.sc (.bl _))⟩
  · cases e
end
def sgnD (x : Str) : List D := x.cps.toList.map fun c => .str ⟨#[c]⟩
def itS : List D → Option (List D)
  | [.str x] => if x.length ≤ 1000000 then some (sgnD x) else none
  | _ => none
def wS : List V → Hp → (It → Hp → Prop) → Prop := fun vs H R => ∃ x, vs = [.str x] ∧ R (Its x) H
section
variable {K : PySem.W.Frag}
theorem walkD_s {x : Str} {G : Hp → Prop} : WalkD K (Its x) G (sgnD x) := by
  have hl : (sgnD x).length = x.cps.size := by unfold sgnD; simp
  refine ⟨fun i H hi g => by rw [hl] at hi; exact hi, fun H g => by rw [hl]; exact Nat.le_refl _, fun i H v H' hi g y => ?_⟩
  obtain ⟨rfl, c, hc, rfl⟩ := y
  refine ⟨.str ⟨#[c]⟩, ?_, Same.refl _, .str _⟩
  unfold sgnD
  rw [List.getElem?_map, Array.getElem?_toList, hc]; rfl
theorem wS_ok : ∀ (vs : List V) (ds es : List D) (H : Hp) (R : It → Hp → Prop), RdA K H vs ds → itS ds = some es → purs es = true → (∀ J, WalkD K J (fun H2 => RdA K H2 vs ds) es → R J H) → wS vs H R := by
  intro vs ds es H R h e p q
  unfold itS at e
  split at e
  · split at e
    · cases e
      obtain ⟨x, F, rfl, o⟩ := h.one
      cases o
      exact ⟨_, rfl, q _ walkD_s⟩
    · cases e
  · cases e
end
section
variable [Tb] [Vs] {X : Cx}
theorem si_str {tg e : Expr} {ga : O} (he : SimO X e ga) : SimI X tg e (mkI itS (aCons ga aNil)) :=
  pi_imp (pi_str he) fun _ _ _ h => by
    have z := tA1 (mkI_ok h wS_ok)
    refine tO_mono (fun v H1 q => ?_) z
    obtain ⟨x, e, q⟩ := q
    exact ⟨x, by cases e; rfl, q⟩
end
def pIntX : List D → Option D
  | [.str x] => if x.length ≤ 640 then (PySem.intText? x).map PyData.int else none
  | _ => none
theorem pr_intX {K : PySem.W.Frag} : PrimR K (fun xs H Q => ∃ a n, xs = [V.str a] ∧ PySem.intText? a = some n ∧ a.length ≤ 640 ∧ Q (.int n) H) pIntX := by
  intro vs ds d H Q h e q
  unfold pIntX at e
  split at e
  · obtain ⟨x, F, rfl, o⟩ := h.one
    split at e
    · rename_i c
      obtain ⟨n, en, rfl⟩ := Option.map_eq_some_iff.mp e
      cases o
      exact ⟨_, _, rfl, en, c, q _ _ (.sc (.int _))⟩
    · cases e
  · cases e
end Sim
namespace Sim
open PySem PySem.Spec L2
theorem op_nin_rng {X : Cx} : OpR X (compareOp .NotIn) (fun x y H Q => ∃ i a lo hi, x = V.int i ∧ y = V.ref a ∧ H a = some (.rng lo hi) ∧ Q (.bl (!decide (lo ≤ i ∧ i < hi))) H) := by
  intro pins s σ H x y v u Q I rx ry h
  obtain ⟨i, a, lo, hi, rfl, rfl, ha, q⟩ := h
  obtain ⟨k, rfl⟩ := rx
  obtain rfl : u = Value.ref a := ry
  obtain ⟨t1, t2, t3, ho⟩ := I.hok a _ ha
  show wpAny _ _ (do return Value.bool (!(← contains (Value.ref a) (Value.int i k)))) _ _ s
  refine wpAny_bind (wpAny_contains_slot (T := "range") ⟨_, ho, rfl⟩ F.slot_range_contains (call_meets F.slot_range_contains ⟨_, ho, rfl⟩ F.entry_range_contains (F.args_range_contains_2 _ _) (q_contains a lo hi i t1 t2 t3 k)
    ⟨ho, wpAny_truthy_bool (wpAny_pure ⟨.bl _, H, I, rfl, ?_⟩)⟩))
  rw [place1]
  exact q
/-- left, a, b: whether left is outside -/
def oNinR (g0 : O) (al : AL) : O := fun s => (g0 s).bind fun r s1 => match rd r s1 with
  | some (.int i) => (al s1).bind fun rs s2 => match rds rs s2 with
    | some [.int a, .int b] => .ok (.val (.bool (!decide (a ≤ i ∧ i < b)))) s2
    | _ => .bad
  | _ => .bad
def rNinR : R2 := fun x y H Q => ∃ i a lo hi, x = V.int i ∧ y = V.ref a ∧ H a = some (.rng lo hi) ∧ Q (.bl (!decide (lo ≤ i ∧ i < hi))) H
def rRng2 : List V → Hp → VK → Prop := fun vs H Q => ∃ i j, vs = [V.int i, V.int j] ∧ ∀ p, H p = none → Q (.ref p) (upd H p (.rng i j))
section
variable [Tb] [Vs] {X : Cx} {e a b : Expr} {g0 : O} {al : AL} {p pos pos2 : Pos} {K : PySem.W.Frag} {σ : St} {H : Hp} {Q : VK}
theorem tO_ninR (z : tO K (oNinR g0 al) σ H Q) : tOp rNinR (tO K g0) (fun σ H Q => tA K al σ H fun vs H1 => rRng2 vs H1 Q) σ H Q := by
  obtain ⟨s, Fs, rf, s', R, ev, q⟩ := z
  obtain ⟨r0, s0, e0, ev⟩ := bind_inv ev
  refine ⟨s, Fs, r0, s0, R, e0, fun v H1 Fs1 F1 R1 E1 k1 n1 => ?_⟩
  split at ev
  · rename_i i hi
    obtain ⟨F', ov⟩ := k1.dp R1 hi
    cases ov
    obtain ⟨rs, s2, e2, ev⟩ := bind_inv ev
    refine ⟨s0, Fs1, rs, s2, R1, e2, fun ws H2 Fs2 Gs R2 E2 k2 n2 => ?_⟩
    split at ev
    · rename_i lo hh hrd
      cases ev
      have rr := k2.dp R2 hrd
      obtain ⟨x, y, F, G, rfl, o1, o2⟩ := rr.two
      cases o1; cases o2
      refine ⟨lo, hh, rfl, fun p hp => ⟨i, p, lo, hh, rfl, rfl, upd_same, ?_⟩⟩
      have sm : Same H2 (upd H2 p (.rng lo hh)) := same_new hp
      exact q _ _ Fs2 [] (R2.same sm) ((E1.trans E2).trans (.same Fs2 sm)) (.val ⟨.bl _, fun _ _ _ z => nomatch z⟩) (fun _ z => nomatch z)
    · cases ev
  · cases ev
theorem st_ninR (hg : Gl X "range") (hm : X.mg "range" = none) (h0 : SimO X e g0) (ha : SimA X [a, b] al)
    (he : starEach [a, b] X.env = (false, eval a X.env) :: starEach [b] X.env := by rfl) (hpl : (backTo pos2 (starEach [b] X.env)).any (·.1) = false := by rfl)
    (hmk : behindInMarks .NotIn (.Call (.Name "range" p) [a, b] [] pos2) = false := by rfl) :
    SimT X (.Compare e [.NotIn] [.Call (.Name "range" p) [a, b] [] pos2] pos) (tst (oNinR g0 al)) :=
  pt_imp (pt_cmpR op_nin_rng h0 (pe_callTy cr_range2 hg hm bt_range ha (by decide) (by decide) he hpl) hmk) fun σ H Q z => tO_ninR (tT_tst z)
end
end Sim
namespace Sim
open PySem PySem.Spec L2
abbrev Pt := List (Option D)
def gtP : Pt → Nat → Option D
  | [], _ => none
  | o :: _, 0 => o
  | _ :: p, n + 1 => gtP p n
def stP : Pt → Nat → Option D → Pt
  | [], _, _ => []
  | _ :: p, 0, o => o :: p
  | q :: p, n + 1, o => q :: stP p n o
structure Mt (p : Pt) (s : Sg) : Prop where
  len : p.length = s.length
  has : ∀ i d, gtP p i = some d → s[i]? = some (some d)
structure Wk (q p : Pt) : Prop where
  len : q.length = p.length
  has : ∀ i d, gtP q i = some d → gtP p i = some d
theorem stP_len : ∀ (p : Pt) (i : Nat) (o : Option D), (stP p i o).length = p.length
  | [], _, _ => rfl
  | _ :: _, 0, _ => rfl
  | _ :: p, i + 1, o => congrArg (· + 1) (stP_len p i o)
theorem gtP_stP : ∀ (p : Pt) (i j : Nat) (o : Option D), gtP (stP p i o) j = if i = j ∧ i < p.length then o else gtP p j
  | [], i, j, o => by rw [if_neg (by simp)]; rfl
  | a :: p, 0, 0, o => by simp [stP, gtP]
  | a :: p, 0, j + 1, o => by simp [stP, gtP]
  | a :: p, i + 1, 0, o => by simp [stP, gtP]
  | a :: p, i + 1, j + 1, o => by
    show gtP (stP p i o) j = _
    rw [gtP_stP p i j o]
    simp [gtP]
theorem Mt.get {p : Pt} {s : Sg} (h : Mt p s) {i : Nat} {d : D} (e : gtP p i = some d) : (s[i]?).join = some d := by rw [h.has i d e]; rfl
theorem Mt.put {p : Pt} {s : Sg} (h : Mt p s) (i : Nat) (d : D) : Mt (stP p i (some d)) (s.set i (some d)) := by
  refine ⟨by rw [stP_len, List.length_set, h.len], fun j e hj => ?_⟩
  rw [gtP_stP] at hj
  rw [List.getElem?_set]
  by_cases c : i = j
  · subst c
    by_cases c2 : i < p.length
    · rw [if_pos ⟨rfl, c2⟩] at hj
      rw [if_pos rfl, if_pos (by rw [← h.len]; exact c2), hj]
    · rw [if_neg (by simp [c2])] at hj
      have := h.has i e hj
      rw [List.getElem?_eq_none (by rw [← h.len]; omega)] at this
      cases this
  · rw [if_neg (by simp [c])] at hj
    rw [if_neg c]
    exact h.has j e hj
theorem Mt.off {p : Pt} {s : Sg} (h : Mt p s) (i : Nat) (o : Option D) : Mt (stP p i none) (s.set i o) := by
  refine ⟨by rw [stP_len, List.length_set, h.len], fun j e hj => ?_⟩
  rw [gtP_stP] at hj
  rw [List.getElem?_set]
  by_cases c : i = j
  · subst c
    by_cases c2 : i < p.length
    · rw [if_pos ⟨rfl, c2⟩] at hj; cases hj
    · rw [if_neg (by simp [c2])] at hj
      have := h.has i e hj
      rw [List.getElem?_eq_none (by rw [← h.len]; omega)] at this
      cases this
  · rw [if_neg (by simp [c])] at hj
    rw [if_neg c]
    exact h.has j e hj
theorem Mt.wk {q p : Pt} {s : Sg} (h : Mt p s) (w : Wk q p) : Mt q s := ⟨w.len.trans h.len, fun i d e => h.has i d (w.has i d e)⟩
theorem Mt.refl (s : Sg) : Mt s s := by
  refine ⟨rfl, fun i d e => ?_⟩
  induction s generalizing i with
  | nil => cases e
  | cons o s ih =>
    cases i with
    | zero => have e : o = some d := e; rw [e]; rfl
    | succ i => rw [List.getElem?_cons_succ]; exact ih i e
theorem wk_nil : Wk [] [] := ⟨rfl, fun _ _ e => by cases e⟩
theorem wk_a {q p : Pt} {o : Option D} (h : Wk q p) : Wk (none :: q) (o :: p) := ⟨congrArg (· + 1) h.len, fun i d e => by
  cases i with
  | zero => cases e
  | succ i => exact h.has i d e⟩
theorem wk_s {q p : Pt} {o : Option D} (h : Wk q p) : Wk (o :: q) (o :: p) := ⟨congrArg (· + 1) h.len, fun i d e => by
  cases i with
  | zero => exact e
  | succ i => exact h.has i d e⟩
theorem Wk.refl (p : Pt) : Wk p p := ⟨rfl, fun _ _ e => e⟩
abbrev eI : Int → D := PyData.int
abbrev eB : Bool → D := PyData.bool
abbrev eS : Str → D := PyData.str
def eU : Unit → D := fun _ => PyData.none
def eL {α : Type} (e : α → D) (xs : List α) : D := .list (xs.map e)
def eT {α : Type} (e : α → D) (xs : List α) : D := .tuple (xs.map e)
def eZ (xs : List Int) : D := .dict [(.none, .list (xs.map .int))]
def eP {α β : Type} (a : α → D) (b : β → D) (x : α × β) : D := .tuple [a x.1, b x.2]
def eQ {α β γ : Type} (a : α → D) (b : β → D) (c : γ → D) (x : α × β × γ) : D := .tuple [a x.1, b x.2.1, c x.2.2]
def eO {α : Type} (e : α → D) : Option α → D
  | none => PyData.none
  | some x => e x
/-- nothing in it changes -/
def Pu {α : Type} (e : α → D) : Prop := ∀ x, pur (e x) = true
theorem puI : Pu eI := fun _ => rfl
theorem puB : Pu eB := fun _ => rfl
theorem puS : Pu eS := fun _ => rfl
theorem puU : Pu eU := fun _ => rfl
theorem puZ : Pu eZ := fun xs => pur_frz _
theorem purs_pu {α : Type} {e : α → D} (h : Pu e) : ∀ xs : List α, purs (xs.map e) = true
  | [] => rfl
  | x :: xs => by rw [List.map_cons, purs_cons, h x, purs_pu h xs]; rfl
theorem puT {α : Type} {e : α → D} (h : Pu e) : Pu (eT e) := fun xs => by rw [eT, pur_tuple, purs_pu h]
theorem puP {α β : Type} {a : α → D} {b : β → D} (h : Pu a) (h2 : Pu b) : Pu (eP a b) := fun x => by rw [eP, pur_tuple, purs_cons, purs_cons, h, h2]; rfl
theorem puQ {α β γ : Type} {a : α → D} {b : β → D} {c : γ → D} (h : Pu a) (h2 : Pu b) (h3 : Pu c) : Pu (eQ a b c) := fun x => by rw [eQ, pur_tuple, purs_cons, purs_cons, purs_cons, h, h2, h3]; rfl
theorem puO' {α : Type} {e : α → D} (h : Pu e) : Pu (eO e) := fun x => by
  cases x with
  | none => rfl
  | some x => exact h x
def Rd (vl : Bool) (p : Pt) (r : Rf) (d : D) : Prop := r = .val d ∨ (vl = false ∧ ∃ i, r = .slot i ∧ gtP p i = some d)
section
variable {α β δ γ : Type}
theorem Rd.rd {vl : Bool} {p : Pt} {r : Rf} {d : D} {s : Sg} (h : Rd vl p r d) (m : Mt p s) : rd r s = some d := by
  rcases h with rfl | ⟨_, i, rfl, e⟩
  · rfl
  · exact m.get e
theorem Rd.own {vl : Bool} {p : Pt} {r : Rf} {d : D} {s : Sg} (h : Rd vl p r d) (m : Mt p s) (c : vl = true ∨ pur d = true) : own r s = some d := by
  rcases h with rfl | ⟨e0, i, rfl, e⟩
  · rfl
  · rcases c with c | c
    · rw [e0] at c; cases c
    · rw [own_slot, m.get e, ownK_some, if_pos c]
def X (vl : Bool) (p : Pt) (g : O) (v : α → D) (q : α → Pt) (F : (α → Option γ) → Option γ) : Prop :=
  ∀ k z, F k = some z → ∃ x, k x = some z ∧ ∀ s, Mt p s → ∃ r s', g s = .ok r s' ∧ Mt (q x) s' ∧ Rd vl (q x) r (v x)
theorem x_var {p : Pt} (i : Nat) {d : D} (h : gtP p i = some d) : X (γ := γ) false p (oV i) (fun _ : Unit => d) (fun _ => p) (fun k => k ()) :=
  fun k z e => ⟨(), e, fun s m => ⟨.slot i, s, by rw [ev_oV, m.get h, ev_oVK], m, .inr ⟨rfl, i, rfl, h⟩⟩⟩
theorem x_c {p : Pt} (d : D) : X (γ := γ) true p (oC d) (fun _ : Unit => d) (fun _ => p) (fun k => k ()) :=
  fun k z e => ⟨(), e, fun s m => ⟨.val d, s, rfl, m, .inl rfl⟩⟩
/-- told otherwise: the same value by another name -/
theorem X.as {p : Pt} {g : O} {v : α → D} {q : α → Pt} {F : (α → Option γ) → Option γ} {vl : Bool} (h : X vl p g v q F) (v' : α → D) (e : v = v') : X vl p g v' q F := e ▸ h
inductive AK where
  | v | s (i : Nat)
def Rk (p : Pt) : List AK → List Rf → List D → Prop
  | [], [], [] => True
  | .v :: ks, r :: rs, d :: ds => (Rd false p r d ∧ (r = .val d ∨ pur d = true)) ∧ Rk p ks rs ds
  | .s i :: ks, r :: rs, d :: ds => (r = .slot i ∧ gtP p i = some d ∧ pur d = false) ∧ Rk p ks rs ds
  | _, _, _ => False
theorem Rk.rds {p : Pt} {s : Sg} (m : Mt p s) : ∀ {ks : List AK} {rs : List Rf} {ds : List D}, Rk p ks rs ds → rds rs s = some ds
  | [], [], [], _ => rfl
  | .v :: ks, r :: rs, d :: ds, h => by rw [rds_cons, h.1.1.rd m, Rk.rds m h.2]; rfl
  | .s i :: ks, r :: rs, d :: ds, h => by rw [rds_cons, h.1.1, rd_slot, m.get h.1.2.1, Rk.rds m h.2]; rfl
theorem Rk.owns {p : Pt} {s : Sg} (m : Mt p s) : ∀ {ks : List AK} {rs : List Rf} {ds : List D}, Rk p ks rs ds → (∀ k ∈ ks, k = .v) → owns rs s = some ds
  | [], [], [], _, _ => rfl
  | .v :: ks, r :: rs, d :: ds, h, a => by
    have o : own r s = some d := by
      rcases h.1.2 with z | z
      · rw [z]; rfl
      · exact h.1.1.own m (.inr z)
    rw [owns_cons, o, Rk.owns m h.2 fun k hk => a k (List.mem_cons_of_mem _ hk)]; rfl
  | .s i :: ks, r :: rs, d :: ds, h, a => by have := a _ (List.mem_cons_self ..); cases this
def kl : List AK → List D → List (Nat × D)
  | .s i :: ks, d :: ds => (i, d) :: kl ks ds
  | .v :: ks, _ :: ds => kl ks ds
  | _, _ => []
theorem Rk.lks {p : Pt} : ∀ {ks : List AK} {rs : List Rf} {ds : List D}, Rk p ks rs ds → lks rs ds = kl ks ds
  | [], [], [], _ => rfl
  | .v :: ks, r :: rs, d :: ds, h => by
    cases r with
    | val x => rw [lks_val, Rk.lks h.2]; rfl
    | slot i =>
      rcases h.1.2 with z | z
      · cases z
      · rw [lks_slot, if_pos z, Rk.lks h.2]; rfl
  | .s i :: ks, r :: rs, d :: ds, h => by
    rw [h.1.1, lks_slot, if_neg (by rw [h.1.2.2]; simp), Rk.lks h.2]; rfl
theorem Rk.lkz {p : Pt} : ∀ {ks : List AK} {rs : List Rf} {ds as : List D}, Rk p ks rs ds → as.length = ds.length → lkz rs ds as = kl ks as
  | [], [], [], [], _, _ => rfl
  | .v :: ks, r :: rs, d :: ds, a :: as, h, l => by
    have l : as.length = ds.length := by simpa using l
    cases r with
    | val x => rw [lkz_val, Rk.lkz h.2 l]; rfl
    | slot i =>
      rcases h.1.2 with z | z
      · cases z
      · rw [lkz_slot, if_pos z, Rk.lkz h.2 l]; rfl
  | .s i :: ks, r :: rs, d :: ds, a :: as, h, l => by
    have l : as.length = ds.length := by simpa using l
    rw [h.1.1, lkz_slot, if_neg (by rw [h.1.2.2]; simp), Rk.lkz h.2 l]; rfl
def AK.isV : AK → Bool
  | .v => true
  | .s _ => false
theorem kv {ks : List AK} (h : ks.all AK.isV = true) : ∀ k ∈ ks, k = .v := fun k hk => by
  have := List.all_eq_true.mp h k hk
  cases k with
  | v => rfl
  | s i => cases this
theorem Rk.len {p : Pt} : ∀ {ks : List AK} {rs : List Rf} {ds : List D}, Rk p ks rs ds → ds.length = ks.length
  | [], [], [], _ => rfl
  | .v :: ks, r :: rs, d :: ds, h => congrArg (· + 1) (Rk.len h.2)
  | .s i :: ks, r :: rs, d :: ds, h => congrArg (· + 1) (Rk.len h.2)
def XA (p : Pt) (gs : AL) (ks : List AK) (vs : α → List D) (q : α → Pt) (F : (α → Option γ) → Option γ) : Prop :=
  ∀ k z, F k = some z → ∃ x, k x = some z ∧ ∀ s, Mt p s → ∃ rs s', gs s = .ok rs s' ∧ Mt (q x) s' ∧ Rk (q x) ks rs (vs x)
theorem xa_nil {p : Pt} : XA (γ := γ) p aNil [] (fun _ : Unit => []) (fun _ => p) (fun k => k ()) :=
  fun k z e => ⟨(), e, fun s m => ⟨[], s, rfl, m, trivial⟩⟩
section
variable {p : Pt} {g : O} {gs : AL} {v : α → D} {q : α → Pt} {F : (α → Option γ) → Option γ} {vl : Bool}
  {ks : List AK} {vs : α → β → List D} {q2 : α → β → Pt} {F2 : α → (β → Option γ) → Option γ}
/-- a value ahead of more -/
theorem xa_v (h : X true p g v q F) (h2 : ∀ x, XA (q x) gs ks (vs x) (q2 x) (F2 x)) :
    XA p (aCons g gs) (.v :: ks) (fun w : α × β => v w.1 :: vs w.1 w.2) (fun w => q2 w.1 w.2) (fun k => F fun x => F2 x fun y => k (x, y)) := fun k z e => by
  obtain ⟨x, e1, h⟩ := h _ z e
  obtain ⟨y, e2, h2⟩ := h2 x _ z e1
  refine ⟨(x, y), e2, fun s m => ?_⟩
  obtain ⟨r, s1, a1, a2, a3⟩ := h s m
  obtain ⟨rs, s2, b1, b2, b3⟩ := h2 s1 a2
  have a3 : r = .val (v x) := by
    rcases a3 with a3 | ⟨a3, _⟩
    · exact a3
    · cases a3
  refine ⟨r :: rs, s2, by rw [ev_aCons, a1, ev_ok, ev_consK, b1, ev_ok, ev_consK2], b2, ⟨.inl a3, .inl a3⟩, b3⟩
/-- what never changes, ahead of what changes nothing -/
theorem xa_p {vs : α → β → List D} (h : X vl p g v q F) (hp : ∀ x, pur (v x) = true) (h2 : ∀ x, XA (q x) gs ks (vs x) (fun _ => q x) (F2 x)) :
    XA p (aCons g gs) (.v :: ks) (fun w : α × β => v w.1 :: vs w.1 w.2) (fun w => q w.1) (fun k => F fun x => F2 x fun y => k (x, y)) := fun k z e => by
  obtain ⟨x, e1, h⟩ := h _ z e
  obtain ⟨y, e2, h2⟩ := h2 x _ z e1
  refine ⟨(x, y), e2, fun s m => ?_⟩
  obtain ⟨r, s1, a1, a2, a3⟩ := h s m
  obtain ⟨rs, s2, b1, b2, b3⟩ := h2 s1 a2
  exact ⟨r :: rs, s2, by rw [ev_aCons, a1, ev_ok, ev_consK, b1, ev_ok, ev_consK2], b2, ⟨a3.imp id fun z => ⟨rfl, z.2⟩, .inr (hp x)⟩, b3⟩
/-- a name that keeps what never changes, ahead of anything -/
theorem xa_n {vs : β → List D} {q2 : β → Pt} {F2 : (β → Option γ) → Option γ} (i : Nat) {d : D} (h0 : gtP p i = some d) (h2 : XA p gs ks vs q2 F2) (h1 : ∀ y, gtP (q2 y) i = some d) (hp : pur d = true) :
    XA p (aCons (oV i) gs) (.v :: ks) (fun w : β => d :: vs w) (fun w => q2 w) F2 := fun k z e => by
  obtain ⟨y, e2, h2⟩ := h2 _ z e
  refine ⟨y, e2, fun s m => ?_⟩
  obtain ⟨rs, s2, b1, b2, b3⟩ := h2 s m
  exact ⟨.slot i :: rs, s2, by rw [ev_aCons, ev_oV, m.get h0, ev_oVK, ev_ok, ev_consK, b1, ev_ok, ev_consK2], b2, ⟨.inr ⟨rfl, i, rfl, h1 y⟩, .inr hp⟩, b3⟩
/-- a name of a list -/
theorem xa_s {vs : β → List D} {q2 : β → Pt} {F2 : (β → Option γ) → Option γ} {d : β → D} {d0 : D} (i : Nat) (h0 : gtP p i = some d0) (h2 : XA p gs ks vs q2 F2) (h1 : ∀ y, gtP (q2 y) i = some (d y)) (hp : ∀ y, pur (d y) = false) :
    XA p (aCons (oV i) gs) (.s i :: ks) (fun w : β => d w :: vs w) (fun w => q2 w) F2 := fun k z e => by
  obtain ⟨y, e2, h2⟩ := h2 _ z e
  refine ⟨y, e2, fun s m => ?_⟩
  obtain ⟨rs, s2, b1, b2, b3⟩ := h2 s m
  exact ⟨.slot i :: rs, s2, by rw [ev_aCons, ev_oV, m.get h0, ev_oVK, ev_ok, ev_consK, b1, ev_ok, ev_consK2], b2, ⟨rfl, h1 y, hp y⟩, b3⟩
end
section
variable {p : Pt} {gs : AL} {q : α → Pt} {F : (α → Option γ) → Option γ} {ks : List AK} {vs : α → List D}
theorem x_prim {f : List D → Option D} {m : α → Option β} {rv : α → β → D} (h : XA p gs ks vs q F) (hf : ∀ x z, m x = some z → f (vs x) = some (rv x z)) :
    X true p (oPrim f gs) (fun w : α × β => rv w.1 w.2) (fun w => q w.1) (fun k => F fun x => (m x).bind fun z => k (x, z)) := fun k z e => by
  obtain ⟨x, e1, h⟩ := h _ z e
  obtain ⟨y, e2, e3⟩ := Option.bind_eq_some_iff.mp e1
  refine ⟨(x, y), e3, fun s mm => ?_⟩
  obtain ⟨rs, s2, b1, b2, b3⟩ := h s mm
  exact ⟨.val (rv x y), s2, by rw [ev_prim, b1, ev_ok, ev_primK, b3.rds b2, ev_primK2, hf x y e2, ev_primK3], b2, .inl rfl⟩
theorem x_primT {f : List D → Option D} {rv : α → D} (h : XA p gs ks vs q F) (hf : ∀ x, f (vs x) = some (rv x)) :
    X true p (oPrim f gs) rv q F := fun k z e => by
  obtain ⟨x, e1, h⟩ := h _ z e
  refine ⟨x, e1, fun s mm => ?_⟩
  obtain ⟨rs, s2, b1, b2, b3⟩ := h s mm
  exact ⟨.val (rv x), s2, by rw [ev_prim, b1, ev_ok, ev_primK, b3.rds b2, ev_primK2, hf x, ev_primK3], b2, .inl rfl⟩
theorem x_tup (h : XA p gs ks vs q F) (hk : ks.all AK.isV = true) (hl : ks.length ≤ 1000000) : X true p (oTup gs) (fun x => .tuple (vs x)) q F := fun k z e => by
  obtain ⟨x, e1, h⟩ := h _ z e
  refine ⟨x, e1, fun s mm => ?_⟩
  obtain ⟨rs, s2, b1, b2, b3⟩ := h s mm
  exact ⟨.val (.tuple (vs x)), s2, by rw [ev_oTup, b1, ev_ok, ev_tupK, b3.owns b2 (kv hk), ev_tupK2, if_pos (by rw [b3.len]; exact hl)], b2, .inl rfl⟩
theorem x_lst (h : XA p gs ks vs q F) (hk : ks.all AK.isV = true) (hl : ks.length ≤ 1000000) : X true p (oLst gs) (fun x => .list (vs x)) q F := fun k z e => by
  obtain ⟨x, e1, h⟩ := h _ z e
  refine ⟨x, e1, fun s mm => ?_⟩
  obtain ⟨rs, s2, b1, b2, b3⟩ := h s mm
  exact ⟨.val (.list (vs x)), s2, by rw [ev_oLst, b1, ev_ok, ev_lstK, b3.owns b2 (kv hk), ev_lstK2, if_pos (by rw [b3.len]; exact hl)], b2, .inl rfl⟩
def lkP : List (Nat × D) → Pt → Pt
  | [], p => p
  | a :: l, p => lkP l (stP p a.1 none)
def ulP : List (Nat × D) → Pt → Pt
  | [], p => p
  | a :: l, p => ulP l (stP p a.1 (some a.2))
theorem Mt.lk : ∀ (l : List (Nat × D)) {p : Pt} {s : Sg}, Mt p s → Mt (lkP l p) (lockS l s)
  | [], _, _, h => h
  | a :: l, _, _, h => by rw [lockS_cons]; exact Mt.lk l (h.off a.1 none)
theorem Mt.ul : ∀ (l : List (Nat × D)) {p : Pt} {s : Sg}, Mt p s → Mt (ulP l p) (unlockS l s)
  | [], _, _, h => h
  | a :: l, _, _, h => by rw [unlockS_cons]; exact Mt.ul l (h.put a.1 a.2)
def kn : List AK → List Nat
  | [] => []
  | .s i :: ks => i :: kn ks
  | .v :: ks => kn ks
theorem kl_kn : ∀ (ks : List AK) (ds : List D), ds.length = ks.length → (kl ks ds).map (·.1) = kn ks
  | [], [], _ => rfl
  | .v :: ks, d :: ds, h1 => kl_kn ks ds (by simpa using h1)
  | .s i :: ks, d :: ds, h1 => by
    have := kl_kn ks ds (by simpa using h1)
    simp [kl, kn, this]
theorem ul_go : ∀ (L : List (Nat × D)) (p : Pt) (s : Sg), p.length = s.length → (∀ i d, gtP p i = some d → i ∈ L.map (·.1) ∨ s[i]? = some (some d)) → Mt (ulP L p) (unlockS L s)
  | [], p, s, l, h => ⟨l, fun i d e => (h i d e).elim (fun z => by cases z) id⟩
  | a :: L, p, s, l, h => by
    rw [unlockS_cons]
    refine ul_go L _ _ (by rw [stP_len, List.length_set, l]) fun i d e => ?_
    rw [gtP_stP] at e
    rw [List.getElem?_set]
    by_cases c : a.1 = i
    · right
      by_cases c2 : a.1 < p.length
      · rw [if_pos ⟨c, c2⟩] at e
        rw [if_pos c, if_pos (by omega), e]
      · rw [if_neg (by simp [c2])] at e
        exact absurd (by have : ∀ (p : Pt) (i : Nat) (d : D), gtP p i = some d → i < p.length := by
                            intro p
                            induction p with
                            | nil => intro i d h; cases h
                            | cons o p ih =>
                              intro i d h
                              cases i with
                              | zero => exact Nat.zero_lt_succ _
                              | succ i => exact Nat.succ_lt_succ (ih i d h)
                         rw [c]; exact this p i d e) c2
    · rw [if_neg (by simp [c])] at e
      rw [if_neg c]
      rcases h i d e with z | z
      · rw [List.map_cons] at z
        rcases List.mem_cons.mp z with z | z
        · exact absurd z.symm c
        · exact .inl z
      · exact .inr z
/-- a call: m is what the callee tells, its arguments as they are then -/
theorem x_call {f : Fn} {m : α → Option β} {rv : α → β → D} {as : α → β → List D} (h : XA p gs ks vs q F) (hn : nodupB (kn ks) = true)
    (hf : ∀ x z, m x = some z → f (vs x) = .ok (rv x z) (as x z)) (hl : ∀ x z, (as x z).length = (vs x).length) (L : α → β → List (Nat × D)) (hL : ∀ x z, kl ks (as x z) = L x z) :
    X true p (oCall f gs) (fun w : α × β => rv w.1 w.2) (fun w => ulP (L w.1 w.2) (q w.1)) (fun k => F fun x => (m x).bind fun z => k (x, z)) := fun k z e => by
  obtain ⟨x, e1, h⟩ := h _ z e
  obtain ⟨y, e2, e3⟩ := Option.bind_eq_some_iff.mp e1
  refine ⟨(x, y), e3, fun s mm => ?_⟩
  obtain ⟨rs, s2, b1, b2, b3⟩ := h s mm
  refine ⟨.val (rv x y), _, oCall_ok b1 (b3.rds b2) (by rw [b3.lks, kl_kn _ _ b3.len, hn]) (hf x y e2), ?_, .inl rfl⟩
  rw [b3.lks, b3.lkz (hl x y), hL]
  have ll : ∀ (L : List (Nat × D)) (s : Sg), (lockS L s).length = s.length := by
    intro L
    induction L with
    | nil => intro s; rfl
    | cons a L ih => intro s; rw [lockS_cons, ih, List.length_set]
  refine ul_go _ _ _ (by rw [ll, b2.len]) fun i d e => ?_
  by_cases c : i ∈ (L x y).map (·.1)
  · exact .inl c
  · right
    have k1 : (L x y).map (·.1) = kn ks := by rw [← hL, kl_kn _ _ (by rw [hl, b3.len])]
    have k2 : (kl ks (vs x)).map (·.1) = kn ks := kl_kn _ _ b3.len
    have lg : ∀ (L : List (Nat × D)) (s : Sg), i ∉ L.map (·.1) → (lockS L s)[i]? = s[i]? := by
      intro L
      induction L with
      | nil => intro s _; rfl
      | cons a L ih =>
        intro s h
        rw [List.map_cons] at h
        rw [lockS_cons, ih _ (fun z => h (List.mem_cons_of_mem _ z)), List.getElem?_set, if_neg (fun z => h (by rw [← z]; exact List.mem_cons_self ..))]
    rw [lg _ _ (by rw [k2, ← k1]; exact c)]
    exact b2.has i d e
/-- a call by which no list changes -/
theorem x_callP {f : Fn} {m : α → Option β} {rv : α → β → D} (h : XA p gs ks vs q F) (hn : nodupB (kn ks) = true)
    (hf : ∀ x z, m x = some z → f (vs x) = .ok (rv x z) (vs x)) :
    X true p (oCall f gs) (fun w : α × β => rv w.1 w.2) (fun w => q w.1) (fun k => F fun x => (m x).bind fun z => k (x, z)) := fun k z e => by
  obtain ⟨x, e1, h⟩ := h _ z e
  obtain ⟨y, e2, e3⟩ := Option.bind_eq_some_iff.mp e1
  refine ⟨(x, y), e3, fun s mm => ?_⟩
  obtain ⟨rs, s2, b1, b2, b3⟩ := h s mm
  refine ⟨.val (rv x y), _, oCall_ok b1 (b3.rds b2) (by rw [b3.lks, kl_kn _ _ b3.len, hn]) (hf x y e2), ?_, .inl rfl⟩
  rw [b3.lks, b3.lkz rfl]
  have key : ∀ (ks : List AK) (rs : List Rf) (ds : List D), Rk (q x) ks rs ds → ∀ i d, (i, d) ∈ kl ks ds → gtP (q x) i = some d := by
    intro ks
    induction ks with
    | nil => intro rs ds h i d hm; cases ds <;> simp [kl] at hm
    | cons a ks ih =>
      intro rs ds h i d hm
      cases a with
      | v =>
        cases rs with
        | nil => cases ds <;> exact h.elim
        | cons r rs => cases ds with
          | nil => exact h.elim
          | cons e ds => exact ih rs ds h.2 i d hm
      | s j =>
        cases rs with
        | nil => cases ds <;> exact h.elim
        | cons r rs => cases ds with
          | nil => exact h.elim
          | cons e ds =>
            rcases List.mem_cons.mp hm with z | z
            · cases z; exact h.1.2.1
            · exact ih rs ds h.2 i d z
  have kk := key ks rs (vs x) b3
  generalize kl ks (vs x) = L at kk
  clear key
  -- what is closed and opened again is as it was
  have go : ∀ (L : List (Nat × D)), (∀ i d, (i, d) ∈ L → gtP (q x) i = some d) → ∀ s', s'.length = (q x).length → (∀ i d, gtP (q x) i = some d → (i, d) ∈ L ∨ s'[i]? = some (some d)) → Mt (q x) (unlockS L s') := by
    intro L
    induction L with
    | nil => intro _ s' hl h; exact ⟨hl.symm, fun i d e => (h i d e).elim (fun z => by cases z) id⟩
    | cons a L ih =>
      intro hk s' hl h
      rw [unlockS_cons]
      refine ih (fun i d z => hk i d (List.mem_cons_of_mem _ z)) _ (by rw [List.length_set, hl]) fun i d e => ?_
      have ha := hk a.1 a.2 (List.mem_cons_self ..)
      rw [List.getElem?_set]
      by_cases c : a.1 = i
      · rw [if_pos c]
        rw [c, e] at ha
        cases ha
        have : i < s'.length := by
          have := b2.has i a.2 e
          have l2 := b2.len
          rcases Nat.lt_or_ge i s'.length with z | z
          · exact z
          · rw [List.getElem?_eq_none (by omega)] at this; cases this
        right
        rw [if_pos (by omega)]
      · rw [if_neg c]
        rcases h i d e with z | z
        · rcases List.mem_cons.mp z with z | z
          · exact absurd (by rw [← z]) c
          · exact .inl z
        · exact .inr z
  refine go L kk _ ?_ fun i d e => ?_
  · have : ∀ (L : List (Nat × D)) (s : Sg), (lockS L s).length = s.length := by
      intro L
      induction L with
      | nil => intro s; rfl
      | cons a L ih => intro s; rw [lockS_cons, ih, List.length_set]
    rw [this, b2.len]
  · have : ∀ (L : List (Nat × D)) (s : Sg), (∀ i d, (i, d) ∈ L → gtP (q x) i = some d) → s[i]? = some (some d) → (i, d) ∈ L ∨ (lockS L s)[i]? = some (some d) := by
      intro L
      induction L with
      | nil => intro s _ h; exact .inr h
      | cons a L ih =>
        intro s hk h
        rw [lockS_cons]
        by_cases c : a.1 = i
        · have ha := hk a.1 a.2 (List.mem_cons_self ..)
          rw [c, e] at ha
          cases ha
          left
          rw [← c]
          exact List.mem_cons_self ..
        · exact (ih (s.set a.1 none) (fun i d z => hk i d (List.mem_cons_of_mem _ z)) (by rw [List.getElem?_set, if_neg c]; exact h)).imp (List.mem_cons_of_mem _) id
    exact this L s2 kk (b2.has i d e)
end
end
end Sim
namespace Sim
open PySem PySem.Spec L2
section
variable {α β δ γ σ τ : Type}
theorem only {γ : Type} {β : Type} (z : γ) (y0 : β) : ∃ k : β → Option γ, k y0 = some z ∧ ∀ y, k y = some z → y = y0 := by
  classical
  refine ⟨fun y => if y = y0 then some z else none, by simp, fun y h => ?_⟩
  by_cases c : y = y0
  · exact c
  · simp [c] at h
def XT (p : Pt) (t : T) (b : α → Bool) (q : α → Pt) (F : (α → Option γ) → Option γ) : Prop :=
  ∀ k z, F k = some z → ∃ x, k x = some z ∧ ∀ s, Mt p s → ∃ s', t s = .ok (b x) s' ∧ Mt (q x) s'
section
variable {p : Pt} {g : O} {t u : T} {b : α → Bool} {q : α → Pt} {F : (α → Option γ) → Option γ} {vl : Bool} {v : α → D}
theorem xt_tst (h : X vl p g (fun x => .bool (b x)) q F) : XT p (tst g) b q F := fun k z e => by
  obtain ⟨x, e1, h⟩ := h k z e
  refine ⟨x, e1, fun s m => ?_⟩
  obtain ⟨r, s', h1, h2, h3⟩ := h s m
  exact ⟨s', by rw [ev_tst, h1, ev_ok, ev_tstK, h3.rd h2, ev_tstK2], h2⟩
theorem xt_tstA (h : X vl p g v q F) (ht : ∀ x, truD (v x) = some (b x)) : XT p (tstA g) b q F := fun k z e => by
  obtain ⟨x, e1, h⟩ := h k z e
  refine ⟨x, e1, fun s m => ?_⟩
  obtain ⟨r, s', h1, h2, h3⟩ := h s m
  exact ⟨s', by rw [ev_tstA, h1, ev_ok, ev_tstAK, h3.rd h2, ev_tstAK2, ht x, ev_tstAK3], h2⟩
theorem xt_not (h : XT p t b q F) : XT p (tNot t) (fun x => !b x) q F := fun k z e => by
  obtain ⟨x, e1, h⟩ := h k z e
  refine ⟨x, e1, fun s m => ?_⟩
  obtain ⟨s', h1, h2⟩ := h s m
  exact ⟨s', by rw [ev_tNot, h1, ev_ok, ev_tNotK], h2⟩
theorem xt_yes : XT (γ := γ) p tYesT (fun _ : Unit => true) (fun _ => p) (fun k => k ()) := fun k z e => ⟨(), e, fun s m => ⟨s, rfl, m⟩⟩
variable {c : α → β → Bool} {q2 : α → β → Pt}
theorem xt_andT {y0 : α → β} (h : XT p t b q F) (h2 : ∀ x, XT (γ := γ) (q x) u (c x) (fun _ => q x) (fun k => k (y0 x))) : XT p (tAnd t u) (fun x => b x && c x (y0 x)) q F := fun k z e => by
  obtain ⟨x, e1, h⟩ := h k z e
  refine ⟨x, e1, fun s m => ?_⟩
  obtain ⟨s', a1, a2⟩ := h s m
  obtain ⟨k2, k3, k4⟩ := only z (y0 x)
  obtain ⟨y, e2, h2⟩ := h2 x k2 z k3
  rw [k4 y e2] at h2
  obtain ⟨s2, b1, b2⟩ := h2 s' a2
  cases hb : b x with
  | true => exact ⟨s2, by rw [ev_tAnd, a1, ev_ok, ev_tAndK, if_pos hb, b1]; simp [hb], b2⟩
  | false => exact ⟨s', by rw [ev_tAnd, a1, ev_ok, ev_tAndK, if_neg (by simp [hb])]; simp [hb], a2⟩
theorem xt_orT {y0 : α → β} (h : XT p t b q F) (h2 : ∀ x, XT (γ := γ) (q x) u (c x) (fun _ => q x) (fun k => k (y0 x))) : XT p (tOr t u) (fun x => b x || c x (y0 x)) q F := fun k z e => by
  obtain ⟨x, e1, h⟩ := h k z e
  refine ⟨x, e1, fun s m => ?_⟩
  obtain ⟨s', a1, a2⟩ := h s m
  obtain ⟨k2, k3, k4⟩ := only z (y0 x)
  obtain ⟨y, e2, h2⟩ := h2 x k2 z k3
  rw [k4 y e2] at h2
  obtain ⟨s2, b1, b2⟩ := h2 s' a2
  cases hb : b x with
  | true => exact ⟨s', by rw [ev_tOr, a1, ev_ok, ev_tOrK, if_pos hb]; simp [hb], a2⟩
  | false => exact ⟨s2, by rw [ev_tOr, a1, ev_ok, ev_tOrK, if_neg (by simp [hb]), b1]; simp [hb], b2⟩
theorem xt_andP {F2 : α → (β → Option Bool) → Option Bool} (h : XT p t b q F) (h2 : ∀ x, XT (q x) u (c x) (fun _ => q x) (F2 x)) :
    XT p (tAnd t u) (fun w : α × Bool => w.2) (fun w => q w.1) (fun k => F fun x => (if b x = true then F2 x (fun y => some (c x y)) else some false).bind fun z => k (x, z)) := fun k z e => by
  obtain ⟨x, e1, h⟩ := h _ z e
  obtain ⟨w, e2, e3⟩ := Option.bind_eq_some_iff.mp e1
  refine ⟨(x, w), e3, fun s m => ?_⟩
  obtain ⟨s', a1, a2⟩ := h s m
  cases hb : b x with
  | true =>
    rw [if_pos hb] at e2
    obtain ⟨y, e4, h2⟩ := h2 x _ w e2
    obtain ⟨s2, b1, b2⟩ := h2 s' a2
    cases e4
    exact ⟨s2, by rw [ev_tAnd, a1, ev_ok, ev_tAndK, if_pos hb, b1], b2⟩
  | false =>
    rw [if_neg (by simp [hb])] at e2
    cases e2
    exact ⟨s', by rw [ev_tAnd, a1, ev_ok, ev_tAndK, if_neg (by simp [hb])], a2⟩
theorem xt_orP {F2 : α → (β → Option Bool) → Option Bool} (h : XT p t b q F) (h2 : ∀ x, XT (q x) u (c x) (fun _ => q x) (F2 x)) :
    XT p (tOr t u) (fun w : α × Bool => w.2) (fun w => q w.1) (fun k => F fun x => (if b x = true then some true else F2 x (fun y => some (c x y))).bind fun z => k (x, z)) := fun k z e => by
  obtain ⟨x, e1, h⟩ := h _ z e
  obtain ⟨w, e2, e3⟩ := Option.bind_eq_some_iff.mp e1
  refine ⟨(x, w), e3, fun s m => ?_⟩
  obtain ⟨s', a1, a2⟩ := h s m
  cases hb : b x with
  | true =>
    rw [if_pos hb] at e2
    cases e2
    exact ⟨s', by rw [ev_tOr, a1, ev_ok, ev_tOrK, if_pos hb], a2⟩
  | false =>
    rw [if_neg (by simp [hb])] at e2
    obtain ⟨y, e4, h2⟩ := h2 x _ w e2
    obtain ⟨s2, b1, b2⟩ := h2 s' a2
    cases e4
    exact ⟨s2, by rw [ev_tOr, a1, ev_ok, ev_tOrK, if_neg (by simp [hb]), b1], b2⟩
end
section
variable {p : Pt} {g h' : O} {t : T} {b : α → Bool} {q : α → Pt} {F : (α → Option γ) → Option γ} {vl vl2 : Bool} {c : α → β → Bool}
theorem x_not (h : X vl p g (fun x => .bool (b x)) q F) : X true p (oNot g) (fun x => .bool (!b x)) q F := fun k z e => by
  obtain ⟨x, e1, h⟩ := h k z e
  refine ⟨x, e1, fun s m => ?_⟩
  obtain ⟨r, s', h1, h2, h3⟩ := h s m
  exact ⟨_, s', by rw [ev_oNot, h1, ev_ok, ev_notK, h3.rd h2, ev_notK2], h2, .inl rfl⟩
theorem x_andT {y0 : α → β} (h : X vl p g (fun x => .bool (b x)) q F) (h2 : ∀ x, X (γ := γ) vl2 (q x) h' (fun y => .bool (c x y)) (fun _ => q x) (fun k => k (y0 x))) : X false p (oAnd g h') (fun x => .bool (b x && c x (y0 x))) q F := fun k z e => by
  obtain ⟨x, e1, h⟩ := h k z e
  refine ⟨x, e1, fun s m => ?_⟩
  obtain ⟨r, s', a1, a2, a3⟩ := h s m
  obtain ⟨k2, k3, k4⟩ := only z (y0 x)
  obtain ⟨y, e2, h2⟩ := h2 x k2 z k3
  rw [k4 y e2] at h2
  obtain ⟨r2, s2, b1, b2, b3⟩ := h2 s' a2
  cases hb : b x with
  | true => exact ⟨r2, s2, by rw [ev_oAnd, a1, ev_ok, ev_andK, a3.rd a2, ev_andK2, if_pos hb, b1], b2, by simp only [hb, Bool.true_and, Bool.false_or]; exact b3.imp id fun z => ⟨rfl, z.2⟩⟩
  | false => exact ⟨_, s', by rw [ev_oAnd, a1, ev_ok, ev_andK, a3.rd a2, ev_andK2, if_neg (by simp [hb])], a2, .inl (by simp [hb])⟩
theorem x_andP {F2 : α → (β → Option Bool) → Option Bool} (h : X vl p g (fun x => .bool (b x)) q F) (h2 : ∀ x, X vl2 (q x) h' (fun y => .bool (c x y)) (fun _ => q x) (F2 x)) :
    X false p (oAnd g h') (fun w : α × Bool => .bool w.2) (fun w => q w.1) (fun k => F fun x => (if b x = true then F2 x (fun y => some (c x y)) else some false).bind fun z => k (x, z)) := fun k z e => by
  obtain ⟨x, e1, h⟩ := h _ z e
  obtain ⟨w, e2, e3⟩ := Option.bind_eq_some_iff.mp e1
  refine ⟨(x, w), e3, fun s m => ?_⟩
  obtain ⟨r, s', a1, a2, a3⟩ := h s m
  cases hb : b x with
  | true =>
    rw [if_pos hb] at e2
    obtain ⟨y, e4, h2⟩ := h2 x _ w e2
    obtain ⟨r2, s2, b1, b2, b3⟩ := h2 s' a2
    cases e4
    exact ⟨r2, s2, by rw [ev_oAnd, a1, ev_ok, ev_andK, a3.rd a2, ev_andK2, if_pos hb, b1], b2, b3.imp id fun z => ⟨rfl, z.2⟩⟩
  | false =>
    rw [if_neg (by simp [hb])] at e2
    cases e2
    exact ⟨_, s', by rw [ev_oAnd, a1, ev_ok, ev_andK, a3.rd a2, ev_andK2, if_neg (by simp [hb])], a2, .inl rfl⟩
end
section
variable {p : Pt} {g h' : O} {t : T} {b : α → Bool} {q : α → Pt} {F : (α → Option γ) → Option γ} {vl vl2 : Bool}
end
/-- a chain of two comparisons -/
theorem x_chain {p : Pt} {a b c : O} {f f' : List D → Option D} {q : α → Pt} {F : (α → Option γ) → Option γ} {v1 v2 : α → D} {v3 : α → β → D} {y0 : α → β} {b1 b2 : α → Bool} {vl : Bool} {ks : List AK}
    (h : XA p (aCons a (aCons b aNil)) ks (fun x => [v1 x, v2 x]) q F) (h2 : ∀ x, X (γ := γ) vl (q x) c (v3 x) (fun _ => q x) (fun k => k (y0 x))) (hf : ∀ x, f [v1 x, v2 x] = some (.bool (b1 x))) (hf' : ∀ x, f' [v2 x, v3 x (y0 x)] = some (.bool (b2 x))) :
    X true p (oChain f f' a b c) (fun x => .bool (b1 x && b2 x)) q F := fun k z e => by
  obtain ⟨x, e1, h⟩ := h k z e
  refine ⟨x, e1, fun s m => ?_⟩
  obtain ⟨rs, s', a1, a2, a3⟩ := h s m
  obtain ⟨k2, k3, k4⟩ := only z (y0 x)
  obtain ⟨y, e2, h2⟩ := h2 x k2 z k3
  rw [k4 y e2] at h2
  obtain ⟨r, s2, c1, c2, c3⟩ := h2 s' a2
  obtain ⟨ra, s1, d1, d2⟩ := bind_inv a1
  obtain ⟨rl, s3, d3, d4⟩ := bind_inv d2
  obtain ⟨rb, s4, d5, d6⟩ := bind_inv d3
  cases d6
  cases d4
  have e3 := a3.rds a2
  have e4 : rds [rb, r] s2 = some [v2 x, v3 x (y0 x)] := by
    have z : rd rb s2 = some (v2 x) := by
      have : rds [ra, rb] s' = some [v1 x, v2 x] := e3
      cases ks with
      | nil => exact a3.elim
      | cons k1 ks => cases ks with
        | nil => cases k1 <;> exact a3.2.elim
        | cons k2 ks =>
          cases k1 <;> cases k2
          · exact a3.2.1.1.rd c2
          · rw [a3.2.1.1, rd_slot, c2.get a3.2.1.2.1]
          · exact a3.2.1.1.rd c2
          · rw [a3.2.1.1, rd_slot, c2.get a3.2.1.2.1]
    rw [rds_cons, rds_cons, rds_nil, z, c3.rd c2]; rfl
  cases hb : b1 x with
  | true =>
    refine ⟨.val (.bool (b2 x)), s2, ?_, c2, .inl (by simp [hb])⟩
    rw [ev_chain, d1, ev_ok, ev_chK0, d5, ev_ok, ev_chK1, e3, ev_chK2a, hf x, ev_chK2b, if_pos hb, c1, ev_ok, ev_chK2c, e4, ev_chK3, hf' x, ev_chK4]
  | false =>
    refine ⟨.val (.bool false), s', ?_, a2, .inl (by simp [hb])⟩
    rw [ev_chain, d1, ev_ok, ev_chK0, d5, ev_ok, ev_chK1, e3, ev_chK2a, hf x, ev_chK2b, if_neg (by simp [hb])]
end
end Sim
namespace Sim
open PySem PySem.Spec L2
section
variable {α β δ γ σ τ ρ : Type}
def As (t : Tg) (d : D) (p p' : Pt) : Prop := ∀ s, Mt p s → ∃ s', asg t d s = some s' ∧ Mt p' s'
def Ass (l : List Tg) (ds : List D) (p p' : Pt) : Prop := ∀ s, Mt p s → ∃ s', asgs l ds s = some s' ∧ Mt p' s'
theorem as_nm {i : Nat} {d : D} {p : Pt} : As (.nm i) d p (stP p i (some d)) := fun s m => ⟨_, asg_nm i d s, m.put i d⟩
theorem as_tp {l : List Tg} {ds : List D} {p p' : Pt} (h : Ass l ds p p') : As (.tp l) (.tuple ds) p p' := fun s m => by
  obtain ⟨s', e, m'⟩ := h s m
  exact ⟨s', by rw [asg_tp, e], m'⟩
theorem ass_nil {p : Pt} : Ass [] [] p p := fun s m => ⟨s, asgs_nil s, m⟩
theorem ass_cons {t : Tg} {l : List Tg} {d : D} {ds : List D} {p p1 p2 : Pt} (h : As t d p p1) (h2 : Ass l ds p1 p2) : Ass (t :: l) (d :: ds) p p2 := fun s m => by
  obtain ⟨s', e, m'⟩ := h s m
  obtain ⟨s2, e2, m2⟩ := h2 s' m'
  exact ⟨s2, by rw [asgs_cons, e, asgsK_some, e2], m2⟩
def XI (p : Pt) (it : I) (ey : β → D) (ys : α → List β) (lk : α → List (Nat × D)) (q : α → Pt) (F : (α → Option γ) → Option γ) : Prop :=
  ∀ k z, F k = some z → ∃ x, k x = some z ∧ (∀ i d, (i, d) ∈ lk x → gtP (q x) i = some d) ∧ ∀ s, Mt p s → ∃ s1, it s = .ok ((ys x).map ey, lk x) (lockS (lk x) s1) ∧ Mt (q x) s1
theorem kl_has {p : Pt} : ∀ (ks : List AK) (rs : List Rf) (ds : List D), Rk p ks rs ds → ∀ i d, (i, d) ∈ kl ks ds → gtP p i = some d
  | [], [], [], _, i, d, hm => by cases hm
  | .v :: ks, r :: rs, e :: ds, h, i, d, hm => kl_has ks rs ds h.2 i d hm
  | .s j :: ks, r :: rs, e :: ds, h, i, d, hm => by
    rcases List.mem_cons.mp hm with z | z
    · cases z; exact h.1.2.1
    · exact kl_has ks rs ds h.2 i d z
section
variable {p : Pt} {gs : AL} {ks : List AK} {vs : α → List D} {q : α → Pt} {F : (α → Option γ) → Option γ} {itm : List D → Option (List D)} {ey : β → D}
theorem xi_mk {ys : α → List β} (h : XA p gs ks vs q F) (hn : nodupB (kn ks) = true) (hp : Pu ey) (hi : ∀ x, itm (vs x) = some ((ys x).map ey)) (hM : Nonempty Sg := ⟨[]⟩) :
    XI p (mkI itm gs) ey ys (fun x => kl ks (vs x)) q F := fun k z e => by
  obtain ⟨x, e1, h⟩ := h k z e
  by_cases c : ∃ s, Mt p s
  · obtain ⟨s0, m0⟩ := c
    refine ⟨x, e1, ?_, fun s m => ?_⟩
    · obtain ⟨rs, s', a1, a2, a3⟩ := h s0 m0
      exact kl_has ks rs (vs x) a3
    · obtain ⟨rs, s', a1, a2, a3⟩ := h s m
      refine ⟨s', ?_, a2⟩
      rw [ev_mkI, a1, ev_ok, ev_mkIK, a3.rds a2, ev_mkIK2, hi x, ev_mkIK3, a3.lks, kl_kn _ _ a3.len, if_pos ⟨purs_pu hp _, hn⟩]
  · exfalso
    exact c (by
      refine ⟨p, Mt.refl p⟩)
theorem xi_mkP {ys : α → δ → List β} {m : α → Option δ} (h : XA p gs ks vs q F) (hn : nodupB (kn ks) = true) (hp : Pu ey) (hi : ∀ x z, m x = some z → itm (vs x) = some ((ys x z).map ey)) :
    XI p (mkI itm gs) ey (fun w : α × δ => ys w.1 w.2) (fun w => kl ks (vs w.1)) (fun w => q w.1) (fun k => F fun x => (m x).bind fun z => k (x, z)) := fun k z e => by
  obtain ⟨x, e1, h⟩ := h _ z e
  obtain ⟨y, e2, e3⟩ := Option.bind_eq_some_iff.mp e1
  refine ⟨(x, y), e3, ?_, fun s m => ?_⟩
  · obtain ⟨rs, s', a1, a2, a3⟩ := h p (Mt.refl p)
    exact kl_has ks rs (vs x) a3
  · obtain ⟨rs, s', a1, a2, a3⟩ := h s m
    refine ⟨s', ?_, a2⟩
    rw [ev_mkI, a1, ev_ok, ev_mkIK, a3.rds a2, ev_mkIK2, hi x y e2, ev_mkIK3, a3.lks, kl_kn _ _ a3.len, if_pos ⟨purs_pu hp _, hn⟩]
end
def B (p : Pt) (g : S) (m : Option γ) (Q : γ → Fl → Sg → Prop) : Prop := ∀ z, m = some z → ∀ s, Mt p s → ∃ fl s', g s = .ok fl s' ∧ Q z fl s'
inductive Lf (σ ρ : Type) where
  | go (x : σ) | brk (x : σ) | ret (z : ρ)
def Lf.on (w : Lf σ ρ) (f : σ → τ) (g : ρ → τ) : τ := match w with
  | .go x => f x
  | .brk x => f x
  | .ret z => g z
@[simp] theorem Lf.on_go (x : σ) (f : σ → τ) (g : ρ → τ) : (Lf.go x : Lf σ ρ).on f g = f x := rfl
@[simp] theorem Lf.on_brk (x : σ) (f : σ → τ) (g : ρ → τ) : (Lf.brk x : Lf σ ρ).on f g = f x := rfl
@[simp] theorem Lf.on_ret (z : ρ) (f : σ → τ) (g : ρ → τ) : (Lf.ret z : Lf σ ρ).on f g = g z := rfl
def Qn (q : γ → Pt) : γ → Fl → Sg → Prop := fun z fl s => fl = .nx ∧ Mt (q z) s
def QF (rv : γ → D) (q : γ → Pt) : γ → Fl → Sg → Prop := fun z fl s => (fl = .rt (rv z) ∨ (fl = .nx ∧ rv z = .none)) ∧ Mt (q z) s
def Qc (q : σ → Pt) : σ → Fl → Sg → Prop := fun z fl s => (fl = .nx ∨ fl = .ct) ∧ Mt (q z) s
def QL (qb : σ → Pt) (rv : ρ → D) (qi : ρ → Pt) : Lf σ ρ → Fl → Sg → Prop
  | .go x, fl, s => (fl = .nx ∨ fl = .ct) ∧ Mt (qb x) s
  | .brk x, fl, s => fl = .bk ∧ Mt (qb x) s
  | .ret z, fl, s => fl = .rt (rv z) ∧ Mt (qi z) s
theorem B.cv {p : Pt} {g : S} {m m' : Option γ} {Q : γ → Fl → Sg → Prop} (h : B p g m Q) (e : m = m') : B p g m' Q := e ▸ h
section
variable {p : Pt} {g h th el rest : S} {m : Option γ} {Q : γ → Fl → Sg → Prop}
theorem seq_skip (g : S) (s : Sg) : sSeq g sSkip s = g s := by
  rw [ev_sSeq]
  cases h : g s with
  | ok fl s1 => cases fl <;> rfl
  | exc c v s1 => rfl
  | bad => rfl
theorem seq_asc (a b c : S) (s : Sg) : sSeq (sSeq a b) c s = sSeq a (sSeq b c) s := by
  rw [ev_sSeq, ev_sSeq, ev_sSeq]
  cases h : a s with
  | ok fl s1 => cases fl <;> rfl
  | exc c v s1 => rfl
  | bad => rfl
theorem b_last (h : B p (sSeq g sSkip) m Q) : B p g m Q := fun z e s mm => by
  obtain ⟨fl, s', h1, h2⟩ := h z e s mm
  exact ⟨fl, s', by rw [← h1, seq_skip], h2⟩
theorem b_asc {a b c : S} (h : B p (sSeq a (sSeq b c)) m Q) : B p (sSeq (sSeq a b) c) m Q := fun z e s mm => by
  obtain ⟨fl, s', h1, h2⟩ := h z e s mm
  exact ⟨fl, s', by rw [← h1, seq_asc], h2⟩
theorem b_skip (h : B p rest m Q) : B p (sSeq sSkip rest) m Q := fun z e s mm => by
  obtain ⟨fl, s', h1, h2⟩ := h z e s mm
  exact ⟨fl, s', h1, h2⟩
theorem b_end {q : γ → Pt} {z : γ} (w : Wk (q z) p) : B p sSkip (some z) (Qn q) := fun z' e s mm => by cases e; exact ⟨.nx, s, rfl, rfl, mm.wk w⟩
theorem b_endC {q : γ → Pt} {z : γ} (w : Wk (q z) p) : B p sSkip (some z) (Qc q) := fun z' e s mm => by cases e; exact ⟨.nx, s, rfl, .inl rfl, mm.wk w⟩
theorem b_endL {qb : σ → Pt} {rv : ρ → D} {qi : ρ → Pt} {z : σ} (w : Wk (qb z) p) : B p sSkip (some (.go z)) (QL qb rv qi) := fun z' e s mm => by cases e; exact ⟨.nx, s, rfl, .inl rfl, mm.wk w⟩
theorem b_endF {rv : γ → D} {q : γ → Pt} {z : γ} (hz : rv z = .none) (w : Wk (q z) p) : B p sSkip (some z) (QF rv q) := fun z' e s mm => by cases e; exact ⟨.nx, s, rfl, .inr ⟨rfl, hz⟩, mm.wk w⟩
section
variable {e : O} {v : α → D} {q : α → Pt} {F : (α → Option γ) → Option γ} {vl : Bool} {M : α → Option γ} {i : Nat}
theorem b_set (h : X vl p e v q F) (c : vl = true ∨ ∀ x, pur (v x) = true) (hr : ∀ x, B (stP (q x) i (some (v x))) rest (M x) Q) : B p (sSeq (sSet i e) rest) (F M) Q := fun z e0 s mm => by
  obtain ⟨x, e1, h⟩ := h M z e0
  obtain ⟨r, s1, a1, a2, a3⟩ := h s mm
  obtain ⟨fl, s', h1, h2⟩ := hr x z e1 _ (a2.put i (v x))
  refine ⟨fl, s', ?_, h2⟩
  rw [ev_sSeq, ev_sSet, a1, ev_ok, ev_asgK, a3.own a2 (c.imp id fun c => c x), ev_asgK2, asg_nm, ev_asgK3, ev_ok, ev_seqK_nx, h1]
theorem b_setL {τ : Type} (e1 : τ → D) {vv : α → τ} {M : α → τ → Option γ} (h : X vl p e (fun x => e1 (vv x)) q F) (c : vl = true ∨ ∀ x, pur (e1 (vv x)) = true) (hr : ∀ x y, B (stP (q x) i (some (e1 y))) rest (M x y) Q) : B p (sSeq (sSet i e) rest) (F fun x => (some (vv x)).bind (M x)) Q :=
  b_set h c fun x => hr x (vv x)
theorem b_asg {t : Tg} {p' : α → Pt} (h : X vl p e v q F) (c : vl = true ∨ ∀ x, pur (v x) = true) (ha : ∀ x, As t (v x) (q x) (p' x)) (hr : ∀ x, B (p' x) rest (M x) Q) : B p (sSeq (sAsg t e) rest) (F M) Q := fun z e0 s mm => by
  obtain ⟨x, e1, h⟩ := h M z e0
  obtain ⟨r, s1, a1, a2, a3⟩ := h s mm
  obtain ⟨s2, b1, b2⟩ := ha x s1 a2
  obtain ⟨fl, s', h1, h2⟩ := hr x z e1 _ b2
  refine ⟨fl, s', ?_, h2⟩
  rw [ev_sSeq, ev_sAsg, a1, ev_ok, ev_asgK, a3.own a2 (c.imp id fun c => c x), ev_asgK2, b1, ev_asgK3, ev_ok, ev_seqK_nx, h1]
theorem b_expr (h : X vl p e v q F) (hr : ∀ x, B (q x) rest (M x) Q) : B p (sSeq (sExpr e) rest) (F M) Q := fun z e0 s mm => by
  obtain ⟨x, e1, h⟩ := h M z e0
  obtain ⟨r, s1, a1, a2, a3⟩ := h s mm
  obtain ⟨fl, s', h1, h2⟩ := hr x z e1 _ a2
  refine ⟨fl, s', ?_, h2⟩
  rw [ev_sSeq, ev_sExpr, a1, ev_ok, ev_exprK, ev_ok, ev_seqK_nx, h1]
theorem b_par {l : List Nat} {gs : AL} {ks : List AK} {vs : α → List D} (h : XA p gs ks vs q F) (hk : ks.all AK.isV = true) (hl : ∀ x, (vs x).length = l.length) {p' : α → Pt} (hp : ∀ x s, Mt (q x) s → Mt (p' x) (putAll l (vs x) s))
    (hr : ∀ x, B (p' x) rest (M x) Q) : B p (sSeq (sPar l gs) rest) (F M) Q := fun z e0 s mm => by
  obtain ⟨x, e1, h⟩ := h M z e0
  obtain ⟨rs, s1, a1, a2, a3⟩ := h s mm
  obtain ⟨fl, s', h1, h2⟩ := hr x z e1 _ (hp x s1 a2)
  refine ⟨fl, s', ?_, h2⟩
  have : sPar l gs s = .ok .nx (putAll l (vs x) s1) := by
    unfold sPar
    rw [a1, ev_ok]
    simp only [a3.owns a2 (kv hk)]
    rw [if_pos (hl x)]
  rw [ev_sSeq, this, ev_ok, ev_seqK_nx, h1]
theorem put2 {i j : Nat} {a b : D} {p : Pt} : ∀ s, Mt p s → Mt (stP (stP p i (some a)) j (some b)) (putAll [i, j] [a, b] s) := fun s m => (m.put i a).put j b
theorem b_ret {lk : Nat → Bool} (h : X vl p e v q F) (R : α → γ) (c : vl = true ∨ ∀ x, pur (v x) = true) (hQ : ∀ x s, Mt (q x) s → Q (R x) (.rt (v x)) s) : B p (sSeq (sRet lk e) rest) (F fun x => some (R x)) Q := fun z e0 s mm => by
  obtain ⟨x, e1, h⟩ := h _ z e0
  cases e1
  obtain ⟨r, s1, a1, a2, a3⟩ := h s mm
  refine ⟨.rt (v x), s1, ?_, hQ x s1 a2⟩
  rw [ev_sSeq, ev_sRet, a1, ev_ok]
  rcases a3 with rfl | ⟨hv, i, rfl, hg⟩
  · rfl
  · rcases c with c | c
    · rw [hv] at c; cases c
    · rw [ev_retK_slot, a2.get hg, ev_retK2, if_pos (.inl (c x))]; rfl
/-- a list of one's own is given -/
theorem b_retS {lk : Nat → Bool} {d : D} {R : γ} (h : gtP p i = some d) (hl : lk i = false) (hQ : ∀ s, Mt p s → Q R (.rt d) s) : B p (sSeq (sRet lk (oV i)) rest) (some R) Q := fun z e0 s mm => by
  cases e0
  refine ⟨.rt d, s, ?_, hQ s mm⟩
  rw [ev_sSeq, ev_sRet, ev_oV, mm.get h, ev_oVK, ev_ok, ev_retK_slot, mm.get h, ev_retK2, if_pos (.inr hl)]; rfl
theorem qf_ret {rv : γ → D} {q : γ → Pt} {z : γ} {d : D} (e : d = rv z) (w : Wk (q z) p) : ∀ s, Mt p s → QF rv q z (.rt d) s := fun s m => ⟨.inl (by rw [e]), m.wk w⟩
theorem ql_ret {qb : σ → Pt} {rv : ρ → D} {qi : ρ → Pt} {z : ρ} {d : D} (e : d = rv z) (w : Wk (qi z) p) : ∀ s, Mt p s → QL qb rv qi (.ret z) (.rt d) s := fun s m => ⟨by rw [e], m.wk w⟩
/-- x[k] = e -/
def setT (xs : List τ) (k : Int) (v : τ) : Option (List τ) := (ixN xs.length k).map fun j => xs.set j v
theorem b_setIx {ga : O} {e1 : τ → D} {vx : α → τ} {β : Type} {vk : α → β → Int} {q2 : α → β → Pt} {F2 : α → (β → Option γ) → Option γ} {xs : α → β → List τ} {M : α → β → List τ → Option γ} {vl2 : Bool}
    (h : X vl p e (fun x => e1 (vx x)) q F) (hp : Pu e1) (hi : ∀ x, ∃ d, gtP (q x) i = some d) (h2 : ∀ x, X vl2 (q x) ga (fun y => .int (vk x y)) (q2 x) (F2 x)) (hv : ∀ x y, vl = true ∨ q2 x y = q x) (hi2 : ∀ x y, gtP (q2 x y) i = some (eL e1 (xs x y)))
    (hr : ∀ x y ys, B (stP (q2 x y) i (some (eL e1 ys))) rest (M x y ys) Q) : B p (sSeq (sSetIx i ga e) rest) (F fun x => F2 x fun y => (setT (xs x y) (vk x y) (vx x)).bind (M x y)) Q := fun z e0 s mm => by
  obtain ⟨x, e2, h⟩ := h _ z e0
  obtain ⟨y, e3, h2⟩ := h2 x _ z e2
  obtain ⟨ys, e4, e5⟩ := Option.bind_eq_some_iff.mp e3
  obtain ⟨r, s1, a1, a2, a3⟩ := h s mm
  obtain ⟨r2, s2, b1, b2, b3⟩ := h2 s1 a2
  unfold setT at e4
  obtain ⟨j, e6, e7⟩ := Option.map_eq_some_iff.mp e4
  have b4 := b2.put i (eL e1 ys)
  obtain ⟨fl, s', h1, h2⟩ := hr x y ys z e5 _ b4
  refine ⟨fl, s', ?_, h2⟩
  obtain ⟨d0, hd0⟩ := hi x
  have o : own r s2 = some (e1 (vx x)) := by
    rcases hv x y with c | c
    · rcases a3 with rfl | ⟨c2, _⟩
      · rfl
      · rw [c] at c2; cases c2
    · rw [c] at b2
      exact Rd.own a3 b2 (.inr (hp _))
  have l : (List.map e1 (xs x y)).length = (xs x y).length := by simp
  rw [ev_sSeq, ev_sSetIx, a1, ev_ok, ev_ixK, ev_oV, a2.get hd0, ev_oVK, ev_ok, ev_ixK1, b1, ev_ok, ev_ixK2, o, b3.rd b2, b2.get (hi2 x y)]
  show ((ixK3 i s2 (some (e1 (vx x))) (some (.int (vk x y))) (some (.list ((xs x y).map e1)))).bind (seqK rest)) = _
  rw [ev_ixK3, if_pos (hp _), l, e6, ev_ixK4, ev_ok, ev_seqK_nx, ← h1]
  refine congrArg rest (congrArg (fun d => s2.set i (some d)) ?_)
  rw [← e7, eL, List.map_set]
end
section
variable {t : T} {b : α → Bool} {q : α → Pt} {F : (α → Option γ) → Option γ}
/-- what is behind stands behind both -/
theorem b_if {m1 m2 : α → Option γ} (h : XT p t b q F) (h1 : ∀ x, B (q x) (sSeq th rest) (m1 x) Q) (h2 : ∀ x, B (q x) (sSeq el rest) (m2 x) Q) :
    B p (sSeq (sIf t th el) rest) (F fun x => if b x = true then m1 x else m2 x) Q := fun z e0 s mm => by
  obtain ⟨x, e1, h⟩ := h _ z e0
  obtain ⟨s1, a1, a2⟩ := h s mm
  cases hb : b x with
  | true =>
    rw [if_pos hb] at e1
    obtain ⟨fl, s', b1, b2⟩ := h1 x z e1 s1 a2
    refine ⟨fl, s', ?_, b2⟩
    rw [ev_sSeq, ev_sIf, a1, ev_ok, ev_ifK, if_pos hb, ← b1, ev_sSeq]
  | false =>
    rw [if_neg (by simp [hb])] at e1
    obtain ⟨fl, s', b1, b2⟩ := h2 x z e1 s1 a2
    refine ⟨fl, s', ?_, b2⟩
    rw [ev_sSeq, ev_sIf, a1, ev_ok, ev_ifK, if_neg (by simp [hb]), ← b1, ev_sSeq]
/-- both go on, with the same names told -/
theorem b_ifj {m1 m2 : α → Option τ} {M : α → τ → Option γ} (h : XT p t b q F) (qj : α → τ → Pt) (h1 : ∀ x, B (q x) th (m1 x) (Qn (qj x))) (h2 : ∀ x, B (q x) el (m2 x) (Qn (qj x)))
    (hr : ∀ x y, B (qj x y) rest (M x y) Q) : B p (sSeq (sIf t th el) rest) (F fun x => (if b x = true then m1 x else m2 x).bind (M x)) Q := fun z e0 s mm => by
  obtain ⟨x, e1, h⟩ := h _ z e0
  obtain ⟨y, e2, e3⟩ := Option.bind_eq_some_iff.mp e1
  obtain ⟨s1, a1, a2⟩ := h s mm
  cases hb : b x with
  | true =>
    rw [if_pos hb] at e2
    obtain ⟨fl, s2, b1, b2, b3⟩ := h1 x y e2 s1 a2
    subst b2
    obtain ⟨fl, s', c1, c2⟩ := hr x y z e3 s2 b3
    refine ⟨fl, s', ?_, c2⟩
    rw [ev_sSeq, ev_sIf, a1, ev_ok, ev_ifK, if_pos hb, b1, ev_ok, ev_seqK_nx, c1]
  | false =>
    rw [if_neg (by simp [hb])] at e2
    obtain ⟨fl, s2, b1, b2, b3⟩ := h2 x y e2 s1 a2
    subst b2
    obtain ⟨fl, s', c1, c2⟩ := hr x y z e3 s2 b3
    refine ⟨fl, s', ?_, c2⟩
    rw [ev_sSeq, ev_sIf, a1, ev_ok, ev_ifK, if_neg (by simp [hb]), b1, ev_ok, ev_seqK_nx, c1]
end
def lpN (F : σ → β → Option σ) : List β → σ → Option σ
  | [], s => some s
  | y :: ys, s => (F s y).bind (lpN F ys)
def lpR (F : σ → β → Option (Lf σ ρ)) : List β → σ → Option (Lf σ ρ)
  | [], s => some (.go s)
  | y :: ys, s => (F s y).bind fun w => match w with
    | .go s => lpR F ys s
    | .brk s => some (.go s)
    | .ret z => some (.ret z)
theorem loop_N {t : Tg} {g : S} {ey : β → D} {qb : σ → Pt} {pb : σ → β → Pt} {mb : σ → β → Option σ} (hT : ∀ x y, As t (ey y) (qb x) (pb x y)) (hb : ∀ x y, B (pb x y) g (mb x y) (Qc qb)) :
    ∀ (ys : List β) (x x' : σ) (s : Sg), lpN mb ys x = some x' → Mt (qb x) s → ∃ s', loopS t g (ys.map ey) s = .ok .nx s' ∧ Mt (qb x') s'
  | [], x, x', s, e, m => by cases e; exact ⟨s, rfl, m⟩
  | y :: ys, x, x', s, e, m => by
    obtain ⟨x1, e1, e2⟩ := Option.bind_eq_some_iff.mp e
    obtain ⟨s1, a1, a2⟩ := hT x y s m
    obtain ⟨fl, s2, b1, b2, b3⟩ := hb x y x1 e1 s1 a2
    obtain ⟨s', c1, c2⟩ := loop_N hT hb ys x1 x' s2 e2 b3
    refine ⟨s', ?_, c2⟩
    rw [List.map_cons, loop_cons, a1, loopK1_some, b1, ev_ok]
    rcases b2 with rfl | rfl <;> exact c1
theorem loop_R {t : Tg} {g : S} {ey : β → D} {qb : σ → Pt} {pb : σ → β → Pt} {mb : σ → β → Option (Lf σ ρ)} {rv : ρ → D} {qi : ρ → Pt} (hT : ∀ x y, As t (ey y) (qb x) (pb x y)) (hb : ∀ x y, B (pb x y) g (mb x y) (QL qb rv qi)) :
    ∀ (ys : List β) (x : σ) (w : Lf σ ρ) (s : Sg), lpR mb ys x = some w → Mt (qb x) s → (∃ x' s', w = .go x' ∧ loopS t g (ys.map ey) s = .ok .nx s' ∧ Mt (qb x') s') ∨ (∃ z s', w = .ret z ∧ loopS t g (ys.map ey) s = .ok (.rt (rv z)) s' ∧ Mt (qi z) s')
  | [], x, x', s, e, m => by cases e; exact .inl ⟨x, s, rfl, rfl, m⟩
  | y :: ys, x, x', s, e, m => by
    obtain ⟨w, e1, e2⟩ := Option.bind_eq_some_iff.mp e
    obtain ⟨s1, a1, a2⟩ := hT x y s m
    obtain ⟨fl, s2, b1, b2⟩ := hb x y w e1 s1 a2
    cases w with
    | go x1 =>
      have ih := loop_R hT hb ys x1 x' s2 e2 b2.2
      have key : loopS t g ((y :: ys).map ey) s = loopS t g (ys.map ey) s2 := by
        rw [List.map_cons, loop_cons, a1, loopK1_some, b1, ev_ok]
        rcases b2.1 with rfl | rfl <;> rfl
      rw [key]
      exact ih
    | brk x1 =>
      cases e2
      refine .inl ⟨x1, s2, rfl, ?_, b2.2⟩
      rw [List.map_cons, loop_cons, a1, loopK1_some, b1, ev_ok, b2.1]; rfl
    | ret z =>
      cases e2
      refine .inr ⟨z, s2, rfl, ?_, b2.2⟩
      rw [List.map_cons, loop_cons, a1, loopK1_some, b1, ev_ok, b2.1]; rfl
section
variable {it : I} {ey : β → D} {ys : α → List β} {lk : α → List (Nat × D)} {q : α → Pt} {F : (α → Option γ) → Option γ} {lkf : Nat → Bool} {t : Tg} {pb : α → σ → β → Pt}
theorem b_for {mb : α → σ → β → Option σ} {M : α → σ → Option γ} (h : XI p it ey ys lk q F) (qb : α → σ → Pt) (s0 : α → σ) (hl : ∀ x, ((lk x).all fun q => lkf q.1) = true) (h0 : ∀ x, Wk (qb x (s0 x)) (lkP (lk x) (q x)))
    (hT : ∀ x s y, As t (ey y) (qb x s) (pb x s y)) (hb : ∀ x s y, B (pb x s y) g (mb x s y) (Qc (qb x))) (hr : ∀ x s, B (ulP (lk x) (qb x s)) rest (M x s) Q) :
    B p (sSeq (sFor lkf it t g) rest) (F fun x => (lpN (fun s y => mb x s y) (ys x) (s0 x)).bind (M x)) Q := fun z e0 s mm => by
  obtain ⟨x, e1, hx, h⟩ := h _ z e0
  obtain ⟨s1, a1, a2⟩ := h s mm
  obtain ⟨x', e2, e3⟩ := Option.bind_eq_some_iff.mp e1
  obtain ⟨s2, b1, b2⟩ := loop_N (hT x) (hb x) (ys x) (s0 x) x' _ e2 ((a2.lk _).wk (h0 x))
  obtain ⟨fl, s', c1, c2⟩ := hr x x' z e3 _ (b2.ul (lk x))
  refine ⟨fl, s', ?_, c2⟩
  rw [ev_sSeq, for_ok a1 (hl x) b1, ev_ok, ev_seqK_nx, c1]
theorem b_forR {mb : α → σ → β → Option (Lf σ ρ)} {M : α → σ → Option γ} (h : XI p it ey ys lk q F) (qb : α → σ → Pt) (s0 : α → σ) (rv : ρ → D) (qi : α → ρ → Pt) (R : ρ → γ) (hl : ∀ x, ((lk x).all fun q => lkf q.1) = true) (h0 : ∀ x, Wk (qb x (s0 x)) (lkP (lk x) (q x)))
    (hT : ∀ x s y, As t (ey y) (qb x s) (pb x s y)) (hb : ∀ x s y, B (pb x s y) g (mb x s y) (QL (qb x) rv (qi x))) (hR : ∀ x z s, Mt (ulP (lk x) (qi x z)) s → Q (R z) (.rt (rv z)) s) (hr : ∀ x s, B (ulP (lk x) (qb x s)) rest (M x s) Q) :
    B p (sSeq (sFor lkf it t g) rest) (F fun x => (lpR (fun s y => mb x s y) (ys x) (s0 x)).bind fun w => w.on (M x) (fun z => some (R z))) Q := fun z e0 s mm => by
  obtain ⟨x, e1, hx, h⟩ := h _ z e0
  obtain ⟨s1, a1, a2⟩ := h s mm
  obtain ⟨w, e2, e3⟩ := Option.bind_eq_some_iff.mp e1
  rcases loop_R (hT x) (hb x) (ys x) (s0 x) w _ e2 ((a2.lk _).wk (h0 x)) with ⟨x', s2, rfl, b1, b2⟩ | ⟨z', s2, rfl, b1, b2⟩
  · obtain ⟨fl, s', c1, c2⟩ := hr x x' z e3 _ (b2.ul (lk x))
    refine ⟨fl, s', ?_, c2⟩
    rw [ev_sSeq, for_ok a1 (hl x) b1, ev_ok, ev_seqK_nx, c1]
  · cases e3
    refine ⟨.rt (rv z'), _, ?_, hR x z' _ (b2.ul (lk x))⟩
    rw [ev_sSeq, for_ok a1 (hl x) b1, ev_ok, ev_seqK_rt]
end
end
theorem puL {e : α → D} {xs : List α} : pur (eL e xs) = false := pur_list _
theorem fn_t {ms : List Nat} {n : Nat} {g : S} {ds : List D} {p0 : Pt} {m : Option γ} {rv : γ → D} {q : γ → Pt} {outs : γ → List D} (hb : B p0 g m (QF rv q)) (h0 : ds.map some ++ List.replicate (n - ds.length) none = p0) (h1 : okM ms ds = true)
    (h2 : ∀ z s, Mt (q z) s → coll ms ds 0 s = some (outs z)) : ∀ z, m = some z → mkFn ms n g ds = .ok (rv z) (outs z) := fun z e => by
  obtain ⟨fl, s', a1, a2, a3⟩ := hb z e p0 (Mt.refl _)
  rw [← h0] at a1
  rcases a2 with rfl | ⟨rfl, e2⟩
  · exact mkFn_rt h1 a1 (h2 z s' a3)
  · rw [e2]; exact mkFn_nx h1 a1 (h2 z s' a3)
theorem coll_nilP {p : Pt} {j : Nat} : ∀ s, Mt p s → coll [] [] j s = some [] := fun s _ => rfl
theorem coll_0P {p : Pt} {j : Nat} {ms : List Nat} {d d' : D} {ds as : List D} (h : gtP p j = some d') (h2 : ∀ s, Mt p s → coll ms ds (j + 1) s = some as) : ∀ s, Mt p s → coll (0 :: ms) (d :: ds) j s = some (d' :: as) := fun s m => by
  rw [coll_0, m.get h, h2 s m]; rfl
end
end Sim
namespace Sim
open PySem PySem.Spec L2
def lim {α : Type} (n : Nat) (m : Option α) : Option α := if n ≤ 1000000 then m else none
theorem lim_of {α : Type} {n : Nat} {m : Option α} (h : n ≤ 1000000) : lim n m = m := if_pos h
section
variable {α β δ γ σ τ ρ ε ζ : Type}
def XPr (p : Pt) (po : Option O) (l : α → Option Int) (F : (α → Option γ) → Option γ) : Prop :=
  ∀ k z, F k = some z → ∃ x, k x = some z ∧ ∀ s, Mt p s → ∃ s', prt po s = .ok (l x) s' ∧ Mt p s'
theorem xpr_none {p : Pt} : XPr (γ := γ) p none (fun _ : Unit => none) (fun k => k ()) := fun k z e => ⟨(), e, fun s m => ⟨s, rfl, m⟩⟩
theorem xpr_some {p : Pt} {g : O} {i : α → Int} {F : (α → Option γ) → Option γ} {vl : Bool} (h : X vl p g (fun x => .int (i x)) (fun _ => p) F) : XPr p (some g) (fun x => some (i x)) F := fun k z e => by
  obtain ⟨x, e1, h⟩ := h k z e
  refine ⟨x, e1, fun s m => ?_⟩
  obtain ⟨r, s', a1, a2, a3⟩ := h s m
  exact ⟨s', by rw [ev_prt_some, a1, ev_ok, ev_prtK, a3.rd a2, ev_prtK2], a2⟩
section
variable {p : Pt} {g : O} {lo hi st : Option O} {v : α → D} {q : α → Pt} {F : (α → Option γ) → Option γ} {vl : Bool} {l : α → β → Option Int} {F1 : α → (β → Option γ) → Option γ}
  {u : α → β → δ → Option Int} {F2 : α → β → (δ → Option γ) → Option γ}
theorem x_sl {rv : α → β → δ → D} (h : X vl p g v q F) (h1 : ∀ x, XPr (q x) lo (l x) (F1 x)) (h2 : ∀ x y, XPr (q x) hi (u x y) (F2 x y)) (hs : ∀ x y w, slD (v x) (l x y) (u x y w) = some (rv x y w)) :
    X true p (oSl g lo hi) (fun w : α × β × δ => rv w.1 w.2.1 w.2.2) (fun w => q w.1) (fun k => F fun x => F1 x fun y => F2 x y fun w => k (x, y, w)) := fun k z e => by
  obtain ⟨x, e1, h⟩ := h _ z e
  obtain ⟨y, e2, h1⟩ := h1 x _ z e1
  obtain ⟨w, e3, h2⟩ := h2 x y _ z e2
  refine ⟨(x, y, w), e3, fun s m => ?_⟩
  obtain ⟨r, s1, a1, a2, a3⟩ := h s m
  obtain ⟨s2, b1, b2⟩ := h1 s1 a2
  obtain ⟨s3, c1, c2⟩ := h2 s2 b2
  exact ⟨.val (rv x y w), s3, by rw [ev_oSl, a1, ev_ok, ev_slK1, b1, ev_ok, ev_slK2, c1, ev_ok, ev_slK3, a3.rd c2, ev_slK4, hs, ev_slK5], c2, .inl rfl⟩
end
section
variable {p : Pt} {g : O} {lo hi st : Option O} {v : α → D} {q : α → Pt} {F : (α → Option γ) → Option γ} {vl : Bool} {l : α → β → Option Int} {F1 : α → (β → Option γ) → Option γ}
  {u : α → β → δ → Option Int} {F2 : α → β → (δ → Option γ) → Option γ}
end
theorem x_mt {p : Pt} {gs : AL} {ks : List AK} {vs : α → List D} {q : α → Pt} {F : (α → Option γ) → Option γ} {f : List D → List D → Option (List D × D)} {i : Nat} {e : τ → D} {x0 : List τ} {xs : α → List τ} {m : α → Option β} {xs' : α → β → List τ} {rv : α → β → D}
    (h0 : gtP p i = some (eL e x0)) (h : XA p gs ks vs q F) (hk : ks.all AK.isV = true) (h1 : ∀ x, gtP (q x) i = some (eL e (xs x))) (hf : ∀ x z, m x = some z → f ((xs x).map e) (vs x) = some ((xs' x z).map e, rv x z)) (hp : ∀ x z, pur (rv x z) = true) :
    X true p (oMt f i gs) (fun w : α × β => rv w.1 w.2) (fun w => stP (q w.1) i (some (eL e (xs' w.1 w.2)))) (fun k => F fun x => (m x).bind fun z => k (x, z)) := fun k z e0 => by
  obtain ⟨x, e1, h⟩ := h _ z e0
  obtain ⟨y, e2, e3⟩ := Option.bind_eq_some_iff.mp e1
  refine ⟨(x, y), e3, fun s mm => ?_⟩
  obtain ⟨rs, s2, b1, b2, b3⟩ := h s mm
  refine ⟨.val (rv x y), s2.set i (some (eL e (xs' x y))), ?_, b2.put i _, .inl rfl⟩
  have g1 : (s[i]?).join = some (.list (x0.map e)) := mm.get h0
  have g2 : (s2[i]?).join = some (.list ((xs x).map e)) := b2.get (h1 x)
  rw [ev_oMt, ev_oV, g1, ev_oVK, ev_ok, ev_mtK, g1, ev_mtK1, b1, ev_ok, ev_mtK2, g2, b3.owns b2 (kv hk), ev_mtK3, hf x y e2, ev_mtK4, if_pos (hp x y)]
  rfl
def clP : List Nat → Pt → Pt
  | [], p => p
  | v :: vs, p => stP (clP vs p) v none
theorem Mt.cl : ∀ (vs : List Nat) {p : Pt} {s : Sg}, Mt p s → Mt (clP vs p) (clrS vs s)
  | [], _, _, h => h
  | v :: vs, _, _, h => by rw [clrS_cons]; exact (Mt.cl vs h).off v none
theorem own_mem : ∀ {vs : List Nat} {s : Sg} {i : Nat} {d : D}, (i, d) ∈ ownSl vs s ↔ i ∈ vs ∧ (s[i]?).join = some d
  | [], s, i, d => by simp
  | v :: vs, s, i, d => by
    rw [ownSl_cons]
    cases h : (s[v]?).join with
    | none =>
      rw [ownSlK_none, own_mem]
      constructor
      · rintro ⟨a, b⟩; exact ⟨List.mem_cons_of_mem _ a, b⟩
      · rintro ⟨a, b⟩
        rcases List.mem_cons.mp a with rfl | a
        · rw [h] at b; cases b
        · exact ⟨a, b⟩
    | some e =>
      rw [ownSlK_some, List.mem_cons, own_mem]
      constructor
      · rintro (a | ⟨a, b⟩)
        · cases a; exact ⟨List.mem_cons_self .., h⟩
        · exact ⟨List.mem_cons_of_mem _ a, b⟩
      · rintro ⟨a, b⟩
        rcases List.mem_cons.mp a with rfl | a
        · rw [h] at b; cases b; exact .inl rfl
        · exact .inr ⟨a, b⟩
theorem own_nodup : ∀ {vs : List Nat} {s : Sg}, nodupB vs = true → nodupB ((ownSl vs s).map (·.1)) = true
  | [], s, _ => by simp
  | v :: vs, s, h => by
    rw [ev_nodupB, Bool.and_eq_true] at h
    rw [ownSl_cons]
    have ih := own_nodup (s := s) h.2
    cases e : (s[v]?).join with
    | none => rw [ownSlK_none]; exact ih
    | some d =>
      rw [ownSlK_some, List.map_cons, ev_nodupB, ih, Bool.and_true]
      have h1 := h.1
      simp only [Bool.not_eq_true', List.contains_eq_mem, decide_eq_false_iff_not] at h1 ⊢
      intro z
      obtain ⟨a, ha, hb⟩ := List.mem_map.mp z
      obtain ⟨a1, a2⟩ := a
      have hb : a1 = v := hb
      subst hb
      exact h1 (own_mem.mp ha).1
theorem lock_get : ∀ {L : List (Nat × D)} {s : Sg} {i : Nat}, (∀ d, (i, d) ∉ L) → (lockS L s)[i]? = s[i]?
  | [], s, i, _ => rfl
  | a :: L, s, i, h => by
    rw [lockS_cons, lock_get fun d z => h d (List.mem_cons_of_mem _ z), List.getElem?_set, if_neg]
    intro z
    exact h a.2 (by rw [← z]; exact List.mem_cons_self ..)
theorem lock_len : ∀ (L : List (Nat × D)) (s : Sg), (lockS L s).length = s.length
  | [], _ => rfl
  | a :: L, s => by rw [lockS_cons, lock_len L, List.length_set]
theorem unlock_len : ∀ (L : List (Nat × D)) (s : Sg), (unlockS L s).length = s.length
  | [], _ => rfl
  | a :: L, s => by rw [unlockS_cons, unlock_len L, List.length_set]
theorem clr_len : ∀ (vs : List Nat) (s : Sg), (clrS vs s).length = s.length
  | [], _ => rfl
  | v :: vs, s => by rw [clrS_cons, List.length_set, clr_len vs]
theorem unlock_get : ∀ {L : List (Nat × D)} {s : Sg} {i : Nat} {d : D}, (∀ d', (i, d') ∈ L → d' = d) → i < s.length → ((∃ d', (i, d') ∈ L) ∨ s[i]? = some (some d)) → (unlockS L s)[i]? = some (some d)
  | [], s, i, d, _, _, h => by
    rcases h with ⟨d', h⟩ | h
    · cases h
    · exact h
  | a :: L, s, i, d, h1, h2, h => by
    rw [unlockS_cons]
    refine unlock_get (fun d' z => h1 d' (List.mem_cons_of_mem _ z)) (by rw [List.length_set]; exact h2) ?_
    rw [List.getElem?_set]
    by_cases c : a.1 = i
    · right
      rw [if_pos c, if_pos (by omega), h1 a.2 (by rw [← c]; exact List.mem_cons_self ..)]
    · rw [if_neg c]
      rcases h with ⟨d', h⟩ | h
      · rcases List.mem_cons.mp h with z | z
        · exact absurd (by rw [← z]) c
        · exact .inl ⟨d', z⟩
      · exact .inr h
theorem gtP_lt : ∀ {p : Pt} {i : Nat} {d : D}, gtP p i = some d → i < p.length
  | [], _, _, h => by cases h
  | _ :: _, 0, _, _ => Nat.zero_lt_succ _
  | _ :: p, i + 1, _, h => Nat.succ_lt_succ (gtP_lt (p := p) h)
theorem clP_get : ∀ {vs : List Nat} {p : Pt} {i : Nat} {d : D}, gtP (clP vs p) i = some d → i ∉ vs ∧ gtP p i = some d
  | [], _, _, _, h => ⟨by simp, h⟩
  | v :: vs, p, i, d, h => by
    have hh : gtP (stP (clP vs p) v none) i = some d := h
    have h : gtP (stP (clP vs p) v none) i = some d := h
    rw [gtP_stP] at h
    by_cases c : v = i ∧ v < (clP vs p).length
    · rw [if_pos c] at h; cases h
    · rw [if_neg c] at h
      obtain ⟨h1, h2⟩ := clP_get h
      refine ⟨fun z => ?_, h2⟩
      rcases List.mem_cons.mp z with rfl | z
      · exact c ⟨rfl, by have := gtP_lt hh; rw [stP_len] at this; exact this⟩
      · exact h1 z
theorem clr_get : ∀ {vs : List Nat} {s : Sg} {i : Nat}, i ∉ vs → (clrS vs s)[i]? = s[i]?
  | [], _, _, _ => rfl
  | v :: vs, s, i, h => by
    rw [clrS_cons, List.getElem?_set, if_neg (fun z => h (by rw [z]; exact List.mem_cons_self ..)), clr_get fun z => h (List.mem_cons_of_mem _ z)]
theorem cl_own {vs : List Nat} {p : Pt} {s s0 : Sg} (m : Mt p s) : Mt (clP vs p) (clrS vs (lockS (ownSl vs s0) s)) := by
  have e : ∀ vs : List Nat, (clP vs p).length = p.length := by
    intro vs
    induction vs with
    | nil => rfl
    | cons v vs ih => show (stP _ _ _).length = _; rw [stP_len, ih]
  refine ⟨by rw [e, clr_len, lock_len, m.len], fun i d h => ?_⟩
  obtain ⟨h1, h2⟩ := clP_get h
  rw [clr_get h1, lock_get fun d' z => h1 (own_mem.mp z).1]
  exact m.has i d h2
def lcS (F : σ → β → Option (Option δ × σ)) : List β → σ → Option (List δ × σ)
  | [], s => some ([], s)
  | y :: ys, s => (F s y).bind fun w => (lcS F ys w.2).bind fun r => some ((match w.1 with
    | some d => d :: r.1
    | none => r.1), r.2)
theorem comp_S {t : Tg} {c : T} {e : O} {vs : List Nat} {ey : β → D} {ee : δ → D} {qb : σ → Pt} {F : σ → β → Option (Option δ × σ)}
    (hs : ∀ u y w, F u y = some w → ∀ s, Mt (qb u) s → ∃ s1 s2 b, asg t (ey y) s = some s1 ∧ c s1 = .ok b s2 ∧ ((b = false ∧ w.1 = none ∧ Mt (qb w.2) (clrS vs s2)) ∨ (b = true ∧ ∃ d r s3, w.1 = some d ∧ e s2 = .ok r s3 ∧ own r s3 = some (ee d) ∧ Mt (qb w.2) (clrS vs s3)))) :
    ∀ (ys : List β) (u : σ) (acc : List D) (z : List δ × σ) (s : Sg), lcS F ys u = some z → acc.length + ys.length ≤ 1000000 → Mt (qb u) s → ∃ s', compL t c e vs (ys.map ey) acc s = .ok (acc ++ z.1.map ee) s' ∧ Mt (qb z.2) s'
  | [], u, acc, z, s, h, _, m => by cases h; exact ⟨s, by simp, m⟩
  | y :: ys, u, acc, z, s, h, hl, m => by
    obtain ⟨w, e1, e2⟩ := Option.bind_eq_some_iff.mp h
    obtain ⟨r, e3, e4⟩ := Option.bind_eq_some_iff.mp e2
    rw [List.length_cons] at hl
    obtain ⟨s1, s2, b, a1, a2, a3⟩ := hs u y w e1 s m
    rcases a3 with ⟨rfl, hw, m2⟩ | ⟨rfl, d, rr, s3, hw, b1, b2, m2⟩
    · obtain ⟨s', c1, c2⟩ := comp_S hs ys w.2 acc r _ e3 (by omega) m2
      cases e4
      refine ⟨s', ?_, c2⟩
      rw [hw]
      rw [List.map_cons, compL]
      simp only [a1, a2, ev_ok, Bool.false_eq_true, if_false, c1]
    · obtain ⟨s', c1, c2⟩ := comp_S hs ys w.2 (acc ++ [ee d]) r _ e3 (by rw [List.length_append, List.length_singleton]; omega) m2
      cases e4
      refine ⟨s', ?_, c2⟩
      rw [hw]
      rw [List.map_cons, compL]
      simp only [a1, a2, ev_ok, if_true, b1, b2]
      rw [if_pos (by omega), c1]
      simp
section
variable {p : Pt} {it : I} {ey : β → D} {ys : α → List β} {lk : α → List (Nat × D)} {q : α → Pt} {F : (α → Option γ) → Option γ} {t : Tg} {c : T} {e : O} {vs : List Nat} {ee : δ → D}
theorem x_compG {qb : α → σ → Pt} {s0 : α → σ} {G : α → σ → β → Option (Option δ × σ)} {p' : α → σ → Pt} (h : XI p it ey ys lk q F) (hv : nodupB vs = true) (h0 : ∀ x, Wk (qb x (s0 x)) (clP vs (lkP (lk x) (q x))))
    (hs : ∀ x u y w, G x u y = some w → ∀ s, Mt (qb x u) s → ∃ s1 s2 b, asg t (ey y) s = some s1 ∧ c s1 = .ok b s2 ∧ ((b = false ∧ w.1 = none ∧ Mt (qb x w.2) (clrS vs s2)) ∨ (b = true ∧ ∃ d r s3, w.1 = some d ∧ e s2 = .ok r s3 ∧ own r s3 = some (ee d) ∧ Mt (qb x w.2) (clrS vs s3))))
    (hp : ∀ x u, (p' x u).length = (qb x u).length ∧ (qb x u).length = (q x).length ∧ ∀ i d, gtP (p' x u) i = some d → gtP (q x) i = some d ∧ (i ∈ vs ∨ i ∈ (lk x).map (·.1)) ∨ gtP (qb x u) i = some d ∧ i ∉ vs ∧ i ∉ (lk x).map (·.1)) :
    X true p (oComp it t c e vs) (fun w : α × List δ × σ => eL ee w.2.1) (fun w => p' w.1 w.2.2) (fun k => F fun x => lim (ys x).length ((lcS (G x) (ys x) (s0 x)).bind fun z => k (x, z))) := fun k z e0 => by
  obtain ⟨x, e1, hx, h⟩ := h _ z e0
  unfold lim at e1
  by_cases hl : (ys x).length ≤ 1000000
  · rw [if_pos hl] at e1
    obtain ⟨w, e2, e3⟩ := Option.bind_eq_some_iff.mp e1
    refine ⟨(x, w), e3, fun s mm => ?_⟩
    obtain ⟨s1, a1, a2⟩ := h s mm
    obtain ⟨s2, b1, b2⟩ := comp_S (hs x) (ys x) (s0 x) [] w _ e2 (by simpa using hl) ((cl_own (vs := vs) (s0 := lockS (lk x) s1) (a2.lk (lk x))).wk (h0 x))
    refine ⟨.val (eL ee w.1), unlockS (ownSl vs (lockS (lk x) s1) ++ lk x) s2, ?_, ?_, .inl rfl⟩
    · unfold oComp
      rw [a1, ev_ok, if_pos (own_nodup hv), b1, ev_ok]
      rfl
    · obtain ⟨l1, l2, l3⟩ := hp x w.2
      refine ⟨by rw [unlock_len, l1, b2.len], fun i d hi => ?_⟩
      have hi2 : i < s2.length := by rw [← b2.len, ← l1]; exact gtP_lt hi
      refine unlock_get (fun d' z => ?_) hi2 ?_
      · rcases l3 i d hi with ⟨z1, z2⟩ | ⟨z1, z2, z3⟩
        · rcases List.mem_append.mp z with y | y
          · obtain ⟨y1, y2⟩ := own_mem.mp y
            by_cases c : ∃ d2, (i, d2) ∈ lk x
            · obtain ⟨d2, c⟩ := c
              have : ∀ (L : List (Nat × D)) (s : Sg), (i, d2) ∈ L → (lockS L s)[i]?.join = none := by
                intro L
                induction L with
                | nil => intro s z; cases z
                | cons a L ih =>
                  intro s z
                  rw [lockS_cons]
                  by_cases c2 : ∃ d3, (i, d3) ∈ L
                  · obtain ⟨d3, c2⟩ := c2
                    have : ∀ (L : List (Nat × D)) (s : Sg), ((s[i]?).join = none ∨ ∃ d3, (i, d3) ∈ L) → (lockS L s)[i]?.join = none := by
                      intro L
                      induction L with
                      | nil => intro s z; rcases z with z | ⟨_, z⟩; exact z; cases z
                      | cons b L ih =>
                        intro s z
                        rw [lockS_cons]
                        refine ih _ ?_
                        rw [List.getElem?_set]
                        by_cases c : b.1 = i
                        · left; rw [if_pos c]; split <;> rfl
                        · rw [if_neg c]
                          rcases z with z | ⟨d4, z⟩
                          · exact .inl z
                          · rcases List.mem_cons.mp z with z | z
                            · exact absurd (by rw [← z]) c
                            · exact .inr ⟨d4, z⟩
                    exact this L _ (.inr ⟨d3, c2⟩)
                  · rw [lock_get (fun d3 z => c2 ⟨d3, z⟩), List.getElem?_set]
                    rcases List.mem_cons.mp z with z | z
                    · have : a.1 = i := by rw [← z]
                      rw [if_pos this]; split <;> rfl
                    · exact absurd ⟨d2, z⟩ c2
              rw [this (lk x) s1 c] at y2
              cases y2
            · rw [lock_get (fun d3 z => c ⟨d3, z⟩)] at y2
              have := a2.get z1
              rw [y2] at this
              cases this; rfl
          · have := hx i d' y
            rw [z1] at this
            cases this; rfl
        · rcases List.mem_append.mp z with y | y
          · exact absurd (own_mem.mp y).1 z2
          · exact absurd (List.mem_map.mpr ⟨_, y, rfl⟩) z3
      · rcases l3 i d hi with ⟨z1, z2⟩ | ⟨z1, z2, z3⟩
        · left
          by_cases c : i ∈ (lk x).map (·.1)
          · obtain ⟨a, ha, hb⟩ := List.mem_map.mp c
            obtain ⟨a1', a2'⟩ := a
            have hb : a1' = i := hb
            subst hb
            exact ⟨a2', List.mem_append_right _ ha⟩
          · rcases z2 with z2 | z2
            · refine ⟨d, List.mem_append_left _ (own_mem.mpr ⟨z2, ?_⟩)⟩
              rw [lock_get (fun d3 z => c (List.mem_map.mpr ⟨_, z, rfl⟩))]
              exact a2.get z1
            · exact absurd z2 c
        · right; exact b2.has i d z1
  · rw [if_neg hl] at e1; cases e1
end
theorem clP_len : ∀ (vs : List Nat) (p : Pt), (clP vs p).length = p.length
  | [], _ => rfl
  | v :: vs, p => by show (stP _ _ _).length = _; rw [stP_len, clP_len vs]
theorem lkP_len : ∀ (L : List (Nat × D)) (p : Pt), (lkP L p).length = p.length
  | [], _ => rfl
  | a :: L, p => by show (lkP L (stP p a.1 none)).length = _; rw [lkP_len L, stP_len]
theorem clP_keep : ∀ {vs : List Nat} {p : Pt} {i : Nat}, i ∉ vs → gtP (clP vs p) i = gtP p i
  | [], _, _, _ => rfl
  | v :: vs, p, i, h => by
    show gtP (stP (clP vs p) v none) i = _
    rw [gtP_stP, if_neg, clP_keep fun z => h (List.mem_cons_of_mem _ z)]
    rintro ⟨z, _⟩
    exact h (by rw [z]; exact List.mem_cons_self ..)
theorem lkP_keep : ∀ {L : List (Nat × D)} {p : Pt} {i : Nat}, i ∉ L.map (·.1) → gtP (lkP L p) i = gtP p i
  | [], _, _, _ => rfl
  | a :: L, p, i, h => by
    show gtP (lkP L (stP p a.1 none)) i = _
    rw [lkP_keep (fun z => h (by rw [List.map_cons]; exact List.mem_cons_of_mem _ z)), gtP_stP, if_neg]
    rintro ⟨z, _⟩
    exact h (by rw [List.map_cons, z]; exact List.mem_cons_self ..)
section
variable {p : Pt} {it : I} {ey : β → D} {ys : α → List β} {lk : α → List (Nat × D)} {q : α → Pt} {F : (α → Option γ) → Option γ} {t : Tg} {c : T} {e : O} {vs : List Nat} {ee : δ → D}
theorem X.cvF {p : Pt} {g : O} {v : α → D} {q : α → Pt} {F F' : (α → Option γ) → Option γ} {vl : Bool} (h : X vl p g v q F) (e : F = F') : X vl p g v q F' := e ▸ h
theorem pureP {x : α} : (q x).length = (clP vs (lkP (lk x) (q x))).length ∧ (clP vs (lkP (lk x) (q x))).length = (q x).length ∧ ∀ i d, gtP (q x) i = some d → gtP (q x) i = some d ∧ (i ∈ vs ∨ i ∈ (lk x).map (·.1)) ∨ gtP (clP vs (lkP (lk x) (q x))) i = some d ∧ i ∉ vs ∧ i ∉ (lk x).map (·.1) := by
  have e : (clP vs (lkP (lk x) (q x))).length = (q x).length := by rw [clP_len, lkP_len]
  refine ⟨e.symm, e, fun i d hi => ?_⟩
  by_cases c : i ∈ vs ∨ i ∈ (lk x).map (·.1)
  · exact .inl ⟨hi, c⟩
  · have c1 : i ∉ vs := fun z => c (.inl z)
    have c2 : i ∉ (lk x).map (·.1) := fun z => c (.inr z)
    exact .inr ⟨by rw [clP_keep c1, lkP_keep c2, hi], c1, c2⟩
/-- nothing changes -/
theorem x_compP {vl : Bool} {pb : α → β → Pt} {cv : α → β → ε → Bool} {Fc : α → β → (ε → Option (Option δ × Unit)) → Option (Option δ × Unit)}
    {ev : α → β → ε → ζ → δ} {Fe : α → β → ε → (ζ → Option (Option δ × Unit)) → Option (Option δ × Unit)}
    (h : XI p it ey ys lk q F) (hv : nodupB vs = true) (hT : ∀ x y, As t (ey y) (clP vs (lkP (lk x) (q x))) (pb x y))
    (hc : ∀ x y, XT (pb x y) c (cv x y) (fun _ => pb x y) (Fc x y)) (he : ∀ x y w, X vl (pb x y) e (fun w2 => ee (ev x y w w2)) (fun _ => pb x y) (Fe x y w)) (ho : vl = true ∨ Pu ee)
    (hn : ∀ x y, Wk (clP vs (lkP (lk x) (q x))) (clP vs (pb x y))) :
    X true p (oComp it t c e vs) (fun w : α × List δ × Unit => eL ee w.2.1) (fun w => q w.1)
      (fun k => F fun x => lim (ys x).length ((lcS (fun _ y => Fc x y fun w => if cv x y w = true then Fe x y w fun w2 => some (some (ev x y w w2), ()) else some (none, ())) (ys x) ()).bind fun z => k (x, z))) :=
  x_compG (G := fun x _ y => Fc x y fun w => if cv x y w = true then Fe x y w fun w2 => some (some (ev x y w w2), ()) else some (none, ())) (qb := fun x _ => clP vs (lkP (lk x) (q x))) (s0 := fun _ => ()) (p' := fun x _ => q x) h hv (fun x => Wk.refl _) (fun x u y w e1 s m => by
    obtain ⟨s1, a1, a2⟩ := hT x y s m
    obtain ⟨w1, e2, hc⟩ := hc x y _ _ e1
    obtain ⟨s2, b1, b2⟩ := hc s1 a2
    refine ⟨s1, s2, _, a1, b1, ?_⟩
    cases hb : cv x y w1 with
    | false =>
      rw [if_neg (by simp [hb])] at e2
      cases e2
      exact .inl ⟨rfl, rfl, (b2.cl vs).wk (hn x y)⟩
    | true =>
      rw [if_pos hb] at e2
      obtain ⟨w2, e3, he⟩ := he x y w1 _ _ e2
      obtain ⟨r, s3, c1, c2, c3⟩ := he s2 b2
      cases e3
      exact .inr ⟨rfl, _, r, s3, rfl, c1, c3.own c2 (ho.imp id fun z => z _), (c2.cl vs).wk (hn x y)⟩) (fun x u => pureP)
theorem lcS_map (f : β → δ) : ∀ ys : List β, lcS (fun (_ : Unit) y => some (some (f y), ())) ys () = some (ys.map f, ())
  | [] => rfl
  | y :: ys => by
    show (lcS _ ys ()).bind _ = _
    rw [lcS_map f ys]; rfl
def mapO (f : β → Option δ) : List β → Option (List δ)
  | [] => some []
  | y :: ys => (f y).bind fun z => (mapO f ys).bind fun zs => some (z :: zs)
theorem mapO_some {f : β → Option δ} {g : β → δ} : ∀ {ys : List β}, (∀ y ∈ ys, f y = some (g y)) → mapO f ys = some (ys.map g)
  | [], _ => rfl
  | y :: ys, h => by
    rw [mapO, h y (List.mem_cons_self ..), mapO_some fun z hz => h z (List.mem_cons_of_mem _ hz)]; rfl
/-- every one, each sure to be told -/
theorem x_mapT {vl : Bool} {pb : α → β → Pt} {ev : α → β → ζ → δ} {y1 : α → β → ζ}
    (h : XI p it ey ys lk q F) (hv : nodupB vs = true) (hT : ∀ x y, As t (ey y) (clP vs (lkP (lk x) (q x))) (pb x y))
    (he : ∀ x y, X (γ := Option δ × Unit) vl (pb x y) e (fun w2 => ee (ev x y w2)) (fun _ => pb x y) (fun k => k (y1 x y))) (ho : vl = true ∨ Pu ee)
    (hn : ∀ x y, Wk (clP vs (lkP (lk x) (q x))) (clP vs (pb x y))) :
    X true p (oComp it t tYesT e vs) (fun w : α × List δ × Unit => eL ee w.2.1) (fun w => q w.1) (fun k => F fun x => lim (ys x).length (k (x, (ys x).map (fun y => ev x y (y1 x y)), ()))) := by
  refine (x_compP (cv := fun _ _ (_ : Unit) => true) (ev := fun x y _ => ev x y) h hv hT (fun x y => xt_yes) (fun x y _ => he x y) ho hn).cvF (funext fun k => congrArg F (funext fun x => congrArg (lim _) ?_))
  have := lcS_map (fun y => ev x y (y1 x y)) (ys x)
  show (lcS (fun _ y => some (some (ev x y (y1 x y)), ())) (ys x) ()).bind _ = _
  rw [this]; rfl
/-- every one, each perhaps told -/
theorem x_mapP {vl : Bool} {pb : α → β → Pt} {ev : α → β → ζ → δ} {Fe : α → β → (ζ → Option (Option δ × Unit)) → Option (Option δ × Unit)}
    (h : XI p it ey ys lk q F) (hv : nodupB vs = true) (hT : ∀ x y, As t (ey y) (clP vs (lkP (lk x) (q x))) (pb x y))
    (he : ∀ x y, X vl (pb x y) e (fun w2 => ee (ev x y w2)) (fun _ => pb x y) (Fe x y)) (ho : vl = true ∨ Pu ee) (Ge : α → β → Option δ)
    (hn : ∀ x y, Wk (clP vs (lkP (lk x) (q x))) (clP vs (pb x y))) (hg : ∀ x y z, Ge x y = some z → Fe x y (fun w2 => some (some (ev x y w2), ())) = some (some z, ())) :
    X true p (oComp it t tYesT e vs) (fun w : α × List δ × Unit => eL ee w.2.1) (fun w => q w.1) (fun k => F fun x => lim (ys x).length ((mapO (Ge x) (ys x)).bind fun zs => k (x, zs, ()))) := by
  have key : ∀ (x : α) (l : List β), lcS (fun (_ : Unit) y => (Ge x y).bind fun z => some (some z, ())) l () = (mapO (Ge x) l).bind fun zs => some (zs, ()) := by
    intro x l
    induction l with
    | nil => rfl
    | cons y l ih =>
      show ((Ge x y).bind _).bind _ = ((Ge x y).bind _).bind _
      cases h : Ge x y with
      | none => rfl
      | some z =>
        rw [Option.bind_some, Option.bind_some, Option.bind_some, ih]
        cases h2 : mapO (Ge x) l <;> rfl
  have hh := x_compG (γ := γ) (e := e) (ee := ee) (c := tYesT) (G := fun x (_ : Unit) y => (Ge x y).bind fun z => some (some z, ())) (qb := fun x _ => clP vs (lkP (lk x) (q x))) (s0 := fun _ => ()) (p' := fun x _ => q x) h hv (fun x => Wk.refl _) (fun x u y w e1 s m => by
    obtain ⟨s1, a1, a2⟩ := hT x y s m
    obtain ⟨z, e2, e3⟩ := Option.bind_eq_some_iff.mp e1
    cases e3
    obtain ⟨w2, e4, he⟩ := he x y _ _ (hg x y z e2)
    obtain ⟨r, s3, c1, c2, c3⟩ := he s1 a2
    have e5 : ev x y w2 = z := by cases e4; rfl
    refine ⟨s1, s1, true, a1, rfl, .inr ⟨rfl, z, r, s3, rfl, c1, ?_, (c2.cl vs).wk (hn x y)⟩⟩
    rw [c3.own c2 (ho.imp id fun z => z _)]
    show some (ee (ev x y w2)) = _
    rw [e5]) (fun x u => pureP)
  refine hh.cvF (funext fun k => congrArg F (funext fun x => congrArg (lim _) ?_))
  show (lcS (fun (_ : Unit) y => (Ge x y).bind fun z => some (some z, ())) (ys x) ()).bind _ = _
  rw [key x (ys x)]
  cases mapO (Ge x) (ys x) <;> rfl
end
end
end Sim
namespace Sim
open PySem PySem.Spec L2
section
variable {α β δ : Type}
structure Eqv [DecidableEq α] (n : Nat) (e : α → D) : Prop where
  lay : ∀ x, PyData.canLay0 (e x) = true
  dep : ∀ x, PyData.depth (e x) ≤ n
  nod : ∀ x, noD (e x) = true
  eq : ∀ x y, PyData.eqv (e x) (e y) = decide (x = y)
theorem eqI : Eqv 0 eI := ⟨fun _ => rfl, fun _ => Nat.le_refl _, fun _ => rfl, fun x y => by simp [PyData.eqv]; rfl⟩
theorem eqv_all [DecidableEq α] {n : Nat} {e : α → D} (h : Eqv n e) : ∀ xs ys : List α, PyData.eqvAll (xs.map e) (ys.map e) = decide (xs = ys)
  | [], [] => by simp [PyData.eqvAll]
  | [], _ :: _ => by simp [PyData.eqvAll]
  | _ :: _, [] => by simp [PyData.eqvAll]
  | x :: xs, y :: ys => by
    rw [List.map_cons, List.map_cons, PyData.eqvAll, h.eq, eqv_all h xs ys, Bool.eq_iff_iff]
    simp
theorem lay_all {n : Nat} [DecidableEq α] {e : α → D} (h : Eqv n e) : ∀ xs : List α, PyData.canLayAll0 (xs.map e) = true ∧ PyData.depthAll (xs.map e) ≤ n ∧ noDs (xs.map e) = true
  | [] => ⟨rfl, Nat.zero_le _, rfl⟩
  | x :: xs => by
    obtain ⟨a, b, c⟩ := lay_all h xs
    refine ⟨?_, ?_, ?_⟩
    · rw [List.map_cons, PyData.canLayAll0, h.lay, a]; rfl
    · rw [List.map_cons, PyData.depthAll]; exact Nat.max_le.mpr ⟨h.dep x, b⟩
    · rw [List.map_cons, noDs, h.nod, c]; rfl
theorem eqL [DecidableEq α] {n : Nat} {e : α → D} (h : Eqv n e) : Eqv (n + 1) (eL e) :=
  ⟨fun x => by rw [eL, PyData.canLay0]; exact (lay_all h x).1, fun x => by rw [eL, PyData.depth]; have := (lay_all h x).2.1; omega, fun x => by rw [eL, noD]; exact (lay_all h x).2.2, fun x y => by rw [eL, eL, PyData.eqv, eqv_all h]⟩
theorem eqP [DecidableEq α] [DecidableEq β] {n m : Nat} {a : α → D} {b : β → D} (h : Eqv n a) (h2 : Eqv m b) : Eqv (max n m + 1) (eP a b) :=
  ⟨fun x => by simp [eP, PyData.canLay0, PyData.canLayAll0, h.lay, h2.lay], fun x => by simp [eP, PyData.depth, PyData.depthAll]; have := h.dep x.1; have := h2.dep x.2; omega, fun x => by simp [eP, noD, noDs, h.nod, h2.nod],
   fun x y => by
    obtain ⟨x1, x2⟩ := x
    obtain ⟨y1, y2⟩ := y
    rw [eP, eP, PyData.eqv, PyData.eqvAll, PyData.eqvAll, PyData.eqvAll, h.eq, h2.eq, Bool.eq_iff_iff]
    simp⟩
theorem Eqv.shp [DecidableEq α] {n : Nat} {e : α → D} (h : Eqv n e) (z : n ≤ 64) (x : α) : shp (e x) = true := by
  have := h.dep x
  simp only [Sim.shp, SeqAt.shaped, h.lay, h.nod, Bool.true_and, Bool.and_true, decide_eq_true_eq]
  omega
theorem op_eq [DecidableEq α] {n : Nat} {e : α → D} (h : Eqv n e) (z : n ≤ 64) (x y : α) : pEq [e x, e y] = some (.bool (decide (x = y))) := by
  rw [ev_eq, if_pos ⟨h.shp z x, h.shp z y⟩, h.eq]
theorem op_ne [DecidableEq α] {n : Nat} {e : α → D} (h : Eqv n e) (z : n ≤ 64) (x y : α) : pNe [e x, e y] = some (.bool (!decide (x = y))) := by
  rw [ev_ne, if_pos ⟨h.shp z x, h.shp z y⟩, h.eq]
theorem op_add (i j : Int) : pAdd [.int i, .int j] = some (.int (i + j)) := rfl
theorem op_sub' (i j : Int) : pSub [.int i, .int j] = some (.int (i - j)) := rfl
theorem op_neg (i : Int) : pNeg [.int i] = some (.int (-i)) := rfl
theorem op_lt' (i j : Int) : pLt [.int i, .int j] = some (.bool (decide (i < j))) := rfl
theorem op_le' (i j : Int) : pLe [.int i, .int j] = some (.bool (decide (i ≤ j))) := rfl
theorem op_gt' (i j : Int) : pGt [.int i, .int j] = some (.bool (decide (j < i))) := rfl
theorem op_ge' (i j : Int) : pGe [.int i, .int j] = some (.bool (decide (j ≤ i))) := rfl
theorem op_mulL {a b : Int} (h : -(2 ^ 64) < a ∧ a < 2 ^ 64) : pMul [.int a, .int b] = some (.int (a * b)) := by
  rw [ev_mul, if_pos (mulOk_l h.1 h.2)]
theorem op_mulR {a b : Int} (h : -(2 ^ 64) < b ∧ b < 2 ^ 64) : pMul [.int a, .int b] = some (.int (a * b)) := by
  rw [ev_mul, if_pos (mulOk_r h.1 h.2)]
theorem op_mulB (a : Int) (b : Bool) : pMul [.int a, .int (if b = true then 1 else 0)] = some (.int (a * (if b = true then 1 else 0))) :=
  op_mulR (by cases b <;> decide)
def mulT (a b : Int) : Option Int := if mulOk a b = true then some (a * b) else none
theorem op_mul {a b z : Int} (h : mulT a b = some z) : pMul [.int a, .int b] = some (.int z) := by
  unfold mulT at h
  split at h
  · rename_i c; cases h; rw [ev_mul, if_pos c]
  · cases h
theorem op_divC {i c : Int} (h : 0 < c ∧ c.natAbs.log2 < 9000) : pDiv [.int i, .int c] = some (.int (i / c)) := by rw [ev_div, if_pos h]
theorem op_modC {i c : Int} (h : 0 < c) : pMod [.int i, .int c] = some (.int (i % c)) := by rw [ev_mod, if_pos h]
def divT (a b : Int) : Option Int := if 0 < b ∧ b.natAbs.log2 < 9000 then some (a / b) else none
theorem op_div {a b z : Int} (h : divT a b = some z) : pDiv [.int a, .int b] = some (.int z) := by
  unfold divT at h
  split at h
  · rename_i c; cases h; rw [ev_div, if_pos c]
  · cases h
def modT (a b : Int) : Option Int := if 0 < b then some (a % b) else none
theorem op_mod' {a b z : Int} (h : modT a b = some z) : pMod [.int a, .int b] = some (.int z) := by
  unfold modT at h
  split at h
  · rename_i c; cases h; rw [ev_mod, if_pos c]
  · cases h
theorem op_powC {a b c : Int} (h : 0 ≤ b ∧ b ≤ 1000000 ∧ a.natAbs < 2 ^ 64) (e : a ^ b.toNat = c) : pPow [.int a, .int b] = some (.int c) := by rw [ev_pow, if_pos h, e]
theorem op_max2 (i j : Int) : pMax2 [.int i, .int j] = some (.int (max i j)) := rfl
theorem op_min2 (i j : Int) : pMin2 [.int i, .int j] = some (.int (min i j)) := rfl
def absT (i : Int) : Int := if i < 0 then -i else i
theorem op_abs (i : Int) : pAbs [.int i] = some (.int (absT i)) := rfl
theorem op_intB (b : Bool) : pInt [.bool b] = some (.int (if b = true then 1 else 0)) := rfl
theorem atI_map {e : α → D} {xs : List α} {i : Int} {z : α} (h : atI xs i = some z) : atI (xs.map e) i = some (e z) := by
  unfold atI at h ⊢
  obtain ⟨j, h1, h2⟩ := Option.bind_eq_some_iff.mp h
  rw [List.length_map, h1]
  show (xs.map e)[j]? = _
  rw [List.getElem?_map, h2]; rfl
theorem op_ixL {e : α → D} (p : Pu e) {xs : List α} {i : Int} {z : α} (h : atI xs i = some z) : pIx [eL e xs, .int i] = some (e z) := by
  rw [eL, ev_ixL, atI_map h, ev_puO, if_pos (p z)]
theorem op_ixZ {xs : List Int} {i z : Int} (h : atI xs i = some z) : pIx [eZ xs, .int i] = some (.int z) := by
  rw [eZ, ev_ixF, atI_map h, ev_puO, if_pos (pur_int _)]
theorem op_ixQ0 {a : α → D} {b : β → D} {c : δ → D} (p : Pu a) (x : α × β × δ) : pIx [eQ a b c x, .int 0] = some (a x.1) := by
  show puO (some (a x.1)) = _
  rw [ev_puO, if_pos (p _)]
theorem op_ixQ1 {a : α → D} {b : β → D} {c : δ → D} (p : Pu b) (x : α × β × δ) : pIx [eQ a b c x, .int 1] = some (b x.2.1) := by
  show puO (some (b x.2.1)) = _
  rw [ev_puO, if_pos (p _)]
theorem op_ixQ2 {a : α → D} {b : β → D} {c : δ → D} (p : Pu c) (x : α × β × δ) : pIx [eQ a b c x, .int 2] = some (c x.2.2) := by
  show puO (some (c x.2.2)) = _
  rw [ev_puO, if_pos (p _)]
theorem op_lenL {e : α → D} (xs : List α) : pLen [eL e xs] = some (.int (xs.length : Int)) := by rw [eL, ev_lenL, List.length_map]
theorem op_lenZ (xs : List Int) : pLen [eZ xs] = some (.int (xs.length : Int)) := by rw [eZ, ev_lenF, List.length_map]
theorem op_tupL {e : α → D} (p : Pu e) (xs : List α) : pTuple [eL e xs] = some (eT e xs) := by rw [eL, ev_tupL, if_pos (purs_pu p xs)]; rfl
theorem op_all (xs : List Bool) : pAll [eL eB xs] = some (.bool (xs.all id)) := by
  have : bools (xs.map PyData.bool) = some xs := by have := bools_map (fun b => b) xs; rw [List.map_id'] at this; exact this
  rw [eL, ev_all]
  show (bools (xs.map PyData.bool)).map _ = _
  rw [this]; rfl
def catT (xs ys : List α) : Option (List α) := if xs.length + ys.length ≤ 1000000 then some (xs ++ ys) else none
theorem op_catL {e : α → D} (p : Pu e) {xs ys z : List α} (h : catT xs ys = some z) : pAdd [eL e xs, eL e ys] = some (eL e z) := by
  unfold catT at h
  split at h
  · rename_i c; cases h; rw [eL, eL, ev_addL, if_pos ⟨by simpa using c, purs_pu p _, purs_pu p _⟩, ← List.map_append]; rfl
  · cases h
theorem cutL_map {e : α → β} (xs : List α) (l u : Option Int) : cutL (xs.map e) l u = (cutL xs l u).map e := by
  unfold cutL
  rw [List.length_map, List.map_take, List.map_drop]
theorem op_slZ (xs : List Int) (l u : Option Int) : slD (eZ xs) l u = some (eL eI (cutL xs l u)) := by
  rw [eZ, ev_slF, cutL_map]; rfl
theorem op_sortT (xs : List Int) : pSorted [eT eI xs] = some (eL eI (sortI xs)) := by
  show (intsD (xs.map PyData.int)).map _ = _
  rw [intsD_int]; rfl
def rngI (lo : Int) (n : Nat) : List Int := (List.range n).map fun i => lo + (i : Nat)
theorem rngD_I (lo : Int) (n : Nat) : rngD lo n = (rngI lo n).map eI := by unfold rngD rngI; simp
def rngO (j : Int) : Option (List Int) := if -1000000 < j ∧ j < 1000000 then some (rngI 0 j.toNat) else none
theorem it_r1 {j : Int} {z : List Int} (h : rngO j = some z) : itR1 [.int j] = some (z.map eI) := by
  unfold rngO at h
  split at h
  · rename_i c
    cases h
    show (if -1000000 < j ∧ j < 1000000 then some (rngD 0 j.toNat) else none) = _
    rw [if_pos c, rngD_I]
  · cases h
theorem it_r1C {j : Int} (h : -1000000 < j ∧ j < 1000000) : itR1 [.int j] = some ((rngI 0 j.toNat).map eI) := it_r1 (by unfold rngO; rw [if_pos h])
theorem op_lrg1 {j : Int} {z : List Int} (h : rngO j = some z) : pListRg [.int j] = some (eL eI z) := by
  unfold rngO at h
  split at h
  · rename_i c
    cases h
    show (if -1000000 < j ∧ j < 1000000 then some (PyData.list (rngD 0 j.toNat)) else none) = _
    rw [if_pos c, rngD_I]; rfl
  · cases h
theorem it_L {e : α → D} (xs : List α) : itP [eL e xs] = some (xs.map e) := rfl
theorem it_T {e : α → D} (xs : List α) : itP [eT e xs] = some (xs.map e) := rfl
def enumT : Nat → List α → List (Int × α)
  | _, [] => []
  | n, x :: xs => ((n : Int), x) :: enumT (n + 1) xs
theorem enumD_T {e : α → D} : ∀ (n : Nat) (xs : List α), enumD n (xs.map e) = (enumT n xs).map (eP eI e)
  | _, [] => rfl
  | n, x :: xs => by rw [List.map_cons, enumD, enumD_T (n + 1) xs]; rfl
theorem it_eL {e : α → D} (xs : List α) : itE [eL e xs] = some ((enumT 0 xs).map (eP eI e)) := by
  show some (enumD 0 (xs.map e)) = _
  rw [enumD_T]
def appT (xs : List α) (x : α) : Option (List α) := if xs.length < 1000000 then some (xs ++ [x]) else none
theorem mt_app' {e : α → D} {xs : List α} {x : α} {z : List α} (h : appT xs x = some z) : mApp (xs.map e) [e x] = some (z.map e, .none) := by
  unfold appT at h
  split at h
  · rename_i c; cases h; show (if (xs.map e).length < 1000000 then _ else _) = _; rw [List.length_map, if_pos c, List.map_append]; rfl
  · cases h
/-- what is taken out, what is left -/
def popT (xs : List α) (i : Int) : Option (α × List α) := if xs.length ≤ 1000000 then (ixN xs.length i).bind fun j => (xs[j]?).map fun x => (x, xs.eraseIdx j) else none
theorem erase_map {e : α → β} : ∀ (xs : List α) (j : Nat), (xs.map e).eraseIdx j = (xs.eraseIdx j).map e
  | [], _ => rfl
  | _ :: _, 0 => rfl
  | x :: xs, j + 1 => by rw [List.map_cons, List.eraseIdx_cons_succ, List.eraseIdx_cons_succ, List.map_cons, erase_map xs j]
theorem mt_pop' {e : α → D} (p : Pu e) {xs : List α} {i : Int} {z : α × List α} (h : popT xs i = some z) : mPopAt (xs.map e) [.int i] = some (z.2.map e, e z.1) := by
  unfold popT at h
  split at h
  · rename_i c
    obtain ⟨j, h1, h2⟩ := Option.bind_eq_some_iff.mp h
    obtain ⟨x, h3, h4⟩ := Option.map_eq_some_iff.mp h2
    cases h4
    have e1 : (xs.map e)[j]? = some (e x) := by rw [List.getElem?_map, h3]; rfl
    show (if purs (xs.map e) = true ∧ (xs.map e).length ≤ 1000000 then (match ixN (xs.map e).length i with
      | none => none
      | some j => (match (xs.map e)[j]? with
        | none => none
        | some d => some ((xs.map e).eraseIdx j, d))) else none) = _
    rw [if_pos ⟨purs_pu p xs, by simpa using c⟩]
    simp only [List.length_map, h1, e1, erase_map]
  · cases h
theorem op_isN {e : α → D} (h : ∀ x, isN (e x) = false) (x : Option α) : pIsN [eO e x, .none] = some (.bool x.isNone) := by
  cases x with
  | none => rfl
  | some x => show pIsN [e x, .none] = _; rw [ev_isN, h]; rfl
theorem op_notN {e : α → D} (h : ∀ x, isN (e x) = false) (x : Option α) : pNotN [eO e x, .none] = some (.bool x.isSome) := by
  cases x with
  | none => rfl
  | some x => show pNotN [e x, .none] = _; rw [ev_notN, h]; rfl
theorem tr_B (b : Bool) : truD (.bool b) = some b := rfl
end
end Sim
namespace Sim
open PySem PySem.Spec L2
end Sim
namespace Sim
open PySem PySem.Spec L2
def Sp {α : Type} (m : Option α) (Q : α → Prop) : Prop := ∃ x, m = some x ∧ Q x
section
variable {α β γ σ ρ τ δ : Type}
theorem Sp.mono {m : Option α} {P Q : α → Prop} (h : Sp m P) (i : ∀ x, P x → Q x) : Sp m Q := by
  obtain ⟨x, e, p⟩ := h
  exact ⟨x, e, i x p⟩
theorem w_some {x : α} {Q : α → Prop} (h : Q x) : Sp (some x) Q := ⟨x, rfl, h⟩
theorem w_bind {m : Option α} {k : α → Option β} {P : α → Prop} {Q : β → Prop} (h : Sp m P) (h2 : ∀ x, P x → Sp (k x) Q) : Sp (m.bind k) Q := by
  obtain ⟨x, rfl, p⟩ := h
  exact h2 x p
theorem w_let {x : α} {k : α → Option β} {Q : β → Prop} (h2 : ∀ y, y = x → Sp (k y) Q) : Sp ((some x).bind k) Q := h2 x rfl
theorem w_ite {c : Bool} {a b : Option α} {Q : α → Prop} (h1 : c = true → Sp a Q) (h2 : c = false → Sp b Q) : Sp (if c = true then a else b) Q := by
  cases c with
  | true => exact h1 rfl
  | false => exact h2 rfl
theorem w_lpN {F : σ → β → Option σ} (I : Nat → σ → Prop) {ys : List β} {s0 : σ} (h0 : I 0 s0) (hs : ∀ i s y, ys[i]? = some y → I i s → Sp (F s y) (I (i + 1))) : Sp (lpN F ys s0) (I ys.length) := by
  have key : ∀ (zs : List β) (k : Nat) (s : σ), I k s → (∀ i s y, zs[i]? = some y → I (k + i) s → Sp (F s y) (I (k + i + 1))) → Sp (lpN F zs s) (I (k + zs.length)) := by
    intro zs
    induction zs with
    | nil => intro k s h _; exact ⟨s, rfl, h⟩
    | cons y zs ih =>
      intro k s h hs
      refine w_bind (hs 0 s y rfl h) fun s1 h1 => ?_
      have := ih (k + 1) s1 h1 fun i s y hy hi => by
        have := hs (i + 1) s y (by simpa using hy) (by rw [show k + (i + 1) = k + 1 + i by omega]; exact hi)
        rw [show k + (i + 1) + 1 = k + 1 + i + 1 by omega] at this
        exact this
      rw [show k + 1 + zs.length = k + (y :: zs).length by rw [List.length_cons]; omega] at this
      exact this
  have := key ys 0 s0 h0 fun i s y hy hi => by simpa using hs i s y hy (by simpa using hi)
  simpa using this
/-- of a loop that may leave: it goes on to its end -/
def Go (P : σ → Prop) : Lf σ ρ → Prop := fun w => ∃ s, w = .go s ∧ P s
theorem w_go {x : σ} {P : σ → Prop} (h : P x) : Sp (some (Lf.go x : Lf σ ρ)) (Go P) := ⟨_, rfl, x, rfl, h⟩
theorem w_lpR {F : σ → β → Option (Lf σ ρ)} (I : Nat → σ → Prop) {ys : List β} {s0 : σ} (h0 : I 0 s0) (hs : ∀ i s y, ys[i]? = some y → I i s → Sp (F s y) (Go (I (i + 1)))) : Sp (lpR F ys s0) (Go (I ys.length)) := by
  have key : ∀ (zs : List β) (k : Nat) (s : σ), I k s → (∀ i s y, zs[i]? = some y → I (k + i) s → Sp (F s y) (Go (I (k + i + 1)))) → Sp (lpR F zs s) (Go (I (k + zs.length))) := by
    intro zs
    induction zs with
    | nil => intro k s h _; exact ⟨_, rfl, s, rfl, h⟩
    | cons y zs ih =>
      intro k s h hs
      refine w_bind (hs 0 s y rfl h) fun w hw => ?_
      obtain ⟨s1, rfl, h1⟩ := hw
      have := ih (k + 1) s1 h1 fun i s y hy hi => by
        have := hs (i + 1) s y (by simpa using hy) (by rw [show k + (i + 1) = k + 1 + i by omega]; exact hi)
        rw [show k + (i + 1) + 1 = k + 1 + i + 1 by omega] at this
        exact this
      rw [show k + 1 + zs.length = k + (y :: zs).length by rw [List.length_cons]; omega] at this
      exact this
  have := key ys 0 s0 h0 fun i s y hy hi => by simpa using hs i s y hy (by simpa using hi)
  simpa using this
theorem w_on {m : Option (Lf σ ρ)} {f : σ → Option τ} {g : ρ → Option τ} {P : σ → Prop} {Q : τ → Prop} (h : Sp m (Go P)) (h2 : ∀ s, P s → Sp (f s) Q) : Sp (m.bind fun w => w.on f g) Q := by
  obtain ⟨w, rfl, s, rfl, hp⟩ := h
  exact h2 s hp
theorem mapO_eq {f : β → Option δ} {g : β → δ} {ys : List β} (h : ∀ y ∈ ys, f y = some (g y)) : mapO f ys = some (ys.map g) := mapO_some h
theorem ixN_nn {n : Nat} {i : Int} (h0 : 0 ≤ i) (h : i < n) : ixN n i = some i.toNat := by unfold ixN; rw [if_pos h0, if_pos h]
theorem atI_nn {xs : List α} {i : Int} (h0 : 0 ≤ i) (h : i < xs.length) : atI xs i = xs[i.toNat]? := by
  unfold atI; rw [ixN_nn h0 h]; rfl
theorem atI_get' {xs : List α} {i : Int} (h0 : 0 ≤ i) (h : i < xs.length) : atI xs i = some (xs[i.toNat]'(by omega)) := by
  rw [atI_nn h0 h, List.getElem?_eq_getElem]
theorem atI_D {xs : List α} {i : Int} (d : α) (h0 : 0 ≤ i) (h : i < xs.length) : atI xs i = some (xs.getD i.toNat d) := by
  rw [atI_nn h0 h, List.getD_eq_getElem?_getD, List.getElem?_eq_getElem (by omega)]; rfl
theorem w_atI {xs : List α} {i : Int} (h0 : 0 ≤ i) (h : i < xs.length) : Sp (atI xs i) (fun x => x ∈ xs) := by
  rw [atI_get' h0 h]; exact w_some (List.getElem_mem _)
theorem atI_lastne {xs : List α} (h : xs ≠ []) : atI xs (-1) = some (xs.getLast h) := by
  have e := List.dropLast_concat_getLast h
  have z := L2.atI_last xs.dropLast (xs.getLast h)
  rw [e] at z; exact z
theorem setT_nn {xs : List α} {i : Int} {v : α} (h0 : 0 ≤ i) (h : i < xs.length) : setT xs i v = some (xs.set i.toNat v) := by unfold setT; rw [ixN_nn h0 h]; rfl
theorem appT_of {xs : List α} {x : α} (h : xs.length < 1000000) : appT xs x = some (xs ++ [x]) := if_pos h
theorem catT_of {xs ys : List α} (h : xs.length + ys.length ≤ 1000000) : catT xs ys = some (xs ++ ys) := if_pos h
theorem rngO_of {j : Int} (h : -1000000 < j ∧ j < 1000000) : rngO j = some (rngI 0 j.toNat) := if_pos h
theorem modT_of {a b : Int} (h : 0 < b) : modT a b = some (a % b) := if_pos h
theorem divT_of {a b : Int} (h : 0 < b) (h2 : b < 1000000000000000000000000) : divT a b = some (a / b) := by
  refine if_pos ⟨h, Nat.lt_of_lt_of_le (log2_lt (k := 80) (by omega) (by decide)) (by decide)⟩
theorem mulT_l {a b : Int} (h : -(2 ^ 64) < a) (h2 : a < 2 ^ 64) : mulT a b = some (a * b) := by unfold mulT; rw [if_pos (mulOk_l h h2)]
theorem mulT_r {a b : Int} (h : -(2 ^ 64) < b) (h2 : b < 2 ^ 64) : mulT a b = some (a * b) := by unfold mulT; rw [if_pos (mulOk_r h h2)]
theorem popT_of {xs : List α} {i : Int} (hl : xs.length ≤ 1000000) (h0 : 0 ≤ i) (h : i < xs.length) : popT xs i = some (xs[i.toNat]'(by omega), xs.eraseIdx i.toNat) := by
  unfold popT
  rw [if_pos hl, ixN_nn h0 h]
  show (xs[i.toNat]?).map _ = _
  rw [List.getElem?_eq_getElem (by omega)]; rfl
@[simp] theorem at0 (a : α) (l : List α) : atI (a :: l) 0 = some a := by
  rw [atI_nn (by decide) (by rw [List.length_cons]; omega)]; rfl
@[simp] theorem at1 (a b : α) (l : List α) : atI (a :: b :: l) 1 = some b := by
  rw [atI_nn (by decide) (by simp only [List.length_cons]; omega)]; rfl
@[simp] theorem at2 (a b c : α) (l : List α) : atI (a :: b :: c :: l) 2 = some c := by
  rw [atI_nn (by decide) (by simp only [List.length_cons]; omega)]; rfl
@[simp] theorem set0 (a v : α) (l : List α) : setT (a :: l) 0 v = some (v :: l) := by
  rw [setT_nn (by decide) (by rw [List.length_cons]; omega)]; rfl
@[simp] theorem set1 (a b v : α) (l : List α) : setT (a :: b :: l) 1 v = some (a :: v :: l) := by
  rw [setT_nn (by decide) (by simp only [List.length_cons]; omega)]; rfl
@[simp] theorem set2 (a b c v : α) (l : List α) : setT (a :: b :: c :: l) 2 v = some (a :: b :: v :: l) := by
  rw [setT_nn (by decide) (by simp only [List.length_cons]; omega)]; rfl
theorem rngI_len (lo : Int) (n : Nat) : (rngI lo n).length = n := by unfold rngI; simp
theorem rngI_get {lo : Int} {n i : Nat} {y : Int} (h : (rngI lo n)[i]? = some y) : y = lo + i ∧ i < n := by
  unfold rngI at h
  rw [List.getElem?_map] at h
  obtain ⟨j, h1, h2⟩ := Option.map_eq_some_iff.mp h
  obtain ⟨h3, h4⟩ := List.getElem?_eq_some_iff.mp h1
  rw [List.getElem_range] at h4
  subst h4
  exact ⟨h2.symm, by simpa using h3⟩
theorem rngI_mem {lo : Int} {n : Nat} {y : Int} (h : y ∈ rngI lo n) : lo ≤ y ∧ y < lo + n := by
  unfold rngI at h
  obtain ⟨j, h1, h2⟩ := List.mem_map.mp h
  have := List.mem_range.mp h1
  omega
theorem rngI_succ (lo : Int) (n : Nat) : rngI lo (n + 1) = lo :: rngI (lo + 1) n := by
  unfold rngI
  rw [List.range_succ_eq_map, List.map_cons, List.map_map]
  refine congr (congrArg _ (by simp)) (List.map_congr_left fun i _ => ?_)
  simp only [Function.comp]
  omega
theorem cutL_all (xs : List α) {k : Nat} (h : xs.length ≤ k) : cutL xs none (some (k : Int)) = xs := by
  rw [cutL_to xs k, List.take_of_length_le h]
end
end Sim
namespace Sim
open PySem PySem.Spec L2
section
variable {α β : Type}
/-- how a kind of values is sorted -/
structure Flt (e : α → D) (f : α → List Int) : Prop where
  fl : ∀ x, flat (e x) = f x
  al : ∀ x y, alike (e x) (e y) = true
  tp : ∀ x, (match e x with | .tuple (_ :: _) => true | _ => false) = true
  dp : ∀ x, deepD (e x) ≤ 8
theorem Flt.ok {e : α → D} {f : α → List Int} (h : Flt e f) : ∀ xs : List α, okN (xs.map e) = true
  | [] => rfl
  | x :: xs => by
    rw [List.map_cons]
    simp only [okN, Bool.and_eq_true, decide_eq_true_eq, List.all_eq_true]
    refine ⟨⟨h.tp x, h.dp x⟩, fun d hd => ?_⟩
    rw [← List.map_cons] at hd
    obtain ⟨y, _, rfl⟩ := List.mem_map.mp hd
    exact h.al x y
theorem op_sortT' (xs : List Int) : pSortAny [eT eI xs] = some (eL eI (sortI xs)) := by unfold pSortAny; rw [op_sortT]
/-- a list or a tuple -/
inductive SqE (e : α → D) : (List α → D) → Prop
  | l : SqE e (eL e)
  | t : SqE e (eT e)
theorem SqE.seq {e : α → D} {g : List α → D} (h : SqE e g) (xs : List α) : seqLT (g xs) = some (xs.map e) := by cases h <;> rfl
theorem op_isiT {k : Kd} {d : D} (h : pIsi k [d] = some (.bool true)) : pIsi k [d] = some (eB true) := h
end
end Sim
namespace Sim
open PySem PySem.Spec L2
theorem lim_inv {α : Type} {n : Nat} {m : Option α} {z : α} (h : lim n m = some z) : n ≤ 1000000 ∧ m = some z := by
  unfold lim at h
  split at h
  · rename_i c; exact ⟨c, h⟩
  · cases h
theorem eqO {α : Type} [DecidableEq α] {n : Nat} {e : α → D} (h : Eqv n e) (h1 : ∀ x, PyData.eqv (e x) .none = false) (h2 : ∀ x, PyData.eqv .none (e x) = false) : Eqv n (eO e) := by
  refine ⟨fun x => ?_, fun x => ?_, fun x => ?_, fun x y => ?_⟩
  · cases x with
    | none => rfl
    | some x => exact h.lay x
  · cases x with
    | none => exact Nat.zero_le _
    | some x => exact h.dep x
  · cases x with
    | none => rfl
    | some x => exact h.nod x
  · cases x with
    | none =>
      cases y with
      | none => rfl
      | some y => exact (h2 y).trans (by simp)
    | some x =>
      cases y with
      | none => exact (h1 x).trans (by simp)
      | some y =>
        show PyData.eqv (e x) (e y) = _
        rw [h.eq, Bool.eq_iff_iff]
        simp
theorem x_get {α γ τ : Type} {vl : Bool} {p : Pt} {g : O} {e : τ → D} {o : α → Option τ} {q : α → Pt} {F : (α → Option γ) → Option γ} (h : X vl p g (fun x => eO e (o x)) q F) :
    X vl p g (fun w : α × τ => e w.2) (fun w => q w.1) (fun k => F fun x => (o x).bind fun z => k (x, z)) := fun k z e0 => by
  obtain ⟨x, e1, h⟩ := h _ z e0
  obtain ⟨y, e2, e3⟩ := Option.bind_eq_some_iff.mp e1
  refine ⟨(x, y), e3, fun s mm => ?_⟩
  obtain ⟨r, s', a1, a2, a3⟩ := h s mm
  have a3 : Rd vl (q x) r (eO e (o x)) := a3
  rw [e2] at a3
  exact ⟨r, s', a1, a2, a3⟩
theorem x_gt {α γ τ : Type} {vl : Bool} {p : Pt} {g : O} {v : α → D} {q : α → Pt} {F : (α → Option γ) → Option γ} (e : τ → D) (h : X vl p g v q F) (o : α → Option τ) (hv : ∀ x, v x = eO e (o x)) :
    X vl p g (fun w : α × τ => e w.2) (fun w => q w.1) (fun k => F fun x => (o x).bind fun z => k (x, z)) := by
  obtain rfl : v = fun x => eO e (o x) := funext hv
  exact x_get h
section
variable {α : Type}
/-- the text of ints and tuples is plain -/
theorem sok_append {a b : Str} (ha : PyData.strOk a = true) (hb : PyData.strOk b = true) : PyData.strOk (a ++ b) = true := by
  unfold PyData.strOk at *
  rw [Str.cps_append, Array.all_append, ha, hb]; rfl
theorem sok_of (s : String) : PyData.strOk (Str.ofString s) = true := by
  unfold PyData.strOk
  rw [Str.ofString_eq_toList]
  rw [Array.all_eq_true_iff_forall_mem]
  intro c hc
  rw [List.mem_toArray, List.mem_map] at hc
  obtain ⟨d, _, rfl⟩ := hc
  have := d.valid
  rw [decide_eq_true_eq]
  rcases this with h | ⟨_, h⟩
  · have : d.toNat < 0xd800 := h
    omega
  · exact h
theorem sok_join (t : Str) (ht : PyData.strOk t = true) : ∀ ss : List Str, (∀ s ∈ ss, PyData.strOk s = true) → PyData.strOk (Str.join t ss) = true
  | [], _ => by rw [Str.join]; simp [PyData.strOk, Str.empty]
  | [x], h => by rw [Str.join]; exact h x (by simp)
  | x :: y :: r, h => by
    rw [Str.join]
    · exact sok_append (sok_append (h x (by simp)) ht) (sok_join t ht (y :: r) fun s hs => h s (List.mem_cons_of_mem _ hs))
    · simp
end
end Sim
namespace Sim
open PySem PySem.Spec L2
section
variable {α β γ δ : Type}
end
end Sim
namespace Sim
open PySem PySem.Spec L2
abbrev PD := {d : D // pur d = true}
def eV (d : PD) : D := d.1
theorem puV : Pu eV := fun d => d.2
def toPD {α : Type} {e : α → D} (h : Pu e) (x : α) : PD := ⟨e x, h x⟩
def dP (o : Option D) : Option PD := o.bind fun d => if h : pur d = true then some ⟨d, h⟩ else none
theorem dP_ok {o : Option D} {z : PD} (h : dP o = some z) : o = some (eV z) := by
  obtain ⟨d, e, h⟩ := Option.bind_eq_some_iff.mp h
  split at h
  · cases h; exact e
  · cases h
def dB : Option D → Option Bool
  | some (.bool b) => some b
  | _ => none
theorem dB_ok {o : Option D} {z : Bool} (h : dB o = some z) : o = some (eB z) := by
  unfold dB at h
  split at h
  · cases h; rfl
  · cases h
def dI : Option D → Option Int
  | some (.int b) => some b
  | _ => none
theorem dI_ok {o : Option D} {z : Int} (h : dI o = some z) : o = some (eI z) := by
  unfold dI at h
  split at h
  · cases h; rfl
  · cases h
/-- a thing read as one of a known kind -/
def DnOk {τ : Type} (e : τ → D) (r : D → Option τ) : Prop := ∀ d z, r d = some z → d = e z
def rI : D → Option Int
  | .int i => some i
  | _ => none
def rU : D → Option Unit
  | .none => some ()
  | _ => none
def rV (d : D) : Option PD := if h : pur d = true then some ⟨d, h⟩ else none
def rT {τ : Type} (r : D → Option τ) : D → Option (List τ)
  | .tuple ds => mapO r ds
  | _ => none
theorem dnI : DnOk eI rI := fun d z h => by cases d <;> simp [rI] at h; rw [h]
theorem dnV : DnOk eV rV := fun d z h => by
  unfold rV at h
  split at h
  · cases h; rfl
  · cases h
theorem mapO_dn {τ : Type} {e : τ → D} {r : D → Option τ} (h : DnOk e r) : ∀ {ds : List D} {zs : List τ}, mapO r ds = some zs → ds = zs.map e
  | [], zs, e0 => by cases e0; rfl
  | d :: ds, zs, e0 => by
    rw [mapO] at e0
    obtain ⟨z, e1, e0⟩ := Option.bind_eq_some_iff.mp e0
    obtain ⟨zs', e2, e0⟩ := Option.bind_eq_some_iff.mp e0
    cases e0
    rw [List.map_cons, h d z e1, mapO_dn h e2]
theorem dnT {τ : Type} {e : τ → D} {r : D → Option τ} (h : DnOk e r) : DnOk (eT e) (rT r) := fun d z e0 => by
  unfold rT at e0
  split at e0
  · rw [mapO_dn h e0]; rfl
  · cases e0
section
variable {α γ τ : Type}
theorem x_dn {vl : Bool} {p : Pt} {g : O} {v : α → D} {q : α → Pt} {F : (α → Option γ) → Option γ} (e : τ → D) {r : D → Option τ} (hr : DnOk e r) (h : X vl p g v q F) (o : α → PD) (hv : ∀ x, v x = eV (o x)) :
    X vl p g (fun w : α × τ => e w.2) (fun w => q w.1) (fun k => F fun x => (r (o x).1).bind fun z => k (x, z)) := fun k z e0 => by
  obtain ⟨x, e1, h⟩ := h _ z e0
  obtain ⟨y, e2, e3⟩ := Option.bind_eq_some_iff.mp e1
  refine ⟨(x, y), e3, fun s mm => ?_⟩
  obtain ⟨r', s', a1, a2, a3⟩ := h s mm
  have a3 : Rd vl (q x) r' (v x) := a3
  rw [hv x, show eV (o x) = (o x).1 from rfl, hr _ _ e2] at a3
  exact ⟨r', s', a1, a2, a3⟩
end
theorem okD_pur {d : D} (h : pur d = true) : okD d = true := by
  cases d with
  | dict kvs => simpa [pur, okD] using h
  | _ => rfl
theorem op_isiD (k : Kd) (d : PD) : pIsi k [eV d] = some (eB (isK k d.1)) := by
  show (if okD d.1 = true then _ else _) = _
  rw [if_pos (okD_pur d.2)]; rfl
/-- what is walked in a thing -/
def seqV (d : PD) : Option (List PD) := (itP [d.1]).bind fun ds => mapO rV ds
theorem it_V {d : PD} {ys : List PD} (h : seqV d = some ys) : itP [eV d] = some (ys.map eV) := by
  obtain ⟨ds, e1, e2⟩ := Option.bind_eq_some_iff.mp h
  rw [show eV d = d.1 from rfl, e1, mapO_dn dnV e2]
section
variable {α γ : Type}
theorem x_slP {β δ ε : Type} {p : Pt} {g : O} {lo hi : Option O} {v : α → D} {q : α → Pt} {F : (α → Option γ) → Option γ} {vl : Bool} {l : α → β → Option Int} {F1 : α → (β → Option γ) → Option γ}
    {u : α → β → δ → Option Int} {F2 : α → β → (δ → Option γ) → Option γ} {m : α → β → δ → Option ε} {rv : α → β → δ → ε → D} (h : X vl p g v q F) (h1 : ∀ x, XPr (q x) lo (l x) (F1 x)) (h2 : ∀ x y, XPr (q x) hi (u x y) (F2 x y)) (hs : ∀ x y w z, m x y w = some z → slD (v x) (l x y) (u x y w) = some (rv x y w z)) :
    X true p (oSl g lo hi) (fun w : α × β × δ × ε => rv w.1 w.2.1 w.2.2.1 w.2.2.2) (fun w => q w.1) (fun k => F fun x => F1 x fun y => F2 x y fun w => (m x y w).bind fun z => k (x, y, w, z)) := fun k z e => by
  obtain ⟨x, e1, h⟩ := h _ z e
  obtain ⟨y, e2, h1⟩ := h1 x _ z e1
  obtain ⟨w, e3, h2⟩ := h2 x y _ z e2
  obtain ⟨w3, e5, e6⟩ := Option.bind_eq_some_iff.mp e3
  refine ⟨(x, y, w, w3), e6, fun s m => ?_⟩
  obtain ⟨r, s1, a1, a2, a3⟩ := h s m
  obtain ⟨s2, b1, b2⟩ := h1 s1 a2
  obtain ⟨s3, c1, c2⟩ := h2 s2 b2
  exact ⟨.val (rv x y w w3), s3, by rw [ev_oSl, a1, ev_ok, ev_slK1, b1, ev_ok, ev_slK2, c1, ev_ok, ev_slK3, a3.rd c2, ev_slK4, hs x y w w3 e5, ev_slK5], c2, .inl rfl⟩
end
end Sim
namespace Sim
open PySem PySem.Spec L2
mutual
def dsame : D → D → Bool
  | .none, .none => true
  | .bool a, .bool b => a == b
  | .int a, .int b => decide (a = b)
  | .str a, .str b => decide (a = b)
  | .list a, .list b => dsames a b
  | .tuple a, .tuple b => dsames a b
  | _, _ => false
def dsames : List D → List D → Bool
  | [], [] => true
  | a :: as, b :: bs => dsame a b && dsames as bs
  | _, _ => false
end
mutual
theorem of_dsame : ∀ {a b : D}, dsame a b = true → a = b
  | .none, b, h => by cases b <;> simp [dsame] at h ⊢
  | .bool a, b, h => by cases b <;> simp [dsame] at h ⊢; exact h
  | .int a, b, h => by cases b <;> simp [dsame] at h ⊢; exact h
  | .str a, b, h => by cases b <;> simp [dsame] at h ⊢; exact h
  | .list a, b, h => by
    cases b with
    | list b => rw [of_dsames (a := a) (b := b) (by simpa [dsame] using h)]
    | _ => simp [dsame] at h
  | .tuple a, b, h => by
    cases b with
    | tuple b => rw [of_dsames (a := a) (b := b) (by simpa [dsame] using h)]
    | _ => simp [dsame] at h
  | .dict a, b, h => by cases b <;> simp [dsame] at h
theorem of_dsames : ∀ {a b : List D}, dsames a b = true → a = b
  | [], [], _ => rfl
  | a :: as, b :: bs, h => by
    simp only [dsames, Bool.and_eq_true] at h
    rw [of_dsame h.1, of_dsames h.2]
  | [], _ :: _, h => by simp [dsames] at h
  | _ :: _, [], h => by simp [dsames] at h
end
mutual
theorem dsame_self : ∀ a : D, noD a = true → dsame a a = true
  | .none, _ => rfl
  | .bool a, _ => by simp [dsame]
  | .int a, _ => by simp [dsame]
  | .str a, _ => by simp [dsame]
  | .list a, h => by simp only [dsame]; exact dsames_self a (by simpa [noD] using h)
  | .tuple a, h => by simp only [dsame]; exact dsames_self a (by simpa [noD] using h)
  | .dict a, h => by simp [noD] at h
theorem dsames_self : ∀ a : List D, noDs a = true → dsames a a = true
  | [], _ => rfl
  | a :: as, h => by
    simp only [noDs, Bool.and_eq_true] at h
    simp only [dsames, dsame_self a h.1, dsames_self as h.2, Bool.and_self]
end
section
variable {β γ : Type}
end
end Sim
namespace Sim
open PySem PySem.Spec L2
section
variable {α β γ δ σ ρ : Type} {X : Cx} {p : Pt}
theorem b_raise {rest : S} {Q : γ → Fl → Sg → Prop} : B p (sSeq sNever rest) none Q := fun z e => by cases e
end
end Sim
namespace Sim
open PySem PySem.Spec L2
section
variable {α β γ δ σ ρ τ : Type} {p : Pt}
end
end Sim
namespace Sim
open PySem PySem.Spec L2
section
variable {α β γ : Type} {p : Pt}
end
end Sim
namespace Sim
open PySem PySem.Spec L2
section
variable {α β γ : Type}
section
variable [DecidableEq α]
variable {ek : α → D} {f : α → NestedKey} {e : β → D}
end
end
section
variable {α β γ δ ρ : Type} {p : Pt} {gs : AL} {q : α → Pt} {F : (α → Option γ) → Option γ} {ks : List AK} {vs : α → List D} {i : Nat}
end
section
variable {α γ κ τ : Type} {p : Pt} {e : O} {q : α → Pt} {F : (α → Option γ) → Option γ} {vl : Bool} {i : Nat} {rest : S} {Q : γ → Fl → Sg → Prop} [DecidableEq κ]
end
end Sim
namespace Sim
open PySem PySem.Spec L2
section
variable {α β γ : Type}
variable [DecidableEq α] {ek : α → D} {f : α → Key} {e : β → D}
end
section
variable {α β γ δ ρ : Type} {p : Pt} {gs : AL} {q : α → Pt} {F : (α → Option γ) → Option γ} {ks : List AK} {i : Nat}
end
section
variable {α γ κ τ : Type} {p : Pt} {e : O} {q : α → Pt} {F : (α → Option γ) → Option γ} {vl : Bool} {i : Nat} {rest : S} {Q : γ → Fl → Sg → Prop} [DecidableEq κ]
end
end Sim
namespace Sim
open PySem PySem.Spec L2
section
variable {α β γ : Type} {p : Pt} {g : O} {q : α → Pt} {F : (α → Option γ) → Option γ}
end
end Sim
namespace Sim
open PySem PySem.Spec L2
def eF {τ : Type} (e : τ → D) (xs : List τ) : D := .dict [(.none, .list (xs.map e))]
theorem puF {τ : Type} {e : τ → D} : Pu (eF e) := fun _ => pur_frz _
theorem it_F {τ : Type} {e : τ → D} (xs : List τ) : itP [eF e xs] = some (xs.map e) := rfl
theorem op_lenF {τ : Type} {e : τ → D} (xs : List τ) : pLen [eF e xs] = some (eI (xs.length : Int)) := by rw [eF, ev_lenF, List.length_map]
theorem op_ixF {τ : Type} {e : τ → D} (p : Pu e) {xs : List τ} {i : Int} {z : τ} (h : atI xs i = some z) : pIx [eF e xs, .int i] = some (e z) := by
  rw [eF, ev_ixF, atI_map h, ev_puO, if_pos (p z)]
theorem op_slF {τ : Type} {e : τ → D} (xs : List τ) (l u : Option Int) : slD (eF e xs) l u = some (eL e (cutL xs l u)) := by
  rw [eF, ev_slF, cutL_map]; rfl
section
variable {α β γ : Type} {p : Pt} {g : O} {ga : AL} {q : α → Pt} {F : (α → Option γ) → Option γ} {ks : List AK} {i : Nat}
theorem x_frzF {τ : Type} {e : τ → D} {v : α → List τ} (h : Pu e) (hx : X true p g (fun x => eL e (v x)) q F) : X true p (oFrz g) (fun x => eF e (v x)) q F := fun k z e0 => by
  obtain ⟨x, e1, hx⟩ := hx _ z e0
  refine ⟨x, e1, fun s mm => ?_⟩
  obtain ⟨r, s2, b1, b2, b3⟩ := hx s mm
  have : r = .val (eL e (v x)) := by
    rcases b3 with rfl | ⟨c, _⟩
    · rfl
    · cases c
  subst this
  refine ⟨.val (eF e (v x)), s2, ?_, b2, .inl rfl⟩
  unfold oFrz
  rw [b1, bind_ok]
  show (if purs ((v x).map e) = true then _ else _) = _
  rw [if_pos (purs_pu h _)]
  rfl
end
end Sim
namespace Sim
open PySem PySem.Spec L2
section
variable {γ : Type} {p : Pt} {i : Nat}
end
end Sim
namespace Sim
open PySem PySem.Spec L2
end Sim
namespace Sim
open PySem PySem.Spec L2
section
variable {α γ : Type} {p : Pt} {e gi : O} {q : α → Pt} {F : (α → Option γ) → Option γ} {vl : Bool} {i : Nat} {rest : S} {Q : γ → Fl → Sg → Prop} {f : Int → Int → Int}
end
end Sim
namespace Sim
open PySem PySem.Spec L2
section
variable {α β γ : Type} {p : Pt} {g h' : O} {q : α → Pt} {F : (α → Option γ) → Option γ}
end
end Sim
namespace Sim
open PySem PySem.Spec L2
section
variable {α γ : Type} {p : Pt} {g : O} {q : α → Pt} {F : (α → Option γ) → Option γ}
end
end Sim
namespace Sim
open PySem PySem.Spec L2
section
variable {α β γ : Type} {p : Pt} {g h' : O} {q : α → Pt} {F : (α → Option γ) → Option γ}
end
end Sim
namespace Sim
open PySem PySem.Spec L2
end Sim
namespace Sim
open PySem PySem.Spec L2
section
variable {α γ : Type} {p : Pt} {g : O} {q : α → Pt} {F : (α → Option γ) → Option γ}
end
end Sim
namespace Sim
open PySem PySem.Spec L2
def eC3 {α β γ : Type} (nm : Str) (ns : List Str) (a : α → D) (b : β → D) (c : γ → D) (x : α × β × γ) : D := dIT nm ns [a x.1, b x.2.1, c x.2.2]
theorem gtP_eq : ∀ (p : List (Option D)) (i : Nat), gtP p i = (p[i]?).join
  | [], i => by simp [gtP]
  | o :: p, 0 => by simp [gtP]
  | o :: p, i + 1 => by rw [gtP, gtP_eq p i, List.getElem?_cons_succ]
theorem mt_iff {p : Pt} {s : Sg} : Mt p s ↔ List.length p = s.length ∧ ∀ (i : Nat) (d : D), (p : List (Option D))[i]? = some (some d) → (s : List (Option D))[i]? = some (some d) :=
  ⟨fun h => ⟨h.len, fun i d e => h.has i d (by rw [gtP_eq, e]; rfl)⟩, fun h => ⟨h.1, fun i d e => h.2 i d (by rw [gtP_eq] at e; exact join_some e)⟩⟩
theorem Mt.sets {p s : List (Option D)} (h : Mt p s) (i : Nat) (o : Option D) : Mt (p.set i o) (s.set i o) := by
  rw [mt_iff] at h ⊢
  refine ⟨by rw [List.length_set, List.length_set, h.1], fun j d e => ?_⟩
  by_cases hj : i = j
  · subst hj
    rw [List.getElem?_set] at e ⊢
    rw [if_pos rfl] at e ⊢
    rw [h.1] at e
    exact e
  · rw [List.getElem?_set_ne hj] at e ⊢
    exact h.2 j d e
theorem Mt.dropG {p s : List (Option D)} (h : Mt p s) (g : Nat) : Mt (Sim.dropG g p) (Sim.dropG g s) := by
  rw [mt_iff] at h ⊢
  refine ⟨by rw [dropG_len, dropG_len, h.1], fun j d e => ?_⟩
  by_cases hj : j < g
  · rw [dropG_lo g p j hj] at e
    rw [dropG_lo g s j hj]
    exact h.2 j d e
  · exact absurd e (dropG_hi g p j (by omega) d)
theorem Mt.putG : ∀ {ds : List D} {g : Nat} {p s : List (Option D)}, Mt p s → Mt (Sim.putG g ds p) (Sim.putG g ds s)
  | [], _, _, _, h => h
  | d :: ds, g, p, s, h => by
    rw [Sim.putG, Sim.putG]
    exact Mt.putG (h.sets g (some d))
theorem Mt.clrG : ∀ {m g : Nat} {p s : List (Option D)}, Mt p s → Mt (Sim.clrG g m p) (Sim.clrG g m s)
  | 0, _, _, _, h => h
  | m + 1, g, p, s, h => by
    rw [Sim.clrG, Sim.clrG]
    exact Mt.clrG (h.sets g none)
theorem Mt.clS {j g m : Nat} {d : D} {p s : List (Option D)} (h : Mt p s) : Mt (Sim.clS j g m d p) (Sim.clS j g m d s) := (Mt.clrG h).sets j (some d)
theorem Mt.tolds : ∀ {m g : Nat} {p s : List (Option D)} {ds : List D}, Mt p s → Sim.tolds g m p = some ds → Sim.tolds g m s = some ds
  | 0, g, p, s, ds, h, e => e
  | m + 1, g, p, s, ds, h, e => by
    rw [Sim.tolds] at e ⊢
    split at e
    · cases e
    · rename_i d hd
      have := (mt_iff.mp h).2 g d (join_some hd)
      rw [this]
      show (match Sim.tolds (g + 1) m s with | none => none | some ds => some (d :: ds)) = _
      split at e
      · cases e
      · rename_i ds' hds
        rw [Mt.tolds h hds]
        exact e
section
variable {α β δ γ κ τ σ : Type} {p : Pt}
theorem x_open {hh : O} {nm : Str} {ns : List Str} {j g : Nat} {fds : List D} {v : α → D} {q : α → Pt} {F : (α → Option γ) → Option γ} {p1 : Pt} (d0 : D) (h0 : gtP p j = some d0) (hi : insP nm ns d0 = some fds) (hl : fds.length = ns.length) (hp : p.length = g + ns.length) (hjg : j < g)
    (hp1 : putG g fds ((dropG g p).set j none) = p1) (h : X true p1 hh v q F) (hq : ∀ x, tolds g ns.length (q x) = some fds) :
    X true p (oDropG g (oOpen nm ns j g hh)) v (fun x => clS j g ns.length (dIT nm ns fds) (q x)) F := fun k z e => by
  obtain ⟨x, e1, h⟩ := h k z e
  refine ⟨x, e1, fun s mm => ?_⟩
  have m1 : Mt p1 (putG g fds ((dropG g s).set j none)) := by
    rw [← hp1]
    exact ((mm.dropG g).sets j none).putG
  obtain ⟨r, s', a1, a2, a3⟩ := h _ m1
  rcases a3 with rfl | ⟨h1, _⟩
  · refine ⟨.val (v x), clS j g ns.length (dIT nm ns fds) s', ?_, a2.clS, .inl rfl⟩
    unfold oDropG oOpen
    have hj : ((dropG g s)[j]?).join = some d0 := by
      rw [dropG_lo g s j hjg]
      exact mm.get h0
    rw [hj]
    show (match insP nm ns d0 with | none => _ | some fds => _) = _
    rw [hi]
    have hc : (fds.length == ns.length && noneG g ns.length (dropG g s)) = true := by
      rw [hl, beq_self_eq_true, Bool.true_and]
      unfold noneG
      rw [dropG_len, ← mm.len, hp, beq_self_eq_true, Bool.true_and]
      exact dropG_none g s
    show (if (fds.length == ns.length && noneG g ns.length (dropG g s)) = true then _ else _) = _
    rw [if_pos hc, a1]
    show (match (Rf.val (v x)), tolds g ns.length s' with | .val d, some fds' => _ | _, _ => _) = _
    rw [a2.tolds (hq x)]
  · cases h1
theorem xt_open {hh : T} {nm : Str} {ns : List Str} {j g : Nat} {fds : List D} {b : α → Bool} {q : α → Pt} {F : (α → Option γ) → Option γ} {p1 : Pt} (d0 : D) (h0 : gtP p j = some d0) (hi : insP nm ns d0 = some fds) (hl : fds.length = ns.length) (hp : p.length = g + ns.length) (hjg : j < g)
    (hp1 : putG g fds ((dropG g p).set j none) = p1) (h : XT p1 hh b q F) (hq : ∀ x, tolds g ns.length (q x) = some fds) :
    XT p (tDropG g (tOpen nm ns j g hh)) b (fun x => clS j g ns.length (dIT nm ns fds) (q x)) F := fun k z e => by
  obtain ⟨x, e1, h⟩ := h k z e
  refine ⟨x, e1, fun s mm => ?_⟩
  have m1 : Mt p1 (putG g fds ((dropG g s).set j none)) := by
    rw [← hp1]
    exact ((mm.dropG g).sets j none).putG
  obtain ⟨s', a1, a2⟩ := h _ m1
  refine ⟨clS j g ns.length (dIT nm ns fds) s', ?_, a2.clS⟩
  unfold tDropG tOpen
  have hj : ((dropG g s)[j]?).join = some d0 := by
    rw [dropG_lo g s j hjg]
    exact mm.get h0
  rw [hj]
  show (match insP nm ns d0 with | none => _ | some fds => _) = _
  rw [hi]
  have hc : (fds.length == ns.length && noneG g ns.length (dropG g s)) = true := by
    rw [hl, beq_self_eq_true, Bool.true_and]
    unfold noneG
    rw [dropG_len, ← mm.len, hp, beq_self_eq_true, Bool.true_and]
    exact dropG_none g s
  show (if (fds.length == ns.length && noneG g ns.length (dropG g s)) = true then _ else _) = _
  rw [if_pos hc, a1]
  show (match tolds g ns.length s' with | some fds' => _ | none => _) = _
  rw [a2.tolds (hq x)]
theorem x_meth {vl : Bool} {nm : Str} {ns : List Str} {j : Nat} {f : Fn} {ga : AL} {fds : List D} {v : α → D} {q : α → Pt} {F : (α → Option γ) → Option γ} (d0 : D) (h0 : gtP p j = some d0) (hi : insP nm ns d0 = some fds) (h : X vl p (oCall f (aCons (oV j) ga)) v q F) : X vl p (oMeth nm ns j f ga) v q F := fun k z e => by
  obtain ⟨x, e1, h⟩ := h k z e
  refine ⟨x, e1, fun s mm => ?_⟩
  obtain ⟨r, s', a1, a2, a3⟩ := h s mm
  refine ⟨r, s', ?_, a2, a3⟩
  unfold oMeth
  rw [mm.get h0]
  show (match insP nm ns d0 with | none => _ | some fds => _) = _
  rw [hi]
  exact a1
theorem x_make {nm : Str} {fn : Fn} {gs : AL} {ks : List AK} {vs : α → List D} {q : α → Pt} {F : (α → Option γ) → Option γ} {m : α → Option β} {rv : α → β → D} (h : XA p gs ks vs q F) (hp : ∀ x, purs (vs x) = true) (hf : ∀ x z, m x = some z → ∃ as, fn (dIT nm [] [] :: vs x) = .ok .none (rv x z :: as)) :
    X true p (oMake nm fn gs) (fun w : α × β => rv w.1 w.2) (fun w => q w.1) (fun k => F fun x => (m x).bind fun z => k (x, z)) := fun k z e => by
  obtain ⟨x, e1, h⟩ := h _ z e
  obtain ⟨y, e2, e3⟩ := Option.bind_eq_some_iff.mp e1
  refine ⟨(x, y), e3, fun s mm => ?_⟩
  obtain ⟨rs, s2, b1, b2, b3⟩ := h s mm
  obtain ⟨as, ha⟩ := hf x y e2
  refine ⟨.val (rv x y), s2, ?_, b2, .inl rfl⟩
  unfold oMake
  rw [b1]
  show (match rds rs s2 with | none => _ | some ds => _) = _
  rw [b3.rds b2]
  show (if purs (vs x) = true then _ else _) = _
  rw [if_pos (hp x)]
  show (match fn (dIT nm [] [] :: vs x) with | .ok .none (d :: _) => _ | _ => _) = _
  rw [ha]
end
theorem insP_eq {nm : Str} {ns : List Str} {l : List (D × D)} (h : keysB l ns = true) : insP nm ns (.dict ((.bool false, .str nm) :: l)) = some (l.map Prod.snd) := by
  show (if (nm == nm && keysB l ns) = true then some (l.map Prod.snd) else none) = _
  rw [h, beq_self_eq_true, Bool.and_self, if_pos rfl]
theorem purs_n : purs ([] : List D) = true := rfl
theorem purs_c {d : D} {ds : List D} (h : pur d = true) (h2 : purs ds = true) : purs (d :: ds) = true := by rw [purs_cons, h, h2]; rfl
section
variable {α β γ σ : Type} {p : Pt} {e : O} {rest h : S} {i x : Nat} {pv : Option Nat} {v : α → D} {q : α → Pt} {F : (α → Option γ) → Option γ} {M : α → Option γ} {Q : γ → Fl → Sg → Prop} {vl : Bool}
theorem pvB_mt {p s : List (Option D)} (m : Mt p s) (h : pvB pv p = true) : pvB pv s = true := by
  cases pv with
  | none => rfl
  | some j =>
    unfold pvB at h ⊢
    obtain ⟨d, hd⟩ := Option.isSome_iff_exists.mp h
    simp only
    rw [m.get (by rw [gtP_eq]; exact hd)]
    rfl
theorem b_fld (h : X vl p e v q F) (c : vl = true ∨ ∀ x, pur (v x) = true) (hpv : ∀ x, pvB pv (q x) = true) (hr : ∀ x, B (stP (q x) i (some (v x))) rest (M x) Q) : B p (sSeq (sFldS pv i e) rest) (F M) Q := fun z e0 s mm => by
  obtain ⟨x, e1, h⟩ := h M z e0
  obtain ⟨r, s1, a1, a2, a3⟩ := h s mm
  obtain ⟨fl, s', h1, h2⟩ := hr x z e1 _ (a2.put i (v x))
  refine ⟨fl, s', ?_, h2⟩
  have : sFldS pv i e s = .ok .nx (s1.set i (some (v x))) := by
    unfold sFldS
    rw [a1]
    show (match own r s1 with | none => _ | some d => if pvB pv s1 = true then Res.ok Fl.nx (s1.set i (some d)) else .bad) = _
    rw [a3.own a2 (c.imp id fun c => c x)]
    show (if pvB pv s1 = true then Res.ok Fl.nx (s1.set i (some (v x))) else .bad) = _
    rw [if_pos (pvB_mt a2 (hpv x))]
  rw [ev_sSeq, this, ev_ok, ev_seqK_nx, h1]
theorem fn_tM {nm : Str} {ns : List Str} {ms : List Nat} {n : Nat} {g : S} {ds fds : List D} {p0 : Pt} {m : Option γ} {rv : γ → D} {q : γ → Pt} {fo outs : γ → List D} (hi : (ds[0]?).bind (insP nm ns) = some fds) (h1 : okM (0 :: ms) ds = true)
    (h0 : putG n fds ((ds.map some ++ List.replicate (n + ns.length - ds.length) none).set 0 none) = p0) (hb : B p0 g m (QF rv q)) (hr : ∀ z, pur (rv z) = true) (hq : ∀ z, tolds n ns.length (q z) = some (fo z))
    (h2 : ∀ z s, Mt (clS 0 n ns.length (dIT nm ns (fo z)) (q z)) s → coll (0 :: ms) ds 0 s = some (outs z)) : ∀ z, m = some z → mkFnM nm ns ms n g ds = .ok (rv z) (outs z) := fun z e => by
  obtain ⟨fl, s', a1, a2, a3⟩ := hb z e p0 (Mt.refl _)
  rw [← h0] at a1
  unfold mkFnM
  rw [hi]
  simp only []
  rw [if_pos h1, a1]
  simp only []
  rw [a3.tolds (hq z)]
  simp only []
  rw [h2 z _ a3.clS]
  rcases a2 with rfl | ⟨rfl, e2⟩
  · simp only []
    rw [if_pos (hr z)]
  · rw [e2]
end
theorem puC3 {α β γ : Type} {nm : Str} {ns : List Str} {a : α → D} {b : β → D} {c : γ → D} {x : α × β × γ} : pur (eC3 nm ns a b c x) = false := rfl
def eqSO (x y : Str) : Option Bool := if PyData.canLay0 (.str x) = true ∧ PyData.canLay0 (.str y) = true then some (decide (x = y)) else none
def neSO (x y : Str) : Option Bool := if PyData.canLay0 (.str x) = true ∧ PyData.canLay0 (.str y) = true then some (!decide (x = y)) else none
theorem shp_str {x : Str} (h : PyData.canLay0 (.str x) = true) : shp (.str x) = true := by
  simp only [Sim.shp, SeqAt.shaped, h, show noD (.str x) = true from rfl, Bool.true_and, Bool.and_true, decide_eq_true_eq]
  exact Nat.le_trans (Nat.le_of_eq (by rfl : PyData.depth (.str x) = 0)) (Nat.zero_le _)
theorem op_eqSO {x y : Str} {z : Bool} (h : eqSO x y = some z) : pEq [eS x, eS y] = some (eB z) := by
  unfold eqSO at h
  split at h
  · rename_i c
    cases h
    rw [ev_eq, if_pos ⟨shp_str c.1, shp_str c.2⟩]
    simp [PyData.eqv]
    rfl
  · cases h
theorem op_neSO {x y : Str} {z : Bool} (h : neSO x y = some z) : pNe [eS x, eS y] = some (eB z) := by
  unfold neSO at h
  split at h
  · rename_i c
    cases h
    rw [ev_ne, if_pos ⟨shp_str c.1, shp_str c.2⟩]
    simp [PyData.eqv]
    rfl
  · cases h
end Sim
namespace Sim
open PySem PySem.Spec L2
section
variable {α β : Type}
end
section
variable {α β δ γ ε ζ : Type}
variable {p : Pt} {g : O} {lo hi st : Option O} {v : α → D} {q : α → Pt} {F : (α → Option γ) → Option γ} {vl : Bool} {l : α → β → Option Int} {F1 : α → (β → Option γ) → Option γ}
  {u : α → β → δ → Option Int} {F2 : α → β → (δ → Option γ) → Option γ}
end
section
variable {α β γ δ ε τ σ : Type} {p : Pt} {t : T} {b : α → Bool} {q : α → Pt} {F : (α → Option γ) → Option γ} {h' : O}
end
end Sim
namespace Sim
open PySem PySem.Spec L2
section
variable {α : Type}
end
end Sim
namespace Sim
open PySem PySem.Spec L2
end Sim
namespace Sim
open PySem PySem.Spec L2
end Sim
namespace Sim
open PySem PySem.Spec L2
section
variable {α β : Type} [DecidableEq α] {ek : α → D} {f : α → NestedKey} {e : β → D}
end
section
variable {β γ : Type} {p : Pt} {gs : AL} {ks : List AK}
end
end Sim
namespace Sim
open PySem PySem.Spec L2
section
variable {α β γ δ σ τ ρ κ : Type}
section
variable [DecidableEq κ] {ek : κ → D} {f : κ → Key} {e : τ → D}
end
section
variable [DecidableEq κ] {ek : κ → D} {f : κ → NestedKey} {e : τ → D}
end
variable {p : Pt} {i : Nat} {d dF : D} {itm : D → Option (List D)} {ey : β → D} {ys : List β}
section
variable {g rest : S} {t : Tg} {lkf : Nat → Bool} {pb : σ → β → Pt} {Q : γ → Fl → Sg → Prop}
end
end
section
variable {α β γ κ τ : Type}
end
end Sim
namespace Sim
open PySem PySem.Spec L2
section
variable {α β γ : Type}
theorem lks_vals : ∀ ds : List D, lks (ds.map Rf.val) ds = []
  | [] => rfl
  | d :: ds => lks_vals ds
theorem lkz_vals : ∀ (ds as : List D), lkz (ds.map Rf.val) ds as = []
  | [], _ => by rw [List.map_nil]; unfold lkz; rfl
  | d :: ds, [] => by rw [List.map_cons]; unfold lkz; rfl
  | d :: ds, a :: as => by
    rw [List.map_cons]
    show lkz (ds.map Rf.val) ds as = []
    exact lkz_vals ds as
theorem b_retM {p : Pt} {rest : S} {Q : γ → Fl → Sg → Prop} {nm : Str} {ns : List Str} {g : Nat} {f : Fn} {ga : AL} {ks : List AK} {vs : α → List D} {q : α → Pt} {F : (α → Option γ) → Option γ} {fd : α → List D} {fo : α → β → List D} {m : α → Option β} {rv : α → β → D} {R : α → β → γ}
    (h : XA p ga ks vs q F) (hp : ∀ x, purs (vs x) = true) (ht : ∀ x, tolds g ns.length (q x) = some (fd x)) (hg : 0 < g) (hlen : ∀ x, (q x).length = g + ns.length)
    (hi : ∀ x z, insP nm ns (dIT nm ns (fo x z)) = some (fo x z)) (hfl : ∀ x z, (fo x z).length = ns.length)
    (hf : ∀ x z, m x = some z → ∃ as, f (dIT nm ns (fd x) :: vs x) = .ok (rv x z) (dIT nm ns (fo x z) :: as)) (hr : ∀ x z, pur (rv x z) = true)
    (hQ : ∀ x z s, Mt (putG g (fo x z) ((((clS 0 g ns.length (dIT nm ns (fd x)) (q x)).set 0 none).set 0 (some (dIT nm ns (fo x z)))).set 0 none)) s → Q (R x z) (.rt (rv x z)) s) :
    B p (sSeq (sRetM nm ns g f ga) rest) (F fun x => (m x).bind fun z => some (R x z)) Q := fun z e0 s mm => by
  obtain ⟨x, e1, h⟩ := h _ z e0
  obtain ⟨y, e2, e3⟩ := Option.bind_eq_some_iff.mp e1
  cases e3
  obtain ⟨rs, s1, a1, a2, a3⟩ := h s mm
  obtain ⟨as, hf⟩ := hf x y e2
  have hl1 : s1.length = g + ns.length := by rw [← a2.len]; exact hlen x
  have hc : ∀ i, (clrG g ns.length s1)[i]? = if g ≤ i ∧ i < g + ns.length then some none else s1[i]? := fun i => clrG_at _ _ _ _ (by omega)
  have h0 : (clS 0 g ns.length (dIT nm ns (fd x)) s1)[0]? = some (some (dIT nm ns (fd x))) := by
    unfold clS
    rw [List.getElem?_set_self (by rw [clrG_len]; omega)]
  have hp0 : pur (dIT nm ns (fd x)) = false := rfl
  have hcall : oCall f (aCons (oV 0) (aVals (vs x))) (clS 0 g ns.length (dIT nm ns (fd x)) s1) = .ok (.val (rv x y)) (((clS 0 g ns.length (dIT nm ns (fd x)) s1).set 0 none).set 0 (some (dIT nm ns (fo x y)))) := by
    have ea : aCons (oV 0) (aVals (vs x)) (clS 0 g ns.length (dIT nm ns (fd x)) s1) = .ok (.slot 0 :: (vs x).map Rf.val) (clS 0 g ns.length (dIT nm ns (fd x)) s1) := by
      unfold aCons
      rw [ev_oV, show ((clS 0 g ns.length (dIT nm ns (fd x)) s1)[0]?).join = some (dIT nm ns (fd x)) by rw [h0]; rfl, ev_oVK, ev_ok]
      rfl
    unfold oCall
    rw [ea, bind_ok]
    have er : rds (.slot 0 :: (vs x).map Rf.val) (clS 0 g ns.length (dIT nm ns (fd x)) s1) = some (dIT nm ns (fd x) :: vs x) := by
      unfold rds
      rw [show rd (.slot 0) (clS 0 g ns.length (dIT nm ns (fd x)) s1) = some (dIT nm ns (fd x)) by show ((clS 0 g ns.length (dIT nm ns (fd x)) s1)[0]?).join = _; rw [h0]; rfl, rds_vals]
    have el : lks (.slot 0 :: (vs x).map Rf.val) (dIT nm ns (fd x) :: vs x) = [(0, dIT nm ns (fd x))] := by
      show (if pur (dIT nm ns (fd x)) = true then _ else _) = _
      rw [hp0, if_neg (by decide), lks_vals]
    have ez : lkz (.slot 0 :: (vs x).map Rf.val) (dIT nm ns (fd x) :: vs x) (dIT nm ns (fo x y) :: as) = [(0, dIT nm ns (fo x y))] := by
      show (if pur (dIT nm ns (fd x)) = true then _ else _) = _
      rw [hp0, if_neg (by decide), lkz_vals]
    simp only [er, el]
    rw [if_pos (show nodupB ([(0, dIT nm ns (fd x))].map (·.1)) = true from rfl), hf]
    simp only [ez]
    rfl
  have h20 : ((((clS 0 g ns.length (dIT nm ns (fd x)) s1).set 0 none).set 0 (some (dIT nm ns (fo x y))))[0]?).join = some (dIT nm ns (fo x y)) := by
    rw [List.getElem?_set_self (by rw [List.length_set, clS, List.length_set, clrG_len]; omega)]; rfl
  have hn : noneG g ns.length (((clS 0 g ns.length (dIT nm ns (fd x)) s1).set 0 none).set 0 (some (dIT nm ns (fo x y)))) = true := by
    unfold noneG
    rw [Bool.and_eq_true]
    refine ⟨by rw [List.length_set, List.length_set, clS, List.length_set, clrG_len, hl1]; exact beq_self_eq_true _, ?_⟩
    rw [List.all_eq_true]
    intro o ho
    obtain ⟨i, hi'⟩ := List.getElem?_of_mem ho
    rw [List.getElem?_drop, List.getElem?_set_ne (by omega), List.getElem?_set_ne (by omega), clS, List.getElem?_set_ne (by omega), hc] at hi'
    by_cases c : g ≤ g + i ∧ g + i < g + ns.length
    · rw [if_pos c] at hi'
      cases hi'; rfl
    · rw [if_neg c, List.getElem?_eq_none (by omega)] at hi'
      cases hi'
  refine ⟨.rt (rv x y), putG g (fo x y) ((((clS 0 g ns.length (dIT nm ns (fd x)) s1).set 0 none).set 0 (some (dIT nm ns (fo x y)))).set 0 none), ?_, hQ x y _ (Mt.putG (((a2.clS.sets 0 none).sets 0 _).sets 0 none))⟩
  rw [ev_sSeq]
  have : sRetM nm ns g f ga s = .ok (.rt (rv x y)) (putG g (fo x y) ((((clS 0 g ns.length (dIT nm ns (fd x)) s1).set 0 none).set 0 (some (dIT nm ns (fo x y)))).set 0 none)) := by
    unfold sRetM
    rw [a1, bind_ok]
    simp only [a3.rds a2, a2.tolds (ht x)]
    rw [if_pos (hp x), hcall, bind_ok]
    simp only [h20, Option.bind_some, hi x y]
    rw [if_pos (by rw [hr x y, hfl x y, hn]; simp)]
  rw [this]; rfl
end
end Sim
namespace Sim
open PySem PySem.Spec L2
end Sim
namespace Sim
open PySem PySem.Spec L2
section
variable {α β γ δ : Type}
/-- x = y, y not read behind -/
theorem Mt.none {p : Pt} {s : Sg} (h : Mt p s) (i : Nat) : Mt (stP p i none) (s.set i none) := by
  refine ⟨by rw [stP_len, List.length_set, h.len], fun j e hj => ?_⟩
  rw [gtP_stP] at hj
  by_cases c : i = j
  · subst c
    by_cases c2 : i < p.length
    · rw [if_pos ⟨rfl, c2⟩] at hj
      cases hj
    · rw [if_neg (fun z => c2 z.2)] at hj
      exact absurd (gtP_lt hj) c2
  · rw [if_neg (fun z => c z.1)] at hj
    rw [List.getElem?_set_ne c]
    exact h.has j e hj
end
end Sim
namespace Sim
open PySem PySem.Spec L2
end Sim
namespace Sim
open PySem PySem.Spec L2
end Sim
namespace Sim
open PySem PySem.Spec L2
/-- what a statement raises (none: nothing) -/
def BZ (p : Pt) (r : Rz) (m : Option (Option Str)) (q : Pt) : Prop := ∀ z, m = some z → ∀ s, Mt p s → match z with
  | none => r s = none
  | some c => ∃ s1, r s = some (c, s1) ∧ Mt q s1
section
variable {p q : Pt} {r ra rb : Rz} {m ma mb : Option (Option Str)}
theorem BZ.cv {m' : Option (Option Str)} (h : BZ p r m q) (e : m = m') : BZ p r m' q := e ▸ h
end
end Sim
namespace Sim
open PySem PySem.Spec L2
section
variable {α β γ : Type} {p : Pt} {g : O} {gs : List O} {v : α → D} {q : α → Pt} {F : (α → Option γ) → Option γ} {vs : α → β → List D} {F2 : α → (β → Option γ) → Option γ}
end
end Sim
namespace Sim
open PySem PySem.Spec L2
section
variable {α β : Type} [DecidableEq α] {ek : α → D} {f : α → NestedKey} {e : β → D}
end
end Sim
namespace Sim
open PySem PySem.Spec L2
section
variable {α β γ δ : Type}
end
end Sim
namespace Sim
open PySem PySem.Spec L2
section
variable {α γ : Type} {p : Pt} {gs : AL} {ks : List AK} {i : Nat} {q : α → Pt} {F : (α → Option γ) → Option γ}
end
end Sim
namespace Sim
open PySem PySem.Spec L2
def joinT (a : Str) (ys : List Str) : Option Str := if (ys.map (·.length)).sum + ys.length * a.length ≤ 1000000 then some (PySem.Txt.join a ys) else none
def splitT (a b : Str) : Option (List Str) := if b.length ≠ 0 ∧ a.length + 2 ≤ 1000000 then some (PySem.Txt.split a b) else none
def startsT (a b : Str) : Bool := PySem.Txt.startswith a b
def sgnS (x : Str) : List Str := x.cps.toList.map fun c => ⟨#[c]⟩
def sgnO (x : Str) : Option (List Str) := if x.length ≤ 1000000 then some (sgnS x) else none
def intX (x : Str) : Option Int := if x.length ≤ 640 then PySem.intText? x else none
def ixS (x : Str) (i : Int) : Option Str := if x.length ≤ 1000000 then (atI x.cps.toList i).map fun c => ⟨#[c]⟩ else none
def slS (x : Str) (l u : Option Int) : Option Str := if x.length ≤ 1000000 then some (cutS x l u) else none
def inSS (a b : Str) : Bool := !(Builtin.Str.occurrences b a 0 b.length 1).isEmpty
def strI (i : Int) : Option Str := if i.natAbs.log2 < 1920 then some (toString i : String) else none
def lenS (x : Str) : Option Int := if x.length ≤ 1000000 then some (x.length : Int) else none
def catS (a b : Str) : Option Str := if a.length + b.length ≤ 1000000 then some (a ++ b) else none
theorem strsD_T : ∀ xs : List Str, strsD (xs.map eS) = some xs
  | [] => rfl
  | x :: xs => by
    show (strsD (xs.map eS)).map _ = _
    rw [strsD_T xs]; rfl
theorem op_joinL {a : Str} {ys : List Str} {z : Str} (h : joinT a ys = some z) : sJoin a (eL eS ys) = some (eS z) := by
  unfold joinT at h
  show (strsD (ys.map eS)).bind _ = _
  rw [strsD_T, Option.bind_some]
  split at h
  · rename_i c; cases h; rw [if_pos c]
  · cases h
theorem op_split {a b : Str} {z : List Str} (h : splitT a b = some z) : sSplit a (eS b) = some (eL eS z) := by
  unfold splitT at h
  split at h
  · rename_i c
    cases h
    show (if b.length ≠ 0 ∧ a.length + 2 ≤ 1000000 then _ else _) = _
    rw [if_pos c]; rfl
  · cases h
theorem op_starts {a b : Str} : sStarts a (eS b) = some (eB (startsT a b)) := rfl
theorem it_S {x : Str} {z : List Str} (h : sgnO x = some z) : itS [eS x] = some (z.map eS) := by
  unfold sgnO at h
  split at h
  · rename_i c
    cases h
    show (if x.length ≤ 1000000 then some (sgnD x) else none) = _
    rw [if_pos c]
    unfold sgnD sgnS
    rw [List.map_map]; rfl
  · cases h
theorem op_intX {x : Str} {z : Int} (h : intX x = some z) : pIntX [eS x] = some (eI z) := by
  unfold intX at h
  split at h
  · rename_i c
    show (if x.length ≤ 640 then (PySem.intText? x).map PyData.int else none) = _
    rw [if_pos c, h]; rfl
  · cases h
theorem op_ixS {x : Str} {i : Int} {z : Str} (h : ixS x i = some z) : pIx [eS x, eI i] = some (eS z) := by
  unfold ixS at h
  split at h
  · rename_i c
    obtain ⟨c', e, rfl⟩ := Option.map_eq_some_iff.mp h
    show (if x.length ≤ 1000000 then (match atI x.cps.toList i with | none => none | some c => some (PyData.str ⟨#[c]⟩)) else none) = _
    rw [if_pos c, e]
  · cases h
theorem op_slS {x : Str} {l u : Option Int} {z : Str} (h : slS x l u = some z) : slD (eS x) l u = some (eS z) := by
  unfold slS at h
  split at h
  · rename_i c
    cases h
    show (if x.length ≤ 1000000 then some (PyData.str (cutS x l u)) else none) = _
    rw [if_pos c]
  · cases h
theorem op_inSS (a b : Str) : pIn [eS a, eS b] = some (eB (inSS a b)) := rfl
theorem op_strI {i : Int} {z : Str} (h : strI i = some z) : pStrI [eI i] = some (eS z) := by
  unfold strI at h
  split at h
  · rename_i c
    cases h
    show (if i.natAbs.log2 < 1920 then some (PyData.str (toString i : String)) else none) = _
    rw [if_pos c]
  · cases h
theorem op_lenS {x : Str} {z : Int} (h : lenS x = some z) : pLen [eS x] = some (eI z) := by
  unfold lenS at h
  split at h
  · rename_i c
    cases h
    show (if x.length ≤ 1000000 then some (PyData.int x.length) else none) = _
    rw [if_pos c]
  · cases h
theorem op_catS {a b z : Str} (h : catS a b = some z) : pAdd [eS a, eS b] = some (eS z) := by
  unfold catS at h
  split at h
  · rename_i c
    cases h
    show (if a.length + b.length ≤ 1000000 then some (PyData.str (a ++ b)) else none) = _
    rw [if_pos c]
  · cases h
section
variable {α β γ : Type} {p : Pt} {g0 g1 : O} {q : α → Pt} {F : (α → Option γ) → Option γ}
/-- a method of a text -/
theorem x_ms {f : Str → D → Option D} {vl vl2 : Bool} {a : α → Str} {d : α → β → D} {q2 : α → β → Pt} {F2 : α → (β → Option γ) → Option γ} {τ : Type} {m : α → β → Option τ} {rv : α → β → τ → D}
    (h : X vl p g0 (fun x => eS (a x)) q F) (h2 : ∀ x, X vl2 (q x) g1 (d x) (q2 x) (F2 x)) (hf : ∀ x y z, m x y = some z → f (a x) (d x y) = some (rv x y z)) :
    X true p (oMS f g0 g1) (fun w : α × β × τ => rv w.1 w.2.1 w.2.2) (fun w => q2 w.1 w.2.1) (fun k => F fun x => F2 x fun y => (m x y).bind fun z => k (x, y, z)) := fun k z e => by
  obtain ⟨x, e1, h⟩ := h _ z e
  obtain ⟨y, e2, h2⟩ := h2 x _ z e1
  obtain ⟨w, e3, e4⟩ := Option.bind_eq_some_iff.mp e2
  refine ⟨(x, y, w), e4, fun s mm => ?_⟩
  obtain ⟨r, s1, a1, a2, a3⟩ := h s mm
  obtain ⟨r2, s2, b1, b2, b3⟩ := h2 s1 a2
  refine ⟨.val (rv x y w), s2, ?_, b2, .inl rfl⟩
  have h1 : rd r s1 = some (.str (a x)) := a3.rd a2
  have h3 : rd r2 s2 = some (d x y) := b3.rd b2
  unfold oMS
  rw [a1, bind_ok]
  simp only [h1]
  rw [b1, bind_ok]
  simp only [h3, hf x y w e3]
theorem x_msT {f : Str → D → Option D} {vl vl2 : Bool} {a : α → Str} {d : α → β → D} {q2 : α → β → Pt} {F2 : α → (β → Option γ) → Option γ} {rv : α → β → D}
    (h : X vl p g0 (fun x => eS (a x)) q F) (h2 : ∀ x, X vl2 (q x) g1 (d x) (q2 x) (F2 x)) (hf : ∀ x y, f (a x) (d x y) = some (rv x y)) :
    X true p (oMS f g0 g1) (fun w : α × β => rv w.1 w.2) (fun w => q2 w.1 w.2) (fun k => F fun x => F2 x fun y => k (x, y)) := fun k z e => by
  obtain ⟨x, e1, h⟩ := h _ z e
  obtain ⟨y, e2, h2⟩ := h2 x _ z e1
  refine ⟨(x, y), e2, fun s mm => ?_⟩
  obtain ⟨r, s1, a1, a2, a3⟩ := h s mm
  obtain ⟨r2, s2, b1, b2, b3⟩ := h2 s1 a2
  refine ⟨.val (rv x y), s2, ?_, b2, .inl rfl⟩
  have h1 : rd r s1 = some (.str (a x)) := a3.rd a2
  have h3 : rd r2 s2 = some (d x y) := b3.rd b2
  unfold oMS
  rw [a1, bind_ok]
  simp only [h1]
  rw [b1, bind_ok]
  simp only [h3, hf x y]
end
def sdatX : Nat → D → Bool
  | 0, _ => false
  | n + 1, .tuple ds => purs ds && decide (ds.length ≤ 1000000) && ds.all (sdatX n)
  | _ + 1, .int _ => true
  | _ + 1, .str s => shp (.str s)
  | _ + 1, _ => false
def sameX (n : Nat) (x y : D) : Option Bool := if dsame x y = true ∧ sdatX n x = true then some true else none
theorem sameX_some {n : Nat} {x y : D} (e : x = y) (h : noD x = true) (h2 : sdatX n x = true) : sameX n x y = some true := by subst e; exact if_pos ⟨dsame_self x h, h2⟩
/-- None in a tuple of numbers or None -/
def noneIn {α : Type} (xs : List (Option α)) : Bool := xs.any fun o => o.isNone
end Sim
namespace Sim
open PySem PySem.Spec L2
section
variable {α β γ : Type} {p : Pt} {g0 : O} {al : AL} {q : α → Pt} {F : (α → Option γ) → Option γ}
/-- x not in range(a, b) -/
theorem x_ninR {vl : Bool} {i : α → Int} {ks : List AK} {a b : α → β → Int} {q2 : α → β → Pt} {F2 : α → (β → Option γ) → Option γ}
    (h : X vl p g0 (fun x => eI (i x)) q F) (h2 : ∀ x, XA (q x) al ks (fun y => [eI (a x y), eI (b x y)]) (q2 x) (F2 x)) :
    X true p (oNinR g0 al) (fun w : α × β => eB (!decide (a w.1 w.2 ≤ i w.1 ∧ i w.1 < b w.1 w.2))) (fun w => q2 w.1 w.2) (fun k => F fun x => F2 x fun y => k (x, y)) := fun k z e => by
  obtain ⟨x, e1, h⟩ := h _ z e
  obtain ⟨y, e2, h2⟩ := h2 x _ z e1
  refine ⟨(x, y), e2, fun s mm => ?_⟩
  obtain ⟨r, s1, a1, a2, a3⟩ := h s mm
  obtain ⟨rs, s2, b1, b2, b3⟩ := h2 s1 a2
  refine ⟨.val (eB (!decide (a x y ≤ i x ∧ i x < b x y))), s2, ?_, b2, .inl rfl⟩
  have h1 : rd r s1 = some (.int (i x)) := a3.rd a2
  have h3 : rds rs s2 = some [.int (a x y), .int (b x y)] := b3.rds b2
  unfold oNinR
  rw [a1, bind_ok]
  simp only [h1]
  rw [b1, bind_ok]
  simp only [h3]
end
end Sim
namespace Sim
open PySem PySem.Spec L2
def topS (i : Nat) : Stmt := PySem.Challenge.pw_stairlanes_k73_nets_as_texts.main.body.getD i (.Pass ⟨0, 0, 0, 0⟩)
abbrev ns_Reading : List Str := ["lanes_read", "forks_read", "ends_read"]
theorem nd_Reading : ns_Reading.Nodup := by decide +kernel
abbrev s_numbers_text : Stmt := topS 1
theorem sc_numbers_text : FnScope ["numbers", "sign", "number"] ["numbers", "sign"] (defScope s_numbers_text) := ⟨rfl, rfl, rfl, by decide +kernel, rfl, by decide +kernel, by decide +kernel⟩
def b_numbers_text : S :=
  (sRet (lkM [0, 0]) (oMS sJoin (oV 1) (oComp (mkI itP (aCons (oV 0) aNil)) (.nm 2) tYesT (oPrim pStrI (aCons (oV 2) aNil)) [2])))
def f_numbers_text : Fn := mkFn [0, 0] 3 b_numbers_text
abbrev s_show_net : Stmt := topS 2
theorem sc_show_net : FnScope ["net", "lanes", "forks", "ends", "rows", "fork"] ["net"] (defScope s_show_net) := ⟨rfl, rfl, rfl, by decide +kernel, rfl, by decide +kernel, by decide +kernel⟩
def b_show_net : S :=
  (sSeq (sAsg (.tp [(.nm 1), (.nm 2), (.nm 3)]) (oV 0)) (sSeq (sSet 4 (o2 pAdd (oLst (aCons (o2 pAdd (oC (.str "lanes ")) (oPrim pStrI (aCons (oV 1) aNil))) aNil)) (oComp (mkI itP (aCons (oV 2) aNil)) (.nm 5) tYesT (oCall f_numbers_text (aCons (oV 5) (aCons (oC (.str " ")) aNil))) [5]))) (sRet (lkM [0]) (oMS sJoin (oC (.str "\n")) (o2 pAdd (oV 4) (oLst (aCons (o2 pAdd (oC (.str "ends ")) (oCall f_numbers_text (aCons (oV 3) (aCons (oC (.str " ")) aNil)))) aNil)))))))
def f_show_net : Fn := mkFn [0] 6 b_show_net
abbrev s_is_whole : Stmt := topS 9
theorem sc_is_whole : FnScope ["thing"] ["thing"] (defScope s_is_whole) := ⟨rfl, rfl, rfl, by decide +kernel, rfl, by decide +kernel, by decide +kernel⟩
def b_is_whole : S :=
  (sRet (lkM [0]) (oAnd (o1 (pIsi .int) (oV 0)) (oNot (o1 (pIsi .bool) (oV 0)))))
def f_is_whole : Fn := mkFn [0] 1 b_is_whole
abbrev s_is_lane : Stmt := topS 10
theorem sc_is_lane : FnScope ["thing", "lanes"] ["thing", "lanes"] (defScope s_is_lane) := ⟨rfl, rfl, rfl, by decide +kernel, rfl, by decide +kernel, by decide +kernel⟩
def b_is_lane : S :=
  (sRet (lkM [0, 0]) (oAnd (oCall f_is_whole (aCons (oV 0) aNil)) (oChain pLe pLt (oC (.int 0)) (oV 0) (oV 1))))
def f_is_lane : Fn := mkFn [0, 0] 2 b_is_lane
abbrev s_is_fork : Stmt := topS 11
theorem sc_is_fork : FnScope ["thing", "lanes", "lane"] ["thing", "lanes"] (defScope s_is_fork) := ⟨rfl, rfl, rfl, by decide +kernel, rfl, by decide +kernel, by decide +kernel⟩
def b_is_fork : S :=
  (sSeq (sIf (tOr (tNot (tstA (o1 (pIsi .tup) (oV 0)))) (tOr (tst (o2 pNe (oPrim pLen (aCons (oV 0) aNil)) (oC (.int 2)))) (tNot (tstA (oPrim pAll (aCons (oComp (mkI itP (aCons (oV 0) aNil)) (.nm 2) tYesT (oCall f_is_lane (aCons (oV 2) (aCons (oV 1) aNil))) [2]) aNil))))))
  (sRet (lkM [0, 0]) (oC (.bool false)))
  sSkip) (sRet (lkM [0, 0]) (o2 pNe (o2 pIx (oV 0) (oC (.int 0))) (o2 pIx (oV 0) (oC (.int 1))))))
def f_is_fork : Fn := mkFn [0, 0] 3 b_is_fork
abbrev s_are_ends : Stmt := topS 12
theorem sc_are_ends : FnScope ["thing", "lanes", "lane"] ["thing", "lanes"] (defScope s_are_ends) := ⟨rfl, rfl, rfl, by decide +kernel, rfl, by decide +kernel, by decide +kernel⟩
def b_are_ends : S :=
  (sSeq (sIf (tOr (tNot (tstA (o1 (pIsi .tup) (oV 0)))) (tNot (tstA (oPrim pAll (aCons (oComp (mkI itP (aCons (oV 0) aNil)) (.nm 2) tYesT (oCall f_is_lane (aCons (oV 2) (aCons (oV 1) aNil))) [2]) aNil)))))
  (sRet (lkM [0, 0]) (oC (.bool false)))
  sSkip) (sRet (lkM [0, 0]) (o2 pEq (oPrim pSortAny (aCons (oV 0) aNil)) (oPrim (pListRg) (aCons (oV 1) aNil)))))
def f_are_ends : Fn := mkFn [0, 0] 3 b_are_ends
abbrev s_size_in : Stmt := topS 16
theorem sc_size_in : FnScope ["word", "sign"] ["word"] (defScope s_size_in) := ⟨rfl, rfl, rfl, by decide +kernel, rfl, by decide +kernel, by decide +kernel⟩
def b_size_in : S :=
  (sSeq (sIf (tOr (tNot (tst (oChain pLe pLe (oC (.int 1)) (oPrim pLen (aCons (oV 0) aNil)) (oC (.int 30))))) (tNot (tstA (oPrim pAll (aCons (oComp (mkI itS (aCons (oV 0) aNil)) (.nm 1) tYesT (o2 pIn (oV 1) (oC (.str "0123456789"))) [1]) aNil)))))
  (sRet (lkM [0]) (oC .none))
  sSkip) (sSeq (sIf (tAnd (tst (o2 pEq (o2 pIx (oV 0) (oC (.int 0))) (oC (.str "0")))) (tst (o2 pNe (oV 0) (oC (.str "0")))))
  (sRet (lkM [0]) (oC .none))
  sSkip) (sRet (lkM [0]) (oPrim pIntX (aCons (oV 0) aNil)))))
def f_size_in : Fn := mkFn [0] 2 b_size_in
abbrev s_number_in : Stmt := topS 17
theorem sc_number_in : FnScope ["word", "size"] ["word"] (defScope s_number_in) := ⟨rfl, rfl, rfl, by decide +kernel, rfl, by decide +kernel, by decide +kernel⟩
def b_number_in : S :=
  (sSeq (sIf (tNot (tstA (oMS sStarts (oV 0) (oC (.str "-")))))
  (sRet (lkM [0]) (oCall f_size_in (aCons (oV 0) aNil)))
  sSkip) (sSeq (sSet 1 (oCall f_size_in (aCons (oSl (oV 0) (some (oC (.int 1))) none) aNil))) (sSeq (sIf (tOr (tst (o2 pIsN (oV 1) (oC .none))) (tst (o2 pEq (oV 1) (oC (.int 0)))))
  (sRet (lkM [0]) (oC .none))
  sSkip) (sRet (lkM [0]) (o1 pNeg (oV 1))))))
def f_number_in : Fn := mkFn [0] 2 b_number_in
abbrev s_numbers_in : Stmt := topS 18
theorem sc_numbers_in : FnScope ["words", "word"] ["words"] (defScope s_numbers_in) := ⟨rfl, rfl, rfl, by decide +kernel, rfl, by decide +kernel, by decide +kernel⟩
def b_numbers_in : S :=
  (sRet (lkM [0]) (oPrim pTuple (aCons (oComp (mkI itP (aCons (oV 0) aNil)) (.nm 1) tYesT (oCall f_number_in (aCons (oV 1) aNil)) [1]) aNil)))
def f_numbers_in : Fn := mkFn [0] 2 b_numbers_in
abbrev s_Reading__init : Stmt := inClass (topS 19) 0
theorem sc_Reading__init : FnScope ["self", "self.lanes_read", "self.forks_read", "self.ends_read"] ["self"] (defScope s_Reading__init) := ⟨rfl, rfl, rfl, by decide +kernel, rfl, by decide +kernel, by decide +kernel⟩
theorem gh_Reading__init : ((["self", "self.lanes_read", "self.forks_read", "self.ends_read"] : List Str).drop 1).all (fun x => ((defScope s_Reading__init).names.lookup x).isNone) = true := by decide +kernel
def b_Reading__init : S :=
  (sSeq (sFldS none 1 (oC (.int 0))) (sSeq (sFldS (some 1) 2 (oLst aNil)) (sFldS (some 2) 3 (oC .none))))
def f_Reading__init : Fn := mkFnM "Reading" ns_Reading [] 1 b_Reading__init
abbrev s_Reading__takes_lanes : Stmt := inClass (topS 19) 1
theorem sc_Reading__takes_lanes : FnScope ["self", "words", "self.lanes_read", "self.forks_read", "self.ends_read"] ["self", "words"] (defScope s_Reading__takes_lanes) := ⟨rfl, rfl, rfl, by decide +kernel, rfl, by decide +kernel, by decide +kernel⟩
theorem gh_Reading__takes_lanes : ((["self", "words", "self.lanes_read", "self.forks_read", "self.ends_read"] : List Str).drop 2).all (fun x => ((defScope s_Reading__takes_lanes).names.lookup x).isNone) = true := by decide +kernel
def b_Reading__takes_lanes : S :=
  (sSeq (sIf (tOr (tst (o2 pNe (oPrim pLen (aCons (oV 1) aNil)) (oC (.int 2)))) (tOr (tst (o2 pNe (o2 pIx (oV 1) (oC (.int 0))) (oC (.str "lanes")))) (tst (oNinR (oCall f_number_in (aCons (o2 pIx (oV 1) (oC (.int 1))) aNil)) (aCons (oC (.int 1)) (aCons (o2 pAdd (oC (.int 16)) (oC (.int 1))) aNil))))))
  (sRet (lkM [0, 0]) (oC (.bool false)))
  sSkip) (sSeq (sFldS none 2 (oCall f_number_in (aCons (o2 pIx (oV 1) (oC (.int 1))) aNil))) (sRet (lkM [0, 0]) (oC (.bool true)))))
def f_Reading__takes_lanes : Fn := mkFnM "Reading" ns_Reading [0] 2 b_Reading__takes_lanes
abbrev s_Reading__takes_ends : Stmt := inClass (topS 19) 2
theorem sc_Reading__takes_ends : FnScope ["self", "words", "self.lanes_read", "self.forks_read", "self.ends_read"] ["self", "words"] (defScope s_Reading__takes_ends) := ⟨rfl, rfl, rfl, by decide +kernel, rfl, by decide +kernel, by decide +kernel⟩
theorem gh_Reading__takes_ends : ((["self", "words", "self.lanes_read", "self.forks_read", "self.ends_read"] : List Str).drop 2).all (fun x => ((defScope s_Reading__takes_ends).names.lookup x).isNone) = true := by decide +kernel
def b_Reading__takes_ends : S :=
  (sSeq (sFldS (some 3) 4 (oCall f_numbers_in (aCons (oFrz (oSl (oV 1) (some (oC (.int 1))) none)) aNil))) (sRet (lkM [0, 0]) (oCall f_are_ends (aCons (oV 4) (aCons (oV 2) aNil)))))
def f_Reading__takes_ends : Fn := mkFnM "Reading" ns_Reading [0] 2 b_Reading__takes_ends
abbrev s_Reading__takes_fork : Stmt := inClass (topS 19) 3
theorem sc_Reading__takes_fork : FnScope ["self", "words", "fork", "self.lanes_read", "self.forks_read", "self.ends_read"] ["self", "words"] (defScope s_Reading__takes_fork) := ⟨rfl, rfl, rfl, by decide +kernel, rfl, by decide +kernel, by decide +kernel⟩
theorem gh_Reading__takes_fork : ((["self", "words", "fork", "self.lanes_read", "self.forks_read", "self.ends_read"] : List Str).drop 3).all (fun x => ((defScope s_Reading__takes_fork).names.lookup x).isNone) = true := by decide +kernel
def b_Reading__takes_fork : S :=
  (sSeq (sSet 2 (oCall f_numbers_in (aCons (oV 1) aNil))) (sSeq (sExpr (oMt mApp 4 (aCons (oV 2) aNil))) (sRet (lkM [0, 0]) (oAnd (oCall f_is_fork (aCons (oV 2) (aCons (oV 3) aNil))) (o2 pLe (oPrim pLen (aCons (oV 4) aNil)) (oC (.int 128)))))))
def f_Reading__takes_fork : Fn := mkFnM "Reading" ns_Reading [0] 3 b_Reading__takes_fork
abbrev s_Reading__takes : Stmt := inClass (topS 19) 4
theorem sc_Reading__takes : FnScope ["self", "at", "words", "self.lanes_read", "self.forks_read", "self.ends_read"] ["self", "at", "words"] (defScope s_Reading__takes) := ⟨rfl, rfl, rfl, by decide +kernel, rfl, by decide +kernel, by decide +kernel⟩
theorem gh_Reading__takes : ((["self", "at", "words", "self.lanes_read", "self.forks_read", "self.ends_read"] : List Str).drop 3).all (fun x => ((defScope s_Reading__takes).names.lookup x).isNone) = true := by decide +kernel
def b_Reading__takes : S :=
  (sSeq (sIf (tst (o2 pEq (oV 1) (oC (.int 0))))
  (sRetM "Reading" ns_Reading 3 f_Reading__takes_lanes (aCons (oV 2) aNil))
  sSkip) (sSeq (sIf (tst (o2 pNotN (oV 5) (oC .none)))
  (sRet (lkM [0, 0, 0]) (oC (.bool false)))
  sSkip) (sSeq (sIf (tst (o2 pEq (o2 pIx (oV 2) (oC (.int 0))) (oC (.str "ends"))))
  (sRetM "Reading" ns_Reading 3 f_Reading__takes_ends (aCons (oV 2) aNil))
  sSkip) (sRetM "Reading" ns_Reading 3 f_Reading__takes_fork (aCons (oV 2) aNil)))))
def f_Reading__takes : Fn := mkFnM "Reading" ns_Reading [0, 0] 3 b_Reading__takes
abbrev s_read_net : Stmt := topS 20
theorem sc_read_net : FnScope ["text", "rows", "reading", "at", "row", "@0", "@1", "@2"] ["text"] (defScope s_read_net) := ⟨rfl, rfl, rfl, by decide +kernel, rfl, by decide +kernel, by decide +kernel⟩
theorem gh_read_net : ((["text", "rows", "reading", "at", "row", "@0", "@1", "@2"] : List Str).drop 5).all (fun x => ((defScope s_read_net).names.lookup x).isNone) = true := by decide +kernel
def b_read_net : S :=
  (sSeq (sIf (tNot (tstA (o1 (pIsi .str) (oV 0))))
  sNever
  sSkip) (sSeq (sSet 1 (oMS sSplit (oV 0) (oC (.str "\n")))) (sSeq (sSet 2 (oMake "Reading" f_Reading__init aNil)) (sSeq (sFor (lkp [1] (lkM [0])) (mkI itE (aCons (oV 1) aNil)) (.tp [(.nm 3), (.nm 4)])
  (sIf (tNot (tstA (oMeth "Reading" ns_Reading 2 f_Reading__takes (aCons (oV 3) (aCons (oFrz (oMS sSplit (oV 4) (oC (.str " ")))) aNil)))))
  sNever
  sSkip)) (sSeq (sIf (tDropG 5 (tOpen "Reading" ns_Reading 2 5 (tst (o2 pIsN (oV 7) (oC .none)))))
  sNever
  sSkip) (sRet (lkM [0]) (oDropG 5 (oOpen "Reading" ns_Reading 2 5 (oTup (aCons (oV 5) (aCons (oPrim pTuple (aCons (oV 6) aNil)) (aCons (oV 7) aNil))))))))))))
def f_read_net : Fn := mkFn [0] 8 b_read_net
abbrev s__law_hand : Stmt := topS 22
theorem sc__law_hand : FnScope ["_law_script", "_law_state", "_law_far", "_law_cell", "_law_k", "_law_one"] ["_law_script"] (defScope s__law_hand) := ⟨rfl, rfl, rfl, by decide +kernel, rfl, by decide +kernel, by decide +kernel⟩
def b__law_hand : S :=
  (sSeq (sSet 1 (oLst (aCons (oC (.int 0)) (aCons (oC (.int 0)) (aCons (oC (.int 0)) aNil))))) (sSeq (sIf (tAnd (tst (o2 pGt (oPrim pLen (aCons (oV 0) aNil)) (oC (.int 0)))) (tst (o2 pGe (o2 pIx (oV 0) (oC (.int 0))) (o2 pPow (oC (.int 10)) (oC (.int 18))))))
  (sSeq (sSet 2 (oC (.int 1))) (sFor (lkM [0]) (mkI itP (aCons (oSl (oV 0) none (some (oC (.int 63)))) aNil)) (.nm 3)
  (sSeq (sSetIx 1 (oC (.int 0)) (o2 pAdd (o2 pIx (oV 1) (oC (.int 0))) (o2 pMul (o2 pMod (oPrim pAbs (aCons (oV 3) aNil)) (o2 pPow (oC (.int 10)) (oC (.int 60)))) (oV 2)))) (sSet 2 (o2 pMul (oV 2) (o2 pPow (oC (.int 10)) (oC (.int 60))))))))
  sSkip) (sSeq (sFor (lkM [0]) (mkI itE (aCons (oSl (oV 0) none (some (oC (.int 63)))) aNil)) (.tp [(.nm 4), (.nm 3)])
  (sSeq (sSet 5 (o2 pAdd (o2 pAdd (o2 pMod (oV 3) (oC (.int 2305843009213693951))) (o2 pMul (oC (.int 7919)) (oV 4))) (oC (.int 3)))) (sSetIx 1 (oC (.int 1)) (o2 pMod (o2 pAdd (o2 pMul (o2 pIx (oV 1) (oC (.int 1))) (oC (.int 48271))) (oV 5)) (oC (.int 2305843009213693951)))))) (sRet (lkM [0]) (oV 1)))))
def f__law_hand : Fn := mkFn [0] 6 b__law_hand
abbrev s__law_take : Stmt := topS 23
theorem sc__law_take : FnScope ["_law_state", "_law_many", "_law_digit", "_law_mixed"] ["_law_state", "_law_many"] (defScope s__law_take) := ⟨rfl, rfl, rfl, by decide +kernel, rfl, by decide +kernel, by decide +kernel⟩
def b__law_take : S :=
  (sSeq (sIf (tst (o2 pGt (o2 pIx (oV 0) (oC (.int 0))) (oC (.int 0))))
  (sSeq (sSet 2 (o2 pMod (o2 pIx (oV 0) (oC (.int 0))) (oV 1))) (sSeq (sSetIx 0 (oC (.int 0)) (o2 pDiv (o2 pIx (oV 0) (oC (.int 0))) (oV 1))) (sRet (lkM [0, 0]) (oV 2))))
  sSkip) (sSeq (sSetIx 0 (oC (.int 2)) (o2 pAdd (o2 pIx (oV 0) (oC (.int 2))) (oC (.int 1)))) (sSeq (sSet 3 (o2 pMod (o2 pMul (o2 pAdd (o2 pAdd (o2 pIx (oV 0) (oC (.int 1))) (o2 pMul (o2 pMul (oC (.int 65537)) (o2 pIx (oV 0) (oC (.int 2)))) (o2 pIx (oV 0) (oC (.int 2))))) (oC (.int 11))) (oC (.int 48271))) (oC (.int 2305843009213693921)))) (sSeq (sSet 3 (o2 pMod (o2 pMul (oV 3) (o2 pAdd (o2 pMod (oV 3) (oC (.int 1000003))) (o2 pMul (oC (.int 99991)) (o2 pIx (oV 0) (oC (.int 2)))))) (oC (.int 2305843009213693907)))) (sRet (lkM [0, 0]) (o2 pMod (o2 pAdd (o2 pDiv (oV 3) (oC (.int 97))) (o2 pDiv (oV 3) (oC (.int 1000033)))) (oV 1)))))))
def f__law_take : Fn := mkFn [0, 0] 4 b__law_take
abbrev s__law_net : Stmt := topS 24
theorem sc__law_net : FnScope ["_law_state", "_law_lanes_most", "_law_forks_most", "_law_lanes", "_law_many", "_law_forks", "_law_k", "_law_one", "_law_other", "_law_way", "_law_left", "_law_ends", "_law_shuffled"] ["_law_state", "_law_lanes_most", "_law_forks_most"] (defScope s__law_net) := ⟨rfl, rfl, rfl, by decide +kernel, rfl, by decide +kernel, by decide +kernel⟩
def b__law_net : S :=
  (sSeq (sSet 3 (oPrim pMin2 (aCons (oV 1) (aCons (o2 pIx (oLst (aCons (oC (.int 1)) (aCons (oC (.int 2)) (aCons (oC (.int 2)) (aCons (oC (.int 3)) (aCons (oC (.int 4)) (aCons (oC (.int 4)) (aCons (oC (.int 5)) (aCons (oC (.int 6)) (aCons (oC (.int 8)) (aCons (oC (.int 16)) aNil))))))))))) (oCall f__law_take (aCons (oV 0) (aCons (oC (.int 10)) aNil)))) aNil)))) (sSeq (sSet 4 (o2 pMul (oPrim pMin2 (aCons (oV 2) (aCons (o2 pIx (oLst (aCons (oC (.int 0)) (aCons (oC (.int 1)) (aCons (oC (.int 2)) (aCons (oC (.int 3)) (aCons (oC (.int 5)) (aCons (oC (.int 8)) (aCons (oC (.int 12)) (aCons (oC (.int 30)) (aCons (oC (.int 128)) aNil)))))))))) (oCall f__law_take (aCons (oV 0) (aCons (oC (.int 9)) aNil)))) aNil))) (oPrim pInt (aCons (o2 pGt (oV 3) (oC (.int 1))) aNil)))) (sSeq (sSet 5 (oLst aNil)) (sSeq (sFor (lkM [0, 0, 0]) (mkI itR1 (aCons (oV 4) aNil)) (.nm 6)
  (sSeq (sSet 7 (oCall f__law_take (aCons (oV 0) (aCons (oV 3) aNil)))) (sSeq (sSet 8 (o2 pMod (o2 pAdd (o2 pAdd (oV 7) (oC (.int 1))) (oCall f__law_take (aCons (oV 0) (aCons (oPrim pMax2 (aCons (oC (.int 1)) (aCons (o2 pSub (oV 3) (oC (.int 1))) aNil))) aNil)))) (oV 3))) (sSeq (sSet 9 (oCall f__law_take (aCons (oV 0) (aCons (oC (.int 5)) aNil)))) (sSeq (sIf (tAnd (tst (o2 pEq (oV 9) (oC (.int 0)))) (tst (o2 pNe (oV 5) (oLst aNil))))
  (sAsg (.tp [(.nm 7), (.nm 8)]) (o2 pIx (oV 5) (o1 pNeg (oC (.int 1)))))
  sSkip) (sSeq (sIf (tst (o2 pEq (oV 9) (oC (.int 1))))
  (sPar [7, 8] (aCons (o2 pMod (oV 6) (oV 3)) (aCons (o2 pMod (o2 pAdd (oV 6) (oC (.int 1))) (oV 3)) aNil)))
  sSkip) (sExpr (oMt mApp 5 (aCons (oTup (aCons (oV 7) (aCons (oV 8) aNil))) aNil))))))))) (sSeq (sPar [10, 11] (aCons (oPrim (pListRg) (aCons (oV 3) aNil)) (aCons (oLst aNil) aNil))) (sSeq (sSet 12 (o2 pEq (oCall f__law_take (aCons (oV 0) (aCons (oC (.int 2)) aNil))) (oC (.int 0)))) (sSeq (sFor (lkM [0, 0, 0]) (mkI itR1 (aCons (oV 3) aNil)) (.nm 6)
  (sExpr (oMt mApp 11 (aCons (oMt mPopAt 10 (aCons (o2 pMul (oCall f__law_take (aCons (oV 0) (aCons (oPrim pLen (aCons (oV 10) aNil)) aNil))) (oPrim pInt (aCons (oV 12) aNil))) aNil)) aNil)))) (sRet (lkM [0, 0, 0]) (oTup (aCons (oV 3) (aCons (oPrim pTuple (aCons (oV 5) aNil)) (aCons (oPrim pTuple (aCons (oV 11) aNil)) aNil))))))))))))
def f__law_net : Fn := mkFn [0, 0, 0] 13 b__law_net
abbrev s__law_net_text : Stmt := topS 25
theorem sc__law_net_text : FnScope ["_law_net_here", "_law_rows", "_law_one", "_law_other", "_law_lane"] ["_law_net_here"] (defScope s__law_net_text) := ⟨rfl, rfl, rfl, by decide +kernel, rfl, by decide +kernel, by decide +kernel⟩
def b__law_net_text : S :=
  (sSeq (sSet 1 (o2 pAdd (oLst (aCons (o2 pAdd (oC (.str "lanes ")) (oPrim pStrI (aCons (o2 pIx (oV 0) (oC (.int 0))) aNil))) aNil)) (oComp (mkI itP (aCons (o2 pIx (oV 0) (oC (.int 1))) aNil)) (.tp [(.nm 2), (.nm 3)]) tYesT (o2 pAdd (o2 pAdd (oPrim pStrI (aCons (oV 2) aNil)) (oC (.str " "))) (oPrim pStrI (aCons (oV 3) aNil))) [2, 3]))) (sRet (lkM [0]) (oMS sJoin (oC (.str "\n")) (o2 pAdd (oV 1) (oLst (aCons (oMS sJoin (oC (.str " ")) (o2 pAdd (oLst (aCons (oC (.str "ends")) aNil)) (oComp (mkI itP (aCons (o2 pIx (oV 0) (oC (.int 2))) aNil)) (.nm 4) tYesT (oPrim pStrI (aCons (oV 4) aNil)) [4]))) aNil))))))
def f__law_net_text : Fn := mkFn [0] 5 b__law_net_text
abbrev s__law_alike : Stmt := topS 26
theorem sc__law_alike : FnScope ["_law_found", "_law_due", "_law_one", "_law_other"] ["_law_found", "_law_due"] (defScope s__law_alike) := ⟨rfl, rfl, rfl, by decide +kernel, rfl, by decide +kernel, by decide +kernel⟩
def b__law_alike (n : Nat) (R : Fn) : S :=
  (sSeq (sIf (tstA (o1 (pIsi .tup) (oV 1)))
  (sSeq (sIf (tOr (tNot (tstA (o1 (pIsi .tup) (oV 0)))) (tst (o2 pNe (oPrim pLen (aCons (oV 0) aNil)) (oPrim pLen (aCons (oV 1) aNil)))))
  (sRet (lkM [0, 0]) (oC (.bool false)))
  sSkip) (sRet (lkM [0, 0]) (oPrim pAll (aCons (oComp (mkI itZ (aCons (oV 0) (aCons (oV 1) aNil))) (.tp [(.nm 2), (.nm 3)]) tYesT (oCall (R) (aCons (oV 2) (aCons (oV 3) aNil))) [2, 3]) aNil))))
  sSkip) (sSeq (sIf (tstA (o1 (pIsi .str) (oV 1)))
  (sRet (lkM [0, 0]) (oAnd (o1 (pIsi .str) (oV 0)) (o2 pEq (oV 0) (oV 1))))
  sSkip) (sRet (lkM [0, 0]) (oAnd (o1 (pIsi .int) (oV 0)) (oAnd (oNot (o1 (pIsi .bool) (oV 0))) (o2 pEq (oV 0) (oV 1)))))))
def f__law_alike : Nat → Fn
  | 0 => mkFn [0, 0] 4 sNever
  | n + 1 => mkFn [0, 0] 4 (b__law_alike n (f__law_alike n))
theorem len__law_alike : ∀ (n : Nat) (ds : List D) (r : D) (as : List D), f__law_alike n ds = .ok r as → ds.length = 2
  | 0, _, _, _, h => mkFn_len h
  | _ + 1, _, _, _, h => mkFn_len h
abbrev s_law : Stmt := topS 27
theorem sc_law : FnScope ["_law_script", "_law_state", "_law_turn", "_law_net_here", "_law_text", "_law_again"] ["_law_script"] (defScope s_law) := ⟨rfl, rfl, rfl, by decide +kernel, rfl, by decide +kernel, by decide +kernel⟩
def b_law (n : Nat) : S :=
  (sSeq (sSet 1 (oCall f__law_hand (aCons (oV 0) aNil))) (sSeq (sFor (lkM [0]) (mkI itR1 (aCons (oC (.int 6)) aNil)) (.nm 2)
  (sSeq (sSet 3 (oCall f__law_net (aCons (oV 1) (aCons (oC (.int 16)) (aCons (oC (.int 128)) aNil))))) (sSeq (sSet 4 (oCall f__law_net_text (aCons (oV 3) aNil))) (sFor (lkM [0]) (mkI itR1 (aCons (oC (.int 2)) aNil)) (.nm 5)
  (sIf (tOr (tNot (tstA (oCall (f__law_alike n) (aCons (oCall f_show_net (aCons (oV 3) aNil)) (aCons (oV 4) aNil))))) (tNot (tstA (oCall (f__law_alike n) (aCons (oCall f_read_net (aCons (oV 4) aNil)) (aCons (oV 3) aNil))))))
  (sRet (lkM [0]) (oC (.bool false)))
  sSkip))))) (sRet (lkM [0]) (oC (.bool true)))))
def f_law (n : Nat) : Fn := mkFn [0] 6 (b_law n)
theorem len_law (n : Nat) (ds : List D) (r : D) (as : List D) (h : f_law n ds = .ok r as) : ds.length = 1 := mkFn_len h
theorem zipD_self : ∀ ds : List D, zipD ds ds = ds.map fun x => .tuple [x, x]
  | [] => rfl
  | d :: ds => by rw [zipD, zipD_self ds]; rfl
theorem purs_self (ds : List D) (h : purs ds = true) : purs (ds.map fun x => PyData.tuple [x, x]) = true := by
  induction ds with
  | nil => rfl
  | cons d ds ih =>
    simp only [purs_cons, Bool.and_eq_true] at h
    rw [List.map_cons, purs_cons, ih h.2]
    simp [h.1]
theorem bools_true (ds : List D) : bools (ds.map fun _ => PyData.bool true) = some (ds.map fun _ => true) := bools_map (fun _ => true) ds
theorem purs_mem : ∀ {ds : List D} {x : D}, purs ds = true → x ∈ ds → pur x = true
  | [], _, _, h => by cases h
  | d :: ds, x, p, h => by
    simp only [purs_cons, Bool.and_eq_true] at p
    rcases List.mem_cons.mp h with rfl | h
    · exact p.1
    · exact purs_mem p.2 h
theorem sdatX_pur : ∀ (n : Nat) (d : D), sdatX n d = true → pur d = true
  | 0, _, h => by simp [sdatX] at h
  | n + 1, d, h => by
    cases d with
    | tuple ds =>
      simp only [sdatX, Bool.and_eq_true] at h
      rw [pur_tuple]
      exact h.1.1
    | int i => rfl
    | bool b => simp [sdatX] at h
    | none => simp [sdatX] at h
    | str s => rfl
    | list l => simp [sdatX] at h
    | dict l => simp [sdatX] at h
theorem same_refl : ∀ (n : Nat) (d : D), sdatX n d = true → f__law_alike n [d, d] = .ok (.bool true) [d, d]
  | 0, _, h => by simp [sdatX] at h
  | n + 1, d, h => by
    cases d with
    | int i => simp [f__law_alike, ev_mkFn, b__law_alike, List.replicate, isK, okD, isN]
    | bool i => simp [sdatX] at h
    | none => simp [sdatX] at h
    | str s =>
      have h : shp (.str s) = true := h
      simp [f__law_alike, ev_mkFn, b__law_alike, List.replicate, isK, okD, isN, pEq, h, PyData.eqv]
    | list l => simp [sdatX] at h
    | dict l => simp [sdatX] at h
    | tuple ds =>
      simp only [sdatX, Bool.and_eq_true, decide_eq_true_eq, List.all_eq_true] at h
      obtain ⟨⟨hp, hl⟩, ha⟩ := h
      have C := comp_map (t := .tp [.nm 2, .nm 3]) (c := tYesT) (e := oCall (f__law_alike n) (aCons (oV 2) (aCons (oV 3) aNil))) (vs := [2, 3]) (s := [some (.tuple ds), some (.tuple ds), none, none]) (fun x => .tuple [x, x]) (fun _ => .bool true) ds (fun x hx => by
        have e := same_refl n x (ha x hx)
        have px := sdatX_pur n x (ha x hx)
        simp [e, px]) hl
      have z := zipD_self ds
      have pz := purs_self ds hp
      simp [f__law_alike, ev_mkFn, b__law_alike, List.replicate, isK, okD, isN, hp, z, pz, C, bools_true]
theorem tok__law_alike {n : Nat} {x y : D} {z : Bool} (h : sameX n x y = some z) : f__law_alike n [x, y] = .ok (.bool z) [x, y] := by
  unfold sameX at h
  split at h
  · rename_i c
    cases h
    rw [← of_dsame c.1]
    exact same_refl n _ c.2
  · cases h
def p_numbers_text (numbers : (List Int)) (sign : Str) : Option Str :=
  lim (numbers.length) (((mapO (fun number => ((strI number)).bind fun t10 => some t10) numbers)).bind fun t12 => ((joinT sign t12)).bind fun t13 => some t13)
def p_show_net (net : (Int × (List (Int × Int)) × (List Int))) : Option Str :=
  ((strI net.1)).bind fun t5 => ((catS ("lanes " : Str) t5)).bind fun t7 => lim (net.2.1.length) (((mapO (fun fork => ((p_numbers_text  [fork.1, fork.2] (" " : Str))).bind fun t19 => some t19) net.2.1)).bind fun t21 => ((catT [t7] t21)).bind fun rows => ((p_numbers_text  net.2.2 (" " : Str))).bind fun t29 => ((catS ("ends " : Str) t29)).bind fun t31 => ((catT rows [t31])).bind fun t35 => ((joinT ("\n" : Str) t35)).bind fun t36 => some t36)
def p_is_whole (thing : PD) : Option Bool :=
  some ((isK .int (thing).1) && (!(isK .bool (thing).1)))
def p_is_lane (thing : PD) (lanes : Int) : Option Bool :=
  ((p_is_whole  thing)).bind fun t4 => ((if t4 = true then ((rI (thing).1)).bind fun t7 => some ((decide ((0 : Int) ≤ t7)) && (decide (t7 < lanes))) else some false)).bind fun t11 => some t11
def p_is_fork (thing : PD) (lanes : Int) : Option Bool :=
  ((if (!(isK .tup (thing).1)) = true then some true else ((dI (pLen [eV thing]))).bind fun t6 => ((if (!decide (t6 = (2 : Int))) = true then some true else ((seqV thing)).bind fun t11 => lim (t11.length) (((mapO (fun lane => ((p_is_lane  lane lanes)).bind fun t18 => some t18) t11)).bind fun t20 => some (!(List.all t20 id))))).bind fun t22 => some t22)).bind fun t23 => if t23 = true then some false else ((dP (pIx [eV thing, eI (0 : Int)]))).bind fun t28 => ((dP (pIx [eV thing, eI (1 : Int)]))).bind fun t32 => ((dB (pNe [eV t28, eV t32]))).bind fun t34 => some t34
def p_are_ends (thing : PD) (lanes : Int) : Option Bool :=
  ((if (!(isK .tup (thing).1)) = true then some true else ((seqV thing)).bind fun t6 => lim (t6.length) (((mapO (fun lane => ((p_is_lane  lane lanes)).bind fun t13 => some t13) t6)).bind fun t15 => some (!(List.all t15 id))))).bind fun t17 => if t17 = true then some false else (((rT rI) (thing).1)).bind fun t20 => ((rngO lanes)).bind fun t25 => some (decide ((sortI t20) = t25))
def p_size_in (word : Str) : Option (Option Int) :=
  ((lenS word)).bind fun t4 => ((if (!((decide ((1 : Int) ≤ t4)) && (decide (t4 ≤ (30 : Int))))) = true then some true else ((sgnO word)).bind fun t9 => lim (t9.length) (some (!(List.all (List.map (fun sign => (inSS sign ("0123456789" : Str))) t9) id))))).bind fun t19 => if t19 = true then some none else ((ixS word (0 : Int))).bind fun t24 => ((eqSO t24 ("0" : Str))).bind fun t27 => ((if t27 = true then ((neSO word ("0" : Str))).bind fun t31 => some t31 else some false)).bind fun t32 => if t32 = true then some none else ((intX word)).bind fun t36 => some (some t36)
def p_number_in (word : Str) : Option (Option Int) :=
  if (!(startsT word ("-" : Str))) = true then ((p_size_in  word)).bind fun t6 => some t6 else ((slS word (some (1 : Int)) none)).bind fun t11 => ((p_size_in  t11)).bind fun size => if (size.isNone || (decide (size = (some (0 : Int))))) = true then some none else (size).bind fun t23 => some (some (-t23))
def p_numbers_in (words : (List Str)) : Option (List (Option Int)) :=
  lim (words.length) (((mapO (fun word => ((p_number_in  word)).bind fun t8 => some t8) words)).bind fun t10 => some t10)
def p_Reading__init  : Option (Unit × (Int × (List (List (Option Int))) × (Option (List (Option Int))))) :=
  some ((), ((0 : Int), ([] : (List (List (Option Int)))), none))
def p_Reading__takes_lanes (me : (Int × (List (List (Option Int))) × (Option (List (Option Int))))) (words : (List Str)) : Option (Bool × (Int × (List (List (Option Int))) × (Option (List (Option Int))))) :=
  ((if (!decide ((words.length : Int) = (2 : Int))) = true then some true else ((atI words (0 : Int))).bind fun t9 => ((neSO t9 ("lanes" : Str))).bind fun t12 => ((if t12 = true then some true else ((atI words (1 : Int))).bind fun t16 => ((p_number_in  t16)).bind fun t18 => (t18).bind fun t19 => some (!decide ((1 : Int) ≤ t19 ∧ t19 < ((16 : Int) + (1 : Int)))))).bind fun t26 => some t26)).bind fun t27 => if t27 = true then some (false, (me.1, me.2.1, me.2.2)) else ((atI words (1 : Int))).bind fun t32 => ((p_number_in  t32)).bind fun t34 => (t34).bind fun t35 => some (true, (t35, me.2.1, me.2.2))
def p_Reading__takes_ends (me : (Int × (List (List (Option Int))) × (Option (List (Option Int))))) (words : (List Str)) : Option (Bool × (Int × (List (List (Option Int))) × (Option (List (Option Int))))) :=
  ((p_numbers_in  (cutL words (some (1 : Int)) none))).bind fun t8 => ((p_are_ends  (toPD (puO' (puT (puO' puI))) (some t8)) me.1)).bind fun t14 => some (t14, (me.1, me.2.1, (some t8)))
def p_Reading__takes_fork (me : (Int × (List (List (Option Int))) × (Option (List (Option Int))))) (words : (List Str)) : Option (Bool × (Int × (List (List (Option Int))) × (Option (List (Option Int))))) :=
  ((p_numbers_in  words)).bind fun fork => ((appT me.2.1 fork)).bind fun self_forks_read => ((p_is_fork  (toPD (puT (puO' puI)) fork) me.1)).bind fun t12 => some ((t12 && (decide ((self_forks_read.length : Int) ≤ (128 : Int)))), (me.1, self_forks_read, me.2.2))
def p_Reading__takes (me : (Int × (List (List (Option Int))) × (Option (List (Option Int))))) (at_ : Int) (words : (List Str)) : Option (Bool × (Int × (List (List (Option Int))) × (Option (List (Option Int))))) :=
  if (decide (at_ = (0 : Int))) = true then ((p_Reading__takes_lanes  (me.1, me.2.1, me.2.2) words)).bind fun t9 => some (t9.1, t9.2) else if me.2.2.isSome = true then some (false, (me.1, me.2.1, me.2.2)) else ((atI words (0 : Int))).bind fun t17 => ((eqSO t17 ("ends" : Str))).bind fun t20 => if t20 = true then ((p_Reading__takes_ends  (me.1, me.2.1, me.2.2) words)).bind fun t24 => some (t24.1, t24.2) else ((p_Reading__takes_fork  (me.1, me.2.1, me.2.2) words)).bind fun t28 => some (t28.1, t28.2)
def p_read_net (text : Str) : Option (Int × (List (List (Option Int))) × (Option (List (Option Int)))) :=
  if (!true) = true then none else ((splitT text ("\n" : Str))).bind fun rows => ((p_Reading__init  )).bind fun t7 => ((lpN (fun (reading : ((Int × (List (List (Option Int))) × (Option (List (Option Int)))))) (y11 : (Int × Str)) => ((splitT y11.2 (" " : Str))).bind fun t16 => ((p_Reading__takes  reading y11.1 t16)).bind fun t19 => if (!t19.1) = true then none else some t19.2) (enumT 0 rows) t7.2)).bind fun reading => if reading.2.2.isNone = true then none else some (reading.1, reading.2.1, reading.2.2)
def p__law_hand (script : (List Int)) : Option (List Int) :=
  (some [(0 : Int), (0 : Int), (0 : Int)]).bind fun state => ((if (decide ((0 : Int) < (script.length : Int))) = true then ((atI script (0 : Int))).bind fun t15 => some (decide ((1000000000000000000 : Int) ≤ t15)) else some false)).bind fun t20 => ((if t20 = true then ((lpN (fun (s28 : ((List Int) × Int)) (cell : Int) => ((atI s28.1 (0 : Int))).bind fun t33 => ((mulT ((absT cell) % (1000000000000000000000000000000000000000000000000000000000000 : Int)) s28.2)).bind fun t42 => ((setT s28.1 (0 : Int) (t33 + t42))).bind fun state => ((mulT s28.2 (1000000000000000000000000000000000000000000000000000000000000 : Int))).bind fun far => some (state, far)) (cutL script none (some (63 : Int))) (state, (1 : Int)))).bind fun s28 => some s28.1 else some state)).bind fun state => ((lpN (fun (state : ((List Int))) (y62 : (Int × Int)) => (some (((y62.2 % (2305843009213693951 : Int)) + ((7919 : Int) * y62.1)) + (3 : Int))).bind fun one => ((atI state (1 : Int))).bind fun t77 => ((setT state (1 : Int) (((t77 * (48271 : Int)) + one) % (2305843009213693951 : Int)))).bind fun state => some state) (enumT 0 (cutL script none (some (63 : Int)))) state)).bind fun state => some state
def p__law_take (state : (List Int)) (many : Int) : Option (Int × (List Int)) :=
  ((atI state (0 : Int))).bind fun t4 => if (decide ((0 : Int) < t4)) = true then ((atI state (0 : Int))).bind fun t9 => ((modT t9 many)).bind fun digit => ((atI state (0 : Int))).bind fun t15 => ((divT t15 many)).bind fun t18 => ((setT state (0 : Int) t18)).bind fun state => some (digit, state) else ((atI state (2 : Int))).bind fun t25 => ((setT state (2 : Int) (t25 + (1 : Int)))).bind fun state => ((atI state (1 : Int))).bind fun t33 => ((atI state (2 : Int))).bind fun t37 => ((atI state (2 : Int))).bind fun t41 => ((mulT ((65537 : Int) * t37) t41)).bind fun t43 => (some ((((t33 + t43) + (11 : Int)) * (48271 : Int)) % (2305843009213693921 : Int))).bind fun mixed => ((atI state (2 : Int))).bind fun t60 => ((mulT mixed ((mixed % (1000003 : Int)) + ((99991 : Int) * t60)))).bind fun t64 => (some (t64 % (2305843009213693907 : Int))).bind fun mixed => ((modT ((mixed / (97 : Int)) + (mixed / (1000033 : Int))) many)).bind fun t78 => some (t78, state)
def p__law_net (state : (List Int)) (lanes_most : Int) (forks_most : Int) : Option ((Int × (List (Int × Int)) × (List Int)) × (List Int)) :=
  ((p__law_take  state (10 : Int))).bind fun t18 => ((atI [(1 : Int), (2 : Int), (2 : Int), (3 : Int), (4 : Int), (4 : Int), (5 : Int), (6 : Int), (8 : Int), (16 : Int)] t18.1)).bind fun t20 => (some (min lanes_most t20)).bind fun lanes => ((p__law_take  t18.2 (9 : Int))).bind fun t38 => ((atI [(0 : Int), (1 : Int), (2 : Int), (3 : Int), (5 : Int), (8 : Int), (12 : Int), (30 : Int), (128 : Int)] t38.1)).bind fun t40 => (some ((min forks_most t40) * (if (decide ((1 : Int) < lanes)) = true then 1 else 0))).bind fun many => (some ([] : (List (Int × Int)))).bind fun forks => ((rngO many)).bind fun t55 => ((lpN (fun (s57 : ((List Int) × (List (Int × Int)))) (k : Int) => ((p__law_take  s57.1 lanes)).bind fun t62 => ((p__law_take  t62.2 (max (1 : Int) (lanes - (1 : Int))))).bind fun t72 => ((modT ((t62.1 + (1 : Int)) + t72.1) lanes)).bind fun other => ((p__law_take  t72.2 (5 : Int))).bind fun t79 => ((if ((decide (t79.1 = (0 : Int))) && (!decide (s57.2 = ([] : (List (Int × Int)))))) = true then ((atI s57.2 (-(1 : Int)))).bind fun t89 => some (t89.1, t89.2) else some (t62.1, other))).bind fun t92 => ((if (decide (t79.1 = (1 : Int))) = true then ((modT k lanes)).bind fun t98 => ((modT (k + (1 : Int)) lanes)).bind fun t104 => some (t98, t104) else some (t92.1, t92.2))).bind fun t108 => ((appT s57.2 (t108.1, t108.2))).bind fun forks => some (t79.2, forks)) t55 (t38.2, forks))).bind fun s57 => ((rngO lanes)).bind fun t116 => ((p__law_take  s57.1 (2 : Int))).bind fun t122 => (some (decide (t122.1 = (0 : Int)))).bind fun shuffled => ((rngO lanes)).bind fun t129 => ((lpN (fun (s131 : ((List Int) × (List Int) × (List Int))) (k : Int) => ((p__law_take  s131.1 (s131.2.1.length : Int))).bind fun t136 => ((popT s131.2.1 (t136.1 * (if shuffled = true then 1 else 0)))).bind fun t141 => ((appT s131.2.2 t141.1)).bind fun ends => some (t136.2, t141.2, ends)) t129 (t122.2, t116, ([] : (List Int))))).bind fun s131 => some ((lanes, s57.2, s131.2.2), s131.1)
def p__law_net_text (net_here : (Int × (List (Int × Int)) × (List Int))) : Option Str :=
  ((strI net_here.1)).bind fun t6 => ((catS ("lanes " : Str) t6)).bind fun t8 => lim (net_here.2.1.length) (((mapO (fun y => ((strI y.1)).bind fun t20 => ((catS t20 (" " : Str))).bind fun t23 => ((strI y.2)).bind fun t26 => ((catS t23 t26)).bind fun t28 => some t28) net_here.2.1)).bind fun t30 => ((catT [t8] t30)).bind fun rows => lim (net_here.2.2.length) (((mapO (fun lane => ((strI lane)).bind fun t47 => some t47) net_here.2.2)).bind fun t49 => ((catT [("ends" : Str)] t49)).bind fun t51 => ((joinT (" " : Str) t51)).bind fun t52 => ((catT rows [t52])).bind fun t56 => ((joinT ("\n" : Str) t56)).bind fun t57 => some t57))
def p_law (n : Nat) (script : (List Int)) : Option Bool :=
  ((p__law_hand  script)).bind fun state => (((lpR (fun (state : ((List Int))) (turn : Int) => ((p__law_net  state (16 : Int) (128 : Int))).bind fun t13 => ((p__law_net_text  t13.1)).bind fun text => (((lpR (fun (s20 : Unit) (again : Int) => ((p_show_net  t13.1)).bind fun t25 => ((sameX n (eS t25) (eS text))).bind fun t28 => ((if (!t28) = true then some true else ((p_read_net  text)).bind fun t31 => ((sameX n ((eQ eI (eT (eT (eO eI))) (eO (eT (eO eI)))) t31) ((eQ eI (eT (eP eI eI)) (eT eI)) t13.1))).bind fun t34 => some (!t34))).bind fun t35 => if t35 = true then some (Lf.ret false) else some (.go ())) (rngI 0 (Int.toNat 2)) ()).bind fun w => w.on (fun s20 => some (.go t13.2)) (fun z => some (Lf.ret z))))) (rngI 0 (Int.toNat 6)) state).bind fun w => w.on (fun state => some true) (fun z => some (z))))
theorem tok_numbers_text (a0 : (List Int)) (a1 : Str) : ∀ z, p_numbers_text a0 a1 = some z → f_numbers_text [(eT eI) a0, eS a1] = .ok (eS z) [(eT eI) a0, eS a1] :=
  fn_t (p0 := [some ((eT eI) a0), some (eS a1), none]) (m := p_numbers_text a0 a1) (rv := fun (z : Str) => eS z) (q := fun (z : Str) => [some ((eT eI) a0), some (eS a1), none]) (outs := fun z => [(eT eI) a0, eS a1]) (B.cv (b_last (b_ret (x_ms (f := sJoin) (rv := fun _ _ => eS) (x_var (d := eS a1) 1 rfl) (fun x3 => (x_mapP (ee := eS) (xi_mk (xa_p (x_var (d := (eT eI) a0) 0 rfl) (fun _ => (puT puI) _) (fun x4 => xa_nil)) rfl puI (fun _ => it_T _)) rfl (fun x5 x6 => as_nm) (fun x5 x6 => (x_prim (xa_p (x_var (d := eI x6) 2 rfl) (fun _ => puI _) (fun x9 => xa_nil)) (fun _ _ h => op_strI h))) (.inl rfl) (fun x5 x6 => ((strI x6)).bind fun t10 => some t10) (fun _ _ => by repeat (first | exact wk_nil | apply wk_a | apply wk_s)) (by intro x y z h; simp only [] at h ⊢; repeat (first | (obtain ⟨hl, h⟩ := lim_inv h; simp only [lim_of hl]) | (obtain ⟨_, h1, h⟩ := Option.bind_eq_some_iff.mp h; simp only [h1, Option.bind_some] at h ⊢) | (cases h; rfl))))) (fun _ _ _ h => op_joinL h)) (fun x14 => x14.2.2) (.inl rfl) (fun x14 => qf_ret rfl (by repeat (first | exact wk_nil | apply wk_a | apply wk_s))))) (by dsimp only [p_numbers_text])) rfl (by simp [okM]) (fun z => (coll_0P rfl (coll_0P rfl coll_nilP)))
theorem tok_show_net (a0 : (Int × (List (Int × Int)) × (List Int))) : ∀ z, p_show_net a0 = some z → f_show_net [(eQ eI (eT (eP eI eI)) (eT eI)) a0] = .ok (eS z) [(eQ eI (eT (eP eI eI)) (eT eI)) a0] :=
  fn_t (p0 := [some ((eQ eI (eT (eP eI eI)) (eT eI)) a0), none, none, none, none, none]) (m := p_show_net a0) (rv := fun (z : Str) => eS z) (q := fun (z : Str) => [some ((eQ eI (eT (eP eI eI)) (eT eI)) a0), none, none, none, none, none]) (outs := fun z => [(eQ eI (eT (eP eI eI)) (eT eI)) a0]) (B.cv (b_asg (x_var (d := (eQ eI (eT (eP eI eI)) (eT eI)) a0) 0 rfl) (.inr (fun _ => (puQ puI (puT (puP puI puI)) (puT puI)) _)) (fun _ => (as_tp (ass_cons as_nm (ass_cons as_nm (ass_cons as_nm ass_nil))))) (fun x2 => (b_set (x_prim (xa_v (X.as (x_lst (xa_v (x_prim (xa_v (x_c (eS "lanes ")) (fun x3 => (xa_v (x_prim (xa_p (x_var (d := eI a0.1) 1 rfl) (fun _ => puI _) (fun x4 => xa_nil)) (fun _ _ h => op_strI h)) (fun x6 => xa_nil)))) (fun _ _ h => op_catS h)) (fun x8 => xa_nil)) rfl (by decide)) (fun x9 => (eL eS) [x9.1.2]) rfl) (fun x10 => (xa_v (x_mapP (ee := eS) (xi_mk (xa_p (x_var (d := (eT (eP eI eI)) a0.2.1) 2 rfl) (fun _ => (puT (puP puI puI)) _) (fun x11 => xa_nil)) rfl (puP puI puI) (fun _ => it_T _)) rfl (fun x12 x13 => as_nm) (fun x12 x13 => (x_callP (xa_p (X.as (x_var (d := (eP eI eI) x13) 5 rfl) (fun x16 => (eT eI) [x13.1, x13.2]) rfl) (fun _ => (puT puI) _) (fun x17 => (xa_v (x_c (eS " ")) (fun x18 => xa_nil)))) rfl (fun _ _ h => tok_numbers_text  _ _ _ h))) (.inl rfl) (fun x12 x13 => ((p_numbers_text  [x13.1, x13.2] (" " : Str))).bind fun t19 => some t19) (fun _ _ => by repeat (first | exact wk_nil | apply wk_a | apply wk_s)) (by intro x y z h; simp only [] at h ⊢; repeat (first | (obtain ⟨hl, h⟩ := lim_inv h; simp only [lim_of hl]) | (obtain ⟨_, h1, h⟩ := Option.bind_eq_some_iff.mp h; simp only [h1, Option.bind_some] at h ⊢) | (cases h; rfl)))) (fun x22 => xa_nil)))) (fun _ _ h => op_catL puS h)) (.inl rfl) (fun x24 => (b_last (b_ret (x_ms (f := sJoin) (rv := fun _ _ => eS) (x_c (eS "\n")) (fun x25 => (x_prim (xa_s 4 rfl (xa_v (X.as (x_lst (xa_v (x_prim (xa_v (x_c (eS "ends ")) (fun x26 => (xa_v (x_callP (xa_p (x_var (d := (eT eI) a0.2.2) 3 rfl) (fun _ => (puT puI) _) (fun x27 => (xa_v (x_c (eS " ")) (fun x28 => xa_nil)))) rfl (fun _ _ h => tok_numbers_text  _ _ _ h)) (fun x30 => xa_nil)))) (fun _ _ h => op_catS h)) (fun x32 => xa_nil)) rfl (by decide)) (fun x33 => (eL eS) [x33.1.2]) rfl) (fun x34 => xa_nil)) (fun _ => rfl) (fun _ => puL)) (fun _ _ h => op_catL puS h))) (fun _ _ _ h => op_joinL h)) (fun x37 => x37.2.2) (.inl rfl) (fun x37 => qf_ret rfl (by repeat (first | exact wk_nil | apply wk_a | apply wk_s))))))))) (by dsimp only [p_show_net])) rfl (by simp [okM]) (fun z => (coll_0P rfl coll_nilP))
theorem tok_is_whole (a0 : PD) : ∀ z, p_is_whole a0 = some z → f_is_whole [eV a0] = .ok (eB z) [eV a0] :=
  fn_t (p0 := [some (eV a0)]) (m := p_is_whole a0) (rv := fun (z : Bool) => eB z) (q := fun (z : Bool) => [some (eV a0)]) (outs := fun z => [eV a0]) (B.cv (b_last (b_ret (x_andT (x_primT (xa_p (x_var (d := eV a0) 0 rfl) (fun _ => puV _) (fun x2 => xa_nil)) (fun _ => op_isiD .int _)) (fun x3 => (x_not (x_primT (xa_p (x_var (d := eV a0) 0 rfl) (fun _ => puV _) (fun x4 => xa_nil)) (fun _ => op_isiD .bool _))))) (fun x5 => ((isK .int (a0).1) && (!(isK .bool (a0).1)))) (.inr (fun _ => puB _)) (fun x5 => qf_ret rfl (by repeat (first | exact wk_nil | apply wk_a | apply wk_s))))) (by dsimp only [p_is_whole])) rfl (by simp [okM]) (fun z => (coll_0P rfl coll_nilP))
theorem tok_is_lane (a0 : PD) (a1 : Int) : ∀ z, p_is_lane a0 a1 = some z → f_is_lane [eV a0, eI a1] = .ok (eB z) [eV a0, eI a1] :=
  fn_t (p0 := [some (eV a0), some (eI a1)]) (m := p_is_lane a0 a1) (rv := fun (z : Bool) => eB z) (q := fun (z : Bool) => [some (eV a0), some (eI a1)]) (outs := fun z => [eV a0, eI a1]) (B.cv (b_last (b_ret (x_andP (x_callP (xa_p (x_var (d := eV a0) 0 rfl) (fun _ => puV _) (fun x3 => xa_nil)) rfl (fun _ _ h => tok_is_whole  _ _ h)) (fun x5 => (x_chain (xa_v (x_c (eI 0)) (fun x6 => (xa_p (x_dn eI dnI (x_var (d := eV a0) 0 rfl) (fun x8 => a0) (fun _ => rfl)) (fun _ => puI _) (fun x9 => xa_nil)))) (fun x10 => (x_var (d := eI a1) 1 rfl)) (fun _ => op_le' _ _) (fun _ => op_lt' _ _)))) (fun x12 => x12.2) (.inr (fun _ => puB _)) (fun x12 => qf_ret rfl (by repeat (first | exact wk_nil | apply wk_a | apply wk_s))))) (by dsimp only [p_is_lane])) rfl (by simp [okM]) (fun z => (coll_0P rfl (coll_0P rfl coll_nilP)))
theorem tok_is_fork (a0 : PD) (a1 : Int) : ∀ z, p_is_fork a0 a1 = some z → f_is_fork [eV a0, eI a1] = .ok (eB z) [eV a0, eI a1] :=
  fn_t (p0 := [some (eV a0), some (eI a1), none]) (m := p_is_fork a0 a1) (rv := fun (z : Bool) => eB z) (q := fun (z : Bool) => [some (eV a0), some (eI a1), none]) (outs := fun z => [eV a0, eI a1]) (B.cv (b_if (xt_orP (xt_not (xt_tstA (x_primT (xa_p (x_var (d := eV a0) 0 rfl) (fun _ => puV _) (fun x3 => xa_nil)) (fun _ => op_isiD .tup _)) (fun _ => tr_B _))) (fun x4 => (xt_orP (xt_tst (x_primT (xa_v (x_prim (xa_p (x_var (d := eV a0) 0 rfl) (fun _ => puV _) (fun x5 => xa_nil)) (fun _ _ h => dI_ok h)) (fun x7 => (xa_v (x_c (eI 2)) (fun x8 => xa_nil)))) (fun _ => op_ne eqI (by decide) _ _))) (fun x9 => (xt_not (xt_tstA (x_primT (xa_v (x_mapP (ee := eB) (xi_mkP (xa_p (x_var (d := eV a0) 0 rfl) (fun _ => puV _) (fun x10 => xa_nil)) rfl puV (fun _ _ h => it_V h)) rfl (fun x12 x13 => as_nm) (fun x12 x13 => (x_callP (xa_p (x_var (d := eV x13) 2 rfl) (fun _ => puV _) (fun x16 => (xa_p (x_var (d := eI a1) 1 rfl) (fun _ => puI _) (fun x17 => xa_nil)))) rfl (fun _ _ h => tok_is_lane  _ _ _ h))) (.inl rfl) (fun x12 x13 => ((p_is_lane  x13 a1)).bind fun t18 => some t18) (fun _ _ => by repeat (first | exact wk_nil | apply wk_a | apply wk_s)) (by intro x y z h; simp only [] at h ⊢; repeat (first | (obtain ⟨hl, h⟩ := lim_inv h; simp only [lim_of hl]) | (obtain ⟨_, h1, h⟩ := Option.bind_eq_some_iff.mp h; simp only [h1, Option.bind_some] at h ⊢) | (cases h; rfl)))) (fun x21 => xa_nil)) (fun _ => op_all _)) (fun _ => tr_B _))))))) (fun x24 => (b_ret (x_c (eB false)) (fun x25 => false) (.inl rfl) (fun x25 => qf_ret rfl (by repeat (first | exact wk_nil | apply wk_a | apply wk_s))))) (fun x24 => (b_skip (b_last (b_ret (x_prim (xa_v (x_prim (xa_p (x_var (d := eV a0) 0 rfl) (fun _ => puV _) (fun x26 => (xa_v (x_c (eI 0)) (fun x27 => xa_nil)))) (fun _ _ h => dP_ok h)) (fun x29 => (xa_v (x_prim (xa_p (x_var (d := eV a0) 0 rfl) (fun _ => puV _) (fun x30 => (xa_v (x_c (eI 1)) (fun x31 => xa_nil)))) (fun _ _ h => dP_ok h)) (fun x33 => xa_nil)))) (fun _ _ h => dB_ok h)) (fun x35 => x35.2) (.inl rfl) (fun x35 => qf_ret rfl (by repeat (first | exact wk_nil | apply wk_a | apply wk_s)))))))) (by dsimp only [p_is_fork])) rfl (by simp [okM]) (fun z => (coll_0P rfl (coll_0P rfl coll_nilP)))
theorem tok_are_ends (a0 : PD) (a1 : Int) : ∀ z, p_are_ends a0 a1 = some z → f_are_ends [eV a0, eI a1] = .ok (eB z) [eV a0, eI a1] :=
  fn_t (p0 := [some (eV a0), some (eI a1), none]) (m := p_are_ends a0 a1) (rv := fun (z : Bool) => eB z) (q := fun (z : Bool) => [some (eV a0), some (eI a1), none]) (outs := fun z => [eV a0, eI a1]) (B.cv (b_if (xt_orP (xt_not (xt_tstA (x_primT (xa_p (x_var (d := eV a0) 0 rfl) (fun _ => puV _) (fun x3 => xa_nil)) (fun _ => op_isiD .tup _)) (fun _ => tr_B _))) (fun x4 => (xt_not (xt_tstA (x_primT (xa_v (x_mapP (ee := eB) (xi_mkP (xa_p (x_var (d := eV a0) 0 rfl) (fun _ => puV _) (fun x5 => xa_nil)) rfl puV (fun _ _ h => it_V h)) rfl (fun x7 x8 => as_nm) (fun x7 x8 => (x_callP (xa_p (x_var (d := eV x8) 2 rfl) (fun _ => puV _) (fun x11 => (xa_p (x_var (d := eI a1) 1 rfl) (fun _ => puI _) (fun x12 => xa_nil)))) rfl (fun _ _ h => tok_is_lane  _ _ _ h))) (.inl rfl) (fun x7 x8 => ((p_is_lane  x8 a1)).bind fun t13 => some t13) (fun _ _ => by repeat (first | exact wk_nil | apply wk_a | apply wk_s)) (by intro x y z h; simp only [] at h ⊢; repeat (first | (obtain ⟨hl, h⟩ := lim_inv h; simp only [lim_of hl]) | (obtain ⟨_, h1, h⟩ := Option.bind_eq_some_iff.mp h; simp only [h1, Option.bind_some] at h ⊢) | (cases h; rfl)))) (fun x16 => xa_nil)) (fun _ => op_all _)) (fun _ => tr_B _))))) (fun x18 => (b_ret (x_c (eB false)) (fun x19 => false) (.inl rfl) (fun x19 => qf_ret rfl (by repeat (first | exact wk_nil | apply wk_a | apply wk_s))))) (fun x18 => (b_skip (b_last (b_ret (x_primT (xa_v (x_primT (xa_p (x_dn (eT eI) (dnT dnI) (x_var (d := eV a0) 0 rfl) (fun x21 => a0) (fun _ => rfl)) (fun _ => (puT puI) _) (fun x22 => xa_nil)) (fun _ => op_sortT' _)) (fun x23 => (xa_v (x_prim (xa_p (x_var (d := eI a1) 1 rfl) (fun _ => puI _) (fun x24 => xa_nil)) (fun _ _ h => op_lrg1 h)) (fun x26 => xa_nil)))) (fun _ => op_eq (eqL eqI) (by decide) _ _)) (fun x27 => (decide ((sortI x27.1.1.2) = x27.2.1.2))) (.inl rfl) (fun x27 => qf_ret rfl (by repeat (first | exact wk_nil | apply wk_a | apply wk_s)))))))) (by dsimp only [p_are_ends])) rfl (by simp [okM]) (fun z => (coll_0P rfl (coll_0P rfl coll_nilP)))
theorem tok_size_in (a0 : Str) : ∀ z, p_size_in a0 = some z → f_size_in [eS a0] = .ok ((eO eI) z) [eS a0] :=
  fn_t (p0 := [some (eS a0), none]) (m := p_size_in a0) (rv := fun (z : (Option Int)) => (eO eI) z) (q := fun (z : (Option Int)) => [some (eS a0), none]) (outs := fun z => [eS a0]) (B.cv (b_if (xt_orP (xt_not (xt_tst (x_chain (xa_v (x_c (eI 1)) (fun x2 => (xa_v (x_prim (xa_p (x_var (d := eS a0) 0 rfl) (fun _ => puS _) (fun x3 => xa_nil)) (fun _ _ h => op_lenS h)) (fun x5 => xa_nil)))) (fun x6 => (x_c (eI 30))) (fun _ => op_le' _ _) (fun _ => op_le' _ _)))) (fun x7 => (xt_not (xt_tstA (x_primT (xa_v (x_mapT (ee := eB) (xi_mkP (xa_p (x_var (d := eS a0) 0 rfl) (fun _ => puS _) (fun x8 => xa_nil)) rfl puS (fun _ _ h => it_S h)) rfl (fun x10 x11 => as_nm) (fun x10 x11 => (x_primT (xa_p (x_var (d := eS x11) 1 rfl) (fun _ => puS _) (fun x14 => (xa_v (x_c (eS "0123456789")) (fun x15 => xa_nil)))) (fun _ => op_inSS _ _))) (.inl rfl) (fun _ _ => by repeat (first | exact wk_nil | apply wk_a | apply wk_s))) (fun x18 => xa_nil)) (fun _ => op_all _)) (fun _ => tr_B _))))) (fun x20 => (b_ret (x_c PyData.none) (fun x21 => none) (.inl rfl) (fun x21 => qf_ret rfl (by repeat (first | exact wk_nil | apply wk_a | apply wk_s))))) (fun x20 => (b_skip (b_if (xt_andP (xt_tst (x_prim (xa_v (x_prim (xa_p (x_var (d := eS a0) 0 rfl) (fun _ => puS _) (fun x22 => (xa_v (x_c (eI 0)) (fun x23 => xa_nil)))) (fun _ _ h => op_ixS h)) (fun x25 => (xa_v (x_c (eS "0")) (fun x26 => xa_nil)))) (fun _ _ h => op_eqSO h))) (fun x28 => (xt_tst (x_prim (xa_p (x_var (d := eS a0) 0 rfl) (fun _ => puS _) (fun x29 => (xa_v (x_c (eS "0")) (fun x30 => xa_nil)))) (fun _ _ h => op_neSO h))))) (fun x33 => (b_ret (x_c PyData.none) (fun x34 => none) (.inl rfl) (fun x34 => qf_ret rfl (by repeat (first | exact wk_nil | apply wk_a | apply wk_s))))) (fun x33 => (b_skip (b_last (b_ret (X.as (x_prim (xa_p (x_var (d := eS a0) 0 rfl) (fun _ => puS _) (fun x35 => xa_nil)) (fun _ _ h => op_intX h)) (fun x37 => eI x37.2) rfl) (fun x38 => (some x38.2)) (.inl rfl) (fun x38 => qf_ret rfl (by repeat (first | exact wk_nil | apply wk_a | apply wk_s))))))))))) (by dsimp only [p_size_in])) rfl (by simp [okM]) (fun z => (coll_0P rfl coll_nilP))
theorem tok_number_in (a0 : Str) : ∀ z, p_number_in a0 = some z → f_number_in [eS a0] = .ok ((eO eI) z) [eS a0] :=
  fn_t (p0 := [some (eS a0), none]) (m := p_number_in a0) (rv := fun (z : (Option Int)) => (eO eI) z) (q := fun (z : (Option Int)) => [some (eS a0), none]) (outs := fun z => [eS a0]) (B.cv (b_if (xt_not (xt_tstA (x_msT (f := sStarts) (x_var (d := eS a0) 0 rfl) (fun x2 => (x_c (eS "-"))) (fun _ _ => op_starts)) (fun _ => tr_B _))) (fun x4 => (b_ret (x_callP (xa_p (x_var (d := eS a0) 0 rfl) (fun _ => puS _) (fun x5 => xa_nil)) rfl (fun _ _ h => tok_size_in  _ _ h)) (fun x7 => x7.2) (.inl rfl) (fun x7 => qf_ret rfl (by repeat (first | exact wk_nil | apply wk_a | apply wk_s))))) (fun x4 => (b_skip (b_set (x_callP (xa_v (x_slP (x_var (d := eS a0) 0 rfl) (fun x8 => (xpr_some (x_c (eI 1)))) (fun x8 x9 => xpr_none) (fun _ _ _ _ h => op_slS h)) (fun x12 => xa_nil)) rfl (fun _ _ h => tok_size_in  _ _ h)) (.inl rfl) (fun x14 => (b_if (xt_orT (xt_tst (x_primT (xa_p (x_var (d := (eO eI) x14.2) 1 rfl) (fun _ => (puO' puI) _) (fun x15 => (xa_v (x_c PyData.none) (fun x16 => xa_nil)))) (fun _ => op_isN (fun _ => rfl) _))) (fun x17 => (xt_tst (x_primT (xa_p (x_var (d := (eO eI) x14.2) 1 rfl) (fun _ => (puO' puI) _) (fun x18 => (xa_v (X.as (x_c (eI 0)) (fun x19 => (eO eI) (some (0 : Int))) rfl) (fun x20 => xa_nil)))) (fun _ => op_eq (eqO eqI (fun _ => rfl) (fun _ => rfl)) (by decide) _ _))))) (fun x21 => (b_ret (x_c PyData.none) (fun x22 => none) (.inl rfl) (fun x22 => qf_ret rfl (by repeat (first | exact wk_nil | apply wk_a | apply wk_s))))) (fun x21 => (b_skip (b_last (b_ret (x_primT (xa_p (x_gt eI (x_var (d := (eO eI) x14.2) 1 rfl) (fun x24 => x14.2) (fun _ => rfl)) (fun _ => puI _) (fun x25 => xa_nil)) (fun _ => op_neg _)) (fun x26 => (some (-x26.1.2))) (.inl rfl) (fun x26 => qf_ret rfl (by repeat (first | exact wk_nil | apply wk_a | apply wk_s))))))))))))) (by dsimp only [p_number_in])) rfl (by simp [okM]) (fun z => (coll_0P rfl coll_nilP))
theorem tok_numbers_in (a0 : (List Str)) : ∀ z, p_numbers_in a0 = some z → f_numbers_in [(eF eS) a0] = .ok ((eT (eO eI)) z) [(eF eS) a0] :=
  fn_t (p0 := [some ((eF eS) a0), none]) (m := p_numbers_in a0) (rv := fun (z : (List (Option Int))) => (eT (eO eI)) z) (q := fun (z : (List (Option Int))) => [some ((eF eS) a0), none]) (outs := fun z => [(eF eS) a0]) (B.cv (b_last (b_ret (x_primT (xa_v (x_mapP (ee := (eO eI)) (xi_mk (xa_p (x_var (d := (eF eS) a0) 0 rfl) (fun _ => puF _) (fun x2 => xa_nil)) rfl puS (fun _ => it_F _)) rfl (fun x3 x4 => as_nm) (fun x3 x4 => (x_callP (xa_p (x_var (d := eS x4) 1 rfl) (fun _ => puS _) (fun x7 => xa_nil)) rfl (fun _ _ h => tok_number_in  _ _ h))) (.inl rfl) (fun x3 x4 => ((p_number_in  x4)).bind fun t8 => some t8) (fun _ _ => by repeat (first | exact wk_nil | apply wk_a | apply wk_s)) (by intro x y z h; simp only [] at h ⊢; repeat (first | (obtain ⟨hl, h⟩ := lim_inv h; simp only [lim_of hl]) | (obtain ⟨_, h1, h⟩ := Option.bind_eq_some_iff.mp h; simp only [h1, Option.bind_some] at h ⊢) | (cases h; rfl)))) (fun x11 => xa_nil)) (fun _ => op_tupL (puO' puI) _)) (fun x12 => x12.1.2.1) (.inl rfl) (fun x12 => qf_ret rfl (by repeat (first | exact wk_nil | apply wk_a | apply wk_s))))) (by dsimp only [p_numbers_in])) rfl (by simp [okM]) (fun z => (coll_0P rfl coll_nilP))
theorem tok_Reading__init  : ∀ z, p_Reading__init  = some z → f_Reading__init [dIT "Reading" [] []] = .ok (eU z.1) [(eC3 "Reading" ns_Reading eI (eL (eT (eO eI))) (eO (eT (eO eI)))) z.2] :=
  fn_tM (p0 := [none, none, none, none]) (m := p_Reading__init ) (rv := fun (z : (Unit × (Int × (List (List (Option Int))) × (Option (List (Option Int)))))) => eU z.1) (q := fun (z : (Unit × (Int × (List (List (Option Int))) × (Option (List (Option Int)))))) => [none, some (eI z.2.1), some ((eL (eT (eO eI))) z.2.2.1), some ((eO (eT (eO eI))) z.2.2.2)]) (fo := fun z => [eI z.2.1, (eL (eT (eO eI))) z.2.2.1, (eO (eT (eO eI))) z.2.2.2]) (outs := fun z => [(eC3 "Reading" ns_Reading eI (eL (eT (eO eI))) (eO (eT (eO eI)))) z.2]) rfl (by simp [okM]) rfl (B.cv (b_fld (x_c (eI 0)) (.inl rfl) (fun _ => rfl) (fun x2 => (b_fld (X.as (x_lst xa_nil rfl (by decide)) (fun x3 => (eL (eT (eO eI))) ([] : (List (List (Option Int))))) rfl) (.inl rfl) (fun _ => rfl) (fun x4 => (b_last (b_fld (X.as (x_c PyData.none) (fun x5 => (eO (eT (eO eI))) none) rfl) (.inl rfl) (fun _ => rfl) (fun x6 => (b_endF (z := ((), ((0 : Int), ([] : (List (List (Option Int)))), none))) rfl (by repeat (first | exact wk_nil | apply wk_a | apply wk_s)))))))))) (by dsimp only [p_Reading__init])) (fun _ => puU _) (fun _ => rfl) (fun z => (coll_0P rfl coll_nilP))
theorem tok_Reading__takes_lanes (a0 : (Int × (List (List (Option Int))) × (Option (List (Option Int))))) (a1 : (List Str)) : ∀ z, p_Reading__takes_lanes a0 a1 = some z → f_Reading__takes_lanes [(eC3 "Reading" ns_Reading eI (eL (eT (eO eI))) (eO (eT (eO eI)))) a0, (eF eS) a1] = .ok (eB z.1) [(eC3 "Reading" ns_Reading eI (eL (eT (eO eI))) (eO (eT (eO eI)))) z.2, (eF eS) a1] :=
  fn_tM (p0 := [none, some ((eF eS) a1), some (eI a0.1), some ((eL (eT (eO eI))) a0.2.1), some ((eO (eT (eO eI))) a0.2.2)]) (m := p_Reading__takes_lanes a0 a1) (rv := fun (z : (Bool × (Int × (List (List (Option Int))) × (Option (List (Option Int)))))) => eB z.1) (q := fun (z : (Bool × (Int × (List (List (Option Int))) × (Option (List (Option Int)))))) => [none, some ((eF eS) a1), some (eI z.2.1), some ((eL (eT (eO eI))) z.2.2.1), some ((eO (eT (eO eI))) z.2.2.2)]) (fo := fun z => [eI z.2.1, (eL (eT (eO eI))) z.2.2.1, (eO (eT (eO eI))) z.2.2.2]) (outs := fun z => [(eC3 "Reading" ns_Reading eI (eL (eT (eO eI))) (eO (eT (eO eI)))) z.2, (eF eS) a1]) rfl (by simp [okM]) rfl (B.cv (b_if (xt_orP (xt_tst (x_primT (xa_v (x_primT (xa_p (x_var (d := (eF eS) a1) 1 rfl) (fun _ => puF _) (fun x3 => xa_nil)) (fun _ => op_lenF _)) (fun x4 => (xa_v (x_c (eI 2)) (fun x5 => xa_nil)))) (fun _ => op_ne eqI (by decide) _ _))) (fun x6 => (xt_orP (xt_tst (x_prim (xa_v (x_prim (xa_p (x_var (d := (eF eS) a1) 1 rfl) (fun _ => puF _) (fun x7 => (xa_v (x_c (eI 0)) (fun x8 => xa_nil)))) (fun _ _ h => op_ixF puS h)) (fun x10 => (xa_v (x_c (eS "lanes")) (fun x11 => xa_nil)))) (fun _ _ h => op_neSO h))) (fun x13 => (xt_tst (x_ninR (x_gt eI (x_callP (xa_v (x_prim (xa_p (x_var (d := (eF eS) a1) 1 rfl) (fun _ => puF _) (fun x14 => (xa_v (x_c (eI 1)) (fun x15 => xa_nil)))) (fun _ _ h => op_ixF puS h)) (fun x17 => xa_nil)) rfl (fun _ _ h => tok_number_in  _ _ h)) (fun x20 => x20.2) (fun _ => rfl)) (fun x21 => (xa_v (x_c (eI 1)) (fun x22 => (xa_v (x_primT (xa_v (x_c (eI 16)) (fun x23 => (xa_v (x_c (eI 1)) (fun x24 => xa_nil)))) (fun _ => op_add _ _)) (fun x25 => xa_nil))))))))))) (fun x28 => (b_ret (x_c (eB false)) (fun x29 => (false, (a0.1, a0.2.1, a0.2.2))) (.inl rfl) (fun x29 => qf_ret rfl (by repeat (first | exact wk_nil | apply wk_a | apply wk_s))))) (fun x28 => (b_skip (b_fld (x_gt eI (x_callP (xa_v (x_prim (xa_p (x_var (d := (eF eS) a1) 1 rfl) (fun _ => puF _) (fun x30 => (xa_v (x_c (eI 1)) (fun x31 => xa_nil)))) (fun _ _ h => op_ixF puS h)) (fun x33 => xa_nil)) rfl (fun _ _ h => tok_number_in  _ _ h)) (fun x36 => x36.2) (fun _ => rfl)) (.inl rfl) (fun _ => rfl) (fun x37 => (b_last (b_ret (x_c (eB true)) (fun x38 => (true, (x37.2, a0.2.1, a0.2.2))) (.inl rfl) (fun x38 => qf_ret rfl (by repeat (first | exact wk_nil | apply wk_a | apply wk_s)))))))))) (by dsimp only [p_Reading__takes_lanes])) (fun _ => puB _) (fun _ => rfl) (fun z => (coll_0P rfl (coll_0P rfl coll_nilP)))
theorem tok_Reading__takes_ends (a0 : (Int × (List (List (Option Int))) × (Option (List (Option Int))))) (a1 : (List Str)) : ∀ z, p_Reading__takes_ends a0 a1 = some z → f_Reading__takes_ends [(eC3 "Reading" ns_Reading eI (eL (eT (eO eI))) (eO (eT (eO eI)))) a0, (eF eS) a1] = .ok (eB z.1) [(eC3 "Reading" ns_Reading eI (eL (eT (eO eI))) (eO (eT (eO eI)))) z.2, (eF eS) a1] :=
  fn_tM (p0 := [none, some ((eF eS) a1), some (eI a0.1), some ((eL (eT (eO eI))) a0.2.1), some ((eO (eT (eO eI))) a0.2.2)]) (m := p_Reading__takes_ends a0 a1) (rv := fun (z : (Bool × (Int × (List (List (Option Int))) × (Option (List (Option Int)))))) => eB z.1) (q := fun (z : (Bool × (Int × (List (List (Option Int))) × (Option (List (Option Int)))))) => [none, some ((eF eS) a1), some (eI z.2.1), some ((eL (eT (eO eI))) z.2.2.1), some ((eO (eT (eO eI))) z.2.2.2)]) (fo := fun z => [eI z.2.1, (eL (eT (eO eI))) z.2.2.1, (eO (eT (eO eI))) z.2.2.2]) (outs := fun z => [(eC3 "Reading" ns_Reading eI (eL (eT (eO eI))) (eO (eT (eO eI)))) z.2, (eF eS) a1]) rfl (by simp [okM]) rfl (B.cv (b_fld (X.as (x_callP (xa_v (X.as (x_frzF puS (x_sl (x_var (d := (eF eS) a1) 1 rfl) (fun x3 => (xpr_some (x_c (eI 1)))) (fun x3 x4 => xpr_none) (fun _ _ _ => op_slF _ _ _))) (fun x6 => (eF eS) (cutL a1 (some (1 : Int)) none)) rfl) (fun x7 => xa_nil)) rfl (fun _ _ h => tok_numbers_in  _ _ h)) (fun x9 => (eO (eT (eO eI))) (some x9.2)) rfl) (.inl rfl) (fun _ => rfl) (fun x10 => (b_last (b_ret (x_callP (xa_p (X.as (x_var (d := (eO (eT (eO eI))) (some x10.2)) 4 rfl) (fun x11 => eV (toPD (puO' (puT (puO' puI))) (some x10.2))) rfl) (fun _ => puV _) (fun x12 => (xa_p (x_var (d := eI a0.1) 2 rfl) (fun _ => puI _) (fun x13 => xa_nil)))) rfl (fun _ _ h => tok_are_ends  _ _ _ h)) (fun x15 => (x15.2, (a0.1, a0.2.1, (some x10.2)))) (.inl rfl) (fun x15 => qf_ret rfl (by repeat (first | exact wk_nil | apply wk_a | apply wk_s))))))) (by dsimp only [p_Reading__takes_ends])) (fun _ => puB _) (fun _ => rfl) (fun z => (coll_0P rfl (coll_0P rfl coll_nilP)))
theorem tok_Reading__takes_fork (a0 : (Int × (List (List (Option Int))) × (Option (List (Option Int))))) (a1 : (List Str)) : ∀ z, p_Reading__takes_fork a0 a1 = some z → f_Reading__takes_fork [(eC3 "Reading" ns_Reading eI (eL (eT (eO eI))) (eO (eT (eO eI)))) a0, (eF eS) a1] = .ok (eB z.1) [(eC3 "Reading" ns_Reading eI (eL (eT (eO eI))) (eO (eT (eO eI)))) z.2, (eF eS) a1] :=
  fn_tM (p0 := [none, some ((eF eS) a1), none, some (eI a0.1), some ((eL (eT (eO eI))) a0.2.1), some ((eO (eT (eO eI))) a0.2.2)]) (m := p_Reading__takes_fork a0 a1) (rv := fun (z : (Bool × (Int × (List (List (Option Int))) × (Option (List (Option Int)))))) => eB z.1) (q := fun (z : (Bool × (Int × (List (List (Option Int))) × (Option (List (Option Int)))))) => [none, some ((eF eS) a1), none, some (eI z.2.1), some ((eL (eT (eO eI))) z.2.2.1), some ((eO (eT (eO eI))) z.2.2.2)]) (fo := fun z => [eI z.2.1, (eL (eT (eO eI))) z.2.2.1, (eO (eT (eO eI))) z.2.2.2]) (outs := fun z => [(eC3 "Reading" ns_Reading eI (eL (eT (eO eI))) (eO (eT (eO eI)))) z.2, (eF eS) a1]) rfl (by simp [okM]) rfl (B.cv (b_set (x_callP (xa_p (x_var (d := (eF eS) a1) 1 rfl) (fun _ => puF _) (fun x3 => xa_nil)) rfl (fun _ _ h => tok_numbers_in  _ _ h)) (.inl rfl) (fun x5 => (b_expr (x_mt rfl (xa_p (x_var (d := (eT (eO eI)) x5.2) 2 rfl) (fun _ => (puT (puO' puI)) _) (fun x6 => xa_nil)) rfl (fun _ => rfl) (fun _ _ h => mt_app' h) (fun _ _ => rfl)) (fun x8 => (b_last (b_ret (x_andT (x_callP (xa_p (X.as (x_var (d := (eT (eO eI)) x5.2) 2 rfl) (fun x9 => eV (toPD (puT (puO' puI)) x5.2)) rfl) (fun _ => puV _) (fun x10 => (xa_p (x_var (d := eI a0.1) 3 rfl) (fun _ => puI _) (fun x11 => xa_nil)))) rfl (fun _ _ h => tok_is_fork  _ _ _ h)) (fun x13 => (x_primT (xa_v (x_primT (xa_s 4 rfl xa_nil (fun _ => rfl) (fun _ => puL)) (fun _ => op_lenL _)) (fun x14 => (xa_v (x_c (eI 128)) (fun x15 => xa_nil)))) (fun _ => op_le' _ _)))) (fun x16 => ((x16.2 && (decide ((x8.2.length : Int) ≤ (128 : Int)))), (a0.1, x8.2, a0.2.2))) (.inr (fun _ => puB _)) (fun x16 => qf_ret rfl (by repeat (first | exact wk_nil | apply wk_a | apply wk_s))))))))) (by dsimp only [p_Reading__takes_fork])) (fun _ => puB _) (fun _ => rfl) (fun z => (coll_0P rfl (coll_0P rfl coll_nilP)))
theorem tok_Reading__takes (a0 : (Int × (List (List (Option Int))) × (Option (List (Option Int))))) (a1 : Int) (a2 : (List Str)) : ∀ z, p_Reading__takes a0 a1 a2 = some z → f_Reading__takes [(eC3 "Reading" ns_Reading eI (eL (eT (eO eI))) (eO (eT (eO eI)))) a0, eI a1, (eF eS) a2] = .ok (eB z.1) [(eC3 "Reading" ns_Reading eI (eL (eT (eO eI))) (eO (eT (eO eI)))) z.2, eI a1, (eF eS) a2] :=
  fn_tM (p0 := [none, some (eI a1), some ((eF eS) a2), some (eI a0.1), some ((eL (eT (eO eI))) a0.2.1), some ((eO (eT (eO eI))) a0.2.2)]) (m := p_Reading__takes a0 a1 a2) (rv := fun (z : (Bool × (Int × (List (List (Option Int))) × (Option (List (Option Int)))))) => eB z.1) (q := fun (z : (Bool × (Int × (List (List (Option Int))) × (Option (List (Option Int)))))) => [none, some (eI a1), some ((eF eS) a2), some (eI z.2.1), some ((eL (eT (eO eI))) z.2.2.1), some ((eO (eT (eO eI))) z.2.2.2)]) (fo := fun z => [eI z.2.1, (eL (eT (eO eI))) z.2.2.1, (eO (eT (eO eI))) z.2.2.2]) (outs := fun z => [(eC3 "Reading" ns_Reading eI (eL (eT (eO eI))) (eO (eT (eO eI)))) z.2, eI a1, (eF eS) a2]) rfl (by simp [okM]) rfl (B.cv (b_if (xt_tst (x_primT (xa_p (x_var (d := eI a1) 1 rfl) (fun _ => puI _) (fun x4 => (xa_v (x_c (eI 0)) (fun x5 => xa_nil)))) (fun _ => op_eq eqI (by decide) _ _))) (fun x6 => (b_retM (fd := fun x8 => [eI a0.1, (eL (eT (eO eI))) a0.2.1, (eO (eT (eO eI))) a0.2.2]) (fo := fun x8 (x10 : Bool × (Int × (List (List (Option Int))) × (Option (List (Option Int))))) => [eI x10.2.1, (eL (eT (eO eI))) x10.2.2.1, (eO (eT (eO eI))) x10.2.2.2]) (m := fun x8 => (p_Reading__takes_lanes  (a0.1, a0.2.1, a0.2.2) a2)) (rv := fun x8 (x10 : Bool × (Int × (List (List (Option Int))) × (Option (List (Option Int))))) => eB x10.1) (R := fun x8 (x10 : Bool × (Int × (List (List (Option Int))) × (Option (List (Option Int))))) => (x10.1, x10.2)) (xa_p (x_var (d := (eF eS) a2) 2 rfl) (fun _ => puF _) (fun x7 => xa_nil)) (fun _ => (purs_c (puF _) purs_n)) (fun _ => rfl) (by decide) (fun _ => rfl) (fun _ _ => insP_eq rfl) (fun _ _ => rfl) (fun x8 z h => ⟨_, tok_Reading__takes_lanes  (a0.1, a0.2.1, a0.2.2) (a2) z h⟩) (fun _ _ => puB _) (fun x8 x10 => qf_ret rfl (by repeat (first | exact wk_nil | apply wk_a | apply wk_s))))) (fun x6 => (b_skip (b_if (xt_tst (x_primT (xa_p (x_var (d := (eO (eT (eO eI))) a0.2.2) 5 rfl) (fun _ => (puO' (puT (puO' puI))) _) (fun x11 => (xa_v (x_c PyData.none) (fun x12 => xa_nil)))) (fun _ => op_notN (fun _ => rfl) _))) (fun x13 => (b_ret (x_c (eB false)) (fun x14 => (false, (a0.1, a0.2.1, a0.2.2))) (.inl rfl) (fun x14 => qf_ret rfl (by repeat (first | exact wk_nil | apply wk_a | apply wk_s))))) (fun x13 => (b_skip (b_if (xt_tst (x_prim (xa_v (x_prim (xa_p (x_var (d := (eF eS) a2) 2 rfl) (fun _ => puF _) (fun x15 => (xa_v (x_c (eI 0)) (fun x16 => xa_nil)))) (fun _ _ h => op_ixF puS h)) (fun x18 => (xa_v (x_c (eS "ends")) (fun x19 => xa_nil)))) (fun _ _ h => op_eqSO h))) (fun x21 => (b_retM (fd := fun x23 => [eI a0.1, (eL (eT (eO eI))) a0.2.1, (eO (eT (eO eI))) a0.2.2]) (fo := fun x23 (x25 : Bool × (Int × (List (List (Option Int))) × (Option (List (Option Int))))) => [eI x25.2.1, (eL (eT (eO eI))) x25.2.2.1, (eO (eT (eO eI))) x25.2.2.2]) (m := fun x23 => (p_Reading__takes_ends  (a0.1, a0.2.1, a0.2.2) a2)) (rv := fun x23 (x25 : Bool × (Int × (List (List (Option Int))) × (Option (List (Option Int))))) => eB x25.1) (R := fun x23 (x25 : Bool × (Int × (List (List (Option Int))) × (Option (List (Option Int))))) => (x25.1, x25.2)) (xa_p (x_var (d := (eF eS) a2) 2 rfl) (fun _ => puF _) (fun x22 => xa_nil)) (fun _ => (purs_c (puF _) purs_n)) (fun _ => rfl) (by decide) (fun _ => rfl) (fun _ _ => insP_eq rfl) (fun _ _ => rfl) (fun x23 z h => ⟨_, tok_Reading__takes_ends  (a0.1, a0.2.1, a0.2.2) (a2) z h⟩) (fun _ _ => puB _) (fun x23 x25 => qf_ret rfl (by repeat (first | exact wk_nil | apply wk_a | apply wk_s))))) (fun x21 => (b_skip (b_last (b_retM (fd := fun x27 => [eI a0.1, (eL (eT (eO eI))) a0.2.1, (eO (eT (eO eI))) a0.2.2]) (fo := fun x27 (x29 : Bool × (Int × (List (List (Option Int))) × (Option (List (Option Int))))) => [eI x29.2.1, (eL (eT (eO eI))) x29.2.2.1, (eO (eT (eO eI))) x29.2.2.2]) (m := fun x27 => (p_Reading__takes_fork  (a0.1, a0.2.1, a0.2.2) a2)) (rv := fun x27 (x29 : Bool × (Int × (List (List (Option Int))) × (Option (List (Option Int))))) => eB x29.1) (R := fun x27 (x29 : Bool × (Int × (List (List (Option Int))) × (Option (List (Option Int))))) => (x29.1, x29.2)) (xa_p (x_var (d := (eF eS) a2) 2 rfl) (fun _ => puF _) (fun x26 => xa_nil)) (fun _ => (purs_c (puF _) purs_n)) (fun _ => rfl) (by decide) (fun _ => rfl) (fun _ _ => insP_eq rfl) (fun _ _ => rfl) (fun x27 z h => ⟨_, tok_Reading__takes_fork  (a0.1, a0.2.1, a0.2.2) (a2) z h⟩) (fun _ _ => puB _) (fun x27 x29 => qf_ret rfl (by repeat (first | exact wk_nil | apply wk_a | apply wk_s)))))))))))))) (by dsimp only [p_Reading__takes])) (fun _ => puB _) (fun _ => rfl) (fun z => (coll_0P rfl (coll_0P rfl (coll_0P rfl coll_nilP))))
theorem tok_read_net (a0 : Str) : ∀ z, p_read_net a0 = some z → f_read_net [eS a0] = .ok ((eQ eI (eT (eT (eO eI))) (eO (eT (eO eI)))) z) [eS a0] :=
  fn_t (p0 := [some (eS a0), none, none, none, none, none, none, none]) (m := p_read_net a0) (rv := fun (z : (Int × (List (List (Option Int))) × (Option (List (Option Int))))) => (eQ eI (eT (eT (eO eI))) (eO (eT (eO eI)))) z) (q := fun (z : (Int × (List (List (Option Int))) × (Option (List (Option Int))))) => [some (eS a0), none, none, none, none, none, none, none]) (outs := fun z => [eS a0]) (B.cv (b_if (xt_not (xt_tstA (x_primT (xa_p (x_var (d := eS a0) 0 rfl) (fun _ => puS _) (fun x2 => xa_nil)) (fun _ => op_isiT rfl)) (fun _ => tr_B _))) (fun x3 => b_raise) (fun x3 => (b_skip (b_set (x_ms (f := sSplit) (rv := fun _ _ => (eL eS)) (x_var (d := eS a0) 0 rfl) (fun x4 => (x_c (eS "\n"))) (fun _ _ _ h => op_split h)) (.inl rfl) (fun x6 => (b_set (x_make (rv := fun _ (z : Unit × (Int × (List (List (Option Int))) × (Option (List (Option Int))))) => (eC3 "Reading" ns_Reading eI (eL (eT (eO eI))) (eO (eT (eO eI)))) z.2) xa_nil (fun _ => purs_n) (fun _ z h => ⟨_, tok_Reading__init  z h⟩)) (.inl rfl) (fun x8 => (b_for (xi_mk (xa_s 1 rfl xa_nil (fun _ => rfl) (fun _ => puL)) rfl (puP puI puS) (fun _ => it_eL _)) (fun x9 (x10 : ((Int × (List (List (Option Int))) × (Option (List (Option Int)))))) => [some (eS a0), none, some ((eC3 "Reading" ns_Reading eI (eL (eT (eO eI))) (eO (eT (eO eI)))) x10), none, none, none, none, none]) (fun x9 => x8.2.2) (fun _ => rfl) (fun x9 => by repeat (first | exact wk_nil | apply wk_a | apply wk_s)) (fun x9 x10 x11 => (as_tp (ass_cons as_nm (ass_cons as_nm ass_nil)))) (fun x9 x10 x11 => (b_last (b_if (xt_not (xt_tstA (x_meth _ rfl rfl (x_call (xa_s 2 rfl (xa_p (x_var (d := eI x11.1) 3 rfl) (fun _ => puI _) (fun x14 => (xa_v (X.as (x_frzF puS (x_ms (f := sSplit) (rv := fun _ _ => (eL eS)) (x_var (d := eS x11.2) 4 rfl) (fun x15 => (x_c (eS " "))) (fun _ _ _ h => op_split h))) (fun x17 => (eF eS) x17.2.2) rfl) (fun x18 => xa_nil)))) (fun _ => rfl) (fun _ => puC3)) rfl (fun _ _ h => tok_Reading__takes  _ _ _ _ h) (fun _ _ => rfl) (fun _ (zz : Bool × (Int × (List (List (Option Int))) × (Option (List (Option Int))))) => [(2, (eC3 "Reading" ns_Reading eI (eL (eT (eO eI))) (eO (eT (eO eI)))) zz.2)]) (fun _ _ => rfl))) (fun _ => tr_B _))) (fun x20 => b_raise) (fun x20 => (b_skip (b_endC (z := x20.2.2) (by repeat (first | exact wk_nil | apply wk_a | apply wk_s)))))))) (fun x9 x10 => (b_if (xt_open (p1 := [some (eS a0), some ((eL eS) x6.2.2), none, none, none, some (eI x10.1), some ((eL (eT (eO eI))) x10.2.1), some ((eO (eT (eO eI))) x10.2.2)]) _ rfl rfl rfl rfl (by decide) rfl (xt_tst (x_primT (xa_p (x_var (d := (eO (eT (eO eI))) x10.2.2) 7 rfl) (fun _ => (puO' (puT (puO' puI))) _) (fun x21 => (xa_v (x_c PyData.none) (fun x22 => xa_nil)))) (fun _ => op_isN (fun _ => rfl) _))) (fun _ => rfl)) (fun x23 => b_raise) (fun x23 => (b_skip (b_last (b_ret (x_open (p1 := [some (eS a0), some ((eL eS) x6.2.2), none, none, none, some (eI x10.1), some ((eL (eT (eO eI))) x10.2.1), some ((eO (eT (eO eI))) x10.2.2)]) _ rfl rfl rfl rfl (by decide) rfl (X.as (x_tup (xa_p (x_var (d := eI x10.1) 5 rfl) (fun _ => puI _) (fun x24 => (xa_v (x_primT (xa_s 6 rfl xa_nil (fun _ => rfl) (fun _ => puL)) (fun _ => op_tupL (puT (puO' puI)) _)) (fun x25 => (xa_p (x_var (d := (eO (eT (eO eI))) x10.2.2) 7 rfl) (fun _ => (puO' (puT (puO' puI))) _) (fun x26 => xa_nil)))))) rfl (by decide)) (fun x27 => (eQ eI (eT (eT (eO eI))) (eO (eT (eO eI)))) (x10.1, x10.2.1, x10.2.2)) rfl) (fun _ => rfl)) (fun x28 => (x10.1, x10.2.1, x10.2.2)) (.inl rfl) (fun x28 => qf_ret rfl (by repeat (first | exact wk_nil | apply wk_a | apply wk_s))))))))))))))))) (by dsimp only [p_read_net])) rfl (by simp [okM]) (fun z => (coll_0P rfl coll_nilP))
theorem tok__law_hand (a0 : (List Int)) : ∀ z, p__law_hand a0 = some z → f__law_hand [eZ a0] = .ok ((eL eI) z) [eZ a0] :=
  fn_t (p0 := [some (eZ a0), none, none, none, none, none]) (m := p__law_hand a0) (rv := fun (z : (List Int)) => (eL eI) z) (q := fun (z : (List Int)) => [some (eZ a0), none, none, none, none, none]) (outs := fun z => [eZ a0]) (B.cv (b_setL (eL eI) (X.as (x_lst (xa_v (x_c (eI 0)) (fun x2 => (xa_v (x_c (eI 0)) (fun x3 => (xa_v (x_c (eI 0)) (fun x4 => xa_nil)))))) rfl (by decide)) (fun x5 => (eL eI) [(0 : Int), (0 : Int), (0 : Int)]) rfl) (.inl rfl) (fun x6 x7 => (b_ifj (xt_andP (xt_tst (x_primT (xa_v (x_primT (xa_p (x_var (d := eZ a0) 0 rfl) (fun _ => puZ _) (fun x9 => xa_nil)) (fun _ => op_lenZ _)) (fun x10 => (xa_v (x_c (eI 0)) (fun x11 => xa_nil)))) (fun _ => op_gt' _ _))) (fun x12 => (xt_tst (x_primT (xa_v (x_prim (xa_p (x_var (d := eZ a0) 0 rfl) (fun _ => puZ _) (fun x13 => (xa_v (x_c (eI 0)) (fun x14 => xa_nil)))) (fun _ _ h => op_ixZ h)) (fun x16 => (xa_v (x_primT (xa_v (x_c (eI 10)) (fun x17 => (xa_v (x_c (eI 18)) (fun x18 => xa_nil)))) (fun _ => op_powC (c := 1000000000000000000) (by decide +kernel) (by decide +kernel))) (fun x19 => xa_nil)))) (fun _ => op_ge' _ _))))) (fun x21 (x54 : ((List Int))) => [some (eZ a0), some ((eL eI) x54), none, none, none, none]) (fun x21 => (b_set (x_c (eI 1)) (.inl rfl) (fun x22 => (b_last (b_for (xi_mk (xa_v (x_sl (x_var (d := eZ a0) 0 rfl) (fun x23 => xpr_none) (fun x23 x24 => (xpr_some (x_c (eI 63)))) (fun _ _ _ => op_slZ _ _ _)) (fun x26 => xa_nil)) rfl puI (fun _ => it_L _)) (fun x27 (x28 : ((List Int) × Int)) => [some (eZ a0), some ((eL eI) x28.1), some (eI x28.2), none, none, none]) (fun x27 => (x7, (1 : Int))) (fun _ => rfl) (fun x27 => by repeat (first | exact wk_nil | apply wk_a | apply wk_s)) (fun x27 x28 x29 => as_nm) (fun x27 x28 x29 => (b_setIx (e1 := eI) (x_primT (xa_v (x_prim (xa_s 1 rfl (xa_v (x_c (eI 0)) (fun x32 => xa_nil)) (fun _ => rfl) (fun _ => puL)) (fun _ _ h => op_ixL puI h)) (fun x34 => (xa_v (x_prim (xa_v (x_primT (xa_v (x_primT (xa_p (x_var (d := eI x29) 3 rfl) (fun _ => puI _) (fun x35 => xa_nil)) (fun _ => op_abs _)) (fun x36 => (xa_v (x_primT (xa_v (x_c (eI 10)) (fun x37 => (xa_v (x_c (eI 60)) (fun x38 => xa_nil)))) (fun _ => op_powC (c := 1000000000000000000000000000000000000000000000000000000000000) (by decide +kernel) (by decide +kernel))) (fun x39 => xa_nil)))) (fun _ => op_modC (by decide +kernel))) (fun x40 => (xa_p (x_var (d := eI x28.2) 2 rfl) (fun _ => puI _) (fun x41 => xa_nil)))) (fun _ _ h => op_mul h)) (fun x43 => xa_nil)))) (fun _ => op_add _ _)) puI (fun _ => ⟨_, rfl⟩) (fun x44 => (x_c (eI 0))) (fun _ _ => .inl rfl) (fun _ _ => rfl) (fun x44 x45 x46 => (b_last (b_set (x_prim (xa_p (x_var (d := eI x28.2) 2 rfl) (fun _ => puI _) (fun x48 => (xa_v (x_primT (xa_v (x_c (eI 10)) (fun x49 => (xa_v (x_c (eI 60)) (fun x50 => xa_nil)))) (fun _ => op_powC (c := 1000000000000000000000000000000000000000000000000000000000000) (by decide +kernel) (by decide +kernel))) (fun x51 => xa_nil)))) (fun _ _ h => op_mul h)) (.inl rfl) (fun x53 => (b_endC (z := (x46, x53.2)) (by repeat (first | exact wk_nil | apply wk_a | apply wk_s))))))))) (fun x27 x28 => (b_end (z := x28.1) (by repeat (first | exact wk_nil | apply wk_a | apply wk_s))))))))) (fun x21 => (b_end (z := x7) (by repeat (first | exact wk_nil | apply wk_a | apply wk_s)))) (fun x21 x54 => (b_for (xi_mk (xa_v (x_sl (x_var (d := eZ a0) 0 rfl) (fun x56 => xpr_none) (fun x56 x57 => (xpr_some (x_c (eI 63)))) (fun _ _ _ => op_slZ _ _ _)) (fun x59 => xa_nil)) rfl (puP puI puI) (fun _ => it_eL _)) (fun x60 (x61 : ((List Int))) => [some (eZ a0), some ((eL eI) x61), none, none, none, none]) (fun x60 => x54) (fun _ => rfl) (fun x60 => by repeat (first | exact wk_nil | apply wk_a | apply wk_s)) (fun x60 x61 x62 => (as_tp (ass_cons as_nm (ass_cons as_nm ass_nil)))) (fun x60 x61 x62 => (b_setL eI (x_primT (xa_v (x_primT (xa_v (x_primT (xa_p (x_var (d := eI x62.2) 3 rfl) (fun _ => puI _) (fun x65 => (xa_v (x_c (eI 2305843009213693951)) (fun x66 => xa_nil)))) (fun _ => op_modC (by decide +kernel))) (fun x67 => (xa_v (x_primT (xa_v (x_c (eI 7919)) (fun x68 => (xa_p (x_var (d := eI x62.1) 4 rfl) (fun _ => puI _) (fun x69 => xa_nil)))) (fun _ => op_mulL (by decide +kernel))) (fun x70 => xa_nil)))) (fun _ => op_add _ _)) (fun x71 => (xa_v (x_c (eI 3)) (fun x72 => xa_nil)))) (fun _ => op_add _ _)) (.inl rfl) (fun x73 x74 => (b_last (b_setIx (e1 := eI) (x_primT (xa_v (x_primT (xa_v (x_primT (xa_v (x_prim (xa_s 1 rfl (xa_v (x_c (eI 1)) (fun x76 => xa_nil)) (fun _ => rfl) (fun _ => puL)) (fun _ _ h => op_ixL puI h)) (fun x78 => (xa_v (x_c (eI 48271)) (fun x79 => xa_nil)))) (fun _ => op_mulR (by decide +kernel))) (fun x80 => (xa_p (x_var (d := eI x74) 5 rfl) (fun _ => puI _) (fun x81 => xa_nil)))) (fun _ => op_add _ _)) (fun x82 => (xa_v (x_c (eI 2305843009213693951)) (fun x83 => xa_nil)))) (fun _ => op_modC (by decide +kernel))) puI (fun _ => ⟨_, rfl⟩) (fun x84 => (x_c (eI 1))) (fun _ _ => .inl rfl) (fun _ _ => rfl) (fun x84 x85 x86 => (b_endC (z := x86) (by repeat (first | exact wk_nil | apply wk_a | apply wk_s))))))))) (fun x60 x61 => (b_last (b_retS (R := x61) (i := 1) rfl rfl (qf_ret rfl (by repeat (first | exact wk_nil | apply wk_a | apply wk_s))))))))))) (by dsimp only [p__law_hand])) rfl (by simp [okM]) (fun z => (coll_0P rfl coll_nilP))
theorem tok__law_take (a0 : (List Int)) (a1 : Int) : ∀ z, p__law_take a0 a1 = some z → f__law_take [(eL eI) a0, eI a1] = .ok (eI z.1) [(eL eI) z.2, eI a1] :=
  fn_t (p0 := [some ((eL eI) a0), some (eI a1), none, none]) (m := p__law_take a0 a1) (rv := fun (z : (Int × (List Int))) => eI z.1) (q := fun (z : (Int × (List Int))) => [some ((eL eI) z.2), some (eI a1), none, none]) (outs := fun z => [(eL eI) z.2, eI a1]) (B.cv (b_if (xt_tst (x_primT (xa_v (x_prim (xa_s 0 rfl (xa_v (x_c (eI 0)) (fun x3 => xa_nil)) (fun _ => rfl) (fun _ => puL)) (fun _ _ h => op_ixL puI h)) (fun x5 => (xa_v (x_c (eI 0)) (fun x6 => xa_nil)))) (fun _ => op_gt' _ _))) (fun x7 => (b_asc (b_set (x_prim (xa_v (x_prim (xa_s 0 rfl (xa_v (x_c (eI 0)) (fun x8 => xa_nil)) (fun _ => rfl) (fun _ => puL)) (fun _ _ h => op_ixL puI h)) (fun x10 => (xa_p (x_var (d := eI a1) 1 rfl) (fun _ => puI _) (fun x11 => xa_nil)))) (fun _ _ h => op_mod' h)) (.inl rfl) (fun x13 => (b_asc (b_setIx (e1 := eI) (x_prim (xa_v (x_prim (xa_s 0 rfl (xa_v (x_c (eI 0)) (fun x14 => xa_nil)) (fun _ => rfl) (fun _ => puL)) (fun _ _ h => op_ixL puI h)) (fun x16 => (xa_p (x_var (d := eI a1) 1 rfl) (fun _ => puI _) (fun x17 => xa_nil)))) (fun _ _ h => op_div h)) puI (fun _ => ⟨_, rfl⟩) (fun x19 => (x_c (eI 0))) (fun _ _ => .inl rfl) (fun _ _ => rfl) (fun x19 x20 x21 => (b_ret (x_var (d := eI x13.2) 2 rfl) (fun x23 => (x13.2, x21)) (.inr (fun _ => puI _)) (fun x23 => qf_ret rfl (by repeat (first | exact wk_nil | apply wk_a | apply wk_s))))))))))) (fun x7 => (b_skip (b_setIx (e1 := eI) (x_primT (xa_v (x_prim (xa_s 0 rfl (xa_v (x_c (eI 2)) (fun x24 => xa_nil)) (fun _ => rfl) (fun _ => puL)) (fun _ _ h => op_ixL puI h)) (fun x26 => (xa_v (x_c (eI 1)) (fun x27 => xa_nil)))) (fun _ => op_add _ _)) puI (fun _ => ⟨_, rfl⟩) (fun x28 => (x_c (eI 2))) (fun _ _ => .inl rfl) (fun _ _ => rfl) (fun x28 x29 x30 => (b_setL eI (x_primT (xa_v (x_primT (xa_v (x_primT (xa_v (x_primT (xa_v (x_prim (xa_s 0 rfl (xa_v (x_c (eI 1)) (fun x32 => xa_nil)) (fun _ => rfl) (fun _ => puL)) (fun _ _ h => op_ixL puI h)) (fun x34 => (xa_v (x_prim (xa_v (x_primT (xa_v (x_c (eI 65537)) (fun x35 => (xa_v (x_prim (xa_s 0 rfl (xa_v (x_c (eI 2)) (fun x36 => xa_nil)) (fun _ => rfl) (fun _ => puL)) (fun _ _ h => op_ixL puI h)) (fun x38 => xa_nil)))) (fun _ => op_mulL (by decide +kernel))) (fun x39 => (xa_v (x_prim (xa_s 0 rfl (xa_v (x_c (eI 2)) (fun x40 => xa_nil)) (fun _ => rfl) (fun _ => puL)) (fun _ _ h => op_ixL puI h)) (fun x42 => xa_nil)))) (fun _ _ h => op_mul h)) (fun x44 => xa_nil)))) (fun _ => op_add _ _)) (fun x45 => (xa_v (x_c (eI 11)) (fun x46 => xa_nil)))) (fun _ => op_add _ _)) (fun x47 => (xa_v (x_c (eI 48271)) (fun x48 => xa_nil)))) (fun _ => op_mulR (by decide +kernel))) (fun x49 => (xa_v (x_c (eI 2305843009213693921)) (fun x50 => xa_nil)))) (fun _ => op_modC (by decide +kernel))) (.inl rfl) (fun x51 x52 => (b_setL eI (x_primT (xa_v (x_prim (xa_p (x_var (d := eI x52) 3 rfl) (fun _ => puI _) (fun x54 => (xa_v (x_primT (xa_v (x_primT (xa_p (x_var (d := eI x52) 3 rfl) (fun _ => puI _) (fun x55 => (xa_v (x_c (eI 1000003)) (fun x56 => xa_nil)))) (fun _ => op_modC (by decide +kernel))) (fun x57 => (xa_v (x_primT (xa_v (x_c (eI 99991)) (fun x58 => (xa_v (x_prim (xa_s 0 rfl (xa_v (x_c (eI 2)) (fun x59 => xa_nil)) (fun _ => rfl) (fun _ => puL)) (fun _ _ h => op_ixL puI h)) (fun x61 => xa_nil)))) (fun _ => op_mulL (by decide +kernel))) (fun x62 => xa_nil)))) (fun _ => op_add _ _)) (fun x63 => xa_nil)))) (fun _ _ h => op_mul h)) (fun x65 => (xa_v (x_c (eI 2305843009213693907)) (fun x66 => xa_nil)))) (fun _ => op_modC (by decide +kernel))) (.inl rfl) (fun x67 x68 => (b_last (b_ret (x_prim (xa_v (x_primT (xa_v (x_primT (xa_p (x_var (d := eI x68) 3 rfl) (fun _ => puI _) (fun x70 => (xa_v (x_c (eI 97)) (fun x71 => xa_nil)))) (fun _ => op_divC (by decide +kernel))) (fun x72 => (xa_v (x_primT (xa_p (x_var (d := eI x68) 3 rfl) (fun _ => puI _) (fun x73 => (xa_v (x_c (eI 1000033)) (fun x74 => xa_nil)))) (fun _ => op_divC (by decide +kernel))) (fun x75 => xa_nil)))) (fun _ => op_add _ _)) (fun x76 => (xa_p (x_var (d := eI a1) 1 rfl) (fun _ => puI _) (fun x77 => xa_nil)))) (fun _ _ h => op_mod' h)) (fun x79 => (x79.2, x30)) (.inl rfl) (fun x79 => qf_ret rfl (by repeat (first | exact wk_nil | apply wk_a | apply wk_s)))))))))))))) (by dsimp only [p__law_take])) rfl (by simp [okM]) (fun z => (coll_0P rfl (coll_0P rfl coll_nilP)))
theorem tok__law_net (a0 : (List Int)) (a1 : Int) (a2 : Int) : ∀ z, p__law_net a0 a1 a2 = some z → f__law_net [(eL eI) a0, eI a1, eI a2] = .ok ((eQ eI (eT (eP eI eI)) (eT eI)) z.1) [(eL eI) z.2, eI a1, eI a2] :=
  fn_t (p0 := [some ((eL eI) a0), some (eI a1), some (eI a2), none, none, none, none, none, none, none, none, none, none]) (m := p__law_net a0 a1 a2) (rv := fun (z : ((Int × (List (Int × Int)) × (List Int)) × (List Int))) => (eQ eI (eT (eP eI eI)) (eT eI)) z.1) (q := fun (z : ((Int × (List (Int × Int)) × (List Int)) × (List Int))) => [some ((eL eI) z.2), some (eI a1), some (eI a2), none, none, none, none, none, none, none, none, none, none]) (outs := fun z => [(eL eI) z.2, eI a1, eI a2]) (B.cv (b_setL eI (x_primT (xa_n 1 rfl (xa_v (x_prim (xa_v (X.as (x_lst (xa_v (x_c (eI 1)) (fun x5 => (xa_v (x_c (eI 2)) (fun x6 => (xa_v (x_c (eI 2)) (fun x7 => (xa_v (x_c (eI 3)) (fun x8 => (xa_v (x_c (eI 4)) (fun x9 => (xa_v (x_c (eI 4)) (fun x10 => (xa_v (x_c (eI 5)) (fun x11 => (xa_v (x_c (eI 6)) (fun x12 => (xa_v (x_c (eI 8)) (fun x13 => (xa_v (x_c (eI 16)) (fun x14 => xa_nil)))))))))))))))))))) rfl (by decide)) (fun x15 => (eL eI) [(1 : Int), (2 : Int), (2 : Int), (3 : Int), (4 : Int), (4 : Int), (5 : Int), (6 : Int), (8 : Int), (16 : Int)]) rfl) (fun x16 => (xa_v (x_call (xa_s 0 rfl (xa_v (x_c (eI 10)) (fun x17 => xa_nil)) (fun _ => rfl) (fun _ => puL)) rfl (fun _ _ h => tok__law_take  _ _ _ h) (fun _ _ => rfl) (fun _ (zz : Int × (List Int)) => [(0, (eL eI) zz.2)]) (fun _ _ => rfl)) (fun x19 => xa_nil)))) (fun _ _ h => op_ixL puI h)) (fun x21 => xa_nil)) (fun _ => rfl) (puI _)) (fun _ => op_min2 _ _)) (.inl rfl) (fun x22 x23 => (b_setL eI (x_primT (xa_v (x_primT (xa_n 2 rfl (xa_v (x_prim (xa_v (X.as (x_lst (xa_v (x_c (eI 0)) (fun x26 => (xa_v (x_c (eI 1)) (fun x27 => (xa_v (x_c (eI 2)) (fun x28 => (xa_v (x_c (eI 3)) (fun x29 => (xa_v (x_c (eI 5)) (fun x30 => (xa_v (x_c (eI 8)) (fun x31 => (xa_v (x_c (eI 12)) (fun x32 => (xa_v (x_c (eI 30)) (fun x33 => (xa_v (x_c (eI 128)) (fun x34 => xa_nil)))))))))))))))))) rfl (by decide)) (fun x35 => (eL eI) [(0 : Int), (1 : Int), (2 : Int), (3 : Int), (5 : Int), (8 : Int), (12 : Int), (30 : Int), (128 : Int)]) rfl) (fun x36 => (xa_v (x_call (xa_s 0 rfl (xa_v (x_c (eI 9)) (fun x37 => xa_nil)) (fun _ => rfl) (fun _ => puL)) rfl (fun _ _ h => tok__law_take  _ _ _ h) (fun _ _ => rfl) (fun _ (zz : Int × (List Int)) => [(0, (eL eI) zz.2)]) (fun _ _ => rfl)) (fun x39 => xa_nil)))) (fun _ _ h => op_ixL puI h)) (fun x41 => xa_nil)) (fun _ => rfl) (puI _)) (fun _ => op_min2 _ _)) (fun x42 => (xa_v (x_primT (xa_v (x_primT (xa_p (x_var (d := eI x23) 3 rfl) (fun _ => puI _) (fun x43 => (xa_v (x_c (eI 1)) (fun x44 => xa_nil)))) (fun _ => op_gt' _ _)) (fun x45 => xa_nil)) (fun _ => op_intB _)) (fun x46 => xa_nil)))) (fun _ => op_mulB _ _)) (.inl rfl) (fun x47 x48 => (b_setL (eL (eP eI eI)) (X.as (x_lst xa_nil rfl (by decide)) (fun x50 => (eL (eP eI eI)) ([] : (List (Int × Int)))) rfl) (.inl rfl) (fun x51 x52 => (b_for (xi_mkP (xa_p (x_var (d := eI x48) 4 rfl) (fun _ => puI _) (fun x54 => xa_nil)) rfl puI (fun _ _ h => it_r1 h)) (fun x56 (x57 : ((List Int) × (List (Int × Int)))) => [some ((eL eI) x57.1), some (eI a1), some (eI a2), some (eI x23), some (eI x48), some ((eL (eP eI eI)) x57.2), none, none, none, none, none, none, none]) (fun x56 => (x47.1.1.1.2.1.2.2, x52)) (fun _ => rfl) (fun x56 => by repeat (first | exact wk_nil | apply wk_a | apply wk_s)) (fun x56 x57 x58 => as_nm) (fun x56 x57 x58 => (b_set (x_call (xa_s 0 rfl (xa_p (x_var (d := eI x23) 3 rfl) (fun _ => puI _) (fun x61 => xa_nil)) (fun _ => rfl) (fun _ => puL)) rfl (fun _ _ h => tok__law_take  _ _ _ h) (fun _ _ => rfl) (fun _ (zz : Int × (List Int)) => [(0, (eL eI) zz.2)]) (fun _ _ => rfl)) (.inl rfl) (fun x63 => (b_set (x_prim (xa_v (x_primT (xa_v (x_primT (xa_p (x_var (d := eI x63.2.1) 7 rfl) (fun _ => puI _) (fun x64 => (xa_v (x_c (eI 1)) (fun x65 => xa_nil)))) (fun _ => op_add _ _)) (fun x66 => (xa_v (x_call (xa_s 0 rfl (xa_v (x_primT (xa_v (x_c (eI 1)) (fun x67 => (xa_v (x_primT (xa_p (x_var (d := eI x23) 3 rfl) (fun _ => puI _) (fun x68 => (xa_v (x_c (eI 1)) (fun x69 => xa_nil)))) (fun _ => op_sub' _ _)) (fun x70 => xa_nil)))) (fun _ => op_max2 _ _)) (fun x71 => xa_nil)) (fun _ => rfl) (fun _ => puL)) rfl (fun _ _ h => tok__law_take  _ _ _ h) (fun _ _ => rfl) (fun _ (zz : Int × (List Int)) => [(0, (eL eI) zz.2)]) (fun _ _ => rfl)) (fun x73 => xa_nil)))) (fun _ => op_add _ _)) (fun x74 => (xa_p (x_var (d := eI x23) 3 rfl) (fun _ => puI _) (fun x75 => xa_nil)))) (fun _ _ h => op_mod' h)) (.inl rfl) (fun x77 => (b_set (x_call (xa_s 0 rfl (xa_v (x_c (eI 5)) (fun x78 => xa_nil)) (fun _ => rfl) (fun _ => puL)) rfl (fun _ _ h => tok__law_take  _ _ _ h) (fun _ _ => rfl) (fun _ (zz : Int × (List Int)) => [(0, (eL eI) zz.2)]) (fun _ _ => rfl)) (.inl rfl) (fun x80 => (b_ifj (xt_andT (xt_tst (x_primT (xa_p (x_var (d := eI x80.2.1) 9 rfl) (fun _ => puI _) (fun x81 => (xa_v (x_c (eI 0)) (fun x82 => xa_nil)))) (fun _ => op_eq eqI (by decide) _ _))) (fun x83 => (xt_tst (x_primT (xa_s 5 rfl (xa_v (X.as (x_lst xa_nil rfl (by decide)) (fun x84 => (eL (eP eI eI)) ([] : (List (Int × Int)))) rfl) (fun x85 => xa_nil)) (fun _ => rfl) (fun _ => puL)) (fun _ => op_ne (eqL (eqP eqI eqI)) (by decide) _ _))))) (fun x86 (x91 : (Int × Int)) => [some ((eL eI) x80.2.2), some (eI a1), some (eI a2), some (eI x23), some (eI x48), some ((eL (eP eI eI)) x57.2), some (eI x58), some (eI x91.1), some (eI x91.2), some (eI x80.2.1), none, none, none]) (fun x86 => (b_last (b_asg (x_prim (xa_s 5 rfl (xa_v (x_primT (xa_v (x_c (eI 1)) (fun x87 => xa_nil)) (fun _ => op_neg _)) (fun x88 => xa_nil)) (fun _ => rfl) (fun _ => puL)) (fun _ _ h => op_ixL (puP puI puI) h)) (.inl rfl) (fun _ => (as_tp (ass_cons as_nm (ass_cons as_nm ass_nil)))) (fun x90 => (b_end (z := (x90.2.1, x90.2.2)) (by repeat (first | exact wk_nil | apply wk_a | apply wk_s))))))) (fun x86 => (b_end (z := (x63.2.1, x77.2)) (by repeat (first | exact wk_nil | apply wk_a | apply wk_s)))) (fun x86 x91 => (b_ifj (xt_tst (x_primT (xa_p (x_var (d := eI x80.2.1) 9 rfl) (fun _ => puI _) (fun x93 => (xa_v (x_c (eI 1)) (fun x94 => xa_nil)))) (fun _ => op_eq eqI (by decide) _ _))) (fun x95 (x107 : (Int × Int)) => [some ((eL eI) x80.2.2), some (eI a1), some (eI a2), some (eI x23), some (eI x48), some ((eL (eP eI eI)) x57.2), some (eI x58), some (eI x107.1), some (eI x107.2), some (eI x80.2.1), none, none, none]) (fun x95 => (b_last (b_par (xa_v (x_prim (xa_p (x_var (d := eI x58) 6 rfl) (fun _ => puI _) (fun x96 => (xa_p (x_var (d := eI x23) 3 rfl) (fun _ => puI _) (fun x97 => xa_nil)))) (fun _ _ h => op_mod' h)) (fun x99 => (xa_v (x_prim (xa_v (x_primT (xa_p (x_var (d := eI x58) 6 rfl) (fun _ => puI _) (fun x100 => (xa_v (x_c (eI 1)) (fun x101 => xa_nil)))) (fun _ => op_add _ _)) (fun x102 => (xa_p (x_var (d := eI x23) 3 rfl) (fun _ => puI _) (fun x103 => xa_nil)))) (fun _ _ h => op_mod' h)) (fun x105 => xa_nil)))) rfl (fun _ => rfl) (fun _ => put2) (fun x106 => (b_end (z := (x106.1.2, x106.2.1.2)) (by repeat (first | exact wk_nil | apply wk_a | apply wk_s))))))) (fun x95 => (b_end (z := (x91.1, x91.2)) (by repeat (first | exact wk_nil | apply wk_a | apply wk_s)))) (fun x95 x107 => (b_last (b_expr (x_mt rfl (xa_v (X.as (x_tup (xa_p (x_var (d := eI x107.1) 7 rfl) (fun _ => puI _) (fun x109 => (xa_p (x_var (d := eI x107.2) 8 rfl) (fun _ => puI _) (fun x110 => xa_nil)))) rfl (by decide)) (fun x111 => (eP eI eI) (x107.1, x107.2)) rfl) (fun x112 => xa_nil)) rfl (fun _ => rfl) (fun _ _ h => mt_app' h) (fun _ _ => rfl)) (fun x114 => (b_endC (z := (x80.2.2, x114.2)) (by repeat (first | exact wk_nil | apply wk_a | apply wk_s))))))))))))))))) (fun x56 x57 => (b_par (xa_v (x_prim (xa_p (x_var (d := eI x23) 3 rfl) (fun _ => puI _) (fun x115 => xa_nil)) (fun _ _ h => op_lrg1 h)) (fun x117 => (xa_v (X.as (x_lst xa_nil rfl (by decide)) (fun x118 => (eL eI) ([] : (List Int))) rfl) (fun x119 => xa_nil)))) rfl (fun _ => rfl) (fun _ => put2) (fun x120 => (b_setL eB (x_primT (xa_v (x_call (xa_s 0 rfl (xa_v (x_c (eI 2)) (fun x121 => xa_nil)) (fun _ => rfl) (fun _ => puL)) rfl (fun _ _ h => tok__law_take  _ _ _ h) (fun _ _ => rfl) (fun _ (zz : Int × (List Int)) => [(0, (eL eI) zz.2)]) (fun _ _ => rfl)) (fun x123 => (xa_v (x_c (eI 0)) (fun x124 => xa_nil)))) (fun _ => op_eq eqI (by decide) _ _)) (.inl rfl) (fun x125 x126 => (b_for (xi_mkP (xa_p (x_var (d := eI x23) 3 rfl) (fun _ => puI _) (fun x128 => xa_nil)) rfl puI (fun _ _ h => it_r1 h)) (fun x130 (x131 : ((List Int) × (List Int) × (List Int))) => [some ((eL eI) x131.1), some (eI a1), some (eI a2), some (eI x23), some (eI x48), some ((eL (eP eI eI)) x57.2), none, none, none, none, some ((eL eI) x131.2.1), some ((eL eI) x131.2.2), some (eB x126)]) (fun x130 => (x125.1.2.2, x120.1.2, ([] : (List Int)))) (fun _ => rfl) (fun x130 => by repeat (first | exact wk_nil | apply wk_a | apply wk_s)) (fun x130 x131 x132 => as_nm) (fun x130 x131 x132 => (b_last (b_expr (x_mt rfl (xa_v (x_mt rfl (xa_v (x_primT (xa_v (x_call (xa_s 0 rfl (xa_v (x_primT (xa_s 10 rfl xa_nil (fun _ => rfl) (fun _ => puL)) (fun _ => op_lenL _)) (fun x135 => xa_nil)) (fun _ => rfl) (fun _ => puL)) rfl (fun _ _ h => tok__law_take  _ _ _ h) (fun _ _ => rfl) (fun _ (zz : Int × (List Int)) => [(0, (eL eI) zz.2)]) (fun _ _ => rfl)) (fun x137 => (xa_v (x_primT (xa_p (x_var (d := eB x126) 12 rfl) (fun _ => puB _) (fun x138 => xa_nil)) (fun _ => op_intB _)) (fun x139 => xa_nil)))) (fun _ => op_mulB _ _)) (fun x140 => xa_nil)) rfl (fun _ => rfl) (fun _ _ h => mt_pop' puI h) (fun _ z => puI z.1)) (fun x142 => xa_nil)) rfl (fun _ => rfl) (fun _ _ h => mt_app' h) (fun _ _ => rfl)) (fun x144 => (b_endC (z := (x144.1.1.1.1.1.2.2, x144.1.1.2.2, x144.2)) (by repeat (first | exact wk_nil | apply wk_a | apply wk_s))))))) (fun x130 x131 => (b_last (b_ret (X.as (x_tup (xa_p (x_var (d := eI x23) 3 rfl) (fun _ => puI _) (fun x145 => (xa_v (x_primT (xa_s 5 rfl xa_nil (fun _ => rfl) (fun _ => puL)) (fun _ => op_tupL (puP puI puI) _)) (fun x146 => (xa_v (x_primT (xa_s 11 rfl xa_nil (fun _ => rfl) (fun _ => puL)) (fun _ => op_tupL puI _)) (fun x147 => xa_nil)))))) rfl (by decide)) (fun x148 => (eQ eI (eT (eP eI eI)) (eT eI)) (x23, x57.2, x131.2.2)) rfl) (fun x149 => ((x23, x57.2, x131.2.2), x131.1)) (.inl rfl) (fun x149 => qf_ret rfl (by repeat (first | exact wk_nil | apply wk_a | apply wk_s))))))))))))))))))) (by dsimp only [p__law_net])) rfl (by simp [okM]) (fun z => (coll_0P rfl (coll_0P rfl (coll_0P rfl coll_nilP))))
theorem tok__law_net_text (a0 : (Int × (List (Int × Int)) × (List Int))) : ∀ z, p__law_net_text a0 = some z → f__law_net_text [(eQ eI (eT (eP eI eI)) (eT eI)) a0] = .ok (eS z) [(eQ eI (eT (eP eI eI)) (eT eI)) a0] :=
  fn_t (p0 := [some ((eQ eI (eT (eP eI eI)) (eT eI)) a0), none, none, none, none]) (m := p__law_net_text a0) (rv := fun (z : Str) => eS z) (q := fun (z : Str) => [some ((eQ eI (eT (eP eI eI)) (eT eI)) a0), none, none, none, none]) (outs := fun z => [(eQ eI (eT (eP eI eI)) (eT eI)) a0]) (B.cv (b_set (x_prim (xa_v (X.as (x_lst (xa_v (x_prim (xa_v (x_c (eS "lanes ")) (fun x2 => (xa_v (x_prim (xa_v (x_primT (xa_p (x_var (d := (eQ eI (eT (eP eI eI)) (eT eI)) a0) 0 rfl) (fun _ => (puQ puI (puT (puP puI puI)) (puT puI)) _) (fun x3 => (xa_v (x_c (eI 0)) (fun x4 => xa_nil)))) (fun _ => op_ixQ0 puI _)) (fun x5 => xa_nil)) (fun _ _ h => op_strI h)) (fun x7 => xa_nil)))) (fun _ _ h => op_catS h)) (fun x9 => xa_nil)) rfl (by decide)) (fun x10 => (eL eS) [x10.1.2]) rfl) (fun x11 => (xa_v (x_mapP (ee := eS) (xi_mk (xa_v (x_primT (xa_p (x_var (d := (eQ eI (eT (eP eI eI)) (eT eI)) a0) 0 rfl) (fun _ => (puQ puI (puT (puP puI puI)) (puT puI)) _) (fun x12 => (xa_v (x_c (eI 1)) (fun x13 => xa_nil)))) (fun _ => op_ixQ1 (puT (puP puI puI)) _)) (fun x14 => xa_nil)) rfl (puP puI puI) (fun _ => it_T _)) rfl (fun x15 x16 => (as_tp (ass_cons as_nm (ass_cons as_nm ass_nil)))) (fun x15 x16 => (x_prim (xa_v (x_prim (xa_v (x_prim (xa_p (x_var (d := eI x16.1) 2 rfl) (fun _ => puI _) (fun x19 => xa_nil)) (fun _ _ h => op_strI h)) (fun x21 => (xa_v (x_c (eS " ")) (fun x22 => xa_nil)))) (fun _ _ h => op_catS h)) (fun x24 => (xa_v (x_prim (xa_p (x_var (d := eI x16.2) 3 rfl) (fun _ => puI _) (fun x25 => xa_nil)) (fun _ _ h => op_strI h)) (fun x27 => xa_nil)))) (fun _ _ h => op_catS h))) (.inl rfl) (fun x15 x16 => ((strI x16.1)).bind fun t20 => ((catS t20 (" " : Str))).bind fun t23 => ((strI x16.2)).bind fun t26 => ((catS t23 t26)).bind fun t28 => some t28) (fun _ _ => by repeat (first | exact wk_nil | apply wk_a | apply wk_s)) (by intro x y z h; simp only [] at h ⊢; repeat (first | (obtain ⟨hl, h⟩ := lim_inv h; simp only [lim_of hl]) | (obtain ⟨_, h1, h⟩ := Option.bind_eq_some_iff.mp h; simp only [h1, Option.bind_some] at h ⊢) | (cases h; rfl)))) (fun x31 => xa_nil)))) (fun _ _ h => op_catL puS h)) (.inl rfl) (fun x33 => (b_last (b_ret (x_ms (f := sJoin) (rv := fun _ _ => eS) (x_c (eS "\n")) (fun x34 => (x_prim (xa_s 1 rfl (xa_v (X.as (x_lst (xa_v (x_ms (f := sJoin) (rv := fun _ _ => eS) (x_c (eS " ")) (fun x35 => (x_prim (xa_v (X.as (x_lst (xa_v (x_c (eS "ends")) (fun x36 => xa_nil)) rfl (by decide)) (fun x37 => (eL eS) [("ends" : Str)]) rfl) (fun x38 => (xa_v (x_mapP (ee := eS) (xi_mk (xa_v (x_primT (xa_p (x_var (d := (eQ eI (eT (eP eI eI)) (eT eI)) a0) 0 rfl) (fun _ => (puQ puI (puT (puP puI puI)) (puT puI)) _) (fun x39 => (xa_v (x_c (eI 2)) (fun x40 => xa_nil)))) (fun _ => op_ixQ2 (puT puI) _)) (fun x41 => xa_nil)) rfl puI (fun _ => it_T _)) rfl (fun x42 x43 => as_nm) (fun x42 x43 => (x_prim (xa_p (x_var (d := eI x43) 4 rfl) (fun _ => puI _) (fun x46 => xa_nil)) (fun _ _ h => op_strI h))) (.inl rfl) (fun x42 x43 => ((strI x43)).bind fun t47 => some t47) (fun _ _ => by repeat (first | exact wk_nil | apply wk_a | apply wk_s)) (by intro x y z h; simp only [] at h ⊢; repeat (first | (obtain ⟨hl, h⟩ := lim_inv h; simp only [lim_of hl]) | (obtain ⟨_, h1, h⟩ := Option.bind_eq_some_iff.mp h; simp only [h1, Option.bind_some] at h ⊢) | (cases h; rfl)))) (fun x50 => xa_nil)))) (fun _ _ h => op_catL puS h))) (fun _ _ _ h => op_joinL h)) (fun x53 => xa_nil)) rfl (by decide)) (fun x54 => (eL eS) [x54.1.2.2]) rfl) (fun x55 => xa_nil)) (fun _ => rfl) (fun _ => puL)) (fun _ _ h => op_catL puS h))) (fun _ _ _ h => op_joinL h)) (fun x58 => x58.2.2) (.inl rfl) (fun x58 => qf_ret rfl (by repeat (first | exact wk_nil | apply wk_a | apply wk_s))))))) (by dsimp only [p__law_net_text])) rfl (by simp [okM]) (fun z => (coll_0P rfl coll_nilP))
theorem tok_law (n : Nat) (a0 : (List Int)) : ∀ z, p_law n a0 = some z → f_law n [eZ a0] = .ok (eB z) [eZ a0] :=
  fn_t (p0 := [some (eZ a0), none, none, none, none, none]) (m := p_law n a0) (rv := fun (z : Bool) => eB z) (q := fun (z : Bool) => [some (eZ a0), none, none, none, none, none]) (outs := fun z => [eZ a0]) (B.cv (b_set (x_callP (xa_p (x_var (d := eZ a0) 0 rfl) (fun _ => puZ _) (fun x2 => xa_nil)) rfl (fun _ _ h => tok__law_hand  _ _ h)) (.inl rfl) (fun x4 => (b_forR (xi_mk (xa_v (x_c (eI 6)) (fun x5 => xa_nil)) rfl puI (fun _ => it_r1C (by decide))) (fun x6 (x7 : ((List Int))) => [some (eZ a0), some ((eL eI) x7), none, none, none, none]) (fun x6 => x4.2) (fun (z : Bool) => eB z) (fun x6 x40 => [some (eZ a0), none, none, none, none, none]) (fun z => z) (fun _ => rfl) (fun x6 => by repeat (first | exact wk_nil | apply wk_a | apply wk_s)) (fun x6 x7 x8 => as_nm) (fun x6 x7 x8 => (b_set (x_call (xa_s 1 rfl (xa_v (x_c (eI 16)) (fun x11 => (xa_v (x_c (eI 128)) (fun x12 => xa_nil)))) (fun _ => rfl) (fun _ => puL)) rfl (fun _ _ h => tok__law_net  _ _ _ _ h) (fun _ _ => rfl) (fun _ (zz : (Int × (List (Int × Int)) × (List Int)) × (List Int)) => [(1, (eL eI) zz.2)]) (fun _ _ => rfl)) (.inl rfl) (fun x14 => (b_set (x_callP (xa_p (x_var (d := (eQ eI (eT (eP eI eI)) (eT eI)) x14.2.1) 3 rfl) (fun _ => (puQ puI (puT (puP puI puI)) (puT puI)) _) (fun x15 => xa_nil)) rfl (fun _ _ h => tok__law_net_text  _ _ h)) (.inl rfl) (fun x17 => (b_last (b_forR (xi_mk (xa_v (x_c (eI 2)) (fun x18 => xa_nil)) rfl puI (fun _ => it_r1C (by decide))) (fun x19 (x20 : Unit) => [some (eZ a0), some ((eL eI) x14.2.2), some (eI x8), some ((eQ eI (eT (eP eI eI)) (eT eI)) x14.2.1), some (eS x17.2), none]) (fun x19 => ()) (fun (z : Bool) => eB z) (fun x19 x38 => [some (eZ a0), none, none, none, none, none]) Lf.ret (fun _ => rfl) (fun x19 => by repeat (first | exact wk_nil | apply wk_a | apply wk_s)) (fun x19 x20 x21 => as_nm) (fun x19 x20 x21 => (b_last (b_if (xt_orP (xt_not (xt_tstA (x_callP (xa_v (x_callP (xa_p (x_var (d := (eQ eI (eT (eP eI eI)) (eT eI)) x14.2.1) 3 rfl) (fun _ => (puQ puI (puT (puP puI puI)) (puT puI)) _) (fun x24 => xa_nil)) rfl (fun _ _ h => tok_show_net  _ _ h)) (fun x26 => (xa_p (x_var (d := eS x17.2) 4 rfl) (fun _ => puS _) (fun x27 => xa_nil)))) rfl (fun _ _ h => tok__law_alike h)) (fun _ => tr_B _))) (fun x29 => (xt_not (xt_tstA (x_callP (xa_v (x_callP (xa_p (x_var (d := eS x17.2) 4 rfl) (fun _ => puS _) (fun x30 => xa_nil)) rfl (fun _ _ h => tok_read_net  _ _ h)) (fun x32 => (xa_p (x_var (d := (eQ eI (eT (eP eI eI)) (eT eI)) x14.2.1) 3 rfl) (fun _ => (puQ puI (puT (puP puI puI)) (puT puI)) _) (fun x33 => xa_nil)))) rfl (fun _ _ h => tok__law_alike h)) (fun _ => tr_B _))))) (fun x36 => (b_ret (x_c (eB false)) (fun x37 => (Lf.ret false)) (.inl rfl) (fun x37 => ql_ret rfl (by repeat (first | exact wk_nil | apply wk_a | apply wk_s))))) (fun x36 => (b_skip (b_endL (z := ()) (by repeat (first | exact wk_nil | apply wk_a | apply wk_s)))))))) (fun x19 x38 => ql_ret rfl (by repeat (first | exact wk_nil | apply wk_a | apply wk_s))) (fun x19 x20 => (b_endL (z := x14.2.2) (by repeat (first | exact wk_nil | apply wk_a | apply wk_s))))))))))) (fun x6 x40 => qf_ret rfl (by repeat (first | exact wk_nil | apply wk_a | apply wk_s))) (fun x6 x7 => (b_last (b_ret (x_c (eB true)) (fun x39 => true) (.inl rfl) (fun x39 => qf_ret rfl (by repeat (first | exact wk_nil | apply wk_a | apply wk_s))))))))) (by dsimp only [p_law])) rfl (by simp [okM]) (fun z => (coll_0P rfl coll_nilP))
/-! the drawer: numbers drawn one by one of three -/
def St3 (k : Int) (s : List Int) : Prop := ∃ a b c : Int, s = [a, b, c] ∧ 0 ≤ a ∧ 0 ≤ b ∧ b < 2305843009213693951 ∧ 0 ≤ c ∧ c ≤ k
theorem St3.mono {k k' : Int} {s : List Int} (h : St3 k s) (z : k ≤ k') : St3 k' s := by
  obtain ⟨a, b, c, e, q⟩ := h
  exact ⟨a, b, c, e, q.1, q.2.1, q.2.2.1, q.2.2.2.1, by omega⟩
theorem take_w {s : List Int} {k m : Int} (hk : k < 1000000000) (h : St3 k s) (hm : 0 < m) (hm2 : m < 1000000) : Sp (p__law_take s m) (fun r => 0 ≤ r.1 ∧ r.1 < m ∧ St3 (k + 1) r.2) := by
  obtain ⟨a, b, c, rfl, ha, hb, hb2, hc, hck⟩ := h
  unfold p__law_take
  simp only [at0, at1, at2, set0, set2, Option.bind_some]
  refine w_ite (fun c0 => ?_) fun c0 => ?_
  · rw [modT_of hm, Option.bind_some, divT_of hm (by omega)]
    exact w_some ⟨Int.emod_nonneg _ (by omega), Int.emod_lt_of_pos _ hm, _, _, _, rfl, Int.ediv_nonneg ha (by omega), hb, hb2, hc, by omega⟩
  · rw [mulT_r (by omega) (by omega), Option.bind_some, mulT_l (by omega) (by omega), Option.bind_some, modT_of hm]
    exact w_some ⟨Int.emod_nonneg _ (by omega), Int.emod_lt_of_pos _ hm, _, _, _, rfl, ha, hb, hb2, by omega, by omega⟩
theorem far_w {far : Int} {i : Nat} (h : far.natAbs < 2 ^ (200 * i + 1)) (hi : i ≤ 63) (x : Int) (h0 : 0 ≤ x) (hx : x < 1000000000000000000000000000000000000000000000000000000000000) :
    mulT x far = some (x * far) ∧ mulT far 1000000000000000000000000000000000000000000000000000000000000 = some (far * 1000000000000000000000000000000000000000000000000000000000000) ∧ (far * 1000000000000000000000000000000000000000000000000000000000000).natAbs < 2 ^ (200 * (i + 1) + 1) := by
  have h1 : far.natAbs.log2 < 200 * 63 + 2 := log2_lt (Nat.lt_of_lt_of_le h (Nat.pow_le_pow_right (by decide) (by omega))) (by decide)
  have h2 : x.natAbs.log2 < 201 := log2_lt (Nat.lt_of_lt_of_le (m := 1000000000000000000000000000000000000000000000000000000000000) (by omega) (by decide)) (by decide)
  have h3 : (1000000000000000000000000000000000000000000000000000000000000 : Int).natAbs.log2 < 201 := log2_lt (by decide) (by decide)
  refine ⟨?_, ?_, ?_⟩
  · unfold mulT mulOk
    have : x.natAbs.log2 + far.natAbs.log2 < 1000000 := by omega
    rw [decide_eq_true this, Bool.or_true, if_pos rfl]
  · unfold mulT mulOk
    have : far.natAbs.log2 + (1000000000000000000000000000000000000000000000000000000000000 : Int).natAbs.log2 < 1000000 := by omega
    rw [decide_eq_true this, Bool.or_true, if_pos rfl]
  · rw [Int.natAbs_mul, show 200 * (i + 1) + 1 = (200 * i + 1) + 200 by omega, Nat.pow_add]
    exact Nat.mul_lt_mul'' h (by decide)
theorem hand_w (ns : List Int) (hl : ns.length ≤ 63) : Sp (p__law_hand ns) (St3 0) := by
  unfold p__law_hand
  have hc : cutL ns none (some 63) = ns := cutL_all ns (k := 63) hl
  refine w_let fun st hst => ?_
  subst hst
  rw [hc]
  refine w_bind (P := fun _ => True) ?_ fun t20 _ => ?_
  · refine w_ite (fun c => ?_) fun c => w_some trivial
    have c := of_decide_eq_true c
    rw [atI_get' (by decide) (by omega)]
    exact w_some trivial
  refine w_bind (P := fun s : List Int => ∃ x, s = [x, 0, 0] ∧ 0 ≤ x) ?_ fun s hs => ?_
  · refine w_ite (fun c => ?_) fun c => w_some ⟨0, rfl, by decide⟩
    refine w_bind (w_lpN (fun i s => ∃ x, s.1 = [x, 0, 0] ∧ 0 ≤ x ∧ 0 ≤ s.2 ∧ s.2.natAbs < 2 ^ (200 * i + 1)) ⟨0, rfl, by decide, by decide, by decide⟩ fun i s y hy hi => ?_) fun s hs => ?_
    · obtain ⟨s1, far⟩ := s
      obtain ⟨x, hx, h0, h1, h2⟩ := hi
      have hx : s1 = [x, 0, 0] := hx
      subst hx
      have hi63 : i ≤ 63 := by
        have := (List.getElem?_eq_some_iff.mp hy).1
        omega
      obtain ⟨m1, m2, m3⟩ := far_w h2 hi63 (absT y % 1000000000000000000000000000000000000000000000000000000000000) (Int.emod_nonneg _ (by decide)) (Int.emod_lt_of_pos _ (by decide))
      simp only [at0, set0, Option.bind_some]
      rw [m1, Option.bind_some, m2]
      exact w_some ⟨_, rfl, Int.add_nonneg h0 (Int.mul_nonneg (Int.emod_nonneg _ (by decide)) h1), Int.mul_nonneg h1 (by decide), m3⟩
    · obtain ⟨x, hx, h0, _⟩ := hs
      exact w_some ⟨x, hx, h0⟩
  obtain ⟨x, rfl, hx⟩ := hs
  refine w_bind (w_lpN (fun _ s => ∃ y, s = [x, y, 0] ∧ 0 ≤ y ∧ y < 2305843009213693951) ⟨0, rfl, by decide, by decide⟩ fun i s y hy hi => ?_) fun s hs => ?_
  · obtain ⟨z, rfl, _, _⟩ := hi
    simp only [at1, set1, Option.bind_some]
    exact w_some ⟨_, rfl, Int.emod_nonneg _ (by decide), Int.emod_lt_of_pos _ (by decide)⟩
  · obtain ⟨y, rfl, y0, y1⟩ := hs
    exact w_some ⟨x, y, 0, rfl, hx, y0, y1, by decide, by decide⟩
/-! nets that are drawn -/
abbrev Net := Int × List (Int × Int) × List Int
def GoodF (L : Int) (p : Int × Int) : Prop := 0 ≤ p.1 ∧ p.1 < L ∧ 0 ≤ p.2 ∧ p.2 < L ∧ p.1 ≠ p.2
structure GoodN (N : Net) : Prop where
  l1 : 1 ≤ N.1
  l16 : N.1 ≤ 16
  many : N.2.1.length ≤ 128
  forks : ∀ p ∈ N.2.1, GoodF N.1 p
  ends : N.2.2.Perm (rngI 0 N.1.toNat)
theorem GoodN.elen {N : Net} (h : GoodN N) : N.2.2.length = N.1.toNat := by rw [h.ends.length_eq, rngI_len]
theorem GoodN.eget {N : Net} (h : GoodN N) {x : Int} (hx : x ∈ N.2.2) : 0 ≤ x ∧ x < N.1 := by
  have := rngI_mem (h.ends.mem_iff.mp hx)
  have := h.l1
  omega
theorem ring_ne {L a b : Int} (hL : 2 ≤ L) (a0 : 0 ≤ a) (a1 : a < L) (b0 : 0 ≤ b) (b1 : b < L - 1) : (a + 1 + b) % L ≠ a := by
  intro z
  rcases Int.lt_or_le (a + 1 + b) L with y | y
  · rw [Int.emod_eq_of_lt (by omega) y] at z; omega
  · rw [show a + 1 + b = (a + 1 + b - L) + L * 1 by omega, Int.add_mul_emod_self_left, Int.emod_eq_of_lt (by omega) (by omega)] at z; omega
theorem next_ne {L k : Int} (hL : 2 ≤ L) : k % L ≠ (k + 1) % L := by
  intro z
  have q1 := Int.emod_nonneg k (show L ≠ 0 by omega)
  have q2 := Int.emod_lt_of_pos k (show 0 < L by omega)
  have := ring_ne (b := 0) hL q1 q2 (by omega) (by omega)
  apply this
  rw [Int.add_zero, Int.emod_add_emod]
  exact z.symm
theorem perm_pop {α : Type} (lf en : List α) (j : Nat) (hj : j < lf.length) : (lf.eraseIdx j ++ (en ++ [lf[j]])).Perm (lf ++ en) := by
  have e : lf.Perm (lf[j] :: lf.eraseIdx j) := by
    rw [List.eraseIdx_eq_take_drop_succ]
    have z : lf = lf.take j ++ lf[j] :: lf.drop (j + 1) := by
      rw [← List.drop_eq_getElem_cons hj, List.take_append_drop]
    conv => lhs; rw [z]
    exact List.perm_middle
  refine .trans ?_ (e.append_right en).symm
  rw [← List.append_assoc]
  exact (List.perm_append_comm (l₁ := lf.eraseIdx j ++ en) (l₂ := [lf[j]]))
theorem net_w {s : List Int} {k : Int} (hk : k < 100000) (h : St3 k s) : Sp (p__law_net s 16 128) (fun r => GoodN r.1 ∧ St3 (k + 500) r.2) := by
  unfold p__law_net
  refine w_bind (take_w (by omega) h (by decide) (by decide)) fun r1 ⟨a0, a1, s1⟩ => ?_
  refine w_bind (P := fun x => 1 ≤ x ∧ x ≤ 16) ((w_atI a0 (by simpa using a1)).mono fun x hx => by
    simp only [List.mem_cons, List.not_mem_nil, or_false] at hx; omega) fun l0 hl => ?_
  refine w_let fun L hL => ?_
  have hL : L = l0 := by omega
  subst hL
  refine w_bind (take_w (by omega) s1 (by decide) (by decide)) fun r2 ⟨b0, b1, s2⟩ => ?_
  refine w_bind (P := fun x => 0 ≤ x ∧ x ≤ 128) ((w_atI b0 (by simpa using b1)).mono fun x hx => by
    simp only [List.mem_cons, List.not_mem_nil, or_false] at hx; omega) fun m0 hm => ?_
  refine w_let fun many hmany => ?_
  have hmany : 0 ≤ many ∧ many ≤ 128 ∧ (0 < many → 2 ≤ L) := by
    rw [hmany]
    by_cases c : (1 : Int) < L
    · rw [decide_eq_true c, if_pos rfl]; omega
    · rw [decide_eq_false c, if_neg (by simp)]; omega
  refine w_let fun f0 hf0 => ?_
  subst hf0
  rw [rngO_of (by omega), Option.bind_some]
  refine w_bind (w_lpN (fun i s => s.2.length = i ∧ (∀ p ∈ s.2, GoodF L p) ∧ St3 (k + 2 + 3 * i) s.1) ⟨rfl, by simp, s2.mono (by omega)⟩ fun i s y hy hi => ?_) fun sF hF => ?_
  · obtain ⟨y1, y2⟩ := rngI_get hy
    obtain ⟨h1, h2, h3⟩ := hi
    have hL2 : 2 ≤ L := by omega
    refine w_bind (take_w (by omega) h3 (by omega) (by omega)) fun u1 ⟨c0, c1, t1⟩ => ?_
    refine w_bind (take_w (by omega) t1 (by omega) (by omega)) fun u2 ⟨d0, d1, t2⟩ => ?_
    rw [modT_of (by omega), Option.bind_some]
    refine w_bind (take_w (by omega) t2 (by decide) (by decide)) fun u3 ⟨e0, e1, t3⟩ => ?_
    have m0 := Int.emod_nonneg (u1.1 + 1 + u2.1) (show L ≠ 0 by omega)
    have m1 := Int.emod_lt_of_pos (u1.1 + 1 + u2.1) (show 0 < L by omega)
    have g0 : GoodF L (u1.1, (u1.1 + 1 + u2.1) % L) := ⟨c0, c1, m0, m1, fun z => ring_ne hL2 c0 c1 d0 (by omega) z.symm⟩
    refine w_bind (P := GoodF L) ?_ fun q1 hq1 => ?_
    · refine w_ite (fun c => ?_) fun c => w_some g0
      rw [Bool.and_eq_true] at c
      have hne : s.2 ≠ [] := by simpa using c.2
      rw [atI_lastne hne]
      exact w_some (h2 _ (List.getLast_mem hne))
    refine w_bind (P := GoodF L) ?_ fun q2 hq2 => ?_
    · refine w_ite (fun c => ?_) fun c => w_some hq1
      rw [modT_of (by omega), Option.bind_some, modT_of (by omega), Option.bind_some]
      exact w_some ⟨Int.emod_nonneg _ (by omega), Int.emod_lt_of_pos _ (by omega), Int.emod_nonneg _ (by omega), Int.emod_lt_of_pos _ (by omega), next_ne hL2⟩
    rw [appT_of (by omega), Option.bind_some]
    refine w_some ⟨by simp [h1], fun p hp => ?_, t3.mono (by omega)⟩
    rcases List.mem_append.mp hp with z | z
    · exact h2 p z
    · rw [List.mem_singleton.mp z]; exact hq2
  obtain ⟨f1, f2, f3⟩ := hF
  rw [rngI_len] at f1 f3
  rw [rngO_of (by omega), Option.bind_some]
  refine w_bind (take_w (by omega) f3 (by decide) (by decide)) fun u ⟨_, _, s4⟩ => ?_
  refine w_let fun sh _ => ?_
  rw [Option.bind_some]
  refine w_bind (w_lpN (fun i s => s.2.1.length + i = L.toNat ∧ s.2.2.length = i ∧ (s.2.1 ++ s.2.2).Perm (rngI 0 L.toNat) ∧ St3 (k + 400 + i) s.1) ⟨by simp [rngI_len], rfl, by simp, s4.mono (by omega)⟩ fun i s y hy hi => ?_) fun sE hE => ?_
  · obtain ⟨y1, y2⟩ := rngI_get hy
    obtain ⟨h1, h2, h3, h4⟩ := hi
    refine w_bind (take_w (by omega) h4 (by omega) (by omega)) fun u1 ⟨c0, c1, t1⟩ => ?_
    obtain ⟨j, hj, hj2⟩ : ∃ j : Nat, u1.1 * (if sh = true then 1 else 0) = j ∧ j < s.2.1.length := by
      cases sh with
      | true => exact ⟨u1.1.toNat, by simp; omega, by omega⟩
      | false => exact ⟨0, by simp, by omega⟩
    rw [hj, popT_of (by omega) (by omega) (by omega), Option.bind_some, appT_of (by omega), Option.bind_some]
    refine w_some ⟨?_, by simp [h2], ?_, t1.mono (by omega)⟩
    · show (s.2.1.eraseIdx (Int.toNat (j : Int))).length + _ = _
      rw [Int.toNat_natCast, List.length_eraseIdx_of_lt hj2]; omega
    · exact (perm_pop s.2.1 s.2.2 j hj2).trans h3
  obtain ⟨e1, e2, e3, e4⟩ := hE
  rw [rngI_len] at e1 e4
  have hn : sE.2.1 = [] := List.eq_nil_of_length_eq_zero (by omega)
  rw [hn, List.nil_append] at e3
  exact w_some ⟨⟨by show 1 ≤ L; omega, by show L ≤ 16; omega, by show sF.2.length ≤ 128; omega, f2, e3⟩, e4.mono (by omega)⟩
/-! what a thing is, by both looks (k01) -/
def betw : D → Int → Int → Bool
  | .int i, l, m => decide (l ≤ i) && decide (i < m)
  | _, _, _ => false
theorem lane_p (t : PD) (m : Int) : p_is_lane t m = some (betw t.1 0 m) := by
  obtain ⟨d, h⟩ := t
  cases d <;> rfl
theorem dP_puO {a : D} (ha : pur a = true) : dP (puO (some a)) = some ⟨a, ha⟩ := by
  unfold puO dP
  simp only [ha, if_true, Option.bind_some, dite_true]
theorem ix0 {a : D} {r : List D} {h : pur (.tuple (a :: r)) = true} (ha : pur a = true) : dP (pIx [eV ⟨.tuple (a :: r), h⟩, eI 0]) = some ⟨a, ha⟩ := by
  show dP (puO (atI (a :: r) 0)) = _
  rw [atI_get' (by decide) (by simp <;> omega)]
  exact dP_puO ha
theorem ix1 {a b : D} {r : List D} {h : pur (.tuple (a :: b :: r)) = true} (hb : pur b = true) : dP (pIx [eV ⟨.tuple (a :: b :: r), h⟩, eI 1]) = some ⟨b, hb⟩ := by
  show dP (puO (atI (a :: b :: r) 1)) = _
  rw [atI_get' (by decide) (by simp <;> omega)]
  exact dP_puO hb
theorem ln_t {ds : List D} {h : pur (.tuple ds) = true} : dI (pLen [eV ⟨.tuple ds, h⟩]) = some (ds.length : Int) := rfl
theorem isint (d : D) : (∃ i, d = .int i) ∨ ∀ i, d ≠ .int i := by
  cases d with
  | int i => exact .inl ⟨i, rfl⟩
  | _ => exact .inr fun i h => by cases h
theorem not_tup {d : D} (h : ∀ ds, d ≠ .tuple ds) : isK .tup d = false := by
  cases d with
  | tuple ds => exact absurd rfl (h ds)
  | _ => rfl
theorem is_tup (d : D) : (∃ x, d = .tuple x) ∨ ∀ x, d ≠ .tuple x := by
  cases d with
  | tuple x => exact .inl ⟨x, rfl⟩
  | _ => exact .inr fun x h => by cases h
theorem pur_hd {a : D} {r : List D} (h : pur (.tuple (a :: r)) = true) : pur a = true ∧ pur (.tuple r) = true := by
  simp only [pur, purs, Bool.and_eq_true] at h ⊢
  exact h
theorem isK_tup {ds : List D} : isK .tup (.tuple ds) = true := rfl
theorem betw_no {d : D} (h : ∀ i, d ≠ .int i) (l m : Int) : betw d l m = false := by
  cases d with
  | int i => exact absurd rfl (h i)
  | _ => rfl
theorem betw_i (i l m : Int) : betw (.int i) l m = (decide (l ≤ i) && decide (i < m)) := rfl
theorem seq_t : ∀ (ds : List D), purs ds = true → ∃ ys : List PD, mapO rV ds = some ys ∧ ds = ys.map eV
  | [], _ => ⟨[], rfl, rfl⟩
  | d :: ds, h => by
    rw [purs_cons, Bool.and_eq_true] at h
    obtain ⟨ys, e1, e2⟩ := seq_t ds h.2
    refine ⟨⟨d, h.1⟩ :: ys, ?_, by rw [List.map_cons, ← e2]; rfl⟩
    rw [mapO, e1]
    have : rV d = some ⟨d, h.1⟩ := dif_pos h.1
    rw [this]; rfl
def neI : D → D → Bool
  | .int i, .int j => !decide (i = j)
  | _, _ => false
def forkB (L : Int) : D → Bool
  | .tuple [a, b] => betw a 0 L && betw b 0 L && neI a b
  | _ => false
theorem forkB_2 (L : Int) (a b : D) : forkB L (.tuple [a, b]) = (betw a 0 L && betw b 0 L && neI a b) := rfl
theorem forkB_no {L : Int} {ds : List D} (h : ds.length ≠ 2) : forkB L (.tuple ds) = false := by
  match ds, h with
  | [], _ => rfl
  | [_], _ => rfl
  | [a, b], h => exact absurd rfl h
  | _ :: _ :: _ :: r, _ => rfl
theorem fork_sh (d : D) : (∃ a b, d = .tuple [a, b]) ∨ ((∀ ds, d ≠ .tuple ds) ∨ ∃ ds, d = .tuple ds ∧ ds.length ≠ 2) := by
  rcases (is_tup d).symm with h | ⟨ds, rfl⟩
  · exact .inr (.inl h)
  · match ds with
    | [] => exact .inr (.inr ⟨_, rfl, by simp⟩)
    | [_] => exact .inr (.inr ⟨_, rfl, by simp⟩)
    | [a, b] => exact .inl ⟨a, b, rfl⟩
    | _ :: _ :: _ :: r => exact .inr (.inr ⟨_, rfl, by simp⟩)
theorem seq_2 {a b : D} {h : pur (.tuple [a, b]) = true} (ha : pur a = true) (hb : pur b = true) : seqV ⟨.tuple [a, b], h⟩ = some [⟨a, ha⟩, ⟨b, hb⟩] := by
  show mapO rV [a, b] = _
  have ea : rV a = some ⟨a, ha⟩ := dif_pos ha
  have eb : rV b = some ⟨b, hb⟩ := dif_pos hb
  simp [mapO, ea, eb]
theorem ne_ii {i j : Int} {h : pur (.int i) = true} {h' : pur (.int j) = true} : dB (pNe [eV ⟨.int i, h⟩, eV ⟨.int j, h'⟩]) = some (!decide (i = j)) := by
  have := op_ne eqI (by decide) i j
  show dB (pNe [eI i, eI j]) = _
  rw [this]; rfl
theorem eq_ii {i j : Int} {h : pur (.int i) = true} {h' : pur (.int j) = true} : dB (pEq [eV ⟨.int i, h⟩, eV ⟨.int j, h'⟩]) = some (decide (i = j)) := by
  have := op_eq eqI (by decide) i j
  show dB (pEq [eI i, eI j]) = _
  rw [this]; rfl
theorem betw_int {d : D} {l m : Int} (h : betw d l m = true) : ∃ i, d = .int i ∧ l ≤ i ∧ i < m := by
  cases d with
  | int i =>
    rw [betw_i, Bool.and_eq_true] at h
    exact ⟨i, rfl, of_decide_eq_true h.1, of_decide_eq_true h.2⟩
  | _ => cases h
theorem fork_p (d : D) (hd : pur d = true) (L : Int) : p_is_fork ⟨d, hd⟩ L = some (forkB L d) := by
  unfold p_is_fork
  rcases fork_sh d with ⟨a, b, rfl⟩ | nt | ⟨ds, rfl, hl⟩
  · obtain ⟨ha, hr⟩ := pur_hd hd
    obtain ⟨hb, _⟩ := pur_hd hr
    have l2 : decide ((([a, b] : List D).length : Int) = 2) = true := by simp
    simp only [isK_tup, ln_t, ix0 ha, ix1 hb, seq_2 ha hb, lane_p, Option.bind_some, l2, Bool.not_true, Bool.false_eq_true, if_false, forkB_2]
    rw [lim_of (by simp)]
    rcases Bool.eq_false_or_eq_true (betw a 0 L) with h1 | h1
    · rcases Bool.eq_false_or_eq_true (betw b 0 L) with h2 | h2
      · obtain ⟨i, rfl, _⟩ := betw_int h1
        obtain ⟨j, rfl, _⟩ := betw_int h2
        simp [mapO, h1, h2, neI]
        exact ne_ii
      · simp [mapO, h1, h2]
    · simp [mapO, h1]
  · have : forkB L d = false := by
      cases d with
      | tuple ds => exact absurd rfl (nt ds)
      | _ => rfl
    simp [not_tup nt, this]
  · have l2 : decide ((ds.length : Int) = 2) = false := decide_eq_false (by omega)
    simp only [isK_tup, ln_t, Option.bind_some, l2, forkB_no hl]
    simp
def intD : D → Int
  | .int i => i
  | _ => 0
def endsB (L : Int) : D → Bool
  | .tuple ds => ds.all (fun d => betw d 0 L) && decide (sortI (ds.map intD) = rngI 0 L.toNat)
  | _ => false
theorem ints_of : ∀ {ds : List D} {L : Int}, ds.all (fun d => betw d 0 L) = true → ds = (ds.map intD).map PyData.int ∧ ∀ i ∈ ds.map intD, 0 ≤ i ∧ i < L
  | [], _, _ => ⟨rfl, by simp⟩
  | d :: ds, L, h => by
    rw [List.all_cons, Bool.and_eq_true] at h
    obtain ⟨i, rfl, h1, h2⟩ := betw_int h.1
    obtain ⟨e1, e2⟩ := ints_of h.2
    refine ⟨?_, ?_⟩
    · rw [List.map_cons, List.map_cons, ← e1]; rfl
    · intro j hj
      rw [List.map_cons] at hj
      rcases List.mem_cons.mp hj with rfl | hj
      · exact ⟨h1, h2⟩
      · exact e2 j hj
theorem rT_ints' : ∀ xs : List Int, rT rI (.tuple (xs.map .int)) = some xs
  | [] => rfl
  | x :: xs => by
    have ih := rT_ints' xs
    show mapO rI (.int x :: xs.map .int) = _
    rw [mapO, show mapO rI (xs.map PyData.int) = some xs from ih]
    rfl
theorem ends_p (d : D) (hd : pur d = true) {L : Int} (h0 : 0 ≤ L ∧ L ≤ 1000) (hs : ∀ ds, d = .tuple ds → ds.length ≤ 1000000) : p_are_ends ⟨d, hd⟩ L = some (endsB L d) := by
  unfold p_are_ends
  rcases (is_tup d).symm with nt | ⟨ds, rfl⟩
  · have : endsB L d = false := by
      cases d with
      | tuple ds => exact absurd rfl (nt ds)
      | _ => rfl
    simp [not_tup nt, this]
  · have hp : purs ds = true := by rwa [pur_tuple] at hd
    obtain ⟨ys, e1, e2⟩ := seq_t ds hp
    have e3 : seqV ⟨.tuple ds, hd⟩ = some ys := e1
    have hl : ys.length = ds.length := by rw [e2, List.length_map]
    simp only [isK_tup, Bool.not_true, Bool.false_eq_true, if_false, e3, Option.bind_some]
    rw [lim_of (by rw [hl]; exact hs ds rfl), mapO_eq (g := fun y : PD => betw y.1 0 L) fun y _ => by rw [lane_p]; rfl]
    have ea : List.all (ys.map fun y : PD => betw y.1 0 L) id = ds.all (fun d => betw d 0 L) := by
      rw [e2, List.all_map, List.all_map]; rfl
    simp only [Option.bind_some, ea, endsB]
    cases ha : ds.all (fun d => betw d 0 L) with
    | false => simp
    | true =>
      obtain ⟨i1, i2⟩ := ints_of ha
      have er : rT rI (.tuple ds) = some (ds.map intD) := by
        have := rT_ints' (ds.map intD)
        rwa [← i1] at this
      simp only [Bool.not_true, Bool.false_eq_true, if_false, er, Option.bind_some, Bool.true_and]
      rw [rngO_of (by omega)]
      rfl
theorem rngI_rise : ∀ (lo : Int) (n : Nat), (rngI lo n).Pairwise (· < ·)
  | _, 0 => .nil
  | lo, n + 1 => by
    rw [rngI_succ]
    refine List.pairwise_cons.mpr ⟨fun x hx => ?_, rngI_rise _ _⟩
    have := rngI_mem hx
    omega
theorem ends_is {L : Int} {es : List Int} (h : 1 ≤ L ∧ L ≤ 16) (p : es.Perm (rngI 0 L.toNat)) (hp : pur (eT eI es) = true) : p_are_ends ⟨eT eI es, hp⟩ L = some true := by
  have len : es.length = L.toNat := by rw [p.length_eq, rngI_len]
  rw [ends_p (eT eI es) hp (by omega) (fun ds e => by cases e; rw [List.length_map]; omega)]
  have e : endsB L (eT eI es) = true := by
    show ((es.map eI).all (fun d => betw d 0 L) && decide (sortI ((es.map eI).map intD) = rngI 0 L.toNat)) = true
    simp only [Bool.and_eq_true, decide_eq_true_eq, List.all_eq_true]
    refine ⟨fun x hx => ?_, ?_⟩
    · obtain ⟨q, hq, rfl⟩ := List.mem_map.mp hx
      have := rngI_mem (p.mem_iff.mp hq)
      show (decide (0 ≤ q) && decide (q < L)) = true
      rw [decide_eq_true (by omega), decide_eq_true (by omega)]; rfl
    · rw [List.map_map, show (intD ∘ eI) = id from rfl, List.map_id]
      exact rise_eq ((sortI_perm _).trans p) (sortI_rise _) ((rngI_rise 0 L.toNat).imp fun h => by omega)
  rw [e]
/-! texts of numbers -/
def numS (i : Int) : Str := Str.ofString (toString i)
theorem tl_nn (n : Nat) : TL.tl (numS (n : Int)) = TL.numL n := TL.tl_num n
theorem tl_neg (n : Nat) : TL.tl (numS (-((n + 1 : Nat) : Int))) = 45 :: TL.numL (n + 1) := by
  have e : (toString (-((n + 1 : Nat) : Int)) : String) = "-" ++ toString (((n + 1 : Nat) : Int)) := rfl
  have z := TL.tl_num (n + 1)
  unfold numS
  rw [e, TL.tl_ofString, String.toList_append, List.map_append]
  rw [TL.tl_ofString] at z
  rw [z]; rfl
theorem dig_is {c : Nat} {n : Nat} (h : c ∈ TL.numL n) : 48 ≤ c ∧ c ≤ 57 := by
  by_cases a : c < 48
  · exact absurd h (TL.numL_free (.inl a))
  · by_cases b : 57 < c
    · exact absurd h (TL.numL_free (.inr b))
    · omega
theorem dig_in {c : Nat} (h : 48 ≤ c ∧ c ≤ 57) : inSS ⟨#[c]⟩ ("0123456789" : Str) = true := by
  have e : ∀ d : Fin 10, inSS ⟨#[48 + d.1]⟩ ("0123456789" : Str) = true := by decide +kernel
  have z := e ⟨c - 48, by omega⟩
  rw [show 48 + (⟨c - 48, by omega⟩ : Fin 10).1 = c by show 48 + (c - 48) = c; omega] at z
  exact z
theorem one_ok {c : Nat} (h : 48 ≤ c ∧ c ≤ 57) : eqSO ⟨#[c]⟩ ("0" : Str) = some (decide (c = 48)) := by
  have e : ∀ d : Fin 10, eqSO ⟨#[48 + d.1]⟩ ("0" : Str) = some (decide (48 + d.1 = 48)) := by decide +kernel
  have z := e ⟨c - 48, by omega⟩
  rw [show 48 + (⟨c - 48, by omega⟩ : Fin 10).1 = c by show 48 + (c - 48) = c; omega] at z
  exact z
theorem num_head : ∀ (n : Nat), 0 < n → ∃ c r, TL.numL n = c :: r ∧ 48 < c ∧ c ≤ 57 := fun n => by
  induction n using Nat.strongRecOn with
  | _ n ih =>
    intro h
    by_cases c : n < 10
    · exact ⟨48 + n, [], TL.numL_lt c, by omega, by omega⟩
    · obtain ⟨x, r, e, h1, h2⟩ := ih (n / 10) (by omega) (by omega)
      exact ⟨x, r ++ [48 + n % 10], by rw [TL.numL_step (by omega), e]; rfl, h1, h2⟩
theorem len_tl (x : Str) : x.length = (TL.tl x).length := TL.len_tl x
/-- a text of figures -/
structure Digs (x : Str) (n : Nat) : Prop where
  t : TL.tl x = TL.numL n
  few : n < 10 ^ 30
theorem Digs.len {x : Str} {n : Nat} (d : Digs x n) : 1 ≤ x.length ∧ x.length ≤ 30 := by
  rw [len_tl, d.t]
  have := TL.numL_ne n
  have := TL.numL_len (k := 30) (by decide) d.few
  refine ⟨?_, this⟩
  cases h : TL.numL n with
  | nil => exact absurd h (TL.numL_ne n)
  | cons a l => simp
theorem Digs.eq {x : Str} {n : Nat} (d : Digs x n) : x = numS (n : Int) := TL.ext_tl (by rw [d.t, tl_nn])
theorem strI_some {i : Int} (h : i.natAbs < 10 ^ 32) : strI i = some (numS i) := by
  unfold strI
  rw [if_pos ?_]; rfl
  by_cases c : i.natAbs = 0
  · rw [c]; decide
  · exact (Nat.log2_lt c).mpr (Nat.lt_of_lt_of_le h (by decide +kernel))
theorem starts_1 (x : Str) : startsT x ("-" : Str) = (match TL.tl x with | d :: _ => decide (d = 45) | [] => false) := by
  obtain ⟨⟨l⟩⟩ := x
  cases l with
  | nil => rfl
  | cons d r =>
    have e : (⟨d :: r⟩ : Array Nat).extract 0 1 = #[d] := by simp [List.extract]
    show (decide (0 + 1 ≤ (d :: r).length) && ((⟨d :: r⟩ : Array Nat).extract 0 (0 + 1) == #[45])) = decide (d = 45)
    rw [e, decide_eq_true (by simp), Bool.true_and]
    by_cases c : d = 45
    · subst c; rfl
    · rw [decide_eq_false c, beq_eq_false_iff_ne]
      intro z
      exact c (by simpa using z)
theorem sgn_mem {x y : Str} (h : y ∈ sgnS x) : ∃ c ∈ TL.tl x, y = ⟨#[c]⟩ := by
  obtain ⟨c, hc, rfl⟩ := List.mem_map.mp h
  exact ⟨c, hc, rfl⟩
theorem Digs.int {x : Str} {n : Nat} (d : Digs x n) : intX x = some (n : Int) := by
  have h := d.len
  unfold intX
  rw [if_pos (by omega), d.eq]
  exact TL.int_num (by have := TL.numL_len (k := 30) (by decide) d.few; omega)
theorem Digs.size {x : Str} {n : Nat} (d : Digs x n) : p_size_in x = some (some (n : Int)) := by
  have h := d.len
  unfold p_size_in lenS
  rw [if_pos (by omega), Option.bind_some, decide_eq_true (show (1 : Int) ≤ (x.length : Int) by omega), decide_eq_true (show (x.length : Int) ≤ 30 by omega)]
  have hl : (sgnS x).length = x.length := by unfold sgnS; rw [List.length_map, len_tl]
  have e1 : List.all (List.map (fun sign => (inSS sign ("0123456789" : Str))) (sgnS x)) id = true := by
    rw [List.all_eq_true]
    intro b hb
    obtain ⟨y, hy, rfl⟩ := List.mem_map.mp hb
    obtain ⟨c, hc, rfl⟩ := sgn_mem hy
    rw [d.t] at hc
    exact dig_in (dig_is hc)
  simp only [Bool.and_self, Bool.not_true, Bool.false_eq_true, if_false]
  unfold sgnO
  rw [if_pos (by omega), Option.bind_some, lim_of (by omega), e1]
  simp only [Bool.not_true, Option.bind_some, Bool.false_eq_true, if_false]
  obtain ⟨c, r, er⟩ : ∃ c r, TL.tl x = c :: r := by
    cases h : TL.tl x with
    | nil => rw [d.t] at h; exact absurd h (TL.numL_ne n)
    | cons c r => exact ⟨c, r, rfl⟩
  have ix : ixS x 0 = some ⟨#[c]⟩ := by
    unfold ixS
    have : x.cps.toList = c :: r := er
    rw [if_pos (by omega), this, atI_D c (Int.le_refl _) (by simp)]; rfl
  have hc : 48 ≤ c ∧ c ≤ 57 := dig_is (n := n) (by rw [← d.t, er]; exact List.mem_cons_self ..)
  rw [ix, Option.bind_some, one_ok hc, Option.bind_some]
  have fin : (intX x).bind (fun t36 => some (some t36)) = some (some (n : Int)) := by rw [d.int]; rfl
  by_cases z : n = 0
  · subst z
    have ex : x = ("0" : Str) := by rw [d.eq]; rfl
    have e0 : neSO x ("0" : Str) = some false := by rw [ex]; decide +kernel
    by_cases c48 : c = 48
    · rw [decide_eq_true c48, if_pos rfl, e0, Option.bind_some, Option.bind_some, if_neg (by simp)]
      exact fin
    · rw [decide_eq_false c48, if_neg (by simp), Option.bind_some, if_neg (by simp)]
      exact fin
  · obtain ⟨c', r', e', h1, h2⟩ := num_head n (by omega)
    have : c = c' := by
      have t := d.t
      rw [er, e'] at t
      exact (List.cons.inj t).1
    rw [decide_eq_false (show ¬ c = 48 by omega), if_neg (by simp), Option.bind_some, if_neg (by simp)]
    exact fin
theorem number_num {i : Int} (h : i.natAbs < 10 ^ 30) : p_number_in (numS i) = some (some i) := by
  unfold p_number_in
  rw [starts_1]
  by_cases c : 0 ≤ i
  · obtain ⟨n, rfl⟩ := Int.eq_ofNat_of_zero_le c
    have d : Digs (numS (n : Int)) n := ⟨tl_nn n, by omega⟩
    rw [tl_nn]
    have e : (match TL.numL n with | d :: _ => decide (d = 45) | [] => false) = false := by
      cases h : TL.numL n with
      | nil => rfl
      | cons a l =>
        have := dig_is (c := a) (n := n) (by rw [h]; exact List.mem_cons_self ..)
        show decide (a = 45) = false
        exact decide_eq_false (by omega)
    rw [e, Bool.not_false, if_pos rfl, d.size]; rfl
  · obtain ⟨n, rfl⟩ : ∃ n : Nat, i = -((n + 1 : Nat) : Int) := ⟨(-i - 1).toNat, by omega⟩
    rw [tl_neg]
    show (if (!decide ((45 : Nat) = 45)) = true then _ else _) = _
    rw [decide_eq_true rfl, Bool.not_true, if_neg (by simp)]
    have tl : TL.tl (numS (-((n + 1 : Nat) : Int))) = 45 :: TL.numL (n + 1) := tl_neg n
    have hl : (numS (-((n + 1 : Nat) : Int))).length = (TL.numL (n + 1)).length + 1 := by rw [len_tl, tl]; rfl
    have h30 := TL.numL_len (n := n + 1) (k := 30) (by decide) (by omega)
    have es : slS (numS (-((n + 1 : Nat) : Int))) (some 1) none = some (cutS (numS (-((n + 1 : Nat) : Int))) (some 1) none) := by unfold slS; rw [if_pos (by omega)]
    have et : TL.tl (cutS (numS (-((n + 1 : Nat) : Int))) (some 1) none) = TL.numL (n + 1) := by
      unfold cutS
      show ((TL.tl (numS (-((n + 1 : Nat) : Int)))).drop (HT.sIx _ 0 (some ((1 : Nat) : Int)))).take _ = _
      have s1 : HT.sIx (numS (-((n + 1 : Nat) : Int))).length 0 (some ((1 : Nat) : Int)) = 1 := by rw [HT.sIx_nat, hl]; omega
      have s2 : HT.sIx (numS (-((n + 1 : Nat) : Int))).length (numS (-((n + 1 : Nat) : Int))).length none = (numS (-((n + 1 : Nat) : Int))).length := rfl
      have s3 : HT.sIx (numS (-((n + 1 : Nat) : Int))).length 0 (some (1 : Int)) = 1 := s1
      rw [s2, s3, s1, tl, List.drop_one, List.tail_cons, hl, Nat.add_sub_cancel, List.take_of_length_le (Nat.le_refl _)]
    have d : Digs (cutS (numS (-((n + 1 : Nat) : Int))) (some 1) none) (n + 1) := ⟨et, by omega⟩
    rw [es, Option.bind_some, d.size, Option.bind_some]
    have : decide ((some ((n + 1 : Nat) : Int)) = some (0 : Int)) = false := decide_eq_false (by intro z; injection z with z; omega)
    rw [this]
    rfl
/-- no sign of a number is another one -/
theorem num_free {s : Nat} (h : (s < 48 ∨ 57 < s) ∧ s ≠ 45) (i : Int) : s ∉ TL.tl (numS i) := by
  by_cases c : 0 ≤ i
  · obtain ⟨n, rfl⟩ := Int.eq_ofNat_of_zero_le c
    rw [tl_nn]; exact TL.numL_free h.1
  · obtain ⟨n, rfl⟩ : ∃ n : Nat, i = -((n + 1 : Nat) : Int) := ⟨(-i - 1).toNat, by omega⟩
    rw [tl_neg]
    intro z
    rcases List.mem_cons.mp z with z | z
    · exact h.2 z
    · exact TL.numL_free h.1 z
theorem numS_len {i : Int} (h : i.natAbs < 10 ^ 30) : (numS i).length ≤ 31 := by
  rw [len_tl]
  by_cases c : 0 ≤ i
  · obtain ⟨n, rfl⟩ := Int.eq_ofNat_of_zero_le c
    rw [tl_nn]
    have := TL.numL_len (n := n) (k := 30) (by decide) (by omega)
    omega
  · obtain ⟨n, rfl⟩ : ∃ n : Nat, i = -((n + 1 : Nat) : Int) := ⟨(-i - 1).toNat, by omega⟩
    rw [tl_neg, List.length_cons]
    have := TL.numL_len (n := n + 1) (k := 30) (by decide) (by omega)
    omega
theorem sum_le {α : Type} {f : α → Nat} {m : Nat} : ∀ xs : List α, (∀ x ∈ xs, f x ≤ m) → (xs.map f).sum ≤ xs.length * m
  | [], _ => by simp
  | x :: xs, h => by
    have a := sum_le xs fun y hy => h y (List.mem_cons_of_mem _ hy)
    have b := h x (List.mem_cons_self ..)
    rw [List.map_cons, List.sum_cons, List.length_cons, Nat.add_mul]; omega
theorem joinT_some {a : Str} {ys : List Str} {m : Nat} (h : ∀ y ∈ ys, y.length ≤ m) (ha : a.length ≤ 1) (hm : ys.length * (m + 1) ≤ 1000000) : joinT a ys = some (PySem.Txt.join a ys) := by
  unfold joinT
  have s := sum_le (f := fun y : Str => y.length) ys h
  have : ys.length * a.length ≤ ys.length := Nat.le_trans (Nat.mul_le_mul_left _ ha) (by omega)
  rw [Nat.mul_add] at hm
  exact if_pos (by omega)
theorem shp_sok {x : Str} (h : PyData.strOk x = true) : shp (.str x) = true := by
  unfold Sim.shp SeqAt.shaped
  have : PyData.canLay0 (.str x) = true := h
  rw [this, show noD (.str x) = true from rfl, show PyData.depth (.str x) = 0 from rfl]; rfl
theorem sok_txt {a : Str} (ha : PyData.strOk a = true) {ys : List Str} (h : ∀ y ∈ ys, PyData.strOk y = true) : PyData.strOk (PySem.Txt.join a ys) = true := by
  rw [TL.join_eq]; exact sok_join a ha ys h
theorem sok_num (i : Int) : PyData.strOk (numS i) = true := sok_of _
theorem nums_text {cs : List Int} (h : ∀ c ∈ cs, c.natAbs < 10 ^ 30) (hl : cs.length ≤ 1000) {s : Str} (hs : s.length ≤ 1) : p_numbers_text cs s = some (PySem.Txt.join s (cs.map numS)) := by
  unfold p_numbers_text
  rw [lim_of (by omega), mapO_eq (g := numS) fun c hc => ?_, Option.bind_some, joinT_some (m := 31) (fun y hy => by
    obtain ⟨c, hc, rfl⟩ := List.mem_map.mp hy
    exact numS_len (h c hc)) hs (by rw [List.length_map]; omega)]
  · rfl
  · rw [strI_some (Nat.lt_trans (h c hc) (by decide +kernel))]; rfl
/-! joined, split, read again -/
theorem joinL_len (S : List Nat) : ∀ ps : List (List Nat), (TL.joinL S ps).length ≤ (ps.map List.length).sum + ps.length * S.length
  | [] => by simp [TL.joinL]
  | [p] => by simp [TL.joinL]
  | p :: q :: r => by
    have ih := joinL_len S (q :: r)
    have e : TL.joinL S (p :: q :: r) = p ++ (S ++ TL.joinL S (q :: r)) := rfl
    rw [e, List.length_append, List.length_append, List.map_cons, List.sum_cons, List.length_cons, Nat.add_mul]
    omega
theorem txt_len {a : Str} {ys : List Str} {m : Nat} (h : ∀ y ∈ ys, y.length ≤ m) (ha : a.length ≤ 1) : (PySem.Txt.join a ys).length ≤ ys.length * (m + 1) := by
  rw [TL.join_eq, len_tl, TL.tl_join]
  have z := joinL_len (TL.tl a) (ys.map TL.tl)
  have s := sum_le (f := fun y : Str => (TL.tl y).length) ys (fun y hy => by rw [← len_tl]; exact h y hy)
  rw [List.map_map, List.length_map] at z
  have e : (ys.map (List.length ∘ TL.tl)) = ys.map fun y : Str => (TL.tl y).length := rfl
  rw [e] at z
  have : ys.length * (TL.tl a).length ≤ ys.length := by
    rw [← len_tl]
    exact Nat.le_trans (Nat.mul_le_mul_left _ ha) (by omega)
  rw [Nat.mul_add]; omega
theorem split_txt {y : Str} {s : Nat} (ey : TL.tl y = [s]) (hk : y.cps.all (· < 256) = true) {parts : List Str} (hne : parts ≠ []) (hp : ∀ p ∈ parts, s ∉ TL.tl p) {m : Nat} (hm : ∀ p ∈ parts, p.length ≤ m) (hl : parts.length * (m + 1) ≤ 900000) :
    splitT (PySem.Txt.join y parts) y = some parts := by
  unfold splitT
  have l1 : y.length = 1 := by rw [len_tl, ey]; rfl
  have := txt_len (a := y) hm (by omega)
  rw [if_pos ⟨by omega, by omega⟩, TL.split_join ey hk hne hp]
theorem noneIn_some {α : Type} (xs : List α) : noneIn (xs.map some) = false := by
  unfold noneIn
  rw [List.any_map]
  induction xs with
  | nil => rfl
  | cons x xs ih => rw [List.any_cons, ih]; rfl
theorem noDs_mapX {τ : Type} {e : τ → D} (h : ∀ x, noD (e x) = true) : ∀ xs : List τ, noDs (xs.map e) = true
  | [] => by simp [noDs]
  | x :: xs => by rw [List.map_cons, noDs, h x, noDs_mapX h xs]; rfl
theorem noD_int (i : Int) : noD (eI i) = true := by show noD (.int i) = true; simp [noD]
theorem sameX_str {n : Nat} {x : Str} (h : PyData.strOk x = true) : sameX (n + 1) (eS x) (eS x) = some true := sameX_some rfl rfl (shp_sok h)
theorem sameX_ints {n : Nat} {x : D} {xs : List Int} (e : x = eT eI xs) (h : xs.length ≤ 1000000) : sameX (n + 2) x (eT eI xs) = some true := by
  subst e
  refine sameX_some rfl ?_ ?_
  · show noD (.tuple (xs.map eI)) = true
    simp only [noD, noDs_mapX noD_int]
  · show (purs (xs.map eI) && decide ((xs.map eI).length ≤ 1000000) && (xs.map eI).all (sdatX (n + 1))) = true
    rw [purs_pu puI, List.length_map, decide_eq_true h, List.all_map]
    simp [Function.comp_def, sdatX, eI]
theorem somes_eq (xs : List Int) : eT (eO eI) (xs.map some) = eT eI xs := by
  show PyData.tuple ((xs.map some).map (eO eI)) = .tuple (xs.map eI)
  rw [List.map_map]; rfl
theorem numbers_nums {cs : List Int} (h : ∀ c ∈ cs, c.natAbs < 10 ^ 30) (hl : cs.length ≤ 100000) : p_numbers_in (cs.map numS) = some (cs.map some) := by
  unfold p_numbers_in
  rw [List.length_map, lim_of (by omega), mapO_eq (g := fun x => (p_number_in x).getD none) fun x hx => ?_, List.map_map, Option.bind_some]
  · congr 1
    exact List.map_congr_left fun c hc => by show (p_number_in (numS c)).getD none = some c; rw [number_num (h c hc)]; rfl
  · obtain ⟨c, hc, rfl⟩ := List.mem_map.mp hx
    rw [number_num (h c hc)]; rfl
/-! nets as texts -/
theorem tl_app (a b : Str) : TL.tl (a ++ b) = TL.tl a ++ TL.tl b := TL.tl_append a b
theorem tl_txt (y : Str) (ps : List Str) : TL.tl (PySem.Txt.join y ps) = TL.joinL (TL.tl y) (ps.map TL.tl) := by rw [TL.join_eq, TL.tl_join]
theorem joinL_two (S : List Nat) {p : List Nat} {ps : List (List Nat)} (h : ps ≠ []) : TL.joinL S (p :: ps) = p ++ (S ++ TL.joinL S ps) := by
  cases ps with
  | nil => exact absurd rfl h
  | cons q r => rfl
/-- a word, a blank, the rest -/
theorem txt_cons (w : Str) {ps : List Str} (h : ps ≠ []) (w2 : Str) (hw : TL.tl w2 = TL.tl w ++ [32]) : w2 ++ PySem.Txt.join (" " : Str) ps = PySem.Txt.join (" " : Str) (w :: ps) := by
  refine TL.ext_tl ?_
  rw [tl_app, tl_txt, tl_txt, hw, List.map_cons, joinL_two _ (by simpa using h), List.append_assoc]
  rfl
theorem txt_one (x : Str) : PySem.Txt.join (" " : Str) [x] = x := TL.ext_tl (by rw [tl_txt]; rfl)
theorem free_app {s : Nat} {a b : Str} (h : s ∉ TL.tl a) (h2 : s ∉ TL.tl b) : s ∉ TL.tl (a ++ b) := by
  rw [tl_app, List.mem_append]; exact fun z => z.elim h h2
theorem free_joinL {s : Nat} {S : List Nat} (hS : s ∉ S) : ∀ ps : List (List Nat), (∀ p ∈ ps, s ∉ p) → s ∉ TL.joinL S ps
  | [], _ => by simp [TL.joinL]
  | [p], h => h p (List.mem_cons_self ..)
  | p :: q :: r, h => by
    have ih := free_joinL hS (q :: r) fun x hx => h x (List.mem_cons_of_mem _ hx)
    rw [joinL_two _ (by simp), List.mem_append, List.mem_append]
    exact fun z => z.elim (h p (List.mem_cons_self ..)) fun z => z.elim hS ih
theorem free_txt {s : Nat} {y : Str} (hy : s ∉ TL.tl y) {ps : List Str} (h : ∀ p ∈ ps, s ∉ TL.tl p) : s ∉ TL.tl (PySem.Txt.join y ps) := by
  rw [tl_txt]
  refine free_joinL hy _ fun p hp => ?_
  obtain ⟨x, hx, rfl⟩ := List.mem_map.mp hp
  exact h x hx
def frkW (p : Int × Int) : List Str := [numS p.1, numS p.2]
def frkT (p : Int × Int) : Str := PySem.Txt.join (" " : Str) (frkW p)
def row0W (N : Net) : List Str := [("lanes" : Str), numS N.1]
def endW (N : Net) : List Str := ("ends" : Str) :: N.2.2.map numS
def rowsT (N : Net) : List Str := PySem.Txt.join (" " : Str) (row0W N) :: (N.2.1.map frkT ++ [PySem.Txt.join (" " : Str) (endW N)])
def netT (N : Net) : Str := PySem.Txt.join ("\n" : Str) (rowsT N)
section
variable {N : Net} (h : GoodN N)
include h
theorem net_abs : N.1.natAbs < 10 ^ 30 ∧ (∀ p ∈ N.2.1, p.1.natAbs < 10 ^ 30 ∧ p.2.natAbs < 10 ^ 30) ∧ ∀ e ∈ N.2.2, e.natAbs < 10 ^ 30 := by
  have l1 := h.l1
  have l16 := h.l16
  refine ⟨by omega, fun p hp => ?_, fun e he => ?_⟩
  · obtain ⟨g1, g2, g3, g4, _⟩ := h.forks p hp
    omega
  · have := h.eget he
    omega
theorem ends_ne : N.2.2 ≠ [] := fun z => by
  have := h.elen
  have := h.l1
  rw [z] at *
  simp at *
  omega
theorem words_len : (∀ w ∈ row0W N, w.length ≤ 31) ∧ (∀ p ∈ N.2.1, ∀ w ∈ frkW p, w.length ≤ 31) ∧ ∀ w ∈ endW N, w.length ≤ 31 := by
  obtain ⟨a, b, c⟩ := net_abs h
  refine ⟨fun w hw => ?_, fun p hp w hw => ?_, fun w hw => ?_⟩
  · simp only [row0W, List.mem_cons, List.not_mem_nil, or_false] at hw
    rcases hw with rfl | rfl
    · decide +kernel
    · exact numS_len a
  · simp only [frkW, List.mem_cons, List.not_mem_nil, or_false] at hw
    rcases hw with rfl | rfl
    · exact numS_len (b p hp).1
    · exact numS_len (b p hp).2
  · rcases List.mem_cons.mp hw with rfl | hw
    · decide +kernel
    · obtain ⟨e, he, rfl⟩ := List.mem_map.mp hw
      exact numS_len (c e he)
theorem rows_len : (∀ r ∈ rowsT N, r.length ≤ 600) ∧ (rowsT N).length ≤ 130 := by
  obtain ⟨a, b, c⟩ := words_len h
  have bl : (" " : Str).length ≤ 1 := by decide +kernel
  have hm := h.many
  have el := h.elen
  have l16 := h.l16
  refine ⟨fun r hr => ?_, by unfold rowsT; simp; omega⟩
  rcases List.mem_cons.mp hr with rfl | hr
  · exact Nat.le_trans (txt_len a bl) (show 2 * 32 ≤ 600 by decide)
  rcases List.mem_append.mp hr with hr | hr
  · obtain ⟨p, hp, rfl⟩ := List.mem_map.mp hr
    exact Nat.le_trans (txt_len (b p hp) bl) (show 2 * 32 ≤ 600 by decide)
  · rw [List.mem_singleton.mp hr]
    refine Nat.le_trans (txt_len c bl) ?_
    show (N.2.2.map numS).length.succ * 32 ≤ 600
    rw [List.length_map]; omega
theorem rows_free : ∀ r ∈ rowsT N, 10 ∉ TL.tl r := fun r hr => by
  have bl : (10 : Nat) ∉ TL.tl (" " : Str) := by decide +kernel
  have nf : ∀ i : Int, (10 : Nat) ∉ TL.tl (numS i) := fun i => num_free (by omega) i
  rcases List.mem_cons.mp hr with rfl | hr
  · refine free_txt bl fun w hw => ?_
    simp only [row0W, List.mem_cons, List.not_mem_nil, or_false] at hw
    rcases hw with rfl | rfl
    · decide +kernel
    · exact nf _
  rcases List.mem_append.mp hr with hr | hr
  · obtain ⟨p, hp, rfl⟩ := List.mem_map.mp hr
    refine free_txt bl fun w hw => ?_
    simp only [frkW, List.mem_cons, List.not_mem_nil, or_false] at hw
    rcases hw with rfl | rfl <;> exact nf _
  · rw [List.mem_singleton.mp hr]
    refine free_txt bl fun w hw => ?_
    rcases List.mem_cons.mp hw with rfl | hw
    · decide +kernel
    · obtain ⟨e, he, rfl⟩ := List.mem_map.mp hw
      exact nf _
theorem net_sok : PyData.strOk (netT N) = true := by
  have bl : PyData.strOk (" " : Str) = true := sok_of _
  refine sok_txt (sok_of _) fun r hr => ?_
  rcases List.mem_cons.mp hr with rfl | hr
  · refine sok_txt bl fun w hw => ?_
    simp only [row0W, List.mem_cons, List.not_mem_nil, or_false] at hw
    rcases hw with rfl | rfl <;> exact sok_of _
  rcases List.mem_append.mp hr with hr | hr
  · obtain ⟨p, hp, rfl⟩ := List.mem_map.mp hr
    refine sok_txt bl fun w hw => ?_
    simp only [frkW, List.mem_cons, List.not_mem_nil, or_false] at hw
    rcases hw with rfl | rfl <;> exact sok_of _
  · rw [List.mem_singleton.mp hr]
    refine sok_txt bl fun w hw => ?_
    rcases List.mem_cons.mp hw with rfl | hw
    · exact sok_of _
    · obtain ⟨e, he, rfl⟩ := List.mem_map.mp hw
      exact sok_of _
/-- the last steps of both writers -/
theorem join_net : joinT ("\n" : Str) (rowsT N) = some (netT N) := by
  obtain ⟨a, b⟩ := rows_len h
  exact joinT_some a (by decide +kernel) (by omega)
theorem row0_eq : ("lanes " : Str) ++ numS N.1 = PySem.Txt.join (" " : Str) (row0W N) := by
  have := txt_cons ("lanes" : Str) (ps := [numS N.1]) (by simp) ("lanes " : Str) rfl
  rw [txt_one] at this
  exact this
theorem cat_some {a b : Str} (ha : a.length ≤ 1000) (hb : b.length ≤ 900000) : catS a b = some (a ++ b) := if_pos (by omega)
omit h in
theorem strI_net {i : Int} (h : i.natAbs < 10 ^ 30) : strI i = some (numS i) := strI_some (Nat.lt_trans h (by decide +kernel))
omit h in
theorem cat_ok {a b : Str} (ha : a.length ≤ 1000) (hb : b.length ≤ 900000) : catS a b = some (a ++ b) := if_pos (by omega)
theorem show_eq : p_show_net N = some (netT N) := by
  obtain ⟨a, b, c⟩ := net_abs h
  have hm := h.many
  have el := h.elen
  have l16 := h.l16
  unfold p_show_net
  rw [strI_net a, Option.bind_some, cat_ok (by decide +kernel) (Nat.le_trans (numS_len a) (by decide)), Option.bind_some, row0_eq h, lim_of (by omega), mapO_eq (g := frkT) fun p hp => ?_, Option.bind_some, catT_of (by simp; omega), Option.bind_some,
    nums_text c (by omega) (by decide +kernel), Option.bind_some]
  · have e2 : ("ends " : Str) ++ PySem.Txt.join (" " : Str) (N.2.2.map numS) = PySem.Txt.join (" " : Str) (endW N) := txt_cons ("ends" : Str) (by simpa using ends_ne h) ("ends " : Str) rfl
    rw [cat_ok (by decide +kernel) (by
      refine Nat.le_trans (txt_len (m := 31) (fun w hw => ?_) (by decide +kernel)) (by rw [List.length_map]; omega)
      obtain ⟨e, he, rfl⟩ := List.mem_map.mp hw
      exact numS_len (c e he)), Option.bind_some, e2, catT_of (by simp; omega), Option.bind_some]
    have er : [PySem.Txt.join (" " : Str) (row0W N)] ++ N.2.1.map frkT ++ [PySem.Txt.join (" " : Str) (endW N)] = rowsT N := rfl
    rw [er, join_net h]; rfl
  · rw [nums_text (cs := [p.1, p.2]) (fun x hx => by
      simp only [List.mem_cons, List.not_mem_nil, or_false] at hx
      rcases hx with rfl | rfl
      · exact (b p hp).1
      · exact (b p hp).2) (by simp) (by decide +kernel)]
    rfl
theorem text_eq : p__law_net_text N = some (netT N) := by
  obtain ⟨a, b, c⟩ := net_abs h
  have hm := h.many
  have el := h.elen
  have l16 := h.l16
  unfold p__law_net_text
  rw [strI_net a, Option.bind_some, cat_ok (by decide +kernel) (Nat.le_trans (numS_len a) (by decide)), Option.bind_some, row0_eq h, lim_of (by omega), mapO_eq (g := frkT) fun p hp => ?_, Option.bind_some, catT_of (by simp; omega), Option.bind_some,
    lim_of (by omega), mapO_eq (g := numS) (fun e he => by rw [strI_net (c e he)]; rfl), Option.bind_some, catT_of (by simp; omega), Option.bind_some]
  · have e2 : joinT (" " : Str) ([("ends" : Str)] ++ N.2.2.map numS) = some (PySem.Txt.join (" " : Str) (endW N)) := joinT_some (m := 31) (words_len h).2.2 (by decide +kernel) (by simp; omega)
    rw [e2, Option.bind_some, catT_of (by simp; omega), Option.bind_some]
    have er : [PySem.Txt.join (" " : Str) (row0W N)] ++ N.2.1.map frkT ++ [PySem.Txt.join (" " : Str) (endW N)] = rowsT N := rfl
    rw [er, join_net h]; rfl
  · obtain ⟨b1, b2⟩ := b p hp
    have l1 := numS_len b1
    have l2 := numS_len b2
    have lb : (" " : Str).length = 1 := by decide +kernel
    rw [strI_net b1, Option.bind_some, cat_ok (by omega) (by rw [lb]; decide), Option.bind_some, strI_net b2, Option.bind_some, cat_ok (by
      rw [len_tl, tl_app, List.length_append, ← len_tl, ← len_tl, lb]; omega) (by omega), Option.bind_some]
    rfl
end
/-! a text read again -/
abbrev RdS := Int × List (List (Option Int)) × Option (List (Option Int))
def foP (p : Int × Int) : List (Option Int) := [some p.1, some p.2]
def rdF (s : RdS) (y : Int × Str) : Option RdS :=
  (splitT y.2 (" " : Str)).bind fun t16 => (p_Reading__takes s y.1 t16).bind fun t19 => if (!t19.1) = true then none else some t19.2
theorem lay_sok {x : Str} (h : PyData.strOk x = true) : PyData.canLay0 (.str x) = true := h
theorem num_ne (i : Int) : numS i ≠ ("ends" : Str) := fun z => num_free (s := 101) (by omega) i (by rw [z]; decide +kernel)
theorem eqSO_num (i : Int) : eqSO (numS i) ("ends" : Str) = some false := by
  unfold eqSO
  rw [if_pos ⟨lay_sok (sok_num i), by decide +kernel⟩, decide_eq_false (num_ne i)]
theorem cut_one {α : Type} (x : α) (xs : List α) : cutL (x :: xs) (some 1) none = xs := by
  have s1 : HT.sIx (x :: xs).length 0 (some (1 : Int)) = 1 := by rw [show (1 : Int) = ((1 : Nat) : Int) from rfl, HT.sIx_nat]; simp
  have s2 : HT.sIx (x :: xs).length (x :: xs).length none = (x :: xs).length := rfl
  unfold cutL
  rw [s1, s2]
  simp
theorem split_row {ps : List Str} (hne : ps ≠ []) (hf : ∀ p ∈ ps, 32 ∉ TL.tl p) (hm : ∀ p ∈ ps, p.length ≤ 31) (hl : ps.length ≤ 20) : splitT (PySem.Txt.join (" " : Str) ps) (" " : Str) = some ps :=
  split_txt (s := 32) rfl (by decide +kernel) hne hf hm (by omega)
section
variable {N : Net} (h : GoodN N)
include h
theorem rd_row0 : rdF (0, [], none) (0, PySem.Txt.join (" " : Str) (row0W N)) = some (N.1, [], none) := by
  obtain ⟨a, _, _⟩ := net_abs h
  have l1 := h.l1
  have l16 := h.l16
  unfold rdF
  rw [split_row (by simp [row0W]) (fun p hp => by
    simp only [row0W, List.mem_cons, List.not_mem_nil, or_false] at hp
    rcases hp with rfl | rfl
    · decide +kernel
    · exact num_free (by omega) _) (words_len h).1 (by simp [row0W]), Option.bind_some]
  unfold p_Reading__takes
  have e0 : atI (row0W N) 0 = some ("lanes" : Str) := rfl
  have e1 : atI (row0W N) 1 = some (numS N.1) := rfl
  have e2 : neSO ("lanes" : Str) ("lanes" : Str) = some false := by decide +kernel
  have hl : decide (((row0W N).length : Int) = 2) = true := rfl
  rw [show decide (((0 : Int), PySem.Txt.join (" " : Str) (row0W N)).1 = 0) = true from rfl, if_pos rfl]
  unfold p_Reading__takes_lanes
  rw [hl, Bool.not_true, if_neg (by simp), e0, Option.bind_some, e2, Option.bind_some, if_neg (by simp), e1, Option.bind_some, number_num a]
  simp only [Option.bind_some]
  rw [decide_eq_true (show (1 : Int) ≤ N.1 ∧ N.1 < 16 + 1 by omega), Bool.not_true, if_neg (by simp), number_num a]
  rfl
theorem rd_fork {p : Int × Int} (hp : p ∈ N.2.1) {F : List (List (Option Int))} (hF : F.length < 128) {n : Int} (hn : n ≠ 0) : rdF (N.1, F, none) (n, frkT p) = some (N.1, F ++ [foP p], none) := by
  obtain ⟨_, b, _⟩ := net_abs h
  obtain ⟨g1, g2, g3, g4, g5⟩ := h.forks p hp
  unfold rdF
  show ((splitT (PySem.Txt.join (" " : Str) (frkW p)) _).bind _) = _
  rw [split_row (by simp [frkW]) (fun w hw => by
    simp only [frkW, List.mem_cons, List.not_mem_nil, or_false] at hw
    rcases hw with rfl | rfl <;> exact num_free (by omega) _) ((words_len h).2.1 p hp) (by simp [frkW]), Option.bind_some]
  unfold p_Reading__takes
  have e0 : atI (frkW p) 0 = some (numS p.1) := rfl
  rw [decide_eq_false hn, if_neg (by simp), if_neg (by simp), e0, Option.bind_some, eqSO_num, Option.bind_some, if_neg (by simp)]
  unfold p_Reading__takes_fork
  have en : p_numbers_in (frkW p) = some (foP p) := numbers_nums (cs := [p.1, p.2]) (fun x hx => by
    simp only [List.mem_cons, List.not_mem_nil, or_false] at hx
    rcases hx with rfl | rfl
    · exact (b p hp).1
    · exact (b p hp).2) (by simp)
  rw [en, Option.bind_some, appT_of (by show F.length < _; omega), Option.bind_some]
  have ef : p_is_fork (toPD (puT (puO' puI)) (foP p)) N.1 = some true := by
    refine (fork_p (eT (eO eI) (foP p)) _ N.1).trans (congrArg some ?_)
    show ((decide (0 ≤ p.1) && decide (p.1 < N.1)) && (decide (0 ≤ p.2) && decide (p.2 < N.1)) && !decide (p.1 = p.2)) = true
    rw [decide_eq_true g1, decide_eq_true g2, decide_eq_true g3, decide_eq_true g4, decide_eq_false g5]; rfl
  show (((p_is_fork (toPD (puT (puO' puI)) (foP p)) N.1).bind _).bind _).bind _ = _
  rw [ef, Option.bind_some, decide_eq_true (by show (((F ++ [foP p]).length : Nat) : Int) ≤ 128; simp; omega)]
  rfl
theorem rd_ends {F : List (List (Option Int))} {n : Int} (hn : n ≠ 0) : rdF (N.1, F, none) (n, PySem.Txt.join (" " : Str) (endW N)) = some (N.1, F, some (N.2.2.map some)) := by
  obtain ⟨_, _, c⟩ := net_abs h
  have el := h.elen
  have l1 := h.l1
  have l16 := h.l16
  unfold rdF
  rw [split_row (by simp [endW]) (fun w hw => by
    rcases List.mem_cons.mp hw with rfl | hw
    · decide +kernel
    · obtain ⟨e, he, rfl⟩ := List.mem_map.mp hw
      exact num_free (by omega) _) (words_len h).2.2 (by simp [endW]; omega), Option.bind_some]
  unfold p_Reading__takes
  have e0 : atI (endW N) 0 = some ("ends" : Str) := by
    rw [atI_get' (by decide) (by simp [endW])]; rfl
  have e2 : eqSO ("ends" : Str) ("ends" : Str) = some true := by decide +kernel
  rw [decide_eq_false hn, if_neg (by simp), if_neg (by simp), e0, Option.bind_some, e2, Option.bind_some, if_pos rfl]
  unfold p_Reading__takes_ends
  have ec : cutL (endW N) (some 1) none = N.2.2.map numS := cut_one _ _
  rw [ec, numbers_nums c (by omega), Option.bind_some]
  have ee : toPD (puO' (puT (puO' puI))) (some (N.2.2.map some)) = ⟨eT eI N.2.2, puT puI _⟩ := Subtype.ext (somes_eq _)
  rw [ee, ends_is ⟨l1, l16⟩ h.ends]
  rfl
theorem rd_rest : ∀ (fs : List (Int × Int)), (∀ p ∈ fs, p ∈ N.2.1) → ∀ (n : Nat) (F : List (List (Option Int))), 1 ≤ n → F.length + fs.length ≤ 128 →
    lpN rdF (enumT n (fs.map frkT ++ [PySem.Txt.join (" " : Str) (endW N)])) (N.1, F, none) = some (N.1, F ++ fs.map foP, some (N.2.2.map some))
  | [], _, n, F, hn, _ => by
    show (rdF (N.1, F, none) ((n : Int), PySem.Txt.join (" " : Str) (endW N))).bind (lpN rdF []) = _
    rw [rd_ends h (by omega), Option.bind_some, List.map_nil, List.append_nil]; rfl
  | p :: fs, hm, n, F, hn, hl => by
    show (rdF (N.1, F, none) ((n : Int), frkT p)).bind (lpN rdF (enumT (n + 1) (fs.map frkT ++ [PySem.Txt.join (" " : Str) (endW N)]))) = _
    rw [List.length_cons] at hl
    rw [rd_fork h (hm p (List.mem_cons_self ..)) (by omega) (by omega), Option.bind_some, rd_rest fs (fun q hq => hm q (List.mem_cons_of_mem _ hq)) (n + 1) _ (by omega) (by simp; omega)]
    rw [List.map_cons, List.append_assoc]; rfl
theorem read_eq : p_read_net (netT N) = some (N.1, N.2.1.map foP, some (N.2.2.map some)) := by
  obtain ⟨a, b⟩ := rows_len h
  unfold p_read_net
  rw [if_neg (by simp)]
  have es : splitT (netT N) ("\n" : Str) = some (rowsT N) := split_txt (s := 10) rfl (by decide +kernel) (by simp [rowsT]) (rows_free h) a (by omega)
  rw [es, Option.bind_some]
  show ((lpN rdF (enumT 0 (rowsT N)) (0, [], none)).bind _) = _
  have e : lpN rdF (enumT 0 (rowsT N)) (0, [], none) = some (N.1, N.2.1.map foP, some (N.2.2.map some)) := by
    show (rdF (0, [], none) ((0 : Nat), PySem.Txt.join (" " : Str) (row0W N))).bind (lpN rdF (enumT 1 (N.2.1.map frkT ++ [PySem.Txt.join (" " : Str) (endW N)]))) = _
    rw [show (((0 : Nat) : Int)) = 0 from rfl, rd_row0 h, Option.bind_some, rd_rest h N.2.1 (fun _ hp => hp) 1 [] (by omega) (by have := h.many; simpa using this)]
    rfl
  rw [e]; rfl
theorem same_net {n : Nat} : sameX (n + 4) (eQ eI (eT (eT (eO eI))) (eO (eT (eO eI))) (N.1, N.2.1.map foP, some (N.2.2.map some))) (eQ eI (eT (eP eI eI)) (eT eI) N) = some true := by
  have el := h.elen
  have l16 := h.l16
  have hm := h.many
  have e : eQ eI (eT (eT (eO eI))) (eO (eT (eO eI))) (N.1, N.2.1.map foP, some (N.2.2.map some)) = eQ eI (eT (eP eI eI)) (eT eI) N := by
    have e1 : eT (eT (eO eI)) (N.2.1.map foP) = eT (eP eI eI) N.2.1 := by
      show PyData.tuple ((N.2.1.map foP).map (eT (eO eI))) = .tuple (N.2.1.map (eP eI eI))
      rw [List.map_map]; rfl
    have e2 : eO (eT (eO eI)) (some (N.2.2.map some)) = eT eI N.2.2 := somes_eq _
    show PyData.tuple [eI N.1, eT (eT (eO eI)) (N.2.1.map foP), eO (eT (eO eI)) (some (N.2.2.map some))] = .tuple [eI N.1, eT (eP eI eI) N.2.1, eT eI N.2.2]
    rw [e1, e2]
  rw [e]
  refine sameX_some rfl ?_ ?_
  · have f1 : noD (eT (eP eI eI) N.2.1) = true := by
      show noD (.tuple (N.2.1.map (eP eI eI))) = true
      simp only [noD, noDs_mapX (e := eP eI eI) fun p => by show noD (.tuple [.int p.1, .int p.2]) = true; simp [noD, noDs]]
    have f2 : noD (eT eI N.2.2) = true := by
      show noD (.tuple (N.2.2.map eI)) = true
      simp only [noD, noDs_mapX noD_int]
    show noD (.tuple [eI N.1, eT (eP eI eI) N.2.1, eT eI N.2.2]) = true
    simp only [noD, noDs, noD_int, f1, f2, Bool.and_self]
  · have g1 : sdatX (n + 3) (eT (eP eI eI) N.2.1) = true := by
      show (purs (N.2.1.map (eP eI eI)) && decide ((N.2.1.map (eP eI eI)).length ≤ 1000000) && (N.2.1.map (eP eI eI)).all (sdatX (n + 2))) = true
      rw [purs_pu (puP puI puI), List.length_map, decide_eq_true (by omega), List.all_map]
      simp only [Bool.and_self, Bool.true_and, List.all_eq_true]
      intro p _
      rfl
    have g2 : sdatX (n + 3) (eT eI N.2.2) = true := by
      show (purs (N.2.2.map eI) && decide ((N.2.2.map eI).length ≤ 1000000) && (N.2.2.map eI).all (sdatX (n + 2))) = true
      rw [purs_pu puI, List.length_map, decide_eq_true (by omega), List.all_map]
      simp [Function.comp_def, sdatX, eI]
    have g0 : purs [eI N.1, eT (eP eI eI) N.2.1, eT eI N.2.2] = true := by
      have z : Pu (eQ eI (eT (eP eI eI)) (eT eI)) := puQ puI (puT (puP puI puI)) (puT puI)
      have := z N
      rwa [eQ, pur_tuple] at this
    show (purs [eI N.1, eT (eP eI eI) N.2.1, eT eI N.2.2] && decide (3 ≤ 1000000) && [eI N.1, eT (eP eI eI) N.2.1, eT eI N.2.2].all (sdatX (n + 3))) = true
    rw [g0]
    simp only [List.all_cons, List.all_nil, g1, g2, Bool.and_true, Bool.true_and]
    rfl
end
theorem p_law_true (ns : List Int) (hlen : ns.length ≤ 63) : p_law 8 ns = some true := by
  have main : Sp (p_law 8 ns) (fun b => b = true) := by
    unfold p_law
    refine w_bind (hand_w ns hlen) fun s0 h0 => ?_
    refine w_on (P := fun _ => True) ((w_lpR (fun i s => St3 (500 * (i : Int)) s) (h0.mono (by omega)) fun i s y hy hs => ?_).mono fun z hz => ?_) fun s hs => w_some rfl
    · have hi : i < 6 := by
        have := (List.getElem?_eq_some_iff.mp hy).1
        rw [rngI_len] at this; exact this
      refine w_bind (net_w (by omega) hs) fun r ⟨g, s1⟩ => ?_
      rw [text_eq g, Option.bind_some]
      refine w_on (P := fun _ => True) (w_lpR (fun _ _ => True) trivial fun i2 s2 y2 hy2 _ => ?_) fun s2 _ => w_go (s1.mono (by omega))
      rw [show_eq g, Option.bind_some, sameX_str (net_sok g), Option.bind_some, if_neg (by simp), read_eq g, Option.bind_some, same_net g]
      exact w_go trivial
    · obtain ⟨x, rfl, _⟩ := hz
      exact ⟨x, rfl, trivial⟩
  obtain ⟨b, e, hb⟩ := main
  rw [e, hb]
theorem law_holds : ∀ ns : List Int, ns.length ≤ 63 → ∃ as, f_law 8 [.dict [(.none, .list (ns.map .int))]] = .ok (.bool true) as := fun ns h => ⟨_, tok_law 8 ns true (p_law_true ns h)⟩
structure Txt (K : PySem.W.Frag) (mg : Str → Option Value) where
  a_numbers_text : Addr
  d_numbers_text : FuncData
  F_numbers_text : Fun K "numbers_text" "numbers_text" s_numbers_text a_numbers_text d_numbers_text
  g_numbers_text : mg "numbers_text" = some (.ref a_numbers_text)
  b_numbers_text : Binds K d_numbers_text ["numbers", "sign"] []
  a_show_net : Addr
  d_show_net : FuncData
  F_show_net : Fun K "show_net" "show_net" s_show_net a_show_net d_show_net
  g_show_net : mg "show_net" = some (.ref a_show_net)
  b_show_net : Binds K d_show_net ["net"] []
  a_is_whole : Addr
  d_is_whole : FuncData
  F_is_whole : Fun K "is_whole" "is_whole" s_is_whole a_is_whole d_is_whole
  g_is_whole : mg "is_whole" = some (.ref a_is_whole)
  b_is_whole : Binds K d_is_whole ["thing"] []
  a_is_lane : Addr
  d_is_lane : FuncData
  F_is_lane : Fun K "is_lane" "is_lane" s_is_lane a_is_lane d_is_lane
  g_is_lane : mg "is_lane" = some (.ref a_is_lane)
  b_is_lane : Binds K d_is_lane ["thing", "lanes"] []
  a_is_fork : Addr
  d_is_fork : FuncData
  F_is_fork : Fun K "is_fork" "is_fork" s_is_fork a_is_fork d_is_fork
  g_is_fork : mg "is_fork" = some (.ref a_is_fork)
  b_is_fork : Binds K d_is_fork ["thing", "lanes"] []
  a_are_ends : Addr
  d_are_ends : FuncData
  F_are_ends : Fun K "are_ends" "are_ends" s_are_ends a_are_ends d_are_ends
  g_are_ends : mg "are_ends" = some (.ref a_are_ends)
  b_are_ends : Binds K d_are_ends ["thing", "lanes"] []
  a_size_in : Addr
  d_size_in : FuncData
  F_size_in : Fun K "size_in" "size_in" s_size_in a_size_in d_size_in
  g_size_in : mg "size_in" = some (.ref a_size_in)
  b_size_in : Binds K d_size_in ["word"] []
  a_number_in : Addr
  d_number_in : FuncData
  F_number_in : Fun K "number_in" "number_in" s_number_in a_number_in d_number_in
  g_number_in : mg "number_in" = some (.ref a_number_in)
  b_number_in : Binds K d_number_in ["word"] []
  a_numbers_in : Addr
  d_numbers_in : FuncData
  F_numbers_in : Fun K "numbers_in" "numbers_in" s_numbers_in a_numbers_in d_numbers_in
  g_numbers_in : mg "numbers_in" = some (.ref a_numbers_in)
  b_numbers_in : Binds K d_numbers_in ["words"] []
  a_Reading__init : Addr
  d_Reading__init : FuncData
  F_Reading__init : Fun K "__init__" "Reading.__init__" s_Reading__init a_Reading__init d_Reading__init
  b_Reading__init : Binds K d_Reading__init ["self"] []
  a_Reading__takes_lanes : Addr
  d_Reading__takes_lanes : FuncData
  F_Reading__takes_lanes : Fun K "takes_lanes" "Reading.takes_lanes" s_Reading__takes_lanes a_Reading__takes_lanes d_Reading__takes_lanes
  b_Reading__takes_lanes : Binds K d_Reading__takes_lanes ["self", "words"] []
  a_Reading__takes_ends : Addr
  d_Reading__takes_ends : FuncData
  F_Reading__takes_ends : Fun K "takes_ends" "Reading.takes_ends" s_Reading__takes_ends a_Reading__takes_ends d_Reading__takes_ends
  b_Reading__takes_ends : Binds K d_Reading__takes_ends ["self", "words"] []
  a_Reading__takes_fork : Addr
  d_Reading__takes_fork : FuncData
  F_Reading__takes_fork : Fun K "takes_fork" "Reading.takes_fork" s_Reading__takes_fork a_Reading__takes_fork d_Reading__takes_fork
  b_Reading__takes_fork : Binds K d_Reading__takes_fork ["self", "words"] []
  a_Reading__takes : Addr
  d_Reading__takes : FuncData
  F_Reading__takes : Fun K "takes" "Reading.takes" s_Reading__takes a_Reading__takes d_Reading__takes
  b_Reading__takes : Binds K d_Reading__takes ["self", "at", "words"] []
  a_read_net : Addr
  d_read_net : FuncData
  F_read_net : Fun K "read_net" "read_net" s_read_net a_read_net d_read_net
  g_read_net : mg "read_net" = some (.ref a_read_net)
  b_read_net : Binds K d_read_net ["text"] []
  a__law_hand : Addr
  d__law_hand : FuncData
  F__law_hand : Fun K "_law_hand" "_law_hand" s__law_hand a__law_hand d__law_hand
  g__law_hand : mg "_law_hand" = some (.ref a__law_hand)
  b__law_hand : Binds K d__law_hand ["_law_script"] []
  a__law_take : Addr
  d__law_take : FuncData
  F__law_take : Fun K "_law_take" "_law_take" s__law_take a__law_take d__law_take
  g__law_take : mg "_law_take" = some (.ref a__law_take)
  b__law_take : Binds K d__law_take ["_law_state", "_law_many"] []
  a__law_net : Addr
  d__law_net : FuncData
  F__law_net : Fun K "_law_net" "_law_net" s__law_net a__law_net d__law_net
  g__law_net : mg "_law_net" = some (.ref a__law_net)
  b__law_net : Binds K d__law_net ["_law_state", "_law_lanes_most", "_law_forks_most"] []
  a__law_net_text : Addr
  d__law_net_text : FuncData
  F__law_net_text : Fun K "_law_net_text" "_law_net_text" s__law_net_text a__law_net_text d__law_net_text
  g__law_net_text : mg "_law_net_text" = some (.ref a__law_net_text)
  b__law_net_text : Binds K d__law_net_text ["_law_net_here"] []
  a__law_alike : Addr
  d__law_alike : FuncData
  F__law_alike : Fun K "_law_alike" "_law_alike" s__law_alike a__law_alike d__law_alike
  g__law_alike : mg "_law_alike" = some (.ref a__law_alike)
  b__law_alike : Binds K d__law_alike ["_law_found", "_law_due"] []
  a_law : Addr
  d_law : FuncData
  F_law : Fun K "law" "law" s_law a_law d_law
  g_law : mg "law" = some (.ref a_law)
  b_law : Binds K d_law ["_law_script"] []
  A_Reading : Addr
  C_Reading : ClsN K "Reading" A_Reading
  c_Reading : Cls K A_Reading
  k_Reading : Mk K A_Reading a_Reading__init
  m_Reading : mg "Reading" = some (.ref A_Reading)
  n_Reading_lanes_read : NoAttr K A_Reading "lanes_read"
  n_Reading_forks_read : NoAttr K A_Reading "forks_read"
  n_Reading_ends_read : NoAttr K A_Reading "ends_read"
  M_Reading__takes_lanes : Meth K A_Reading "takes_lanes" a_Reading__takes_lanes
  M_Reading__takes_ends : Meth K A_Reading "takes_ends" a_Reading__takes_ends
  M_Reading__takes_fork : Meth K A_Reading "takes_fork" a_Reading__takes_fork
  M_Reading__takes : Meth K A_Reading "takes" a_Reading__takes
  z_abs : mg "abs" = none
  z_all : mg "all" = none
  z_bool : mg "bool" = none
  z_enumerate : mg "enumerate" = none
  z_int : mg "int" = none
  z_isinstance : mg "isinstance" = none
  z_len : mg "len" = none
  z_list : mg "list" = none
  z_max : mg "max" = none
  z_min : mg "min" = none
  z_range : mg "range" = none
  z_sorted : mg "sorted" = none
  z_str : mg "str" = none
  z_tuple : mg "tuple" = none
  z_zip : mg "zip" = none
  t_FIGURES : Tok
  m_FIGURES : mg "FIGURES" = some (.str "0123456789" t_FIGURES)
  t_MOST_FIGURES : Tok
  m_MOST_FIGURES : mg "MOST_FIGURES" = some (.int 30 t_MOST_FIGURES)
  t_MOST_FORKS : Tok
  m_MOST_FORKS : mg "MOST_FORKS" = some (.int 128 t_MOST_FORKS)
  t_MOST_LANES : Tok
  m_MOST_LANES : mg "MOST_LANES" = some (.int 16 t_MOST_LANES)
section
variable {P : Program} {w : World} {K : PySem.W.Frag} {mg : Str → Option Value} {base : Heap}
theorem ok_numbers_text (T : Txt K mg) : FnOk P w K mg base CX0 1 T.a_numbers_text T.d_numbers_text ["numbers", "sign"] (spF K 2 f_numbers_text) :=
  fn_sim T.F_numbers_text sc_numbers_text rfl rfl fun cdv A outer s H E hr => ((ss_one (ss_ret (so_ms (pe_join (so_var (pv 1)) (so_comp (own := [("number", 2)]) rfl sc_numbers_text.nd (si_seq (so_var (pv 0))) (blkOk_by (by kernel_rfl)) (fun _ _ _ _ _ => (sg_name sc_numbers_text.nd rfl (by first | exact .inl rfl | exact .inr rfl) (by rfl))) (fun _ _ _ _ _ => spt_nil) (fun _ _ _ _ _ => (so_callTy call_str_int pr_strI (by rfl) T.z_str bt_str (sa_cons (so_var (pv 2)) sa_nil))))) ok_join))))
theorem ok_show_net (T : Txt K mg) : FnOk P w K mg base CX0 2 T.a_show_net T.d_show_net ["net"] (spF K 1 f_show_net) :=
  fn_sim T.F_show_net sc_show_net rfl rfl fun cdv A outer s H E hr => ((ss_cons (ss_asg (so_var (pv 0)) (sg_tup rfl (sgs_cons (sg_name sc_show_net.nd rfl (by first | exact .inl rfl | exact .inr rfl) (by rfl)) (sgs_cons (sg_name sc_show_net.nd rfl (by first | exact .inl rfl | exact .inr rfl) (by rfl)) (sgs_cons (sg_name sc_show_net.nd rfl (by first | exact .inl rfl | exact .inr rfl) (by rfl)) sgs_nil))))) (ss_cons (ss_set sc_show_net.nd rfl (by first | exact .inl rfl | exact .inr rfl) (by rfl) (so_bin op_addA pr_add (so_lst (sa_cons (so_bin op_addA pr_add so_str (so_callTy call_str_int pr_strI (by rfl) T.z_str bt_str (sa_cons (so_var (pv 1)) sa_nil))) sa_nil)) (so_comp (own := [("fork", 5)]) rfl sc_show_net.nd (si_seq (so_var (pv 2))) (blkOk_by (by kernel_rfl)) (fun _ _ _ _ _ => (sg_name sc_show_net.nd rfl (by first | exact .inl rfl | exact .inr rfl) (by rfl))) (fun _ _ _ _ _ => spt_nil) (fun _ _ _ _ _ => (so_call (ok_numbers_text T) (hr.mono (by omega)) (by rfl) T.g_numbers_text T.F_numbers_text.kp T.b_numbers_text (sa_cons (so_var (pv 5)) (sa_cons so_str sa_nil)) (fun _ _ _ h => mkFn_len h)))))) (ss_one (ss_ret (so_ms (pe_join so_str (so_bin op_addA pr_add (so_var (pv 4)) (so_lst (sa_cons (so_bin op_addA pr_add so_str (so_call (ok_numbers_text T) (hr.mono (by omega)) (by rfl) T.g_numbers_text T.F_numbers_text.kp T.b_numbers_text (sa_cons (so_var (pv 3)) (sa_cons so_str sa_nil)) (fun _ _ _ h => mkFn_len h))) sa_nil)))) ok_join))))))
theorem ok_is_whole (T : Txt K mg) : FnOk P w K mg base CX0 1 T.a_is_whole T.d_is_whole ["thing"] (spF K 1 f_is_whole) :=
  fn_sim T.F_is_whole sc_is_whole rfl rfl fun cdv A outer s H E hr => ((ss_one (ss_ret (so_and (so_isi .int (by rfl) T.z_isinstance (by rfl) T.z_int (so_var (pv 0))) (so_one (so_not (so_isi .bool (by rfl) T.z_isinstance (by rfl) T.z_bool (so_var (pv 0)))))))))
theorem ok_is_lane (T : Txt K mg) : FnOk P w K mg base CX0 2 T.a_is_lane T.d_is_lane ["thing", "lanes"] (spF K 2 f_is_lane) :=
  fn_sim T.F_is_lane sc_is_lane rfl rfl fun cdv A outer s H E hr => ((ss_one (ss_ret (so_and (so_call (ok_is_whole T) (hr.mono (by omega)) (by rfl) T.g_is_whole T.F_is_whole.kp T.b_is_whole (sa_cons (so_var (pv 0)) sa_nil) (fun _ _ _ h => mkFn_len h)) (so_one (so_chain op_le pr_le op_lt pr_lt so_int (so_var (pv 0)) (so_var (pv 1))))))))
theorem ok_is_fork (T : Txt K mg) : FnOk P w K mg base CX0 3 T.a_is_fork T.d_is_fork ["thing", "lanes"] (spF K 2 f_is_fork) :=
  fn_sim T.F_is_fork sc_is_fork rfl rfl fun cdv A outer s H E hr => ((ss_cons (ss_if (st_w (sw_or (st_not (st_any (so_isi .tup (by rfl) T.z_isinstance (by rfl) T.z_tuple (so_var (pv 0))))) (sw_or (st_cmp (op_neD hr.units) pr_ne (so_callB cr_len pr_len (by rfl) T.z_len bt_len (sa_cons (so_var (pv 0)) sa_nil)) so_int (nomark _)) (sw_or1 (st_not (st_any (so_callB (cr_all rfl) pr_all (by rfl) T.z_all bt_all (sa_cons (so_comp (own := [("lane", 2)]) rfl sc_is_fork.nd (si_seq (so_var (pv 0))) (blkOk_by (by kernel_rfl)) (fun _ _ _ _ _ => (sg_name sc_is_fork.nd rfl (by first | exact .inl rfl | exact .inr rfl) (by rfl))) (fun _ _ _ _ _ => spt_nil) (fun _ _ _ _ _ => (so_call (ok_is_lane T) (hr.mono (by omega)) (by rfl) T.g_is_lane T.F_is_lane.kp T.b_is_lane (sa_cons (so_var (pv 2)) (sa_cons (so_var (pv 1)) sa_nil)) (fun _ _ _ h => mkFn_len h)))) sa_nil))))))))
  (ss_one (ss_ret so_bl))
  ss_nil) (ss_one (ss_ret (so_cmp (op_neD hr.units) pr_ne (so_ix (so_var (pv 0)) so_int) (so_ix (so_var (pv 0)) so_int) (nomark _))))))
theorem ok_are_ends (T : Txt K mg) : FnOk P w K mg base CX0 3 T.a_are_ends T.d_are_ends ["thing", "lanes"] (spF K 2 f_are_ends) :=
  fn_sim T.F_are_ends sc_are_ends rfl rfl fun cdv A outer s H E hr => ((ss_cons (ss_if (st_w (sw_or (st_not (st_any (so_isi .tup (by rfl) T.z_isinstance (by rfl) T.z_tuple (so_var (pv 0))))) (sw_or1 (st_not (st_any (so_callB (cr_all rfl) pr_all (by rfl) T.z_all bt_all (sa_cons (so_comp (own := [("lane", 2)]) rfl sc_are_ends.nd (si_seq (so_var (pv 0))) (blkOk_by (by kernel_rfl)) (fun _ _ _ _ _ => (sg_name sc_are_ends.nd rfl (by first | exact .inl rfl | exact .inr rfl) (by rfl))) (fun _ _ _ _ _ => spt_nil) (fun _ _ _ _ _ => (so_call (ok_is_lane T) (hr.mono (by omega)) (by rfl) T.g_is_lane T.F_is_lane.kp T.b_is_lane (sa_cons (so_var (pv 2)) (sa_cons (so_var (pv 1)) sa_nil)) (fun _ _ _ h => mkFn_len h)))) sa_nil)))))))
  (ss_one (ss_ret so_bl))
  ss_nil) (ss_one (ss_ret (so_cmp (op_eqD hr.units) pr_eq (so_callB (cr_sortAny (units65 hr)) pr_sortAny (by rfl) T.z_sorted bt_sorted (sa_cons (so_var (pv 0)) sa_nil)) (so_listRg1 rfl (by rfl) T.z_list (by rfl) T.z_range (so_var (pv 1))) (nomark _))))))
theorem ok_size_in (T : Txt K mg) : FnOk P w K mg base CX0 1 T.a_size_in T.d_size_in ["word"] (spF K 1 f_size_in) :=
  fn_sim T.F_size_in sc_size_in rfl rfl fun cdv A outer s H E hr => ((ss_cons (ss_if (st_w (sw_or (st_not (st_chain op_le pr_le op_le pr_le so_int (so_callB cr_len pr_len (by rfl) T.z_len bt_len (sa_cons (so_var (pv 0)) sa_nil)) (so_globI (by rfl) T.m_MOST_FIGURES))) (sw_or1 (st_not (st_any (so_callB (cr_all rfl) pr_all (by rfl) T.z_all bt_all (sa_cons (so_comp (own := [("sign", 1)]) rfl sc_size_in.nd (si_str (so_var (pv 0))) (blkOk_by (by kernel_rfl)) (fun _ _ _ _ _ => (sg_name sc_size_in.nd rfl (by first | exact .inl rfl | exact .inr rfl) (by rfl))) (fun _ _ _ _ _ => spt_nil) (fun _ _ _ _ _ => (so_cmp (op_inA (units65 hr)) pr_in (so_var (pv 1)) (so_globS (by rfl) T.m_FIGURES) (by rfl)))) sa_nil)))))))
  (ss_one (ss_ret so_non))
  ss_nil) (ss_cons (ss_if (st_w (sw_and (st_cmp (op_eqD hr.units) pr_eq (so_ix (so_var (pv 0)) so_int) so_str (nomark _)) (sw_and1 (st_cmp (op_neD hr.units) pr_ne (so_var (pv 0)) so_str (nomark _)))))
  (ss_one (ss_ret so_non))
  ss_nil) (ss_one (ss_ret (so_callTy call_int_str pr_intX (by rfl) T.z_int bt_int (sa_cons (so_var (pv 0)) sa_nil)))))))
theorem ok_number_in (T : Txt K mg) : FnOk P w K mg base CX0 2 T.a_number_in T.d_number_in ["word"] (spF K 1 f_number_in) :=
  fn_sim T.F_number_in sc_number_in rfl rfl fun cdv A outer s H E hr => ((ss_cons (ss_if (st_not (st_any (so_ms (pe_m1 PySem.F.slot_str_startswith PySem.F.type_str_startswith mt_startswith (so_var (pv 0)) so_str) ok_starts)))
  (ss_one (ss_ret (so_call (ok_size_in T) (hr.mono (by omega)) (by rfl) T.g_size_in T.F_size_in.kp T.b_size_in (sa_cons (so_var (pv 0)) sa_nil) (fun _ _ _ h => mkFn_len h))))
  ss_nil) (ss_cons (ss_set sc_number_in.nd rfl (by first | exact .inl rfl | exact .inr rfl) (by rfl) (so_call (ok_size_in T) (hr.mono (by omega)) (by rfl) T.g_size_in T.F_size_in.kp T.b_size_in (sa_cons (so_slice (so_var (pv 0)) (sp_some so_int) sp_none) sa_nil) (fun _ _ _ h => mkFn_len h))) (ss_cons (ss_if (st_w (sw_or (st_cmp op_isA pr_is (so_var (pv 1)) so_non (nomark _)) (sw_or1 (st_cmp (op_eqD hr.units) pr_eq (so_var (pv 1)) so_int (nomark _)))))
  (ss_one (ss_ret so_non))
  ss_nil) (ss_one (ss_ret (so_un un_neg pr_neg (so_var (pv 1)))))))))
theorem ok_numbers_in (T : Txt K mg) : FnOk P w K mg base CX0 3 T.a_numbers_in T.d_numbers_in ["words"] (spF K 1 f_numbers_in) :=
  fn_sim T.F_numbers_in sc_numbers_in rfl rfl fun cdv A outer s H E hr => ((ss_one (ss_ret (so_callTy call_tuple_ofD pr_tuple (by rfl) T.z_tuple bt_tuple (sa_cons (so_comp (own := [("word", 1)]) rfl sc_numbers_in.nd (si_seq (so_var (pv 0))) (blkOk_by (by kernel_rfl)) (fun _ _ _ _ _ => (sg_name sc_numbers_in.nd rfl (by first | exact .inl rfl | exact .inr rfl) (by rfl))) (fun _ _ _ _ _ => spt_nil) (fun _ _ _ _ _ => (so_call (ok_number_in T) (hr.mono (by omega)) (by rfl) T.g_number_in T.F_number_in.kp T.b_number_in (sa_cons (so_var (pv 1)) sa_nil) (fun _ _ _ h => mkFn_len h)))) sa_nil)))))
theorem ok_Reading__init (T : Txt K mg) : FnOk P w K mg base CX0 1 T.a_Reading__init T.d_Reading__init ["self"] (spF K 1 f_Reading__init) :=
  fn_simM T.F_Reading__init sc_Reading__init T.C_Reading rfl rfl (by decide) (gh_dec gh_Reading__init) fun p cdv A outer s H E hr => by
    letI := obV 0 p T.A_Reading 1 ns_Reading
    exact ((ss_cons (ss_fld (k := 0) (pv 0) so_int rfl nd_Reading T.c_Reading T.n_Reading_lanes_read (.inl ⟨rfl, rfl⟩) (by decide) (by decide) (by decide) (by rfl) rfl (by rfl)) (ss_cons (ss_fld (k := 1) (pv 0) (so_lst sa_nil) rfl nd_Reading T.c_Reading T.n_Reading_forks_read (.inr ⟨0, rfl, rfl⟩) (by decide) (by decide) (by decide) (by rfl) rfl (by rfl)) (ss_one (ss_fld (k := 2) (pv 0) so_non rfl nd_Reading T.c_Reading T.n_Reading_ends_read (.inr ⟨1, rfl, rfl⟩) (by decide) (by decide) (by decide) (by rfl) rfl (by rfl))))))
theorem ok_Reading__takes_lanes (T : Txt K mg) : FnOk P w K mg base CX0 3 T.a_Reading__takes_lanes T.d_Reading__takes_lanes ["self", "words"] (spF K 2 f_Reading__takes_lanes) :=
  fn_simM T.F_Reading__takes_lanes sc_Reading__takes_lanes T.C_Reading rfl rfl (by decide) (gh_dec gh_Reading__takes_lanes) fun p cdv A outer s H E hr => by
    letI := obV 0 p T.A_Reading 2 ns_Reading
    exact ((ss_cons (ss_if (st_w (sw_or (st_cmp (op_neD hr.units) pr_ne (so_callB cr_len pr_len (by rfl) T.z_len bt_len (sa_cons (so_var (pv 1)) sa_nil)) so_int (nomark _)) (sw_or (st_cmp (op_neD hr.units) pr_ne (so_ix (so_var (pv 1)) so_int) so_str (nomark _)) (sw_or1 (st_ninR (by rfl) T.z_range (so_call (ok_number_in T) (hr.mono (by omega)) (by rfl) T.g_number_in T.F_number_in.kp T.b_number_in (sa_cons (so_ix (so_var (pv 1)) so_int) sa_nil) (fun _ _ _ h => mkFn_len h)) (sa_cons so_int (sa_cons (so_bin op_addA pr_add (so_globI (by rfl) T.m_MOST_LANES) so_int) sa_nil)))))))
  (ss_one (ss_ret so_bl))
  ss_nil) (ss_cons (ss_fld (k := 0) (pv 0) (so_call (ok_number_in T) (hr.mono (by omega)) (by rfl) T.g_number_in T.F_number_in.kp T.b_number_in (sa_cons (so_ix (so_var (pv 1)) so_int) sa_nil) (fun _ _ _ h => mkFn_len h)) rfl nd_Reading T.c_Reading T.n_Reading_lanes_read (.inl ⟨rfl, rfl⟩) (by decide) (by decide) (by decide) (by rfl) rfl (by rfl)) (ss_one (ss_ret so_bl)))))
theorem ok_Reading__takes_ends (T : Txt K mg) : FnOk P w K mg base CX0 4 T.a_Reading__takes_ends T.d_Reading__takes_ends ["self", "words"] (spF K 2 f_Reading__takes_ends) :=
  fn_simM T.F_Reading__takes_ends sc_Reading__takes_ends T.C_Reading rfl rfl (by decide) (gh_dec gh_Reading__takes_ends) fun p cdv A outer s H E hr => by
    letI := obV 0 p T.A_Reading 2 ns_Reading
    exact ((ss_cons (ss_fld (k := 2) (pv 0) (so_call (ok_numbers_in T) (hr.mono (by omega)) (by rfl) T.g_numbers_in T.F_numbers_in.kp T.b_numbers_in (sa_cons (so_frz (so_slice (so_var (pv 1)) (sp_some so_int) sp_none)) sa_nil) (fun _ _ _ h => mkFn_len h)) rfl nd_Reading T.c_Reading T.n_Reading_ends_read (.inr ⟨1, rfl, rfl⟩) (by decide) (by decide) (by decide) (by rfl) rfl (by rfl)) (ss_one (ss_ret (so_call (ok_are_ends T) (hr.mono (by omega)) (by rfl) T.g_are_ends T.F_are_ends.kp T.b_are_ends (sa_cons (so_sl (pe_fldO (k := 2) (pv 0) rfl nd_Reading T.c_Reading T.n_Reading_ends_read)) (sa_cons (so_sl (pe_fldO (k := 0) (pv 0) rfl nd_Reading T.c_Reading T.n_Reading_lanes_read)) sa_nil)) (fun _ _ _ h => mkFn_len h))))))
theorem ok_Reading__takes_fork (T : Txt K mg) : FnOk P w K mg base CX0 4 T.a_Reading__takes_fork T.d_Reading__takes_fork ["self", "words"] (spF K 2 f_Reading__takes_fork) :=
  fn_simM T.F_Reading__takes_fork sc_Reading__takes_fork T.C_Reading rfl rfl (by decide) (gh_dec gh_Reading__takes_fork) fun p cdv A outer s H E hr => by
    letI := obV 0 p T.A_Reading 3 ns_Reading
    exact ((ss_cons (ss_set sc_Reading__takes_fork.nd rfl (by first | exact .inl rfl | exact .inr rfl) (by rfl) (so_call (ok_numbers_in T) (hr.mono (by omega)) (by rfl) T.g_numbers_in T.F_numbers_in.kp T.b_numbers_in (sa_cons (so_var (pv 1)) sa_nil) (fun _ _ _ h => mkFn_len h))) (ss_cons (ss_expr (so_mtF md_app PySem.F.slot_list_append PySem.F.type_list_append mt_append (pe_fldO (k := 1) (pv 0) rfl nd_Reading T.c_Reading T.n_Reading_forks_read) (sa_cons (so_var (pv 2)) sa_nil))) (ss_one (ss_ret (so_and (so_call (ok_is_fork T) (hr.mono (by omega)) (by rfl) T.g_is_fork T.F_is_fork.kp T.b_is_fork (sa_cons (so_var (pv 2)) (sa_cons (so_sl (pe_fldO (k := 0) (pv 0) rfl nd_Reading T.c_Reading T.n_Reading_lanes_read)) sa_nil)) (fun _ _ _ h => mkFn_len h)) (so_one (so_cmp op_le pr_le (so_callB cr_len pr_len (by rfl) T.z_len bt_len (sa_cons (so_sl (pe_fldO (k := 1) (pv 0) rfl nd_Reading T.c_Reading T.n_Reading_forks_read)) sa_nil)) (so_globI (by rfl) T.m_MOST_FORKS) (nomark _)))))))))
theorem ok_Reading__takes (T : Txt K mg) : FnOk P w K mg base CX0 5 T.a_Reading__takes T.d_Reading__takes ["self", "at", "words"] (spF K 3 f_Reading__takes) :=
  fn_simM T.F_Reading__takes sc_Reading__takes T.C_Reading rfl rfl (by decide) (gh_dec gh_Reading__takes) fun p cdv A outer s H E hr => by
    letI := obV 0 p T.A_Reading 3 ns_Reading
    exact ((ss_cons (ss_if (st_cmp (op_eqD hr.units) pr_eq (so_var (pv 1)) so_int (nomark _))
  (ss_one (ss_retM T.C_Reading T.c_Reading T.M_Reading__takes_lanes (ok_Reading__takes_lanes T) (hr.mono (by omega)) T.b_Reading__takes_lanes (pv 0) (sa_cons (so_var (pv 2)) sa_nil) (by decide) (fun i h => lkM_off h (by decide)) (fun _ _ _ h => mkFnM_len h)))
  ss_nil) (ss_cons (ss_if (st_cmp op_isNotA pr_isnot (so_sl (pe_fldO (k := 2) (pv 0) rfl nd_Reading T.c_Reading T.n_Reading_ends_read)) so_non (nomark _))
  (ss_one (ss_ret so_bl))
  ss_nil) (ss_cons (ss_if (st_cmp (op_eqD hr.units) pr_eq (so_ix (so_var (pv 2)) so_int) so_str (nomark _))
  (ss_one (ss_retM T.C_Reading T.c_Reading T.M_Reading__takes_ends (ok_Reading__takes_ends T) (hr.mono (by omega)) T.b_Reading__takes_ends (pv 0) (sa_cons (so_var (pv 2)) sa_nil) (by decide) (fun i h => lkM_off h (by decide)) (fun _ _ _ h => mkFnM_len h)))
  ss_nil) (ss_one (ss_retM T.C_Reading T.c_Reading T.M_Reading__takes_fork (ok_Reading__takes_fork T) (hr.mono (by omega)) T.b_Reading__takes_fork (pv 0) (sa_cons (so_var (pv 2)) sa_nil) (by decide) (fun i h => lkM_off h (by decide)) (fun _ _ _ h => mkFnM_len h)))))))
theorem ok_read_net (T : Txt K mg) : FnOk P w K mg base CX0 6 T.a_read_net T.d_read_net ["text"] (spF K 1 f_read_net) :=
  fn_sim T.F_read_net sc_read_net rfl rfl fun cdv A outer s H E hr => ((ss_cons (ss_if (st_not (st_any (so_isi .str (by rfl) T.z_isinstance (by rfl) T.z_str (so_var (pv 0)))))
  (ss_one ss_never)
  ss_nil) (ss_cons (ss_set sc_read_net.nd rfl (by first | exact .inl rfl | exact .inr rfl) (by rfl) (so_ms (pe_split (so_var (pv 0)) so_str) ok_split)) (ss_cons (ss_set sc_read_net.nd rfl (by first | exact .inl rfl | exact .inr rfl) (by rfl) (so_make0 T.C_Reading T.k_Reading (ok_Reading__init T) (hr.mono (by omega)) (by rfl) T.m_Reading T.b_Reading__init (fun _ _ _ h => mkFnM_len h))) (ss_cons (ss_for PassesOwn.never rfl (si_enum (by rfl) T.z_enumerate (sa_cons (so_var (pv 1)) sa_nil)) (sg_tup rfl (sgs_cons (sg_name sc_read_net.nd rfl (by first | exact .inl rfl | exact .inr rfl) (by rfl)) (sgs_cons (sg_name sc_read_net.nd rfl (by first | exact .inl rfl | exact .inr rfl) (by rfl)) sgs_nil)))
  (ss_one (ss_if (st_not (st_any (so_meth T.C_Reading T.c_Reading T.M_Reading__takes (ok_Reading__takes T) (hr.mono (by omega)) T.b_Reading__takes (pv 2) (sa_cons (so_var (pv 3)) (sa_cons (so_frz (so_ms (pe_split (so_var (pv 4)) so_str) ok_split)) sa_nil)) (by decide) (fun _ _ _ h => mkFnM_len h))))
  (ss_one ss_never)
  ss_nil)) lkp_sub) (ss_cons (ss_if (by exact st_open T.C_Reading (fun p => by letI := obV 2 p T.A_Reading 5 ns_Reading; exact (st_cmp op_isA pr_is (so_sl (pe_fldO (k := 2) (pv 2) rfl nd_Reading T.c_Reading T.n_Reading_ends_read)) so_non (nomark _))) (gh_dec gh_read_net) (by decide))
  (ss_one ss_never)
  ss_nil) (ss_one (ss_ret (by exact so_dropG (so_open T.C_Reading (fun p => by letI := obV 2 p T.A_Reading 5 ns_Reading; exact (so_tup (sa_cons (so_sl (pe_fldO (k := 0) (pv 2) rfl nd_Reading T.c_Reading T.n_Reading_lanes_read)) (sa_cons (so_callTy call_tuple_ofD pr_tuple (by rfl) T.z_tuple bt_tuple (sa_cons (so_sl (pe_fldO (k := 1) (pv 2) rfl nd_Reading T.c_Reading T.n_Reading_forks_read)) sa_nil)) (sa_cons (so_sl (pe_fldO (k := 2) (pv 2) rfl nd_Reading T.c_Reading T.n_Reading_ends_read)) sa_nil))))) (gh_dec gh_read_net) (by decide)))))))))))
theorem ok__law_hand (T : Txt K mg) : FnOk P w K mg base CX0 1 T.a__law_hand T.d__law_hand ["_law_script"] (spF K 1 f__law_hand) :=
  fn_sim T.F__law_hand sc__law_hand rfl rfl fun cdv A outer s H E hr => ((ss_cons (ss_set sc__law_hand.nd rfl (by first | exact .inl rfl | exact .inr rfl) (by rfl) (so_lst (sa_cons so_int (sa_cons so_int (sa_cons so_int sa_nil))))) (ss_cons (ss_if (st_w (sw_and (st_cmp op_gt pr_gt (so_callB cr_len pr_len (by rfl) T.z_len bt_len (sa_cons (so_var (pv 0)) sa_nil)) so_int (nomark _)) (sw_and1 (st_cmp op_ge pr_ge (so_ix (so_var (pv 0)) so_int) (so_bin op_pow pr_pow so_int so_int) (nomark _)))))
  (ss_cons (ss_set sc__law_hand.nd rfl (by first | exact .inl rfl | exact .inr rfl) (by rfl) so_int) (ss_one (ss_for PassesOwn.never rfl (si_seq (so_slice (so_var (pv 0)) sp_none (sp_some so_int))) (sg_name sc__law_hand.nd rfl (by first | exact .inl rfl | exact .inr rfl) (by rfl))
  (ss_cons (ss_setIx (pv 1) so_int (so_bin op_addA pr_add (so_ix (so_var (pv 1)) so_int) (so_bin op_mulA pr_mul (so_bin op_mod pr_mod (so_callB call_abs pr_abs (by rfl) T.z_abs bt_abs (sa_cons (so_var (pv 3)) sa_nil)) (so_bin op_pow pr_pow so_int so_int)) (so_var (pv 2))))) (ss_one (ss_set sc__law_hand.nd rfl (by first | exact .inl rfl | exact .inr rfl) (by rfl) (so_bin op_mulA pr_mul (so_var (pv 2)) (so_bin op_pow pr_pow so_int so_int))))) (fun _ h => h))))
  ss_nil) (ss_cons (ss_for PassesOwn.never rfl (si_enum (by rfl) T.z_enumerate (sa_cons (so_slice (so_var (pv 0)) sp_none (sp_some so_int)) sa_nil)) (sg_tup rfl (sgs_cons (sg_name sc__law_hand.nd rfl (by first | exact .inl rfl | exact .inr rfl) (by rfl)) (sgs_cons (sg_name sc__law_hand.nd rfl (by first | exact .inl rfl | exact .inr rfl) (by rfl)) sgs_nil)))
  (ss_cons (ss_set sc__law_hand.nd rfl (by first | exact .inl rfl | exact .inr rfl) (by rfl) (so_bin op_addA pr_add (so_bin op_addA pr_add (so_bin op_mod pr_mod (so_var (pv 3)) so_int) (so_bin op_mulA pr_mul so_int (so_var (pv 4)))) so_int)) (ss_one (ss_setIx (pv 1) so_int (so_bin op_mod pr_mod (so_bin op_addA pr_add (so_bin op_mulA pr_mul (so_ix (so_var (pv 1)) so_int) so_int) (so_var (pv 5))) so_int)))) (fun _ h => h)) (ss_one (ss_ret (so_var (pv 1))))))))
theorem ok__law_take (T : Txt K mg) : FnOk P w K mg base CX0 1 T.a__law_take T.d__law_take ["_law_state", "_law_many"] (spF K 2 f__law_take) :=
  fn_sim T.F__law_take sc__law_take rfl rfl fun cdv A outer s H E hr => ((ss_cons (ss_if (st_cmp op_gt pr_gt (so_ix (so_var (pv 0)) so_int) so_int (nomark _))
  (ss_cons (ss_set sc__law_take.nd rfl (by first | exact .inl rfl | exact .inr rfl) (by rfl) (so_bin op_mod pr_mod (so_ix (so_var (pv 0)) so_int) (so_var (pv 1)))) (ss_cons (ss_setIx (pv 0) so_int (so_bin op_fdivW pr_div (so_ix (so_var (pv 0)) so_int) (so_var (pv 1)))) (ss_one (ss_ret (so_var (pv 2))))))
  ss_nil) (ss_cons (ss_setIx (pv 0) so_int (so_bin op_addA pr_add (so_ix (so_var (pv 0)) so_int) so_int)) (ss_cons (ss_set sc__law_take.nd rfl (by first | exact .inl rfl | exact .inr rfl) (by rfl) (so_bin op_mod pr_mod (so_bin op_mulA pr_mul (so_bin op_addA pr_add (so_bin op_addA pr_add (so_ix (so_var (pv 0)) so_int) (so_bin op_mulA pr_mul (so_bin op_mulA pr_mul so_int (so_ix (so_var (pv 0)) so_int)) (so_ix (so_var (pv 0)) so_int))) so_int) so_int) so_int)) (ss_cons (ss_set sc__law_take.nd rfl (by first | exact .inl rfl | exact .inr rfl) (by rfl) (so_bin op_mod pr_mod (so_bin op_mulA pr_mul (so_var (pv 3)) (so_bin op_addA pr_add (so_bin op_mod pr_mod (so_var (pv 3)) so_int) (so_bin op_mulA pr_mul so_int (so_ix (so_var (pv 0)) so_int)))) so_int)) (ss_one (ss_ret (so_bin op_mod pr_mod (so_bin op_addA pr_add (so_bin op_fdivW pr_div (so_var (pv 3)) so_int) (so_bin op_fdivW pr_div (so_var (pv 3)) so_int)) (so_var (pv 1))))))))))
theorem ok__law_net (T : Txt K mg) : FnOk P w K mg base CX0 2 T.a__law_net T.d__law_net ["_law_state", "_law_lanes_most", "_law_forks_most"] (spF K 3 f__law_net) :=
  fn_sim T.F__law_net sc__law_net rfl rfl fun cdv A outer s H E hr => ((ss_cons (ss_set sc__law_net.nd rfl (by first | exact .inl rfl | exact .inr rfl) (by rfl) (so_callB (call_min2 rfl) pr_min2 (by rfl) T.z_min bt_min (sa_cons (so_var (pv 1)) (sa_cons (so_ix (so_lst (sa_cons so_int (sa_cons so_int (sa_cons so_int (sa_cons so_int (sa_cons so_int (sa_cons so_int (sa_cons so_int (sa_cons so_int (sa_cons so_int (sa_cons so_int sa_nil))))))))))) (so_call (ok__law_take T) (hr.mono (by omega)) (by rfl) T.g__law_take T.F__law_take.kp T.b__law_take (sa_cons (so_var (pv 0)) (sa_cons so_int sa_nil)) (fun _ _ _ h => mkFn_len h))) sa_nil)))) (ss_cons (ss_set sc__law_net.nd rfl (by first | exact .inl rfl | exact .inr rfl) (by rfl) (so_bin op_mulA pr_mul (so_callB (call_min2 rfl) pr_min2 (by rfl) T.z_min bt_min (sa_cons (so_var (pv 2)) (sa_cons (so_ix (so_lst (sa_cons so_int (sa_cons so_int (sa_cons so_int (sa_cons so_int (sa_cons so_int (sa_cons so_int (sa_cons so_int (sa_cons so_int (sa_cons so_int sa_nil)))))))))) (so_call (ok__law_take T) (hr.mono (by omega)) (by rfl) T.g__law_take T.F__law_take.kp T.b__law_take (sa_cons (so_var (pv 0)) (sa_cons so_int sa_nil)) (fun _ _ _ h => mkFn_len h))) sa_nil))) (so_callTy call_int1 pr_int (by rfl) T.z_int bt_int (sa_cons (so_cmp op_gt pr_gt (so_var (pv 3)) so_int (nomark _)) sa_nil)))) (ss_cons (ss_set sc__law_net.nd rfl (by first | exact .inl rfl | exact .inr rfl) (by rfl) (so_lst sa_nil)) (ss_cons (ss_for PassesOwn.never rfl (si_range1 (by rfl) T.z_range (sa_cons (so_var (pv 4)) sa_nil)) (sg_name sc__law_net.nd rfl (by first | exact .inl rfl | exact .inr rfl) (by rfl))
  (ss_cons (ss_set sc__law_net.nd rfl (by first | exact .inl rfl | exact .inr rfl) (by rfl) (so_call (ok__law_take T) (hr.mono (by omega)) (by rfl) T.g__law_take T.F__law_take.kp T.b__law_take (sa_cons (so_var (pv 0)) (sa_cons (so_var (pv 3)) sa_nil)) (fun _ _ _ h => mkFn_len h))) (ss_cons (ss_set sc__law_net.nd rfl (by first | exact .inl rfl | exact .inr rfl) (by rfl) (so_bin op_mod pr_mod (so_bin op_addA pr_add (so_bin op_addA pr_add (so_var (pv 7)) so_int) (so_call (ok__law_take T) (hr.mono (by omega)) (by rfl) T.g__law_take T.F__law_take.kp T.b__law_take (sa_cons (so_var (pv 0)) (sa_cons (so_callB (call_max2 rfl) pr_max2 (by rfl) T.z_max bt_max (sa_cons so_int (sa_cons (so_bin op_sub pr_sub (so_var (pv 3)) so_int) sa_nil))) sa_nil)) (fun _ _ _ h => mkFn_len h))) (so_var (pv 3)))) (ss_cons (ss_set sc__law_net.nd rfl (by first | exact .inl rfl | exact .inr rfl) (by rfl) (so_call (ok__law_take T) (hr.mono (by omega)) (by rfl) T.g__law_take T.F__law_take.kp T.b__law_take (sa_cons (so_var (pv 0)) (sa_cons so_int sa_nil)) (fun _ _ _ h => mkFn_len h))) (ss_cons (ss_if (st_w (sw_and (st_cmp (op_eqD hr.units) pr_eq (so_var (pv 9)) so_int (nomark _)) (sw_and1 (st_cmp (op_neD hr.units) pr_ne (so_var (pv 5)) (so_lst sa_nil) (nomark _)))))
  (ss_one (ss_asg (so_ix (so_var (pv 5)) (so_un un_neg pr_neg so_int)) (sg_tup rfl (sgs_cons (sg_name sc__law_net.nd rfl (by first | exact .inl rfl | exact .inr rfl) (by rfl)) (sgs_cons (sg_name sc__law_net.nd rfl (by first | exact .inl rfl | exact .inr rfl) (by rfl)) sgs_nil)))))
  ss_nil) (ss_cons (ss_if (st_cmp (op_eqD hr.units) pr_eq (so_var (pv 9)) so_int (nomark _))
  (ss_one (ss_par (i := 7) (j := 8) rfl sc__law_net.nd rfl rfl (by decide) rfl rfl (by rfl) (by rfl) (sa_cons (so_bin op_mod pr_mod (so_var (pv 6)) (so_var (pv 3))) (sa_cons (so_bin op_mod pr_mod (so_bin op_addA pr_add (so_var (pv 6)) so_int) (so_var (pv 3))) sa_nil))))
  ss_nil) (ss_one (ss_expr (so_mt md_app PySem.F.slot_list_append PySem.F.type_list_append mt_append (pv 5) (sa_cons (so_tup (sa_cons (so_var (pv 7)) (sa_cons (so_var (pv 8)) sa_nil))) sa_nil))))))))) (fun _ h => h)) (ss_cons (ss_par (i := 10) (j := 11) rfl sc__law_net.nd rfl rfl (by decide) rfl rfl (by rfl) (by rfl) (sa_cons (so_listRg1 rfl (by rfl) T.z_list (by rfl) T.z_range (so_var (pv 3))) (sa_cons (so_lst sa_nil) sa_nil))) (ss_cons (ss_set sc__law_net.nd rfl (by first | exact .inl rfl | exact .inr rfl) (by rfl) (so_cmp (op_eqD hr.units) pr_eq (so_call (ok__law_take T) (hr.mono (by omega)) (by rfl) T.g__law_take T.F__law_take.kp T.b__law_take (sa_cons (so_var (pv 0)) (sa_cons so_int sa_nil)) (fun _ _ _ h => mkFn_len h)) so_int (nomark _))) (ss_cons (ss_for PassesOwn.never rfl (si_range1 (by rfl) T.z_range (sa_cons (so_var (pv 3)) sa_nil)) (sg_name sc__law_net.nd rfl (by first | exact .inl rfl | exact .inr rfl) (by rfl))
  (ss_one (ss_expr (so_mt md_app PySem.F.slot_list_append PySem.F.type_list_append mt_append (pv 11) (sa_cons (so_mt md_popAt PySem.F.slot_list_pop PySem.F.type_list_pop mt_popAt (pv 10) (sa_cons (so_bin op_mulA pr_mul (so_call (ok__law_take T) (hr.mono (by omega)) (by rfl) T.g__law_take T.F__law_take.kp T.b__law_take (sa_cons (so_var (pv 0)) (sa_cons (so_callB cr_len pr_len (by rfl) T.z_len bt_len (sa_cons (so_var (pv 10)) sa_nil)) sa_nil)) (fun _ _ _ h => mkFn_len h)) (so_callTy call_int1 pr_int (by rfl) T.z_int bt_int (sa_cons (so_var (pv 12)) sa_nil))) sa_nil)) sa_nil)))) (fun _ h => h)) (ss_one (ss_ret (so_tup (sa_cons (so_var (pv 3)) (sa_cons (so_callTy call_tuple_ofD pr_tuple (by rfl) T.z_tuple bt_tuple (sa_cons (so_var (pv 5)) sa_nil)) (sa_cons (so_callTy call_tuple_ofD pr_tuple (by rfl) T.z_tuple bt_tuple (sa_cons (so_var (pv 11)) sa_nil)) sa_nil))))))))))))))
theorem ok__law_net_text (T : Txt K mg) : FnOk P w K mg base CX0 1 T.a__law_net_text T.d__law_net_text ["_law_net_here"] (spF K 1 f__law_net_text) :=
  fn_sim T.F__law_net_text sc__law_net_text rfl rfl fun cdv A outer s H E hr => ((ss_cons (ss_set sc__law_net_text.nd rfl (by first | exact .inl rfl | exact .inr rfl) (by rfl) (so_bin op_addA pr_add (so_lst (sa_cons (so_bin op_addA pr_add so_str (so_callTy call_str_int pr_strI (by rfl) T.z_str bt_str (sa_cons (so_ix (so_var (pv 0)) so_int) sa_nil))) sa_nil)) (so_comp (own := [("_law_one", 2), ("_law_other", 3)]) rfl sc__law_net_text.nd (si_seq (so_ix (so_var (pv 0)) so_int)) (blkOk_by (by kernel_rfl)) (fun _ _ _ _ _ => (sg_tup rfl (sgs_cons (sg_name sc__law_net_text.nd rfl (by first | exact .inl rfl | exact .inr rfl) (by rfl)) (sgs_cons (sg_name sc__law_net_text.nd rfl (by first | exact .inl rfl | exact .inr rfl) (by rfl)) sgs_nil)))) (fun _ _ _ _ _ => spt_nil) (fun _ _ _ _ _ => (so_bin op_addA pr_add (so_bin op_addA pr_add (so_callTy call_str_int pr_strI (by rfl) T.z_str bt_str (sa_cons (so_var (pv 2)) sa_nil)) so_str) (so_callTy call_str_int pr_strI (by rfl) T.z_str bt_str (sa_cons (so_var (pv 3)) sa_nil))))))) (ss_one (ss_ret (so_ms (pe_join so_str (so_bin op_addA pr_add (so_var (pv 1)) (so_lst (sa_cons (so_ms (pe_join so_str (so_bin op_addA pr_add (so_lst (sa_cons so_str sa_nil)) (so_comp (own := [("_law_lane", 4)]) rfl sc__law_net_text.nd (si_seq (so_ix (so_var (pv 0)) so_int)) (blkOk_by (by kernel_rfl)) (fun _ _ _ _ _ => (sg_name sc__law_net_text.nd rfl (by first | exact .inl rfl | exact .inr rfl) (by rfl))) (fun _ _ _ _ _ => spt_nil) (fun _ _ _ _ _ => (so_callTy call_str_int pr_strI (by rfl) T.z_str bt_str (sa_cons (so_var (pv 4)) sa_nil)))))) ok_join) sa_nil)))) ok_join)))))
theorem ok__law_alike : ∀ (n : Nat) (T : Txt K mg), FnOk P w K mg base CX0 (n + 1) T.a__law_alike T.d__law_alike ["_law_found", "_law_due"] (spF K 2 (f__law_alike n))
  | 0, T => fn_sim T.F__law_alike sc__law_alike rfl rfl fun cdv A outer s H E hr => ss_nevers
  | n + 1, T => by
    have ih := ok__law_alike n T
    have hlen := len__law_alike n
    rw [show n + 1 + 1 = (n + 1) + 1 by omega]
    exact fn_sim T.F__law_alike sc__law_alike rfl rfl fun cdv A outer s H E hr => ((ss_cons (ss_if (st_any (so_isi .tup (by rfl) T.z_isinstance (by rfl) T.z_tuple (so_var (pv 1))))
  (ss_cons (ss_if (st_w (sw_or (st_not (st_any (so_isi .tup (by rfl) T.z_isinstance (by rfl) T.z_tuple (so_var (pv 0))))) (sw_or1 (st_cmp (op_neD hr.units) pr_ne (so_callB cr_len pr_len (by rfl) T.z_len bt_len (sa_cons (so_var (pv 0)) sa_nil)) (so_callB cr_len pr_len (by rfl) T.z_len bt_len (sa_cons (so_var (pv 1)) sa_nil)) (nomark _)))))
  (ss_one (ss_ret so_bl))
  ss_nil) (ss_one (ss_ret (so_callB (cr_all rfl) pr_all (by rfl) T.z_all bt_all (sa_cons (so_comp (own := [("_law_one", 2), ("_law_other", 3)]) rfl sc__law_alike.nd (si_zip (by rfl) T.z_zip (sa_cons (so_var (pv 0)) (sa_cons (so_var (pv 1)) sa_nil))) (blkOk_by (by kernel_rfl)) (fun _ _ _ _ _ => (sg_tup rfl (sgs_cons (sg_name sc__law_alike.nd rfl (by first | exact .inl rfl | exact .inr rfl) (by rfl)) (sgs_cons (sg_name sc__law_alike.nd rfl (by first | exact .inl rfl | exact .inr rfl) (by rfl)) sgs_nil)))) (fun _ _ _ _ _ => spt_nil) (fun _ _ _ _ _ => (so_call (ih) (hr.mono (by omega)) (by rfl) T.g__law_alike T.F__law_alike.kp T.b__law_alike (sa_cons (so_var (pv 2)) (sa_cons (so_var (pv 3)) sa_nil)) (hlen)))) sa_nil)))))
  ss_nil) (ss_cons (ss_if (st_any (so_isi .str (by rfl) T.z_isinstance (by rfl) T.z_str (so_var (pv 1))))
  (ss_one (ss_ret (so_and (so_isi .str (by rfl) T.z_isinstance (by rfl) T.z_str (so_var (pv 0))) (so_one (so_cmp (op_eqD hr.units) pr_eq (so_var (pv 0)) (so_var (pv 1)) (nomark _))))))
  ss_nil) (ss_one (ss_ret (so_and (so_isi .int (by rfl) T.z_isinstance (by rfl) T.z_int (so_var (pv 0))) (so_and (so_not (so_isi .bool (by rfl) T.z_isinstance (by rfl) T.z_bool (so_var (pv 0)))) (so_one (so_cmp (op_eqD hr.units) pr_eq (so_var (pv 0)) (so_var (pv 1)) (nomark _))))))))))
theorem ok_law (n : Nat) (T : Txt K mg) : FnOk P w K mg base CX0 (n + 7) T.a_law T.d_law ["_law_script"] (spF K 1 (f_law n)) :=
  fn_sim T.F_law sc_law rfl rfl fun cdv A outer s H E hr => ((ss_cons (ss_set sc_law.nd rfl (by first | exact .inl rfl | exact .inr rfl) (by rfl) (so_call (ok__law_hand T) (hr.mono (by omega)) (by rfl) T.g__law_hand T.F__law_hand.kp T.b__law_hand (sa_cons (so_var (pv 0)) sa_nil) (fun _ _ _ h => mkFn_len h))) (ss_cons (ss_for PassesOwn.never rfl (si_range1 (by rfl) T.z_range (sa_cons so_int sa_nil)) (sg_name sc_law.nd rfl (by first | exact .inl rfl | exact .inr rfl) (by rfl))
  (ss_cons (ss_set sc_law.nd rfl (by first | exact .inl rfl | exact .inr rfl) (by rfl) (so_call (ok__law_net T) (hr.mono (by omega)) (by rfl) T.g__law_net T.F__law_net.kp T.b__law_net (sa_cons (so_var (pv 1)) (sa_cons so_int (sa_cons so_int sa_nil))) (fun _ _ _ h => mkFn_len h))) (ss_cons (ss_set sc_law.nd rfl (by first | exact .inl rfl | exact .inr rfl) (by rfl) (so_call (ok__law_net_text T) (hr.mono (by omega)) (by rfl) T.g__law_net_text T.F__law_net_text.kp T.b__law_net_text (sa_cons (so_var (pv 3)) sa_nil) (fun _ _ _ h => mkFn_len h))) (ss_one (ss_for PassesOwn.never rfl (si_range1 (by rfl) T.z_range (sa_cons so_int sa_nil)) (sg_name sc_law.nd rfl (by first | exact .inl rfl | exact .inr rfl) (by rfl))
  (ss_one (ss_if (st_w (sw_or (st_not (st_any (so_call (ok__law_alike n T) (hr.mono (by omega)) (by rfl) T.g__law_alike T.F__law_alike.kp T.b__law_alike (sa_cons (so_call (ok_show_net T) (hr.mono (by omega)) (by rfl) T.g_show_net T.F_show_net.kp T.b_show_net (sa_cons (so_var (pv 3)) sa_nil) (fun _ _ _ h => mkFn_len h)) (sa_cons (so_var (pv 4)) sa_nil)) (fun ds r as h => len__law_alike n ds r as h)))) (sw_or1 (st_not (st_any (so_call (ok__law_alike n T) (hr.mono (by omega)) (by rfl) T.g__law_alike T.F__law_alike.kp T.b__law_alike (sa_cons (so_call (ok_read_net T) (hr.mono (by omega)) (by rfl) T.g_read_net T.F_read_net.kp T.b_read_net (sa_cons (so_var (pv 4)) sa_nil) (fun _ _ _ h => mkFn_len h)) (sa_cons (so_var (pv 3)) sa_nil)) (fun ds r as h => len__law_alike n ds r as h)))))))
  (ss_one (ss_ret so_bl))
  ss_nil)) (fun _ h => h))))) (fun _ h => h)) (ss_one (ss_ret so_bl)))))
end
theorem all_mk {l : PySem.W.OpenLaw} {w : World} {K : PySem.W.Frag} {h : Heap} {mg : Str → Option Value} {fa f1 f2 f3 f4 f5 f6 f7 f8 f9 f10 f11 f12 f13 f14 f15 f16 f17 f18 f19 f20 f21 : Addr} (n : Nat) (X : K.In h) (G : h.Ns mainGlobals mg) (hfa : mg "law" = some (.ref fa))
    {od1 an1 od2 an2 od3 an3 od4 an4 od5 an5 od6 an6 od7 an7 od8 an8 od9 an9 od10 an10 od11 an11 od12 an12 od13 an13 od14 an14 od15 an15 od16 an16 od17 an17 od18 an18 od19 an19 od20 an20 od21 an21 : Option Addr} {sl1 sl2 sl3 sl4 sl5 sl6 sl7 sl8 sl9 sl10 sl11 sl12 sl13 sl14 sl15 sl16 sl17 sl18 sl19 sl20 sl21 : Array (Option Value)} {oc1 kV1 dc1 pm1 cd1 ct1 oc2 kV2 dc2 pm2 cd2 ct2 oc3 kV3 dc3 pm3 cd3 ct3 oc4 kV4 dc4 pm4 cd4 ct4 oc5 kV5 dc5 pm5 cd5 ct5 oc6 kV6 dc6 pm6 cd6 ct6 oc7 kV7 dc7 pm7 cd7 ct7 oc8 kV8 dc8 pm8 cd8 ct8 oc9 kV9 dc9 pm9 cd9 ct9 oc10 kV10 dc10 pm10 cd10 ct10 oc11 kV11 dc11 pm11 cd11 ct11 oc12 kV12 dc12 pm12 cd12 ct12 oc13 kV13 dc13 pm13 cd13 ct13 oc14 kV14 dc14 pm14 cd14 ct14 oc15 kV15 dc15 pm15 cd15 ct15 oc16 kV16 dc16 pm16 cd16 ct16 oc17 kV17 dc17 pm17 cd17 ct17 oc18 kV18 dc18 pm18 cd18 ct18 oc19 kV19 dc19 pm19 cd19 ct19 oc20 kV20 dc20 pm20 cd20 ct20 oc21 kV21 dc21 pm21 cd21 ct21 : Value}
    {A_Reading : Addr} (a_Reading : PySem.W.nsIn K mainGlobals "Reading" = some (some (.ref A_Reading))) (pg_Reading : PySem.W.plainGet K A_Reading Str.empty = true) (hd_Reading : PySem.W.hasDictIn K A_Reading = true) (po_Reading : PySem.W.plainOver K A_Reading = true) (sa_Reading : PySem.W.findIn K (.ref A_Reading) "__setattr__" = some (some (.builtin "object.__setattr__"))) (mk_Reading : PySem.W.makesIn K A_Reading = true) (kc_Reading : PySem.W.keepIn K (.ref A_Reading) = true)
    (n_Reading_lanes_read : PySem.W.findIn K (.ref A_Reading) "lanes_read" = some none)
    (n_Reading_forks_read : PySem.W.findIn K (.ref A_Reading) "forks_read" = some none)
    (n_Reading_ends_read : PySem.W.findIn K (.ref A_Reading) "ends_read" = some none)
    (a1 : PySem.W.nsIn K mainGlobals "numbers_text" = some (some (.ref f1))) (l1 : K.lookup f1 = some ⟨oc1, od1, .func (PySem.W.fnOf "numbers_text" "numbers_text" (defArgs s_numbers_text) (defBody s_numbers_text) (defScope s_numbers_text) .none kV1 dc1 pm1 an1 cd1 ct1), sl1⟩) (c1 : PySem.W.codeIn K cd1 "numbers_text" = true) (k1 : PySem.W.keepIn K (.ref f1) = true)
    (a2 : PySem.W.nsIn K mainGlobals "show_net" = some (some (.ref f2))) (l2 : K.lookup f2 = some ⟨oc2, od2, .func (PySem.W.fnOf "show_net" "show_net" (defArgs s_show_net) (defBody s_show_net) (defScope s_show_net) .none kV2 dc2 pm2 an2 cd2 ct2), sl2⟩) (c2 : PySem.W.codeIn K cd2 "show_net" = true) (k2 : PySem.W.keepIn K (.ref f2) = true)
    (a3 : PySem.W.nsIn K mainGlobals "is_whole" = some (some (.ref f3))) (l3 : K.lookup f3 = some ⟨oc3, od3, .func (PySem.W.fnOf "is_whole" "is_whole" (defArgs s_is_whole) (defBody s_is_whole) (defScope s_is_whole) .none kV3 dc3 pm3 an3 cd3 ct3), sl3⟩) (c3 : PySem.W.codeIn K cd3 "is_whole" = true) (k3 : PySem.W.keepIn K (.ref f3) = true)
    (a4 : PySem.W.nsIn K mainGlobals "is_lane" = some (some (.ref f4))) (l4 : K.lookup f4 = some ⟨oc4, od4, .func (PySem.W.fnOf "is_lane" "is_lane" (defArgs s_is_lane) (defBody s_is_lane) (defScope s_is_lane) .none kV4 dc4 pm4 an4 cd4 ct4), sl4⟩) (c4 : PySem.W.codeIn K cd4 "is_lane" = true) (k4 : PySem.W.keepIn K (.ref f4) = true)
    (a5 : PySem.W.nsIn K mainGlobals "is_fork" = some (some (.ref f5))) (l5 : K.lookup f5 = some ⟨oc5, od5, .func (PySem.W.fnOf "is_fork" "is_fork" (defArgs s_is_fork) (defBody s_is_fork) (defScope s_is_fork) .none kV5 dc5 pm5 an5 cd5 ct5), sl5⟩) (c5 : PySem.W.codeIn K cd5 "is_fork" = true) (k5 : PySem.W.keepIn K (.ref f5) = true)
    (a6 : PySem.W.nsIn K mainGlobals "are_ends" = some (some (.ref f6))) (l6 : K.lookup f6 = some ⟨oc6, od6, .func (PySem.W.fnOf "are_ends" "are_ends" (defArgs s_are_ends) (defBody s_are_ends) (defScope s_are_ends) .none kV6 dc6 pm6 an6 cd6 ct6), sl6⟩) (c6 : PySem.W.codeIn K cd6 "are_ends" = true) (k6 : PySem.W.keepIn K (.ref f6) = true)
    (a7 : PySem.W.nsIn K mainGlobals "size_in" = some (some (.ref f7))) (l7 : K.lookup f7 = some ⟨oc7, od7, .func (PySem.W.fnOf "size_in" "size_in" (defArgs s_size_in) (defBody s_size_in) (defScope s_size_in) .none kV7 dc7 pm7 an7 cd7 ct7), sl7⟩) (c7 : PySem.W.codeIn K cd7 "size_in" = true) (k7 : PySem.W.keepIn K (.ref f7) = true)
    (a8 : PySem.W.nsIn K mainGlobals "number_in" = some (some (.ref f8))) (l8 : K.lookup f8 = some ⟨oc8, od8, .func (PySem.W.fnOf "number_in" "number_in" (defArgs s_number_in) (defBody s_number_in) (defScope s_number_in) .none kV8 dc8 pm8 an8 cd8 ct8), sl8⟩) (c8 : PySem.W.codeIn K cd8 "number_in" = true) (k8 : PySem.W.keepIn K (.ref f8) = true)
    (a9 : PySem.W.nsIn K mainGlobals "numbers_in" = some (some (.ref f9))) (l9 : K.lookup f9 = some ⟨oc9, od9, .func (PySem.W.fnOf "numbers_in" "numbers_in" (defArgs s_numbers_in) (defBody s_numbers_in) (defScope s_numbers_in) .none kV9 dc9 pm9 an9 cd9 ct9), sl9⟩) (c9 : PySem.W.codeIn K cd9 "numbers_in" = true) (k9 : PySem.W.keepIn K (.ref f9) = true)
    (a10 : PySem.W.findIn K (.ref A_Reading) "__init__" = some (some (.ref f10))) (i10 : PySem.W.isFn K (.ref f10) = true) (l10 : K.lookup f10 = some ⟨oc10, od10, .func (PySem.W.fnOf "__init__" "Reading.__init__" (defArgs s_Reading__init) (defBody s_Reading__init) (defScope s_Reading__init) .none kV10 dc10 pm10 an10 cd10 ct10), sl10⟩) (c10 : PySem.W.codeIn K cd10 "Reading.__init__" = true) (k10 : PySem.W.keepIn K (.ref f10) = true)
    (a11 : PySem.W.findIn K (.ref A_Reading) "takes_lanes" = some (some (.ref f11))) (i11 : PySem.W.isFn K (.ref f11) = true) (l11 : K.lookup f11 = some ⟨oc11, od11, .func (PySem.W.fnOf "takes_lanes" "Reading.takes_lanes" (defArgs s_Reading__takes_lanes) (defBody s_Reading__takes_lanes) (defScope s_Reading__takes_lanes) .none kV11 dc11 pm11 an11 cd11 ct11), sl11⟩) (c11 : PySem.W.codeIn K cd11 "Reading.takes_lanes" = true) (k11 : PySem.W.keepIn K (.ref f11) = true)
    (a12 : PySem.W.findIn K (.ref A_Reading) "takes_ends" = some (some (.ref f12))) (i12 : PySem.W.isFn K (.ref f12) = true) (l12 : K.lookup f12 = some ⟨oc12, od12, .func (PySem.W.fnOf "takes_ends" "Reading.takes_ends" (defArgs s_Reading__takes_ends) (defBody s_Reading__takes_ends) (defScope s_Reading__takes_ends) .none kV12 dc12 pm12 an12 cd12 ct12), sl12⟩) (c12 : PySem.W.codeIn K cd12 "Reading.takes_ends" = true) (k12 : PySem.W.keepIn K (.ref f12) = true)
    (a13 : PySem.W.findIn K (.ref A_Reading) "takes_fork" = some (some (.ref f13))) (i13 : PySem.W.isFn K (.ref f13) = true) (l13 : K.lookup f13 = some ⟨oc13, od13, .func (PySem.W.fnOf "takes_fork" "Reading.takes_fork" (defArgs s_Reading__takes_fork) (defBody s_Reading__takes_fork) (defScope s_Reading__takes_fork) .none kV13 dc13 pm13 an13 cd13 ct13), sl13⟩) (c13 : PySem.W.codeIn K cd13 "Reading.takes_fork" = true) (k13 : PySem.W.keepIn K (.ref f13) = true)
    (a14 : PySem.W.findIn K (.ref A_Reading) "takes" = some (some (.ref f14))) (i14 : PySem.W.isFn K (.ref f14) = true) (l14 : K.lookup f14 = some ⟨oc14, od14, .func (PySem.W.fnOf "takes" "Reading.takes" (defArgs s_Reading__takes) (defBody s_Reading__takes) (defScope s_Reading__takes) .none kV14 dc14 pm14 an14 cd14 ct14), sl14⟩) (c14 : PySem.W.codeIn K cd14 "Reading.takes" = true) (k14 : PySem.W.keepIn K (.ref f14) = true)
    (a15 : PySem.W.nsIn K mainGlobals "read_net" = some (some (.ref f15))) (l15 : K.lookup f15 = some ⟨oc15, od15, .func (PySem.W.fnOf "read_net" "read_net" (defArgs s_read_net) (defBody s_read_net) (defScope s_read_net) .none kV15 dc15 pm15 an15 cd15 ct15), sl15⟩) (c15 : PySem.W.codeIn K cd15 "read_net" = true) (k15 : PySem.W.keepIn K (.ref f15) = true)
    (a16 : PySem.W.nsIn K mainGlobals "_law_hand" = some (some (.ref f16))) (l16 : K.lookup f16 = some ⟨oc16, od16, .func (PySem.W.fnOf "_law_hand" "_law_hand" (defArgs s__law_hand) (defBody s__law_hand) (defScope s__law_hand) .none kV16 dc16 pm16 an16 cd16 ct16), sl16⟩) (c16 : PySem.W.codeIn K cd16 "_law_hand" = true) (k16 : PySem.W.keepIn K (.ref f16) = true)
    (a17 : PySem.W.nsIn K mainGlobals "_law_take" = some (some (.ref f17))) (l17 : K.lookup f17 = some ⟨oc17, od17, .func (PySem.W.fnOf "_law_take" "_law_take" (defArgs s__law_take) (defBody s__law_take) (defScope s__law_take) .none kV17 dc17 pm17 an17 cd17 ct17), sl17⟩) (c17 : PySem.W.codeIn K cd17 "_law_take" = true) (k17 : PySem.W.keepIn K (.ref f17) = true)
    (a18 : PySem.W.nsIn K mainGlobals "_law_net" = some (some (.ref f18))) (l18 : K.lookup f18 = some ⟨oc18, od18, .func (PySem.W.fnOf "_law_net" "_law_net" (defArgs s__law_net) (defBody s__law_net) (defScope s__law_net) .none kV18 dc18 pm18 an18 cd18 ct18), sl18⟩) (c18 : PySem.W.codeIn K cd18 "_law_net" = true) (k18 : PySem.W.keepIn K (.ref f18) = true)
    (a19 : PySem.W.nsIn K mainGlobals "_law_net_text" = some (some (.ref f19))) (l19 : K.lookup f19 = some ⟨oc19, od19, .func (PySem.W.fnOf "_law_net_text" "_law_net_text" (defArgs s__law_net_text) (defBody s__law_net_text) (defScope s__law_net_text) .none kV19 dc19 pm19 an19 cd19 ct19), sl19⟩) (c19 : PySem.W.codeIn K cd19 "_law_net_text" = true) (k19 : PySem.W.keepIn K (.ref f19) = true)
    (a20 : PySem.W.nsIn K mainGlobals "_law_alike" = some (some (.ref f20))) (l20 : K.lookup f20 = some ⟨oc20, od20, .func (PySem.W.fnOf "_law_alike" "_law_alike" (defArgs s__law_alike) (defBody s__law_alike) (defScope s__law_alike) .none kV20 dc20 pm20 an20 cd20 ct20), sl20⟩) (c20 : PySem.W.codeIn K cd20 "_law_alike" = true) (k20 : PySem.W.keepIn K (.ref f20) = true)
    (a21 : PySem.W.nsIn K mainGlobals "law" = some (some (.ref f21))) (l21 : K.lookup f21 = some ⟨oc21, od21, .func (PySem.W.fnOf "law" "law" (defArgs s_law) (defBody s_law) (defScope s_law) .none kV21 dc21 pm21 an21 cd21 ct21), sl21⟩) (c21 : PySem.W.codeIn K cd21 "law" = true) (k21 : PySem.W.keepIn K (.ref f21) = true)
    (z_abs : PySem.W.nsIn K mainGlobals "abs" = some none)
    (z_all : PySem.W.nsIn K mainGlobals "all" = some none)
    (z_bool : PySem.W.nsIn K mainGlobals "bool" = some none)
    (z_enumerate : PySem.W.nsIn K mainGlobals "enumerate" = some none)
    (z_int : PySem.W.nsIn K mainGlobals "int" = some none)
    (z_isinstance : PySem.W.nsIn K mainGlobals "isinstance" = some none)
    (z_len : PySem.W.nsIn K mainGlobals "len" = some none)
    (z_list : PySem.W.nsIn K mainGlobals "list" = some none)
    (z_max : PySem.W.nsIn K mainGlobals "max" = some none)
    (z_min : PySem.W.nsIn K mainGlobals "min" = some none)
    (z_range : PySem.W.nsIn K mainGlobals "range" = some none)
    (z_sorted : PySem.W.nsIn K mainGlobals "sorted" = some none)
    (z_str : PySem.W.nsIn K mainGlobals "str" = some none)
    (z_tuple : PySem.W.nsIn K mainGlobals "tuple" = some none)
    (z_zip : PySem.W.nsIn K mainGlobals "zip" = some none)
    {t_FIGURES : Tok} (m_FIGURES : PySem.W.nsIn K mainGlobals "FIGURES" = some (some (.str "0123456789" t_FIGURES)))
    {t_MOST_FIGURES : Tok} (m_MOST_FIGURES : PySem.W.nsIn K mainGlobals "MOST_FIGURES" = some (some (.int 30 t_MOST_FIGURES)))
    {t_MOST_FORKS : Tok} (m_MOST_FORKS : PySem.W.nsIn K mainGlobals "MOST_FORKS" = some (some (.int 128 t_MOST_FORKS)))
    {t_MOST_LANES : Tok} (m_MOST_LANES : PySem.W.nsIn K mainGlobals "MOST_LANES" = some (some (.int 16 t_MOST_LANES)))
    : ∃ fd : FuncData, (∀ (s : Shared) (v : Value), BindsTo s fd ⟨[v], []⟩ [("_law_script", v)]) ∧ ∀ base : Heap, K.In base → base.Ns mainGlobals mg → FnOk l.prog w K mg base CX0 (n + 7) fa fd ["_law_script"] (spF K 1 (f_law n)) := by
  have e := hfa.symm.trans (PySem.W.mg_of X G a21)
  have e2 : f21 = fa := by cases e; rfl
  subst e2
  have F1 := fun_mk (st := s_numbers_text) l1 c1 k1
  have b1 := F1.binds (ps := ["numbers", "sign"]) fun _ _ _ _ _ _ us hl => match us, hl with | [_, _], _ => rfl
  have F2 := fun_mk (st := s_show_net) l2 c2 k2
  have b2 := F2.binds (ps := ["net"]) fun _ _ _ _ _ _ us hl => match us, hl with | [_], _ => rfl
  have F3 := fun_mk (st := s_is_whole) l3 c3 k3
  have b3 := F3.binds (ps := ["thing"]) fun _ _ _ _ _ _ us hl => match us, hl with | [_], _ => rfl
  have F4 := fun_mk (st := s_is_lane) l4 c4 k4
  have b4 := F4.binds (ps := ["thing", "lanes"]) fun _ _ _ _ _ _ us hl => match us, hl with | [_, _], _ => rfl
  have F5 := fun_mk (st := s_is_fork) l5 c5 k5
  have b5 := F5.binds (ps := ["thing", "lanes"]) fun _ _ _ _ _ _ us hl => match us, hl with | [_, _], _ => rfl
  have F6 := fun_mk (st := s_are_ends) l6 c6 k6
  have b6 := F6.binds (ps := ["thing", "lanes"]) fun _ _ _ _ _ _ us hl => match us, hl with | [_, _], _ => rfl
  have F7 := fun_mk (st := s_size_in) l7 c7 k7
  have b7 := F7.binds (ps := ["word"]) fun _ _ _ _ _ _ us hl => match us, hl with | [_], _ => rfl
  have F8 := fun_mk (st := s_number_in) l8 c8 k8
  have b8 := F8.binds (ps := ["word"]) fun _ _ _ _ _ _ us hl => match us, hl with | [_], _ => rfl
  have F9 := fun_mk (st := s_numbers_in) l9 c9 k9
  have b9 := F9.binds (ps := ["words"]) fun _ _ _ _ _ _ us hl => match us, hl with | [_], _ => rfl
  have F10 := fun_mk (st := s_Reading__init) l10 c10 k10
  have b10 := F10.binds (ps := ["self"]) fun _ _ _ _ _ _ us hl => match us, hl with | [_], _ => rfl
  have F11 := fun_mk (st := s_Reading__takes_lanes) l11 c11 k11
  have b11 := F11.binds (ps := ["self", "words"]) fun _ _ _ _ _ _ us hl => match us, hl with | [_, _], _ => rfl
  have F12 := fun_mk (st := s_Reading__takes_ends) l12 c12 k12
  have b12 := F12.binds (ps := ["self", "words"]) fun _ _ _ _ _ _ us hl => match us, hl with | [_, _], _ => rfl
  have F13 := fun_mk (st := s_Reading__takes_fork) l13 c13 k13
  have b13 := F13.binds (ps := ["self", "words"]) fun _ _ _ _ _ _ us hl => match us, hl with | [_, _], _ => rfl
  have F14 := fun_mk (st := s_Reading__takes) l14 c14 k14
  have b14 := F14.binds (ps := ["self", "at", "words"]) fun _ _ _ _ _ _ us hl => match us, hl with | [_, _, _], _ => rfl
  have F15 := fun_mk (st := s_read_net) l15 c15 k15
  have b15 := F15.binds (ps := ["text"]) fun _ _ _ _ _ _ us hl => match us, hl with | [_], _ => rfl
  have F16 := fun_mk (st := s__law_hand) l16 c16 k16
  have b16 := F16.binds (ps := ["_law_script"]) fun _ _ _ _ _ _ us hl => match us, hl with | [_], _ => rfl
  have F17 := fun_mk (st := s__law_take) l17 c17 k17
  have b17 := F17.binds (ps := ["_law_state", "_law_many"]) fun _ _ _ _ _ _ us hl => match us, hl with | [_, _], _ => rfl
  have F18 := fun_mk (st := s__law_net) l18 c18 k18
  have b18 := F18.binds (ps := ["_law_state", "_law_lanes_most", "_law_forks_most"]) fun _ _ _ _ _ _ us hl => match us, hl with | [_, _, _], _ => rfl
  have F19 := fun_mk (st := s__law_net_text) l19 c19 k19
  have b19 := F19.binds (ps := ["_law_net_here"]) fun _ _ _ _ _ _ us hl => match us, hl with | [_], _ => rfl
  have F20 := fun_mk (st := s__law_alike) l20 c20 k20
  have b20 := F20.binds (ps := ["_law_found", "_law_due"]) fun _ _ _ _ _ _ us hl => match us, hl with | [_, _], _ => rfl
  have F21 := fun_mk (st := s_law) l21 c21 k21
  have b21 := F21.binds (ps := ["_law_script"]) fun _ _ _ _ _ _ us hl => match us, hl with | [_], _ => rfl
  let T : Txt K mg := { a_numbers_text := f1, d_numbers_text := _, F_numbers_text := F1, g_numbers_text := PySem.W.mg_of X G a1, b_numbers_text := b1, a_show_net := f2, d_show_net := _, F_show_net := F2, g_show_net := PySem.W.mg_of X G a2, b_show_net := b2, a_is_whole := f3, d_is_whole := _, F_is_whole := F3, g_is_whole := PySem.W.mg_of X G a3, b_is_whole := b3, a_is_lane := f4, d_is_lane := _, F_is_lane := F4, g_is_lane := PySem.W.mg_of X G a4, b_is_lane := b4, a_is_fork := f5, d_is_fork := _, F_is_fork := F5, g_is_fork := PySem.W.mg_of X G a5, b_is_fork := b5, a_are_ends := f6, d_are_ends := _, F_are_ends := F6, g_are_ends := PySem.W.mg_of X G a6, b_are_ends := b6, a_size_in := f7, d_size_in := _, F_size_in := F7, g_size_in := PySem.W.mg_of X G a7, b_size_in := b7, a_number_in := f8, d_number_in := _, F_number_in := F8, g_number_in := PySem.W.mg_of X G a8, b_number_in := b8, a_numbers_in := f9, d_numbers_in := _, F_numbers_in := F9, g_numbers_in := PySem.W.mg_of X G a9, b_numbers_in := b9, a_Reading__init := f10, d_Reading__init := _, F_Reading__init := F10, b_Reading__init := b10, a_Reading__takes_lanes := f11, d_Reading__takes_lanes := _, F_Reading__takes_lanes := F11, b_Reading__takes_lanes := b11, M_Reading__takes_lanes := ⟨a11, i11, k11⟩, a_Reading__takes_ends := f12, d_Reading__takes_ends := _, F_Reading__takes_ends := F12, b_Reading__takes_ends := b12, M_Reading__takes_ends := ⟨a12, i12, k12⟩, a_Reading__takes_fork := f13, d_Reading__takes_fork := _, F_Reading__takes_fork := F13, b_Reading__takes_fork := b13, M_Reading__takes_fork := ⟨a13, i13, k13⟩, a_Reading__takes := f14, d_Reading__takes := _, F_Reading__takes := F14, b_Reading__takes := b14, M_Reading__takes := ⟨a14, i14, k14⟩, a_read_net := f15, d_read_net := _, F_read_net := F15, g_read_net := PySem.W.mg_of X G a15, b_read_net := b15, a__law_hand := f16, d__law_hand := _, F__law_hand := F16, g__law_hand := PySem.W.mg_of X G a16, b__law_hand := b16, a__law_take := f17, d__law_take := _, F__law_take := F17, g__law_take := PySem.W.mg_of X G a17, b__law_take := b17, a__law_net := f18, d__law_net := _, F__law_net := F18, g__law_net := PySem.W.mg_of X G a18, b__law_net := b18, a__law_net_text := f19, d__law_net_text := _, F__law_net_text := F19, g__law_net_text := PySem.W.mg_of X G a19, b__law_net_text := b19, a__law_alike := f20, d__law_alike := _, F__law_alike := F20, g__law_alike := PySem.W.mg_of X G a20, b__law_alike := b20, a_law := f21, d_law := _, F_law := F21, g_law := PySem.W.mg_of X G a21, b_law := b21, A_Reading := A_Reading, C_Reading := a_Reading, c_Reading := ⟨pg_Reading, hd_Reading, po_Reading, sa_Reading⟩, k_Reading := ⟨mk_Reading, a10, i10, kc_Reading⟩, m_Reading := PySem.W.mg_of X G a_Reading, n_Reading_lanes_read := n_Reading_lanes_read, n_Reading_forks_read := n_Reading_forks_read, n_Reading_ends_read := n_Reading_ends_read, z_abs := PySem.W.mg_none_of X G z_abs, z_all := PySem.W.mg_none_of X G z_all, z_bool := PySem.W.mg_none_of X G z_bool, z_enumerate := PySem.W.mg_none_of X G z_enumerate, z_int := PySem.W.mg_none_of X G z_int, z_isinstance := PySem.W.mg_none_of X G z_isinstance, z_len := PySem.W.mg_none_of X G z_len, z_list := PySem.W.mg_none_of X G z_list, z_max := PySem.W.mg_none_of X G z_max, z_min := PySem.W.mg_none_of X G z_min, z_range := PySem.W.mg_none_of X G z_range, z_sorted := PySem.W.mg_none_of X G z_sorted, z_str := PySem.W.mg_none_of X G z_str, z_tuple := PySem.W.mg_none_of X G z_tuple, z_zip := PySem.W.mg_none_of X G z_zip, t_FIGURES := t_FIGURES, m_FIGURES := PySem.W.mg_of X G m_FIGURES, t_MOST_FIGURES := t_MOST_FIGURES, m_MOST_FIGURES := PySem.W.mg_of X G m_MOST_FIGURES, t_MOST_FORKS := t_MOST_FORKS, m_MOST_FORKS := PySem.W.mg_of X G m_MOST_FORKS, t_MOST_LANES := t_MOST_LANES, m_MOST_LANES := PySem.W.mg_of X G m_MOST_LANES }
  exact ⟨PySem.W.fnOf "law" "law" (defArgs s_law) (defBody s_law) (defScope s_law) .none kV21 dc21 pm21 an21 cd21 ct21, fun s v => .of_eq rfl, fun base _ _ => (ok_law n T)⟩
end Sim

open PySem PySem.W PyProof.Rows in
set_option maxRecDepth 100000 in
set_option maxHeartbeats 0 in
theorem PySem.Challenge.cw_stairlanes_k73_nets_as_texts_holds : PySem.Challenge.rw_stairlanes_k73_nets_as_texts.Holds := by
  w_on; o_law; k_head; (case hw => w_witness2)
  k_fill
  refine L2.walk_ofK (l := PySem.Challenge.rw_stairlanes_k73_nets_as_texts) (n := 63) (k := (8 + 7)) (x := "_law_script") (CX := L2.CX0) (sp := fun K => Sim.spF K 1 (Sim.f_law 8)) rfl (by decide) rfl ⟨rfl, by decide, by decide⟩ (fun w h Y => PySem.W.kIn_of Y) ?F (fun K H a ns h1 h2 h3 => Sim.spF_law Sim.law_holds K H a ns h1 h2 h3) (fun _ _ _ _ h => h)
  case F =>
    intro w mg fa h KX G hmg
    refine' Sim.all_mk 8 KX G hmg ?a_Reading ?pg_Reading ?hd_Reading ?po_Reading ?sa_Reading ?mk_Reading ?kc_Reading ?n_Reading_lanes_read ?n_Reading_forks_read ?n_Reading_ends_read ?a1 ?l1 ?c1 ?k1 ?a2 ?l2 ?c2 ?k2 ?a3 ?l3 ?c3 ?k3 ?a4 ?l4 ?c4 ?k4 ?a5 ?l5 ?c5 ?k5 ?a6 ?l6 ?c6 ?k6 ?a7 ?l7 ?c7 ?k7 ?a8 ?l8 ?c8 ?k8 ?a9 ?l9 ?c9 ?k9 ?a10 ?i10 ?l10 ?c10 ?k10 ?a11 ?i11 ?l11 ?c11 ?k11 ?a12 ?i12 ?l12 ?c12 ?k12 ?a13 ?i13 ?l13 ?c13 ?k13 ?a14 ?i14 ?l14 ?c14 ?k14 ?a15 ?l15 ?c15 ?k15 ?a16 ?l16 ?c16 ?k16 ?a17 ?l17 ?c17 ?k17 ?a18 ?l18 ?c18 ?k18 ?a19 ?l19 ?c19 ?k19 ?a20 ?l20 ?c20 ?k20 ?a21 ?l21 ?c21 ?k21 ?z_abs ?z_all ?z_bool ?z_enumerate ?z_int ?z_isinstance ?z_len ?z_list ?z_max ?z_min ?z_range ?z_sorted ?z_str ?z_tuple ?z_zip ?m_FIGURES ?m_MOST_FIGURES ?m_MOST_FORKS ?m_MOST_LANES
    (case a_Reading => k_is); (case pg_Reading => k_is); (case hd_Reading => k_is); (case po_Reading => k_is); (case sa_Reading => k_is); (case mk_Reading => k_is); (case kc_Reading => k_is); (case n_Reading_lanes_read => k_is); (case n_Reading_forks_read => k_is); (case n_Reading_ends_read => k_is); (case a1 => k_is); (case l1 => k_is); (case c1 => k_is); (case k1 => k_is); (case a2 => k_is); (case l2 => k_is); (case c2 => k_is); (case k2 => k_is); (case a3 => k_is); (case l3 => k_is); (case c3 => k_is); (case k3 => k_is); (case a4 => k_is); (case l4 => k_is); (case c4 => k_is); (case k4 => k_is); (case a5 => k_is); (case l5 => k_is); (case c5 => k_is); (case k5 => k_is); (case a6 => k_is); (case l6 => k_is); (case c6 => k_is); (case k6 => k_is); (case a7 => k_is); (case l7 => k_is); (case c7 => k_is); (case k7 => k_is); (case a8 => k_is); (case l8 => k_is); (case c8 => k_is); (case k8 => k_is); (case a9 => k_is); (case l9 => k_is); (case c9 => k_is); (case k9 => k_is); (case a10 => k_is); (case i10 => k_is); (case l10 => k_is); (case c10 => k_is); (case k10 => k_is); (case a11 => k_is); (case i11 => k_is); (case l11 => k_is); (case c11 => k_is); (case k11 => k_is); (case a12 => k_is); (case i12 => k_is); (case l12 => k_is); (case c12 => k_is); (case k12 => k_is); (case a13 => k_is); (case i13 => k_is); (case l13 => k_is); (case c13 => k_is); (case k13 => k_is); (case a14 => k_is); (case i14 => k_is); (case l14 => k_is); (case c14 => k_is); (case k14 => k_is); (case a15 => k_is); (case l15 => k_is); (case c15 => k_is); (case k15 => k_is); (case a16 => k_is); (case l16 => k_is); (case c16 => k_is); (case k16 => k_is); (case a17 => k_is); (case l17 => k_is); (case c17 => k_is); (case k17 => k_is); (case a18 => k_is); (case l18 => k_is); (case c18 => k_is); (case k18 => k_is); (case a19 => k_is); (case l19 => k_is); (case c19 => k_is); (case k19 => k_is); (case a20 => k_is); (case l20 => k_is); (case c20 => k_is); (case k20 => k_is); (case a21 => k_is); (case l21 => k_is); (case c21 => k_is); (case k21 => k_is); (case z_abs => k_is); (case z_all => k_is); (case z_bool => k_is); (case z_enumerate => k_is); (case z_int => k_is); (case z_isinstance => k_is); (case z_len => k_is); (case z_list => k_is); (case z_max => k_is); (case z_min => k_is); (case z_range => k_is); (case z_sorted => k_is); (case z_str => k_is); (case z_tuple => k_is); (case z_zip => k_is); (case m_FIGURES => k_is); (case m_MOST_FIGURES => k_is); (case m_MOST_FORKS => k_is); (case m_MOST_LANES => k_is)
