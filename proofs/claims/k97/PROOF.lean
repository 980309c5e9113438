import PyProof.Rows.All
import Wide.All
import OpenK.AllK
import Wide.FinOn
import HandS.ForMost
import HandS.TupAny
import HandS.TupMul
import HandS.Wide
import HandS.WideBits
import KE.KDictKeyed
import KE.KeyNested
import HandS.Lambda
import HandS.TupLe
import HandS.IsInst
import HandS.Deep
import HandS.SortInts
import HandS.NoneIn
import HandS.Walk
import HandS.Zip
import KE.GoesEnum
import KE.KTupSum
import PyProof.MinMaxWalk
import KE.KEqSeq
import HandS.Conv
import HandS.Style
import PyProof.Rows.SortShell
import PyProof.SeqIndex
import HandS.More
import PyProof.EqAt
import KE.KIntText
import KE.GoesZip
import KE.KDictZip
import KE.LtSeq
import KE.KSortTup
import HandS.SortRule
import HandS.ExcValue
import PyProof.ListNew
import HandS.SetFor
import PyProof.ReprLen
import HandS.Iter
import HandS.Dict
import KE.DataMinMax
import KE.KDictWalk
import KE.KDictPairs
import PyProof.Rows.SeqRoads
import PyProof.Rows.SeqItemCall
import KE.KDictSum
import KE.KDictItemsList
import PyProof.DictItems
import KE.KDictCopyH
import KE.KEqDict
import KE.KDictDisplayH
import KE.DataCmp
import HandS.WordsDict
import PyProof.DictUpdate
import HandS.RaiseMore
import PyProof.CallStr
import PyProof.FString2
import HandS.Flow
import KE.KNest
import HandS.EndTab
import HandS.Call
import PyProof.ReprRoads
import PyProof.AutoSeq1
import HandS.Spec
import HandS.ExcOwn
import HandS.TryOnly
import HandS.WordsExc
import PyProof.DictWalks
import KE.BitLaws
import PySem.Challenge.RW_stairlanes_k97_balls_at_their_paces
set_option Elab.async false
set_option linter.all false
set_option maxRecDepth 100000
set_option autoImplicit false
set_option maxHeartbeats 4000000
set_option exponentiation.threshold 20000
namespace Sim
open PySem PySem.Spec L2
open AutoSeq1 (wpAny_loadPart')
def SqD (K : PySem.W.Frag) (H : Hp) (a : Addr) (xs : List V) : Prop :=
  (∃ o : Obj, H a = some (.frz o (.tup xs)) ∧ o.dict = none) ∨
    ∃ (o : Obj) (its : Array Value) (n : Nat), K.lookup a = some o ∧ o.cls = .type "tuple" ∧ o.dict = none ∧ o.data = .seq its n ∧ its.size ≤ sizeLine ∧ Vals xs its.toList
theorem SqD.sq {K : PySem.W.Frag} {H : Hp} {a : Addr} {xs : List V} (h : SqD K H a xs) : SqT K H a xs := by
  rcases h with ⟨o, h, _⟩ | ⟨o, its, n, h1, h2, _, h3, h4, h5⟩
  · exact .inl (.inr ⟨o, h⟩)
  · exact .inr ⟨o, its, n, h1, h2, h3, h4, h5⟩
theorem SqD.of {K : PySem.W.Frag} {H : Hp} {a : Addr} {o : Obj} {xs : List V} (h : H a = some (.frz o (.tup xs))) (n : o.dict = none) : SqD K H a xs := .inl ⟨o, h, n⟩
/-- a new tuple -/
def rNewT (xs : List V) (H : Hp) (Q : VK) : Prop := ∀ p o, H p = none → o.dict = none → Q (.ref p) (upd H p (.frz o (.tup xs)))
section
variable {X : Cx} {pins : List (Addr × Obj)} {σ : St} {H : Hp} {s : Shared} {xs : List V} {its : List Value} {Q : VK}
theorem lay_tup {t' : Nat} (I : Inv X pins σ H s) (r : Vals xs its) (z : xs.length ≤ sizeLine) (q : rNewT xs H Q) :
    EP X pins σ Q (.ref s.heap.objs.size) { s with heap := s.heap.push { cls := .type "tuple", data := .seq its.toArray }, toks := t' } := by
  have e : (s.heap.push { cls := .type "tuple", data := .seq its.toArray }).get? s.heap.objs.size = some { cls := .type "tuple", data := .seq its.toArray } := Heap.get?_push_size _ rfl
  refine ⟨.ref s.heap.objs.size, _, I.laid (t' := t') (o := .frz { cls := .type "tuple", data := .seq its.toArray } (.tup xs)) (fun b ob q => Heap.get?_push_of_some _ q) (Nat.le_refl _) ⟨e, z, its, r, ⟨_, e, rfl, _, rfl⟩⟩, rfl, q _ _ (I.hok.fresh (Nat.le_refl _)) rfl⟩
def tTupD (t : TA) : TE := fun σ H Q => t σ H fun xs H1 => xs.length ≤ sizeLine ∧ rNewT xs H1 Q
theorem pe_tupD {es : List Expr} {t : TA} {pos : Pos} {x1 : Nat} (h : PA X es t) : PE X (.Tuple es x1 pos) (tTupD t) := by
  refine ⟨fun pins s σ H Q I hq => ?_⟩
  exact wpAny_Tuple_spliced (thn (h.run pos pins s σ H _ I hq) fun us s1 ⟨xs, H1, I1, r, z, q⟩ => ⟨by rw [← r.length]; exact z, lay_tup (t' := s1.toks) I1 r z q⟩)
theorem call_tuple_ofD : CallR X (.type "tuple") (fun xs H Q => ∃ p ys, xs = [.ref p] ∧ ((SqL X.K H p ys ∧ rNewT ys H Q) ∨ (SqT X.K H p ys ∧ Q (.ref p) H))) := by
  intro pins s σ H xs us Q I r h
  obtain ⟨p, ys, rfl, h⟩ := h
  obtain ⟨u, rfl, rx⟩ := vals1 r
  cases rx
  rcases h with ⟨hq, q⟩ | ⟨hq, q⟩
  · obtain ⟨its, r', pl, hz⟩ := I.list hq
    have hlen := r'.length
    refine call_tuple_list pl.isList (fun h' kp => ?_) (by simp only [List.size_toArray] <;> omega)
    have I1 : Inv X pins σ H { s with heap := h' } := I.kept (t' := s.toks) kp
    exact lay_tup (t' := s.toks) I1 r' hz q
  · obtain ⟨its, r', pl, hz⟩ := I.tuple hq
    exact call_tuple_same pl ⟨.ref p, H, I, rfl, q⟩
def rCatD (K : PySem.W.Frag) : R2 := fun x y H Q => ∃ a b xs ys, x = .ref a ∧ y = .ref b ∧ SqT K H a xs ∧ SqT K H b ys ∧ xs.length + ys.length ≤ sizeLine ∧
  (xs = [] → Q (.ref b) H) ∧ (xs ≠ [] → ys = [] → Q (.ref a) H) ∧ (xs ≠ [] → ys ≠ [] → rNewT (xs ++ ys) H Q)
theorem op_catD : OpR X (binaryOp .Add) (rCatD X.K) := by
  intro pins s σ H x y v u Q I rx ry h
  obtain ⟨a, b, xs, ys, rfl, rfl, ha, hb, hz, q0, q1, q2⟩ := h
  cases rx
  cases ry
  obtain ⟨its, r1, p1, _⟩ := I.tuple ha
  obtain ⟨its2, r2, p2, _⟩ := I.tuple hb
  by_cases hx : xs = []
  · subst hx
    cases r1
    exact cat_tup0 p1 p2 ⟨.ref b, H, I, rfl, q0 rfl⟩
  · refine HT.cat_tup p1 p2 (fun z => hx (r1.nil_iff.mp z)) (fun z => ⟨.ref a, H, I, rfl, q1 hx (r2.nil_iff.mp z)⟩) (fun z => ?_) (by rw [← r1.length, ← r2.length]; exact hz)
    exact lay_tup (t' := s.toks) I (r1.append r2) (by rw [List.length_append]; exact hz) (q2 hx fun w => z (r2.nil_iff.mpr w))
theorem tuple_mulS (l : Addr) (items : Array Value) (n : Nat) (dd : Option Addr) (sl : Array (Option Value)) (x : Int) (u : Tok) (c0 : (decide (x < -(2 ^ 63)) || decide (x ≥ 2 ^ 63)) = false) (c1 : (items.isEmpty || x == 1) = true) :
    Meets (Builtin.«tuple.__mul__» ⟨[.ref l, .int x u], []⟩) (fun _ R s => s.heap.get? l = some { cls := .type "tuple", dict := dd, data := .seq items n, slots := sl } ∧ R (.ok (.ret (Value.ref l))) s) :=
  .of_wp fun prog w A R s h => by
    obtain ⟨hp, g, d, tk, os⟩ := s
    obtain ⟨hl, h⟩ := h
    have f1 := AutoSeq1.idx_int
    wp_walk using wpAny_loadPart' hl
    repeat (first
      | (refine wpAny_ite_false (decide_eq_false (by rw [c0]; exact Bool.false_ne_true)) ?_; wp_walk using wpAny_loadPart' hl)
      | (refine wpAny_ite_true (decide_eq_true (by rw [c1])) ?_; wp_walk using wpAny_loadPart' hl))
    exact ⟨_, rfl, h⟩
theorem tuple_mul0 (l : Addr) (items : Array Value) (n : Nat) (dd : Option Addr) (sl : Array (Option Value)) (x : Int) (u : Tok) (c0 : (decide (x < -(2 ^ 63)) || decide (x ≥ 2 ^ 63)) = false) (c1 : (items.isEmpty || x == 1) = false) (c2 : (decide (x ≤ 0) || items.isEmpty) = true) :
    Meets (Builtin.«tuple.__mul__» ⟨[.ref l, .int x u], []⟩) (fun _ R s => s.heap.get? l = some { cls := .type "tuple", dict := dd, data := .seq items n, slots := sl } ∧
      R (.ok (.ret (Value.ref s.heap.objs.size))) { s with heap := s.heap.push { cls := Value.type "tuple", data := Data.seq #[] }, toks := s.toks }) :=
  .of_wp fun prog w A R s h => by
    obtain ⟨hp, g, d, tk, os⟩ := s
    obtain ⟨hl, h⟩ := h
    have f1 := AutoSeq1.idx_int
    wp_walk using wpAny_loadPart' hl
    repeat (first
      | (refine wpAny_ite_false (decide_eq_false (by rw [c0]; exact Bool.false_ne_true)) ?_; wp_walk using wpAny_loadPart' hl)
      | (refine wpAny_ite_false (decide_eq_false (by rw [c1]; exact Bool.false_ne_true)) ?_; wp_walk using wpAny_loadPart' hl)
      | (refine wpAny_ite_true (decide_eq_true (by rw [c2])) ?_; wp_walk using wpAny_loadPart' hl)
      | (refine wpAny_ite_false (decide_eq_false (by decide)) ?_; wp_walk using wpAny_loadPart' hl))
    exact ⟨_, rfl, h⟩
def rRepD (K : PySem.W.Frag) : R2 := fun x y H Q => ∃ l k xs, x = .ref l ∧ y = .int k ∧ SqT K H l xs ∧ -1000 ≤ k ∧ k ≤ 1000 ∧ xs.length ≤ 1000 ∧
  (xs = [] ∨ k = 1 → Q (.ref l) H) ∧ (xs ≠ [] → k ≠ 1 → rNewT (List.replicate k.toNat xs).flatten H Q)
theorem op_repD : OpR X (binaryOp .Mult) (rRepD X.K) := by
  intro pins s σ H x y v u Q I rx ry h
  obtain ⟨l, k, xs, rfl, rfl, hT, h1, h2, hz, q1, q2⟩ := h
  cases rx
  obtain ⟨t, rfl⟩ := ry
  obtain ⟨its, r, ⟨⟨cls, dd, data, sl⟩, ho, hc, n, hd⟩, hs⟩ := I.tuple hT
  simp only at hc hd
  subst hc hd
  have hle : its.length = xs.length := r.length.symm
  have hsz0 : its.toArray.size = xs.length := by rw [List.size_toArray, hle]
  have hm : ((its.toArray.size : Nat) : Int) * k ≤ 1000000 := by
    rw [hsz0]
    rcases Int.lt_or_le k 0 with hk | hk
    · have : ((xs.length : Nat) : Int) * k ≤ 0 := Int.mul_nonpos_of_nonneg_of_nonpos (by omega) (by omega)
      omega
    · have a1 : ((xs.length : Nat) : Int) * k ≤ 1000 * k := Int.mul_le_mul_of_nonneg_right (by omega) (by omega)
      omega
  have flen : (List.replicate k.toNat its).flatten.length ≤ 1000000 := by
    rw [PyProof.Rows.lm_len_rep_flat, hle]
    have a1 : k.toNat * xs.length ≤ 1000 * 1000 := Nat.mul_le_mul (by omega) hz
    omega
  have flen2 : (List.replicate k.toNat xs).flatten.length ≤ sizeLine := by
    rw [PyProof.Rows.lm_len_rep_flat, sizeLine_eq]
    have a1 : k.toNat * xs.length ≤ 1000 * 1000 := Nat.mul_le_mul (by omega) hz
    omega
  have c0 : (decide (k < -(2 ^ 63)) || decide (k ≥ 2 ^ 63)) = false := by
    rw [decide_eq_false (by omega), decide_eq_false (by omega)] <;> rfl
  have go : ∀ {Q' : Value → Shared → Prop}, wpAny (model X.prog X.w) (X.A) (call (.builtin "tuple.__mul__") [.ref l, .int k t]) Q' X.xe s → wpAny (model X.prog X.w) X.A (binaryOp .Mult (.ref l) (.int k t)) Q' X.xe s := fun {Q'} z =>
    wpAny_binaryOp_repeat_ref (T := "tuple") (U := "int") (by decide) ⟨_, ho, rfl⟩ (fun s' => typeIs_int s' k t) noFill_tuple_mul F.fills_int_mul F.slot_int_rmul repeat_tuple F.slot_int_index.lookup
      (call_meets F.slot_int_rmul (typeIs_int s k t) F.entry_int_rmul (F.args_int_rmul_2 _ _) (int_rmul_tuple k t l its.toArray n dd sl) ⟨ho, rfl, ⟨_, ho, rfl⟩, z⟩)
  refine go ?_
  cases c1 : (its.toArray.isEmpty || k == 1) with
  | true =>
    refine call_meets F.slot_tuple_mul ⟨_, ho, rfl⟩ F.entry_tuple_mul (F.args_tuple_mul_2 _ _) (tuple_mulS l its.toArray n dd sl k t c0 c1) ⟨ho, .ref l, H, I, rfl, q1 ?_⟩
    rw [Bool.or_eq_true] at c1
    rcases c1 with z | z
    · left
      have : its.length = 0 := by
        cases its with
        | nil => rfl
        | cons a b => simp at z
      exact List.eq_nil_of_length_eq_zero (by omega)
    · right
      exact eq_of_beq z
  | false =>
    have c1' := c1
    rw [Bool.or_eq_false_iff] at c1'
    have hne : xs ≠ [] := fun e => by
      subst e
      cases r
      simp at c1'
    have hk1 : k ≠ 1 := fun e => by rw [e] at c1'; simp at c1'
    cases c2 : (decide (k ≤ 0) || its.toArray.isEmpty) with
    | true =>
      refine call_meets F.slot_tuple_mul ⟨_, ho, rfl⟩ F.entry_tuple_mul (F.args_tuple_mul_2 _ _) (tuple_mul0 l its.toArray n dd sl k t c0 c1 c2) ⟨ho, ?_⟩
      rw [c1'.1, Bool.or_false] at c2
      have hk : k.toNat = 0 := by have := of_decide_eq_true c2; omega
      have e0 : (List.replicate k.toNat xs).flatten = [] := by rw [hk]; rfl
      have q3 := q2 hne hk1
      rw [e0] at q3
      exact lay_tup (t' := s.toks) I (its := []) .nil (Nat.zero_le _) q3
    | false =>
      have c4 : Builtin.Tuple.tupleTooMany (((its.toArray.size : Nat) : Int) * k) = false := by
        unfold Builtin.Tuple.tupleTooMany
        rw [sizeLine_eq]
        exact decide_eq_false (by omega)
      refine call_meets F.slot_tuple_mul ⟨_, ho, rfl⟩ F.entry_tuple_mul (F.args_tuple_mul_2 _ _) (tuple_mulW l its.toArray n dd sl k t c0 c1 c2 (by omega) c4 (by rw [size_rep, List.size_toArray, sizeLine_eq]; omega)) ⟨ho, ?_⟩
      rw [size_rep]
      exact lay_tup (t' := s.toks) I (r.rep k.toNat) flen2 (q2 hne hk1)
end
end Sim
namespace Sim
open PySem PySem.Spec L2
abbrev D := PyData
abbrev Sg := List (Option D)
/-- an outcome -/
inductive Res (α : Type) where
  | ok (a : α) (s : Sg)
  | exc (c : Str) (v : D) (s : Sg)
  | bad
def Res.bind {α β : Type} (m : Res α) (k : α → Sg → Res β) : Res β :=
  match m with
  | .ok a s => k a s
  | .exc c v s => .exc c v s
  | .bad => .bad
theorem bind_ok {α β : Type} (a : α) (s : Sg) (k : α → Sg → Res β) : (Res.ok a s).bind k = k a s := rfl
theorem bind_inv {α β : Type} {m : Res α} {k : α → Sg → Res β} {b : β} {s : Sg} (h : m.bind k = .ok b s) : ∃ a s1, m = .ok a s1 ∧ k a s1 = .ok b s := by
  cases m with
  | ok a s1 => exact ⟨a, s1, rfl, h⟩
  | exc c v s1 => cases h
  | bad => cases h
/-- an operand: a value, or what a slot holds -/
inductive Rf where
  | val (d : D)
  | slot (i : Nat)
def rd (r : Rf) (s : Sg) : Option D :=
  match r with
  | .val d => some d
  | .slot i => (s[i]?).join
def rds : List Rf → Sg → Option (List D)
  | [], _ => some []
  | r :: rs, s => match rd r s with
    | none => none
    | some d => match rds rs s with
      | none => none
      | some ds => some (d :: ds)
abbrev O := Sg → Res Rf
abbrev AL := Sg → Res (List Rf)
abbrev T := Sg → Res Bool
inductive Fl where
  | nx | rt (d : D) | bk | ct
abbrev S := Sg → Res Fl
/-- a list that never changes is told so -/
def frzT : List (D × D) → Bool
  | [(.none, .list _)] => true
  | [(.none, .dict _)] => true
  | _ => false
mutual
/-- no list that may change, no object within -/
def pur : D → Bool
  | .list _ => false
  | .dict kvs => frzT kvs
  | .tuple xs => purs xs
  | .none => true
  | .bool _ => true
  | .int _ => true
  | .str _ => true
def purs : List D → Bool
  | [] => true
  | x :: xs => pur x && purs xs
end
mutual
/-- nothing told by a dict within -/
def noD : D → Bool
  | .list xs => noDs xs
  | .dict _ => false
  | .tuple xs => noDs xs
  | .none => true
  | .bool _ => true
  | .int _ => true
  | .str _ => true
def noDs : List D → Bool
  | [] => true
  | x :: xs => noD x && noDs xs
end
/-- a list that never changes -/
def SqF (K : PySem.W.Frag) (H : Hp) (a : Addr) (xs : List V) : Prop :=
  (∃ o, H a = some (.frz o (.lst xs))) ∨
    ∃ (o : Obj) (its : Array Value) (n : Nat), K.lookup a = some o ∧ o.cls = .type "list" ∧ o.dict = none ∧ o.data = .seq its n ∧ its.size ≤ sizeLine ∧ Vals xs its.toList
theorem SqF.sq {K : PySem.W.Frag} {H : Hp} {a : Addr} {xs : List V} (h : SqF K H a xs) : SqL K H a xs := by
  rcases h with h | h
  · exact .inl (.inr h)
  · exact .inr h
/-- the entries of a dict whose keys are tuples, as they stand in its object -/
def RawO (a : Addr) (es : List (NestedKey × Addr × V)) (o : Obj) : HO := .ext fun h => es.length ≤ sizeLine ∧ (a == sysModules) = false ∧ (es.map (·.1)).Nodup ∧ h.get? a = some o ∧
  ∃ (ents : Array DictEntry) (ep : Nat), o.ExactDict ∧ o.data = .dict ents ep ∧
    Paired (fun (p : NestedKey × Addr × V) (e : DictEntry) => (∀ w, e.hash = p.1.hash w) ∧ e.key = .ref p.2.1 ∧ RelV p.2.2 e.val) es ents.toList
/-- an object that may change: a list, a dict, an instance -/
inductive MO
  | lst (xs : List V)
  | dct (kvs : List (Key × V))
  | dcn (a : Addr) (es : List (NestedKey × Addr × V)) (o : Obj)
  | ins (C dx : Addr) (fs : List (Str × V))
  | frk (o : Obj) (kvs : List (Key × V))
  | frn (a : Addr) (es : List (NestedKey × Addr × V)) (od o : Obj)
def MO.ho : MO → HO
  | .lst xs => .lst xs
  | .dct kvs => .dK kvs
  | .dcn a es o => RawO a es o
  | .ins C dx fs => .ins C dx fs
  | .frk o kvs => .frz o (.dK kvs)
  | .frn a es od o => .frz o (RawO a es od)
def isMut : HO → Bool
  | .lst _ => true
  | .dK _ => true
  | .ins _ _ _ => true
  | .ext _ => true
  | .tbl _ => true
  | _ => false
def isTbl : HO → Bool
  | .tbl _ => true
  | _ => false
theorem MO.ntb (m : MO) : isTbl m.ho = false := by cases m <;> rfl
/-- no object of ours is a code object -/
theorem MO.nco (m : MO) (c : Addr) (q : Str) : m.ho ≠ LamX.CodeO c q := by
  cases m with
  | lst _ => intro z; cases z
  | dct _ => intro z; cases z
  | ins _ _ _ => intro z; cases z
  | frk _ _ => intro z; cases z
  | frn _ _ _ _ => intro z; cases z
  | dcn a es o =>
    intro z
    have e := HO.ext.inj z
    let h0 : Heap := { objs := Array.replicate (c + 1) { cls := .none, data := .fields #[.none, .str q 0] } }
    have hc : h0.get? c = some { cls := .none, data := .fields #[.none, .str q 0] } := by
      show (match (Array.replicate (c + 1) ({ cls := .none, data := .fields #[.none, .str q 0] } : Obj))[c]? with
        | some ⟨_, _, .freed, _⟩ => none
        | o => o) = _
      rw [Array.getElem?_replicate, if_pos (Nat.lt_succ_self c)]
    have h1 := (congrFun e h0).mpr ⟨_, _, _, hc, rfl, rfl⟩
    obtain ⟨_, _, _, ho, ents, ep, _, hd, _⟩ := h1
    by_cases ha : a = c
    · rw [ha, hc] at ho
      cases ho
      cases hd
    · have : ∀ b o', h0.get? b = some o' → o' = { cls := .none, data := .fields #[.none, .str q 0] } := fun b o' hb => by
        have hb : (match (Array.replicate (c + 1) ({ cls := .none, data := .fields #[.none, .str q 0] } : Obj))[b]? with
          | some ⟨_, _, .freed, _⟩ => none
          | o => o) = some o' := hb
        rw [Array.getElem?_replicate] at hb
        by_cases hlt : b < c + 1
        · rw [if_pos hlt] at hb
          cases hb
          rfl
        · rw [if_neg hlt] at hb
          cases hb
      rw [this a o ho] at hd
      cases hd
/-- the tables of code objects that stand open: their addresses, the names of the code objects -/
class Tb where
  l : List (Addr × Str)
instance noTb : Tb := ⟨[]⟩
def TabsOk [Tb] (H : Hp) : Prop := LamX.Tabs Tb.l H
theorem TabsOk.ext [Tb] {H H' : Hp} (t : TabsOk H) (e : ∀ b o, H b = some o → H' b = some o) : TabsOk H' := fun p h => (t p h).ext e
theorem TabsOk.upd [Tb] {H : Hp} {a : Addr} {m : MO} {o : HO} (h : H a = some m.ho) (t : TabsOk H) : TabsOk (upd H a o) := fun p hp => by
  obtain ⟨ps, h1, h2, h3⟩ := t p hp
  refine ⟨ps, by rw [upd_ne (fun z => by rw [z, h] at h1; have := Option.some.inj h1; cases m <;> cases this)]; exact h1, h2, fun pos cv e => ?_⟩
  obtain ⟨c, e1, e2⟩ := h3 pos cv e
  exact ⟨c, e1, by rw [upd_ne (fun z => by rw [z, h] at e2; exact m.nco _ _ (Option.some.inj e2))]; exact e2⟩
/-- a key as it is told -/
def kD : Key → D
  | .inl i => .int i
  | .inr x => .str x
mutual
def nkD : NestedKey → D
  | .none => .none
  | .num i => .int i
  | .text x => .str x
  | .tup ks => .tuple (nkDs ks)
def nkDs : List NestedKey → List D
  | [] => []
  | k :: ks => nkD k :: nkDs ks
end
def zkd {κ : Type} (f : κ → D) : List κ → List D → List (D × D)
  | k :: ks, d :: ds => (f k, d) :: zkd f ks ds
  | _, _ => []
/-- which class a name of the program's top means -/
def ClsN (K : PySem.W.Frag) (nm : Str) (C : Addr) : Prop := PySem.W.nsIn K mainGlobals nm = some (some (.ref C))
theorem ClsN.eq {K : PySem.W.Frag} {nm : Str} {C C' : Addr} (a : ClsN K nm C) (b : ClsN K nm C') : C = C' := by
  have := (show PySem.W.nsIn K mainGlobals nm = _ from a).symm.trans b
  cases this
  rfl
mutual
inductive Own (K : PySem.W.Frag) (H : Hp) : D → V → List Addr → Prop
  | non : Own K H .none .non []
  | bl (b : Bool) : Own K H (.bool b) (.bl b) []
  | int (i : Int) : Own K H (.int i) (.int i) []
  | str (x : Str) : Own K H (.str x) (.str x) []
  | tup {a : Addr} {xs : List V} {ds : List D} {F : List Addr} : SqD K H a xs → OwnA K H ds xs F → Own K H (.tuple ds) (.ref a) F
  | frz {a : Addr} {xs : List V} {ds : List D} : SqF K H a xs → OwnA K H ds xs [] → Own K H (.dict [(.none, .list ds)]) (.ref a) []
  | opq (a : Addr) : Own K H (.dict [(.none, .bool true)]) (.ref a) []
  | frd {a : Addr} {o : Obj} : H a = some (.frz o (.dK [])) → Own K H (.dict [(.none, .dict [])]) (.ref a) []
  | dct {a : Addr} {kvs : List (Key × V)} {ds : List D} {F : List Addr} : H a = some (.dK kvs) → OwnA K H ds (kvs.map Prod.snd) F → a ∉ F → Own K H (.dict ((.bool true, .none) :: zkd kD (kvs.map Prod.fst) ds)) (.ref a) (a :: F)
  | dcn {a : Addr} {es : List (NestedKey × Addr × V)} {o : Obj} {ds : List D} : H a = some (RawO a es o) → OwnA K H (es.map fun e => nkD e.1) (es.map fun e => V.ref e.2.1) [] → OwnA K H ds (es.map fun e => e.2.2) [] → Own K H (.dict ((.bool true, .int 0) :: zkd nkD (es.map fun e => e.1) ds)) (.ref a) [a]
  | frk {a : Addr} {o : Obj} {kvs : List (Key × V)} {ds : List D} : H a = some (.frz o (.dK kvs)) → OwnA K H ds (kvs.map Prod.snd) [] → Own K H (.dict ((.bool true, .bool false) :: zkd kD (kvs.map Prod.fst) ds)) (.ref a) [a]
  | frn {a : Addr} {es : List (NestedKey × Addr × V)} {od o : Obj} {ds : List D} : H a = some (.frz o (RawO a es od)) → OwnA K H (es.map fun e => nkD e.1) (es.map fun e => V.ref e.2.1) [] → OwnA K H ds (es.map fun e => e.2.2) [] → Own K H (.dict ((.bool true, .bool true) :: zkd nkD (es.map fun e => e.1) ds)) (.ref a) [a]
  | ins {a C dx : Addr} {nm : Str} {fs : List (Str × V)} {ds : List D} {F : List Addr} : ClsN K nm C → H a = some (.ins C dx fs) → OwnA K H ds (fs.map Prod.snd) F → a ∉ F → Own K H (.dict ((.bool false, .str nm) :: zkd PyData.str (fs.map Prod.fst) ds)) (.ref a) (a :: F)
  | lst {a : Addr} {xs : List V} {ds : List D} {F : List Addr} : H a = some (.lst xs) → OwnA K H ds xs F → a ∉ F → Own K H (.list ds) (.ref a) (a :: F)
inductive OwnA (K : PySem.W.Frag) (H : Hp) : List D → List V → List Addr → Prop
  | nil : OwnA K H [] [] []
  | cons {v : V} {vs : List V} {d : D} {ds : List D} {F G : List Addr} : Own K H d v F → OwnA K H ds vs G → (∀ a, a ∈ F → a ∉ G) → OwnA K H (d :: ds) (v :: vs) (F ++ G)
end
section
variable {K : PySem.W.Frag} {H H' : Hp}
mutual
theorem Own.dp : ∀ {d : D} {v : V} {F : List Addr}, Own K H d v F → noD d = true → Dp K H v d
  | _, _, _, .non, _ => .non
  | _, _, _, .bl b, _ => .bl b
  | _, _, _, .int b, _ => .int b
  | _, _, _, .str b, _ => .str b
  | _, _, _, .frz _ _, p => by simp [noD] at p
  | _, _, _, .frd _, p => by simp [noD] at p
  | _, _, _, .opq _, p => by simp [noD] at p
  | _, _, _, .dct _ _ _, p => by simp [noD] at p
  | _, _, _, .dcn _ _ _, p => by simp [noD] at p
  | _, _, _, .frk _ _, p => by simp [noD] at p
  | _, _, _, .frn _ _ _, p => by simp [noD] at p
  | _, _, _, .ins _ _ _ _, p => by simp [noD] at p
  | _, _, _, .lst h t _, p => .lst (SqL.of h) (OwnA.dp t (by simpa [noD] using p))
  | _, _, _, .tup h t, p => .tup h.sq (OwnA.dp t (by simpa [noD] using p))
theorem OwnA.dp : ∀ {ds : List D} {vs : List V} {F : List Addr}, OwnA K H ds vs F → noDs ds = true → DpAll K H vs ds
  | _, _, _, .nil, _ => .nil
  | _, _, _, .cons h t _, p => by
    simp only [noDs, Bool.and_eq_true] at p
    exact .cons (Own.dp h p.1) (OwnA.dp t p.2)
end
mutual
theorem Own.pur : ∀ {d : D} {v : V} {F : List Addr}, Own K H d v F → pur d = true → F = []
  | _, _, _, .non, _ => rfl
  | _, _, _, .bl b, _ => rfl
  | _, _, _, .int b, _ => rfl
  | _, _, _, .str b, _ => rfl
  | _, _, _, .lst _ _ _, p => by simp [Sim.pur] at p
  | _, _, _, .frz _ _, _ => rfl
  | _, _, _, .frd _, _ => rfl
  | _, _, _, .opq _, p => by simp [Sim.pur, frzT] at p
  | _, _, _, .dct _ _ _, p => by simp [Sim.pur, frzT] at p
  | _, _, _, .dcn _ _ _, p => by simp [Sim.pur, frzT] at p
  | _, _, _, .frk _ _, p => by simp [Sim.pur, frzT] at p
  | _, _, _, .frn _ _ _, p => by simp [Sim.pur, frzT] at p
  | _, _, _, .ins _ _ _ _, p => by simp [Sim.pur, frzT] at p
  | _, _, _, .tup h t, p => OwnA.pur t (by simpa [Sim.pur] using p)
theorem OwnA.pur : ∀ {ds : List D} {vs : List V} {F : List Addr}, OwnA K H ds vs F → purs ds = true → F = []
  | _, _, _, .nil, _ => rfl
  | _, _, _, .cons h t _, p => by
    simp only [purs, Bool.and_eq_true] at p
    rw [Own.pur h p.1, OwnA.pur t p.2]
    rfl
end
mutual
theorem Own.mem : ∀ {d : D} {v : V} {F : List Addr}, Own K H d v F → ∀ a, a ∈ F → ∃ xs : MO, H a = some xs.ho
  | _, _, _, .non, _, h => by simp at h
  | _, _, _, .bl b, _, h => by simp at h
  | _, _, _, .int b, _, h => by simp at h
  | _, _, _, .str b, _, h => by simp at h
  | _, _, _, .frz _ _, _, h => by simp at h
  | _, _, _, .frd _, _, h => by simp at h
  | _, _, _, .opq _, _, h => by simp at h
  | _, _, _, .dct e t _, a, h => by
    rcases List.mem_cons.mp h with rfl | h
    · exact ⟨.dct _, e⟩
    · exact OwnA.mem t a h
  | _, _, _, .dcn e _ _, a, h => by rw [List.mem_singleton.mp h]; exact ⟨.dcn _ _ _, e⟩
  | _, _, _, .frk e _, a, h => by rw [List.mem_singleton.mp h]; exact ⟨.frk _ _, e⟩
  | _, _, _, .frn e _ _, a, h => by rw [List.mem_singleton.mp h]; exact ⟨.frn _ _ _ _, e⟩
  | _, _, _, .ins _ e t _, a, h => by
    rcases List.mem_cons.mp h with rfl | h
    · exact ⟨.ins _ _ _, e⟩
    · exact OwnA.mem t a h
  | _, _, _, .lst e t _, a, h => by
    rcases List.mem_cons.mp h with rfl | h
    · exact ⟨.lst _, e⟩
    · exact OwnA.mem t a h
  | _, _, _, .tup _ t, a, h => OwnA.mem t a h
theorem OwnA.mem : ∀ {ds : List D} {vs : List V} {F : List Addr}, OwnA K H ds vs F → ∀ a, a ∈ F → ∃ xs : MO, H a = some xs.ho
  | _, _, _, .nil, _, h => by simp at h
  | _, _, _, .cons h1 t _, a, h => by
    rcases List.mem_append.mp h with h | h
    · exact Own.mem h1 a h
    · exact OwnA.mem t a h
end
/-- the change of a heap: but the lists at Fa all stands -/
structure Chg [Tb] (Fa : Addr → Prop) (H H' : Hp) : Prop where
  keep : ∀ a o, H a = some o → ((¬ Fa a ∧ isTbl o = false) ∨ isMut o = false) → H' a = some o
  there : ∀ a, H' a = none → H a = none
  tab : TabsOk H → TabsOk H'
theorem Chg.refl [Tb] (Fa : Addr → Prop) (H : Hp) : Chg Fa H H := ⟨fun _ _ h _ => h, fun _ h => h, fun h => h⟩
theorem Chg.same [Tb] {Fa : Addr → Prop} (h : Same H H') : Chg Fa H H' := ⟨fun _ _ e _ => h _ _ e, fun _ e => h.free e, fun t => t.ext h⟩
theorem Chg.mono [Tb] {Fa Fb : Addr → Prop} (c : Chg Fa H H') (h : ∀ a o, H a = some o → Fa a → Fb a) : Chg Fb H H' := ⟨fun a o e cc => c.keep a o e (cc.imp (fun z => ⟨fun w => z.1 (h a o e w), z.2⟩) id), c.there, c.tab⟩
theorem Chg.trans [Tb] {Fa : Addr → Prop} {H1 : Hp} (a : Chg Fa H H1) (b : Chg Fa H1 H') : Chg Fa H H' := ⟨fun x o e cc => b.keep x o (a.keep x o e cc) cc, fun x e => a.there x (b.there x e), fun t => b.tab (a.tab t)⟩
/-- one object of ours is written -/
theorem Chg.upd1 [Tb] {a : Addr} {m : MO} {o : HO} (h : H a = some m.ho) (hm : isMut m.ho = true := by rfl) : Chg (fun b => b = a) H (upd H a o) := ⟨fun b ob e c => by
  by_cases hb : b = a
  · subst hb
    rcases c with c | c
    · exact absurd rfl c.1
    · rw [h] at e
      cases e
      rw [hm] at c
      cases c
  · rw [upd_ne hb]; exact e, fun b e => by
  by_cases hb : b = a
  · subst hb; rw [upd_same] at e; cases e
  · rw [upd_ne hb] at e; exact e, fun t => t.upd h⟩
/-- a later change of what is new -/
theorem Chg.transN [Tb] {Fa Fb : Addr → Prop} {H1 : Hp} (a : Chg Fa H H1) (b : Chg Fb H1 H') (n : ∀ x o, H x = some o → ¬ Fb x) : Chg Fa H H' :=
  ⟨fun x o e cc => b.keep x o (a.keep x o e cc) (cc.imp (fun z => ⟨n x o e, z.2⟩) id), fun x e => a.there x (b.there x e), fun t => b.tab (a.tab t)⟩
/-- what stands and is not changed -/
theorem Chg.mo [Tb] {Fa : Addr → Prop} (c : Chg Fa H H') {a : Addr} {m : MO} (h : H a = some m.ho) (n : ¬ Fa a) : H' a = some m.ho := c.keep a _ h (.inl ⟨n, m.ntb⟩)
theorem Chg.sqD [Tb] {Fa : Addr → Prop} (c : Chg Fa H H') {a : Addr} {xs : List V} (h : SqD K H a xs) : SqD K H' a xs := by
  rcases h with ⟨o, h, n⟩ | h
  · exact .inl ⟨o, c.keep _ _ h (.inr rfl), n⟩
  · exact .inr h
theorem Chg.sqF [Tb] {Fa : Addr → Prop} (c : Chg Fa H H') {a : Addr} {xs : List V} (h : SqF K H a xs) : SqF K H' a xs := by
  rcases h with ⟨o, h⟩ | h
  · exact .inl ⟨o, c.keep _ _ h (.inr rfl)⟩
  · exact .inr h
mutual
theorem Own.chg [Tb] {Fa : Addr → Prop} (c : Chg Fa H H') : ∀ {d : D} {v : V} {F : List Addr}, Own K H d v F → (∀ a, a ∈ F → ¬ Fa a) → Own K H' d v F
  | _, _, _, .non, _ => .non
  | _, _, _, .bl b, _ => .bl b
  | _, _, _, .int b, _ => .int b
  | _, _, _, .str b, _ => .str b
  | _, _, _, .lst h t n, q => .lst (c.keep _ _ h (.inl ⟨q _ (List.mem_cons_self ..), rfl⟩)) (OwnA.chg c t fun a ha => q a (List.mem_cons_of_mem _ ha)) n
  | _, _, _, .frz h t, q => .frz (c.sqF h) (OwnA.chg c t q)
  | _, _, _, .frd h, q => .frd (c.keep _ _ h (.inr rfl))
  | _, _, _, .opq a, _ => .opq a
  | _, _, _, .dct h t n, q => .dct (c.keep _ _ h (.inl ⟨q _ (List.mem_cons_self ..), rfl⟩)) (OwnA.chg c t fun a ha => q a (List.mem_cons_of_mem _ ha)) n
  | _, _, _, .dcn h t t2, q => .dcn (c.keep _ _ h (.inl ⟨q _ (List.mem_cons_self ..), rfl⟩)) (OwnA.chg c t fun a ha => by cases ha) (OwnA.chg c t2 fun a ha => by cases ha)
  | _, _, _, .frk h t, q => .frk (c.keep _ _ h (.inr rfl)) (OwnA.chg c t fun a ha => by cases ha)
  | _, _, _, .frn h t t2, q => .frn (c.keep _ _ h (.inr rfl)) (OwnA.chg c t fun a ha => by cases ha) (OwnA.chg c t2 fun a ha => by cases ha)
  | _, _, _, .ins cn h t n, q => .ins cn (c.keep _ _ h (.inl ⟨q _ (List.mem_cons_self ..), rfl⟩)) (OwnA.chg c t fun a ha => q a (List.mem_cons_of_mem _ ha)) n
  | _, _, _, .tup h t, q => .tup (c.sqD h) (OwnA.chg c t q)
theorem OwnA.chg [Tb] {Fa : Addr → Prop} (c : Chg Fa H H') : ∀ {ds : List D} {vs : List V} {F : List Addr}, OwnA K H ds vs F → (∀ a, a ∈ F → ¬ Fa a) → OwnA K H' ds vs F
  | _, _, _, .nil, _ => .nil
  | _, _, _, .cons h t n, q => .cons (Own.chg c h fun a ha => q a (List.mem_append_left _ ha)) (OwnA.chg c t fun a ha => q a (List.mem_append_right _ ha)) n
end
theorem Own.same (h : Same H H') {d : D} {v : V} {F : List Addr} (o : Own K H d v F) : Own K H' d v F := o.chg (Fa := fun _ => False) (@Chg.same _ _ noTb _ h) fun _ _ z => z
theorem OwnA.len : ∀ {ds : List D} {vs : List V} {F : List Addr}, OwnA K H ds vs F → vs.length = ds.length
  | _, _, _, .nil => rfl
  | _, _, _, .cons _ t _ => by rw [List.length_cons, List.length_cons, OwnA.len t]
end
end Sim
namespace Sim
open PySem PySem.Spec L2
abbrev Fp := Nat → List Addr
def InF (Fs : Fp) : Addr → Prop := fun a => ∃ i, a ∈ Fs i
/-- what else stands while a body runs: an object whose fields are slots of their own (none, of a plain def) -/
class Vs where
  fp : Nat → List Addr
  lnk : St → Hp → Prop
  ok : Nat → Prop
  keep : ∀ {σ : St} {H H' : Hp}, lnk σ H → (∀ i a, a ∈ fp i → H' a = H a) → lnk σ H'
  put : ∀ {σ : St} {H : Hp} {i : Nat} {v : Option V}, ok i → (lnk (σ.set i v) H ↔ lnk σ H)
  mem : ∀ {σ : St} {H : Hp} {i : Nat} {a : Addr}, lnk σ H → a ∈ fp i → ∃ m : MO, H a = some m.ho
  nil : ∀ {i : Nat}, ok i → fp i = []
instance noVs : Vs := ⟨fun _ => [], fun _ _ => True, fun _ => True, fun _ _ => trivial, fun _ => Iff.rfl, fun _ h => by simp at h, fun _ => rfl⟩
/-- the slots' values, as they are told, stand -/
def Lk2 [Tb] [Vs] (σ : St) (H : Hp) : Prop := Vs.lnk σ H ∧ TabsOk H
structure RelS [Tb] [Vs] (K : PySem.W.Frag) (H : Hp) (s : Sg) (σ : St) (Fs : Fp) : Prop where
  len : s.length = σ.length
  has : ∀ i d, s[i]? = some (some d) → ∃ v, σ[i]? = some (some v) ∧ Own K H d v (Fs i)
  off : ∀ i, (∀ d, s[i]? ≠ some (some d)) → Fs i = Vs.fp i
  dis : ∀ i j a, a ∈ Fs i → a ∈ Fs j → i = j
  lnk : Lk2 σ H
  bse : ∀ i, Vs.fp i ≠ [] → ∀ d, s[i]? ≠ some (some d)
/-- from one heap to a later one -/
structure Ev [Tb] (H : Hp) (Fs : Fp) (H' : Hp) (Fs' : Fp) : Prop where
  chg : Chg (InF Fs) H H'
  new : ∀ i a, a ∈ Fs' i → a ∈ Fs i ∨ H a = none
section
variable [Tb] [Vs] {K : PySem.W.Frag} {H H1 H' : Hp} {s s' : Sg} {σ σ' : St} {Fs Fs1 Fs' : Fp}
theorem RelS.mem (R : RelS K H s σ Fs) {i : Nat} {a : Addr} (h : a ∈ Fs i) : ∃ xs : MO, H a = some xs.ho := by
  cases e : s[i]? with
  | none =>
    rw [R.off i (fun d z => by rw [e] at z; cases z)] at h
    exact Vs.mem R.lnk.1 h
  | some o =>
    cases o with
    | none =>
      rw [R.off i (fun d z => by rw [e] at z; cases z)] at h
      exact Vs.mem R.lnk.1 h
    | some d =>
      obtain ⟨v, _, q⟩ := R.has i d e
      exact q.mem a h
/-- a slot that holds an open object -/
theorem RelS.fpF (R : RelS K H s σ Fs) {i : Nat} {a : Addr} (h : a ∈ Vs.fp i) : a ∈ Fs i := by
  rw [R.off i (R.bse i (fun e => by rw [e] at h; cases h))]
  exact h
/-- what stands elsewhere is no open object -/
theorem RelS.nfp (R : RelS K H s σ Fs) {i j : Nat} {a : Addr} {d : D} (e : s[i]? = some (some d)) (h : a ∈ Fs i) : a ∉ Vs.fp j := fun z => by
  have := R.dis i j a h (R.fpF z)
  subst this
  exact R.bse i (fun e => by rw [e] at z; cases z) d e
/-- where the lists of told slots alone change -/
theorem RelS.lnk' (R : RelS K H s σ Fs) (k : ∀ i a, a ∈ Vs.fp i → H' a = H a) (t : TabsOk H') : Lk2 σ H' := ⟨Vs.keep R.lnk.1 k, t⟩
theorem RelS.lnkS (R : RelS K H s σ Fs) (h : Same H H') : Lk2 σ H' := R.lnk' (fun i a ha => by
  obtain ⟨m, e⟩ := Vs.mem R.lnk.1 ha
  rw [e]
  exact h _ _ e) (R.lnk.2.ext h)
theorem Ev.refl (H : Hp) (Fs : Fp) : Ev H Fs H Fs := ⟨.refl _ _, fun _ _ h => .inl h⟩
theorem Ev.same (Fs : Fp) (h : Same H H') : Ev H Fs H' Fs := ⟨.same h, fun _ _ h => .inl h⟩
theorem Ev.trans (a : Ev H Fs H1 Fs1) (b : Ev H1 Fs1 H' Fs') : Ev H Fs H' Fs' := by
  refine ⟨⟨fun x o e c => ?_, fun x e => a.chg.there x (b.chg.there x e), fun t => b.chg.tab (a.chg.tab t)⟩, fun i x h => ?_⟩
  · have e1 := a.chg.keep x o e c
    refine b.chg.keep x o e1 (c.imp (fun n => ⟨fun z => ?_, n.2⟩) id)
    obtain ⟨i, hi⟩ := z
    rcases a.new i x hi with q | q
    · exact n.1 ⟨i, q⟩
    · rw [e] at q; cases q
  · rcases b.new i x h with q | q
    · exact a.new i x q
    · exact .inr (a.chg.there x q)
theorem RelS.same (R : RelS K H s σ Fs) (h : Same H H') : RelS K H' s σ Fs :=
  ⟨R.len, fun i d e => by
    obtain ⟨v, hv, q⟩ := R.has i d e
    exact ⟨v, hv, q.same h⟩, R.off, R.dis, R.lnkS h, R.bse⟩
/-- what stands apart from the slots -/
structure Apart (K : PySem.W.Frag) (H : Hp) (Fs : Fp) (d : D) (v : V) (F : List Addr) : Prop where
  own : Own K H d v F
  dis : ∀ i a, a ∈ Fs i → a ∉ F
theorem Apart.ev {d : D} {v : V} {F : List Addr} (A : Apart K H Fs d v F) (e : Ev H Fs H' Fs') : Apart K H' Fs' d v F := by
  refine ⟨A.own.chg e.chg fun a ha ⟨i, hi⟩ => A.dis i a hi ha, fun i a hi ha => ?_⟩
  rcases e.new i a hi with q | q
  · exact A.dis i a q ha
  · obtain ⟨xs, z⟩ := A.own.mem a ha
    rw [q] at z; cases z
/-- operands as they came -/
inductive Rfs (K : PySem.W.Frag) (H : Hp) (σ : St) (Fs : Fp) : List Rf → List V → List (List Addr) → Prop
  | nil : Rfs K H σ Fs [] [] []
  | val {d : D} {v : V} {F : List Addr} {rs : List Rf} {vs : List V} {Gs : List (List Addr)} : Apart K H Fs d v F → (∀ G, G ∈ Gs → ∀ a, a ∈ F → a ∉ G) → Rfs K H σ Fs rs vs Gs → Rfs K H σ Fs (.val d :: rs) (v :: vs) (F :: Gs)
  | slot {i : Nat} {v : V} {rs : List Rf} {vs : List V} {Gs : List (List Addr)} : σ[i]? = some (some v) → Rfs K H σ Fs rs vs Gs → Rfs K H σ Fs (.slot i :: rs) (v :: vs) ([] :: Gs)
theorem Rfs.mem {rs : List Rf} {vs : List V} {Gs : List (List Addr)} (r : Rfs K H σ Fs rs vs Gs) : ∀ G, G ∈ Gs → ∀ a, a ∈ G → ∃ xs : MO, H a = some xs.ho := by
  induction r with
  | nil => intro G h; cases h
  | val A _ _ ih =>
    intro G h a ha
    rcases List.mem_cons.mp h with rfl | h
    · exact A.own.mem a ha
    · exact ih G h a ha
  | slot _ _ ih =>
    intro G h a ha
    rcases List.mem_cons.mp h with rfl | h
    · cases ha
    · exact ih G h a ha
theorem join_some {i : Nat} {d : D} (e : (s[i]?).join = some d) : s[i]? = some (some d) := by
  cases h : s[i]? with
  | none => rw [h] at e; cases e
  | some o => rw [h] at e; rw [show o = some d from e]
/-- values that are told -/
inductive RdA (K : PySem.W.Frag) (H : Hp) : List V → List D → Prop
  | nil : RdA K H [] []
  | cons {v : V} {d : D} {F : List Addr} {vs : List V} {ds : List D} : Own K H d v F → RdA K H vs ds → RdA K H (v :: vs) (d :: ds)
theorem Rfs.dp (R : RelS K H s σ Fs) {rs : List Rf} {vs : List V} {Gs : List (List Addr)} (r : Rfs K H σ Fs rs vs Gs) : ∀ {ds : List D}, rds rs s = some ds → RdA K H vs ds := by
  induction r with
  | nil => intro ds e; cases e; exact .nil
  | @val d v F rs vs Gs A _ _ ih =>
    intro ds e
    unfold rds at e
    simp only [rd] at e
    split at e
    · cases e
    · rename_i es h; cases e; exact .cons A.own (ih h)
  | @slot i v rs vs Gs hv _ ih =>
    intro ds e
    unfold rds at e
    simp only [rd] at e
    split at e
    · cases e
    · rename_i d hd
      split at e
      · cases e
      · rename_i es h
        cases e
        obtain ⟨v', hv', q⟩ := R.has _ _ (join_some hd)
        rw [hv] at hv'
        cases hv'
        exact .cons q (ih h)
/-- one operand as it came -/
inductive RfOk (K : PySem.W.Frag) (H : Hp) (σ : St) (Fs : Fp) : Rf → V → List Addr → Prop
  | val {d : D} {v : V} {F : List Addr} : Apart K H Fs d v F → RfOk K H σ Fs (.val d) v F
  | slot {i : Nat} {v : V} : σ[i]? = some (some v) → RfOk K H σ Fs (.slot i) v []
theorem RfOk.ev {r : Rf} {v : V} {F : List Addr} (h : RfOk K H σ Fs r v F) (e : Ev H Fs H' Fs') : RfOk K H' σ Fs' r v F := by
  cases h with
  | val A => exact .val (A.ev e)
  | slot h => exact .slot h
theorem RfOk.mem {r : Rf} {v : V} {F : List Addr} (h : RfOk K H σ Fs r v F) : ∀ a, a ∈ F → ∃ xs : MO, H a = some xs.ho := by
  cases h with
  | val A => exact A.own.mem
  | slot h => intro a h; cases h
theorem RfOk.dp (R : RelS K H s σ Fs) {r : Rf} {v : V} {F : List Addr} (h : RfOk K H σ Fs r v F) {d : D} (e : rd r s = some d) : ∃ F', Own K H d v F' := by
  cases h with
  | val A => cases e; exact ⟨_, A.own⟩
  | slot h =>
    obtain ⟨v', hv', q⟩ := R.has _ _ (join_some e)
    rw [h] at hv'
    cases hv'
    exact ⟨_, q⟩
end
section
variable [Tb] [Vs] (K : PySem.W.Frag)
def tO (g : O) : TE := fun σ H Q => ∃ s Fs r s', RelS K H s σ Fs ∧ g s = .ok r s' ∧
  ∀ v H' Fs' F, RelS K H' s' σ Fs' → Ev H Fs H' Fs' → RfOk K H' σ Fs' r v F → (∀ a, a ∈ F → H a = none) → Q v H'
def tA (g : AL) : TA := fun σ H Q => ∃ s Fs rs s', RelS K H s σ Fs ∧ g s = .ok rs s' ∧
  ∀ vs H' Fs' Gs, RelS K H' s' σ Fs' → Ev H Fs H' Fs' → Rfs K H' σ Fs' rs vs Gs → (∀ G, G ∈ Gs → ∀ a, a ∈ G → H a = none) → Q vs H'
def tT (g : T) : TT := fun σ H Q => ∃ s Fs b s', RelS K H s σ Fs ∧ g s = .ok b s' ∧ ∀ H' Fs', RelS K H' s' σ Fs' → Ev H Fs H' Fs' → Q b H'
end
def SimO [Tb] [Vs] (X : Cx) (e : Expr) (g : O) : Prop := PE X e (tO X.K g)
def SimA [Tb] [Vs] (X : Cx) (es : List Expr) (g : AL) : Prop := PA X es (tA X.K g)
def SimT [Tb] [Vs] (X : Cx) (e : Expr) (g : T) : Prop := PT X e (tT X.K g)
theorem pe_imp {X : Cx} {e : Expr} {t t' : TE} (h : PE X e t) (i : ∀ σ H Q, t' σ H Q → t σ H Q) : PE X e t' := ⟨fun pins s σ H Q I q => h.run pins s σ H Q I (i σ H Q q)⟩
theorem pt_imp {X : Cx} {e : Expr} {t t' : TT} (h : PT X e t) (i : ∀ σ H Q, t' σ H Q → t σ H Q) : PT X e t' := ⟨fun pins s σ H Q I q => h.run pins s σ H Q I (i σ H Q q)⟩
theorem pa_imp {X : Cx} {e : List Expr} {t t' : TA} (h : PA X e t) (i : ∀ σ H Q, t' σ H Q → t σ H Q) : PA X e t' := ⟨fun pos pins s σ H Q I q => h.run pos pins s σ H Q I (i σ H Q q)⟩
def aNil : AL := fun s => .ok [] s
def aCons (g : O) (h : AL) : AL := fun s => (g s).bind fun r s1 => (h s1).bind fun rs s2 => .ok (r :: rs) s2
section
variable [Tb] [Vs] {X : Cx} {K : PySem.W.Frag}
theorem tA_nil {σ : St} {H : Hp} {Q : List V → Hp → Prop} (h : tA K aNil σ H Q) : tNil σ H Q := by
  obtain ⟨s, Fs, rs, s', R, e, q⟩ := h
  cases e
  exact q [] H Fs [] R (.refl _ _) .nil (by intro G h; cases h)
theorem tA_cons {g : O} {gs : AL} {σ : St} {H : Hp} {Q : List V → Hp → Prop} (h : tA K (aCons g gs) σ H Q) : tCons (tO K g) (tA K gs) σ H Q := by
  obtain ⟨s, Fs, rs, s', R, e, q⟩ := h
  obtain ⟨r, s1, e1, e⟩ := bind_inv e
  obtain ⟨rs1, s2, e2, e⟩ := bind_inv e
  cases e
  refine ⟨s, Fs, r, s1, R, e1, fun v H1 Fs1 F R1 E1 k1 n1 => ⟨s1, Fs1, rs1, s', R1, e2, fun vs H2 Fs2 Gs R2 E2 k2 n2 => ?_⟩⟩
  have k1' := k1.ev E2
  have nn : ∀ G, G ∈ Gs → ∀ a, a ∈ G → H a = none := fun G hG a ha => E1.chg.there a (n2 G hG a ha)
  cases k1' with
  | val A =>
    refine q _ H2 Fs2 (F :: Gs) R2 (E1.trans E2) (.val A (fun G hG a ha hb => ?_) k2) (fun G hG a ha => ?_)
    · obtain ⟨xs, z⟩ := k1.mem a ha
      rw [n2 G hG a hb] at z; cases z
    · rcases List.mem_cons.mp hG with rfl | hG
      · exact n1 a ha
      · exact nn G hG a ha
  | slot hv =>
    refine q _ H2 Fs2 ([] :: Gs) R2 (E1.trans E2) (.slot hv k2) (fun G hG a ha => ?_)
    rcases List.mem_cons.mp hG with rfl | hG
    · cases ha
    · exact nn G hG a ha
theorem sa_nil : SimA X [] aNil := pa_imp pa_nil fun _ _ _ h => tA_nil h
theorem sa_cons {e : Expr} {es : List Expr} {g : O} {gs : AL} (ha : SimO X e g) (hr : SimA X es gs) (hs : starEach (e :: es) X.env = (false, eval e X.env) :: starEach es X.env := by rfl) : SimA X (e :: es) (aCons g gs) :=
  pa_imp (pa_cons ha hr hs) fun _ _ _ h => tA_cons h
theorem tO_mono {g : O} {σ : St} {H : Hp} {Q Q' : VK} (i : ∀ v H, Q v H → Q' v H) (h : tO K g σ H Q) : tO K g σ H Q' := by
  obtain ⟨s, Fs, r, s', R, e, q⟩ := h
  exact ⟨s, Fs, r, s', R, e, fun v H' Fs' F a b c d => i _ _ (q v H' Fs' F a b c d)⟩
theorem tA_mono {g : AL} {σ : St} {H : Hp} {Q Q' : List V → Hp → Prop} (i : ∀ v H, Q v H → Q' v H) (h : tA K g σ H Q) : tA K g σ H Q' := by
  obtain ⟨s, Fs, r, s', R, e, q⟩ := h
  exact ⟨s, Fs, r, s', R, e, fun v H' Fs' F a b c d => i _ _ (q v H' Fs' F a b c d)⟩
theorem tA1 {a : O} {σ : St} {H : Hp} {Q : List V → Hp → Prop} (h : tA K (aCons a aNil) σ H Q) : tO K a σ H fun x H1 => Q [x] H1 :=
  tO_mono (fun _ _ h => by have z := tA_nil h; exact z) (tA_cons h)
theorem tA2 {a b : O} {σ : St} {H : Hp} {Q : List V → Hp → Prop} (h : tA K (aCons a (aCons b aNil)) σ H Q) : tO K a σ H fun x H1 => tO K b σ H1 fun y H2 => Q [x, y] H2 :=
  tO_mono (fun _ _ h => by have z := tA1 h; exact z) (tA_cons h)
end
def NewV (K : PySem.W.Frag) (H : Hp) (d : D) (v : V) (H' : Hp) : Prop := Same H H' ∧ ∃ F, Own K H' d v F ∧ ∀ a, a ∈ F → H a = none
def PrimR (K : PySem.W.Frag) (r : List V → Hp → VK → Prop) (f : List D → Option D) : Prop :=
  ∀ vs ds d H Q, RdA K H vs ds → f ds = some d → (∀ v H', NewV K H d v H' → Q v H') → r vs H Q
def oPrim (f : List D → Option D) (g : AL) : O := fun s => (g s).bind fun rs s1 => match rds rs s1 with
  | none => .bad
  | some ds => match f ds with
    | none => .bad
    | some d => .ok (.val d) s1
section
variable [Tb] [Vs] {X : Cx} {K : PySem.W.Frag} {H H' : Hp}
theorem NewV.ok {s : Sg} {σ : St} {Fs : Fp} {d : D} {v : V} (R : RelS K H s σ Fs) (h : NewV K H d v H') : RelS K H' s σ Fs ∧ Ev H Fs H' Fs ∧ ∃ F, RfOk K H' σ Fs (.val d) v F ∧ ∀ a, a ∈ F → H a = none := by
  obtain ⟨sm, F, o, n⟩ := h
  refine ⟨R.same sm, .same _ sm, F, .val ⟨o, fun i a hi ha => ?_⟩, n⟩
  obtain ⟨xs, z⟩ := R.mem hi
  rw [n a ha] at z; cases z
theorem prim {r : List V → Hp → VK → Prop} {f : List D → Option D} {g : AL} (hp : PrimR K r f) {σ : St} {H : Hp} {Q : VK} (h : tO K (oPrim f g) σ H Q) : tA K g σ H fun vs H1 => r vs H1 Q := by
  obtain ⟨s, Fs, rf, s', R, e, q⟩ := h
  obtain ⟨rs, s1, e1, e⟩ := bind_inv e
  refine ⟨s, Fs, rs, s1, R, e1, fun vs H1 Fs1 Gs R1 E1 k1 n1 => ?_⟩
  split at e
  · cases e
  · rename_i ds hds
    split at e
    · cases e
    · rename_i d hd
      cases e
      refine hp vs ds d H1 Q (k1.dp R1 hds) hd fun v H2 hv => ?_
      obtain ⟨R2, E2, F, k, n⟩ := hv.ok R1
      exact q v H2 Fs1 F R2 (E1.trans E2) k fun a ha => E1.chg.there a (n a ha)
theorem NewV.sc {d : D} {v : V} (h : Own K H d v []) : NewV K H d v H := ⟨Same.refl _, [], h, fun _ z => by cases z⟩
theorem NewV.pu {d : D} {v : V} {F : List Addr} (h : Own K H d v F) (p : pur d = true) : NewV K H d v H := .sc (by rw [h.pur p] at h; exact h)
/-- a new object -/
theorem same_new {a : Addr} {o : HO} (h : H a = none) : Same H (upd H a o) := fun b x e => by rw [upd_ne (ne_of_none e h)]; exact e
theorem NewV.tup {ds : List D} {vs : List V} {a : Addr} {o : Obj} (h : OwnA K H ds vs []) (n : H a = none) (nd : o.dict = none) : NewV K H (.tuple ds) (.ref a) (upd H a (.frz o (.tup vs))) := by
  have sm : Same H (upd H a (.frz o (.tup vs))) := same_new n
  exact ⟨sm, [], .tup (SqD.of upd_same nd) (h.chg (Fa := fun _ => False) (.same sm) fun _ _ z => z), fun _ z => by cases z⟩
theorem NewV.lst {ds : List D} {vs : List V} {a : Addr} (h : OwnA K H ds vs []) (n : H a = none) : NewV K H (.list ds) (.ref a) (upd H a (.lst vs)) := by
  have sm : Same H (upd H a (.lst vs)) := same_new n
  exact ⟨sm, [a], .lst upd_same (h.chg (Fa := fun _ => False) (.same sm) fun _ _ z => z) (by simp), fun b z => by rw [List.mem_singleton.mp z]; exact n⟩
end
end Sim
namespace Sim
open PySem PySem.Spec L2
theorem big_le : 1000000 ≤ sizeLine := by decide
def u2 (r : R2) : List V → Hp → VK → Prop
  | [x, y], H, Q => r x y H Q
  | _, _, _ => False
def u1 (r : V → Hp → VK → Prop) : List V → Hp → VK → Prop
  | [x], H, Q => r x H Q
  | _, _, _ => False
def mulOk (a b : Int) : Bool := (decide (-(2 ^ 64) < a) && decide (a < 2 ^ 64)) || (decide (-(2 ^ 64) < b) && decide (b < 2 ^ 64)) || decide (a.natAbs.log2 + b.natAbs.log2 < 1000000)
def pAdd : List D → Option D
  | [.int a, .int b] => some (.int (a + b))
  | [.str a, .str b] => if a.length + b.length ≤ 1000000 then some (.str (a ++ b)) else none
  | [.list a, .list b] => if a.length + b.length ≤ 1000000 ∧ purs a = true ∧ purs b = true then some (.list (a ++ b)) else none
  | [.tuple a, .tuple b] => if a.length + b.length ≤ 1000000 ∧ purs a = true ∧ purs b = true then some (.tuple (a ++ b)) else none
  | _ => none
def pSub : List D → Option D
  | [.int a, .int b] => some (.int (a - b))
  | _ => none
def pMul : List D → Option D
  | [.int a, .int b] => if mulOk a b = true then some (.int (a * b)) else none
  | [.tuple a, .int b] => if -1000 ≤ b ∧ b ≤ 1000 ∧ a.length ≤ 1000 ∧ purs a = true then some (.tuple (List.replicate b.toNat a).flatten) else none
  | [.list a, .int b] => if b < 2 ^ 63 ∧ -(2 ^ 63) ≤ b ∧ a.length * b.toNat ≤ 1000000 ∧ purs a = true then some (.list (List.replicate b.toNat a).flatten) else none
  | _ => none
def pDiv : List D → Option D
  | [.int a, .int b] => if 0 < b ∧ b.natAbs.log2 < 9000 then some (.int (a / b)) else none
  | _ => none
def pMod : List D → Option D
  | [.int a, .int b] => if 0 < b then some (.int (a % b)) else none
  | _ => none
def pPow : List D → Option D
  | [.int a, .int b] => if 0 ≤ b ∧ b ≤ 1000000 ∧ a.natAbs < 2 ^ 64 then some (.int (a ^ b.toNat)) else none
  | _ => none
def pShl : List D → Option D
  | [.int a, .int b] => if 0 ≤ b ∧ b ≤ 1000000 ∧ a.natAbs < 2 ^ 64 then some (.int (a * 2 ^ b.toNat)) else none
  | _ => none
def pNeg : List D → Option D
  | [.int a] => some (.int (-a))
  | _ => none
def pLt : List D → Option D
  | [.int a, .int b] => some (.bool (decide (a < b)))
  | _ => none
def pLe : List D → Option D
  | [.int a, .int b] => some (.bool (decide (a ≤ b)))
  | _ => none
def pGt : List D → Option D
  | [.int a, .int b] => some (.bool (decide (b < a)))
  | _ => none
def pGe : List D → Option D
  | [.int a, .int b] => some (.bool (decide (b ≤ a)))
  | _ => none
/-- what may be compared by == -/
def shp (d : D) : Bool := SeqAt.shaped d && noD d
def pEq : List D → Option D
  | [a, b] => if shp a = true ∧ shp b = true then some (.bool (PyData.eqv a b)) else none
  | _ => none
def pNe : List D → Option D
  | [a, b] => if shp a = true ∧ shp b = true then some (.bool (!PyData.eqv a b)) else none
  | _ => none
def isN : D → Bool
  | .none => true
  | _ => false
def pIsN : List D → Option D
  | [a, .none] => some (.bool (isN a))
  | [.bool a, .bool b] => some (.bool (decide (a = b)))
  | _ => none
def pNotN : List D → Option D
  | [a, .none] => some (.bool (!isN a))
  | [.bool a, .bool b] => some (.bool (!decide (a = b)))
  | _ => none
def pIn : List D → Option D
  | [a, .list b] => if shp a = true ∧ shp (.list b) = true then some (.bool (b.any fun z => PyData.eqv z a)) else none
  | [a, .tuple b] => if fl a = true ∧ b.all fl = true then some (.bool (b.any fun z => PyData.eqv z a)) else none
  | [.str a, .str b] => some (.bool (!(Builtin.Str.occurrences b a 0 b.length 1).isEmpty))
  | _ => none
where fl : D → Bool
  | .none => true
  | .bool _ => true
  | .int _ => true
  | .str _ => true
  | _ => false
section
variable {K : PySem.W.Frag}
theorem RdA.two {H : Hp} {vs : List V} {a b : D} (h : RdA K H vs [a, b]) : ∃ x y F G, vs = [x, y] ∧ Own K H a x F ∧ Own K H b y G := by
  cases h with
  | cons o h =>
    cases h with
    | cons o2 h =>
      cases h
      exact ⟨_, _, _, _, rfl, o, o2⟩
theorem RdA.one {H : Hp} {vs : List V} {a : D} (h : RdA K H vs [a]) : ∃ x F, vs = [x] ∧ Own K H a x F := by
  cases h with
  | cons o h =>
    cases h
    exact ⟨_, _, rfl, o⟩
theorem RdA.zero {H : Hp} {vs : List V} (h : RdA K H vs []) : vs = [] := by
  cases h
  rfl
theorem purs_app {a b : List D} : purs (a ++ b) = (purs a && purs b) := by
  induction a with
  | nil => simp [purs]
  | cons x a ih => simp [purs, ih, Bool.and_assoc]
theorem OwnA.nil2 {H : Hp} {v : V} {vs : List V} {d : D} {ds : List D} (h : OwnA K H (d :: ds) (v :: vs) []) : Own K H d v [] ∧ OwnA K H ds vs [] := by
  generalize e : ([] : List Addr) = F at h
  cases h with
  | @cons _ _ _ _ F G o t n =>
    have e1 : F = [] ∧ G = [] := List.append_eq_nil_iff.mp e.symm
    obtain ⟨rfl, rfl⟩ := e1
    exact ⟨o, t⟩
theorem OwnA.cons0 {H : Hp} {v : V} {vs : List V} {d : D} {ds : List D} (o : Own K H d v []) (t : OwnA K H ds vs []) : OwnA K H (d :: ds) (v :: vs) [] := OwnA.cons (F := []) (G := []) o t (by simp)
theorem OwnA.app {H : Hp} : ∀ {as bs : List D} {vs ws : List V}, OwnA K H as vs [] → OwnA K H bs ws [] → OwnA K H (as ++ bs) (vs ++ ws) []
  | [], _, [], _, _, g => g
  | _ :: _, _, _ :: _, _, h, g => .cons0 h.nil2.1 (OwnA.app h.nil2.2 g)
  | [], _, _ :: _, _, h, _ => nomatch h
  | _ :: _, _, [], _, h, _ => nomatch h
theorem OwnA.rep {H : Hp} {as : List D} {vs : List V} (h : OwnA K H as vs []) : ∀ k : Nat, OwnA K H (List.replicate k as).flatten (List.replicate k vs).flatten []
  | 0 => .nil
  | k + 1 => by
    rw [List.replicate_succ, List.replicate_succ, List.flatten_cons, List.flatten_cons]
    exact h.app (OwnA.rep h k)
theorem OwnA.take {H : Hp} : ∀ {as : List D} {vs : List V}, OwnA K H as vs [] → ∀ n, OwnA K H (as.take n) (vs.take n) []
  | [], [], _, _ => by simp; exact .nil
  | _ :: _, _ :: _, _, 0 => .nil
  | _ :: _, _ :: _, h, n + 1 => .cons0 h.nil2.1 (OwnA.take h.nil2.2 n)
  | [], _ :: _, h, _ => nomatch h
  | _ :: _, [], h, _ => nomatch h
theorem OwnA.drop {H : Hp} : ∀ {as : List D} {vs : List V}, OwnA K H as vs [] → ∀ n, OwnA K H (as.drop n) (vs.drop n) []
  | [], [], _, _ => by simp; exact .nil
  | _ :: _, _ :: _, h, 0 => h
  | _ :: _, _ :: _, h, n + 1 => OwnA.drop h.nil2.2 n
  | [], _ :: _, h, _ => nomatch h
  | _ :: _, [], h, _ => nomatch h
theorem OwnA.get {H : Hp} : ∀ {as : List D} {vs : List V} {F : List Addr}, OwnA K H as vs F → ∀ (i : Nat) (d : D), as[i]? = some d → ∃ v G, vs[i]? = some v ∧ Own K H d v G ∧ ∀ a, a ∈ G → a ∈ F
  | [], _, _, _, i, d, e => by simp at e
  | d :: ds, _, _, h, 0, d', e => by
    simp at e
    subst e
    cases h with
    | cons o t n => exact ⟨_, _, rfl, o, fun a h => List.mem_append_left _ h⟩
  | d :: ds, _, _, h, i + 1, d', e => by
    cases h with
    | cons o t n =>
      obtain ⟨v', G', h1, h2, h3⟩ := OwnA.get t i d' (by simpa using e)
      exact ⟨v', G', by simpa using h1, h2, fun a h => List.mem_append_right _ (h3 a h)⟩
def rAddA (K : PySem.W.Frag) : R2 := fun x y H Q => rI0 (fun i j => .int (i + j)) x y H Q ∨ (∃ i j, x = .str i ∧ y = .str j ∧ i.length + j.length ≤ sizeLine ∧ Q (.str (i ++ j)) H) ∨ rCat x y H Q ∨ rCatD K x y H Q
theorem op_addA {X : Cx} : OpR X (binaryOp .Add) (rAddA X.K) := op_add.or (op_add_str.or (op_cat.or op_catD))
theorem pr_add : PrimR K (u2 (rAddA K)) pAdd := by
  intro vs ds d H Q h e q
  unfold pAdd at e
  split at e
  · obtain ⟨x, y, F, G, rfl, o1, o2⟩ := h.two
    cases o1; cases o2; cases e
    exact .inl ⟨_, _, rfl, rfl, q _ _ (.sc (.int _))⟩
  · obtain ⟨x, y, F, G, rfl, o1, o2⟩ := h.two
    split at e
    · rename_i hl
      cases o1; cases o2; cases e
      exact .inr (.inl ⟨_, _, rfl, rfl, Nat.le_trans hl big_le, q _ _ (.sc (.str _))⟩)
    · cases e
  · obtain ⟨x, y, F, G, rfl, o1, o2⟩ := h.two
    split at e
    · rename_i hl
      cases e
      cases o1 with
      | lst e1 t1 n1 =>
        cases o2 with
        | lst e2 t2 n2 =>
          have l1 := t1.len
          have l2 := t2.len
          refine .inr (.inr (.inl ⟨_, _, _, _, rfl, rfl, e1, e2, by have := big_le; omega, fun p hp => q _ _ (.lst ?_ hp)⟩))
          have p1 := t1.pur hl.2.1
          have p2 := t2.pur hl.2.2
          subst p1; subst p2
          exact t1.app t2
    · cases e
  · obtain ⟨x, y, F, G, rfl, o1, o2⟩ := h.two
    split at e
    · rename_i a b hl
      cases e
      cases o1 with
      | tup e1 t1 =>
        cases o2 with
        | tup e2 t2 =>
          have l1 := t1.len
          have l2 := t2.len
          have p1 := t1.pur hl.2.1
          have p2 := t2.pur hl.2.2
          subst p1; subst p2
          refine .inr (.inr (.inr ⟨_, _, _, _, rfl, rfl, e1.sq, e2.sq, by have := big_le; omega, fun z => ?_, fun _ z => ?_, fun _ _ p o hp hn => q _ _ (.tup (t1.app t2) hp hn)⟩))
          · subst z
            cases t1
            exact q _ _ (.sc (.tup e2 t2))
          · subst z
            cases t2
            rw [List.append_nil] at q
            exact q _ _ (.sc (.tup e1 t1))
    · cases e
  · cases e
theorem pr_sub : PrimR K (u2 (rI0 fun i j => .int (i - j))) pSub := by
  intro vs ds d H Q h e q
  unfold pSub at e
  split at e
  · obtain ⟨x, y, F, G, rfl, o1, o2⟩ := h.two
    cases o1; cases o2; cases e
    exact ⟨_, _, rfl, rfl, q _ _ (.sc (.int _))⟩
  · cases e
def CMulA (i j : Int) : Prop := CMul i j ∨ CMulW i j
theorem CMulA.ok {i j : Int} (h : CMulA i j) : IntMulOk i j := h.elim CMul.ok CMulW.ok
def rMulA (K : PySem.W.Frag) : R2 := fun x y H Q => rI CMulA (fun i j => .int (i * j)) x y H Q ∨ rRep x y H Q ∨ rRepD K x y H Q
theorem op_mulA {X : Cx} : OpR X (binaryOp .Mult) (rMulA X.K) := (opI fun _ _ _ _ _ _ _ hc q => PyProof.Rows.mul_int q hc.ok).or (op_rep.or op_repD)
theorem pr_mul : PrimR K (u2 (rMulA K)) pMul := by
  intro vs ds d H Q h e q
  unfold pMul at e
  split at e
  · obtain ⟨x, y, F, G, rfl, o1, o2⟩ := h.two
    split at e
    · rename_i hm
      cases o1; cases o2; cases e
      refine .inl ⟨_, _, rfl, rfl, ?_, q _ _ (.sc (.int _))⟩
      unfold mulOk at hm
      simp only [Bool.or_eq_true, Bool.and_eq_true, decide_eq_true_eq] at hm
      rcases hm with hm | hm
      · exact .inl hm
      · exact .inr hm
    · cases e
  · obtain ⟨x, y, F, G, rfl, o1, o2⟩ := h.two
    split at e
    · rename_i hm
      cases o2; cases e
      cases o1 with
      | tup e1 t1 =>
        have p1 := t1.pur hm.2.2.2
        subst p1
        have l1 := t1.len
        refine .inr (.inr ⟨_, _, _, rfl, rfl, e1.sq, hm.1, hm.2.1, by omega, fun z => ?_, fun _ _ p o hp hn => q _ _ (.tup (t1.rep _) hp hn)⟩)
        rcases z with z | z
        · subst z
          have e0 := t1.len
          cases t1
          rw [List.flatten_replicate_nil] at q
          exact q _ _ (.sc (.tup e1 .nil))
        · subst z
          simp only [Int.toNat_one, List.replicate_one, List.flatten_singleton] at q
          exact q _ _ (.sc (.tup e1 t1))
    · cases e
  · obtain ⟨x, y, F, G, rfl, o1, o2⟩ := h.two
    split at e
    · rename_i hm
      cases o2; cases e
      cases o1 with
      | lst e1 t1 n1 =>
        have l1 := t1.len
        have p1 := t1.pur hm.2.2.2
        subst p1
        refine .inr (.inl ⟨_, _, _, rfl, rfl, e1, hm.2.1, hm.1, ?_, fun p hp => q _ _ (.lst (t1.rep _) hp)⟩)
        rw [l1]
        exact Nat.le_trans hm.2.2.1 big_le
    · cases e
  · cases e
theorem pr_div : PrimR K (u2 (rI CDivW fun i j => .int (i / j))) pDiv := by
  intro vs ds d H Q h e q
  unfold pDiv at e
  split at e
  · obtain ⟨x, y, F, G, rfl, o1, o2⟩ := h.two
    split at e
    · rename_i hm
      cases o1; cases o2; cases e
      exact ⟨_, _, rfl, rfl, hm, q _ _ (.sc (.int _))⟩
    · cases e
  · cases e
theorem pr_mod : PrimR K (u2 (rI (fun _ j => 0 < j) fun i j => .int (i % j))) pMod := by
  intro vs ds d H Q h e q
  unfold pMod at e
  split at e
  · obtain ⟨x, y, F, G, rfl, o1, o2⟩ := h.two
    split at e
    · rename_i hm
      cases o1; cases o2; cases e
      exact ⟨_, _, rfl, rfl, hm, q _ _ (.sc (.int _))⟩
    · cases e
  · cases e
theorem pr_pow : PrimR K (u2 (rI CPow fun i j => .int (i ^ j.toNat))) pPow := by
  intro vs ds d H Q h e q
  unfold pPow at e
  split at e
  · obtain ⟨x, y, F, G, rfl, o1, o2⟩ := h.two
    split at e
    · rename_i hm
      cases o1; cases o2; cases e
      exact ⟨_, _, rfl, rfl, hm, q _ _ (.sc (.int _))⟩
    · cases e
  · cases e
theorem pr_neg : PrimR K (u1 (rU fun i => .int (-i))) pNeg := by
  intro vs ds d H Q h e q
  unfold pNeg at e
  split at e
  · obtain ⟨x, F, rfl, o1⟩ := h.one
    cases o1; cases e
    exact ⟨_, rfl, q _ _ (.sc (.int _))⟩
  · cases e
theorem pr_lt : PrimR K (u2 (rI0 fun i j => .bl (decide (i < j)))) pLt := by
  intro vs ds d H Q h e q
  unfold pLt at e
  split at e
  · obtain ⟨x, y, F, G, rfl, o1, o2⟩ := h.two
    cases o1; cases o2; cases e
    exact ⟨_, _, rfl, rfl, q _ _ (.sc (.bl _))⟩
  · cases e
theorem pr_gt : PrimR K (u2 (rI0 fun i j => .bl (decide (j < i)))) pGt := by
  intro vs ds d H Q h e q
  unfold pGt at e
  split at e
  · obtain ⟨x, y, F, G, rfl, o1, o2⟩ := h.two
    cases o1; cases o2; cases e
    exact ⟨_, _, rfl, rfl, q _ _ (.sc (.bl _))⟩
  · cases e
theorem pr_ge : PrimR K (u2 (rI0 fun i j => .bl (decide (j ≤ i)))) pGe := by
  intro vs ds d H Q h e q
  unfold pGe at e
  split at e
  · obtain ⟨x, y, F, G, rfl, o1, o2⟩ := h.two
    cases o1; cases o2; cases e
    exact ⟨_, _, rfl, rfl, q _ _ (.sc (.bl _))⟩
  · cases e
theorem pr_eq : PrimR K (u2 (rEqD K)) pEq := by
  intro vs ds d H Q h e q
  unfold pEq at e
  split at e
  · obtain ⟨x, y, F, G, rfl, o1, o2⟩ := h.two
    split at e
    · rename_i hm
      cases e
      simp only [shp, Bool.and_eq_true] at hm
      exact ⟨_, _, o1.dp hm.1.2, o2.dp hm.2.2, hm.1.1, hm.2.1, q _ _ (.sc (.bl _))⟩
    · cases e
  · cases e
theorem pr_ne : PrimR K (u2 (rNeD K)) pNe := by
  intro vs ds d H Q h e q
  unfold pNe at e
  split at e
  · obtain ⟨x, y, F, G, rfl, o1, o2⟩ := h.two
    split at e
    · rename_i hm
      cases e
      simp only [shp, Bool.and_eq_true] at hm
      exact ⟨_, _, o1.dp hm.1.2, o2.dp hm.2.2, hm.1.1, hm.2.1, q _ _ (.sc (.bl _))⟩
    · cases e
  · cases e
theorem eqV_eqv {H : Hp} {a b : D} {x y : V} {F G : List Addr} (o : Own K H a x F) (o2 : Own K H b y G) (h1 : pIn.fl a = true) (h2 : pIn.fl b = true) : eqV x y = PyData.eqv a b ∧ flatV x = true ∧ flatV y = true := by
  cases o <;> simp [pIn.fl] at h1 <;> cases o2 <;> simp [pIn.fl] at h2 <;> refine ⟨?_, rfl, rfl⟩ <;> simp [eqV, PyData.eqv]
theorem inV_any {H : Hp} {a : D} {x : V} {F : List Addr} (o : Own K H a x F) (h1 : pIn.fl a = true) : ∀ {bs : List D} {ys : List V} {G : List Addr}, OwnA K H bs ys G → bs.all pIn.fl = true →
    inV x ys = (bs.any fun z => PyData.eqv z a) ∧ ys.all flatV = true
  | [], _, _, t, _ => by cases t; exact ⟨rfl, rfl⟩
  | d :: ds, _, _, t, h2 => by
    cases t with
    | cons o' t n =>
      rw [List.all_cons, Bool.and_eq_true] at h2
      obtain ⟨h3, h4⟩ := inV_any o h1 t h2.2
      obtain ⟨e1, e2, e3⟩ := eqV_eqv o' o h2.1 h1
      unfold inV at h3 ⊢
      rw [List.any_cons, List.any_cons, e1, h3, List.all_cons, e2, h4]
      exact ⟨rfl, rfl⟩
def rInA (K : PySem.W.Frag) : R2 := fun x y H Q => rInD K x y H Q ∨ rIn K false x y H Q ∨ (∃ i j, x = .str i ∧ y = .str j ∧ Q (.bl (!(Builtin.Str.occurrences j i 0 j.length 1).isEmpty)) H)
theorem op_inA {X : Cx} (hu : X.A.units + 65 < cLine) : OpR X (compareOp .In) (rInA X.K) := (op_inD hu).or (op_in_seq.or op_in_str)
theorem pr_in : PrimR K (u2 (rInA K)) pIn := by
  intro vs ds d H Q h e q
  unfold pIn at e
  split at e
  · obtain ⟨x, y, F, G, rfl, o1, o2⟩ := h.two
    split at e
    · rename_i hm
      cases e
      simp only [shp, Bool.and_eq_true] at hm
      exact .inl ⟨_, _, o1.dp hm.1.2, o2.dp hm.2.2, hm.1.1, hm.2.1, q _ _ (.sc (.bl _))⟩
    · cases e
  · obtain ⟨x, y, F, G, rfl, o1, o2⟩ := h.two
    split at e
    · rename_i hm
      cases e
      cases o2 with
      | tup e2 t2 =>
        obtain ⟨h3, h4⟩ := inV_any o1 hm.1 t2 hm.2
        refine .inr (.inl ⟨_, _, rfl, .inr e2.sq, ?_, h4, ?_⟩)
        · exact (eqV_eqv o1 o1 hm.1 hm.1).2.1
        · rw [if_neg (by simp), h3]
          exact q _ _ (.sc (.bl _))
    · cases e
  · obtain ⟨x, y, F, G, rfl, o1, o2⟩ := h.two
    cases o1; cases o2; cases e
    exact .inr (.inr ⟨_, _, rfl, rfl, q _ _ (.sc (.bl _))⟩)
  · cases e
end
end Sim
namespace Sim
open PySem PySem.Spec L2
def oV (i : Nat) : O := fun s => match (s[i]?).join with
  | some _ => .ok (.slot i) s
  | none => .bad
def oC (d : D) : O := fun s => .ok (.val d) s
def o1 (f : List D → Option D) (a : O) : O := oPrim f (aCons a aNil)
def o2 (f : List D → Option D) (a b : O) : O := oPrim f (aCons a (aCons b aNil))
def tst (g : O) : T := fun s => (g s).bind fun r s1 => match rd r s1 with
  | some (.bool b) => .ok b s1
  | _ => .bad
def oAnd (g h : O) : O := fun s => (g s).bind fun r s1 => match rd r s1 with
  | some (.bool true) => h s1
  | some (.bool false) => .ok (.val (.bool false)) s1
  | _ => .bad
def oOr (g h : O) : O := fun s => (g s).bind fun r s1 => match rd r s1 with
  | some (.bool true) => .ok (.val (.bool true)) s1
  | some (.bool false) => h s1
  | _ => .bad
def oNot (g : O) : O := fun s => (g s).bind fun r s1 => match rd r s1 with
  | some (.bool b) => .ok (.val (.bool (!b))) s1
  | _ => .bad
def tAnd (t u : T) : T := fun s => (t s).bind fun b s1 => if b = true then u s1 else .ok false s1
def tOr (t u : T) : T := fun s => (t s).bind fun b s1 => if b = true then .ok true s1 else u s1
def tNot (t : T) : T := fun s => (t s).bind fun b s1 => .ok (!b) s1
def oIf (c : T) (a b : O) : O := fun s => (c s).bind fun k s1 => if k = true then a s1 else b s1
def oChain (f f' : List D → Option D) (a b c : O) : O := fun s => (a s).bind fun ra s1 => (b s1).bind fun rb s2 => match rds [ra, rb] s2 with
  | none => .bad
  | some ds => match f ds with
    | some (.bool true) => (c s2).bind fun rc s3 => (match rds [rb, rc] s3 with
      | none => .bad
      | some es => match f' es with
        | none => .bad
        | some d => .ok (.val d) s3)
    | some (.bool false) => .ok (.val (.bool false)) s2
    | _ => .bad
/-- a value for oneself: a slot's only where nothing in it may change -/
def own (r : Rf) (s : Sg) : Option D := match r with
  | .val d => some d
  | .slot i => match (s[i]?).join with
    | none => none
    | some d => if pur d = true then some d else none
def owns : List Rf → Sg → Option (List D)
  | [], _ => some []
  | r :: rs, s => match own r s with
    | none => none
    | some d => match owns rs s with
      | none => none
      | some ds => some (d :: ds)
def oTup (g : AL) : O := fun s => (g s).bind fun rs s1 => match owns rs s1 with
  | none => .bad
  | some ds => if ds.length ≤ 1000000 then .ok (.val (.tuple ds)) s1 else .bad
def oLst (g : AL) : O := fun s => (g s).bind fun rs s1 => match owns rs s1 with
  | none => .bad
  | some ds => if ds.length ≤ 1000000 then .ok (.val (.list ds)) s1 else .bad
def puO (o : Option D) : Option D := match o with
  | none => none
  | some d => if pur d = true then some d else none
def pIx : List D → Option D
  | [.list ds, .int i] => puO (atI ds i)
  | [.tuple ds, .int i] => puO (atI ds i)
  | [.dict [(.none, .list ds)], .int i] => puO (atI ds i)
  | [.str z, .int i] => if z.length ≤ 1000000 then (match atI z.cps.toList i with
    | none => none
    | some c => some (.str ⟨#[c]⟩)) else none
  | _ => none
def cutL {α : Type} (xs : List α) (lo hi : Option Int) : List α := (xs.drop (HT.sIx xs.length 0 lo)).take (HT.sIx xs.length xs.length hi - HT.sIx xs.length 0 lo)
def slD : D → Option Int → Option Int → Option D
  | .list ds, lo, hi => if purs ds = true then some (.list (cutL ds lo hi)) else none
  | .tuple ds, lo, hi => if purs ds = true then some (.tuple (cutL ds lo hi)) else none
  | .dict [(.none, .list ds)], lo, hi => some (.list (cutL ds lo hi))
  | .str z, lo, hi => if z.length ≤ 1000000 then some (.str (cutS z lo hi)) else none
  | _, _, _ => none
def prt (p : Option O) : Sg → Res (Option Int) := match p with
  | none => fun s => .ok none s
  | some g => fun s => (g s).bind fun r s1 => match rd r s1 with
    | some (.int i) => .ok (some i) s1
    | _ => .bad
def oSl (g : O) (lo hi : Option O) : O := fun s => (g s).bind fun r s1 => (prt lo s1).bind fun l s2 => (prt hi s2).bind fun u s3 => match rd r s3 with
  | none => .bad
  | some d => match slD d l u with
    | none => .bad
    | some d' => .ok (.val d') s3
section
variable [Tb] [Vs] {X : Cx} {K : PySem.W.Frag} {H : Hp} {σ : St} {Q : VK}
/-- what reads a slot: a name, or a field of the open object -/
def tSl (i : Nat) : TE := fun σ H Q => ∃ v, σ[i]? = some (some v) ∧ Vs.lnk σ H ∧ Q v H
theorem tsl_of {e : Expr} {i : Nat} (h : PE X e (tVar i)) : PE X e (tSl i) := pe_imp h fun _ _ _ ⟨v, a, _, q⟩ => ⟨v, a, q⟩
theorem so_var {i : Nat} {x : Str} {pos : Pos} (h : PE X (.Name x pos) (tVar i)) : SimO X (.Name x pos) (oV i) := by
  refine pe_imp h fun σ H Q h => ?_
  obtain ⟨s, Fs, r, s', R, e, q⟩ := h
  unfold oV at e
  split at e
  · rename_i d hd
    cases e
    obtain ⟨v, hv, o⟩ := R.has i d (join_some hd)
    exact ⟨v, hv, q v H Fs [] R (.refl _ _) (.slot hv) (by intro a h; cases h)⟩
  · cases e
theorem tO_c {d : D} {v : V} (o : ∀ H, Own K H d v []) (h : tO K (oC d) σ H Q) : tC v σ H Q := by
  obtain ⟨s, Fs, r, s', R, e, q⟩ := h
  cases e
  exact q v H Fs [] R (.refl _ _) (.val ⟨o H, fun _ _ _ z => by cases z⟩) (by intro a h; cases h)
theorem so_int {i : Int} {j : Nat} {pos : Pos} : SimO X (.Constant (.int i) j pos) (oC (.int i)) := pe_imp pe_int fun _ _ _ h => tO_c (fun _ => .int i) h
theorem so_bl {b : Bool} {j : Nat} {pos : Pos} : SimO X (.Constant (.bool b) j pos) (oC (.bool b)) := pe_imp pe_bl fun _ _ _ h => tO_c (fun _ => .bl b) h
theorem so_non {j : Nat} {pos : Pos} : SimO X (.Constant .none j pos) (oC .none) := pe_imp pe_non fun _ _ _ h => tO_c (fun _ => .non) h
theorem so_str {x : Str} {j : Nat} {pos : Pos} : SimO X (.Constant (.str x) j pos) (oC (.str x)) := pe_imp pe_str fun _ _ _ h => tO_c (fun _ => .str x) h
variable {a b c : Expr} {ga gb gc : O} {pos : Pos}
theorem so_bin {op : Operator} {r : R2} {f : List D → Option D} (ho : OpR X (binaryOp op) r) (hp : PrimR X.K (u2 r) f) (ha : SimO X a ga) (hb : SimO X b gb) : SimO X (.BinOp a op b pos) (o2 f ga gb) :=
  pe_imp (pe_op ho ha hb) fun _ _ _ h => by have z := tA2 (prim hp h); exact z
theorem so_un {op : UnaryOp} {r : V → Hp → VK → Prop} {f : List D → Option D} (ho : UnR X (unaryOp op) r) (hp : PrimR X.K (u1 r) f) (ha : SimO X a ga) : SimO X (.UnaryOp op a pos) (o1 f ga) :=
  pe_imp (pe_un ho ha) fun _ _ _ h => by have z := tA1 (prim hp h); exact z
theorem so_cmp {op : CmpOp} {r : R2} {f : List D → Option D} (ho : OpR X (compareOp op) r) (hp : PrimR X.K (u2 r) f) (ha : SimO X a ga) (hb : SimO X b gb) (hm : behindInMarks op b = false) : SimO X (.Compare a [op] [b] pos) (o2 f ga gb) :=
  pe_imp (pe_cmpR ho ha hb hm) fun _ _ _ h => by have z := tA2 (prim hp h); exact z
theorem tT_tst {g : O} {Q : Bool → Hp → Prop} (h : tT K (tst g) σ H Q) : tO K g σ H fun x H1 => ∃ k, x = .bl k ∧ Q k H1 := by
  obtain ⟨s, Fs, b, s', R, e, q⟩ := h
  obtain ⟨r, s1, e1, e⟩ := bind_inv e
  refine ⟨s, Fs, r, s1, R, e1, fun v H1 Fs1 F R1 E1 k1 n1 => ?_⟩
  split at e
  · rename_i b' hb
    cases e
    obtain ⟨F', o⟩ := k1.dp R1 hb
    cases o
    exact ⟨_, rfl, q H1 Fs1 R1 E1⟩
  · cases e
theorem st_cmp {op : CmpOp} {r : R2} {f : List D → Option D} (ho : OpR X (compareOp op) r) (hp : PrimR X.K (u2 r) f) (ha : SimO X a ga) (hb : SimO X b gb) (hm : behindInMarks op b = false) : SimT X (.Compare a [op] [b] pos) (tst (o2 f ga gb)) :=
  pt_imp (pt_cmpR ho ha hb hm) fun _ _ _ h => by have z := tA2 (prim hp (tT_tst h)); exact z
theorem tT_and {t u : T} {Q : Bool → Hp → Prop} (h : tT K (tAnd t u) σ H Q) : L2.tAnd (tT K t) (tT K u) σ H Q := by
  obtain ⟨s, Fs, b, s', R, e, q⟩ := h
  obtain ⟨b1, s1, e1, e⟩ := bind_inv e
  refine ⟨s, Fs, b1, s1, R, e1, fun H1 Fs1 R1 E1 => ?_⟩
  cases b1 with
  | true => exact ⟨s1, Fs1, b, s', R1, e, fun H2 Fs2 R2 E2 => q H2 Fs2 R2 (E1.trans E2)⟩
  | false => cases e; exact q H1 Fs1 R1 E1
theorem tT_or {t u : T} {Q : Bool → Hp → Prop} (h : tT K (tOr t u) σ H Q) : L2.tOr (tT K t) (tT K u) σ H Q := by
  obtain ⟨s, Fs, b, s', R, e, q⟩ := h
  obtain ⟨b1, s1, e1, e⟩ := bind_inv e
  refine ⟨s, Fs, b1, s1, R, e1, fun H1 Fs1 R1 E1 => ?_⟩
  cases b1 with
  | false => exact ⟨s1, Fs1, b, s', R1, e, fun H2 Fs2 R2 E2 => q H2 Fs2 R2 (E1.trans E2)⟩
  | true => cases e; exact q H1 Fs1 R1 E1
theorem tT_not {t : T} {Q : Bool → Hp → Prop} (h : tT K (tNot t) σ H Q) : L2.tNot (tT K t) σ H Q := by
  obtain ⟨s, Fs, b, s', R, e, q⟩ := h
  obtain ⟨b1, s1, e1, e⟩ := bind_inv e
  refine ⟨s, Fs, b1, s1, R, e1, fun H1 Fs1 R1 E1 => ?_⟩
  cases e
  exact q H1 Fs1 R1 E1
/-- and, or, whatever the whole is -/
def SimW (X : Cx) (e : Expr) (g : T) : Prop := PW X e (tT X.K g)
theorem pw_imp {e : Expr} {t t' : TT} (h : PW X e t) (i : ∀ σ H Q, t' σ H Q → t σ H Q) : PW X e t' := ⟨fun wh pins s σ H Q I q => h.run wh pins s σ H Q I (i σ H Q q)⟩
theorem sw_and1 {t : T} (ha : SimT X a t) : SimW X (.BoolOp .And [a] pos) t := pw_and1 ha
theorem sw_or1 {t : T} (ha : SimT X a t) : SimW X (.BoolOp .Or [a] pos) t := pw_or1 ha
theorem sw_and {rest : List Expr} {t u : T} (ha : SimT X a t) (hb : SimW X (.BoolOp .And (b :: rest) pos) u) : SimW X (.BoolOp .And (a :: b :: rest) pos) (tAnd t u) := pw_imp (pw_and ha hb) fun _ _ _ h => tT_and h
theorem sw_or {rest : List Expr} {t u : T} (ha : SimT X a t) (hb : SimW X (.BoolOp .Or (b :: rest) pos) u) : SimW X (.BoolOp .Or (a :: b :: rest) pos) (tOr t u) := pw_imp (pw_or ha hb) fun _ _ _ h => tT_or h
theorem st_w {e : Expr} {t : T} (h : SimW X e t) : SimT X e t := PW.pt h
theorem st_not {t : T} (ha : SimT X a t) : SimT X (.UnaryOp .Not a pos) (tNot t) := pt_imp (pt_not ha) fun _ _ _ h => tT_not h
theorem tO_and {g h : O} (z : tO K (oAnd g h) σ H Q) : tAndV (tO K g) (tO K h) σ H Q := by
  obtain ⟨s, Fs, r, s', R, e, q⟩ := z
  obtain ⟨r1, s1, e1, e⟩ := bind_inv e
  refine ⟨s, Fs, r1, s1, R, e1, fun v H1 Fs1 F R1 E1 k1 n1 => ?_⟩
  split at e
  · rename_i hb
    obtain ⟨F', o⟩ := k1.dp R1 hb
    cases o
    exact ⟨true, rfl, s1, Fs1, r, s', R1, e, fun v H2 Fs2 F2 R2 E2 k2 n2 => q v H2 Fs2 F2 R2 (E1.trans E2) k2 fun a ha => E1.chg.there a (n2 a ha)⟩
  · rename_i hb
    obtain ⟨F', o⟩ := k1.dp R1 hb
    cases o
    cases e
    exact ⟨false, rfl, q _ H1 Fs1 [] R1 E1 (.val ⟨.bl _, fun _ _ _ z => by cases z⟩) (by intro a h; cases h)⟩
  · cases e
theorem tO_not {g : O} (z : tO K (oNot g) σ H Q) : tNotV (tO K g) σ H Q := by
  obtain ⟨s, Fs, r, s', R, e, q⟩ := z
  obtain ⟨r1, s1, e1, e⟩ := bind_inv e
  refine ⟨s, Fs, r1, s1, R, e1, fun v H1 Fs1 F R1 E1 k1 n1 => ?_⟩
  split at e
  · rename_i b hb
    obtain ⟨F', o⟩ := k1.dp R1 hb
    cases o
    cases e
    exact ⟨b, rfl, q _ H1 Fs1 [] R1 E1 (.val ⟨.bl _, fun _ _ _ z => by cases z⟩) (by intro a h; cases h)⟩
  · cases e
theorem so_one {op : BoolOp} (h : SimO X a ga) : SimO X (.BoolOp op [a] pos) ga := pe_one h
theorem so_and {rest : List Expr} (ha : SimO X a ga) (hb : SimO X (.BoolOp .And (b :: rest) pos) gb) : SimO X (.BoolOp .And (a :: b :: rest) pos) (oAnd ga gb) := pe_imp (pe_and ha hb) fun _ _ _ h => tO_and h
theorem so_not (ha : SimO X a ga) : SimO X (.UnaryOp .Not a pos) (oNot ga) := pe_imp (pe_not ha) fun _ _ _ h => tO_not h
theorem rfs2 {Fs : Fp} {r1 r2 : Rf} {x y : V} {F G : List Addr} (k1 : RfOk K H σ Fs r1 x F) (k2 : RfOk K H σ Fs r2 y G) {s : Sg} (R : RelS K H s σ Fs) {ds : List D} (e : rds [r1, r2] s = some ds) : RdA K H [x, y] ds := by
  unfold rds at e
  split at e
  · cases e
  · rename_i d1 h1
    split at e
    · cases e
    · rename_i es h2
      cases e
      obtain ⟨F1, o1⟩ := k1.dp R h1
      unfold rds at h2
      split at h2
      · cases h2
      · rename_i d2 h3
        cases h2
        obtain ⟨F2, o2⟩ := k2.dp R h3
        exact .cons o1 (.cons o2 .nil)
theorem Rfs.own {s : Sg} {Fs : Fp} (R : RelS K H s σ Fs) {rs : List Rf} {vs : List V} {Gs : List (List Addr)} (r : Rfs K H σ Fs rs vs Gs) : ∀ {ds : List D}, owns rs s = some ds → OwnA K H ds vs Gs.flatten ∧ ∀ i a, a ∈ Fs i → a ∉ Gs.flatten := by
  induction r with
  | nil => intro ds e; cases e; exact ⟨.nil, by simp⟩
  | @val d v F rs vs Gs A n _ ih =>
    intro ds e
    unfold owns at e
    simp only [Sim.own] at e
    split at e
    · cases e
    · rename_i es h
      cases e
      obtain ⟨h1, h2⟩ := ih h
      rw [List.flatten_cons]
      refine ⟨.cons A.own h1 fun a ha hb => ?_, fun i a hi ha => ?_⟩
      · obtain ⟨G, hG, hb⟩ := List.mem_flatten.mp hb
        exact n G hG a ha hb
      · rcases List.mem_append.mp ha with ha | ha
        · exact A.dis i a hi ha
        · exact h2 i a hi ha
  | @slot i v rs vs Gs hv _ ih =>
    intro ds e
    unfold owns at e
    simp only [Sim.own] at e
    split at e
    · cases e
    · rename_i d hd
      split at e
      · cases e
      · rename_i es h
        cases e
        split at hd
        · cases hd
        · rename_i d' hd'
          split at hd
          · rename_i hp
            cases hd
            obtain ⟨h1, h2⟩ := ih h
            obtain ⟨v', hv', o⟩ := R.has i d (join_some hd')
            rw [hv] at hv'
            cases hv'
            have e0 := o.pur hp
            rw [e0] at o
            rw [List.flatten_cons]
            exact ⟨OwnA.cons (F := []) o h1 (by simp), h2⟩
          · cases hd
theorem tO_tup {g : AL} (z : tO K (oTup g) σ H Q) : tTupD (tA K g) σ H Q := by
  obtain ⟨s, Fs, rf, s', R, e, q⟩ := z
  obtain ⟨rs, s1, e1, e⟩ := bind_inv e
  refine ⟨s, Fs, rs, s1, R, e1, fun vs H1 Fs1 Gs R1 E1 k1 n1 => ?_⟩
  split at e
  · cases e
  · rename_i ds hds
    split at e
    · rename_i hl
      cases e
      obtain ⟨o, dj⟩ := k1.own R1 hds
      refine ⟨by rw [o.len]; exact Nat.le_trans hl big_le, fun p ob hp hn => ?_⟩
      have sm : Same H1 (upd H1 p (.frz ob (.tup vs))) := same_new hp
      refine q _ _ Fs1 Gs.flatten (R1.same sm) (E1.trans (.same _ sm)) (.val ⟨.tup (SqD.of upd_same hn) (o.chg (Fa := fun _ => False) (.same sm) fun _ _ z => z), dj⟩) fun a ha => ?_
      obtain ⟨G, hG, hb⟩ := List.mem_flatten.mp ha
      exact n1 G hG a hb
    · cases e
theorem tO_lst {g : AL} (z : tO K (oLst g) σ H Q) : tLst (tA K g) σ H Q := by
  obtain ⟨s, Fs, rf, s', R, e, q⟩ := z
  obtain ⟨rs, s1, e1, e⟩ := bind_inv e
  refine ⟨s, Fs, rs, s1, R, e1, fun vs H1 Fs1 Gs R1 E1 k1 n1 => ?_⟩
  split at e
  · cases e
  · rename_i ds hds
    split at e
    · rename_i hl
      cases e
      obtain ⟨o, dj⟩ := k1.own R1 hds
      refine ⟨by rw [o.len]; exact Nat.le_trans hl big_le, fun p hp => ?_⟩
      have sm : Same H1 (upd H1 p (.lst vs)) := same_new hp
      have np : p ∉ Gs.flatten := fun z => by
        obtain ⟨xs, w⟩ := o.mem p z
        rw [hp] at w; cases w
      refine q _ _ Fs1 (p :: Gs.flatten) (R1.same sm) (E1.trans (.same _ sm)) (.val ⟨.lst upd_same (o.chg (Fa := fun _ => False) (.same sm) fun _ _ z => z) np, fun i a hi ha => ?_⟩) fun a ha => ?_
      · rcases List.mem_cons.mp ha with rfl | ha
        · obtain ⟨xs, w⟩ := R1.mem hi
          rw [hp] at w; cases w
        · exact dj i a hi ha
      · rcases List.mem_cons.mp ha with rfl | ha
        · exact E1.chg.there _ hp
        · obtain ⟨G, hG, hb⟩ := List.mem_flatten.mp ha
          exact n1 G hG a hb
    · cases e
theorem so_tup {es : List Expr} {k : Nat} {g : AL} (h : SimA X es g) : SimO X (.Tuple es k pos) (oTup g) := pe_imp (pe_tupD h) fun _ _ _ h => tO_tup h
theorem so_lst {es : List Expr} {g : AL} (h : SimA X es g) : SimO X (.List es pos) (oLst g) := pe_imp (pe_lst h) fun _ _ _ h => tO_lst h
theorem atI_own {ds : List D} {vs : List V} {F : List Addr} (t : OwnA K H ds vs F) {i : Int} {d : D} (e : puO (atI ds i) = some d) : ∃ v, atI vs i = some v ∧ Own K H d v [] ∧ pur d = true := by
  unfold puO at e
  split at e
  · cases e
  · rename_i d' h
    split at e
    · rename_i hp
      cases e
      unfold atI at h ⊢
      rw [t.len]
      cases hj : ixN ds.length i with
      | none => rw [hj] at h; cases h
      | some j =>
        rw [hj] at h
        obtain ⟨v, G, hv, o, _⟩ := t.get j d h
        have e0 := o.pur hp
        rw [e0] at o
        exact ⟨v, hv, o, hp⟩
    · cases e
theorem pr_ix : PrimR K (u2 (rIx K)) pIx := by
  intro vs ds d H Q h e q
  unfold pIx at e
  split at e
  · obtain ⟨x, y, F, G, rfl, o1, o2⟩ := h.two
    cases o2
    cases o1 with
    | lst h1 t n =>
      obtain ⟨v, hv, o, hp⟩ := atI_own t e
      exact .inl ⟨_, _, _, v, rfl, rfl, SqL.of h1, hv, q _ _ (.sc o)⟩
  · obtain ⟨x, y, F, G, rfl, o1, o2⟩ := h.two
    cases o2
    cases o1 with
    | tup h1 t =>
      obtain ⟨v, hv, o, hp⟩ := atI_own t e
      exact .inr (.inl ⟨_, _, _, v, rfl, rfl, h1.sq, hv, q _ _ (.sc o)⟩)
  · obtain ⟨x, y, F, G, rfl, o1, o2⟩ := h.two
    cases o2
    cases o1 with
    | frz h1 t =>
      obtain ⟨v, hv, o, hp⟩ := atI_own t e
      exact .inl ⟨_, _, _, v, rfl, rfl, h1.sq, hv, q _ _ (.sc o)⟩
  · obtain ⟨x, y, F, G, rfl, o1, o2⟩ := h.two
    cases o2; cases o1
    split at e
    · rename_i hz
      split at e
      · cases e
      · rename_i c hc
        cases e
        exact .inr (.inr ⟨_, _, c, rfl, rfl, Nat.le_trans hz big_le, hc, q _ _ (.sc (.str _))⟩)
    · cases e
  · cases e
theorem so_ix (ha : SimO X a ga) (hb : SimO X b gb) (hs : PlainIx b := by exact fun _ _ => rfl) : SimO X (.Subscript a b pos) (o2 pIx ga gb) := pe_imp (pe_ix ix_seq ha hb hs) fun _ _ _ h => by have z := tA2 (prim pr_ix h); exact z
def SimP (X : Cx) (e : Option Expr) (p : Option O) : Prop :=
  PO X e fun σ H Q => ∃ s Fs o s', RelS X.K H s σ Fs ∧ prt p s = .ok o s' ∧ ∀ H' Fs', RelS X.K H' s' σ Fs' → Ev H Fs H' Fs' → Q o H'
theorem po_imp {e : Option Expr} {t t' : TO} (h : PO X e t) (i : ∀ σ H Q, t' σ H Q → t σ H Q) : PO X e t' := ⟨fun pins s σ H Q I q => h.run pins s σ H Q I (i σ H Q q)⟩
theorem sp_none : SimP X none none := po_imp po_none fun σ H Q ⟨s, Fs, o, s', R, e, q⟩ => by
  cases e
  exact q H Fs R (.refl _ _)
theorem sp_some (ha : SimO X a ga) : SimP X (some a) (some ga) := po_imp (po_some ha) fun σ H Q ⟨s, Fs, o, s', R, e, q⟩ => by
  obtain ⟨r, s1, e1, e⟩ := bind_inv e
  refine ⟨s, Fs, r, s1, R, e1, fun v H1 Fs1 F R1 E1 k1 n1 => ?_⟩
  split at e
  · rename_i i hb
    cases e
    obtain ⟨F', o⟩ := k1.dp R1 hb
    cases o
    exact ⟨_, rfl, q H1 Fs1 R1 E1⟩
  · cases e
theorem so_callB {x : Str} {p : Pos} {e : Expr} {es : List Expr} {g : AL} {id : String} {r : List V → Hp → VK → Prop} {f : List D → Option D} (hc : CallR X (.builtin id) r) (hp : PrimR X.K r f) (hg : Gl X x) (hm : X.mg x = none) (hv : bootBuiltins x = some (.builtin id)) (ha : SimA X (e :: es) g)
    (hn : x ≠ "__name__" := by decide) (hdb : (x == ("__debug__" : Str)) = false := by decide) (he : starEach (e :: es) X.env = (false, eval e X.env) :: starEach es X.env := by rfl) (hpl : (backTo pos (starEach es X.env)).any (·.1) = false := by rfl) :
    SimO X (.Call (.Name x p) (e :: es) [] pos) (oPrim f g) := pe_imp (pe_callB hc hg hm hv ha hn hdb he hpl) fun _ _ _ h => prim hp h
theorem so_callTy {x : Str} {p : Pos} {e : Expr} {es : List Expr} {g : AL} {T : String} {r : List V → Hp → VK → Prop} {f : List D → Option D} (hc : CallR X (.type T) r) (hp : PrimR X.K r f) (hg : Gl X x) (hm : X.mg x = none) (hv : bootBuiltins x = some (.type T)) (ha : SimA X (e :: es) g)
    (hn : x ≠ "__name__" := by decide) (hdb : (x == ("__debug__" : Str)) = false := by decide) (he : starEach (e :: es) X.env = (false, eval e X.env) :: starEach es X.env := by rfl) (hpl : (backTo pos (starEach es X.env)).any (·.1) = false := by rfl) :
    SimO X (.Call (.Name x p) (e :: es) [] pos) (oPrim f g) := pe_imp (pe_callTy hc hg hm hv ha hn hdb he hpl) fun _ _ _ h => prim hp h
end
end Sim
namespace Sim
open PySem PySem.Spec L2
def upF (Fs : Fp) (i : Nat) (F : List Addr) : Fp := fun j => if j = i then F else Fs j
def Lk (lk : Nat → Bool) (σ σ' : St) : Prop := ∀ i, lk i = true → σ'[i]? = σ[i]?
theorem Lk.refl (lk : Nat → Bool) (σ : St) : Lk lk σ σ := fun _ _ => rfl
theorem Lk.trans {lk : Nat → Bool} {σ σ1 σ' : St} (a : Lk lk σ σ1) (b : Lk lk σ1 σ') : Lk lk σ σ' := fun i h => (b i h).trans (a i h)
theorem Lk.set {lk : Nat → Bool} {σ : St} {i : Nat} {v : Option V} (h : lk i = false) : Lk lk σ (σ.set i v) := fun j hj => by
  rw [List.getElem?_set_ne]
  intro e
  subst e
  rw [h] at hj
  cases hj
section
variable [Tb] [Vs] {K : PySem.W.Frag} {H H1 H' : Hp} {s s' : Sg} {σ σ' : St} {Fs Fs1 Fs' : Fp}
/-- a slot gets what stands apart -/
theorem RelS.put (R : RelS K H s σ Fs) {d : D} {v : V} {F : List Addr} (A : Apart K H Fs d v F) (i : Nat) (ko : Vs.ok i) : ∃ Fs', RelS K H (s.set i (some d)) (σ.set i (some v)) Fs' ∧ ∀ j a, a ∈ Fs' j → (a ∈ Fs j ∧ j ≠ i) ∨ (a ∈ F ∧ j = i) := by
  by_cases hi : i < s.length
  · refine ⟨upF Fs i F, ⟨by rw [List.length_set, List.length_set, R.len], fun j d' e => ?_, fun j h => ?_, fun j k a h1 h2 => ?_, ⟨(Vs.put ko).mpr R.lnk.1, R.lnk.2⟩, fun j h d' e => ?_⟩, fun j a h => ?_⟩
    · by_cases hj : j = i
      · subst hj
        rw [List.getElem?_set_self hi] at e
        cases e
        refine ⟨v, by rw [List.getElem?_set_self (by rw [← R.len]; exact hi)], ?_⟩
        unfold upF
        rw [if_pos rfl]
        exact A.own
      · rw [List.getElem?_set_ne (Ne.symm hj)] at e
        obtain ⟨v', hv', o⟩ := R.has j d' e
        refine ⟨v', by rw [List.getElem?_set_ne (Ne.symm hj)]; exact hv', ?_⟩
        unfold upF
        rw [if_neg hj]
        exact o
    · unfold upF
      by_cases hj : j = i
      · subst hj
        exact absurd (List.getElem?_set_self hi) (h d)
      · rw [if_neg hj]
        exact R.off j fun d' e => h d' (by rw [List.getElem?_set_ne (Ne.symm hj)]; exact e)
    · unfold upF at h1 h2
      split at h1
      · split at h2
        · omega
        · exact absurd h1 (A.dis k a h2)
      · split at h2
        · exact absurd h2 (A.dis j a h1)
        · exact R.dis j k a h1 h2
    · by_cases hj : j = i
      · subst hj
        exact h (Vs.nil ko)
      · rw [List.getElem?_set_ne (Ne.symm hj)] at e
        exact R.bse j h d' e
    · unfold upF at h
      split at h
      · exact .inr ⟨h, by assumption⟩
      · exact .inl ⟨h, by assumption⟩
  · have e1 : s.set i (some d) = s := by rw [List.set_eq_of_length_le (by omega)]
    have e2 : σ.set i (some v) = σ := by rw [List.set_eq_of_length_le (by rw [← R.len]; omega)]
    rw [e1, e2]
    refine ⟨Fs, R, fun j a h => .inl ⟨h, ?_⟩⟩
    rintro rfl
    rw [R.off j (fun d e => by rw [List.getElem?_eq_none (by omega)] at e; cases e), Vs.nil ko] at h
    cases h
theorem RelS.fp0 (R : RelS K H s σ Fs) {i : Nat} {d0 : D} (e0 : s[i]? = some (some d0)) : Vs.fp i = [] := by
  cases e : Vs.fp i with
  | nil => rfl
  | cons a l => exact absurd e0 (R.bse i (by rw [e]; intro z; cases z) d0)
/-- what it held is told of a slot anew -/
theorem RelS.reput (R : RelS K H s σ Fs) {d : D} {v : V} {F : List Addr} (A : Apart K H Fs d v F) (i : Nat) (hv : σ[i]? = some (some v)) (fp : Vs.fp i = []) : ∃ Fs', RelS K H (s.set i (some d)) σ Fs' ∧ ∀ j a, a ∈ Fs' j → (a ∈ Fs j ∧ j ≠ i) ∨ (a ∈ F ∧ j = i) := by
  have hi : i < s.length := by rw [R.len]; exact (List.getElem?_eq_some_iff.mp hv).1
  refine ⟨upF Fs i F, ⟨by rw [List.length_set, R.len], fun j d' e => ?_, fun j h => ?_, fun j k a h1 h2 => ?_, R.lnk, fun j h d' e => ?_⟩, fun j a h => ?_⟩
  · by_cases hj : j = i
    · subst hj
      rw [List.getElem?_set_self hi] at e
      cases e
      refine ⟨v, hv, ?_⟩
      unfold upF
      rw [if_pos rfl]
      exact A.own
    · rw [List.getElem?_set_ne (Ne.symm hj)] at e
      obtain ⟨v', hv', o⟩ := R.has j d' e
      refine ⟨v', hv', ?_⟩
      unfold upF
      rw [if_neg hj]
      exact o
  · unfold upF
    by_cases hj : j = i
    · subst hj
      exact absurd (List.getElem?_set_self hi) (h d)
    · rw [if_neg hj]
      exact R.off j fun d' e => h d' (by rw [List.getElem?_set_ne (Ne.symm hj)]; exact e)
  · unfold upF at h1 h2
    split at h1
    · split at h2
      · omega
      · exact absurd h1 (A.dis k a h2)
    · split at h2
      · exact absurd h2 (A.dis j a h1)
      · exact R.dis j k a h1 h2
  · by_cases hj : j = i
    · subst hj
      exact h fp
    · rw [List.getElem?_set_ne (Ne.symm hj)] at e
      exact R.bse j h d' e
  · unfold upF at h
    split at h
    · exact .inr ⟨h, by assumption⟩
    · exact .inl ⟨h, by assumption⟩
theorem RelS.lnkC (R : RelS K H s σ Fs) {Fa : Addr → Prop} (c : Chg Fa H H') (n : ∀ i a, a ∈ Vs.fp i → ¬ Fa a) : Lk2 σ H' := R.lnk' (fun i a ha => by
  obtain ⟨m, e⟩ := Vs.mem R.lnk.1 ha
  rw [e]
  exact c.mo e (n i a ha)) (c.tab R.lnk.2)
/-- a slot is emptied -/
theorem RelS.drop (R : RelS K H s σ Fs) (i : Nat) {d0 : D} (e0 : s[i]? = some (some d0)) : RelS K H (s.set i none) σ (upF Fs i []) := by
  have fp0 := R.fp0 e0
  refine ⟨by rw [List.length_set, R.len], fun j d' e => ?_, fun j h => ?_, fun j k a h1 h2 => ?_, R.lnk, fun j h d' e => ?_⟩
  · by_cases hj : j = i
    · subst hj
      by_cases hi : j < s.length
      · rw [List.getElem?_set_self hi] at e; cases e
      · rw [List.getElem?_eq_none (by rw [List.length_set]; omega)] at e; cases e
    · rw [List.getElem?_set_ne (Ne.symm hj)] at e
      obtain ⟨v', hv', o⟩ := R.has j d' e
      refine ⟨v', hv', ?_⟩
      unfold upF
      rw [if_neg hj]
      exact o
  · unfold upF
    by_cases hj : j = i
    · rw [if_pos hj, hj, fp0]
    · rw [if_neg hj]
      exact R.off j fun d' e => h d' (by rw [List.getElem?_set_ne (Ne.symm hj)]; exact e)
  · unfold upF at h1 h2
    split at h1
    · cases h1
    · split at h2
      · cases h2
      · exact R.dis j k a h1 h2
  · by_cases hj : j = i
    · rw [hj] at h
      exact h fp0
    · rw [List.getElem?_set_ne (Ne.symm hj)] at e
      exact R.bse j h d' e
/-- the list of a slot is written -/
theorem RelS.wr (R : RelS K H s σ Fs) {i : Nat} {ds ds' : List D} {l : Addr} {vs vs' : List V} {F F' Fd : List Addr} (e : s[i]? = some (some (.list ds))) (ev : σ[i]? = some (some (.ref l))) (hl : H l = some (.lst vs)) (eF : Fs i = l :: F)
    (o : OwnA K H ds' vs' F') (n : l ∉ F') (hF : ∀ a, a ∈ F' → a ∈ F ∨ a ∈ Fd) (hd : ∀ j a, a ∈ Fs j → a ∉ Fd) :
    ∃ Fs', RelS K (upd H l (.lst vs')) (s.set i (some (.list ds'))) σ Fs' ∧ Chg (InF Fs) H (upd H l (.lst vs')) ∧ ∀ j a, a ∈ Fs' j → a ∈ Fs j ∨ a ∈ Fd := by
  have hi : i < s.length := by
    rcases Nat.lt_or_ge i s.length with h | h
    · exact h
    · rw [List.getElem?_eq_none h] at e; cases e
  have li : l ∈ Fs i := by rw [eF]; exact List.mem_cons_self ..
  have chg : Chg (fun a => a = l) H (upd H l (.lst vs')) := .upd1 (m := .lst _) hl
  refine ⟨upF Fs i (l :: F'), ⟨by rw [List.length_set, R.len], fun j d' e' => ?_, fun j h => ?_, fun j k a h1 h2 => ?_, R.lnkC chg (fun j a h w => R.nfp e li (by rw [← w]; exact h)), fun j h d' e' => ?_⟩, chg.mono (fun a _ _ w => ⟨i, by rw [w]; exact li⟩), fun j a h => ?_⟩
  · by_cases hj : j = i
    · subst hj
      rw [List.getElem?_set_self hi] at e'
      cases e'
      refine ⟨_, ev, ?_⟩
      unfold upF
      rw [if_pos rfl]
      exact .lst upd_same (o.chg chg fun a ha w => n (by rw [← w]; exact ha)) n
    · rw [List.getElem?_set_ne (Ne.symm hj)] at e'
      obtain ⟨v', hv', o'⟩ := R.has j d' e'
      refine ⟨v', hv', ?_⟩
      unfold upF
      rw [if_neg hj]
      exact o'.chg chg fun a ha w => hj (R.dis j i l (by rw [← w]; exact ha) li)
  · unfold upF
    by_cases hj : j = i
    · subst hj
      exact absurd (List.getElem?_set_self hi) (h _)
    · rw [if_neg hj]
      exact R.off j fun d' e => h d' (by rw [List.getElem?_set_ne (Ne.symm hj)]; exact e)
  · have key : ∀ {m : Nat}, m ≠ i → a ∈ l :: F' → a ∈ Fs m → False := fun {m} hm g1 g2 => by
      rcases List.mem_cons.mp g1 with e3 | g1
      · exact hm (R.dis m i a g2 (by rw [e3]; exact li))
      · rcases hF a g1 with q | q
        · exact hm (R.dis m i a g2 (by rw [eF]; exact List.mem_cons_of_mem _ q))
        · exact hd m a g2 q
    by_cases hj : j = i
    · by_cases hk : k = i
      · omega
      · unfold upF at h1 h2
        rw [if_pos hj] at h1
        rw [if_neg hk] at h2
        exact (key hk h1 h2).elim
    · by_cases hk : k = i
      · unfold upF at h1 h2
        rw [if_neg hj] at h1
        rw [if_pos hk] at h2
        exact (key hj h2 h1).elim
      · unfold upF at h1 h2
        rw [if_neg hj] at h1
        rw [if_neg hk] at h2
        exact R.dis j k a h1 h2
  · by_cases hj : j = i
    · subst hj
      exact R.bse j h _ e
    · rw [List.getElem?_set_ne (Ne.symm hj)] at e'
      exact R.bse j h d' e'
  · unfold upF at h
    split at h
    · rename_i hj
      subst hj
      rcases List.mem_cons.mp h with rfl | h
      · exact .inl li
      · rcases hF a h with q | q
        · exact .inl (by rw [eF]; exact List.mem_cons_of_mem _ q)
        · exact .inr q
    · exact .inl h
theorem own_list {H : Hp} {ds : List D} {v : V} {G : List Addr} (h : Own K H (.list ds) v G) : ∃ l vs F, v = .ref l ∧ G = l :: F ∧ H l = some (.lst vs) ∧ OwnA K H ds vs F ∧ l ∉ F := by
  cases h with
  | lst h1 t n => exact ⟨_, _, _, rfl, rfl, h1, t, n⟩
theorem own_tup {H : Hp} {ds : List D} {v : V} {G : List Addr} (h : Own K H (.tuple ds) v G) : ∃ a vs, v = .ref a ∧ SqT K H a vs ∧ OwnA K H ds vs G := by
  cases h with
  | tup h1 t => exact ⟨_, _, rfl, h1.sq, t⟩
theorem OwnA.snoc {H : Hp} {d : D} {v : V} {G : List Addr} (o : Own K H d v G) : ∀ {ds : List D} {vs : List V} {F : List Addr}, OwnA K H ds vs F → (∀ a, a ∈ F → a ∉ G) → ∃ F', OwnA K H (ds ++ [d]) (vs ++ [v]) F' ∧ ∀ a, a ∈ F' → a ∈ F ∨ a ∈ G
  | [], _, _, t, _ => by
    cases t
    refine ⟨G ++ [], .cons o .nil (by simp), fun a h => ?_⟩
    rw [List.append_nil] at h
    exact .inr h
  | d' :: ds, _, _, t, n => by
    cases t with
    | @cons v' vs _ _ F1 F2 o' t n' =>
      obtain ⟨F', h1, h2⟩ := OwnA.snoc o t fun a ha => n a (List.mem_append_right _ ha)
      refine ⟨F1 ++ F', .cons o' h1 fun a ha hb => ?_, fun a h => ?_⟩
      · rcases h2 a hb with q | q
        · exact n' a ha q
        · exact n a (List.mem_append_left _ ha) q
      · rcases List.mem_append.mp h with q | q
        · exact .inl (List.mem_append_left _ q)
        · rcases h2 a q with q | q
          · exact .inl (List.mem_append_right _ q)
          · exact .inr q
theorem OwnA.put {H : Hp} {d : D} {v : V} (o : Own K H d v []) : ∀ {ds : List D} {vs : List V} {F : List Addr} (j : Nat), OwnA K H ds vs F → ∃ F', OwnA K H (ds.set j d) (vs.set j v) F' ∧ ∀ a, a ∈ F' → a ∈ F
  | [], _, _, _, t => by
    cases t
    exact ⟨[], .nil, by simp⟩
  | d' :: ds, _, _, 0, t => by
    cases t with
    | @cons v' vs _ _ F1 F2 o' t n' => exact ⟨[] ++ F2, .cons o t (by simp), fun a h => List.mem_append_right _ (by simpa using h)⟩
  | d' :: ds, _, _, j + 1, t => by
    cases t with
    | @cons v' vs _ _ F1 F2 o' t n' =>
      obtain ⟨F', h1, h2⟩ := OwnA.put o j t
      refine ⟨F1 ++ F', .cons o' h1 fun a ha hb => n' a ha (h2 a hb), fun a h => ?_⟩
      rcases List.mem_append.mp h with q | q
      · exact List.mem_append_left _ q
      · exact List.mem_append_right _ (h2 a q)
end
inductive Tg where
  | nm (i : Nat)
  | tp (l : List Tg)
  | ls (l : List Tg)
mutual
def asg : Tg → D → Sg → Option Sg
  | .nm i, d, s => some (s.set i (some d))
  | .tp l, .tuple ds, s => asgs l ds s
  | .tp _, _, _ => none
  | .ls l, .list ds, s => asgs l ds s
  | .ls _, _, _ => none
def asgs : List Tg → List D → Sg → Option Sg
  | [], [], s => some s
  | t :: l, d :: ds, s => match asg t d s with
    | none => none
    | some s1 => asgs l ds s1
  | _, _, _ => none
end
section
variable [Tb] [Vs] (K : PySem.W.Frag) (lk : Nat → Bool)
def tG (t : Tg) : TG := fun v σ H Q => ∃ s Fs d F s', RelS K H s σ Fs ∧ Apart K H Fs d v F ∧ asg t d s = some s' ∧ ∀ σ' Fs', RelS K H s' σ' Fs' → (∀ i a, a ∈ Fs' i → a ∈ Fs i ∨ a ∈ F) → Lk lk σ σ' → Q σ' H
def tGs (l : List Tg) : TGs := fun vs σ H Q => ∃ s Fs ds F s', RelS K H s σ Fs ∧ OwnA K H ds vs F ∧ (∀ i a, a ∈ Fs i → a ∉ F) ∧ asgs l ds s = some s' ∧ ∀ σ' Fs', RelS K H s' σ' Fs' → (∀ i a, a ∈ Fs' i → a ∈ Fs i ∨ a ∈ F) → Lk lk σ σ' → Q σ' H
end
def SimG [Tb] [Vs] (X : Cx) (lk : Nat → Bool) (e : Expr) (t : Tg) : Prop := PG X e (tG X.K lk t)
def SimGs [Tb] [Vs] (X : Cx) (lk : Nat → Bool) (es : List Expr) (l : List Tg) : Prop := PGs X es (tGs X.K lk l)
section
variable [Tb] [Vs] {X : Cx} {lk : Nat → Bool} {pos : Pos} {K : PySem.W.Frag}
theorem pg_imp {e : Expr} {t t' : TG} (h : PG X e t) (i : ∀ v σ H Q, t' v σ H Q → t v σ H Q) : PG X e t' := ⟨fun pins s σ H v u Q I r q => h.run pins s σ H v u Q I r (i v σ H Q q)⟩
theorem pgs_imp {e : List Expr} {t t' : TGs} (h : PGs X e t) (i : ∀ v σ H Q, t' v σ H Q → t v σ H Q) : PGs X e t' := ⟨fun pins s σ H v u Q I r q => h.run pins s σ H v u Q I r (i v σ H Q q)⟩
theorem tG_nm {i : Nat} (hl : lk i = false) (ko : Vs.ok i) {v : V} {σ : St} {H : Hp} {Q : St → Hp → Prop} (h : tG K lk (.nm i) v σ H Q) : gName i v σ H Q := by
  obtain ⟨s, Fs, d, F, s', R, A, e, q⟩ := h
  simp only [asg] at e
  cases e
  obtain ⟨Fs', R', n⟩ := R.put A i ko
  exact q _ Fs' R' (fun j a h => (n j a h).imp And.left And.left) (.set hl)
theorem sg_name {i : Nat} {x : Str} (hN : X.N.Nodup) (hi : X.N[i]? = some x) (hx : Loc X.env.scope x) (hl : lk i = false) (hf : X.fn x = true ∨ X.env.scope.names.lookup x = some .local := by first | exact .inl rfl | exact .inr rfl | assumption) (ko : Vs.ok i := by first | exact trivial | assumption | exact ⟨by decide, by decide⟩) : SimG X lk (.Name x pos) (.nm i) :=
  pg_imp (pg_name hN hi hx hf) fun _ _ _ _ h => tG_nm hl ko h
theorem tGs_nil {vs : List V} {σ : St} {H : Hp} {Q : St → Hp → Prop} (h : tGs K lk [] vs σ H Q) : gNil vs σ H Q := by
  obtain ⟨s, Fs, ds, F, s', R, o, dj, e, q⟩ := h
  cases ds with
  | nil =>
    simp only [asgs] at e
    cases e
    cases o
    exact ⟨rfl, q σ Fs R (fun _ _ h => .inl h) (.refl _ _)⟩
  | cons d ds => simp [asgs] at e
theorem tGs_cons {t : Tg} {l : List Tg} {vs : List V} {σ : St} {H : Hp} {Q : St → Hp → Prop} (h : tGs K lk (t :: l) vs σ H Q) : gCons (tG K lk t) (tGs K lk l) vs σ H Q := by
  obtain ⟨s, Fs, ds, F, s', R, o, dj, e, q⟩ := h
  cases ds with
  | nil => simp [asgs] at e
  | cons d ds =>
    simp only [asgs] at e
    split at e
    · cases e
    · rename_i s1 h1
      cases o with
      | @cons v vs _ _ F1 F2 o1 o2 n =>
        refine ⟨v, vs, rfl, s, Fs, d, F1, s1, R, ⟨o1, fun i a hi ha => dj i a hi (List.mem_append_left _ ha)⟩, h1, fun σ1 Fs1 R1 n1 L1 => ⟨s1, Fs1, ds, F2, s', R1, o2, fun i a hi ha => ?_, e, fun σ2 Fs2 R2 n2 L2 => ?_⟩⟩
        · rcases n1 i a hi with z | z
          · exact dj i a z (List.mem_append_right _ ha)
          · exact n a z ha
        · refine q σ2 Fs2 R2 (fun i a h => ?_) (L1.trans L2)
          rcases n2 i a h with z | z
          · rcases n1 i a z with z | z
            · exact .inl z
            · exact .inr (List.mem_append_left _ z)
          · exact .inr (List.mem_append_right _ z)
theorem sgs_nil : SimGs X lk [] [] := pgs_imp pgs_nil fun _ _ _ _ h => tGs_nil h
theorem sgs_cons {e : Expr} {es : List Expr} {t : Tg} {l : List Tg} (h1 : SimG X lk e t) (h2 : SimGs X lk es l) (hs : (assignEach (e :: es) X.env).map (·.2) = assign e X.env :: (assignEach es X.env).map (·.2) := by rfl) : SimGs X lk (e :: es) (t :: l) :=
  pgs_imp (pgs_cons h1 h2 hs) fun _ _ _ _ h => tGs_cons h
theorem asgs_len {l : List Tg} : ∀ {ds : List D} {s s' : Sg}, asgs l ds s = some s' → ds.length = l.length := by
  induction l with
  | nil => intro ds s s' h; cases ds with
    | nil => rfl
    | cons d ds => simp [asgs] at h
  | cons t l ih => intro ds s s' h; cases ds with
    | nil => simp [asgs] at h
    | cons d ds =>
      simp only [asgs] at h
      split at h
      · cases h
      · rw [List.length_cons, List.length_cons, ih h]
theorem sg_tup {es : List Expr} {k : Nat} {l : List Tg} (hc : X.calm = true) (h : SimGs X lk es l) (hn : (assignEach es X.env).length = l.length := by rfl) (hst : (assignEach es X.env).findIdx? (·.1) = none := by rfl) : SimG X lk (.Tuple es k pos) (.tp l) := by
  refine pg_imp (pg_tup hc h hn hst) fun v σ H Q z => ?_
  obtain ⟨s, Fs, d, F, s', R, A, e, q⟩ := z
  cases d with
  | tuple ds =>
    simp only [asg] at e
    obtain ⟨a, vs, rfl, hq, o⟩ := own_tup A.own
    exact ⟨a, vs, rfl, hq, by rw [o.len, asgs_len e], s, Fs, ds, F, s', R, o, A.dis, e, q⟩
  | _ => simp [asg] at e
end
/-- to a way out: what no caller holds may have changed places -/
structure EvR [Tb] (lk : Nat → Bool) (H : Hp) (Fs : Fp) (H' : Hp) (Fs' : Fp) : Prop where
  chg : Chg (InF Fs) H H'
  new : ∀ i a, a ∈ Fs' i → (a ∈ Fs i ∨ H a = none) ∨ (lk i = false ∧ ∃ k, lk k = false ∧ a ∈ Fs k)
theorem Ev.r [Tb] {lk : Nat → Bool} {H H' : Hp} {Fs Fs' : Fp} (e : Ev H Fs H' Fs') : EvR lk H Fs H' Fs' := ⟨e.chg, fun i a h => .inl (e.new i a h)⟩
theorem Ev.transR [Tb] {lk : Nat → Bool} {H H1 H' : Hp} {Fs Fs1 Fs' : Fp} (a : Ev H Fs H1 Fs1) (b : EvR lk H1 Fs1 H' Fs') : EvR lk H Fs H' Fs' := by
  refine ⟨⟨fun x o e c => ?_, fun x e => a.chg.there x (b.chg.there x e), fun t => b.chg.tab (a.chg.tab t)⟩, fun i x h => ?_⟩
  · have e1 := a.chg.keep x o e c
    refine b.chg.keep x o e1 (c.imp (fun n => ⟨fun z => ?_, n.2⟩) id)
    obtain ⟨i, hi⟩ := z
    rcases a.new i x hi with q | q
    · exact n.1 ⟨i, q⟩
    · rw [e] at q; cases q
  · rcases b.new i x h with (q | q) | ⟨q, k, hk, q2⟩
    · exact .inl (a.new i x q)
    · exact .inl (.inr (a.chg.there x q))
    · rcases a.new k x q2 with w | w
      · exact .inr ⟨q, k, hk, w⟩
      · exact .inl (.inr w)
theorem EvR.transR [Tb] {lk : Nat → Bool} {H H1 H' : Hp} {Fs Fs1 Fs' : Fp} (a : EvR lk H Fs H1 Fs1) (b : EvR lk H1 Fs1 H' Fs') : EvR lk H Fs H' Fs' := by
  have old : ∀ i x, x ∈ Fs1 i → (∃ k, x ∈ Fs k) ∨ H x = none := fun i x h => by
    rcases a.new i x h with (q | q) | ⟨_, k, _, q⟩
    · exact .inl ⟨i, q⟩
    · exact .inr q
    · exact .inl ⟨k, q⟩
  refine ⟨⟨fun x o e c => ?_, fun x e => a.chg.there x (b.chg.there x e), fun t => b.chg.tab (a.chg.tab t)⟩, fun i x h => ?_⟩
  · have e1 := a.chg.keep x o e c
    refine b.chg.keep x o e1 (c.imp (fun n => ⟨fun z => ?_, n.2⟩) id)
    obtain ⟨i, hi⟩ := z
    rcases old i x hi with q | q
    · exact n.1 q
    · rw [e] at q; cases q
  · rcases b.new i x h with (q | q) | ⟨q, k, hk, q2⟩
    · exact a.new i x q
    · exact .inl (.inr (a.chg.there x q))
    · rcases a.new k x q2 with (w | w) | ⟨_, j, hj, w⟩
      · exact .inr ⟨q, k, hk, w⟩
      · exact .inl (.inr w)
      · exact .inr ⟨q, j, hj, w⟩
theorem EvR.trans [Tb] {lk : Nat → Bool} {H H1 H' : Hp} {Fs Fs1 Fs' : Fp} (a : EvR lk H Fs H1 Fs1) (b : Ev H1 Fs1 H' Fs') : EvR lk H Fs H' Fs' := a.transR b.r
theorem EvR.wk [Tb] {lk lk' : Nat → Bool} {H H' : Hp} {Fs Fs' : Fp} (h : ∀ i, lk i = true → lk' i = true) (a : EvR lk' H Fs H' Fs') : EvR lk H Fs H' Fs' := by
  have f : ∀ i, lk' i = false → lk i = false := fun i z => by
    cases e : lk i with
    | false => rfl
    | true => rw [h i e] at z; cases z
  exact ⟨a.chg, fun i x z => (a.new i x z).imp id fun ⟨q, k, hk, w⟩ => ⟨f i q, k, f k hk, w⟩⟩
theorem EvR.refl [Tb] {lk : Nat → Bool} (H : Hp) (Fs : Fp) : EvR lk H Fs H Fs := (Ev.refl _ _).r
theorem EvR.e0 [Tb] {lk : Nat → Bool} {H H' : Hp} {Fs Fs' : Fp} (a : EvR lk H Fs H' Fs') : Ev H Fs H' (fun _ => []) := ⟨a.chg, fun _ _ h => by cases h⟩
theorem EvR.r [Tb] {lk : Nat → Bool} {H H' : Hp} {Fs Fs' : Fp} (a : EvR lk H Fs H' Fs') : EvR lk H Fs H' Fs' := a
instance EvR.coe [Tb] {lk : Nat → Bool} {H H' : Hp} {Fs Fs' : Fp} : Coe (Ev H Fs H' Fs') (EvR lk H Fs H' Fs') := ⟨Ev.r⟩
section
variable [Tb] [Vs] (K : PySem.W.Frag) (lk : Nat → Bool)
def PostS (D : Ends) (σ : St) (H : Hp) (Fs : Fp) (s' : Sg) (fl : Fl) : Prop := match fl with
  | .nx => ∀ σ' H' Fs', RelS K H' s' σ' Fs' → EvR lk H Fs H' Fs' → Lk lk σ σ' → D.nx σ' H'
  | .bk => ∀ σ' H' Fs', RelS K H' s' σ' Fs' → EvR lk H Fs H' Fs' → Lk lk σ σ' → D.bk σ' H'
  | .ct => ∀ σ' H' Fs', RelS K H' s' σ' Fs' → EvR lk H Fs H' Fs' → Lk lk σ σ' → D.ct σ' H'
  | .rt d => ∀ v σ' H' Fs' F, RelS K H' s' σ' Fs' → EvR lk H Fs H' Fs' → Lk lk σ σ' → Own K H' d v F → (∀ a, a ∈ F → H a = none ∨ ∃ i, lk i = false ∧ a ∈ Fs i) → (∀ i a, lk i = true → a ∈ Fs' i → a ∉ F) → D.rt v H'
def tS (g : S) : TS := fun D σ H => ∃ s Fs fl s', RelS K H s σ Fs ∧ g s = .ok fl s' ∧ PostS K lk D σ H Fs s' fl
end
def SimS [Tb] [Vs] (X : Cx) (lk : Nat → Bool) (st : Stmt) (g : S) : Prop := PS X st (tS X.K lk g)
def SimSs [Tb] [Vs] (X : Cx) (lk : Nat → Bool) (st : List Stmt) (g : S) : Prop := PSs X st (tS X.K lk g)
theorem ps_imp {X : Cx} {e : Stmt} {t t' : TS} (h : PS X e t) (i : ∀ D σ H, t' D σ H → t D σ H) : PS X e t' := ⟨fun pins s σ H D I q => h.run pins s σ H D I (i D σ H q)⟩
theorem pss_imp {X : Cx} {e : List Stmt} {t t' : TS} (h : PSs X e t) (i : ∀ D σ H, t' D σ H → t D σ H) : PSs X e t' := ⟨fun pins s σ H D I q => h.run pins s σ H D I (i D σ H q)⟩
def sSkip : S := fun s => .ok .nx s
def sSeq (g h : S) : S := fun s => (g s).bind fun fl s1 => match fl with
  | .nx => h s1
  | fl => .ok fl s1
def sExpr (g : O) : S := fun s => (g s).bind fun _ s1 => .ok .nx s1
def sRet (lk : Nat → Bool) (g : O) : S := fun s => (g s).bind fun r s1 => match r with
  | .val d => .ok (.rt d) s1
  | .slot i => match (s1[i]?).join with
    | none => .bad
    | some d => if pur d = true ∨ lk i = false then .ok (.rt d) s1 else .bad
def sRetN : S := fun s => .ok (.rt .none) s
def sBreak : S := fun s => .ok .bk s
def sCont : S := fun s => .ok .ct s
def sNever : S := fun _ => .bad
def sIf (t : T) (g h : S) : S := fun s => (t s).bind fun b s1 => if b = true then g s1 else h s1
def sAsg (t : Tg) (g : O) : S := fun s => (g s).bind fun r s1 => match own r s1 with
  | none => .bad
  | some d => match asg t d s1 with
    | none => .bad
    | some s2 => .ok .nx s2
def sSet (i : Nat) (g : O) : S := sAsg (.nm i) g
/-- x[k] = e -/
def sSetIx (i : Nat) (gi g : O) : S := fun s => (g s).bind fun r s1 => (oV i s1).bind fun _ s1 => (gi s1).bind fun ri s2 => match own r s2, rd ri s2, (s2[i]?).join with
  | some d, some (.int k), some (.list ds) => if pur d = true then (match ixN ds.length k with
    | none => .bad
    | some j => .ok .nx (s2.set i (some (.list (ds.set j d))))) else .bad
  | _, _, _ => .bad
section
variable [Tb] [Vs] {X : Cx} {lk : Nat → Bool} {pos : Pos} {K : PySem.W.Frag} {g h : S} {D : Ends} {σ : St} {H : Hp} {ga gb : O} {e : Expr}
theorem ss_nil : SimSs X lk [] sSkip := pss_imp pss_nil fun D σ H ⟨s, Fs, fl, s', R, e, q⟩ => by
  cases e
  exact q σ H Fs R (.refl _ _) (.refl _ _)
/-- what follows a first part -/
theorem tS_after {s : Sg} {Fs Fs1 : Fp} {σ1 : St} {H1 : Hp} {s1 s' : Sg} {fl : Fl} (R1 : RelS K H1 s1 σ1 Fs1) (E1 : EvR lk H Fs H1 Fs1) (L1 : Lk lk σ σ1) (e : h s1 = .ok fl s')
    (q : PostS K lk D σ H Fs s' fl) :
    tS K lk h D σ1 H1 := by
  refine ⟨s1, Fs1, fl, s', R1, e, ?_⟩
  cases fl with
  | nx => exact fun σ' H' Fs' R' E' L' => q σ' H' Fs' R' (E1.transR E') (L1.trans L')
  | bk => exact fun σ' H' Fs' R' E' L' => q σ' H' Fs' R' (E1.transR E') (L1.trans L')
  | ct => exact fun σ' H' Fs' R' E' L' => q σ' H' Fs' R' (E1.transR E') (L1.trans L')
  | rt d =>
    refine fun v σ' H' Fs' F R' E' L' o n m => q v σ' H' Fs' F R' (E1.transR E') (L1.trans L') o (fun a ha => ?_) m
    rcases n a ha with z | ⟨i, hi, z⟩
    · exact .inl (E1.chg.there a z)
    · rcases E1.new i a z with (z | z) | ⟨_, k, hk, z⟩
      · exact .inr ⟨i, hi, z⟩
      · exact .inl z
      · exact .inr ⟨k, hk, z⟩
theorem tS_seq (z : tS K lk (sSeq g h) D σ H) : tSeq (tS K lk g) (tS K lk h) D σ H := by
  obtain ⟨s, Fs, fl, s', R, e, q⟩ := z
  obtain ⟨f1, s1, e1, e⟩ := bind_inv e
  refine ⟨s, Fs, f1, s1, R, e1, ?_⟩
  cases f1 with
  | nx => exact fun σ1 H1 Fs1 R1 E1 L1 => tS_after (s := s) R1 E1 L1 e q
  | bk => cases e; exact q
  | ct => cases e; exact q
  | rt d => cases e; exact q
theorem ss_cons {st : Stmt} {rest : List Stmt} (h1 : SimS X lk st g) (h2 : SimSs X lk rest h) : SimSs X lk (st :: rest) (sSeq g h) := pss_imp (pss_cons h1 h2) fun _ _ _ z => tS_seq z
theorem ss_one {st : Stmt} (h1 : SimS X lk st g) : SimSs X lk [st] g := pss_one h1
theorem ss_expr (he : SimO X e ga) (hs : swapsWith e none pos.line X.env = pure false := by rfl) : SimS X lk (.Expr e pos) (sExpr ga) := by
  refine ps_imp (ps_expr he hs) fun D σ H z => ?_
  obtain ⟨s, Fs, fl, s', R, e, q⟩ := z
  obtain ⟨r, s1, e1, e⟩ := bind_inv e
  refine ⟨s, Fs, r, s1, R, e1, fun v H1 Fs1 F R1 E1 k1 n1 => ?_⟩
  cases e
  exact q σ H1 Fs1 R1 E1 (.refl _ _)
theorem ss_ret (he : SimO X e ga) : SimS X lk (.Return (some e) pos) (sRet lk ga) := by
  refine ps_imp (ps_ret he) fun D σ H z => ?_
  obtain ⟨s, Fs, fl, s', R, e, q⟩ := z
  obtain ⟨r, s1, e1, e⟩ := bind_inv e
  refine ⟨s, Fs, r, s1, R, e1, fun v H1 Fs1 F R1 E1 k1 n1 => ?_⟩
  cases k1 with
  | val A =>
    cases e
    exact q v σ H1 Fs1 F R1 E1.r (.refl _ _) A.own (fun a ha => .inl (n1 a ha)) fun i a _ hi ha => A.dis i a hi ha
  | @slot i v hv =>
    simp only at e
    split at e
    · cases e
    · rename_i d hd
      split at e
      · rename_i hp
        cases e
        obtain ⟨v', hv', o⟩ := R1.has i d (join_some hd)
        rw [hv] at hv'
        cases hv'
        refine q v σ H1 Fs1 (Fs1 i) R1 E1.r (.refl _ _) o (fun a ha => ?_) fun j a hj hi ha => ?_
        · rcases hp with hp | hp
          · rw [o.pur hp] at ha; cases ha
          · rcases E1.new i a ha with z | z
            · exact .inr ⟨i, hp, z⟩
            · exact .inl z
        · rcases hp with hp | hp
          · rw [o.pur hp] at ha; cases ha
          · have := R1.dis j i a hi ha
            subst this
            rw [hp] at hj; cases hj
      · cases e
theorem ss_if {c : Expr} {as bs : List Stmt} {t : T} (hc : SimT X c t) (ha : SimSs X lk as g) (hb : SimSs X lk bs h) : SimS X lk (.If c as bs pos) (sIf t g h) := by
  refine ps_imp (ps_if hc ha hb) fun D σ H z => ?_
  obtain ⟨s, Fs, fl, s', R, e, q⟩ := z
  obtain ⟨b, s1, e1, e⟩ := bind_inv e
  refine ⟨s, Fs, b, s1, R, e1, fun H1 Fs1 R1 E1 => ?_⟩
  cases b with
  | true => exact iteT (tS_after (s := s) R1 E1 (.refl _ _) e q)
  | false => exact iteF (tS_after (s := s) R1 E1 (.refl _ _) e q)
theorem rfOk_own {Fs : Fp} {r : Rf} {v : V} {F : List Addr} {s : Sg} {d : Sim.D} (k : RfOk K H σ Fs r v F) (R : RelS K H s σ Fs) (e : own r s = some d) : Apart K H Fs d v F := by
  cases k with
  | val A => cases e; exact A
  | @slot i v hv =>
    simp only [own] at e
    split at e
    · cases e
    · rename_i d' hd
      split at e
      · rename_i hp
        cases e
        obtain ⟨v', hv', o⟩ := R.has i d (join_some hd)
        rw [hv] at hv'
        cases hv'
        rw [o.pur hp] at o
        exact ⟨o, fun _ _ _ z => by cases z⟩
      · cases e
theorem tS_asg {t : Tg} (z : tS K lk (sAsg t ga) D σ H) : tAsg (tO K ga) (tG K lk t) D σ H := by
  obtain ⟨s, Fs, fl, s', R, e, q⟩ := z
  obtain ⟨r, s1, e1, e⟩ := bind_inv e
  refine ⟨s, Fs, r, s1, R, e1, fun v H1 Fs1 F R1 E1 k1 n1 => ?_⟩
  split at e
  · cases e
  · rename_i d hd
    split at e
    · cases e
    · rename_i s2 hs2
      cases e
      refine ⟨s1, Fs1, d, F, _, R1, rfOk_own k1 R1 hd, hs2, fun σ2 Fs2 R2 n2 L2 => q σ2 H1 Fs2 R2 ⟨E1.chg, fun i a h => ?_⟩ L2⟩
      rcases n2 i a h with z | z
      · exact .inl (E1.new i a z)
      · exact .inl (.inr (n1 a z))
theorem ss_asg {tg : Expr} {t : Tg} (he : SimO X e ga) (hg : SimG X lk tg t) (hs : swapsWithSole [tg] e pos.line X.env = pure false := by rfl) (hw : swappedStores [tg] e X.env = pure none := by rfl)
    (h1 : (assignEach [tg] X.env).map (·.2) = [assign tg X.env] := by rfl) : SimS X lk (.Assign [tg] e pos) (sAsg t ga) := ps_imp (ps_asg he hg hs hw h1) fun _ _ _ z => tS_asg z
theorem ss_set {i : Nat} {x : Str} {pos' : Pos} (hN : X.N.Nodup) (hi : X.N[i]? = some x) (hx : Loc X.env.scope x) (hl : lk i = false) (he : SimO X e ga) (hs : swapsWith e (some (.Name x pos')) pos.line X.env = pure false := by rfl) (hf : X.fn x = true ∨ X.env.scope.names.lookup x = some .local := by first | exact .inl rfl | exact .inr rfl | assumption) (ko : Vs.ok i := by first | exact trivial | assumption | exact ⟨by decide, by decide⟩) :
    SimS X lk (.Assign [.Name x pos'] e pos) (sSet i ga) := ps_imp (ps_set hN hi hx he hs hf) fun D σ H z => tO_mono (fun v H h => by have w := tG_nm hl ko h; exact w) (tS_asg z)
theorem ss_setIxF {e0 : Expr} {i : Nat} {ix : Expr} {p2 : Pos} (hv : PE X e0 (tSl i)) (hix : SimO X ix gb) (he : SimO X e ga)
    (ha : ∀ v, assign (.Subscript e0 ix p2) X.env v = (do
      let ov ← holding [v] (eval e0 X.env)
      let iv ← holding [v, ov] (eval ix X.env)
      standAt p2
      holding [v, ov, iv] (setItem ov iv v)
      release [v, ov, iv] []) := by intro _; rfl)
    (hs : swapsWithSole [.Subscript e0 ix p2] e pos.line X.env = pure false := by rfl) (hw : swappedStores [.Subscript e0 ix p2] e X.env = pure none := by rfl)
    (h1 : (assignEach [.Subscript e0 ix p2] X.env).map (·.2) = [assign (.Subscript e0 ix p2) X.env] := by rfl) : SimS X lk (.Assign [.Subscript e0 ix p2] e pos) (sSetIx i gb ga) := by
  refine ps_imp (ps_asg he (pg_sub hv hix set_list ha) hs hw h1) fun D σ H z => ?_
  obtain ⟨s, Fs, fl, s', R, e, q⟩ := z
  obtain ⟨r, s1, e1, e⟩ := bind_inv e
  refine ⟨s, Fs, r, s1, R, e1, fun v H1 Fs1 F R1 E1 k1 n1 => ?_⟩
  obtain ⟨rv, s1', e1', e⟩ := bind_inv e
  unfold oV at e1'
  split at e1'
  · rename_i d0 hd0
    cases e1'
    obtain ⟨vl, hvl, _⟩ := R1.has i d0 (join_some hd0)
    refine ⟨vl, hvl, R1.lnk.1, ?_⟩
    obtain ⟨ri, s2, e2, e⟩ := bind_inv e
    refine ⟨s1, Fs1, ri, s2, R1, e2, fun vi H2 Fs2 F2 R2 E2 k2 n2 => ?_⟩
    split at e
    · rename_i d k ds hd hk hs2
      split at e
      · rename_i hp
        split at e
        · cases e
        · rename_i j hj
          cases e
          obtain ⟨vl', hvl', o⟩ := R2.has i _ (join_some hs2)
          rw [hvl] at hvl'
          cases hvl'
          obtain ⟨l, vs, F0, rfl, eF, hl, t, nl⟩ := own_list o
          obtain ⟨F', oi⟩ := k2.dp R2 hk
          cases oi
          have A := rfOk_own (k1.ev E2) R2 hd
          have o1 := A.own
          rw [o1.pur hp] at o1
          obtain ⟨F3, t3, hF3⟩ := OwnA.put o1 j t
          refine ⟨l, vs, k, j, rfl, rfl, hl, by rw [t.len]; exact hj, ?_⟩
          obtain ⟨Fs3, R3, C3, n3⟩ := R2.wr (join_some hs2) hvl hl eF t3 (fun z => nl (hF3 _ z)) (fun a ha => .inl (hF3 a ha)) (Fd := []) (by simp)
          refine q σ _ Fs3 R3 ((E1.trans E2).trans ⟨C3, fun j a h => (n3 j a h).imp id (fun z => by cases z)⟩) (.refl _ _)
      · cases e
    · cases e
  · cases e1'
theorem ss_setIx {i : Nat} {x : Str} {ix : Expr} {p1 p2 : Pos} (hv : PE X (.Name x p1) (tVar i)) (hix : SimO X ix gb) (he : SimO X e ga)
    (ha : ∀ v, assign (.Subscript (.Name x p1) ix p2) X.env v = (do
      let ov ← holding [v] (eval (.Name x p1) X.env)
      let iv ← holding [v, ov] (eval ix X.env)
      standAt p2
      holding [v, ov, iv] (setItem ov iv v)
      release [v, ov, iv] []) := by intro _; rfl)
    (hs : swapsWithSole [.Subscript (.Name x p1) ix p2] e pos.line X.env = pure false := by rfl) (hw : swappedStores [.Subscript (.Name x p1) ix p2] e X.env = pure none := by rfl)
    (h1 : (assignEach [.Subscript (.Name x p1) ix p2] X.env).map (·.2) = [assign (.Subscript (.Name x p1) ix p2) X.env] := by rfl) : SimS X lk (.Assign [.Subscript (.Name x p1) ix p2] e pos) (sSetIx i gb ga) :=
  ss_setIxF (tsl_of hv) hix he ha hs hw h1
end
end Sim
namespace Sim
open PySem PySem.Spec L2
def lks : List Rf → List D → List (Nat × D)
  | .slot i :: rs, d :: ds => if pur d = true then lks rs ds else (i, d) :: lks rs ds
  | .val _ :: rs, _ :: ds => lks rs ds
  | _, _ => []
def lockS : List (Nat × D) → Sg → Sg
  | [], s => s
  | p :: l, s => lockS l (s.set p.1 none)
def unlockS : List (Nat × D) → Sg → Sg
  | [], s => s
  | p :: l, s => unlockS l (s.set p.1 (some p.2))
def nodupB : List Nat → Bool
  | [] => true
  | x :: l => !l.contains x && nodupB l
/-- what is closed, stands apart -/
structure HvS [Tb] [Vs] (σ : St) (i : Nat) (v : V) : Prop where
  get : σ[i]? = some (some v)
  fp : Vs.fp i = []
inductive Hid [Tb] [Vs] (K : PySem.W.Frag) (H : Hp) (σ : St) (Fs : Fp) : List (Nat × D) → List (List Addr) → Prop
  | nil : Hid K H σ Fs [] []
  | cons {i : Nat} {d : D} {v : V} {F : List Addr} {l : List (Nat × D)} {Gs : List (List Addr)} : HvS σ i v → Apart K H Fs d v F → (∀ G, G ∈ Gs → ∀ a, a ∈ F → a ∉ G) → Hid K H σ Fs l Gs → Hid K H σ Fs ((i, d) :: l) (F :: Gs)
/-- where what is closed comes from -/
def From (H0 : Hp) (Fs0 : Fp) : List (Nat × D) → List (List Addr) → Prop
  | [], [] => True
  | p :: l, F :: Gs => (∀ a, a ∈ F → a ∈ Fs0 p.1 ∨ H0 a = none) ∧ From H0 Fs0 l Gs
  | _, _ => False
section
variable [Tb] [Vs] {K : PySem.W.Frag} {H H1 H' H0 : Hp} {s s' : Sg} {σ σ' : St} {Fs Fs1 Fs' Fs0 : Fp} {l : List (Nat × D)} {Gs : List (List Addr)}
theorem Hid.ev (h : Hid K H σ Fs l Gs) (e : Ev H Fs H' Fs') (L : ∀ p, p ∈ l → σ'[p.1]? = σ[p.1]?) : Hid K H' σ' Fs' l Gs := by
  induction h with
  | nil => exact .nil
  | @cons i d v F l Gs hv A n _ ih =>
    exact .cons ⟨(L _ (List.mem_cons_self ..)).trans hv.get, hv.fp⟩ (A.ev e) n (ih fun p hp => L p (List.mem_cons_of_mem _ hp))
theorem Hid.evR {lk : Nat → Bool} (h : Hid K H σ Fs l Gs) (e : EvR lk H Fs H' Fs') (L : ∀ p, p ∈ l → σ'[p.1]? = σ[p.1]?) : Hid K H' σ' Fs' l Gs := by
  induction h with
  | nil => exact .nil
  | @cons i d v F l Gs hv A n _ ih =>
    refine .cons ⟨(L _ (List.mem_cons_self ..)).trans hv.get, hv.fp⟩ ⟨A.own.chg e.chg fun a ha ⟨i, hi⟩ => A.dis i a hi ha, fun i a hi ha => ?_⟩ n (ih fun p hp => L p (List.mem_cons_of_mem _ hp))
    rcases e.new i a hi with (q | q) | ⟨_, k, _, q⟩
    · exact A.dis i a q ha
    · obtain ⟨xs, z⟩ := A.own.mem a ha
      rw [q] at z; cases z
    · exact A.dis k a q ha
theorem Hid.mem (h : Hid K H σ Fs l Gs) : ∀ G, G ∈ Gs → ∀ a, a ∈ G → (∃ xs : MO, H a = some xs.ho) ∧ ∀ i, a ∉ Fs i := by
  induction h with
  | nil => intro G h; cases h
  | cons hv A n _ ih =>
    intro G h a ha
    rcases List.mem_cons.mp h with rfl | h
    · exact ⟨A.own.mem a ha, fun i hi => A.dis i a hi ha⟩
    · exact ih G h a ha
theorem From.trans (h : From H Fs l Gs) (e : ∀ i a, a ∈ Fs i → a ∈ Fs0 i ∨ H0 a = none) (t : ∀ a, H a = none → H0 a = none) : From H0 Fs0 l Gs := by
  induction l generalizing Gs with
  | nil => cases Gs with
    | nil => trivial
    | cons _ _ => exact h.elim
  | cons p l ih => cases Gs with
    | nil => exact h.elim
    | cons F Gs =>
      refine ⟨fun a ha => ?_, ih h.2⟩
      rcases h.1 a ha with z | z
      · exact e _ a z
      · exact .inr (t a z)
theorem nodupB_cons {x : Nat} {l : List Nat} (h : nodupB (x :: l) = true) : x ∉ l ∧ nodupB l = true := by
  simp only [nodupB, Bool.and_eq_true, Bool.not_eq_true', List.contains_eq_mem, decide_eq_false_iff_not] at h
  exact h
theorem RelS.lock (R : RelS K H s σ Fs) (hs : ∀ p, p ∈ l → s[p.1]? = some (some p.2)) (nd : nodupB (l.map (·.1)) = true) :
    ∃ Fs' Gs, RelS K H (lockS l s) σ Fs' ∧ Hid K H σ Fs' l Gs ∧ (∀ j a, a ∈ Fs' j → a ∈ Fs j) ∧ From H Fs l Gs := by
  induction l generalizing s Fs with
  | nil => exact ⟨Fs, [], R, .nil, fun _ _ h => h, trivial⟩
  | cons p l ih =>
    obtain ⟨n1, n2⟩ := nodupB_cons nd
    obtain ⟨v, hv, o⟩ := R.has p.1 p.2 (hs p (List.mem_cons_self ..))
    obtain ⟨Fs', Gs, R', hd, sub, fr⟩ := ih (R.drop p.1 (hs p (List.mem_cons_self ..))) (fun q hq => by
      rw [List.getElem?_set_ne]
      · exact hs q (List.mem_cons_of_mem _ hq)
      · intro e
        refine n1 ?_
        show p.1 ∈ _
        rw [e]
        exact List.mem_map_of_mem (f := fun x : Nat × D => x.1) hq) n2
    have sub2 : ∀ j a, a ∈ upF Fs p.1 [] j → a ∈ Fs j ∧ j ≠ p.1 := fun j a h => by
      unfold upF at h
      split at h
      · cases h
      · exact ⟨h, by assumption⟩
    refine ⟨Fs', Fs p.1 :: Gs, R', .cons ⟨hv, R.fp0 (hs p (List.mem_cons_self ..))⟩ ⟨o, fun i a hi ha => ?_⟩ (fun G hG a ha hb => ?_) hd, fun j a h => (sub2 j a (sub j a h)).1, fun a h => .inl h, fr.trans (fun i a h => .inl (sub2 i a h).1) fun _ h => h⟩
    · obtain ⟨h1, h2⟩ := sub2 i a (sub i a hi)
      exact h2 (R.dis i p.1 a h1 ha)
    · -- a closed one's places are another slot's
      have key : ∀ (l : List (Nat × D)) (Gs : List (List Addr)), From H (upF Fs p.1 []) l Gs → G ∈ Gs → ∃ i, a ∈ upF Fs p.1 [] i ∨ H a = none := fun l => by
        induction l with
        | nil => intro Gs h1 h2; cases Gs with
          | nil => cases h2
          | cons _ _ => exact h1.elim
        | cons q l ih => intro Gs h1 h2; cases Gs with
          | nil => cases h2
          | cons F Gs =>
            rcases List.mem_cons.mp h2 with rfl | h2
            · exact ⟨q.1, h1.1 a hb⟩
            · exact ih Gs h1.2 h2
      obtain ⟨i, hi | hi⟩ := key l Gs fr hG
      · obtain ⟨h1, h2⟩ := sub2 i a hi
        exact h2 (R.dis i p.1 a h1 ha)
      · obtain ⟨xs, w⟩ := o.mem a ha
        rw [hi] at w; cases w
theorem RelS.unlock (R : RelS K H s σ Fs) (hd : Hid K H σ Fs l Gs) (fr : From H0 Fs0 l Gs) :
    ∃ Fs', RelS K H (unlockS l s) σ Fs' ∧ ∀ j a, a ∈ Fs' j → a ∈ Fs j ∨ ((a ∈ Fs0 j ∨ H0 a = none) ∧ ∃ G, G ∈ Gs ∧ a ∈ G) := by
  induction l generalizing s Fs Gs with
  | nil =>
    cases hd
    exact ⟨Fs, R, fun _ _ h => .inl h⟩
  | cons p l ih =>
    cases hd with
    | @cons i d v F l Gs hv A n hd =>
      obtain ⟨Fs1, R1, n1⟩ := R.reput A i hv.get hv.fp
      have hd1 : Hid K H σ Fs1 l Gs := by
        clear ih R fr
        induction hd with
        | nil => exact .nil
        | @cons j d' v' F' l Gs hv' A' n' hd' ih' =>
          refine .cons hv' ⟨A'.own, fun k a hk ha => ?_⟩ n' (ih' fun G hG => n G (List.mem_cons_of_mem _ hG))
          rcases n1 k a hk with z | z
          · exact A'.dis k a z.1 ha
          · exact n F' (List.mem_cons_self ..) a z.1 ha
      obtain ⟨Fs', R', n2⟩ := ih (s := s.set i (some d)) R1 hd1 fr.2
      refine ⟨Fs', R', fun j a h => ?_⟩
      rcases n2 j a h with z | ⟨z, G, hG, ha⟩
      · rcases n1 j a z with w | w
        · exact .inl w.1
        · refine .inr ⟨?_, F, List.mem_cons_self .., w.1⟩
          rw [w.2]
          exact fr.1 a w.1
      · exact .inr ⟨z, G, List.mem_cons_of_mem _ hG, ha⟩
end
abbrev I := Sg → Res (List D × List (Nat × D))
structure WalkD (K : PySem.W.Frag) (J : It) (G : Hp → Prop) (es : List D) : Prop where
  goes : ∀ i H, i < es.length → G H → J.go i H
  stops : ∀ H, G H → J.stop es.length H
  yields : ∀ i H x H', i < es.length → G H → J.yld i H x H' → ∃ d, es[i]? = some d ∧ Same H H' ∧ Own K H' d x []
def tI [Tb] [Vs] (K : PySem.W.Frag) (g : I) : TI := fun σ H R => ∃ s Fs es l s', RelS K H s σ Fs ∧ g s = .ok (es, l) s' ∧
  ∀ J H1 Fs1 Gs (G : Hp → Prop), RelS K H1 s' σ Fs1 → Chg (InF Fs) H H1 → (∀ j a, a ∈ Fs1 j → a ∈ Fs j ∨ H a = none) → Hid K H1 σ Fs1 l Gs → From H Fs l Gs → WalkD K J G es →
    (∀ H2 Fs2, Ev H1 Fs1 H2 Fs2 → G H2) → R J H1
def SimI [Tb] [Vs] (X : Cx) (tg iter : Expr) (g : I) : Prop := PI X tg iter (tI X.K g)
theorem pi_imp {X : Cx} {tg e : Expr} {t t' : TI} (h : PI X tg e t) (i : ∀ σ H Q, t' σ H Q → t σ H Q) : PI X tg e t' := ⟨fun pins s σ H Q I q => h.run pins s σ H Q I (i σ H Q q)⟩
/-- from operands that stand: items -/
def mkI (itm : List D → Option (List D)) (g : AL) : I := fun s => (g s).bind fun rs s1 => match rds rs s1 with
  | none => .bad
  | some ds => match itm ds with
    | none => .bad
    | some es => if purs es = true ∧ nodupB ((lks rs ds).map (·.1)) = true then .ok (es, lks rs ds) (lockS (lks rs ds) s1) else .bad
section
variable [Tb] [Vs] {X : Cx} {K : PySem.W.Frag}
theorem lks_has {H : Hp} {s : Sg} {σ : St} {Fs : Fp} {rs : List Rf} {vs : List V} {Gs : List (List Addr)} (r : Rfs K H σ Fs rs vs Gs) : ∀ {ds : List D}, rds rs s = some ds → ∀ p, p ∈ lks rs ds → s[p.1]? = some (some p.2) := by
  induction r with
  | nil => intro ds e p h; cases e; simp [lks] at h
  | @val d v F rs vs Gs A n _ ih =>
    intro ds e p h
    unfold rds at e
    simp only [rd] at e
    split at e
    · cases e
    · rename_i es he
      cases e
      exact ih he p (by simpa [lks] using h)
  | @slot i v rs vs Gs hv _ ih =>
    intro ds e p h
    unfold rds at e
    simp only [rd] at e
    split at e
    · cases e
    · rename_i d hd
      split at e
      · cases e
      · rename_i es he
        cases e
        unfold lks at h
        split at h
        · exact ih he p h
        · rcases List.mem_cons.mp h with rfl | h
          · exact join_some hd
          · exact ih he p h
/-- the operands stand through what a loop does -/
theorem lks_stand {H H2 : Hp} {s : Sg} {σ : St} {Fs Fs1 Fs2 : Fp} (R : RelS K H s σ Fs) (sub : ∀ j a, a ∈ Fs1 j → a ∈ Fs j) (e : Ev H Fs1 H2 Fs2) {l : List (Nat × D)} {Gl : List (List Addr)} (hd : Hid K H σ Fs1 l Gl) :
    ∀ {rs : List Rf} {vs : List V} {Gs : List (List Addr)}, Rfs K H σ Fs rs vs Gs → ∀ {ds : List D}, rds rs s = some ds → (∀ p, p ∈ lks rs ds → p ∈ l) → RdA K H2 vs ds := by
  intro rs vs Gs r
  induction r with
  | nil => intro ds e _; cases e; exact .nil
  | @val d v F rs vs Gs A n _ ih =>
    intro ds e' h
    unfold rds at e'
    simp only [rd] at e'
    split at e'
    · cases e'
    · rename_i es he
      cases e'
      have A1 : Apart K H Fs1 d v F := ⟨A.own, fun i a hi ha => A.dis i a (sub i a hi) ha⟩
      exact .cons (A1.ev e).own (ih he fun p hp => h p (by simpa [lks] using hp))
  | @slot i v rs vs Gs hv _ ih =>
    intro ds e' h
    unfold rds at e'
    simp only [rd] at e'
    split at e'
    · cases e'
    · rename_i d hd0
      split at e'
      · cases e'
      · rename_i es he
        cases e'
        obtain ⟨v', hv', o⟩ := R.has i d (join_some hd0)
        rw [hv] at hv'
        cases hv'
        by_cases hp : pur d = true
        · rw [o.pur hp] at o
          refine .cons (o.chg e.chg fun _ z => by cases z) (ih he fun p hp' => h p ?_)
          unfold lks
          rw [if_pos hp]
          exact hp'
        · have hm : (i, d) ∈ l := h (i, d) (by unfold lks; rw [if_neg hp]; exact List.mem_cons_self ..)
          have key : ∀ {l : List (Nat × D)} {Gl : List (List Addr)}, Hid K H σ Fs1 l Gl → (i, d) ∈ l → ∃ F, Apart K H Fs1 d v F := fun {l Gl} q => by
            induction q with
            | nil => intro h; cases h
            | @cons j d' v' F l Gl hv' A n _ ih =>
              intro h
              rcases List.mem_cons.mp h with z | h
              · cases z
                have hv' := hv'.get
                rw [hv] at hv'
                cases hv'
                exact ⟨F, A⟩
              · exact ih h
          obtain ⟨F, A⟩ := key hd hm
          refine .cons (A.ev e).own (ih he fun p hp' => h p ?_)
          unfold lks
          rw [if_neg hp]
          exact List.mem_cons_of_mem _ hp'
/-- the rule of a walk over operands: J as the values say -/
theorem mkI_ok {itm : List D → Option (List D)} {g : AL} {σ : St} {H : Hp} {R : It → Hp → Prop} (h : tI K (mkI itm g) σ H R) {w : List V → Hp → (It → Hp → Prop) → Prop}
    (hw : ∀ vs ds es H R, RdA K H vs ds → itm ds = some es → purs es = true → (∀ J, WalkD K J (fun H2 => RdA K H2 vs ds) es → R J H) → w vs H R) : tA K g σ H fun vs H1 => w vs H1 R := by
  obtain ⟨s, Fs, es, l, s', R0, e, q⟩ := h
  obtain ⟨rs, s1, e1, e⟩ := bind_inv e
  refine ⟨s, Fs, rs, s1, R0, e1, fun vs H1 Fs1 Gs R1 E1 k1 n1 => ?_⟩
  split at e
  · cases e
  · rename_i ds hds
    split at e
    · cases e
    · rename_i es' hes
      split at e
      · rename_i hp
        cases e
        obtain ⟨Fs2, Gl, R2, hd, sub, fr⟩ := R1.lock (lks_has k1 hds) hp.2
        refine hw vs ds es H1 R (k1.dp R1 hds) hes hp.1 fun J W => ?_
        refine q J H1 Fs2 Gl _ R2 E1.chg (fun j a h => E1.new j a (sub j a h)) hd (fr.trans E1.new fun a h => E1.chg.there a h) W fun H2 Fs3 E => ?_
        exact lks_stand R1 sub E hd k1 hds fun p h => h
      · cases e
theorem purs_get {es : List D} (h : purs es = true) {i : Nat} {d : D} (e : es[i]? = some d) : pur d = true := by
  induction es generalizing i with
  | nil => simp at e
  | cons x es ih =>
    simp only [purs, Bool.and_eq_true] at h
    cases i with
    | zero => simp at e; rw [← e]; exact h.1
    | succ i => exact ih h.2 (by simpa using e)
theorem OwnA.at {H : Hp} {ds : List D} {vs : List V} {F : List Addr} (t : OwnA K H ds vs F) (p : purs ds = true) {i : Nat} {x : V} (e : vs[i]? = some x) : ∃ d, ds[i]? = some d ∧ Own K H d x [] := by
  have hl := t.len
  have hi : i < ds.length := by rw [← hl]; exact (List.getElem?_eq_some_iff.mp e).1
  obtain ⟨v, G, hv, o, _⟩ := t.get i ds[i] (List.getElem?_eq_getElem hi)
  rw [e] at hv
  cases hv
  have pp := purs_get p (List.getElem?_eq_getElem hi)
  rw [o.pur pp] at o
  exact ⟨_, List.getElem?_eq_getElem hi, o⟩
/-- plain: a list, a tuple, a list that never changes -/
def itP : List D → Option (List D)
  | [.list ds] => some ds
  | [.tuple ds] => some ds
  | [.dict [(.none, .list ds)]] => some ds
  | _ => none
def wP (K : PySem.W.Frag) : List V → Hp → (It → Hp → Prop) → Prop := fun vs H R => ∃ a, vs = [.ref a] ∧ ((∃ xs, SqL K H a xs) ∧ R (Itl K a) H ∨ (∃ xs, SqT K H a xs) ∧ R (Itt K a) H)
theorem rd_list {H : Hp} {a : Addr} {ds : List D} (h : RdA K H [.ref a] [.list ds]) : ∃ xs F, SqL K H a xs ∧ OwnA K H ds xs F := by
  cases h with
  | cons o _ =>
    cases o with
    | lst h t n => exact ⟨_, _, SqL.of h, t⟩
theorem rd_tup {H : Hp} {a : Addr} {ds : List D} (h : RdA K H [.ref a] [.tuple ds]) : ∃ xs F, SqT K H a xs ∧ OwnA K H ds xs F := by
  cases h with
  | cons o _ =>
    cases o with
    | tup h t => exact ⟨_, _, h.sq, t⟩
theorem rd_frz {H : Hp} {a : Addr} {ds : List D} (h : RdA K H [.ref a] [.dict [(.none, .list ds)]]) : ∃ xs F, SqL K H a xs ∧ OwnA K H ds xs F := by
  cases h with
  | cons o _ =>
    cases o with
    | frz h t => exact ⟨_, _, h.sq, t⟩
theorem walkD_l {a : Addr} {ds : List D} {G : Hp → Prop} (p : purs ds = true) (h : ∀ H, G H → ∃ xs F, SqL K H a xs ∧ OwnA K H ds xs F) : WalkD K (Itl K a) G ds := by
  refine ⟨fun i H hi g => ?_, fun H g => ?_, fun i H x H' hi g y => ?_⟩
  · obtain ⟨xs, F, hq, t⟩ := h H g
    have hl := t.len
    exact ⟨xs, xs[i]'(by omega), hq, List.getElem?_eq_getElem _⟩
  · obtain ⟨xs, F, hq, t⟩ := h H g
    have hl := t.len
    exact ⟨xs, hq, by omega⟩
  · obtain ⟨xs, F, hq, t⟩ := h H g
    obtain ⟨rfl, y⟩ := y
    obtain ⟨d, hd, o⟩ := t.at p (y xs hq)
    exact ⟨d, hd, Same.refl _, o⟩
theorem walkD_t {a : Addr} {ds : List D} {G : Hp → Prop} (p : purs ds = true) (h : ∀ H, G H → ∃ xs F, SqT K H a xs ∧ OwnA K H ds xs F) : WalkD K (Itt K a) G ds := by
  refine ⟨fun i H hi g => ?_, fun H g => ?_, fun i H x H' hi g y => ?_⟩
  · obtain ⟨xs, F, hq, t⟩ := h H g
    have hl := t.len
    exact ⟨xs, xs[i]'(by omega), hq, List.getElem?_eq_getElem _⟩
  · obtain ⟨xs, F, hq, t⟩ := h H g
    have hl := t.len
    exact ⟨xs, hq, by omega⟩
  · obtain ⟨xs, F, hq, t⟩ := h H g
    obtain ⟨rfl, y⟩ := y
    obtain ⟨d, hd, o⟩ := t.at p (y xs hq)
    exact ⟨d, hd, Same.refl _, o⟩
theorem wP_ok : ∀ (vs : List V) (ds es : List D) (H : Hp) (R : It → Hp → Prop), RdA K H vs ds → itP ds = some es → purs es = true → (∀ J, WalkD K J (fun H2 => RdA K H2 vs ds) es → R J H) → wP K vs H R := by
  intro vs ds es H R h e p q
  unfold itP at e
  split at e
  · cases e
    obtain ⟨x, F, rfl, o⟩ := h.one
    cases o with
    | lst h1 t n => exact ⟨_, rfl, .inl ⟨⟨_, SqL.of h1⟩, q _ (walkD_l p fun H2 g => rd_list g)⟩⟩
  · cases e
    obtain ⟨x, F, rfl, o⟩ := h.one
    cases o with
    | tup h1 t => exact ⟨_, rfl, .inr ⟨⟨_, h1.sq⟩, q _ (walkD_t p fun H2 g => rd_tup g)⟩⟩
  · cases e
    obtain ⟨x, F, rfl, o⟩ := h.one
    cases o with
    | frz h1 t => exact ⟨_, rfl, .inl ⟨⟨_, h1.sq⟩, q _ (walkD_l p fun H2 g => rd_frz g)⟩⟩
  · cases e
/-- over a list or a tuple -/
theorem pi_seq {tg e : Expr} {te : TE} (he : PE X e te) : PI X tg e (fun σ H R => te σ H fun x H1 => wP X.K [x] H1 R) := by
  refine ⟨fun pins s σ H R I h => ?_⟩
  -- the value is known only when it is there: both rules run on the same evaluation
  refine thn (he.run pins s σ H _ I h) fun v s1 ⟨x, H1, I1, r1, a, ex, q⟩ => ?_
  have ex' : x = V.ref a := by cases ex; rfl
  subst ex'
  rcases q with ⟨⟨xs, hq⟩, q⟩ | ⟨⟨xs, hq⟩, q⟩
  · cases r1
    obtain ⟨its, rv, p, hz⟩ := I1.list hq
    refine wpAny_pyIter_list p.isList ?_
    refine ⟨s1.heap.objs.size, [s1.heap.objs.size], _, _, H1, rfl, I1.kept (t' := s1.toks) fun b o e => Heap.get?_push_of_some _ e, turn_list a _, ⟨_, Heap.get?_push_size _ rfl, rfl, rfl⟩, fun b hb => ?_, q⟩
    have e : b = s1.heap.objs.size := by simpa using hb
    subst e
    exact I1.fpOk (Nat.le_refl _) (I1.hok.fresh (Nat.le_refl _))
  · cases r1
    obtain ⟨its, rv, p, hz⟩ := I1.tuple hq
    refine wpAny_pyIter_tuple (show s1.heap.IsTuple a its.toArray from p) ?_
    refine ⟨s1.heap.objs.size, [s1.heap.objs.size], _, _, H1, rfl, I1.kept (t' := s1.toks) fun b o e => Heap.get?_push_of_some _ e, turn_tuple a _, ⟨_, Heap.get?_push_size _ rfl, rfl, rfl⟩, fun b hb => ?_, q⟩
    have e : b = s1.heap.objs.size := by simpa using hb
    subst e
    exact I1.fpOk (Nat.le_refl _) (I1.hok.fresh (Nat.le_refl _))
theorem si_seq {tg e : Expr} {ga : O} (he : SimO X e ga) : SimI X tg e (mkI itP (aCons ga aNil)) :=
  pi_imp (pi_seq he) fun _ _ _ h => by have z := tA1 (mkI_ok h wP_ok); exact z
def rngD (lo : Int) (n : Nat) : List D := (List.range n).map fun i => .int (lo + (i : Nat))
def itR1 : List D → Option (List D)
  | [.int j] => if -1000000 < j ∧ j < 1000000 then some (rngD 0 j.toNat) else none
  | _ => none
def itR2 : List D → Option (List D)
  | [.int i, .int j] => if -1000000 < i ∧ i < 1000000 ∧ -1000000 < j ∧ j < 1000000 then some (rngD i (j - i).toNat) else none
  | _ => none
theorem rngD_len (lo : Int) (n : Nat) : (rngD lo n).length = n := by unfold rngD; simp
theorem walkD_r {lo : Int} {n : Nat} {G : Hp → Prop} : WalkD K (Itr lo n) G (rngD lo n) := by
  refine ⟨fun i H hi g => by rw [rngD_len] at hi; exact hi, fun H g => by rw [rngD_len]; exact Nat.le_refl _, fun i H x H' hi g y => ?_⟩
  obtain ⟨rfl, rfl⟩ := y
  rw [rngD_len] at hi
  refine ⟨.int (lo + (i : Nat)), ?_, Same.refl _, .int _⟩
  unfold rngD
  rw [List.getElem?_map, List.getElem?_range hi]
  rfl
theorem si_range1 {tg a : Expr} {ga : O} {p pos : Pos} (hg : Gl X "range") (hm : X.mg "range" = none) (ha : SimA X [a] (aCons ga aNil)) (hs : starEach [a] X.env = [(false, eval a X.env)] := by rfl) : SimI X tg (.Call (.Name "range" p) [a] [] pos) (mkI itR1 (aCons ga aNil)) := by
  refine pi_imp (pi_range1 hg hm ha hs) fun σ H R h => ?_
  exact mkI_ok h (w := fun vs H1 R => ∃ j : Int, vs = [.int j] ∧ -(2 ^ 62) ≤ j ∧ j < 2 ^ 62 ∧ R (Itr 0 j.toNat) H1) (fun vs ds es H R h e p q => by
    unfold itR1 at e
    split at e
    · obtain ⟨x, F, rfl, o⟩ := h.one
      cases o
      split at e
      · rename_i hj
        cases e
        exact ⟨_, rfl, by omega, by omega, q _ walkD_r⟩
      · cases e
    · cases e)
theorem si_range2 {tg a b : Expr} {g : AL} {p pos : Pos} (hg : Gl X "range") (hm : X.mg "range" = none) (ha : SimA X [a, b] g) (hs : starEach [a, b] X.env = [(false, eval a X.env), (false, eval b X.env)] := by rfl) (hs2 : starEach [b] X.env = [(false, eval b X.env)] := by rfl) : SimI X tg (.Call (.Name "range" p) [a, b] [] pos) (mkI itR2 g) := by
  refine pi_imp (pi_range2 hg hm ha hs hs2) fun σ H R h => ?_
  exact mkI_ok h (w := fun vs H1 R => ∃ i j : Int, vs = [.int i, .int j] ∧ (-(2 ^ 62) ≤ i ∧ i < 2 ^ 62 ∧ -(2 ^ 62) ≤ j ∧ j < 2 ^ 62) ∧ R (Itr i (j - i).toNat) H1) (fun vs ds es H R h e p q => by
    unfold itR2 at e
    split at e
    · obtain ⟨x, y, F, G, rfl, o1, o2⟩ := h.two
      cases o1; cases o2
      split at e
      · rename_i hj
        cases e
        exact ⟨_, _, rfl, by omega, q _ walkD_r⟩
      · cases e
    · cases e)
end
end Sim
namespace Sim
open PySem PySem.Spec L2
open Sem (wp)
theorem meets_enumerate_newB1 {v : Value} {o : Obj} {H : Heap → Prop} (B : Begins v o H) :
    Meets (Builtin.«enumerate.__new__» ⟨[.type "enumerate", v], []⟩) (fun _ R s => H s.heap ∧
      R (.ok (.ret (.ref (s.heap.push o).objs.size))) { s with heap := (s.heap.push o).push { cls := .type "enumerate", data := .fields #[.none, .bool false, .ref s.heap.objs.size, rawInt 0, .none, .none] } }) :=
  .of_wp fun prog w A R s h => by
    obtain ⟨hp, g, d, tk, os⟩ := s; obtain ⟨h1, h⟩ := h
    have hsub := sub_enumerate
    have q1 : ∀ {A' : Around} {E : Value → Shared → Prop} {Q : Value → Shared → Prop}, Q (.ref hp.objs.size) ⟨hp.push o, g, d, tk, os⟩ → wpAny (model prog w) A' (pyIter v) Q E ⟨hp, g, d, tk, os⟩ :=
      fun q => B.iter prog w _ _ ⟨hp, g, d, tk, os⟩ _ h1 q
    wp_walk using q1
    refine wpAny_stack_any fun st => wpAny_pure ?_
    split
    · rename_i c _ _ _ _ _
      cases (c == Value.type "enumerate")
      · wp_walk using q1
        exact ⟨_, rfl, h⟩
      · wp_walk using q1
        exact ⟨_, rfl, h⟩
    · wp_walk using q1
      exact ⟨_, rfl, h⟩
theorem enum_begins1 {prog : Program} {w : World} {A : Around} {E : Value → Shared → Prop} {s : Shared} {v : Value} {o : Obj} {H : Heap → Prop} {Q : Value → Shared → Prop} (B : Begins v o H) (h1 : H s.heap)
    (h : ∀ h', IsEnum h' (s.heap.objs.size + 1) s.heap.objs.size 0 .none → h'.get? s.heap.objs.size = some o → h'.objs.size = s.heap.objs.size + 2 →
      (∀ b o, s.heap.get? b = some o → h'.get? b = some o) → Q (.ref (s.heap.objs.size + 1)) { s with heap := h' }) :
    wpAny (model prog w) A (call (.type "enumerate") [v]) Q E s := by
  refine callType_new F.called_enumerate (by decide) (F.typeCall_enumerate_1 _) (F.newCall_enumerate_1 _) (fun obj => F.args_object_init_2 obj _) F.entry_enumerate_new
    (meets_enumerate_newB1 B) ⟨h1, ?_⟩
  have hz : (s.heap.push o).objs.size = s.heap.objs.size + 1 := Heap.size_push ..
  show _ ∧ _
  rw [hz]
  have he : IsEnum ((s.heap.push o).push { cls := .type "enumerate", data := .fields #[.none, .bool false, .ref s.heap.objs.size, rawInt 0, .none, .none] }) (s.heap.objs.size + 1) s.heap.objs.size 0 .none := by
    have := Heap.get?_push_size (s.heap.push o) (o := { cls := .type "enumerate", data := .fields #[.none, .bool false, .ref s.heap.objs.size, rawInt 0, .none, .none] }) rfl
    rw [hz] at this; exact this
  refine ⟨⟨_, he, rfl⟩, h _ he (Heap.get?_push_of_some _ (Heap.get?_push_size _ B.free)) (by rw [Heap.size_push, hz]) fun b o x => Heap.get?_push_of_some _ (Heap.get?_push_of_some _ x)⟩
def Sq2 (K : PySem.W.Frag) (H : Hp) (k : Bool) (a : Addr) (xs : List V) : Prop := match k with
  | true => SqL K H a xs
  | false => SqT K H a xs
def SrcH (h : Heap) (k : Bool) (a : Addr) (items : Array Value) : Prop := match k with
  | true => h.IsList a items
  | false => h.IsTuple a items
def ItH (h : Heap) (k : Bool) (it a : Addr) (i : Nat) : Prop := match k with
  | true => h.IsListIter it a i
  | false => h.IsTupleIter it a i
theorem sq2_src {X : Cx} {pins : List (Addr × Obj)} {σ : St} {H : Hp} {s : Shared} {k : Bool} {a : Addr} {xs : List V} (I : Inv X pins σ H s) (h : Sq2 X.K H k a xs) : ∃ its : List Value, Vals xs its ∧ SrcH s.heap k a its.toArray ∧ xs.length ≤ sizeLine := by
  cases k with
  | true =>
    obtain ⟨its, r, p, z⟩ := I.list h
    exact ⟨its, r, p.isList, z⟩
  | false =>
    obtain ⟨its, r, p, z⟩ := I.tuple h
    exact ⟨its, r, p, z⟩
theorem sq2_inj {X : Cx} {pins : List (Addr × Obj)} {σ : St} {H : Hp} {s : Shared} {k : Bool} {a : Addr} {xs ys : List V} (I : Inv X pins σ H s) (h : Sq2 X.K H k a xs) (h2 : Sq2 X.K H k a ys) : xs = ys := by
  cases k with
  | true => exact I.list_inj h h2
  | false => exact I.tuple_inj h h2
theorem itH_obj {h : Heap} {k : Bool} {it a : Addr} {i : Nat} (st : ItH h k it a i) : ∃ o, h.get? it = some o ∧ ∀ v, o.data ≠ .cell v := by
  cases k with
  | true =>
    obtain ⟨o, ho, hc, hd⟩ := st
    exact ⟨o, ho, fun v q => by rw [hd] at q; cases q⟩
  | false =>
    obtain ⟨o, ho, hc, hd⟩ := st
    exact ⟨o, ho, fun v q => by rw [hd] at q; cases q⟩
theorem itH_at {h h' : Heap} {k : Bool} {it a : Addr} {i : Nat} (st : ItH h k it a i) (q : ∀ o, h.get? it = some o → h'.get? it = some o) : ItH h' k it a i := by
  cases k with
  | true => exact Heap.IsListIter.at st q
  | false => exact Heap.IsTupleIter.at st q
theorem itH_lt {h : Heap} {k : Bool} {it a : Addr} {i : Nat} (st : ItH h k it a i) : it < h.objs.size := by
  obtain ⟨o, ho, _⟩ := itH_obj st
  exact Heap.lt_size ho
theorem src_apart {h : Heap} {k k2 : Bool} {it b a : Addr} {i : Nat} {items : Array Value} (st : ItH h k it b i) (ht : SrcH h k2 a items) : a ≠ it := by
  rintro rfl
  have e1 : ∃ o, h.get? a = some o ∧ (o.cls = .type "list_iterator" ∨ o.cls = .type "tuple_iterator") := by
    cases k with
    | true => obtain ⟨o, ho, hc, _⟩ := st; exact ⟨o, ho, .inl hc⟩
    | false => obtain ⟨o, ho, hc, _⟩ := st; exact ⟨o, ho, .inr hc⟩
  have e2 : ∃ o, h.get? a = some o ∧ (o.cls = .type "list" ∨ o.cls = .type "tuple") := by
    cases k2 with
    | true => obtain ⟨o, ho, hc, _⟩ := ht; exact ⟨o, ho, .inl hc⟩
    | false => obtain ⟨o, ho, hc, _⟩ := ht; exact ⟨o, ho, .inr hc⟩
  obtain ⟨o, ho, hc⟩ := e1
  obtain ⟨o', ho', hc'⟩ := e2
  rw [ho] at ho'
  cases ho'
  rcases hc with hc | hc <;> rcases hc' with hc' | hc' <;> rw [hc] at hc' <;> injection hc' with z <;> exact absurd z (by decide)
theorem src_cls {h : Heap} {k : Bool} {a : Addr} {items : Array Value} (ht : SrcH h k a items) {o : Obj} (ho : h.get? a = some o) : o.cls = .type "list" ∨ o.cls = .type "tuple" := by
  cases k with
  | true => obtain ⟨o', ho', hc, _⟩ := ht; rw [ho] at ho'; cases ho'; exact .inl hc
  | false => obtain ⟨o', ho', hc, _⟩ := ht; rw [ho] at ho'; cases ho'; exact .inr hc
theorem draws_src {prog : Program} {w : World} {A : Around} (hh : A.handled = none) (k : Bool) (it a : Addr) (hne : a ≠ it) (items : Array Value) :
    Draws prog w A it [it, a] items.size (fun i v => items[i]? = some v) (fun i h => ItH h k it a i ∧ SrcH h k a items) := by
  cases k with
  | true => exact Draws.list hh it a hne items
  | false => exact Draws.tuple hh it a hne items
theorem begins_src (k : Bool) (a : Addr) (items : Array Value) : ∃ o, Begins (.ref a) o (fun h => SrcH h k a items) ∧ ∀ (h : Heap) (it : Addr), h.get? it = some o → ItH h k it a 0 := by
  cases k with
  | true => exact ⟨_, begins_list a items, fun h it e => ⟨_, e, rfl, rfl⟩⟩
  | false => exact ⟨_, begins_tuple a items, fun h it e => ⟨_, e, rfl, rfl⟩⟩
def IteA (K : PySem.W.Frag) (k : Bool) (a : Addr) : It :=
  ⟨fun i H => ∃ (xs : List V) (x : V), Sq2 K H k a xs ∧ xs[i]? = some x, fun i H v H' => ∃ T o x, v = .ref T ∧ H T = none ∧ o.dict = none ∧ H' = upd H T (.frz o (.tup [.int (i : Nat), x])) ∧ ∀ xs, Sq2 K H k a xs → xs[i]? = some x, fun i H => ∃ xs : List V, Sq2 K H k a xs ∧ xs.length = i⟩
theorem enum_apart {h : Heap} {k : Bool} {e a : Addr} {i : Addr} {c : Int} {old : Value} {items : Array Value} (he : IsEnum h e i c old) (ht : SrcH h k a items) : e ≠ a := by
  rintro rfl
  have he' : h.get? e = some _ := he
  rcases src_cls ht he' with z | z <;> injection z with z <;> exact absurd z (by decide)
theorem turn_enumA {P : Program} {w : World} {K : PySem.W.Frag} {elts : List Expr} {kk : Nat} {tpos : Pos} (k : Bool) (a e it : Addr) :
    Turn P w K (.Tuple elts kk tpos) (IteA K k a) [e, it] e (fun i h => (∃ old, IsEnum h e it ((i : Nat) : Int) old) ∧ ItH h k it a i ∧ e ≠ it) where
  mem := by simp
  obj := fun i h st b hb => by
    obtain ⟨⟨old, he⟩, hi, _⟩ := st
    have e' : b = e ∨ b = it := by simpa using hb
    rcases e' with z | z
    · rw [z]; exact ⟨_, he, fun v q => nomatch q⟩
    · rw [z]; exact itH_obj hi
  keep := fun i h h' st k => let ⟨⟨old, he⟩, hi, hne⟩ := st; ⟨⟨old, k e (by simp) _ he⟩, itH_at hi fun o q => k it (by simp) o q, hne⟩
  item := by
    intro X hP hw hK hc i pins s σ H E I hf st hg
    subst hP hw hK
    obtain ⟨⟨old, he⟩, hit, hne⟩ := st
    obtain ⟨xs, x, hq, hx⟩ := hg
    obtain ⟨its, rv, ht, hz⟩ := sq2_src I hq
    obtain ⟨u, hu, ru⟩ := rv.get hx
    have hel : e < s.heap.objs.size := Heap.lt_size he
    have hil := itH_lt hit
    have hai := src_apart hit ht
    have hea := enum_apart he ht
    have hh : X.A.in1.handled = none := I.ok.hd hc
    have hlt : i < its.toArray.size := by
      have := (List.getElem?_eq_some_iff.mp hu).1
      simpa using this
    refine wpAny_pyNext_enum_itemC (draws_src hh k it a hai its.toArray) he ⟨hit, ht⟩ hlt hne (by simp [hne, hea]) fun x' h' tk hP ho hst hT hsz hk => ?_
    have hxu : x' = u := by
      have q : its.toArray[i]? = some u := by simpa using hu
      rw [q] at hP
      exact (Option.some.inj hP).symm
    subst hxu
    refine ⟨_, rfl, wpAny_letOwnedTupleGo_enum (s := { s with heap := h', toks := tk + 1 }) ho fun h'' he' sb => ?_⟩
    have hT2 : h''.get? s.heap.objs.size = some { cls := .type "tuple", data := .seq #[.int i tk, x'] } := (sb.2 _ (Nat.ne_of_gt hel)).trans hT
    have new : ObjOk X.prog X.w (upd H s.heap.objs.size (.frz { cls := .type "tuple", data := .seq #[.int i tk, x'] } (.tup [.int (i : Nat), x]))) h'' s.heap.objs.size (.frz { cls := .type "tuple", data := .seq #[.int i tk, x'] } (.tup [.int (i : Nat), x])) :=
      ⟨hT2, by show 2 ≤ sizeLine; decide, [.int i tk, x'], .cons ⟨_, rfl⟩ (.cons ru .nil), ⟨_, hT2, rfl, _, rfl⟩⟩
    have I1 : Inv X pins σ (upd H s.heap.objs.size (.frz { cls := .type "tuple", data := .seq #[.int i tk, x'] } (.tup [.int (i : Nat), x]))) { s with heap := h'', toks := tk + 1 } :=
      I.turnedNew (ch := [e, it]) (fun b ob hb q => (sb.2 b (fun z => hb (by simp [z]))).trans (hk b ob (fun z => hb (by simp [z])) (fun z => hb (by simp [z])) q)) hf (Nat.le_refl _) new
    refine ⟨.ref s.heap.objs.size, _, I1, rfl, ⟨_, _, x, rfl, I.hok.fresh (Nat.le_refl _), rfl, rfl, fun ys hy => by rw [sq2_inj I hy hq]; exact hx⟩, ⟨⟨x', ?_⟩, itH_at hst.1 fun o q => (sb.2 it (Ne.symm hne)).trans q, hne⟩, fun b hb => ?_⟩
    · have e1 : ((i + 1 : Nat) : Int) = (i : Int) + 1 := by omega
      rw [e1]; exact he'
    · have hb' : b < s.heap.objs.size := by
        have e' : b = e ∨ b = it := by simpa using hb
        rcases e' with z | z
        · rw [z]; exact hel
        · rw [z]; exact hil
      rw [upd_ne (Nat.ne_of_lt hb')]
      exact (hf b hb).1
  done := by
    intro X hP hw hK hc i pins s σ H E I hf st hg
    subst hP hw hK
    obtain ⟨⟨old, he⟩, hit, hne⟩ := st
    obtain ⟨xs, hq, hx⟩ := hg
    obtain ⟨its, rv, ht, hz⟩ := sq2_src I hq
    obtain ⟨f0, f1, f2, f3, f4, f5⟩ := hf it (by simp)
    have hl := rv.length
    have hai := src_apart hit ht
    have hh : X.A.in1.handled = none := I.ok.hd hc
    have hi : i = its.toArray.size := by rw [List.size_toArray]; omega
    subst hi
    exact wpAny_pyNext_enum_endD (draws_src hh k it a hai its.toArray) he ⟨hit, ht⟩ fun h' eb => ⟨rfl, I.turned (t' := s.toks) (fun b o hb q => eb b o hb q) f0 f1 f3 f4 f5⟩
  self := fun A i s Q E st h => let ⟨⟨_, he⟩, _⟩ := st; wpAny_pyIter_enum he h
def iEnumA (K : PySem.W.Frag) (ta : TA) : TI := fun σ H R => ta σ H fun vs H1 => ∃ k a xs, vs = [.ref a] ∧ Sq2 K H1 k a xs ∧ R (IteA K k a) H1
theorem pi_enumA {X : Cx} {e : Expr} {ta : TA} {p pos tpos : Pos} {elts : List Expr} {kk : Nat} (hg : Gl X "enumerate") (hm : X.mg "enumerate" = none) (ha : PA X [e] ta) (hs : starEach [e] X.env = [(false, eval e X.env)] := by rfl) :
    PI X (.Tuple elts kk tpos) (.Call (.Name "enumerate" p) [e] [] pos) (iEnumA X.K ta) := by
  refine ⟨fun pins s σ H R I h => ?_⟩
  refine PyProof.Rows.Call_ (ld_blt I hg hm PyProof.Rows.boot_enumerate (PyProof.Rows.callWith_type1 (thn (ha.run pos pins s σ H _ I h) fun us s1 ⟨vs, H1, I1, r1, q1⟩ => ?_) hs rfl))
  obtain ⟨k, a, xs, ex, hq, q⟩ := q1
  subst ex
  cases r1 with
  | cons r rr =>
    cases rr
    cases r
    have fin : ∀ b, b ∈ [s1.heap.objs.size + 1, s1.heap.objs.size] → FpOk X pins H1 b := fun b hb => by
      have e' : b = s1.heap.objs.size + 1 ∨ b = s1.heap.objs.size := by simpa using hb
      have hle : s1.heap.objs.size ≤ b := by
        rcases e' with z | z
        · rw [z]; exact Nat.le_add_right _ _
        · rw [z]; exact Nat.le_refl _
      exact I1.fpOk hle (I1.hok.fresh hle)
    obtain ⟨its, rv, ht, hz⟩ := sq2_src I1 hq
    obtain ⟨o, B, hB⟩ := begins_src k a its.toArray
    refine enum_begins1 B ht fun h' he hit hsz hk => wpAny_pyIter_enum he ?_
    have I2 : Inv X pins σ H1 { s1 with heap := h' } := I1.kept (t' := s1.toks) hk
    exact ⟨s1.heap.objs.size + 1, [s1.heap.objs.size + 1, s1.heap.objs.size], _, _, H1, rfl, I2, turn_enumA k a (s1.heap.objs.size + 1) s1.heap.objs.size, ⟨⟨.none, he⟩, hB _ _ hit, Nat.succ_ne_self _⟩, fin, q⟩
def ItzA (K : PySem.W.Frag) (k l : Bool) (a b : Addr) : It :=
  ⟨fun i H => ∃ (xs ys : List V) (x y : V), Sq2 K H k a xs ∧ Sq2 K H l b ys ∧ xs[i]? = some x ∧ ys[i]? = some y,
    fun i H v H' => ∃ T o x y, v = .ref T ∧ H T = none ∧ o.dict = none ∧ H' = upd H T (.frz o (.tup [x, y])) ∧ (∀ xs, Sq2 K H k a xs → xs[i]? = some x) ∧ ∀ ys, Sq2 K H l b ys → ys[i]? = some y,
    fun i H => ∃ xs ys : List V, Sq2 K H k a xs ∧ Sq2 K H l b ys ∧ i = min xs.length ys.length⟩
def ZSt (h : Heap) (k l : Bool) (z TI TO i1 i2 a b : Addr) (f0 : Value) (i : Nat) : Prop :=
  IsZip h z TI TO f0 ∧ IsTupOf2 h TI (.ref i1) (.ref i2) ∧ (∃ x y, IsTupOf2 h TO x y) ∧ ItH h k i1 a i ∧ ItH h l i2 b i
structure ZAp (z TI TO i1 i2 : Addr) : Prop where
  TIz : TI ≠ z
  TOz : TO ≠ z
  TITO : TI ≠ TO
  TIi1 : TI ≠ i1
  TIi2 : TI ≠ i2
  zi1 : z ≠ i1
  zi2 : z ≠ i2
  Ti1 : TO ≠ i1
  Ti2 : TO ≠ i2
  ii : i1 ≠ i2
theorem zap (n : Nat) : ZAp (n + 4) (n + 2) (n + 3) n (n + 1) := by
  constructor <;> (intro e; have e' : (_ : Nat) = _ := e; omega)
theorem zsep {h : Heap} {k l : Bool} {z TI TO i1 i2 a b : Addr} {f0 : Value} {i : Nat} {xs ys : Array Value} (D : ZAp z TI TO i1 i2) (st : ZSt h k l z TI TO i1 i2 a b f0 i) (h1 : SrcH h k a xs) (h2 : SrcH h l b ys) (hTO : TO ≠ a ∧ TO ≠ b) : ZipSep2 z TI TO i1 i2 [i1, a] [i2, b] := by
  have hz : h.get? z = some _ := st.1
  have za : ∀ {k a} {xs : Array Value}, SrcH h k a xs → z ≠ a := fun {k a xs} hh e => by
    subst e
    rcases src_cls hh hz with w | w <;> injection w with w <;> exact absurd w (by decide)
  have ia := src_apart st.2.2.2.1 h2
  have ib := src_apart st.2.2.2.2 h1
  exact ⟨D.TIz, D.TOz, D.TITO, D.TIi1, by simp, by simp [D.zi1, za h1], by simp [D.Ti1, hTO.1], D.TIi2, by simp, by simp [D.zi2, za h2], by simp [D.Ti2, hTO.2], by simp [D.ii, ia.symm], by simp [D.ii.symm, ib.symm]⟩
/-- the source's place isn't the iterator's own -/
theorem src_ne {X : Cx} {pins : List (Addr × Obj)} {H : Hp} {k : Bool} {a : Addr} {xs : List V} {T : Addr} (hf : FpOk X pins H T) (hq : Sq2 X.K H k a xs) {s : Shared} {σ : St} (I : Inv X pins σ H s) : T ≠ a := by
  rintro rfl
  have n := hf.1
  have key : ∀ {u : HO}, ¬ Rd H T u := fun {u} r => by
    rcases r with r | ⟨o, r⟩
    · rw [n] at r; cases r
    · rw [n] at r; cases r
  have kk : ∀ {o : Obj}, X.K.lookup T = some o → False := fun {o} hk => by
    have e1 : X.base.get? T = some o := I.ok.mod.kin T o hk
    have e2 := Heap.lt_size e1
    rcases hf.2.2.2.1 with z | z
    · exact I.ok.noex T o e1 z
    · exact absurd (Nat.lt_of_lt_of_le e2 (Nat.le_trans I.ok.bsz z)) (Nat.lt_irrefl _)
  cases k with
  | true =>
    rcases hq with r | ⟨o, _, _, hk, _⟩
    · exact key r
    · exact kk hk
  | false =>
    rcases hq with r | ⟨o, _, _, hk, _⟩
    · exact key r
    · exact kk hk
theorem turn_zipA {P : Program} {w : World} {K : PySem.W.Frag} {elts : List Expr} {kk : Nat} {tpos : Pos} (k l : Bool) {z TI TO i1 i2 : Addr} (a b : Addr) (D : ZAp z TI TO i1 i2) :
    Turn P w K (.Tuple elts kk tpos) (ItzA K k l a b) [z, TI, TO, i1, i2] z (fun i h => ZSt h k l z TI TO i1 i2 a b .none i) where
  mem := by simp
  obj := fun i h st c hc => by
    obtain ⟨hz, hTI, ⟨x, y, hTO⟩, h1, h2⟩ := st
    have e' : c = z ∨ c = TI ∨ c = TO ∨ c = i1 ∨ c = i2 := by simpa using hc
    rcases e' with q | q | q | q | q
    · rw [q]; exact ⟨_, hz, fun v q => nomatch q⟩
    · rw [q]; exact ⟨_, hTI, fun v q => nomatch q⟩
    · rw [q]; exact ⟨_, hTO, fun v q => nomatch q⟩
    · rw [q]; exact itH_obj h1
    · rw [q]; exact itH_obj h2
  keep := fun i h h' st k => by
    obtain ⟨hz, hTI, ⟨x, y, hTO⟩, h1, h2⟩ := st
    exact ⟨k z (by simp) _ hz, k TI (by simp) _ hTI, ⟨x, y, k TO (by simp) _ hTO⟩, itH_at h1 fun o q => k i1 (by simp) o q, itH_at h2 fun o q => k i2 (by simp) o q⟩
  item := by
    intro X hP hw hK hc i pins s σ H E I hf st hg
    subst hP hw hK
    obtain ⟨xs, ys, x, y, hqx, hqy, hx, hy⟩ := hg
    obtain ⟨its, rv, p, _⟩ := sq2_src I hqx
    obtain ⟨its2, rv2, p2, _⟩ := sq2_src I hqy
    obtain ⟨u, hu, ru⟩ := rv.get hx
    obtain ⟨u2, hu2, ru2⟩ := rv2.get hy
    have S := zsep D st p p2 ⟨src_ne (hf TO (by simp)) hqx I, src_ne (hf TO (by simp)) hqy I⟩
    obtain ⟨hz, hTI, ⟨x0, y0, hTO⟩, h1, h2⟩ := st
    have hzl : z < s.heap.objs.size := Heap.lt_size hz
    have hh : X.A.in1.handled = none := I.ok.hd hc
    have lt1 : i < its.toArray.size := by have := (List.getElem?_eq_some_iff.mp hu).1; simpa using this
    have lt2 : i < its2.toArray.size := by have := (List.getElem?_eq_some_iff.mp hu2).1; simpa using this
    refine wpAny_pyNext_zipD2_item S (draws_src hh k i1 a (src_apart h1 p) its.toArray) (draws_src hh l i2 b (src_apart h2 p2) its2.toArray) hz hTI hTO ⟨h1, p⟩ ⟨h2, p2⟩ lt1 lt2 fun v1 v2 h' tk q1 q2 z' TO' st1 st2 hT hsz hk => ?_
    have e1 : v1 = u := by
      have q : its.toArray[i]? = some u := by simpa using hu
      rw [q] at q1; exact (Option.some.inj q1).symm
    have e2 : v2 = u2 := by
      have q : its2.toArray[i]? = some u2 := by simpa using hu2
      rw [q] at q2; exact (Option.some.inj q2).symm
    subst e1 e2
    refine ⟨_, rfl, wpAny_letOwnedTupleGo_zip (s := { s with heap := h', toks := tk }) z' fun h'' z'' sb => ?_⟩
    have hT2 : h''.get? s.heap.objs.size = some { cls := .type "tuple", data := .seq #[v1, v2] } := (sb.2 _ (Nat.ne_of_gt hzl)).trans hT
    have new : ObjOk X.prog X.w (upd H s.heap.objs.size (.frz { cls := .type "tuple", data := .seq #[v1, v2] } (.tup [x, y]))) h'' s.heap.objs.size (.frz { cls := .type "tuple", data := .seq #[v1, v2] } (.tup [x, y])) :=
      ⟨hT2, by show 2 ≤ sizeLine; decide, [v1, v2], .cons ru (.cons ru2 .nil), ⟨_, hT2, rfl, _, rfl⟩⟩
    have I1 : Inv X pins σ (upd H s.heap.objs.size (.frz { cls := .type "tuple", data := .seq #[v1, v2] } (.tup [x, y]))) { s with heap := h'', toks := tk } :=
      I.turnedNew (ch := [z, TI, TO, i1, i2]) (fun c o hb q => (sb.2 c (fun q' => hb (by simp [q']))).trans (hk c o (fun q' => hb (by simp [q'])) (fun q' => hb (by simp [q'])) (fun q' => hb (by simp [q'])) (fun q' => hb (by simp [q'])) q)) hf (Nat.le_refl _) new
    refine ⟨.ref s.heap.objs.size, _, I1, rfl, ⟨_, _, x, y, rfl, I.hok.fresh (Nat.le_refl _), rfl, rfl, fun l hl => by rw [sq2_inj I hl hqx]; exact hx, fun l hl => by rw [sq2_inj I hl hqy]; exact hy⟩, ⟨z'', ?_, ⟨v1, v2, ?_⟩, ?_, ?_⟩, fun c hcm => ?_⟩
    · exact (sb.2 _ D.TIz).trans (hk _ _ D.TIz D.TITO D.TIi1 D.TIi2 hTI)
    · exact (sb.2 _ D.TOz).trans TO'
    · exact itH_at st1.1 fun o q => (sb.2 _ D.zi1.symm).trans q
    · exact itH_at st2.1 fun o q => (sb.2 _ D.zi2.symm).trans q
    · have hlt : c < s.heap.objs.size := by
        have e' : c = z ∨ c = TI ∨ c = TO ∨ c = i1 ∨ c = i2 := by simpa using hcm
        rcases e' with q | q | q | q | q
        · rw [q]; exact hzl
        · rw [q]; exact Heap.lt_size hTI
        · rw [q]; exact Heap.lt_size hTO
        · rw [q]; exact itH_lt h1
        · rw [q]; exact itH_lt h2
      rw [upd_ne (Nat.ne_of_lt hlt)]
      exact (hf c hcm).1
  done := by
    intro X hP hw hK hc i pins s σ H E I hf st hg
    subst hP hw hK
    obtain ⟨xs, ys, hqx, hqy, hend⟩ := hg
    obtain ⟨its, rv, p, _⟩ := sq2_src I hqx
    obtain ⟨its2, rv2, p2, _⟩ := sq2_src I hqy
    have S := zsep D st p p2 ⟨src_ne (hf TO (by simp)) hqx I, src_ne (hf TO (by simp)) hqy I⟩
    obtain ⟨hz, hTI, ⟨x0, y0, hTO⟩, h1, h2⟩ := st
    have hh : X.A.in1.handled = none := I.ok.hd hc
    have l1 := rv.length
    have l2 := rv2.length
    exact wpAny_pyNext_zipD2_end S (draws_src hh k i1 a (src_apart h1 p) its.toArray) (draws_src hh l i2 b (src_apart h2 p2) its2.toArray) hz hTI hTO ⟨h1, p⟩ ⟨h2, p2⟩ (by simp; omega) (by simp; omega) (by simp; omega)
      fun h' tk hk => ⟨rfl, I.turnedL (t' := tk) (ch := [z, TI, TO, i1, i2]) (fun c o hb q => hk c o (fun q' => hb (by simp [q'])) (fun q' => hb (by simp [q'])) (fun q' => hb (by simp [q'])) (fun q' => hb (by simp [q'])) q) hf⟩
  self := fun A i s Q E st h => wpAny_pyIter_zip st.1 h
def iZipA (K : PySem.W.Frag) (ta : TA) : TI := fun σ H R => ta σ H fun vs H1 => ∃ k l a b xs ys, vs = [.ref a, .ref b] ∧ Sq2 K H1 k a xs ∧ Sq2 K H1 l b ys ∧ R (ItzA K k l a b) H1
theorem pi_zipA {X : Cx} {e e2 : Expr} {ta : TA} {p pos tpos : Pos} {elts : List Expr} {kk : Nat} (hg : Gl X "zip") (hm : X.mg "zip" = none) (ha : PA X [e, e2] ta)
    (hs : starEach [e, e2] X.env = (false, eval e X.env) :: starEach [e2] X.env := by rfl) (hpl : (backTo pos (starEach [e2] X.env)).any (·.1) = false := by rfl) :
    PI X (.Tuple elts kk tpos) (.Call (.Name "zip" p) [e, e2] [] pos) (iZipA X.K ta) := by
  refine ⟨fun pins s σ H R I h => ?_⟩
  refine PyProof.Rows.Call_ (ld_blt I hg hm PyProof.Rows.boot_zip (PyProof.Rows.callWith_type1 (thn (ha.run pos pins s σ H _ I h) fun us s1 ⟨vs, H1, I1, r1, q1⟩ => ?_) hs hpl))
  obtain ⟨k, l, a, b, xs, ys, ex, hqx, hqy, q⟩ := q1
  subst ex
  cases r1 with
  | cons r rr =>
    cases rr with
    | cons r' rr =>
      cases rr
      cases r
      cases r'
      have fresh5 : ∀ c, c ∈ [s1.heap.objs.size + 4, s1.heap.objs.size + 2, s1.heap.objs.size + 3, s1.heap.objs.size, s1.heap.objs.size + 1] → FpOk X pins H1 c := fun c hcm => by
        have e' : c = s1.heap.objs.size + 4 ∨ c = s1.heap.objs.size + 2 ∨ c = s1.heap.objs.size + 3 ∨ c = s1.heap.objs.size ∨ c = s1.heap.objs.size + 1 := by simpa using hcm
        have hle : s1.heap.objs.size ≤ c := by omega
        exact I1.fpOk hle (I1.hok.fresh hle)
      obtain ⟨its, rv, p1, _⟩ := sq2_src I1 hqx
      obtain ⟨its2, rv2, p2, _⟩ := sq2_src I1 hqy
      obtain ⟨o1, B1, hB1⟩ := begins_src k a its.toArray
      obtain ⟨o2, B2, hB2⟩ := begins_src l b its2.toArray
      refine zip_begins2 B1 B2 p1 p2 fun h' hz hTI hTO h1 h2 hsz hk => wpAny_pyIter_zip hz ?_
      have I2 : Inv X pins σ H1 { s1 with heap := h' } := I1.kept (t' := s1.toks) hk
      exact ⟨s1.heap.objs.size + 4, [s1.heap.objs.size + 4, s1.heap.objs.size + 2, s1.heap.objs.size + 3, s1.heap.objs.size, s1.heap.objs.size + 1], _, _, H1, rfl, I2,
        turn_zipA k l a b (zap s1.heap.objs.size), ⟨hz, hTI, ⟨_, _, hTO⟩, hB1 _ _ h1, hB2 _ _ h2⟩, fresh5, q⟩
def enumD : Nat → List D → List D
  | _, [] => []
  | n, d :: ds => .tuple [.int (n : Int), d] :: enumD (n + 1) ds
def zipD : List D → List D → List D
  | d :: ds, e :: es => .tuple [d, e] :: zipD ds es
  | _, _ => []
def itE : List D → Option (List D)
  | [.list ds] => some (enumD 0 ds)
  | [.tuple ds] => some (enumD 0 ds)
  | [.dict [(.none, .list ds)]] => some (enumD 0 ds)
  | _ => none
def itZ : List D → Option (List D)
  | [.list ds, .list es] => some (zipD ds es)
  | [.tuple ds, .tuple es] => some (zipD ds es)
  | [.list ds, .tuple es] => some (zipD ds es)
  | [.tuple ds, .list es] => some (zipD ds es)
  | _ => none
theorem enumD_len : ∀ (n : Nat) (ds : List D), (enumD n ds).length = ds.length
  | _, [] => rfl
  | n, _ :: ds => by rw [enumD, List.length_cons, List.length_cons, enumD_len (n + 1) ds]
theorem enumD_get : ∀ (n : Nat) (ds : List D) (i : Nat) (d : D), ds[i]? = some d → (enumD n ds)[i]? = some (.tuple [.int ((n + i : Nat) : Int), d])
  | _, [], _, _, h => by simp at h
  | n, x :: ds, 0, d, h => by simp at h; subst h; rfl
  | n, x :: ds, i + 1, d, h => by
    have := enumD_get (n + 1) ds i d (by simpa using h)
    rw [enumD, List.getElem?_cons_succ, this]
    congr 5
    omega
theorem enumD_purs : ∀ (n : Nat) (ds : List D), purs (enumD n ds) = purs ds
  | _, [] => rfl
  | n, d :: ds => by simp [enumD, purs, pur, enumD_purs (n + 1) ds]
theorem zipD_len : ∀ (ds es : List D), (zipD ds es).length = min ds.length es.length
  | [], _ => by simp [zipD]
  | _ :: _, [] => by simp [zipD]
  | _ :: ds, _ :: es => by simp [zipD, zipD_len ds es]
theorem zipD_get : ∀ (ds es : List D) (i : Nat) (d e : D), ds[i]? = some d → es[i]? = some e → (zipD ds es)[i]? = some (.tuple [d, e])
  | [], _, _, _, _, h, _ => by simp at h
  | _ :: _, [], _, _, _, _, h => by simp at h
  | x :: ds, y :: es, 0, d, e, h, h2 => by simp at h h2; subst h; subst h2; rfl
  | x :: ds, y :: es, i + 1, d, e, h, h2 => by
    rw [zipD, List.getElem?_cons_succ]
    exact zipD_get ds es i d e (by simpa using h) (by simpa using h2)
section
variable [Tb] [Vs] {X : Cx} {K : PySem.W.Frag}
theorem pair_own {H H' : Hp} {T : Addr} {ob : Obj} {x y : V} {d e : D} (hT : H T = none) (hn : ob.dict = none) (hH : H' = upd H T (.frz ob (.tup [x, y]))) (o1 : Own K H d x []) (o2 : Own K H e y []) : Same H H' ∧ Own K H' (.tuple [d, e]) (.ref T) [] := by
  subst hH
  have sm : Same H (upd H T (.frz ob (.tup [x, y]))) := same_new hT
  exact ⟨sm, .tup (SqD.of upd_same hn) (.cons0 (o1.same sm) (.cons0 (o2.same sm) .nil))⟩
theorem purs_zip {ds es : List D} : ∀ {i : Nat} {d e : D}, purs (zipD ds es) = true → ds[i]? = some d → es[i]? = some e → pur d = true ∧ pur e = true := fun {i d e} p h1 h2 => by
  have := purs_get p (zipD_get ds es i d e h1 h2)
  simpa [pur, purs] using this
theorem walkD_e {k : Bool} {a : Addr} {ds : List D} {G : Hp → Prop} (p : purs ds = true) (h : ∀ H, G H → ∃ xs F, Sq2 K H k a xs ∧ OwnA K H ds xs F) : WalkD K (IteA K k a) G (enumD 0 ds) := by
  refine ⟨fun i H hi g => ?_, fun H g => ?_, fun i H x H' hi g y => ?_⟩
  · obtain ⟨xs, F, hq, t⟩ := h H g
    have hl := t.len
    rw [enumD_len] at hi
    exact ⟨xs, xs[i]'(by omega), hq, List.getElem?_eq_getElem _⟩
  · obtain ⟨xs, F, hq, t⟩ := h H g
    have hl := t.len
    rw [enumD_len]
    exact ⟨xs, hq, by omega⟩
  · obtain ⟨xs, F, hq, t⟩ := h H g
    obtain ⟨T, ob, x', rfl, hT, hn, hH, y⟩ := y
    obtain ⟨d, hd, o⟩ := t.at p (y xs hq)
    obtain ⟨sm, o2⟩ := pair_own hT hn hH (.int (i : Nat)) o
    exact ⟨_, by rw [enumD_get 0 ds i d hd, Nat.zero_add], sm, o2⟩
theorem si_enum {e : Expr} {ga : O} {p pos tpos : Pos} {elts : List Expr} {kk : Nat} (hg : Gl X "enumerate") (hm : X.mg "enumerate" = none) (ha : SimA X [e] (aCons ga aNil)) (hs : starEach [e] X.env = [(false, eval e X.env)] := by rfl) :
    SimI X (.Tuple elts kk tpos) (.Call (.Name "enumerate" p) [e] [] pos) (mkI itE (aCons ga aNil)) := by
  refine pi_imp (pi_enumA hg hm ha hs) fun σ H R h => ?_
  exact mkI_ok h (w := fun vs H1 R => ∃ k a xs, vs = [.ref a] ∧ Sq2 X.K H1 k a xs ∧ R (IteA X.K k a) H1) (fun vs ds es H R h e p q => by
    unfold itE at e
    split at e
    · cases e
      rw [enumD_purs] at p
      obtain ⟨x, F, rfl, o⟩ := h.one
      cases o with
      | lst h1 t n => exact ⟨true, _, _, rfl, SqL.of h1, q _ (walkD_e p fun H2 g => rd_list g)⟩
    · cases e
      rw [enumD_purs] at p
      obtain ⟨x, F, rfl, o⟩ := h.one
      cases o with
      | tup h1 t => exact ⟨false, _, _, rfl, h1.sq, q _ (walkD_e p fun H2 g => rd_tup g)⟩
    · cases e
      rw [enumD_purs] at p
      obtain ⟨x, F, rfl, o⟩ := h.one
      cases o with
      | frz h1 t => exact ⟨true, _, _, rfl, h1.sq, q _ (walkD_e p fun H2 g => rd_frz g)⟩
    · cases e)
/-- a list or a tuple, told -/
def seqD : Bool → List D → D
  | true, ds => .list ds
  | false, ds => .tuple ds
theorem rd_seq {H : Hp} {k : Bool} {ds : List D} {v : V} {F : List Addr} (o : Own K H (seqD k ds) v F) : ∃ a xs G, v = .ref a ∧ Sq2 K H k a xs ∧ OwnA K H ds xs G := by
  cases k with
  | true =>
    obtain ⟨l, vs, F', rfl, _, hl, t, _⟩ := own_list o
    exact ⟨l, vs, F', rfl, SqL.of hl, t⟩
  | false =>
    obtain ⟨a, vs, rfl, hq, t⟩ := own_tup o
    exact ⟨a, vs, _, rfl, hq, t⟩
theorem OwnA.at0 {H : Hp} {ds : List D} {vs : List V} {F : List Addr} (t : OwnA K H ds vs F) {i : Nat} {x : V} (e : vs[i]? = some x) : ∃ d G, ds[i]? = some d ∧ Own K H d x G := by
  have hl := t.len
  have hi : i < ds.length := by rw [← hl]; exact (List.getElem?_eq_some_iff.mp e).1
  obtain ⟨v, G, hv, o, _⟩ := t.get i ds[i] (List.getElem?_eq_getElem hi)
  rw [e] at hv
  cases hv
  exact ⟨_, _, List.getElem?_eq_getElem hi, o⟩
theorem rd2_seq {H : Hp} {k l : Bool} {a b : Addr} {ds es : List D} (h : RdA K H [.ref a, .ref b] [seqD k ds, seqD l es]) : ∃ xs ys F G, Sq2 K H k a xs ∧ OwnA K H ds xs F ∧ Sq2 K H l b ys ∧ OwnA K H es ys G := by
  obtain ⟨x, y, F, G, e, o1, o2⟩ := h.two
  cases e
  obtain ⟨a', xs, G1, e1, h1, t1⟩ := rd_seq o1
  obtain ⟨b', ys, G2, e2, h2, t2⟩ := rd_seq o2
  cases e1
  cases e2
  exact ⟨_, _, _, _, h1, t1, h2, t2⟩
theorem walkD_z {k l : Bool} {a b : Addr} {ds es : List D} (p : purs (zipD ds es) = true) : WalkD K (ItzA K k l a b) (fun H2 => RdA K H2 [.ref a, .ref b] [seqD k ds, seqD l es]) (zipD ds es) := by
  refine ⟨fun i H hi g => ?_, fun H g => ?_, fun i H x H' hi g y => ?_⟩
  · obtain ⟨xs, ys, F, G, hq, t, hq2, t2⟩ := rd2_seq g
    have hl := t.len
    have hl2 := t2.len
    rw [zipD_len] at hi
    exact ⟨xs, ys, xs[i]'(by omega), ys[i]'(by omega), hq, hq2, List.getElem?_eq_getElem _, List.getElem?_eq_getElem _⟩
  · obtain ⟨xs, ys, F, G, hq, t, hq2, t2⟩ := rd2_seq g
    have hl := t.len
    have hl2 := t2.len
    rw [zipD_len]
    exact ⟨xs, ys, hq, hq2, by omega⟩
  · obtain ⟨xs, ys, F, G, hq, t, hq2, t2⟩ := rd2_seq g
    obtain ⟨T, ob, x', y', rfl, hT, hn, hH, y1, y2⟩ := y
    obtain ⟨d, F1, hd, o1⟩ := t.at0 (y1 xs hq)
    obtain ⟨e, F2, he, o2⟩ := t2.at0 (y2 ys hq2)
    obtain ⟨p1, p2⟩ := purs_zip p hd he
    rw [o1.pur p1] at o1
    rw [o2.pur p2] at o2
    obtain ⟨sm, o3⟩ := pair_own hT hn hH o1 o2
    exact ⟨_, zipD_get ds es i d e hd he, sm, o3⟩
theorem itZ_inv {ds : List D} {es : List D} (h : itZ ds = some es) : ∃ k l xs ys, ds = [seqD k xs, seqD l ys] ∧ es = zipD xs ys := by
  unfold itZ at h
  split at h
  · cases h; exact ⟨true, true, _, _, rfl, rfl⟩
  · cases h; exact ⟨false, false, _, _, rfl, rfl⟩
  · cases h; exact ⟨true, false, _, _, rfl, rfl⟩
  · cases h; exact ⟨false, true, _, _, rfl, rfl⟩
  · cases h
theorem wZ_ok : ∀ (vs : List V) (ds es : List D) (H : Hp) (R : It → Hp → Prop), RdA K H vs ds → itZ ds = some es → purs es = true → (∀ J, WalkD K J (fun H2 => RdA K H2 vs ds) es → R J H) →
    ∃ k l a b xs ys, vs = [.ref a, .ref b] ∧ Sq2 K H k a xs ∧ Sq2 K H l b ys ∧ R (ItzA K k l a b) H := by
  intro vs ds es H R h e p q
  obtain ⟨k, l, xs, ys, rfl, rfl⟩ := itZ_inv e
  obtain ⟨x, y, F, G, rfl, o1, o2⟩ := h.two
  obtain ⟨a, xs', G1, rfl, h1, t1⟩ := rd_seq o1
  obtain ⟨b, ys', G2, rfl, h2, t2⟩ := rd_seq o2
  exact ⟨k, l, a, b, xs', ys', rfl, h1, h2, q _ (walkD_z p)⟩
theorem si_zip {e e2 : Expr} {g : AL} {p pos tpos : Pos} {elts : List Expr} {kk : Nat} (hg : Gl X "zip") (hm : X.mg "zip" = none) (ha : SimA X [e, e2] g)
    (hs : starEach [e, e2] X.env = (false, eval e X.env) :: starEach [e2] X.env := by rfl) (hpl : (backTo pos (starEach [e2] X.env)).any (·.1) = false := by rfl) :
    SimI X (.Tuple elts kk tpos) (.Call (.Name "zip" p) [e, e2] [] pos) (mkI itZ g) :=
  pi_imp (pi_zipA hg hm ha hs hpl) fun σ H R h => mkI_ok h wZ_ok
end
end Sim
namespace Sim
open PySem PySem.Spec L2
def loopS (t : Tg) (g : S) : List D → S
  | [] => fun s => .ok .nx s
  | d :: ds => fun s => match asg t d s with
    | none => .bad
    | some s1 => (g s1).bind fun fl s2 => match fl with
      | .nx => loopS t g ds s2
      | .ct => loopS t g ds s2
      | .bk => .ok .nx s2
      | .rt d => .ok (.rt d) s2
def sFor (lk' : Nat → Bool) (it : I) (t : Tg) (g : S) : S := fun s => (it s).bind fun p s1 =>
  if (p.2.all fun q => lk' q.1) = true then (loopS t g p.1 s1).bind fun fl s2 => .ok fl (unlockS p.2 s2) else .bad
section
variable [Tb] [Vs] {X : Cx} {lk lk' : Nat → Bool} {pos : Pos} {K : PySem.W.Frag}
/-- the closed slots are opened again -/
theorem finish {H0 H1 Hc : Hp} {s1 sc : Sg} {σ σc : St} {Fs0 Fs1 Fsc : Fp} {l : List (Nat × D)} {Gl : List (List Addr)} (E01 : Ev H0 Fs0 H1 Fs1) (hd : Hid K H1 σ Fs1 l Gl) (fr : From H0 Fs0 l Gl)
    (R : RelS K Hc sc σc Fsc) (E : Ev H1 Fs1 Hc Fsc) (L : ∀ p, p ∈ l → σc[p.1]? = σ[p.1]?) :
    ∃ Fs', RelS K Hc (unlockS l sc) σc Fs' ∧ Ev H0 Fs0 Hc Fs' ∧ ∀ j a, a ∈ Fs' j → a ∈ Fsc j ∨ ((∃ xs : MO, Hc a = some xs.ho) ∧ (H1 a ≠ none) ∧ (∀ i, a ∉ Fs1 i) ∧ ∀ i, a ∉ Fsc i) := by
  have hd' := hd.ev E L
  obtain ⟨Fs', R', n⟩ := R.unlock hd' fr
  refine ⟨Fs', R', ⟨(E01.trans E).chg, fun j a h => ?_⟩, fun j a h => ?_⟩
  · rcases n j a h with z | ⟨z, _⟩
    · exact (E01.trans E).new j a z
    · exact z
  · rcases n j a h with z | ⟨_, G, hG, ha⟩
    · exact .inl z
    · obtain ⟨h1, h2⟩ := hd'.mem G hG a ha
      obtain ⟨⟨xs, h3⟩, h4⟩ := hd.mem G hG a ha
      exact .inr ⟨h1, by rw [h3]; simp, h4, h2⟩
theorem finishR {H0 H1 Hc : Hp} {s1 sc : Sg} {σ σc : St} {Fs0 Fs1 Fsc : Fp} {l : List (Nat × D)} {Gl : List (List Addr)} (hlk : ∀ i, lk i = true → lk' i = true) (E01 : Ev H0 Fs0 H1 Fs1) (hd : Hid K H1 σ Fs1 l Gl) (fr : From H0 Fs0 l Gl)
    (R : RelS K Hc sc σc Fsc) (E : EvR lk' H1 Fs1 Hc Fsc) (L : ∀ p, p ∈ l → σc[p.1]? = σ[p.1]?) :
    ∃ Fs', RelS K Hc (unlockS l sc) σc Fs' ∧ EvR lk H0 Fs0 Hc Fs' ∧ ∀ j a, a ∈ Fs' j → a ∈ Fsc j ∨ ((∃ xs : MO, Hc a = some xs.ho) ∧ (H1 a ≠ none) ∧ (∀ i, a ∉ Fs1 i) ∧ ∀ i, a ∉ Fsc i) := by
  have hd' := hd.evR E L
  have E0 := E01.transR E
  have sub : ∀ j, lk' j = false → lk j = false := fun j h => by
    cases q : lk j with
    | false => rfl
    | true => rw [hlk j q] at h; cases h
  obtain ⟨Fs', R', n⟩ := R.unlock hd' fr
  refine ⟨Fs', R', ⟨E0.chg, fun j a h => ?_⟩, fun j a h => ?_⟩
  · rcases n j a h with z | ⟨z, _⟩
    · rcases E0.new j a z with w | ⟨w1, k, w2, w3⟩
      · exact .inl w
      · exact .inr ⟨sub j w1, k, sub k w2, w3⟩
    · exact .inl z
  · rcases n j a h with z | ⟨_, G, hG, ha⟩
    · exact .inl z
    · obtain ⟨h1, h2⟩ := hd'.mem G hG a ha
      obtain ⟨⟨xs, h3⟩, h4⟩ := hd.mem G hG a ha
      exact .inr ⟨h1, by rw [h3]; simp, h4, h2⟩
theorem ss_for {tg iter : Expr} {body : List Stmt} {it : I} {t : Tg} {g : S} (hp : PassesOwn (model X.prog X.w) X.A X.env X.xe) (hc : X.calm = true) (hi : SimI X tg iter it) (hg : SimG X lk' tg t) (hb : SimSs X lk' body g)
    (hlk : ∀ i, lk i = true → lk' i = true) (hs : ∀ x, foldedSetIterable iter X.env x = pure x := by intro _; rfl) : SimS X lk (.For tg iter body [] pos) (sFor lk' it t g) := by
  refine ps_imp (ps_for hp hc hi hg hb hs) fun D σ H z => ?_
  obtain ⟨s, Fs, fl, s', R, e, q⟩ := z
  obtain ⟨⟨es, l⟩, s1, e1, e⟩ := bind_inv e
  refine ⟨s, Fs, es, l, s1, R, e1, fun J H1 Fs1 Gl G R1 C1 n1 hd fr W hG => ?_⟩
  have E01 : Ev H Fs H1 Fs1 := ⟨C1, n1⟩
  split at e
  · rename_i hall
    obtain ⟨fl', s2, e2, e⟩ := bind_inv e
    have hL : ∀ {σc : St}, Lk lk' σ σc → ∀ p, p ∈ l → σc[p.1]? = σ[p.1]? := fun {σc} L p hp => L p.1 (List.all_eq_true.mp hall p hp)
    have done : ∀ {σc : St} {Hc : Hp} {sc : Sg} {Fsc : Fp}, RelS X.K Hc sc σc Fsc → EvR lk' H1 Fs1 Hc Fsc → Lk lk' σ σc → Res.ok fl' s2 = Res.ok Fl.nx sc → D.nx σc Hc := by
      intro σc Hc sc Fsc Rc Ec Lc ee
      cases ee
      cases e
      obtain ⟨Fs', R', E', _⟩ := finishR (s1 := s1) hlk E01 hd fr Rc Ec (hL Lc)
      exact q σc Hc Fs' R' E' fun i hi => Lc i (hlk i hi)
    refine ⟨fun i m σc Hc => m = es.length - i ∧ i ≤ es.length ∧ ∃ sc Fsc, RelS X.K Hc sc σc Fsc ∧ EvR lk' H1 Fs1 Hc Fsc ∧ Lk lk' σ σc ∧ loopS t g (es.drop i) sc = .ok fl' s2,
      ⟨es.length, by simp, Nat.zero_le _, s1, Fs1, R1, .refl _ _, .refl _ _, e2⟩, ?_⟩
    rintro i m σc Hc ⟨rfl, hi, sc, Fsc, Rc, Ec, Lc, ec⟩
    by_cases hlt : i < es.length
    · refine .inr ⟨W.goes i Hc hlt (hG Hc _ Ec.e0), fun σ' H' => i + 1 ≤ es.length ∧ ∃ sc Fsc, RelS X.K H' sc σ' Fsc ∧ EvR lk' H1 Fs1 H' Fsc ∧ Lk lk' σ σ' ∧ loopS t g (es.drop (i + 1)) sc = .ok fl' s2, fun σ' H' ⟨h1, h2⟩ => ⟨es.length - (i + 1), by omega, rfl, h1, h2⟩, fun x H' y => ?_⟩
      obtain ⟨d, hd1, sm, o⟩ := W.yields i Hc x H' hlt (hG Hc _ Ec.e0) y
      have ed : es.drop i = d :: es.drop (i + 1) := by
        rw [List.drop_eq_getElem_cons hlt]
        rw [List.getElem?_eq_getElem hlt] at hd1
        rw [Option.some.inj hd1]
      rw [ed] at ec
      unfold loopS at ec
      split at ec
      · cases ec
      · rename_i s3 hs3
        obtain ⟨fl3, s4, e4, ec⟩ := bind_inv ec
        refine ⟨sc, Fsc, d, [], s3, Rc.same sm, ⟨o, fun _ _ _ z => by cases z⟩, hs3, fun σ2 Fs2 R2 n2 L2 => ?_⟩
        have E2 : EvR lk' H1 Fs1 H' Fs2 := Ec.trans ⟨.same sm, fun j a h => .inl ((n2 j a h).resolve_right (by simp))⟩
        refine ⟨s3, Fs2, fl3, s4, R2, e4, ?_⟩
        cases fl3 with
        | nx => exact fun σ' H'' Fs' R' E' L' => ⟨hlt, s4, Fs', R', E2.transR E', (Lc.trans L2).trans L', ec⟩
        | ct => exact fun σ' H'' Fs' R' E' L' => ⟨hlt, s4, Fs', R', E2.transR E', (Lc.trans L2).trans L', ec⟩
        | bk => exact fun σ' H'' Fs' R' E' L' => done R' (E2.transR E') ((Lc.trans L2).trans L') ec.symm
        | rt d =>
          cases ec
          cases e
          refine fun v σ' H'' Fs' F R' E' L' o n m => ?_
          have E3 := E2.transR E'
          obtain ⟨Fs'', R'', E'', nn⟩ := finishR (s1 := s1) hlk E01 hd fr R' E3 (hL ((Lc.trans L2).trans L'))
          have hF : ∀ a, a ∈ F → H1 a = none ∨ ∃ i, lk' i = false ∧ a ∈ Fs1 i := fun a ha => by
            rcases n a ha with z | ⟨k, hk, z⟩
            · exact .inl (E2.chg.there a z)
            · rcases E2.new k a z with (z | z) | ⟨_, j, hj, z⟩
              · exact .inr ⟨k, hk, z⟩
              · exact .inl z
              · exact .inr ⟨j, hj, z⟩
          refine q v σ' H'' Fs'' F R'' E'' (fun i hi => ((Lc.trans L2).trans L') i (hlk i hi)) o (fun a ha => ?_) fun k a hk hk2 ha => ?_
          · rcases hF a ha with z | ⟨k, hk, z⟩
            · exact .inl (C1.there a z)
            · rcases n1 k a z with z | z
              · refine .inr ⟨k, ?_, z⟩
                cases hq : lk k with
                | false => rfl
                | true => rw [hlk k hq] at hk; cases hk
              · exact .inl z
          · rcases nn k a hk2 with z | ⟨_, h1, h2, h3⟩
            · exact m k a (hlk k hk) z ha
            · rcases hF a ha with z | ⟨k', _, z⟩
              · exact h1 z
              · exact h2 k' z
    · have ei : i = es.length := by omega
      subst ei
      rw [List.drop_length] at ec
      exact .inl ⟨W.stops Hc (hG Hc _ Ec.e0), done Rc Ec Lc ec.symm⟩
  · cases e
end
def sWhile (t : T) (g : S) : Nat → S
  | 0 => fun _ => .bad
  | n + 1 => fun s => (t s).bind fun b s1 => if b = true then (g s1).bind fun fl s2 => (match fl with
      | .nx => sWhile t g n s2
      | .ct => sWhile t g n s2
      | .bk => .ok .nx s2
      | .rt d => .ok (.rt d) s2) else .ok .nx s1
section
variable [Tb] [Vs] {X : Cx} {lk : Nat → Bool} {pos : Pos} {K : PySem.W.Frag}
theorem ss_while {c : Expr} {body : List Stmt} {t : T} {g : S} (n : Nat) (hp : PassesOwn (model X.prog X.w) X.A X.env X.xe) (hc : SimT X c t) (hb : SimSs X lk body g) : SimS X lk (.While c body [] pos) (sWhile t g n) := by
  refine ps_imp (ps_while hp hc hb) fun D σ H z => ?_
  obtain ⟨s, Fs, fl, s', R, e, q⟩ := z
  refine ⟨fun m σc Hc => ∃ sc Fsc, RelS X.K Hc sc σc Fsc ∧ EvR lk H Fs Hc Fsc ∧ Lk lk σ σc ∧ sWhile t g m sc = .ok fl s', ⟨n, s, Fs, R, .refl _ _, .refl _ _, e⟩, ?_⟩
  rintro m σc Hc ⟨sc, Fsc, Rc, Ec, Lc, ec⟩
  cases m with
  | zero => cases ec
  | succ m =>
    unfold sWhile at ec
    obtain ⟨b, s1, e1, ec⟩ := bind_inv ec
    refine ⟨sc, Fsc, b, s1, Rc, e1, fun H1 Fs1 R1 E1 => ?_⟩
    cases b with
    | false =>
      cases ec
      exact iteF (q σc H1 Fs1 R1 (Ec.trans E1) Lc)
    | true =>
      refine iteT ?_
      rw [if_pos rfl] at ec
      obtain ⟨f, s2, e2, ec⟩ := bind_inv ec
      refine ⟨fun σ' H' => ∃ sc Fsc, RelS X.K H' sc σ' Fsc ∧ EvR lk H Fs H' Fsc ∧ Lk lk σ σ' ∧ sWhile t g m sc = .ok fl s', fun σ' H' h => ⟨m, Nat.lt_succ_self _, h⟩, s1, Fs1, f, s2, R1, e2, ?_⟩
      have E01 := Ec.trans E1
      cases f with
      | nx => exact fun σ' H' Fs' R' E' L' => ⟨s2, Fs', R', E01.transR E', Lc.trans L', ec⟩
      | ct => exact fun σ' H' Fs' R' E' L' => ⟨s2, Fs', R', E01.transR E', Lc.trans L', ec⟩
      | bk =>
        cases ec
        exact fun σ' H' Fs' R' E' L' => q σ' H' Fs' R' (E01.transR E') (Lc.trans L')
      | rt d =>
        cases ec
        refine fun v σ' H' Fs' F R' E' L' o nn mm => q v σ' H' Fs' F R' (E01.transR E') (Lc.trans L') o (fun a ha => ?_) mm
        rcases nn a ha with z | ⟨k, hk, z⟩
        · exact .inl (E01.chg.there a z)
        · rcases E01.new k a z with (z | z) | ⟨_, j, hj, z⟩
          · exact .inr ⟨k, hk, z⟩
          · exact .inl z
          · exact .inr ⟨j, hj, z⟩
end
def clrS : List Nat → Sg → Sg
  | [], s => s
  | v :: vs, s => (clrS vs s).set v none
def ownSl : List Nat → Sg → List (Nat × D)
  | [], _ => []
  | v :: vs, s => match (s[v]?).join with
    | some d => (v, d) :: ownSl vs s
    | none => ownSl vs s
def compL (t : Tg) (c : T) (e : O) (vs : List Nat) : List D → List D → Sg → Res (List D)
  | [], acc, s => .ok acc s
  | d :: ds, acc, s => match asg t d s with
    | none => .bad
    | some s1 => (c s1).bind fun b s2 => if b = true then (e s2).bind fun r s3 => (match own r s3 with
        | none => .bad
        | some y => if acc.length < 1000000 then compL t c e vs ds (acc ++ [y]) (clrS vs s3) else .bad)
      else compL t c e vs ds acc (clrS vs s2)
def oComp (it : I) (t : Tg) (c : T) (e : O) (vs : List Nat) : O := fun s => (it s).bind fun p s1 =>
  if nodupB ((ownSl vs s1).map (·.1)) = true then (compL t c e vs p.1 [] (clrS vs (lockS (ownSl vs s1) s1))).bind fun acc s2 => .ok (.val (.list acc)) (unlockS (ownSl vs s1 ++ p.2) s2) else .bad
def tYesT : T := fun s => .ok true s
def SimPT [Tb] [Vs] (X : Cx) (ifs : List Expr) (c : T) : Prop := PTs X ifs (tT X.K c)
section
variable [Tb] [Vs] {X : Cx} {K : PySem.W.Frag}
theorem pts_imp {X : Cx} {e : List Expr} {t t' : TT} (h : PTs X e t) (i : ∀ σ H Q, t' σ H Q → t σ H Q) : PTs X e t' := ⟨fun pins s σ H Q I q => h.run pins s σ H Q I (i σ H Q q)⟩
theorem spt_nil : SimPT X [] tYesT := pts_imp pts_nil fun σ H Q ⟨s, Fs, b, s', R, e, q⟩ => by
  cases e
  exact q H Fs R (.refl _ _)
theorem spt_one {c : Expr} {t : T} (h : SimT X c t) : SimPT X [c] t := pts_one h
theorem clrS_len : ∀ (vs : List Nat) (s : Sg), (clrS vs s).length = s.length
  | [], _ => rfl
  | v :: vs, s => by rw [clrS, List.length_set, clrS_len vs s]
theorem clrS_some {vs : List Nat} {s : Sg} {i : Nat} {d : D} (h : (clrS vs s)[i]? = some (some d)) : s[i]? = some (some d) ∧ i ∉ vs := by
  induction vs with
  | nil => exact ⟨h, by simp⟩
  | cons v vs ih =>
    unfold clrS at h
    by_cases hi : v = i
    · subst hi
      by_cases hv : v < (clrS vs s).length
      · rw [List.getElem?_set_self hv] at h; cases h
      · rw [List.getElem?_eq_none (by simpa using hv)] at h; cases h
    · rw [List.getElem?_set_ne hi] at h
      obtain ⟨h1, h2⟩ := ih h
      exact ⟨h1, by simp only [List.mem_cons, not_or]; exact ⟨fun e => hi e.symm, h2⟩⟩
theorem wipe_get {σ : St} {vs : List Nat} {i : Nat} (h : i ∉ vs) : (wipe σ vs)[i]? = σ[i]? := by
  induction vs with
  | nil => rfl
  | cons v vs ih =>
    simp only [List.mem_cons, not_or] at h
    unfold wipe
    rw [List.getElem?_set_ne (fun e => h.1 e.symm), ih h.2]
/-- the own names' slots are emptied, on both sides -/
theorem lnk_wipe {σ : St} {H : Hp} : ∀ {vs : List Nat}, (∀ v, v ∈ vs → Vs.ok v) → (Vs.lnk (wipe σ vs) H ↔ Vs.lnk σ H)
  | [], _ => Iff.rfl
  | v :: vs, h => by
    rw [wipe]
    exact (Vs.put (h v (List.mem_cons_self ..))).trans (lnk_wipe fun w hw => h w (List.mem_cons_of_mem _ hw))
theorem RelS.clr {H : Hp} {s : Sg} {σ : St} {Fs : Fp} (R : RelS K H s σ Fs) (vs : List Nat) (ko : ∀ v, v ∈ vs → Vs.ok v) : ∃ Fs', RelS K H (clrS vs s) (wipe σ vs) Fs' ∧ ∀ j a, a ∈ Fs' j → a ∈ Fs j ∧ j ∉ vs := by
  refine ⟨fun j => if j ∈ vs then [] else Fs j, ⟨by rw [clrS_len, wipe_length, R.len], fun i d e => ?_, fun i h => ?_, fun i j a h1 h2 => ?_, ⟨(lnk_wipe ko).mpr R.lnk.1, R.lnk.2⟩, fun i h d e => R.bse i h d (clrS_some e).1⟩, fun j a h => ?_⟩
  · obtain ⟨e1, e2⟩ := clrS_some e
    obtain ⟨v, hv, o⟩ := R.has i d e1
    refine ⟨v, by rw [wipe_get e2]; exact hv, ?_⟩
    simp only [if_neg e2]
    exact o
  · by_cases hi : i ∈ vs
    · simp only [if_pos hi]
      rw [Vs.nil (ko i hi)]
    · simp only [if_neg hi]
      refine R.off i fun d e => h d ?_
      have key : ∀ (vs : List Nat), i ∉ vs → (clrS vs s)[i]? = s[i]? := fun vs => by
        induction vs with
        | nil => intro _; rfl
        | cons v vs ih =>
          intro h
          simp only [List.mem_cons, not_or] at h
          unfold clrS
          rw [List.getElem?_set_ne (fun e => h.1 e.symm), ih h.2]
      rw [key vs hi]
      exact e
  · split at h1
    · cases h1
    · split at h2
      · cases h2
      · exact R.dis i j a h1 h2
  · have h : a ∈ (if j ∈ vs then [] else Fs j) := h
    split at h
    · cases h
    · exact ⟨h, by assumption⟩
/-- a state without the own names stands for the block's outer slots too -/
theorem RelS.unwipe {H : Hp} {s : Sg} {σ : St} {Fs : Fp} {vs : List Nat} (ko : ∀ v, v ∈ vs → Vs.ok v) (R : RelS K H s (wipe σ vs) Fs) : RelS K H s σ Fs := by
  refine ⟨by rw [R.len, wipe_length], fun i d e => ?_, R.off, R.dis, ⟨(lnk_wipe ko).mp R.lnk.1, R.lnk.2⟩, R.bse⟩
  obtain ⟨v, hv, o⟩ := R.has i d e
  exact ⟨v, (wipe_some hv).1, o⟩
theorem ownSl_has {s : Sg} : ∀ {vs : List Nat} {p : Nat × D}, p ∈ ownSl vs s → s[p.1]? = some (some p.2) ∧ p.1 ∈ vs
  | [], _, h => by cases h
  | v :: vs, p, h => by
    unfold ownSl at h
    split at h
    · rename_i d hd
      rcases List.mem_cons.mp h with rfl | h
      · exact ⟨join_some hd, List.mem_cons_self ..⟩
      · obtain ⟨h1, h2⟩ := ownSl_has h
        exact ⟨h1, List.mem_cons_of_mem _ h2⟩
    · obtain ⟨h1, h2⟩ := ownSl_has h
      exact ⟨h1, List.mem_cons_of_mem _ h2⟩
/-- an object that no slot holds changes -/
theorem RelS.out {H : Hp} {s : Sg} {σ : St} {Fs : Fp} (R : RelS K H s σ Fs) {D' : Addr} {acc acc' : List V} (h : H D' = some (.lst acc)) (n : ∀ i, D' ∉ Fs i) : RelS K (upd H D' (.lst acc')) s σ Fs ∧ Chg (fun a => a = D') H (upd H D' (.lst acc')) := by
  have chg : Chg (fun a => a = D') H (upd H D' (.lst acc')) := .upd1 (m := .lst _) h
  refine ⟨⟨R.len, fun i d e => ?_, R.off, R.dis, R.lnkC chg (fun i a ha w => n i (by rw [← w]; exact R.fpF ha)), R.bse⟩, chg⟩
  obtain ⟨v, hv, o⟩ := R.has i d e
  exact ⟨v, hv, o.chg chg fun a ha w => n i (by rw [← w]; exact ha)⟩
theorem Hid.sub {H : Hp} {σ : St} {Fs Fs' : Fp} {l : List (Nat × D)} {Gs : List (List Addr)} (h : Hid K H σ Fs l Gs) (e : ∀ j a, a ∈ Fs' j → a ∈ Fs j) : Hid K H σ Fs' l Gs := by
  induction h with
  | nil => exact .nil
  | cons hv A n _ ih => exact .cons hv ⟨A.own, fun i a hi ha => A.dis i a (e i a hi) ha⟩ n ih
theorem Hid.append {H : Hp} {σ : St} {Fs : Fp} {l l2 : List (Nat × D)} {Gs Gs2 : List (List Addr)} (h : Hid K H σ Fs l Gs) (h2 : Hid K H σ Fs l2 Gs2) (n : ∀ G, G ∈ Gs → ∀ G2, G2 ∈ Gs2 → ∀ a, a ∈ G → a ∉ G2) : Hid K H σ Fs (l ++ l2) (Gs ++ Gs2) := by
  induction h with
  | nil => exact h2
  | @cons i d v F l Gs hv A n' _ ih =>
    refine .cons hv A (fun G hG a ha hb => ?_) (ih fun G hG => n G (List.mem_cons_of_mem _ hG))
    rcases List.mem_append.mp hG with hG | hG
    · exact n' G hG a ha hb
    · exact n F (List.mem_cons_self ..) G hG a ha hb
theorem From.append {H : Hp} {Fs : Fp} {l l2 : List (Nat × D)} {Gs Gs2 : List (List Addr)} (h : From H Fs l Gs) (h2 : From H Fs l2 Gs2) : From H Fs (l ++ l2) (Gs ++ Gs2) := by
  induction l generalizing Gs with
  | nil => cases Gs with
    | nil => exact h2
    | cons _ _ => exact h.elim
  | cons p l ih => cases Gs with
    | nil => exact h.elim
    | cons F Gs => exact ⟨h.1, ih h.2⟩
theorem From.mem {H : Hp} {Fs : Fp} {l : List (Nat × D)} {Gs : List (List Addr)} (h : From H Fs l Gs) : ∀ G, G ∈ Gs → ∀ a, a ∈ G → (∃ i, a ∈ Fs i) ∨ H a = none := by
  induction l generalizing Gs with
  | nil => cases Gs with
    | nil => intro G h; cases h
    | cons _ _ => exact h.elim
  | cons p l ih => cases Gs with
    | nil => exact h.elim
    | cons F Gs =>
      intro G hG a ha
      rcases List.mem_cons.mp hG with rfl | hG
      · exact (h.1 a ha).imp (fun z => ⟨_, z⟩) id
      · exact ih h.2 G hG a ha
mutual
theorem asg_len : ∀ {t : Tg} {d : Sim.D} {s s' : Sg}, asg t d s = some s' → s'.length = s.length
  | .nm i, d, s, s', h => by
    simp only [asg] at h
    cases h
    rw [List.length_set]
  | .tp l, .tuple ds, s, s', h => asgs_len2 (by simpa [asg] using h)
  | .tp l, .none, s, s', h => by simp [asg] at h
  | .tp l, .bool _, s, s', h => by simp [asg] at h
  | .tp l, .int _, s, s', h => by simp [asg] at h
  | .tp l, .str _, s, s', h => by simp [asg] at h
  | .tp l, .list _, s, s', h => by simp [asg] at h
  | .tp l, .dict _, s, s', h => by simp [asg] at h
  | .ls l, .list ds, s, s', h => asgs_len2 (by simpa [asg] using h)
  | .ls l, .none, s, s', h => by simp [asg] at h
  | .ls l, .bool _, s, s', h => by simp [asg] at h
  | .ls l, .int _, s, s', h => by simp [asg] at h
  | .ls l, .str _, s, s', h => by simp [asg] at h
  | .ls l, .tuple _, s, s', h => by simp [asg] at h
  | .ls l, .dict _, s, s', h => by simp [asg] at h
theorem asgs_len2 : ∀ {l : List Tg} {ds : List Sim.D} {s s' : Sg}, asgs l ds s = some s' → s'.length = s.length
  | [], [], s, s', h => by
    simp only [asgs] at h
    cases h
    rfl
  | [], _ :: _, s, s', h => by simp [asgs] at h
  | _ :: _, [], s, s', h => by simp [asgs] at h
  | t :: l, d :: ds, s, s', h => by
    simp only [asgs] at h
    split at h
    · cases h
    · rename_i s1 h1
      rw [asgs_len2 h, asg_len h1]
end
def lkc (vs : List Nat) : Nat → Bool := fun i => !vs.contains i
theorem wipe_lk {vs : List Nat} {σ σ2 : St} (hl : σ2.length = σ.length) (h : Lk (lkc vs) (wipe σ vs) σ2) : wipe σ2 vs = wipe σ vs := by
  have key : ∀ (σ : St) (vs : List Nat) (i : Nat), i ∈ vs → (wipe σ vs)[i]? = if i < σ.length then some none else none := fun σ vs i => by
    induction vs with
    | nil => intro h; cases h
    | cons v vs ih =>
      intro h
      unfold wipe
      by_cases hv : v = i
      · subst hv
        by_cases hx : v < σ.length
        · rw [List.getElem?_set_self (by rw [wipe_length]; exact hx), if_pos hx]
        · rw [List.getElem?_eq_none (by rw [List.length_set, wipe_length]; omega), if_neg hx]
      · rw [List.getElem?_set_ne hv]
        exact ih ((List.mem_cons.mp h).resolve_left fun e => hv e.symm)
  refine List.ext_getElem? fun i => ?_
  by_cases hi : i ∈ vs
  · rw [key _ _ i hi, key _ _ i hi, hl]
  · rw [wipe_get hi]
    have := h i (by unfold lkc; simp [hi])
    rw [this]
theorem tO_comp [Tb] [Vs] {it : I} {t : Tg} {c : T} {e : O} {vs : List Nat} (ko : ∀ v, v ∈ vs → Vs.ok v) {σ : St} {H : Hp} {Q : VK} (z : tO K (oComp it t c e vs) σ H Q) : tLc (tI K it) (tG K (lkc vs) t) (tT K c) (tO K e) vs σ H Q := by
  obtain ⟨s, Fs, rf, s', R, e0, q⟩ := z
  obtain ⟨⟨es, l⟩, s1, e1, e0⟩ := bind_inv e0
  refine ⟨s, Fs, es, l, s1, R, e1, fun J H1 Fs1 Gl G R1 C1 n1 hd fr W hG => ?_⟩
  split at e0
  · rename_i hnd
    obtain ⟨accF, s2, e2, e0⟩ := bind_inv e0
    obtain ⟨Fs2, Gl2, R2, hd2, sub2, fr2⟩ := R1.lock (fun p hp => (ownSl_has hp).1) hnd
    obtain ⟨Fs3, R3, sub3⟩ := R2.clr vs ko
    have sub : ∀ j a, a ∈ Fs3 j → a ∈ Fs1 j := fun j a h => sub2 j a (sub3 j a h).1
    have E01 : Ev H Fs H1 Fs3 := ⟨C1, fun j a h => n1 j a (sub j a h)⟩
    have hdA : Hid K H1 σ Fs3 (ownSl vs s1 ++ l) (Gl2 ++ Gl) := (hd2.sub fun j a h => (sub3 j a h).1).append (hd.sub sub) fun G2 hG2 G hG a ha hb => by
      obtain ⟨⟨xs, hx⟩, hn⟩ := hd.mem G hG a hb
      rcases fr2.mem G2 hG2 a ha with ⟨i, z⟩ | z
      · exact hn i z
      · rw [hx] at z; cases z
    have frA : From H Fs (ownSl vs s1 ++ l) (Gl2 ++ Gl) := (fr2.trans n1 fun a h => C1.there a h).append fr
    intro Dn hDn
    have smD : Same H1 (upd H1 Dn (.lst [])) := same_new hDn
    have nD3 : ∀ i, Dn ∉ Fs3 i := fun i h => by
      obtain ⟨xs, w⟩ := R3.mem h
      rw [hDn] at w; cases w
    refine ⟨fun i m Hc => m = es.length - i ∧ i ≤ es.length ∧ ∃ sc Fsc acc accV Facc, RelS K Hc sc (wipe σ vs) Fsc ∧ Ev H1 Fs3 Hc Fsc ∧ Hc Dn = some (.lst accV) ∧ OwnA K Hc acc accV Facc ∧ Dn ∉ Facc ∧ (∀ i, Dn ∉ Fsc i) ∧ (∀ i a, a ∈ Fsc i → a ∉ Facc) ∧ (∀ a, a ∈ Facc → H1 a = none) ∧
      compL t c e vs (es.drop i) acc sc = .ok accF s2, ⟨es.length, by simp, Nat.zero_le _, _, Fs3, [], [], [], R3.same smD, .same _ smD, upd_same, .nil, by simp, nD3, by simp, by simp, e2⟩, ?_⟩
    rintro i m Hc ⟨rfl, hi, sc, Fsc, acc, accV, Facc, Rc, Ec, hDc, oa, nDa, nDf, dja, fra, ec⟩
    have EG : Ev H1 Fs1 Hc Fsc → G Hc := hG Hc Fsc
    have Ec1 : Ev H1 Fs1 Hc Fsc := ⟨Ec.chg.mono (fun a _ _ w => w.imp fun i => sub i a), fun j a h => (Ec.new j a h).imp (sub j a) id⟩
    by_cases hlt : i < es.length
    · refine .inr ⟨W.goes i Hc hlt (EG Ec1), fun H' => i + 1 ≤ es.length ∧ ∃ sc Fsc acc accV Facc, RelS K H' sc (wipe σ vs) Fsc ∧ Ev H1 Fs3 H' Fsc ∧ H' Dn = some (.lst accV) ∧ OwnA K H' acc accV Facc ∧ Dn ∉ Facc ∧ (∀ i, Dn ∉ Fsc i) ∧ (∀ i a, a ∈ Fsc i → a ∉ Facc) ∧ (∀ a, a ∈ Facc → H1 a = none) ∧
        compL t c e vs (es.drop (i + 1)) acc sc = .ok accF s2, fun H' ⟨h1, h2⟩ => ⟨es.length - (i + 1), by omega, rfl, h1, h2⟩, fun x H' y => ?_⟩
      obtain ⟨d, hd1, sm, o⟩ := W.yields i Hc x H' hlt (EG Ec1) y
      have ed : es.drop i = d :: es.drop (i + 1) := by
        rw [List.drop_eq_getElem_cons hlt]
        rw [List.getElem?_eq_getElem hlt] at hd1
        rw [Option.some.inj hd1]
      rw [ed] at ec
      unfold compL at ec
      split at ec
      · cases ec
      · rename_i s3 hs3
        obtain ⟨b, s4, e4, ec⟩ := bind_inv ec
        refine ⟨sc, Fsc, d, [], s3, Rc.same sm, ⟨o, fun _ _ _ z => by cases z⟩, hs3, fun σ2 Fs4 R4 n4 L4 => ?_⟩
        have hw : wipe σ2 vs = wipe σ vs := wipe_lk (by
          have l1 := R4.len
          have l2 := Rc.len
          have l3 := asg_len hs3
          rw [wipe_length] at l2
          omega) L4
        refine ⟨hw, ?_⟩
        · skip
          have E4 : Ev H1 Fs3 H' Fs4 := Ec.trans ⟨.same sm, fun j a h => .inl ((n4 j a h).resolve_right (by simp))⟩
          have nD4 : ∀ i, Dn ∉ Fs4 i := fun i h => nDf i ((n4 i Dn h).resolve_right (by simp))
          have dj4 : ∀ i a, a ∈ Fs4 i → a ∉ Facc := fun i a h => dja i a ((n4 i a h).resolve_right (by simp))
          refine ⟨s3, Fs4, b, s4, R4, e4, fun H3 Fs5 R5 E5 => ?_⟩
          -- what a test or an item's reckoning leaves of the new list
          have keepD : ∀ {H3 : Hp} {Fs5 : Fp}, Ev H' Fs4 H3 Fs5 → H3 Dn = some (.lst accV) ∧ OwnA K H3 acc accV Facc ∧ (∀ i, Dn ∉ Fs5 i) ∧ (∀ i a, a ∈ Fs5 i → a ∉ Facc) := fun {H3 Fs5} E5 => by
            have h1 : H' Dn = some (.lst accV) := sm _ _ hDc
            have o1 : OwnA K H' acc accV Facc := oa.chg (Fa := fun _ => False) (.same sm) fun _ _ z => z
            refine ⟨E5.chg.keep _ _ h1 (.inl ⟨fun ⟨i, w⟩ => nD4 i w, rfl⟩), o1.chg E5.chg fun a ha ⟨i, w⟩ => dj4 i a w ha, fun i h => ?_, fun i a h ha => ?_⟩
            · rcases E5.new i Dn h with w | w
              · exact nD4 i w
              · rw [h1] at w; cases w
            · rcases E5.new i a h with w | w
              · exact dj4 i a w ha
              · obtain ⟨xs, z⟩ := o1.mem a ha
                rw [w] at z; cases z
          cases b with
          | false =>
            rw [if_neg Bool.false_ne_true] at ec
            refine iteF ⟨hlt, ?_⟩
            obtain ⟨h1, h2, h3, h4⟩ := keepD E5
            obtain ⟨Fs6, R6, sub6⟩ := R5.clr vs ko
            rw [hw] at R6
            exact ⟨_, Fs6, acc, accV, Facc, R6, E4.trans ⟨E5.chg, fun j a h => E5.new j a (sub6 j a h).1⟩, h1, h2, nDa, fun i h => h3 i (sub6 i _ h).1, fun i a h => h4 i a (sub6 i a h).1, fra, ec⟩
          | true =>
            rw [if_pos rfl] at ec
            refine iteT ?_
            obtain ⟨r, s6, e6, ec⟩ := bind_inv ec
            refine ⟨s4, Fs5, r, s6, R5, e6, fun v H4 Fs6 F R6 E6 k6 n6 => ?_⟩
            split at ec
            · cases ec
            · rename_i y hy
              split at ec
              · rename_i hlen
                have A6 := rfOk_own k6 R6 hy
                have E56 := E5.trans E6
                obtain ⟨h1, h2, h3, h4⟩ := keepD E56
                have n6' : ∀ a, a ∈ F → H' a = none := fun a ha => E5.chg.there a (n6 a ha)
                have h1' : H' Dn = some (.lst accV) := sm _ _ hDc
                have o1' : OwnA K H' acc accV Facc := oa.chg (Fa := fun _ => False) (.same sm) fun _ _ z => z
                obtain ⟨Facc', t', hF'⟩ := OwnA.snoc A6.own h2 fun a ha hb => by
                  obtain ⟨xs, z⟩ := o1'.mem a ha
                  rw [n6' a hb] at z; cases z
                have nDn : Dn ∉ Facc' := fun w => by
                  rcases hF' Dn w with w | w
                  · exact nDa w
                  · rw [n6' Dn w] at h1'; cases h1'
                refine ⟨accV, h1, by rw [h2.len]; exact Nat.lt_of_lt_of_le hlen big_le, hlt, ?_⟩
                obtain ⟨R7, C7⟩ := R6.out (acc' := accV ++ [v]) h1 h3
                obtain ⟨Fs8, R8, sub8⟩ := R7.clr vs ko
                rw [hw] at R8
                refine ⟨_, Fs8, acc ++ [y], accV ++ [v], Facc', R8, ?_, upd_same, t'.chg C7 fun a ha w => nDn (by rw [← w]; exact ha), nDn, fun i h => h3 i (sub8 i _ h).1, fun i a h ha => ?_, fun a ha => ?_, ec⟩
                · have E7 := E4.trans E56
                  exact ⟨E7.chg.transN C7 (fun a o ho w => by rw [w, hDn] at ho; cases ho), fun j a h => E7.new j a (sub8 j a h).1⟩
                · rcases hF' a ha with w | w
                  · exact h4 i a (sub8 i a h).1 w
                  · exact A6.dis i a (sub8 i a h).1 w
                · rcases hF' a ha with w | w
                  · exact fra a w
                  · exact E4.chg.there a (n6' a w)
              · cases ec
    · have ei : i = es.length := by omega
      subst ei
      rw [List.drop_length] at ec
      cases ec
      cases e0
      refine .inl ⟨W.stops Hc (EG Ec1), ?_⟩
      obtain ⟨Fs', R', E', nn⟩ := finish (s1 := s1) E01 hdA frA (Rc.unwipe ko) Ec fun _ _ => rfl
      refine q (.ref Dn) Hc Fs' (Dn :: Facc) R' E' (.val ⟨.lst hDc oa nDa, fun j a h ha => ?_⟩) fun a ha => ?_
      · rcases nn j a h with w | ⟨_, w, _, _⟩
        · rcases List.mem_cons.mp ha with rfl | ha
          · exact nDf j w
          · exact dja j a w ha
        · rcases List.mem_cons.mp ha with rfl | ha
          · exact w hDn
          · exact w (fra a ha)
      · rcases List.mem_cons.mp ha with rfl | ha
        · exact C1.there _ hDn
        · exact C1.there _ (fra a ha)
  · cases e0
theorem so_comp [Tb] [Vs] {elt tg iter : Expr} {ifs : List Expr} {scope : Scope} {own : List (Str × Nat)} {pos : Pos} {it : I} {t : Tg} {c : T} {e : O} (hc : X.calm = true) (hN : X.N.Nodup) (hi : SimI X tg iter it) (ok : BlkOk X.N X.env.scope scope own)
    (hg : ∀ (s : Shared) (H : Hp) (C : Addr) (cl : List (Str × Addr)) (fp : List Addr), SimG (X.blk s H scope (compEnvC scope cl C X.env) fp) (lkc (own.map (·.2))) tg t) (ht : ∀ (s : Shared) (H : Hp) (C : Addr) (cl : List (Str × Addr)) (fp : List Addr), SimPT (X.blk s H scope (compEnvC scope cl C X.env) fp) ifs c)
    (he : ∀ (s : Shared) (H : Hp) (C : Addr) (cl : List (Str × Addr)) (fp : List Addr), SimO (X.blk s H scope (compEnvC scope cl C X.env) fp) elt e) (hs : ∀ x, foldedSetIterable iter X.env x = pure x := by intro _; rfl) (ko : ∀ v, v ∈ own.map (·.2) → Vs.ok v := by first | exact fun _ _ => trivial | assumption | decide) :
    SimO X (.ListComp elt [⟨tg, iter, ifs, 0⟩] scope pos) (oComp it t c e (own.map (·.2))) := by
  have hg' : ∀ (s : Shared) (H : Hp) (C : Addr) (cl : List (Str × Addr)) (fp : List Addr), PG (X.blk s H scope (compEnvC scope cl C X.env) fp) tg (tG X.K (lkc (own.map (·.2))) t) := hg
  have ht' : ∀ (s : Shared) (H : Hp) (C : Addr) (cl : List (Str × Addr)) (fp : List Addr), PTs (X.blk s H scope (compEnvC scope cl C X.env) fp) ifs (tT X.K c) := ht
  have he' : ∀ (s : Shared) (H : Hp) (C : Addr) (cl : List (Str × Addr)) (fp : List Addr), PE (X.blk s H scope (compEnvC scope cl C X.env) fp) elt (tO X.K e) := he
  exact pe_imp (pe_lc hc hN hi ok hg' ht' he' hs) fun σ H Q z => tO_comp ko z
end
end Sim
namespace Sim
open PySem PySem.Spec L2
inductive FRes where
  | ok (r : D) (as : List D)
  | exc (c : Str) (v : D)
  | bad
abbrev Fn := List D → FRes
/-- the arguments, each with the places that it holds -/
inductive OwnLs (K : PySem.W.Frag) (H : Hp) : List D → List V → List (List Addr) → Prop
  | nil : OwnLs K H [] [] []
  | cons {d : D} {v : V} {F : List Addr} {ds : List D} {vs : List V} {Fl : List (List Addr)} : Own K H d v F → (∀ G, G ∈ Fl → ∀ a, a ∈ F → a ∉ G) → OwnLs K H ds vs Fl → OwnLs K H (d :: ds) (v :: vs) (F :: Fl)
def NewL (H : Hp) : List (List Addr) → List (List Addr) → Prop
  | [], [] => True
  | F :: Fl, F' :: Fl' => (∀ a, a ∈ F' → a ∈ F ∨ H a = none) ∧ NewL H Fl Fl'
  | _, _ => False
def spF [Tb] (K : PySem.W.Frag) (n : Nat) (f : Fn) : Sp := fun vs H Q E => ∃ ds Fl r as, f ds = .ok r as ∧ vs.length = n ∧ TabsOk H ∧ OwnLs K H ds vs Fl ∧
  ∀ v H' Fl' F, OwnLs K H' as vs Fl' → Chg (fun a => ∃ G, G ∈ Fl ∧ a ∈ G) H H' → NewL H Fl Fl' → Own K H' r v F → (∀ a, a ∈ F → H a = none) → (∀ G, G ∈ Fl' → ∀ a, a ∈ G → a ∉ F) → Q v H'
def lkz : List Rf → List D → List D → List (Nat × D)
  | .slot i :: rs, d :: ds, a :: as => if pur d = true then lkz rs ds as else (i, a) :: lkz rs ds as
  | .val _ :: rs, _ :: ds, _ :: as => lkz rs ds as
  | _, _, _ => []
def oCall (f : Fn) (g : AL) : O := fun s => (g s).bind fun rs s1 => match rds rs s1 with
  | none => .bad
  | some ds => if nodupB ((lks rs ds).map (·.1)) = true then (match f ds with
      | .ok r as => .ok (.val r) (unlockS (lkz rs ds as) (lockS (lks rs ds) s1))
      | .exc c v => .exc c v s1
      | .bad => .bad) else .bad
section
variable [Tb] [Vs] {K : PySem.W.Frag} {H H' : Hp} {σ : St} {Fs : Fp}
theorem OwnLs.mem {ds : List D} {vs : List V} {Fl : List (List Addr)} (h : OwnLs K H ds vs Fl) : ∀ G, G ∈ Fl → ∀ a, a ∈ G → ∃ xs : MO, H a = some xs.ho := by
  induction h with
  | nil => intro G h; cases h
  | cons o _ _ ih =>
    intro G hG a ha
    rcases List.mem_cons.mp hG with rfl | hG
    · exact o.mem a ha
    · exact ih G hG a ha
theorem OwnLs.len {ds : List D} {vs : List V} {Fl : List (List Addr)} (h : OwnLs K H ds vs Fl) : vs.length = ds.length := by
  induction h with
  | nil => rfl
  | cons _ _ _ ih => rw [List.length_cons, List.length_cons, ih]
/-- which argument is which closed slot's -/
def Al : List Rf → List D → List (List Addr) → List (List Addr) → Prop
  | [], [], [], [] => True
  | .val _ :: rs, _ :: ds, Gl, _ :: Fl => Al rs ds Gl Fl
  | .slot _ :: rs, d :: ds, Gl, F :: Fl => if pur d = true then Al rs ds Gl Fl else (match Gl with
    | [] => False
    | G :: Gl => G = F ∧ Al rs ds Gl Fl)
  | _, _, _, _ => False
/-- the operands of a call as its arguments -/
theorem args_own {s : Sg} {FsL : Fp} (R : RelS K H s σ Fs) {rs : List Rf} {vs : List V} {Gs : List (List Addr)} (r : Rfs K H σ Fs rs vs Gs) : ∀ {ds : List D} {Gl : List (List Addr)}, rds rs s = some ds → Hid K H σ FsL (lks rs ds) Gl → From H Fs (lks rs ds) Gl →
    ∃ Fl, OwnLs K H ds vs Fl ∧ (∀ F, F ∈ Fl → ∀ a, a ∈ F → (∃ G, G ∈ Gs ∧ a ∈ G) ∨ ∃ G, G ∈ Gl ∧ a ∈ G) ∧ Al rs ds Gl Fl := by
  induction r with
  | nil =>
    intro ds Gl e hd _
    cases e
    cases hd
    exact ⟨[], .nil, by simp, trivial⟩
  | @val d v F rs vs Gs A n r ih =>
    intro ds Gl e hd fr
    unfold rds at e
    simp only [rd] at e
    split at e
    · cases e
    · rename_i es he
      cases e
      obtain ⟨Fl, h1, h2, h0⟩ := ih he (by simpa [lks] using hd) (by simpa [lks] using fr)
      refine ⟨F :: Fl, .cons A.own (fun G hG a ha hb => ?_) h1, fun G hG a ha => ?_, by simpa [Al] using h0⟩
      · rcases h2 G hG a hb with ⟨G', hG', h⟩ | ⟨G', hG', h⟩
        · exact n G' hG' a ha h
        · rcases fr.mem G' (by simpa [lks] using hG') a h with ⟨i, z⟩ | z
          · exact A.dis i a z ha
          · obtain ⟨xs, w⟩ := A.own.mem a ha
            rw [z] at w; cases w
      · rcases List.mem_cons.mp hG with rfl | hG
        · exact .inl ⟨_, List.mem_cons_self .., ha⟩
        · rcases h2 G hG a ha with ⟨G', hG', h⟩ | h
          · exact .inl ⟨G', List.mem_cons_of_mem _ hG', h⟩
          · exact .inr h
  | @slot i v rs vs Gs hv r ih =>
    intro ds Gl e hd fr
    unfold rds at e
    simp only [rd] at e
    split at e
    · cases e
    · rename_i d hd0
      split at e
      · cases e
      · rename_i es he
        cases e
        obtain ⟨v', hv', o⟩ := R.has i d (join_some hd0)
        rw [hv] at hv'
        cases hv'
        by_cases hp : pur d = true
        · have el : lks (.slot i :: rs) (d :: es) = lks rs es := by rw [lks, if_pos hp]
          rw [el] at hd fr
          obtain ⟨Fl, h1, h2, h0⟩ := ih he hd fr
          rw [o.pur hp] at o
          refine ⟨[] :: Fl, .cons o (by simp) h1, fun G hG a ha => ?_, by unfold Al; rw [if_pos hp]; exact h0⟩
          rcases List.mem_cons.mp hG with rfl | hG
          · cases ha
          · rcases h2 G hG a ha with ⟨G', hG', h⟩ | h
            · exact .inl ⟨G', List.mem_cons_of_mem _ hG', h⟩
            · exact .inr h
        · have el : lks (.slot i :: rs) (d :: es) = (i, d) :: lks rs es := by rw [lks, if_neg hp]
          rw [el] at hd fr
          cases hd with
          | @cons _ _ v2 F _ Gl hv2 A n hd =>
            have hv2 := hv2.get
            rw [hv] at hv2
            cases hv2
            obtain ⟨Fl, h1, h2, h0⟩ := ih he hd fr.2
            refine ⟨F :: Fl, .cons A.own (fun G hG a ha hb => ?_) h1, fun G hG a ha => ?_, by unfold Al; rw [if_neg hp]; exact ⟨rfl, h0⟩⟩
            · rcases h2 G hG a hb with ⟨G', hG', h⟩ | ⟨G', hG', h⟩
              · -- another operand's own value stands apart from all slots
                have key : ∀ {rs : List Rf} {vs : List V} {Gs : List (List Addr)}, Rfs K H σ Fs rs vs Gs → G' ∈ Gs → ∀ i, a ∉ Fs i := fun {rs vs Gs} r => by
                  induction r with
                  | nil => intro h; cases h
                  | val A _ _ ih =>
                    intro hh i hi
                    rcases List.mem_cons.mp hh with e1 | hh
                    · exact A.dis i a hi (by rw [← e1]; exact h)
                    · exact ih hh i hi
                  | slot _ _ ih =>
                    intro hh i hi
                    rcases List.mem_cons.mp hh with e1 | hh
                    · rw [e1] at h; cases h
                    · exact ih hh i hi
                rcases fr.1 a ha with z | z
                · exact key r hG' _ z
                · obtain ⟨xs, w⟩ := A.own.mem a ha
                  rw [z] at w; cases w
              · exact n G' hG' a ha h
            · rcases List.mem_cons.mp hG with rfl | hG
              · exact .inr ⟨_, List.mem_cons_self .., ha⟩
              · rcases h2 G hG a ha with ⟨G', hG', h⟩ | ⟨G', hG', h⟩
                · exact .inl ⟨G', List.mem_cons_of_mem _ hG', h⟩
                · exact .inr ⟨G', List.mem_cons_of_mem _ hG', h⟩
/-- behind the call: what the slots' lists came to -/
theorem args_back {H0 : Hp} {Fs0 FsL : Fp} {s : Sg} (R : RelS K H s σ Fs) {rs : List Rf} {vs : List V} {Gs : List (List Addr)} (r : Rfs K H σ Fs rs vs Gs) : ∀ {ds as : List D} {Gl Fl Fl' : List (List Addr)}, rds rs s = some ds → Hid K H σ FsL (lks rs ds) Gl → From H0 Fs0 (lks rs ds) Gl → Al rs ds Gl Fl →
    OwnLs K H ds vs Fl → OwnLs K H' as vs Fl' → NewL H Fl Fl' → (∀ i a, a ∈ FsL i → (∀ F, F ∈ Fl → a ∉ F) ∧ H a ≠ none) → (∀ a, H a = none → H0 a = none) →
    ∃ Gl', Hid K H' σ FsL (lkz rs ds as) Gl' ∧ From H0 Fs0 (lkz rs ds as) Gl' ∧ ∀ G, G ∈ Gl' → G ∈ Fl' := by
  induction r with
  | nil =>
    intro ds as Gl Fl Fl' e hd fr al o o' nl _ _
    cases e
    exact ⟨[], .nil, trivial, by simp⟩
  | @val d v F rs vs Gs A n r ih =>
    intro ds as Gl Fl Fl' e hd fr al o o' nl ap th
    unfold rds at e
    simp only [rd] at e
    split at e
    · cases e
    · rename_i es he
      cases e
      cases o with
      | cons o1 n1 o =>
        cases o' with
        | cons o1' n1' o' =>
          obtain ⟨Gl', h1, h2, h3⟩ := ih he (by simpa [lks] using hd) (by simpa [lks] using fr) (by simpa [Al] using al) o o' nl.2 (fun i a h => ⟨fun F hF => (ap i a h).1 F (List.mem_cons_of_mem _ hF), (ap i a h).2⟩) th
          exact ⟨Gl', by simpa [lkz] using h1, by simpa [lkz] using h2, fun G hG => List.mem_cons_of_mem _ (h3 G hG)⟩
  | @slot i v rs vs Gs hv r ih =>
    intro ds as Gl Fl Fl' e hd fr al o o' nl ap th
    unfold rds at e
    simp only [rd] at e
    split at e
    · cases e
    · rename_i d hd0
      split at e
      · cases e
      · rename_i es he
        cases e
        cases o with
        | @cons _ _ F0 _ _ Fl0 o1 n1 o =>
          cases o' with
          | @cons a' _ F' as' _ Fl' o1' n1' o' =>
            have ap' : ∀ i a, a ∈ FsL i → (∀ F, F ∈ Fl0 → a ∉ F) ∧ H a ≠ none := fun i a h => ⟨fun F hF => (ap i a h).1 F (List.mem_cons_of_mem _ hF), (ap i a h).2⟩
            by_cases hp : pur d = true
            · have el : lks (.slot i :: rs) (d :: es) = lks rs es := by rw [lks, if_pos hp]
              have el' : lkz (.slot i :: rs) (d :: es) (a' :: as') = lkz rs es as' := by rw [lkz, if_pos hp]
              rw [el] at hd fr
              rw [el']
              obtain ⟨Gl', h1, h2, h3⟩ := ih he hd fr (by unfold Al at al; rw [if_pos hp] at al; exact al) o o' nl.2 ap' th
              exact ⟨Gl', h1, h2, fun G hG => List.mem_cons_of_mem _ (h3 G hG)⟩
            · have el : lks (.slot i :: rs) (d :: es) = (i, d) :: lks rs es := by rw [lks, if_neg hp]
              have el' : lkz (.slot i :: rs) (d :: es) (a' :: as') = (i, a') :: lkz rs es as' := by rw [lkz, if_neg hp]
              rw [el] at hd fr
              rw [el']
              cases hd with
              | @cons _ _ v2 F _ Gl hv2' A n hd =>
                have hv2 := hv2'.get
                rw [hv] at hv2
                cases hv2
                unfold Al at al
                rw [if_neg hp] at al
                obtain ⟨e0, al⟩ := al
                subst e0
                obtain ⟨Gl', h1, h2, h3⟩ := ih he hd fr.2 al o o' nl.2 ap' th
                refine ⟨F' :: Gl', .cons ⟨hv, hv2'.fp⟩ ⟨o1', fun j a hj ha => ?_⟩ (fun G hG a ha hb => n1' G (h3 G hG) a ha hb) h1, ⟨fun a ha => ?_, h2⟩, fun G hG => ?_⟩
                · rcases nl.1 a ha with z | z
                  · exact (ap j a hj).1 _ (List.mem_cons_self ..) z
                  · exact (ap j a hj).2 z
                · rcases nl.1 a ha with z | z
                  · exact fr.1 a z
                  · exact .inr (th a z)
                · rcases List.mem_cons.mp hG with rfl | hG
                  · exact List.mem_cons_self ..
                  · exact List.mem_cons_of_mem _ (h3 G hG)
theorem NewL.mem {Fl Fl' : List (List Addr)} (h : NewL H Fl Fl') : ∀ G, G ∈ Fl' → ∀ a, a ∈ G → (∃ F, F ∈ Fl ∧ a ∈ F) ∨ H a = none := by
  induction Fl generalizing Fl' with
  | nil => cases Fl' with
    | nil => intro G h; cases h
    | cons _ _ => exact h.elim
  | cons F Fl ih => cases Fl' with
    | nil => exact h.elim
    | cons F' Fl' =>
      intro G hG a ha
      rcases List.mem_cons.mp hG with rfl | hG
      · exact (h.1 a ha).imp (fun z => ⟨F, List.mem_cons_self .., z⟩) id
      · exact (ih h.2 G hG a ha).imp (fun ⟨F, h1, h2⟩ => ⟨F, List.mem_cons_of_mem _ h1, h2⟩) id
theorem tO_call {f : Fn} {n : Nat} {g : AL} {Q : VK} {E : XK} (z : tO K (oCall f g) σ H Q) (hn : ∀ ds r as, f ds = .ok r as → ds.length = n) : tA K g σ H fun vs H1 => spF K n f vs H1 Q E := by
  obtain ⟨s, Fs, rf, s', R, e, q⟩ := z
  obtain ⟨rs, s1, e1, e⟩ := bind_inv e
  refine ⟨s, Fs, rs, s1, R, e1, fun vs H1 Fs1 Gs R1 E1 k1 n1 => ?_⟩
  split at e
  · cases e
  · rename_i ds hds
    split at e
    · rename_i hnd
      split at e
      · rename_i r as hf
        cases e
        obtain ⟨FsL, Gl, RL, hd, sub, fr⟩ := R1.lock (lks_has k1 hds) hnd
        obtain ⟨Fl, ol, hl, al⟩ := args_own (FsL := FsL) R1 k1 hds hd fr
        have apart : ∀ i a, a ∈ FsL i → (∀ F, F ∈ Fl → a ∉ F) ∧ H1 a ≠ none := fun i a h => by
          refine ⟨fun F hF ha => ?_, fun w => ?_⟩
          · rcases hl F hF a ha with ⟨G, hG, hb⟩ | ⟨G, hG, hb⟩
            · have key : ∀ {rs : List Rf} {vs : List V} {Gs : List (List Addr)}, Rfs K H1 σ Fs1 rs vs Gs → G ∈ Gs → ∀ i, a ∉ Fs1 i := fun {rs vs Gs} r => by
                induction r with
                | nil => intro h; cases h
                | val A _ _ ih =>
                  intro hh i hi
                  rcases List.mem_cons.mp hh with e1 | hh
                  · exact A.dis i a hi (by rw [← e1]; exact hb)
                  · exact ih hh i hi
                | slot _ _ ih =>
                  intro hh i hi
                  rcases List.mem_cons.mp hh with e1 | hh
                  · rw [e1] at hb; cases hb
                  · exact ih hh i hi
              exact key k1 hG i (sub i a h)
            · exact (hd.mem G hG a hb).2 i h
          · obtain ⟨xs, y⟩ := RL.mem h
            rw [w] at y; cases y
        refine ⟨ds, Fl, r, as, hf, by rw [ol.len]; exact hn _ _ _ hf, R1.lnk.2, ol, fun v H2 Fl' F ol' c nl o nF dj => ?_⟩
        have R2 : RelS K H2 (lockS (lks rs ds) s1) σ FsL := ⟨RL.len, fun i d e => by
          obtain ⟨v, hv, o⟩ := RL.has i d e
          exact ⟨v, hv, o.chg c fun a ha ⟨G, hG, hb⟩ => (apart i a ha).1 G hG hb⟩, RL.off, RL.dis, RL.lnkC c (fun i a ha ⟨G, hG, hb⟩ => (apart i a (RL.fpF ha)).1 G hG hb), RL.bse⟩
        obtain ⟨Gl', hd', fr', sub'⟩ := args_back (H0 := H) (Fs0 := Fs) R1 k1 hds hd (fr.trans E1.new fun a h => E1.chg.there a h) al ol ol' nl apart fun a h => E1.chg.there a h
        obtain ⟨Fs', R', n'⟩ := R2.unlock hd' fr'
        refine q v H2 Fs' F R' ⟨⟨fun a ob ho cc => ?_, fun a h => E1.chg.there a (c.there a h), fun t => c.tab (E1.chg.tab t)⟩, fun j a h => ?_⟩ (.val ⟨o, fun j a h ha => ?_⟩) fun a ha => E1.chg.there a (nF a ha)
        · refine c.keep a ob (E1.chg.keep a ob ho cc) (cc.imp (fun w2 => ⟨fun ⟨G, hG, hb⟩ => ?_, w2.2⟩) id)
          have w := w2.1
          rcases hl G hG a hb with ⟨G', hG', h⟩ | ⟨G', hG', h⟩
          · rw [n1 G' hG' a h] at ho; cases ho
          · rcases fr.mem G' hG' a h with ⟨i, z⟩ | z
            · rcases E1.new i a z with z | z
              · exact w ⟨i, z⟩
              · rw [z] at ho; cases ho
            · rw [E1.chg.there a z] at ho; cases ho
        · rcases n' j a h with z | ⟨z, _⟩
          · exact E1.new j a (sub j a z)
          · exact z
        · rcases n' j a h with z | ⟨_, G, hG, hb⟩
          · exact (apart j a z).2 (nF a ha)
          · exact dj G (sub' G hG) a hb ha
      · cases e
      · cases e
    · cases e
end
def coll : List Nat → List D → Nat → Sg → Option (List D)
  | [], [], _, _ => some []
  | m :: ms, d :: ds, j, s => match coll ms ds (j + 1) s with
    | none => none
    | some as => if m = 0 then (match (s[j]?).join with
      | none => none
      | some d' => some (d' :: as)) else some (d :: as)
  | _, _, _, _ => none
/-- which parameters' names keep what they hold -/
def lkM (ms : List Nat) : Nat → Bool := fun i => ms[i]? == some 0
def okM : List Nat → List D → Bool
  | [], [] => true
  | m :: ms, d :: ds => (m == 0 || pur d) && okM ms ds
  | _, _ => false
/-- n names in all, the parameters by their modes: 0 keeps its name's value, 1 holds what has no list -/
def mkFn (ms : List Nat) (n : Nat) (g : S) : Fn := fun ds => if okM ms ds = true then (match g (ds.map some ++ List.replicate (n - ds.length) none) with
    | .ok fl s => (match coll ms ds 0 s with
      | none => .bad
      | some as => (match fl with
        | .nx => .ok .none as
        | .rt d => .ok d as
        | _ => .bad))
    | .exc c v _ => .exc c v
    | .bad => .bad) else .bad
section
variable [Tb] [Vs] {K : PySem.W.Frag} {H H' : Hp}
theorem okM_len : ∀ {ms : List Nat} {ds : List D}, okM ms ds = true → ds.length = ms.length
  | [], [], _ => rfl
  | m :: ms, d :: ds, h => by
    simp only [okM, Bool.and_eq_true] at h
    rw [List.length_cons, List.length_cons, okM_len h.2]
  | [], _ :: _, h => by simp [okM] at h
  | _ :: _, [], h => by simp [okM] at h
theorem mkFn_len {ms : List Nat} {n : Nat} {g : S} {ds : List D} {r : D} {as : List D} (h : mkFn ms n g ds = .ok r as) : ds.length = ms.length := by
  unfold mkFn at h
  split at h
  · rename_i hk
    exact okM_len hk
  · cases h
omit [Vs] in
/-- the arguments as the first slots -/
theorem relS_start (tt : TabsOk H) {ds : List D} {vs : List V} {Fl : List (List Addr)} (h : OwnLs K H ds vs Fl) (m : Nat) : @RelS _ noVs K H (ds.map some ++ List.replicate m none) (vs.map some ++ List.replicate m none) (fun j => Fl.getD j []) := by
  have hl := h.len
  have key : ∀ (i : Nat) (d : D), ds[i]? = some d → ∃ v F, vs[i]? = some v ∧ Fl[i]? = some F ∧ Own K H d v F := by
    clear hl
    induction h with
    | nil => intro i d h; simp at h
    | @cons d v F ds vs Fl o n _ ih =>
      intro i d' e
      cases i with
      | zero => simp at e; subst e; exact ⟨v, F, rfl, rfl, o⟩
      | succ i => exact ih i d' (by simpa using e)
  have lenF : Fl.length = ds.length := by
    clear key hl
    induction h with
    | nil => rfl
    | cons _ _ _ ih => rw [List.length_cons, List.length_cons, ih]
  have dj : ∀ (i j : Nat) (F G : List Addr) (a : Addr), Fl[i]? = some F → Fl[j]? = some G → a ∈ F → a ∈ G → i = j := by
    clear key hl lenF
    induction h with
    | nil => intro i j F G a h; simp at h
    | @cons d v F0 ds vs Fl o n _ ih =>
      intro i j F G a h1 h2 h3 h4
      cases i with
      | zero => cases j with
        | zero => rfl
        | succ j =>
          simp at h1
          subst h1
          exact absurd h4 (n G (List.mem_of_getElem? (by simpa using h2)) a h3)
      | succ i => cases j with
        | zero =>
          simp at h2
          subst h2
          exact absurd h3 (n F (List.mem_of_getElem? (by simpa using h1)) a h4)
        | succ j => rw [ih i j F G a (by simpa using h1) (by simpa using h2) h3 h4]
  refine ⟨by simp [hl], fun i d e => ?_, fun i e => ?_, fun i j a h1 h2 => ?_, ⟨trivial, tt⟩, fun i h => absurd rfl h⟩
  · by_cases hi : i < ds.length
    · rw [List.getElem?_append_left (by simpa using hi), List.getElem?_map] at e
      cases hd : ds[i]? with
      | none => rw [hd] at e; cases e
      | some d' =>
        rw [hd] at e
        cases e
        obtain ⟨v, F, hv, hF, o⟩ := key i d hd
        refine ⟨v, by rw [List.getElem?_append_left (by simp; omega), List.getElem?_map, hv]; rfl, ?_⟩
        show Own K H d v (Fl.getD i [])
        rw [List.getD_eq_getElem?_getD, hF]
        exact o
    · rw [List.getElem?_append_right (by simpa using hi), List.getElem?_replicate] at e
      split at e <;> cases e
  · show Fl.getD i [] = []
    by_cases hi : i < ds.length
    · exfalso
      refine e ds[i] ?_
      rw [List.getElem?_append_left (by simpa using hi), List.getElem?_map, List.getElem?_eq_getElem hi]
      rfl
    · rw [List.getD_eq_getElem?_getD, List.getElem?_eq_none (by omega)]
      rfl
  · have f1 : ∀ {i : Nat}, a ∈ Fl.getD i [] → ∃ F, Fl[i]? = some F ∧ a ∈ F := fun {i} h => by
      rw [List.getD_eq_getElem?_getD] at h
      cases e : Fl[i]? with
      | none => rw [e] at h; cases h
      | some F => rw [e] at h; exact ⟨F, rfl, h⟩
    obtain ⟨F, e1, m1⟩ := f1 h1
    obtain ⟨G, e2, m2⟩ := f1 h2
    exact dj i j F G a e1 e2 m1 m2
/-- the arguments behind the body -/
theorem coll_own {Fs' : Fp} {s : Sg} {σ' : St} (R : RelS K H' s σ' Fs') (c : Chg (fun _ => True) H H') (new : ∀ i a, a ∈ Fs' i → H' a ≠ none) : ∀ {ms : List Nat} {ds : List D} {vs : List V} {Fl : List (List Addr)} {as : List D} (j : Nat),
    OwnLs K H ds vs Fl → okM ms ds = true → coll ms ds j s = some as → (∀ i, i < ms.length → ms[i]? = some 0 → σ'[j + i]? = (vs[i]?).map some) → (∀ i a, ms[i]? = some 0 → a ∈ Fs' (j + i) → i < Fl.length → a ∈ Fl.getD i [] ∨ H a = none) →
    ∃ Fl', OwnLs K H' as vs Fl' ∧ NewL H Fl Fl' ∧ ∀ G, G ∈ Fl' → ∀ a, a ∈ G → ∃ i, j ≤ i ∧ ms[i - j]? = some 0 ∧ a ∈ Fs' i := by
  intro ms
  induction ms with
  | nil =>
    intro ds vs Fl as j o ok e L n
    cases ds with
    | cons _ _ => simp [okM] at ok
    | nil =>
      simp only [coll] at e
      cases e
      cases o
      exact ⟨[], .nil, trivial, by simp⟩
  | cons m ms ih =>
    intro ds vs Fl as j o ok e L n
    cases ds with
    | nil => simp [okM] at ok
    | cons d ds =>
      simp only [okM, Bool.and_eq_true, Bool.or_eq_true, beq_iff_eq] at ok
      simp only [coll] at e
      split at e
      · cases e
      · rename_i as' hc
        cases o with
        | @cons _ v F _ vs Fl o1 n1 o =>
          obtain ⟨Fl', h1, h2, h3⟩ := ih (j + 1) o ok.2 hc (fun i hi hm => by
            have := L (i + 1) (by simpa using hi) (by simpa using hm)
            rw [show j + 1 + i = j + (i + 1) by omega, this]
            simp) (fun i a hm ha hi => by
            have := n (i + 1) a (by simpa using hm) (by rw [show j + (i + 1) = j + 1 + i by omega]; exact ha) (by simpa using hi)
            simpa using this)
          have h3' : ∀ G, G ∈ Fl' → ∀ a, a ∈ G → ∃ i, j < i ∧ (m :: ms)[i - j]? = some 0 ∧ a ∈ Fs' i := fun G hG a ha => by
            obtain ⟨i, q1, q2, q3⟩ := h3 G hG a ha
            refine ⟨i, by omega, ?_, q3⟩
            rw [show i - j = (i - (j + 1)) + 1 by omega, List.getElem?_cons_succ]
            exact q2
          split at e
          · rename_i hm
            subst hm
            split at e
            · cases e
            · rename_i d' hd'
              cases e
              obtain ⟨v', hv', o'⟩ := R.has j d' (join_some hd')
              have := L 0 (by simp) rfl
              rw [Nat.add_zero, hv'] at this
              simp at this
              subst this
              refine ⟨Fs' j :: Fl', .cons o' (fun G hG a ha hb => ?_) h1, ⟨fun a ha => ?_, h2⟩, fun G hG a ha => ?_⟩
              · obtain ⟨i, q1, _, q3⟩ := h3' G hG a hb
                have := R.dis j i a ha q3
                omega
              · have := n 0 a rfl (by simpa using ha) (by simp)
                simpa using this
              · rcases List.mem_cons.mp hG with rfl | hG
                · exact ⟨j, Nat.le_refl _, by simp, ha⟩
                · obtain ⟨i, q1, q2, q3⟩ := h3' G hG a ha
                  exact ⟨i, Nat.le_of_lt q1, q2, q3⟩
          · rename_i hm
            cases e
            have hp : pur d = true := ok.1.resolve_left hm
            have e0 := o1.pur hp
            subst e0
            refine ⟨[] :: Fl', .cons (o1.chg c fun _ z => by cases z) (by simp) h1, ⟨by simp, h2⟩, fun G hG a ha => ?_⟩
            rcases List.mem_cons.mp hG with rfl | hG
            · cases ha
            · obtain ⟨i, q1, q2, q3⟩ := h3' G hG a ha
              exact ⟨i, Nat.le_of_lt q1, q2, q3⟩
end
end Sim
namespace Sim
open PySem PySem.Spec L2
theorem getD_of {Fl : List (List Addr)} {i : Nat} {a : Addr} (h : a ∈ Fl.getD i []) : ∃ G, Fl[i]? = some G ∧ a ∈ G := by
  rw [List.getD_eq_getElem?_getD] at h
  cases e : Fl[i]? with
  | none => rw [e] at h; cases h
  | some F => rw [e] at h; exact ⟨F, rfl, h⟩
theorem OwnLs.pure_at {K : PySem.W.Frag} {H : Hp} : ∀ {ms : List Nat} {ds : List D} {vs : List V} {Fl : List (List Addr)}, OwnLs K H ds vs Fl → okM ms ds = true → ∀ i, ms[i]? ≠ some 0 → Fl.getD i [] = []
  | [], [], _, _, o, _, i, _ => by cases o; simp
  | m :: ms, d :: ds, _, _, o, ok, 0, h => by
    cases o with
    | @cons _ _ F _ _ Fl o1 n1 o =>
      simp only [okM, Bool.and_eq_true, Bool.or_eq_true, beq_iff_eq] at ok
      have hp : pur d = true := ok.1.resolve_left fun e => h (by rw [e]; rfl)
      simpa using o1.pur hp
  | m :: ms, d :: ds, _, _, o, ok, i + 1, h => by
    cases o with
    | @cons _ _ F _ _ Fl o1 n1 o =>
      simp only [okM, Bool.and_eq_true] at ok
      have := OwnLs.pure_at o ok.2 i (by simpa using h)
      simpa using this
  | [], _ :: _, _, _, _, ok, _, _ => by simp [okM] at ok
  | _ :: _, [], _, _, _, ok, _, _ => by simp [okM] at ok
section
variable [Tb] {P : Program} {w : World} {K : PySem.W.Frag} {mg : Str → Option Value} {base : Heap}
theorem fn_sim {x qual : Str} {st : Stmt} {f : Addr} {fd : FuncData} {N ps : List Str} {ms : List Nat} {n k : Nat} {g : S} (F : Fun K x qual st f fd) (Sc : FnScope N ps (defScope st)) (hn : N.length = n) (hm : ms.length = ps.length)
    (hb : ∀ (cdv : Value) (A : Around) (outer : List Env) (s : Shared) (H : Hp) (E : XK), Room k (A.deeper (PyProof.Rows.envOfC qual (defScope st) s.heap.objs.size f cdv)) →
      SimSs (cxOf CX0 P w K mg base N qual (defScope st) f cdv A outer s H E).nox (lkM ms) (defBody st) g) : FnOk P w K mg base CX0 (k + 1) f fd ps (spF K ps.length (mkFn ms n g)) := by
  refine F.ok Sc (fun vs H Q E h => ?_) (fun cdv A outer s H vs Q E hr h => ⟨_, hb cdv A outer s H E hr, ?_⟩)
  · obtain ⟨ds, Fl, r, as, hf, hl, _⟩ := h
    exact hl
  · obtain ⟨ds, Fl, r, as, hf, hl, tt, ol, q⟩ := h
    unfold mkFn at hf
    split at hf
    · rename_i hok
      have hlm := okM_len hok
      split at hf
      · rename_i fl s' hg
        split at hf
        · cases hf
        · rename_i as' hc
          have est : L2.start N vs = vs.map some ++ List.replicate (n - ds.length) none := by
            unfold L2.start
            rw [hn, ← ol.len]
          have R0 := relS_start tt ol (n - ds.length)
          rw [est]
          refine ⟨_, _, fl, s', R0, hg, ?_⟩
          have fin : ∀ {σ' : St} {H' : Hp} {Fs' : Fp}, RelS K H' s' σ' Fs' → EvR (lkM ms) H (fun j => Fl.getD j []) H' Fs' → Lk (lkM ms) (vs.map some ++ List.replicate (n - ds.length) none) σ' →
              ∃ Fl', OwnLs K H' as' vs Fl' ∧ NewL H Fl Fl' ∧ (Chg (fun a => ∃ G, G ∈ Fl ∧ a ∈ G) H H') ∧ ∀ G, G ∈ Fl' → ∀ a, a ∈ G → ∃ i, lkM ms i = true ∧ a ∈ Fs' i := by
            intro σ' H' Fs' R' E' L'
            have c2 : Chg (fun a => ∃ G, G ∈ Fl ∧ a ∈ G) H H' := E'.chg.mono fun a _ _ ⟨i, hi⟩ => by
              obtain ⟨G, hG, ha⟩ := getD_of hi
              exact ⟨G, List.mem_of_getElem? hG, ha⟩
            have c3 : Chg (fun _ => True) H H' := E'.chg.mono fun _ _ _ _ => trivial
            obtain ⟨Fl', h1, h2, h3⟩ := coll_own (Fs' := Fs') R' c3 (fun i a h => by
              obtain ⟨xs, z⟩ := R'.mem h
              rw [z]
              simp) 0 ol hok hc (fun i hi h0 => by
                have := L' i (by unfold lkM; rw [h0]; rfl)
                rw [Nat.zero_add, this, List.getElem?_append_left (by rw [List.length_map, ol.len, hlm]; exact hi), List.getElem?_map]) (fun i a hm ha hi => by
                rw [Nat.zero_add] at ha
                rcases E'.new i a ha with z | ⟨z, _⟩
                · exact z
                · unfold lkM at z
                  rw [hm] at z
                  cases z)
            refine ⟨Fl', h1, h2, c2, fun G hG a ha => ?_⟩
            obtain ⟨i, _, q2, q3⟩ := h3 G hG a ha
            exact ⟨i, by unfold lkM; rw [Nat.sub_zero] at q2; rw [q2]; rfl, q3⟩
          cases fl with
          | nx =>
            cases hf
            intro σ' H' Fs' R' E' L'
            obtain ⟨Fl', h1, h2, c2, _⟩ := fin R' E'.r L'
            exact q .non H' Fl' [] h1 c2 h2 .non (by simp) (by simp)
          | rt d =>
            cases hf
            intro v σ' H' Fs' F' R' E' L' o nn m
            obtain ⟨Fl', h1, h2, c2, h3⟩ := fin R' E' L'
            refine q v H' Fl' F' h1 c2 h2 o (fun a ha => ?_) fun G hG a ha hb => ?_
            · rcases nn a ha with z | ⟨i, hi, z⟩
              · exact z
              · exfalso
                have z' : a ∈ Fl.getD i [] := z
                rw [ol.pure_at hok i (fun e => by unfold lkM at hi; rw [e] at hi; cases hi)] at z'
                cases z'
            · obtain ⟨i, hi, q3⟩ := h3 G hG a ha
              exact m i a hi q3 hb
          | bk => cases hf
          | ct => cases hf
      · cases hf
      · cases hf
    · cases hf
end
section
variable [Tb] [Vs] {X : Cx} {k : Nat} {f : Addr} {fd : FuncData} {ps : List Str} {fn : Fn} {x : Str} {p pos : Pos} {e : Expr} {es : List Expr} {g : AL}
theorem so_call (F : FnOk X.prog X.w X.K X.mg X.base CX0 k f fd ps (spF X.K ps.length fn)) (hr : Room k X.A) (hg : Gl X x) (hm : X.mg x = some (.ref f)) (hk : PySem.W.keepIn X.K (.ref f) = true) (hb : Binds X.K fd ps []) (ha : SimA X (e :: es) g)
    (hn : ∀ ds r as, fn ds = .ok r as → ds.length = ps.length) (hdb : (x == ("__debug__" : Str)) = false := by decide) (he : starEach (e :: es) X.env = (false, eval e X.env) :: starEach es X.env := by rfl) (hpl : (backTo pos (starEach es X.env)).any (·.1) = false := by rfl) :
    SimO X (.Call (.Name x p) (e :: es) [] pos) (oCall fn g) := by
  refine pe_imp (pe_call F hr hg hm hk hb .nil pass0 ha hdb he hpl) fun σ H Q z => ?_
  have z' := tO_call (E := E0) z hn
  exact tA_mono (fun vs H h => by rw [List.append_nil]; exact h) z'
end
end Sim
namespace Sim
open PySem PySem.Spec L2
def intsD : List D → Option (List Int)
  | [] => some []
  | .int i :: ds => (intsD ds).map (i :: ·)
  | _ => none
def bools : List D → Option (List Bool)
  | [] => some []
  | .bool i :: ds => (bools ds).map (i :: ·)
  | _ => none
def seqOf : D → Option (List D)
  | .list ds => some ds
  | .tuple ds => some ds
  | .dict [(.none, .list ds)] => some ds
  | _ => none
def minL : List Int → Int
  | [] => 0
  | n :: ns => ns.foldl min n
theorem foldl_min : ∀ (ns : List Int) (n : Int), (ns.foldl min n = n ∨ ns.foldl min n ∈ ns) ∧ ns.foldl min n ≤ n ∧ ∀ y, y ∈ ns → ns.foldl min n ≤ y
  | [], n => ⟨.inl rfl, Int.le_refl _, by simp⟩
  | m :: ns, n => by
    obtain ⟨h1, h2, h3⟩ := foldl_min ns (min n m)
    rw [List.foldl_cons]
    refine ⟨?_, Int.le_trans h2 (Int.min_le_left n m), fun y hy => ?_⟩
    · rcases h1 with h1 | h1
      · rw [h1]
        rcases Int.le_total n m with z | z
        · rw [Int.min_eq_left z]; exact .inl rfl
        · rw [Int.min_eq_right z]; exact .inr (List.mem_cons_self ..)
      · exact .inr (List.mem_cons_of_mem _ h1)
    · rcases List.mem_cons.mp hy with rfl | hy
      · exact Int.le_trans h2 (Int.min_le_right n y)
      · exact h3 y hy
theorem minL_mem {ns : List Int} (h : ns ≠ []) : minL ns ∈ ns := by
  cases ns with
  | nil => exact absurd rfl h
  | cons n ns =>
    rcases (foldl_min ns n).1 with z | z
    · show List.foldl min n ns ∈ _
      rw [z]; exact List.mem_cons_self ..
    · exact List.mem_cons_of_mem _ z
theorem minL_le {ns : List Int} {y : Int} (h : y ∈ ns) : minL ns ≤ y := by
  cases ns with
  | nil => cases h
  | cons n ns =>
    rcases List.mem_cons.mp h with rfl | h
    · exact (foldl_min ns y).2.1
    · exact (foldl_min ns n).2.2 y h
theorem minL_eq {ns : List Int} {m : Int} (h : m ∈ ns) (h2 : ∀ y, y ∈ ns → m ≤ y) : minL ns = m :=
  Int.le_antisymm (minL_le h) (h2 _ (minL_mem (by rintro rfl; cases h)))
def pLen : List D → Option D
  | [.str z] => if z.length ≤ 1000000 then some (.int z.length) else none
  | [d] => match seqOf d with
    | some ds => some (.int ds.length)
    | none => none
  | _ => none
def pAbs : List D → Option D
  | [.int i] => some (.int (if i < 0 then -i else i))
  | _ => none
def pInt : List D → Option D
  | [.int i] => some (.int i)
  | [.bool k] => some (.int (if k then 1 else 0))
  | _ => none
def pMax2 : List D → Option D
  | [.int i, .int j] => some (.int (max i j))
  | _ => none
def pMin2 : List D → Option D
  | [.int i, .int j] => some (.int (min i j))
  | _ => none
def intsOf (d : D) : Option (List Int) := match seqOf d with
  | some ds => intsD ds
  | none => none
def pSum : List D → Option D
  | [d] => (intsOf d).map fun ns => .int ns.sum
  | _ => none
def pMin1 : List D → Option D
  | [d] => match intsOf d with
    | some (n :: ns) => some (.int (minL (n :: ns)))
    | _ => none
  | _ => none
def pTuple : List D → Option D
  | [d] => match seqOf d with
    | some ds => if purs ds = true then some (.tuple ds) else none
    | none => none
  | _ => none
def pList : List D → Option D
  | [d] => match seqOf d with
    | some ds => if purs ds = true then some (.list ds) else none
    | none => none
  | _ => none
def pDivmod : List D → Option D
  | [.int i, .int j] => if 0 < j ∧ j < 1000000 then some (.tuple [.int (i / j), .int (i % j)]) else none
  | _ => none
def pAll : List D → Option D
  | [.list ds] => (bools ds).map fun bs => .bool (bs.all id)
  | _ => none
def pAny : List D → Option D
  | [.list ds] => (bools ds).map fun bs => .bool (bs.any id)
  | _ => none
section
variable {K : PySem.W.Frag} {H : Hp}
theorem own_ints : ∀ {ds : List D} {vs : List V} {F : List Addr} {ns : List Int}, OwnA K H ds vs F → intsD ds = some ns → vs = ns.map V.int
  | [], _, _, _, h, e => by cases h; cases e; rfl
  | d :: ds, _, _, _, h, e => by
    cases h with
    | cons o t n =>
      cases o with
      | int i =>
        simp only [intsD] at e
        cases hi : intsD ds with
        | none => rw [hi] at e; cases e
        | some ns' =>
          rw [hi] at e
          cases e
          rw [own_ints t hi]
          rfl
      | _ => simp [intsD] at e
theorem own_bools : ∀ {ds : List D} {vs : List V} {F : List Addr} {ns : List Bool}, OwnA K H ds vs F → bools ds = some ns → vs = ns.map V.bl
  | [], _, _, _, h, e => by cases h; cases e; rfl
  | d :: ds, _, _, _, h, e => by
    cases h with
    | cons o t n =>
      cases o with
      | bl i =>
        simp only [bools] at e
        cases hi : bools ds with
        | none => rw [hi] at e; cases e
        | some ns' =>
          rw [hi] at e
          cases e
          rw [own_bools t hi]
          rfl
      | _ => simp [bools] at e
theorem own_seq {d : D} {v : V} {F : List Addr} {ds : List D} (o : Own K H d v F) (e : seqOf d = some ds) : ∃ a xs G, v = .ref a ∧ (SqL K H a xs ∨ SqT K H a xs) ∧ OwnA K H ds xs G ∧ (purs ds = true → G = [] ∧ (∀ e2, d = .tuple e2 → SqD K H a xs)) ∧ ((∃ e2, d = .tuple e2) ∨ SqL K H a xs) := by
  unfold seqOf at e
  split at e
  · cases e
    cases o with
    | lst h t n => exact ⟨_, _, _, rfl, .inl (SqL.of h), t, fun p => ⟨t.pur p, fun _ z => by cases z⟩, .inr (SqL.of h)⟩
  · cases e
    cases o with
    | tup h t => exact ⟨_, _, _, rfl, .inr h.sq, t, fun p => ⟨t.pur p, fun _ _ => h⟩, .inl ⟨_, rfl⟩⟩
  · cases e
    cases o with
    | frz h t => exact ⟨_, _, _, rfl, .inl h.sq, t, fun p => ⟨rfl, fun _ z => by cases z⟩, .inr h.sq⟩
  · cases e
end
section
variable {prog : Program} {w : World} {A : Around} {E : Value → Shared → Prop} {s : Shared} {t : Addr} {xs : Array (Int × Tok)}
theorem min_intTup {Q : Value → Shared → Prop} (hh : A.handled = none) (ht : s.heap.IsTuple t (intItems xs)) (hne : 0 < xs.size)
    (h : ∀ v h' tk, (intItems xs)[argBest (fun i j => decide (numAt xs i < numAt xs j)) (xs.size - 1)]? = some v → (∀ b o, s.heap.get? b = some o → h'.get? b = some o) → Q v { s with heap := h', toks := tk }) :
    wpAny (model prog w) A (call (.builtin "min") [.ref t]) Q E s := by
  obtain ⟨o, ho, hc, n, hd⟩ := id ht
  have hn : t ≠ s.heap.objs.size := Nat.ne_of_lt (Heap.lt_size ho)
  refine call_min_walk (wpAny_pyIter_tuple ht ?_)
  refine ⟨_, _, _, _, _, _, _, rfl, Walks.tuple (A := A.in1) hh _ t hn (intItems xs), ⟨⟨_, Heap.get?_push_size _ rfl, rfl, rfl⟩, ht.at fun o e => Heap.get?_push_of_some _ e⟩, fun b hb => ?_, by simpa [intItems] using hne, CmpOf.ints_lt (numAt xs) (fun _ _ => intItems_at), fun v h' tk hP hk => ?_⟩
  · rcases List.mem_cons.mp hb with rfl | hb
    · exact Heap.lt_size (Heap.get?_push_size _ rfl)
    · obtain rfl := List.mem_singleton.mp hb
      exact Heap.lt_size (Heap.get?_push_of_some _ ho)
  · exact h v h' tk (by simpa [intItems] using hP) fun b o e => hk b o (fun hb => absurd (Heap.lt_size e) ((List.mem_singleton.mp hb) ▸ Nat.lt_irrefl _)) (Heap.get?_push_of_some _ e)
end
section
variable {X : Cx}
def rMinA (K : PySem.W.Frag) : List V → Hp → VK → Prop := fun vs H Q => ∃ (a : Addr) (ns : List Int), vs = [V.ref a] ∧ (SqL K H a (ns.map V.int) ∨ SqT K H a (ns.map V.int)) ∧ ns ≠ [] ∧ Q (.int (minL ns)) H
theorem cr_minA (hc : X.calm = true) : CallR X (.builtin "min") (rMinA X.K) := by
  intro pins s σ H vs us Q I r h
  obtain ⟨a, ns, rfl, hs, hne, q⟩ := h
  have hl0 : 0 < ns.length := List.length_pos_iff.mpr hne
  rcases hs with hs | hs
  · exact cr_min hc pins s σ H _ us Q I r ⟨a, ns, rfl, hs, hl0, fun m h1 h2 => by rw [minL_eq h1 h2] at q; exact q⟩
  · obtain ⟨its, rv, hl, _⟩ := I.tuple hs
    rw [Vals.ref1 r]
    have hi := rv.ints
    obtain ⟨xs, e⟩ := hi.allInts.items
    have hn : numsOf (intItems xs).toList = ns := by rw [← e]; exact hi.numsOf
    rw [PySem.nums_intItems] at hn
    have hl' : s.heap.IsTuple a its.toArray := hl
    rw [e] at hl'
    subst hn
    have hsz : 0 < xs.size := by simpa using hl0
    refine min_intTup (I.ok.hd hc) hl' hsz fun v h' tk hv hk => ?_
    obtain ⟨t, rfl⟩ := intItems_at hv
    obtain ⟨h1, h2⟩ := argBest_lt (numAt xs) (xs.size - 1)
    refine ⟨.int _, H, I.kept hk, ⟨_, rfl⟩, ?_⟩
    rw [minL_eq (m := numAt xs (argBest (fun i j => decide (numAt xs i < numAt xs j)) (xs.size - 1))) ?_ fun y hy => ?_] at q
    · exact q
    · rw [numAt_eq]; exact PySem.getD_mem (by rw [List.length_map, Array.length_toList]; omega)
    · obtain ⟨j, hj, rfl⟩ := mem_getD hy
      rw [List.length_map, Array.length_toList] at hj
      rw [← numAt_eq]; exact h2 j (by omega)
end
end Sim
namespace Sim
open PySem PySem.Spec L2
section
variable {K : PySem.W.Frag}
def rLenA (K : PySem.W.Frag) : List V → Hp → VK → Prop := fun xs H Q => (∃ p ys, xs = [V.ref p] ∧ (SqL K H p ys ∨ SqT K H p ys) ∧ Q (.int ys.length) H) ∨ ∃ z, xs = [V.str z] ∧ z.length ≤ sizeLine ∧ Q (.int z.length) H
theorem CallR.or {X : Cx} {f : Value} {r r' : List V → Hp → VK → Prop} (h : CallR X f r) (h' : CallR X f r') : CallR X f (fun xs H Q => r xs H Q ∨ r' xs H Q) := fun pins s σ H xs us Q I rv q =>
  q.elim (h pins s σ H xs us Q I rv) (h' pins s σ H xs us Q I rv)
theorem cr_len {X : Cx} : CallR X (.builtin "len") (rLenA X.K) := CallR.or call_len_seq call_len_str
theorem pr_len : PrimR K (rLenA K) pLen := by
  intro vs ds d H Q h e q
  unfold pLen at e
  split at e
  · obtain ⟨x, F, rfl, o⟩ := h.one
    cases o
    split at e
    · rename_i hz
      cases e
      exact .inr ⟨_, rfl, Nat.le_trans hz big_le, q _ _ (.sc (.int _))⟩
    · cases e
  · obtain ⟨x, F, rfl, o⟩ := h.one
    split at e
    · rename_i es hs
      cases e
      obtain ⟨a, xs, G, rfl, hq, t, _⟩ := own_seq o hs
      refine .inl ⟨_, _, rfl, hq, ?_⟩
      rw [t.len]
      exact q _ _ (.sc (.int _))
    · cases e
  · cases e
theorem pr_abs : PrimR K (fun xs H Q => ∃ i : Int, xs = [V.int i] ∧ Q (.int (if i < 0 then -i else i)) H) pAbs := by
  intro vs ds d H Q h e q
  unfold pAbs at e
  split at e
  · obtain ⟨x, F, rfl, o⟩ := h.one
    cases o; cases e
    exact ⟨_, rfl, q _ _ (.sc (.int _))⟩
  · cases e
theorem pr_int : PrimR K (fun xs H Q => (∃ i, xs = [V.int i] ∧ Q (.int i) H) ∨ ∃ k, xs = [V.bl k] ∧ Q (.int (if k then 1 else 0)) H) pInt := by
  intro vs ds d H Q h e q
  unfold pInt at e
  split at e
  · obtain ⟨x, F, rfl, o⟩ := h.one
    cases o; cases e
    exact .inl ⟨_, rfl, q _ _ (.sc (.int _))⟩
  · obtain ⟨x, F, rfl, o⟩ := h.one
    cases o; cases e
    exact .inr ⟨_, rfl, q _ _ (.sc (.int _))⟩
  · cases e
theorem pr_max2 : PrimR K (fun xs H Q => ∃ i j : Int, xs = [V.int i, .int j] ∧ Q (.int (if j > i then j else i)) H) pMax2 := by
  intro vs ds d H Q h e q
  unfold pMax2 at e
  split at e
  · rename_i i j
    obtain ⟨x, y, F, G, rfl, o, o2⟩ := h.two
    cases o; cases o2; cases e
    refine ⟨_, _, rfl, ?_⟩
    have z : (if j > i then j else i) = max i j := by split <;> omega
    rw [z]
    exact q _ _ (.sc (.int _))
  · cases e
theorem pr_min2 : PrimR K (fun xs H Q => ∃ i j : Int, xs = [V.int i, .int j] ∧ Q (.int (if j < i then j else i)) H) pMin2 := by
  intro vs ds d H Q h e q
  unfold pMin2 at e
  split at e
  · rename_i i j
    obtain ⟨x, y, F, G, rfl, o, o2⟩ := h.two
    cases o; cases o2; cases e
    refine ⟨_, _, rfl, ?_⟩
    have z : (if j < i then j else i) = min i j := by split <;> omega
    rw [z]
    exact q _ _ (.sc (.int _))
  · cases e
theorem own_intsOf {H : Hp} {d : D} {v : V} {F : List Addr} {ns : List Int} (o : Own K H d v F) (e : intsOf d = some ns) : ∃ a, v = .ref a ∧ (SqL K H a (ns.map V.int) ∨ SqT K H a (ns.map V.int)) := by
  unfold intsOf at e
  split at e
  · rename_i es hs
    obtain ⟨a, xs, G, rfl, hq, t, _⟩ := own_seq o hs
    rw [own_ints t e] at hq
    exact ⟨a, rfl, hq⟩
  · cases e
theorem pr_min1 : PrimR K (rMinA K) pMin1 := by
  intro vs ds d H Q h e q
  unfold pMin1 at e
  split at e
  · obtain ⟨x, F, rfl, o⟩ := h.one
    split at e
    · rename_i hi
      cases e
      obtain ⟨a, rfl, hq⟩ := own_intsOf o hi
      exact ⟨a, _, rfl, hq, by simp, q _ _ (.sc (.int _))⟩
    · cases e
  · cases e
theorem pr_tuple : PrimR K (fun xs H Q => ∃ p ys, xs = [V.ref p] ∧ ((SqL K H p ys ∧ rNewT ys H Q) ∨ (SqT K H p ys ∧ Q (.ref p) H))) pTuple := by
  intro vs ds d H Q h e q
  unfold pTuple at e
  split at e
  · obtain ⟨x, F, rfl, o⟩ := h.one
    split at e
    · rename_i es hs
      split at e
      · rename_i hp
        cases e
        obtain ⟨a, xs, G, rfl, hq, t, h1, h2⟩ := own_seq o hs
        obtain ⟨rfl, h3⟩ := h1 hp
        refine ⟨a, xs, rfl, ?_⟩
        rcases h2 with ⟨e2, h2⟩ | h2
        · exact .inr ⟨(h3 e2 h2).sq, q _ _ (.sc (.tup (h3 e2 h2) t))⟩
        · exact .inl ⟨h2, fun p ob hp hn => q _ _ (.tup t hp hn)⟩
      · cases e
    · cases e
  · cases e
theorem pr_list : PrimR K (fun xs H Q => ∃ p ys, xs = [V.ref p] ∧ (SqL K H p ys ∨ SqT K H p ys) ∧ ∀ l, H l = none → Q (.ref l) (upd H l (.lst ys))) pList := by
  intro vs ds d H Q h e q
  unfold pList at e
  split at e
  · obtain ⟨x, F, rfl, o⟩ := h.one
    split at e
    · rename_i es hs
      split at e
      · rename_i hp
        cases e
        obtain ⟨a, xs, G, rfl, hq, t, h1, h2⟩ := own_seq o hs
        obtain ⟨rfl, h1⟩ := h1 hp
        exact ⟨_, _, rfl, hq, fun l hl => q _ _ (.lst t hl)⟩
      · cases e
    · cases e
  · cases e
theorem pr_all : PrimR K (rAll K) pAll := by
  intro vs ds d H Q h e q
  unfold pAll at e
  split at e
  · obtain ⟨x, F, rfl, o⟩ := h.one
    rename_i es
    cases hi : bools es with
    | none => rw [hi] at e; cases e
    | some ns =>
      rw [hi] at e
      cases e
      cases o with
      | lst h1 t n =>
        rw [own_bools t hi] at h1
        exact ⟨_, _, rfl, SqL.of h1, q _ _ (.sc (.bl _))⟩
  · cases e
end
theorem bt_len : bootBuiltins "len" = some (.builtin "len") := by decide +kernel
theorem bt_abs : bootBuiltins "abs" = some (.builtin "abs") := by decide +kernel
theorem bt_max : bootBuiltins "max" = some (.builtin "max") := by decide +kernel
theorem bt_min : bootBuiltins "min" = some (.builtin "min") := by decide +kernel
theorem bt_all : bootBuiltins "all" = some (.builtin "all") := by decide +kernel
theorem bt_sorted : bootBuiltins "sorted" = some (.builtin "sorted") := by decide +kernel
theorem bt_isinstance : bootBuiltins "isinstance" = some (.builtin "isinstance") := by decide +kernel
theorem bt_int : bootBuiltins "int" = some (.type "int") := by decide +kernel
theorem bt_list : bootBuiltins "list" = some (.type "list") := by decide +kernel
theorem bt_tuple : bootBuiltins "tuple" = some (.type "tuple") := by decide +kernel
theorem bt_dict : bootBuiltins "dict" = some (.type "dict") := by decide +kernel
inductive Kd where
  | int | bool | str | tup | lst
def kdN : Kd → Str
  | .int => "int"
  | .bool => "bool"
  | .str => "str"
  | .tup => "tuple"
  | .lst => "list"
def kdT : Kd → String
  | .int => "int"
  | .bool => "bool"
  | .str => "str"
  | .tup => "tuple"
  | .lst => "list"
def frdB : List (D × D) → Bool
  | [(.none, .dict _)] => true
  | _ => false
def isK : Kd → D → Bool
  | .int, .int _ => true
  | .int, .bool _ => true
  | .bool, .bool _ => true
  | .str, .str _ => true
  | .tup, .tuple _ => true
  | .lst, .list _ => true
  | .lst, .dict kvs => !frdB kvs
  | _, _ => false
def okD : D → Bool
  | .dict kvs => frzT kvs
  | _ => true
def pIsi (k : Kd) : List D → Option D
  | [d] => if okD d = true then some (.bool (isK k d)) else none
  | _ => none
def tyN : D → String
  | .none => "NoneType"
  | .bool _ => "bool"
  | .int _ => "int"
  | .str _ => "str"
  | .tuple _ => "tuple"
  | .list _ => "list"
  | .dict kvs => if frdB kvs = true then "dict" else "list"
theorem kit_d (k : Kd) (d : D) : kitB (tyN d) (kdT k) = some (isK k d) := by
  cases d with
  | dict kvs =>
    cases hk : frdB kvs <;> cases k <;> simp only [tyN, kdT, isK, hk, if_true, if_false, Bool.false_eq_true, Bool.not_true, Bool.not_false] <;> decide +kernel
  | _ => cases k <;> simp only [tyN, kdT, isK] <;> decide +kernel
theorem own_ty {K : PySem.W.Frag} {H : Hp} {d : D} {v : V} {F : List Addr} (o : Own K H d v F) (ok : okD d = true) : TyX K H v (.type (tyN d)) := by
  cases o with
  | dct _ _ _ => simp [okD, frzT] at ok
  | dcn _ _ _ => simp [okD, frzT] at ok
  | frk _ _ => simp [okD, frzT] at ok
  | frn _ _ _ => simp [okD, frzT] at ok
  | ins _ _ _ _ => simp [okD, frzT] at ok
  | opq _ => simp [okD, frzT] at ok
  | non => exact .base .non
  | bl b => exact .base (.bl b)
  | int b => exact .base (.int b)
  | str b => exact .base (.str b)
  | tup h t =>
    rcases h with ⟨o, h, _⟩ | ⟨o, its, n, h1, h2, _⟩
    · exact .fTuple h
    · exact .kTuple h1 h2
  | frz h t =>
    rcases h with ⟨o, h⟩ | ⟨o, its, n, h1, h2, _⟩
    · exact .base (.frz h)
    · exact .kList h1 h2
  | frd h => exact .fDict h
  | lst h t n => exact .base (.lst h)
def rIsiK (K : PySem.W.Frag) (k : Kd) : List V → Hp → VK → Prop := fun vs H Q => rIsi K (vs ++ [.ty (kdT k)]) H Q
theorem pr_isi {K : PySem.W.Frag} (k : Kd) : PrimR K (rIsiK K k) (pIsi k) := by
  intro vs ds d H Q h e q
  unfold pIsi at e
  split at e
  · obtain ⟨x, F, rfl, o⟩ := h.one
    split at e
    · rename_i ok
      cases e
      exact ⟨x, _, _, _, _, rfl, .ty _, own_ty o ok, kit_ty (kit_d k _), q _ _ (.sc (.bl _))⟩
    · cases e
  · cases e
theorem so_isi [Tb] [Vs] {X : Cx} {e : Expr} {ga : O} {p p2 pos : Pos} (k : Kd) (hg : Gl X "isinstance") (hm : X.mg "isinstance" = none) (hg2 : Gl X (kdN k)) (hm2 : X.mg (kdN k) = none) (ha : SimO X e ga)
    (he : starEach (e :: [.Name (kdN k) p2]) X.env = (false, eval e X.env) :: starEach [.Name (kdN k) p2] X.env := by rfl) (hpl : (backTo pos (starEach [.Name (kdN k) p2] X.env)).any (·.1) = false := by rfl)
    (hs2 : starEach [.Name (kdN k) p2] X.env = (false, eval (.Name (kdN k) p2) X.env) :: starEach [] X.env := by rfl) : SimO X (.Call (.Name "isinstance" p) [e, .Name (kdN k) p2] [] pos) (o1 (pIsi k) ga) := by
  have hb : bootBuiltins (kdN k) = some (.type (kdT k)) := by cases k <;> decide +kernel
  have hn : kdN k ≠ "__name__" := by cases k <;> decide
  have hd : (kdN k == ("__debug__" : Str)) = false := by cases k <;> decide
  refine pe_imp (pe_callB call_isi hg hm bt_isinstance (pa_cons ha (pa_cons (pe_bltn hg2 hm2 hb (v := .ty (kdT k)) rfl hn hd) pa_nil hs2) he) (he := he) (hpl := hpl)) fun σ H Q h => ?_
  have z := tA1 (prim (pr_isi k) h)
  exact z
end Sim
namespace Sim
open PySem PySem.Spec L2
/-- x.m(args): the list that x's slot holds, as it becomes; what is given -/
def oMt (f : List D → List D → Option (List D × D)) (i : Nat) (g : AL) : O := fun s => (oV i s).bind fun _ s => match (s[i]?).join with
  | some (.list _) => (g s).bind fun rs s1 => (match (s1[i]?).join, owns rs s1 with
    | some (.list ds), some as => (match f ds as with
      | some (ds', d) => if pur d = true then .ok (.val d) (s1.set i (some (.list ds'))) else .bad
      | none => .bad)
    | _, _ => .bad)
  | _ => .bad
/-- what a rule of a method asks: the list becomes .., the answer -/
def MtD (K : PySem.W.Frag) (r : V → List V → Hp → VK → Prop) (f : List D → List D → Option (List D × D)) : Prop :=
  ∀ (l : Addr) (vs : List V) (F : List Addr) (ds as : List D) (ws : List V) (G : List Addr) (ds' : List D) (d : D) (H : Hp) (Q : VK),
    H l = some (.lst vs) → OwnA K H ds vs F → l ∉ F → OwnA K H as ws G → (∀ a, a ∈ G → a ∉ l :: F) → f ds as = some (ds', d) → pur d = true →
    (∀ vs' F' v, OwnA K H ds' vs' F' → (∀ a, a ∈ F' → a ∈ F ∨ a ∈ G) → Own K H d v [] → Q v (upd H l (.lst vs'))) → r (.ref l) ws H Q
theorem Ev.step [Tb] {H H1 H' : Hp} {Fs Fs1 Fs' : Fp} (a : Ev H Fs H1 Fs1) (c : Chg (InF Fs1) H1 H') (n : ∀ i x, x ∈ Fs' i → x ∈ Fs i ∨ H x = none) : Ev H Fs H' Fs' := by
  refine ⟨⟨fun x o e cc => c.keep x o (a.chg.keep x o e cc) (cc.imp (fun n => ⟨fun z => ?_, n.2⟩) id), fun x e => a.chg.there x (c.there x e), fun t => c.tab (a.chg.tab t)⟩, n⟩
  obtain ⟨i, hi⟩ := z
  rcases a.new i x hi with q | q
  · exact n.1 ⟨i, q⟩
  · rw [e] at q; cases q
section
variable [Tb] [Vs] {X : Cx} {K : PySem.W.Frag} {σ : St} {H : Hp} {Q : VK}
theorem tO_mt {f : List D → List D → Option (List D × D)} {r : V → List V → Hp → VK → Prop} {i : Nat} {g : AL} (hr : MtD K r f) (z : tO K (oMt f i g) σ H Q) : tBM K "list" r (tSl i) (tA K g) σ H Q := by
  obtain ⟨s, Fs, rf, s', R, e, q⟩ := z
  obtain ⟨r0, s0, e0, e⟩ := bind_inv e
  unfold oV at e0
  split at e0
  · rename_i d0 hd0
    cases e0
    split at e
    · rename_i ds0 hds0
      rw [hd0] at hds0
      cases hds0
      obtain ⟨v0, hv0, o0⟩ := R.has i _ (join_some hd0)
      obtain ⟨l, vs0, F0, rfl, hF0, hl0, t0, n0⟩ := own_list o0
      refine ⟨.ref l, hv0, R.lnk.1, .inl ⟨rfl, _, SqL.of hl0⟩, ?_⟩
      obtain ⟨rs, s1, e1, e⟩ := bind_inv e
      refine ⟨s, Fs, rs, s1, R, e1, fun ws H1 Fs1 Gs R1 E1 k1 n1 => ?_⟩
      split at e
      · rename_i ds as hds has
        split at e
        · rename_i ds' d hf
          split at e
          · rename_i hp
            cases e
            obtain ⟨v1, hv1, o1⟩ := R1.has i _ (join_some hds)
            rw [hv0] at hv1
            cases hv1
            obtain ⟨l', vs, F, e2, hF, hl, t, n⟩ := own_list o1
            cases e2
            obtain ⟨oa, dj⟩ := k1.own R1 has
            have li : ∀ a, a ∈ Gs.flatten → a ∉ l :: F := fun a ha hb => dj i a (by rw [hF]; exact hb) ha
            refine hr l vs F ds as ws Gs.flatten ds' d H1 Q hl t n oa li hf hp fun vs' F' v o' sub ov => ?_
            have n' : l ∉ F' := fun h => by
              rcases sub l h with z | z
              · exact n z
              · exact li l z (List.mem_cons_self ..)
            obtain ⟨Fs2, R2, c2, w2⟩ := R1.wr (Fd := Gs.flatten) (join_some hds) hv0 hl hF o' n' sub (fun j a ha => dj j a ha)
            have ch : Chg (fun a => a = l) H1 (upd H1 l (.lst vs')) := .upd1 (m := .lst _) hl
            refine q v _ Fs2 [] R2 (E1.step c2 fun j a ha => ?_) (.val ⟨ov.chg ch (fun _ z => nomatch z), fun _ _ _ z => nomatch z⟩) (fun _ z => nomatch z)
            rcases w2 j a ha with z | z
            · exact E1.new j a z
            · obtain ⟨G, hG, hb⟩ := List.mem_flatten.mp z
              exact .inr (n1 G hG a hb)
          · cases e
        · cases e
      · cases e
    · cases e
  · cases e0
theorem so_mtF {e0 : Expr} {f : List D → List D → Option (List D × D)} {r : V → List V → Hp → VK → Prop} {i : Nat} {g : AL} {name : Str} {id : String} {apos cpos : Pos} {e : Expr} {es : List Expr} (hr : MtD X.K r f) (slot : Slot "list" name id) (hty : typeOf (.builtin id) = pure (.type "method_descriptor")) (hm : MtR X id r)
    (ho : PE X e0 (tSl i)) (ha : SimA X (e :: es) g)
    (hbase : attributeBase e0 name X.env (eval e0 X.env) = eval e0 X.env := by rfl)
    (hfew : ((backTo cpos (starEach (e :: es) X.env)).all (fun x => !x.1) && (backToKw cpos (keywordEach [] X.env)).all (fun x => x.1.isSome)
      && decide ((e :: es).length + ([] : List Keyword).length + (if ([] : List Keyword).isEmpty then 0 else 1) < 30)) = true := by rfl)
    (hline : (apos.endLine == cpos.line) = true := by rfl) (hs : starEach (e :: es) X.env = (false, eval e X.env) :: starEach es X.env := by rfl) (hplain : (backTo cpos (starEach es X.env)).any (·.1) = false := by rfl) :
    SimO X (.Call (.Attribute e0 name apos) (e :: es) [] cpos) (oMt f i g) :=
  pe_imp (pe_bm PySem.F.plainAttrs_list slot hty hm ho ha hbase hfew hline hs hplain) fun _ _ _ h => tO_mt hr h
theorem so_mt {f : List D → List D → Option (List D × D)} {r : V → List V → Hp → VK → Prop} {i : Nat} {g : AL} {x name : Str} {id : String} {p apos cpos : Pos} {e : Expr} {es : List Expr} (hr : MtD X.K r f) (slot : Slot "list" name id) (hty : typeOf (.builtin id) = pure (.type "method_descriptor")) (hm : MtR X id r)
    (ho : PE X (.Name x p) (tVar i)) (ha : SimA X (e :: es) g)
    (hbase : attributeBase (.Name x p) name X.env (eval (.Name x p) X.env) = eval (.Name x p) X.env := by rfl)
    (hfew : ((backTo cpos (starEach (e :: es) X.env)).all (fun x => !x.1) && (backToKw cpos (keywordEach [] X.env)).all (fun x => x.1.isSome)
      && decide ((e :: es).length + ([] : List Keyword).length + (if ([] : List Keyword).isEmpty then 0 else 1) < 30)) = true := by rfl)
    (hline : (apos.endLine == cpos.line) = true := by rfl) (hs : starEach (e :: es) X.env = (false, eval e X.env) :: starEach es X.env := by rfl) (hplain : (backTo cpos (starEach es X.env)).any (·.1) = false := by rfl) :
    SimO X (.Call (.Attribute (.Name x p) name apos) (e :: es) [] cpos) (oMt f i g) :=
  so_mtF hr slot hty hm (tsl_of ho) ha hbase hfew hline hs hplain
end
def mApp : List D → List D → Option (List D × D)
  | ds, [d] => if ds.length < 1000000 then some (ds ++ [d], .none) else none
  | _, _ => none
def mPopAt : List D → List D → Option (List D × D)
  | ds, [.int i] => if purs ds = true ∧ ds.length ≤ 1000000 then (match ixN ds.length i with
    | none => none
    | some j => (match ds[j]? with
      | none => none
      | some d => some (ds.eraseIdx j, d))) else none
  | _, _ => none
section
variable {K : PySem.W.Frag} {H : Hp}
theorem owna1 {d : D} {vs : List V} {F : List Addr} (h : OwnA K H [d] vs F) : ∃ v, vs = [v] ∧ Own K H d v F := by
  cases h with
  | @cons v _ _ _ F G o t n =>
    cases t
    rw [List.append_nil]
    exact ⟨v, rfl, o⟩
theorem OwnA.er {H : Hp} : ∀ {as : List D} {vs : List V}, OwnA K H as vs [] → ∀ n, OwnA K H (as.eraseIdx n) (vs.eraseIdx n) []
  | [], [], _, _ => .nil
  | _ :: _, _ :: _, h, 0 => h.nil2.2
  | _ :: _, _ :: _, h, n + 1 => .cons0 h.nil2.1 (OwnA.er h.nil2.2 n)
  | [], _ :: _, h, _ => nomatch h
  | _ :: _, [], h, _ => nomatch h
theorem md_app : MtD K rAppend mApp := by
  intro l vs F ds as ws G ds' d H Q hl t n oa li hf hp q
  unfold mApp at hf
  split at hf
  · rename_i ds y
    split at hf
    · rename_i hz
      cases hf
      obtain ⟨v, rfl, o⟩ := owna1 oa
      obtain ⟨F', t', sub⟩ := OwnA.snoc o t fun a ha hb => li a hb (List.mem_cons_of_mem _ ha)
      refine ⟨l, _, v, rfl, rfl, hl, ?_, q _ F' .non t' sub .non⟩
      rw [t.len]
      exact Nat.lt_of_lt_of_le hz big_le
    · cases hf
  · cases hf
theorem md_popAt : MtD K rPopAt mPopAt := by
  intro l vs F ds as ws G ds' d H Q hl t n oa li hf hp q
  unfold mPopAt at hf
  split at hf
  · rename_i ds i
    split at hf
    · rename_i hz
      split at hf
      · cases hf
      · rename_i j hj
        split at hf
        · cases hf
        · rename_i y hy
          cases hf
          obtain ⟨v, rfl, o⟩ := owna1 oa
          cases o
          have e1 := t.pur hz.1
          subst e1
          obtain ⟨v, G', hv, o', sb⟩ := t.get j _ hy
          have e2 := o'.pur hp
          subst e2
          obtain ⟨h1, h2, h3, h4⟩ := L2.ixN_seq hj
          refine ⟨l, vs, i, j, v, rfl, rfl, hl, by omega, by omega, by rw [t.len]; exact h1, hv, q _ [] v (t.er j) (fun _ z => nomatch z) o'⟩
    · cases hf
  · cases hf
end
end Sim
namespace Sim
open PySem PySem.Spec L2
def truD : D → Option Bool
  | .none => some false
  | .bool b => some b
  | .int i => some (i != 0)
  | .str z => if z.length ≤ 1000000 then some ((z.length : Int) != 0) else none
  | .list ds => some (!ds.isEmpty)
  | .tuple ds => some (!ds.isEmpty)
  | .dict [(.none, .list ds)] => some (!ds.isEmpty)
  | .dict _ => none
def tstA (g : O) : T := fun s => (g s).bind fun r s1 => match rd r s1 with
  | some d => (match truD d with
    | some b => .ok b s1
    | none => .bad)
  | none => .bad
theorem OwnA.emp {K : PySem.W.Frag} {H : Hp} {ds : List D} {vs : List V} {F : List Addr} (t : OwnA K H ds vs F) : ds.isEmpty = vs.isEmpty := by
  cases t <;> rfl
section
variable [Tb] [Vs] {X : Cx} {K : PySem.W.Frag} {H : Hp} {σ : St} {Q : VK} {a : Expr} {ga : O}
theorem tT_tstA {g : O} {Q : Bool → Hp → Prop} (h : tT K (tstA g) σ H Q) : tO K g σ H fun x H1 => ∃ k, TruV K x H1 k ∧ Q k H1 := by
  obtain ⟨s, Fs, b, s', R, e, q⟩ := h
  obtain ⟨r, s1, e1, e⟩ := bind_inv e
  refine ⟨s, Fs, r, s1, R, e1, fun v H1 Fs1 F R1 E1 k1 n1 => ?_⟩
  split at e
  · rename_i d hb
    split at e
    · rename_i b' ht
      cases e
      obtain ⟨F', o⟩ := k1.dp R1 hb
      refine ⟨b, ?_, q H1 Fs1 R1 E1⟩
      cases o with
      | frd _ => simp [truD] at ht
      | dct _ _ _ => simp [truD] at ht
      | dcn _ _ _ => simp [truD] at ht
      | frk _ _ => simp [truD] at ht
      | frn _ _ _ => simp [truD] at ht
      | ins _ _ _ _ => simp [truD] at ht
      | opq _ => simp [truD] at ht
      | non => cases ht; rfl
      | bl b => cases ht; rfl
      | int i => cases ht; rfl
      | str z =>
        simp only [truD] at ht
        split at ht
        · rename_i hz
          cases ht
          exact ⟨Nat.le_trans hz big_le, rfl⟩
        · cases ht
      | tup h t =>
        cases ht
        exact .inr (.inl ⟨_, h.sq, by rw [t.emp]⟩)
      | frz h t =>
        cases ht
        exact .inl ⟨_, h.sq, by rw [t.emp]⟩
      | lst h t n =>
        cases ht
        exact .inl ⟨_, SqL.of h, by rw [t.emp]⟩
    · cases e
  · cases e
theorem st_any (ha : SimO X a ga) (he : ∀ whole, isTrue a X.env whole = (do let v ← whole; standAt a.pos; holding [v] (truthy v)) := by intro _; rfl) : SimT X a (tstA ga) :=
  pt_imp (pt_truth ha he) fun _ _ _ h => tT_tstA h
end
section
variable [Tb] [Vs] {X : Cx} {lk : Nat → Bool}
theorem ss_setLc {i : Nat} {y : Str} {py : Pos} {elt tg iter : Expr} {ifs : List Expr} {scope : Scope} {own : List (Str × Nat)} {pos spos : Pos} {it : I} {t : Tg} {c : T} {e : O} (hc : X.calm = true) (hN : X.N.Nodup) (hy : X.N[i]? = some y) (hyl : X.env.scope.names.lookup y = some .local) (hl : lk i = false)
    (hi : SimI X tg iter it) (ok : BlkOk X.N X.env.scope scope own)
    (hg : ∀ (s : Shared) (H : Hp) (C : Addr) (cl : List (Str × Addr)) (fp : List Addr), SimG (X.blk s H scope (compEnvC scope cl C X.env) fp) (lkc (own.map (·.2))) tg t) (ht : ∀ (s : Shared) (H : Hp) (C : Addr) (cl : List (Str × Addr)) (fp : List Addr), SimPT (X.blk s H scope (compEnvC scope cl C X.env) fp) ifs c)
    (he : ∀ (s : Shared) (H : Hp) (C : Addr) (cl : List (Str × Addr)) (fp : List Addr), SimO (X.blk s H scope (compEnvC scope cl C X.env) fp) elt e) (hs : ∀ x, foldedSetIterable iter X.env x = pure x := by intro _; rfl)
    (hsw : swapsWith (.ListComp elt [⟨tg, iter, ifs, 0⟩] scope pos) (some (.Name y py)) spos.line X.env = pure true := by rfl)
    (ko : ∀ v, v ∈ own.map (·.2) → Vs.ok v := by first | exact fun _ _ => trivial | assumption | decide) (ki : Vs.ok i := by first | exact trivial | assumption | exact ⟨by decide, by decide⟩) :
    SimS X lk (.Assign [.Name y py] (.ListComp elt [⟨tg, iter, ifs, 0⟩] scope pos) spos) (sSet i (oComp it t c e (own.map (·.2)))) := by
  have hg' : ∀ (s : Shared) (H : Hp) (C : Addr) (cl : List (Str × Addr)) (fp : List Addr), PG (X.blk s H scope (compEnvC scope cl C X.env) fp) tg (tG X.K (lkc (own.map (·.2))) t) := hg
  have ht' : ∀ (s : Shared) (H : Hp) (C : Addr) (cl : List (Str × Addr)) (fp : List Addr), PTs (X.blk s H scope (compEnvC scope cl C X.env) fp) ifs (tT X.K c) := ht
  have he' : ∀ (s : Shared) (H : Hp) (C : Addr) (cl : List (Str × Addr)) (fp : List Addr), PE (X.blk s H scope (compEnvC scope cl C X.env) fp) elt (tO X.K e) := he
  refine ps_imp (ps_setLc hc hN hy hyl hsw hi ok hg' ht' he' hs) fun D σ H z => ?_
  have w := tS_asg z
  exact tO_comp ko (tO_mono (fun v H h => by have w := tG_nm hl ki h; exact w) w)
theorem ss_nevers {sts : List Stmt} : SimSs X lk sts sNever := pss_imp pss_never fun D σ H ⟨s, Fs, fl, s', R, e, q⟩ => by cases e
end
/-- more slots held -/
def lkp (is : List Nat) (lk : Nat → Bool) : Nat → Bool := fun j => is.contains j || lk j
theorem units65 {k : Nat} {A : Around} (r : Room k A) : A.units + 65 < cLine := by have := r.un; omega
theorem spF_law {f : Fn} (hf : ∀ ns : List Int, ns.length ≤ 63 → ∃ as, f [.dict [(.none, .list (ns.map .int))]] = .ok (.bool true) as) (K : PySem.W.Frag) (H : Hp) (a : Addr) (ns : List Int) (h1 : ns.length ≤ 63) (h2 : Only H) (h3 : SqL K H a (ns.map V.int)) :
    spF K 1 f [.ref a] H (fun v _ => v = .bl true) fun _ _ _ => False := by
  obtain ⟨as, e⟩ := hf ns h1
  have hq : SqF K H a (ns.map V.int) := by
    rcases h3 with (h | ⟨o, h⟩) | h
    · rcases h2 a with z | ⟨o, xs, z⟩ <;> rw [h] at z <;> cases z
    · exact .inl ⟨o, h⟩
    · exact .inr h
  have ho : ∀ ns : List Int, OwnA K H (ns.map .int) (ns.map V.int) [] := fun ns => by
    induction ns with
    | nil => exact .nil
    | cons n ns ih => exact OwnA.cons0 (.int n) ih
  refine ⟨_, [[]], _, as, e, rfl, (fun _ h => nomatch h), .cons (.frz hq (ho ns)) (by simp) .nil, fun v H' Fl' F h c n o _ _ => ?_⟩
  cases o
  rfl
end Sim
namespace Sim
open PySem PySem.Spec L2
@[simp] theorem ev_ok {α β : Type} (a : α) (s : Sg) (k : α → Sg → Res β) : (Res.ok a s).bind k = k a s := rfl
@[simp] theorem ev_exc {α β : Type} (c : Str) (v : D) (s : Sg) (k : α → Sg → Res β) : (Res.exc c v s).bind k = .exc c v s := rfl
@[simp] theorem ev_bad {α β : Type} (k : α → Sg → Res β) : (Res.bad : Res α).bind k = .bad := rfl
@[simp] theorem rd_val (d : D) (s : Sg) : rd (.val d) s = some d := rfl
@[simp] theorem rd_slot (i : Nat) (s : Sg) : rd (.slot i) s = (s[i]?).join := rfl
def rdsK (a : Option D) (b : Option (List D)) : Option (List D) := match a with
  | none => none
  | some d => match b with
    | none => none
    | some ds => some (d :: ds)
@[simp] theorem rds_nil (s : Sg) : rds [] s = some [] := rfl
@[simp] theorem rds_cons (r : Rf) (rs : List Rf) (s : Sg) : rds (r :: rs) s = rdsK (rd r s) (rds rs s) := rfl
@[simp] theorem rdsK_some (d : D) (ds : List D) : rdsK (some d) (some ds) = some (d :: ds) := rfl
def ownK : Option D → Option D
  | none => none
  | some d => if pur d = true then some d else none
@[simp] theorem own_val (d : D) (s : Sg) : own (.val d) s = some d := rfl
@[simp] theorem own_slot (i : Nat) (s : Sg) : own (.slot i) s = ownK (s[i]?).join := rfl
@[simp] theorem ownK_some (d : D) : ownK (some d) = if pur d = true then some d else none := rfl
@[simp] theorem owns_nil (s : Sg) : owns [] s = some [] := rfl
@[simp] theorem owns_cons (r : Rf) (rs : List Rf) (s : Sg) : owns (r :: rs) s = rdsK (own r s) (owns rs s) := rfl
@[simp] theorem pur_non : pur .none = true := by rfl
@[simp] theorem pur_bool (b : Bool) : pur (.bool b) = true := by rfl
@[simp] theorem pur_int (b : Int) : pur (.int b) = true := by rfl
@[simp] theorem pur_str (b : Str) : pur (.str b) = true := by rfl
@[simp] theorem pur_tuple (b : List D) : pur (.tuple b) = purs b := by simp [pur]
@[simp] theorem pur_list (b : List D) : pur (.list b) = false := by simp [pur]
@[simp] theorem pur_frz (b : List D) : pur (.dict [(.none, .list b)]) = true := by simp [pur, frzT]
@[simp] theorem purs_nil : purs [] = true := by rfl
@[simp] theorem purs_cons (d : D) (b : List D) : purs (d :: b) = (pur d && purs b) := by simp [purs]
@[simp] theorem purs_ints (l : List Int) : purs (l.map .int) = true := by induction l <;> simp_all
@[simp] theorem purs_map {α : Type} (f : α → Int) (l : List α) : purs (l.map fun a => .int (f a)) = true := by induction l <;> simp_all
@[simp] theorem purs_mapB {α : Type} (f : α → Bool) (l : List α) : purs (l.map fun a => .bool (f a)) = true := by induction l <;> simp_all
@[simp] theorem purs_append (a b : List D) : purs (a ++ b) = (purs a && purs b) := purs_app
def oVK (i : Nat) (s : Sg) : Option D → Res Rf
  | some _ => .ok (.slot i) s
  | none => .bad
@[simp] theorem ev_oV (i : Nat) (s : Sg) : oV i s = oVK i s (s[i]?).join := by
  unfold oV oVK; rfl
@[simp] theorem ev_oVK (i : Nat) (s : Sg) (d : D) : oVK i s (some d) = .ok (.slot i) s := rfl
@[simp] theorem ev_oC (d : D) (s : Sg) : oC d s = .ok (.val d) s := rfl
@[simp] theorem ev_aNil (s : Sg) : aNil s = .ok [] s := rfl
def consK2 (r : Rf) (rs : List Rf) (s : Sg) : Res (List Rf) := .ok (r :: rs) s
def consK (h : AL) (r : Rf) (s : Sg) : Res (List Rf) := (h s).bind (consK2 r)
@[simp] theorem ev_aCons (g : O) (h : AL) (s : Sg) : aCons g h s = (g s).bind (consK h) := rfl
@[simp] theorem ev_consK (h : AL) (r : Rf) (s : Sg) : consK h r s = (h s).bind (consK2 r) := rfl
@[simp] theorem ev_consK2 (r : Rf) (rs : List Rf) (s : Sg) : consK2 r rs s = .ok (r :: rs) s := rfl
def primK3 (s : Sg) : Option D → Res Rf
  | none => .bad
  | some d => .ok (.val d) s
def primK2 (f : List D → Option D) (s : Sg) : Option (List D) → Res Rf
  | none => .bad
  | some ds => primK3 s (f ds)
def primK (f : List D → Option D) (rs : List Rf) (s : Sg) : Res Rf := primK2 f s (rds rs s)
@[simp] theorem ev_prim (f : List D → Option D) (g : AL) (s : Sg) : oPrim f g s = (g s).bind (primK f) := by
  unfold oPrim; refine congrArg (Res.bind _) ?_; funext rs s1; unfold primK primK2; cases rds rs s1 <;> rfl
@[simp] theorem ev_primK (f : List D → Option D) (rs : List Rf) (s : Sg) : primK f rs s = primK2 f s (rds rs s) := rfl
@[simp] theorem ev_primK2 (f : List D → Option D) (ds : List D) (s : Sg) : primK2 f s (some ds) = primK3 s (f ds) := rfl
@[simp] theorem ev_primK3 (d : D) (s : Sg) : primK3 s (some d) = .ok (.val d) s := rfl
@[simp] theorem ev_o1 (f : List D → Option D) (a : O) (s : Sg) : o1 f a s = ((a s).bind (consK aNil)).bind (primK f) := by unfold o1; rw [ev_prim]; rfl
@[simp] theorem ev_o2 (f : List D → Option D) (a b : O) (s : Sg) : o2 f a b s = ((a s).bind (consK (aCons b aNil))).bind (primK f) := by unfold o2; rw [ev_prim]; rfl
def tstK2 (s : Sg) : Option D → Res Bool
  | some (.bool b) => .ok b s
  | _ => .bad
def tstK (r : Rf) (s : Sg) : Res Bool := tstK2 s (rd r s)
@[simp] theorem ev_tst (g : O) (s : Sg) : tst g s = (g s).bind tstK := rfl
@[simp] theorem ev_tstK (r : Rf) (s : Sg) : tstK r s = tstK2 s (rd r s) := rfl
@[simp] theorem ev_tstK2 (s : Sg) (b : Bool) : tstK2 s (some (.bool b)) = .ok b s := rfl
def tstAK3 (s : Sg) : Option Bool → Res Bool
  | some b => .ok b s
  | none => .bad
def tstAK2 (s : Sg) : Option D → Res Bool
  | some d => tstAK3 s (truD d)
  | none => .bad
def tstAK (r : Rf) (s : Sg) : Res Bool := tstAK2 s (rd r s)
@[simp] theorem ev_tstA (g : O) (s : Sg) : tstA g s = (g s).bind tstAK := by
  unfold tstA; refine congrArg (Res.bind _) ?_; funext r s1; unfold tstAK tstAK2; cases rd r s1 with
  | none => rfl
  | some d => cases h : truD d <;> simp [h, tstAK3]
@[simp] theorem ev_tstAK (r : Rf) (s : Sg) : tstAK r s = tstAK2 s (rd r s) := rfl
@[simp] theorem ev_tstAK2 (s : Sg) (d : D) : tstAK2 s (some d) = tstAK3 s (truD d) := rfl
@[simp] theorem ev_tstAK3 (s : Sg) (b : Bool) : tstAK3 s (some b) = .ok b s := rfl
@[simp] theorem tru_bool (b : Bool) : truD (.bool b) = some b := rfl
@[simp] theorem tru_int (b : Int) : truD (.int b) = some (b != 0) := rfl
@[simp] theorem tru_list (b : List D) : truD (.list b) = some (!b.isEmpty) := rfl
@[simp] theorem tru_tuple (b : List D) : truD (.tuple b) = some (!b.isEmpty) := rfl
def andK2 (h : O) (s : Sg) : Option D → Res Rf
  | some (.bool true) => h s
  | some (.bool false) => .ok (.val (.bool false)) s
  | _ => .bad
def andK (h : O) (r : Rf) (s : Sg) : Res Rf := andK2 h s (rd r s)
@[simp] theorem ev_oAnd (g h : O) (s : Sg) : oAnd g h s = (g s).bind (andK h) := rfl
@[simp] theorem ev_andK (h : O) (r : Rf) (s : Sg) : andK h r s = andK2 h s (rd r s) := rfl
@[simp] theorem ev_andK2 (h : O) (s : Sg) (b : Bool) : andK2 h s (some (.bool b)) = if b = true then h s else .ok (.val (.bool false)) s := by cases b <;> rfl
def orK2 (h : O) (s : Sg) : Option D → Res Rf
  | some (.bool true) => .ok (.val (.bool true)) s
  | some (.bool false) => h s
  | _ => .bad
def orK (h : O) (r : Rf) (s : Sg) : Res Rf := orK2 h s (rd r s)
@[simp] theorem ev_oOr (g h : O) (s : Sg) : oOr g h s = (g s).bind (orK h) := rfl
@[simp] theorem ev_orK (h : O) (r : Rf) (s : Sg) : orK h r s = orK2 h s (rd r s) := rfl
@[simp] theorem ev_orK2 (h : O) (s : Sg) (b : Bool) : orK2 h s (some (.bool b)) = if b = true then .ok (.val (.bool true)) s else h s := by cases b <;> rfl
def notK2 (s : Sg) : Option D → Res Rf
  | some (.bool b) => .ok (.val (.bool (!b))) s
  | _ => .bad
def notK (r : Rf) (s : Sg) : Res Rf := notK2 s (rd r s)
@[simp] theorem ev_oNot (g : O) (s : Sg) : oNot g s = (g s).bind notK := rfl
@[simp] theorem ev_notK (r : Rf) (s : Sg) : notK r s = notK2 s (rd r s) := rfl
@[simp] theorem ev_notK2 (s : Sg) (b : Bool) : notK2 s (some (.bool b)) = .ok (.val (.bool (!b))) s := rfl
def tAndK (u : T) (b : Bool) (s : Sg) : Res Bool := if b = true then u s else .ok false s
@[simp] theorem ev_tAnd (t u : T) (s : Sg) : tAnd t u s = (t s).bind (tAndK u) := rfl
@[simp] theorem ev_tAndK (u : T) (b : Bool) (s : Sg) : tAndK u b s = if b = true then u s else .ok false s := rfl
def tOrK (u : T) (b : Bool) (s : Sg) : Res Bool := if b = true then .ok true s else u s
@[simp] theorem ev_tOr (t u : T) (s : Sg) : tOr t u s = (t s).bind (tOrK u) := rfl
@[simp] theorem ev_tOrK (u : T) (b : Bool) (s : Sg) : tOrK u b s = if b = true then .ok true s else u s := rfl
def tNotK (b : Bool) (s : Sg) : Res Bool := .ok (!b) s
@[simp] theorem ev_tNot (t : T) (s : Sg) : tNot t s = (t s).bind tNotK := rfl
@[simp] theorem ev_tNotK (b : Bool) (s : Sg) : tNotK b s = .ok (!b) s := rfl
def oIfK (a b : O) (k : Bool) (s : Sg) : Res Rf := if k = true then a s else b s
@[simp] theorem ev_oIf (c : T) (a b : O) (s : Sg) : oIf c a b s = (c s).bind (oIfK a b) := rfl
@[simp] theorem ev_oIfK (a b : O) (k : Bool) (s : Sg) : oIfK a b k s = if k = true then a s else b s := rfl
def chK4 (s : Sg) : Option D → Res Rf
  | none => .bad
  | some d => .ok (.val d) s
def chK3 (f' : List D → Option D) (s : Sg) : Option (List D) → Res Rf
  | none => .bad
  | some es => chK4 s (f' es)
def chK2c (f' : List D → Option D) (rb rc : Rf) (s : Sg) : Res Rf := chK3 f' s (rds [rb, rc] s)
def chK2b (f' : List D → Option D) (c : O) (rb : Rf) (s : Sg) : Option D → Res Rf
  | some (.bool true) => (c s).bind (chK2c f' rb)
  | some (.bool false) => .ok (.val (.bool false)) s
  | _ => .bad
def chK2a (f f' : List D → Option D) (c : O) (rb : Rf) (s : Sg) : Option (List D) → Res Rf
  | none => .bad
  | some ds => chK2b f' c rb s (f ds)
def chK1 (f f' : List D → Option D) (c : O) (ra rb : Rf) (s : Sg) : Res Rf := chK2a f f' c rb s (rds [ra, rb] s)
def chK0 (f f' : List D → Option D) (b c : O) (ra : Rf) (s : Sg) : Res Rf := (b s).bind (chK1 f f' c ra)
@[simp] theorem ev_chain (f f' : List D → Option D) (a b c : O) (s : Sg) : oChain f f' a b c s = (a s).bind (chK0 f f' b c) := by
  unfold oChain; refine congrArg (Res.bind _) ?_; funext ra s1; unfold chK0; refine congrArg (Res.bind _) ?_; funext rb s2; unfold chK1 chK2a
  cases rds [ra, rb] s2 with
  | none => rfl
  | some ds =>
    show _ = chK2b f' c rb s2 (f ds)
    unfold chK2b
    cases hf : f ds with
    | none => simp [hf]
    | some d => cases d with
      | bool b => cases b with
        | false => simp [hf]
        | true =>
          simp only [hf]
          refine congrArg (Res.bind _) ?_; funext rc s3; unfold chK2c chK3
          cases rds [rb, rc] s3 with
          | none => rfl
          | some es => cases hg : f' es <;> simp [hg, chK4]
      | _ => simp [hf]
@[simp] theorem ev_chK0 (f f' : List D → Option D) (b c : O) (ra : Rf) (s : Sg) : chK0 f f' b c ra s = (b s).bind (chK1 f f' c ra) := rfl
@[simp] theorem ev_chK1 (f f' : List D → Option D) (c : O) (ra rb : Rf) (s : Sg) : chK1 f f' c ra rb s = chK2a f f' c rb s (rds [ra, rb] s) := rfl
@[simp] theorem ev_chK2a (f f' : List D → Option D) (c : O) (rb : Rf) (s : Sg) (ds : List D) : chK2a f f' c rb s (some ds) = chK2b f' c rb s (f ds) := rfl
@[simp] theorem ev_chK2b (f' : List D → Option D) (c : O) (rb : Rf) (s : Sg) (b : Bool) : chK2b f' c rb s (some (.bool b)) = if b = true then (c s).bind (chK2c f' rb) else .ok (.val (.bool false)) s := by cases b <;> rfl
@[simp] theorem ev_chK2c (f' : List D → Option D) (rb rc : Rf) (s : Sg) : chK2c f' rb rc s = chK3 f' s (rds [rb, rc] s) := rfl
@[simp] theorem ev_chK3 (f' : List D → Option D) (s : Sg) (ds : List D) : chK3 f' s (some ds) = chK4 s (f' ds) := rfl
@[simp] theorem ev_chK4 (s : Sg) (d : D) : chK4 s (some d) = .ok (.val d) s := rfl
def tupK2 (s : Sg) : Option (List D) → Res Rf
  | none => .bad
  | some ds => if ds.length ≤ 1000000 then .ok (.val (.tuple ds)) s else .bad
def tupK (rs : List Rf) (s : Sg) : Res Rf := tupK2 s (owns rs s)
@[simp] theorem ev_oTup (g : AL) (s : Sg) : oTup g s = (g s).bind tupK := rfl
@[simp] theorem ev_tupK (rs : List Rf) (s : Sg) : tupK rs s = tupK2 s (owns rs s) := rfl
@[simp] theorem ev_tupK2 (s : Sg) (ds : List D) : tupK2 s (some ds) = if ds.length ≤ 1000000 then .ok (.val (.tuple ds)) s else .bad := rfl
def lstK2 (s : Sg) : Option (List D) → Res Rf
  | none => .bad
  | some ds => if ds.length ≤ 1000000 then .ok (.val (.list ds)) s else .bad
def lstK (rs : List Rf) (s : Sg) : Res Rf := lstK2 s (owns rs s)
@[simp] theorem ev_oLst (g : AL) (s : Sg) : oLst g s = (g s).bind lstK := rfl
@[simp] theorem ev_lstK (rs : List Rf) (s : Sg) : lstK rs s = lstK2 s (owns rs s) := rfl
@[simp] theorem ev_lstK2 (s : Sg) (ds : List D) : lstK2 s (some ds) = if ds.length ≤ 1000000 then .ok (.val (.list ds)) s else .bad := rfl
def prtK2 (s : Sg) : Option D → Res (Option Int)
  | some (.int i) => .ok (some i) s
  | _ => .bad
def prtK (r : Rf) (s : Sg) : Res (Option Int) := prtK2 s (rd r s)
@[simp] theorem ev_prt_none (s : Sg) : prt none s = .ok none s := rfl
@[simp] theorem ev_prt_some (g : O) (s : Sg) : prt (some g) s = (g s).bind prtK := rfl
@[simp] theorem ev_prtK (r : Rf) (s : Sg) : prtK r s = prtK2 s (rd r s) := rfl
@[simp] theorem ev_prtK2 (s : Sg) (i : Int) : prtK2 s (some (.int i)) = .ok (some i) s := rfl
def slK5 (s : Sg) : Option D → Res Rf
  | none => .bad
  | some d => .ok (.val d) s
def slK4 (l u : Option Int) (s : Sg) : Option D → Res Rf
  | none => .bad
  | some d => slK5 s (slD d l u)
def slK3 (r : Rf) (l u : Option Int) (s : Sg) : Res Rf := slK4 l u s (rd r s)
def slK2 (hi : Option O) (r : Rf) (l : Option Int) (s : Sg) : Res Rf := (prt hi s).bind (slK3 r l)
def slK1 (lo hi : Option O) (r : Rf) (s : Sg) : Res Rf := (prt lo s).bind (slK2 hi r)
@[simp] theorem ev_oSl (g : O) (lo hi : Option O) (s : Sg) : oSl g lo hi s = (g s).bind (slK1 lo hi) := by
  unfold oSl; refine congrArg (Res.bind _) ?_; funext r s1; unfold slK1; refine congrArg (Res.bind _) ?_; funext l s2; unfold slK2; refine congrArg (Res.bind _) ?_; funext u s3; unfold slK3 slK4
  cases rd r s3 with
  | none => rfl
  | some d => cases h : slD d l u <;> simp [h, slK5]
@[simp] theorem ev_slK1 (lo hi : Option O) (r : Rf) (s : Sg) : slK1 lo hi r s = (prt lo s).bind (slK2 hi r) := rfl
@[simp] theorem ev_slK2 (hi : Option O) (r : Rf) (l : Option Int) (s : Sg) : slK2 hi r l s = (prt hi s).bind (slK3 r l) := rfl
@[simp] theorem ev_slK3 (r : Rf) (l u : Option Int) (s : Sg) : slK3 r l u s = slK4 l u s (rd r s) := rfl
@[simp] theorem ev_slK4 (d : D) (l u : Option Int) (s : Sg) : slK4 l u s (some d) = slK5 s (slD d l u) := rfl
@[simp] theorem ev_slK5 (d : D) (s : Sg) : slK5 s (some d) = .ok (.val d) s := rfl
def callK3 (rs : List Rf) (ds : List D) (s : Sg) : FRes → Res Rf
  | .ok r as => .ok (.val r) (unlockS (lkz rs ds as) (lockS (lks rs ds) s))
  | .exc c v => .exc c v s
  | .bad => .bad
def callK2 (f : Fn) (rs : List Rf) (s : Sg) : Option (List D) → Res Rf
  | none => .bad
  | some ds => if nodupB ((lks rs ds).map (·.1)) = true then callK3 rs ds s (f ds) else .bad
def callK (f : Fn) (rs : List Rf) (s : Sg) : Res Rf := callK2 f rs s (rds rs s)
@[simp] theorem ev_oCall (f : Fn) (g : AL) (s : Sg) : oCall f g s = (g s).bind (callK f) := by
  unfold oCall; refine congrArg (Res.bind _) ?_; funext rs s1; unfold callK callK2
  cases rds rs s1 with
  | none => rfl
  | some ds =>
    simp only
    split
    · cases h : f ds <;> simp [h, callK3]
    · rfl
@[simp] theorem ev_callK (f : Fn) (rs : List Rf) (s : Sg) : callK f rs s = callK2 f rs s (rds rs s) := rfl
@[simp] theorem ev_callK2 (f : Fn) (rs : List Rf) (s : Sg) (ds : List D) : callK2 f rs s (some ds) = if nodupB ((lks rs ds).map (·.1)) = true then callK3 rs ds s (f ds) else .bad := rfl
@[simp] theorem ev_callK3 (rs : List Rf) (ds : List D) (s : Sg) (r : D) (as : List D) : callK3 rs ds s (.ok r as) = .ok (.val r) (unlockS (lkz rs ds as) (lockS (lks rs ds) s)) := rfl
@[simp] theorem lks_nil : lks [] [] = [] := rfl
@[simp] theorem lks_slot (i : Nat) (rs : List Rf) (d : D) (ds : List D) : lks (.slot i :: rs) (d :: ds) = if pur d = true then lks rs ds else (i, d) :: lks rs ds := rfl
@[simp] theorem lks_val (x : D) (rs : List Rf) (d : D) (ds : List D) : lks (.val x :: rs) (d :: ds) = lks rs ds := rfl
@[simp] theorem lkz_nil : lkz [] [] [] = [] := rfl
@[simp] theorem lkz_slot (i : Nat) (rs : List Rf) (d : D) (ds : List D) (a : D) (as : List D) : lkz (.slot i :: rs) (d :: ds) (a :: as) = if pur d = true then lkz rs ds as else (i, a) :: lkz rs ds as := rfl
@[simp] theorem lkz_val (x : D) (rs : List Rf) (d : D) (ds : List D) (a : D) (as : List D) : lkz (.val x :: rs) (d :: ds) (a :: as) = lkz rs ds as := rfl
@[simp] theorem lockS_nil (s : Sg) : lockS [] s = s := rfl
@[simp] theorem lockS_cons (p : Nat × D) (l : List (Nat × D)) (s : Sg) : lockS (p :: l) s = lockS l (s.set p.1 none) := rfl
@[simp] theorem unlockS_nil (s : Sg) : unlockS [] s = s := rfl
@[simp] theorem unlockS_cons (p : Nat × D) (l : List (Nat × D)) (s : Sg) : unlockS (p :: l) s = unlockS l (s.set p.1 (some p.2)) := rfl
@[simp] theorem nodupB_nil : nodupB [] = true := rfl
@[simp] theorem ev_nodupB (x : Nat) (l : List Nat) : nodupB (x :: l) = (!l.contains x && nodupB l) := rfl
@[simp] theorem clrS_nil (s : Sg) : clrS [] s = s := rfl
@[simp] theorem clrS_cons (v : Nat) (vs : List Nat) (s : Sg) : clrS (v :: vs) s = (clrS vs s).set v none := rfl
def ownSlK (v : Nat) (l : List (Nat × D)) : Option D → List (Nat × D)
  | some d => (v, d) :: l
  | none => l
@[simp] theorem ownSl_nil (s : Sg) : ownSl [] s = [] := rfl
@[simp] theorem ownSl_cons (v : Nat) (vs : List Nat) (s : Sg) : ownSl (v :: vs) s = ownSlK v (ownSl vs s) (s[v]?).join := by
  unfold ownSlK; rw [ownSl] <;> try (cases (s[v]?).join <;> rfl)
@[simp] theorem ownSlK_some (v : Nat) (l : List (Nat × D)) (d : D) : ownSlK v l (some d) = (v, d) :: l := rfl
@[simp] theorem ownSlK_none (v : Nat) (l : List (Nat × D)) : ownSlK v l none = l := rfl
def mtK4 (i : Nat) (s : Sg) : Option (List D × D) → Res Rf
  | some (ds', d) => if pur d = true then .ok (.val d) (s.set i (some (.list ds'))) else .bad
  | none => .bad
def mtK3 (f : List D → List D → Option (List D × D)) (i : Nat) (s : Sg) : Option D → Option (List D) → Res Rf
  | some (.list ds), some as => mtK4 i s (f ds as)
  | _, _ => .bad
def mtK2 (f : List D → List D → Option (List D × D)) (i : Nat) (rs : List Rf) (s : Sg) : Res Rf := mtK3 f i s (s[i]?).join (owns rs s)
def mtK1 (f : List D → List D → Option (List D × D)) (i : Nat) (g : AL) (s : Sg) : Option D → Res Rf
  | some (.list _) => (g s).bind (mtK2 f i)
  | _ => .bad
def mtK (f : List D → List D → Option (List D × D)) (i : Nat) (g : AL) (_ : Rf) (s : Sg) : Res Rf := mtK1 f i g s (s[i]?).join
@[simp] theorem ev_oMt (f : List D → List D → Option (List D × D)) (i : Nat) (g : AL) (s : Sg) : oMt f i g s = (oV i s).bind (mtK f i g) := by
  unfold oMt; refine congrArg (Res.bind _) ?_; funext r s1; unfold mtK
  cases h : (s1[i]?).join with
  | none => rfl
  | some d => cases d with
    | list ds =>
      refine congrArg (Res.bind (g s1)) ?_
      funext rs s2; unfold mtK2
      cases h1 : (s2[i]?).join with
      | none => rfl
      | some d2 => cases d2 with
        | list ds2 => cases h2 : owns rs s2 with
          | none => rfl
          | some as => cases hf : f ds2 as <;> simp [hf, mtK3, mtK4]
        | _ => rfl
    | _ => rfl
@[simp] theorem ev_mtK (f : List D → List D → Option (List D × D)) (i : Nat) (g : AL) (r : Rf) (s : Sg) : mtK f i g r s = mtK1 f i g s (s[i]?).join := rfl
@[simp] theorem ev_mtK1 (f : List D → List D → Option (List D × D)) (i : Nat) (g : AL) (ds : List D) (s : Sg) : mtK1 f i g s (some (.list ds)) = (g s).bind (mtK2 f i) := rfl
@[simp] theorem ev_mtK2 (f : List D → List D → Option (List D × D)) (i : Nat) (rs : List Rf) (s : Sg) : mtK2 f i rs s = mtK3 f i s (s[i]?).join (owns rs s) := rfl
@[simp] theorem ev_mtK3 (f : List D → List D → Option (List D × D)) (i : Nat) (s : Sg) (ds as : List D) : mtK3 f i s (some (.list ds)) (some as) = mtK4 i s (f ds as) := rfl
@[simp] theorem ev_mtK4 (i : Nat) (s : Sg) (ds : List D) (d : D) : mtK4 i s (some (ds, d)) = if pur d = true then .ok (.val d) (s.set i (some (.list ds))) else .bad := rfl
@[simp] theorem ev_sSkip (s : Sg) : sSkip s = .ok .nx s := rfl
@[simp] theorem ev_sBreak (s : Sg) : sBreak s = .ok .bk s := rfl
@[simp] theorem ev_sCont (s : Sg) : sCont s = .ok .ct s := rfl
@[simp] theorem ev_sRetN (s : Sg) : sRetN s = .ok (.rt .none) s := rfl
def seqK (h : S) (fl : Fl) (s : Sg) : Res Fl := match fl with
  | .nx => h s
  | fl => .ok fl s
@[simp] theorem ev_sSeq (g h : S) (s : Sg) : sSeq g h s = (g s).bind (seqK h) := rfl
@[simp] theorem ev_seqK_nx (h : S) (s : Sg) : seqK h .nx s = h s := rfl
@[simp] theorem ev_seqK_rt (h : S) (d : D) (s : Sg) : seqK h (.rt d) s = .ok (.rt d) s := rfl
@[simp] theorem ev_seqK_bk (h : S) (s : Sg) : seqK h .bk s = .ok .bk s := rfl
@[simp] theorem ev_seqK_ct (h : S) (s : Sg) : seqK h .ct s = .ok .ct s := rfl
def exprK (_ : Rf) (s : Sg) : Res Fl := .ok .nx s
@[simp] theorem ev_sExpr (g : O) (s : Sg) : sExpr g s = (g s).bind exprK := rfl
@[simp] theorem ev_exprK (r : Rf) (s : Sg) : exprK r s = .ok .nx s := rfl
def retK2 (lk : Nat → Bool) (i : Nat) (s : Sg) : Option D → Res Fl
  | none => .bad
  | some d => if pur d = true ∨ lk i = false then .ok (.rt d) s else .bad
def retK (lk : Nat → Bool) (r : Rf) (s : Sg) : Res Fl := match r with
  | .val d => .ok (.rt d) s
  | .slot i => retK2 lk i s (s[i]?).join
@[simp] theorem ev_sRet (lk : Nat → Bool) (g : O) (s : Sg) : sRet lk g s = (g s).bind (retK lk) := by
  unfold sRet; refine congrArg (Res.bind _) ?_; funext r s1; cases r <;> rfl
@[simp] theorem ev_retK_val (lk : Nat → Bool) (d : D) (s : Sg) : retK lk (.val d) s = .ok (.rt d) s := rfl
@[simp] theorem ev_retK_slot (lk : Nat → Bool) (i : Nat) (s : Sg) : retK lk (.slot i) s = retK2 lk i s (s[i]?).join := rfl
@[simp] theorem ev_retK2 (lk : Nat → Bool) (i : Nat) (s : Sg) (d : D) : retK2 lk i s (some d) = if pur d = true ∨ lk i = false then .ok (.rt d) s else .bad := rfl
def ifK (g h : S) (b : Bool) (s : Sg) : Res Fl := if b = true then g s else h s
@[simp] theorem ev_sIf (t : T) (g h : S) (s : Sg) : sIf t g h s = (t s).bind (ifK g h) := rfl
@[simp] theorem ev_ifK (g h : S) (b : Bool) (s : Sg) : ifK g h b s = if b = true then g s else h s := rfl
def asgK3 : Option Sg → Res Fl
  | none => .bad
  | some s => .ok .nx s
def asgK2 (t : Tg) (s : Sg) : Option D → Res Fl
  | none => .bad
  | some d => asgK3 (asg t d s)
def asgK (t : Tg) (r : Rf) (s : Sg) : Res Fl := asgK2 t s (own r s)
@[simp] theorem ev_sAsg (t : Tg) (g : O) (s : Sg) : sAsg t g s = (g s).bind (asgK t) := by
  unfold sAsg; refine congrArg (Res.bind _) ?_; funext r s1; unfold asgK asgK2
  cases own r s1 with
  | none => rfl
  | some d => cases h : asg t d s1 <;> simp [h, asgK3]
@[simp] theorem ev_sSet (i : Nat) (g : O) (s : Sg) : sSet i g s = (g s).bind (asgK (.nm i)) := ev_sAsg _ _ _
@[simp] theorem ev_asgK (t : Tg) (r : Rf) (s : Sg) : asgK t r s = asgK2 t s (own r s) := rfl
@[simp] theorem ev_asgK2 (t : Tg) (d : D) (s : Sg) : asgK2 t s (some d) = asgK3 (asg t d s) := rfl
@[simp] theorem ev_asgK3 (s : Sg) : asgK3 (some s) = .ok .nx s := rfl
@[simp] theorem asg_nm (i : Nat) (d : D) (s : Sg) : asg (.nm i) d s = some (s.set i (some d)) := by simp [asg]
@[simp] theorem asg_tp (l : List Tg) (ds : List D) (s : Sg) : asg (.tp l) (.tuple ds) s = asgs l ds s := by simp [asg]
@[simp] theorem asgs_nil (s : Sg) : asgs [] [] s = some s := by simp [asgs]
def asgsK (l : List Tg) (ds : List D) : Option Sg → Option Sg
  | none => none
  | some s => asgs l ds s
@[simp] theorem asgs_cons (t : Tg) (l : List Tg) (d : D) (ds : List D) (s : Sg) : asgs (t :: l) (d :: ds) s = asgsK l ds (asg t d s) := by
  rw [asgs]; unfold asgsK; cases asg t d s <;> rfl
@[simp] theorem asgsK_some (l : List Tg) (ds : List D) (s : Sg) : asgsK l ds (some s) = asgs l ds s := rfl
def ixK4 (i : Nat) (d : D) (ds : List D) (s : Sg) : Option Nat → Res Fl
  | none => .bad
  | some j => .ok .nx (s.set i (some (.list (ds.set j d))))
def ixK3 (i : Nat) (s : Sg) : Option D → Option D → Option D → Res Fl
  | some d, some (.int k), some (.list ds) => if pur d = true then ixK4 i d ds s (ixN ds.length k) else .bad
  | _, _, _ => .bad
def ixK2 (i : Nat) (r : Rf) (ri : Rf) (s : Sg) : Res Fl := ixK3 i s (own r s) (rd ri s) (s[i]?).join
def ixK1 (i : Nat) (gi : O) (r : Rf) (_ : Rf) (s : Sg) : Res Fl := (gi s).bind (ixK2 i r)
def ixK (i : Nat) (gi : O) (r : Rf) (s : Sg) : Res Fl := (oV i s).bind (ixK1 i gi r)
@[simp] theorem ev_sSetIx (i : Nat) (gi g : O) (s : Sg) : sSetIx i gi g s = (g s).bind (ixK i gi) := by
  unfold sSetIx; refine congrArg (Res.bind _) ?_; funext r s1; unfold ixK; refine congrArg (Res.bind _) ?_; funext r2 s2; unfold ixK1; refine congrArg (Res.bind _) ?_; funext ri s3; unfold ixK2
  cases h1 : own r s3 with
  | none => rfl
  | some d => cases h2 : rd ri s3 with
    | none => rfl
    | some k => cases k with
      | int k => cases h3 : (s3[i]?).join with
        | none => rfl
        | some ds => cases ds with
          | list ds => cases h4 : ixN ds.length k <;> simp [h4, ixK3, ixK4]
          | _ => rfl
      | _ => rfl
@[simp] theorem ev_ixK (i : Nat) (gi : O) (r : Rf) (s : Sg) : ixK i gi r s = (oV i s).bind (ixK1 i gi r) := rfl
@[simp] theorem ev_ixK1 (i : Nat) (gi : O) (r r2 : Rf) (s : Sg) : ixK1 i gi r r2 s = (gi s).bind (ixK2 i r) := rfl
@[simp] theorem ev_ixK2 (i : Nat) (r ri : Rf) (s : Sg) : ixK2 i r ri s = ixK3 i s (own r s) (rd ri s) (s[i]?).join := rfl
@[simp] theorem ev_ixK3 (i : Nat) (s : Sg) (d : D) (k : Int) (ds : List D) : ixK3 i s (some d) (some (.int k)) (some (.list ds)) = if pur d = true then ixK4 i d ds s (ixN ds.length k) else .bad := rfl
@[simp] theorem ev_ixK4 (i : Nat) (s : Sg) (d : D) (j : Nat) (ds : List D) : ixK4 i d ds s (some j) = .ok .nx (s.set i (some (.list (ds.set j d)))) := rfl
def mkK2 (fl : Fl) : Option (List D) → FRes
  | none => .bad
  | some as => match fl with
    | .nx => .ok .none as
    | .rt d => .ok d as
    | _ => .bad
def mkK (ms : List Nat) (ds : List D) : Res Fl → FRes
  | .ok fl s => mkK2 fl (coll ms ds 0 s)
  | .exc c v _ => .exc c v
  | .bad => .bad
theorem ev_mkFn (ms : List Nat) (n : Nat) (g : S) (ds : List D) : mkFn ms n g ds = if okM ms ds = true then mkK ms ds (g (ds.map some ++ List.replicate (n - ds.length) none)) else .bad := by
  unfold mkFn
  split
  · unfold mkK
    cases g (ds.map some ++ List.replicate (n - ds.length) none) with
    | ok fl s =>
      simp only
      cases h : coll ms ds 0 s with
      | none => simp [h, mkK2]
      | some as => cases fl <;> simp [h, mkK2]
    | exc c v s => rfl
    | bad => rfl
  · rfl
@[simp] theorem ev_mkK (ms : List Nat) (ds : List D) (fl : Fl) (s : Sg) : mkK ms ds (.ok fl s) = mkK2 fl (coll ms ds 0 s) := rfl
@[simp] theorem ev_mkK2_rt (d : D) (as : List D) : mkK2 (.rt d) (some as) = .ok d as := rfl
@[simp] theorem ev_mkK2_nx (as : List D) : mkK2 .nx (some as) = .ok .none as := rfl
@[simp] theorem coll_nil (j : Nat) (s : Sg) : coll [] [] j s = some [] := rfl
def collK0 (a : Option D) (b : Option (List D)) : Option (List D) := match b with
  | none => none
  | some as => match a with
    | none => none
    | some d' => some (d' :: as)
@[simp] theorem coll_0 (ms : List Nat) (d : D) (ds : List D) (j : Nat) (s : Sg) : coll (0 :: ms) (d :: ds) j s = collK0 (s[j]?).join (coll ms ds (j + 1) s) := by
  rw [coll]; unfold collK0; cases coll ms ds (j + 1) s <;> rfl
@[simp] theorem coll_1 (ms : List Nat) (d : D) (ds : List D) (j : Nat) (s : Sg) : coll (1 :: ms) (d :: ds) j s = collK0 (some d) (coll ms ds (j + 1) s) := by
  rw [coll]; unfold collK0; cases coll ms ds (j + 1) s <;> rfl
@[simp] theorem collK0_some (d : D) (as : List D) : collK0 (some d) (some as) = some (d :: as) := rfl
@[simp] theorem okM_nil : okM [] [] = true := rfl
@[simp] theorem okM_cons (m : Nat) (ms : List Nat) (d : D) (ds : List D) : okM (m :: ms) (d :: ds) = ((m == 0 || pur d) && okM ms ds) := rfl
def mkIK3 (rs : List Rf) (ds : List D) (s : Sg) : Option (List D) → Res (List D × List (Nat × D))
  | none => .bad
  | some es => if purs es = true ∧ nodupB ((lks rs ds).map (·.1)) = true then .ok (es, lks rs ds) (lockS (lks rs ds) s) else .bad
def mkIK2 (itm : List D → Option (List D)) (rs : List Rf) (s : Sg) : Option (List D) → Res (List D × List (Nat × D))
  | none => .bad
  | some ds => mkIK3 rs ds s (itm ds)
def mkIK (itm : List D → Option (List D)) (rs : List Rf) (s : Sg) : Res (List D × List (Nat × D)) := mkIK2 itm rs s (rds rs s)
@[simp] theorem ev_mkI (itm : List D → Option (List D)) (g : AL) (s : Sg) : mkI itm g s = (g s).bind (mkIK itm) := by
  unfold mkI; refine congrArg (Res.bind _) ?_; funext rs s1; unfold mkIK mkIK2
  cases rds rs s1 with
  | none => rfl
  | some ds => cases h : itm ds <;> simp [h, mkIK3]
@[simp] theorem ev_mkIK (itm : List D → Option (List D)) (rs : List Rf) (s : Sg) : mkIK itm rs s = mkIK2 itm rs s (rds rs s) := rfl
@[simp] theorem ev_mkIK2 (itm : List D → Option (List D)) (rs : List Rf) (s : Sg) (ds : List D) : mkIK2 itm rs s (some ds) = mkIK3 rs ds s (itm ds) := rfl
@[simp] theorem ev_mkIK3 (rs : List Rf) (ds : List D) (s : Sg) (es : List D) : mkIK3 rs ds s (some es) = if purs es = true ∧ nodupB ((lks rs ds).map (·.1)) = true then .ok (es, lks rs ds) (lockS (lks rs ds) s) else .bad := rfl
def forK2 (l : List (Nat × D)) (fl : Fl) (s : Sg) : Res Fl := .ok fl (unlockS l s)
def forK (lk : Nat → Bool) (t : Tg) (g : S) (p : List D × List (Nat × D)) (s : Sg) : Res Fl := if (p.2.all fun q => lk q.1) = true then (loopS t g p.1 s).bind (forK2 p.2) else .bad
@[simp] theorem ev_sFor (lk : Nat → Bool) (it : I) (t : Tg) (g : S) (s : Sg) : sFor lk it t g s = (it s).bind (forK lk t g) := rfl
@[simp] theorem ev_forK (lk : Nat → Bool) (t : Tg) (g : S) (es : List D) (l : List (Nat × D)) (s : Sg) : forK lk t g (es, l) s = if (l.all fun q => lk q.1) = true then (loopS t g es s).bind (forK2 l) else .bad := rfl
@[simp] theorem ev_forK2 (l : List (Nat × D)) (fl : Fl) (s : Sg) : forK2 l fl s = .ok fl (unlockS l s) := rfl
def compK2 (l : List (Nat × D)) (acc : List D) (s : Sg) : Res Rf := .ok (.val (.list acc)) (unlockS l s)
def compK (t : Tg) (c : T) (e : O) (vs : List Nat) (p : List D × List (Nat × D)) (s : Sg) : Res Rf :=
  if nodupB ((ownSl vs s).map (·.1)) = true then (compL t c e vs p.1 [] (clrS vs (lockS (ownSl vs s) s))).bind (compK2 (ownSl vs s ++ p.2)) else .bad
@[simp] theorem ev_oComp (it : I) (t : Tg) (c : T) (e : O) (vs : List Nat) (s : Sg) : oComp it t c e vs s = (it s).bind (compK t c e vs) := rfl
@[simp] theorem ev_compK (t : Tg) (c : T) (e : O) (vs : List Nat) (es : List D) (l : List (Nat × D)) (s : Sg) : compK t c e vs (es, l) s =
  if nodupB ((ownSl vs s).map (·.1)) = true then (compL t c e vs es [] (clrS vs (lockS (ownSl vs s) s))).bind (compK2 (ownSl vs s ++ l)) else .bad := rfl
@[simp] theorem ev_compK2 (l : List (Nat × D)) (acc : List D) (s : Sg) : compK2 l acc s = .ok (.val (.list acc)) (unlockS l s) := rfl
@[simp] theorem ev_tYes (s : Sg) : tYesT s = .ok true s := rfl
@[simp] theorem ev_add (a b : Int) : pAdd [.int a, .int b] = some (.int (a + b)) := rfl
@[simp] theorem ev_addL (a b : List D) : pAdd [.list a, .list b] = if a.length + b.length ≤ 1000000 ∧ purs a = true ∧ purs b = true then some (.list (a ++ b)) else none := rfl
@[simp] theorem ev_addT (a b : List D) : pAdd [.tuple a, .tuple b] = if a.length + b.length ≤ 1000000 ∧ purs a = true ∧ purs b = true then some (.tuple (a ++ b)) else none := rfl
@[simp] theorem ev_sub (a b : Int) : pSub [.int a, .int b] = some (.int (a - b)) := rfl
@[simp] theorem ev_mul (a b : Int) : pMul [.int a, .int b] = if mulOk a b = true then some (.int (a * b)) else none := rfl
@[simp] theorem ev_div (a b : Int) : pDiv [.int a, .int b] = if 0 < b ∧ b.natAbs.log2 < 9000 then some (.int (a / b)) else none := rfl
@[simp] theorem ev_mod (a b : Int) : pMod [.int a, .int b] = if 0 < b then some (.int (a % b)) else none := rfl
@[simp] theorem ev_pow (a b : Int) : pPow [.int a, .int b] = if 0 ≤ b ∧ b ≤ 1000000 ∧ a.natAbs < 2 ^ 64 then some (.int (a ^ b.toNat)) else none := rfl
@[simp] theorem ev_shl (a b : Int) : pShl [.int a, .int b] = if 0 ≤ b ∧ b ≤ 1000000 ∧ a.natAbs < 2 ^ 64 then some (.int (a * 2 ^ b.toNat)) else none := rfl
@[simp] theorem ev_neg (a : Int) : pNeg [.int a] = some (.int (-a)) := rfl
@[simp] theorem ev_lt (a b : Int) : pLt [.int a, .int b] = some (.bool (decide (a < b))) := rfl
@[simp] theorem ev_le (a b : Int) : pLe [.int a, .int b] = some (.bool (decide (a ≤ b))) := rfl
@[simp] theorem ev_gt (a b : Int) : pGt [.int a, .int b] = some (.bool (decide (b < a))) := rfl
@[simp] theorem ev_ge (a b : Int) : pGe [.int a, .int b] = some (.bool (decide (b ≤ a))) := rfl
@[simp] theorem ev_eq (a b : D) : pEq [a, b] = if shp a = true ∧ shp b = true then some (.bool (PyData.eqv a b)) else none := rfl
@[simp] theorem ev_ne (a b : D) : pNe [a, b] = if shp a = true ∧ shp b = true then some (.bool (!PyData.eqv a b)) else none := rfl
@[simp] theorem ev_isB (a b : Bool) : pIsN [.bool a, .bool b] = some (.bool (decide (a = b))) := rfl
@[simp] theorem ev_notB (a b : Bool) : pNotN [.bool a, .bool b] = some (.bool (!decide (a = b))) := rfl
@[simp] theorem ev_isN (a : D) : pIsN [a, .none] = some (.bool (isN a)) := rfl
@[simp] theorem ev_notN (a : D) : pNotN [a, .none] = some (.bool (!isN a)) := rfl
@[simp] theorem ev_inT (a : D) (b : List D) : pIn [a, .tuple b] = if pIn.fl a = true ∧ b.all pIn.fl = true then some (.bool (b.any fun z => PyData.eqv z a)) else none := by cases a <;> rfl
@[simp] theorem ev_ixL (ds : List D) (i : Int) : pIx [.list ds, .int i] = puO (atI ds i) := rfl
@[simp] theorem ev_ixT (ds : List D) (i : Int) : pIx [.tuple ds, .int i] = puO (atI ds i) := rfl
@[simp] theorem ev_ixF (ds : List D) (i : Int) : pIx [.dict [(.none, .list ds)], .int i] = puO (atI ds i) := rfl
@[simp] theorem ev_puO (d : D) : puO (some d) = if pur d = true then some d else none := rfl
@[simp] theorem ev_slL (ds : List D) (l u : Option Int) : slD (.list ds) l u = if purs ds = true then some (.list (cutL ds l u)) else none := rfl
@[simp] theorem ev_slT (ds : List D) (l u : Option Int) : slD (.tuple ds) l u = if purs ds = true then some (.tuple (cutL ds l u)) else none := rfl
@[simp] theorem ev_slF (ds : List D) (l u : Option Int) : slD (.dict [(.none, .list ds)]) l u = some (.list (cutL ds l u)) := rfl
@[simp] theorem ev_lenL (ds : List D) : pLen [.list ds] = some (.int ds.length) := rfl
@[simp] theorem ev_lenT (ds : List D) : pLen [.tuple ds] = some (.int ds.length) := rfl
@[simp] theorem ev_lenF (ds : List D) : pLen [.dict [(.none, .list ds)]] = some (.int ds.length) := rfl
@[simp] theorem ev_abs (i : Int) : pAbs [.int i] = some (.int (if i < 0 then -i else i)) := rfl
@[simp] theorem ev_intI (i : Int) : pInt [.int i] = some (.int i) := rfl
@[simp] theorem ev_intB (k : Bool) : pInt [.bool k] = some (.int (if k then 1 else 0)) := rfl
@[simp] theorem ev_max2 (i j : Int) : pMax2 [.int i, .int j] = some (.int (max i j)) := rfl
@[simp] theorem ev_min2 (i j : Int) : pMin2 [.int i, .int j] = some (.int (min i j)) := rfl
@[simp] theorem ev_tupL (ds : List D) : pTuple [.list ds] = if purs ds = true then some (.tuple ds) else none := rfl
@[simp] theorem ev_tupT (ds : List D) : pTuple [.tuple ds] = if purs ds = true then some (.tuple ds) else none := rfl
@[simp] theorem ev_lstL (ds : List D) : pList [.list ds] = if purs ds = true then some (.list ds) else none := rfl
@[simp] theorem ev_lstT (ds : List D) : pList [.tuple ds] = if purs ds = true then some (.list ds) else none := rfl
@[simp] theorem ev_divmod (i j : Int) : pDivmod [.int i, .int j] = if 0 < j ∧ j < 1000000 then some (.tuple [.int (i / j), .int (i % j)]) else none := rfl
@[simp] theorem bools_map {α : Type} (f : α → Bool) (l : List α) : bools (l.map fun a => .bool (f a)) = some (l.map f) := by
  induction l with
  | nil => rfl
  | cons a l ih => simp [bools, ih]
@[simp] theorem intsD_map {α : Type} (f : α → Int) (l : List α) : intsD (l.map fun a => .int (f a)) = some (l.map f) := by
  induction l with
  | nil => rfl
  | cons a l ih => simp [intsD, ih]
@[simp] theorem intsD_int (l : List Int) : intsD (l.map .int) = some l := by
  induction l with
  | nil => rfl
  | cons a l ih => simp [intsD, ih]
@[simp] theorem ev_all (ds : List D) : pAll [.list ds] = (bools ds).map fun bs => .bool (bs.all id) := rfl
@[simp] theorem ev_any (ds : List D) : pAny [.list ds] = (bools ds).map fun bs => .bool (bs.any id) := rfl
@[simp] theorem ev_sumL (ds : List D) : pSum [.list ds] = (intsD ds).map fun ns => .int ns.sum := rfl
@[simp] theorem ev_sumT (ds : List D) : pSum [.tuple ds] = (intsD ds).map fun ns => .int ns.sum := rfl
theorem ev_min1L (ds : List D) (ns : List Int) (h : intsD ds = some ns) (h2 : ns ≠ []) : pMin1 [.list ds] = some (.int (minL ns)) := by
  unfold pMin1 intsOf seqOf; simp only [h]; cases ns with
  | nil => exact absurd rfl h2
  | cons a l => rfl
@[simp] theorem ev_itPL (ds : List D) : itP [.list ds] = some ds := rfl
@[simp] theorem ev_itPT (ds : List D) : itP [.tuple ds] = some ds := rfl
@[simp] theorem ev_itPF (ds : List D) : itP [.dict [(.none, .list ds)]] = some ds := rfl
@[simp] theorem ev_itEL (ds : List D) : itE [.list ds] = some (enumD 0 ds) := rfl
@[simp] theorem ev_itET (ds : List D) : itE [.tuple ds] = some (enumD 0 ds) := rfl
@[simp] theorem ev_itEF (ds : List D) : itE [.dict [(.none, .list ds)]] = some (enumD 0 ds) := rfl
@[simp] theorem purs_enumD (n : Nat) (ds : List D) : purs (enumD n ds) = purs ds := enumD_purs n ds
@[simp] theorem purs_rngD (lo : Int) (n : Nat) : purs (rngD lo n) = true := by unfold rngD; exact purs_map _ _
@[simp] theorem ev_itR1 (j : Int) : itR1 [.int j] = if -1000000 < j ∧ j < 1000000 then some (rngD 0 j.toNat) else none := rfl
@[simp] theorem ev_itR2 (i j : Int) : itR2 [.int i, .int j] = if -1000000 < i ∧ i < 1000000 ∧ -1000000 < j ∧ j < 1000000 then some (rngD i (j - i).toNat) else none := rfl
@[simp] theorem ev_itZLL (a b : List D) : itZ [.list a, .list b] = some (zipD a b) := rfl
@[simp] theorem ev_itZTT (a b : List D) : itZ [.tuple a, .tuple b] = some (zipD a b) := rfl
@[simp] theorem ev_itZLT (a b : List D) : itZ [.list a, .tuple b] = some (zipD a b) := rfl
@[simp] theorem ev_itZTL (a b : List D) : itZ [.tuple a, .list b] = some (zipD a b) := rfl
@[simp] theorem ev_mApp (ds : List D) (d : D) : mApp ds [d] = if ds.length < 1000000 then some (ds ++ [d], .none) else none := rfl
@[simp] theorem ev_isi (k : Kd) (d : D) : pIsi k [d] = if okD d = true then some (.bool (isK k d)) else none := rfl
@[simp] theorem lkM_eq (ms : List Nat) (i : Nat) : lkM ms i = (ms[i]? == some 0) := rfl
@[simp] theorem lkp_eq (is : List Nat) (lk : Nat → Bool) (i : Nat) : lkp is lk i = (is.contains i || lk i) := rfl
@[simp] theorem eqv_int (a b : Int) : PyData.eqv (.int a) (.int b) = decide (a = b) := by
  first | rfl | simp [PyData.eqv] | (unfold PyData.eqv; simp)
@[simp] theorem eqv_bool (a b : Bool) : PyData.eqv (.bool a) (.bool b) = decide (a = b) := by
  first | (cases a <;> cases b <;> rfl) | simp [PyData.eqv]
end Sim
namespace Sim
open PySem PySem.Spec L2
theorem lay_ints : ∀ ns : List Int, PyData.canLayAll0 (ns.map PyData.int) = true
  | [] => rfl
  | _ :: r => by simp [PyData.canLayAll0, PyData.canLay0, lay_ints r]
theorem depth_ints : ∀ ns : List Int, PyData.depthAll (ns.map PyData.int) = 0
  | [] => rfl
  | _ :: r => by simp [PyData.depthAll, PyData.depth, depth_ints r]
theorem noD_ints : ∀ ns : List Int, noDs (ns.map PyData.int) = true
  | [] => rfl
  | _ :: r => by simp [noDs, noD, noD_ints r]
@[simp] theorem shp_int (i : Int) : shp (.int i) = true := by simp [shp, SeqAt.shaped, PyData.canLay0, PyData.depth, noD]
@[simp] theorem shp_bool (i : Bool) : shp (.bool i) = true := by simp [shp, SeqAt.shaped, PyData.canLay0, PyData.depth, noD]
@[simp] theorem shp_tupI (ns : List Int) : shp (.tuple (ns.map PyData.int)) = true := by
  simp [shp, SeqAt.shaped, PyData.canLay0, PyData.depth, lay_ints, depth_ints, noD, noD_ints]
@[simp] theorem shp_lstI (ns : List Int) : shp (.list (ns.map PyData.int)) = true := by
  simp [shp, SeqAt.shaped, PyData.canLay0, PyData.depth, lay_ints, depth_ints, noD, noD_ints]
theorem eqvAll_ints : ∀ ns ms : List Int, PyData.eqvAll (ns.map PyData.int) (ms.map PyData.int) = decide (ns = ms)
  | [], [] => by simp [PyData.eqvAll]
  | [], _ :: _ => by simp [PyData.eqvAll]
  | _ :: _, [] => by simp [PyData.eqvAll]
  | a :: r, b :: t => by
    simp only [List.map_cons, PyData.eqvAll, eqv_int, eqvAll_ints r t]
    by_cases h : a = b <;> by_cases h' : r = t <;> simp [h, h']
@[simp] theorem eqv_tupI (ns ms : List Int) : PyData.eqv (.tuple (ns.map PyData.int)) (.tuple (ms.map PyData.int)) = decide (ns = ms) := by
  simp only [PyData.eqv]; exact eqvAll_ints ns ms
@[simp] theorem eqv_lstI (ns ms : List Int) : PyData.eqv (.list (ns.map PyData.int)) (.list (ms.map PyData.int)) = decide (ns = ms) := by
  simp only [PyData.eqv]; exact eqvAll_ints ns ms
@[simp] theorem cutL_to {α : Type} (xs : List α) (n : Nat) : cutL xs none (some (n : Int)) = xs.take n := by
  unfold cutL
  rw [HT.sIx_nat, HT.sIx_none, Nat.sub_zero, List.drop_zero]
  rcases Nat.le_total n xs.length with h | h
  · rw [Nat.min_eq_left h]
  · rw [Nat.min_eq_right h, List.take_length, List.take_of_length_le h]
@[simp] theorem cutL_from {α : Type} (xs : List α) (n : Nat) : cutL xs (some (n : Int)) none = xs.drop n := by
  unfold cutL
  rw [HT.sIx_nat, HT.sIx_none]
  rcases Nat.le_total n xs.length with h | h
  · rw [Nat.min_eq_left h, List.take_of_length_le (by simp)]
  · rw [Nat.min_eq_right h, Nat.sub_self, List.take_zero, List.drop_of_length_le h]
/-- a number's length in bits is small -/
theorem log2_lt {n : Nat} {k : Nat} (h : n < 2 ^ k) (hk : 0 < k) : n.log2 < k := by
  by_cases h0 : n = 0
  · subst h0; simpa using hk
  · exact (Nat.log2_lt h0).mpr h
theorem mulOk_l {a b : Int} (h1 : -(2 ^ 64) < a) (h2 : a < 2 ^ 64) : mulOk a b = true := by unfold mulOk; simp only [decide_eq_true h1, decide_eq_true h2, Bool.and_self, Bool.true_or, Bool.or_true]
theorem mulOk_r {a b : Int} (h1 : -(2 ^ 64) < b) (h2 : b < 2 ^ 64) : mulOk a b = true := by unfold mulOk; simp only [decide_eq_true h1, decide_eq_true h2, Bool.and_self, Bool.true_or, Bool.or_true]
@[simp] theorem loop_nil (t : Tg) (g : S) (s : Sg) : loopS t g [] s = .ok .nx s := rfl
def loopK2 (t : Tg) (g : S) (ds : List D) (fl : Fl) (s : Sg) : Res Fl := match fl with
  | .nx => loopS t g ds s
  | .ct => loopS t g ds s
  | .bk => .ok .nx s
  | .rt d => .ok (.rt d) s
def loopK1 (t : Tg) (g : S) (ds : List D) : Option Sg → Res Fl
  | none => .bad
  | some s => (g s).bind (loopK2 t g ds)
@[simp] theorem loop_cons (t : Tg) (g : S) (d : D) (ds : List D) (s : Sg) : loopS t g (d :: ds) s = loopK1 t g ds (asg t d s) := by
  rw [loopS]; dsimp only; unfold loopK1; cases asg t d s <;> rfl
@[simp] theorem loopK1_some (t : Tg) (g : S) (ds : List D) (s : Sg) : loopK1 t g ds (some s) = (g s).bind (loopK2 t g ds) := rfl
@[simp] theorem loopK2_nx (t : Tg) (g : S) (ds : List D) (s : Sg) : loopK2 t g ds .nx s = loopS t g ds s := rfl
@[simp] theorem loopK2_ct (t : Tg) (g : S) (ds : List D) (s : Sg) : loopK2 t g ds .ct s = loopS t g ds s := rfl
@[simp] theorem loopK2_bk (t : Tg) (g : S) (ds : List D) (s : Sg) : loopK2 t g ds .bk s = .ok .nx s := rfl
@[simp] theorem loopK2_rt (t : Tg) (g : S) (ds : List D) (d : D) (s : Sg) : loopK2 t g ds (.rt d) s = .ok (.rt d) s := rfl
@[simp] theorem comp_nil (t : Tg) (c : T) (e : O) (vs : List Nat) (acc : List D) (s : Sg) : compL t c e vs [] acc s = .ok acc s := rfl
def cmK5 (t : Tg) (c : T) (e : O) (vs : List Nat) (ds acc : List D) (s : Sg) : Option D → Res (List D)
  | none => .bad
  | some y => if acc.length < 1000000 then compL t c e vs ds (acc ++ [y]) (clrS vs s) else .bad
def cmK4 (t : Tg) (c : T) (e : O) (vs : List Nat) (ds acc : List D) (r : Rf) (s : Sg) : Res (List D) := cmK5 t c e vs ds acc s (own r s)
def cmK3 (t : Tg) (c : T) (e : O) (vs : List Nat) (ds acc : List D) (b : Bool) (s : Sg) : Res (List D) := if b = true then (e s).bind (cmK4 t c e vs ds acc) else compL t c e vs ds acc (clrS vs s)
def cmK1 (t : Tg) (c : T) (e : O) (vs : List Nat) (ds acc : List D) : Option Sg → Res (List D)
  | none => .bad
  | some s => (c s).bind (cmK3 t c e vs ds acc)
@[simp] theorem comp_cons (t : Tg) (c : T) (e : O) (vs : List Nat) (d : D) (ds acc : List D) (s : Sg) : compL t c e vs (d :: ds) acc s = cmK1 t c e vs ds acc (asg t d s) := by
  rw [compL]; unfold cmK1
  cases asg t d s with
  | none => rfl
  | some s1 =>
    simp only
    refine congrArg (Res.bind _) ?_
    funext b s2
    unfold cmK3
    split
    · refine congrArg (Res.bind _) ?_
      funext r s3
      unfold cmK4 cmK5
      cases own r s3 <;> rfl
    · rfl
@[simp] theorem cmK1_some (t : Tg) (c : T) (e : O) (vs : List Nat) (ds acc : List D) (s : Sg) : cmK1 t c e vs ds acc (some s) = (c s).bind (cmK3 t c e vs ds acc) := rfl
@[simp] theorem cmK3_eq (t : Tg) (c : T) (e : O) (vs : List Nat) (ds acc : List D) (b : Bool) (s : Sg) : cmK3 t c e vs ds acc b s = if b = true then (e s).bind (cmK4 t c e vs ds acc) else compL t c e vs ds acc (clrS vs s) := rfl
@[simp] theorem cmK4_eq (t : Tg) (c : T) (e : O) (vs : List Nat) (ds acc : List D) (r : Rf) (s : Sg) : cmK4 t c e vs ds acc r s = cmK5 t c e vs ds acc s (own r s) := rfl
@[simp] theorem cmK5_some (t : Tg) (c : T) (e : O) (vs : List Nat) (ds acc : List D) (s : Sg) (y : D) : cmK5 t c e vs ds acc s (some y) = if acc.length < 1000000 then compL t c e vs ds (acc ++ [y]) (clrS vs s) else .bad := rfl
/-- one item of a comprehension, then the rest -/
theorem comp_one {t : Tg} {c : T} {e : O} {vs : List Nat} {d : D} {ds acc l : List D} {s s' : Sg} (h : compL t c e vs [d] [] s = .ok l s') (ha : acc.length < 1000000) : compL t c e vs (d :: ds) acc s = compL t c e vs ds (acc ++ l) s' ∧ l.length ≤ 1 := by
  rw [comp_cons] at h ⊢
  cases h1 : asg t d s with
  | none => rw [h1] at h; cases h
  | some s1 =>
    rw [h1, cmK1_some] at h
    rw [cmK1_some]
    cases h2 : c s1 with
    | ok b s2 =>
      rw [h2, ev_ok, cmK3_eq] at h
      rw [ev_ok, cmK3_eq]
      cases b with
      | false =>
        simp only [Bool.false_eq_true, if_false, comp_nil] at h ⊢
        cases h
        exact ⟨by rw [List.append_nil], Nat.zero_le _⟩
      | true =>
        simp only [if_true] at h ⊢
        cases h3 : e s2 with
        | ok r s3 =>
          rw [h3, ev_ok, cmK4_eq] at h
          rw [ev_ok, cmK4_eq]
          cases h4 : own r s3 with
          | none => rw [h4] at h; cases h
          | some y =>
            rw [h4, cmK5_some] at h
            rw [cmK5_some, if_pos ha]
            simp only [List.length_nil, Nat.zero_lt_succ, if_true, List.nil_append, comp_nil] at h
            cases h
            exact ⟨rfl, Nat.le_refl _⟩
        | exc _ _ _ => rw [h3] at h; cases h
        | bad => rw [h3] at h; cases h
    | exc _ _ _ => rw [h2] at h; cases h
    | bad => rw [h2] at h; cases h
theorem comp_map {α : Type} {t : Tg} {c : T} {e : O} {vs : List Nat} {s : Sg} (f : α → D) (G : α → D) (l : List α) (h : ∀ a, a ∈ l → compL t c e vs [f a] [] s = .ok [G a] s) (hl : l.length ≤ 1000000) : compL t c e vs (l.map f) [] s = .ok (l.map G) s := by
  have key : ∀ (l : List α) (acc : List D), (∀ a, a ∈ l → compL t c e vs [f a] [] s = .ok [G a] s) → acc.length + l.length ≤ 1000000 → compL t c e vs (l.map f) acc s = .ok (acc ++ l.map G) s := by
    intro l
    induction l with
    | nil => intro acc _ _; simp
    | cons a l ih =>
      intro acc h hl
      rw [List.length_cons] at hl
      obtain ⟨h1, _⟩ := comp_one (ds := l.map f) (h a (List.mem_cons_self ..)) (acc := acc) (by omega)
      rw [List.map_cons, h1, ih _ (fun a ha => h a (List.mem_cons_of_mem _ ha)) (by rw [List.length_append, List.length_singleton]; omega), List.map_cons]
      simp
  simpa using key l [] h (by simpa using hl)
end Sim
namespace Sim
open PySem PySem.Spec L2
theorem for_ok {lk : Nat → Bool} {it : I} {t : Tg} {g : S} {s s1 s2 : Sg} {es : List D} {l : List (Nat × D)} {fl : Fl} (h1 : it s = .ok (es, l) s1) (h2 : (l.all fun q => lk q.1) = true) (h3 : loopS t g es s1 = .ok fl s2) : sFor lk it t g s = .ok fl (unlockS l s2) := by
  rw [ev_sFor, h1, ev_ok, ev_forK, if_pos h2, h3]; rfl
theorem mkFn_rt {ms : List Nat} {n : Nat} {g : S} {ds as : List D} {r : D} {s : Sg} (h1 : okM ms ds = true) (h2 : g (ds.map some ++ List.replicate (n - ds.length) none) = .ok (.rt r) s) (h3 : coll ms ds 0 s = some as) : mkFn ms n g ds = .ok r as := by
  rw [ev_mkFn, if_pos h1, h2, ev_mkK, h3]; rfl
theorem mkFn_nx {ms : List Nat} {n : Nat} {g : S} {ds as : List D} {s : Sg} (h1 : okM ms ds = true) (h2 : g (ds.map some ++ List.replicate (n - ds.length) none) = .ok .nx s) (h3 : coll ms ds 0 s = some as) : mkFn ms n g ds = .ok .none as := by
  rw [ev_mkFn, if_pos h1, h2, ev_mkK, h3]; rfl
theorem oCall_ok {f : Fn} {g : AL} {s s1 : Sg} {rs : List Rf} {ds as : List D} {r : D} (h1 : g s = .ok rs s1) (h2 : rds rs s1 = some ds) (h3 : nodupB ((lks rs ds).map (·.1)) = true) (h4 : f ds = .ok r as) : oCall f g s = .ok (.val r) (unlockS (lkz rs ds as) (lockS (lks rs ds) s1)) := by
  rw [ev_oCall, h1, ev_ok, ev_callK, h2, ev_callK2, if_pos h3, h4]; rfl
@[simp] theorem purs_takeI (A : List Int) (n : Nat) : purs (List.take n (A.map PyData.int)) = true := by rw [← List.map_take]; exact purs_ints _
@[simp] theorem purs_dropI (A : List Int) (n : Nat) : purs (List.drop n (A.map PyData.int)) = true := by rw [← List.map_drop]; exact purs_ints _
end Sim
namespace Sim
open PySem PySem.Spec L2
section
open PyProof.Rows
variable {prog : Program} {w : World} {A : Around} {E : Value → Shared → Prop} {s : Shared}
theorem fm_all {α β : Type} {f : α → Option β} {g : α → β} : ∀ l : List α, (∀ m ∈ l, f m = some (g m)) → l.filterMap f = l.map g
  | [], _ => rfl
  | a :: l, h => by rw [List.filterMap_cons_some (h a (List.mem_cons_self ..)), fm_all l fun m hm => h m (List.mem_cons_of_mem _ hm)]; rfl
theorem pick_rev (l : List Value) : ((List.range l.length).filterMap fun (m : Nat) => l.toArray[(((l.length : Nat) : Int) - 1 + (m : Int) * (-1)).toNat]?) = l.reverse := by
  rw [fm_all (g := fun m => (l.reverse[m]?).getD .none) _ fun m hm => ?_]
  · refine List.ext_getElem (by simp) fun i h1 h2 => ?_
    simp only [List.getElem_map, List.getElem_range]
    rw [List.getElem?_eq_getElem h2]; rfl
  · have hm := List.mem_range.mp hm
    have e : (((l.length : Nat) : Int) - 1 + (m : Int) * (-1)).toNat = l.length - 1 - m := by omega
    rw [e, List.getElem?_reverse hm]
    simp only [List.getElem?_toArray]
    rw [List.getElem?_eq_getElem (by omega)]; rfl
theorem sliceApplied_rev {sl : Addr} {vs : Value} {n : Nat} {Q : Int × Int × Nat → Shared → Prop} (hs : s.heap.IsSliceOf sl .none .none vs) (ps : IsPart vs (some (-1)))
    (h : Q (((n : Int) - 1), -1, n) s) : wpAny (model prog w) A (Builtin.Slice.sliceApplied (.ref sl) (pure (n : Int))) Q E s := by
  obtain ⟨os, hos, hcs, hds⟩ := id hs
  unfold Builtin.Slice.sliceApplied Builtin.Slice.sliceFields
  refine wpAny_bind (wpAny_bind (wpAny_field hos hds (x := .none) rfl (wpAny_bind (wpAny_field hos hds (x := .none) rfl (wpAny_bind (wpAny_field hos hds (x := vs) rfl (wpAny_pure ?_)))))))
  refine wpAny_bind (HT.slicePart_ ps ?_)
  show wpAny _ _ (if ((-1 : Int) == 0) = true then _ else _) _ _ s
  rw [if_neg (by decide)]
  refine wpAny_bind (slicePart_none (wpAny_bind (slicePart_none (wpAny_bind (wpAny_pure ?_)))))
  have e1 : Builtin.Slice.sliceAdjust none none (-1) (n : Int) = ((n : Int) - 1, -1) := by
    unfold Builtin.Slice.sliceAdjust; simp
  have e2 : Builtin.Slice.slicePlaces ((n : Int) - 1) (-1) (-1) = n := by
    unfold Builtin.Slice.slicePlaces
    simp
    omega
  show wpAny _ _ (match Builtin.Slice.sliceAdjust none none (-1) (n : Int) with | (lo, hi) => pure (lo, (-1 : Int), Builtin.Slice.slicePlaces lo hi (-1))) _ _ s
  rw [e1]
  show wpAny _ _ (pure ((n : Int) - 1, (-1 : Int), Builtin.Slice.slicePlaces ((n : Int) - 1) (-1) (-1))) _ _ s
  rw [e2]
  exact wpAny_pure h
theorem getItem_tuple_rev {t sl : Addr} {its : List Value} {vs : Value} {Q : Value → Shared → Prop} (ht : IsTup s.heap t its.toArray) (hs : s.heap.IsSliceOf sl .none .none vs) (ps : IsPart vs (some (-1)))
    (h : Q (.ref s.heap.objs.size) { s with heap := s.heap.push { cls := .type "tuple", data := .seq its.reverse.toArray } })
    (hsz : its.length ≤ sizeLine) : wpAny (model prog w) A (getItem (.ref t) (.ref sl)) Q E s := by
  have htake : sizeOk (.seq its.reverse.toArray) := by
    show its.reverse.toArray.size ≤ sizeLine
    rw [List.size_toArray, List.length_reverse]
    exact hsz
  obtain ⟨os, hos, hcs, hds⟩ := id hs
  have hTs : s.TypeIs (.ref sl) "slice" := ⟨os, hos, hcs⟩
  unfold getItem
  try with_reducible refine wpAny_holding ?_
  first | refine wpAny_bind (wpAny_pure ?_) | skip
  refine wpAny_bind (wpAny_sequenceKey ht.typeIs (by decide) ?_)
  refine wpAny_bind (wpAny_callSpecial?_slot (name := Str.ofString "__getitem__") ht.typeIs PyProof.Rows.slot_tuple_getitem
    (wpAny_call_entry PyProof.Rows.slot_tuple_getitem ht.typeIs entry_tuple_getitem ?_ (args_tuple_getitem _ _)))
  show wpAny _ _ (Builtin.Tuple.tupleItemsOf (.ref t) >>= _) _ _ s
  refine wpAny_bind (tupleItemsOf_ ht ?_)
  refine wpAny_bind (wpAny_typeOf hTs ?_)
  rw [if_pos (by decide)]
  refine wpAny_bind (sliceApplied_rev (n := its.toArray.size) hs ps ?_)
  have hno : ¬ ((((its.toArray.size : Int) - 1) == 0 && (-1 : Int) == 1 && (its.toArray.size) == its.toArray.size) = true) := by
    intro q
    rw [Bool.and_eq_true, Bool.and_eq_true] at q
    have := eq_of_beq q.1.2
    omega
  show wpAny _ _ (if (((its.toArray.size : Int) - 1) == 0 && (-1 : Int) == 1 && (its.toArray.size) == its.toArray.size) = true then _ else _) _ _ s
  rw [if_neg hno, List.size_toArray, pick_rev]
  first
    | exact wpAny_bind (m := Builtin.Tuple.tupleExact _) (wpAny_newObj_type (wpAny_pure ⟨_, rfl, wpAny_pure h⟩) htake)
    | exact wpAny_bind (m := Builtin.Tuple.tupleExact _) (wpAny_newObj_type (wpAny_bind (wpAny_pure (wpAny_pure ⟨_, rfl, wpAny_pure h⟩))) htake)
    | exact wpAny_bind (wpAny_bind (m := Builtin.Tuple.tupleExact _) (wpAny_newObj_type (wpAny_pure (wpAny_pure ⟨_, rfl, wpAny_pure h⟩)) htake))
    | exact wpAny_bind (wpAny_bind (m := Builtin.Tuple.tupleExact _) (wpAny_newObj_type (wpAny_pure ⟨_, rfl, wpAny_pure h⟩) htake))
end
section
variable [Tb] [Vs] {K : PySem.W.Frag} {H : Hp}
variable {X : Cx} {a : Expr} {ga : O} {pos p2 : Pos}
theorem vals_rev {xs : List V} {us : List Value} (r : Vals xs us) : Vals xs.reverse us.reverse := by
  induction r with
  | nil => exact .nil
  | cons h _ ih => rw [List.reverse_cons, List.reverse_cons]; exact ih.append (.cons h .nil)
theorem owna_rev {K : PySem.W.Frag} {H : Hp} : ∀ {ds : List D} {vs : List V} {F : List Addr}, OwnA K H ds vs F → purs ds = true → OwnA K H ds.reverse vs.reverse []
  | [], _, _, .nil, _ => .nil
  | d :: ds, _, _, @OwnA.cons _ _ v vs _ _ F G o t n, p => by
    simp only [purs, Bool.and_eq_true] at p
    have e := o.pur p.1
    subst e
    rw [List.reverse_cons, List.reverse_cons]
    have : ∀ {as : List D} {us : List V}, OwnA K H as us [] → OwnA K H (as ++ [d]) (us ++ [v]) [] := by
      intro as us h
      generalize hG : ([] : List Addr) = G at h
      induction as generalizing us G with
      | nil =>
        cases h
        rw [hG]
        rw [← hG] at *
        exact .cons0 o .nil
      | cons a as ih =>
        cases h with
        | @cons v1 vs1 _ _ F1 G1 o1 t1 n1 =>
          have h1 : F1 = [] := by cases F1 with
            | nil => rfl
            | cons _ _ => cases hG
          have h2 : G1 = [] := by rw [h1] at hG; exact hG.symm
          subst h1
          subst h2
          exact .cons0 o1 (ih _ rfl t1)
    exact this (owna_rev t p.2)
def pListRg : List D → Option D
  | [.int j] => if -1000000 < j ∧ j < 1000000 then some (.list (rngD 0 j.toNat)) else none
  | [.int i, .int j] => if -1000000 < i ∧ i < 1000000 ∧ -1000000 < j ∧ j < 1000000 then some (.list (rngD i (j - i).toNat)) else none
  | _ => none
theorem own_rgV (i j : Int) : OwnA K H (rngD i (j - i).toNat) (rgV i j) [] := by
  unfold rngD rgV
  generalize (List.range (j - i).toNat) = l
  induction l with
  | nil => exact .nil
  | cons n l ih => exact .cons0 (.int _) ih
def rLRg : List V → Hp → VK → Prop := fun vs H Q => (∃ j, vs = [.int j] ∧ RgOk 0 j ∧ ∀ q, H q = none → Q (.ref q) (upd H q (.lst (rgV 0 j)))) ∨ ∃ i j, vs = [.int i, .int j] ∧ RgOk i j ∧ ∀ q, H q = none → Q (.ref q) (upd H q (.lst (rgV i j)))
theorem pr_lrg : PrimR K rLRg pListRg := by
  intro vs ds d H Q h e q
  unfold pListRg at e
  split at e
  · obtain ⟨x, F, rfl, o⟩ := h.one
    cases o
    split at e
    · rename_i j hj
      cases e
      have z := own_rgV (K := K) (H := H) 0 j
      rw [Int.sub_zero] at z
      exact .inl ⟨_, rfl, ⟨by omega, by omega, by omega, by omega, by omega⟩, fun p hp => q _ _ (.lst z hp)⟩
    · cases e
  · obtain ⟨x, y, F, G, rfl, o, o2⟩ := h.two
    cases o; cases o2
    split at e
    · rename_i i j hj
      cases e
      exact .inr ⟨_, _, rfl, ⟨by omega, by omega, by omega, by omega, by omega⟩, fun p hp => q _ _ (.lst (own_rgV i j) hp)⟩
    · cases e
  · cases e
variable {b : Expr} {p pos2 : Pos} {gb : O}
theorem so_listRg1 (hc : X.calm = true) (hg : Gl X "list") (hm : X.mg "list" = none) (hg2 : Gl X "range") (hm2 : X.mg "range" = none) (ha : SimO X a ga) (na : starEach [a] X.env = (false, eval a X.env) :: starEach [] X.env := by rfl)
    (nr : starEach [.Call (.Name "range" p2) [a] [] pos2] X.env = (false, eval (.Call (.Name "range" p2) [a] [] pos2) X.env) :: starEach [] X.env := by rfl) : SimO X (.Call (.Name "list" p) [.Call (.Name "range" p2) [a] [] pos2] [] pos) (oPrim pListRg (aCons ga aNil)) :=
  pe_imp (pe_listRg hc hg hm (prg_1 hg2 hm2 ha na) nr) fun σ H Q h => by
    have z := tA1 (prim pr_lrg h)
    refine tO_mono (fun v H1 w => ?_) z
    rcases w with ⟨j, e, w⟩ | ⟨i, j, e, w⟩
    · cases e; exact ⟨_, rfl, w⟩
    · cases e
end
end Sim
namespace SimSrt
open PySem PyProof.Rows Srt SrtO
section
variable {prog : Program} {w : World} {A : Around} {E : Value → Shared → Prop} {s : Shared}
theorem collect_tup {l : Addr} {vs : List Value} {Q : List Value → Shared → Prop} (hl : s.heap.IsTuple l vs.toArray)
    (h : Q vs { s with heap := (s.heap.push (seqObj "list" #[] 0)).update s.heap.objs.size (Obj.mapSeq (· ++ vs.toArray)) }) (hsz : vs.length ≤ sizeLine) :
    wpAny (model prog w) A (collect (.ref l)) Q E s := by
  obtain ⟨o, ho, hc, n, hd⟩ := id hl
  unfold collect
  refine wpAny_bind (wpAny_runValue (codeAny_builtin entry_proto_collect' ?_))
  show wpAny _ _ (do again (.builtin "list.__iadd__" ⟨[← newList [], .ref l], []⟩)) _ _ s
  refine wpAny_bind (wpAny_newList (wpAny_pure ⟨Code.quiet_builtin _ (by decide +kernel), codeAny_builtin entry_list_iadd' ?_⟩))
  show wpAny _ _ (Builtin.List.listExtendWith (.ref s.heap.objs.size) (.ref l) (.ref s.heap.objs.size)) _ _ { s with heap := s.heap.push (seqObj "list" #[] 0) }
  unfold Builtin.List.listExtendWith
  have ho' : (s.heap.push (seqObj "list" #[] 0)).get? l = some o := Heap.get?_push_of_some _ ho
  refine wpAny_bind (wpAny_typeOf (T := "tuple") ⟨o, ho', hc⟩ ?_)
  have ht : (Value.type "tuple" == Value.type "tuple") = true := by rfl
  rw [if_pos (by rw [ht]; simp)]
  refine wpAny_bind (listItems_at ho' hd ?_)
  refine wpAny_bind (listItems_at (xs := #[]) (n := 0) (Heap.get?_push_size _ rfl) rfl ?_)
  rw [if_neg (by simp)]
  refine wpAny_bind (listUpdate_at (xs := #[]) (n := 0) (Heap.get?_push_size _ rfl) rfl ?_ (Nat.zero_le _) (by show (#[] ++ vs.toArray).size ≤ sizeLine + 1; simp only [Array.size_append, List.size_toArray, List.length_nil]; omega))
  refine wpAny_pure ?_
  show wpAny (model prog w) A (do
      let o ← load s.heap.objs.size
      match o.data with
      | .seq xs _ => pure xs.toList
      | _ => unsupported "internal:collect") Q E { s with heap := (s.heap.push (seqObj "list" #[] 0)).update s.heap.objs.size (Obj.mapSeq (· ++ vs.toArray)) }
  refine wpAny_bind (wpAny_load (get?_update_seq (Heap.get?_push_size _ rfl) _) ?_)
  show wpAny _ _ (pure ((#[] : Array Value) ++ vs.toArray).toList) Q E _
  rw [show ((#[] : Array Value) ++ vs.toArray).toList = vs by simp]
  exact wpAny_pure h
theorem sorted_ordT {l : Addr} {vs : List Value} {ltv : Value → Value → Bool} {Q : Value → Shared → Prop} (O : Swo ltv) (hl : s.heap.IsTuple l vs.toArray) (hz : vs.length ≤ sizeLine)
    (hS : 2 ≤ vs.length → ∀ (h₁ : Heap) (a : Addr), h₁.get? a = some (seqObj "list" vs.toArray 0) → (∀ b o, s.heap.get? b = some o → b ≠ a ∧ h₁.get? b = some o) → SortableO prog w A.in1.in1 { s with heap := h₁ } a vs ltv)
    (h : ∀ out : List Value, Srtd ltv out → Stb ltv out vs → Q (.ref (s.heap.objs.size + 1)) { s with heap := sortedAll s.heap vs out.toArray }) :
    wpAny (model prog w) A (call (.builtin "sorted") [.ref l]) Q E s := by
  refine Calls.call_function_entry kind_sorted plain_sorted entry_sorted (args_sorted1 _) ?_
  unfold Builtin.«sorted»
  refine wpAny_bind (m := checkCount "sorted" 1 1 _) (wpAny_pure ?_)
  refine wpAny_bind (collect_tup hl ?_ hz)
  refine wpAny_bind (wpAny_newList ?_ hz)
  have hsz : ((s.heap.push (seqObj "list" #[] 0)).update s.heap.objs.size (Obj.mapSeq (· ++ vs.toArray))).objs.size = s.heap.objs.size + 1 := by
    rw [Heap.size_update, size_push']
  have hoL : (((s.heap.push (seqObj "list" #[] 0)).update s.heap.objs.size (Obj.mapSeq (· ++ vs.toArray))).push (seqObj "list" vs.toArray 0)).get? (s.heap.objs.size + 1) = some (seqObj "list" vs.toArray 0) := by
    rw [← hsz]; exact Heap.get?_push_size _ rfl
  have keep : ∀ b o, s.heap.get? b = some o → b ≠ s.heap.objs.size + 1 ∧ (((s.heap.push (seqObj "list" #[] 0)).update s.heap.objs.size (Obj.mapSeq (· ++ vs.toArray))).push (seqObj "list" vs.toArray 0)).get? b = some o := fun b o q => by
    have hlt : b < s.heap.objs.size := Heap.lt_size q
    refine ⟨Nat.ne_of_lt (Nat.lt_succ_of_lt hlt), Heap.get?_push_of_some _ ?_⟩
    rw [Heap.get?_update_ne _ _ _ _ (Nat.ne_of_lt hlt)]
    exact Heap.get?_push_of_some _ q
  show wpAny _ _ _ _ _ { s with heap := ((s.heap.push (seqObj "list" #[] 0)).update s.heap.objs.size (Obj.mapSeq (· ++ vs.toArray))).push (seqObj "list" vs.toArray 0) }
  rw [hsz]
  refine wpAny_bind (wpAny_holding (wpAny_call_entry slot_list_sort ⟨_, hoL, rfl⟩ entry_list_sort (list_sort_ord O hoL hz (fun h2 => hS h2 _ _ hoL keep) fun out hs hb => ⟨_, rfl, ?_⟩) (args_list_sort _)))
  exact wpAny_pure ⟨_, rfl, h out hs hb⟩
end
end SimSrt
namespace Sim
open PySem PySem.Spec L2
def rSortA (K : PySem.W.Frag) : List V → Hp → VK → Prop := fun vs H Q => ∃ (a : Addr) (ns : List Int), vs = [V.ref a] ∧ (SqL K H a (ns.map V.int) ∨ SqT K H a (ns.map V.int)) ∧ ∀ (ns' : List Int) (p : Addr), ns'.Perm ns → ns'.Pairwise (· ≤ ·) → H p = none → Q (.ref p) (upd H p (.lst (ns'.map V.int)))
theorem cr_sortA {X : Cx} : CallR X (.builtin "sorted") (rSortA X.K) := by
  intro pins s σ H vs us Q I r h
  obtain ⟨a, ns, rfl, hs, q⟩ := h
  rcases hs with hs | hs
  · exact cr_sortedI pins s σ H _ us Q I r ⟨a, ns, rfl, hs, q⟩
  · obtain ⟨its, rv, hl, hz⟩ := I.tuple hs
    rw [Vals.ref1 r]
    have hi := rv.ints
    refine SimSrt.sorted_ordT SrtO.swo_int hl (by rw [← rv.length]; exact hz) (fun h2 h₁ a' _ _ => SrtO.ints_sortable hi h2) fun out h1 h2 => ?_
    obtain ⟨k1, k2, k3⟩ := SrtO.ints_out hi h1 h2
    obtain ⟨ep, he'⟩ := PyProof.Rows.sortedAll_at s.heap its out.toArray
    have hlen : ((out.map SrtO.iv).map V.int).length ≤ sizeLine := by
      rw [List.length_map, k2.length_eq]
      rw [List.length_map] at hz
      exact hz
    exact ⟨.ref _, upd H (s.heap.objs.size + 1) (.lst ((out.map SrtO.iv).map V.int)), I.laid (t' := s.toks) (fun _ _ => PyProof.Rows.sortedAll_old) (Nat.le_succ _) ⟨hlen, out, ep, vals_of_ints k1, he'⟩, rfl, q _ _ k2 k3 (I.hok.fresh (Nat.le_succ _))⟩
/-- numbers, rising -/
def insI (n : Int) : List Int → List Int
  | [] => [n]
  | m :: l => if n ≤ m then n :: m :: l else m :: insI n l
def sortI : List Int → List Int
  | [] => []
  | n :: l => insI n (sortI l)
theorem insI_perm (n : Int) : ∀ l : List Int, (insI n l).Perm (n :: l)
  | [] => .refl _
  | m :: l => by
    unfold insI
    split
    · exact .refl _
    · exact ((insI_perm n l).cons m).trans (.swap n m l)
theorem sortI_perm : ∀ l : List Int, (sortI l).Perm l
  | [] => .refl _
  | n :: l => (insI_perm n (sortI l)).trans ((sortI_perm l).cons n)
theorem insI_rise (n : Int) : ∀ l : List Int, l.Pairwise (· ≤ ·) → (insI n l).Pairwise (· ≤ ·)
  | [], _ => by simp [insI]
  | m :: l, h => by
    rw [List.pairwise_cons] at h
    unfold insI
    split
    · rename_i hnm
      rw [List.pairwise_cons, List.pairwise_cons]
      refine ⟨fun x hx => ?_, h⟩
      rcases List.mem_cons.mp hx with rfl | hx
      · exact hnm
      · exact Int.le_trans hnm (h.1 x hx)
    · rename_i hnm
      rw [List.pairwise_cons]
      refine ⟨fun x hx => ?_, insI_rise n l h.2⟩
      rcases List.mem_cons.mp ((insI_perm n l).mem_iff.mp hx) with rfl | hx
      · omega
      · exact h.1 x hx
theorem sortI_rise : ∀ l : List Int, (sortI l).Pairwise (· ≤ ·)
  | [] => .nil
  | n :: l => insI_rise n _ (sortI_rise l)
theorem rise_eq : ∀ {a b : List Int}, a.Perm b → a.Pairwise (· ≤ ·) → b.Pairwise (· ≤ ·) → a = b := fun {a b} p h1 h2 =>
  p.eq_of_pairwise (fun x y _ _ h h' => Int.le_antisymm h h') h1 h2
def pSorted : List D → Option D
  | [d] => (intsOf d).map fun ns => .list ((sortI ns).map .int)
  | _ => none
theorem own_intL {K : PySem.W.Frag} {H : Hp} : ∀ ns : List Int, OwnA K H (ns.map .int) (ns.map V.int) []
  | [] => .nil
  | n :: ns => .cons0 (.int n) (own_intL ns)
theorem pr_sorted {K : PySem.W.Frag} : PrimR K (rSortA K) pSorted := by
  intro vs ds d H Q h e q
  unfold pSorted at e
  split at e
  · obtain ⟨x, F, rfl, o⟩ := h.one
    rename_i d'
    cases hi : intsOf d' with
    | none => rw [hi] at e; cases e
    | some ns =>
      rw [hi] at e
      cases e
      obtain ⟨a, rfl, hq⟩ := own_intsOf o hi
      refine ⟨a, ns, rfl, hq, fun ns' p hp hr hn => ?_⟩
      have := rise_eq (hp.trans (sortI_perm ns).symm) hr (sortI_rise ns)
      subst this
      exact q _ _ (.lst (own_intL _) hn)
  · cases e
end Sim
namespace Sim
open PySem PySem.Spec L2
def pIndexT : List D → Option D
  | [.tuple ds, y] => if pIn.fl y = true ∧ ds.all pIn.fl = true then (ds.findIdx? fun z => PyData.eqv z y).map fun j => .int (j : Nat) else none
  | _ => none
def oIdxT (g h : O) : O := fun s => (g s).bind fun r s1 => match rd r s1 with
  | some (.tuple _) => (h s1).bind fun r2 s2 => (match rds [r, r2] s2 with
    | none => .bad
    | some ds => (match pIndexT ds with
      | none => .bad
      | some d => .ok (.val d) s2))
  | _ => .bad
theorem sqD_is {X : Cx} {pins : List (Addr × Obj)} {σ : St} {H : Hp} {s : Shared} {a : Addr} {xs : List V} (I : L2.Inv X pins σ H s) (h : SqD X.K H a xs) :
    ∃ (o : Obj) (its : List Value) (n : Nat), s.heap.get? a = some o ∧ o.cls = .type "tuple" ∧ o.dict = none ∧ o.data = .seq its.toArray n ∧ Vals xs its := by
  rcases h with ⟨o, h, hd⟩ | ⟨o, its, n, h1, h2, hd, h3, h4, h5⟩
  · obtain ⟨e, _, its, r, o', e', c, n, d⟩ := (show ObjOk X.prog X.w H s.heap a (.frz o (.tup xs)) from I.hok a _ h)
    rw [e] at e'
    cases e'
    exact ⟨o, its, n, e, c, hd, d, r⟩
  · exact ⟨o, its.toList, n, I.kIn a o h1, h2, hd, by simpa using h3, h5⟩
def rIdxT (K : PySem.W.Frag) : V → List V → Hp → VK → Prop := fun x xs H Q => ∃ (a : Addr) (ys : List V) (y : V) (j : Nat) (z : V), x = V.ref a ∧ xs = [y] ∧ SqD K H a ys ∧ flatV y = true ∧ ys.all flatV = true ∧ ys[j]? = some z ∧ eqV z y = true ∧
  (∀ (m : Nat) (z' : V), m < j → ys[m]? = some z' → eqV z' y = false) ∧ Q (.int (j : Nat)) H
section
variable [Tb] [Vs] {X : Cx}
theorem mt_idxT : MtR X "tuple.index" (rIdxT X.K) := by
  intro pins s σ H x xs v us Q I rx rxs h
  obtain ⟨a, ys, y, j, z, rfl, rfl, hs, fy, fys, hz, hzj, hno, q⟩ := h
  cases rx
  cases rxs with
  | cons ry rt =>
    rename_i uy ut
    cases rt
    obtain ⟨⟨cls, dd, data, sl⟩, its, n, ho, hc, hdn, hd, rv⟩ := sqD_is I hs
    simp only at hc hd hdn
    subst hc hd
    obtain ⟨u, hu, ru⟩ := rv.get hz
    obtain ⟨hjl, hje⟩ := List.getElem?_eq_some_iff.mp hu
    have hvl := rv.length
    have hj : j < its.toArray.size := by simpa using hjl
    refine call_meets PySem.F.slot_tuple_index ⟨_, ho, rfl⟩ PySem.F.entry_tuple_index (PySem.F.args_tuple_index_2 _ _)
      (PySem.SeqAt.tuple_index2_found a its.toArray n dd sl uy (fun i => ((its[i]?).map (eqU y)).getD false) j hj (Nat.zero_le _) hj ?_ ?_) ⟨ho, fun i hi => ?_, ?_⟩
    · show ((its[j]?).map (eqU y)).getD false = true
      rw [hu]
      show eqU y u = true
      rw [eqU_of ru (flat_at fys hz)]
      exact hzj
    · intro m hm _ hmj
      have hml : m < its.length := by simpa using hm
      have hmy : m < ys.length := by omega
      have hy' : ys[m]? = some ys[m] := List.getElem?_eq_getElem hmy
      obtain ⟨u2, hu2, ru2⟩ := rv.get hy'
      show ((its[m]?).map (eqU y)).getD false = false
      rw [hu2]
      show eqU y u2 = false
      rw [eqU_of ru2 (flat_at fys hy')]
      exact hno m _ hmj hy'
    · have hil : i < its.length := by simpa using hi
      show PySem.SeqAt.EqAt _ _ its.toArray[i] uy (((its[i]?).map (eqU y)).getD false)
      rw [List.getElem?_eq_getElem hil]
      exact mem_eqAt ry fy rv fys _ (by simp)
    · exact ⟨.int (j : Nat), H, I.tok _, ⟨_, rfl⟩, q⟩
variable {o e : Expr} {es : List Expr} {to : TE} {t : TA} {name : Str} {apos cpos : Pos} {T id : String} {r : V → List V → Hp → VK → Prop}
theorem pe_bmT (slot : Slot "tuple" name id) (hty : typeOf (.builtin id) = pure (.type "method_descriptor")) (hm : MtR X id r) (ho : PE X o to) (ha : PA X (e :: es) t)
    (hbase : attributeBase o name X.env (eval o X.env) = eval o X.env := by rfl)
    (hfew : ((backTo cpos (starEach (e :: es) X.env)).all (fun x => !x.1) && (backToKw cpos (keywordEach [] X.env)).all (fun x => x.1.isSome)
      && decide ((e :: es).length + ([] : List Keyword).length + (if ([] : List Keyword).isEmpty then 0 else 1) < 30)) = true := by rfl)
    (hline : (apos.endLine == cpos.line) = true := by rfl) (hs : starEach (e :: es) X.env = (false, eval e X.env) :: starEach es X.env := by rfl) (hplain : (backTo cpos (starEach es X.env)).any (·.1) = false := by rfl) :
    PE X (.Call (.Attribute o name apos) (e :: es) [] cpos) (fun σ H Q => to σ H fun x H1 => (∃ a xs, x = .ref a ∧ SqD X.K H1 a xs) ∧ t σ H1 fun ws H2 => r x ws H2 Q) := by
  refine ⟨fun pins s σ H Q I h => ?_⟩
  refine wpAny_Call_method_late hbase hfew hline rfl (thn (ho.run pins s σ H _ I h) fun v s1 ⟨x, H1, I1, r1, ty, q1⟩ => ?_)
  obtain ⟨a, xs, ex, hq⟩ := ty
  subst ex
  have r1' := r1
  cases r1'
  obtain ⟨ob, its, n, e1, c1, d1, _, _⟩ := sqD_is I1 hq
  refine ⟨"tuple", id, PySem.F.plainAttrs_tuple, slot, hty, ⟨ob, e1, c1⟩, fun a' ea => (by cases ea; exact ⟨ob, e1, d1⟩), ?_⟩
  have hA := ha.run cpos pins s1 σ H1 _ I1 q1
  rw [hs] at hA ⊢
  refine Calls.callWith_builtin (by show (false || (backTo cpos (starEach es X.env)).any (·.1)) = false; rw [hplain] <;> rfl) (Calls.evalArgs_plain ?_)
  exact thn hA fun us s2 ⟨vs, H2, I2, r2, q2⟩ => hm pins s2 σ H2 _ vs _ us Q I2 r1 r2 q2
theorem find_fl {K : PySem.W.Frag} {H : Hp} {y : D} {vy : V} {Fy : List Addr} (oy : Own K H y vy Fy) (hy : pIn.fl y = true) : ∀ {ds : List D} {vs : List V} {F : List Addr}, OwnA K H ds vs F → ds.all pIn.fl = true → ∀ (j : Nat), ds.findIdx? (fun z => PyData.eqv z y) = some j →
    ∃ z, vs[j]? = some z ∧ eqV z vy = true ∧ (∀ (m : Nat) (z' : V), m < j → vs[m]? = some z' → eqV z' vy = false) := by
  intro ds
  induction ds with
  | nil => intro vs F _ _ j h; simp at h
  | cons d ds ih =>
    intro vs F t ha j h
    cases t with
    | @cons v vs _ _ F1 F2 o t n =>
      rw [List.all_cons, Bool.and_eq_true] at ha
      obtain ⟨e1, _, _⟩ := eqV_eqv o oy ha.1 hy
      rw [List.findIdx?_cons] at h
      cases c : PyData.eqv d y with
      | true =>
        rw [c] at h
        simp only [if_true, Option.some.injEq] at h
        subst h
        exact ⟨v, rfl, by rw [e1]; exact c, fun m _ hm _ => by omega⟩
      | false =>
        rw [c] at h
        simp only [Bool.false_eq_true, if_false] at h
        cases hf : ds.findIdx? (fun z => PyData.eqv z y) with
        | none => rw [hf] at h; cases h
        | some j' =>
          rw [hf] at h
          cases h
          obtain ⟨z, h1, h2, h3⟩ := ih t ha.2 j' hf
          refine ⟨z, h1, h2, fun m z' hm hz => ?_⟩
          cases m with
          | zero =>
            simp at hz
            subst hz
            rw [e1]; exact c
          | succ m =>
            have hm2 : m + 1 < j' + 1 := hm
            exact h3 m z' (by omega) (by simpa using hz)
theorem fl_flat {K : PySem.W.Frag} {H : Hp} : ∀ {ds : List D} {vs : List V} {F : List Addr}, OwnA K H ds vs F → ds.all pIn.fl = true → vs.all flatV = true
  | [], _, _, t, _ => by cases t; rfl
  | d :: ds, _, _, t, h => by
    cases t with
    | cons o t n =>
      rw [List.all_cons, Bool.and_eq_true] at h
      rw [List.all_cons, fl_flat t h.2, Bool.and_true]
      exact (eqV_eqv o o h.1 h.1).2.1
theorem tO_idxT {K : PySem.W.Frag} {g h : O} {σ : St} {H : Hp} {Q : VK} (z : tO K (oIdxT g h) σ H Q) : tO K g σ H fun x H1 => (∃ a xs, x = .ref a ∧ SqD K H1 a xs) ∧ tA K (aCons h aNil) σ H1 fun ws H2 => rIdxT K x ws H2 Q := by
  obtain ⟨s, Fs, rf, s', R, e, q⟩ := z
  obtain ⟨r, s1, e1, e⟩ := bind_inv e
  refine ⟨s, Fs, r, s1, R, e1, fun v H1 Fs1 F1 R1 E1 k1 n1 => ?_⟩
  split at e
  · rename_i ds0 hd0
    obtain ⟨F0, o0⟩ := k1.dp R1 hd0
    have ty : ∃ a xs, v = .ref a ∧ SqD K H1 a xs := by
      cases o0 with
      | tup hq t => exact ⟨_, _, rfl, hq⟩
    refine ⟨ty, ?_⟩
    obtain ⟨r2, s2, e2, e⟩ := bind_inv e
    refine ⟨s1, Fs1, [r2], s2, R1, by unfold aCons aNil; rw [e2]; rfl, fun ws H2 Fs2 Gs R2 E2 k2 n2 => ?_⟩
    split at e
    · cases e
    · rename_i ds hds
      split at e
      · cases e
      · rename_i d hd
        cases e
        cases k2 with
        | @val d2 v2 F2 rs vs Gs2 A2 nn kr =>
          cases kr
          have rr := rfs2 (k1.ev E2) (.val A2) R2 hds
          unfold pIndexT at hd
          split at hd
          · obtain ⟨x, y, F, G, ee, oa, ob⟩ := rr.two
            cases ee
            split at hd
            · rename_i hp
              cases hj : (List.findIdx? (fun z => PyData.eqv z _) _) with
              | none => rw [hj] at hd; cases hd
              | some j =>
                rw [hj] at hd
                cases hd
                cases oa with
                | tup hq t =>
                  obtain ⟨z, h1, h2, h3⟩ := find_fl ob hp.1 t hp.2 j hj
                  refine ⟨_, _, _, j, z, rfl, rfl, hq, (eqV_eqv ob ob hp.1 hp.1).2.1, fl_flat t hp.2, h1, h2, h3, ?_⟩
                  exact q _ H2 Fs2 [] R2 (E1.trans E2) (.val ⟨.int _, fun _ _ _ z => nomatch z⟩) (fun _ z => nomatch z)
            · cases hd
          · cases hd
        | @slot i v2 rs vs Gs2 hv kr =>
          cases kr
          have rr := rfs2 (k1.ev E2) (.slot hv) R2 hds
          unfold pIndexT at hd
          split at hd
          · obtain ⟨x, y, F, G, ee, oa, ob⟩ := rr.two
            cases ee
            split at hd
            · rename_i hp
              cases hj : (List.findIdx? (fun z => PyData.eqv z _) _) with
              | none => rw [hj] at hd; cases hd
              | some j =>
                rw [hj] at hd
                cases hd
                cases oa with
                | tup hq t =>
                  obtain ⟨z, h1, h2, h3⟩ := find_fl ob hp.1 t hp.2 j hj
                  refine ⟨_, _, _, j, z, rfl, rfl, hq, (eqV_eqv ob ob hp.1 hp.1).2.1, fl_flat t hp.2, h1, h2, h3, ?_⟩
                  exact q _ H2 Fs2 [] R2 (E1.trans E2) (.val ⟨.int _, fun _ _ _ z => nomatch z⟩) (fun _ z => nomatch z)
            · cases hd
          · cases hd
  · cases e
theorem so_idxT {ga gb : O} (ho : SimO X o ga) (ha : SimO X e gb)
    (hbase : attributeBase o "index" X.env (eval o X.env) = eval o X.env := by rfl)
    (hfew : ((backTo cpos (starEach [e] X.env)).all (fun x => !x.1) && (backToKw cpos (keywordEach [] X.env)).all (fun x => x.1.isSome)
      && decide (([e] : List Expr).length + ([] : List Keyword).length + (if ([] : List Keyword).isEmpty then 0 else 1) < 30)) = true := by rfl)
    (hline : (apos.endLine == cpos.line) = true := by rfl) (hs : starEach [e] X.env = (false, eval e X.env) :: starEach [] X.env := by rfl) (hplain : (backTo cpos (starEach [] X.env)).any (·.1) = false := by rfl) :
    SimO X (.Call (.Attribute o "index" apos) [e] [] cpos) (oIdxT ga gb) :=
  pe_imp (pe_bmT PySem.F.slot_tuple_index PySem.F.type_tuple_index mt_idxT ho (sa_cons ha sa_nil hs) hbase hfew hline hs hplain) fun _ _ _ h => tO_idxT h
end
def putAll : List Nat → List D → Sg → Sg
  | i :: l, d :: ds, s => putAll l ds (s.set i (some d))
  | _, _, s => s
def sPar (l : List Nat) (g : AL) : S := fun s => (g s).bind fun rs s1 => match owns rs s1 with
  | none => .bad
  | some ds => if ds.length = l.length then .ok .nx (putAll l ds s1) else .bad
section
variable [Tb] [Vs] {X : Cx} {lk : Nat → Bool}
theorem ss_par {i j : Nat} {x y : Str} {a b : Expr} {g : AL} {px py pt pos pt2 : Pos} {kt k2 : Nat} (hc : X.calm = true) (hN : X.N.Nodup) (hi : X.N[i]? = some x) (hj : X.N[j]? = some y) (hij : i ≠ j)
    (hx : X.env.scope.names.lookup x = some .local) (hy : X.env.scope.names.lookup y = some .local) (li : lk i = false) (lj : lk j = false) (ha : SimA X [a, b] g)
    (hw : swappedStores [.Tuple [.Name x px, .Name y py] kt pt] (.Tuple [a, b] k2 pt2) X.env = pure (some [x, y]) := by rfl)
    (hs : swapsWithSole [.Tuple [.Name x px, .Name y py] kt pt] (.Tuple [a, b] k2 pt2) pos.line X.env = pure false := by rfl) (ki : Vs.ok i := by first | exact trivial | assumption | exact ⟨by decide, by decide⟩) (kj : Vs.ok j := by first | exact trivial | assumption | exact ⟨by decide, by decide⟩) :
    SimS X lk (.Assign [.Tuple [.Name x px, .Name y py] kt pt] (.Tuple [a, b] k2 pt2) pos) (sPar [i, j] g) := by
  refine ps_imp (ps_par hc hN hi hj hij hx hy ha hw hs) fun D σ H z => ?_
  obtain ⟨s, Fs, fl, s', R, e, q⟩ := z
  obtain ⟨rs, s1, e1, e⟩ := bind_inv e
  refine ⟨s, Fs, rs, s1, R, e1, fun vs H1 Fs1 Gs R1 E1 k1 n1 => ?_⟩
  split at e
  · cases e
  · rename_i ds hds
    split at e
    · rename_i hl
      cases e
      obtain ⟨oa, dj⟩ := k1.own R1 hds
      match ds, hl with
      | [d1, d2], _ =>
        have gf : ∀ a, a ∈ Gs.flatten → H a = none := fun a ha => by
          obtain ⟨G, hG, hb⟩ := List.mem_flatten.mp ha
          exact n1 G hG a hb
        generalize hGf : Gs.flatten = GF at *
        cases oa with
        | @cons v1 _ _ _ F1 F2' o1 t1 nn =>
          obtain ⟨v2, rfl, o2⟩ := owna1 t1
          refine ⟨v1, v2, rfl, ?_⟩
          obtain ⟨FsA, RA, nA⟩ := R1.put ⟨o1, fun k a hk ha => dj k a hk (List.mem_append_left _ ha)⟩ i ki
          obtain ⟨FsB, RB, nB⟩ := RA.put ⟨o2, fun k a hk ha => by
            rcases nA k a hk with ⟨w, _⟩ | ⟨w, _⟩
            · exact dj k a w (List.mem_append_right _ ha)
            · exact nn a w ha⟩ j kj
          refine q _ H1 FsB RB (Ev.r ⟨E1.chg, fun k a h => ?_⟩) ((Lk.set li).trans (Lk.set lj))
          rcases nB k a h with ⟨w, _⟩ | ⟨w, _⟩
          · rcases nA k a w with ⟨w, _⟩ | ⟨w, _⟩
            · exact E1.new k a w
            · exact .inr (gf a (List.mem_append_left _ w))
          · exact .inr (gf a (List.mem_append_right _ w))
    · cases e
end
end Sim
namespace Sim
open PySem PySem.Spec L2
section
variable [Tb] [Vs] {K : PySem.W.Frag} {H : Hp} {s : Sg} {σ : St} {Fs : Fp} {lk : Nat → Bool}
theorem Rfs.off {rs : List Rf} {vs : List V} {Gs : List (List Addr)} (r : Rfs K H σ Fs rs vs Gs) : ∀ G, G ∈ Gs → ∀ i a, a ∈ Fs i → a ∉ G := by
  induction r with
  | nil => intro G h; cases h
  | val A _ _ ih =>
    intro G h i a ha
    rcases List.mem_cons.mp h with rfl | h
    · exact A.dis i a ha
    · exact ih G h i a ha
  | slot _ _ ih =>
    intro G h i a ha
    rcases List.mem_cons.mp h with rfl | h
    · intro z; cases z
    · exact ih G h i a ha
end
section
variable [Tb] [Vs] {X : Cx} {lk : Nat → Bool} {pos p2 : Pos} {es : List Expr} {g : AL} {x1 : Nat}
end
end Sim
namespace Sim
open PySem PySem.Spec L2
section
open PySem.Calls PySem.NumText PyProof.Rows
def tenL (n : Nat) : List Nat := 49 :: List.replicate n 48
def tenS (n : Nat) : Str := ⟨(tenL n).toArray⟩
section
variable {M : Model} {A : Around} {E : Value → Shared → Prop} {s : Shared}
/-- how many signs a numeral may have: as it was at first -/
def Dg (h : Heap) : Prop := ∃ K : PySem.W.Frag, K.In h ∧ PySem.W.nsIn K cStatics "sys.int_max_str_digits" = some none
theorem intMax_any {Q : Nat → Shared → Prop} (hn : Dg s.heap) (h : Q 4300 s) : wpAny M A Builtin.intMaxStrDigits Q E s := by
  obtain ⟨K, hK, e⟩ := hn
  unfold Builtin.intMaxStrDigits
  exact wpAny_bind ((PySem.W.looks_nsIn hK e).here (wpAny_pure h))
theorem wp_textL {Q : Value → Shared → Prop} {v : Value} {text : List Nat} {n : Int}
    (hs : ¬ (text.takeWhile (· != 0)).length ≤ 640) (hr : (int_private% "readNumeral") 4300 10 (text.takeWhile (· != 0)) = (int_private% "Numeral.value") n)
    (ha : ((text.takeWhile (· != 0)).length == text.length) = true) (hn : Dg s.heap) (h : Q (.int n s.toks) { s with toks := s.toks + 1 }) :
    wpAny M A ((int_private% "intFromText") v text 10) Q E s := by
  obtain ⟨hp, g, d, tk, os⟩ := s
  repeat (any_goals (first
    | assumption
    | (with_reducible refine wpAny_ite_false (decide_eq_false hs) ?_)
    | (with_reducible refine intMax_any hn ?_)
    | (with_reducible refine wpAny_ite_true (decide_eq_true ha) ?_)
    | wp_step))
  all_goals (try rw [hr])
  all_goals (try dsimp only)
  repeat (any_goals (first
    | assumption
    | (with_reducible refine wpAny_ite_true (decide_eq_true ha) ?_)
    | wp_step))
theorem meets_textL {x : PySem.Str} {u : Tok} {n : Int} (hl : ¬ (numSeenOf x).length ≤ 640) (hx : x.length ≤ sizeLine) (hn : PySem.intText? x = some n) : Meets (Builtin.«int.__new__» ⟨[.type "int", .str x u], []⟩) (fun _ R s => Dg s.heap ∧ R (.ok (.ret (.int n s.toks))) { s with toks := s.toks + 1 }) :=
  .of_wp fun prog w A R s h => by
    obtain ⟨hp, g, d, tk, os⟩ := s
    obtain ⟨hd, h⟩ := h
    have f1 := F.conv_sub_int
    have f2 := F.madeHere_int
    have f3 := PySem.W.KIN.str_int
    have f4 := PySem.W.KIN.str_idx
    have f5 := PySem.W.KIN.str_trunc
    have f6 : typeOf (.str x u) = pure (.type "str") := rfl
    have hr : (int_private% "readNumeral") 4300 10 (numSeenOf x) = (int_private% "Numeral.value") n ∧ ((numSeenOf x).length == (numTextOf x).length) = true := by
      rcases read4300 x hx with ⟨m, h1, h2, h3⟩ | ⟨h1, _⟩
      · rw [hn] at h1
        injection h1 with h1
        subst h1
        exact ⟨h3, h2⟩
      · rw [hn] at h1
        cases h1
    have hk := PySem.W.KIN.Hid.mk (And.intro hl hr)
    clear hl hr hn hx
    repeat (any_goals (first
      | assumption
      | ((with_reducible show wpAny _ _ ((int_private% "intFromText") _ _ _) _ _ _); refine wp_textL hk.out.1 hk.out.2.1 hk.out.2.2 hd ?_)
      | wp_step))
    all_goals first | exact ⟨_, rfl, h⟩ | skip
end
theorem ten_take (n : Nat) : (tenL n).takeWhile (· != 0) = tenL n := by
  have : ∀ l : List Nat, (∀ x ∈ l, x ≠ 0) → l.takeWhile (· != 0) = l := by
    intro l
    induction l with
    | nil => intro _; rfl
    | cons a l ih => intro h; rw [List.takeWhile_cons_of_pos (by simpa using h a (by simp)), ih fun x hx => h x (List.mem_cons_of_mem _ hx)]
  refine this _ fun x hx => ?_
  rcases List.mem_cons.mp hx with rfl | hx
  · decide
  · rw [List.eq_of_mem_replicate hx]; decide
theorem ten_text (n : Nat) : numTextOf (tenS n) = tenL n := by
  have : (tenS n).cps.all (· < 128) = true := by
    show (tenL n).toArray.all _ = true
    rw [List.all_toArray]
    refine List.all_eq_true.mpr fun x hx => ?_
    rcases List.mem_cons.mp hx with rfl | hx
    · decide
    · rw [List.eq_of_mem_replicate hx]; decide
  unfold numTextOf
  rw [if_pos this]; rfl
theorem ten_seen (n : Nat) : numSeenOf (tenS n) = tenL n := by
  unfold numSeenOf
  rw [ten_text, ten_take]
theorem ten_fold : ∀ (n : Nat) (a : Array Nat), (List.replicate n 48).foldlM (PySem.NumText.step 10) (a, true) = some (a ++ Array.replicate n 0, true)
  | 0, a => by simp
  | n + 1, a => by
    rw [List.replicate_succ, List.foldlM_cons]
    have : PySem.NumText.step 10 (a, true) 48 = some (a.push 0, true) := rfl
    rw [this]
    show (List.replicate n 48).foldlM (PySem.NumText.step 10) (a.push 0, true) = _
    rw [ten_fold n]
    congr 2
    apply Array.ext'
    simp [List.replicate_succ]
theorem ten_core (n : Nat) : core (tenL n) = tenL n := by
  unfold core
  have h1 : (tenL n).dropWhile blank = tenL n := by
    unfold tenL
    rw [List.dropWhile_cons_of_neg (by decide)]
  rw [h1]
  show ((tenL n).reverse.dropWhile blank).reverse = tenL n
  have h2 : (tenL n).reverse.dropWhile blank = (tenL n).reverse := by
    unfold tenL
    rw [List.reverse_cons, List.reverse_replicate]
    cases n with
    | zero => rfl
    | succ n => rw [List.replicate_succ, List.cons_append, List.dropWhile_cons_of_neg (by decide)]
  rw [h2, List.reverse_reverse]
theorem ten_worth : ∀ (n a : Nat), (List.replicate n 0).foldl (fun acc d => acc * 10 + d) a = a * 10 ^ n
  | 0, a => by simp
  | n + 1, a => by
    rw [List.replicate_succ, List.foldl_cons, ten_worth n, Nat.pow_succ, Nat.add_zero, Nat.mul_assoc, Nat.mul_comm 10]
@[irreducible] def tenN (n : Nat) : Int := ((10 ^ n : Nat) : Int)
theorem ten_int (n : Nat) (h : n + 1 ≤ 4300) : PySem.intText? (tenS n) = some (tenN n) := by
  unfold tenN
  have hd : PySem.NumText.digits? 10 (core (numSeenOf (tenS n))) = some (#[1] ++ Array.replicate n 0) := by
    rw [ten_seen, ten_core]
    unfold PySem.NumText.digits? tenL
    rw [List.foldlM_cons]
    have : PySem.NumText.step 10 (#[], false) 49 = some (#[1], true) := rfl
    rw [this]
    show ((List.replicate n 48).foldlM (PySem.NumText.step 10) (#[1], true)).bind _ = _
    rw [ten_fold]; rfl
  unfold PySem.intText?
  rw [ten_text, ten_seen, if_pos (by simp)]
  rw [ten_seen] at hd
  rw [hd]
  simp only []
  rw [if_pos (by simp; omega)]
  have hs : (sign ((tenL n).dropWhile blank)).1 = false := by
    unfold tenL
    rw [List.dropWhile_cons_of_neg (by decide)]; rfl
  unfold worth
  rw [hs]
  simp only [Bool.false_eq_true, if_false]
  congr 2
  rw [← Array.foldl_toList]
  simp only [Array.toList_append, Array.toList_replicate]
  show (1 :: List.replicate n 0).foldl _ 0 = _
  rw [List.foldl_cons, ten_worth]
  simp
end
def repS (a : Str) (n : Int) : Str := ⟨(List.replicate n.toNat a.cps).foldl (· ++ ·) #[]⟩
def pMulS : List D → Option D
  | [.str a, .int b] => if a.length = 1 ∧ 2 ≤ b ∧ b ≤ 100000 then some (.str (repS a b)) else none
  | _ => none
def pIntTen (n : Nat) : List D → Option D
  | [.str z] => if z = tenS n then some (.int (tenN n)) else none
  | _ => none
section
variable {X : Cx}
theorem op_mulS : OpR X (binaryOp .Mult) (fun x y H Q => ∃ a n, x = .str a ∧ y = .int n ∧ a.length = 1 ∧ 2 ≤ n ∧ n ≤ 100000 ∧ Q (.str (repS a n)) H) := by
  intro pins s σ H x y v u Q I rx ry h
  obtain ⟨a, n, rfl, rfl, ha, h1, h2, q⟩ := h
  obtain ⟨t, rfl⟩ := rx
  obtain ⟨t2, rfl⟩ := ry
  have c0 : (decide (n < -(2 ^ 63 : Int)) || decide (n ≥ 2 ^ 63)) = false := by
    rw [decide_eq_false (by omega), decide_eq_false (by omega)] <;> rfl
  have c1 : (n == 1 || a.length == 0) = false := by
    rw [ha]
    simp
    omega
  have len : ∀ (k : Nat) (acc : Array Nat), ((List.replicate k a.cps).foldl (· ++ ·) acc).size = acc.size + k := by
    intro k
    induction k with
    | zero => intro acc; rfl
    | succ k ih =>
      intro acc
      rw [List.replicate_succ, List.foldl_cons, ih, Array.size_append]
      have : a.cps.size = 1 := ha
      omega
  have hz : (repS a n).length ≤ sizeLine := by
    show ((List.replicate n.toNat a.cps).foldl (· ++ ·) #[]).size ≤ sizeLine
    rw [len, sizeLine_eq]
    simp
    omega
  refine P.mul_str c0 (fun _ _ => ?_) (fun _ _ => ?_) ?_
  · rw [ha]
    have : (1 : Int) ≤ (2 ^ 63 - 1) / n := by
      rw [Int.le_ediv_iff_mul_le (by omega)]
      omega
    omega
  · rw [ha]
    unfold Builtin.Str.tooLong
    rw [sizeLine_eq]
    exact decide_eq_false (by omega)
  · rw [if_neg (by omega), if_neg (by rw [c1]; exact Bool.false_ne_true)]
    exact ⟨hz, .str (repS a n), H, I.tok _, ⟨_, rfl⟩, q⟩
theorem pr_mulS {K : PySem.W.Frag} : PrimR K (u2 fun x y H Q => ∃ a n, x = .str a ∧ y = .int n ∧ a.length = 1 ∧ 2 ≤ n ∧ n ≤ 100000 ∧ Q (.str (repS a n)) H) pMulS := by
  intro vs ds d H Q h e q
  unfold pMulS at e
  split at e
  · obtain ⟨x, y, F, G, rfl, o1, o2⟩ := h.two
    split at e
    · rename_i hc
      cases e
      cases o1
      cases o2
      exact ⟨_, _, rfl, rfl, hc.1, hc.2.1, hc.2.2, q _ _ (.sc (.str _))⟩
    · cases e
  · cases e
open PySem.Calls PySem.NumText PyProof.Rows in
theorem call_int_ten (hd : PySem.W.nsIn X.K cStatics "sys.int_max_str_digits" = some none) (n : Nat) (h1 : 640 ≤ n) (h2 : n ≤ 4200) : CallR X (.type "int") (fun xs H Q => xs = [.str (tenS n)] ∧ Q (.int (tenN n)) H) := by
  intro pins s σ H xs us Q I rs h
  obtain ⟨rfl, q⟩ := h
  cases rs with
  | cons r1 rs =>
    cases rs
    obtain ⟨t, rfl⟩ := r1
    have e := ten_int n (by omega)
    have hl : ¬ (numSeenOf (tenS n)).length ≤ 640 := by
      rw [ten_seen]
      unfold tenL
      rw [List.length_cons, List.length_replicate]; omega
    have hx : (tenS n).length ≤ sizeLine := by
      show (tenL n).toArray.size ≤ sizeLine
      rw [List.size_toArray, sizeLine_eq]
      unfold tenL
      rw [List.length_cons, List.length_replicate]; omega
    exact call_int_1 (meets_textL hl hx e) ⟨⟨X.K, I.kIn, hd⟩, rfl, .int _, H, I.tok _, ⟨_, rfl⟩, q⟩
theorem pr_intTen {K : PySem.W.Frag} (n : Nat) : PrimR K (fun xs H Q => xs = [.str (tenS n)] ∧ Q (.int (tenN n)) H) (pIntTen n) := by
  intro vs ds d H Q h e q
  unfold pIntTen at e
  split at e
  · obtain ⟨x, F, rfl, o⟩ := h.one
    split at e
    · rename_i hc
      subst hc
      cases e
      cases o
      exact ⟨rfl, q _ _ (.sc (.int _))⟩
    · cases e
  · cases e
def oTen (n : Nat) : O := oPrim (pIntTen n) (aCons (o2 pAdd (oC (.str "1")) (o2 pMulS (oC (.str "0")) (oC (.int (n : Int))))) aNil)
theorem rep_len : ∀ (k : Nat) (acc : Array Nat), (List.replicate k (#[48] : Array Nat)).foldl (· ++ ·) acc = acc ++ (List.replicate k 48).toArray
  | 0, acc => by simp
  | k + 1, acc => by
    rw [List.replicate_succ, List.foldl_cons, rep_len k, List.replicate_succ]
    apply Array.ext'
    simp
theorem rep_eq (n : Nat) : repS ⟨#[48]⟩ n = ⟨(List.replicate n 48).toArray⟩ := by
  unfold repS
  rw [rep_len, Int.toNat_natCast]
  simp
theorem ten_eq (n : Nat) (h : n + 1 ≤ 1000000) : pAdd [.str "1", .str (repS "0" n)] = some (.str (tenS n)) := by
  have h0 : ("0" : Str) = ⟨#[48]⟩ := by decide +kernel
  have h1 : ("1" : Str) = ⟨#[49]⟩ := by decide +kernel
  rw [h0, h1, rep_eq]
  have l2 : (⟨(List.replicate n 48).toArray⟩ : Str).length = n := by
    show (List.replicate n 48).toArray.size = n
    rw [List.size_toArray, List.length_replicate]
  have l1 : (⟨#[49]⟩ : Str).length = 1 := rfl
  show (if (⟨#[49]⟩ : Str).length + (⟨(List.replicate n 48).toArray⟩ : Str).length ≤ 1000000 then some (PyData.str (_ ++ _)) else none) = _
  rw [l2, l1, if_pos (by omega)]
  refine congrArg (fun z => some (PyData.str z)) ?_
  show (⟨#[49] ++ (List.replicate n 48).toArray⟩ : Str) = ⟨(49 :: List.replicate n 48).toArray⟩
  congr 1
  apply Array.ext'
  simp
theorem ev_ten (n : Nat) (h1 : 2 ≤ n) (h2 : n ≤ 100000) (s : Sg) : oTen n s = .ok (.val (.int (tenN n))) s := by
  have h0 : ("0" : Str).length = 1 := by decide +kernel
  have m : pMulS [.str "0", .int (n : Int)] = some (.str (repS "0" n)) := by
    show (if ("0" : Str).length = 1 ∧ 2 ≤ (n : Int) ∧ (n : Int) ≤ 100000 then some (PyData.str (repS "0" n)) else none) = _
    rw [if_pos ⟨h0, by omega, by omega⟩]
  have t : pIntTen n [.str (tenS n)] = some (.int (tenN n)) := by
    show (if tenS n = tenS n then some (PyData.int (tenN n)) else none) = _
    rw [if_pos rfl]
  have t2 := ten_eq n (by omega)
  unfold oTen
  rw [ev_prim, ev_aCons, ev_o2, ev_oC, ev_ok, ev_consK, ev_aCons, ev_o2, ev_oC, ev_ok, ev_consK, ev_aCons, ev_oC, ev_ok, ev_consK, ev_aNil, ev_ok, ev_consK2, ev_ok, ev_consK2, ev_ok, ev_primK]
  rw [rds_cons, rd_val, rds_cons, rd_val, rds_nil, rdsK_some, rdsK_some, ev_primK2, m, ev_primK3, ev_ok, ev_consK, ev_aNil, ev_ok, ev_consK2, ev_ok, ev_consK2, ev_ok, ev_primK]
  rw [rds_cons, rd_val, rds_cons, rd_val, rds_nil, rdsK_some, rdsK_some, ev_primK2, t2, ev_primK3, ev_ok, ev_consK, ev_aNil, ev_ok, ev_consK2, ev_ok, ev_primK]
  rw [rds_cons, rd_val, rds_nil, rdsK_some, ev_primK2, t, ev_primK3]
end
end Sim
namespace Sim
open PySem PySem.Spec L2
section
variable [Tb] [Vs] {X : Cx} {K : PySem.W.Frag} {lk : Nat → Bool}
end
end Sim
namespace Sim
open PySem PySem.Spec L2
section
variable {K : PySem.W.Frag} {H : Hp}
end
section
variable [Tb] [Vs] {X : Cx}
end
end Sim
namespace Sim
open PySem PySem.Spec L2
open Sem (wp)
section
variable {prog : Program} {w : World} {A : Around} {E : Value → Shared → Prop} {s : Shared} {z TI TO i1 i2 : Addr} {fp1 fp2 : List Addr} {n1 n2 i : Nat} {P1 P2 : Nat → Value → Prop} {St1 St2 : Nat → Heap → Prop} {a1 a2 : Value} {f : Value} {b : Bool}
end
end Sim
namespace Sim
open PySem PySem.Spec L2
open Sem (wp)
end Sim
namespace Sim
open PySem PySem.Spec L2
open Sem (wp)
section
variable {prog : Program} {w : World} {A : Around} {E : Value → Shared → Prop} {k l : Bool} {z TI TO i1 i2 a b S : Addr} {xs ys : Array Value} {n0 : Nat}
/-- all but these stands -/
def KeepBut (fp : List Addr) (s s' : Shared) : Prop := (∀ c o, c ∉ fp → s.heap.get? c = some o → s'.heap.get? c = some o) ∧ s'.gens = s.gens ∧ s'.drawn = s.drawn ∧ s'.os = s.os
theorem KeepBut.trans {fp : List Addr} {s s' s'' : Shared} (h : KeepBut fp s s') (h' : KeepBut fp s' s'') : KeepBut fp s s'' :=
  ⟨fun c o q e => h'.1 c o q (h.1 c o q e), h'.2.1.trans h.2.1, h'.2.2.1.trans h.2.2.1, h'.2.2.2.trans h.2.2.2⟩
theorem KeepBut.after {fp : List Addr} {s s' : Shared} {h : Heap} {tk : Nat} (k : KeepBut fp { s with heap := h, toks := tk } s') (e : ∀ c o, c ∉ fp → s.heap.get? c = some o → h.get? c = some o) : KeepBut fp s s' :=
  ⟨fun c o q x => k.1 c o q (e c o q x), k.2.1, k.2.2.1, k.2.2.2⟩
end
end Sim
namespace Sim
open PySem PySem.Spec L2 PySem.SeqAt
mutual
def flat : D → List Int
  | .int i => [i]
  | .tuple ds => flats ds
  | _ => []
def flats : List D → List Int
  | [] => []
  | d :: ds => flat d ++ flats ds
end
mutual
/-- of one shape, numbers within -/
def alike : D → D → Bool
  | .int _, .int _ => true
  | .tuple ds, .tuple es => alikes ds es
  | _, _ => false
def alikes : List D → List D → Bool
  | [], [] => true
  | d :: ds, e :: es => alike d e && alikes ds es
  | _, _ => false
end
mutual
/-- how deep, 0 a number -/
def deepD : D → Nat
  | .tuple ds => 1 + deepsD ds
  | _ => 0
def deepsD : List D → Nat
  | [] => 0
  | d :: ds => max (deepD d) (deepsD ds)
end
mutual
def Rn (h : Heap) : D → Value → Prop
  | .int i, v => ∃ t, v = .int i t
  | .tuple ds, v => ∃ a o xs n, v = .ref a ∧ h.get? a = some o ∧ o.cls = .type "tuple" ∧ o.data = .seq xs n ∧ Rns h ds xs.toList
  | _, _ => False
def Rns (h : Heap) : List D → List Value → Prop
  | [], [] => True
  | d :: ds, v :: vs => Rn h d v ∧ Rns h ds vs
  | _, _ => False
end
def lexI : List Int → List Int → Bool
  | [], [] => false
  | [], _ :: _ => true
  | _ :: _, [] => false
  | x :: xs, y :: ys => if x = y then lexI xs ys else decide (x < y)
theorem lexI_cons (x y : Int) (xs ys : List Int) : lexI (x :: xs) (y :: ys) = if x = y then lexI xs ys else decide (x < y) := rfl
theorem lexI_app : ∀ (a a' b b' : List Int), a.length = a'.length → lexI (a ++ b) (a' ++ b') = if a = a' then lexI b b' else lexI a a'
  | [], [], b, b', _ => by rw [if_pos rfl]; rfl
  | x :: a, y :: a', b, b', h => by
    have ih := lexI_app a a' b b' (by simpa using h)
    simp only [List.cons_append, lexI_cons]
    by_cases e : x = y
    · subst e
      simp only [if_true, ih]
      by_cases e2 : a = a'
      · simp [e2]
      · simp [e2]
    · simp [e]
  | [], _ :: _, _, _, h => by simp at h
  | _ :: _, [], _, _, h => by simp at h
theorem lexI_asym : ∀ a b : List Int, lexI a b = true → lexI b a = false
  | [], [], h => by cases h
  | [], _ :: _, _ => rfl
  | _ :: _, [], h => by cases h
  | x :: a, y :: b, h => by
    rw [lexI_cons] at h ⊢
    by_cases e : x = y
    · rw [if_pos e] at h
      rw [if_pos e.symm]
      exact lexI_asym a b h
    · rw [if_neg e] at h
      rw [if_neg (Ne.symm e)]
      have := of_decide_eq_true h
      exact decide_eq_false (by omega)
theorem lexI_tr : ∀ a b c : List Int, lexI b a = false → lexI c b = false → lexI c a = false
  | [], b, c, h1, h2 => by
    cases c with
    | nil => rfl
    | cons z c => rfl
  | x :: a, [], c, h1, h2 => by cases h1
  | x :: a, y :: b, [], h1, h2 => by cases h2
  | x :: a, y :: b, z :: c, h1, h2 => by
    rw [lexI_cons] at h1 h2 ⊢
    by_cases e1 : y = x
    · subst e1
      rw [if_pos rfl] at h1
      by_cases e2 : z = y
      · subst e2
        rw [if_pos rfl] at h2 ⊢
        exact lexI_tr a b c h1 h2
      · rw [if_neg e2] at h2 ⊢
        exact h2
    · rw [if_neg e1] at h1
      have g1 := of_decide_eq_false h1
      by_cases e2 : z = y
      · subst e2
        rw [if_neg e1]
        exact h1
      · rw [if_neg e2] at h2
        have g2 := of_decide_eq_false h2
        rw [if_neg (by omega)]
        exact decide_eq_false (by omega)
theorem swo_flat {α : Type} (k : α → List Int) : SrtO.Swo (fun v u : α => lexI (k v) (k u)) := ⟨fun x y h => lexI_asym _ _ h, fun x y z h1 h2 => lexI_tr _ _ _ h1 h2⟩
mutual
theorem alike_len : ∀ d e : D, alike d e = true → (flat d).length = (flat e).length
  | .int _, .int _, _ => rfl
  | .tuple ds, .tuple es, h => by
    have h : alikes ds es = true := by simpa [alike] using h
    exact alikes_len ds es h
  | .none, _, h | .bool _, _, h | .str _, _, h | .list _, _, h | .dict _, _, h => by simp [alike] at h
  | .int _, .none, h | .int _, .bool _, h | .int _, .str _, h | .int _, .list _, h | .int _, .dict _, h | .int _, .tuple _, h => by simp [alike] at h
  | .tuple _, .none, h | .tuple _, .bool _, h | .tuple _, .str _, h | .tuple _, .list _, h | .tuple _, .dict _, h | .tuple _, .int _, h => by simp [alike] at h
theorem alikes_len : ∀ ds es : List D, alikes ds es = true → (flats ds).length = (flats es).length
  | [], [], _ => rfl
  | d :: ds, e :: es, h => by
    simp only [alikes, Bool.and_eq_true] at h
    show (flat d ++ flats ds).length = (flat e ++ flats es).length
    rw [List.length_append, List.length_append, alike_len d e h.1, alikes_len ds es h.2]
  | [], _ :: _, h | _ :: _, [], h => by simp [alikes] at h
end
theorem alikes_size : ∀ ds es : List D, alikes ds es = true → ds.length = es.length
  | [], [], _ => rfl
  | d :: ds, e :: es, h => by
    simp only [alikes, Bool.and_eq_true] at h
    exact congrArg (· + 1) (alikes_size ds es h.2)
  | [], _ :: _, h | _ :: _, [], h => by simp [alikes] at h
theorem app_inj {a a' b b' : List Int} (h : a.length = a'.length) : a ++ b = a' ++ b' ↔ a = a' ∧ b = b' := ⟨fun e => List.append_inj e h, fun ⟨e, e'⟩ => by rw [e, e']⟩
theorem Rns.len : ∀ {h : Heap} {ds : List D} {vs : List Value}, Rns h ds vs → vs.length = ds.length
  | _, [], [], _ => rfl
  | _, d :: ds, v :: vs, r => congrArg (· + 1) (Rns.len r.2)
  | _, [], _ :: _, r => r.elim
  | _, _ :: _, [], r => r.elim
/-- keeps all tuples -/
def KeepT (h h' : Heap) : Prop := ∀ b o, h.get? b = some o → o.cls = .type "tuple" → h'.get? b = some o
mutual
theorem Rn.keep {h h' : Heap} (k : KeepT h h') : ∀ {d : D} {v : Value}, Rn h d v → Rn h' d v
  | .int _, _, r => r
  | .tuple ds, _, ⟨a, o, xs, n, e, ho, hc, hd, r⟩ => ⟨a, o, xs, n, e, k a o ho hc, hc, hd, Rns.keep k r⟩
  | .none, _, r | .bool _, _, r | .str _, _, r | .list _, _, r | .dict _, _, r => r.elim
theorem Rns.keep {h h' : Heap} (k : KeepT h h') : ∀ {ds : List D} {vs : List Value}, Rns h ds vs → Rns h' ds vs
  | [], [], _ => trivial
  | _ :: _, _ :: _, r => ⟨Rn.keep k r.1, Rns.keep k r.2⟩
  | [], _ :: _, r => r.elim
  | _ :: _, [], r => r.elim
end
mutual
theorem Rn.inj {h : Heap} : ∀ {d d' : D} {v : Value}, Rn h d v → Rn h d' v → d = d'
  | .int i, d', v, ⟨t, e⟩, r' => by
    subst e
    cases d' with
    | int j => obtain ⟨u, e⟩ := r'; cases e; rfl
    | tuple es => obtain ⟨a, o, xs, n, e, _⟩ := r'; cases e
    | _ => exact r'.elim
  | .tuple ds, d', v, ⟨a, o, xs, n, e, ho, hc, hd, r⟩, r' => by
    subst e
    cases d' with
    | int j => obtain ⟨u, e⟩ := r'; cases e
    | tuple es =>
      obtain ⟨a', o', xs', n', e', ho', hc', hd', r'⟩ := r'
      cases e'
      rw [ho] at ho'
      cases ho'
      rw [hd] at hd'
      cases hd'
      rw [Rns.inj r r']
    | _ => exact r'.elim
  | .none, _, _, r, _ | .bool _, _, _, r, _ | .str _, _, _, r, _ | .list _, _, _, r, _ | .dict _, _, _, r, _ => r.elim
theorem Rns.inj {h : Heap} : ∀ {ds ds' : List D} {vs : List Value}, Rns h ds vs → Rns h ds' vs → ds = ds'
  | [], [], _, _, _ => rfl
  | d :: ds, d' :: ds', v :: vs, r, r' => by rw [Rn.inj r.1 r'.1, Rns.inj r.2 r'.2]
  | [], _ :: _, [], _, r' => r'.elim
  | [], _ :: _, _ :: _, r, _ => r.elim
  | _ :: _, [], [], r, _ => r.elim
  | _ :: _, [], _ :: _, _, r' => r'.elim
  | _ :: _, _ :: _, [], r, _ => r.elim
end
theorem Rns.at {h : Heap} : ∀ {ds : List D} {vs : List Value}, Rns h ds vs → ∀ (j : Nat) (l : j < vs.length) (l2 : j < ds.length), Rn h ds[j] vs[j]
  | d :: ds, v :: vs, r, 0, _, _ => r.1
  | d :: ds, v :: vs, r, j + 1, l, l2 => Rns.at r.2 j (by simpa using l) (by simpa using l2)
  | [], [], _, _, l, _ => absurd l (by simp)
  | [], _ :: _, r, _, _, _ => r.elim
  | _ :: _, [], r, _, _, _ => r.elim
theorem alikes_at : ∀ {ds es : List D}, alikes ds es = true → ∀ (j : Nat) (l : j < ds.length) (l2 : j < es.length), alike ds[j] es[j] = true
  | d :: ds, e :: es, h, 0, _, _ => by simp only [alikes, Bool.and_eq_true] at h; exact h.1
  | d :: ds, e :: es, h, j + 1, l, l2 => by simp only [alikes, Bool.and_eq_true] at h; exact alikes_at h.2 j (by simpa using l) (by simpa using l2)
  | [], _, _, _, l, _ => absurd l (by simp)
  | _ :: _, [], _, _, _, l => absurd l (by simp)
theorem deeps_at : ∀ (ds : List D) (j : Nat) (l : j < ds.length), deepD ds[j] ≤ deepsD ds
  | d :: ds, 0, _ => Nat.le_max_left _ _
  | d :: ds, j + 1, l => Nat.le_trans (deeps_at ds j (by simpa using l)) (Nat.le_max_right _ _)
  | [], _, l => absurd l (by simp)
theorem all_flats : ∀ (ds es : List D), alikes ds es = true → (List.range ds.length).all (fun j => decide (flat (ds.getD j .none) = flat (es.getD j .none))) = decide (flats ds = flats es)
  | [], [], _ => by simp [flats]
  | d :: ds, e :: es, h => by
    simp only [alikes, Bool.and_eq_true] at h
    have ih := all_flats ds es h.2
    rw [List.length_cons, List.range_succ_eq_map, List.all_cons, List.all_map]
    have e1 : ((fun j => decide (flat ((d :: ds).getD j .none) = flat ((e :: es).getD j .none))) ∘ Nat.succ) = fun j => decide (flat (ds.getD j .none) = flat (es.getD j .none)) := by funext j; simp
    rw [e1, ih]
    show (decide (flat d = flat e) && decide (flats ds = flats es)) = decide (flat d ++ flats ds = flat e ++ flats es)
    have := app_inj (b := flats ds) (b' := flats es) (alike_len d e h.1)
    rw [← Bool.decide_and]
    exact decide_eq_decide.mpr this.symm
  | [], _ :: _, h | _ :: _, [], h => by simp [alikes] at h
theorem firstLt_flats (ds es : List D) : ∀ (n i : Nat) , alikes ds es = true → ds.length - i = n → i ≤ ds.length →
    firstLt (fun j => decide (flat (ds.getD j .none) = flat (es.getD j .none))) (fun j => lexI (flat (ds.getD j .none)) (flat (es.getD j .none))) false ((List.range ds.length).drop i) = lexI (flats (ds.drop i)) (flats (es.drop i)) := by
  intro n
  induction n with
  | zero =>
    intro i h hn hi
    have e : i = ds.length := by omega
    subst e
    rw [List.drop_of_length_le (by simp), List.drop_of_length_le (Nat.le_refl _), List.drop_of_length_le (by rw [alikes_size ds es h]; exact Nat.le_refl _)]
    rfl
  | succ n ih =>
    intro i h hn hi
    have l : i < ds.length := by omega
    have l2 : i < es.length := by rw [← alikes_size ds es h]; exact l
    have hd : (List.range ds.length).drop i = i :: (List.range ds.length).drop (i + 1) := by rw [List.drop_eq_getElem_cons (by simpa using l)]; simp
    rw [hd, List.drop_eq_getElem_cons l, List.drop_eq_getElem_cons l2]
    show _ = lexI (flat ds[i] ++ flats (ds.drop (i + 1))) (flat es[i] ++ flats (es.drop (i + 1)))
    rw [lexI_app _ _ _ _ (alike_len _ _ (alikes_at h i l l2))]
    have g1 : ds.getD i .none = ds[i] := by simp [List.getD, l]
    have g2 : es.getD i .none = es[i] := by simp [List.getD, l2]
    by_cases c : flat ds[i] = flat es[i]
    · rw [firstLt_yes (by rw [g1, g2]; exact decide_eq_true c), if_pos c]
      exact ih (i + 1) h (by omega) (by omega)
    · rw [firstLt_no (by rw [g1, g2]; exact decide_eq_false c), if_neg c, g1, g2]
theorem rn_eq : ∀ (m : Nat) (d e : D), deepD d < m → ∀ {A : Around} {s : Shared} {v u : Value}, Rn s.heap d v → Rn s.heap e u → alike d e = true → A.units + deepD d < cLine → EqAt A s v u (decide (flat d = flat e))
  | 0, _, _, h, _, _, _, _, _, _, _, _ => absurd h (Nat.not_lt_zero _)
  | m + 1, d, e, hm, A, s, v, u, r, r', h, hu => by
    cases d with
    | int i =>
      cases e with
      | int j =>
        obtain ⟨t, e1⟩ := r
        obtain ⟨t', e2⟩ := r'
        subst e1 e2
        have := EqAt.int_int (A := A) (s := s) i t j t'
        have e : decide (flat (.int i) = flat (.int j)) = (i == j) := by
          show decide ([i] = [j]) = _
          by_cases c : i = j
          · subst c; simp
          · simp [c]
        rw [e]; exact this
      | _ => simp [alike] at h
    | tuple ds =>
      cases e with
      | tuple es =>
        obtain ⟨a, o, xs, n, e1, ho, hc, hd, r⟩ := r
        obtain ⟨a', o', xs', n', e2, ho', hc', hd', r'⟩ := r'
        have h : alikes ds es = true := by simpa [alike] using h
        have hu : A.units + (1 + deepsD ds) < cLine := hu
        have hm : 1 + deepsD ds < m + 1 := hm
        subst e1 e2
        by_cases c : a = a'
        · subst c
          rw [ho] at ho'
          cases ho'
          rw [hd] at hd'
          cases hd'
          have := Rns.inj r r'
          subst this
          rw [decide_eq_true rfl]
          exact EqAt.same _
        · have l1 := Rns.len r
          have l2 := Rns.len r'
          have ls := alikes_size ds es h
          rw [Array.length_toList] at l1 l2
          have k := RcAt.tuples (A := A) (s := s) (e := fun j => decide (flat (ds.getD j .none) = flat (es.getD j .none))) ⟨o, ho, hc, n, hd⟩ ⟨o', ho', hc', n', hd'⟩ (by omega) (fun j h1 h2 => ?_)
          · refine EqAt.of_refs c ?_
            have e3 : ((List.range (min xs.size xs'.size)).all (fun j => decide (flat (ds.getD j .none) = flat (es.getD j .none))) && xs.size == xs'.size) = decide (flat (.tuple ds) = flat (.tuple es)) := by
              rw [l1, l2, ← ls, Nat.min_self, all_flats ds es h]
              simp only [flat, BEq.rfl, Bool.and_true]
              exact decide_eq_decide.mpr Iff.rfl
            rw [e3] at k
            exact k
          · have q1 : j < ds.length := by omega
            have q2 : j < es.length := by omega
            have g1 : ds.getD j .none = ds[j] := by simp [List.getD, q1]
            have g2 : es.getD j .none = es[j] := by simp [List.getD, q2]
            rw [g1, g2]
            have z1 := Rns.at r j (by simpa using h1) q1
            have z2 := Rns.at r' j (by simpa using h2) q2
            rw [Array.getElem_toList] at z1 z2
            have := deeps_at ds j q1
            exact rn_eq m ds[j] es[j] (by omega) z1 z2 (alikes_at h j q1 q2) (by show A.units + 1 + _ < _; omega)
      | _ => simp [alike] at h
    | _ => exact r.elim
theorem rn_lt : ∀ (m : Nat) (d e : D), deepD d < m → ∀ {A : Around} {s : Shared} {v u : Value}, Rn s.heap d v → Rn s.heap e u → alike d e = true → A.units + deepD d < cLine → RcLt A s v u (lexI (flat d) (flat e))
  | 0, _, _, h, _, _, _, _, _, _, _, _ => absurd h (Nat.not_lt_zero _)
  | m + 1, d, e, hm, A, s, v, u, r, r', h, hu => by
    cases d with
    | int i =>
      cases e with
      | int j =>
        obtain ⟨t, e1⟩ := r
        obtain ⟨t', e2⟩ := r'
        subst e1 e2
        intro prog w E Q q
        have e : lexI (flat (.int i)) (flat (.int j)) = decide (i < j) := by
          show lexI [i] [j] = _
          rw [lexI_cons]
          by_cases c : i = j
          · subst c; simp [lexI]
          · rw [if_neg c]
        rw [e] at q
        exact (PyProof.Rows.lt_int q : wpAny (model prog w) A (compareOp .Lt (.int i t) (.int j t')) Q E s)
      | _ => simp [alike] at h
    | tuple ds =>
      cases e with
      | tuple es =>
        obtain ⟨a, o, xs, n, e1, ho, hc, hd, r⟩ := r
        obtain ⟨a', o', xs', n', e2, ho', hc', hd', r'⟩ := r'
        have h : alikes ds es = true := by simpa [alike] using h
        have hu : A.units + (1 + deepsD ds) < cLine := hu
        have hm : 1 + deepsD ds < m + 1 := hm
        subst e1 e2
        have l1 := Rns.len r
        have l2 := Rns.len r'
        have ls := alikes_size ds es h
        rw [Array.length_toList] at l1 l2
        have it : ∀ j (h1 : j < xs.size) (h2 : j < xs'.size), Rn s.heap (ds.getD j .none) xs[j] ∧ Rn s.heap (es.getD j .none) xs'[j] ∧ alike (ds.getD j .none) (es.getD j .none) = true ∧ deepD (ds.getD j .none) ≤ deepsD ds := fun j h1 h2 => by
          have q1 : j < ds.length := by omega
          have q2 : j < es.length := by omega
          have g1 : ds.getD j .none = ds[j] := by simp [List.getD, q1]
          have g2 : es.getD j .none = es[j] := by simp [List.getD, q2]
          rw [g1, g2]
          have z1 := Rns.at r j (by simpa using h1) q1
          have z2 := Rns.at r' j (by simpa using h2) q2
          rw [Array.getElem_toList] at z1 z2
          exact ⟨z1, z2, alikes_at h j q1 q2, deeps_at ds j q1⟩
        have k := RcLt.tuples (A := A) (s := s) (e := fun j => decide (flat (ds.getD j .none) = flat (es.getD j .none))) (r := fun j => lexI (flat (ds.getD j .none)) (flat (es.getD j .none))) ⟨o, ho, hc, n, hd⟩ ⟨o', ho', hc', n', hd'⟩ (by omega)
          (fun j h1 h2 => by
            obtain ⟨z1, z2, z3, z4⟩ := it j h1 h2
            exact rn_eq m _ _ (by omega) z1 z2 z3 (by show A.units + 1 + _ < _; omega))
          (fun j h1 h2 _ => by
            obtain ⟨z1, z2, z3, z4⟩ := it j h1 h2
            exact rn_lt m _ _ (by omega) z1 z2 z3 (by show A.units + 1 + _ < _; omega))
        have e3 : firstLt (fun j => decide (flat (ds.getD j .none) = flat (es.getD j .none))) (fun j => lexI (flat (ds.getD j .none)) (flat (es.getD j .none))) (decide (xs.size < xs'.size)) (List.range (min xs.size xs'.size)) = lexI (flat (.tuple ds)) (flat (.tuple es)) := by
          rw [l1, l2, ← ls, Nat.min_self, decide_eq_false (Nat.lt_irrefl _)]
          exact firstLt_flats ds es _ 0 h rfl (Nat.zero_le _)
        rw [e3] at k
        exact k
      | _ => simp [alike] at h
    | _ => exact r.elim
section
variable {prog : Program} {w : World} {A : Around} {s : Shared}
theorem kat_rn {b : Bool} {Q : Bool → Shared → Prop} {B : Nat} (hu : A.units + B < cLine) : ∀ (ds es : List D) (vs us : List Value) (i : Nat), Rns s.heap ds vs → Rns s.heap es us → alikes ds es = true → deepsD ds ≤ B → (i = 0 → b = true → ∀ d ∈ ds.head?, ∃ n, d = .int n) →
    Q (lexI (flats ds) (flats es)) s → PySem.W.KatLex prog w A b false Q (vs.zip us) i s
  | [], [], [], [], _, _, _, _, _, _, q => q
  | d :: ds, e :: es, v :: vs, u :: us, i, r, r', h, hB, h0, q => by
    simp only [alikes, Bool.and_eq_true] at h
    have hB : max (deepD d) (deepsD ds) ≤ B := hB
    have q : Q (lexI (flat d ++ flats ds) (flat e ++ flats es)) s := q
    rw [lexI_app _ _ _ _ (alike_len d e h.1)] at q
    refine PySem.W.kat_cons (rn_eq _ d e (Nat.lt_succ_self _) r.1 r'.1 h.1 (by omega) prog w _ _ ?_)
    refine PySem.W.kat_go (fun c => ?_) (fun c => ?_)
    · have c := of_decide_eq_true c
      rw [if_pos c] at q
      exact PySem.W.kat_yes (kat_rn hu ds es vs us (i + 1) r.2 r'.2 h.2 (by omega) (fun z => absurd z (by omega)) q)
    · have c := of_decide_eq_false c
      rw [if_neg c] at q
      refine PySem.W.kat_no ?_
      by_cases z : (b && i == 0) = true
      · rw [z]
        obtain ⟨n, rfl⟩ := h0 (by simpa using (Bool.and_eq_true_iff.mp z).2) (Bool.and_eq_true_iff.mp z).1 d rfl
        cases e with
        | int m =>
          obtain ⟨t, e1⟩ := r.1
          obtain ⟨t', e2⟩ := r'.1
          subst e1 e2
          have e3 : lexI (flat (.int n)) (flat (.int m)) = decide (n < m) := by
            show lexI [n] [m] = _
            rw [lexI_cons, if_neg (fun x => c (by rw [x]))]
          rw [e3] at q
          exact PyProof.Rows.oneLt_int q
        | _ => simp [alike] at h
      · have z : (b && i == 0) = false := by simpa using z
        rw [z]
        exact PySem.W.kat_one _ _ (rn_lt _ d e (Nat.lt_succ_self _) r.1 r'.1 h.1 (by omega) prog w _ _ q)
  | [], [], _ :: _, _, _, r, _, _, _, _, _ => r.elim
  | [], [], [], _ :: _, _, _, r, _, _, _, _ => r.elim
  | _ :: _, _, [], _, _, r, _, _, _, _, _ => r.elim
  | _ :: _, _ :: _, _ :: _, [], _, _, r, _, _, _, _ => r.elim
  | [], _ :: _, _, _, _, _, _, h, _, _, _ | _ :: _, [], _, _, _, _, _, h, _, _, _ => by simp [alikes] at h
end
end Sim
namespace Sim
open PySem PySem.Spec L2 PySem.SeqAt SrtO
section
variable {prog : Program} {w : World} {A : Around} {s : Shared}
theorem rn_firsts {h : Heap} {k : Value → D} : ∀ {vs : List Value}, (∀ v ∈ vs, ∃ c cs, k v = .tuple (c :: cs) ∧ Rn h (k v) v) → ∃ fs : List Value, PySem.W.KatTups h vs fs ∧ fs.length = vs.length ∧ ∀ f ∈ fs, ∃ v ∈ vs, ∃ c cs, k v = .tuple (c :: cs) ∧ Rn h c f
  | [], _ => ⟨[], PySem.W.KatTups.nil, rfl, fun _ hm => by simp at hm⟩
  | v :: vs, hp => by
    obtain ⟨fs, h1, h2, h3⟩ := rn_firsts (vs := vs) fun v' hm => hp v' (List.mem_cons_of_mem _ hm)
    obtain ⟨c, cs, e, r⟩ := hp v (List.mem_cons_self ..)
    rw [e] at r
    obtain ⟨a, o, xs, n, e2, ho, hc, hd, r⟩ := r
    subst e2
    obtain ⟨xl⟩ := xs
    cases xl with
    | nil => exact r.elim
    | cons x xl =>
      refine ⟨x :: fs, PySem.W.KatTups.cons ho hc hd (by simp) h1, by rw [List.length_cons, List.length_cons, h2], fun f hm => ?_⟩
      rcases List.mem_cons.mp hm with rfl | hm
      · exact ⟨_, List.mem_cons_self .., c, cs, e, r.1⟩
      · obtain ⟨v', m', z⟩ := h3 f hm
        exact ⟨v', List.mem_cons_of_mem _ m', z⟩
theorem rn_sortable {a : Addr} {vs : List Value} {k : Value → D} {B : Nat} (h0 : 0 < vs.length) (hr : ∀ v ∈ vs, ∃ c cs, k v = .tuple (c :: cs) ∧ Rn s.heap (k v) v) (hal : ∀ v ∈ vs, ∀ u ∈ vs, alike (k v) (k u) = true) (hB : ∀ v ∈ vs, deepD (k v) ≤ B) (hu : A.units + B < cLine)
    (ha : ∀ o, s.heap.get? a = some o → o.cls ≠ .type "tuple") : SortableO prog w A s a vs fun v u => lexI (flat (k v)) (flat (k u)) := by
  intro h' keep
  have hk : KeepT s.heap h' := fun b o e c => keep b o (fun z => by subst z; exact ha o e c) e
  have hp : ∀ v ∈ vs, ∃ c cs, k v = .tuple (c :: cs) ∧ Rn h' (k v) v := fun v hm => by
    obtain ⟨c, cs, e, r⟩ := hr v hm
    exact ⟨c, cs, e, r.keep hk⟩
  obtain ⟨fs, h1, h2, h3⟩ := rn_firsts hp
  obtain ⟨v0, hv0⟩ : ∃ v0, v0 ∈ vs := by
    cases vs with
    | nil => exact absurd h0 (by simp)
    | cons v vs => exact ⟨v, List.mem_cons_self ..⟩
  obtain ⟨c0, cs0, e0, r0⟩ := hp v0 hv0
  -- the comparison, whichever kind
  have cmp : ∀ b : Bool, (b = true → ∃ n, c0 = .int n) → Cmp prog w A { s with heap := h' } (PyProof.Rows.tuples' b) (fun p => p.1 ∈ vs) (lt2 fun v u => lexI (flat (k v)) (flat (k u))) := by
    intro b hb p q hm hm'
    obtain ⟨c, cs, e, r⟩ := hp _ hm
    obtain ⟨c', cs', e', r'⟩ := hp _ hm'
    have al := hal _ hm _ hm'
    have al0 := hal _ hm _ hv0
    have dB := hB _ hm
    show wpAny (model prog w) A (PyProof.Rows.keyLt' (PyProof.Rows.tuples' b) p.1 q.1) (fun z s' => s' = { s with heap := h' } ∧ z = lexI (flat (k p.1)) (flat (k q.1))) (fun _ _ => False) { s with heap := h' }
    rw [e] at r al al0 dB ⊢
    rw [e'] at r' al ⊢
    rw [e0] at al0
    obtain ⟨a, o, xs, n, ev, ho, hc, hd, r⟩ := r
    obtain ⟨a', o', xs', n', ev', ho', hc', hd', r'⟩ := r'
    rw [ev, ev']
    have l1 := Rns.len r
    have l2 := Rns.len r'
    have al : alikes (c :: cs) (c' :: cs') = true := by simpa [alike] using al
    have al0 : alikes (c :: cs) (c0 :: cs0) = true := by simpa [alike] using al0
    have ls := alikes_size _ _ al
    rw [Array.length_toList] at l1 l2
    have dB : 1 + deepsD (c :: cs) ≤ B := dB
    refine PySem.W.kat_lt ho hd ho' hd' ?_
    rw [show decide (xs.size < xs'.size) = false from decide_eq_false (by omega)]
    refine kat_rn (s := { s with heap := h' }) (B := B) hu (c :: cs) (c' :: cs') _ _ 0 r r' al (by omega) (fun _ hb' d hd => ?_) ⟨rfl, rfl⟩
    have : d = c := by simpa using hd.symm
    subst this
    obtain ⟨n, rfl⟩ := hb hb'
    simp only [alikes, Bool.and_eq_true] at al0
    cases d with
    | int m => exact ⟨m, rfl⟩
    | _ => simp [alike] at al0
  have frs : ∀ f ∈ fs, ∃ c, Rn h' c f ∧ alike c c0 = true := fun f hf => by
    obtain ⟨v, hv, c, cs, e, r⟩ := h3 f hf
    refine ⟨c, r, ?_⟩
    have := hal v hv v0 hv0
    rw [e, e0] at this
    have : alikes (c :: cs) (c0 :: cs0) = true := by simpa [alike] using this
    simp only [alikes, Bool.and_eq_true] at this
    exact this.1
  cases c0 with
  | int n0 =>
    refine ⟨PyProof.Rows.tuples' true, fun Q E hq => ?_, cmp true fun _ => ⟨_, rfl⟩⟩
    refine PySem.W.kat_kind (s := { s with heap := h' }) (T := .type "int") h1 (by omega) (fun f hm => ?_) (by rfl) ?_
    · obtain ⟨c, r, al⟩ := frs f hm
      cases c with
      | int m =>
        obtain ⟨t, rfl⟩ := r
        exact PySem.W.Looks.now
      | _ => simp [alike] at al
    · have e : (Value.type "int" != Value.type "tuple") = true := by first | decide +kernel | rfl | decide
      rw [e]
      exact hq
  | tuple ds0 =>
    refine ⟨PyProof.Rows.tuples' false, fun Q E hq => ?_, cmp false fun z => by cases z⟩
    refine PySem.W.kat_kind (s := { s with heap := h' }) (T := .type "tuple") h1 (by omega) (fun f hm => ?_) (by rfl) ?_
    · obtain ⟨c, r, al⟩ := frs f hm
      cases c with
      | tuple es =>
        obtain ⟨a, o, xs, n, rfl, ho, hc, hd, _⟩ := r
        have z : PySem.W.Looks (model prog w) h' (typeOf (.ref a)) o.cls := (PySem.W.Looks.ld ho).andThen .now
        rw [hc] at z
        exact z
      | _ => simp [alike] at al
    · have e : (Value.type "tuple" != Value.type "tuple") = false := by first | decide +kernel | rfl | decide
      rw [e]
      exact hq
  | none => have z := hal v0 hv0 v0 hv0; rw [e0] at z; simp [alike, alikes] at z
  | bool _ => have z := hal v0 hv0 v0 hv0; rw [e0] at z; simp [alike, alikes] at z
  | str _ => have z := hal v0 hv0 v0 hv0; rw [e0] at z; simp [alike, alikes] at z
  | list _ => have z := hal v0 hv0 v0 hv0; rw [e0] at z; simp [alike, alikes] at z
  | dict _ => have z := hal v0 hv0 v0 hv0; rw [e0] at z; simp [alike, alikes] at z
end
section
variable {α : Type}
def insF (k : α → List Int) (d : α) : List α → List α
  | [] => [d]
  | e :: l => if lexI (k e) (k d) = true then e :: insF k d l else d :: e :: l
def sortF (k : α → List Int) : List α → List α
  | [] => []
  | d :: l => insF k d (sortF k l)
theorem insF_perm (k : α → List Int) (d : α) : ∀ l, (insF k d l).Perm (d :: l)
  | [] => .refl _
  | e :: l => by
    unfold insF
    split
    · exact ((insF_perm k d l).cons e).trans (.swap d e l)
    · exact .refl _
theorem sortF_perm (k : α → List Int) : ∀ l : List α, (sortF k l).Perm l
  | [] => .refl _
  | d :: l => (insF_perm k d _).trans ((sortF_perm k l).cons d)
abbrev ltF (k : α → List Int) (x y : α) : Bool := lexI (k x) (k y)
theorem insF_srt (k : α → List Int) (d : α) : ∀ l, Srtd (ltF k) l → Srtd (ltF k) (insF k d l)
  | [], _ => List.pairwise_singleton _ _
  | e :: l, h => by
    obtain ⟨h1, h2⟩ := List.pairwise_cons.mp h
    unfold insF
    split
    · rename_i c
      refine List.pairwise_cons.mpr ⟨fun x hx => ?_, insF_srt k d l h2⟩
      rcases List.mem_cons.mp ((insF_perm k d l).mem_iff.mp hx) with rfl | hx
      · exact lexI_asym _ _ c
      · exact h1 x hx
    · rename_i c
      have c : lexI (k e) (k d) = false := by simpa using c
      refine List.pairwise_cons.mpr ⟨fun x hx => ?_, h⟩
      rcases List.mem_cons.mp hx with rfl | hx
      · exact c
      · exact lexI_tr _ _ _ c (h1 x hx)
theorem sortF_srt (k : α → List Int) : ∀ l : List α, Srtd (ltF k) (sortF k l)
  | [] => .nil
  | d :: l => insF_srt k d _ (sortF_srt k l)
theorem insF_stb (k : α → List Int) (d : α) : ∀ l, Stb (ltF k) (insF k d l) (d :: l)
  | [] => Stb.refl _
  | e :: l => by
    have ih := insF_stb k d l
    unfold insF
    split
    · rename_i c
      refine ⟨(ih.perm.cons e).trans (.swap d e l), fun x => ?_⟩
      have z := ih.cls x
      -- not both are as x
      by_cases q1 : eqv (ltF k) x e = true
      · have q2 : ¬ eqv (ltF k) x d = true := fun q2 => by
          have a1 := eqv_iff.mp q1
          have a2 := eqv_iff.mp q2
          have := lexI_tr _ _ _ a2.1 a1.2
          have c' : lexI (k e) (k d) = true := c
          rw [this] at c'
          cases c'
        rw [List.filter_cons_of_pos q1, z, List.filter_cons_of_neg q2, List.filter_cons_of_neg q2, List.filter_cons_of_pos q1]
      · rw [List.filter_cons_of_neg q1, z]
        by_cases q2 : eqv (ltF k) x d = true
        · rw [List.filter_cons_of_pos q2, List.filter_cons_of_pos q2, List.filter_cons_of_neg q1]
        · rw [List.filter_cons_of_neg q2, List.filter_cons_of_neg q2, List.filter_cons_of_neg q1]
    · exact Stb.refl _
theorem sortF_stb (k : α → List Int) : ∀ l : List α, Stb (ltF k) (sortF k l) l
  | [] => Stb.refl _
  | d :: l => by
    have h1 := insF_stb k d (sortF k l)
    have h2 := sortF_stb k l
    refine ⟨h1.perm.trans (h2.perm.cons d), fun x => (h1.cls x).trans ?_⟩
    by_cases q : eqv (ltF k) x d = true
    · rw [List.filter_cons_of_pos q, List.filter_cons_of_pos q, h2.cls x]
    · rw [List.filter_cons_of_neg q, List.filter_cons_of_neg q, h2.cls x]
theorem sortF_uniq {k : α → List Int} {l m : List α} (h1 : Srtd (ltF k) l) (h2 : Stb (ltF k) l m) : l = sortF k m := by
  refine stb_uniq (swo_flat k) h1 (sortF_srt k m) ⟨h2.perm.trans (sortF_perm k m).symm, fun x => ?_⟩
  rw [h2.cls x, (sortF_stb k m).cls x]
end
/-- what can be sorted so: tuples, not empty, of one shape, not deep -/
def okN : List D → Bool
  | [] => true
  | d :: ds => (match d with | .tuple (_ :: _) => true | _ => false) && decide (deepD d ≤ 8) && (d :: ds).all fun e => alike d e
mutual
theorem alike_symm : ∀ d e : D, alike d e = true → alike e d = true
  | .int _, .int _, _ => rfl
  | .tuple ds, .tuple es, h => by
    have h : alikes ds es = true := by simpa [alike] using h
    show alikes es ds = true
    exact alikes_symm ds es h
  | .none, _, h | .bool _, _, h | .str _, _, h | .list _, _, h | .dict _, _, h => by simp [alike] at h
  | .int _, .none, h | .int _, .bool _, h | .int _, .str _, h | .int _, .list _, h | .int _, .dict _, h | .int _, .tuple _, h => by simp [alike] at h
  | .tuple _, .none, h | .tuple _, .bool _, h | .tuple _, .str _, h | .tuple _, .list _, h | .tuple _, .dict _, h | .tuple _, .int _, h => by simp [alike] at h
theorem alikes_symm : ∀ ds es : List D, alikes ds es = true → alikes es ds = true
  | [], [], _ => rfl
  | d :: ds, e :: es, h => by
    simp only [alikes, Bool.and_eq_true] at h ⊢
    exact ⟨alike_symm d e h.1, alikes_symm ds es h.2⟩
  | [], _ :: _, h | _ :: _, [], h => by simp [alikes] at h
end
mutual
theorem alike_trans : ∀ d e f : D, alike d e = true → alike e f = true → alike d f = true
  | .int _, .int _, .int _, _, _ => rfl
  | .tuple ds, .tuple es, .tuple fs, h, h2 => by
    have h : alikes ds es = true := by simpa [alike] using h
    have h2 : alikes es fs = true := by simpa [alike] using h2
    show alikes ds fs = true
    exact alikes_trans ds es fs h h2
  | .none, _, _, h, _ | .bool _, _, _, h, _ | .str _, _, _, h, _ | .list _, _, _, h, _ | .dict _, _, _, h, _ => by simp [alike] at h
  | .int _, .none, _, h, _ | .int _, .bool _, _, h, _ | .int _, .str _, _, h, _ | .int _, .list _, _, h, _ | .int _, .dict _, _, h, _ | .int _, .tuple _, _, h, _ => by simp [alike] at h
  | .tuple _, .none, _, h, _ | .tuple _, .bool _, _, h, _ | .tuple _, .str _, _, h, _ | .tuple _, .list _, _, h, _ | .tuple _, .dict _, _, h, _ | .tuple _, .int _, _, h, _ => by simp [alike] at h
  | .int _, .int _, .none, _, h | .int _, .int _, .bool _, _, h | .int _, .int _, .str _, _, h | .int _, .int _, .list _, _, h | .int _, .int _, .dict _, _, h | .int _, .int _, .tuple _, _, h => by simp [alike] at h
  | .tuple _, .tuple _, .none, _, h | .tuple _, .tuple _, .bool _, _, h | .tuple _, .tuple _, .str _, _, h | .tuple _, .tuple _, .list _, _, h | .tuple _, .tuple _, .dict _, _, h | .tuple _, .tuple _, .int _, _, h => by simp [alike] at h
theorem alikes_trans : ∀ ds es fs : List D, alikes ds es = true → alikes es fs = true → alikes ds fs = true
  | [], [], [], _, _ => rfl
  | d :: ds, e :: es, f :: fs, h, h2 => by
    simp only [alikes, Bool.and_eq_true] at h h2 ⊢
    exact ⟨alike_trans d e f h.1 h2.1, alikes_trans ds es fs h.2 h2.2⟩
  | [], _ :: _, _, h, _ | _ :: _, [], _, h, _ => by simp [alikes] at h
  | [], [], _ :: _, _, h | _ :: _, _ :: _, [], _, h => by simp [alikes] at h
end
mutual
theorem alike_deep : ∀ d e : D, alike d e = true → deepD d = deepD e
  | .int _, .int _, _ => rfl
  | .tuple ds, .tuple es, h => by
    have h : alikes ds es = true := by simpa [alike] using h
    show 1 + deepsD ds = 1 + deepsD es
    rw [alikes_deep ds es h]
  | .none, _, h | .bool _, _, h | .str _, _, h | .list _, _, h | .dict _, _, h => by simp [alike] at h
  | .int _, .none, h | .int _, .bool _, h | .int _, .str _, h | .int _, .list _, h | .int _, .dict _, h | .int _, .tuple _, h => by simp [alike] at h
  | .tuple _, .none, h | .tuple _, .bool _, h | .tuple _, .str _, h | .tuple _, .list _, h | .tuple _, .dict _, h | .tuple _, .int _, h => by simp [alike] at h
theorem alikes_deep : ∀ ds es : List D, alikes ds es = true → deepsD ds = deepsD es
  | [], [], _ => rfl
  | d :: ds, e :: es, h => by
    simp only [alikes, Bool.and_eq_true] at h
    show max _ _ = max _ _
    rw [alike_deep d e h.1, alikes_deep ds es h.2]
  | [], _ :: _, h | _ :: _, [], h => by simp [alikes] at h
end
theorem okN_all {ds : List D} (h : okN ds = true) : ∀ d ∈ ds, (∃ c cs, d = .tuple (c :: cs)) ∧ deepD d ≤ 8 ∧ ∀ e ∈ ds, alike d e = true := by
  cases ds with
  | nil => intro d hd; cases hd
  | cons d0 ds =>
    simp only [okN, Bool.and_eq_true, decide_eq_true_eq, List.all_eq_true] at h
    obtain ⟨⟨h1, h2⟩, h3⟩ := h
    have h0 : ∃ c cs, d0 = .tuple (c :: cs) := by
      split at h1
      · exact ⟨_, _, rfl⟩
      · cases h1
    intro d hd
    have z := h3 d hd
    refine ⟨?_, by rw [← alike_deep _ _ z]; exact h2, fun e he => alike_trans _ _ _ (alike_symm _ _ z) (h3 e he)⟩
    obtain ⟨c, cs, rfl⟩ := h0
    cases d with
    | tuple es =>
      cases es with
      | nil => simp [alike, alikes] at z
      | cons e es => exact ⟨e, es, rfl⟩
    | _ => simp [alike] at z
section
variable {X : Cx} {pins : List (Addr × Obj)} {σ : St} {H : Hp} {s : Shared}
mutual
theorem own_rn (I : Inv X pins σ H s) : ∀ (d : D) (v : V) (u : Value) (F : List Addr), Own X.K H d v F → RelV v u → alike d d = true → Rn s.heap d u
  | .int i, _, _, _, h, r, _ => by
    cases h
    obtain ⟨t, rfl⟩ := r
    exact ⟨t, rfl⟩
  | .tuple ds, _, _, _, h, r, al => by
    cases h with
    | tup hs ha =>
      cases r
      obtain ⟨its, rv, ⟨o, ho, hc, n, hd⟩, _⟩ := I.tuple hs.sq
      have al : alikes ds ds = true := by simpa [alike] using al
      exact ⟨_, o, _, n, rfl, ho, hc, hd, owns_rn I ds _ its _ ha rv al⟩
  | .none, _, _, _, _, _, h | .bool _, _, _, _, _, _, h | .str _, _, _, _, _, _, h | .list _, _, _, _, _, _, h | .dict _, _, _, _, _, _, h => by simp [alike] at h
theorem owns_rn (I : Inv X pins σ H s) : ∀ (ds : List D) (vs : List V) (us : List Value) (F : List Addr), OwnA X.K H ds vs F → Vals vs us → alikes ds ds = true → Rns s.heap ds us
  | [], _, _, _, h, r, _ => by
    cases h
    cases r
    trivial
  | d :: ds, _, _, _, h, r, al => by
    simp only [alikes, Bool.and_eq_true] at al
    cases h with
    | cons h1 h2 =>
      cases r with
      | cons r1 r2 => exact ⟨own_rn I d _ _ _ h1 r1 al.1, owns_rn I ds _ _ _ h2 r2 al.2⟩
end
theorem OwnA.at1 {K : PySem.W.Frag} {H : Hp} : ∀ {ds : List D} {vs : List V}, OwnA K H ds vs [] → ∀ (us : List Value), Vals vs us → ∀ u ∈ us, ∃ d ∈ ds, ∃ v, RelV v u ∧ Own K H d v []
  | [], _, h, us, r, u, hu => by
    cases h
    cases r
    cases hu
  | d :: ds, v :: vs, h, _, r, u, hu => by
    obtain ⟨o1, o2⟩ := OwnA.nil2 h
    cases r with
    | cons r1 r2 =>
      rcases List.mem_cons.mp hu with rfl | hu
      · exact ⟨d, List.mem_cons_self .., v, r1, o1⟩
      · obtain ⟨d', m, v', r', o'⟩ := OwnA.at1 o2 _ r2 u hu
        exact ⟨d', List.mem_cons_of_mem _ m, v', r', o'⟩
theorem own_back {K : PySem.W.Frag} {H : Hp} {k : Value → D} : ∀ (out : List Value), (∀ u ∈ out, ∃ v, RelV v u ∧ Own K H (k u) v []) → ∃ ys, Vals ys out ∧ OwnA K H (out.map k) ys []
  | [], _ => ⟨[], .nil, .nil⟩
  | u :: out, h => by
    obtain ⟨v, r, o⟩ := h u (List.mem_cons_self ..)
    obtain ⟨ys, r2, o2⟩ := own_back out fun u' hu' => h u' (List.mem_cons_of_mem _ hu')
    exact ⟨v :: ys, .cons r r2, OwnA.cons0 o o2⟩
/-- a reading of the items -/
theorem rns_key {h : Heap} : ∀ {ds : List D} {us : List Value}, Rns h ds us → ∀ (k : Value → D), (∀ u d, d ∈ ds → Rn h d u → k u = d) → us.map k = ds
  | [], [], _, _, _ => rfl
  | d :: ds, u :: us, r, k, hk => by rw [List.map_cons, hk u d (List.mem_cons_self ..) r.1, rns_key r.2 k fun u d m => hk u d (List.mem_cons_of_mem _ m)]
  | [], _ :: _, r, _, _ => r.elim
  | _ :: _, [], r, _, _ => r.elim
open Classical in
noncomputable def keyR (h : Heap) (ds : List D) (u : Value) : D := if e : ∃ d, d ∈ ds ∧ Rn h d u then e.choose else .none
theorem keyR_eq {h : Heap} {ds : List D} {u : Value} {d : D} (m : d ∈ ds) (r : Rn h d u) : keyR h ds u = d := by
  unfold keyR
  have e : ∃ d, d ∈ ds ∧ Rn h d u := ⟨d, m, r⟩
  rw [dif_pos e]
  exact Rn.inj e.choose_spec.2 r
theorem sort_known {its : List Value} {xs : List V} {ds : List D} (I : Inv X pins σ H s) (rv : Vals xs its) (ho : OwnA X.K H ds xs []) (ok : okN ds = true) :
    ∀ out : List Value, Srtd (fun v u => lexI (flat (keyR s.heap ds v)) (flat (keyR s.heap ds u))) out → Stb (fun v u => lexI (flat (keyR s.heap ds v)) (flat (keyR s.heap ds u))) out its → ∃ ys, Vals ys out ∧ OwnA X.K H (sortF flat ds) ys [] ∧ ys.length = xs.length := by
  intro out h1 h2
  have okd := okN_all ok
  have als : alikes ds ds = true := by
    have : ∀ l : List D, (∀ d ∈ l, alike d d = true) → alikes l l = true := by
      intro l
      induction l with
      | nil => intro _; rfl
      | cons d l ih => intro h; simp only [alikes, Bool.and_eq_true]; exact ⟨h d (List.mem_cons_self ..), ih fun e he => h e (List.mem_cons_of_mem _ he)⟩
    exact this ds fun d hd => (okd d hd).2.2 d hd
  have rn := owns_rn I ds xs its _ ho rv als
  have hk := rns_key rn (keyR s.heap ds) fun u d m r => keyR_eq m r
  have hb : Stb (ltF flat) (out.map (keyR s.heap ds)) ds := by
    have z := Stb.map (lt := ltF flat) (swo_flat flat) (keyR s.heap ds) h2
    rw [hk] at z
    exact z
  have hs : out.map (keyR s.heap ds) = sortF flat ds := sortF_uniq (srtd_map h1) hb
  obtain ⟨ys, ry, oy⟩ := own_back (K := X.K) (H := H) (k := keyR s.heap ds) out fun u hu => by
    have hu' := h2.perm.mem_iff.mp hu
    obtain ⟨d, m, v, r, o⟩ := OwnA.at1 ho its rv u hu'
    have := own_rn I d v u _ o r ((okd d m).2.2 d m)
    rw [keyR_eq m this]
    exact ⟨v, r, o⟩
  rw [hs] at oy
  exact ⟨ys, ry, oy, by rw [ry.length, h2.len, ← rv.length]⟩
/-- the sort of such values, laid: what is handed to all rules that sort -/
theorem sort_laid {its : List Value} {xs : List V} {ds : List D} {Q : VK} (I : Inv X pins σ H s) (rv : Vals xs its) (ho : OwnA X.K H ds xs []) (ok : okN ds = true) (hz : xs.length ≤ sizeLine)
    (q : ∀ ys p, OwnA X.K H (sortF flat ds) ys [] → H p = none → Q (.ref p) (upd H p (.lst ys))) :
    ∀ out : List Value, Srtd (fun v u => lexI (flat (keyR s.heap ds v)) (flat (keyR s.heap ds u))) out → Stb (fun v u => lexI (flat (keyR s.heap ds v)) (flat (keyR s.heap ds u))) out its → EP X pins σ Q (.ref (s.heap.objs.size + 1)) { s with heap := PyProof.Rows.sortedAll s.heap its out.toArray } := by
  intro out h1 h2
  obtain ⟨ys, ry, oy, ly⟩ := sort_known I rv ho ok out h1 h2
  obtain ⟨ep, he'⟩ := PyProof.Rows.sortedAll_at s.heap its out.toArray
  exact ⟨.ref _, upd H (s.heap.objs.size + 1) (.lst ys), I.laid (t' := s.toks) (fun _ _ => PyProof.Rows.sortedAll_old) (Nat.le_succ _) ⟨by rw [ly]; exact hz, out, ep, ry, he'⟩, rfl, q _ _ oy (I.hok.fresh (Nat.le_succ _))⟩
theorem sort_able {its : List Value} {xs : List V} {ds : List D} (I : Inv X pins σ H s) (hu : X.A.units + 65 < cLine) (rv : Vals xs its) (ho : OwnA X.K H ds xs []) (ok : okN ds = true) (h2 : 2 ≤ its.length) (h₁ : Heap) (a : Addr) (ha : h₁.get? a = some (PyProof.Rows.seqObj "list" its.toArray 0)) (k : ∀ b o, s.heap.get? b = some o → b ≠ a ∧ h₁.get? b = some o) :
    SortableO X.prog X.w X.A.in1.in1 { s with heap := h₁ } a its fun v u => lexI (flat (keyR s.heap ds v)) (flat (keyR s.heap ds u)) := by
  have okd := okN_all ok
  have kr : ∀ v ∈ its, keyR s.heap ds v ∈ ds ∧ Rn s.heap (keyR s.heap ds v) v := fun v hv => by
    obtain ⟨d, m, x, r, o⟩ := OwnA.at1 ho its rv v hv
    have := own_rn I d x v _ o r ((okd d m).2.2 d m)
    rw [keyR_eq m this]
    exact ⟨m, this⟩
  refine rn_sortable (B := 8) (by omega) (fun v hv => ?_) (fun v hv u hu => (okd _ (kr v hv).1).2.2 _ (kr u hu).1) (fun v hv => (okd _ (kr v hv).1).2.1) (by show X.A.units + 1 + 1 + 8 < cLine; omega) fun o e => ?_
  · obtain ⟨c, cs, e⟩ := (okd _ (kr v hv).1).1
    refine ⟨c, cs, e, (kr v hv).2.keep fun b o e _ => (k b o e).2⟩
  · have e' : some o = some (PyProof.Rows.seqObj "list" its.toArray 0) := e.symm.trans ha
    cases e'
    intro c
    exact absurd (Value.type.inj c) (by decide)
/-- sorted of a list or a tuple of such -/
def rSortN (K : PySem.W.Frag) : List V → Hp → VK → Prop := fun vs H Q => ∃ (a : Addr) (xs : List V) (ds : List D), vs = [V.ref a] ∧ (SqL K H a xs ∨ SqT K H a xs) ∧ OwnA K H ds xs [] ∧ okN ds = true ∧ ∀ ys p, OwnA K H (sortF flat ds) ys [] → H p = none → Q (.ref p) (upd H p (.lst ys))
theorem cr_sortN (hu : X.A.units + 65 < cLine) : CallR X (.builtin "sorted") (rSortN X.K) := by
  intro pins s σ H vs us Q I r h
  obtain ⟨a, xs, ds, rfl, hs, ho, ok, q⟩ := h
  rw [Vals.ref1 r]
  rcases hs with hs | hs
  · obtain ⟨its, rv, hl, hz⟩ := I.list hs
    exact sorted_ord (swo_flat fun v => flat (keyR s.heap ds v)) hl.isList (by rw [← rv.length]; exact hz) (fun h2 h₁ a' ha' k => sort_able I hu rv ho ok h2 h₁ a' ha' k) (sort_laid I rv ho ok hz q)
  · obtain ⟨its, rv, hl, hz⟩ := I.tuple hs
    exact SimSrt.sorted_ordT (swo_flat fun v => flat (keyR s.heap ds v)) hl (by rw [← rv.length]; exact hz) (fun h2 h₁ a' ha' k => sort_able I hu rv ho ok h2 h₁ a' ha' k) (sort_laid I rv ho ok hz q)
def pSortN : List D → Option D
  | [.list ds] => if okN ds && purs ds then some (.list (sortF flat ds)) else none
  | [.tuple ds] => if okN ds && purs ds then some (.list (sortF flat ds)) else none
  | _ => none
theorem pr_sortN {K : PySem.W.Frag} : PrimR K (rSortN K) pSortN := by
  intro vs ds d H Q h e q
  unfold pSortN at e
  split at e
  · obtain ⟨x, F, rfl, o⟩ := h.one
    split at e
    · rename_i ds c
      cases e
      rw [Bool.and_eq_true] at c
      cases o with
      | lst h1 t n =>
        have := t.pur c.2
        subst this
        exact ⟨_, _, ds, rfl, .inl (SqL.of h1), t, c.1, fun ys p oy hp => q _ _ (.lst oy hp)⟩
    · cases e
  · obtain ⟨x, F, rfl, o⟩ := h.one
    split at e
    · rename_i ds c
      cases e
      rw [Bool.and_eq_true] at c
      cases o with
      | tup h1 t =>
        have := t.pur c.2
        subst this
        exact ⟨_, _, ds, rfl, .inr h1.sq, t, c.1, fun ys p oy hp => q _ _ (.lst oy hp)⟩
    · cases e
  · cases e
end
end Sim
namespace Sim
open PySem PySem.Spec L2 PySem.SeqAt SrtO
section
variable {X : Cx} {pins : List (Addr × Obj)} {σ : St} {H : Hp} {s : Shared}
end
section
variable {k l : Bool} {a b : Addr} {xs ys : Array Value}
end
end Sim
namespace Sim
open PySem PySem.Spec L2 PySem.SeqAt SrtO
section
variable {prog : Program} {w : World} {A : Around} {E : Value → Shared → Prop} {s : Shared} {k l : Bool} {z TI TO i1 i2 a b : Addr} {xs ys : Array Value}
end
end Sim
namespace Sim
open PySem PySem.Spec L2 PySem.SeqAt SrtO
def seqLT : D → Option (List D)
  | .list ds => some ds
  | .tuple ds => some ds
  | _ => none
section
variable {X : Cx} {e e2 : Expr} {ta : TA} {p pos p2 pos2 : Pos}
end
end Sim
namespace Sim
open PySem PySem.Spec L2 PySem.SeqAt SrtO
section
variable [Tb] [Vs] {X : Cx} {e e2 : Expr} {ta : TA} {p pos p2 pos2 : Pos}
variable {g : AL}
end
end Sim
namespace Sim
open PySem PySem.Spec L2
section
variable [Tb] [Vs] {X : Cx}
def rSortAny (K : PySem.W.Frag) : List V → Hp → VK → Prop := fun vs H Q => rSortA K vs H Q ∨ rSortN K vs H Q
theorem cr_sortAny (hu : X.A.units + 65 < cLine) : CallR X (.builtin "sorted") (rSortAny X.K) := by
  intro pins s σ H vs us Q I r h
  rcases h with h | h
  · exact cr_sortA pins s σ H vs us Q I r h
  · exact cr_sortN hu pins s σ H vs us Q I r h
def pSortAny (l : List D) : Option D := match pSorted l with
  | some d => some d
  | none => pSortN l
theorem pr_sortAny {K : PySem.W.Frag} : PrimR K (rSortAny K) pSortAny := by
  intro vs ds d H Q h e q
  unfold pSortAny at e
  split at e
  · rename_i d' e'
    cases e
    exact .inl (pr_sorted vs ds d H Q h e' q)
  · exact .inr (pr_sortN vs ds d H Q h e q)
end
end Sim
namespace Sim
open PySem PySem.Spec L2
def dd : List Int → List Int
  | [] => []
  | x :: xs => if x ∈ xs then dd xs else x :: dd xs
section
variable [Tb] [Vs] {X : Cx} {a : Expr} {ta : TA} {p p2 q pos : Pos}
variable {ga : AL}
end
end Sim
namespace Sim
open PySem PySem.Spec L2
section
variable {X : Cx}
end
end Sim
namespace Sim
open PySem PySem.Spec L2
structure FnOkG (P : Program) (w : World) (K : PySem.W.Frag) (mg : Str → Option Value) (base : Heap) (k : Nat) (f : Addr) (fd : FuncData) (ps : List Str) (sp : Sp) : Prop where
  len : ∀ vs H Q E, sp vs H Q E → vs.length = ps.length
  run : ∀ (A : Around) (outer : List Env) (s : Shared) (H : Hp) (args : Args) (us : List Value) (vs : List V) (Q : VK) (E : XK), A.guards = some [] → Room k A → Env0 P w K mg base A outer s H →
    BindsTo s fd args (ps.zip us) → Vals vs us → sp vs H Q E → codeAny (model P w) A (.call (.ref f) args) (CR CX0 outer P w H s Q E) s
theorem FnOkG.of {P : Program} {w : World} {K : PySem.W.Frag} {mg : Str → Option Value} {base : Heap} {k : Nat} {f : Addr} {fd : FuncData} {ps : List Str} {sp : Sp} (F : FnOk P w K mg base CX0 k f fd ps sp) : FnOkG P w K mg base k f fd ps sp :=
  ⟨F.len, fun A outer s H args us vs Q E _ hr e0 hb r h => F.run A outer s H args us vs Q E hr e0 hb r h⟩
section
variable [Tb] {P : Program} {w : World} {K : PySem.W.Frag} {mg : Str → Option Value} {base : Heap}
end
section
open PyProof.Rows
end
end Sim
namespace Sim
open PySem PySem.Spec L2
section
variable [Tb] [Vs] {X : Cx} {K : PySem.W.Frag}
end
end Sim
namespace Sim
open PySem PySem.Spec L2
section
variable [Tb] [Vs] {X : Cx} {e : Expr} {x : Str} {p apos cpos : Pos} {tab : List (Int × Int)} {a : Addr}
end
end Sim
namespace Sim
open PySem PySem.Spec L2
def okMin (ds : List D) : Bool := purs ds && noDs ds && PyData.canLayAll0 ds && decide (PyData.depthAll ds ≤ 40) && ds.all fun x => (ds.all fun y => PySem.W.alike x y) && (match x with | .tuple _ => true | _ => false)
def pMinN : List D → Option D
  | [.list (d :: ds)] => if okMin (d :: ds) then some (PySem.W.minD d ds) else none
  | _ => none
def rMinN (K : PySem.W.Frag) : List V → Hp → VK → Prop := fun xs H Q => ∃ a vs d ds, xs = [.ref a] ∧ SqL K H a vs ∧ OwnA K H (d :: ds) vs [] ∧ okMin (d :: ds) = true ∧ ∀ v, Own K H (PySem.W.minD d ds) v [] → Q v H
theorem lay_mem0 : ∀ {ds : List D}, PyData.canLayAll0 ds = true → ∀ d ∈ ds, PyData.canLay0 d = true
  | _ :: _, h, x, hx => by
    rw [PyData.canLayAll0, Bool.and_eq_true] at h
    rcases List.mem_cons.mp hx with rfl | hx
    · exact h.1
    · exact lay_mem0 h.2 x hx
theorem noD_mem : ∀ {ds : List D}, noDs ds = true → ∀ d ∈ ds, noD d = true
  | _ :: _, h, x, hx => by
    rw [noDs, Bool.and_eq_true] at h
    rcases List.mem_cons.mp hx with rfl | hx
    · exact h.1
    · exact noD_mem h.2 x hx
section
variable {X : Cx}
theorem cr_minN (hc : X.calm = true) (hu : X.A.units + 64 < cLine) : CallR X (.builtin "min") (rMinN X.K) := by
  intro pins s σ H xs us Q I r h
  obtain ⟨a, vs, d, ds, rfl, hq, ho, ok, q⟩ := h
  rw [Vals.ref1 r]
  obtain ⟨its, rv, hl, hz⟩ := I.list hq
  simp only [okMin, Bool.and_eq_true, decide_eq_true_eq, List.all_eq_true] at ok
  obtain ⟨⟨⟨⟨o1, o2⟩, o3⟩, o4⟩, o5⟩ := ok
  obtain ⟨as, rd⟩ := Dp.readsAll I (d :: ds) vs its (ho.dp o2) rv
  refine PySem.W.min_list_data (I.ok.hd hc) hl.isList rd ⟨fun x hx y hy => (o5 x hx).1 y hy, fun x hx e => ?_⟩ (by omega) fun i v h' tk bs hi rm hk => ?_
  · have := (o5 x hx).2
    rw [e] at this
    cases this
  · have hv : v ∈ its := by
      have := Array.mem_of_getElem? hi
      simpa using this
    obtain ⟨e, he, x, rx, ox⟩ := ho.at1 its rv v hv
    obtain ⟨as2, r2⟩ := Dp.reads I e x v (ox.dp (noD_mem o2 e he)) rx
    have r3 : Reads h' v e as2 := PySem.W.reads_keeps hk r2
    have eq : e = PySem.W.minD d ds := SeqAt.Reads.unique _ _ _ _ _ (lay_mem0 o3 e he) r3 rm
    rw [eq] at ox
    exact ⟨x, H, I.kept (t' := tk) hk, rx, q x ox⟩
theorem pr_minN {K : PySem.W.Frag} : PrimR K (rMinN K) pMinN := by
  intro vs ds d H Q h e q
  unfold pMinN at e
  split at e
  · obtain ⟨x, F, rfl, o⟩ := h.one
    split at e
    · rename_i ok
      cases e
      have op := ok
      simp only [okMin, Bool.and_eq_true] at op
      cases o with
      | lst h1 t n =>
        have := t.pur op.1.1.1.1
        subst this
        exact ⟨_, _, _, _, rfl, SqL.of h1, t, ok, fun v ov => q _ _ ⟨Same.refl _, [], ov, fun a h => by cases h⟩⟩
    · cases e
  · cases e
/-- min(l): of ints, or of tuples -/
def pMinAny (ds : List D) : Option D := match pMin1 ds with
  | some d => some d
  | none => pMinN ds
def rMinAny (K : PySem.W.Frag) : List V → Hp → VK → Prop := fun vs H Q => rMinA K vs H Q ∨ rMinN K vs H Q
theorem cr_minAny (hc : X.calm = true) (hu : X.A.units + 64 < cLine) : CallR X (.builtin "min") (rMinAny X.K) := by
  intro pins s σ H vs us Q I r h
  rcases h with h | h
  · exact cr_minA hc pins s σ H vs us Q I r h
  · exact cr_minN hc hu pins s σ H vs us Q I r h
theorem pr_minAny {K : PySem.W.Frag} : PrimR K (rMinAny K) pMinAny := by
  intro vs ds d H Q h e q
  unfold pMinAny at e
  split at e
  · rename_i d' e'
    cases e
    exact .inl (pr_min1 vs ds d H Q h e' q)
  · exact .inr (pr_minN vs ds d H Q h e q)
theorem minAny_of {l : List D} {d : D} (h : pMin1 l = some d) : pMinAny l = some d := by
  unfold pMinAny
  rw [h]
end
end Sim
namespace Sim
open PySem PySem.Spec L2
section
variable [Tb] [Vs] {X : Cx} {pos : Pos}
inductive SelOk (X : Cx) (n : Nat) : List Addr → List Fn → Prop
  | nil : SelOk X n [] []
  | cons {k : Nat} {f : Addr} {fd : FuncData} {ps : List Str} {fn : Fn} {as : List Addr} {fns : List Fn} : FnOk X.prog X.w X.K X.mg X.base CX0 k f fd ps (spF X.K n fn) → Room k X.A → PySem.W.keepIn X.K (.ref f) = true → Binds X.K fd ps [] → (∀ ds r as, fn ds = .ok r as → ds.length = n) → SelOk X n as fns → SelOk X n (f :: as) (fn :: fns)
theorem SelOk.get {n : Nat} {as : List Addr} {fns : List Fn} (h : SelOk X n as fns) : ∀ {i : Nat} {fn : Fn}, fns[i]? = some fn → ∃ k f fd ps, as[i]? = some f ∧ FnOk X.prog X.w X.K X.mg X.base CX0 k f fd ps (spF X.K n fn) ∧ Room k X.A ∧ PySem.W.keepIn X.K (.ref f) = true ∧ Binds X.K fd ps [] ∧ (∀ ds r as, fn ds = .ok r as → ds.length = n) := by
  induction h with
  | nil => intro i fn e; simp at e
  | cons a b c d e _ ih =>
    intro i fn e'
    cases i with
    | zero => cases e'; exact ⟨_, _, _, _, rfl, a, b, c, d, e⟩
    | succ i => exact ih e'
end
end Sim
namespace Sim
open PySem PySem.Spec L2
section
variable [Tb] [Vs] {X : Cx} {k : Nat} {f : Addr} {fd : FuncData} {ps : List Str} {fn : Fn} {x : Str} {p pos : Pos}
end
end Sim
namespace Sim
open PySem PySem.Spec L2
def okM2 : List Nat → List D → Bool
  | [], [] => true
  | m :: ms, d :: ds => (m == 0 || m == 2 || pur d) && okM2 ms ds
  | _, _ => false
def mkFn2 (ms : List Nat) (i n : Nat) (g : S) : Fn := fun ds => if okM2 ms ds = true then (match (ds[i]?).bind fun d => pList [d] with
    | none => .bad
    | some d' => (match g ((ds.map some ++ List.replicate (n - ds.length) none).set i (some d')) with
      | .ok fl s => (match coll ms ds 0 s with
        | none => .bad
        | some as => (match fl with
          | .nx => .ok .none as
          | .rt d => .ok d as
          | _ => .bad))
      | .exc c v _ => .exc c v
      | .bad => .bad)) else .bad
theorem okM2_len : ∀ {ms : List Nat} {ds : List D}, okM2 ms ds = true → ds.length = ms.length
  | [], [], _ => rfl
  | m :: ms, d :: ds, h => by
    simp only [okM2, Bool.and_eq_true] at h
    rw [List.length_cons, List.length_cons, okM2_len h.2]
  | [], _ :: _, h => by simp [okM2] at h
  | _ :: _, [], h => by simp [okM2] at h
theorem mkFn2_len {ms : List Nat} {i n : Nat} {g : S} {ds : List D} {r : D} {as : List D} (h : mkFn2 ms i n g ds = .ok r as) : ds.length = ms.length := by
  unfold mkFn2 at h
  split at h
  · rename_i hk
    exact okM2_len hk
  · cases h
section
variable [Tb] [Vs] {K : PySem.W.Frag} {H H' : Hp}
theorem coll_own2 {Fs' : Fp} {s : Sg} {σ' : St} (R : RelS K H' s σ' Fs') : ∀ {ms : List Nat} {ds : List D} {vs : List V} {Fl : List (List Addr)} {as : List D} (j : Nat),
    OwnLs K H ds vs Fl → okM2 ms ds = true → coll ms ds j s = some as → (∀ i, i < ms.length → ms[i]? = some 0 → σ'[j + i]? = (vs[i]?).map some) → (∀ i a, a ∈ Fs' (j + i) → ms[i]? = some 0 → a ∈ Fl.getD i [] ∨ H a = none) →
    (∀ (l m : Nat) (d : D) (v : V) (F : List Addr), ms[l]? = some m → m ≠ 0 → ds[l]? = some d → vs[l]? = some v → Fl[l]? = some F → Own K H' d v F) →
    (∀ (l m : Nat) (F : List Addr), ms[l]? = some m → m ≠ 0 → Fl[l]? = some F → ∀ i a, a ∈ Fs' i → a ∉ F) →
    ∃ Fl', OwnLs K H' as vs Fl' ∧ NewL H Fl Fl' ∧ ∀ G, G ∈ Fl' → ∀ a, a ∈ G → (∃ i, j ≤ i ∧ ms[i - j]? = some 0 ∧ a ∈ Fs' i) ∨ ∃ (l m : Nat) (F : List Addr), ms[l]? = some m ∧ m ≠ 0 ∧ Fl[l]? = some F ∧ a ∈ F := by
  intro ms
  induction ms with
  | nil =>
    intro ds vs Fl as j o ok e L n k1 k2
    cases ds with
    | cons _ _ => simp [okM2] at ok
    | nil =>
      simp only [coll] at e
      cases e
      cases o
      exact ⟨[], .nil, trivial, by simp⟩
  | cons m ms ih =>
    intro ds vs Fl as j o ok e L n k1 k2
    cases ds with
    | nil => simp [okM2] at ok
    | cons d ds =>
      simp only [okM2, Bool.and_eq_true] at ok
      simp only [coll] at e
      split at e
      · cases e
      · rename_i as' hc
        cases o with
        | @cons _ v F _ vs Fl o1 n1 o =>
          obtain ⟨Fl', h1, h2, h3⟩ := ih (j + 1) o ok.2 hc (fun i hi hm => by
            have := L (i + 1) (by simpa using hi) (by simpa using hm)
            rw [show j + 1 + i = j + (i + 1) by omega, this]
            simp) (fun i a ha hi => by
            have := n (i + 1) a (by rw [show j + (i + 1) = j + 1 + i by omega]; exact ha) (by simpa using hi)
            simpa using this) (fun l q d v F a b c e f => k1 (l + 1) q d v F (by simpa using a) b (by simpa using c) (by simpa using e) (by simpa using f))
            (fun l q F a b c => k2 (l + 1) q F (by simpa using a) b (by simpa using c))
          have h3' : ∀ G, G ∈ Fl' → ∀ a, a ∈ G → (∃ i, j < i ∧ (m :: ms)[i - j]? = some 0 ∧ a ∈ Fs' i) ∨ ∃ (l q : Nat) (F0 : List Addr), (m :: ms)[l + 1]? = some q ∧ q ≠ 0 ∧ Fl[l]? = some F0 ∧ a ∈ F0 := fun G hG a ha => by
            rcases h3 G hG a ha with ⟨i, q1, q2, q3⟩ | ⟨l, q, F0, q1, q2, q3, q4⟩
            · refine .inl ⟨i, by omega, ?_, q3⟩
              rw [show i - j = (i - (j + 1)) + 1 by omega, List.getElem?_cons_succ]
              exact q2
            · exact .inr ⟨l, q, F0, by simpa using q1, q2, q3, q4⟩
          have wk : ∀ G, G ∈ Fl' → ∀ a, a ∈ G → (∃ i, j ≤ i ∧ (m :: ms)[i - j]? = some 0 ∧ a ∈ Fs' i) ∨ ∃ (l q : Nat) (F0 : List Addr), (m :: ms)[l]? = some q ∧ q ≠ 0 ∧ (F :: Fl)[l]? = some F0 ∧ a ∈ F0 := fun G hG a ha => by
            rcases h3' G hG a ha with ⟨i, q1, q2, q3⟩ | ⟨l, q, F0, q1, q2, q3, q4⟩
            · exact .inl ⟨i, Nat.le_of_lt q1, q2, q3⟩
            · exact .inr ⟨l + 1, q, F0, q1, q2, by simpa using q3, q4⟩
          split at e
          · rename_i hm
            subst hm
            split at e
            · cases e
            · rename_i d' hd'
              cases e
              obtain ⟨v', hv', o'⟩ := R.has j d' (join_some hd')
              have := L 0 (by simp) rfl
              rw [Nat.add_zero, hv'] at this
              simp at this
              subst this
              refine ⟨Fs' j :: Fl', .cons o' (fun G hG a ha hb => ?_) h1, ⟨fun a ha => ?_, h2⟩, fun G hG a ha => ?_⟩
              · rcases h3' G hG a hb with ⟨i, q1, _, q3⟩ | ⟨l, q, F0, q1, q2, q3, q4⟩
                · have := R.dis j i a ha q3
                  omega
                · exact k2 (l + 1) q F0 q1 q2 (by simpa using q3) j a ha q4
              · have := n 0 a (by simpa using ha) (by simp)
                simpa using this
              · rcases List.mem_cons.mp hG with rfl | hG
                · exact .inl ⟨j, Nat.le_refl _, by simp, ha⟩
                · exact wk G hG a ha
          · rename_i hm
            cases e
            refine ⟨F :: Fl', .cons (k1 0 m d v F (by simp) hm (by simp) (by simp) (by simp)) (fun G hG a ha hb => ?_) h1, ⟨fun a ha => .inl ha, h2⟩, fun G hG a ha => ?_⟩
            · rcases h3' G hG a hb with ⟨i, q1, _, q3⟩ | ⟨l, q, F0, q1, q2, q3, q4⟩
              · exact k2 0 m F (by simp) hm (by simp) i a q3 ha
              · exact n1 F0 (List.mem_of_getElem? q3) a ha q4
            · rcases List.mem_cons.mp hG with rfl | hG
              · exact .inr ⟨0, m, _, by simp, hm, by simp, ha⟩
              · exact wk G hG a ha
theorem OwnLs.get {K : PySem.W.Frag} {H : Hp} : ∀ {ds : List D} {vs : List V} {Fl : List (List Addr)}, OwnLs K H ds vs Fl → ∀ {i : Nat} {d : D}, ds[i]? = some d → ∃ v F, vs[i]? = some v ∧ Fl[i]? = some F ∧ Own K H d v F
  | _, _, _, .cons (v := v) (F := F) o n r, 0, d', e => by
    simp at e
    subst e
    exact ⟨v, F, rfl, rfl, o⟩
  | _, _, _, .cons o n r, i + 1, d', e => by
    obtain ⟨v, F, h1, h2, h3⟩ := r.get (i := i) (by simpa using e)
    exact ⟨v, F, by simpa using h1, by simpa using h2, h3⟩
theorem OwnLs.lenF {K : PySem.W.Frag} {H : Hp} {ds : List D} {vs : List V} {Fl : List (List Addr)} (o : OwnLs K H ds vs Fl) : Fl.length = ds.length := by
  induction o with
  | nil => rfl
  | cons _ _ _ ih => rw [List.length_cons, List.length_cons, ih]
theorem OwnLs.pure_at2 {K : PySem.W.Frag} {H : Hp} : ∀ {ms : List Nat} {ds : List D} {vs : List V} {Fl : List (List Addr)}, OwnLs K H ds vs Fl → okM2 ms ds = true → ∀ i m, ms[i]? = some m → m ≠ 0 → m ≠ 2 → Fl.getD i [] = []
  | m :: ms, d :: ds, _, _, o, ok, 0, q, h, h0, h2 => by
    cases o with
    | @cons _ _ F _ _ Fl o1 n1 o =>
      simp at h
      subst h
      simp only [okM2, Bool.and_eq_true, Bool.or_eq_true, beq_iff_eq] at ok
      have hp : pur d = true := by
        rcases ok.1 with (z | z) | z
        · exact absurd z h0
        · exact absurd z h2
        · exact z
      simpa using o1.pur hp
  | m :: ms, d :: ds, _, _, o, ok, i + 1, q, h, h0, h2 => by
    cases o with
    | @cons _ _ F _ _ Fl o1 n1 o =>
      simp only [okM2, Bool.and_eq_true] at ok
      have := OwnLs.pure_at2 o ok.2 i q (by simpa using h) h0 h2
      simpa using this
  | [], _ :: _, _, _, _, ok, _, _, _, _, _ => by simp [okM2] at ok
  | _ :: _, [], _, _, _, ok, _, _, _, _, _ => by simp [okM2] at ok
  | [], [], _, _, o, _, i, q, h, _, _ => by simp at h
def rList (K : PySem.W.Frag) : List V → Hp → VK → Prop := fun xs H Q => ∃ p ys, xs = [V.ref p] ∧ (SqL K H p ys ∨ SqT K H p ys) ∧ ∀ l, H l = none → Q (.ref l) (upd H l (.lst ys))
end
theorem one2 {ms : List Nat} {i : Nat} (h : (List.range ms.length).all (fun j => ms.getD j 0 != 2 || j == i) = true) : ∀ j, ms[j]? = some 2 → j = i := fun j e => by
  have hj := (List.getElem?_eq_some_iff.mp e).1
  have := List.all_eq_true.mp h j (List.mem_range.mpr hj)
  rw [List.getD_eq_getElem?_getD, e] at this
  simpa using this
section
variable [Tb] {P : Program} {w : World} {K : PySem.W.Frag} {mg : Str → Option Value} {base : Heap}
theorem fn_sim2 {x qual : Str} {st fs : Stmt} {rest : List Stmt} {f : Addr} {fd : FuncData} {N ps : List Str} {ms : List Nat} {n k i : Nat} {g : S} (F : Fun K x qual st f fd) (Sc : FnScope N ps (defScope st)) (hn : N.length = n) (hm : ms.length = ps.length)
    (hbd : defBody st = fs :: rest) (hi : ms[i]? = some 2) (h2 : ∀ j, ms[j]? = some 2 → j = i)
    (h1 : ∀ (cdv : Value) (A : Around) (outer : List Env) (s : Shared) (H : Hp) (E : XK), Room k (A.deeper (PyProof.Rows.envOfC qual (defScope st) s.heap.objs.size f cdv)) →
      PS (cxOf CX0 P w K mg base N qual (defScope st) f cdv A outer s H E).nox fs (tAsg (tCB (rList K) (tCons (tVar i) tNil)) (gName i)))
    (hb : ∀ (cdv : Value) (A : Around) (outer : List Env) (s : Shared) (H : Hp) (E : XK), Room k (A.deeper (PyProof.Rows.envOfC qual (defScope st) s.heap.objs.size f cdv)) →
      SimSs (cxOf CX0 P w K mg base N qual (defScope st) f cdv A outer s H E).nox (lkM ms) rest g) : FnOk P w K mg base CX0 (k + 1) f fd ps (spF K ps.length (mkFn2 ms i n g)) := by
  refine F.ok Sc (fun vs H Q E h => ?_) (fun cdv A outer s H vs Q E hr h => ⟨_, by rw [hbd]; exact pss_cons (h1 cdv A outer s H E hr) (hb cdv A outer s H E hr), ?_⟩)
  · obtain ⟨ds, Fl, r, as, hf, hl, _⟩ := h
    exact hl
  · obtain ⟨ds, Fl, r, as, hf, hl, tt, ol, q⟩ := h
    unfold mkFn2 at hf
    split at hf
    · rename_i hok
      have hlm := okM2_len hok
      split at hf
      · cases hf
      · rename_i d1 hd1
        obtain ⟨d0, hd0, hp0⟩ := Option.bind_eq_some_iff.mp hd1
        obtain ⟨v0, F0, hv0, hF0, o0⟩ := ol.get hd0
        split at hf
        · rename_i fl s' hg
          split at hf
          · cases hf
          · rename_i as' hc
            have est : L2.start N vs = vs.map some ++ List.replicate (n - ds.length) none := by
              unfold L2.start
              rw [hn, ← ol.len]
            have R0 := relS_start tt ol (n - ds.length)
            rw [est]
            have hiv : i < vs.length := (List.getElem?_eq_some_iff.mp hv0).1
            show ∃ v, (vs.map some ++ List.replicate (n - ds.length) none)[i]? = some (some v) ∧ rList K [v] H fun x H1 => tS K (lkM ms) g { nx := fun _ H' => Q .non H', rt := Q } ((vs.map some ++ List.replicate (n - ds.length) none).set i (some x)) H1
            refine ⟨v0, by rw [List.getElem?_append_left (by simpa using hiv), List.getElem?_map, hv0]; rfl, ?_⟩
            unfold rList
            refine pr_list (K := K) [v0] [d0] d1 H (fun x H1 => tS K (lkM ms) g { nx := fun _ H' => Q .non H', rt := Q } ((vs.map some ++ List.replicate (n - ds.length) none).set i (some x)) H1) (.cons o0 .nil) hp0 fun v2 H2 hnew => ?_
            have R1 := R0.drop i (d0 := d0) (by rw [List.getElem?_append_left (by rw [List.length_map, ← ol.len]; exact hiv), List.getElem?_map, hd0]; rfl)
            obtain ⟨R2, E2, F2, k2, n2⟩ := hnew.ok R1
            cases k2 with
            | val A2 =>
              obtain ⟨Fs3, R3, n3⟩ := R2.put A2 i trivial
              rw [List.set_set] at R3
              refine ⟨_, Fs3, fl, s', R3, hg, ?_⟩
              have sub3 : ∀ j a, a ∈ Fs3 j → (a ∈ Fl.getD j [] ∧ j ≠ i) ∨ (H a = none ∧ j = i) := fun j a h => by
                rcases n3 j a h with ⟨z, z2⟩ | ⟨z, z2⟩
                · refine .inl ⟨?_, z2⟩
                  unfold upF at z
                  rw [if_neg z2] at z
                  exact z
                · exact .inr ⟨n2 a z, z2⟩
              have disF : ∀ j a, a ∈ Fs3 j → a ∉ F0 := fun j a h hb => by
                rcases sub3 j a h with ⟨z, z2⟩ | ⟨z, _⟩
                · refine z2 (R0.dis j i a z ?_)
                  show a ∈ Fl.getD i []
                  rw [List.getD_eq_getElem?_getD, hF0]
                  exact hb
                · obtain ⟨xs, y⟩ := o0.mem a hb
                  rw [z] at y; cases y
              have fin : ∀ {σ' : St} {H' : Hp} {Fs' : Fp}, RelS K H' s' σ' Fs' → EvR (lkM ms) H2 Fs3 H' Fs' → Lk (lkM ms) ((vs.map some ++ List.replicate (n - ds.length) none).set i (some v2)) σ' →
                  ∃ Fl', OwnLs K H' as' vs Fl' ∧ NewL H Fl Fl' ∧ (Chg (fun a => ∃ G, G ∈ Fl ∧ a ∈ G) H H') ∧ ∀ G, G ∈ Fl' → ∀ a, a ∈ G → (∃ i, lkM ms i = true ∧ a ∈ Fs' i) ∨ a ∈ F0 := by
                intro σ' H' Fs' R' E' L'
                have c3 : Chg (InF Fs3) H H' := (Chg.same hnew.1).trans E'.chg
                have c2 : Chg (fun a => ∃ G, G ∈ Fl ∧ a ∈ G) H H' := c3.mono fun a ob ho ⟨j, hj⟩ => by
                  rcases sub3 j a hj with ⟨y, _⟩ | ⟨y, _⟩
                  · obtain ⟨G, hG, ha⟩ := getD_of y
                    exact ⟨G, List.mem_of_getElem? hG, ha⟩
                  · rw [ho] at y; cases y
                have non : ∀ (l m : Nat) (F : List Addr), ms[l]? = some m → m ≠ 0 → Fl[l]? = some F → F = [] ∨ (l = i ∧ F = F0) := fun l m F a b c => by
                  by_cases hm2 : m = 2
                  · have := h2 l (by rw [a, hm2])
                    subst this
                    rw [hF0] at c
                    cases c
                    exact .inr ⟨rfl, rfl⟩
                  · have := ol.pure_at2 hok l m a b hm2
                    rw [List.getD_eq_getElem?_getD, c] at this
                    exact .inl this
                have dis' : ∀ j a, a ∈ Fs' j → a ∉ F0 := fun j a h hb => by
                  rcases E'.new j a h with (z | z) | ⟨_, k, _, z⟩
                  · exact disF j a z hb
                  · obtain ⟨xs, y⟩ := o0.mem a hb
                    rw [E2.chg.there a z] at y; cases y
                  · exact disF k a z hb
                obtain ⟨Fl', g1, g2, g3⟩ := coll_own2 (Fs' := Fs') R' 0 ol hok hc (fun j hj h0 => by
                    have hne : i ≠ j := fun e => by rw [e] at hi; rw [hi] at h0; cases h0
                    have := L' j (by unfold lkM; rw [h0]; rfl)
                    rw [Nat.zero_add, this, List.getElem?_set_ne hne, List.getElem?_append_left (by rw [List.length_map, ol.len, hlm]; exact hj), List.getElem?_map]) (fun j a ha h0 => by
                    have hne : j ≠ i := fun e => by rw [← e] at hi; rw [hi] at h0; cases h0
                    rw [Nat.zero_add] at ha
                    rcases E'.new j a ha with (z | z) | ⟨z, _⟩
                    · rcases sub3 j a z with ⟨y, _⟩ | ⟨y, y2⟩
                      · exact .inl y
                      · exact absurd y2 hne
                    · exact .inr (E2.chg.there a z)
                    · unfold lkM at z
                      rw [h0] at z
                      cases z) (fun l m d v F a b c e f => by
                    obtain ⟨v', F', e1, e2, o'⟩ := ol.get c
                    rw [e] at e1
                    rw [f] at e2
                    cases e1
                    cases e2
                    refine o'.chg c3 fun x hx ⟨j, hj⟩ => ?_
                    rcases non l m F a b f with rfl | ⟨_, rfl⟩
                    · cases hx
                    · exact disF j x hj hx) (fun l m F a b c j x hj hx => by
                    rcases non l m F a b c with rfl | ⟨_, rfl⟩
                    · cases hx
                    · exact dis' j x hj hx)
                refine ⟨Fl', g1, g2, c2, fun G hG a ha => ?_⟩
                rcases g3 G hG a ha with ⟨j, _, q2, q3⟩ | ⟨l, m, F, q1, q2, q3, q4⟩
                · exact .inl ⟨j, by unfold lkM; rw [Nat.sub_zero] at q2; rw [q2]; rfl, q3⟩
                · rcases non l m F q1 q2 q3 with rfl | ⟨_, rfl⟩
                  · cases q4
                  · exact .inr q4
              have lki : lkM ms i = false := by unfold lkM; rw [hi]; rfl
              cases fl with
              | nx =>
                cases hf
                intro σ' H' Fs' R' E' L'
                obtain ⟨Fl', g1, g2, c2, _⟩ := fin R' E'.r L'
                exact q .non H' Fl' [] g1 c2 g2 .non (by simp) (by simp)
              | rt d =>
                cases hf
                intro v σ' H' Fs' F' R' E' L' o nn m
                obtain ⟨Fl', g1, g2, c2, g3⟩ := fin R' E' L'
                have fr : ∀ a, a ∈ F' → H a = none := fun a ha => by
                  rcases nn a ha with z | ⟨j, hj, z⟩
                  · exact E2.chg.there a z
                  · rcases sub3 j a z with ⟨y, y2⟩ | ⟨y, _⟩
                    · exfalso
                      obtain ⟨G, hG, hGa⟩ := getD_of y
                      have hjl : j < ms.length := by
                        have := (List.getElem?_eq_some_iff.mp hG).1
                        have l2 : Fl.length = ds.length := ol.lenF
                        omega
                      have e1 := List.getElem?_eq_getElem hjl
                      have n0 : ms[j] ≠ 0 := fun e0 => by
                        unfold lkM at hj
                        rw [e1, e0] at hj
                        cases hj
                      by_cases h22 : ms[j] = 2
                      · exact y2 (h2 j (by rw [e1, h22]))
                      · rw [ol.pure_at2 hok j _ e1 n0 h22] at y
                        cases y
                    · exact y
                refine q v H' Fl' F' g1 c2 g2 o fr fun G hG a ha hb => ?_
                rcases g3 G hG a ha with ⟨j, hj, q3⟩ | z
                · exact m j a hj q3 hb
                · obtain ⟨xs, y⟩ := o0.mem a z
                  rw [fr a hb] at y; cases y
              | bk => cases hf
              | ct => cases hf
        · cases hf
        · cases hf
    · cases hf
end
end Sim
namespace Sim
open PySem PySem.Spec L2
section
open PyProof.Rows
variable {prog : Program} {w : World} {A : Around} {E : Value → Shared → Prop} {s : Shared}
theorem sliceApplied_one {sl : Addr} {vs : Value} {n : Nat} {Q : Int × Int × Nat → Shared → Prop} (hs : s.heap.IsSliceOf sl .none .none vs) (ps : IsPart vs (some 1))
    (h : Q (0, 1, n) s) : wpAny (model prog w) A (Builtin.Slice.sliceApplied (.ref sl) (pure (n : Int))) Q E s := by
  obtain ⟨os, hos, hcs, hds⟩ := id hs
  unfold Builtin.Slice.sliceApplied Builtin.Slice.sliceFields
  refine wpAny_bind (wpAny_bind (wpAny_field hos hds (x := .none) rfl (wpAny_bind (wpAny_field hos hds (x := .none) rfl (wpAny_bind (wpAny_field hos hds (x := vs) rfl (wpAny_pure ?_)))))))
  refine wpAny_bind (HT.slicePart_ ps ?_)
  show wpAny _ _ (if ((1 : Int) == 0) = true then _ else _) _ _ s
  rw [if_neg (by decide)]
  refine wpAny_bind (slicePart_none (wpAny_bind (slicePart_none (wpAny_bind (wpAny_pure ?_)))))
  have e1 : Builtin.Slice.sliceAdjust none none 1 (n : Int) = (0, (n : Int)) := by
    unfold Builtin.Slice.sliceAdjust; simp
  have e2 : Builtin.Slice.slicePlaces 0 (n : Int) 1 = n := by
    unfold Builtin.Slice.slicePlaces
    simp only [show (1 : Int) > 0 by omega, if_true, Int.ediv_one]
    split <;> omega
  show wpAny _ _ (match Builtin.Slice.sliceAdjust none none 1 (n : Int) with | (lo, hi) => pure (lo, (1 : Int), Builtin.Slice.slicePlaces lo hi 1)) _ _ s
  rw [e1]
  show wpAny _ _ (pure ((0 : Int), (1 : Int), Builtin.Slice.slicePlaces 0 (n : Int) 1)) _ _ s
  rw [e2]
  exact wpAny_pure h
theorem getItem_tuple_one {t sl : Addr} {items : Array Value} {vs : Value} {Q : Value → Shared → Prop} (ht : IsTup s.heap t items) (hs : s.heap.IsSliceOf sl .none .none vs) (ps : IsPart vs (some 1))
    (h : Q (.ref t) s) : wpAny (model prog w) A (getItem (.ref t) (.ref sl)) Q E s := by
  obtain ⟨os, hos, hcs, hds⟩ := id hs
  have hTs : s.TypeIs (.ref sl) "slice" := ⟨os, hos, hcs⟩
  unfold getItem
  try with_reducible refine wpAny_holding ?_
  first | refine wpAny_bind (wpAny_pure ?_) | skip
  refine wpAny_bind (wpAny_sequenceKey ht.typeIs (by decide) ?_)
  refine wpAny_bind (wpAny_callSpecial?_slot (name := Str.ofString "__getitem__") ht.typeIs PyProof.Rows.slot_tuple_getitem
    (wpAny_call_entry PyProof.Rows.slot_tuple_getitem ht.typeIs entry_tuple_getitem ?_ (args_tuple_getitem _ _)))
  show wpAny _ _ (Builtin.Tuple.tupleItemsOf (.ref t) >>= _) _ _ s
  refine wpAny_bind (tupleItemsOf_ ht ?_)
  refine wpAny_bind (wpAny_typeOf hTs ?_)
  rw [if_pos (by decide)]
  refine wpAny_bind (sliceApplied_one hs ps ?_)
  have hyes : (((0 : Int)) == 0 && (1 : Int) == 1 && items.size == items.size) = true := by simp
  show wpAny _ _ (if (((0 : Int)) == 0 && (1 : Int) == 1 && items.size == items.size) = true then _ else _) _ _ s
  rw [if_pos hyes]
  refine wpAny_bind ?_
  show wpAny _ _ (typeOf (.ref t) >>= fun T => pure (T == .type "tuple")) _ _ s
  refine wpAny_bind (wpAny_typeOf ht.typeIs (wpAny_pure ?_))
  first
    | rw [if_pos (by decide)]
    | simp only [beq_self_eq_true, if_true]
  first
    | exact wpAny_bind (wpAny_rule (wpAny_pure ⟨_, rfl, wpAny_pure h⟩))
    | exact wpAny_bind (wpAny_rule (wpAny_bind (wpAny_pure (wpAny_pure ⟨_, rfl, wpAny_pure h⟩))))
    | exact wpAny_bind (wpAny_bind (wpAny_rule (wpAny_pure ⟨_, rfl, wpAny_pure h⟩)))
end
def stE : D → Option Int → Option D
  | .tuple ds, some 1 => if purs ds = true then some (.tuple ds) else none
  | .tuple ds, some (-1) => if purs ds = true ∧ ds.length ≤ 1000000 then some (.tuple ds.reverse) else none
  | _, _ => none
def oStE (g : O) (st : Option O) : O := fun s => (g s).bind fun r s1 => (prt none s1).bind fun l s2 => (prt none s2).bind fun u s3 => (prt st s3).bind fun t s4 => match rd r s4 with
  | none => .bad
  | some d => match stE d t with
    | none => .bad
    | some d' => .ok (.val d') s4
section
variable [Tb] [Vs] {X : Cx} {a : Expr} {ga : O} {pos p2 : Pos}
theorem stE_inv {d d' : D} {k : Option Int} (h : stE d k = some d') : (∃ ds, d = .tuple ds ∧ k = some 1 ∧ d' = .tuple ds ∧ purs ds = true) ∨ (∃ ds, d = .tuple ds ∧ k = some (-1) ∧ d' = .tuple ds.reverse ∧ purs ds = true ∧ ds.length ≤ 1000000) := by
  unfold stE at h
  split at h
  · split at h
    · rename_i hp
      cases h
      exact .inl ⟨_, rfl, rfl, rfl, hp⟩
    · cases h
  · split at h
    · rename_i hp
      cases h
      exact .inr ⟨_, rfl, rfl, rfl, hp⟩
    · cases h
  · cases h
theorem so_stE {st : Expr} {t : Option O} (ha : SimO X a ga) (hs : SimP X (some st) t) : SimO X (.Subscript a (.Slice none none (some st) p2) pos) (oStE ga t) := by
  have hl : SimP X none none := sp_none
  have hu : SimP X none none := sp_none
  refine ⟨fun pins s σ H Q I z => ?_⟩
  obtain ⟨sg, Fs, rf, sg', R, e, q⟩ := z
  obtain ⟨r, g1, e1, e⟩ := bind_inv e
  obtain ⟨l', g2, e2, e⟩ := bind_inv e
  obtain ⟨u', g3, e3, e⟩ := bind_inv e
  obtain ⟨t', g4, e4, e⟩ := bind_inv e
  have e2' : Res.ok none g1 = Res.ok l' g2 := e2
  have e3' : Res.ok none g2 = Res.ok u' g3 := e3
  have w2 : l' = none := by cases e2'; rfl
  have w3 : u' = none := by cases e3'; rfl
  refine PyProof.Rows.Subscript_ (thn (ha.run pins s σ H (fun v H1 => ∃ Fs1 F, RelS X.K H1 g1 σ Fs1 ∧ Ev H Fs H1 Fs1 ∧ RfOk X.K H1 σ Fs1 r v F) I ⟨sg, Fs, r, g1, R, e1, fun v H1 Fs1 F R1 E1 k1 n1 => ⟨Fs1, F, R1, E1, k1⟩⟩) fun v s1 ⟨x, H1, I1, r1, Fs1, F, R1, E1, k1⟩ => ?_)
  refine wpAny_Slice (thn (hl.run pins s1 σ H1 (fun o H2 => o = l' ∧ ∃ Fs2, RelS X.K H2 g2 σ Fs2 ∧ Ev H1 Fs1 H2 Fs2) I1 ⟨g1, Fs1, l', g2, R1, e2, fun H2 Fs2 R2 E2 => ⟨rfl, Fs2, R2, E2⟩⟩) fun vl s2 ⟨o1, H2, I2, pl, eo1, Fs2, R2, E2⟩ => ?_)
  subst eo1
  refine thn (hu.run pins s2 σ H2 (fun o H3 => o = u' ∧ ∃ Fs3, RelS X.K H3 g3 σ Fs3 ∧ Ev H2 Fs2 H3 Fs3) I2 ⟨g2, Fs2, u', g3, R2, e3, fun H3 Fs3 R3 E3 => ⟨rfl, Fs3, R3, E3⟩⟩) fun vu s3 ⟨o2, H3, I3, pu, eo2, Fs3, R3, E3⟩ => ?_
  subst eo2
  refine thn (hs.run pins s3 σ H3 (fun o H4 => o = t' ∧ ∃ Fs4, RelS X.K H4 g4 σ Fs4 ∧ Ev H3 Fs3 H4 Fs4) I3 ⟨g3, Fs3, t', g4, R3, e4, fun H4 Fs4 R4 E4 => ⟨rfl, Fs4, R4, E4⟩⟩) fun vs s4 ⟨o3, H4, I4, ps, eo3, Fs4, R4, E4⟩ => ?_
  subst eo3
  split at e
  · cases e
  · rename_i d hd
    split at e
    · cases e
    · rename_i d' hd'
      cases e
      obtain ⟨F', o⟩ := (((k1.ev E2).ev E3).ev E4).dp R4 hd
      rcases stE_inv hd' with ⟨ds, rfl, rfl, rfl, hp⟩ | ⟨ds, rfl, rfl, rfl, hp⟩
      · ·
          cases o with
          | @tup ad xs _ _ hx tt =>
            have e0 := tt.pur hp
            subst e0
            cases r1
            have I5 : Inv X pins σ H4 { s4 with heap := s4.heap.push { cls := .type "slice", data := .fields #[vl, vu, vs] } } := I4.kept (t' := s4.toks) fun b ob q => Heap.get?_push_of_some _ q
            obtain ⟨its, rr, ht, hz⟩ := I5.tuple hx.sq
            rw [w2] at pl
            rw [w3] at pu
            cases pl
            cases pu
            show wpAny (model X.prog X.w) X.A (PyProof.Rows.subscriptTail a (.Slice none none (some st) p2) (.ref ad) (.ref s4.heap.objs.size)) (EP X pins σ Q) X.xe { s4 with heap := s4.heap.push { cls := .type "slice", data := .fields #[.none, .none, vs] } }
            refine PyProof.Rows.tail_any (ops := [.ref ad, .ref s4.heap.objs.size]) ht.typeIs (PyProof.Rows.slot_tuple_getitem.lookup) ?_ (by with_unfolding_all rfl)
            refine getItem_tuple_one ht (Heap.IsSliceOf.new _ .none .none vs) ps ?_
            have fr := (((E1.trans E2).trans E3).trans E4)
            refine ⟨.ref ad, H4, I5, rfl, ?_⟩
            obtain ⟨R5, E5, F5, k5, n5⟩ := (NewV.sc (K := X.K) (d := .tuple ds) (v := .ref ad) (H := H4) (.tup hx tt)).ok R4
            exact q _ _ Fs4 F5 R5 (fr.trans E5) k5 fun a ha => fr.chg.there a (n5 a ha)
      · ·
          cases o with
          | @tup ad xs _ _ hx tt =>
            have e0 := tt.pur hp.1
            subst e0
            cases r1
            have I5 : Inv X pins σ H4 { s4 with heap := s4.heap.push { cls := .type "slice", data := .fields #[vl, vu, vs] } } := I4.kept (t' := s4.toks) fun b ob q => Heap.get?_push_of_some _ q
            obtain ⟨its, rr, ht, hz⟩ := I5.tuple hx.sq
            have hlen := rr.length
            rw [w2] at pl
            rw [w3] at pu
            cases pl
            cases pu
            show wpAny (model X.prog X.w) X.A (PyProof.Rows.subscriptTail a (.Slice none none (some st) p2) (.ref ad) (.ref s4.heap.objs.size)) (EP X pins σ Q) X.xe { s4 with heap := s4.heap.push { cls := .type "slice", data := .fields #[.none, .none, vs] } }
            refine PyProof.Rows.tail_any (ops := [.ref ad, .ref s4.heap.objs.size]) ht.typeIs (PyProof.Rows.slot_tuple_getitem.lookup) ?_ (by with_unfolding_all rfl)
            refine getItem_tuple_rev ht (Heap.IsSliceOf.new _ .none .none vs) ps ?_ (by rw [← hlen]; exact hz)
            have ll : xs.reverse.length ≤ sizeLine := by rw [List.length_reverse]; exact hz
            refine lay_tup (t' := s4.toks) I5 (vals_rev rr) ll fun p ob hpn hd => ?_
            have nv : NewV X.K H4 (.tuple ds.reverse) (.ref p) (upd H4 p (.frz ob (.tup xs.reverse))) := .tup (owna_rev tt hp.1) hpn hd
            obtain ⟨R5, E5, F5, k5, n5⟩ := nv.ok R4
            have fr := (((E1.trans E2).trans E3).trans E4)
            exact q _ _ Fs4 F5 R5 (fr.trans E5) k5 fun a ha => fr.chg.there a (n5 a ha)
end
end Sim
namespace Sim
open PySem PySem.Spec L2
def pMulV : List D → Option D
  | [.str a, .int b] => if a.length = 1 ∧ 0 ≤ b ∧ b ≤ 600 then some (.str (repS a b)) else none
  | _ => none
def pIntS : List D → Option D
  | [.str a] => if a.length ≤ 640 then (PySem.intText? a).map .int else none
  | _ => none
section
variable {X : Cx}
theorem op_mulV : OpR X (binaryOp .Mult) (fun x y H Q => ∃ a n, x = .str a ∧ y = .int n ∧ a.length = 1 ∧ 0 ≤ n ∧ n ≤ 600 ∧ Q (.str (repS a n)) H) := by
  intro pins s σ H x y v u Q I rx ry h
  by_cases hn : 2 ≤ (match y with | .int n => n | _ => 0)
  · obtain ⟨a, n, rfl, rfl, ha, h1, h2, q⟩ := h
    exact op_mulS pins s σ H _ _ v u Q I rx ry ⟨a, n, rfl, rfl, ha, hn, by omega, q⟩
  · obtain ⟨a, n, rfl, rfl, ha, h1, h2, q⟩ := h
    have hn' : ¬ 2 ≤ n := hn
    obtain ⟨t, rfl⟩ := rx
    obtain ⟨t2, rfl⟩ := ry
    have c0 : (decide (n < -(2 ^ 63 : Int)) || decide (n ≥ 2 ^ 63)) = false := by
      rw [decide_eq_false (by omega), decide_eq_false (by omega)] <;> rfl
    by_cases h0 : n < 1
    · have e0 : n = 0 := by omega
      subst e0
      refine P.mul_str c0 (fun z _ => absurd h0 z) (fun z _ => absurd h0 z) ?_
      rw [if_pos h0]
      exact ⟨by decide, .str Str.empty, H, I.tok _, ⟨_, rfl⟩, q⟩
    · have e0 : n = 1 := by omega
      subst e0
      have c1 : (((1 : Int) == 1) || a.length == 0) = true := rfl
      refine P.mul_str c0 (fun _ z => by rw [c1] at z; cases z) (fun _ z => by rw [c1] at z; cases z) ?_
      rw [if_neg h0, if_pos c1]
      have er : repS a 1 = a := by
        unfold repS
        show (⟨#[] ++ a.cps⟩ : Str) = a
        rw [Array.empty_append]
      rw [er] at q
      exact ⟨.str a, H, I, ⟨_, rfl⟩, q⟩
theorem pr_mulV {K : PySem.W.Frag} : PrimR K (u2 fun x y H Q => ∃ a n, x = .str a ∧ y = .int n ∧ a.length = 1 ∧ 0 ≤ n ∧ n ≤ 600 ∧ Q (.str (repS a n)) H) pMulV := by
  intro vs ds d H Q h e q
  unfold pMulV at e
  split at e
  · obtain ⟨x, y, F, G, rfl, o1, o2⟩ := h.two
    split at e
    · rename_i hc
      cases e
      cases o1
      cases o2
      exact ⟨_, _, rfl, rfl, hc.1, hc.2.1, hc.2.2, q _ _ (.sc (.str _))⟩
    · cases e
  · cases e
theorem pr_intS {K : PySem.W.Frag} : PrimR K (fun xs H Q => ∃ a n, xs = [V.str a] ∧ PySem.intText? a = some n ∧ a.length ≤ 640 ∧ Q (.int n) H) pIntS := by
  intro vs ds d H Q h e q
  unfold pIntS at e
  split at e
  · obtain ⟨x, F, rfl, o⟩ := h.one
    split at e
    · rename_i hc
      obtain ⟨n, hn, e⟩ := Option.map_eq_some_iff.mp e
      subst e
      cases o
      exact ⟨_, _, rfl, hn, hc, q _ _ (.sc (.int _))⟩
    · cases e
  · cases e
end
def oTenV (g : O) : O := oPrim pIntS (aCons (o2 pAdd (oC (.str "1")) (o2 pMulV (oC (.str "0")) g)) aNil)
theorem ev_tenV {g : O} {s s1 : Sg} {r : Rf} {n : Nat} (h : g s = .ok r s1) (hr : rd r s1 = some (.int (n : Int))) (h2 : n ≤ 600) : oTenV g s = .ok (.val (.int (tenN n))) s1 := by
  have h0 : ("0" : Str).length = 1 := by decide +kernel
  have m : pMulV [.str "0", .int (n : Int)] = some (.str (repS "0" n)) := by
    show (if ("0" : Str).length = 1 ∧ 0 ≤ (n : Int) ∧ (n : Int) ≤ 600 then some (PyData.str (repS "0" n)) else none) = _
    rw [if_pos ⟨h0, by omega, by omega⟩]
  have tl : (tenS n).length ≤ 640 := by
    show (tenL n).toArray.size ≤ 640
    rw [List.size_toArray]
    unfold tenL
    rw [List.length_cons, List.length_replicate]; omega
  have t : pIntS [.str (tenS n)] = some (.int (tenN n)) := by
    show (if (tenS n).length ≤ 640 then (PySem.intText? (tenS n)).map PyData.int else none) = _
    rw [if_pos tl, ten_int n (by omega)]
    rfl
  have t2 := ten_eq n (by omega)
  unfold oTenV
  rw [ev_prim, ev_aCons, ev_o2, ev_oC, ev_ok, ev_consK, ev_aCons, ev_o2, ev_oC, ev_ok, ev_consK, ev_aCons, h, ev_ok, ev_consK, ev_aNil, ev_ok, ev_consK2, ev_ok, ev_consK2, ev_ok, ev_primK]
  rw [rds_cons, rd_val, rds_cons, hr, rds_nil, rdsK_some, rdsK_some, ev_primK2, m, ev_primK3, ev_ok, ev_consK, ev_aNil, ev_ok, ev_consK2, ev_ok, ev_consK2, ev_ok, ev_primK]
  rw [rds_cons, rd_val, rds_cons, rd_val, rds_nil, rdsK_some, rdsK_some, ev_primK2, t2, ev_primK3, ev_ok, ev_consK, ev_aNil, ev_ok, ev_consK2, ev_ok, ev_primK]
  rw [rds_cons, rd_val, rds_nil, rdsK_some, ev_primK2, t, ev_primK3]
end Sim
namespace Sim
open PySem PySem.Spec L2
section
open PySem.Calls PySem.NumText PyProof.Rows
@[irreducible] def ninN (n : Nat) : Int := ((10 ^ n : Nat) : Int) - 1
end
end Sim
namespace Sim
open PySem PySem.Spec L2
section
variable [Tb] [Vs] {X : Cx} {e : Expr} {ga : O}
end
end Sim
namespace Sim
open PySem PySem.Spec L2
mutual
def toNk : D → Option NestedKey
  | .none => some .none
  | .int i => some (.num i)
  | .tuple ds => (toNks ds).map NestedKey.tup
  | .bool _ => none
  | .str _ => none
  | .list _ => none
  | .dict _ => none
def toNks : List D → Option (List NestedKey)
  | [] => some []
  | d :: ds => (toNk d).bind fun k => (toNks ds).map (k :: ·)
end
mutual
/-- no text within -/
def noTx : NestedKey → Bool
  | .none => true
  | .num _ => true
  | .text _ => false
  | .tup ks => noTxs ks
def noTxs : List NestedKey → Bool
  | [] => true
  | k :: ks => noTx k && noTxs ks
end
def tupN : NestedKey → Bool
  | .tup _ => true
  | _ => false
def kOk (k : NestedKey) : Bool := tupN k && noTx k && decide (k.depth ≤ 8)
mutual
theorem toNk_inv : ∀ {d : D} {k : NestedKey}, toNk d = some k → d = nkD k ∧ noTx k = true
  | .none, k, h => by rw [toNk] at h; cases h; exact ⟨by rw [nkD], by rw [noTx]⟩
  | .int i, k, h => by rw [toNk] at h; cases h; exact ⟨by rw [nkD], by rw [noTx]⟩
  | .tuple ds, k, h => by
    rw [toNk] at h
    obtain ⟨ks, e, rfl⟩ := Option.map_eq_some_iff.mp h
    obtain ⟨e1, e2⟩ := toNks_inv e
    exact ⟨by rw [nkD, e1], by rw [noTx]; exact e2⟩
  | .bool _, k, h => by rw [toNk] at h; cases h
  | .str _, k, h => by rw [toNk] at h; cases h
  | .list _, k, h => by rw [toNk] at h; cases h
  | .dict _, k, h => by rw [toNk] at h; cases h
theorem toNks_inv : ∀ {ds : List D} {ks : List NestedKey}, toNks ds = some ks → ds = nkDs ks ∧ noTxs ks = true
  | [], ks, h => by rw [toNks] at h; cases h; exact ⟨by rw [nkDs], by rw [noTxs]⟩
  | d :: ds, ks, h => by
    rw [toNks] at h
    obtain ⟨k, e, h⟩ := Option.bind_eq_some_iff.mp h
    obtain ⟨ks', e', rfl⟩ := Option.map_eq_some_iff.mp h
    obtain ⟨a1, a2⟩ := toNk_inv e
    obtain ⟨b1, b2⟩ := toNks_inv e'
    exact ⟨by rw [nkDs, a1, b1], by rw [noTxs, a2, b2]; rfl⟩
end
mutual
theorem toNk_nkD : ∀ {k : NestedKey}, noTx k = true → toNk (nkD k) = some k
  | .none, _ => by rw [nkD, toNk]
  | .num i, _ => by rw [nkD, toNk]
  | .text x, h => by rw [noTx] at h; cases h
  | .tup ks, h => by
    rw [noTx] at h
    rw [nkD, toNk, toNks_nkDs h]
    rfl
theorem toNks_nkDs : ∀ {ks : List NestedKey}, noTxs ks = true → toNks (nkDs ks) = some ks
  | [], _ => by rw [nkDs, toNks]
  | k :: ks, h => by
    rw [noTxs, Bool.and_eq_true] at h
    rw [nkDs, toNks, toNk_nkD h.1, toNks_nkDs h.2]
    rfl
end
/-- a told dict's entries -/
def unE : List (D × D) → Option (List (NestedKey × D))
  | [] => some []
  | p :: ps => (toNk p.1).bind fun k => (unE ps).bind fun l => if kOk k = true then some ((k, p.2) :: l) else none
def unN : D → Option (List (NestedKey × D))
  | .dict ((.bool true, .int i) :: es) => if i = 0 then unE es else none
  | _ => none
def reN (l : List (NestedKey × D)) : D := .dict ((.bool true, .int 0) :: l.map fun p => (nkD p.1, p.2))
def kOks (l : List (NestedKey × D)) : Bool := l.all fun p => kOk p.1
theorem kOk_dp {k : NestedKey} (h : kOk k = true) : k.depth ≤ 8 := by
  unfold kOk at h
  simp only [Bool.and_eq_true, decide_eq_true_eq] at h
  exact h.2
theorem kOk_tup {k : NestedKey} (h : kOk k = true) : ∃ ks, k = .tup ks := by
  unfold kOk at h
  simp only [Bool.and_eq_true] at h
  cases k with
  | tup ks => exact ⟨ks, rfl⟩
  | _ => exact absurd h.1.1 (by simp [tupN])
theorem unE_inv : ∀ {es : List (D × D)} {l : List (NestedKey × D)}, unE es = some l → es = l.map (fun p => (nkD p.1, p.2)) ∧ kOks l = true
  | [], l, h => by rw [unE] at h; cases h; exact ⟨rfl, rfl⟩
  | p :: ps, l, h => by
    rw [unE] at h
    obtain ⟨k, e, h⟩ := Option.bind_eq_some_iff.mp h
    obtain ⟨l', e', h⟩ := Option.bind_eq_some_iff.mp h
    split at h
    · rename_i hk
      cases h
      obtain ⟨a1, a2⟩ := unE_inv e'
      obtain ⟨b1, b2⟩ := toNk_inv e
      unfold kOks at a2 ⊢
      exact ⟨by rw [List.map_cons, ← a1, ← b1], by rw [List.all_cons, hk, a2]; rfl⟩
    · cases h
theorem unN_inv {d : D} {l : List (NestedKey × D)} (h : unN d = some l) : d = reN l ∧ kOks l = true := by
  unfold unN at h
  split at h
  · split at h
    · rename_i hi
      subst hi
      obtain ⟨a1, a2⟩ := unE_inv h
      exact ⟨by unfold reN; rw [a1], a2⟩
    · cases h
  · cases h
theorem zkd_map {κ : Type} (f : κ → D) : ∀ {ks : List κ} {ds : List D}, ks.length = ds.length → zkd f ks ds = (ks.zip ds).map fun p => (f p.1, p.2)
  | [], [], _ => rfl
  | k :: ks, d :: ds, h => by
    rw [zkd, List.zip_cons_cons, List.map_cons, zkd_map f (by simpa using h)]
  | [], _ :: _, h => by simp at h
  | _ :: _, [], h => by simp at h
theorem unE_zkd : ∀ {ks : List NestedKey} {ds : List D} {l : List (NestedKey × D)}, ks.length = ds.length → unE (zkd nkD ks ds) = some l → l.map Prod.fst = ks ∧ l.map Prod.snd = ds ∧ kOks l = true
  | [], [], l, _, h => by
    rw [show zkd nkD [] [] = [] from rfl, unE] at h
    cases h; exact ⟨rfl, rfl, rfl⟩
  | k :: ks, d :: ds, l, hl, h => by
    rw [zkd, unE] at h
    obtain ⟨k', e, h⟩ := Option.bind_eq_some_iff.mp h
    obtain ⟨l', e', h⟩ := Option.bind_eq_some_iff.mp h
    split at h
    · rename_i hk
      cases h
      obtain ⟨a1, a2, a3⟩ := unE_zkd (by simpa using hl) e'
      have ek : k' = k := by
        obtain ⟨b1, b2⟩ := toNk_inv e
        simp only at b1 e
        cases hx : noTx k with
        | true => rw [toNk_nkD hx] at e; cases e; rfl
        | false => exact absurd (noTx_of b1 b2) (by rw [hx]; simp)
      subst ek
      unfold kOks at a3 ⊢
      exact ⟨by rw [List.map_cons, a1], by rw [List.map_cons, a2], by rw [List.all_cons, hk, a3]; rfl⟩
    · cases h
  | [], _ :: _, _, h, _ => by simp at h
  | _ :: _, [], _, h, _ => by simp at h
where
  noTx_of {k k' : NestedKey} (e : nkD k = nkD k') (h : noTx k' = true) : noTx k = true := by
    have e1 := toNk_nkD h
    rw [← e] at e1
    exact tx k k' e1
  tx : ∀ (k : NestedKey) (k' : NestedKey), toNk (nkD k) = some k' → noTx k = true
    | .none, _, _ => by rw [noTx]
    | .num _, _, _ => by rw [noTx]
    | .text _, _, h => by rw [nkD, toNk] at h; cases h
    | .tup ks, k', h => by
      rw [nkD, toNk] at h
      obtain ⟨ks', e, _⟩ := Option.map_eq_some_iff.mp h
      rw [noTx]
      exact txs ks ks' e
  txs : ∀ (ks : List NestedKey) (ks' : List NestedKey), toNks (nkDs ks) = some ks' → noTxs ks = true
    | [], _, _ => by rw [noTxs]
    | k :: ks, ks', h => by
      rw [nkDs, toNks] at h
      obtain ⟨k1, e, h⟩ := Option.bind_eq_some_iff.mp h
      obtain ⟨k2, e2, _⟩ := Option.map_eq_some_iff.mp h
      rw [noTxs, tx k k1 e, txs ks k2 e2]; rfl
abbrev NE := NestedKey × Addr × V
structure DN (K : PySem.W.Frag) (H : Hp) (a : Addr) (es : List NE) (od : Obj) : Prop where
  at_ : H a = some (RawO a es od)
  keys : OwnA K H (es.map fun e => nkD e.1) (es.map fun e => V.ref e.2.1) []
  ok : ∀ e, e ∈ es → kOk e.1 = true
def getE (es : List NE) (k : NestedKey) : Option V := (es.find? fun e => decide (e.1 = k)).map fun e => e.2.2
def putE (es : List NE) (k : NestedKey) (b : Addr) (v : V) : List NE :=
  if (es.any fun e => decide (e.1 = k)) = true then es.map (fun e => if e.1 = k then (e.1, e.2.1, v) else e) else es ++ [(k, b, v)]
/-- what a told dict is -/
theorem own_N {K : PySem.W.Frag} {H : Hp} {d : D} {v : V} {F : List Addr} {l : List (NestedKey × D)} (o : Own K H d v F) (e : unN d = some l) :
    ∃ a es od, v = .ref a ∧ F = [a] ∧ DN K H a es od ∧ es.map (fun e => e.1) = l.map Prod.fst ∧ OwnA K H (l.map Prod.snd) (es.map fun e => e.2.2) [] := by
  have hk := (unN_inv e).2
  cases o with
  | dcn h t t2 =>
    rename_i a es od ds
    unfold unN at e
    simp only [if_true] at e
    have hl : (es.map fun e => e.1).length = ds.length := by
      have := t2.len
      rw [List.length_map] at this ⊢
      exact this
    obtain ⟨a1, a2, a3⟩ := unE_zkd hl e
    refine ⟨a, es, od, rfl, rfl, ⟨h, t, fun x hx => ?_⟩, a1.symm, by rw [a2]; exact t2⟩
    unfold kOks at a3
    rw [List.all_eq_true] at a3
    have : x.1 ∈ l.map Prod.fst := by rw [a1]; exact List.mem_map.mpr ⟨x, hx, rfl⟩
    obtain ⟨p, hp, ep⟩ := List.mem_map.mp this
    rw [← ep]
    exact a3 p hp
  | _ => simp [unN] at e
/-- told anew -/
theorem own_reN {K : PySem.W.Frag} {H : Hp} {a : Addr} {es : List NE} {od : Obj} {l : List (NestedKey × D)} (h : DN K H a es od) (e : es.map (fun e => e.1) = l.map Prod.fst) (t : OwnA K H (l.map Prod.snd) (es.map fun e => e.2.2) []) :
    Own K H (reN l) (.ref a) [a] := by
  have z := Own.dcn h.at_ h.keys t
  have hl : (es.map fun e => e.1).length = (l.map Prod.snd).length := by rw [e, List.length_map, List.length_map]
  rw [zkd_map nkD hl, e] at z
  have e2 : (l.map Prod.fst).zip (l.map Prod.snd) = l := by
    clear z hl e t
    induction l with
    | nil => rfl
    | cons p l ih => rw [List.map_cons, List.map_cons, List.zip_cons_cons, ih]
  rw [e2] at z
  exact z
section
variable {X : Cx} {pins : List (Addr × Obj)} {σ : St} {H : Hp} {s : Shared}
mutual
theorem key_is (I : L2.Inv X pins σ H s) : ∀ (k : NestedKey) {v : V} {F : List Addr} {u : Value}, Own X.K H (nkD k) v F → RelV v u → NestedIs s.heap k u
  | .none, v, F, u, o, r => by
    rw [nkD] at o
    cases o
    obtain rfl : u = Value.none := r
    exact .none
  | .num i, v, F, u, o, r => by
    rw [nkD] at o
    cases o
    obtain ⟨t, rfl⟩ := (show ∃ t, u = Value.int i t from r)
    exact .int i t
  | .text x, v, F, u, o, r => by
    rw [nkD] at o
    cases o
    obtain ⟨t, rfl⟩ := (show ∃ t, u = Value.str x t from r)
    exact .text x t
  | .tup ks, v, F, u, o, r => by
    rw [nkD] at o
    cases o with
    | tup h t =>
      rename_i a xs
      obtain rfl : u = Value.ref a := r
      obtain ⟨its, rr, ⟨ob, ho, hc, n, hd⟩, _⟩ := I.tuple h.sq
      exact .tup ho hc hd (keys_are I ks t rr)
theorem keys_are (I : L2.Inv X pins σ H s) : ∀ (ks : List NestedKey) {vs : List V} {F : List Addr} {us : List Value}, OwnA X.K H (nkDs ks) vs F → Vals vs us → NestedAll s.heap ks us
  | [], vs, F, us, o, r => by
    rw [nkDs] at o
    cases o
    cases r
    exact .nil
  | k :: ks, vs, F, us, o, r => by
    rw [nkDs] at o
    cases o with
    | cons o t n =>
      cases r with
      | cons r1 r2 => exact .cons (key_is I k o r1) (keys_are I ks t r2)
end
abbrev EX : List NE → List (NestedKey × Addr × Value) → Prop := Paired fun p q => p.1 = q.1 ∧ p.2.1 = q.2.1 ∧ RelV p.2.2 q.2.2
theorem EX.fst : ∀ {es : List NE} {xs : List (NestedKey × Addr × Value)}, EX es xs → es.map (fun e => e.1) = xs.map fun x => x.1
  | _, _, .nil => rfl
  | _, _, .cons h t => by rw [List.map_cons, List.map_cons, h.1, EX.fst t]
theorem EX.get {k : NestedKey} : ∀ {es : List NE} {xs : List (NestedKey × Addr × Value)}, EX es xs → RelO (getE es k) ((atKey xs k).map (·.2))
  | _, _, .nil => True.intro
  | e :: es, x :: xs, .cons h t => by
    have ih := EX.get (k := k) t
    unfold getE atKey at ih ⊢
    rw [List.find?_cons, List.find?_cons]
    by_cases c : e.1 = k
    · have c' : x.1 = k := h.1.symm.trans c
      rw [decide_eq_true c, decide_eq_true c']
      exact h.2.2
    · have c' : ¬ x.1 = k := fun z => c (h.1.trans z)
      rw [decide_eq_false c, decide_eq_false c']
      exact ih
theorem EX.any {k : NestedKey} {es : List NE} {xs : List (NestedKey × Addr × Value)} (h : EX es xs) : (es.any fun e => decide (e.1 = k)) = (atKey xs k).isSome := by
  induction h with
  | nil => rfl
  | @cons e x es xs h t ih =>
    unfold atKey at ih ⊢
    rw [List.any_cons, List.find?_cons, ih]
    by_cases c : e.1 = k
    · have c' : x.1 = k := h.1.symm.trans c
      rw [decide_eq_true c, decide_eq_true c']; rfl
    · have c' : ¬ x.1 = k := fun z => c (h.1.trans z)
      rw [decide_eq_false c, decide_eq_false c']; rfl
theorem EX.put {k : NestedKey} {b : Addr} {v : V} {u : Value} (r : RelV v u) {es : List NE} {xs : List (NestedKey × Addr × Value)} (h : EX es xs) : EX (putE es k b v) (storedH xs k b u) := by
  unfold putE storedH
  rw [h.any]
  split
  · rename_i hc0
    clear hc0
    induction h with
    | nil => exact .nil
    | @cons e x es xs h t ih =>
      rw [List.map_cons, List.map_cons]
      refine .cons ?_ ih
      unfold putAt
      by_cases c : e.1 = k
      · rw [if_pos c, if_pos (h.1.symm.trans c)]; exact ⟨h.1, h.2.1, r⟩
      · rw [if_neg c, if_neg (fun z => c (h.1.trans z))]; exact h
  · exact Paired.snoc h ⟨rfl, rfl, r⟩
theorem EX.mem : ∀ {es : List NE} {xs : List (NestedKey × Addr × Value)}, EX es xs → ∀ x, x ∈ xs → ∃ e, e ∈ es ∧ e.1 = x.1 ∧ e.2.1 = x.2.1
  | _, _, .nil, x, h => by cases h
  | p :: es, q :: xs, .cons hh t, x, hx => by
    rcases List.mem_cons.mp hx with rfl | hx
    · exact ⟨p, List.mem_cons_self .., hh.1, hh.2.1⟩
    · obtain ⟨e, h1, h2⟩ := EX.mem t x hx
      exact ⟨e, List.mem_cons_of_mem _ h1, h2⟩
end
end Sim
namespace Sim
open PySem PySem.Spec L2
/-- the value y is the key k -/
structure KeyN (K : PySem.W.Frag) (H : Hp) (k : NestedKey) (y : V) : Prop where
  own : Own K H (nkD k) y []
  ok : kOk k = true
theorem KeyN.ref {K : PySem.W.Frag} {H : Hp} {k : NestedKey} {y : V} (h : KeyN K H k y) : ∃ b, y = .ref b := by
  obtain ⟨o, ok⟩ := h
  obtain ⟨ks, rfl⟩ := kOk_tup ok
  rw [nkD] at o
  cases o with
  | tup _ _ => exact ⟨_, rfl⟩
section
variable {X : Cx} {pins : List (Addr × Obj)} {σ : St} {H : Hp} {s : Shared}
theorem KeyN.is {k : NestedKey} {b : Addr} (I : L2.Inv X pins σ H s) (h : KeyN X.K H k (.ref b)) : (nestedKind X.prog X.w).is s.heap k b := ⟨key_is I k h.own rfl, kOk_dp h.ok⟩
variable {o e : Expr} {es : List Expr} {to : TE} {t : TA} {name : Str} {apos cpos : Pos} {id : String} {r : V → List V → Hp → VK → Prop}
end
end Sim
namespace SimSrt
open PySem PyProof.Rows Srt SrtO
section
variable {prog : Program} {w : World} {A : Around} {E : Value → Shared → Prop} {s : Shared}
end
end SimSrt
namespace Sim
open PySem PySem.Spec L2
open PyProof.Rows hiding St
section
variable {X : Cx} {pins : List (Addr × Obj)} {σ : St} {H : Hp} {s : Shared}
end
end Sim
namespace Sim
open PySem PySem.Spec L2
open PyProof.Rows hiding St
section
variable {prog : Program} {w : World} {A : Around} {E : Value → Shared → Prop} {s : Shared}
theorem samePairs0 {nm : String} {a b : Addr} {es es' : Array DictEntry} {ep ep' : Nat} {Q : Bool → Shared → Prop} (ha : (a == sysModules) = false) (hb : (b == sysModules) = false)
    (da : s.heap.DictRaw a es ep) (db : s.heap.DictRaw b es' ep') (h0 : es'.size = 0) (h : Q (es.size == 0) s) : wpAny (model prog w) A (Builtin.Dict.samePairs nm a b) Q E s := by
  obtain ⟨oa, hoa, _, hda⟩ := da
  obtain ⟨ob, hob, _, hdb⟩ := db
  unfold Builtin.Dict.samePairs Builtin.Dict.showsAll
  rw [if_neg (show ¬ (a == sysModules) = true by rw [ha]; exact Bool.false_ne_true), if_neg (show ¬ (b == sysModules) = true by rw [hb]; exact Bool.false_ne_true)]
  refine wpAny_bind (wpAny_pure (wpAny_bind (wpAny_pure ?_)))
  refine wpAny_bind (wpAny_dictEntries hoa hda ?_)
  dsimp only
  refine wpAny_bind (wpAny_dictEntries hob hdb ?_)
  by_cases hsz : es.size = es'.size
  case neg =>
    rw [if_pos (by simpa using hsz)]
    have hbf : (es.size == 0) = false := by rw [h0] at hsz; simpa using hsz
    rw [hbf] at h
    exact wpAny_bind (wpAny_rule (wpAny_pure h))
  case pos =>
    have hz : es.size = 0 := hsz.trans h0
    rw [hz] at h
    rw [if_neg (by rw [hsz]; simp)]
    refine wpAny_bind (wpAny_dictEpoch hoa hda ?_)
    refine wpAny_bind ?_
    rw [Std.Legacy.Range.forIn_eq_forIn_range']
    simp only [Std.Legacy.Range.size, Nat.sub_zero, Nat.add_sub_cancel, Nat.div_one, hz, List.range'_zero]
    exact wpAny_pure (wpAny_pure h)
theorem ne0_raw {a b : Addr} {es es' : Array DictEntry} {ep ep' : Nat} {Q : Value → Shared → Prop} (ha : (a == sysModules) = false) (hb : (b == sysModules) = false)
    (da : s.heap.DictRaw a es ep) (db : s.heap.DictRaw b es' ep') (h0 : es'.size = 0) (hu : A.units < cLine) (h : Q (.bool (!(es.size == 0))) s) : wpAny (model prog w) A (compareOp .NotEq (.ref a) (.ref b)) Q E s := by
  refine wpAny_richCompare_same_room (op := .NotEq) da.typeIs db.typeIs PySem.F.slot_dict_ne (wpAny_call_entry PySem.F.slot_dict_ne da.typeIs PySem.F.entry_dict_ne ?_ (PySem.F.args_dict_ne_2 _ _)) hu
  show wpAny _ _ (Builtin.Dict.dictSlotArgs "__ne__" ⟨[.ref a, .ref b], []⟩ >>= _) _ _ s
  refine wpAny_bind ?_
  unfold Builtin.Dict.dictSlotArgs
  refine wpAny_bind (wpAny_notOrdered_dict da.typeIs ?_)
  show wpAny _ _ (pure (Value.ref a, Value.ref b)) _ _ s
  refine wpAny_pure ?_
  refine wpAny_bind (wpAny_isInstance (T := "dict") db.typeIs PySem.F.sub_dict_dict ?_)
  simp only [Bool.not_true, Bool.false_eq_true, if_false]
  refine wpAny_bind (wpAny_pure (wpAny_bind (wpAny_pure ?_)))
  refine wpAny_bind (samePairs0 ha hb da db h0 ?_)
  refine wpAny_pure ⟨_, rfl, ?_, ?_⟩
  · exact fun x => nomatch x
  · simpa using h
end
section
variable {X : Cx} {pins : List (Addr × Obj)} {σ : St} {H : Hp} {s : Shared}
end
section
variable {P : Program} {w : World} {K : PySem.W.Frag} {tg : Expr} {d : Addr} {o : Obj} {ents : Array DictEntry} {ep : Nat}
end
section
variable {X : Cx} {tg e : Expr} {td : TE} {apos cpos : Pos}
end
end Sim
namespace Sim
open PySem PySem.Spec L2
section
variable {K : PySem.W.Frag}
end
section
variable [Tb] [Vs] {X : Cx} {a b : Expr} {ga gb : O} {pos : Pos}
end
section
variable [Tb] [Vs] {X : Cx} {K : PySem.W.Frag} {σ : St} {H : Hp} {Q : VK}
end
end Sim
namespace Sim
open PySem PySem.Spec L2
section
variable [Tb] [Vs] {K : PySem.W.Frag} {H H' : Hp} {s : Sg} {σ : St} {Fs : Fp}
theorem chg_updM {a : Addr} {mo mo' : MO} (hl : H a = some mo.ho) (hm : isMut mo.ho = true := by rfl) : Chg (fun b => b = a) H (upd H a mo'.ho) := .upd1 hl hm
/-- what a slot holds is written, at one object of it -/
theorem RelS.wrA (R : RelS K H s σ Fs) {i : Nat} {d d' : D} {v : V} {a : Addr} {mo mo' : MO} {F' Fd : List Addr} (e : s[i]? = some (some d)) (ev : σ[i]? = some (some v)) (hl : H a = some mo.ho) (ha : a ∈ Fs i)
    (o : Own K (upd H a mo'.ho) d' v F') (hF : ∀ b, b ∈ F' → b ∈ Fs i ∨ b ∈ Fd) (hd : ∀ j b, b ∈ Fs j → b ∉ Fd) (hm : isMut mo.ho = true := by rfl) :
    ∃ Fs', RelS K (upd H a mo'.ho) (s.set i (some d')) σ Fs' ∧ Chg (InF Fs) H (upd H a mo'.ho) ∧ ∀ j b, b ∈ Fs' j → b ∈ Fs j ∨ b ∈ Fd := by
  have hi : i < s.length := by
    rcases Nat.lt_or_ge i s.length with h | h
    · exact h
    · rw [List.getElem?_eq_none h] at e; cases e
  have chg : Chg (fun b => b = a) H (upd H a mo'.ho) := chg_updM hl hm
  refine ⟨upF Fs i F', ⟨by rw [List.length_set, R.len], fun j d' e' => ?_, fun j h => ?_, fun j k b h1 h2 => ?_, R.lnkC chg (fun j b hb w => R.nfp e ha (by rw [← w]; exact hb)), fun j h d' e' => ?_⟩, chg.mono (fun b _ _ w => ⟨i, by rw [w]; exact ha⟩), fun j b h => ?_⟩
  · by_cases hj : j = i
    · subst hj
      rw [List.getElem?_set_self hi] at e'
      cases e'
      refine ⟨_, ev, ?_⟩
      unfold upF
      rw [if_pos rfl]
      exact o
    · rw [List.getElem?_set_ne (Ne.symm hj)] at e'
      obtain ⟨v', hv', o'⟩ := R.has j d' e'
      refine ⟨v', hv', ?_⟩
      unfold upF
      rw [if_neg hj]
      exact o'.chg chg fun b hb w => hj (R.dis j i a (by rw [← w]; exact hb) ha)
  · unfold upF
    by_cases hj : j = i
    · subst hj
      exact absurd (List.getElem?_set_self hi) (h _)
    · rw [if_neg hj]
      exact R.off j fun d' e => h d' (by rw [List.getElem?_set_ne (Ne.symm hj)]; exact e)
  · have key : ∀ {m : Nat}, m ≠ i → b ∈ F' → b ∈ Fs m → False := fun {m} hm g1 g2 => by
      rcases hF b g1 with q | q
      · exact hm (R.dis m i b g2 q)
      · exact hd m b g2 q
    unfold upF at h1 h2
    by_cases hj : j = i
    · by_cases hk : k = i
      · omega
      · rw [if_pos hj] at h1
        rw [if_neg hk] at h2
        exact (key hk h1 h2).elim
    · by_cases hk : k = i
      · rw [if_neg hj] at h1
        rw [if_pos hk] at h2
        exact (key hj h2 h1).elim
      · rw [if_neg hj] at h1
        rw [if_neg hk] at h2
        exact R.dis j k b h1 h2
  · by_cases hj : j = i
    · subst hj
      exact R.bse j h _ e
    · rw [List.getElem?_set_ne (Ne.symm hj)] at e'
      exact R.bse j h d' e'
  · unfold upF at h
    by_cases hj : j = i
    · rw [if_pos hj] at h
      subst hj
      exact hF b h
    · rw [if_neg hj] at h
      exact .inl h
end
section
variable {K : PySem.W.Frag} {H H' : Hp}
theorem KeyN.chg [Tb] {Fa : Addr → Prop} (c : Chg Fa H H') {k : NestedKey} {y : V} (h : KeyN K H k y) : KeyN K H' k y := ⟨h.own.chg c (fun _ z => by cases z), h.ok⟩
end
section
variable [Tb] [Vs] {X : Cx} {lk : Nat → Bool} {pos : Pos} {ga gb : O} {e : Expr}
end
section
variable [Tb] [Vs] {X : Cx} {K : PySem.W.Frag} {σ : St} {H : Hp} {Q : VK}
end
end Sim
namespace Sim
open PySem PySem.Spec L2
section
variable [Tb] [Vs] {X : Cx} {K : PySem.W.Frag}
variable {tg e : Expr} {ga : O}
end
end Sim
namespace SimMin
open PySem PySem.Spec PySem.W
section
variable {prog : Program} {w : World} {A : Around} {E : Value → Shared → Prop} {s : Shared}
end
end SimMin
namespace Sim
open PySem PySem.Spec L2
section
variable {X : Cx}
end
end Sim
namespace Sim
open PySem PySem.Spec L2
def toKy : D → Option Key
  | .int i => some (.inl i)
  | .str x => some (.inr x)
  | _ => none
theorem toKy_inv {d : D} {k : Key} (h : toKy d = some k) : d = kD k := by
  unfold toKy at h
  split at h
  · cases h; rfl
  · cases h; rfl
  · cases h
theorem toKy_kD (k : Key) : toKy (kD k) = some k := by cases k <;> rfl
def unKE : List (D × D) → Option (List (Key × D))
  | [] => some []
  | p :: ps => (toKy p.1).bind fun k => (unKE ps).map ((k, p.2) :: ·)
def unK : D → Option (List (Key × D))
  | .dict ((.bool true, .none) :: es) => unKE es
  | _ => none
def reK (l : List (Key × D)) : D := .dict ((.bool true, .none) :: l.map fun p => (kD p.1, p.2))
theorem unKE_re : ∀ l : List (Key × D), unKE (l.map fun p => (kD p.1, p.2)) = some l
  | [] => rfl
  | p :: l => by rw [List.map_cons, unKE, toKy_kD, unKE_re l]; rfl
theorem unK_reK (l : List (Key × D)) : unK (reK l) = some l := unKE_re l
theorem unKE_inv : ∀ {es : List (D × D)} {l : List (Key × D)}, unKE es = some l → es = l.map fun p => (kD p.1, p.2)
  | [], l, h => by rw [unKE] at h; cases h; rfl
  | p :: ps, l, h => by
    rw [unKE] at h
    obtain ⟨k, e, h⟩ := Option.bind_eq_some_iff.mp h
    obtain ⟨l', e', rfl⟩ := Option.map_eq_some_iff.mp h
    rw [List.map_cons, ← unKE_inv e', ← toKy_inv e]
theorem unK_inv {d : D} {l : List (Key × D)} (h : unK d = some l) : d = reK l := by
  unfold unK at h
  split at h
  · rw [unKE_inv h]; rfl
  · cases h
theorem unKE_zkd : ∀ {ks : List Key} {ds : List D} {l : List (Key × D)}, ks.length = ds.length → unKE (zkd kD ks ds) = some l → l.map Prod.fst = ks ∧ l.map Prod.snd = ds
  | [], [], l, _, h => by
    rw [show zkd kD [] [] = [] from rfl, unKE] at h
    cases h; exact ⟨rfl, rfl⟩
  | k :: ks, d :: ds, l, hl, h => by
    rw [zkd, unKE, toKy_kD] at h
    obtain ⟨l', e', rfl⟩ := Option.map_eq_some_iff.mp h
    obtain ⟨a1, a2⟩ := unKE_zkd (by simpa using hl) e'
    exact ⟨by rw [List.map_cons, a1], by rw [List.map_cons, a2]⟩
  | [], _ :: _, _, h, _ => by simp at h
  | _ :: _, [], _, h, _ => by simp at h
section
variable {K : PySem.W.Frag} {H : Hp}
structure DK (K : PySem.W.Frag) (H : Hp) (a : Addr) (kvs : List (Key × V)) (l : List (Key × D)) (F : List Addr) : Prop where
  at_ : H a = some (.dK kvs)
  keys : kvs.map Prod.fst = l.map Prod.fst
  vals : OwnA K H (l.map Prod.snd) (kvs.map Prod.snd) F
  out : a ∉ F
theorem own_K {d : D} {v : V} {F : List Addr} {l : List (Key × D)} (o : Own K H d v F) (e : unK d = some l) : ∃ a kvs F', v = .ref a ∧ F = a :: F' ∧ DK K H a kvs l F' := by
  cases o with
  | dct h t n =>
    rename_i a kvs ds F'
    have e : unKE (zkd kD (kvs.map Prod.fst) ds) = some l := e
    have hl : (kvs.map Prod.fst).length = ds.length := by
      have := t.len
      rw [List.length_map] at this ⊢
      exact this
    obtain ⟨a1, a2⟩ := unKE_zkd hl e
    exact ⟨a, kvs, F', rfl, rfl, h, a1.symm, by rw [a2]; exact t, n⟩
  | _ => simp [unK] at e
theorem own_reK {a : Addr} {kvs : List (Key × V)} {l : List (Key × D)} {F : List Addr} (h : DK K H a kvs l F) : Own K H (reK l) (.ref a) (a :: F) := by
  have z := Own.dct h.at_ h.vals h.out
  have hl : (kvs.map Prod.fst).length = (l.map Prod.snd).length := by rw [h.keys, List.length_map, List.length_map]
  rw [zkd_map kD hl, h.keys] at z
  have e2 : (l.map Prod.fst).zip (l.map Prod.snd) = l := by
    clear z hl h
    induction l with
    | nil => rfl
    | cons p l ih => rw [List.map_cons, List.map_cons, List.zip_cons_cons, ih]
  rw [e2] at z
  exact z
theorem own_key {d : D} {v : V} {F : List Addr} {k : Key} (o : Own K H d v F) (e : toKy d = some k) : v = kV k := by
  have := toKy_inv e
  subst this
  cases k with
  | inl i => cases (show Own K H (.int i) v F from o); rfl
  | inr x => cases (show Own K H (.str x) v F from o); rfl
def getKL (l : List (Key × D)) (k : Key) : Option D := (l.find? fun p => decide (p.1 = k)).map fun p => p.2
def putKL (l : List (Key × D)) (k : Key) (d : D) : List (Key × D) :=
  if (l.any fun p => decide (p.1 = k)) = true then l.map (fun p => if p.1 = k then (p.1, d) else p) else l ++ [(k, d)]
def mergeKL (l more : List (Key × D)) : List (Key × D) := more.foldl (fun acc p => putKL acc p.1 p.2) l
def dropKL (l : List (Key × D)) (k : Key) : List (Key × D) := l.filter fun p => decide (p.1 ≠ k)
theorem valV_L {k : Key} : ∀ {kvs : List (Key × V)} {l : List (Key × D)} {F : List Addr}, kvs.map Prod.fst = l.map Prod.fst → OwnA K H (l.map Prod.snd) (kvs.map Prod.snd) F →
    (valV kvs k = none ∧ getKL l k = none) ∨ ∃ v d G, valV kvs k = some v ∧ getKL l k = some d ∧ Own K H d v G ∧ ∀ a, a ∈ G → a ∈ F
  | [], [], _, _, _ => .inl ⟨rfl, rfl⟩
  | e :: kvs, p :: l, F, h, t => by
    rw [List.map_cons, List.map_cons] at h
    injection h with h1 h2
    rw [List.map_cons, List.map_cons] at t
    cases t with
    | @cons _ _ _ _ F1 F2 o t n =>
      have ih := valV_L (k := k) h2 t
      unfold valV getKL at ih ⊢
      rw [List.find?_cons, List.find?_cons]
      by_cases c : e.1 = k
      · have c' : p.1 = k := h1.symm.trans c
        rw [decide_eq_true c, decide_eq_true c']
        exact .inr ⟨_, _, F1, rfl, rfl, o, fun a ha => List.mem_append_left _ ha⟩
      · have c' : ¬ p.1 = k := fun z => c (h1.trans z)
        rw [decide_eq_false c, decide_eq_false c']
        rcases ih with ih | ⟨v, d, G, i1, i2, i3, i4⟩
        · exact .inl ih
        · exact .inr ⟨v, d, G, i1, i2, i3, fun a ha => List.mem_append_right _ (i4 a ha)⟩
  | [], _ :: _, _, h, _ => by simp at h
  | _ :: _, [], _, h, _ => by simp at h
theorem anyK_L {k : Key} {kvs : List (Key × V)} {l : List (Key × D)} (h : kvs.map Prod.fst = l.map Prod.fst) : (kvs.any fun e => decide (e.1 = k)) = l.any fun p => decide (p.1 = k) := by
  have a : (kvs.any fun e => decide (e.1 = k)) = (kvs.map Prod.fst).any fun x => decide (x = k) := by rw [List.any_map]; rfl
  have b : (l.any fun p => decide (p.1 = k)) = (l.map Prod.fst).any fun x => decide (x = k) := by rw [List.any_map]; rfl
  rw [a, b, h]
/-- a pure value is put -/
theorem putK_L {k : Key} {v : V} {d : D} (o : Own K H d v []) {kvs : List (Key × V)} {l : List (Key × D)} {F : List Addr} (h : kvs.map Prod.fst = l.map Prod.fst) (t : OwnA K H (l.map Prod.snd) (kvs.map Prod.snd) F) :
    ∃ F', (putK kvs k v).map Prod.fst = (putKL l k d).map Prod.fst ∧ OwnA K H ((putKL l k d).map Prod.snd) ((putK kvs k v).map Prod.snd) F' ∧ ∀ a, a ∈ F' → a ∈ F := by
  unfold putK putKL
  rw [anyK_L (k := k) h]
  split
  · rename_i hc0
    clear hc0
    induction kvs generalizing l F with
    | nil =>
      cases l with
      | nil => exact ⟨F, rfl, t, fun a ha => ha⟩
      | cons p l => simp at h
    | cons e es ih =>
      cases l with
      | nil => simp at h
      | cons p l =>
        rw [List.map_cons, List.map_cons] at h
        injection h with h1 h2
        rw [List.map_cons, List.map_cons] at t
        cases t with
        | @cons _ _ _ _ F1 F2 o1 t n =>
          obtain ⟨F', a1, a2, a3⟩ := ih h2 t
          simp only [List.map_cons]
          by_cases c : e.1 = k
          · have c' : p.1 = k := h1.symm.trans c
            rw [if_pos c, if_pos c']
            exact ⟨[] ++ F', by rw [a1, h1], .cons o a2 (fun _ z => by cases z), fun a ha => List.mem_append_right _ (a3 a ha)⟩
          · have c' : ¬ p.1 = k := fun z => c (h1.trans z)
            rw [if_neg c, if_neg c']
            exact ⟨F1 ++ F', by rw [a1, h1], .cons o1 a2 (fun a ha z => n a ha (a3 a z)), fun a ha => by
              rcases List.mem_append.mp ha with ha | ha
              · exact List.mem_append_left _ ha
              · exact List.mem_append_right _ (a3 a ha)⟩
  · rw [List.map_append, List.map_append, List.map_append, List.map_append, h]
    obtain ⟨F', s1, s2⟩ := OwnA.snoc o t (fun _ _ z => by cases z)
    exact ⟨F', rfl, s1, fun a ha => (s2 a ha).elim id fun z => by cases z⟩
def pIxK : List D → Option D
  | [d, y] => (toKy y).bind fun k => (unK d).bind fun l => puO (getKL l k)
  | _ => none
def rIxK : R2 := fun x y H Q => ∃ a v, x = .ref a ∧ DGet H a y (some v) ∧ Q v H
theorem pr_ixK : PrimR K (u2 rIxK) pIxK := by
  intro vs ds d H Q h e q
  unfold pIxK at e
  split at e
  · obtain ⟨x, y, F, G, rfl, o1, o2⟩ := h.two
    obtain ⟨k, ek, e⟩ := Option.bind_eq_some_iff.mp e
    obtain ⟨l, el, e⟩ := Option.bind_eq_some_iff.mp e
    obtain ⟨a, kvs, F', rfl, _, hd⟩ := own_K o1 el
    rcases valV_L (k := k) hd.keys hd.vals with ⟨_, b2⟩ | ⟨v, d', G', b1, b2, o, _⟩
    · rw [b2] at e; cases e
    · rw [b2] at e
      unfold puO at e
      simp only at e
      split at e
      · rename_i hp
        cases e
        rw [o.pur hp] at o
        refine ⟨a, v, rfl, ?_, q _ _ (.sc o)⟩
        rw [own_key o2 ek, ← b1]
        exact DGet.k hd.at_
      · cases e
  · cases e
end
section
variable [Tb] [Vs] {X : Cx} {a b : Expr} {ga gb : O} {pos : Pos}
theorem so_ixK (hu : X.A.units + 65 < cLine) (ha : SimO X a ga) (hb : SimO X b gb) (hs : NoSl b := by exact fun _ _ => rfl) : SimO X (.Subscript a b pos) (o2 pIxK ga gb) :=
  pe_imp (pe_dget (by omega) ha hb hs) fun _ _ _ h => by have z := tA2 (prim pr_ixK h); exact z
def oNewK : O := fun s => .ok (.val (reK [])) s
theorem so_newK : SimO X (.Dict [] [] pos) oNewK := pe_imp pe_dnewK fun σ H Q z => by
  obtain ⟨s, Fs, r, s', R, e, q⟩ := z
  cases e
  intro p hp
  have sm : Same H (upd H p (.dK [])) := same_new hp
  have nv : NewV X.K H (reK []) (.ref p) (upd H p (.dK [])) := ⟨sm, [p], own_reK (kvs := []) ⟨upd_same, rfl, .nil, by simp⟩, fun b z => by rw [List.mem_singleton.mp z]; exact hp⟩
  obtain ⟨R2, E2, F, k, n⟩ := nv.ok R
  exact q _ _ Fs F R2 E2 k n
def pairsK : List D → Option (List (Key × D))
  | [] => some []
  | .tuple [y, v] :: ds => (toKy y).bind fun k => (pairsK ds).bind fun l => if pur v = true then some ((k, v) :: l) else none
  | _ => none
def pDictK : List D → Option D
  | [.list ds] => (pairsK ds).map fun l => reK (mergeKL [] l)
  | _ => none
end
section
variable {K : PySem.W.Frag} {H : Hp}
theorem pairsK_own : ∀ {ds : List D} {vs : List V} {l : List (Key × D)} {F : List Addr}, OwnA K H ds vs F → pairsK ds = some l →
    ∃ (ps : List Addr) (kvs : List (Key × V)), vs = ps.map V.ref ∧ Paired (fun p kv => SqT K H p [kV kv.1, kv.2]) ps kvs ∧ kvs.map Prod.fst = l.map Prod.fst ∧ OwnA K H (l.map Prod.snd) (kvs.map Prod.snd) []
  | [], _, l, F, t, h => by
    rw [pairsK] at h
    cases h
    cases t
    exact ⟨[], [], rfl, .nil, rfl, .nil⟩
  | d :: ds, vs, l, F, t, h => by
    unfold pairsK at h
    split at h
    · rename_i heq; cases heq
    · rename_i y v ds' heq
      cases heq
      obtain ⟨k, ek, h⟩ := Option.bind_eq_some_iff.mp h
      obtain ⟨l', el, h⟩ := Option.bind_eq_some_iff.mp h
      split at h
      · rename_i hk
        cases h
        cases t with
        | cons o t n =>
          obtain ⟨ps, kvs, rfl, p1, p3, p4⟩ := pairsK_own t el
          cases o with
          | tup hq tt =>
            rename_i a xs
            cases tt with
            | @cons vy vs1 _ _ F1 F2 o1 tt n1 =>
              cases tt with
              | @cons vv vs2 _ _ F3 F4 o2 tt n2 =>
                cases tt
                have hy := own_key o1 ek
                subst hy
                rw [o2.pur hk] at o2
                refine ⟨a :: ps, (k, vv) :: kvs, rfl, .cons hq.sq p1, by rw [List.map_cons, List.map_cons, p3], ?_⟩
                rw [List.map_cons, List.map_cons]
                exact .cons0 o2 p4
      · cases h
    · cases h
theorem mergeK_L : ∀ {more : List (Key × V)} {lm : List (Key × D)} {kvs : List (Key × V)} {l : List (Key × D)} {F : List Addr}, more.map Prod.fst = lm.map Prod.fst → OwnA K H (lm.map Prod.snd) (more.map Prod.snd) [] →
    kvs.map Prod.fst = l.map Prod.fst → OwnA K H (l.map Prod.snd) (kvs.map Prod.snd) F →
    ∃ F', (mergeK kvs more).map Prod.fst = (mergeKL l lm).map Prod.fst ∧ OwnA K H ((mergeKL l lm).map Prod.snd) ((mergeK kvs more).map Prod.snd) F' ∧ ∀ a, a ∈ F' → a ∈ F
  | [], [], _, _, F, _, _, h, t => ⟨F, h, t, fun a ha => ha⟩
  | e :: more, p :: lm, kvs, l, F, h1, t1, h, t => by
    rw [List.map_cons, List.map_cons] at h1
    injection h1 with a1 a2
    rw [List.map_cons, List.map_cons] at t1
    obtain ⟨F1, b1, b2, b3⟩ := putK_L (k := e.1) t1.nil2.1 h t
    obtain ⟨F2, c1, c2, c3⟩ := mergeK_L a2 t1.nil2.2 b1 b2
    refine ⟨F2, ?_, ?_, fun a ha => b3 a (c3 a ha)⟩
    · unfold mergeK mergeKL at c1 ⊢
      rw [List.foldl_cons, List.foldl_cons, ← a1]
      exact c1
    · unfold mergeK mergeKL at c2 ⊢
      rw [List.foldl_cons, List.foldl_cons, ← a1]
      exact c2
  | [], _ :: _, _, _, _, h1, _, _, _ => by simp at h1
  | _ :: _, [], _, _, _, h1, _, _, _ => by simp at h1
def rDictK (K : PySem.W.Frag) : List V → Hp → VK → Prop := fun xs H Q => ∃ (a : Addr) (ps : List Addr) (kvs : List (Key × V)), xs = [.ref a] ∧ SqL K H a (ps.map V.ref) ∧ Paired (fun p kv => SqT K H p [kV kv.1, kv.2]) ps kvs ∧
    ∀ p, H p = none → Q (.ref p) (upd H p (.dK (mergeK [] kvs)))
theorem call_dictK {X : Cx} (hc : X.calm = true) : CallR X (.type "dict") (rDictK X.K) := call_dictP hc
theorem pr_dictK : PrimR K (rDictK K) pDictK := by
  intro vs ds d H Q h e q
  unfold pDictK at e
  split at e
  · obtain ⟨x, F, rfl, o1⟩ := h.one
    obtain ⟨l, el, e⟩ := Option.map_eq_some_iff.mp e
    subst e
    cases o1 with
    | lst h1 t n =>
      rename_i a xs F0
      obtain ⟨ps, kvs, rfl, p1, p3, p4⟩ := pairsK_own t el
      refine ⟨a, ps, kvs, rfl, SqL.of h1, p1, fun p hp => q _ _ ?_⟩
      have sm : Same H (upd H p (.dK (mergeK [] kvs))) := same_new hp
      obtain ⟨F', g1, g2, g3⟩ := mergeK_L p3 p4 (kvs := []) (l := []) rfl .nil
      have e0 : F' = [] := List.eq_nil_iff_forall_not_mem.mpr fun a ha => by cases g3 a ha
      rw [e0] at g2
      refine ⟨sm, [p], own_reK ⟨upd_same, g1, g2.chg (Fa := fun _ => False) (.same sm) fun _ _ z => z, by simp⟩, fun b z => by rw [List.mem_singleton.mp z]; exact hp⟩
  · cases e
end
end Sim
namespace Sim
open PySem PySem.Spec L2
section
variable [Tb] [Vs] {K : PySem.W.Frag} {H : Hp} {X : Cx}
end
def sSetK (i : Nat) (gi g : O) : S := fun s => (g s).bind fun r s1 => (oV i s1).bind fun _ s1 => (gi s1).bind fun ri s2 => match own r s2, (rd ri s2).bind toKy, ((s2[i]?).join).bind unK with
  | some d, some k, some l => if pur d = true ∧ l.length < 1000000 then .ok .nx (s2.set i (some (reK (putKL l k d)))) else .bad
  | _, _, _ => .bad
section
variable [Tb] [Vs] {X : Cx} {lk : Nat → Bool} {pos : Pos} {ga gb : O} {e : Expr}
theorem ss_setKF {e0 : Expr} {i : Nat} {ix : Expr} {p2 : Pos} (hu : X.A.units + 65 < cLine) (hv : PE X e0 (tSl i)) (hix : SimO X ix gb) (he : SimO X e ga)
    (hs : swapsWith e (some (.Subscript e0 ix p2)) pos.line X.env = pure false := by rfl) : SimS X lk (.Assign [.Subscript e0 ix p2] e pos) (sSetK i gb ga) := by
  refine ps_imp (ps_dput (by omega) hv hix he hs) fun D σ H z => ?_
  obtain ⟨s, Fs, fl, s', R, e, q⟩ := z
  obtain ⟨r, s1, e1, e⟩ := bind_inv e
  refine ⟨s, Fs, r, s1, R, e1, fun v H1 Fs1 F R1 E1 k1 n1 => ?_⟩
  obtain ⟨rv, s1', e1', e⟩ := bind_inv e
  unfold oV at e1'
  split at e1'
  · rename_i d0 hd0
    cases e1'
    obtain ⟨vl, hvl, _⟩ := R1.has i d0 (join_some hd0)
    refine ⟨vl, hvl, R1.lnk.1, ?_⟩
    obtain ⟨ri, s2, e2, e⟩ := bind_inv e
    refine ⟨s1, Fs1, ri, s2, R1, e2, fun vi H2 Fs2 F2 R2 E2 k2 n2 => ?_⟩
    split at e
    · rename_i d k l hd hk hl
      split at e
      · rename_i hp
        cases e
        obtain ⟨d3, hs3, el⟩ := Option.bind_eq_some_iff.mp hl
        obtain ⟨d4, hk4, ek⟩ := Option.bind_eq_some_iff.mp hk
        obtain ⟨vl', hvl', o⟩ := R2.has i _ (join_some hs3)
        rw [hvl] at hvl'
        cases hvl'
        obtain ⟨a, kvs, F3, rfl, hF, hdk⟩ := own_K o el
        obtain ⟨F', oi⟩ := k2.dp R2 hk4
        have hkey := own_key oi ek
        subst hkey
        have A := rfOk_own (k1.ev E2) R2 hd
        have o1 := A.own
        rw [o1.pur hp.1] at o1
        have hlen : kvs.length < sizeLine := by
          have := congrArg List.length hdk.keys
          rw [List.length_map, List.length_map] at this
          rw [this]
          exact Nat.lt_of_lt_of_le hp.2 big_le
        refine ⟨a, _, rfl, DPut.k hdk.at_ hlen, ?_⟩
        have c : Chg (fun z => z = a) H2 (upd H2 a (.dK (putK kvs k v))) := chg_updM (mo := .dct kvs) (mo' := .dct (putK kvs k v)) hdk.at_
        obtain ⟨F4, p1, p2, p3⟩ := putK_L (k := k) o1 hdk.keys hdk.vals
        have na : a ∉ F4 := fun z => hdk.out (p3 a z)
        have on : Own X.K (upd H2 a (.dK (putK kvs k v))) (reK (putKL l k d)) (.ref a) (a :: F4) := own_reK ⟨upd_same, p1, p2.chg c fun b hb w => na (by rw [← w]; exact hb), na⟩
        have ai : a ∈ Fs2 i := by rw [hF]; exact List.mem_cons_self ..
        obtain ⟨Fs3, R3, C3, n3⟩ := R2.wrA (mo := .dct kvs) (mo' := .dct (putK kvs k v)) (join_some hs3) hvl hdk.at_ ai on (Fd := []) (fun z hz => by
          rcases List.mem_cons.mp hz with rfl | hz
          · exact .inl ai
          · exact .inl (by rw [hF]; exact List.mem_cons_of_mem _ (p3 z hz))) (by simp)
        exact q σ _ Fs3 R3 (Ev.r ((E1.trans E2).trans ⟨C3, fun j a h => (n3 j a h).imp id (fun z => by cases z)⟩)) (.refl _ _)
      · cases e
    · cases e
  · cases e1'
theorem ss_setK {i : Nat} {x : Str} {ix : Expr} {p1 p2 : Pos} (hu : X.A.units + 65 < cLine) (hv : PE X (.Name x p1) (tVar i)) (hix : SimO X ix gb) (he : SimO X e ga)
    (hs : swapsWith e (some (.Subscript (.Name x p1) ix p2)) pos.line X.env = pure false := by rfl) : SimS X lk (.Assign [.Subscript (.Name x p1) ix p2] e pos) (sSetK i gb ga) :=
  ss_setKF hu (tsl_of hv) hix he hs
end
section
variable [Tb] [Vs] {X : Cx} {K : PySem.W.Frag} {σ : St} {H : Hp} {Q : VK}
end
end Sim
namespace Sim
open PySem PySem.Spec L2
section
variable {K : PySem.W.Frag}
end
section
variable [Tb] [Vs] {X : Cx} {e : Expr} {ga : O}
end
end Sim
namespace Sim
open PySem PySem.Spec L2
section
variable [Tb] [Vs] {X : Cx} {x : Str} {p pos : Pos} {es : List Expr} {ga : AL} {i : Nat}
end
end Sim
namespace Sim
open PySem PySem.Spec L2
section
variable [Tb] [Vs] {X : Cx} {x : Str} {p : Pos} {i : Nat}
end
end Sim
namespace Sim
open PySem PySem.Spec L2
section
variable {K : PySem.W.Frag} {H : Hp}
end
section
variable {prog : Program} {w : World} {A : Around} {E : Value → Shared → Prop} {s : Shared}
end
section
variable {X : Cx}
end
end Sim
namespace Sim
open PySem PySem.Spec L2
def sAugIx (f : Int → Int → Int) (i : Nat) (gi g : O) : S := fun s => (oV i s).bind fun _ s => (gi s).bind fun ri s1 => match rd ri s1, (s1[i]?).join with
  | some (.int k), some (.list ds) => (match ixN ds.length k with
    | none => .bad
    | some j => (match ds[j]? with
      | some (.int x) => (g s1).bind fun r s2 => (match rd r s2, (s2[i]?).join with
        | some (.int y), some (.list ds2) => if ds2.length = ds.length then .ok .nx (s2.set i (some (.list (ds2.set j (.int (f x y)))))) else .bad
        | _, _ => .bad)
      | _ => .bad))
  | _, _ => .bad
theorem get_list {X : Cx} : PGet X (rIxL X.K) := by
  intro pins s σ H x y v u Q I rx ry h
  obtain ⟨p, xs, i, z, rfl, rfl, hq, he, q⟩ := h
  cases rx
  obtain ⟨t, rfl⟩ := ry
  obtain ⟨its, r, pl, hz⟩ := I.list hq
  obtain ⟨j, h1, h2, h3, h4, h5⟩ := atI_get he
  obtain ⟨w, ew, rw'⟩ := r.get h2
  have hl := r.length
  have hn := line63
  have fin : EP X pins σ Q w s := ⟨z, H, I, rw', q⟩
  by_cases h0 : 0 ≤ i
  · have hj : i.toNat = j := by
      rw [seqIndex_of h0 h5] at h1
      exact Option.some.inj h1
    exact wpAny_getItem_list pl.isList h0 (by omega) (by rw [hj]; simpa using ew) fin
  · have hj : (i + (its.toArray.size : Int)).toNat = j := by
      rw [seqIndex_neg (by omega) h4] at h1
      rw [List.size_toArray, ← hl]
      exact Option.some.inj h1
    exact wpAny_getItem_list_neg pl.isList (by omega) (by rw [List.size_toArray] <;> omega) (by omega) (by rw [hj]; simpa using ew) fin
section
variable [Tb] [Vs] {X : Cx} {lk : Nat → Bool} {pos : Pos} {ga gb : O} {e : Expr} {op : Operator} {f : Int → Int → Int}
theorem ss_augIxF {e0 : Expr} {i : Nat} {ix : Expr} {p2 : Pos} (hop : PIp X op (ipI f)) (hv : PE X e0 (tSl i)) (hix : SimO X ix gb) (he : SimO X e ga)
    (ha : ∀ ov iv new, augStore ix ov iv new = (do holding [new, ov, iv] (setItem ov iv new); release [new, ov, iv] []; pure .next) := by intros; rfl) : SimS X lk (.AugAssign (.Subscript e0 ix p2) op e pos) (sAugIx f i gb ga) := by
  refine ps_imp (ps_augS hv hix (tget := rIxL X.K) get_list he hop set_list ha) fun D σ H z => ?_
  obtain ⟨s, Fs, fl, s', R, e, q⟩ := z
  obtain ⟨rv, s0, e0, e⟩ := bind_inv e
  unfold oV at e0
  split at e0
  · rename_i d0 hd0
    cases e0
    obtain ⟨vl, hvl, _⟩ := R.has i d0 (join_some hd0)
    refine ⟨vl, hvl, R.lnk.1, ?_⟩
    obtain ⟨ri, s1, e1, e⟩ := bind_inv e
    refine ⟨s, Fs, ri, s1, R, e1, fun vi H1 Fs1 F1 R1 E1 k1 n1 => ?_⟩
    split at e
    · rename_i k ds hk hs1
      split at e
      · cases e
      · rename_i j hj
        split at e
        · rename_i x hx
          obtain ⟨vl', hvl', o⟩ := R1.has i _ (join_some hs1)
          rw [hvl] at hvl'
          cases hvl'
          obtain ⟨l, vs, F0, rfl, eF, hl, t, nl⟩ := own_list o
          obtain ⟨F', oi⟩ := k1.dp R1 hk
          cases oi
          obtain ⟨vx, G, hvx, ox, _⟩ := t.get j _ hx
          cases ox
          refine ⟨_, _, _, _, rfl, rfl, SqL.of hl, by unfold atI; rw [t.len, hj]; exact hvx, ?_⟩
          obtain ⟨r, s2, e2, e⟩ := bind_inv e
          refine ⟨s1, Fs1, r, s2, R1, e2, fun vy H2 Fs2 F2 R2 E2 k2 n2 => ?_⟩
          split at e
          · rename_i y ds2 hy hs2
            split at e
            · rename_i hlen
              cases e
              obtain ⟨F3, oy⟩ := k2.dp R2 hy
              cases oy
              refine ⟨_, _, rfl, rfl, ?_⟩
              obtain ⟨vl2, hvl2, o2⟩ := R2.has i _ (join_some hs2)
              rw [hvl] at hvl2
              cases hvl2
              obtain ⟨l2, vs2, F4, el2, eF2, hl2, t2, nl2⟩ := own_list o2
              cases el2
              obtain ⟨F5, t3, hF3⟩ := OwnA.put (.int (f x y)) j t2
              refine ⟨l, vs2, k, j, rfl, rfl, hl2, by rw [t2.len, hlen]; exact hj, ?_⟩
              obtain ⟨Fs3, R3, C3, n3⟩ := R2.wr (join_some hs2) hvl hl2 eF2 t3 (fun z => nl2 (hF3 _ z)) (fun a ha => .inl (hF3 a ha)) (Fd := []) (by simp)
              exact q σ _ Fs3 R3 (Ev.r ((E1.trans E2).trans ⟨C3, fun j a h => (n3 j a h).imp id (fun z => by cases z)⟩)) (.refl _ _)
            · cases e
          · cases e
        · cases e
    · cases e
  · cases e0
theorem ss_augIx {i : Nat} {x : Str} {ix : Expr} {p1 p2 : Pos} (hop : PIp X op (ipI f)) (hv : PE X (.Name x p1) (tVar i)) (hix : SimO X ix gb) (he : SimO X e ga)
    (ha : ∀ ov iv new, augStore ix ov iv new = (do holding [new, ov, iv] (setItem ov iv new); release [new, ov, iv] []; pure .next) := by intros; rfl) : SimS X lk (.AugAssign (.Subscript (.Name x p1) ix p2) op e pos) (sAugIx f i gb ga) :=
  ss_augIxF hop (tsl_of hv) hix he ha
end
end Sim
namespace Sim
open PySem PySem.Spec L2
section
variable [Tb] [Vs] {X : Cx} {K : PySem.W.Frag} {σ : St} {H : Hp} {Q : VK}
end
end Sim
namespace Sim
open PySem PySem.Spec L2
section
variable [Tb] [Vs] {X : Cx} {o : Expr} {ga : O} {apos pos : Pos}
end
end Sim
namespace Sim
open PySem PySem.Spec L2
section
variable [Tb] [Vs] {X : Cx} {K : PySem.W.Frag} {σ : St} {H : Hp} {Q : VK}
end
end Sim
namespace Sim
open PySem PySem.Spec L2
section
variable [Tb] [Vs] {X : Cx} {a : Addr} {x : Str} {keys : List Str} {e : Expr} {g : O} {p pos : Pos}
end
end Sim
namespace Sim
open PySem PySem.Spec L2
/-- the same but for such slots -/
structure GhEq (X : Cx) (σ σ' : St) : Prop where
  len : σ'.length = σ.length
  vis : ∀ (i : Nat) (x : Str), X.N[i]? = some x → Vis X.env.scope x → σ'[i]? = σ[i]?
theorem GhEq.symm {X : Cx} {σ σ' : St} (h : GhEq X σ σ') : GhEq X σ' σ := ⟨h.len.symm, fun i x a b => (h.vis i x a b).symm⟩
theorem GhEq.refl (X : Cx) (σ : St) : GhEq X σ σ := ⟨rfl, fun _ _ _ _ => rfl⟩
theorem not_vis {X : Cx} {x : Str} (h : X.env.scope.names.lookup x = none) : ¬ Vis X.env.scope x := fun v => by
  rcases v with v | v | v <;> rw [h] at v <;> cases v
theorem GhEq.set {X : Cx} {σ : St} {i : Nat} {x : Str} {v : Option V} (hN : X.N[i]? = some x) (h : X.env.scope.names.lookup x = none) : GhEq X σ (σ.set i v) := ⟨List.length_set, fun j y a b => by
  by_cases hj : j = i
  · subst hj
    rw [hN] at a
    cases a
    exact absurd b (not_vis h)
  · exact List.getElem?_set_ne (Ne.symm hj)⟩
section
variable {X : Cx}
end
structure LnkO (b : Nat) (p C : Addr) (g : Nat) (ns : List Str) (q : Nat) (fa : Addr) (σ : St) (H : Hp) : Prop where
  base : σ[b]? = some (some (.ref p))
  len : σ.length = g + ns.length
  pin : σ[q]? = some (some (.ref fa))
  obj : ∃ dx fs, H p = some (.ins C dx fs) ∧ fs.length ≤ ns.length ∧ fs.map Prod.fst = ns.take fs.length ∧ ∀ k, k < ns.length → σ[g + k]? = some ((fs[k]?).map Prod.snd)
/-- (q, fa: a slot more that stays) -/
abbrev obVp (b : Nat) (p C : Addr) (g : Nat) (ns : List Str) (q : Nat) (fa : Addr) : Vs where
  fp i := if i = b then [p] else []
  lnk := LnkO b p C g ns q fa
  ok i := i ≠ b ∧ i < g ∧ i ≠ q
  keep {σ H H'} h k := by
    obtain ⟨h1, h2, hq, dx, fs, h3, h4⟩ := h
    exact ⟨h1, h2, hq, dx, fs, by rw [k b p (by rw [if_pos rfl]; exact List.mem_singleton.mpr rfl)]; exact h3, h4⟩
  put {σ H i v} ko := by
    have e1 : (σ.set i v)[b]? = σ[b]? := List.getElem?_set_ne ko.1
    have e3 : (σ.set i v)[q]? = σ[q]? := List.getElem?_set_ne ko.2.2
    have e2 : ∀ k, (σ.set i v)[g + k]? = σ[g + k]? := fun k => List.getElem?_set_ne (by have := ko.2.1; omega)
    constructor
    · rintro ⟨h1, h2, hq, dx, fs, h3, h4, h5, h6⟩
      exact ⟨e1.symm.trans h1, (List.length_set (as := σ) (i := i) (a := v)).symm.trans h2, e3.symm.trans hq, dx, fs, h3, h4, h5, fun k hk => (e2 k).symm.trans (h6 k hk)⟩
    · rintro ⟨h1, h2, hq, dx, fs, h3, h4, h5, h6⟩
      exact ⟨e1.trans h1, (List.length_set (as := σ) (i := i) (a := v)).trans h2, e3.trans hq, dx, fs, h3, h4, h5, fun k hk => (e2 k).trans (h6 k hk)⟩
  mem {σ H i a} h ha := by
    obtain ⟨h1, h2, hq, dx, fs, h3, h4⟩ := h
    split at ha
    · rw [List.mem_singleton.mp ha]
      exact ⟨.ins _ _ _, h3⟩
    · cases ha
  nil {i} ko := if_neg ko.1
abbrev obV (b : Nat) (p C : Addr) (g : Nat) (ns : List Str) : Vs := obVp b p C g ns b p
section
variable [Tb] {X : Cx} {b g k i q : Nat} {p C fa : Addr} {ns : List Str} {f : Str} {e : Expr} {pos pos' : Pos}
end
section
variable [Tb] {X : Cx} {b g k i q : Nat} {p C fa : Addr} {ns : List Str} {f gx : Str} {e value : Expr} {pos pos' : Pos} {lk : Nat → Bool} {pv : Option Nat}
end
end Sim
namespace Sim
open PySem PySem.Spec L2
theorem OwnA.ls {K : PySem.W.Frag} {H : Hp} : ∀ {ds : List D} {vs : List V} {F : List Addr}, OwnA K H ds vs F → ∃ Gl, OwnLs K H ds vs Gl ∧ ∀ a, a ∈ F ↔ ∃ G, G ∈ Gl ∧ a ∈ G
  | [], _, _, t => by
    cases t
    exact ⟨[], .nil, by simp⟩
  | d :: ds, _, _, t => by
    cases t with
    | @cons v vs _ _ F1 F2 o t n =>
      obtain ⟨Gl, h1, h2⟩ := OwnA.ls t
      refine ⟨F1 :: Gl, .cons o (fun G hG a ha hb => n a ha ((h2 a).mpr ⟨G, hG, hb⟩)) h1, fun a => ?_⟩
      rw [List.mem_append, h2]
      constructor
      · rintro (h | ⟨G, hG, h⟩)
        · exact ⟨F1, List.mem_cons_self .., h⟩
        · exact ⟨G, List.mem_cons_of_mem _ hG, h⟩
      · rintro ⟨G, hG, h⟩
        rcases List.mem_cons.mp hG with rfl | hG
        · exact .inl h
        · exact .inr ⟨G, hG, h⟩
theorem OwnLs.a {K : PySem.W.Frag} {H : Hp} {ds : List D} {vs : List V} {Gl : List (List Addr)} (h : OwnLs K H ds vs Gl) : OwnA K H ds vs Gl.flatten := by
  induction h with
  | nil => exact .nil
  | cons o n _ ih =>
    rw [List.flatten_cons]
    refine .cons o ih fun a ha hb => ?_
    obtain ⟨G, hG, h⟩ := List.mem_flatten.mp hb
    exact n G hG a ha h
theorem OwnLs.at {K : PySem.W.Frag} {H : Hp} {ds : List D} {vs : List V} {Gl : List (List Addr)} (h : OwnLs K H ds vs Gl) : ∀ {i : Nat} {d : D}, ds[i]? = some d → ∃ v, vs[i]? = some v ∧ Own K H d v (Gl.getD i []) := by
  induction h with
  | nil => intro i d e; simp at e
  | @cons d0 v F ds vs Fl o n _ ih =>
    intro i d e
    cases i with
    | zero => simp at e; subst e; exact ⟨v, rfl, o⟩
    | succ i =>
      obtain ⟨v', h1, h2⟩ := ih (i := i) (d := d) (by simpa using e)
      exact ⟨v', by simpa using h1, by simpa using h2⟩
theorem OwnLs.dj {K : PySem.W.Frag} {H : Hp} {ds : List D} {vs : List V} {Gl : List (List Addr)} (h : OwnLs K H ds vs Gl) : ∀ {i j : Nat} {a : Addr}, a ∈ Gl.getD i [] → a ∈ Gl.getD j [] → i = j := by
  induction h with
  | nil => intro i j a e; simp at e
  | @cons d0 v F ds vs Fl o n _ ih =>
    intro i j a h1 h2
    cases i with
    | zero => cases j with
      | zero => rfl
      | succ j =>
        obtain ⟨G, hG, hm⟩ := getD_of (Fl := Fl) (i := j) (by simpa using h2)
        exact absurd hm (n G (List.mem_of_getElem? hG) a (by simpa using h1))
    | succ i => cases j with
      | zero =>
        obtain ⟨G, hG, hm⟩ := getD_of (Fl := Fl) (i := i) (by simpa using h1)
        exact absurd hm (n G (List.mem_of_getElem? hG) a (by simpa using h2))
      | succ j => rw [ih (i := i) (j := j) (by simpa using h1) (by simpa using h2)]
/-- what is put into the slots from g on -/
def putG {α : Type} : Nat → List α → List (Option α) → List (Option α)
  | _, [], s => s
  | g, d :: ds, s => putG (g + 1) ds (s.set g (some d))
section
variable [Tb] {K : PySem.W.Frag} {H : Hp} {s : Sg} {σ : St} {Fs : Fp} {j g : Nat} {ns : List Str} {nm : Str} {d : D} {fds : List D}
/-- what the opening of a slot's instance gives -/
structure Opened (K : PySem.W.Frag) (H : Hp) (s : Sg) (σ : St) (Fs : Fp) (j g : Nat) (nm : Str) (ns : List Str) (fds : List D) (p C : Addr) (σ2 : St) (Fs2 : Fp) : Prop where
  cn : ClsN K nm C
  at_ : σ[j]? = some (some (.ref p))
  rel : @RelS _ (obV j p C g ns) K H (putG g fds (s.set j none)) σ2 Fs2
  real : ∀ i, i < g → σ2[i]? = σ[i]?
  len : σ2.length = σ.length
  mem : p ∈ Fs j
  obj : Fs2 j = [p]
  low : ∀ i a, i < g → i ≠ j → a ∈ Fs2 i → a ∈ Fs i
  high : ∀ i a, g ≤ i → a ∈ Fs2 i → a ∈ Fs j
structure Closed (Fs Fs' : Fp) (j g : Nat) (p : Addr) : Prop where
  obj : ∀ a, a ∈ Fs' j → a = p ∨ ∃ k, g ≤ k ∧ a ∈ Fs k
  low : ∀ i a, i ≠ j → a ∈ Fs' i → a ∈ Fs i ∧ i < g
/-- from ahead of the opening to behind the closing -/
theorem Opened.ev {p C : Addr} {σ2 : St} {Fs2 Fs3 Fs4 : Fp} {H' : Hp} (o : Opened K H s σ Fs j g nm ns fds p C σ2 Fs2) (E : Ev H Fs2 H' Fs3) (c : Closed Fs3 Fs4 j g p) (pj : ∀ i a, a ∈ Fs2 i → i = j → a = p) : Ev H Fs H' Fs4 := by
  have sub : ∀ i a, a ∈ Fs2 i → ∃ k, a ∈ Fs k := fun i a ha => by
    by_cases hij : i = j
    · exact ⟨j, by rw [pj i a ha hij]; exact o.mem⟩
    · by_cases hig : i < g
      · exact ⟨i, o.low i a hig hij ha⟩
      · exact ⟨j, o.high i a (by omega) ha⟩
  refine ⟨E.chg.mono fun a _ _ ⟨i, hi⟩ => sub i a hi, fun i a ha => ?_⟩
  by_cases hij : i = j
  · subst hij
    rcases c.obj a ha with rfl | ⟨k, hk, h⟩
    · exact .inl o.mem
    · exact (E.new k a h).imp (o.high k a hk) id
  · obtain ⟨h, hig⟩ := c.low i a hij ha
    exact (E.new i a h).imp (o.low i a hig hij) id
/-- the same to a way out; low slots that no caller holds may hold what was the object's -/
theorem Opened.evR {lk : Nat → Bool} {p C : Addr} {σ2 : St} {Fs2 Fs3 Fs4 : Fp} {H' : Hp} (o : Opened K H s σ Fs j g nm ns fds p C σ2 Fs2) (E : EvR lk H Fs2 H' Fs3) (c : Closed Fs3 Fs4 j g p) (h0 : lk j = true) (hp : ∀ i, i < g → lk i = false → Fs i = []) :
    Chg (InF Fs) H H' ∧ ∀ i a, lk i = true → a ∈ Fs4 i → a ∈ Fs i ∨ H a = none := by
  have hpj : ∀ i a, a ∈ Fs2 i → i = j → a = p := fun i a ha hij => by
    rw [hij, o.obj] at ha
    exact List.mem_singleton.mp ha
  have sub : ∀ i a, a ∈ Fs2 i → ∃ k, a ∈ Fs k := fun i a ha => by
    by_cases hij : i = j
    · exact ⟨j, by rw [hpj i a ha hij]; exact o.mem⟩
    · by_cases hig : i < g
      · exact ⟨i, o.low i a hig hij ha⟩
      · exact ⟨j, o.high i a (by omega) ha⟩
  have un : ∀ k a, lk k = false → a ∈ Fs2 k → a ∈ Fs j := fun k a hk ha => by
    have hkj : k ≠ j := fun z => by rw [z, h0] at hk; cases hk
    by_cases hig : k < g
    · have := o.low k a hig hkj ha
      rw [hp k hig hk] at this
      cases this
    · exact o.high k a (by omega) ha
  refine ⟨E.chg.mono fun a _ _ ⟨i, hi⟩ => sub i a hi, fun i a hl ha => ?_⟩
  by_cases hij : i = j
  · subst hij
    rcases c.obj a ha with rfl | ⟨k, hk, h⟩
    · exact .inl o.mem
    · rcases E.new k a h with (z | z) | ⟨_, k', hk', z⟩
      · exact .inl (o.high k a hk z)
      · exact .inr z
      · exact .inl (un k' a hk' z)
  · obtain ⟨h, hig⟩ := c.low i a hij ha
    rcases E.new i a h with (z | z) | ⟨z, _⟩
    · exact .inl (o.low i a hig hij z)
    · exact .inr z
    · rw [hl] at z; cases z
end
end Sim
namespace Sim
open PySem PySem.Spec L2
section
variable [Tb] {X : Cx} {j g : Nat} {nm : Str} {ns : List Str} {C : Addr} {e : Expr}
end
section
variable [Tb] {P : Program} {w : World} {K : PySem.W.Frag} {mg : Str → Option Value} {base : Heap}
end
section
variable [Tb] {X : Cx} {j g : Nat} {nm : Str} {ns : List Str} {C : Addr} {k : Nat} {f : Addr} {fd : FuncData} {ps : List Str} {fn : Fn} {m : Str} {o e : Expr} {es : List Expr} {ga : AL} {apos pos : Pos}
end
end Sim
namespace Sim
open PySem PySem.Spec L2
section
variable [Tb] [Vs] {X : Cx} {nm : Str} {C : Addr} {k : Nat} {f : Addr} {fd : FuncData} {ps : List Str} {fn : Fn} {x : Str} {e : Expr} {es : List Expr} {ga : AL} {p pos : Pos}
end
section
variable [Tb] {X : Cx} {lk : Nat → Bool} {b g : Nat} {nm : Str} {ns : List Str} {C pp : Addr} {k : Nat} {f : Addr} {fd : FuncData} {ps : List Str} {fn : Fn} {m : Str} {o : Expr} {es : List Expr} {ga : AL} {apos pos : Pos}
end
end Sim
namespace Sim
open PySem PySem.Spec L2
open LamX (TabB TabS Tabs CodeO)
open PyProof.Rows (envOfC)
/-- the heap behind it: as it was, or the table has its code object more -/
structure LamNew [Tb] (X : Cx) (H H1 : Hp) (P c' : Addr) (pos : Pos) : Prop where
  keep : ∀ b o, H b = some o → isTbl o = false → H1 b = some o
  there : ∀ b, H1 b = none → H b = none
  tab : TabsOk H1
  row : ∃ ps, H1 P = some (.tbl ps) ∧ TriplesOk ps.toList ∧ codeAmong pos ps.toList = some (.ref c')
theorem LamNew.chg [Tb] {X : Cx} {H H1 : Hp} {P c' : Addr} {pos : Pos} (n : LamNew X H H1 P c' pos) (Fa : Addr → Prop) : Chg Fa H H1 := ⟨fun a o e c => n.keep a o e (by
  rcases c with c | c
  · exact c.2
  · cases o <;> first | rfl | cases c), n.there, fun _ => n.tab⟩
section
variable [Tb] {X : Cx} {pins : List (Addr × Obj)} {σ : St} {H : Hp} {s : Shared}
end
section
variable {X : Cx} {pins : List (Addr × Obj)} {σ : St} {H HZ : Hp} {s s1 : Shared}
end
end Sim
namespace Sim
open PySem PySem.Spec L2
open LamX (TabB)
open PyProof.Rows (envOfC)
section
variable [Tb] [Vs] {K : PySem.W.Frag} {H H' : Hp} {s : Sg} {σ : St} {Fs : Fp}
end
section
variable [Tb] {b g q : Nat} {p C fa : Addr} {ns : List Str} {K : PySem.W.Frag} {H : Hp} {s : Sg} {σ : St} {Fs : Fp}
end
section
variable [Tb] [Vs] {X : Cx} {lk : Nat → Bool} {g h : S}
end
section
variable [Tb] {X : Cx} {lk : Nat → Bool} {nm m a pn : Str} {ns : List Str} {C gA c P : Addr} {fd : FuncData} {j n k : Nat} {js : List Nat} {hL : O} {gb : (D → Option D) → S} {Ng : List Str} {st : Stmt} {qual : Str} {params : Arguments} {body o : Expr} {scope : Scope} {lpos apos pos pos2 : Pos}
end
end Sim
namespace Sim
open PySem PySem.Spec L2
open LamX (TabB LawAtS)
open PyProof.Rows (envOfC)
section
variable [Tb] {P : Program} {w : World} {K : PySem.W.Frag} {mg : Str → Option Value} {base : Heap}
end
end Sim
namespace Sim
open PySem PySem.Spec L2
section
variable [Tb] {X : Cx} {b g k i q x : Nat} {p C fa : Addr} {ns : List Str} {f gx nx : Str} {e : Expr} {pos pos' p1 : Pos} {lk : Nat → Bool} {pv : Option Nat} {rest : List Stmt} {h : S}
end
end Sim
namespace Sim
open PySem PySem.Spec L2
end Sim
namespace Sim
open PySem PySem.Spec L2
section
variable [Tb] [Vs]
end
section
variable [Tb] {X : Cx} {j g : Nat} {nm : Str} {ns : List Str} {C : Addr} {e : Expr}
end
end Sim
namespace Sim
open PySem PySem.Spec L2
section
variable [Tb] [Vs] {X : Cx} {lk : Nat → Bool}
end
end Sim
namespace Sim
open PySem PySem.Spec L2
section
variable [Tb] [Vs] {X : Cx} {a : Expr} {ga : O} {pos p2 : Pos}
end
section
variable {K : PySem.W.Frag}
end
section
variable [Tb] [Vs] {X : Cx}
end
end Sim
namespace Sim
open PySem PySem.Spec PyProof.Rows L2
section
variable {X : Cx}
end
end Sim
namespace Sim
open PySem PySem.Spec PyProof.Rows L2
end Sim
namespace Sim
open PySem PySem.Spec L2
section
variable {X : Cx}
end
end Sim
namespace Sim
open PySem PySem.Spec L2
open PyProof.Rows hiding St
section
variable {X : Cx} {pins : List (Addr × Obj)} {σ : St} {H : Hp} {s : Shared}
end
end Sim
namespace Sim
open PySem PySem.Spec L2
def frK (l : List (Key × D)) : D := .dict ((.bool true, .bool false) :: l.map fun p => (kD p.1, p.2))
def frN (l : List (NestedKey × D)) : D := .dict ((.bool true, .bool true) :: l.map fun p => (nkD p.1, p.2))
def unFK : D → Option (List (Key × D))
  | .dict ((.bool true, .bool false) :: es) => unKE es
  | _ => none
theorem unFK_fr (l : List (Key × D)) : unFK (frK l) = some l := unKE_re l
def lockD (d : D) : Option D := match unK d with
  | some l => if l.isEmpty = false ∧ purs (l.map Prod.snd) = true then some (frK l) else none
  | none => (unN d).map frN
/-- what stands in place of what is locked -/
structure LkU (u : HO) : Prop where
  mu : Mut (some u)
  im : isMut u = true
  nl : ∀ xs, u ≠ .lst xs
  nt : ∀ xs, u ≠ .tup xs
  nd : u ≠ .dK []
section
variable {K : PySem.W.Frag} {H : Hp}
theorem own_FK {d : D} {v : V} {F : List Addr} {l : List (Key × D)} (o : Own K H d v F) (e : unFK d = some l) :
    ∃ a ob kvs, v = .ref a ∧ F = [a] ∧ H a = some (.frz ob (.dK kvs)) ∧ kvs.map Prod.fst = l.map Prod.fst ∧ OwnA K H (l.map Prod.snd) (kvs.map Prod.snd) [] := by
  cases o with
  | frk h t =>
    rename_i a ob kvs ds
    have e : unKE (zkd kD (kvs.map Prod.fst) ds) = some l := e
    have hl : (kvs.map Prod.fst).length = ds.length := by
      have := t.len
      rw [List.length_map] at this ⊢
      exact this
    obtain ⟨a1, a2⟩ := unKE_zkd hl e
    exact ⟨a, ob, kvs, rfl, rfl, h, a1.symm, by rw [a2]; exact t⟩
  | _ => simp [unFK] at e
theorem own_frK {a : Addr} {ob : Obj} {kvs : List (Key × V)} {l : List (Key × D)} (h : H a = some (.frz ob (.dK kvs))) (hk : kvs.map Prod.fst = l.map Prod.fst) (t : OwnA K H (l.map Prod.snd) (kvs.map Prod.snd) []) : Own K H (frK l) (.ref a) [a] := by
  have z := Own.frk h t
  have hl : (kvs.map Prod.fst).length = (l.map Prod.snd).length := by rw [hk, List.length_map, List.length_map]
  rw [zkd_map kD hl, hk] at z
  have e2 : (l.map Prod.fst).zip (l.map Prod.snd) = l := by
    clear z hl hk t
    induction l with
    | nil => rfl
    | cons p l ih => rw [List.map_cons, List.map_cons, List.zip_cons_cons, ih]
  rw [e2] at z
  exact z
/-- the same for tuple keys; what stands at a -/
structure DNF (K : PySem.W.Frag) (H : Hp) (a : Addr) (es : List NE) (od ob : Obj) : Prop where
  at_ : H a = some (.frz ob (RawO a es od))
  keys : OwnA K H (es.map fun e => nkD e.1) (es.map fun e => V.ref e.2.1) []
  ok : ∀ e, e ∈ es → kOk e.1 = true
theorem own_frN {a : Addr} {es : List NE} {od ob : Obj} {l : List (NestedKey × D)} (h : DNF K H a es od ob) (e : es.map (fun e => e.1) = l.map Prod.fst) (t : OwnA K H (l.map Prod.snd) (es.map fun e => e.2.2) []) : Own K H (frN l) (.ref a) [a] := by
  have z := Own.frn h.at_ h.keys t
  have hl : (es.map fun e => e.1).length = (l.map Prod.snd).length := by rw [e, List.length_map, List.length_map]
  rw [zkd_map nkD hl, e] at z
  have e2 : (l.map Prod.fst).zip (l.map Prod.snd) = l := by
    clear z hl e t h
    induction l with
    | nil => rfl
    | cons p l ih => rw [List.map_cons, List.map_cons, List.zip_cons_cons, ih]
  rw [e2] at z
  exact z
/-- what a dict's standing still rests on -/
theorem own_lock {d d' : D} {v : V} {F : List Addr} (o : Own K H d v F) (e : lockD d = some d') : ∃ (a : Addr) (mo : MO), v = .ref a ∧ F = [a] ∧ H a = some mo.ho ∧ LkU mo.ho ∧
    (∀ (od : Obj), (∃ mf : MO, mf.ho = .frz od mo.ho) ∧ ∀ H1, H1 a = some (.frz od mo.ho) → (∀ {ds : List D} {vs : List V}, OwnA K H ds vs [] → OwnA K H1 ds vs []) → Own K H1 d' (.ref a) [a]) ∧
    ∀ H1, H1 a = some mo.ho → (∀ {ds : List D} {vs : List V}, OwnA K H ds vs [] → OwnA K H1 ds vs []) → Own K H1 d (.ref a) [a] := by
  unfold lockD at e
  split at e
  · rename_i l hl
    split at e
    · rename_i hp
      cases e
      obtain ⟨a, kvs, F', rfl, rfl, dk⟩ := own_K o hl
      have hF : F' = [] := dk.vals.pur hp.2
      subst hF
      have ne : kvs ≠ [] := fun z => by
        have := dk.keys
        rw [z] at this
        cases l with
        | nil => simp at hp
        | cons _ _ => simp at this
      refine ⟨a, .dct kvs, rfl, rfl, dk.at_, ⟨True.intro, rfl, fun xs z => (by cases z), fun xs z => (by cases z), fun z => ne (by cases z; rfl)⟩, fun od => ⟨⟨.frk od kvs, rfl⟩, fun H1 h1 k => own_frK h1 dk.keys (k dk.vals)⟩, fun H1 h1 k => ?_⟩
      rw [unK_inv hl]
      exact own_reK ⟨h1, dk.keys, k dk.vals, dk.out⟩
    · cases e
  · obtain ⟨l, hl, rfl⟩ := Option.map_eq_some_iff.mp e
    obtain ⟨a, es, od, rfl, rfl, dn, h1, h2⟩ := own_N o hl
    refine ⟨a, .dcn a es od, rfl, rfl, dn.at_, ⟨True.intro, rfl, fun xs z => (by cases z), fun xs z => (by cases z), fun z => (by cases z)⟩, fun ob => ⟨⟨.frn a es od ob, rfl⟩, fun H1 g k => own_frN ⟨g, k dn.keys, dn.ok⟩ h1 (k h2)⟩, fun H1 g k => ?_⟩
    rw [(unN_inv hl).1]
    exact own_reN ⟨g, k dn.keys, dn.ok⟩ h1 (k h2)
mutual
/-- what is apart from what was locked stands when it is open again -/
theorem Own.unlk {a : Addr} {u : HO} {ob : Obj} (k : LkU u) (h : H a = some (.frz ob u)) : ∀ {d : D} {v : V} {F : List Addr}, Own K H d v F → a ∉ F → Own K (upd H a u) d v F
  | _, _, _, .non, _ => .non
  | _, _, _, .bl b, _ => .bl b
  | _, _, _, .int b, _ => .int b
  | _, _, _, .str b, _ => .str b
  | _, _, _, .opq a, _ => .opq a
  | _, _, _, .tup hq t, n => .tup (by
      rcases hq with ⟨o, e, m⟩ | hq
      · exact .inl ⟨o, by rw [upd_ne (fun z => by rw [z, h] at e; cases e; exact k.nt _ rfl)]; exact e, m⟩
      · exact .inr hq) (OwnA.unlk k h t n)
  | _, _, _, .frz hq t, n => .frz (by
      rcases hq with ⟨o, e⟩ | hq
      · exact .inl ⟨o, by rw [upd_ne (fun z => by rw [z, h] at e; cases e; exact k.nl _ rfl)]; exact e⟩
      · exact .inr hq) (OwnA.unlk k h t n)
  | _, _, _, .frd e, n => .frd (by rw [upd_ne (fun z => by rw [z, h] at e; cases e; exact k.nd rfl)]; exact e)
  | _, _, _, .lst e t m, n => .lst (by rw [upd_ne (fun z => n (by rw [← z]; exact List.mem_cons_self ..))]; exact e) (OwnA.unlk k h t fun z => n (List.mem_cons_of_mem _ z)) m
  | _, _, _, .dct e t m, n => .dct (by rw [upd_ne (fun z => n (by rw [← z]; exact List.mem_cons_self ..))]; exact e) (OwnA.unlk k h t fun z => n (List.mem_cons_of_mem _ z)) m
  | _, _, _, .dcn e t t2, n => .dcn (by rw [upd_ne (fun z => n (by rw [← z]; exact List.mem_cons_self ..))]; exact e) (OwnA.unlk k h t (by simp)) (OwnA.unlk k h t2 (by simp))
  | _, _, _, .frk e t, n => .frk (by rw [upd_ne (fun z => n (by rw [← z]; exact List.mem_cons_self ..))]; exact e) (OwnA.unlk k h t (by simp))
  | _, _, _, .frn e t t2, n => .frn (by rw [upd_ne (fun z => n (by rw [← z]; exact List.mem_cons_self ..))]; exact e) (OwnA.unlk k h t (by simp)) (OwnA.unlk k h t2 (by simp))
  | _, _, _, .ins c e t m, n => .ins c (by rw [upd_ne (fun z => n (by rw [← z]; exact List.mem_cons_self ..))]; exact e) (OwnA.unlk k h t fun z => n (List.mem_cons_of_mem _ z)) m
theorem OwnA.unlk {a : Addr} {u : HO} {ob : Obj} (k : LkU u) (h : H a = some (.frz ob u)) : ∀ {ds : List D} {vs : List V} {F : List Addr}, OwnA K H ds vs F → a ∉ F → OwnA K (upd H a u) ds vs F
  | _, _, _, .nil, _ => .nil
  | _, _, _, .cons o t m, n => .cons (Own.unlk k h o fun z => n (List.mem_append_left _ z)) (OwnA.unlk k h t fun z => n (List.mem_append_right _ z)) m
end
end
section
variable [Tb] [Vs] {K : PySem.W.Frag} {H H' : Hp} {s s' : Sg} {σ σ' : St} {Fs Fs' : Fp}
/-- a locked slot is open again -/
theorem RelS.unlk (R : RelS K H' s' σ' Fs') {i : Nat} {a : Addr} {mf : MO} {u : HO} {ob : Obj} {d : D} (k : LkU u) (h : H' a = some (.frz ob u)) (hm : mf.ho = .frz ob u) (ha : ∀ j, a ∈ Fs' j → j = i) (fp : Vs.fp i = []) (hi : i < s'.length) (hv : σ'[i]? = some (some (.ref a))) (o : Own K (upd H' a u) d (.ref a) [a]) :
    ∃ Fs3, RelS K (upd H' a u) (s'.set i (some d)) σ' Fs3 ∧ ∀ j b, b ∈ Fs3 j → (b ∈ Fs' j ∧ j ≠ i) ∨ (b = a ∧ j = i) := by
  have hfp : ∀ j b, b ∈ Vs.fp j → b ≠ a := fun j b hb z => by
    have := ha j (R.fpF (by rw [← z]; exact hb))
    rw [this, fp] at hb
    cases hb
  refine ⟨upF Fs' i [a], ⟨by rw [List.length_set, R.len], fun j d' e => ?_, fun j hj => ?_, fun j l b h1 h2 => ?_, R.lnk' (fun j b hb => upd_ne (hfp j b hb)) (TabsOk.upd (m := mf) (by rw [hm]; exact h) R.lnk.2), fun j hj d' e => ?_⟩, fun j b hb => ?_⟩
  · by_cases hj : j = i
    · subst hj
      rw [List.getElem?_set_self hi] at e
      cases e
      refine ⟨_, hv, ?_⟩
      unfold upF
      rw [if_pos rfl]
      exact o
    · rw [List.getElem?_set_ne (Ne.symm hj)] at e
      obtain ⟨v', hv', o'⟩ := R.has j d' e
      refine ⟨v', hv', ?_⟩
      unfold upF
      rw [if_neg hj]
      exact o'.unlk k h fun z => hj (ha j z)
  · unfold upF
    by_cases hji : j = i
    · subst hji
      exact absurd (List.getElem?_set_self hi) (hj d)
    · rw [if_neg hji]
      exact R.off j fun d' e => hj d' (by rw [List.getElem?_set_ne (Ne.symm hji)]; exact e)
  · unfold upF at h1 h2
    split at h1
    · split at h2
      · omega
      · rename_i e1 e2
        rw [List.mem_singleton.mp h1] at h2
        exact absurd (ha l h2) e2
    · split at h2
      · rename_i e1 e2
        rw [List.mem_singleton.mp h2] at h1
        exact absurd (ha j h1) e1
      · exact R.dis j l b h1 h2
  · by_cases hji : j = i
    · rw [hji] at hj
      exact hj fp
    · rw [List.getElem?_set_ne (Ne.symm hji)] at e
      exact R.bse j hj d' e
  · unfold upF at hb
    split at hb
    · exact .inr ⟨List.mem_singleton.mp hb, by assumption⟩
    · exact .inl ⟨hb, by assumption⟩
end
def oRO (i : Nat) (g : O) : O := fun s => match ((s[i]?).join).bind fun d => (lockD d).map fun d' => (d, d') with
  | none => .bad
  | some p => (g (s.set i (some p.2))).bind fun r s' => match r with
    | .val x => .ok (.val x) (s'.set i (some p.1))
    | .slot _ => .bad
section
variable [Tb] [Vs] {X : Cx} {lk lk' : Nat → Bool} {K : PySem.W.Frag}
/-- the slot is locked -/
theorem RelS.lkD {H : Hp} {s : Sg} {σ : St} {Fs : Fp} (R : RelS K H s σ Fs) {i : Nat} {d d' : D} (e : s[i]? = some (some d)) (hl : lockD d = some d') : ∃ (a : Addr) (mo : MO), σ[i]? = some (some (.ref a)) ∧ Fs i = [a] ∧ H a = some mo.ho ∧ LkU mo.ho ∧
    ∀ od, ∃ (mf : MO) (Fs1 : Fp), mf.ho = .frz od mo.ho ∧ RelS K (upd H a (.frz od mo.ho)) (s.set i (some d')) σ Fs1 ∧ Chg (InF Fs) H (upd H a (.frz od mo.ho)) ∧ (∀ j b, b ∈ Fs1 j → b ∈ Fs j) ∧
      ∀ H1, H1 a = some mo.ho → (∀ {ds : List D} {vs : List V}, OwnA K H ds vs [] → OwnA K H1 ds vs []) → Own K H1 d (.ref a) [a] := by
  obtain ⟨v, hv, o⟩ := R.has i d e
  obtain ⟨a, mo, rfl, hF, ha, k, lock, back⟩ := own_lock o hl
  refine ⟨a, mo, hv, hF, ha, k, fun od => ?_⟩
  obtain ⟨⟨mf, hm⟩, lk1⟩ := lock od
  have c : Chg (fun b => b = a) H (upd H a (.frz od mo.ho)) := .upd1 ha k.im
  have on : Own K (upd H a mf.ho) d' (.ref a) [a] := by
    rw [hm]
    exact lk1 _ upd_same fun t => t.chg c fun _ z => (by cases z)
  have ai : a ∈ Fs i := by rw [hF]; exact List.mem_cons_self ..
  obtain ⟨Fs1, R1, C1, n1⟩ := R.wrA (mo := mo) (mo' := mf) e hv ha ai on (Fd := []) (fun b hb => .inl (by rw [List.mem_singleton.mp hb]; exact ai)) (fun _ _ _ z => by cases z) k.im
  rw [hm] at R1 C1
  exact ⟨mf, Fs1, hm, R1, C1, fun j b hb => (n1 j b hb).resolve_right (by simp), back⟩
theorem tO_ro {g : O} {i : Nat} {σ : St} {H : Hp} {Q : VK} (z : tO K (oRO i g) σ H Q) : tLockE (tO K g) σ H Q := by
  obtain ⟨s, Fs, r, s', R, e, q⟩ := z
  unfold oRO at e
  split at e
  · cases e
  · rename_i p hp
    obtain ⟨d, hd, hp⟩ := Option.bind_eq_some_iff.mp hp
    obtain ⟨d', hl, rfl⟩ := Option.map_eq_some_iff.mp hp
    obtain ⟨r1, s1, e1, e⟩ := bind_inv e
    cases r1 with
    | slot j => cases e
    | val x =>
      cases e
      have hs := join_some hd
      have fp0 := R.fp0 hs
      obtain ⟨a, mo, hv, hF, ha, k, lock⟩ := R.lkD hs hl
      refine ⟨a, mo.ho, ha, k.mu, fun od => ?_⟩
      obtain ⟨mf, Fs1, hm, R1, C1, n1, back⟩ := lock od
      have ai : a ∈ Fs i := by rw [hF]; exact List.mem_cons_self ..
      have only : ∀ j, a ∈ Fs1 j → j = i := fun j hj => R.dis j i a (n1 j a hj) ai
      have H1n : ∀ b, (upd H a (.frz od mo.ho)) b = none → H b = none := C1.there
      have H1a : (upd H a (.frz od mo.ho)) a = some (.frz od mo.ho) := upd_same
      refine ⟨_, Fs1, .val x, s1, R1, e1, fun v H' Fs' F R' E' kv nF => ?_⟩
      have h2 : H' a = some (.frz od mo.ho) := E'.chg.keep a _ H1a (.inr rfl)
      have on' : ∀ j, a ∈ Fs' j → j = i := fun j hj => by
        rcases E'.new j a hj with w | w
        · exact only j w
        · rw [H1a] at w; cases w
      have naF : a ∉ F := fun z => by have := nF a z; rw [H1a] at this; cases this
      obtain ⟨Fs3, R3, n3⟩ := R'.unlk k h2 hm on' fp0 (by rw [R'.len]; exact (List.getElem?_eq_some_iff.mp hv).1) hv (back _ upd_same fun t => by
        have t1 := t.chg C1 fun _ z => (by cases z)
        have t2 := t1.chg E'.chg fun _ z => (by cases z)
        exact OwnA.unlk k h2 t2 (by simp))
      cases kv with
      | val A =>
        refine ⟨h2, q v _ Fs3 F R3 ⟨⟨fun b o hb c => ?_, fun b hb => ?_, fun t => TabsOk.upd (m := mf) (by rw [hm]; exact h2) (E'.chg.tab (C1.tab t))⟩, fun j b hb => ?_⟩ (.val ⟨A.own.unlk k h2 naF, fun j b hb hbF => ?_⟩) fun b hb => H1n b (nF b hb)⟩
        · by_cases hba : b = a
          · subst hba
            rw [ha] at hb
            cases hb
            rcases c with c | c
            · exact absurd ⟨i, ai⟩ c.1
            · rw [k.im] at c; cases c
          · rw [upd_ne hba]
            exact E'.chg.keep b o (by rw [upd_ne hba]; exact hb) (c.imp (fun z => ⟨fun ⟨j, hj⟩ => z.1 ⟨j, n1 j b hj⟩, z.2⟩) id)
        · by_cases hba : b = a
          · subst hba; rw [upd_same] at hb; cases hb
          · rw [upd_ne hba] at hb
            exact H1n b (E'.chg.there b hb)
        · rcases n3 j b hb with ⟨w, _⟩ | ⟨w, w2⟩
          · rcases E'.new j b w with w | w
            · exact .inl (n1 j b w)
            · exact .inr (H1n b w)
          · exact .inl (by rw [w, w2]; exact ai)
        · rcases n3 j b hb with ⟨w, _⟩ | ⟨w, _⟩
          · exact A.dis j b w hbF
          · rw [w] at hbF
            exact naF hbF
theorem so_ro {e : Expr} {g : O} {i : Nat} (h : SimO X e g) : SimO X e (oRO i g) := pe_imp (pe_lock h) fun _ _ _ z => tO_ro z
end
end Sim
namespace Sim
open PySem PySem.Spec L2
open PyProof.Rows hiding St
def frzI (i : Nat) (itm : D → Option (List D)) : I := fun s => match ((s[i]?).join).bind itm with
  | some es => if purs es = true then .ok (es, []) s else .bad
  | none => .bad
def itFK (d : D) : Option (List D) := (unFK d).map fun l => l.map fun p => kD p.1
def itFV (d : D) : Option (List D) := (unFK d).map fun l => l.map Prod.snd
section
variable [Tb] [Vs] {X : Cx} {K : PySem.W.Frag} {H : Hp}
theorem tI_frz {i : Nat} {itm : D → Option (List D)} {σ : St} {H : Hp} {R : It → Hp → Prop} (z : tI K (frzI i itm) σ H R) :
    ∃ (d : D) (v : V) (F : List Addr) (es : List D), itm d = some es ∧ purs es = true ∧ σ[i]? = some (some v) ∧ Vs.lnk σ H ∧ Own K H d v F ∧ ∀ (J : It) (G : Hp → Prop), WalkD K J G es → (∀ H2, (∀ b o u, H b = some (.frz o u) → H2 b = some (.frz o u)) → (∀ {ds : List D} {vs : List V}, OwnA K H ds vs [] → OwnA K H2 ds vs []) → G H2) → R J H := by
  obtain ⟨s, Fs, es, l, s', R0, e, q⟩ := z
  unfold frzI at e
  split at e
  · rename_i es' he
    split at e
    · rename_i hp
      cases e
      obtain ⟨d, hd, hi⟩ := Option.bind_eq_some_iff.mp he
      obtain ⟨v, hv, o⟩ := R0.has i d (join_some hd)
      refine ⟨d, v, _, es, hi, hp, hv, R0.lnk.1, o, fun J G W hG => ?_⟩
      exact q J H Fs [] G R0 (.refl _ _) (fun _ _ h => .inl h) .nil True.intro W fun H2 Fs2 E => hG H2 (fun b o u hb => E.chg.keep b _ hb (.inr rfl)) fun t => t.chg E.chg fun _ z => (by cases z)
    · cases e
  · cases e
theorem kD_own (k : Key) : Own K H (kD k) (kV k) [] := by cases k with
  | inl i => exact .int i
  | inr x => exact .str x
theorem walkD_FK {a : Addr} {ob : Obj} {kvs : List (Key × V)} {l : List (Key × D)} (h : kvs.map Prod.fst = l.map Prod.fst) : WalkD K (Itk a ob kvs) (fun H2 => H2 a = some (.frz ob (.dK kvs))) (l.map fun p => kD p.1) := by
  have e0 : (l.map fun p => kD p.1) = (kvs.map Prod.fst).map kD := by rw [h, List.map_map]; rfl
  have hl : (l.map fun p => kD p.1).length = kvs.length := by rw [e0, List.length_map, List.length_map]
  refine ⟨fun i H hi G => ⟨G, by omega⟩, fun H G => ⟨G, by omega⟩, fun i H x H' hi G y => ?_⟩
  obtain ⟨rfl, k, v, hk, rfl⟩ := y
  refine ⟨kD k, by rw [e0, List.getElem?_map, List.getElem?_map, hk]; rfl, Same.refl _, kD_own k⟩
theorem walkD_FV {a : Addr} {ob : Obj} {kvs : List (Key × V)} {l : List (Key × D)} (h : kvs.map Prod.fst = l.map Prod.fst) : WalkD K (Itd a ob kvs) (fun H2 => H2 a = some (.frz ob (.dK kvs)) ∧ OwnA K H2 (l.map Prod.snd) (kvs.map Prod.snd) []) (l.map Prod.snd) := by
  have hl : (l.map Prod.snd).length = kvs.length := by
    have := congrArg List.length h
    rw [List.length_map, List.length_map] at this
    rw [List.length_map]; exact this.symm
  refine ⟨fun i H hi G => ⟨G.1, by omega⟩, fun H G => ⟨G.1, by omega⟩, fun i H x H' hi G y => ?_⟩
  obtain ⟨rfl, k, hk⟩ := y
  obtain ⟨d, hd⟩ : ∃ d, (l.map Prod.snd)[i]? = some d := ⟨_, List.getElem?_eq_getElem hi⟩
  obtain ⟨v, G', hv, ov, hs⟩ := OwnA.get G.2 i d hd
  rw [List.getElem?_map, hk] at hv
  cases hv
  have : G' = [] := List.eq_nil_iff_forall_not_mem.mpr fun a ha => by cases hs a ha
  rw [this] at ov
  exact ⟨d, hd, Same.refl _, ov⟩
theorem si_keysFK {tg e0 : Expr} {i : Nat} {te : TE} (hv : PE X e0 te) (hT : ∀ σ H (Q : VK) v, σ[i]? = some (some v) → Vs.lnk σ H → Q v H → te σ H Q) : SimI X tg e0 (frzI i itFK) := pi_imp (pi_keys hv) fun σ H R z => by
  obtain ⟨d, v, F, es, hi, _, hs, ln, o, q⟩ := tI_frz z
  obtain ⟨l, hl, rfl⟩ := Option.map_eq_some_iff.mp hi
  obtain ⟨a, ob, kvs, rfl, rfl, ha, hk, t⟩ := own_FK o hl
  exact hT _ _ _ _ hs ln ⟨a, ob, rfl, .inl ⟨kvs, ha, q _ _ (walkD_FK hk) fun H2 k _ => k _ _ _ ha⟩⟩
theorem si_valsFK {tg e0 : Expr} {i : Nat} {te : TE} {apos cpos : Pos} (hv : PE X e0 te) (hT : ∀ σ H (Q : VK) v, σ[i]? = some (some v) → Vs.lnk σ H → Q v H → te σ H Q) (hbase : attributeBase e0 "values" X.env (eval e0 X.env) = eval e0 X.env := by rfl) (hline : (apos.endLine == cpos.line) = true := by rfl) :
    SimI X tg (.Call (.Attribute e0 "values" apos) [] [] cpos) (frzI i itFV) := pi_imp (pi_values hv hbase hline) fun σ H R z => by
  obtain ⟨d, v, F, es, hi, _, hs, ln, o, q⟩ := tI_frz z
  obtain ⟨l, hl, rfl⟩ := Option.map_eq_some_iff.mp hi
  obtain ⟨a, ob, kvs, rfl, rfl, ha, hk, t⟩ := own_FK o hl
  exact hT _ _ _ _ hs ln ⟨a, ob, kvs, rfl, ha, q _ _ (walkD_FV hk) fun H2 k k2 => ⟨k _ _ _ ha, k2 t⟩⟩
end
section
variable {X : Cx} {pins : List (Addr × Obj)} {σ : St} {H : Hp} {s : Shared}
section
variable {P : Program} {w : World} {K : PySem.W.Frag} {tg : Expr} {d : Addr} {o ob : Obj} {ents : Array DictEntry} {ep : Nat}
end
end
section
variable [Tb] [Vs] {X : Cx} {K : PySem.W.Frag} {H : Hp}
def pIxKF : List D → Option D
  | [d, y] => (toKy y).bind fun k => (unFK d).bind fun l => getKL l k
  | _ => none
theorem pr_ixKF : PrimR K (u2 rIxK) pIxKF := by
  intro vs ds d H Q h e q
  unfold pIxKF at e
  split at e
  · obtain ⟨x, y, F, G, rfl, o1, o2⟩ := h.two
    obtain ⟨k, ek, e⟩ := Option.bind_eq_some_iff.mp e
    obtain ⟨l, el, e⟩ := Option.bind_eq_some_iff.mp e
    obtain ⟨a, ob, kvs, rfl, rfl, ha, hk, t⟩ := own_FK o1 el
    rcases valV_L (k := k) hk t with ⟨h1, h2⟩ | ⟨v, d', G', h1, h2, ov, hs⟩
    · rw [h2] at e; cases e
    · rw [h2] at e
      cases e
      have : G' = [] := List.eq_nil_iff_forall_not_mem.mpr fun a ha => by cases hs a ha
      rw [this] at ov
      refine ⟨a, v, rfl, ?_, q _ _ (.sc ov)⟩
      rw [own_key o2 ek]
      exact .inl ⟨kvs, k, .inr ⟨ob, ha⟩, rfl, h1.symm⟩
  · cases e
variable {a b : Expr} {ga gb : O} {pos : Pos}
theorem so_ixKF (hu : X.A.units + 65 < cLine) (ha : SimO X a ga) (hb : SimO X b gb) (hs : NoSl b := by exact fun _ _ => rfl) : SimO X (.Subscript a b pos) (o2 pIxKF ga gb) :=
  pe_imp (pe_dget (by omega) ha hb hs) fun _ _ _ h => by have z := tA2 (prim pr_ixKF h); exact z
end
end Sim
namespace Sim
open PySem PySem.Spec L2
open PyProof.Rows hiding St
def lockE (d : D) : Option D := match unK d with
  | some l => if purs (l.map Prod.snd) = true then some (frK l) else none
  | none => (unN d).map frN
def oROE (i : Nat) (g : O) : O := fun s => match ((s[i]?).join).bind fun d => (lockE d).map fun d' => (d, d') with
  | none => .bad
  | some p => (g (s.set i (some p.2))).bind fun r s' => match r with
    | .val x => .ok (.val x) (s'.set i (some p.1))
    | .slot _ => .bad
theorem lockE_ne {d : D} (h : unK d ≠ some []) : lockE d = lockD d := by
  unfold lockE lockD
  cases hu : unK d with
  | none => rfl
  | some l =>
    have hl : l.isEmpty = false := by
      cases l with
      | nil => exact absurd hu h
      | cons _ _ => rfl
    simp only [hl, true_and]
theorem oROE_ne {i : Nat} {g : O} {s : Sg} {d : D} (hd : (s[i]?).join = some d) (h : unK d ≠ some []) : oROE i g s = oRO i g s := by
  unfold oROE oRO
  rw [hd, Option.bind_some, Option.bind_some, lockE_ne h]
  all_goals (cases lockD d <;> rfl)
theorem lockE_nil {d : D} (h : unK d = some []) : lockE d = some (frK []) := by
  unfold lockE
  rw [h]; rfl
theorem setB {s : Sg} {i : Nat} {d d' : D} (h : s[i]? = some (some d)) : (s.set i (some d')).set i (some d) = s := by
  rw [List.set_set]
  refine List.ext_getElem? fun j => ?_
  by_cases hj : i = j
  · subst hj
    have hi : i < s.length := (List.getElem?_eq_some_iff.mp h).1
    rw [List.getElem?_set_self hi, h]
  · rw [List.getElem?_set_ne hj]
theorem unlk_id : ∀ (l : List (Nat × D)) (s : Sg), (∀ p, p ∈ l → s[p.1]? = some (some p.2)) → ∀ s2 : Sg, s2.length = s.length → (∀ j, (∀ p, p ∈ l → p.1 ≠ j) → s2[j]? = s[j]?) → unlockS l s2 = s
  | [], s, _, s2, hl, h => by
    refine List.ext_getElem? fun j => ?_
    exact h j (by simp)
  | p :: l, s, hp, s2, hl, h => by
    have hp1 := hp p (List.mem_cons_self ..)
    have hi : p.1 < s.length := (List.getElem?_eq_some_iff.mp hp1).1
    have ih := unlk_id l s (fun q hq => hp q (List.mem_cons_of_mem _ hq)) (s2.set p.1 (some p.2)) (by rw [List.length_set]; exact hl) fun j hj => by
      by_cases hpj : p.1 = j
      · subst hpj
        rw [List.getElem?_set_self (by rw [hl]; exact hi), hp1]
      · rw [List.getElem?_set_ne hpj]
        exact h j fun q hq => by
          rcases List.mem_cons.mp hq with rfl | hq
          · exact hpj
          · exact hj q hq
    exact ih
theorem lockS_ln : ∀ (l : List (Nat × D)) (s : Sg), (lockS l s).length = s.length
  | [], _ => rfl
  | p :: l, s => by
    show (lockS l (s.set p.1 none)).length = _
    rw [lockS_ln l, List.length_set]
theorem lockS_gt : ∀ (l : List (Nat × D)) (s : Sg) (j : Nat), (∀ p, p ∈ l → p.1 ≠ j) → (lockS l s)[j]? = s[j]?
  | [], _, _, _ => rfl
  | p :: l, s, j, h => by
    show (lockS l (s.set p.1 none))[j]? = _
    rw [lockS_gt l _ j fun q hq => h q (List.mem_cons_of_mem _ hq), List.getElem?_set_ne (h p (List.mem_cons_self ..))]
theorem clrS_gt : ∀ (vs : List Nat) (s : Sg) (j : Nat), (clrS vs s)[j]? = if j ∈ vs ∧ j < s.length then some none else s[j]?
  | [], s, j => by rw [if_neg (by simp)]; rfl
  | v :: vs, s, j => by
    rw [clrS]
    by_cases hv : v = j
    · subst hv
      by_cases hl : v < s.length
      · rw [List.getElem?_set_self (by rw [clrS_len]; exact hl), if_pos ⟨List.mem_cons_self .., hl⟩]
      · rw [List.getElem?_eq_none (by rw [List.length_set, clrS_len]; omega), if_neg (fun z => hl z.2), List.getElem?_eq_none (by omega)]
    · rw [List.getElem?_set_ne hv, clrS_gt vs s j]
      have e : (j ∈ v :: vs ∧ j < s.length) ↔ (j ∈ vs ∧ j < s.length) := by
        rw [List.mem_cons]
        exact ⟨fun z => ⟨z.1.resolve_left (fun w => hv w.symm), z.2⟩, fun z => ⟨.inr z.1, z.2⟩⟩
      simp only [e]
theorem ownSl_all : ∀ {vs : List Nat} {s : Sg} {j : Nat} {d : D}, j ∈ vs → s[j]? = some (some d) → (j, d) ∈ ownSl vs s
  | [], _, _, _, h, _ => by cases h
  | v :: vs, s, j, d, h, e => by
    unfold ownSl
    rcases List.mem_cons.mp h with rfl | h
    · rw [show (s[j]?).join = some d by rw [e]; rfl]
      exact List.mem_cons_self ..
    · split
      · exact List.mem_cons_of_mem _ (ownSl_all h e)
      · exact ownSl_all h e
theorem compS_id (vs : List Nat) (s : Sg) : unlockS (ownSl vs s ++ []) (clrS vs (lockS (ownSl vs s) s)) = s := by
  rw [List.append_nil]
  refine unlk_id _ _ (fun p hp => (ownSl_has hp).1) _ (by rw [clrS_len, lockS_ln]) fun j hj => ?_
  rw [clrS_gt, lockS_gt _ _ _ hj, lockS_ln]
  split
  · rename_i h
    have e := List.getElem?_eq_getElem h.2
    rw [e]
    cases hx : s[j] with
    | none => rfl
    | some d =>
      rw [hx] at e
      exact absurd rfl (hj (j, d) (ownSl_all h.1 e))
  · rfl
section
variable [Tb] [Vs] {X : Cx} {lk lk' : Nat → Bool} {pos : Pos} {i : Nat} {itm : D → Option (List D)}
/-- what the walk over an empty dict asks -/
def EmpI (i : Nat) (wi : TI) : Prop := ∀ (σ : St) (H : Hp) (a : Addr) (od : Obj) (R : It → Hp → Prop), σ[i]? = some (some (.ref a)) → Vs.lnk σ H → H a = some (.frz od (.dK [])) → (∀ J : It, (∀ H' : Hp, H' a = some (.frz od (.dK [])) → J.stop 0 H') → R J H) → wi σ H R
theorem so_compD {elt tg iter : Expr} {ifs : List Expr} {scope : Scope} {own : List (Str × Nat)} {t : Tg} {c : T} {e : O} {wi : TI} (hc : X.calm = true) (hN : X.N.Nodup) (hi : SimI X tg iter (frzI i itm)) (hiE : PI X tg iter wi) (hE : EmpI i wi) (h0 : itm (frK []) = some []) (ok : BlkOk X.N X.env.scope scope own)
    (hg : ∀ (s : Shared) (H : Hp) (C : Addr) (cl : List (Str × Addr)) (fp : List Addr), SimG (X.blk s H scope (compEnvC scope cl C X.env) fp) (lkc (own.map (·.2))) tg t) (ht : ∀ (s : Shared) (H : Hp) (C : Addr) (cl : List (Str × Addr)) (fp : List Addr), SimPT (X.blk s H scope (compEnvC scope cl C X.env) fp) ifs c)
    (he : ∀ (s : Shared) (H : Hp) (C : Addr) (cl : List (Str × Addr)) (fp : List Addr), SimO (X.blk s H scope (compEnvC scope cl C X.env) fp) elt e) (hs : ∀ x, foldedSetIterable iter X.env x = pure x := by intro _; rfl) (ko : ∀ v, v ∈ own.map (·.2) → Vs.ok v := by first | exact fun _ _ => trivial | assumption | decide) :
    SimO X (.ListComp elt [⟨tg, iter, ifs, 0⟩] scope pos) (oROE i (oComp (frzI i itm) t c e (own.map (·.2)))) := by
  have hg' : ∀ (s : Shared) (H : Hp) (C : Addr) (cl : List (Str × Addr)) (fp : List Addr), PG (X.blk s H scope (compEnvC scope cl C X.env) fp) tg (tG X.K (lkc (own.map (·.2))) t) := hg
  have ht' : ∀ (s : Shared) (H : Hp) (C : Addr) (cl : List (Str × Addr)) (fp : List Addr), PTs (X.blk s H scope (compEnvC scope cl C X.env) fp) ifs (tT X.K c) := ht
  have he' : ∀ (s : Shared) (H : Hp) (C : Addr) (cl : List (Str × Addr)) (fp : List Addr), PE (X.blk s H scope (compEnvC scope cl C X.env) fp) elt (tO X.K e) := he
  refine ⟨fun pins s σ H Q I z => ?_⟩
  obtain ⟨s0, Fs, r, s', R, ez, q⟩ := id z
  have hd : ∃ d, (s0[i]?).join = some d := by
    unfold oROE at ez
    cases hx : (s0[i]?).join with
    | none => rw [hx] at ez; cases ez
    | some d => exact ⟨d, rfl⟩
  obtain ⟨d, hd⟩ := hd
  by_cases hk : unK d = some []
  · have hsd := join_some hd
    obtain ⟨v, hv, o⟩ := R.has i d hsd
    obtain ⟨a, kvs, F', rfl, hF, dk⟩ := own_K o hk
    have ek : kvs = [] := by
      have := dk.keys
      simpa using this
    subst ek
    have ha := dk.at_
    have e2 : r = .val (.list []) ∧ s' = s0 := by
      unfold oROE at ez
      rw [hd, Option.bind_some, lockE_nil hk] at ez
      have hi' : i < s0.length := (List.getElem?_eq_some_iff.mp hsd).1
      have ef : frzI i itm (s0.set i (some (frK []))) = .ok ([], []) (s0.set i (some (frK []))) := by
        unfold frzI
        rw [List.getElem?_set_self hi']
        show (match (some (frK [])).bind itm with | some es => _ | none => _) = _
        rw [Option.bind_some, h0]; rfl
      have ez : (oComp (frzI i itm) t c e (own.map (·.2)) (s0.set i (some (frK [])))).bind (fun r s' => match r with | .val x => Res.ok (.val x) (s'.set i (some d)) | .slot _ => Res.bad) = Res.ok r s' := ez
      unfold oComp at ez
      rw [ef, bind_ok] at ez
      split at ez
      · rw [show compL t c e (own.map (·.2)) [] [] (clrS (own.map (·.2)) (lockS (ownSl (own.map (·.2)) (s0.set i (some (frK [])))) (s0.set i (some (frK []))))) = .ok [] (clrS (own.map (·.2)) (lockS (ownSl (own.map (·.2)) (s0.set i (some (frK [])))) (s0.set i (some (frK []))))) from rfl, bind_ok, compS_id, bind_ok] at ez
        have ez : Res.ok (Rf.val (.list [])) ((s0.set i (some (frK []))).set i (some d)) = Res.ok r s' := ez
        rw [setB hsd] at ez
        cases ez
        exact ⟨rfl, rfl⟩
      · cases ez
    obtain ⟨rfl, rfl⟩ := e2
    refine (pe_lock (pe_lc hc hN hiE ok hg' ht' he' hs)).run pins s σ H Q I ⟨a, .dK [], ha, True.intro, fun od => ?_⟩
    refine hE σ _ a od _ hv ((R.lnkC (Chg.upd1 (m := .dct []) ha) fun j b hb w => R.nfp (j := j) hsd (by rw [hF]; exact List.mem_cons_self ..) (by rw [← w]; exact hb)).1) upd_same fun J hJ Dn hDn => ?_
    have hne : Dn ≠ a := fun w => by rw [w, upd_same] at hDn; cases hDn
    have hDH : H Dn = none := by rw [upd_ne hne] at hDn; exact hDn
    refine ⟨fun k m H' => k = 0 ∧ H' = upd (upd H a (.frz od (.dK []))) Dn (.lst []), ⟨0, rfl, rfl⟩, fun k m H' ⟨h1, h3⟩ => ?_⟩
    subst h1 h3
    have h2 : (upd (upd H a (.frz od (.dK []))) Dn (.lst [])) a = some (.frz od (.dK [])) := by rw [upd_ne (Ne.symm hne), upd_same]
    refine .inl ⟨hJ _ h2, h2, ?_⟩
    have eH : upd (upd (upd H a (.frz od (.dK []))) Dn (.lst [])) a (.dK []) = upd H Dn (.lst []) := by
      funext b
      by_cases hb : b = a
      · subst hb; rw [upd_same, upd_ne (Ne.symm hne), ha]
      · by_cases hb2 : b = Dn
        · subst hb2; rw [upd_ne hb, upd_same, upd_same]
        · rw [upd_ne hb, upd_ne hb2, upd_ne hb, upd_ne hb2]
    rw [eH]
    obtain ⟨R2, E2, F, k2, n2⟩ := (NewV.lst (K := X.K) OwnA.nil hDH).ok R
    exact q _ _ Fs F R2 E2 k2 n2
  · rw [oROE_ne hd hk] at ez
    exact (so_ro (so_comp hc hN hi ok hg ht he hs ko)).run pins s σ H Q I ⟨s0, Fs, r, s', R, ez, q⟩
theorem emp_keys {te : TE} (hT : ∀ σ H (Q : VK) v, σ[i]? = some (some v) → Vs.lnk σ H → Q v H → te σ H Q) : EmpI i (iKeys te) := fun σ H a od R hs ln ha h =>
  hT _ _ _ _ hs ln ⟨a, od, rfl, .inl ⟨[], ha, h _ fun H' h' => ⟨h', Nat.le_refl _⟩⟩⟩
theorem emp_vals {te : TE} (hT : ∀ σ H (Q : VK) v, σ[i]? = some (some v) → Vs.lnk σ H → Q v H → te σ H Q) : EmpI i (iVals te) := fun σ H a od R hs ln ha h =>
  hT _ _ _ _ hs ln ⟨a, od, [], rfl, ha, h _ fun H' h' => ⟨h', Nat.le_refl _⟩⟩
end
end Sim
namespace Sim
open PySem PySem.Spec L2
section
open PyProof.Rows hiding St
variable {X : Cx} {K : PySem.W.Frag}
end
def oPopK (i : Nat) (g : O) : O := fun s => (oV i s).bind fun _ s => match ((s[i]?).join).bind unK with
  | none => .bad
  | some _ => (g s).bind fun r s1 => match (rd r s1).bind toKy, ((s1[i]?).join).bind unK with
    | some k, some l => (match getKL l k with
      | some d => if purs (l.map Prod.snd) = true then .ok (.val d) (s1.set i (some (reK (dropKL l k)))) else .bad
      | none => .bad)
    | _, _ => .bad
theorem drop_keys : ∀ {kvs : List (Key × V)} {l : List (Key × D)} (k : Key), kvs.map Prod.fst = l.map Prod.fst → (dropK kvs k).map Prod.fst = (dropKL l k).map Prod.fst
  | [], [], _, _ => rfl
  | p :: kvs, q :: l, k, h => by
    rw [List.map_cons, List.map_cons] at h
    injection h with h1 h2
    have ih := drop_keys k h2
    unfold dropK dropKL at ih ⊢
    rw [List.filter_cons, List.filter_cons, h1]
    by_cases c : q.1 = k
    · simp only [c, ne_eq, not_true, decide_false, Bool.false_eq_true, if_false]
      exact ih
    · simp only [ne_eq, c, not_false_eq_true, decide_true, if_true, List.map_cons, h1, ih]
  | [], _ :: _, _, h => by simp at h
  | _ :: _, [], _, h => by simp at h
theorem drop_own {K : PySem.W.Frag} {H : Hp} : ∀ {kvs : List (Key × V)} {l : List (Key × D)} (k : Key), kvs.map Prod.fst = l.map Prod.fst → OwnA K H (l.map Prod.snd) (kvs.map Prod.snd) [] → OwnA K H ((dropKL l k).map Prod.snd) ((dropK kvs k).map Prod.snd) []
  | [], [], _, _, _ => .nil
  | p :: kvs, q :: l, k, h, t => by
    rw [List.map_cons, List.map_cons] at h
    injection h with h1 h2
    rw [List.map_cons, List.map_cons] at t
    obtain ⟨o, t'⟩ := t.nil2
    have ih := drop_own k h2 t'
    unfold dropK dropKL at ih ⊢
    rw [List.filter_cons, List.filter_cons, h1]
    by_cases c : q.1 = k
    · simp only [c, ne_eq, not_true, decide_false, Bool.false_eq_true, if_false]
      exact ih
    · simp only [ne_eq, c, not_false_eq_true, decide_true, if_true, List.map_cons]
      exact .cons0 o ih
  | [], _ :: _, _, h, _ => by simp at h
  | _ :: _, [], _, h, _ => by simp at h
section
variable [Tb] [Vs] {X : Cx} {K : PySem.W.Frag} {σ : St} {H : Hp} {Q : VK}
theorem tO_popK {i : Nat} {g : O} (z : tO K (oPopK i g) σ H Q) : tDPop1 (tSl i) (tO K g) σ H Q := by
  obtain ⟨s, Fs, rf, s', R, e, q⟩ := z
  obtain ⟨r0, s0, e0, e⟩ := bind_inv e
  unfold oV at e0
  split at e0
  · rename_i d0 hd0
    cases e0
    split at e
    · cases e
    · rename_i l0 hl0
      obtain ⟨d1, hd1, hl1⟩ := Option.bind_eq_some_iff.mp hl0
      rw [hd0] at hd1
      cases hd1
      obtain ⟨v0, hv0, o0⟩ := R.has i _ (join_some hd0)
      obtain ⟨a, kvs0, F0, rfl, hF0, dk0⟩ := own_K o0 hl1
      refine ⟨.ref a, hv0, R.lnk.1, a, rfl, .inl ⟨kvs0, .inl dk0.at_⟩, ?_⟩
      obtain ⟨r, s1, e1, e⟩ := bind_inv e
      refine ⟨s, Fs, r, s1, R, e1, fun y H1 Fs1 G R1 E1 k1 n1 => ?_⟩
      split at e
      · rename_i k l hk hl
        split at e
        · rename_i d hg
          split at e
          · rename_i hp
            cases e
            obtain ⟨dy, hdy, eky⟩ := Option.bind_eq_some_iff.mp hk
            obtain ⟨F', oy⟩ := k1.dp R1 hdy
            obtain ⟨d2, hs2, el⟩ := Option.bind_eq_some_iff.mp hl
            obtain ⟨v1, hv1, o1⟩ := R1.has i _ (join_some hs2)
            rw [hv0] at hv1
            cases hv1
            obtain ⟨a', kvs, F3, ea, hF, dk⟩ := own_K o1 el
            cases ea
            have hF3 : F3 = [] := dk.vals.pur hp
            subst hF3
            have ai : a ∈ Fs1 i := by rw [hF]; exact List.mem_cons_self ..
            rcases valV_L (k := k) dk.keys dk.vals with ⟨h1, h2⟩ | ⟨v, d', G', h1, h2, ov, hsG⟩
            · rw [h2] at hg; cases hg
            · rw [h2] at hg
              cases hg
              have : G' = [] := List.eq_nil_iff_forall_not_mem.mpr fun a ha => by cases hsG a ha
              subst this
              refine ⟨kvs, k, v, dk.at_, own_key oy eky, h1, ?_⟩
              have c : Chg (fun z => z = a) H1 (upd H1 a (.dK (dropK kvs k))) := chg_updM (mo := .dct kvs) (mo' := .dct (dropK kvs k)) dk.at_
              have on : Own K (upd H1 a (.dK (dropK kvs k))) (reK (dropKL l k)) (.ref a) [a] := own_reK ⟨upd_same, drop_keys k dk.keys, (drop_own k dk.keys dk.vals).chg c fun b hb _ => (by cases hb), by simp⟩
              obtain ⟨Fs3, R3, C3, n3⟩ := R1.wrA (mo := .dct kvs) (mo' := .dct (dropK kvs k)) (join_some hs2) hv0 dk.at_ ai on (Fd := []) (fun z hz => .inl (by rw [List.mem_singleton.mp hz]; exact ai)) (by simp)
              exact q v _ Fs3 [] R3 (E1.trans ⟨C3, fun j b h => (n3 j b h).imp id (fun z => by cases z)⟩) (.val ⟨ov.chg c fun b hb _ => (by cases hb), fun _ _ _ z => by cases z⟩) (fun _ z => by cases z)
          · cases e
        · cases e
      · cases e
  · cases e0
theorem so_popKF (hu : X.A.units + 65 < cLine) {e0 : Expr} {i : Nat} {g : O} {apos cpos : Pos} {e : Expr} (ho : PE X e0 (tSl i)) (ha : SimO X e g) (m : M1 X e0 "pop" apos e cpos := by exact ⟨rfl, rfl, rfl, rfl⟩) :
    SimO X (.Call (.Attribute e0 "pop" apos) [e] [] cpos) (oPopK i g) := pe_imp (pe_dpop1 ho ha m) fun _ _ _ h => tO_popK h
theorem so_popK (hu : X.A.units + 65 < cLine) {x : Str} {p : Pos} {i : Nat} {g : O} {apos cpos : Pos} {e : Expr} (ho : PE X (.Name x p) (tVar i)) (ha : SimO X e g) (m : M1 X (.Name x p) "pop" apos e cpos := by exact ⟨rfl, rfl, rfl, rfl⟩) :
    SimO X (.Call (.Attribute (.Name x p) "pop" apos) [e] [] cpos) (oPopK i g) := so_popKF hu (tsl_of ho) ha m
end
end Sim
namespace Sim
open PySem PySem.Spec L2
section
variable [Tb] [Vs]
theorem hT_var {i : Nat} : ∀ (σ : St) (H : Hp) (Q : VK) (v : V), σ[i]? = some (some v) → Vs.lnk σ H → Q v H → tVar i σ H Q := fun _ _ _ v h _ q => ⟨v, h, q⟩
variable {X : Cx} {lk lk' : Nat → Bool} {pos : Pos} {i : Nat}
end
end Sim
namespace Sim
open PySem PySem.Spec L2
section
variable {X : Cx} {k : Nat} {f : Addr} {fd : FuncData} {ps : List Str} {sp : Sp} {dvs : List V} {ds : List Value} {E : XK} {x : Str} {p pos : Pos} {e : Expr} {es : List Expr} {t : TA}
end
section
variable [Tb] [Vs] {X : Cx} {k : Nat} {f : Addr} {fd : FuncData} {ps : List Str} {fn : Fn} {x : Str} {p pos : Pos} {e : Expr} {es : List Expr} {g : AL}
end
section
variable {X : Cx}
end
end Sim
namespace Sim
open PySem PySem.Spec L2
open LamX (TabB)
open PyProof.Rows (envOfC)
section
variable [Tb] {P : Program} {w : World} {K : PySem.W.Frag} {mg : Str → Option Value} {base : Heap}
end
open PyProof.Rows hiding St
section
variable {P : Program} {w : World} {K : PySem.W.Frag} {mg mb : Str → Option Value} {k : Nat} {fa a : Addr} {tb : List (Addr × Addr)} {fd : FuncData} {x : Str} {sp : Sp} {s₁ : Shared} {vs : List Value} {ns : List Int}
end
end Sim
namespace Sim
open PySem PySem.Spec L2
section
variable [Tb] [Vs] {X : Cx} {lk : Nat → Bool} {pos : Pos} {K : PySem.W.Frag}
end
section
variable [Tb] [Vs] {X : Cx} {a b : Expr} {ga : O} {pos : Pos}
end
end Sim
namespace Sim
open PySem PySem.Spec L2
section
open PySem.AutoSeq1
end
section
variable {K : PySem.W.Frag}
end
end Sim
namespace Sim
open PySem PySem.Spec L2
open PyProof.Rows hiding St
section
open PySem.W
variable {prog : Program} {w : World} {A : Around} {E : Value → Shared → Prop} {s : Shared} {r d : Addr} {n : Nat} {P : Nat → Value → Prop} {OK : Heap → Prop}
end
section
variable {X : Cx}
end
end Sim
namespace L2
open PySem PySem.Spec PyProof.Rows
section
variable {P : Program} {w : World} {A : Around} {E : Value → Shared → Prop} {s : Shared}
set_option maxRecDepth 100000 in
set_option maxHeartbeats 3200000 in
end
end L2
namespace Sim
open PySem PySem.Spec L2
section
variable [Tb] [Vs] {X : Cx} {a : Expr} {ta : TA} {p p2 q pos : Pos}
variable {ga : AL}
end
end Sim
namespace Sim
open PySem PySem.Spec L2
section
variable [Tb] [Vs] {K : PySem.W.Frag} {H H1 : Hp} {s s1 : Sg} {σ : St} {Fs Fs1 : Fp} {lk lk' : Nat → Bool}
/-- an end's way out, told from an earlier state -/
theorem PostS.from {D : Ends} {fl : Fl} {s' : Sg} {σ1 : St} (hlk : ∀ i, lk i = true → lk' i = true) (E : EvR lk H Fs H1 Fs1) (L : Lk lk σ σ1) (q : PostS K lk D σ H Fs s' fl) : PostS K lk' D σ1 H1 Fs1 s' fl := by
  have un : ∀ {i}, lk' i = false → lk i = false := fun {i} z => by
    cases e : lk i with
    | false => rfl
    | true => rw [hlk i e] at z; cases z
  have LL : ∀ {σ2 : St}, Lk lk' σ1 σ2 → Lk lk σ σ2 := fun {σ2} L2 => L.trans fun i hi => L2 i (hlk i hi)
  cases fl with
  | nx => exact fun σ' H' Fs' R' E' L' => q σ' H' Fs' R' (E.transR (E'.wk hlk)) (LL L')
  | bk => exact fun σ' H' Fs' R' E' L' => q σ' H' Fs' R' (E.transR (E'.wk hlk)) (LL L')
  | ct => exact fun σ' H' Fs' R' E' L' => q σ' H' Fs' R' (E.transR (E'.wk hlk)) (LL L')
  | rt d =>
    refine fun v σ' H' Fs' F R' E' L' o n m => q v σ' H' Fs' F R' (E.transR (E'.wk hlk)) (LL L') o (fun a ha => ?_) fun i a hi => m i a (hlk i hi)
    rcases n a ha with z | ⟨k, hk, z⟩
    · exact .inl (E.chg.there a z)
    · rcases E.new k a z with (w | w) | ⟨_, j, hj, w⟩
      · exact .inr ⟨k, un hk, w⟩
      · exact .inl w
      · exact .inr ⟨j, hj, w⟩
end
section
variable [Tb] [Vs] {X : Cx} {lk lk' : Nat → Bool} {pos : Pos}
end
end Sim
namespace Sim
open PySem PySem.Spec L2
/-- what is raised: the class's name -/
abbrev Exn := Str
/-- what a statement raises, and at which state -/
abbrev Rz := Sg → Option (Exn × Sg)
abbrev FnZ := List D → Option Exn
section
variable [Tb] [Vs] {X : Cx} {W : WX} {lk : Nat → Bool} {st : Stmt} {rest : List Stmt} {r a b : Rz} {g : S} {t : T} {e : Expr} {pos : Pos}
end
section
variable [Tb] {K : PySem.W.Frag} {H H' : Hp}
end
section
variable [Tb] [Vs] {X : Cx} {W : WX} {k : Nat} {f : Addr} {fd : FuncData} {ps : List Str} {fn : FnZ} {x : Str} {p pos : Pos} {e : Expr} {es : List Expr} {g : AL}
end
section
variable [Tb] {P : Program} {w : World} {K : PySem.W.Frag} {mg : Str → Option Value} {base : Heap}
end
section
variable [Tb] [Vs] {X : Cx} {lk : Nat → Bool} {r : Rz} {g h : S} {body suite : List Stmt} {b₀ : Stmt} {np pos pos' : Pos} {x : Str} {c : Value} {cs : List Str}
end
end Sim
namespace Sim
open PySem PySem.Spec L2
open PyProof.Rows (Compare_chain chain_link chain_last ite_ff ite_tt)
abbrev CK := Rf → Sg → Res Rf
section
variable [Tb] [Vs] {X : Cx} {a b c : Expr} {ga gb gc : O} {op op' : CmpOp} {ops : List CmpOp} {es : List Expr} {r : R2} {f : List D → Option D} {k : CK} {pos : Pos}
end
end Sim
namespace Sim
open PySem PySem.Spec L2
open PyProof.Rows hiding St
section
variable {P : Program} {w : World} {K : PySem.W.Frag} {tg : Expr} {d : Addr} {o : Obj} {ents : Array DictEntry} {ep : Nat}
end
section
variable {X : Cx} {tg e : Expr} {td : TE} {apos cpos : Pos}
end
section
variable [Tb] [Vs] {X : Cx} {K : PySem.W.Frag}
variable {tg e : Expr} {ga : O} {apos cpos : Pos}
end
end Sim
namespace Sim
open PySem PySem.Spec L2
def oIdxD (g h : O) : O := fun s => (g s).bind fun r s1 => match rd r s1 with
  | some (.list _) => (h s1).bind fun r2 s2 => (match rds [r, r2] s2 with
    | some [.list ds, y] => if shp (.list ds) = true ∧ shp y = true then (match ds.findIdx? fun z => PyData.eqv z y with
      | some j => .ok (.val (.int (j : Nat))) s2
      | none => .bad) else .bad
    | _ => .bad)
  | _ => .bad
theorem shp_two {d : D} (h : shp d = true) : SeqAt.shaped d = true ∧ noD d = true := by
  unfold shp at h
  rwa [Bool.and_eq_true] at h
section
variable [Tb] [Vs] {X : Cx} {K : PySem.W.Frag} {σ : St} {H : Hp} {Q : VK}
theorem rfs_two {Fs : Fp} {r1 r2 : Rf} {x y : V} {F G : List Addr} (k1 : RfOk K H σ Fs r1 x F) (k2 : RfOk K H σ Fs r2 y G) {s : Sg} (R : RelS K H s σ Fs) {a b : D} (e : rds [r1, r2] s = some [a, b]) : ∃ F1 F2, Own K H a x F1 ∧ Own K H b y F2 := by
  obtain ⟨x', y', F, G, ee, oa, ob⟩ := (rfs2 k1 k2 R e).two
  cases ee
  exact ⟨_, _, oa, ob⟩
theorem tO_idxD {g h : O} (z : tO K (oIdxD g h) σ H Q) : tBM K "list" (rIndexD K) (tO K g) (tA K (aCons h aNil)) σ H Q := by
  obtain ⟨s, Fs, rf, s', R, e, q⟩ := z
  obtain ⟨r, s1, e1, e⟩ := bind_inv e
  refine ⟨s, Fs, r, s1, R, e1, fun v H1 Fs1 F1 R1 E1 k1 n1 => ?_⟩
  split at e
  · rename_i ds0 hd0
    obtain ⟨F0, o0⟩ := k1.dp R1 hd0
    obtain ⟨a, xs, F3, rfl, _, hl, _, _⟩ := own_list o0
    refine ⟨.inl ⟨rfl, _, SqL.of hl⟩, ?_⟩
    obtain ⟨r2, s2, e2, e⟩ := bind_inv e
    refine ⟨s1, Fs1, [r2], s2, R1, by unfold aCons aNil; rw [e2]; rfl, fun ws H2 Fs2 Gs R2 E2 k2 n2 => ?_⟩
    split at e
    · rename_i ds y hds
      split at e
      · rename_i hp
        split at e
        · rename_i j hj
          cases e
          have fin : ∀ {y' : V} {G : List Addr}, RfOk K H2 σ Fs2 r2 y' G → rIndexD K (.ref a) [y'] H2 Q := fun {y' G} k2 => by
            obtain ⟨_, _, oa, ob⟩ := rfs_two (k1.ev E2) k2 R2 hds
            obtain ⟨hj1, hj2, hj3⟩ := List.findIdx?_eq_some_iff_getElem.mp hj
            obtain ⟨p1, p2⟩ := shp_two hp.1
            obtain ⟨p3, p4⟩ := shp_two hp.2
            refine ⟨a, y', y, ds, j, ds[j], rfl, rfl, oa.dp p2, ob.dp p4, p1, p3, List.getElem?_eq_getElem hj1, hj2, fun m z' hm hz => ?_, ?_⟩
            · have hml : m < ds.length := by omega
              rw [List.getElem?_eq_getElem hml] at hz
              cases hz
              have := hj3 m hm
              simpa using this
            · exact q _ H2 Fs2 [] R2 (E1.trans E2) (.val ⟨.int _, fun _ _ _ z => nomatch z⟩) (fun _ z => nomatch z)
          cases k2 with
          | @val d2 v2 F2 rs vs Gs2 A2 nn kr =>
            cases kr
            exact fin (.val A2)
          | @slot i v2 rs vs Gs2 hv kr =>
            cases kr
            exact fin (.slot hv)
        · cases e
      · cases e
    · cases e
  · cases e
theorem so_idxD {ga gb : O} {o e : Expr} {apos cpos : Pos} (hu : X.A.units + 65 < cLine) (ho : SimO X o ga) (ha : SimO X e gb)
    (hbase : attributeBase o "index" X.env (eval o X.env) = eval o X.env := by rfl)
    (hfew : ((backTo cpos (starEach [e] X.env)).all (fun x => !x.1) && (backToKw cpos (keywordEach [] X.env)).all (fun x => x.1.isSome)
      && decide (([e] : List Expr).length + ([] : List Keyword).length + (if ([] : List Keyword).isEmpty then 0 else 1) < 30)) = true := by rfl)
    (hline : (apos.endLine == cpos.line) = true := by rfl) (hs : starEach [e] X.env = (false, eval e X.env) :: starEach [] X.env := by rfl) (hplain : (backTo cpos (starEach [] X.env)).any (·.1) = false := by rfl) :
    SimO X (.Call (.Attribute o "index" apos) [e] [] cpos) (oIdxD ga gb) :=
  pe_imp (pe_bm PySem.F.plainAttrs_list PySem.F.slot_list_index PySem.F.type_list_index (mt_indexD hu) ho (sa_cons ha sa_nil hs) hbase hfew hline hs hplain) fun _ _ _ h => tO_idxD h
end
end Sim
namespace Sim
open PySem PySem.Spec L2
section
variable {X : Cx} {pins : List (Addr × Obj)} {σ : St} {H : Hp} {s : Shared}
theorem kv_len {κ : Type} {kvs : List (κ × V)} {vs : List (κ × Value)} (h : KV kvs vs) : vs.length = kvs.length := by
  unfold KV at h
  induction h with
  | nil => rfl
  | cons _ _ ih => rw [List.length_cons, List.length_cons, ih]
theorem rawK (I : L2.Inv X pins σ H s) {a : Addr} {kvs : List (Key × V)} (h : H a = some (.dK kvs)) : (a == sysModules) = false ∧ ∃ ents ep, s.heap.DictRaw a ents ep ∧ ents.size = kvs.length := by
  obtain ⟨_, hs, vs, r, hd⟩ := (show ObjOk X.prog X.w H s.heap a (.dK kvs) from I.hok a _ h)
  obtain ⟨es, ep, h1, h2, _⟩ := hd.raw
  exact ⟨hs, es, ep, h1, by rw [h2, kv_len r]⟩
def rNe0K (K : PySem.W.Frag) : R2 := fun x y H Q => ∃ a kvs b, x = .ref a ∧ y = .ref b ∧ H a = some (.dK kvs) ∧ H b = some (.dK []) ∧ Q (.bl (!kvs.isEmpty)) H
theorem op_ne0K (hu : X.A.units < cLine) : OpR X (compareOp .NotEq) (rNe0K X.K) := by
  intro pins s σ H x y v u Q I rx ry h
  obtain ⟨a, kvs, b, rfl, rfl, ha, hb, q⟩ := h
  cases rx; cases ry
  obtain ⟨h1, e1, p1, r1, z1⟩ := rawK I ha
  obtain ⟨h2, e2, p2, r2, z2⟩ := rawK I hb
  refine ne0_raw h1 h2 r1 r2 (by rw [z2]; rfl) hu ⟨.bl (!kvs.isEmpty), H, I, ?_, q⟩
  rw [z1]
  cases kvs <;> rfl
end
def pNe0K : List D → Option D
  | [d, e] => (unK d).bind fun l => (unK e).bind fun l' => if l'.isEmpty = true then some (.bool (!l.isEmpty)) else none
  | _ => none
section
variable {K : PySem.W.Frag}
theorem pr_ne0K : PrimR K (u2 (rNe0K K)) pNe0K := by
  intro vs ds d H Q h e q
  unfold pNe0K at e
  split at e
  · obtain ⟨x, y, F, G, rfl, o1, o2⟩ := h.two
    obtain ⟨l, el, e⟩ := Option.bind_eq_some_iff.mp e
    obtain ⟨l', el', e⟩ := Option.bind_eq_some_iff.mp e
    split at e
    · rename_i hl'
      cases e
      obtain ⟨a, kvs, F1, rfl, _, d1⟩ := own_K o1 el
      obtain ⟨b, kvs', F2, rfl, _, d2⟩ := own_K o2 el'
      have k1 : kvs.length = l.length := by
        have := congrArg List.length d1.keys
        rwa [List.length_map, List.length_map] at this
      have k2 : kvs'.length = l'.length := by
        have := congrArg List.length d2.keys
        rwa [List.length_map, List.length_map] at this
      have z : l' = [] := List.isEmpty_iff.mp hl'
      subst z
      have z2 : kvs' = [] := List.length_eq_zero_iff.mp k2
      subst z2
      refine ⟨a, kvs, b, rfl, rfl, d1.at_, d2.at_, ?_⟩
      have : kvs.isEmpty = l.isEmpty := by
        cases kvs <;> cases l <;> first | rfl | simp at k1
      rw [this]
      exact q _ _ (.sc (.bl _))
    · cases e
  · cases e
end
end Sim
namespace Sim
open PySem PySem.Spec L2
abbrev Pt := List (Option D)
def gtP : Pt → Nat → Option D
  | [], _ => none
  | o :: _, 0 => o
  | _ :: p, n + 1 => gtP p n
def stP : Pt → Nat → Option D → Pt
  | [], _, _ => []
  | _ :: p, 0, o => o :: p
  | q :: p, n + 1, o => q :: stP p n o
structure Mt (p : Pt) (s : Sg) : Prop where
  len : p.length = s.length
  has : ∀ i d, gtP p i = some d → s[i]? = some (some d)
structure Wk (q p : Pt) : Prop where
  len : q.length = p.length
  has : ∀ i d, gtP q i = some d → gtP p i = some d
theorem stP_len : ∀ (p : Pt) (i : Nat) (o : Option D), (stP p i o).length = p.length
  | [], _, _ => rfl
  | _ :: _, 0, _ => rfl
  | _ :: p, i + 1, o => congrArg (· + 1) (stP_len p i o)
theorem gtP_stP : ∀ (p : Pt) (i j : Nat) (o : Option D), gtP (stP p i o) j = if i = j ∧ i < p.length then o else gtP p j
  | [], i, j, o => by rw [if_neg (by simp)]; rfl
  | a :: p, 0, 0, o => by simp [stP, gtP]
  | a :: p, 0, j + 1, o => by simp [stP, gtP]
  | a :: p, i + 1, 0, o => by simp [stP, gtP]
  | a :: p, i + 1, j + 1, o => by
    show gtP (stP p i o) j = _
    rw [gtP_stP p i j o]
    simp [gtP]
theorem Mt.get {p : Pt} {s : Sg} (h : Mt p s) {i : Nat} {d : D} (e : gtP p i = some d) : (s[i]?).join = some d := by rw [h.has i d e]; rfl
theorem Mt.put {p : Pt} {s : Sg} (h : Mt p s) (i : Nat) (d : D) : Mt (stP p i (some d)) (s.set i (some d)) := by
  refine ⟨by rw [stP_len, List.length_set, h.len], fun j e hj => ?_⟩
  rw [gtP_stP] at hj
  rw [List.getElem?_set]
  by_cases c : i = j
  · subst c
    by_cases c2 : i < p.length
    · rw [if_pos ⟨rfl, c2⟩] at hj
      rw [if_pos rfl, if_pos (by rw [← h.len]; exact c2), hj]
    · rw [if_neg (by simp [c2])] at hj
      have := h.has i e hj
      rw [List.getElem?_eq_none (by rw [← h.len]; omega)] at this
      cases this
  · rw [if_neg (by simp [c])] at hj
    rw [if_neg c]
    exact h.has j e hj
theorem Mt.off {p : Pt} {s : Sg} (h : Mt p s) (i : Nat) (o : Option D) : Mt (stP p i none) (s.set i o) := by
  refine ⟨by rw [stP_len, List.length_set, h.len], fun j e hj => ?_⟩
  rw [gtP_stP] at hj
  rw [List.getElem?_set]
  by_cases c : i = j
  · subst c
    by_cases c2 : i < p.length
    · rw [if_pos ⟨rfl, c2⟩] at hj; cases hj
    · rw [if_neg (by simp [c2])] at hj
      have := h.has i e hj
      rw [List.getElem?_eq_none (by rw [← h.len]; omega)] at this
      cases this
  · rw [if_neg (by simp [c])] at hj
    rw [if_neg c]
    exact h.has j e hj
theorem Mt.wk {q p : Pt} {s : Sg} (h : Mt p s) (w : Wk q p) : Mt q s := ⟨w.len.trans h.len, fun i d e => h.has i d (w.has i d e)⟩
theorem Mt.refl (s : Sg) : Mt s s := by
  refine ⟨rfl, fun i d e => ?_⟩
  induction s generalizing i with
  | nil => cases e
  | cons o s ih =>
    cases i with
    | zero => have e : o = some d := e; rw [e]; rfl
    | succ i => rw [List.getElem?_cons_succ]; exact ih i e
theorem wk_nil : Wk [] [] := ⟨rfl, fun _ _ e => by cases e⟩
theorem wk_a {q p : Pt} {o : Option D} (h : Wk q p) : Wk (none :: q) (o :: p) := ⟨congrArg (· + 1) h.len, fun i d e => by
  cases i with
  | zero => cases e
  | succ i => exact h.has i d e⟩
theorem wk_s {q p : Pt} {o : Option D} (h : Wk q p) : Wk (o :: q) (o :: p) := ⟨congrArg (· + 1) h.len, fun i d e => by
  cases i with
  | zero => exact e
  | succ i => exact h.has i d e⟩
theorem Wk.refl (p : Pt) : Wk p p := ⟨rfl, fun _ _ e => e⟩
abbrev eI : Int → D := PyData.int
abbrev eB : Bool → D := PyData.bool
def eL {α : Type} (e : α → D) (xs : List α) : D := .list (xs.map e)
def eT {α : Type} (e : α → D) (xs : List α) : D := .tuple (xs.map e)
def eZ (xs : List Int) : D := .dict [(.none, .list (xs.map .int))]
def eP {α β : Type} (a : α → D) (b : β → D) (x : α × β) : D := .tuple [a x.1, b x.2]
def eQ {α β γ : Type} (a : α → D) (b : β → D) (c : γ → D) (x : α × β × γ) : D := .tuple [a x.1, b x.2.1, c x.2.2]
def eO {α : Type} (e : α → D) : Option α → D
  | none => PyData.none
  | some x => e x
/-- nothing in it changes -/
def Pu {α : Type} (e : α → D) : Prop := ∀ x, pur (e x) = true
theorem puI : Pu eI := fun _ => rfl
theorem puZ : Pu eZ := fun xs => pur_frz _
theorem purs_pu {α : Type} {e : α → D} (h : Pu e) : ∀ xs : List α, purs (xs.map e) = true
  | [] => rfl
  | x :: xs => by rw [List.map_cons, purs_cons, h x, purs_pu h xs]; rfl
theorem puT {α : Type} {e : α → D} (h : Pu e) : Pu (eT e) := fun xs => by rw [eT, pur_tuple, purs_pu h]
theorem puP {α β : Type} {a : α → D} {b : β → D} (h : Pu a) (h2 : Pu b) : Pu (eP a b) := fun x => by rw [eP, pur_tuple, purs_cons, purs_cons, h, h2]; rfl
theorem puQ {α β γ : Type} {a : α → D} {b : β → D} {c : γ → D} (h : Pu a) (h2 : Pu b) (h3 : Pu c) : Pu (eQ a b c) := fun x => by rw [eQ, pur_tuple, purs_cons, purs_cons, purs_cons, h, h2, h3]; rfl
theorem puO' {α : Type} {e : α → D} (h : Pu e) : Pu (eO e) := fun x => by
  cases x with
  | none => rfl
  | some x => exact h x
def Rd (vl : Bool) (p : Pt) (r : Rf) (d : D) : Prop := r = .val d ∨ (vl = false ∧ ∃ i, r = .slot i ∧ gtP p i = some d)
section
variable {α β δ γ : Type}
theorem Rd.rd {vl : Bool} {p : Pt} {r : Rf} {d : D} {s : Sg} (h : Rd vl p r d) (m : Mt p s) : rd r s = some d := by
  rcases h with rfl | ⟨_, i, rfl, e⟩
  · rfl
  · exact m.get e
theorem Rd.own {vl : Bool} {p : Pt} {r : Rf} {d : D} {s : Sg} (h : Rd vl p r d) (m : Mt p s) (c : vl = true ∨ pur d = true) : own r s = some d := by
  rcases h with rfl | ⟨e0, i, rfl, e⟩
  · rfl
  · rcases c with c | c
    · rw [e0] at c; cases c
    · rw [own_slot, m.get e, ownK_some, if_pos c]
def X (vl : Bool) (p : Pt) (g : O) (v : α → D) (q : α → Pt) (F : (α → Option γ) → Option γ) : Prop :=
  ∀ k z, F k = some z → ∃ x, k x = some z ∧ ∀ s, Mt p s → ∃ r s', g s = .ok r s' ∧ Mt (q x) s' ∧ Rd vl (q x) r (v x)
theorem x_var {p : Pt} (i : Nat) {d : D} (h : gtP p i = some d) : X (γ := γ) false p (oV i) (fun _ : Unit => d) (fun _ => p) (fun k => k ()) :=
  fun k z e => ⟨(), e, fun s m => ⟨.slot i, s, by rw [ev_oV, m.get h, ev_oVK], m, .inr ⟨rfl, i, rfl, h⟩⟩⟩
theorem x_c {p : Pt} (d : D) : X (γ := γ) true p (oC d) (fun _ : Unit => d) (fun _ => p) (fun k => k ()) :=
  fun k z e => ⟨(), e, fun s m => ⟨.val d, s, rfl, m, .inl rfl⟩⟩
/-- told otherwise: the same value by another name -/
theorem X.as {p : Pt} {g : O} {v : α → D} {q : α → Pt} {F : (α → Option γ) → Option γ} {vl : Bool} (h : X vl p g v q F) (v' : α → D) (e : v = v') : X vl p g v' q F := e ▸ h
inductive AK where
  | v | s (i : Nat)
def Rk (p : Pt) : List AK → List Rf → List D → Prop
  | [], [], [] => True
  | .v :: ks, r :: rs, d :: ds => (Rd false p r d ∧ (r = .val d ∨ pur d = true)) ∧ Rk p ks rs ds
  | .s i :: ks, r :: rs, d :: ds => (r = .slot i ∧ gtP p i = some d ∧ pur d = false) ∧ Rk p ks rs ds
  | _, _, _ => False
theorem Rk.rds {p : Pt} {s : Sg} (m : Mt p s) : ∀ {ks : List AK} {rs : List Rf} {ds : List D}, Rk p ks rs ds → rds rs s = some ds
  | [], [], [], _ => rfl
  | .v :: ks, r :: rs, d :: ds, h => by rw [rds_cons, h.1.1.rd m, Rk.rds m h.2]; rfl
  | .s i :: ks, r :: rs, d :: ds, h => by rw [rds_cons, h.1.1, rd_slot, m.get h.1.2.1, Rk.rds m h.2]; rfl
theorem Rk.owns {p : Pt} {s : Sg} (m : Mt p s) : ∀ {ks : List AK} {rs : List Rf} {ds : List D}, Rk p ks rs ds → (∀ k ∈ ks, k = .v) → owns rs s = some ds
  | [], [], [], _, _ => rfl
  | .v :: ks, r :: rs, d :: ds, h, a => by
    have o : own r s = some d := by
      rcases h.1.2 with z | z
      · rw [z]; rfl
      · exact h.1.1.own m (.inr z)
    rw [owns_cons, o, Rk.owns m h.2 fun k hk => a k (List.mem_cons_of_mem _ hk)]; rfl
  | .s i :: ks, r :: rs, d :: ds, h, a => by have := a _ (List.mem_cons_self ..); cases this
def kl : List AK → List D → List (Nat × D)
  | .s i :: ks, d :: ds => (i, d) :: kl ks ds
  | .v :: ks, _ :: ds => kl ks ds
  | _, _ => []
theorem Rk.lks {p : Pt} : ∀ {ks : List AK} {rs : List Rf} {ds : List D}, Rk p ks rs ds → lks rs ds = kl ks ds
  | [], [], [], _ => rfl
  | .v :: ks, r :: rs, d :: ds, h => by
    cases r with
    | val x => rw [lks_val, Rk.lks h.2]; rfl
    | slot i =>
      rcases h.1.2 with z | z
      · cases z
      · rw [lks_slot, if_pos z, Rk.lks h.2]; rfl
  | .s i :: ks, r :: rs, d :: ds, h => by
    rw [h.1.1, lks_slot, if_neg (by rw [h.1.2.2]; simp), Rk.lks h.2]; rfl
theorem Rk.lkz {p : Pt} : ∀ {ks : List AK} {rs : List Rf} {ds as : List D}, Rk p ks rs ds → as.length = ds.length → lkz rs ds as = kl ks as
  | [], [], [], [], _, _ => rfl
  | .v :: ks, r :: rs, d :: ds, a :: as, h, l => by
    have l : as.length = ds.length := by simpa using l
    cases r with
    | val x => rw [lkz_val, Rk.lkz h.2 l]; rfl
    | slot i =>
      rcases h.1.2 with z | z
      · cases z
      · rw [lkz_slot, if_pos z, Rk.lkz h.2 l]; rfl
  | .s i :: ks, r :: rs, d :: ds, a :: as, h, l => by
    have l : as.length = ds.length := by simpa using l
    rw [h.1.1, lkz_slot, if_neg (by rw [h.1.2.2]; simp), Rk.lkz h.2 l]; rfl
def AK.isV : AK → Bool
  | .v => true
  | .s _ => false
theorem kv {ks : List AK} (h : ks.all AK.isV = true) : ∀ k ∈ ks, k = .v := fun k hk => by
  have := List.all_eq_true.mp h k hk
  cases k with
  | v => rfl
  | s i => cases this
theorem Rk.len {p : Pt} : ∀ {ks : List AK} {rs : List Rf} {ds : List D}, Rk p ks rs ds → ds.length = ks.length
  | [], [], [], _ => rfl
  | .v :: ks, r :: rs, d :: ds, h => congrArg (· + 1) (Rk.len h.2)
  | .s i :: ks, r :: rs, d :: ds, h => congrArg (· + 1) (Rk.len h.2)
def XA (p : Pt) (gs : AL) (ks : List AK) (vs : α → List D) (q : α → Pt) (F : (α → Option γ) → Option γ) : Prop :=
  ∀ k z, F k = some z → ∃ x, k x = some z ∧ ∀ s, Mt p s → ∃ rs s', gs s = .ok rs s' ∧ Mt (q x) s' ∧ Rk (q x) ks rs (vs x)
theorem xa_nil {p : Pt} : XA (γ := γ) p aNil [] (fun _ : Unit => []) (fun _ => p) (fun k => k ()) :=
  fun k z e => ⟨(), e, fun s m => ⟨[], s, rfl, m, trivial⟩⟩
section
variable {p : Pt} {g : O} {gs : AL} {v : α → D} {q : α → Pt} {F : (α → Option γ) → Option γ} {vl : Bool}
  {ks : List AK} {vs : α → β → List D} {q2 : α → β → Pt} {F2 : α → (β → Option γ) → Option γ}
/-- a value ahead of more -/
theorem xa_v (h : X true p g v q F) (h2 : ∀ x, XA (q x) gs ks (vs x) (q2 x) (F2 x)) :
    XA p (aCons g gs) (.v :: ks) (fun w : α × β => v w.1 :: vs w.1 w.2) (fun w => q2 w.1 w.2) (fun k => F fun x => F2 x fun y => k (x, y)) := fun k z e => by
  obtain ⟨x, e1, h⟩ := h _ z e
  obtain ⟨y, e2, h2⟩ := h2 x _ z e1
  refine ⟨(x, y), e2, fun s m => ?_⟩
  obtain ⟨r, s1, a1, a2, a3⟩ := h s m
  obtain ⟨rs, s2, b1, b2, b3⟩ := h2 s1 a2
  have a3 : r = .val (v x) := by
    rcases a3 with a3 | ⟨a3, _⟩
    · exact a3
    · cases a3
  refine ⟨r :: rs, s2, by rw [ev_aCons, a1, ev_ok, ev_consK, b1, ev_ok, ev_consK2], b2, ⟨.inl a3, .inl a3⟩, b3⟩
/-- what never changes, ahead of what changes nothing -/
theorem xa_p {vs : α → β → List D} (h : X vl p g v q F) (hp : ∀ x, pur (v x) = true) (h2 : ∀ x, XA (q x) gs ks (vs x) (fun _ => q x) (F2 x)) :
    XA p (aCons g gs) (.v :: ks) (fun w : α × β => v w.1 :: vs w.1 w.2) (fun w => q w.1) (fun k => F fun x => F2 x fun y => k (x, y)) := fun k z e => by
  obtain ⟨x, e1, h⟩ := h _ z e
  obtain ⟨y, e2, h2⟩ := h2 x _ z e1
  refine ⟨(x, y), e2, fun s m => ?_⟩
  obtain ⟨r, s1, a1, a2, a3⟩ := h s m
  obtain ⟨rs, s2, b1, b2, b3⟩ := h2 s1 a2
  exact ⟨r :: rs, s2, by rw [ev_aCons, a1, ev_ok, ev_consK, b1, ev_ok, ev_consK2], b2, ⟨a3.imp id fun z => ⟨rfl, z.2⟩, .inr (hp x)⟩, b3⟩
/-- a name of a list -/
theorem xa_s {vs : β → List D} {q2 : β → Pt} {F2 : (β → Option γ) → Option γ} {d : β → D} {d0 : D} (i : Nat) (h0 : gtP p i = some d0) (h2 : XA p gs ks vs q2 F2) (h1 : ∀ y, gtP (q2 y) i = some (d y)) (hp : ∀ y, pur (d y) = false) :
    XA p (aCons (oV i) gs) (.s i :: ks) (fun w : β => d w :: vs w) (fun w => q2 w) F2 := fun k z e => by
  obtain ⟨y, e2, h2⟩ := h2 _ z e
  refine ⟨y, e2, fun s m => ?_⟩
  obtain ⟨rs, s2, b1, b2, b3⟩ := h2 s m
  exact ⟨.slot i :: rs, s2, by rw [ev_aCons, ev_oV, m.get h0, ev_oVK, ev_ok, ev_consK, b1, ev_ok, ev_consK2], b2, ⟨rfl, h1 y, hp y⟩, b3⟩
end
section
variable {p : Pt} {gs : AL} {q : α → Pt} {F : (α → Option γ) → Option γ} {ks : List AK} {vs : α → List D}
theorem x_prim {f : List D → Option D} {m : α → Option β} {rv : α → β → D} (h : XA p gs ks vs q F) (hf : ∀ x z, m x = some z → f (vs x) = some (rv x z)) :
    X true p (oPrim f gs) (fun w : α × β => rv w.1 w.2) (fun w => q w.1) (fun k => F fun x => (m x).bind fun z => k (x, z)) := fun k z e => by
  obtain ⟨x, e1, h⟩ := h _ z e
  obtain ⟨y, e2, e3⟩ := Option.bind_eq_some_iff.mp e1
  refine ⟨(x, y), e3, fun s mm => ?_⟩
  obtain ⟨rs, s2, b1, b2, b3⟩ := h s mm
  exact ⟨.val (rv x y), s2, by rw [ev_prim, b1, ev_ok, ev_primK, b3.rds b2, ev_primK2, hf x y e2, ev_primK3], b2, .inl rfl⟩
theorem x_primT {f : List D → Option D} {rv : α → D} (h : XA p gs ks vs q F) (hf : ∀ x, f (vs x) = some (rv x)) :
    X true p (oPrim f gs) rv q F := fun k z e => by
  obtain ⟨x, e1, h⟩ := h _ z e
  refine ⟨x, e1, fun s mm => ?_⟩
  obtain ⟨rs, s2, b1, b2, b3⟩ := h s mm
  exact ⟨.val (rv x), s2, by rw [ev_prim, b1, ev_ok, ev_primK, b3.rds b2, ev_primK2, hf x, ev_primK3], b2, .inl rfl⟩
theorem x_tup (h : XA p gs ks vs q F) (hk : ks.all AK.isV = true) (hl : ks.length ≤ 1000000) : X true p (oTup gs) (fun x => .tuple (vs x)) q F := fun k z e => by
  obtain ⟨x, e1, h⟩ := h _ z e
  refine ⟨x, e1, fun s mm => ?_⟩
  obtain ⟨rs, s2, b1, b2, b3⟩ := h s mm
  exact ⟨.val (.tuple (vs x)), s2, by rw [ev_oTup, b1, ev_ok, ev_tupK, b3.owns b2 (kv hk), ev_tupK2, if_pos (by rw [b3.len]; exact hl)], b2, .inl rfl⟩
theorem x_lst (h : XA p gs ks vs q F) (hk : ks.all AK.isV = true) (hl : ks.length ≤ 1000000) : X true p (oLst gs) (fun x => .list (vs x)) q F := fun k z e => by
  obtain ⟨x, e1, h⟩ := h _ z e
  refine ⟨x, e1, fun s mm => ?_⟩
  obtain ⟨rs, s2, b1, b2, b3⟩ := h s mm
  exact ⟨.val (.list (vs x)), s2, by rw [ev_oLst, b1, ev_ok, ev_lstK, b3.owns b2 (kv hk), ev_lstK2, if_pos (by rw [b3.len]; exact hl)], b2, .inl rfl⟩
def lkP : List (Nat × D) → Pt → Pt
  | [], p => p
  | a :: l, p => lkP l (stP p a.1 none)
def ulP : List (Nat × D) → Pt → Pt
  | [], p => p
  | a :: l, p => ulP l (stP p a.1 (some a.2))
theorem Mt.lk : ∀ (l : List (Nat × D)) {p : Pt} {s : Sg}, Mt p s → Mt (lkP l p) (lockS l s)
  | [], _, _, h => h
  | a :: l, _, _, h => by rw [lockS_cons]; exact Mt.lk l (h.off a.1 none)
theorem Mt.ul : ∀ (l : List (Nat × D)) {p : Pt} {s : Sg}, Mt p s → Mt (ulP l p) (unlockS l s)
  | [], _, _, h => h
  | a :: l, _, _, h => by rw [unlockS_cons]; exact Mt.ul l (h.put a.1 a.2)
def kn : List AK → List Nat
  | [] => []
  | .s i :: ks => i :: kn ks
  | .v :: ks => kn ks
theorem kl_kn : ∀ (ks : List AK) (ds : List D), ds.length = ks.length → (kl ks ds).map (·.1) = kn ks
  | [], [], _ => rfl
  | .v :: ks, d :: ds, h1 => kl_kn ks ds (by simpa using h1)
  | .s i :: ks, d :: ds, h1 => by
    have := kl_kn ks ds (by simpa using h1)
    simp [kl, kn, this]
theorem ul_go : ∀ (L : List (Nat × D)) (p : Pt) (s : Sg), p.length = s.length → (∀ i d, gtP p i = some d → i ∈ L.map (·.1) ∨ s[i]? = some (some d)) → Mt (ulP L p) (unlockS L s)
  | [], p, s, l, h => ⟨l, fun i d e => (h i d e).elim (fun z => by cases z) id⟩
  | a :: L, p, s, l, h => by
    rw [unlockS_cons]
    refine ul_go L _ _ (by rw [stP_len, List.length_set, l]) fun i d e => ?_
    rw [gtP_stP] at e
    rw [List.getElem?_set]
    by_cases c : a.1 = i
    · right
      by_cases c2 : a.1 < p.length
      · rw [if_pos ⟨c, c2⟩] at e
        rw [if_pos c, if_pos (by omega), e]
      · rw [if_neg (by simp [c2])] at e
        exact absurd (by have : ∀ (p : Pt) (i : Nat) (d : D), gtP p i = some d → i < p.length := by
                            intro p
                            induction p with
                            | nil => intro i d h; cases h
                            | cons o p ih =>
                              intro i d h
                              cases i with
                              | zero => exact Nat.zero_lt_succ _
                              | succ i => exact Nat.succ_lt_succ (ih i d h)
                         rw [c]; exact this p i d e) c2
    · rw [if_neg (by simp [c])] at e
      rw [if_neg c]
      rcases h i d e with z | z
      · rw [List.map_cons] at z
        rcases List.mem_cons.mp z with z | z
        · exact absurd z.symm c
        · exact .inl z
      · exact .inr z
/-- a call: m is what the callee tells, its arguments as they are then -/
theorem x_call {f : Fn} {m : α → Option β} {rv : α → β → D} {as : α → β → List D} (h : XA p gs ks vs q F) (hn : nodupB (kn ks) = true)
    (hf : ∀ x z, m x = some z → f (vs x) = .ok (rv x z) (as x z)) (hl : ∀ x z, (as x z).length = (vs x).length) (L : α → β → List (Nat × D)) (hL : ∀ x z, kl ks (as x z) = L x z) :
    X true p (oCall f gs) (fun w : α × β => rv w.1 w.2) (fun w => ulP (L w.1 w.2) (q w.1)) (fun k => F fun x => (m x).bind fun z => k (x, z)) := fun k z e => by
  obtain ⟨x, e1, h⟩ := h _ z e
  obtain ⟨y, e2, e3⟩ := Option.bind_eq_some_iff.mp e1
  refine ⟨(x, y), e3, fun s mm => ?_⟩
  obtain ⟨rs, s2, b1, b2, b3⟩ := h s mm
  refine ⟨.val (rv x y), _, oCall_ok b1 (b3.rds b2) (by rw [b3.lks, kl_kn _ _ b3.len, hn]) (hf x y e2), ?_, .inl rfl⟩
  rw [b3.lks, b3.lkz (hl x y), hL]
  have ll : ∀ (L : List (Nat × D)) (s : Sg), (lockS L s).length = s.length := by
    intro L
    induction L with
    | nil => intro s; rfl
    | cons a L ih => intro s; rw [lockS_cons, ih, List.length_set]
  refine ul_go _ _ _ (by rw [ll, b2.len]) fun i d e => ?_
  by_cases c : i ∈ (L x y).map (·.1)
  · exact .inl c
  · right
    have k1 : (L x y).map (·.1) = kn ks := by rw [← hL, kl_kn _ _ (by rw [hl, b3.len])]
    have k2 : (kl ks (vs x)).map (·.1) = kn ks := kl_kn _ _ b3.len
    have lg : ∀ (L : List (Nat × D)) (s : Sg), i ∉ L.map (·.1) → (lockS L s)[i]? = s[i]? := by
      intro L
      induction L with
      | nil => intro s _; rfl
      | cons a L ih =>
        intro s h
        rw [List.map_cons] at h
        rw [lockS_cons, ih _ (fun z => h (List.mem_cons_of_mem _ z)), List.getElem?_set, if_neg (fun z => h (by rw [← z]; exact List.mem_cons_self ..))]
    rw [lg _ _ (by rw [k2, ← k1]; exact c)]
    exact b2.has i d e
/-- a call by which no list changes -/
theorem x_callP {f : Fn} {m : α → Option β} {rv : α → β → D} (h : XA p gs ks vs q F) (hn : nodupB (kn ks) = true)
    (hf : ∀ x z, m x = some z → f (vs x) = .ok (rv x z) (vs x)) :
    X true p (oCall f gs) (fun w : α × β => rv w.1 w.2) (fun w => q w.1) (fun k => F fun x => (m x).bind fun z => k (x, z)) := fun k z e => by
  obtain ⟨x, e1, h⟩ := h _ z e
  obtain ⟨y, e2, e3⟩ := Option.bind_eq_some_iff.mp e1
  refine ⟨(x, y), e3, fun s mm => ?_⟩
  obtain ⟨rs, s2, b1, b2, b3⟩ := h s mm
  refine ⟨.val (rv x y), _, oCall_ok b1 (b3.rds b2) (by rw [b3.lks, kl_kn _ _ b3.len, hn]) (hf x y e2), ?_, .inl rfl⟩
  rw [b3.lks, b3.lkz rfl]
  have key : ∀ (ks : List AK) (rs : List Rf) (ds : List D), Rk (q x) ks rs ds → ∀ i d, (i, d) ∈ kl ks ds → gtP (q x) i = some d := by
    intro ks
    induction ks with
    | nil => intro rs ds h i d hm; cases ds <;> simp [kl] at hm
    | cons a ks ih =>
      intro rs ds h i d hm
      cases a with
      | v =>
        cases rs with
        | nil => cases ds <;> exact h.elim
        | cons r rs => cases ds with
          | nil => exact h.elim
          | cons e ds => exact ih rs ds h.2 i d hm
      | s j =>
        cases rs with
        | nil => cases ds <;> exact h.elim
        | cons r rs => cases ds with
          | nil => exact h.elim
          | cons e ds =>
            rcases List.mem_cons.mp hm with z | z
            · cases z; exact h.1.2.1
            · exact ih rs ds h.2 i d z
  have kk := key ks rs (vs x) b3
  generalize kl ks (vs x) = L at kk
  clear key
  -- what is closed and opened again is as it was
  have go : ∀ (L : List (Nat × D)), (∀ i d, (i, d) ∈ L → gtP (q x) i = some d) → ∀ s', s'.length = (q x).length → (∀ i d, gtP (q x) i = some d → (i, d) ∈ L ∨ s'[i]? = some (some d)) → Mt (q x) (unlockS L s') := by
    intro L
    induction L with
    | nil => intro _ s' hl h; exact ⟨hl.symm, fun i d e => (h i d e).elim (fun z => by cases z) id⟩
    | cons a L ih =>
      intro hk s' hl h
      rw [unlockS_cons]
      refine ih (fun i d z => hk i d (List.mem_cons_of_mem _ z)) _ (by rw [List.length_set, hl]) fun i d e => ?_
      have ha := hk a.1 a.2 (List.mem_cons_self ..)
      rw [List.getElem?_set]
      by_cases c : a.1 = i
      · rw [if_pos c]
        rw [c, e] at ha
        cases ha
        have : i < s'.length := by
          have := b2.has i a.2 e
          have l2 := b2.len
          rcases Nat.lt_or_ge i s'.length with z | z
          · exact z
          · rw [List.getElem?_eq_none (by omega)] at this; cases this
        right
        rw [if_pos (by omega)]
      · rw [if_neg c]
        rcases h i d e with z | z
        · rcases List.mem_cons.mp z with z | z
          · exact absurd (by rw [← z]) c
          · exact .inl z
        · exact .inr z
  refine go L kk _ ?_ fun i d e => ?_
  · have : ∀ (L : List (Nat × D)) (s : Sg), (lockS L s).length = s.length := by
      intro L
      induction L with
      | nil => intro s; rfl
      | cons a L ih => intro s; rw [lockS_cons, ih, List.length_set]
    rw [this, b2.len]
  · have : ∀ (L : List (Nat × D)) (s : Sg), (∀ i d, (i, d) ∈ L → gtP (q x) i = some d) → s[i]? = some (some d) → (i, d) ∈ L ∨ (lockS L s)[i]? = some (some d) := by
      intro L
      induction L with
      | nil => intro s _ h; exact .inr h
      | cons a L ih =>
        intro s hk h
        rw [lockS_cons]
        by_cases c : a.1 = i
        · have ha := hk a.1 a.2 (List.mem_cons_self ..)
          rw [c, e] at ha
          cases ha
          left
          rw [← c]
          exact List.mem_cons_self ..
        · exact (ih (s.set a.1 none) (fun i d z => hk i d (List.mem_cons_of_mem _ z)) (by rw [List.getElem?_set, if_neg c]; exact h)).imp (List.mem_cons_of_mem _) id
    exact this L s2 kk (b2.has i d e)
end
end
end Sim
namespace Sim
open PySem PySem.Spec L2
section
variable {α β δ γ σ τ : Type}
theorem only {γ : Type} {β : Type} (z : γ) (y0 : β) : ∃ k : β → Option γ, k y0 = some z ∧ ∀ y, k y = some z → y = y0 := by
  classical
  refine ⟨fun y => if y = y0 then some z else none, by simp, fun y h => ?_⟩
  by_cases c : y = y0
  · exact c
  · simp [c] at h
def XT (p : Pt) (t : T) (b : α → Bool) (q : α → Pt) (F : (α → Option γ) → Option γ) : Prop :=
  ∀ k z, F k = some z → ∃ x, k x = some z ∧ ∀ s, Mt p s → ∃ s', t s = .ok (b x) s' ∧ Mt (q x) s'
section
variable {p : Pt} {g : O} {t u : T} {b : α → Bool} {q : α → Pt} {F : (α → Option γ) → Option γ} {vl : Bool} {v : α → D}
theorem xt_tst (h : X vl p g (fun x => .bool (b x)) q F) : XT p (tst g) b q F := fun k z e => by
  obtain ⟨x, e1, h⟩ := h k z e
  refine ⟨x, e1, fun s m => ?_⟩
  obtain ⟨r, s', h1, h2, h3⟩ := h s m
  exact ⟨s', by rw [ev_tst, h1, ev_ok, ev_tstK, h3.rd h2, ev_tstK2], h2⟩
theorem xt_tstA (h : X vl p g v q F) (ht : ∀ x, truD (v x) = some (b x)) : XT p (tstA g) b q F := fun k z e => by
  obtain ⟨x, e1, h⟩ := h k z e
  refine ⟨x, e1, fun s m => ?_⟩
  obtain ⟨r, s', h1, h2, h3⟩ := h s m
  exact ⟨s', by rw [ev_tstA, h1, ev_ok, ev_tstAK, h3.rd h2, ev_tstAK2, ht x, ev_tstAK3], h2⟩
theorem xt_not (h : XT p t b q F) : XT p (tNot t) (fun x => !b x) q F := fun k z e => by
  obtain ⟨x, e1, h⟩ := h k z e
  refine ⟨x, e1, fun s m => ?_⟩
  obtain ⟨s', h1, h2⟩ := h s m
  exact ⟨s', by rw [ev_tNot, h1, ev_ok, ev_tNotK], h2⟩
theorem xt_yes : XT (γ := γ) p tYesT (fun _ : Unit => true) (fun _ => p) (fun k => k ()) := fun k z e => ⟨(), e, fun s m => ⟨s, rfl, m⟩⟩
variable {c : α → β → Bool} {q2 : α → β → Pt}
/-- and, where the second part changes something -/
theorem xt_andM {F2 : α → (β → Option (Bool × σ)) → Option (Bool × σ)} (h : XT p t b q F) (h2 : ∀ x, XT (q x) u (c x) (q2 x) (F2 x)) (st1 : α → β → σ) (st0 : α → σ) (qs : α → σ → Pt) (w1 : ∀ x y, Wk (qs x (st1 x y)) (q2 x y)) (w0 : ∀ x, Wk (qs x (st0 x)) (q x)) :
    XT p (tAnd t u) (fun w : α × Bool × σ => w.2.1) (fun w => qs w.1 w.2.2) (fun k => F fun x => (if b x = true then F2 x (fun y => some (c x y, st1 x y)) else some (false, st0 x)).bind fun z => k (x, z)) := fun k z e => by
  obtain ⟨x, e1, h⟩ := h _ z e
  obtain ⟨w, e2, e3⟩ := Option.bind_eq_some_iff.mp e1
  refine ⟨(x, w), e3, fun s m => ?_⟩
  obtain ⟨s', a1, a2⟩ := h s m
  cases hb : b x with
  | true =>
    rw [if_pos hb] at e2
    obtain ⟨y, e4, h2⟩ := h2 x _ w e2
    obtain ⟨s2, b1, b2⟩ := h2 s' a2
    cases e4
    exact ⟨s2, by rw [ev_tAnd, a1, ev_ok, ev_tAndK, if_pos hb, b1], b2.wk (w1 x y)⟩
  | false =>
    rw [if_neg (by simp [hb])] at e2
    cases e2
    exact ⟨s', by rw [ev_tAnd, a1, ev_ok, ev_tAndK, if_neg (by simp [hb])], a2.wk (w0 x)⟩
end
section
variable {p : Pt} {g h' : O} {t : T} {b : α → Bool} {q : α → Pt} {F : (α → Option γ) → Option γ} {vl vl2 : Bool} {c : α → β → Bool}
end
section
variable {p : Pt} {g h' : O} {t : T} {b : α → Bool} {q : α → Pt} {F : (α → Option γ) → Option γ} {vl vl2 : Bool}
end
end
end Sim
namespace Sim
open PySem PySem.Spec L2
section
variable {α β δ γ σ τ ρ : Type}
def As (t : Tg) (d : D) (p p' : Pt) : Prop := ∀ s, Mt p s → ∃ s', asg t d s = some s' ∧ Mt p' s'
def Ass (l : List Tg) (ds : List D) (p p' : Pt) : Prop := ∀ s, Mt p s → ∃ s', asgs l ds s = some s' ∧ Mt p' s'
theorem as_nm {i : Nat} {d : D} {p : Pt} : As (.nm i) d p (stP p i (some d)) := fun s m => ⟨_, asg_nm i d s, m.put i d⟩
theorem as_tp {l : List Tg} {ds : List D} {p p' : Pt} (h : Ass l ds p p') : As (.tp l) (.tuple ds) p p' := fun s m => by
  obtain ⟨s', e, m'⟩ := h s m
  exact ⟨s', by rw [asg_tp, e], m'⟩
theorem ass_nil {p : Pt} : Ass [] [] p p := fun s m => ⟨s, asgs_nil s, m⟩
theorem ass_cons {t : Tg} {l : List Tg} {d : D} {ds : List D} {p p1 p2 : Pt} (h : As t d p p1) (h2 : Ass l ds p1 p2) : Ass (t :: l) (d :: ds) p p2 := fun s m => by
  obtain ⟨s', e, m'⟩ := h s m
  obtain ⟨s2, e2, m2⟩ := h2 s' m'
  exact ⟨s2, by rw [asgs_cons, e, asgsK_some, e2], m2⟩
def XI (p : Pt) (it : I) (ey : β → D) (ys : α → List β) (lk : α → List (Nat × D)) (q : α → Pt) (F : (α → Option γ) → Option γ) : Prop :=
  ∀ k z, F k = some z → ∃ x, k x = some z ∧ (∀ i d, (i, d) ∈ lk x → gtP (q x) i = some d) ∧ ∀ s, Mt p s → ∃ s1, it s = .ok ((ys x).map ey, lk x) (lockS (lk x) s1) ∧ Mt (q x) s1
theorem kl_has {p : Pt} : ∀ (ks : List AK) (rs : List Rf) (ds : List D), Rk p ks rs ds → ∀ i d, (i, d) ∈ kl ks ds → gtP p i = some d
  | [], [], [], _, i, d, hm => by cases hm
  | .v :: ks, r :: rs, e :: ds, h, i, d, hm => kl_has ks rs ds h.2 i d hm
  | .s j :: ks, r :: rs, e :: ds, h, i, d, hm => by
    rcases List.mem_cons.mp hm with z | z
    · cases z; exact h.1.2.1
    · exact kl_has ks rs ds h.2 i d z
section
variable {p : Pt} {gs : AL} {ks : List AK} {vs : α → List D} {q : α → Pt} {F : (α → Option γ) → Option γ} {itm : List D → Option (List D)} {ey : β → D}
theorem xi_mk {ys : α → List β} (h : XA p gs ks vs q F) (hn : nodupB (kn ks) = true) (hp : Pu ey) (hi : ∀ x, itm (vs x) = some ((ys x).map ey)) (hM : Nonempty Sg := ⟨[]⟩) :
    XI p (mkI itm gs) ey ys (fun x => kl ks (vs x)) q F := fun k z e => by
  obtain ⟨x, e1, h⟩ := h k z e
  by_cases c : ∃ s, Mt p s
  · obtain ⟨s0, m0⟩ := c
    refine ⟨x, e1, ?_, fun s m => ?_⟩
    · obtain ⟨rs, s', a1, a2, a3⟩ := h s0 m0
      exact kl_has ks rs (vs x) a3
    · obtain ⟨rs, s', a1, a2, a3⟩ := h s m
      refine ⟨s', ?_, a2⟩
      rw [ev_mkI, a1, ev_ok, ev_mkIK, a3.rds a2, ev_mkIK2, hi x, ev_mkIK3, a3.lks, kl_kn _ _ a3.len, if_pos ⟨purs_pu hp _, hn⟩]
  · exfalso
    exact c (by
      refine ⟨p, Mt.refl p⟩)
theorem xi_mkP {ys : α → δ → List β} {m : α → Option δ} (h : XA p gs ks vs q F) (hn : nodupB (kn ks) = true) (hp : Pu ey) (hi : ∀ x z, m x = some z → itm (vs x) = some ((ys x z).map ey)) :
    XI p (mkI itm gs) ey (fun w : α × δ => ys w.1 w.2) (fun w => kl ks (vs w.1)) (fun w => q w.1) (fun k => F fun x => (m x).bind fun z => k (x, z)) := fun k z e => by
  obtain ⟨x, e1, h⟩ := h _ z e
  obtain ⟨y, e2, e3⟩ := Option.bind_eq_some_iff.mp e1
  refine ⟨(x, y), e3, ?_, fun s m => ?_⟩
  · obtain ⟨rs, s', a1, a2, a3⟩ := h p (Mt.refl p)
    exact kl_has ks rs (vs x) a3
  · obtain ⟨rs, s', a1, a2, a3⟩ := h s m
    refine ⟨s', ?_, a2⟩
    rw [ev_mkI, a1, ev_ok, ev_mkIK, a3.rds a2, ev_mkIK2, hi x y e2, ev_mkIK3, a3.lks, kl_kn _ _ a3.len, if_pos ⟨purs_pu hp _, hn⟩]
end
def B (p : Pt) (g : S) (m : Option γ) (Q : γ → Fl → Sg → Prop) : Prop := ∀ z, m = some z → ∀ s, Mt p s → ∃ fl s', g s = .ok fl s' ∧ Q z fl s'
inductive Lf (σ ρ : Type) where
  | go (x : σ) | brk (x : σ) | ret (z : ρ)
def Lf.on (w : Lf σ ρ) (f : σ → τ) (g : ρ → τ) : τ := match w with
  | .go x => f x
  | .brk x => f x
  | .ret z => g z
@[simp] theorem Lf.on_go (x : σ) (f : σ → τ) (g : ρ → τ) : (Lf.go x : Lf σ ρ).on f g = f x := rfl
@[simp] theorem Lf.on_brk (x : σ) (f : σ → τ) (g : ρ → τ) : (Lf.brk x : Lf σ ρ).on f g = f x := rfl
@[simp] theorem Lf.on_ret (z : ρ) (f : σ → τ) (g : ρ → τ) : (Lf.ret z : Lf σ ρ).on f g = g z := rfl
def Qn (q : γ → Pt) : γ → Fl → Sg → Prop := fun z fl s => fl = .nx ∧ Mt (q z) s
def QF (rv : γ → D) (q : γ → Pt) : γ → Fl → Sg → Prop := fun z fl s => (fl = .rt (rv z) ∨ (fl = .nx ∧ rv z = .none)) ∧ Mt (q z) s
def Qc (q : σ → Pt) : σ → Fl → Sg → Prop := fun z fl s => (fl = .nx ∨ fl = .ct) ∧ Mt (q z) s
def QL (qb : σ → Pt) (rv : ρ → D) (qi : ρ → Pt) : Lf σ ρ → Fl → Sg → Prop
  | .go x, fl, s => (fl = .nx ∨ fl = .ct) ∧ Mt (qb x) s
  | .brk x, fl, s => fl = .bk ∧ Mt (qb x) s
  | .ret z, fl, s => fl = .rt (rv z) ∧ Mt (qi z) s
theorem B.cv {p : Pt} {g : S} {m m' : Option γ} {Q : γ → Fl → Sg → Prop} (h : B p g m Q) (e : m = m') : B p g m' Q := e ▸ h
section
variable {p : Pt} {g h th el rest : S} {m : Option γ} {Q : γ → Fl → Sg → Prop}
theorem seq_skip (g : S) (s : Sg) : sSeq g sSkip s = g s := by
  rw [ev_sSeq]
  cases h : g s with
  | ok fl s1 => cases fl <;> rfl
  | exc c v s1 => rfl
  | bad => rfl
theorem seq_asc (a b c : S) (s : Sg) : sSeq (sSeq a b) c s = sSeq a (sSeq b c) s := by
  rw [ev_sSeq, ev_sSeq, ev_sSeq]
  cases h : a s with
  | ok fl s1 => cases fl <;> rfl
  | exc c v s1 => rfl
  | bad => rfl
theorem b_last (h : B p (sSeq g sSkip) m Q) : B p g m Q := fun z e s mm => by
  obtain ⟨fl, s', h1, h2⟩ := h z e s mm
  exact ⟨fl, s', by rw [← h1, seq_skip], h2⟩
theorem b_asc {a b c : S} (h : B p (sSeq a (sSeq b c)) m Q) : B p (sSeq (sSeq a b) c) m Q := fun z e s mm => by
  obtain ⟨fl, s', h1, h2⟩ := h z e s mm
  exact ⟨fl, s', by rw [← h1, seq_asc], h2⟩
theorem b_skip (h : B p rest m Q) : B p (sSeq sSkip rest) m Q := fun z e s mm => by
  obtain ⟨fl, s', h1, h2⟩ := h z e s mm
  exact ⟨fl, s', h1, h2⟩
theorem b_end {q : γ → Pt} {z : γ} (w : Wk (q z) p) : B p sSkip (some z) (Qn q) := fun z' e s mm => by cases e; exact ⟨.nx, s, rfl, rfl, mm.wk w⟩
theorem b_endC {q : γ → Pt} {z : γ} (w : Wk (q z) p) : B p sSkip (some z) (Qc q) := fun z' e s mm => by cases e; exact ⟨.nx, s, rfl, .inl rfl, mm.wk w⟩
theorem b_endL {qb : σ → Pt} {rv : ρ → D} {qi : ρ → Pt} {z : σ} (w : Wk (qb z) p) : B p sSkip (some (.go z)) (QL qb rv qi) := fun z' e s mm => by cases e; exact ⟨.nx, s, rfl, .inl rfl, mm.wk w⟩
section
variable {e : O} {v : α → D} {q : α → Pt} {F : (α → Option γ) → Option γ} {vl : Bool} {M : α → Option γ} {i : Nat}
theorem b_set (h : X vl p e v q F) (c : vl = true ∨ ∀ x, pur (v x) = true) (hr : ∀ x, B (stP (q x) i (some (v x))) rest (M x) Q) : B p (sSeq (sSet i e) rest) (F M) Q := fun z e0 s mm => by
  obtain ⟨x, e1, h⟩ := h M z e0
  obtain ⟨r, s1, a1, a2, a3⟩ := h s mm
  obtain ⟨fl, s', h1, h2⟩ := hr x z e1 _ (a2.put i (v x))
  refine ⟨fl, s', ?_, h2⟩
  rw [ev_sSeq, ev_sSet, a1, ev_ok, ev_asgK, a3.own a2 (c.imp id fun c => c x), ev_asgK2, asg_nm, ev_asgK3, ev_ok, ev_seqK_nx, h1]
theorem b_setL {τ : Type} (e1 : τ → D) {vv : α → τ} {M : α → τ → Option γ} (h : X vl p e (fun x => e1 (vv x)) q F) (c : vl = true ∨ ∀ x, pur (e1 (vv x)) = true) (hr : ∀ x y, B (stP (q x) i (some (e1 y))) rest (M x y) Q) : B p (sSeq (sSet i e) rest) (F fun x => (some (vv x)).bind (M x)) Q :=
  b_set h c fun x => hr x (vv x)
theorem b_asg {t : Tg} {p' : α → Pt} (h : X vl p e v q F) (c : vl = true ∨ ∀ x, pur (v x) = true) (ha : ∀ x, As t (v x) (q x) (p' x)) (hr : ∀ x, B (p' x) rest (M x) Q) : B p (sSeq (sAsg t e) rest) (F M) Q := fun z e0 s mm => by
  obtain ⟨x, e1, h⟩ := h M z e0
  obtain ⟨r, s1, a1, a2, a3⟩ := h s mm
  obtain ⟨s2, b1, b2⟩ := ha x s1 a2
  obtain ⟨fl, s', h1, h2⟩ := hr x z e1 _ b2
  refine ⟨fl, s', ?_, h2⟩
  rw [ev_sSeq, ev_sAsg, a1, ev_ok, ev_asgK, a3.own a2 (c.imp id fun c => c x), ev_asgK2, b1, ev_asgK3, ev_ok, ev_seqK_nx, h1]
theorem b_expr (h : X vl p e v q F) (hr : ∀ x, B (q x) rest (M x) Q) : B p (sSeq (sExpr e) rest) (F M) Q := fun z e0 s mm => by
  obtain ⟨x, e1, h⟩ := h M z e0
  obtain ⟨r, s1, a1, a2, a3⟩ := h s mm
  obtain ⟨fl, s', h1, h2⟩ := hr x z e1 _ a2
  refine ⟨fl, s', ?_, h2⟩
  rw [ev_sSeq, ev_sExpr, a1, ev_ok, ev_exprK, ev_ok, ev_seqK_nx, h1]
theorem b_par {l : List Nat} {gs : AL} {ks : List AK} {vs : α → List D} (h : XA p gs ks vs q F) (hk : ks.all AK.isV = true) (hl : ∀ x, (vs x).length = l.length) {p' : α → Pt} (hp : ∀ x s, Mt (q x) s → Mt (p' x) (putAll l (vs x) s))
    (hr : ∀ x, B (p' x) rest (M x) Q) : B p (sSeq (sPar l gs) rest) (F M) Q := fun z e0 s mm => by
  obtain ⟨x, e1, h⟩ := h M z e0
  obtain ⟨rs, s1, a1, a2, a3⟩ := h s mm
  obtain ⟨fl, s', h1, h2⟩ := hr x z e1 _ (hp x s1 a2)
  refine ⟨fl, s', ?_, h2⟩
  have : sPar l gs s = .ok .nx (putAll l (vs x) s1) := by
    unfold sPar
    rw [a1, ev_ok]
    simp only [a3.owns a2 (kv hk)]
    rw [if_pos (hl x)]
  rw [ev_sSeq, this, ev_ok, ev_seqK_nx, h1]
theorem put2 {i j : Nat} {a b : D} {p : Pt} : ∀ s, Mt p s → Mt (stP (stP p i (some a)) j (some b)) (putAll [i, j] [a, b] s) := fun s m => (m.put i a).put j b
theorem b_ret {lk : Nat → Bool} (h : X vl p e v q F) (R : α → γ) (c : vl = true ∨ ∀ x, pur (v x) = true) (hQ : ∀ x s, Mt (q x) s → Q (R x) (.rt (v x)) s) : B p (sSeq (sRet lk e) rest) (F fun x => some (R x)) Q := fun z e0 s mm => by
  obtain ⟨x, e1, h⟩ := h _ z e0
  cases e1
  obtain ⟨r, s1, a1, a2, a3⟩ := h s mm
  refine ⟨.rt (v x), s1, ?_, hQ x s1 a2⟩
  rw [ev_sSeq, ev_sRet, a1, ev_ok]
  rcases a3 with rfl | ⟨hv, i, rfl, hg⟩
  · rfl
  · rcases c with c | c
    · rw [hv] at c; cases c
    · rw [ev_retK_slot, a2.get hg, ev_retK2, if_pos (.inl (c x))]; rfl
/-- a list of one's own is given -/
theorem b_retS {lk : Nat → Bool} {d : D} {R : γ} (h : gtP p i = some d) (hl : lk i = false) (hQ : ∀ s, Mt p s → Q R (.rt d) s) : B p (sSeq (sRet lk (oV i)) rest) (some R) Q := fun z e0 s mm => by
  cases e0
  refine ⟨.rt d, s, ?_, hQ s mm⟩
  rw [ev_sSeq, ev_sRet, ev_oV, mm.get h, ev_oVK, ev_ok, ev_retK_slot, mm.get h, ev_retK2, if_pos (.inr hl)]; rfl
theorem qf_ret {rv : γ → D} {q : γ → Pt} {z : γ} {d : D} (e : d = rv z) (w : Wk (q z) p) : ∀ s, Mt p s → QF rv q z (.rt d) s := fun s m => ⟨.inl (by rw [e]), m.wk w⟩
theorem ql_ret {qb : σ → Pt} {rv : ρ → D} {qi : ρ → Pt} {z : ρ} {d : D} (e : d = rv z) (w : Wk (qi z) p) : ∀ s, Mt p s → QL qb rv qi (.ret z) (.rt d) s := fun s m => ⟨by rw [e], m.wk w⟩
/-- x[k] = e -/
def setT (xs : List τ) (k : Int) (v : τ) : Option (List τ) := (ixN xs.length k).map fun j => xs.set j v
theorem b_setIx {ga : O} {e1 : τ → D} {vx : α → τ} {β : Type} {vk : α → β → Int} {q2 : α → β → Pt} {F2 : α → (β → Option γ) → Option γ} {xs : α → β → List τ} {M : α → β → List τ → Option γ} {vl2 : Bool}
    (h : X vl p e (fun x => e1 (vx x)) q F) (hp : Pu e1) (hi : ∀ x, ∃ d, gtP (q x) i = some d) (h2 : ∀ x, X vl2 (q x) ga (fun y => .int (vk x y)) (q2 x) (F2 x)) (hv : ∀ x y, vl = true ∨ q2 x y = q x) (hi2 : ∀ x y, gtP (q2 x y) i = some (eL e1 (xs x y)))
    (hr : ∀ x y ys, B (stP (q2 x y) i (some (eL e1 ys))) rest (M x y ys) Q) : B p (sSeq (sSetIx i ga e) rest) (F fun x => F2 x fun y => (setT (xs x y) (vk x y) (vx x)).bind (M x y)) Q := fun z e0 s mm => by
  obtain ⟨x, e2, h⟩ := h _ z e0
  obtain ⟨y, e3, h2⟩ := h2 x _ z e2
  obtain ⟨ys, e4, e5⟩ := Option.bind_eq_some_iff.mp e3
  obtain ⟨r, s1, a1, a2, a3⟩ := h s mm
  obtain ⟨r2, s2, b1, b2, b3⟩ := h2 s1 a2
  unfold setT at e4
  obtain ⟨j, e6, e7⟩ := Option.map_eq_some_iff.mp e4
  have b4 := b2.put i (eL e1 ys)
  obtain ⟨fl, s', h1, h2⟩ := hr x y ys z e5 _ b4
  refine ⟨fl, s', ?_, h2⟩
  obtain ⟨d0, hd0⟩ := hi x
  have o : own r s2 = some (e1 (vx x)) := by
    rcases hv x y with c | c
    · rcases a3 with rfl | ⟨c2, _⟩
      · rfl
      · rw [c] at c2; cases c2
    · rw [c] at b2
      exact Rd.own a3 b2 (.inr (hp _))
  have l : (List.map e1 (xs x y)).length = (xs x y).length := by simp
  rw [ev_sSeq, ev_sSetIx, a1, ev_ok, ev_ixK, ev_oV, a2.get hd0, ev_oVK, ev_ok, ev_ixK1, b1, ev_ok, ev_ixK2, o, b3.rd b2, b2.get (hi2 x y)]
  show ((ixK3 i s2 (some (e1 (vx x))) (some (.int (vk x y))) (some (.list ((xs x y).map e1)))).bind (seqK rest)) = _
  rw [ev_ixK3, if_pos (hp _), l, e6, ev_ixK4, ev_ok, ev_seqK_nx, ← h1]
  refine congrArg rest (congrArg (fun d => s2.set i (some d)) ?_)
  rw [← e7, eL, List.map_set]
end
section
variable {t : T} {b : α → Bool} {q : α → Pt} {F : (α → Option γ) → Option γ}
/-- what is behind stands behind both -/
theorem b_if {m1 m2 : α → Option γ} (h : XT p t b q F) (h1 : ∀ x, B (q x) (sSeq th rest) (m1 x) Q) (h2 : ∀ x, B (q x) (sSeq el rest) (m2 x) Q) :
    B p (sSeq (sIf t th el) rest) (F fun x => if b x = true then m1 x else m2 x) Q := fun z e0 s mm => by
  obtain ⟨x, e1, h⟩ := h _ z e0
  obtain ⟨s1, a1, a2⟩ := h s mm
  cases hb : b x with
  | true =>
    rw [if_pos hb] at e1
    obtain ⟨fl, s', b1, b2⟩ := h1 x z e1 s1 a2
    refine ⟨fl, s', ?_, b2⟩
    rw [ev_sSeq, ev_sIf, a1, ev_ok, ev_ifK, if_pos hb, ← b1, ev_sSeq]
  | false =>
    rw [if_neg (by simp [hb])] at e1
    obtain ⟨fl, s', b1, b2⟩ := h2 x z e1 s1 a2
    refine ⟨fl, s', ?_, b2⟩
    rw [ev_sSeq, ev_sIf, a1, ev_ok, ev_ifK, if_neg (by simp [hb]), ← b1, ev_sSeq]
/-- both go on, with the same names told -/
theorem b_ifj {m1 m2 : α → Option τ} {M : α → τ → Option γ} (h : XT p t b q F) (qj : α → τ → Pt) (h1 : ∀ x, B (q x) th (m1 x) (Qn (qj x))) (h2 : ∀ x, B (q x) el (m2 x) (Qn (qj x)))
    (hr : ∀ x y, B (qj x y) rest (M x y) Q) : B p (sSeq (sIf t th el) rest) (F fun x => (if b x = true then m1 x else m2 x).bind (M x)) Q := fun z e0 s mm => by
  obtain ⟨x, e1, h⟩ := h _ z e0
  obtain ⟨y, e2, e3⟩ := Option.bind_eq_some_iff.mp e1
  obtain ⟨s1, a1, a2⟩ := h s mm
  cases hb : b x with
  | true =>
    rw [if_pos hb] at e2
    obtain ⟨fl, s2, b1, b2, b3⟩ := h1 x y e2 s1 a2
    subst b2
    obtain ⟨fl, s', c1, c2⟩ := hr x y z e3 s2 b3
    refine ⟨fl, s', ?_, c2⟩
    rw [ev_sSeq, ev_sIf, a1, ev_ok, ev_ifK, if_pos hb, b1, ev_ok, ev_seqK_nx, c1]
  | false =>
    rw [if_neg (by simp [hb])] at e2
    obtain ⟨fl, s2, b1, b2, b3⟩ := h2 x y e2 s1 a2
    subst b2
    obtain ⟨fl, s', c1, c2⟩ := hr x y z e3 s2 b3
    refine ⟨fl, s', ?_, c2⟩
    rw [ev_sSeq, ev_sIf, a1, ev_ok, ev_ifK, if_neg (by simp [hb]), b1, ev_ok, ev_seqK_nx, c1]
end
def lpN (F : σ → β → Option σ) : List β → σ → Option σ
  | [], s => some s
  | y :: ys, s => (F s y).bind (lpN F ys)
def lpR (F : σ → β → Option (Lf σ ρ)) : List β → σ → Option (Lf σ ρ)
  | [], s => some (.go s)
  | y :: ys, s => (F s y).bind fun w => match w with
    | .go s => lpR F ys s
    | .brk s => some (.go s)
    | .ret z => some (.ret z)
theorem loop_N {t : Tg} {g : S} {ey : β → D} {qb : σ → Pt} {pb : σ → β → Pt} {mb : σ → β → Option σ} (hT : ∀ x y, As t (ey y) (qb x) (pb x y)) (hb : ∀ x y, B (pb x y) g (mb x y) (Qc qb)) :
    ∀ (ys : List β) (x x' : σ) (s : Sg), lpN mb ys x = some x' → Mt (qb x) s → ∃ s', loopS t g (ys.map ey) s = .ok .nx s' ∧ Mt (qb x') s'
  | [], x, x', s, e, m => by cases e; exact ⟨s, rfl, m⟩
  | y :: ys, x, x', s, e, m => by
    obtain ⟨x1, e1, e2⟩ := Option.bind_eq_some_iff.mp e
    obtain ⟨s1, a1, a2⟩ := hT x y s m
    obtain ⟨fl, s2, b1, b2, b3⟩ := hb x y x1 e1 s1 a2
    obtain ⟨s', c1, c2⟩ := loop_N hT hb ys x1 x' s2 e2 b3
    refine ⟨s', ?_, c2⟩
    rw [List.map_cons, loop_cons, a1, loopK1_some, b1, ev_ok]
    rcases b2 with rfl | rfl <;> exact c1
theorem loop_R {t : Tg} {g : S} {ey : β → D} {qb : σ → Pt} {pb : σ → β → Pt} {mb : σ → β → Option (Lf σ ρ)} {rv : ρ → D} {qi : ρ → Pt} (hT : ∀ x y, As t (ey y) (qb x) (pb x y)) (hb : ∀ x y, B (pb x y) g (mb x y) (QL qb rv qi)) :
    ∀ (ys : List β) (x : σ) (w : Lf σ ρ) (s : Sg), lpR mb ys x = some w → Mt (qb x) s → (∃ x' s', w = .go x' ∧ loopS t g (ys.map ey) s = .ok .nx s' ∧ Mt (qb x') s') ∨ (∃ z s', w = .ret z ∧ loopS t g (ys.map ey) s = .ok (.rt (rv z)) s' ∧ Mt (qi z) s')
  | [], x, x', s, e, m => by cases e; exact .inl ⟨x, s, rfl, rfl, m⟩
  | y :: ys, x, x', s, e, m => by
    obtain ⟨w, e1, e2⟩ := Option.bind_eq_some_iff.mp e
    obtain ⟨s1, a1, a2⟩ := hT x y s m
    obtain ⟨fl, s2, b1, b2⟩ := hb x y w e1 s1 a2
    cases w with
    | go x1 =>
      have ih := loop_R hT hb ys x1 x' s2 e2 b2.2
      have key : loopS t g ((y :: ys).map ey) s = loopS t g (ys.map ey) s2 := by
        rw [List.map_cons, loop_cons, a1, loopK1_some, b1, ev_ok]
        rcases b2.1 with rfl | rfl <;> rfl
      rw [key]
      exact ih
    | brk x1 =>
      cases e2
      refine .inl ⟨x1, s2, rfl, ?_, b2.2⟩
      rw [List.map_cons, loop_cons, a1, loopK1_some, b1, ev_ok, b2.1]; rfl
    | ret z =>
      cases e2
      refine .inr ⟨z, s2, rfl, ?_, b2.2⟩
      rw [List.map_cons, loop_cons, a1, loopK1_some, b1, ev_ok, b2.1]; rfl
section
variable {it : I} {ey : β → D} {ys : α → List β} {lk : α → List (Nat × D)} {q : α → Pt} {F : (α → Option γ) → Option γ} {lkf : Nat → Bool} {t : Tg} {pb : α → σ → β → Pt}
theorem b_for {mb : α → σ → β → Option σ} {M : α → σ → Option γ} (h : XI p it ey ys lk q F) (qb : α → σ → Pt) (s0 : α → σ) (hl : ∀ x, ((lk x).all fun q => lkf q.1) = true) (h0 : ∀ x, Wk (qb x (s0 x)) (lkP (lk x) (q x)))
    (hT : ∀ x s y, As t (ey y) (qb x s) (pb x s y)) (hb : ∀ x s y, B (pb x s y) g (mb x s y) (Qc (qb x))) (hr : ∀ x s, B (ulP (lk x) (qb x s)) rest (M x s) Q) :
    B p (sSeq (sFor lkf it t g) rest) (F fun x => (lpN (fun s y => mb x s y) (ys x) (s0 x)).bind (M x)) Q := fun z e0 s mm => by
  obtain ⟨x, e1, hx, h⟩ := h _ z e0
  obtain ⟨s1, a1, a2⟩ := h s mm
  obtain ⟨x', e2, e3⟩ := Option.bind_eq_some_iff.mp e1
  obtain ⟨s2, b1, b2⟩ := loop_N (hT x) (hb x) (ys x) (s0 x) x' _ e2 ((a2.lk _).wk (h0 x))
  obtain ⟨fl, s', c1, c2⟩ := hr x x' z e3 _ (b2.ul (lk x))
  refine ⟨fl, s', ?_, c2⟩
  rw [ev_sSeq, for_ok a1 (hl x) b1, ev_ok, ev_seqK_nx, c1]
theorem b_forR {mb : α → σ → β → Option (Lf σ ρ)} {M : α → σ → Option γ} (h : XI p it ey ys lk q F) (qb : α → σ → Pt) (s0 : α → σ) (rv : ρ → D) (qi : α → ρ → Pt) (R : ρ → γ) (hl : ∀ x, ((lk x).all fun q => lkf q.1) = true) (h0 : ∀ x, Wk (qb x (s0 x)) (lkP (lk x) (q x)))
    (hT : ∀ x s y, As t (ey y) (qb x s) (pb x s y)) (hb : ∀ x s y, B (pb x s y) g (mb x s y) (QL (qb x) rv (qi x))) (hR : ∀ x z s, Mt (ulP (lk x) (qi x z)) s → Q (R z) (.rt (rv z)) s) (hr : ∀ x s, B (ulP (lk x) (qb x s)) rest (M x s) Q) :
    B p (sSeq (sFor lkf it t g) rest) (F fun x => (lpR (fun s y => mb x s y) (ys x) (s0 x)).bind fun w => w.on (M x) (fun z => some (R z))) Q := fun z e0 s mm => by
  obtain ⟨x, e1, hx, h⟩ := h _ z e0
  obtain ⟨s1, a1, a2⟩ := h s mm
  obtain ⟨w, e2, e3⟩ := Option.bind_eq_some_iff.mp e1
  rcases loop_R (hT x) (hb x) (ys x) (s0 x) w _ e2 ((a2.lk _).wk (h0 x)) with ⟨x', s2, rfl, b1, b2⟩ | ⟨z', s2, rfl, b1, b2⟩
  · obtain ⟨fl, s', c1, c2⟩ := hr x x' z e3 _ (b2.ul (lk x))
    refine ⟨fl, s', ?_, c2⟩
    rw [ev_sSeq, for_ok a1 (hl x) b1, ev_ok, ev_seqK_nx, c1]
  · cases e3
    refine ⟨.rt (rv z'), _, ?_, hR x z' _ (b2.ul (lk x))⟩
    rw [ev_sSeq, for_ok a1 (hl x) b1, ev_ok, ev_seqK_rt]
end
end
def lpW (F : σ → Option (Option (Lf σ ρ))) : Nat → σ → Option (Lf σ ρ)
  | 0, _ => none
  | n + 1, s => (F s).bind fun o => match o with
    | none => some (.go s)
    | some (.go s) => lpW F n s
    | some (.brk s) => some (.go s)
    | some (.ret z) => some (.ret z)
theorem while_W {t : T} {g : S} {qb : σ → Pt} {rv : ρ → D} {qi : ρ → Pt} {cv : σ → α → Bool} {Fc : σ → (α → Option (Option (Lf σ ρ))) → Option (Option (Lf σ ρ))} {mb : σ → α → Option (Lf σ ρ)}
    (hT : ∀ s, XT (qb s) t (cv s) (fun _ => qb s) (Fc s)) (hb : ∀ s x, B (qb s) g (mb s x) (QL qb rv qi)) :
    ∀ (n : Nat) (x : σ) (w : Lf σ ρ) (s : Sg), lpW (fun s => Fc s fun x => if cv s x = true then (mb s x).bind fun w => some (some w) else some none) n x = some w → Mt (qb x) s →
      (∃ x' s', w = .go x' ∧ sWhile t g n s = .ok .nx s' ∧ Mt (qb x') s') ∨ (∃ z s', w = .ret z ∧ sWhile t g n s = .ok (.rt (rv z)) s' ∧ Mt (qi z) s')
  | 0, _, _, _, e, _ => by cases e
  | n + 1, x, w, s, e, m => by
    obtain ⟨o, e1, e2⟩ := Option.bind_eq_some_iff.mp e
    obtain ⟨y, e3, h⟩ := hT x _ _ e1
    obtain ⟨s1, a1, a2⟩ := h s m
    cases hc : cv x y with
    | false =>
      rw [if_neg (by simp [hc])] at e3
      cases e3
      cases e2
      exact .inl ⟨x, s1, rfl, by rw [sWhile]; simp only [a1, hc, ev_ok, Bool.false_eq_true, if_false], a2⟩
    | true =>
      rw [if_pos hc] at e3
      obtain ⟨w1, e4, e5⟩ := Option.bind_eq_some_iff.mp e3
      cases e5
      obtain ⟨fl, s2, b1, b2⟩ := hb x y w1 e4 s1 a2
      cases w1 with
      | go x1 =>
        have ih := while_W hT hb n x1 w s2 e2 b2.2
        have key : sWhile t g (n + 1) s = sWhile t g n s2 := by
          rw [sWhile]
          simp only [a1, hc, ev_ok, if_true, b1]
          rcases b2.1 with rfl | rfl <;> rfl
        rw [key]
        exact ih
      | brk x1 =>
        cases e2
        exact .inl ⟨x1, s2, rfl, by rw [sWhile]; simp only [a1, hc, ev_ok, if_true, b1, b2.1], b2.2⟩
      | ret z =>
        cases e2
        exact .inr ⟨z, s2, rfl, by rw [sWhile]; simp only [a1, hc, ev_ok, if_true, b1, b2.1], b2.2⟩
theorem b_while {p : Pt} {g rest : S} {Q : γ → Fl → Sg → Prop} {t : T} {n : Nat} {cv : σ → α → Bool} {Fc : σ → (α → Option (Option (Lf σ ρ))) → Option (Option (Lf σ ρ))} {mb : σ → α → Option (Lf σ ρ)} {M : σ → Option γ}
    (qb : σ → Pt) (s0 : σ) (rv : ρ → D) (qi : ρ → Pt) (R : ρ → γ) (h0 : Wk (qb s0) p) (hT : ∀ s, XT (qb s) t (cv s) (fun _ => qb s) (Fc s)) (hb : ∀ s x, B (qb s) g (mb s x) (QL qb rv qi)) (hR : ∀ z s, Mt (qi z) s → Q (R z) (.rt (rv z)) s) (hr : ∀ s, B (qb s) rest (M s) Q) :
    B p (sSeq (sWhile t g n) rest) ((lpW (fun s => Fc s fun x => if cv s x = true then (mb s x).bind fun w => some (some w) else some none) n s0).bind fun w => w.on M (fun z => some (R z))) Q := fun z e0 s mm => by
  obtain ⟨w, e2, e3⟩ := Option.bind_eq_some_iff.mp e0
  rcases while_W hT hb n s0 w s e2 (mm.wk h0) with ⟨x', s2, rfl, b1, b2⟩ | ⟨z', s2, rfl, b1, b2⟩
  · obtain ⟨fl, s', c1, c2⟩ := hr x' z e3 _ b2
    exact ⟨fl, s', by rw [ev_sSeq, b1, ev_ok, ev_seqK_nx, c1], c2⟩
  · cases e3
    exact ⟨.rt (rv z'), _, by rw [ev_sSeq, b1, ev_ok, ev_seqK_rt], hR z' _ b2⟩
theorem puL {e : α → D} {xs : List α} : pur (eL e xs) = false := pur_list _
theorem fn_t {ms : List Nat} {n : Nat} {g : S} {ds : List D} {p0 : Pt} {m : Option γ} {rv : γ → D} {q : γ → Pt} {outs : γ → List D} (hb : B p0 g m (QF rv q)) (h0 : ds.map some ++ List.replicate (n - ds.length) none = p0) (h1 : okM ms ds = true)
    (h2 : ∀ z s, Mt (q z) s → coll ms ds 0 s = some (outs z)) : ∀ z, m = some z → mkFn ms n g ds = .ok (rv z) (outs z) := fun z e => by
  obtain ⟨fl, s', a1, a2, a3⟩ := hb z e p0 (Mt.refl _)
  rw [← h0] at a1
  rcases a2 with rfl | ⟨rfl, e2⟩
  · exact mkFn_rt h1 a1 (h2 z s' a3)
  · rw [e2]; exact mkFn_nx h1 a1 (h2 z s' a3)
theorem coll_nilP {p : Pt} {j : Nat} : ∀ s, Mt p s → coll [] [] j s = some [] := fun s _ => rfl
theorem coll_0P {p : Pt} {j : Nat} {ms : List Nat} {d d' : D} {ds as : List D} (h : gtP p j = some d') (h2 : ∀ s, Mt p s → coll ms ds (j + 1) s = some as) : ∀ s, Mt p s → coll (0 :: ms) (d :: ds) j s = some (d' :: as) := fun s m => by
  rw [coll_0, m.get h, h2 s m]; rfl
end
end Sim
namespace Sim
open PySem PySem.Spec L2
def lim {α : Type} (n : Nat) (m : Option α) : Option α := if n ≤ 1000000 then m else none
theorem lim_of {α : Type} {n : Nat} {m : Option α} (h : n ≤ 1000000) : lim n m = m := if_pos h
section
variable {α β δ γ σ τ ρ ε ζ : Type}
section
variable {p : Pt} {g : O} {lo hi st : Option O} {v : α → D} {q : α → Pt} {F : (α → Option γ) → Option γ} {vl : Bool} {l : α → β → Option Int} {F1 : α → (β → Option γ) → Option γ}
  {u : α → β → δ → Option Int} {F2 : α → β → (δ → Option γ) → Option γ}
end
section
variable {p : Pt} {g : O} {lo hi st : Option O} {v : α → D} {q : α → Pt} {F : (α → Option γ) → Option γ} {vl : Bool} {l : α → β → Option Int} {F1 : α → (β → Option γ) → Option γ}
  {u : α → β → δ → Option Int} {F2 : α → β → (δ → Option γ) → Option γ}
end
theorem x_ten {p : Pt} (n : Nat) (h1 : 2 ≤ n) (h2 : n ≤ 100000) : X (γ := γ) true p (oTen n) (fun _ : Unit => .int (tenN n)) (fun _ => p) (fun k => k ()) :=
  fun k z e => ⟨(), e, fun s m => ⟨_, s, ev_ten n h1 h2 s, m, .inl rfl⟩⟩
theorem x_mt {p : Pt} {gs : AL} {ks : List AK} {vs : α → List D} {q : α → Pt} {F : (α → Option γ) → Option γ} {f : List D → List D → Option (List D × D)} {i : Nat} {e : τ → D} {x0 : List τ} {xs : α → List τ} {m : α → Option β} {xs' : α → β → List τ} {rv : α → β → D}
    (h0 : gtP p i = some (eL e x0)) (h : XA p gs ks vs q F) (hk : ks.all AK.isV = true) (h1 : ∀ x, gtP (q x) i = some (eL e (xs x))) (hf : ∀ x z, m x = some z → f ((xs x).map e) (vs x) = some ((xs' x z).map e, rv x z)) (hp : ∀ x z, pur (rv x z) = true) :
    X true p (oMt f i gs) (fun w : α × β => rv w.1 w.2) (fun w => stP (q w.1) i (some (eL e (xs' w.1 w.2)))) (fun k => F fun x => (m x).bind fun z => k (x, z)) := fun k z e0 => by
  obtain ⟨x, e1, h⟩ := h _ z e0
  obtain ⟨y, e2, e3⟩ := Option.bind_eq_some_iff.mp e1
  refine ⟨(x, y), e3, fun s mm => ?_⟩
  obtain ⟨rs, s2, b1, b2, b3⟩ := h s mm
  refine ⟨.val (rv x y), s2.set i (some (eL e (xs' x y))), ?_, b2.put i _, .inl rfl⟩
  have g1 : (s[i]?).join = some (.list (x0.map e)) := mm.get h0
  have g2 : (s2[i]?).join = some (.list ((xs x).map e)) := b2.get (h1 x)
  rw [ev_oMt, ev_oV, g1, ev_oVK, ev_ok, ev_mtK, g1, ev_mtK1, b1, ev_ok, ev_mtK2, g2, b3.owns b2 (kv hk), ev_mtK3, hf x y e2, ev_mtK4, if_pos (hp x y)]
  rfl
theorem x_idx {p : Pt} {g h' : O} {v : α → D} {ds : α → List D} {q : α → Pt} {F : (α → Option γ) → Option γ} {vl vl2 : Bool} {v2 : α → β → D} {F2 : α → (β → Option γ) → Option γ} {m : α → β → Option δ} {rv : α → β → δ → D}
    (h : X vl p g v q F) (hd : ∀ x, v x = .tuple (ds x)) (h2 : ∀ x, X vl2 (q x) h' (v2 x) (fun _ => q x) (F2 x)) (hf : ∀ x y z, m x y = some z → pIndexT [.tuple (ds x), v2 x y] = some (rv x y z)) :
    X true p (oIdxT g h') (fun w : α × β × δ => rv w.1 w.2.1 w.2.2) (fun w => q w.1) (fun k => F fun x => F2 x fun y => (m x y).bind fun z => k (x, y, z)) := fun k z e => by
  obtain ⟨x, e1, h⟩ := h _ z e
  obtain ⟨y, e2, h2⟩ := h2 x _ z e1
  obtain ⟨w, e3, e4⟩ := Option.bind_eq_some_iff.mp e2
  refine ⟨(x, y, w), e4, fun s mm => ?_⟩
  obtain ⟨r, s1, a1, a2, a3⟩ := h s mm
  obtain ⟨r2, s2, b1, b2, b3⟩ := h2 s1 a2
  refine ⟨.val (rv x y w), s2, ?_, b2, .inl rfl⟩
  have e5 : rds [r, r2] s2 = some [.tuple (ds x), v2 x y] := by rw [rds_cons, rds_cons, rds_nil, a3.rd b2, b3.rd b2, hd]; rfl
  unfold oIdxT
  rw [a1, ev_ok, a3.rd a2, hd]
  simp only [b1, ev_ok, e5, hf x y w e3]
def clP : List Nat → Pt → Pt
  | [], p => p
  | v :: vs, p => stP (clP vs p) v none
theorem Mt.cl : ∀ (vs : List Nat) {p : Pt} {s : Sg}, Mt p s → Mt (clP vs p) (clrS vs s)
  | [], _, _, h => h
  | v :: vs, _, _, h => by rw [clrS_cons]; exact (Mt.cl vs h).off v none
theorem own_mem : ∀ {vs : List Nat} {s : Sg} {i : Nat} {d : D}, (i, d) ∈ ownSl vs s ↔ i ∈ vs ∧ (s[i]?).join = some d
  | [], s, i, d => by simp
  | v :: vs, s, i, d => by
    rw [ownSl_cons]
    cases h : (s[v]?).join with
    | none =>
      rw [ownSlK_none, own_mem]
      constructor
      · rintro ⟨a, b⟩; exact ⟨List.mem_cons_of_mem _ a, b⟩
      · rintro ⟨a, b⟩
        rcases List.mem_cons.mp a with rfl | a
        · rw [h] at b; cases b
        · exact ⟨a, b⟩
    | some e =>
      rw [ownSlK_some, List.mem_cons, own_mem]
      constructor
      · rintro (a | ⟨a, b⟩)
        · cases a; exact ⟨List.mem_cons_self .., h⟩
        · exact ⟨List.mem_cons_of_mem _ a, b⟩
      · rintro ⟨a, b⟩
        rcases List.mem_cons.mp a with rfl | a
        · rw [h] at b; cases b; exact .inl rfl
        · exact .inr ⟨a, b⟩
theorem own_nodup : ∀ {vs : List Nat} {s : Sg}, nodupB vs = true → nodupB ((ownSl vs s).map (·.1)) = true
  | [], s, _ => by simp
  | v :: vs, s, h => by
    rw [ev_nodupB, Bool.and_eq_true] at h
    rw [ownSl_cons]
    have ih := own_nodup (s := s) h.2
    cases e : (s[v]?).join with
    | none => rw [ownSlK_none]; exact ih
    | some d =>
      rw [ownSlK_some, List.map_cons, ev_nodupB, ih, Bool.and_true]
      have h1 := h.1
      simp only [Bool.not_eq_true', List.contains_eq_mem, decide_eq_false_iff_not] at h1 ⊢
      intro z
      obtain ⟨a, ha, hb⟩ := List.mem_map.mp z
      obtain ⟨a1, a2⟩ := a
      have hb : a1 = v := hb
      subst hb
      exact h1 (own_mem.mp ha).1
theorem lock_get : ∀ {L : List (Nat × D)} {s : Sg} {i : Nat}, (∀ d, (i, d) ∉ L) → (lockS L s)[i]? = s[i]?
  | [], s, i, _ => rfl
  | a :: L, s, i, h => by
    rw [lockS_cons, lock_get fun d z => h d (List.mem_cons_of_mem _ z), List.getElem?_set, if_neg]
    intro z
    exact h a.2 (by rw [← z]; exact List.mem_cons_self ..)
theorem lock_len : ∀ (L : List (Nat × D)) (s : Sg), (lockS L s).length = s.length
  | [], _ => rfl
  | a :: L, s => by rw [lockS_cons, lock_len L, List.length_set]
theorem unlock_len : ∀ (L : List (Nat × D)) (s : Sg), (unlockS L s).length = s.length
  | [], _ => rfl
  | a :: L, s => by rw [unlockS_cons, unlock_len L, List.length_set]
theorem clr_len : ∀ (vs : List Nat) (s : Sg), (clrS vs s).length = s.length
  | [], _ => rfl
  | v :: vs, s => by rw [clrS_cons, List.length_set, clr_len vs]
theorem unlock_get : ∀ {L : List (Nat × D)} {s : Sg} {i : Nat} {d : D}, (∀ d', (i, d') ∈ L → d' = d) → i < s.length → ((∃ d', (i, d') ∈ L) ∨ s[i]? = some (some d)) → (unlockS L s)[i]? = some (some d)
  | [], s, i, d, _, _, h => by
    rcases h with ⟨d', h⟩ | h
    · cases h
    · exact h
  | a :: L, s, i, d, h1, h2, h => by
    rw [unlockS_cons]
    refine unlock_get (fun d' z => h1 d' (List.mem_cons_of_mem _ z)) (by rw [List.length_set]; exact h2) ?_
    rw [List.getElem?_set]
    by_cases c : a.1 = i
    · right
      rw [if_pos c, if_pos (by omega), h1 a.2 (by rw [← c]; exact List.mem_cons_self ..)]
    · rw [if_neg c]
      rcases h with ⟨d', h⟩ | h
      · rcases List.mem_cons.mp h with z | z
        · exact absurd (by rw [← z]) c
        · exact .inl ⟨d', z⟩
      · exact .inr h
theorem gtP_lt : ∀ {p : Pt} {i : Nat} {d : D}, gtP p i = some d → i < p.length
  | [], _, _, h => by cases h
  | _ :: _, 0, _, _ => Nat.zero_lt_succ _
  | _ :: p, i + 1, _, h => Nat.succ_lt_succ (gtP_lt (p := p) h)
theorem clP_get : ∀ {vs : List Nat} {p : Pt} {i : Nat} {d : D}, gtP (clP vs p) i = some d → i ∉ vs ∧ gtP p i = some d
  | [], _, _, _, h => ⟨by simp, h⟩
  | v :: vs, p, i, d, h => by
    have hh : gtP (stP (clP vs p) v none) i = some d := h
    have h : gtP (stP (clP vs p) v none) i = some d := h
    rw [gtP_stP] at h
    by_cases c : v = i ∧ v < (clP vs p).length
    · rw [if_pos c] at h; cases h
    · rw [if_neg c] at h
      obtain ⟨h1, h2⟩ := clP_get h
      refine ⟨fun z => ?_, h2⟩
      rcases List.mem_cons.mp z with rfl | z
      · exact c ⟨rfl, by have := gtP_lt hh; rw [stP_len] at this; exact this⟩
      · exact h1 z
theorem clr_get : ∀ {vs : List Nat} {s : Sg} {i : Nat}, i ∉ vs → (clrS vs s)[i]? = s[i]?
  | [], _, _, _ => rfl
  | v :: vs, s, i, h => by
    rw [clrS_cons, List.getElem?_set, if_neg (fun z => h (by rw [z]; exact List.mem_cons_self ..)), clr_get fun z => h (List.mem_cons_of_mem _ z)]
theorem cl_own {vs : List Nat} {p : Pt} {s s0 : Sg} (m : Mt p s) : Mt (clP vs p) (clrS vs (lockS (ownSl vs s0) s)) := by
  have e : ∀ vs : List Nat, (clP vs p).length = p.length := by
    intro vs
    induction vs with
    | nil => rfl
    | cons v vs ih => show (stP _ _ _).length = _; rw [stP_len, ih]
  refine ⟨by rw [e, clr_len, lock_len, m.len], fun i d h => ?_⟩
  obtain ⟨h1, h2⟩ := clP_get h
  rw [clr_get h1, lock_get fun d' z => h1 (own_mem.mp z).1]
  exact m.has i d h2
def lcS (F : σ → β → Option (Option δ × σ)) : List β → σ → Option (List δ × σ)
  | [], s => some ([], s)
  | y :: ys, s => (F s y).bind fun w => (lcS F ys w.2).bind fun r => some ((match w.1 with
    | some d => d :: r.1
    | none => r.1), r.2)
theorem comp_S {t : Tg} {c : T} {e : O} {vs : List Nat} {ey : β → D} {ee : δ → D} {qb : σ → Pt} {F : σ → β → Option (Option δ × σ)}
    (hs : ∀ u y w, F u y = some w → ∀ s, Mt (qb u) s → ∃ s1 s2 b, asg t (ey y) s = some s1 ∧ c s1 = .ok b s2 ∧ ((b = false ∧ w.1 = none ∧ Mt (qb w.2) (clrS vs s2)) ∨ (b = true ∧ ∃ d r s3, w.1 = some d ∧ e s2 = .ok r s3 ∧ own r s3 = some (ee d) ∧ Mt (qb w.2) (clrS vs s3)))) :
    ∀ (ys : List β) (u : σ) (acc : List D) (z : List δ × σ) (s : Sg), lcS F ys u = some z → acc.length + ys.length ≤ 1000000 → Mt (qb u) s → ∃ s', compL t c e vs (ys.map ey) acc s = .ok (acc ++ z.1.map ee) s' ∧ Mt (qb z.2) s'
  | [], u, acc, z, s, h, _, m => by cases h; exact ⟨s, by simp, m⟩
  | y :: ys, u, acc, z, s, h, hl, m => by
    obtain ⟨w, e1, e2⟩ := Option.bind_eq_some_iff.mp h
    obtain ⟨r, e3, e4⟩ := Option.bind_eq_some_iff.mp e2
    rw [List.length_cons] at hl
    obtain ⟨s1, s2, b, a1, a2, a3⟩ := hs u y w e1 s m
    rcases a3 with ⟨rfl, hw, m2⟩ | ⟨rfl, d, rr, s3, hw, b1, b2, m2⟩
    · obtain ⟨s', c1, c2⟩ := comp_S hs ys w.2 acc r _ e3 (by omega) m2
      cases e4
      refine ⟨s', ?_, c2⟩
      rw [hw]
      rw [List.map_cons, compL]
      simp only [a1, a2, ev_ok, Bool.false_eq_true, if_false, c1]
    · obtain ⟨s', c1, c2⟩ := comp_S hs ys w.2 (acc ++ [ee d]) r _ e3 (by rw [List.length_append, List.length_singleton]; omega) m2
      cases e4
      refine ⟨s', ?_, c2⟩
      rw [hw]
      rw [List.map_cons, compL]
      simp only [a1, a2, ev_ok, if_true, b1, b2]
      rw [if_pos (by omega), c1]
      simp
section
variable {p : Pt} {it : I} {ey : β → D} {ys : α → List β} {lk : α → List (Nat × D)} {q : α → Pt} {F : (α → Option γ) → Option γ} {t : Tg} {c : T} {e : O} {vs : List Nat} {ee : δ → D}
theorem x_compG {qb : α → σ → Pt} {s0 : α → σ} {G : α → σ → β → Option (Option δ × σ)} {p' : α → σ → Pt} (h : XI p it ey ys lk q F) (hv : nodupB vs = true) (h0 : ∀ x, Wk (qb x (s0 x)) (clP vs (lkP (lk x) (q x))))
    (hs : ∀ x u y w, G x u y = some w → ∀ s, Mt (qb x u) s → ∃ s1 s2 b, asg t (ey y) s = some s1 ∧ c s1 = .ok b s2 ∧ ((b = false ∧ w.1 = none ∧ Mt (qb x w.2) (clrS vs s2)) ∨ (b = true ∧ ∃ d r s3, w.1 = some d ∧ e s2 = .ok r s3 ∧ own r s3 = some (ee d) ∧ Mt (qb x w.2) (clrS vs s3))))
    (hp : ∀ x u, (p' x u).length = (qb x u).length ∧ (qb x u).length = (q x).length ∧ ∀ i d, gtP (p' x u) i = some d → gtP (q x) i = some d ∧ (i ∈ vs ∨ i ∈ (lk x).map (·.1)) ∨ gtP (qb x u) i = some d ∧ i ∉ vs ∧ i ∉ (lk x).map (·.1)) :
    X true p (oComp it t c e vs) (fun w : α × List δ × σ => eL ee w.2.1) (fun w => p' w.1 w.2.2) (fun k => F fun x => lim (ys x).length ((lcS (G x) (ys x) (s0 x)).bind fun z => k (x, z))) := fun k z e0 => by
  obtain ⟨x, e1, hx, h⟩ := h _ z e0
  unfold lim at e1
  by_cases hl : (ys x).length ≤ 1000000
  · rw [if_pos hl] at e1
    obtain ⟨w, e2, e3⟩ := Option.bind_eq_some_iff.mp e1
    refine ⟨(x, w), e3, fun s mm => ?_⟩
    obtain ⟨s1, a1, a2⟩ := h s mm
    obtain ⟨s2, b1, b2⟩ := comp_S (hs x) (ys x) (s0 x) [] w _ e2 (by simpa using hl) ((cl_own (vs := vs) (s0 := lockS (lk x) s1) (a2.lk (lk x))).wk (h0 x))
    refine ⟨.val (eL ee w.1), unlockS (ownSl vs (lockS (lk x) s1) ++ lk x) s2, ?_, ?_, .inl rfl⟩
    · unfold oComp
      rw [a1, ev_ok, if_pos (own_nodup hv), b1, ev_ok]
      rfl
    · obtain ⟨l1, l2, l3⟩ := hp x w.2
      refine ⟨by rw [unlock_len, l1, b2.len], fun i d hi => ?_⟩
      have hi2 : i < s2.length := by rw [← b2.len, ← l1]; exact gtP_lt hi
      refine unlock_get (fun d' z => ?_) hi2 ?_
      · rcases l3 i d hi with ⟨z1, z2⟩ | ⟨z1, z2, z3⟩
        · rcases List.mem_append.mp z with y | y
          · obtain ⟨y1, y2⟩ := own_mem.mp y
            by_cases c : ∃ d2, (i, d2) ∈ lk x
            · obtain ⟨d2, c⟩ := c
              have : ∀ (L : List (Nat × D)) (s : Sg), (i, d2) ∈ L → (lockS L s)[i]?.join = none := by
                intro L
                induction L with
                | nil => intro s z; cases z
                | cons a L ih =>
                  intro s z
                  rw [lockS_cons]
                  by_cases c2 : ∃ d3, (i, d3) ∈ L
                  · obtain ⟨d3, c2⟩ := c2
                    have : ∀ (L : List (Nat × D)) (s : Sg), ((s[i]?).join = none ∨ ∃ d3, (i, d3) ∈ L) → (lockS L s)[i]?.join = none := by
                      intro L
                      induction L with
                      | nil => intro s z; rcases z with z | ⟨_, z⟩; exact z; cases z
                      | cons b L ih =>
                        intro s z
                        rw [lockS_cons]
                        refine ih _ ?_
                        rw [List.getElem?_set]
                        by_cases c : b.1 = i
                        · left; rw [if_pos c]; split <;> rfl
                        · rw [if_neg c]
                          rcases z with z | ⟨d4, z⟩
                          · exact .inl z
                          · rcases List.mem_cons.mp z with z | z
                            · exact absurd (by rw [← z]) c
                            · exact .inr ⟨d4, z⟩
                    exact this L _ (.inr ⟨d3, c2⟩)
                  · rw [lock_get (fun d3 z => c2 ⟨d3, z⟩), List.getElem?_set]
                    rcases List.mem_cons.mp z with z | z
                    · have : a.1 = i := by rw [← z]
                      rw [if_pos this]; split <;> rfl
                    · exact absurd ⟨d2, z⟩ c2
              rw [this (lk x) s1 c] at y2
              cases y2
            · rw [lock_get (fun d3 z => c ⟨d3, z⟩)] at y2
              have := a2.get z1
              rw [y2] at this
              cases this; rfl
          · have := hx i d' y
            rw [z1] at this
            cases this; rfl
        · rcases List.mem_append.mp z with y | y
          · exact absurd (own_mem.mp y).1 z2
          · exact absurd (List.mem_map.mpr ⟨_, y, rfl⟩) z3
      · rcases l3 i d hi with ⟨z1, z2⟩ | ⟨z1, z2, z3⟩
        · left
          by_cases c : i ∈ (lk x).map (·.1)
          · obtain ⟨a, ha, hb⟩ := List.mem_map.mp c
            obtain ⟨a1', a2'⟩ := a
            have hb : a1' = i := hb
            subst hb
            exact ⟨a2', List.mem_append_right _ ha⟩
          · rcases z2 with z2 | z2
            · refine ⟨d, List.mem_append_left _ (own_mem.mpr ⟨z2, ?_⟩)⟩
              rw [lock_get (fun d3 z => c (List.mem_map.mpr ⟨_, z, rfl⟩))]
              exact a2.get z1
            · exact absurd z2 c
        · right; exact b2.has i d z1
  · rw [if_neg hl] at e1; cases e1
end
theorem clP_len : ∀ (vs : List Nat) (p : Pt), (clP vs p).length = p.length
  | [], _ => rfl
  | v :: vs, p => by show (stP _ _ _).length = _; rw [stP_len, clP_len vs]
theorem lkP_len : ∀ (L : List (Nat × D)) (p : Pt), (lkP L p).length = p.length
  | [], _ => rfl
  | a :: L, p => by show (lkP L (stP p a.1 none)).length = _; rw [lkP_len L, stP_len]
theorem clP_keep : ∀ {vs : List Nat} {p : Pt} {i : Nat}, i ∉ vs → gtP (clP vs p) i = gtP p i
  | [], _, _, _ => rfl
  | v :: vs, p, i, h => by
    show gtP (stP (clP vs p) v none) i = _
    rw [gtP_stP, if_neg, clP_keep fun z => h (List.mem_cons_of_mem _ z)]
    rintro ⟨z, _⟩
    exact h (by rw [z]; exact List.mem_cons_self ..)
theorem lkP_keep : ∀ {L : List (Nat × D)} {p : Pt} {i : Nat}, i ∉ L.map (·.1) → gtP (lkP L p) i = gtP p i
  | [], _, _, _ => rfl
  | a :: L, p, i, h => by
    show gtP (lkP L (stP p a.1 none)) i = _
    rw [lkP_keep (fun z => h (by rw [List.map_cons]; exact List.mem_cons_of_mem _ z)), gtP_stP, if_neg]
    rintro ⟨z, _⟩
    exact h (by rw [List.map_cons, z]; exact List.mem_cons_self ..)
section
variable {p : Pt} {it : I} {ey : β → D} {ys : α → List β} {lk : α → List (Nat × D)} {q : α → Pt} {F : (α → Option γ) → Option γ} {t : Tg} {c : T} {e : O} {vs : List Nat} {ee : δ → D}
theorem X.cvF {p : Pt} {g : O} {v : α → D} {q : α → Pt} {F F' : (α → Option γ) → Option γ} {vl : Bool} (h : X vl p g v q F) (e : F = F') : X vl p g v q F' := e ▸ h
theorem pureP {x : α} : (q x).length = (clP vs (lkP (lk x) (q x))).length ∧ (clP vs (lkP (lk x) (q x))).length = (q x).length ∧ ∀ i d, gtP (q x) i = some d → gtP (q x) i = some d ∧ (i ∈ vs ∨ i ∈ (lk x).map (·.1)) ∨ gtP (clP vs (lkP (lk x) (q x))) i = some d ∧ i ∉ vs ∧ i ∉ (lk x).map (·.1) := by
  have e : (clP vs (lkP (lk x) (q x))).length = (q x).length := by rw [clP_len, lkP_len]
  refine ⟨e.symm, e, fun i d hi => ?_⟩
  by_cases c : i ∈ vs ∨ i ∈ (lk x).map (·.1)
  · exact .inl ⟨hi, c⟩
  · have c1 : i ∉ vs := fun z => c (.inl z)
    have c2 : i ∉ (lk x).map (·.1) := fun z => c (.inr z)
    exact .inr ⟨by rw [clP_keep c1, lkP_keep c2, hi], c1, c2⟩
/-- nothing changes -/
theorem x_compP {vl : Bool} {pb : α → β → Pt} {cv : α → β → ε → Bool} {Fc : α → β → (ε → Option (Option δ × Unit)) → Option (Option δ × Unit)}
    {ev : α → β → ε → ζ → δ} {Fe : α → β → ε → (ζ → Option (Option δ × Unit)) → Option (Option δ × Unit)}
    (h : XI p it ey ys lk q F) (hv : nodupB vs = true) (hT : ∀ x y, As t (ey y) (clP vs (lkP (lk x) (q x))) (pb x y))
    (hc : ∀ x y, XT (pb x y) c (cv x y) (fun _ => pb x y) (Fc x y)) (he : ∀ x y w, X vl (pb x y) e (fun w2 => ee (ev x y w w2)) (fun _ => pb x y) (Fe x y w)) (ho : vl = true ∨ Pu ee)
    (hn : ∀ x y, Wk (clP vs (lkP (lk x) (q x))) (clP vs (pb x y))) :
    X true p (oComp it t c e vs) (fun w : α × List δ × Unit => eL ee w.2.1) (fun w => q w.1)
      (fun k => F fun x => lim (ys x).length ((lcS (fun _ y => Fc x y fun w => if cv x y w = true then Fe x y w fun w2 => some (some (ev x y w w2), ()) else some (none, ())) (ys x) ()).bind fun z => k (x, z))) :=
  x_compG (G := fun x _ y => Fc x y fun w => if cv x y w = true then Fe x y w fun w2 => some (some (ev x y w w2), ()) else some (none, ())) (qb := fun x _ => clP vs (lkP (lk x) (q x))) (s0 := fun _ => ()) (p' := fun x _ => q x) h hv (fun x => Wk.refl _) (fun x u y w e1 s m => by
    obtain ⟨s1, a1, a2⟩ := hT x y s m
    obtain ⟨w1, e2, hc⟩ := hc x y _ _ e1
    obtain ⟨s2, b1, b2⟩ := hc s1 a2
    refine ⟨s1, s2, _, a1, b1, ?_⟩
    cases hb : cv x y w1 with
    | false =>
      rw [if_neg (by simp [hb])] at e2
      cases e2
      exact .inl ⟨rfl, rfl, (b2.cl vs).wk (hn x y)⟩
    | true =>
      rw [if_pos hb] at e2
      obtain ⟨w2, e3, he⟩ := he x y w1 _ _ e2
      obtain ⟨r, s3, c1, c2, c3⟩ := he s2 b2
      cases e3
      exact .inr ⟨rfl, _, r, s3, rfl, c1, c3.own c2 (ho.imp id fun z => z _), (c2.cl vs).wk (hn x y)⟩) (fun x u => pureP)
theorem lcS_map (f : β → δ) : ∀ ys : List β, lcS (fun (_ : Unit) y => some (some (f y), ())) ys () = some (ys.map f, ())
  | [] => rfl
  | y :: ys => by
    show (lcS _ ys ()).bind _ = _
    rw [lcS_map f ys]; rfl
theorem lcS_fil (c : β → Bool) (f : β → δ) : ∀ ys : List β, lcS (fun (_ : Unit) y => if c y = true then some (some (f y), ()) else some (none, ())) ys () = some ((ys.filter c).map f, ())
  | [] => rfl
  | y :: ys => by
    cases h : c y with
    | true =>
      show (if c y = true then _ else _ : Option (Option δ × Unit)).bind _ = _
      rw [if_pos h, Option.bind_some, lcS_fil c f ys, List.filter_cons_of_pos h]; rfl
    | false =>
      show (if c y = true then _ else _ : Option (Option δ × Unit)).bind _ = _
      rw [if_neg (by simp [h]), Option.bind_some, lcS_fil c f ys, List.filter_cons_of_neg (by simp [h])]; rfl
def mapO (f : β → Option δ) : List β → Option (List δ)
  | [] => some []
  | y :: ys => (f y).bind fun z => (mapO f ys).bind fun zs => some (z :: zs)
theorem mapO_some {f : β → Option δ} {g : β → δ} : ∀ {ys : List β}, (∀ y ∈ ys, f y = some (g y)) → mapO f ys = some (ys.map g)
  | [], _ => rfl
  | y :: ys, h => by
    rw [mapO, h y (List.mem_cons_self ..), mapO_some fun z hz => h z (List.mem_cons_of_mem _ hz)]; rfl
/-- every one, each sure to be told -/
theorem x_mapT {vl : Bool} {pb : α → β → Pt} {ev : α → β → ζ → δ} {y1 : α → β → ζ}
    (h : XI p it ey ys lk q F) (hv : nodupB vs = true) (hT : ∀ x y, As t (ey y) (clP vs (lkP (lk x) (q x))) (pb x y))
    (he : ∀ x y, X (γ := Option δ × Unit) vl (pb x y) e (fun w2 => ee (ev x y w2)) (fun _ => pb x y) (fun k => k (y1 x y))) (ho : vl = true ∨ Pu ee)
    (hn : ∀ x y, Wk (clP vs (lkP (lk x) (q x))) (clP vs (pb x y))) :
    X true p (oComp it t tYesT e vs) (fun w : α × List δ × Unit => eL ee w.2.1) (fun w => q w.1) (fun k => F fun x => lim (ys x).length (k (x, (ys x).map (fun y => ev x y (y1 x y)), ()))) := by
  refine (x_compP (cv := fun _ _ (_ : Unit) => true) (ev := fun x y _ => ev x y) h hv hT (fun x y => xt_yes) (fun x y _ => he x y) ho hn).cvF (funext fun k => congrArg F (funext fun x => congrArg (lim _) ?_))
  have := lcS_map (fun y => ev x y (y1 x y)) (ys x)
  show (lcS (fun _ y => some (some (ev x y (y1 x y)), ())) (ys x) ()).bind _ = _
  rw [this]; rfl
/-- those that, each sure to be told -/
theorem x_filT {vl : Bool} {pb : α → β → Pt} {cv : α → β → ε → Bool} {y0 : α → β → ε} {ev : α → β → ζ → δ} {y1 : α → β → ζ}
    (h : XI p it ey ys lk q F) (hv : nodupB vs = true) (hT : ∀ x y, As t (ey y) (clP vs (lkP (lk x) (q x))) (pb x y))
    (hc : ∀ x y, XT (γ := Option δ × Unit) (pb x y) c (cv x y) (fun _ => pb x y) (fun k => k (y0 x y)))
    (he : ∀ x y, X (γ := Option δ × Unit) vl (pb x y) e (fun w2 => ee (ev x y w2)) (fun _ => pb x y) (fun k => k (y1 x y))) (ho : vl = true ∨ Pu ee)
    (hn : ∀ x y, Wk (clP vs (lkP (lk x) (q x))) (clP vs (pb x y))) :
    X true p (oComp it t c e vs) (fun w : α × List δ × Unit => eL ee w.2.1) (fun w => q w.1) (fun k => F fun x => lim (ys x).length (k (x, ((ys x).filter fun y => cv x y (y0 x y)).map (fun y => ev x y (y1 x y)), ()))) := by
  refine (x_compP (ev := fun x y _ => ev x y) h hv hT hc (fun x y _ => he x y) ho hn).cvF (funext fun k => congrArg F (funext fun x => congrArg (lim _) ?_))
  have := lcS_fil (fun y => cv x y (y0 x y)) (fun y => ev x y (y1 x y)) (ys x)
  show (lcS (fun _ y => if cv x y (y0 x y) = true then some (some (ev x y (y1 x y)), ()) else some (none, ())) (ys x) ()).bind _ = _
  rw [this]; rfl
/-- every one, each perhaps told -/
theorem x_mapP {vl : Bool} {pb : α → β → Pt} {ev : α → β → ζ → δ} {Fe : α → β → (ζ → Option (Option δ × Unit)) → Option (Option δ × Unit)}
    (h : XI p it ey ys lk q F) (hv : nodupB vs = true) (hT : ∀ x y, As t (ey y) (clP vs (lkP (lk x) (q x))) (pb x y))
    (he : ∀ x y, X vl (pb x y) e (fun w2 => ee (ev x y w2)) (fun _ => pb x y) (Fe x y)) (ho : vl = true ∨ Pu ee) (Ge : α → β → Option δ)
    (hn : ∀ x y, Wk (clP vs (lkP (lk x) (q x))) (clP vs (pb x y))) (hg : ∀ x y z, Ge x y = some z → Fe x y (fun w2 => some (some (ev x y w2), ())) = some (some z, ())) :
    X true p (oComp it t tYesT e vs) (fun w : α × List δ × Unit => eL ee w.2.1) (fun w => q w.1) (fun k => F fun x => lim (ys x).length ((mapO (Ge x) (ys x)).bind fun zs => k (x, zs, ()))) := by
  have key : ∀ (x : α) (l : List β), lcS (fun (_ : Unit) y => (Ge x y).bind fun z => some (some z, ())) l () = (mapO (Ge x) l).bind fun zs => some (zs, ()) := by
    intro x l
    induction l with
    | nil => rfl
    | cons y l ih =>
      show ((Ge x y).bind _).bind _ = ((Ge x y).bind _).bind _
      cases h : Ge x y with
      | none => rfl
      | some z =>
        rw [Option.bind_some, Option.bind_some, Option.bind_some, ih]
        cases h2 : mapO (Ge x) l <;> rfl
  have hh := x_compG (γ := γ) (e := e) (ee := ee) (c := tYesT) (G := fun x (_ : Unit) y => (Ge x y).bind fun z => some (some z, ())) (qb := fun x _ => clP vs (lkP (lk x) (q x))) (s0 := fun _ => ()) (p' := fun x _ => q x) h hv (fun x => Wk.refl _) (fun x u y w e1 s m => by
    obtain ⟨s1, a1, a2⟩ := hT x y s m
    obtain ⟨z, e2, e3⟩ := Option.bind_eq_some_iff.mp e1
    cases e3
    obtain ⟨w2, e4, he⟩ := he x y _ _ (hg x y z e2)
    obtain ⟨r, s3, c1, c2, c3⟩ := he s1 a2
    have e5 : ev x y w2 = z := by cases e4; rfl
    refine ⟨s1, s1, true, a1, rfl, .inr ⟨rfl, z, r, s3, rfl, c1, ?_, (c2.cl vs).wk (hn x y)⟩⟩
    rw [c3.own c2 (ho.imp id fun z => z _)]
    show some (ee (ev x y w2)) = _
    rw [e5]) (fun x u => pureP)
  refine hh.cvF (funext fun k => congrArg F (funext fun x => congrArg (lim _) ?_))
  show (lcS (fun (_ : Unit) y => (Ge x y).bind fun z => some (some z, ())) (ys x) ()).bind _ = _
  rw [key x (ys x)]
  cases mapO (Ge x) (ys x) <;> rfl
end
end
end Sim
namespace Sim
open PySem PySem.Spec L2
section
variable {α β δ : Type}
structure Eqv [DecidableEq α] (n : Nat) (e : α → D) : Prop where
  lay : ∀ x, PyData.canLay0 (e x) = true
  dep : ∀ x, PyData.depth (e x) ≤ n
  nod : ∀ x, noD (e x) = true
  eq : ∀ x y, PyData.eqv (e x) (e y) = decide (x = y)
theorem eqI : Eqv 0 eI := ⟨fun _ => rfl, fun _ => Nat.le_refl _, fun _ => rfl, fun x y => by simp [PyData.eqv]; rfl⟩
theorem eqv_all [DecidableEq α] {n : Nat} {e : α → D} (h : Eqv n e) : ∀ xs ys : List α, PyData.eqvAll (xs.map e) (ys.map e) = decide (xs = ys)
  | [], [] => by simp [PyData.eqvAll]
  | [], _ :: _ => by simp [PyData.eqvAll]
  | _ :: _, [] => by simp [PyData.eqvAll]
  | x :: xs, y :: ys => by
    rw [List.map_cons, List.map_cons, PyData.eqvAll, h.eq, eqv_all h xs ys, Bool.eq_iff_iff]
    simp
theorem lay_all {n : Nat} [DecidableEq α] {e : α → D} (h : Eqv n e) : ∀ xs : List α, PyData.canLayAll0 (xs.map e) = true ∧ PyData.depthAll (xs.map e) ≤ n ∧ noDs (xs.map e) = true
  | [] => ⟨rfl, Nat.zero_le _, rfl⟩
  | x :: xs => by
    obtain ⟨a, b, c⟩ := lay_all h xs
    refine ⟨?_, ?_, ?_⟩
    · rw [List.map_cons, PyData.canLayAll0, h.lay, a]; rfl
    · rw [List.map_cons, PyData.depthAll]; exact Nat.max_le.mpr ⟨h.dep x, b⟩
    · rw [List.map_cons, noDs, h.nod, c]; rfl
theorem eqL [DecidableEq α] {n : Nat} {e : α → D} (h : Eqv n e) : Eqv (n + 1) (eL e) :=
  ⟨fun x => by rw [eL, PyData.canLay0]; exact (lay_all h x).1, fun x => by rw [eL, PyData.depth]; have := (lay_all h x).2.1; omega, fun x => by rw [eL, noD]; exact (lay_all h x).2.2, fun x y => by rw [eL, eL, PyData.eqv, eqv_all h]⟩
theorem eqT [DecidableEq α] {n : Nat} {e : α → D} (h : Eqv n e) : Eqv (n + 1) (eT e) :=
  ⟨fun x => by rw [eT, PyData.canLay0]; exact (lay_all h x).1, fun x => by rw [eT, PyData.depth]; have := (lay_all h x).2.1; omega, fun x => by rw [eT, noD]; exact (lay_all h x).2.2, fun x y => by rw [eT, eT, PyData.eqv, eqv_all h]⟩
theorem eqP [DecidableEq α] [DecidableEq β] {n m : Nat} {a : α → D} {b : β → D} (h : Eqv n a) (h2 : Eqv m b) : Eqv (max n m + 1) (eP a b) :=
  ⟨fun x => by simp [eP, PyData.canLay0, PyData.canLayAll0, h.lay, h2.lay], fun x => by simp [eP, PyData.depth, PyData.depthAll]; have := h.dep x.1; have := h2.dep x.2; omega, fun x => by simp [eP, noD, noDs, h.nod, h2.nod],
   fun x y => by
    obtain ⟨x1, x2⟩ := x
    obtain ⟨y1, y2⟩ := y
    rw [eP, eP, PyData.eqv, PyData.eqvAll, PyData.eqvAll, PyData.eqvAll, h.eq, h2.eq, Bool.eq_iff_iff]
    simp⟩
theorem Eqv.shp [DecidableEq α] {n : Nat} {e : α → D} (h : Eqv n e) (z : n ≤ 64) (x : α) : shp (e x) = true := by
  have := h.dep x
  simp only [Sim.shp, SeqAt.shaped, h.lay, h.nod, Bool.true_and, Bool.and_true, decide_eq_true_eq]
  omega
theorem op_eq [DecidableEq α] {n : Nat} {e : α → D} (h : Eqv n e) (z : n ≤ 64) (x y : α) : pEq [e x, e y] = some (.bool (decide (x = y))) := by
  rw [ev_eq, if_pos ⟨h.shp z x, h.shp z y⟩, h.eq]
theorem op_ne [DecidableEq α] {n : Nat} {e : α → D} (h : Eqv n e) (z : n ≤ 64) (x y : α) : pNe [e x, e y] = some (.bool (!decide (x = y))) := by
  rw [ev_ne, if_pos ⟨h.shp z x, h.shp z y⟩, h.eq]
theorem op_add (i j : Int) : pAdd [.int i, .int j] = some (.int (i + j)) := rfl
theorem op_sub' (i j : Int) : pSub [.int i, .int j] = some (.int (i - j)) := rfl
theorem op_neg (i : Int) : pNeg [.int i] = some (.int (-i)) := rfl
theorem op_lt' (i j : Int) : pLt [.int i, .int j] = some (.bool (decide (i < j))) := rfl
theorem op_gt' (i j : Int) : pGt [.int i, .int j] = some (.bool (decide (j < i))) := rfl
theorem op_ge' (i j : Int) : pGe [.int i, .int j] = some (.bool (decide (j ≤ i))) := rfl
theorem op_mulL {a b : Int} (h : -(2 ^ 64) < a ∧ a < 2 ^ 64) : pMul [.int a, .int b] = some (.int (a * b)) := by
  rw [ev_mul, if_pos (mulOk_l h.1 h.2)]
theorem op_mulR {a b : Int} (h : -(2 ^ 64) < b ∧ b < 2 ^ 64) : pMul [.int a, .int b] = some (.int (a * b)) := by
  rw [ev_mul, if_pos (mulOk_r h.1 h.2)]
theorem op_mulB (a : Int) (b : Bool) : pMul [.int a, .int (if b = true then 1 else 0)] = some (.int (a * (if b = true then 1 else 0))) :=
  op_mulR (by cases b <;> decide)
def mulT (a b : Int) : Option Int := if mulOk a b = true then some (a * b) else none
theorem op_mul {a b z : Int} (h : mulT a b = some z) : pMul [.int a, .int b] = some (.int z) := by
  unfold mulT at h
  split at h
  · rename_i c; cases h; rw [ev_mul, if_pos c]
  · cases h
theorem op_modC {i c : Int} (h : 0 < c) : pMod [.int i, .int c] = some (.int (i % c)) := by rw [ev_mod, if_pos h]
def divT (a b : Int) : Option Int := if 0 < b ∧ b.natAbs.log2 < 9000 then some (a / b) else none
theorem op_div {a b z : Int} (h : divT a b = some z) : pDiv [.int a, .int b] = some (.int z) := by
  unfold divT at h
  split at h
  · rename_i c; cases h; rw [ev_div, if_pos c]
  · cases h
def modT (a b : Int) : Option Int := if 0 < b then some (a % b) else none
theorem op_mod' {a b z : Int} (h : modT a b = some z) : pMod [.int a, .int b] = some (.int z) := by
  unfold modT at h
  split at h
  · rename_i c; cases h; rw [ev_mod, if_pos c]
  · cases h
theorem op_powC {a b c : Int} (h : 0 ≤ b ∧ b ≤ 1000000 ∧ a.natAbs < 2 ^ 64) (e : a ^ b.toNat = c) : pPow [.int a, .int b] = some (.int c) := by rw [ev_pow, if_pos h, e]
theorem op_max2 (i j : Int) : pMax2 [.int i, .int j] = some (.int (max i j)) := rfl
theorem op_min2 (i j : Int) : pMin2 [.int i, .int j] = some (.int (min i j)) := rfl
def absT (i : Int) : Int := if i < 0 then -i else i
theorem op_abs (i : Int) : pAbs [.int i] = some (.int (absT i)) := rfl
theorem op_intB (b : Bool) : pInt [.bool b] = some (.int (if b = true then 1 else 0)) := rfl
theorem atI_map {e : α → D} {xs : List α} {i : Int} {z : α} (h : atI xs i = some z) : atI (xs.map e) i = some (e z) := by
  unfold atI at h ⊢
  obtain ⟨j, h1, h2⟩ := Option.bind_eq_some_iff.mp h
  rw [List.length_map, h1]
  show (xs.map e)[j]? = _
  rw [List.getElem?_map, h2]; rfl
theorem op_ixL {e : α → D} (p : Pu e) {xs : List α} {i : Int} {z : α} (h : atI xs i = some z) : pIx [eL e xs, .int i] = some (e z) := by
  rw [eL, ev_ixL, atI_map h, ev_puO, if_pos (p z)]
theorem op_ixT {e : α → D} (p : Pu e) {xs : List α} {i : Int} {z : α} (h : atI xs i = some z) : pIx [eT e xs, .int i] = some (e z) := by
  rw [eT, ev_ixT, atI_map h, ev_puO, if_pos (p z)]
theorem op_ixZ {xs : List Int} {i z : Int} (h : atI xs i = some z) : pIx [eZ xs, .int i] = some (.int z) := by
  rw [eZ, ev_ixF, atI_map h, ev_puO, if_pos (pur_int _)]
def atP (x : α × α) (i : Int) : Option α := atI [x.1, x.2] i
theorem op_ixPd {a : α → D} (p : Pu a) {x : α × α} {i : Int} {z : α} (h : atP x i = some z) : pIx [eP a a x, .int i] = some (a z) :=
  op_ixT (xs := [x.1, x.2]) p h
theorem op_ixQ0 {a : α → D} {b : β → D} {c : δ → D} (p : Pu a) (x : α × β × δ) : pIx [eQ a b c x, .int 0] = some (a x.1) := by
  show puO (some (a x.1)) = _
  rw [ev_puO, if_pos (p _)]
theorem op_ixQ1 {a : α → D} {b : β → D} {c : δ → D} (p : Pu b) (x : α × β × δ) : pIx [eQ a b c x, .int 1] = some (b x.2.1) := by
  show puO (some (b x.2.1)) = _
  rw [ev_puO, if_pos (p _)]
theorem op_ixQ2 {a : α → D} {b : β → D} {c : δ → D} (p : Pu c) (x : α × β × δ) : pIx [eQ a b c x, .int 2] = some (c x.2.2) := by
  show puO (some (c x.2.2)) = _
  rw [ev_puO, if_pos (p _)]
theorem op_lenL {e : α → D} (xs : List α) : pLen [eL e xs] = some (.int (xs.length : Int)) := by rw [eL, ev_lenL, List.length_map]
theorem op_lenT {e : α → D} (xs : List α) : pLen [eT e xs] = some (.int (xs.length : Int)) := by rw [eT, ev_lenT, List.length_map]
theorem op_lenZ (xs : List Int) : pLen [eZ xs] = some (.int (xs.length : Int)) := by rw [eZ, ev_lenF, List.length_map]
def minO (xs : List Int) : Option Int := if xs = [] then none else some (minL xs)
theorem op_min1L {xs : List Int} {z : Int} (h : minO xs = some z) : pMin1 [eL eI xs] = some (.int z) := by
  unfold minO at h
  split at h
  · cases h
  · rename_i c; cases h; exact ev_min1L _ _ (intsD_int _) c
theorem op_tupL {e : α → D} (p : Pu e) (xs : List α) : pTuple [eL e xs] = some (eT e xs) := by rw [eL, ev_tupL, if_pos (purs_pu p xs)]; rfl
theorem op_lstL {e : α → D} (p : Pu e) (xs : List α) : pList [eL e xs] = some (eL e xs) := by rw [eL, ev_lstL, if_pos (purs_pu p xs)]
def repT (xs : List α) (n : Int) : Option (List α) := if -1000 ≤ n ∧ n ≤ 1000 ∧ xs.length ≤ 1000 then some (List.replicate n.toNat xs).flatten else none
theorem op_repL {e : α → D} (p : Pu e) {xs z : List α} {n : Int} (h : repT xs n = some z) : pMul [eL e xs, .int n] = some (eL e z) := by
  unfold repT at h
  split at h
  · rename_i c
    cases h
    obtain ⟨c1, c2, c3⟩ := c
    show (if n < 2 ^ 63 ∧ -(2 ^ 63) ≤ n ∧ (xs.map e).length * n.toNat ≤ 1000000 ∧ purs (xs.map e) = true then _ else _) = _
    rw [if_pos ⟨by omega, by omega, by rw [List.length_map]; exact Nat.le_trans (Nat.mul_le_mul c3 (show n.toNat ≤ 1000 by omega)) (by decide), purs_pu p xs⟩]
    simp [eL]
  · cases h
theorem op_sortL (xs : List Int) : pSorted [eL eI xs] = some (eL eI (sortI xs)) := by
  show (intsOf (.list (xs.map PyData.int))).map _ = _
  show (intsD (xs.map PyData.int)).map _ = _
  rw [intsD_int]; rfl
theorem op_inP (a : Int) (x : Int × Int) : pIn [.int a, eP eI eI x] = some (.bool (decide (x.1 = a) || decide (x.2 = a))) := by
  rw [eP, ev_inT, if_pos ⟨rfl, rfl⟩]
  show some (PyData.bool (PyData.eqv (.int x.1) (.int a) || (PyData.eqv (.int x.2) (.int a) || false))) = _
  rw [eqI.eq, eqI.eq, Bool.or_false]
def rngI (lo : Int) (n : Nat) : List Int := (List.range n).map fun i => lo + (i : Nat)
theorem rngD_I (lo : Int) (n : Nat) : rngD lo n = (rngI lo n).map eI := by unfold rngD rngI; simp
def rngO (j : Int) : Option (List Int) := if -1000000 < j ∧ j < 1000000 then some (rngI 0 j.toNat) else none
def rngO2 (i j : Int) : Option (List Int) := if -1000000 < i ∧ i < 1000000 ∧ -1000000 < j ∧ j < 1000000 then some (rngI i (j - i).toNat) else none
theorem it_r1 {j : Int} {z : List Int} (h : rngO j = some z) : itR1 [.int j] = some (z.map eI) := by
  unfold rngO at h
  split at h
  · rename_i c
    cases h
    show (if -1000000 < j ∧ j < 1000000 then some (rngD 0 j.toNat) else none) = _
    rw [if_pos c, rngD_I]
  · cases h
theorem it_r2 {i j : Int} {z : List Int} (h : rngO2 i j = some z) : itR2 [.int i, .int j] = some (z.map eI) := by
  unfold rngO2 at h
  split at h
  · rename_i c
    cases h
    show (if -1000000 < i ∧ i < 1000000 ∧ -1000000 < j ∧ j < 1000000 then some (rngD i (j - i).toNat) else none) = _
    rw [if_pos c, rngD_I]
  · cases h
theorem it_r1C {j : Int} (h : -1000000 < j ∧ j < 1000000) : itR1 [.int j] = some ((rngI 0 j.toNat).map eI) := it_r1 (by unfold rngO; rw [if_pos h])
theorem op_lrg1 {j : Int} {z : List Int} (h : rngO j = some z) : pListRg [.int j] = some (eL eI z) := by
  unfold rngO at h
  split at h
  · rename_i c
    cases h
    show (if -1000000 < j ∧ j < 1000000 then some (PyData.list (rngD 0 j.toNat)) else none) = _
    rw [if_pos c, rngD_I]; rfl
  · cases h
theorem it_L {e : α → D} (xs : List α) : itP [eL e xs] = some (xs.map e) := rfl
theorem it_T {e : α → D} (xs : List α) : itP [eT e xs] = some (xs.map e) := rfl
def enumT : Nat → List α → List (Int × α)
  | _, [] => []
  | n, x :: xs => ((n : Int), x) :: enumT (n + 1) xs
theorem enumD_T {e : α → D} : ∀ (n : Nat) (xs : List α), enumD n (xs.map e) = (enumT n xs).map (eP eI e)
  | _, [] => rfl
  | n, x :: xs => by rw [List.map_cons, enumD, enumD_T (n + 1) xs]; rfl
theorem it_eT {e : α → D} (xs : List α) : itE [eT e xs] = some ((enumT 0 xs).map (eP eI e)) := by
  show some (enumD 0 (xs.map e)) = _
  rw [enumD_T]
def appT (xs : List α) (x : α) : Option (List α) := if xs.length < 1000000 then some (xs ++ [x]) else none
theorem mt_app' {e : α → D} {xs : List α} {x : α} {z : List α} (h : appT xs x = some z) : mApp (xs.map e) [e x] = some (z.map e, .none) := by
  unfold appT at h
  split at h
  · rename_i c; cases h; show (if (xs.map e).length < 1000000 then _ else _) = _; rw [List.length_map, if_pos c, List.map_append]; rfl
  · cases h
/-- what is taken out, what is left -/
def popT (xs : List α) (i : Int) : Option (α × List α) := if xs.length ≤ 1000000 then (ixN xs.length i).bind fun j => (xs[j]?).map fun x => (x, xs.eraseIdx j) else none
theorem erase_map {e : α → β} : ∀ (xs : List α) (j : Nat), (xs.map e).eraseIdx j = (xs.eraseIdx j).map e
  | [], _ => rfl
  | _ :: _, 0 => rfl
  | x :: xs, j + 1 => by rw [List.map_cons, List.eraseIdx_cons_succ, List.eraseIdx_cons_succ, List.map_cons, erase_map xs j]
theorem mt_pop' {e : α → D} (p : Pu e) {xs : List α} {i : Int} {z : α × List α} (h : popT xs i = some z) : mPopAt (xs.map e) [.int i] = some (z.2.map e, e z.1) := by
  unfold popT at h
  split at h
  · rename_i c
    obtain ⟨j, h1, h2⟩ := Option.bind_eq_some_iff.mp h
    obtain ⟨x, h3, h4⟩ := Option.map_eq_some_iff.mp h2
    cases h4
    have e1 : (xs.map e)[j]? = some (e x) := by rw [List.getElem?_map, h3]; rfl
    show (if purs (xs.map e) = true ∧ (xs.map e).length ≤ 1000000 then (match ixN (xs.map e).length i with
      | none => none
      | some j => (match (xs.map e)[j]? with
        | none => none
        | some d => some ((xs.map e).eraseIdx j, d))) else none) = _
    rw [if_pos ⟨purs_pu p xs, by simpa using c⟩]
    simp only [List.length_map, h1, e1, erase_map]
  · cases h
def idxT (xs : List Int) (y : Int) : Option Int := (xs.findIdx? fun z => decide (z = y)).map fun (j : Nat) => (j : Int)
theorem op_idx {xs : List Int} {y z : Int} (h : idxT xs y = some z) : pIndexT [.tuple (xs.map eI), .int y] = some (.int z) := by
  unfold idxT at h
  obtain ⟨j, h1, h2⟩ := Option.map_eq_some_iff.mp h
  cases h2
  show (if pIn.fl (.int y) = true ∧ (xs.map PyData.int).all pIn.fl = true then _ else _) = _
  rw [if_pos ⟨rfl, by simp [pIn.fl]⟩, List.findIdx?_map]
  have : (fun z => PyData.eqv z (PyData.int y)) ∘ PyData.int = fun z : Int => decide (z = y) := by
    funext z; simp [PyData.eqv]; rfl
  rw [this, h1]; rfl
theorem tr_B (b : Bool) : truD (.bool b) = some b := rfl
end
end Sim
namespace Sim
open PySem PySem.Spec L2
end Sim
namespace Sim
open PySem PySem.Spec L2
def Sp {α : Type} (m : Option α) (Q : α → Prop) : Prop := ∃ x, m = some x ∧ Q x
section
variable {α β γ σ ρ τ δ : Type}
theorem Sp.mono {m : Option α} {P Q : α → Prop} (h : Sp m P) (i : ∀ x, P x → Q x) : Sp m Q := by
  obtain ⟨x, e, p⟩ := h
  exact ⟨x, e, i x p⟩
theorem w_some {x : α} {Q : α → Prop} (h : Q x) : Sp (some x) Q := ⟨x, rfl, h⟩
theorem w_bind {m : Option α} {k : α → Option β} {P : α → Prop} {Q : β → Prop} (h : Sp m P) (h2 : ∀ x, P x → Sp (k x) Q) : Sp (m.bind k) Q := by
  obtain ⟨x, rfl, p⟩ := h
  exact h2 x p
theorem w_eq {m : Option α} {k : α → Option β} {x : α} {Q : β → Prop} (e : m = some x) (h2 : Sp (k x) Q) : Sp (m.bind k) Q := by rw [e]; exact h2
theorem w_let {x : α} {k : α → Option β} {Q : β → Prop} (h2 : ∀ y, y = x → Sp (k y) Q) : Sp ((some x).bind k) Q := h2 x rfl
theorem w_ite {c : Bool} {a b : Option α} {Q : α → Prop} (h1 : c = true → Sp a Q) (h2 : c = false → Sp b Q) : Sp (if c = true then a else b) Q := by
  cases c with
  | true => exact h1 rfl
  | false => exact h2 rfl
theorem w_lim {n : Nat} {m : Option α} {Q : α → Prop} (h : n ≤ 1000000) (h2 : Sp m Q) : Sp (lim n m) Q := by rw [lim_of h]; exact h2
theorem w_lpN {F : σ → β → Option σ} (I : Nat → σ → Prop) {ys : List β} {s0 : σ} (h0 : I 0 s0) (hs : ∀ i s y, ys[i]? = some y → I i s → Sp (F s y) (I (i + 1))) : Sp (lpN F ys s0) (I ys.length) := by
  have key : ∀ (zs : List β) (k : Nat) (s : σ), I k s → (∀ i s y, zs[i]? = some y → I (k + i) s → Sp (F s y) (I (k + i + 1))) → Sp (lpN F zs s) (I (k + zs.length)) := by
    intro zs
    induction zs with
    | nil => intro k s h _; exact ⟨s, rfl, h⟩
    | cons y zs ih =>
      intro k s h hs
      refine w_bind (hs 0 s y rfl h) fun s1 h1 => ?_
      have := ih (k + 1) s1 h1 fun i s y hy hi => by
        have := hs (i + 1) s y (by simpa using hy) (by rw [show k + (i + 1) = k + 1 + i by omega]; exact hi)
        rw [show k + (i + 1) + 1 = k + 1 + i + 1 by omega] at this
        exact this
      rw [show k + 1 + zs.length = k + (y :: zs).length by rw [List.length_cons]; omega] at this
      exact this
  have := key ys 0 s0 h0 fun i s y hy hi => by simpa using hs i s y hy (by simpa using hi)
  simpa using this
/-- of a loop that may leave: it goes on to its end -/
def Go (P : σ → Prop) : Lf σ ρ → Prop := fun w => ∃ s, w = .go s ∧ P s
theorem w_go {x : σ} {P : σ → Prop} (h : P x) : Sp (some (Lf.go x : Lf σ ρ)) (Go P) := ⟨_, rfl, x, rfl, h⟩
theorem w_lpR {F : σ → β → Option (Lf σ ρ)} (I : Nat → σ → Prop) {ys : List β} {s0 : σ} (h0 : I 0 s0) (hs : ∀ i s y, ys[i]? = some y → I i s → Sp (F s y) (Go (I (i + 1)))) : Sp (lpR F ys s0) (Go (I ys.length)) := by
  have key : ∀ (zs : List β) (k : Nat) (s : σ), I k s → (∀ i s y, zs[i]? = some y → I (k + i) s → Sp (F s y) (Go (I (k + i + 1)))) → Sp (lpR F zs s) (Go (I (k + zs.length))) := by
    intro zs
    induction zs with
    | nil => intro k s h _; exact ⟨_, rfl, s, rfl, h⟩
    | cons y zs ih =>
      intro k s h hs
      refine w_bind (hs 0 s y rfl h) fun w hw => ?_
      obtain ⟨s1, rfl, h1⟩ := hw
      have := ih (k + 1) s1 h1 fun i s y hy hi => by
        have := hs (i + 1) s y (by simpa using hy) (by rw [show k + (i + 1) = k + 1 + i by omega]; exact hi)
        rw [show k + (i + 1) + 1 = k + 1 + i + 1 by omega] at this
        exact this
      rw [show k + 1 + zs.length = k + (y :: zs).length by rw [List.length_cons]; omega] at this
      exact this
  have := key ys 0 s0 h0 fun i s y hy hi => by simpa using hs i s y hy (by simpa using hi)
  simpa using this
theorem w_on {m : Option (Lf σ ρ)} {f : σ → Option τ} {g : ρ → Option τ} {P : σ → Prop} {Q : τ → Prop} (h : Sp m (Go P)) (h2 : ∀ s, P s → Sp (f s) Q) : Sp (m.bind fun w => w.on f g) Q := by
  obtain ⟨w, rfl, s, rfl, hp⟩ := h
  exact h2 s hp
theorem mapO_eq {f : β → Option δ} {g : β → δ} {ys : List β} (h : ∀ y ∈ ys, f y = some (g y)) : mapO f ys = some (ys.map g) := mapO_some h
theorem ixN_nn {n : Nat} {i : Int} (h0 : 0 ≤ i) (h : i < n) : ixN n i = some i.toNat := by unfold ixN; rw [if_pos h0, if_pos h]
theorem atI_nn {xs : List α} {i : Int} (h0 : 0 ≤ i) (h : i < xs.length) : atI xs i = xs[i.toNat]? := by
  unfold atI; rw [ixN_nn h0 h]; rfl
theorem atI_get' {xs : List α} {i : Int} (h0 : 0 ≤ i) (h : i < xs.length) : atI xs i = some (xs[i.toNat]'(by omega)) := by
  rw [atI_nn h0 h, List.getElem?_eq_getElem]
theorem w_atI {xs : List α} {i : Int} (h0 : 0 ≤ i) (h : i < xs.length) : Sp (atI xs i) (fun x => x ∈ xs) := by
  rw [atI_get' h0 h]; exact w_some (List.getElem_mem _)
theorem atI_lastne {xs : List α} (h : xs ≠ []) : atI xs (-1) = some (xs.getLast h) := by
  have e := List.dropLast_concat_getLast h
  have z := L2.atI_last xs.dropLast (xs.getLast h)
  rw [e] at z; exact z
theorem setT_nn {xs : List α} {i : Int} {v : α} (h0 : 0 ≤ i) (h : i < xs.length) : setT xs i v = some (xs.set i.toNat v) := by unfold setT; rw [ixN_nn h0 h]; rfl
theorem appT_of {xs : List α} {x : α} (h : xs.length < 1000000) : appT xs x = some (xs ++ [x]) := if_pos h
theorem rngO_of {j : Int} (h : -1000000 < j ∧ j < 1000000) : rngO j = some (rngI 0 j.toNat) := if_pos h
theorem modT_of {a b : Int} (h : 0 < b) : modT a b = some (a % b) := if_pos h
theorem divT_of {a b : Int} (h : 0 < b) (h2 : b < 1000000000000000000000000) : divT a b = some (a / b) := by
  refine if_pos ⟨h, Nat.lt_of_lt_of_le (log2_lt (k := 80) (by omega) (by decide)) (by decide)⟩
theorem mulT_l {a b : Int} (h : -(2 ^ 64) < a) (h2 : a < 2 ^ 64) : mulT a b = some (a * b) := by unfold mulT; rw [if_pos (mulOk_l h h2)]
theorem mulT_r {a b : Int} (h : -(2 ^ 64) < b) (h2 : b < 2 ^ 64) : mulT a b = some (a * b) := by unfold mulT; rw [if_pos (mulOk_r h h2)]
theorem repT_of {xs : List α} {n : Int} (h : -1000 ≤ n ∧ n ≤ 1000) (h2 : xs.length ≤ 1000) : repT xs n = some (List.replicate n.toNat xs).flatten := if_pos ⟨h.1, h.2, h2⟩
theorem repT_1 {x : α} {n : Int} (h : -1000 ≤ n ∧ n ≤ 1000) : repT [x] n = some (List.replicate n.toNat x) := by
  rw [repT_of h (by simp)]
  have : ∀ k : Nat, (List.replicate k [x]).flatten = List.replicate k x := by
    intro k
    induction k with
    | zero => rfl
    | succ k ih => rw [List.replicate_succ, List.flatten_cons, ih]; rfl
  rw [this]
theorem popT_of {xs : List α} {i : Int} (hl : xs.length ≤ 1000000) (h0 : 0 ≤ i) (h : i < xs.length) : popT xs i = some (xs[i.toNat]'(by omega), xs.eraseIdx i.toNat) := by
  unfold popT
  rw [if_pos hl, ixN_nn h0 h]
  show (xs[i.toNat]?).map _ = _
  rw [List.getElem?_eq_getElem (by omega)]; rfl
theorem minO_of {xs : List Int} (h : xs ≠ []) : minO xs = some (minL xs) := if_neg h
@[simp] theorem at0 (a : α) (l : List α) : atI (a :: l) 0 = some a := by
  rw [atI_nn (by decide) (by rw [List.length_cons]; omega)]; rfl
@[simp] theorem at1 (a b : α) (l : List α) : atI (a :: b :: l) 1 = some b := by
  rw [atI_nn (by decide) (by simp only [List.length_cons]; omega)]; rfl
@[simp] theorem at2 (a b c : α) (l : List α) : atI (a :: b :: c :: l) 2 = some c := by
  rw [atI_nn (by decide) (by simp only [List.length_cons]; omega)]; rfl
@[simp] theorem set0 (a v : α) (l : List α) : setT (a :: l) 0 v = some (v :: l) := by
  rw [setT_nn (by decide) (by rw [List.length_cons]; omega)]; rfl
@[simp] theorem set1 (a b v : α) (l : List α) : setT (a :: b :: l) 1 v = some (a :: v :: l) := by
  rw [setT_nn (by decide) (by simp only [List.length_cons]; omega)]; rfl
@[simp] theorem set2 (a b c v : α) (l : List α) : setT (a :: b :: c :: l) 2 v = some (a :: b :: v :: l) := by
  rw [setT_nn (by decide) (by simp only [List.length_cons]; omega)]; rfl
theorem rngI_len (lo : Int) (n : Nat) : (rngI lo n).length = n := by unfold rngI; simp
theorem rngI_get {lo : Int} {n i : Nat} {y : Int} (h : (rngI lo n)[i]? = some y) : y = lo + i ∧ i < n := by
  unfold rngI at h
  rw [List.getElem?_map] at h
  obtain ⟨j, h1, h2⟩ := Option.map_eq_some_iff.mp h
  obtain ⟨h3, h4⟩ := List.getElem?_eq_some_iff.mp h1
  rw [List.getElem_range] at h4
  subst h4
  exact ⟨h2.symm, by simpa using h3⟩
theorem rngI_mem {lo : Int} {n : Nat} {y : Int} (h : y ∈ rngI lo n) : lo ≤ y ∧ y < lo + n := by
  unfold rngI at h
  obtain ⟨j, h1, h2⟩ := List.mem_map.mp h
  have := List.mem_range.mp h1
  omega
end
end Sim
namespace Sim
open PySem PySem.Spec L2
section
variable {α β : Type}
/-- how a kind of values is sorted -/
structure Flt (e : α → D) (f : α → List Int) : Prop where
  fl : ∀ x, flat (e x) = f x
  al : ∀ x y, alike (e x) (e y) = true
  tp : ∀ x, (match e x with | .tuple (_ :: _) => true | _ => false) = true
  dp : ∀ x, deepD (e x) ≤ 8
theorem Flt.ok {e : α → D} {f : α → List Int} (h : Flt e f) : ∀ xs : List α, okN (xs.map e) = true
  | [] => rfl
  | x :: xs => by
    rw [List.map_cons]
    simp only [okN, Bool.and_eq_true, decide_eq_true_eq, List.all_eq_true]
    refine ⟨⟨h.tp x, h.dp x⟩, fun d hd => ?_⟩
    rw [← List.map_cons] at hd
    obtain ⟨y, _, rfl⟩ := List.mem_map.mp hd
    exact h.al x y
theorem op_sortL' (xs : List Int) : pSortAny [eL eI xs] = some (eL eI (sortI xs)) := by unfold pSortAny; rw [op_sortL]
/-- a list or a tuple -/
inductive SqE (e : α → D) : (List α → D) → Prop
  | l : SqE e (eL e)
  | t : SqE e (eT e)
theorem SqE.seq {e : α → D} {g : List α → D} (h : SqE e g) (xs : List α) : seqLT (g xs) = some (xs.map e) := by cases h <;> rfl
end
end Sim
namespace Sim
open PySem PySem.Spec L2
theorem lim_inv {α : Type} {n : Nat} {m : Option α} {z : α} (h : lim n m = some z) : n ≤ 1000000 ∧ m = some z := by
  unfold lim at h
  split at h
  · rename_i c; exact ⟨c, h⟩
  · cases h
def ltV (x y : List Int) : Bool := PySem.W.dataLt (eT eI x) (eT eI y)
def minV (x : List Int) (xs : List (List Int)) : List Int := xs.foldl (fun a y => if ltV y a = true then y else a) x
def minVO (xs : List (List Int)) : Option (List Int) := match xs with
  | [] => none
  | x :: r => if okMin ((x :: r).map (eT eI)) = true then some (minV x r) else none
theorem minV_told : ∀ (r : List (List Int)) (x : List Int), PySem.W.minD (eT eI x) (r.map (eT eI)) = eT eI (minV x r)
  | [], _ => rfl
  | y :: r, x => by
    have e : (if PySem.W.dataLt (eT eI y) (eT eI x) = true then eT eI y else eT eI x) = eT eI (if ltV y x = true then y else x) := by
      show (if ltV y x = true then eT eI y else eT eI x) = _
      cases ltV y x <;> rfl
    show PySem.W.minD (if PySem.W.dataLt (eT eI y) (eT eI x) = true then eT eI y else eT eI x) (r.map (eT eI)) = eT eI (minV (if ltV y x = true then y else x) r)
    rw [e]
    exact minV_told r _
theorem op_minV {xs : List (List Int)} {z : List Int} (h : minVO xs = some z) : pMinAny [eL (eT eI) xs] = some (eT eI z) := by
  cases xs with
  | nil => cases h
  | cons x r =>
    have h : (if okMin ((x :: r).map (eT eI)) = true then some (minV x r) else none) = some z := h
    by_cases k : okMin ((x :: r).map (eT eI)) = true
    · rw [if_pos k] at h
      cases h
      have e1 : pMin1 [eL (eT eI) (x :: r)] = none := rfl
      unfold pMinAny
      rw [e1]
      show (if okMin (eT eI x :: r.map (eT eI)) = true then some (PySem.W.minD (eT eI x) (r.map (eT eI))) else none) = _
      rw [if_pos (show okMin (eT eI x :: r.map (eT eI)) = true from k), minV_told]
    · rw [if_neg k] at h
      cases h
section
variable {α : Type}
end
end Sim
namespace Sim
open PySem PySem.Spec L2
section
variable {α β γ δ : Type}
end
end Sim
namespace Sim
open PySem PySem.Spec L2
def dB : Option D → Option Bool
  | some (.bool b) => some b
  | _ => none
def rI : D → Option Int
  | .int i => some i
  | _ => none
def rU : D → Option Unit
  | .none => some ()
  | _ => none
section
variable {α γ τ : Type}
end
section
variable {α γ : Type}
end
end Sim
namespace Sim
open PySem PySem.Spec L2
section
variable {β γ : Type}
end
end Sim
namespace Sim
open PySem PySem.Spec L2
section
variable {α β γ δ σ ρ : Type} {X : Cx} {p : Pt}
theorem fn_t2 {ms : List Nat} {i n : Nat} {g : S} {ds : List D} {d : D} {p0 : Pt} {m : Option γ} {rv : γ → D} {q : γ → Pt} {outs : γ → List D} (hb : B p0 g m (QF rv q)) (hd : ((ds[i]?).bind fun d => pList [d]) = some d)
    (h0 : (ds.map some ++ List.replicate (n - ds.length) none).set i (some d) = p0) (h1 : okM2 ms ds = true)
    (h2 : ∀ z s, Mt (q z) s → coll ms ds 0 s = some (outs z)) : ∀ z, m = some z → mkFn2 ms i n g ds = .ok (rv z) (outs z) := fun z e => by
  obtain ⟨fl, s', a1, a2, a3⟩ := hb z e p0 (Mt.refl _)
  have a4 := h2 z s' a3
  unfold mkFn2
  rw [if_pos h1, hd]
  rcases a2 with rfl | ⟨rfl, e2⟩
  · simp only [h0, a1, a4]
  · simp only [h0, a1, a4, e2]
theorem coll_2P {p : Pt} {j : Nat} {ms : List Nat} {d : D} {ds as : List D} (h2 : ∀ s, Mt p s → coll ms ds (j + 1) s = some as) : ∀ s, Mt p s → coll (2 :: ms) (d :: ds) j s = some (d :: as) := fun s m => by
  unfold coll
  rw [h2 s m]
  rfl
end
end Sim
namespace Sim
open PySem PySem.Spec L2
section
variable {α β γ δ σ ρ τ : Type} {p : Pt}
def stepP (x : τ × τ) (k : Int) : Option (τ × τ) := if k = 1 then some x else if k = -1 then some (x.2, x.1) else none
theorem op_stE {a : τ → D} (h : Pu a) {x : τ × τ} {k : Int} {z : τ × τ} (e : stepP x k = some z) : stE (eP a a x) (some k) = some (eP a a z) := by
  have hp : purs [a x.1, a x.2] = true := by simp [purs, h x.1, h x.2]
  unfold stepP at e
  split at e
  · rename_i hk
    subst hk
    cases e
    show (if purs [a x.1, a x.2] = true then some (PyData.tuple [a x.1, a x.2]) else none) = _
    rw [if_pos hp]
    rfl
  · split at e
    · rename_i hk
      subst hk
      cases e
      show (if purs [a x.1, a x.2] = true ∧ [a x.1, a x.2].length ≤ 1000000 then some (PyData.tuple [a x.1, a x.2].reverse) else none) = _
      rw [if_pos ⟨hp, by simp⟩]
      rfl
    · cases e
theorem x_stE {g h : O} {a : τ → D} {v : α → τ × τ} {q : α → Pt} {F : (α → Option γ) → Option γ} {vl : Bool} {l : α → β → Int} {q2 : α → β → Pt} {F2 : α → (β → Option γ) → Option γ} (pa : Pu a)
    (h1 : X true p g (fun x => eP a a (v x)) q F) (h2 : ∀ x, X vl (q x) h (fun y => .int (l x y)) (q2 x) (F2 x)) :
    X true p (oStE g (some h)) (fun w : α × β × (τ × τ) => eP a a w.2.2) (fun w => q2 w.1 w.2.1) (fun k => F fun x => F2 x fun y => (stepP (v x) (l x y)).bind fun z => k (x, y, z)) := fun k z e => by
  obtain ⟨x, e1, h1⟩ := h1 _ z e
  obtain ⟨y, e2, h2⟩ := h2 x _ z e1
  obtain ⟨w, e3, e4⟩ := Option.bind_eq_some_iff.mp e2
  refine ⟨(x, y, w), e4, fun s m => ?_⟩
  obtain ⟨r, s1, a1, a2, a3⟩ := h1 s m
  obtain ⟨r2, s2, b1, b2, b3⟩ := h2 s1 a2
  have hr : r = .val (eP a a (v x)) := by
    rcases a3 with z | ⟨z, _⟩
    · exact z
    · cases z
  refine ⟨.val (eP a a w), s2, ?_, b2, .inl rfl⟩
  have hp : prt (some h) s1 = .ok (some (l x y)) s2 := by rw [ev_prt_some, b1, ev_ok, ev_prtK, b3.rd b2, ev_prtK2]
  show ((g s).bind fun r s1 => (prt none s1).bind fun l s2 => (prt none s2).bind fun u s3 => (prt (some h) s3).bind fun t s4 => _) = _
  simp only [a1, ev_ok, ev_prt_none, hp, hr, rd_val, op_stE pa e3]
def tenO (l : Int) : Option Int := if 0 ≤ l ∧ l ≤ 600 then some ((10 : Int) ^ l.toNat) else none
theorem x_tenV {g : O} {vl : Bool} {l : α → Int} {q : α → Pt} {F : (α → Option γ) → Option γ} (h : X vl p g (fun x => .int (l x)) q F) :
    X true p (oTenV g) (fun w : α × Int => .int w.2) (fun w => q w.1) (fun k => F fun x => (tenO (l x)).bind fun z => k (x, z)) := fun k z e => by
  obtain ⟨x, e1, h⟩ := h _ z e
  obtain ⟨w, e2, e3⟩ := Option.bind_eq_some_iff.mp e1
  refine ⟨(x, w), e3, fun s m => ?_⟩
  obtain ⟨r, s1, a1, a2, a3⟩ := h s m
  unfold tenO at e2
  split at e2
  · rename_i hl
    cases e2
    refine ⟨_, s1, ?_, a2, .inl rfl⟩
    have hn : l x = (((l x).toNat : Nat) : Int) := by omega
    have hr : rd r s1 = some (.int (l x)) := a3.rd a2
    rw [hn] at hr
    rw [ev_tenV a1 hr (by omega)]
    unfold tenN
    simp
  · cases e2
end
def sdatI : Nat → D → Bool
  | 0, _ => false
  | n + 1, .tuple ds => purs ds && decide (ds.length ≤ 1000000) && ds.all (sdatI n)
  | _ + 1, .int _ => true
  | _ + 1, _ => false
def sameI {α : Type} [DecidableEq α] (n : Nat) (e : α → D) (x y : α) : Option Bool := if x = y ∧ sdatI n (e x) = true then some true else none
theorem sameI_some {α : Type} [DecidableEq α] {n : Nat} {e : α → D} {x y : α} (h : x = y) (h2 : sdatI n (e x) = true) : sameI n e x y = some true := if_pos ⟨h, h2⟩
theorem sdatI_I (n : Nat) (i : Int) : sdatI (n + 1) (eI i) = true := rfl
theorem sdatI_T {α : Type} {n : Nat} {e : α → D} (p : Pu e) {xs : List α} (h : xs.length ≤ 1000000) (h2 : ∀ x ∈ xs, sdatI n (e x) = true) : sdatI (n + 1) (eT e xs) = true := by
  show (purs (xs.map e) && decide ((xs.map e).length ≤ 1000000) && (xs.map e).all (sdatI n)) = true
  simp only [purs_pu p xs, List.length_map, decide_eq_true h, Bool.true_and, List.all_eq_true, List.mem_map]
  rintro _ ⟨x, hx, rfl⟩
  exact h2 x hx
theorem sdatI_Q {α β δ : Type} {n : Nat} {a : α → D} {b : β → D} {c : δ → D} (p : Pu a) (p2 : Pu b) (p3 : Pu c) {x : α × β × δ} (h : sdatI n (a x.1) = true) (h2 : sdatI n (b x.2.1) = true) (h3 : sdatI n (c x.2.2) = true) : sdatI (n + 1) (eQ a b c x) = true := by
  show (purs [a x.1, b x.2.1, c x.2.2] && decide ([a x.1, b x.2.1, c x.2.2].length ≤ 1000000) && [a x.1, b x.2.1, c x.2.2].all (sdatI n)) = true
  simp [purs, p x.1, p2 x.2.1, p3 x.2.2, h, h2, h3]
end Sim
namespace Sim
open PySem PySem.Spec L2
section
variable {α β γ : Type} {p : Pt}
end
end Sim
namespace Sim
open PySem PySem.Spec L2
section
variable {α β γ : Type}
section
variable [DecidableEq α]
def getM (l : List (α × β)) (k : α) : Option β := (l.find? fun p => decide (p.1 = k)).map fun p => p.2
def putM (l : List (α × β)) (k : α) (v : β) : List (α × β) := if (l.any fun p => decide (p.1 = k)) = true then l.map (fun p => if p.1 = k then (p.1, v) else p) else l ++ [(k, v)]
def mergeM (l more : List (α × β)) : List (α × β) := more.foldl (fun acc p => putM acc p.1 p.2) l
variable {ek : α → D} {f : α → NestedKey} {e : β → D}
/-- sorted(d) -/
def sortMO (ek : α → D) (l : List α) : Option (List α) := if okN (l.map ek) = true then some (sortF (fun x => flat (ek x)) l) else none
end
def ltO (e : α → D) (x y : α) : Option Bool := if okMin [e x, e y] = true then some (PySem.W.dataLt (e x) (e y)) else none
end
section
variable {α β γ δ ρ : Type} {p : Pt} {gs : AL} {q : α → Pt} {F : (α → Option γ) → Option γ} {ks : List AK} {vs : α → List D} {i : Nat}
end
section
variable {α γ κ τ : Type} {p : Pt} {e : O} {q : α → Pt} {F : (α → Option γ) → Option γ} {vl : Bool} {i : Nat} {rest : S} {Q : γ → Fl → Sg → Prop} [DecidableEq κ]
def setMO (l : List (κ × τ)) (k : κ) (v : τ) : Option (List (κ × τ)) := if l.length < 1000000 then some (putM l k v) else none
end
end Sim
namespace Sim
open PySem PySem.Spec L2
def koI (i : Int) : Key := .inl i
structure KeyK {α : Type} (e : α → D) (f : α → Key) : Prop where
  told : ∀ a, e a = kD (f a)
  inj : ∀ a b, f a = f b → a = b
theorem kkI : KeyK eI koI := ⟨fun _ => rfl, fun a b h => by unfold koI at h; cases h; rfl⟩
section
variable {α β γ : Type}
def cK (f : α → Key) (e : β → D) (l : List (α × β)) : List (Key × D) := l.map fun p => (f p.1, e p.2)
def eK (f : α → Key) (e : β → D) (l : List (α × β)) : D := reK (cK f e l)
theorem puK {f : α → Key} {e : β → D} {l : List (α × β)} : pur (eK f e l) = false := rfl
variable [DecidableEq α] {ek : α → D} {f : α → Key} {e : β → D}
theorem unK_eK (l : List (α × β)) : unK (eK f e l) = some (cK f e l) := unK_reK _
theorem toKy_ek (h : KeyK ek f) (a : α) : toKy (ek a) = some (f a) := by rw [h.told, toKy_kD]
theorem dec_fK (h : KeyK ek f) (a b : α) : decide (f a = f b) = decide (a = b) := by
  by_cases c : a = b
  · rw [decide_eq_true c, decide_eq_true (congrArg f c)]
  · rw [decide_eq_false c, decide_eq_false fun z => c (h.inj a b z)]
theorem getKL_cK (h : KeyK ek f) (k : α) : ∀ l : List (α × β), getKL (cK f e l) (f k) = (getM l k).map e
  | [] => rfl
  | p :: l => by
    have ih := getKL_cK h k l
    unfold getKL getM cK at ih ⊢
    rw [List.map_cons, List.find?_cons, List.find?_cons, dec_fK h]
    cases decide (p.1 = k) with
    | true => rfl
    | false => exact ih
theorem any_cK (h : KeyK ek f) (k : α) (l : List (α × β)) : ((cK f e l).any fun p => decide (p.1 = f k)) = l.any fun p => decide (p.1 = k) := by
  unfold cK
  rw [List.any_map]
  congr 1
  funext p
  exact dec_fK h p.1 k
theorem putKL_cK (h : KeyK ek f) (k : α) (v : β) (l : List (α × β)) : putKL (cK f e l) (f k) (e v) = cK f e (putM l k v) := by
  unfold putKL putM
  rw [any_cK h]
  split
  · unfold cK
    rw [List.map_map, List.map_map]
    congr 1
    funext p
    show (if f p.1 = f k then (f p.1, e v) else (f p.1, e p.2)) = _
    by_cases c : p.1 = k
    · rw [if_pos (congrArg f c)]
      show _ = (f (if p.1 = k then (p.1, v) else p).1, e (if p.1 = k then (p.1, v) else p).2)
      rw [if_pos c]
    · rw [if_neg fun z => c (h.inj _ _ z)]
      show _ = (f (if p.1 = k then (p.1, v) else p).1, e (if p.1 = k then (p.1, v) else p).2)
      rw [if_neg c]
  · unfold cK
    rw [List.map_append]
    rfl
theorem mergeKL_cK (h : KeyK ek f) : ∀ (more l : List (α × β)), mergeKL (cK f e l) (cK f e more) = cK f e (mergeM l more)
  | [], l => rfl
  | p :: more, l => by
    have ih := mergeKL_cK h more (putM l p.1 p.2)
    unfold mergeKL mergeM at ih ⊢
    rw [show cK f e (p :: more) = (f p.1, e p.2) :: cK f e more from rfl, List.foldl_cons, List.foldl_cons, putKL_cK h]
    exact ih
theorem op_ixK (h : KeyK ek f) (hp : Pu e) {k : α} {l : List (α × β)} {v : β} (g : getM l k = some v) : pIxK [eK f e l, ek k] = some (e v) := by
  show (toKy (ek k)).bind _ = _
  rw [toKy_ek h, unK_eK]
  simp [getKL_cK h, g, puO, hp v]
theorem pairsK_cK (h : KeyK ek f) (hp : Pu e) : ∀ l : List (α × β), pairsK (l.map (eP ek e)) = some (cK f e l)
  | [] => rfl
  | p :: l => by
    rw [List.map_cons]
    show (toKy (ek p.1)).bind _ = _
    rw [toKy_ek h, pairsK_cK h hp l]
    simp [hp p.2, cK]
theorem op_dictK (h : KeyK ek f) (hp : Pu e) (l : List (α × β)) : pDictK [eL (eP ek e) l] = some (eK f e (mergeM [] l)) := by
  show (pairsK (l.map (eP ek e))).map _ = _
  rw [pairsK_cK h hp]
  refine congrArg some ?_
  show reK (mergeKL (cK f e []) (cK f e l)) = _
  rw [mergeKL_cK h]
  rfl
end
section
variable {α β γ δ ρ : Type} {p : Pt} {gs : AL} {q : α → Pt} {F : (α → Option γ) → Option γ} {ks : List AK} {i : Nat}
theorem x_newK {κ τ : Type} {f : κ → Key} {e : τ → D} : X (γ := γ) true p oNewK (fun _ : Unit => eK f e []) (fun _ => p) (fun k => k ()) :=
  fun k z e0 => ⟨(), e0, fun s m => ⟨.val _, s, rfl, m, .inl rfl⟩⟩
end
section
variable {α γ κ τ : Type} {p : Pt} {e : O} {q : α → Pt} {F : (α → Option γ) → Option γ} {vl : Bool} {i : Nat} {rest : S} {Q : γ → Fl → Sg → Prop} [DecidableEq κ]
theorem b_setK {ga : O} {ek : κ → D} {f : κ → Key} {e1 : τ → D} {vx : α → τ} {β : Type} {vk : α → β → κ} {q2 : α → β → Pt} {F2 : α → (β → Option γ) → Option γ} {xs : α → β → List (κ × τ)} {M : α → β → List (κ × τ) → Option γ} {vl2 : Bool} (hk : KeyK ek f)
    (h : X vl p e (fun x => e1 (vx x)) q F) (hp : Pu e1) (hi : ∀ x, ∃ d, gtP (q x) i = some d) (h2 : ∀ x, X vl2 (q x) ga (fun y => ek (vk x y)) (q2 x) (F2 x)) (hv : ∀ x y, vl = true ∨ q2 x y = q x) (hi2 : ∀ x y, gtP (q2 x y) i = some (eK f e1 (xs x y)))
    (hr : ∀ x y ys, B (stP (q2 x y) i (some (eK f e1 ys))) rest (M x y ys) Q) : B p (sSeq (sSetK i ga e) rest) (F fun x => F2 x fun y => (setMO (xs x y) (vk x y) (vx x)).bind (M x y)) Q := fun z e0 s mm => by
  obtain ⟨x, e2, h⟩ := h _ z e0
  obtain ⟨y, e3, h2⟩ := h2 x _ z e2
  obtain ⟨ys, e4, e5⟩ := Option.bind_eq_some_iff.mp e3
  obtain ⟨r, s1, a1, a2, a3⟩ := h s mm
  obtain ⟨r2, s2, b1, b2, b3⟩ := h2 s1 a2
  unfold setMO at e4
  split at e4
  · rename_i c
    cases e4
    have b4 := b2.put i (eK f e1 (putM (xs x y) (vk x y) (vx x)))
    obtain ⟨fl, s', h1, h2⟩ := hr x y _ z e5 _ b4
    refine ⟨fl, s', ?_, h2⟩
    obtain ⟨d0, hd0⟩ := hi x
    have o : own r s2 = some (e1 (vx x)) := by
      rcases hv x y with c | c
      · rcases a3 with rfl | ⟨c2, _⟩
        · rfl
        · rw [c] at c2; cases c2
      · rw [c] at b2
        exact Rd.own a3 b2 (.inr (hp _))
    have step : sSetK i ga e s = .ok .nx (s2.set i (some (eK f e1 (putM (xs x y) (vk x y) (vx x))))) := by
      unfold sSetK oV
      rw [a1, bind_ok]
      simp only [a2.get hd0, bind_ok]
      rw [b1, bind_ok, o, b3.rd b2, b2.get (hi2 x y)]
      simp only [Option.bind_some, unK_eK, toKy_ek hk]
      have l1 : (cK f e1 (xs x y)).length = (xs x y).length := by unfold cK; rw [List.length_map]
      rw [l1, if_pos ⟨hp _, c⟩, putKL_cK hk]
      rfl
    unfold sSeq
    rw [step, bind_ok]
    exact h1
  · cases e4
end
end Sim
namespace Sim
open PySem PySem.Spec L2
section
variable {α β γ : Type} {p : Pt} {g : O} {q : α → Pt} {F : (α → Option γ) → Option γ}
end
end Sim
namespace Sim
open PySem PySem.Spec L2
def eF {τ : Type} (e : τ → D) (xs : List τ) : D := .dict [(.none, .list (xs.map e))]
section
variable {α β γ : Type} {p : Pt} {g : O} {ga : AL} {q : α → Pt} {F : (α → Option γ) → Option γ} {ks : List AK} {i : Nat}
end
end Sim
namespace Sim
open PySem PySem.Spec L2
section
variable {γ : Type} {p : Pt} {i : Nat}
end
end Sim
namespace Sim
open PySem PySem.Spec L2
end Sim
namespace Sim
open PySem PySem.Spec L2
section
variable {α γ : Type} {p : Pt} {e gi : O} {q : α → Pt} {F : (α → Option γ) → Option γ} {vl : Bool} {i : Nat} {rest : S} {Q : γ → Fl → Sg → Prop} {f : Int → Int → Int}
/-- x[k] += y -/
theorem b_augIx {d0 : D} {vk : α → Int} {β : Type} {vy : α → Int → β → Int} {q2 : α → Int → β → Pt} {F2 : α → Int → (β → Option γ) → Option γ} {xs : α → List Int} {M : α → Int → β → List Int → Option γ} {vl2 : Bool}
    (h0 : gtP p i = some d0) (h : X vl p gi (fun x => eI (vk x)) q F) (h1 : ∀ x, gtP (q x) i = some (eL eI (xs x))) (h2 : ∀ x v, X vl2 (q x) e (fun y => eI (vy x v y)) (q2 x v) (F2 x v)) (h3 : ∀ x v y, gtP (q2 x v y) i = some (eL eI (xs x)))
    (hr : ∀ x v y ys, B (stP (q2 x v y) i (some (eL eI ys))) rest (M x v y ys) Q) :
    B p (sSeq (sAugIx f i gi e) rest) (F fun x => (atI (xs x) (vk x)).bind fun v => F2 x v fun y => (setT (xs x) (vk x) (f v (vy x v y))).bind (M x v y)) Q := fun z e0 s mm => by
  obtain ⟨x, e2, h⟩ := h _ z e0
  obtain ⟨v, ev, e2⟩ := Option.bind_eq_some_iff.mp e2
  obtain ⟨y, e3, h2⟩ := h2 x v _ z e2
  obtain ⟨ys, e4, e5⟩ := Option.bind_eq_some_iff.mp e3
  obtain ⟨r, s1, a1, a2, a3⟩ := h s mm
  obtain ⟨r2, s2, b1, b2, b3⟩ := h2 s1 a2
  have b4 := b2.put i (eL eI ys)
  obtain ⟨fl, s', g1, g2⟩ := hr x v y ys z e5 _ b4
  refine ⟨fl, s', ?_, g2⟩
  have m0 : (s[i]?).join = some d0 := mm.get h0
  have m1 : (s1[i]?).join = some (.list ((xs x).map eI)) := a2.get (h1 x)
  have m2 : (s2[i]?).join = some (.list ((xs x).map eI)) := b2.get (h3 x v y)
  have r1 : rd r s1 = some (.int (vk x)) := a3.rd a2
  have r2' : rd r2 s2 = some (.int (vy x v y)) := b3.rd b2
  unfold atI at ev
  obtain ⟨j, hj, hx⟩ := Option.bind_eq_some_iff.mp ev
  have hlen : ((xs x).map eI).length = (xs x).length := List.length_map ..
  have hx2 : ((xs x).map eI)[j]? = some (.int v) := by rw [List.getElem?_map, hx]; rfl
  have hset : ys = (xs x).set j (f v (vy x v y)) := by
    unfold setT at e4
    rw [hj] at e4
    cases e4; rfl
  have step : sAugIx f i gi e s = .ok .nx (s2.set i (some (eL eI ys))) := by
    unfold sAugIx oV
    rw [m0]
    simp only [bind_ok, a1, r1, m1, hlen, hj, hx2, b1, r2', m2, if_true]
    rw [hset]
    unfold eL
    rw [List.map_set]
  unfold sSeq
  rw [step, bind_ok]
  exact g1
end
end Sim
namespace Sim
open PySem PySem.Spec L2
section
variable {α β γ : Type} {p : Pt} {g h' : O} {q : α → Pt} {F : (α → Option γ) → Option γ}
end
end Sim
namespace Sim
open PySem PySem.Spec L2
section
variable {α γ : Type} {p : Pt} {g : O} {q : α → Pt} {F : (α → Option γ) → Option γ}
end
end Sim
namespace Sim
open PySem PySem.Spec L2
section
variable {α β γ : Type} {p : Pt} {g h' : O} {q : α → Pt} {F : (α → Option γ) → Option γ}
end
end Sim
namespace Sim
open PySem PySem.Spec L2
end Sim
namespace Sim
open PySem PySem.Spec L2
section
variable {α γ : Type} {p : Pt} {g : O} {q : α → Pt} {F : (α → Option γ) → Option γ}
end
end Sim
namespace Sim
open PySem PySem.Spec L2
theorem gtP_eq : ∀ (p : List (Option D)) (i : Nat), gtP p i = (p[i]?).join
  | [], i => by simp [gtP]
  | o :: p, 0 => by simp [gtP]
  | o :: p, i + 1 => by rw [gtP, gtP_eq p i, List.getElem?_cons_succ]
theorem mt_iff {p : Pt} {s : Sg} : Mt p s ↔ List.length p = s.length ∧ ∀ (i : Nat) (d : D), (p : List (Option D))[i]? = some (some d) → (s : List (Option D))[i]? = some (some d) :=
  ⟨fun h => ⟨h.len, fun i d e => h.has i d (by rw [gtP_eq, e]; rfl)⟩, fun h => ⟨h.1, fun i d e => h.2 i d (by rw [gtP_eq] at e; exact join_some e)⟩⟩
theorem Mt.sets {p s : List (Option D)} (h : Mt p s) (i : Nat) (o : Option D) : Mt (p.set i o) (s.set i o) := by
  rw [mt_iff] at h ⊢
  refine ⟨by rw [List.length_set, List.length_set, h.1], fun j d e => ?_⟩
  by_cases hj : i = j
  · subst hj
    rw [List.getElem?_set] at e ⊢
    rw [if_pos rfl] at e ⊢
    rw [h.1] at e
    exact e
  · rw [List.getElem?_set_ne hj] at e ⊢
    exact h.2 j d e
theorem Mt.putG : ∀ {ds : List D} {g : Nat} {p s : List (Option D)}, Mt p s → Mt (Sim.putG g ds p) (Sim.putG g ds s)
  | [], _, _, _, h => h
  | d :: ds, g, p, s, h => by
    rw [Sim.putG, Sim.putG]
    exact Mt.putG (h.sets g (some d))
section
variable {α β δ γ κ τ σ : Type} {p : Pt}
end
section
variable {α β γ σ : Type} {p : Pt} {e : O} {rest h : S} {i x : Nat} {pv : Option Nat} {v : α → D} {q : α → Pt} {F : (α → Option γ) → Option γ} {M : α → Option γ} {Q : γ → Fl → Sg → Prop} {vl : Bool}
end
end Sim
namespace Sim
open PySem PySem.Spec L2
section
variable {α β : Type}
end
section
variable {α β δ γ ε ζ : Type}
variable {p : Pt} {g : O} {lo hi st : Option O} {v : α → D} {q : α → Pt} {F : (α → Option γ) → Option γ} {vl : Bool} {l : α → β → Option Int} {F1 : α → (β → Option γ) → Option γ}
  {u : α → β → δ → Option Int} {F2 : α → β → (δ → Option γ) → Option γ}
end
section
variable {α β γ δ ε τ σ : Type} {p : Pt} {t : T} {b : α → Bool} {q : α → Pt} {F : (α → Option γ) → Option γ} {h' : O}
end
end Sim
namespace Sim
open PySem PySem.Spec L2
section
variable {α : Type}
end
end Sim
namespace Sim
open PySem PySem.Spec L2
end Sim
namespace Sim
open PySem PySem.Spec L2
end Sim
namespace Sim
open PySem PySem.Spec L2
section
variable {α β : Type} [DecidableEq α] {ek : α → D} {f : α → NestedKey} {e : β → D}
end
section
variable {β γ : Type} {p : Pt} {gs : AL} {ks : List AK}
end
end Sim
namespace Sim
open PySem PySem.Spec L2
section
variable {α β γ δ σ τ ρ κ : Type}
def eKF (f : κ → Key) (e : τ → D) (l : List (κ × τ)) : D := frK (cK f e l)
theorem puKF {f : κ → Key} {e : τ → D} {l : List (κ × τ)} : pur (eKF f e l) = false := rfl
section
variable [DecidableEq κ] {ek : κ → D} {f : κ → Key} {e : τ → D}
theorem unFK_eKF (l : List (κ × τ)) : unFK (eKF f e l) = some (cK f e l) := unFK_fr _
theorem lock_eK (hp : Pu e) (l : List (κ × τ)) : lockE (eK f e l) = some (eKF f e l) := by
  unfold lockE
  rw [unK_eK]
  have : purs ((cK f e l).map Prod.snd) = true := by
    unfold cK
    rw [List.map_map]
    exact purs_pu (e := e) hp (l.map Prod.snd) |> fun h => by rw [List.map_map] at h; exact h
  show (if purs ((cK f e l).map Prod.snd) = true then some (frK (cK f e l)) else none) = _
  rw [if_pos this]; rfl
theorem it_FK (h : KeyK ek f) (l : List (κ × τ)) : itFK (eKF f e l) = some ((l.map Prod.fst).map ek) := by
  unfold itFK
  rw [unFK_eKF, Option.map_some]
  unfold cK
  rw [List.map_map, List.map_map]
  congr 2
  funext p
  exact (h.told p.1).symm
theorem it_FV (l : List (κ × τ)) : itFV (eKF f e l) = some ((l.map Prod.snd).map e) := by
  unfold itFV
  rw [unFK_eKF, Option.map_some]
  unfold cK
  rw [List.map_map, List.map_map]
  rfl
theorem op_ixKF (h : KeyK ek f) {k : κ} {l : List (κ × τ)} {v : τ} (g : getM l k = some v) : pIxKF [eKF f e l, ek k] = some (e v) := by
  show (toKy (ek k)).bind _ = _
  rw [toKy_ek h, unFK_eKF]
  simp [getKL_cK h, g]
end
section
variable [DecidableEq κ] {ek : κ → D} {f : κ → NestedKey} {e : τ → D}
end
variable {p : Pt} {i : Nat} {d dF : D} {itm : D → Option (List D)} {ey : β → D} {ys : List β}
theorem frzI_ok {s : Sg} (hi : s[i]? = some (some dF)) (h : itm dF = some (ys.map ey)) (hp : Pu ey) : frzI i itm s = .ok (ys.map ey, []) s := by
  unfold frzI
  rw [hi]
  show (match (some dF).bind itm with | some es => _ | none => _) = _
  rw [Option.bind_some, h]
  show (if purs (ys.map ey) = true then _ else _) = _
  rw [if_pos (purs_pu hp _)]
theorem xi_frz (h0 : gtP p i = some dF) (h : itm dF = some (ys.map ey)) (hp : Pu ey) : XI (γ := γ) p (frzI i itm) ey (fun _ : Unit => ys) (fun _ => []) (fun _ => p) (fun k => k ()) := fun k z e =>
  ⟨(), e, (fun j d hm => by cases hm), fun s m => ⟨s, frzI_ok (m.has i dF h0) h hp, m⟩⟩
/-- an expression while a slot stands still -/
theorem x_roE {g : O} {v : α → D} {q : α → Pt} {F : (α → Option γ) → Option γ} (h0 : gtP p i = some d) (hl : lockE d = some dF) (h : X true (stP p i (some dF)) g v q F) : X true p (oROE i g) v (fun x => stP (q x) i (some d)) F := fun k z e => by
  obtain ⟨x, e1, h⟩ := h k z e
  refine ⟨x, e1, fun s m => ?_⟩
  obtain ⟨r, s', a1, a2, a3⟩ := h _ (m.put i dF)
  have hr : r = .val (v x) := by
    rcases a3 with h | h
    · exact h
    · exact absurd h.1 (by decide)
  subst hr
  refine ⟨.val (v x), s'.set i (some d), ?_, a2.put i d, .inl rfl⟩
  unfold oROE
  rw [m.has i d h0]
  simp only [Option.join_some, Option.bind_some, hl, Option.map_some]
  show (g (s.set i (some dF))).bind _ = _
  rw [a1]; rfl
section
variable {g rest : S} {t : Tg} {lkf : Nat → Bool} {pb : σ → β → Pt} {Q : γ → Fl → Sg → Prop}
end
end
section
variable {α β γ κ τ : Type}
def delM [DecidableEq κ] (l : List (κ × τ)) (k : κ) : List (κ × τ) := l.filter fun p => decide (p.1 ≠ k)
def popM [DecidableEq κ] (l : List (κ × τ)) (k : κ) : Option (τ × List (κ × τ)) := (getM l k).map fun v => (v, delM l k)
theorem dropKL_cK [DecidableEq κ] {ek : κ → D} {f : κ → Key} {e : τ → D} (h : KeyK ek f) (k : κ) : ∀ l : List (κ × τ), dropKL (cK f e l) (f k) = cK f e (delM l k)
  | [] => rfl
  | p :: l => by
    have ih := dropKL_cK (e := e) h k l
    unfold dropKL delM cK at ih ⊢
    rw [List.map_cons, List.filter_cons, List.filter_cons]
    have d := dec_fK h p.1 k
    by_cases c : p.1 = k
    · have c2 : f p.1 = f k := congrArg f c
      simp only [c2, c, ne_eq, not_true, decide_false, Bool.false_eq_true, if_false]
      exact ih
    · have c2 : f p.1 ≠ f k := fun z => c (h.inj _ _ z)
      simp only [ne_eq, c2, c, not_false_eq_true, decide_true, if_true, List.map_cons, ih]
theorem x_popK [DecidableEq κ] {ek : κ → D} {f : κ → Key} {e : τ → D} {p : Pt} {g : O} {i : Nat} {x0 : List (κ × τ)} {l : α → List (κ × τ)} {kv : α → κ} {q : α → Pt} {F : (α → Option γ) → Option γ} {vl : Bool} (hk : KeyK ek f) (hp : Pu e) (h0 : gtP p i = some (eK f e x0)) (h : X vl p g (fun x => ek (kv x)) q F) (h1 : ∀ x, gtP (q x) i = some (eK f e (l x))) :
    X true p (oPopK i g) (fun w : α × (τ × List (κ × τ)) => e w.2.1) (fun w => stP (q w.1) i (some (eK f e w.2.2))) (fun k => F fun x => (popM (l x) (kv x)).bind fun z => k (x, z)) := fun k z e0 => by
  obtain ⟨x, e1, h⟩ := h _ z e0
  obtain ⟨y, e2, e3⟩ := Option.bind_eq_some_iff.mp e1
  obtain ⟨v, e4, rfl⟩ := Option.map_eq_some_iff.mp e2
  refine ⟨(x, (v, delM (l x) (kv x))), e3, fun s mm => ?_⟩
  obtain ⟨r, s2, b1, b2, b3⟩ := h s mm
  refine ⟨.val (e v), _, ?_, b2.put i (eK f e (delM (l x) (kv x))), .inl rfl⟩
  have g1 : (s[i]?).join = some (eK f e x0) := mm.get h0
  have g2 : (s2[i]?).join = some (eK f e (l x)) := b2.get (h1 x)
  have hv : purs ((cK f e (l x)).map Prod.snd) = true := by
    unfold cK
    rw [List.map_map]
    exact purs_pu (e := e) hp ((l x).map Prod.snd) |> fun h => by rw [List.map_map] at h; exact h
  unfold oPopK
  rw [ev_oV, g1, ev_oVK, ev_ok]
  simp only [g1, Option.bind_some, unK_eK]
  rw [b1, bind_ok]
  simp only [b3.rd b2, g2, Option.bind_some, unK_eK, toKy_ek hk, getKL_cK hk, e4, Option.map_some]
  rw [if_pos hv, dropKL_cK hk]; rfl
end
end Sim
namespace Sim
open PySem PySem.Spec L2
section
variable {α β γ : Type}
end
end Sim
namespace Sim
open PySem PySem.Spec L2
end Sim
namespace Sim
open PySem PySem.Spec L2
section
variable {α β γ δ : Type}
/-- x = y, y not read behind -/
theorem Mt.none {p : Pt} {s : Sg} (h : Mt p s) (i : Nat) : Mt (stP p i none) (s.set i none) := by
  refine ⟨by rw [stP_len, List.length_set, h.len], fun j e hj => ?_⟩
  rw [gtP_stP] at hj
  by_cases c : i = j
  · subst c
    by_cases c2 : i < p.length
    · rw [if_pos ⟨rfl, c2⟩] at hj
      cases hj
    · rw [if_neg (fun z => c2 z.2)] at hj
      exact absurd (gtP_lt hj) c2
  · rw [if_neg (fun z => c z.1)] at hj
    rw [List.getElem?_set_ne c]
    exact h.has j e hj
end
end Sim
namespace Sim
open PySem PySem.Spec L2
end Sim
namespace Sim
open PySem PySem.Spec L2
end Sim
namespace Sim
open PySem PySem.Spec L2
/-- what a statement raises (none: nothing) -/
def BZ (p : Pt) (r : Rz) (m : Option (Option Str)) (q : Pt) : Prop := ∀ z, m = some z → ∀ s, Mt p s → match z with
  | none => r s = none
  | some c => ∃ s1, r s = some (c, s1) ∧ Mt q s1
section
variable {p q : Pt} {r ra rb : Rz} {m ma mb : Option (Option Str)}
theorem BZ.cv {m' : Option (Option Str)} (h : BZ p r m q) (e : m = m') : BZ p r m' q := e ▸ h
end
end Sim
namespace Sim
open PySem PySem.Spec L2
section
variable {α β γ : Type} {p : Pt} {g : O} {gs : List O} {v : α → D} {q : α → Pt} {F : (α → Option γ) → Option γ} {vs : α → β → List D} {F2 : α → (β → Option γ) → Option γ}
end
end Sim
namespace Sim
open PySem PySem.Spec L2
section
variable {α β : Type} [DecidableEq α] {ek : α → D} {f : α → NestedKey} {e : β → D}
end
def un4 {α : Type} : List α → Option (α × α × α × α)
  | [a, b, c, d] => some (a, b, c, d)
  | _ => none
theorem x_unT4 {α γ τ : Type} {vl : Bool} {p : Pt} {g : O} {e : τ → D} {xs : α → List τ} {q : α → Pt} {F : (α → Option γ) → Option γ} (h : X vl p g (fun x => eT e (xs x)) q F) :
    X vl p g (fun w : α × (τ × τ × τ × τ) => .tuple [e w.2.1, e w.2.2.1, e w.2.2.2.1, e w.2.2.2.2]) (fun w => q w.1) (fun k => F fun x => (un4 (xs x)).bind fun z => k (x, z)) := fun k z e0 => by
  obtain ⟨x, e1, h⟩ := h _ z e0
  obtain ⟨y, e2, e3⟩ := Option.bind_eq_some_iff.mp e1
  have : xs x = [y.1, y.2.1, y.2.2.1, y.2.2.2] := by
    unfold un4 at e2
    split at e2
    · rename_i a b c d hx
      cases e2; exact hx
    · cases e2
  refine ⟨(x, y), e3, fun s m => ?_⟩
  obtain ⟨r, s', h1, h2, h3⟩ := h s m
  have h3 : Rd vl (q x) r (eT e (xs x)) := h3
  rw [this] at h3
  exact ⟨r, s', h1, h2, h3⟩
def idxG {τ : Type} [DecidableEq τ] (xs : List τ) (y : τ) : Option Int := (xs.findIdx? fun z => decide (z = y)).map fun (j : Nat) => (j : Int)
theorem x_idxD {α β γ τ : Type} [DecidableEq τ] {n : Nat} {e : τ → D} (he : Eqv n e) (hL : Eqv (n + 1) (eL e)) (hn : n ≤ 63) {p : Pt} {g h' : O} {xs : α → List τ} {q : α → Pt} {F : (α → Option γ) → Option γ} {vl vl2 : Bool} {vy : α → β → τ} {F2 : α → (β → Option γ) → Option γ}
    (h : X vl p g (fun x => eL e (xs x)) q F) (h2 : ∀ x, X vl2 (q x) h' (fun y => e (vy x y)) (fun _ => q x) (F2 x)) :
    X true p (oIdxD g h') (fun w : α × β × Int => eI w.2.2) (fun w => q w.1) (fun k => F fun x => F2 x fun y => (idxG (xs x) (vy x y)).bind fun z => k (x, y, z)) := fun k z e0 => by
  obtain ⟨x, e1, h⟩ := h _ z e0
  obtain ⟨y, e2, h2⟩ := h2 x _ z e1
  obtain ⟨w, e3, e4⟩ := Option.bind_eq_some_iff.mp e2
  refine ⟨(x, y, w), e4, fun s mm => ?_⟩
  obtain ⟨r, s1, a1, a2, a3⟩ := h s mm
  obtain ⟨r2, s2, b1, b2, b3⟩ := h2 s1 a2
  refine ⟨.val (eI w), s2, ?_, b2, .inl rfl⟩
  have e5 : rds [r, r2] s2 = some [eL e (xs x), e (vy x y)] := by rw [rds_cons, rds_cons, rds_nil, a3.rd b2, b3.rd b2]; rfl
  have e6 : rd r s1 = some (.list ((xs x).map e)) := a3.rd a2
  unfold idxG at e3
  obtain ⟨j, f1, f2⟩ := Option.map_eq_some_iff.mp e3
  subst f2
  have hf : (((xs x).map e).findIdx? fun z => PyData.eqv z (e (vy x y))) = some j := by
    rw [List.findIdx?_map]
    have : (fun z => PyData.eqv z (e (vy x y))) ∘ e = fun z => decide (z = vy x y) := by
      funext z; exact he.eq z _
    rw [this, f1]
  have e7 : rds [r, r2] s2 = some [.list ((xs x).map e), e (vy x y)] := e5
  have c1 : shp (.list ((xs x).map e)) = true := hL.shp (by omega) (xs x)
  have c2 : shp (e (vy x y)) = true := he.shp (by omega) (vy x y)
  unfold oIdxD
  rw [a1, ev_ok, e6]
  simp only [b1, ev_ok, e7]
  rw [if_pos ⟨c1, c2⟩, hf]
theorem op_ne0K' {α β : Type} [DecidableEq α] {f : α → Key} {e : β → D} (l : List (α × β)) : pNe0K [eK f e l, eK f e []] = some (eB (!l.isEmpty)) := by
  show (unK (eK f e l)).bind _ = _
  rw [unK_eK, unK_eK]
  cases l <;> rfl
theorem x_mapO {α γ τ : Type} (e : τ → D) {vl : Bool} {p : Pt} {g : O} {xs : α → List τ} {q : α → Pt} {F : (α → Option γ) → Option γ} (h : X vl p g (fun x => eT e (xs x)) q F) : X vl p g (fun x => eT (eO e) ((xs x).map some)) q F := by
  have : (fun x => eT (eO e) ((xs x).map some)) = fun x => eT e (xs x) := by
    funext x
    show PyData.tuple (((xs x).map some).map (eO e)) = .tuple ((xs x).map e)
    rw [List.map_map]
    rfl
  rw [this]
  exact h
end Sim
namespace Sim
open PySem PySem.Spec L2
def topS (i : Nat) : Stmt := PySem.Challenge.pw_stairlanes_k97_balls_at_their_paces.main.body.getD i (.Pass ⟨0, 0, 0, 0⟩)
abbrev s_on_lane : Stmt := topS 1
theorem sc_on_lane : FnScope ["net", "lane", "number", "fork"] ["net", "lane"] (defScope s_on_lane) := ⟨rfl, rfl, rfl, by decide +kernel, rfl, by decide +kernel, by decide +kernel⟩
def b_on_lane : S :=
  (sRet (lkM [0, 0]) (oPrim pTuple (aCons (oComp (mkI itE (aCons (o2 pIx (oV 0) (oC (.int 1))) aNil)) (.tp [(.nm 2), (.nm 3)]) (tst (o2 pIn (oV 1) (oV 3))) (oV 2) [2, 3]) aNil)))
def f_on_lane : Fn := mkFn [0, 0] 4 b_on_lane
abbrev s_fork_behind : Stmt := topS 3
theorem sc_fork_behind : FnScope ["net", "lane", "number", "fork"] ["net", "lane", "number"] (defScope s_fork_behind) := ⟨rfl, rfl, rfl, by decide +kernel, rfl, by decide +kernel, by decide +kernel⟩
def b_fork_behind : S :=
  (sSeq (sFor (lkM [0, 0, 0]) (mkI itP (aCons (oCall f_on_lane (aCons (oV 0) (aCons (oV 1) aNil))) aNil)) (.nm 3)
  (sIf (tst (o2 pGt (oV 3) (oV 2)))
  (sRet (lkM [0, 0, 0]) (oV 3))
  sSkip)) (sRet (lkM [0, 0, 0]) (oPrim pLen (aCons (o2 pIx (oV 0) (oC (.int 1))) aNil))))
def f_fork_behind : Fn := mkFn [0, 0, 0] 4 b_fork_behind
abbrev s_ran : Stmt := topS 5
theorem sc_ran : FnScope ["net", "runs", "turns", "came_out", "found", "moving", "ball", "run", "moment", "lane", "last", "fork", "end"] ["net", "runs"] (defScope s_ran) := ⟨rfl, rfl, rfl, by decide +kernel, rfl, by decide +kernel, by decide +kernel⟩
def b_ran (n : Nat) : S :=
  (sSeq (sSet 2 (o2 pMul (oLst (aCons (oC (.int 0)) aNil)) (oPrim pLen (aCons (o2 pIx (oV 0) (oC (.int 1))) aNil)))) (sSeq (sSet 3 (o2 pMul (oLst (aCons (oC (.int 0)) aNil)) (o2 pIx (oV 0) (oC (.int 0))))) (sSeq (sSet 4 (o2 pMul (oLst (aCons (oC .none) aNil)) (oPrim pLen (aCons (oV 1) aNil)))) (sSeq (sSet 5 (oComp (mkI itE (aCons (oV 1) aNil)) (.tp [(.nm 6), (.nm 7)]) tYesT (oTup (aCons (o2 pIx (oV 7) (oC (.int 1))) (aCons (oV 6) (aCons (o2 pIx (oV 7) (oC (.int 0))) (aCons (o1 pNeg (oC (.int 1))) aNil))))) [6, 7])) (sSeq (sWhile (tst (o2 pNe (oV 5) (oLst aNil)))
  (sSeq (sAsg (.tp [(.nm 8), (.nm 6), (.nm 9), (.nm 10)]) (oMt mPopAt 5 (aCons (oIdxD (oV 5) (oPrim pMinAny (aCons (oV 5) aNil))) aNil))) (sSeq (sSet 11 (oCall f_fork_behind (aCons (oV 0) (aCons (oV 9) (aCons (oV 10) aNil))))) (sIf (tst (o2 pEq (oV 11) (oPrim pLen (aCons (o2 pIx (oV 0) (oC (.int 1))) aNil))))
  (sSeq (sSet 12 (oIdxT (o2 pIx (oV 0) (oC (.int 2))) (oV 9))) (sSeq (sSetIx 4 (oV 6) (oTup (aCons (o2 pAdd (oV 12) (o2 pMul (o2 pIx (oV 0) (oC (.int 0))) (o2 pIx (oV 3) (oV 12)))) (aCons (oV 12) (aCons (oV 8) aNil))))) (sAugIx (fun i j => i + j) 3 (oV 12) (oC (.int 1)))))
  (sSeq (sExpr (oMt mApp 5 (aCons (oTup (aCons (o2 pAdd (oV 8) (o2 pIx (o2 pIx (oV 1) (oV 6)) (oC (.int 2)))) (aCons (oV 6) (aCons (o2 pIx (o2 pIx (o2 pIx (oV 0) (oC (.int 1))) (oV 11)) (o2 pIx (oV 2) (oV 11))) (aCons (oV 11) aNil))))) aNil))) (sSetIx 2 (oV 11) (o2 pSub (oC (.int 1)) (o2 pIx (oV 2) (oV 11)))))))) (n * 256)) (sRet (lkM [0, 0]) (oPrim pTuple (aCons (oV 4) aNil))))))))
def f_ran (n : Nat) : Fn := mkFn [0, 0] 13 (b_ran n)
theorem len_ran (n : Nat) (ds : List D) (r : D) (as : List D) (h : f_ran n ds = .ok r as) : ds.length = 2 := mkFn_len h
abbrev s__law_cell_at : Stmt := topS 7
theorem sc__law_cell_at : FnScope ["_law_script", "_law_k"] ["_law_script", "_law_k"] (defScope s__law_cell_at) := ⟨rfl, rfl, rfl, by decide +kernel, rfl, by decide +kernel, by decide +kernel⟩
def b__law_cell_at : S :=
  (sSeq (sIf (tst (o2 pLt (oV 1) (oPrim pLen (aCons (oV 0) aNil))))
  (sRet (lkM [0, 0]) (o2 pIx (oV 0) (oV 1)))
  sSkip) (sRet (lkM [0, 0]) (oC (.int 0))))
def f__law_cell_at : Fn := mkFn [0, 0] 2 b__law_cell_at
abbrev s__law_left : Stmt := topS 8
theorem sc__law_left : FnScope ["_law_script", "_law_k", "_law_cell", "_law_seed"] ["_law_script", "_law_k"] (defScope s__law_left) := ⟨rfl, rfl, rfl, by decide +kernel, rfl, by decide +kernel, by decide +kernel⟩
def b__law_left : S :=
  (sSeq (sSet 2 (oCall f__law_cell_at (aCons (oV 0) (aCons (o2 pMod (oV 1) (oPrim pMax2 (aCons (oC (.int 1)) (aCons (oPrim pLen (aCons (oV 0) aNil)) aNil)))) aNil)))) (sSeq (sSet 3 (o2 pMod (o2 pMul (o2 pAdd (o2 pAdd (o2 pMod (oV 2) (oC (.int 2147483629))) (o2 pMul (o2 pMul (oC (.int 7919)) (oV 1)) (oV 1))) (oC (.int 11))) (oC (.int 48271))) (oC (.int 2147483647)))) (sRet (lkM [0, 0]) (oLst (aCons (o2 pMod (o2 pMul (oPrim pAbs (aCons (oV 2) aNil)) (oPrim pInt (aCons (o2 pGe (oPrim pAbs (aCons (oV 2) aNil)) (o2 pPow (oC (.int 10)) (oC (.int 18)))) aNil))) (oTen 2000)) (aCons (oV 3) aNil))))))
def f__law_left : Fn := mkFn [0, 0] 4 b__law_left
abbrev s__law_pick : Stmt := topS 9
theorem sc__law_pick : FnScope ["_law_left_here", "_law_many", "_law_digit"] ["_law_left_here", "_law_many"] (defScope s__law_pick) := ⟨rfl, rfl, rfl, by decide +kernel, rfl, by decide +kernel, by decide +kernel⟩
def b__law_pick : S :=
  (sSeq (sIf (tst (o2 pGt (o2 pIx (oV 0) (oC (.int 0))) (oC (.int 0))))
  (sSeq (sSet 2 (o2 pMod (o2 pIx (oV 0) (oC (.int 0))) (oV 1))) (sSeq (sSetIx 0 (oC (.int 0)) (o2 pDiv (o2 pIx (oV 0) (oC (.int 0))) (oV 1))) (sRet (lkM [0, 0]) (oV 2))))
  sSkip) (sSeq (sSetIx 0 (oC (.int 1)) (o2 pMod (o2 pAdd (o2 pMul (o2 pIx (oV 0) (oC (.int 1))) (oC (.int 48271))) (oC (.int 12345))) (oC (.int 2147483647)))) (sRet (lkM [0, 0]) (o2 pMod (o2 pMod (o2 pMul (o2 pIx (oV 0) (oC (.int 1))) (o2 pIx (oV 0) (oC (.int 1)))) (oC (.int 1999999973))) (oV 1)))))
def f__law_pick : Fn := mkFn [0, 0] 3 b__law_pick
abbrev s__law_of : Stmt := topS 10
theorem sc__law_of : FnScope ["_law_left_here", "_law_some"] ["_law_left_here", "_law_some"] (defScope s__law_of) := ⟨rfl, rfl, rfl, by decide +kernel, rfl, by decide +kernel, by decide +kernel⟩
def b__law_of : S :=
  (sRet (lkM [0, 0]) (o2 pIx (oV 1) (oCall f__law_pick (aCons (oV 0) (aCons (oPrim pLen (aCons (oV 1) aNil)) aNil)))))
def f__law_of : Fn := mkFn [0, 0] 2 b__law_of
abbrev s__law_placed : Stmt := topS 11
theorem sc__law_placed : FnScope ["_law_left_here", "_law_some", "_law_found"] ["_law_left_here", "_law_some"] (defScope s__law_placed) := ⟨rfl, rfl, rfl, by decide +kernel, rfl, by decide +kernel, by decide +kernel⟩
def b__law_placed (n : Nat) : S :=
  (sSeq (sSet 2 (oLst aNil)) (sSeq (sWhile (tst (o2 pNe (oV 1) (oLst aNil)))
  (sExpr (oMt mApp 2 (aCons (oMt mPopAt 1 (aCons (oCall f__law_pick (aCons (oV 0) (aCons (oPrim pLen (aCons (oV 1) aNil)) aNil))) aNil)) aNil))) n) (sRet (lkM [0, 2]) (oV 2))))
def f__law_placed (n : Nat) : Fn := mkFn2 [0, 2] 1 3 (b__law_placed n)
theorem len__law_placed (n : Nat) (ds : List D) (r : D) (as : List D) (h : f__law_placed n ds = .ok r as) : ds.length = 2 := mkFn2_len h
abbrev s__law_net : Stmt := topS 12
theorem sc__law_net : FnScope ["_law_left_here", "_law_lanes_here", "_law_most", "_law_forks", "_law_k", "_law_a", "_law_b", "_law_ends"] ["_law_left_here", "_law_lanes_here", "_law_most"] (defScope s__law_net) := ⟨rfl, rfl, rfl, by decide +kernel, rfl, by decide +kernel, by decide +kernel⟩
def b__law_net (n : Nat) : S :=
  (sSeq (sSet 3 (oLst aNil)) (sSeq (sFor (lkM [0, 0, 0]) (mkI itR1 (aCons (o2 pMul (oCall f__law_pick (aCons (oV 0) (aCons (o2 pAdd (oV 2) (oC (.int 1))) aNil))) (oPrim pInt (aCons (o2 pGt (oV 1) (oC (.int 1))) aNil))) aNil)) (.nm 4)
  (sSeq (sSet 5 (oCall f__law_pick (aCons (oV 0) (aCons (oV 1) aNil)))) (sSeq (sSet 6 (o2 pMod (o2 pAdd (o2 pAdd (oV 5) (oC (.int 1))) (oCall f__law_pick (aCons (oV 0) (aCons (o2 pSub (oV 1) (oC (.int 1))) aNil)))) (oV 1))) (sSeq (sIf (tAnd (tst (o2 pNe (oV 3) (oLst aNil))) (tst (o2 pEq (oCall f__law_pick (aCons (oV 0) (aCons (oC (.int 4)) aNil))) (oC (.int 0)))))
  (sAsg (.tp [(.nm 5), (.nm 6)]) (oStE (o2 pIx (oV 3) (o1 pNeg (oC (.int 1)))) (some (oCall f__law_of (aCons (oV 0) (aCons (oLst (aCons (oC (.int 1)) (aCons (o1 pNeg (oC (.int 1))) aNil))) aNil))))))
  sSkip) (sExpr (oMt mApp 3 (aCons (oTup (aCons (oV 5) (aCons (oV 6) aNil))) aNil))))))) (sSeq (sSet 7 (oPrim (pListRg) (aCons (oV 1) aNil))) (sSeq (sIf (tst (o2 pEq (oCall f__law_pick (aCons (oV 0) (aCons (oC (.int 2)) aNil))) (oC (.int 0))))
  (sSet 7 (oCall (f__law_placed n) (aCons (oV 0) (aCons (oV 7) aNil))))
  sSkip) (sRet (lkM [0, 0, 0]) (oTup (aCons (oV 1) (aCons (oPrim pTuple (aCons (oV 3) aNil)) (aCons (oPrim pTuple (aCons (oV 7) aNil)) aNil)))))))))
def f__law_net (n : Nat) : Fn := mkFn [0, 0, 0] 8 (b__law_net n)
theorem len__law_net (n : Nat) (ds : List D) (r : D) (as : List D) (h : f__law_net n ds = .ok r as) : ds.length = 3 := mkFn_len h
abbrev s__law_lanes : Stmt := topS 13
theorem sc__law_lanes : FnScope ["_law_left_here"] ["_law_left_here"] (defScope s__law_lanes) := ⟨rfl, rfl, rfl, by decide +kernel, rfl, by decide +kernel, by decide +kernel⟩
def b__law_lanes : S :=
  (sRet (lkM [0]) (oCall f__law_of (aCons (oV 0) (aCons (oLst (aCons (oC (.int 1)) (aCons (oC (.int 2)) (aCons (oC (.int 2)) (aCons (oC (.int 3)) (aCons (oC (.int 4)) (aCons (oC (.int 5)) (aCons (oC (.int 6)) (aCons (oC (.int 16)) aNil))))))))) aNil))))
def f__law_lanes : Fn := mkFn [0] 1 b__law_lanes
abbrev s__law_runs : Stmt := topS 14
theorem sc__law_runs : FnScope ["_law_left_here", "_law_net_here", "_law_most", "_law_some", "_law_found", "_law_k", "_law_start", "_law_pace"] ["_law_left_here", "_law_net_here", "_law_most"] (defScope s__law_runs) := ⟨rfl, rfl, rfl, by decide +kernel, rfl, by decide +kernel, by decide +kernel⟩
def b__law_runs : S :=
  (sSeq (sSet 3 (oCall f__law_pick (aCons (oV 0) (aCons (oC (.int 4)) aNil)))) (sSeq (sSet 4 (oLst aNil)) (sSeq (sFor (lkM [0, 0, 0]) (mkI itR1 (aCons (oCall f__law_of (aCons (oV 0) (aCons (oLst (aCons (oC (.int 0)) (aCons (oC (.int 1)) (aCons (oC (.int 2)) (aCons (oC (.int 5)) (aCons (oC (.int 12)) (aCons (oV 2) aNil))))))) aNil))) aNil)) (.nm 5)
  (sSeq (sSet 6 (oCall f__law_pick (aCons (oV 0) (aCons (o2 pIx (oLst (aCons (oC (.int 1)) (aCons (oC (.int 4)) (aCons (oC (.int 40)) (aCons (oC (.int 400)) aNil))))) (oV 3)) aNil)))) (sSeq (sIf (tst (o2 pEq (oCall f__law_pick (aCons (oV 0) (aCons (oC (.int 9)) aNil))) (oC (.int 0))))
  (sSet 6 (o2 pAdd (oTenV (oCall f__law_pick (aCons (oV 0) (aCons (oC (.int 29)) aNil)))) (oV 6)))
  sSkip) (sSeq (sSet 7 (o2 pAdd (oC (.int 1)) (oCall f__law_pick (aCons (oV 0) (aCons (oCall f__law_of (aCons (oV 0) (aCons (oLst (aCons (oC (.int 1)) (aCons (oC (.int 1)) (aCons (oC (.int 3)) (aCons (oC (.int 30)) (aCons (o2 pPow (oC (.int 10)) (oC (.int 6))) aNil)))))) aNil))) aNil))))) (sExpr (oMt mApp 4 (aCons (oTup (aCons (oCall f__law_pick (aCons (oV 0) (aCons (o2 pIx (oV 1) (oC (.int 0))) aNil))) (aCons (oV 6) (aCons (oV 7) aNil)))) aNil))))))) (sRet (lkM [0, 0, 0]) (oPrim pTuple (aCons (oV 4) aNil))))))
def f__law_runs : Fn := mkFn [0, 0, 0] 8 b__law_runs
abbrev s__law_ran : Stmt := topS 15
theorem sc__law_ran : FnScope ["_law_net_here", "_law_runs_here", "_law_turns", "_law_came", "_law_due", "_law_ball", "_law_run", "_law_found", "_law_now", "_law_moment", "_law_lane", "_law_ahead", "_law_one", "_law_some", "_law_k", "_law_end", "_law_fork"] ["_law_net_here", "_law_runs_here"] (defScope s__law_ran) := ⟨rfl, rfl, rfl, by decide +kernel, rfl, by decide +kernel, by decide +kernel⟩
def b__law_ran (n : Nat) : S :=
  (sSeq (sPar [2, 3] (aCons (o2 pMul (oLst (aCons (oC (.int 0)) aNil)) (oPrim pLen (aCons (o2 pIx (oV 0) (oC (.int 1))) aNil))) (aCons (o2 pMul (oLst (aCons (oC (.int 0)) aNil)) (o2 pIx (oV 0) (oC (.int 0)))) aNil))) (sSeq (sSet 4 (oPrim pDictK (aCons (oComp (mkI itE (aCons (oV 1) aNil)) (.tp [(.nm 5), (.nm 6)]) tYesT (oTup (aCons (oV 5) (aCons (oTup (aCons (o2 pIx (oV 6) (oC (.int 1))) (aCons (o2 pIx (oV 6) (oC (.int 0))) (aCons (oC (.int 0)) aNil)))) aNil))) [5, 6]) aNil))) (sSeq (sSet 7 oNewK) (sSeq (sWhile (tst (o2 pNe0K (oV 4) oNewK))
  (sSeq (sSet 8 (oPrim pMinAny (aCons (oROE 4 (oComp (frzI 4 itFV) (.tp [(.nm 9), (.nm 10), (.nm 11)]) tYesT (oV 9) [9, 10, 11])) aNil))) (sFor (lkM [0, 0]) (mkI itP (aCons (oPrim pSortAny (aCons (oROE 4 (oComp (frzI 4 itFK) (.nm 12) (tst (o2 pEq (o2 pIx (o2 pIxKF (oV 4) (oV 12)) (oC (.int 0))) (oV 8))) (oV 12) [12])) aNil)) aNil)) (.nm 5)
  (sSeq (sAsg (.tp [(.nm 9), (.nm 10), (.nm 11)]) (oPopK 4 (oV 5))) (sSeq (sSet 13 (oComp (mkI itR2 (aCons (oV 11) (aCons (oPrim pLen (aCons (o2 pIx (oV 0) (oC (.int 1))) aNil)) aNil))) (.nm 14) (tst (o2 pIn (oV 10) (o2 pIx (o2 pIx (oV 0) (oC (.int 1))) (oV 14)))) (oV 14) [14])) (sIf (tst (o2 pEq (oV 13) (oLst aNil)))
  (sSeq (sSet 15 (oIdxT (o2 pIx (oV 0) (oC (.int 2))) (oV 10))) (sSeq (sSetK 7 (oV 5) (oTup (aCons (o2 pAdd (oV 15) (o2 pMul (o2 pIx (oV 0) (oC (.int 0))) (o2 pIx (oV 3) (oV 15)))) (aCons (oV 15) (aCons (oV 8) aNil))))) (sAugIx (fun i j => i + j) 3 (oV 15) (oC (.int 1)))))
  (sSeq (sSet 16 (o2 pIx (oV 13) (oC (.int 0)))) (sSeq (sSetK 4 (oV 5) (oTup (aCons (o2 pAdd (oV 8) (o2 pIx (o2 pIx (oV 1) (oV 5)) (oC (.int 2)))) (aCons (o2 pIx (o2 pIx (o2 pIx (oV 0) (oC (.int 1))) (oV 16)) (o2 pIx (oV 2) (oV 16))) (aCons (o2 pAdd (oV 16) (oC (.int 1))) aNil))))) (sSetIx 2 (oV 16) (o2 pSub (oC (.int 1)) (o2 pIx (oV 2) (oV 16))))))))))) (n * 256)) (sRet (lkM [0, 0]) (oPrim pTuple (aCons (oComp (mkI itR1 (aCons (oPrim pLen (aCons (oV 1) aNil)) aNil)) (.nm 5) tYesT (o2 pIxK (oV 7) (oV 5)) [5]) aNil)))))))
def f__law_ran (n : Nat) : Fn := mkFn [0, 0] 17 (b__law_ran n)
theorem len__law_ran (n : Nat) (ds : List D) (r : D) (as : List D) (h : f__law_ran n ds = .ok r as) : ds.length = 2 := mkFn_len h
abbrev s__law_same : Stmt := topS 16
theorem sc__law_same : FnScope ["_law_found", "_law_due", "_law_one", "_law_other"] ["_law_found", "_law_due"] (defScope s__law_same) := ⟨rfl, rfl, rfl, by decide +kernel, rfl, by decide +kernel, by decide +kernel⟩
def b__law_same (n : Nat) (R : Fn) : S :=
  (sSeq (sIf (tstA (o1 (pIsi .tup) (oV 1)))
  (sSeq (sIf (tOr (tNot (tstA (o1 (pIsi .tup) (oV 0)))) (tst (o2 pNe (oPrim pLen (aCons (oV 0) aNil)) (oPrim pLen (aCons (oV 1) aNil)))))
  (sRet (lkM [0, 0]) (oC (.bool false)))
  sSkip) (sRet (lkM [0, 0]) (oPrim pAll (aCons (oComp (mkI itZ (aCons (oV 0) (aCons (oV 1) aNil))) (.tp [(.nm 2), (.nm 3)]) tYesT (oCall (R) (aCons (oV 2) (aCons (oV 3) aNil))) [2, 3]) aNil))))
  sSkip) (sRet (lkM [0, 0]) (oAnd (o1 (pIsi .int) (oV 0)) (oAnd (oNot (o1 (pIsi .bool) (oV 0))) (o2 pEq (oV 0) (oV 1))))))
def f__law_same : Nat → Fn
  | 0 => mkFn [0, 0] 4 sNever
  | n + 1 => mkFn [0, 0] 4 (b__law_same n (f__law_same n))
theorem len__law_same : ∀ (n : Nat) (ds : List D) (r : D) (as : List D), f__law_same n ds = .ok r as → ds.length = 2
  | 0, _, _, _, h => mkFn_len h
  | _ + 1, _, _, _, h => mkFn_len h
abbrev s_law : Stmt := topS 17
theorem sc_law : FnScope ["_law_script", "_law_k", "_law_left_here", "_law_net_here", "_law_turn", "_law_runs_here", "_law_due", "_law_again"] ["_law_script"] (defScope s_law) := ⟨rfl, rfl, rfl, by decide +kernel, rfl, by decide +kernel, by decide +kernel⟩
def b_law (n : Nat) : S :=
  (sSeq (sFor (lkM [0]) (mkI itR1 (aCons (oPrim pMax2 (aCons (oC (.int 1)) (aCons (oPrim pMin2 (aCons (oC (.int 5)) (aCons (oPrim pLen (aCons (oV 0) aNil)) aNil))) aNil))) aNil)) (.nm 1)
  (sSeq (sSet 2 (oCall f__law_left (aCons (oV 0) (aCons (oV 1) aNil)))) (sSeq (sSet 3 (oCall (f__law_net n) (aCons (oV 2) (aCons (oCall f__law_lanes (aCons (oV 2) aNil)) (aCons (oCall f__law_of (aCons (oV 2) (aCons (oLst (aCons (oC (.int 4)) (aCons (oC (.int 12)) (aCons (oC (.int 30)) aNil)))) aNil))) aNil))))) (sFor (lkM [0]) (mkI itR1 (aCons (oC (.int 3)) aNil)) (.nm 4)
  (sSeq (sSet 5 (oCall f__law_runs (aCons (oV 2) (aCons (oV 3) (aCons (oC (.int 24)) aNil))))) (sSeq (sSet 6 (oCall (f__law_ran n) (aCons (oV 3) (aCons (oV 5) aNil)))) (sFor (lkM [0]) (mkI itR1 (aCons (oC (.int 2)) aNil)) (.nm 7)
  (sIf (tNot (tstA (oCall (f__law_same n) (aCons (oCall (f_ran n) (aCons (oV 3) (aCons (oV 5) aNil))) (aCons (oV 6) aNil)))))
  (sRet (lkM [0]) (oC (.bool false)))
  sSkip)))))))) (sRet (lkM [0]) (oC (.bool true))))
def f_law (n : Nat) : Fn := mkFn [0] 8 (b_law n)
theorem len_law (n : Nat) (ds : List D) (r : D) (as : List D) (h : f_law n ds = .ok r as) : ds.length = 1 := mkFn_len h
theorem zipD_self : ∀ ds : List D, zipD ds ds = ds.map fun x => .tuple [x, x]
  | [] => rfl
  | d :: ds => by rw [zipD, zipD_self ds]; rfl
theorem purs_self (ds : List D) (h : purs ds = true) : purs (ds.map fun x => PyData.tuple [x, x]) = true := by
  induction ds with
  | nil => rfl
  | cons d ds ih =>
    simp only [purs_cons, Bool.and_eq_true] at h
    rw [List.map_cons, purs_cons, ih h.2]
    simp [h.1]
theorem bools_true (ds : List D) : bools (ds.map fun _ => PyData.bool true) = some (ds.map fun _ => true) := bools_map (fun _ => true) ds
theorem purs_mem : ∀ {ds : List D} {x : D}, purs ds = true → x ∈ ds → pur x = true
  | [], _, _, h => by cases h
  | d :: ds, x, p, h => by
    simp only [purs_cons, Bool.and_eq_true] at p
    rcases List.mem_cons.mp h with rfl | h
    · exact p.1
    · exact purs_mem p.2 h
theorem sdatI_pur : ∀ (n : Nat) (d : D), sdatI n d = true → pur d = true
  | 0, _, h => by simp [sdatI] at h
  | n + 1, d, h => by
    cases d with
    | tuple ds =>
      simp only [sdatI, Bool.and_eq_true] at h
      rw [pur_tuple]
      exact h.1.1
    | int i => rfl
    | bool b => simp [sdatI] at h
    | none => simp [sdatI] at h
    | str s => simp [sdatI] at h
    | list l => simp [sdatI] at h
    | dict l => simp [sdatI] at h
theorem same_refl : ∀ (n : Nat) (d : D), sdatI n d = true → f__law_same n [d, d] = .ok (.bool true) [d, d]
  | 0, _, h => by simp [sdatI] at h
  | n + 1, d, h => by
    cases d with
    | int i => simp [f__law_same, ev_mkFn, b__law_same, List.replicate, isK, okD, isN]
    | bool i => simp [sdatI] at h
    | none => simp [sdatI] at h
    | str s => simp [sdatI] at h
    | list l => simp [sdatI] at h
    | dict l => simp [sdatI] at h
    | tuple ds =>
      simp only [sdatI, Bool.and_eq_true, decide_eq_true_eq, List.all_eq_true] at h
      obtain ⟨⟨hp, hl⟩, ha⟩ := h
      have C := comp_map (t := .tp [.nm 2, .nm 3]) (c := tYesT) (e := oCall (f__law_same n) (aCons (oV 2) (aCons (oV 3) aNil))) (vs := [2, 3]) (s := [some (.tuple ds), some (.tuple ds), none, none]) (fun x => .tuple [x, x]) (fun _ => .bool true) ds (fun x hx => by
        have e := same_refl n x (ha x hx)
        have px := sdatI_pur n x (ha x hx)
        simp [e, px]) hl
      have z := zipD_self ds
      have pz := purs_self ds hp
      simp [f__law_same, ev_mkFn, b__law_same, List.replicate, isK, okD, isN, hp, z, pz, C, bools_true]
theorem tok__law_same {α : Type} [DecidableEq α] {n : Nat} {e : α → D} {x y : α} {z : Bool} (h : sameI n e x y = some z) : f__law_same n [e x, e y] = .ok (.bool z) [e x, e y] := by
  unfold sameI at h
  split at h
  · rename_i c
    cases h
    rw [← c.1]
    exact same_refl n _ c.2
  · cases h
def p_on_lane (net : (Int × (List (Int × Int)) × (List Int))) (lane : Int) : Option (List Int) :=
  lim ((enumT 0 net.2.1).length) (some (List.map (fun y => y.1) ((enumT 0 net.2.1).filter fun y => ((decide (y.2.1 = lane) || decide (y.2.2 = lane))))))
def p_fork_behind (net : (Int × (List (Int × Int)) × (List Int))) (lane : Int) (number : Int) : Option Int :=
  ((p_on_lane  net lane)).bind fun t6 => (((lpR (fun (s9 : Unit) (fork : Int) => if (decide (number < fork)) = true then some (Lf.ret fork) else some (.go ())) t6 ()).bind fun w => w.on (fun s9 => some (net.2.1.length : Int)) (fun z => some (z))))
def p_ran (n : Nat) (net : (Int × (List (Int × Int)) × (List Int))) (runs : (List (Int × Int × Int))) : Option (List (Option (Int × Int × Int))) :=
  ((repT [(0 : Int)] (net.2.1.length : Int))).bind fun turns => ((repT [(0 : Int)] net.1)).bind fun came_out => ((repT [none] (runs.length : Int))).bind fun found => lim ((enumT 0 runs).length) (((lpW (ρ := (List (Option (Int × Int × Int)))) (fun (s45 : ((List Int) × (List Int) × (List (Option (Int × Int × Int))) × (List (List Int)))) => if (!decide (s45.2.2.2 = ([] : (List (List Int))))) = true then (((minVO s45.2.2.2)).bind fun t51 => ((idxG s45.2.2.2 t51)).bind fun t52 => ((popT s45.2.2.2 t52)).bind fun t54 => ((un4 t54.1)).bind fun t55 => ((p_fork_behind  net t55.2.2.1 t55.2.2.2)).bind fun fork => if (decide (fork = (net.2.1.length : Int))) = true then ((idxT net.2.2 t55.2.2.1)).bind fun end_ => ((atI s45.2.1 end_)).bind fun t78 => ((mulT net.1 t78)).bind fun t80 => ((setT s45.2.2.1 t55.2.1 (some ((end_ + t80), end_, t55.1)))).bind fun found => ((atI s45.2.1 end_)).bind fun t92 => ((setT s45.2.1 end_ (t92 + (1 : Int)))).bind fun came_out => some (.go (s45.1, came_out, found, t54.2)) else ((atI runs t55.2.1)).bind fun t100 => ((atI net.2.1 fork)).bind fun t110 => ((atI s45.1 fork)).bind fun t113 => ((atP t110 t113)).bind fun t115 => ((appT t54.2 [(t55.1 + t100.2.2), t55.2.1, t115, fork])).bind fun moving => ((atI s45.1 fork)).bind fun t124 => ((setT s45.1 fork ((1 : Int) - t124))).bind fun turns => some (.go (turns, s45.2.1, s45.2.2.1, moving))).bind fun w => some (some w) else some none) (n * 256) (turns, came_out, found, (List.map (fun y => [y.2.2.1, y.1, y.2.1, (-(1 : Int))]) (enumT 0 runs)))).bind fun w => w.on (fun s45 => some s45.2.2.1) (fun z => some (z))))
def p__law_cell_at (script : (List Int)) (k : Int) : Option Int :=
  if (decide (k < (script.length : Int))) = true then ((atI script k)).bind fun t9 => some t9 else some (0 : Int)
def p__law_left (script : (List Int)) (k : Int) : Option (List Int) :=
  ((modT k (max (1 : Int) (script.length : Int)))).bind fun t9 => ((p__law_cell_at  script t9)).bind fun cell => ((mulT ((7919 : Int) * k) k)).bind fun t20 => (some (((((cell % (2147483629 : Int)) + t20) + (11 : Int)) * (48271 : Int)) % (2147483647 : Int))).bind fun seed => ((modT ((absT cell) * (if (decide ((1000000000000000000 : Int) ≤ (absT cell))) = true then 1 else 0)) (tenN 2000))).bind fun t42 => some [t42, seed]
def p__law_pick (left_here : (List Int)) (many : Int) : Option (Int × (List Int)) :=
  ((atI left_here (0 : Int))).bind fun t4 => if (decide ((0 : Int) < t4)) = true then ((atI left_here (0 : Int))).bind fun t9 => ((modT t9 many)).bind fun digit => ((atI left_here (0 : Int))).bind fun t15 => ((divT t15 many)).bind fun t18 => ((setT left_here (0 : Int) t18)).bind fun left_here => some (digit, left_here) else ((atI left_here (1 : Int))).bind fun t25 => ((setT left_here (1 : Int) (((t25 * (48271 : Int)) + (12345 : Int)) % (2147483647 : Int)))).bind fun left_here => ((atI left_here (1 : Int))).bind fun t37 => ((atI left_here (1 : Int))).bind fun t40 => ((mulT t37 t40)).bind fun t42 => ((modT (t42 % (1999999973 : Int)) many)).bind fun t47 => some (t47, left_here)
def p__law_of__at0 (left_here : (List Int)) (some_ : (List Int)) : Option (Int × (List Int)) :=
  ((p__law_pick  left_here (some_.length : Int))).bind fun t4 => ((atI some_ t4.1)).bind fun t6 => some (t6, t4.2)
def p__law_of__at1 (left_here : (List Int)) (some_ : (List Int)) : Option (Int × (List Int)) :=
  ((p__law_pick  left_here (some_.length : Int))).bind fun t4 => ((atI some_ t4.1)).bind fun t6 => some (t6, t4.2)
def p__law_of__at2 (left_here : (List Int)) (some_ : (List Int)) : Option (Int × (List Int)) :=
  ((p__law_pick  left_here (some_.length : Int))).bind fun t4 => ((atI some_ t4.1)).bind fun t6 => some (t6, t4.2)
def p__law_of__at3 (left_here : (List Int)) (some_ : (List Int)) : Option (Int × (List Int)) :=
  ((p__law_pick  left_here (some_.length : Int))).bind fun t4 => ((atI some_ t4.1)).bind fun t6 => some (t6, t4.2)
def p__law_of__at4 (left_here : (List Int)) (some_ : (List Int)) : Option (Int × (List Int)) :=
  ((p__law_pick  left_here (some_.length : Int))).bind fun t4 => ((atI some_ t4.1)).bind fun t6 => some (t6, t4.2)
def p__law_placed (n : Nat) (left_here : (List Int)) (some_ : (List Int)) : Option ((List Int) × (List Int)) :=
  (some ([] : (List Int))).bind fun found => ((lpW (ρ := ((List Int) × (List Int))) (fun (s7 : ((List Int) × (List Int) × (List Int))) => if (!decide (s7.2.1 = ([] : (List Int)))) = true then (((p__law_pick  s7.1 (s7.2.1.length : Int))).bind fun t13 => ((popT s7.2.1 t13.1)).bind fun t15 => ((appT s7.2.2 t15.1)).bind fun found => some (.go (t13.2, t15.2, found))).bind fun w => some (some w) else some none) n (left_here, some_, found)).bind fun w => w.on (fun s7 => some (s7.2.2, s7.1)) (fun z => some (z)))
def p__law_net (n : Nat) (left_here : (List Int)) (lanes_here : Int) (most : Int) : Option ((Int × (List (Int × Int)) × (List Int)) × (List Int)) :=
  (some ([] : (List (Int × Int)))).bind fun forks => ((p__law_pick  left_here (most + (1 : Int)))).bind fun t11 => ((rngO (t11.1 * (if (decide ((1 : Int) < lanes_here)) = true then 1 else 0)))).bind fun t18 => ((lpN (fun (s20 : ((List Int) × (List (Int × Int)))) (k : Int) => ((p__law_pick  s20.1 lanes_here)).bind fun t25 => ((p__law_pick  t25.2 (lanes_here - (1 : Int)))).bind fun t33 => ((modT ((t25.1 + (1 : Int)) + t33.1) lanes_here)).bind fun b => ((if (!decide (s20.2 = ([] : (List (Int × Int))))) = true then ((p__law_pick  t33.2 (4 : Int))).bind fun t43 => some ((decide (t43.1 = (0 : Int))), t43.2) else some (false, t33.2))).bind fun t46 => ((if t46.1 = true then ((atI s20.2 (-(1 : Int)))).bind fun t53 => ((p__law_of__at0  t46.2 [(1 : Int), (-(1 : Int))])).bind fun t60 => ((stepP t53 t60.1)).bind fun t61 => some (t60.2, t61.1, t61.2) else some (t46.2, t25.1, b))).bind fun t64 => ((appT s20.2 (t64.2.1, t64.2.2))).bind fun forks => some (t64.1, forks)) t18 (t11.2, forks))).bind fun s20 => ((rngO lanes_here)).bind fun ends => ((p__law_pick  s20.1 (2 : Int))).bind fun t75 => ((if (decide (t75.1 = (0 : Int))) = true then ((p__law_placed n t75.2 ends)).bind fun t79 => some (t79.2, t79.1) else some (t75.2, ends))).bind fun t82 => some ((lanes_here, s20.2, t82.2), t82.1)
def p__law_lanes (left_here : (List Int)) : Option (Int × (List Int)) :=
  ((p__law_of__at1  left_here [(1 : Int), (2 : Int), (2 : Int), (3 : Int), (4 : Int), (5 : Int), (6 : Int), (16 : Int)])).bind fun t12 => some (t12.1, t12.2)
def p__law_runs (left_here : (List Int)) (net_here : (Int × (List (Int × Int)) × (List Int))) (most : Int) : Option ((List (Int × Int × Int)) × (List Int)) :=
  ((p__law_pick  left_here (4 : Int))).bind fun t5 => (some ([] : (List (Int × Int × Int)))).bind fun found => ((p__law_of__at2  t5.2 [(0 : Int), (1 : Int), (2 : Int), (5 : Int), (12 : Int), most])).bind fun t19 => ((rngO t19.1)).bind fun t21 => ((lpN (fun (s23 : ((List Int) × (List (Int × Int × Int)))) (k : Int) => ((atI [(1 : Int), (4 : Int), (40 : Int), (400 : Int)] t5.1)).bind fun t34 => ((p__law_pick  s23.1 t34)).bind fun t36 => ((p__law_pick  t36.2 (9 : Int))).bind fun t39 => ((if (decide (t39.1 = (0 : Int))) = true then ((p__law_pick  t39.2 (29 : Int))).bind fun t44 => ((tenO t44.1)).bind fun t45 => (some (t45 + t36.1)).bind fun start => some (t44.2, start) else some (t39.2, t36.1))).bind fun t52 => ((p__law_of__at3  t52.1 [(1 : Int), (1 : Int), (3 : Int), (30 : Int), (1000000 : Int)])).bind fun t63 => ((p__law_pick  t63.2 t63.1)).bind fun t65 => (some ((1 : Int) + t65.1)).bind fun pace => ((p__law_pick  t65.2 net_here.1)).bind fun t73 => ((appT s23.2 (t73.1, t52.2, pace))).bind fun found => some (t73.2, found)) t21 (t19.2, found))).bind fun s23 => some (s23.2, s23.1)
def p__law_ran (n : Nat) (net_here : (Int × (List (Int × Int)) × (List Int))) (runs_here : (List (Int × Int × Int))) : Option (List (Int × Int × Int)) :=
  ((repT [(0 : Int)] (net_here.2.1.length : Int))).bind fun t10 => ((repT [(0 : Int)] net_here.1)).bind fun t18 => lim ((enumT 0 runs_here).length) ((some (mergeM [] (List.map (fun y => (y.1, (y.2.2.1, y.2.1, (0 : Int)))) (enumT 0 runs_here)))).bind fun due => (some ([] : (List (Int × (Int × Int × Int))))).bind fun found => ((lpW (ρ := (List (Int × Int × Int))) (fun (s46 : ((List Int) × (List Int) × (List (Int × (Int × Int × Int))) × (List (Int × (Int × Int × Int))))) => if (!s46.2.2.1.isEmpty) = true then (lim ((s46.2.2.1.map Prod.snd).length) (((minO (List.map (fun y => y.1) (s46.2.2.1.map Prod.snd)))).bind fun now => lim ((s46.2.2.1.map Prod.fst).length) (((lcS (fun (_ : Unit) one => ((getM s46.2.2.1 one)).bind fun t64 => if (decide (t64.1 = now)) = true then some (some one, ()) else some (none, ())) (s46.2.2.1.map Prod.fst) ())).bind fun t70 => ((lpN (fun (s74 : ((List Int) × (List Int) × (List (Int × (Int × Int × Int))) × (List (Int × (Int × Int × Int))))) (ball : Int) => ((popM s74.2.2.1 ball)).bind fun t79 => ((rngO2 t79.1.2.2 (net_here.2.1.length : Int))).bind fun t86 => lim (t86.length) (((lcS (fun (_ : Unit) k => ((atI net_here.2.1 k)).bind fun t96 => if ((decide (t96.1 = t79.1.2.1) || decide (t96.2 = t79.1.2.1))) = true then some (some k, ()) else some (none, ())) t86 ())).bind fun t99 => if (decide (t99.1 = ([] : (List Int)))) = true then ((idxT net_here.2.2 t79.1.2.1)).bind fun end_ => ((atI s74.2.1 end_)).bind fun t114 => ((mulT net_here.1 t114)).bind fun t116 => ((setMO s74.2.2.2 ball ((end_ + t116), end_, now))).bind fun found => ((atI s74.2.1 end_)).bind fun t127 => ((setT s74.2.1 end_ (t127 + (1 : Int)))).bind fun came => some (s74.1, came, t79.2, found) else ((atI t99.1 (0 : Int))).bind fun fork => ((atI runs_here ball)).bind fun t138 => ((atI net_here.2.1 fork)).bind fun t147 => ((atI s74.1 fork)).bind fun t150 => ((atP t147 t150)).bind fun t152 => ((setMO t79.2 ball ((now + t138.2.2), t152, (fork + (1 : Int))))).bind fun due => ((atI s74.1 fork)).bind fun t164 => ((setT s74.1 fork ((1 : Int) - t164))).bind fun turns => some (turns, s74.2.1, due, s74.2.2.2))) (sortI t70.1) (s46.1, s46.2.1, s46.2.2.1, s46.2.2.2))).bind fun s74 => some (.go (s74.1, s74.2.1, s74.2.2.1, s74.2.2.2))))).bind fun w => some (some w) else some none) (n * 256) (t10, t18, due, found)).bind fun w => w.on (fun s46 => ((rngO (runs_here.length : Int))).bind fun t172 => lim (t172.length) (((mapO (fun ball => ((getM s46.2.2.2 ball)).bind fun t178 => some t178) t172)).bind fun t180 => some t180)) (fun z => some (z))))
def p_law (n : Nat) (script : (List Int)) : Option Bool :=
  ((rngO (max (1 : Int) (min (5 : Int) (script.length : Int))))).bind fun t8 => (((lpR (fun (s10 : Unit) (k : Int) => ((p__law_left  script k)).bind fun left_here => ((p__law_lanes  left_here)).bind fun t18 => ((p__law_of__at4  t18.2 [(4 : Int), (12 : Int), (30 : Int)])).bind fun t25 => ((p__law_net n t25.2 t18.1 t25.1)).bind fun t27 => (((lpR (fun (left_here : ((List Int))) (turn : Int) => ((p__law_runs  left_here t27.1 (24 : Int))).bind fun t37 => ((p__law_ran n t27.1 t37.1)).bind fun due => (((lpR (fun (s45 : Unit) (again : Int) => ((p_ran n t27.1 t37.1)).bind fun t51 => ((sameI n (eT (eO (eQ eI eI eI))) t51 (due.map some))).bind fun t55 => if (!t55) = true then some (Lf.ret false) else some (.go ())) (rngI 0 (Int.toNat 2)) ()).bind fun w => w.on (fun s45 => some (.go t37.2)) (fun z => some (Lf.ret z))))) (rngI 0 (Int.toNat 3)) t27.2).bind fun w => w.on (fun left_here => some (.go ())) (fun z => some (Lf.ret z))))) t8 ()).bind fun w => w.on (fun s10 => some true) (fun z => some (z))))
theorem tok_on_lane (a0 : (Int × (List (Int × Int)) × (List Int))) (a1 : Int) : ∀ z, p_on_lane a0 a1 = some z → f_on_lane [(eQ eI (eT (eP eI eI)) (eT eI)) a0, eI a1] = .ok ((eT eI) z) [(eQ eI (eT (eP eI eI)) (eT eI)) a0, eI a1] :=
  fn_t (p0 := [some ((eQ eI (eT (eP eI eI)) (eT eI)) a0), some (eI a1), none, none]) (m := p_on_lane a0 a1) (rv := fun (z : (List Int)) => (eT eI) z) (q := fun (z : (List Int)) => [some ((eQ eI (eT (eP eI eI)) (eT eI)) a0), some (eI a1), none, none]) (outs := fun z => [(eQ eI (eT (eP eI eI)) (eT eI)) a0, eI a1]) (B.cv (b_last (b_ret (x_primT (xa_v (x_filT (ee := eI) (xi_mk (xa_v (x_primT (xa_p (x_var (d := (eQ eI (eT (eP eI eI)) (eT eI)) a0) 0 rfl) (fun _ => (puQ puI (puT (puP puI puI)) (puT puI)) _) (fun x3 => (xa_v (x_c (eI 1)) (fun x4 => xa_nil)))) (fun _ => op_ixQ1 (puT (puP puI puI)) _)) (fun x5 => xa_nil)) rfl (puP puI (puP puI puI)) (fun _ => it_eT _)) rfl (fun x6 x7 => (as_tp (ass_cons as_nm (ass_cons as_nm ass_nil)))) (fun x6 x7 => (xt_tst (x_primT (xa_p (x_var (d := eI a1) 1 rfl) (fun _ => puI _) (fun x10 => (xa_p (x_var (d := (eP eI eI) x7.2) 3 rfl) (fun _ => (puP puI puI) _) (fun x11 => xa_nil)))) (fun _ => op_inP _ _)))) (fun x6 x7 => (x_var (d := eI x7.1) 2 rfl)) (.inr puI) (fun _ _ => by repeat (first | exact wk_nil | apply wk_a | apply wk_s))) (fun x14 => xa_nil)) (fun _ => op_tupL puI _)) (fun x15 => x15.1.2.1) (.inl rfl) (fun x15 => qf_ret rfl (by repeat (first | exact wk_nil | apply wk_a | apply wk_s))))) (by dsimp only [p_on_lane])) rfl (by simp [okM]) (fun z => (coll_0P rfl (coll_0P rfl coll_nilP)))
theorem tok_fork_behind (a0 : (Int × (List (Int × Int)) × (List Int))) (a1 : Int) (a2 : Int) : ∀ z, p_fork_behind a0 a1 a2 = some z → f_fork_behind [(eQ eI (eT (eP eI eI)) (eT eI)) a0, eI a1, eI a2] = .ok (eI z) [(eQ eI (eT (eP eI eI)) (eT eI)) a0, eI a1, eI a2] :=
  fn_t (p0 := [some ((eQ eI (eT (eP eI eI)) (eT eI)) a0), some (eI a1), some (eI a2), none]) (m := p_fork_behind a0 a1 a2) (rv := fun (z : Int) => eI z) (q := fun (z : Int) => [some ((eQ eI (eT (eP eI eI)) (eT eI)) a0), some (eI a1), some (eI a2), none]) (outs := fun z => [(eQ eI (eT (eP eI eI)) (eT eI)) a0, eI a1, eI a2]) (B.cv (b_forR (xi_mk (xa_v (x_callP (xa_p (x_var (d := (eQ eI (eT (eP eI eI)) (eT eI)) a0) 0 rfl) (fun _ => (puQ puI (puT (puP puI puI)) (puT puI)) _) (fun x4 => (xa_p (x_var (d := eI a1) 1 rfl) (fun _ => puI _) (fun x5 => xa_nil)))) rfl (fun _ _ h => tok_on_lane  _ _ _ h)) (fun x7 => xa_nil)) rfl puI (fun _ => it_T _)) (fun x8 (x9 : Unit) => [some ((eQ eI (eT (eP eI eI)) (eT eI)) a0), some (eI a1), some (eI a2), none]) (fun x8 => ()) (fun (z : Int) => eI z) (fun x8 x21 => [some ((eQ eI (eT (eP eI eI)) (eT eI)) a0), some (eI a1), some (eI a2), none]) (fun z => z) (fun _ => rfl) (fun x8 => by repeat (first | exact wk_nil | apply wk_a | apply wk_s)) (fun x8 x9 x10 => as_nm) (fun x8 x9 x10 => (b_last (b_if (xt_tst (x_primT (xa_p (x_var (d := eI x10) 3 rfl) (fun _ => puI _) (fun x13 => (xa_p (x_var (d := eI a2) 2 rfl) (fun _ => puI _) (fun x14 => xa_nil)))) (fun _ => op_gt' _ _))) (fun x15 => (b_ret (x_var (d := eI x10) 3 rfl) (fun x16 => (Lf.ret x10)) (.inr (fun _ => puI _)) (fun x16 => ql_ret rfl (by repeat (first | exact wk_nil | apply wk_a | apply wk_s))))) (fun x15 => (b_skip (b_endL (z := ()) (by repeat (first | exact wk_nil | apply wk_a | apply wk_s)))))))) (fun x8 x21 => qf_ret rfl (by repeat (first | exact wk_nil | apply wk_a | apply wk_s))) (fun x8 x9 => (b_last (b_ret (x_primT (xa_v (x_primT (xa_p (x_var (d := (eQ eI (eT (eP eI eI)) (eT eI)) a0) 0 rfl) (fun _ => (puQ puI (puT (puP puI puI)) (puT puI)) _) (fun x17 => (xa_v (x_c (eI 1)) (fun x18 => xa_nil)))) (fun _ => op_ixQ1 (puT (puP puI puI)) _)) (fun x19 => xa_nil)) (fun _ => op_lenT _)) (fun x20 => (a0.2.1.length : Int)) (.inl rfl) (fun x20 => qf_ret rfl (by repeat (first | exact wk_nil | apply wk_a | apply wk_s))))))) (by dsimp only [p_fork_behind])) rfl (by simp [okM]) (fun z => (coll_0P rfl (coll_0P rfl (coll_0P rfl coll_nilP))))
theorem tok_ran (n : Nat) (a0 : (Int × (List (Int × Int)) × (List Int))) (a1 : (List (Int × Int × Int))) : ∀ z, p_ran n a0 a1 = some z → f_ran n [(eQ eI (eT (eP eI eI)) (eT eI)) a0, (eT (eQ eI eI eI)) a1] = .ok ((eT (eO (eQ eI eI eI))) z) [(eQ eI (eT (eP eI eI)) (eT eI)) a0, (eT (eQ eI eI eI)) a1] :=
  fn_t (p0 := [some ((eQ eI (eT (eP eI eI)) (eT eI)) a0), some ((eT (eQ eI eI eI)) a1), none, none, none, none, none, none, none, none, none, none, none]) (m := p_ran n a0 a1) (rv := fun (z : (List (Option (Int × Int × Int)))) => (eT (eO (eQ eI eI eI))) z) (q := fun (z : (List (Option (Int × Int × Int)))) => [some ((eQ eI (eT (eP eI eI)) (eT eI)) a0), some ((eT (eQ eI eI eI)) a1), none, none, none, none, none, none, none, none, none, none, none]) (outs := fun z => [(eQ eI (eT (eP eI eI)) (eT eI)) a0, (eT (eQ eI eI eI)) a1]) (B.cv (b_set (x_prim (xa_v (X.as (x_lst (xa_v (x_c (eI 0)) (fun x3 => xa_nil)) rfl (by decide)) (fun x4 => (eL eI) [(0 : Int)]) rfl) (fun x5 => (xa_v (x_primT (xa_v (x_primT (xa_p (x_var (d := (eQ eI (eT (eP eI eI)) (eT eI)) a0) 0 rfl) (fun _ => (puQ puI (puT (puP puI puI)) (puT puI)) _) (fun x6 => (xa_v (x_c (eI 1)) (fun x7 => xa_nil)))) (fun _ => op_ixQ1 (puT (puP puI puI)) _)) (fun x8 => xa_nil)) (fun _ => op_lenT _)) (fun x9 => xa_nil)))) (fun _ _ h => op_repL puI h)) (.inl rfl) (fun x11 => (b_set (x_prim (xa_v (X.as (x_lst (xa_v (x_c (eI 0)) (fun x12 => xa_nil)) rfl (by decide)) (fun x13 => (eL eI) [(0 : Int)]) rfl) (fun x14 => (xa_v (x_primT (xa_p (x_var (d := (eQ eI (eT (eP eI eI)) (eT eI)) a0) 0 rfl) (fun _ => (puQ puI (puT (puP puI puI)) (puT puI)) _) (fun x15 => (xa_v (x_c (eI 0)) (fun x16 => xa_nil)))) (fun _ => op_ixQ0 puI _)) (fun x17 => xa_nil)))) (fun _ _ h => op_repL puI h)) (.inl rfl) (fun x19 => (b_set (x_prim (xa_v (X.as (x_lst (xa_v (x_c PyData.none) (fun x20 => xa_nil)) rfl (by decide)) (fun x21 => (eL (eO (eQ eI eI eI))) [none]) rfl) (fun x22 => (xa_v (x_primT (xa_p (x_var (d := (eT (eQ eI eI eI)) a1) 1 rfl) (fun _ => (puT (puQ puI puI puI)) _) (fun x23 => xa_nil)) (fun _ => op_lenT _)) (fun x24 => xa_nil)))) (fun _ _ h => op_repL (puO' (puQ puI puI puI)) h)) (.inl rfl) (fun x26 => (b_set (x_mapT (ee := (eT eI)) (xi_mk (xa_p (x_var (d := (eT (eQ eI eI eI)) a1) 1 rfl) (fun _ => (puT (puQ puI puI puI)) _) (fun x27 => xa_nil)) rfl (puP puI (puQ puI puI puI)) (fun _ => it_eT _)) rfl (fun x28 x29 => (as_tp (ass_cons as_nm (ass_cons as_nm ass_nil)))) (fun x28 x29 => (X.as (x_tup (xa_v (x_primT (xa_p (x_var (d := (eQ eI eI eI) x29.2) 7 rfl) (fun _ => (puQ puI puI puI) _) (fun x32 => (xa_v (x_c (eI 1)) (fun x33 => xa_nil)))) (fun _ => op_ixQ1 puI _)) (fun x34 => (xa_p (x_var (d := eI x29.1) 6 rfl) (fun _ => puI _) (fun x35 => (xa_v (x_primT (xa_p (x_var (d := (eQ eI eI eI) x29.2) 7 rfl) (fun _ => (puQ puI puI puI) _) (fun x36 => (xa_v (x_c (eI 0)) (fun x37 => xa_nil)))) (fun _ => op_ixQ0 puI _)) (fun x38 => (xa_v (x_primT (xa_v (x_c (eI 1)) (fun x39 => xa_nil)) (fun _ => op_neg _)) (fun x40 => xa_nil)))))))) rfl (by decide)) (fun x41 => (eT eI) [x29.2.2.1, x29.1, x29.2.1, (-(1 : Int))]) rfl)) (.inl rfl) (fun _ _ => by repeat (first | exact wk_nil | apply wk_a | apply wk_s))) (.inl rfl) (fun x44 => (b_while (fun (x45 : ((List Int) × (List Int) × (List (Option (Int × Int × Int))) × (List (List Int)))) => [some ((eQ eI (eT (eP eI eI)) (eT eI)) a0), some ((eT (eQ eI eI eI)) a1), some ((eL eI) x45.1), some ((eL eI) x45.2.1), some ((eL (eO (eQ eI eI eI))) x45.2.2.1), some ((eL (eT eI)) x45.2.2.2), none, none, none, none, none, none, none]) (x11.2, x19.2, x26.2, x44.2.1) (fun (z : (List (Option (Int × Int × Int)))) => (eT (eO (eQ eI eI eI))) z) (fun x131 => [some ((eQ eI (eT (eP eI eI)) (eT eI)) a0), some ((eT (eQ eI eI eI)) a1), none, none, none, none, none, none, none, none, none, none, none]) (fun z => z) (by repeat (first | exact wk_nil | apply wk_a | apply wk_s)) (fun x45 => (xt_tst (x_primT (xa_s 5 rfl (xa_v (X.as (x_lst xa_nil rfl (by decide)) (fun x47 => (eL (eT eI)) ([] : (List (List Int)))) rfl) (fun x48 => xa_nil)) (fun _ => rfl) (fun _ => puL)) (fun _ => op_ne (eqL (eqT eqI)) (by decide) _ _)))) (fun x45 x49 => (b_asg (x_unT4 (e := eI) (x_mt rfl (xa_v (x_idxD (e := (eT eI)) (eqT eqI) (eqL (eqT eqI)) (by decide) (x_var (d := (eL (eT eI)) x45.2.2.2) 5 rfl) (fun x50 => (x_prim (xa_s 5 rfl xa_nil (fun _ => rfl) (fun _ => puL)) (fun _ _ h => op_minV h)))) (fun x53 => xa_nil)) rfl (fun _ => rfl) (fun _ _ h => mt_pop' (puT puI) h) (fun _ z => (puT puI) z.1))) (.inl rfl) (fun _ => (as_tp (ass_cons as_nm (ass_cons as_nm (ass_cons as_nm (ass_cons as_nm ass_nil)))))) (fun x56 => (b_set (x_callP (xa_p (x_var (d := (eQ eI (eT (eP eI eI)) (eT eI)) a0) 0 rfl) (fun _ => (puQ puI (puT (puP puI puI)) (puT puI)) _) (fun x57 => (xa_p (x_var (d := eI x56.2.2.2.1) 9 rfl) (fun _ => puI _) (fun x58 => (xa_p (x_var (d := eI x56.2.2.2.2) 10 rfl) (fun _ => puI _) (fun x59 => xa_nil)))))) rfl (fun _ _ h => tok_fork_behind  _ _ _ _ h)) (.inl rfl) (fun x61 => (b_last (b_if (xt_tst (x_primT (xa_p (x_var (d := eI x61.2) 11 rfl) (fun _ => puI _) (fun x62 => (xa_v (x_primT (xa_v (x_primT (xa_p (x_var (d := (eQ eI (eT (eP eI eI)) (eT eI)) a0) 0 rfl) (fun _ => (puQ puI (puT (puP puI puI)) (puT puI)) _) (fun x63 => (xa_v (x_c (eI 1)) (fun x64 => xa_nil)))) (fun _ => op_ixQ1 (puT (puP puI puI)) _)) (fun x65 => xa_nil)) (fun _ => op_lenT _)) (fun x66 => xa_nil)))) (fun _ => op_eq eqI (by decide) _ _))) (fun x67 => (b_asc (b_set (x_idx (x_primT (xa_p (x_var (d := (eQ eI (eT (eP eI eI)) (eT eI)) a0) 0 rfl) (fun _ => (puQ puI (puT (puP puI puI)) (puT puI)) _) (fun x68 => (xa_v (x_c (eI 2)) (fun x69 => xa_nil)))) (fun _ => op_ixQ2 (puT puI) _)) (fun _ => rfl) (fun x70 => (x_var (d := eI x56.2.2.2.1) 9 rfl)) (fun _ _ _ h => op_idx h)) (.inl rfl) (fun x72 => (b_asc (b_setIx (e1 := (eO (eQ eI eI eI))) (X.as (X.as (x_tup (xa_v (x_primT (xa_p (x_var (d := eI x72.2.2) 12 rfl) (fun _ => puI _) (fun x73 => (xa_v (x_prim (xa_v (x_primT (xa_p (x_var (d := (eQ eI (eT (eP eI eI)) (eT eI)) a0) 0 rfl) (fun _ => (puQ puI (puT (puP puI puI)) (puT puI)) _) (fun x74 => (xa_v (x_c (eI 0)) (fun x75 => xa_nil)))) (fun _ => op_ixQ0 puI _)) (fun x76 => (xa_v (x_prim (xa_s 3 rfl (xa_p (x_var (d := eI x72.2.2) 12 rfl) (fun _ => puI _) (fun x77 => xa_nil)) (fun _ => rfl) (fun _ => puL)) (fun _ _ h => op_ixL puI h)) (fun x79 => xa_nil)))) (fun _ _ h => op_mul h)) (fun x81 => xa_nil)))) (fun _ => op_add _ _)) (fun x82 => (xa_p (x_var (d := eI x72.2.2) 12 rfl) (fun _ => puI _) (fun x83 => (xa_p (x_var (d := eI x56.2.1) 8 rfl) (fun _ => puI _) (fun x84 => xa_nil)))))) rfl (by decide)) (fun x85 => (eQ eI eI eI) ((x72.2.2 + x85.1.2.1.2), x72.2.2, x56.2.1)) rfl) (fun x86 => (eO (eQ eI eI eI)) (some ((x72.2.2 + x86.1.2.1.2), x72.2.2, x56.2.1))) rfl) (puO' (puQ puI puI puI)) (fun _ => ⟨_, rfl⟩) (fun x87 => (x_var (d := eI x56.2.2.1) 6 rfl)) (fun _ _ => .inl rfl) (fun _ _ => rfl) (fun x87 x88 x89 => (b_augIx rfl (x_var (d := eI x72.2.2) 12 rfl) (fun _ => rfl) (fun x91 x93 => (x_c (eI 1))) (fun _ _ _ => rfl) (fun x91 x93 x94 x95 => (b_endL (z := (x45.1, x95, x89, x56.1.2.2)) (by repeat (first | exact wk_nil | apply wk_a | apply wk_s)))))))))))) (fun x67 => (b_asc (b_expr (x_mt rfl (xa_v (X.as (x_tup (xa_v (x_primT (xa_p (x_var (d := eI x56.2.1) 8 rfl) (fun _ => puI _) (fun x97 => (xa_v (x_primT (xa_v (x_prim (xa_p (x_var (d := (eT (eQ eI eI eI)) a1) 1 rfl) (fun _ => (puT (puQ puI puI puI)) _) (fun x98 => (xa_p (x_var (d := eI x56.2.2.1) 6 rfl) (fun _ => puI _) (fun x99 => xa_nil)))) (fun _ _ h => op_ixT (puQ puI puI puI) h)) (fun x101 => (xa_v (x_c (eI 2)) (fun x102 => xa_nil)))) (fun _ => op_ixQ2 puI _)) (fun x103 => xa_nil)))) (fun _ => op_add _ _)) (fun x104 => (xa_p (x_var (d := eI x56.2.2.1) 6 rfl) (fun _ => puI _) (fun x105 => (xa_v (x_prim (xa_v (x_prim (xa_v (x_primT (xa_p (x_var (d := (eQ eI (eT (eP eI eI)) (eT eI)) a0) 0 rfl) (fun _ => (puQ puI (puT (puP puI puI)) (puT puI)) _) (fun x106 => (xa_v (x_c (eI 1)) (fun x107 => xa_nil)))) (fun _ => op_ixQ1 (puT (puP puI puI)) _)) (fun x108 => (xa_p (x_var (d := eI x61.2) 11 rfl) (fun _ => puI _) (fun x109 => xa_nil)))) (fun _ _ h => op_ixT (puP puI puI) h)) (fun x111 => (xa_v (x_prim (xa_s 2 rfl (xa_p (x_var (d := eI x61.2) 11 rfl) (fun _ => puI _) (fun x112 => xa_nil)) (fun _ => rfl) (fun _ => puL)) (fun _ _ h => op_ixL puI h)) (fun x114 => xa_nil)))) (fun _ _ h => op_ixPd puI h)) (fun x116 => (xa_p (x_var (d := eI x61.2) 11 rfl) (fun _ => puI _) (fun x117 => xa_nil)))))))) rfl (by decide)) (fun x118 => (eT eI) [(x56.2.1 + x118.1.2.1.1.2.2.2), x56.2.2.1, x118.2.2.1.2, x61.2]) rfl) (fun x119 => xa_nil)) rfl (fun _ => rfl) (fun _ _ h => mt_app' h) (fun _ _ => rfl)) (fun x121 => (b_setIx (e1 := eI) (x_primT (xa_v (x_c (eI 1)) (fun x122 => (xa_v (x_prim (xa_s 2 rfl (xa_p (x_var (d := eI x61.2) 11 rfl) (fun _ => puI _) (fun x123 => xa_nil)) (fun _ => rfl) (fun _ => puL)) (fun _ _ h => op_ixL puI h)) (fun x125 => xa_nil)))) (fun _ => op_sub' _ _)) puI (fun _ => ⟨_, rfl⟩) (fun x126 => (x_var (d := eI x61.2) 11 rfl)) (fun _ _ => .inl rfl) (fun _ _ => rfl) (fun x126 x127 x128 => (b_endL (z := (x128, x45.2.1, x45.2.2.1, x121.2)) (by repeat (first | exact wk_nil | apply wk_a | apply wk_s)))))))))))))))) (fun x131 => qf_ret rfl (by repeat (first | exact wk_nil | apply wk_a | apply wk_s))) (fun x45 => (b_last (b_ret (x_primT (xa_s 4 rfl xa_nil (fun _ => rfl) (fun _ => puL)) (fun _ => op_tupL (puO' (puQ puI puI puI)) _)) (fun x130 => x45.2.2.1) (.inl rfl) (fun x130 => qf_ret rfl (by repeat (first | exact wk_nil | apply wk_a | apply wk_s))))))))))))))) (by dsimp only [p_ran])) rfl (by simp [okM]) (fun z => (coll_0P rfl (coll_0P rfl coll_nilP)))
theorem tok__law_cell_at (a0 : (List Int)) (a1 : Int) : ∀ z, p__law_cell_at a0 a1 = some z → f__law_cell_at [eZ a0, eI a1] = .ok (eI z) [eZ a0, eI a1] :=
  fn_t (p0 := [some (eZ a0), some (eI a1)]) (m := p__law_cell_at a0 a1) (rv := fun (z : Int) => eI z) (q := fun (z : Int) => [some (eZ a0), some (eI a1)]) (outs := fun z => [eZ a0, eI a1]) (B.cv (b_if (xt_tst (x_primT (xa_p (x_var (d := eI a1) 1 rfl) (fun _ => puI _) (fun x3 => (xa_v (x_primT (xa_p (x_var (d := eZ a0) 0 rfl) (fun _ => puZ _) (fun x4 => xa_nil)) (fun _ => op_lenZ _)) (fun x5 => xa_nil)))) (fun _ => op_lt' _ _))) (fun x6 => (b_ret (x_prim (xa_p (x_var (d := eZ a0) 0 rfl) (fun _ => puZ _) (fun x7 => (xa_p (x_var (d := eI a1) 1 rfl) (fun _ => puI _) (fun x8 => xa_nil)))) (fun _ _ h => op_ixZ h)) (fun x10 => x10.2) (.inl rfl) (fun x10 => qf_ret rfl (by repeat (first | exact wk_nil | apply wk_a | apply wk_s))))) (fun x6 => (b_skip (b_last (b_ret (x_c (eI 0)) (fun x11 => (0 : Int)) (.inl rfl) (fun x11 => qf_ret rfl (by repeat (first | exact wk_nil | apply wk_a | apply wk_s)))))))) (by dsimp only [p__law_cell_at])) rfl (by simp [okM]) (fun z => (coll_0P rfl (coll_0P rfl coll_nilP)))
theorem tok__law_left (a0 : (List Int)) (a1 : Int) : ∀ z, p__law_left a0 a1 = some z → f__law_left [eZ a0, eI a1] = .ok ((eL eI) z) [eZ a0, eI a1] :=
  fn_t (p0 := [some (eZ a0), some (eI a1), none, none]) (m := p__law_left a0 a1) (rv := fun (z : (List Int)) => (eL eI) z) (q := fun (z : (List Int)) => [some (eZ a0), some (eI a1), none, none]) (outs := fun z => [eZ a0, eI a1]) (B.cv (b_set (x_callP (xa_p (x_var (d := eZ a0) 0 rfl) (fun _ => puZ _) (fun x3 => (xa_v (x_prim (xa_p (x_var (d := eI a1) 1 rfl) (fun _ => puI _) (fun x4 => (xa_v (x_primT (xa_v (x_c (eI 1)) (fun x5 => (xa_v (x_primT (xa_p (x_var (d := eZ a0) 0 rfl) (fun _ => puZ _) (fun x6 => xa_nil)) (fun _ => op_lenZ _)) (fun x7 => xa_nil)))) (fun _ => op_max2 _ _)) (fun x8 => xa_nil)))) (fun _ _ h => op_mod' h)) (fun x10 => xa_nil)))) rfl (fun _ _ h => tok__law_cell_at  _ _ _ h)) (.inl rfl) (fun x12 => (b_setL eI (x_primT (xa_v (x_primT (xa_v (x_primT (xa_v (x_primT (xa_v (x_primT (xa_p (x_var (d := eI x12.2) 2 rfl) (fun _ => puI _) (fun x13 => (xa_v (x_c (eI 2147483629)) (fun x14 => xa_nil)))) (fun _ => op_modC (by decide +kernel))) (fun x15 => (xa_v (x_prim (xa_v (x_primT (xa_v (x_c (eI 7919)) (fun x16 => (xa_p (x_var (d := eI a1) 1 rfl) (fun _ => puI _) (fun x17 => xa_nil)))) (fun _ => op_mulL (by decide +kernel))) (fun x18 => (xa_p (x_var (d := eI a1) 1 rfl) (fun _ => puI _) (fun x19 => xa_nil)))) (fun _ _ h => op_mul h)) (fun x21 => xa_nil)))) (fun _ => op_add _ _)) (fun x22 => (xa_v (x_c (eI 11)) (fun x23 => xa_nil)))) (fun _ => op_add _ _)) (fun x24 => (xa_v (x_c (eI 48271)) (fun x25 => xa_nil)))) (fun _ => op_mulR (by decide +kernel))) (fun x26 => (xa_v (x_c (eI 2147483647)) (fun x27 => xa_nil)))) (fun _ => op_modC (by decide +kernel))) (.inl rfl) (fun x28 x29 => (b_last (b_ret (X.as (x_lst (xa_v (x_prim (xa_v (x_primT (xa_v (x_primT (xa_p (x_var (d := eI x12.2) 2 rfl) (fun _ => puI _) (fun x31 => xa_nil)) (fun _ => op_abs _)) (fun x32 => (xa_v (x_primT (xa_v (x_primT (xa_v (x_primT (xa_p (x_var (d := eI x12.2) 2 rfl) (fun _ => puI _) (fun x33 => xa_nil)) (fun _ => op_abs _)) (fun x34 => (xa_v (x_primT (xa_v (x_c (eI 10)) (fun x35 => (xa_v (x_c (eI 18)) (fun x36 => xa_nil)))) (fun _ => op_powC (c := 1000000000000000000) (by decide +kernel) (by decide +kernel))) (fun x37 => xa_nil)))) (fun _ => op_ge' _ _)) (fun x38 => xa_nil)) (fun _ => op_intB _)) (fun x39 => xa_nil)))) (fun _ => op_mulB _ _)) (fun x40 => (xa_v (x_ten 2000 (by decide) (by decide)) (fun x41 => xa_nil)))) (fun _ _ h => op_mod' h)) (fun x43 => (xa_p (x_var (d := eI x29) 3 rfl) (fun _ => puI _) (fun x44 => xa_nil)))) rfl (by decide)) (fun x45 => (eL eI) [x45.1.2, x29]) rfl) (fun x46 => [x46.1.2, x29]) (.inl rfl) (fun x46 => qf_ret rfl (by repeat (first | exact wk_nil | apply wk_a | apply wk_s))))))))) (by dsimp only [p__law_left])) rfl (by simp [okM]) (fun z => (coll_0P rfl (coll_0P rfl coll_nilP)))
theorem tok__law_pick (a0 : (List Int)) (a1 : Int) : ∀ z, p__law_pick a0 a1 = some z → f__law_pick [(eL eI) a0, eI a1] = .ok (eI z.1) [(eL eI) z.2, eI a1] :=
  fn_t (p0 := [some ((eL eI) a0), some (eI a1), none]) (m := p__law_pick a0 a1) (rv := fun (z : (Int × (List Int))) => eI z.1) (q := fun (z : (Int × (List Int))) => [some ((eL eI) z.2), some (eI a1), none]) (outs := fun z => [(eL eI) z.2, eI a1]) (B.cv (b_if (xt_tst (x_primT (xa_v (x_prim (xa_s 0 rfl (xa_v (x_c (eI 0)) (fun x3 => xa_nil)) (fun _ => rfl) (fun _ => puL)) (fun _ _ h => op_ixL puI h)) (fun x5 => (xa_v (x_c (eI 0)) (fun x6 => xa_nil)))) (fun _ => op_gt' _ _))) (fun x7 => (b_asc (b_set (x_prim (xa_v (x_prim (xa_s 0 rfl (xa_v (x_c (eI 0)) (fun x8 => xa_nil)) (fun _ => rfl) (fun _ => puL)) (fun _ _ h => op_ixL puI h)) (fun x10 => (xa_p (x_var (d := eI a1) 1 rfl) (fun _ => puI _) (fun x11 => xa_nil)))) (fun _ _ h => op_mod' h)) (.inl rfl) (fun x13 => (b_asc (b_setIx (e1 := eI) (x_prim (xa_v (x_prim (xa_s 0 rfl (xa_v (x_c (eI 0)) (fun x14 => xa_nil)) (fun _ => rfl) (fun _ => puL)) (fun _ _ h => op_ixL puI h)) (fun x16 => (xa_p (x_var (d := eI a1) 1 rfl) (fun _ => puI _) (fun x17 => xa_nil)))) (fun _ _ h => op_div h)) puI (fun _ => ⟨_, rfl⟩) (fun x19 => (x_c (eI 0))) (fun _ _ => .inl rfl) (fun _ _ => rfl) (fun x19 x20 x21 => (b_ret (x_var (d := eI x13.2) 2 rfl) (fun x23 => (x13.2, x21)) (.inr (fun _ => puI _)) (fun x23 => qf_ret rfl (by repeat (first | exact wk_nil | apply wk_a | apply wk_s))))))))))) (fun x7 => (b_skip (b_setIx (e1 := eI) (x_primT (xa_v (x_primT (xa_v (x_primT (xa_v (x_prim (xa_s 0 rfl (xa_v (x_c (eI 1)) (fun x24 => xa_nil)) (fun _ => rfl) (fun _ => puL)) (fun _ _ h => op_ixL puI h)) (fun x26 => (xa_v (x_c (eI 48271)) (fun x27 => xa_nil)))) (fun _ => op_mulR (by decide +kernel))) (fun x28 => (xa_v (x_c (eI 12345)) (fun x29 => xa_nil)))) (fun _ => op_add _ _)) (fun x30 => (xa_v (x_c (eI 2147483647)) (fun x31 => xa_nil)))) (fun _ => op_modC (by decide +kernel))) puI (fun _ => ⟨_, rfl⟩) (fun x32 => (x_c (eI 1))) (fun _ _ => .inl rfl) (fun _ _ => rfl) (fun x32 x33 x34 => (b_last (b_ret (x_prim (xa_v (x_primT (xa_v (x_prim (xa_v (x_prim (xa_s 0 rfl (xa_v (x_c (eI 1)) (fun x36 => xa_nil)) (fun _ => rfl) (fun _ => puL)) (fun _ _ h => op_ixL puI h)) (fun x38 => (xa_v (x_prim (xa_s 0 rfl (xa_v (x_c (eI 1)) (fun x39 => xa_nil)) (fun _ => rfl) (fun _ => puL)) (fun _ _ h => op_ixL puI h)) (fun x41 => xa_nil)))) (fun _ _ h => op_mul h)) (fun x43 => (xa_v (x_c (eI 1999999973)) (fun x44 => xa_nil)))) (fun _ => op_modC (by decide +kernel))) (fun x45 => (xa_p (x_var (d := eI a1) 1 rfl) (fun _ => puI _) (fun x46 => xa_nil)))) (fun _ _ h => op_mod' h)) (fun x48 => (x48.2, x34)) (.inl rfl) (fun x48 => qf_ret rfl (by repeat (first | exact wk_nil | apply wk_a | apply wk_s)))))))))) (by dsimp only [p__law_pick])) rfl (by simp [okM]) (fun z => (coll_0P rfl (coll_0P rfl coll_nilP)))
theorem tok__law_of__at0 (a0 : (List Int)) (a1 : (List Int)) : ∀ z, p__law_of__at0 a0 a1 = some z → f__law_of [(eL eI) a0, (eL eI) a1] = .ok (eI z.1) [(eL eI) z.2, (eL eI) a1] :=
  fn_t (p0 := [some ((eL eI) a0), some ((eL eI) a1)]) (m := p__law_of__at0 a0 a1) (rv := fun (z : (Int × (List Int))) => eI z.1) (q := fun (z : (Int × (List Int))) => [some ((eL eI) z.2), some ((eL eI) a1)]) (outs := fun z => [(eL eI) z.2, (eL eI) a1]) (B.cv (b_last (b_ret (x_prim (xa_s 1 rfl (xa_v (x_call (xa_s 0 rfl (xa_v (x_primT (xa_s 1 rfl xa_nil (fun _ => rfl) (fun _ => puL)) (fun _ => op_lenL _)) (fun x3 => xa_nil)) (fun _ => rfl) (fun _ => puL)) rfl (fun _ _ h => tok__law_pick  _ _ _ h) (fun _ _ => rfl) (fun _ (zz : Int × (List Int)) => [(0, (eL eI) zz.2)]) (fun _ _ => rfl)) (fun x5 => xa_nil)) (fun _ => rfl) (fun _ => puL)) (fun _ _ h => op_ixL puI h)) (fun x7 => (x7.2, x7.1.1.2.2)) (.inl rfl) (fun x7 => qf_ret rfl (by repeat (first | exact wk_nil | apply wk_a | apply wk_s))))) (by dsimp only [p__law_of__at0])) rfl (by simp [okM]) (fun z => (coll_0P rfl (coll_0P rfl coll_nilP)))
theorem tok__law_of__at1 (a0 : (List Int)) (a1 : (List Int)) : ∀ z, p__law_of__at1 a0 a1 = some z → f__law_of [(eL eI) a0, (eL eI) a1] = .ok (eI z.1) [(eL eI) z.2, (eL eI) a1] :=
  fn_t (p0 := [some ((eL eI) a0), some ((eL eI) a1)]) (m := p__law_of__at1 a0 a1) (rv := fun (z : (Int × (List Int))) => eI z.1) (q := fun (z : (Int × (List Int))) => [some ((eL eI) z.2), some ((eL eI) a1)]) (outs := fun z => [(eL eI) z.2, (eL eI) a1]) (B.cv (b_last (b_ret (x_prim (xa_s 1 rfl (xa_v (x_call (xa_s 0 rfl (xa_v (x_primT (xa_s 1 rfl xa_nil (fun _ => rfl) (fun _ => puL)) (fun _ => op_lenL _)) (fun x3 => xa_nil)) (fun _ => rfl) (fun _ => puL)) rfl (fun _ _ h => tok__law_pick  _ _ _ h) (fun _ _ => rfl) (fun _ (zz : Int × (List Int)) => [(0, (eL eI) zz.2)]) (fun _ _ => rfl)) (fun x5 => xa_nil)) (fun _ => rfl) (fun _ => puL)) (fun _ _ h => op_ixL puI h)) (fun x7 => (x7.2, x7.1.1.2.2)) (.inl rfl) (fun x7 => qf_ret rfl (by repeat (first | exact wk_nil | apply wk_a | apply wk_s))))) (by dsimp only [p__law_of__at1])) rfl (by simp [okM]) (fun z => (coll_0P rfl (coll_0P rfl coll_nilP)))
theorem tok__law_of__at2 (a0 : (List Int)) (a1 : (List Int)) : ∀ z, p__law_of__at2 a0 a1 = some z → f__law_of [(eL eI) a0, (eL eI) a1] = .ok (eI z.1) [(eL eI) z.2, (eL eI) a1] :=
  fn_t (p0 := [some ((eL eI) a0), some ((eL eI) a1)]) (m := p__law_of__at2 a0 a1) (rv := fun (z : (Int × (List Int))) => eI z.1) (q := fun (z : (Int × (List Int))) => [some ((eL eI) z.2), some ((eL eI) a1)]) (outs := fun z => [(eL eI) z.2, (eL eI) a1]) (B.cv (b_last (b_ret (x_prim (xa_s 1 rfl (xa_v (x_call (xa_s 0 rfl (xa_v (x_primT (xa_s 1 rfl xa_nil (fun _ => rfl) (fun _ => puL)) (fun _ => op_lenL _)) (fun x3 => xa_nil)) (fun _ => rfl) (fun _ => puL)) rfl (fun _ _ h => tok__law_pick  _ _ _ h) (fun _ _ => rfl) (fun _ (zz : Int × (List Int)) => [(0, (eL eI) zz.2)]) (fun _ _ => rfl)) (fun x5 => xa_nil)) (fun _ => rfl) (fun _ => puL)) (fun _ _ h => op_ixL puI h)) (fun x7 => (x7.2, x7.1.1.2.2)) (.inl rfl) (fun x7 => qf_ret rfl (by repeat (first | exact wk_nil | apply wk_a | apply wk_s))))) (by dsimp only [p__law_of__at2])) rfl (by simp [okM]) (fun z => (coll_0P rfl (coll_0P rfl coll_nilP)))
theorem tok__law_of__at3 (a0 : (List Int)) (a1 : (List Int)) : ∀ z, p__law_of__at3 a0 a1 = some z → f__law_of [(eL eI) a0, (eL eI) a1] = .ok (eI z.1) [(eL eI) z.2, (eL eI) a1] :=
  fn_t (p0 := [some ((eL eI) a0), some ((eL eI) a1)]) (m := p__law_of__at3 a0 a1) (rv := fun (z : (Int × (List Int))) => eI z.1) (q := fun (z : (Int × (List Int))) => [some ((eL eI) z.2), some ((eL eI) a1)]) (outs := fun z => [(eL eI) z.2, (eL eI) a1]) (B.cv (b_last (b_ret (x_prim (xa_s 1 rfl (xa_v (x_call (xa_s 0 rfl (xa_v (x_primT (xa_s 1 rfl xa_nil (fun _ => rfl) (fun _ => puL)) (fun _ => op_lenL _)) (fun x3 => xa_nil)) (fun _ => rfl) (fun _ => puL)) rfl (fun _ _ h => tok__law_pick  _ _ _ h) (fun _ _ => rfl) (fun _ (zz : Int × (List Int)) => [(0, (eL eI) zz.2)]) (fun _ _ => rfl)) (fun x5 => xa_nil)) (fun _ => rfl) (fun _ => puL)) (fun _ _ h => op_ixL puI h)) (fun x7 => (x7.2, x7.1.1.2.2)) (.inl rfl) (fun x7 => qf_ret rfl (by repeat (first | exact wk_nil | apply wk_a | apply wk_s))))) (by dsimp only [p__law_of__at3])) rfl (by simp [okM]) (fun z => (coll_0P rfl (coll_0P rfl coll_nilP)))
theorem tok__law_of__at4 (a0 : (List Int)) (a1 : (List Int)) : ∀ z, p__law_of__at4 a0 a1 = some z → f__law_of [(eL eI) a0, (eL eI) a1] = .ok (eI z.1) [(eL eI) z.2, (eL eI) a1] :=
  fn_t (p0 := [some ((eL eI) a0), some ((eL eI) a1)]) (m := p__law_of__at4 a0 a1) (rv := fun (z : (Int × (List Int))) => eI z.1) (q := fun (z : (Int × (List Int))) => [some ((eL eI) z.2), some ((eL eI) a1)]) (outs := fun z => [(eL eI) z.2, (eL eI) a1]) (B.cv (b_last (b_ret (x_prim (xa_s 1 rfl (xa_v (x_call (xa_s 0 rfl (xa_v (x_primT (xa_s 1 rfl xa_nil (fun _ => rfl) (fun _ => puL)) (fun _ => op_lenL _)) (fun x3 => xa_nil)) (fun _ => rfl) (fun _ => puL)) rfl (fun _ _ h => tok__law_pick  _ _ _ h) (fun _ _ => rfl) (fun _ (zz : Int × (List Int)) => [(0, (eL eI) zz.2)]) (fun _ _ => rfl)) (fun x5 => xa_nil)) (fun _ => rfl) (fun _ => puL)) (fun _ _ h => op_ixL puI h)) (fun x7 => (x7.2, x7.1.1.2.2)) (.inl rfl) (fun x7 => qf_ret rfl (by repeat (first | exact wk_nil | apply wk_a | apply wk_s))))) (by dsimp only [p__law_of__at4])) rfl (by simp [okM]) (fun z => (coll_0P rfl (coll_0P rfl coll_nilP)))
theorem tok__law_placed (n : Nat) (a0 : (List Int)) (a1 : (List Int)) : ∀ z, p__law_placed n a0 a1 = some z → f__law_placed n [(eL eI) a0, (eL eI) a1] = .ok ((eL eI) z.1) [(eL eI) z.2, (eL eI) a1] :=
  fn_t2 (d := (eL eI) a1) (p0 := [some ((eL eI) a0), some ((eL eI) a1), none]) (m := p__law_placed n a0 a1) (rv := fun (z : ((List Int) × (List Int))) => (eL eI) z.1) (q := fun (z : ((List Int) × (List Int))) => [some ((eL eI) z.2), none, none]) (outs := fun z => [(eL eI) z.2, (eL eI) a1]) (B.cv (b_setL (eL eI) (X.as (x_lst xa_nil rfl (by decide)) (fun x3 => (eL eI) ([] : (List Int))) rfl) (.inl rfl) (fun x4 x5 => (b_while (fun (x7 : ((List Int) × (List Int) × (List Int))) => [some ((eL eI) x7.1), some ((eL eI) x7.2.1), some ((eL eI) x7.2.2)]) (a0, a1, x5) (fun (z : ((List Int) × (List Int))) => (eL eI) z.1) (fun x19 => [some ((eL eI) x19.2), none, none]) (fun z => z) (by repeat (first | exact wk_nil | apply wk_a | apply wk_s)) (fun x7 => (xt_tst (x_primT (xa_s 1 rfl (xa_v (X.as (x_lst xa_nil rfl (by decide)) (fun x9 => (eL eI) ([] : (List Int))) rfl) (fun x10 => xa_nil)) (fun _ => rfl) (fun _ => puL)) (fun _ => op_ne (eqL eqI) (by decide) _ _)))) (fun x7 x11 => (b_last (b_expr (x_mt rfl (xa_v (x_mt rfl (xa_v (x_call (xa_s 0 rfl (xa_v (x_primT (xa_s 1 rfl xa_nil (fun _ => rfl) (fun _ => puL)) (fun _ => op_lenL _)) (fun x12 => xa_nil)) (fun _ => rfl) (fun _ => puL)) rfl (fun _ _ h => tok__law_pick  _ _ _ h) (fun _ _ => rfl) (fun _ (zz : Int × (List Int)) => [(0, (eL eI) zz.2)]) (fun _ _ => rfl)) (fun x14 => xa_nil)) rfl (fun _ => rfl) (fun _ _ h => mt_pop' puI h) (fun _ z => puI z.1)) (fun x16 => xa_nil)) rfl (fun _ => rfl) (fun _ _ h => mt_app' h) (fun _ _ => rfl)) (fun x18 => (b_endL (z := (x18.1.1.1.1.2.2, x18.1.1.2.2, x18.2)) (by repeat (first | exact wk_nil | apply wk_a | apply wk_s))))))) (fun x19 => qf_ret rfl (by repeat (first | exact wk_nil | apply wk_a | apply wk_s))) (fun x7 => (b_last (b_retS (R := (x7.2.2, x7.1)) (i := 2) rfl rfl (qf_ret rfl (by repeat (first | exact wk_nil | apply wk_a | apply wk_s))))))))) (by dsimp only [p__law_placed])) (op_lstL (puI) _) rfl (by simp [okM2, ]) (fun z => (coll_0P rfl (coll_2P coll_nilP)))
theorem tok__law_net (n : Nat) (a0 : (List Int)) (a1 : Int) (a2 : Int) : ∀ z, p__law_net n a0 a1 a2 = some z → f__law_net n [(eL eI) a0, eI a1, eI a2] = .ok ((eQ eI (eT (eP eI eI)) (eT eI)) z.1) [(eL eI) z.2, eI a1, eI a2] :=
  fn_t (p0 := [some ((eL eI) a0), some (eI a1), some (eI a2), none, none, none, none, none]) (m := p__law_net n a0 a1 a2) (rv := fun (z : ((Int × (List (Int × Int)) × (List Int)) × (List Int))) => (eQ eI (eT (eP eI eI)) (eT eI)) z.1) (q := fun (z : ((Int × (List (Int × Int)) × (List Int)) × (List Int))) => [some ((eL eI) z.2), some (eI a1), some (eI a2), none, none, none, none, none]) (outs := fun z => [(eL eI) z.2, eI a1, eI a2]) (B.cv (b_setL (eL (eP eI eI)) (X.as (x_lst xa_nil rfl (by decide)) (fun x4 => (eL (eP eI eI)) ([] : (List (Int × Int)))) rfl) (.inl rfl) (fun x5 x6 => (b_for (xi_mkP (xa_v (x_primT (xa_v (x_call (xa_s 0 rfl (xa_v (x_primT (xa_p (x_var (d := eI a2) 2 rfl) (fun _ => puI _) (fun x8 => (xa_v (x_c (eI 1)) (fun x9 => xa_nil)))) (fun _ => op_add _ _)) (fun x10 => xa_nil)) (fun _ => rfl) (fun _ => puL)) rfl (fun _ _ h => tok__law_pick  _ _ _ h) (fun _ _ => rfl) (fun _ (zz : Int × (List Int)) => [(0, (eL eI) zz.2)]) (fun _ _ => rfl)) (fun x12 => (xa_v (x_primT (xa_v (x_primT (xa_p (x_var (d := eI a1) 1 rfl) (fun _ => puI _) (fun x13 => (xa_v (x_c (eI 1)) (fun x14 => xa_nil)))) (fun _ => op_gt' _ _)) (fun x15 => xa_nil)) (fun _ => op_intB _)) (fun x16 => xa_nil)))) (fun _ => op_mulB _ _)) (fun x17 => xa_nil)) rfl puI (fun _ _ h => it_r1 h)) (fun x19 (x20 : ((List Int) × (List (Int × Int)))) => [some ((eL eI) x20.1), some (eI a1), some (eI a2), some ((eL (eP eI eI)) x20.2), none, none, none, none]) (fun x19 => (x19.1.1.1.2.2, x6)) (fun _ => rfl) (fun x19 => by repeat (first | exact wk_nil | apply wk_a | apply wk_s)) (fun x19 x20 x21 => as_nm) (fun x19 x20 x21 => (b_set (x_call (xa_s 0 rfl (xa_p (x_var (d := eI a1) 1 rfl) (fun _ => puI _) (fun x24 => xa_nil)) (fun _ => rfl) (fun _ => puL)) rfl (fun _ _ h => tok__law_pick  _ _ _ h) (fun _ _ => rfl) (fun _ (zz : Int × (List Int)) => [(0, (eL eI) zz.2)]) (fun _ _ => rfl)) (.inl rfl) (fun x26 => (b_set (x_prim (xa_v (x_primT (xa_v (x_primT (xa_p (x_var (d := eI x26.2.1) 5 rfl) (fun _ => puI _) (fun x27 => (xa_v (x_c (eI 1)) (fun x28 => xa_nil)))) (fun _ => op_add _ _)) (fun x29 => (xa_v (x_call (xa_s 0 rfl (xa_v (x_primT (xa_p (x_var (d := eI a1) 1 rfl) (fun _ => puI _) (fun x30 => (xa_v (x_c (eI 1)) (fun x31 => xa_nil)))) (fun _ => op_sub' _ _)) (fun x32 => xa_nil)) (fun _ => rfl) (fun _ => puL)) rfl (fun _ _ h => tok__law_pick  _ _ _ h) (fun _ _ => rfl) (fun _ (zz : Int × (List Int)) => [(0, (eL eI) zz.2)]) (fun _ _ => rfl)) (fun x34 => xa_nil)))) (fun _ => op_add _ _)) (fun x35 => (xa_p (x_var (d := eI a1) 1 rfl) (fun _ => puI _) (fun x36 => xa_nil)))) (fun _ _ h => op_mod' h)) (.inl rfl) (fun x38 => (b_ifj (xt_andM (xt_tst (x_primT (xa_s 3 rfl (xa_v (X.as (x_lst xa_nil rfl (by decide)) (fun x39 => (eL (eP eI eI)) ([] : (List (Int × Int)))) rfl) (fun x40 => xa_nil)) (fun _ => rfl) (fun _ => puL)) (fun _ => op_ne (eqL (eqP eqI eqI)) (by decide) _ _))) (fun x41 => (xt_tst (x_primT (xa_v (x_call (xa_s 0 rfl (xa_v (x_c (eI 4)) (fun x42 => xa_nil)) (fun _ => rfl) (fun _ => puL)) rfl (fun _ _ h => tok__law_pick  _ _ _ h) (fun _ _ => rfl) (fun _ (zz : Int × (List Int)) => [(0, (eL eI) zz.2)]) (fun _ _ => rfl)) (fun x44 => (xa_v (x_c (eI 0)) (fun x45 => xa_nil)))) (fun _ => op_eq eqI (by decide) _ _)))) (fun x41 x47 => x47.1.2.2) (fun x41 => x38.1.1.2.1.2.2) (fun x41 x48 => [some ((eL eI) x48), some (eI a1), some (eI a2), some ((eL (eP eI eI)) x20.2), some (eI x21), some (eI x26.2.1), some (eI x38.2), none]) (fun _ _ => by repeat (first | exact wk_nil | apply wk_a | apply wk_s)) (fun _ => by repeat (first | exact wk_nil | apply wk_a | apply wk_s))) (fun x50 (x63 : ((List Int) × Int × Int)) => [some ((eL eI) x63.1), some (eI a1), some (eI a2), some ((eL (eP eI eI)) x20.2), some (eI x21), some (eI x63.2.1), some (eI x63.2.2), none]) (fun x50 => (b_last (b_asg (x_stE puI (x_prim (xa_s 3 rfl (xa_v (x_primT (xa_v (x_c (eI 1)) (fun x51 => xa_nil)) (fun _ => op_neg _)) (fun x52 => xa_nil)) (fun _ => rfl) (fun _ => puL)) (fun _ _ h => op_ixL (puP puI puI) h)) (fun x54 => (x_call (xa_s 0 rfl (xa_v (X.as (x_lst (xa_v (x_c (eI 1)) (fun x55 => (xa_v (x_primT (xa_v (x_c (eI 1)) (fun x56 => xa_nil)) (fun _ => op_neg _)) (fun x57 => xa_nil)))) rfl (by decide)) (fun x58 => (eL eI) [(1 : Int), (-(1 : Int))]) rfl) (fun x59 => xa_nil)) (fun _ => rfl) (fun _ => puL)) rfl (fun _ _ h => tok__law_of__at0  _ _ _ h) (fun _ _ => rfl) (fun _ (zz : Int × (List Int)) => [(0, (eL eI) zz.2)]) (fun _ _ => rfl)))) (.inl rfl) (fun _ => (as_tp (ass_cons as_nm (ass_cons as_nm ass_nil)))) (fun x62 => (b_end (z := (x62.2.1.2.2, x62.2.2.1, x62.2.2.2)) (by repeat (first | exact wk_nil | apply wk_a | apply wk_s))))))) (fun x50 => (b_end (z := (x50.2.2, x26.2.1, x38.2)) (by repeat (first | exact wk_nil | apply wk_a | apply wk_s)))) (fun x50 x63 => (b_last (b_expr (x_mt rfl (xa_v (X.as (x_tup (xa_p (x_var (d := eI x63.2.1) 5 rfl) (fun _ => puI _) (fun x65 => (xa_p (x_var (d := eI x63.2.2) 6 rfl) (fun _ => puI _) (fun x66 => xa_nil)))) rfl (by decide)) (fun x67 => (eP eI eI) (x63.2.1, x63.2.2)) rfl) (fun x68 => xa_nil)) rfl (fun _ => rfl) (fun _ _ h => mt_app' h) (fun _ _ => rfl)) (fun x70 => (b_endC (z := (x63.1, x70.2)) (by repeat (first | exact wk_nil | apply wk_a | apply wk_s))))))))))))) (fun x19 x20 => (b_set (x_prim (xa_p (x_var (d := eI a1) 1 rfl) (fun _ => puI _) (fun x71 => xa_nil)) (fun _ _ h => op_lrg1 h)) (.inl rfl) (fun x73 => (b_ifj (xt_tst (x_primT (xa_v (x_call (xa_s 0 rfl (xa_v (x_c (eI 2)) (fun x74 => xa_nil)) (fun _ => rfl) (fun _ => puL)) rfl (fun _ _ h => tok__law_pick  _ _ _ h) (fun _ _ => rfl) (fun _ (zz : Int × (List Int)) => [(0, (eL eI) zz.2)]) (fun _ _ => rfl)) (fun x76 => (xa_v (x_c (eI 0)) (fun x77 => xa_nil)))) (fun _ => op_eq eqI (by decide) _ _))) (fun x78 (x81 : ((List Int) × (List Int))) => [some ((eL eI) x81.1), some (eI a1), some (eI a2), some ((eL (eP eI eI)) x20.2), none, none, none, some ((eL eI) x81.2)]) (fun x78 => (b_last (b_set (x_call (xa_s 0 rfl (xa_s 7 rfl xa_nil (fun _ => rfl) (fun _ => puL)) (fun _ => rfl) (fun _ => puL)) rfl (fun _ _ h => tok__law_placed n _ _ _ h) (fun _ _ => rfl) (fun _ (zz : (List Int) × (List Int)) => [(0, (eL eI) zz.2), (7, (eL eI) x73.2)]) (fun _ _ => rfl)) (.inl rfl) (fun x80 => (b_end (z := (x80.2.2, x80.2.1)) (by repeat (first | exact wk_nil | apply wk_a | apply wk_s))))))) (fun x78 => (b_end (z := (x78.1.2.2, x73.2)) (by repeat (first | exact wk_nil | apply wk_a | apply wk_s)))) (fun x78 x81 => (b_last (b_ret (X.as (x_tup (xa_p (x_var (d := eI a1) 1 rfl) (fun _ => puI _) (fun x83 => (xa_v (x_primT (xa_s 3 rfl xa_nil (fun _ => rfl) (fun _ => puL)) (fun _ => op_tupL (puP puI puI) _)) (fun x84 => (xa_v (x_primT (xa_s 7 rfl xa_nil (fun _ => rfl) (fun _ => puL)) (fun _ => op_tupL puI _)) (fun x85 => xa_nil)))))) rfl (by decide)) (fun x86 => (eQ eI (eT (eP eI eI)) (eT eI)) (a1, x20.2, x81.2)) rfl) (fun x87 => ((a1, x20.2, x81.2), x81.1)) (.inl rfl) (fun x87 => qf_ret rfl (by repeat (first | exact wk_nil | apply wk_a | apply wk_s))))))))))))) (by dsimp only [p__law_net])) rfl (by simp [okM]) (fun z => (coll_0P rfl (coll_0P rfl (coll_0P rfl coll_nilP))))
theorem tok__law_lanes (a0 : (List Int)) : ∀ z, p__law_lanes a0 = some z → f__law_lanes [(eL eI) a0] = .ok (eI z.1) [(eL eI) z.2] :=
  fn_t (p0 := [some ((eL eI) a0)]) (m := p__law_lanes a0) (rv := fun (z : (Int × (List Int))) => eI z.1) (q := fun (z : (Int × (List Int))) => [some ((eL eI) z.2)]) (outs := fun z => [(eL eI) z.2]) (B.cv (b_last (b_ret (x_call (xa_s 0 rfl (xa_v (X.as (x_lst (xa_v (x_c (eI 1)) (fun x2 => (xa_v (x_c (eI 2)) (fun x3 => (xa_v (x_c (eI 2)) (fun x4 => (xa_v (x_c (eI 3)) (fun x5 => (xa_v (x_c (eI 4)) (fun x6 => (xa_v (x_c (eI 5)) (fun x7 => (xa_v (x_c (eI 6)) (fun x8 => (xa_v (x_c (eI 16)) (fun x9 => xa_nil)))))))))))))))) rfl (by decide)) (fun x10 => (eL eI) [(1 : Int), (2 : Int), (2 : Int), (3 : Int), (4 : Int), (5 : Int), (6 : Int), (16 : Int)]) rfl) (fun x11 => xa_nil)) (fun _ => rfl) (fun _ => puL)) rfl (fun _ _ h => tok__law_of__at1  _ _ _ h) (fun _ _ => rfl) (fun _ (zz : Int × (List Int)) => [(0, (eL eI) zz.2)]) (fun _ _ => rfl)) (fun x13 => (x13.2.1, x13.2.2)) (.inl rfl) (fun x13 => qf_ret rfl (by repeat (first | exact wk_nil | apply wk_a | apply wk_s))))) (by dsimp only [p__law_lanes])) rfl (by simp [okM]) (fun z => (coll_0P rfl coll_nilP))
theorem tok__law_runs (a0 : (List Int)) (a1 : (Int × (List (Int × Int)) × (List Int))) (a2 : Int) : ∀ z, p__law_runs a0 a1 a2 = some z → f__law_runs [(eL eI) a0, (eQ eI (eT (eP eI eI)) (eT eI)) a1, eI a2] = .ok ((eT (eQ eI eI eI)) z.1) [(eL eI) z.2, (eQ eI (eT (eP eI eI)) (eT eI)) a1, eI a2] :=
  fn_t (p0 := [some ((eL eI) a0), some ((eQ eI (eT (eP eI eI)) (eT eI)) a1), some (eI a2), none, none, none, none, none]) (m := p__law_runs a0 a1 a2) (rv := fun (z : ((List (Int × Int × Int)) × (List Int))) => (eT (eQ eI eI eI)) z.1) (q := fun (z : ((List (Int × Int × Int)) × (List Int))) => [some ((eL eI) z.2), some ((eQ eI (eT (eP eI eI)) (eT eI)) a1), some (eI a2), none, none, none, none, none]) (outs := fun z => [(eL eI) z.2, (eQ eI (eT (eP eI eI)) (eT eI)) a1, eI a2]) (B.cv (b_set (x_call (xa_s 0 rfl (xa_v (x_c (eI 4)) (fun x4 => xa_nil)) (fun _ => rfl) (fun _ => puL)) rfl (fun _ _ h => tok__law_pick  _ _ _ h) (fun _ _ => rfl) (fun _ (zz : Int × (List Int)) => [(0, (eL eI) zz.2)]) (fun _ _ => rfl)) (.inl rfl) (fun x6 => (b_setL (eL (eQ eI eI eI)) (X.as (x_lst xa_nil rfl (by decide)) (fun x7 => (eL (eQ eI eI eI)) ([] : (List (Int × Int × Int)))) rfl) (.inl rfl) (fun x8 x9 => (b_for (xi_mkP (xa_v (x_call (xa_s 0 rfl (xa_v (X.as (x_lst (xa_v (x_c (eI 0)) (fun x11 => (xa_v (x_c (eI 1)) (fun x12 => (xa_v (x_c (eI 2)) (fun x13 => (xa_v (x_c (eI 5)) (fun x14 => (xa_v (x_c (eI 12)) (fun x15 => (xa_p (x_var (d := eI a2) 2 rfl) (fun _ => puI _) (fun x16 => xa_nil)))))))))))) rfl (by decide)) (fun x17 => (eL eI) [(0 : Int), (1 : Int), (2 : Int), (5 : Int), (12 : Int), a2]) rfl) (fun x18 => xa_nil)) (fun _ => rfl) (fun _ => puL)) rfl (fun _ _ h => tok__law_of__at2  _ _ _ h) (fun _ _ => rfl) (fun _ (zz : Int × (List Int)) => [(0, (eL eI) zz.2)]) (fun _ _ => rfl)) (fun x20 => xa_nil)) rfl puI (fun _ _ h => it_r1 h)) (fun x22 (x23 : ((List Int) × (List (Int × Int × Int)))) => [some ((eL eI) x23.1), some ((eQ eI (eT (eP eI eI)) (eT eI)) a1), some (eI a2), some (eI x6.2.1), some ((eL (eQ eI eI eI)) x23.2), none, none, none]) (fun x22 => (x22.1.1.2.2, x9)) (fun _ => rfl) (fun x22 => by repeat (first | exact wk_nil | apply wk_a | apply wk_s)) (fun x22 x23 x24 => as_nm) (fun x22 x23 x24 => (b_set (x_call (xa_s 0 rfl (xa_v (x_prim (xa_v (X.as (x_lst (xa_v (x_c (eI 1)) (fun x27 => (xa_v (x_c (eI 4)) (fun x28 => (xa_v (x_c (eI 40)) (fun x29 => (xa_v (x_c (eI 400)) (fun x30 => xa_nil)))))))) rfl (by decide)) (fun x31 => (eL eI) [(1 : Int), (4 : Int), (40 : Int), (400 : Int)]) rfl) (fun x32 => (xa_p (x_var (d := eI x6.2.1) 3 rfl) (fun _ => puI _) (fun x33 => xa_nil)))) (fun _ _ h => op_ixL puI h)) (fun x35 => xa_nil)) (fun _ => rfl) (fun _ => puL)) rfl (fun _ _ h => tok__law_pick  _ _ _ h) (fun _ _ => rfl) (fun _ (zz : Int × (List Int)) => [(0, (eL eI) zz.2)]) (fun _ _ => rfl)) (.inl rfl) (fun x37 => (b_ifj (xt_tst (x_primT (xa_v (x_call (xa_s 0 rfl (xa_v (x_c (eI 9)) (fun x38 => xa_nil)) (fun _ => rfl) (fun _ => puL)) rfl (fun _ _ h => tok__law_pick  _ _ _ h) (fun _ _ => rfl) (fun _ (zz : Int × (List Int)) => [(0, (eL eI) zz.2)]) (fun _ _ => rfl)) (fun x40 => (xa_v (x_c (eI 0)) (fun x41 => xa_nil)))) (fun _ => op_eq eqI (by decide) _ _))) (fun x42 (x51 : ((List Int) × Int)) => [some ((eL eI) x51.1), some ((eQ eI (eT (eP eI eI)) (eT eI)) a1), some (eI a2), some (eI x6.2.1), some ((eL (eQ eI eI eI)) x23.2), some (eI x24), some (eI x51.2), none]) (fun x42 => (b_last (b_setL eI (x_primT (xa_v (x_tenV (x_call (xa_s 0 rfl (xa_v (x_c (eI 29)) (fun x43 => xa_nil)) (fun _ => rfl) (fun _ => puL)) rfl (fun _ _ h => tok__law_pick  _ _ _ h) (fun _ _ => rfl) (fun _ (zz : Int × (List Int)) => [(0, (eL eI) zz.2)]) (fun _ _ => rfl))) (fun x46 => (xa_p (x_var (d := eI x37.2.1) 6 rfl) (fun _ => puI _) (fun x47 => xa_nil)))) (fun _ => op_add _ _)) (.inl rfl) (fun x48 x49 => (b_end (z := (x48.1.1.2.2, x49)) (by repeat (first | exact wk_nil | apply wk_a | apply wk_s))))))) (fun x42 => (b_end (z := (x42.1.2.2, x37.2.1)) (by repeat (first | exact wk_nil | apply wk_a | apply wk_s)))) (fun x42 x51 => (b_setL eI (x_primT (xa_v (x_c (eI 1)) (fun x53 => (xa_v (x_call (xa_s 0 rfl (xa_v (x_call (xa_s 0 rfl (xa_v (X.as (x_lst (xa_v (x_c (eI 1)) (fun x54 => (xa_v (x_c (eI 1)) (fun x55 => (xa_v (x_c (eI 3)) (fun x56 => (xa_v (x_c (eI 30)) (fun x57 => (xa_v (x_primT (xa_v (x_c (eI 10)) (fun x58 => (xa_v (x_c (eI 6)) (fun x59 => xa_nil)))) (fun _ => op_powC (c := 1000000) (by decide +kernel) (by decide +kernel))) (fun x60 => xa_nil)))))))))) rfl (by decide)) (fun x61 => (eL eI) [(1 : Int), (1 : Int), (3 : Int), (30 : Int), (1000000 : Int)]) rfl) (fun x62 => xa_nil)) (fun _ => rfl) (fun _ => puL)) rfl (fun _ _ h => tok__law_of__at3  _ _ _ h) (fun _ _ => rfl) (fun _ (zz : Int × (List Int)) => [(0, (eL eI) zz.2)]) (fun _ _ => rfl)) (fun x64 => xa_nil)) (fun _ => rfl) (fun _ => puL)) rfl (fun _ _ h => tok__law_pick  _ _ _ h) (fun _ _ => rfl) (fun _ (zz : Int × (List Int)) => [(0, (eL eI) zz.2)]) (fun _ _ => rfl)) (fun x66 => xa_nil)))) (fun _ => op_add _ _)) (.inl rfl) (fun x67 x68 => (b_last (b_expr (x_mt rfl (xa_v (X.as (x_tup (xa_v (x_call (xa_s 0 rfl (xa_v (x_primT (xa_p (x_var (d := (eQ eI (eT (eP eI eI)) (eT eI)) a1) 1 rfl) (fun _ => (puQ puI (puT (puP puI puI)) (puT puI)) _) (fun x70 => (xa_v (x_c (eI 0)) (fun x71 => xa_nil)))) (fun _ => op_ixQ0 puI _)) (fun x72 => xa_nil)) (fun _ => rfl) (fun _ => puL)) rfl (fun _ _ h => tok__law_pick  _ _ _ h) (fun _ _ => rfl) (fun _ (zz : Int × (List Int)) => [(0, (eL eI) zz.2)]) (fun _ _ => rfl)) (fun x74 => (xa_p (x_var (d := eI x51.2) 6 rfl) (fun _ => puI _) (fun x75 => (xa_p (x_var (d := eI x68) 7 rfl) (fun _ => puI _) (fun x76 => xa_nil)))))) rfl (by decide)) (fun x77 => (eQ eI eI eI) (x77.1.2.1, x51.2, x68)) rfl) (fun x78 => xa_nil)) rfl (fun _ => rfl) (fun _ _ h => mt_app' h) (fun _ _ => rfl)) (fun x80 => (b_endC (z := (x80.1.1.1.2.2, x80.2)) (by repeat (first | exact wk_nil | apply wk_a | apply wk_s))))))))))))) (fun x22 x23 => (b_last (b_ret (x_primT (xa_s 4 rfl xa_nil (fun _ => rfl) (fun _ => puL)) (fun _ => op_tupL (puQ puI puI puI) _)) (fun x81 => (x23.2, x23.1)) (.inl rfl) (fun x81 => qf_ret rfl (by repeat (first | exact wk_nil | apply wk_a | apply wk_s))))))))))) (by dsimp only [p__law_runs])) rfl (by simp [okM]) (fun z => (coll_0P rfl (coll_0P rfl (coll_0P rfl coll_nilP))))
theorem tok__law_ran (n : Nat) (a0 : (Int × (List (Int × Int)) × (List Int))) (a1 : (List (Int × Int × Int))) : ∀ z, p__law_ran n a0 a1 = some z → f__law_ran n [(eQ eI (eT (eP eI eI)) (eT eI)) a0, (eT (eQ eI eI eI)) a1] = .ok ((eT (eQ eI eI eI)) z) [(eQ eI (eT (eP eI eI)) (eT eI)) a0, (eT (eQ eI eI eI)) a1] :=
  fn_t (p0 := [some ((eQ eI (eT (eP eI eI)) (eT eI)) a0), some ((eT (eQ eI eI eI)) a1), none, none, none, none, none, none, none, none, none, none, none, none, none, none, none]) (m := p__law_ran n a0 a1) (rv := fun (z : (List (Int × Int × Int))) => (eT (eQ eI eI eI)) z) (q := fun (z : (List (Int × Int × Int))) => [some ((eQ eI (eT (eP eI eI)) (eT eI)) a0), some ((eT (eQ eI eI eI)) a1), none, none, none, none, none, none, none, none, none, none, none, none, none, none, none]) (outs := fun z => [(eQ eI (eT (eP eI eI)) (eT eI)) a0, (eT (eQ eI eI eI)) a1]) (B.cv (b_par (xa_v (x_prim (xa_v (X.as (x_lst (xa_v (x_c (eI 0)) (fun x3 => xa_nil)) rfl (by decide)) (fun x4 => (eL eI) [(0 : Int)]) rfl) (fun x5 => (xa_v (x_primT (xa_v (x_primT (xa_p (x_var (d := (eQ eI (eT (eP eI eI)) (eT eI)) a0) 0 rfl) (fun _ => (puQ puI (puT (puP puI puI)) (puT puI)) _) (fun x6 => (xa_v (x_c (eI 1)) (fun x7 => xa_nil)))) (fun _ => op_ixQ1 (puT (puP puI puI)) _)) (fun x8 => xa_nil)) (fun _ => op_lenT _)) (fun x9 => xa_nil)))) (fun _ _ h => op_repL puI h)) (fun x11 => (xa_v (x_prim (xa_v (X.as (x_lst (xa_v (x_c (eI 0)) (fun x12 => xa_nil)) rfl (by decide)) (fun x13 => (eL eI) [(0 : Int)]) rfl) (fun x14 => (xa_v (x_primT (xa_p (x_var (d := (eQ eI (eT (eP eI eI)) (eT eI)) a0) 0 rfl) (fun _ => (puQ puI (puT (puP puI puI)) (puT puI)) _) (fun x15 => (xa_v (x_c (eI 0)) (fun x16 => xa_nil)))) (fun _ => op_ixQ0 puI _)) (fun x17 => xa_nil)))) (fun _ _ h => op_repL puI h)) (fun x19 => xa_nil)))) rfl (fun _ => rfl) (fun _ => put2) (fun x20 => (b_setL (eK koI (eQ eI eI eI)) (x_primT (xa_v (x_mapT (ee := (eP eI (eQ eI eI eI))) (xi_mk (xa_p (x_var (d := (eT (eQ eI eI eI)) a1) 1 rfl) (fun _ => (puT (puQ puI puI puI)) _) (fun x21 => xa_nil)) rfl (puP puI (puQ puI puI puI)) (fun _ => it_eT _)) rfl (fun x22 x23 => (as_tp (ass_cons as_nm (ass_cons as_nm ass_nil)))) (fun x22 x23 => (X.as (x_tup (xa_p (x_var (d := eI x23.1) 5 rfl) (fun _ => puI _) (fun x26 => (xa_v (X.as (x_tup (xa_v (x_primT (xa_p (x_var (d := (eQ eI eI eI) x23.2) 6 rfl) (fun _ => (puQ puI puI puI) _) (fun x27 => (xa_v (x_c (eI 1)) (fun x28 => xa_nil)))) (fun _ => op_ixQ1 puI _)) (fun x29 => (xa_v (x_primT (xa_p (x_var (d := (eQ eI eI eI) x23.2) 6 rfl) (fun _ => (puQ puI puI puI) _) (fun x30 => (xa_v (x_c (eI 0)) (fun x31 => xa_nil)))) (fun _ => op_ixQ0 puI _)) (fun x32 => (xa_v (x_c (eI 0)) (fun x33 => xa_nil)))))) rfl (by decide)) (fun x34 => (eQ eI eI eI) (x23.2.2.1, x23.2.1, (0 : Int))) rfl) (fun x35 => xa_nil)))) rfl (by decide)) (fun x36 => (eP eI (eQ eI eI eI)) (x23.1, (x23.2.2.1, x23.2.1, (0 : Int)))) rfl)) (.inl rfl) (fun _ _ => by repeat (first | exact wk_nil | apply wk_a | apply wk_s))) (fun x39 => xa_nil)) (fun _ => op_dictK kkI (puQ puI puI puI) _)) (.inl rfl) (fun x40 x41 => (b_setL (eK koI (eQ eI eI eI)) (x_newK (f := koI) (e := (eQ eI eI eI))) (.inl rfl) (fun x43 x44 => (b_while (fun (x46 : ((List Int) × (List Int) × (List (Int × (Int × Int × Int))) × (List (Int × (Int × Int × Int))))) => [some ((eQ eI (eT (eP eI eI)) (eT eI)) a0), some ((eT (eQ eI eI eI)) a1), some ((eL eI) x46.1), some ((eL eI) x46.2.1), some ((eK koI (eQ eI eI eI)) x46.2.2.1), none, none, some ((eK koI (eQ eI eI eI)) x46.2.2.2), none, none, none, none, none, none, none, none, none]) (x20.1.2, x20.2.1.2, x41, x44) (fun (z : (List (Int × Int × Int))) => (eT (eQ eI eI eI)) z) (fun x183 => [some ((eQ eI (eT (eP eI eI)) (eT eI)) a0), some ((eT (eQ eI eI eI)) a1), none, none, none, none, none, none, none, none, none, none, none, none, none, none, none]) (fun z => z) (by repeat (first | exact wk_nil | apply wk_a | apply wk_s)) (fun x46 => (xt_tst (x_primT (xa_s 4 rfl (xa_v (x_newK (f := koI) (e := (eQ eI eI eI))) (fun x48 => xa_nil)) (fun _ => rfl) (fun _ => puK)) (fun _ => op_ne0K' _)))) (fun x46 x49 => (b_set (x_prim (xa_v (x_roE (d := (eK koI (eQ eI eI eI)) x46.2.2.1) rfl (lock_eK (puQ puI puI puI) _) (x_mapT (ee := eI) (xi_frz rfl (it_FV _) (puQ puI puI puI)) rfl (fun x50 x51 => (as_tp (ass_cons as_nm (ass_cons as_nm (ass_cons as_nm ass_nil))))) (fun x50 x51 => (x_var (d := eI x51.1) 9 rfl)) (.inr puI) (fun _ _ => by repeat (first | exact wk_nil | apply wk_a | apply wk_s)))) (fun x56 => xa_nil)) (fun _ _ h => minAny_of (op_min1L h))) (.inl rfl) (fun x58 => (b_last (b_for (xi_mk (xa_v (x_primT (xa_v (x_roE (d := (eK koI (eQ eI eI eI)) x46.2.2.1) rfl (lock_eK (puQ puI puI puI) _) (x_compP (ee := eI) (xi_frz rfl (it_FK kkI _) puI) rfl (fun x59 x60 => as_nm) (fun x59 x60 => (xt_tst (x_primT (xa_v (x_primT (xa_v (x_prim (xa_s 4 rfl (xa_p (x_var (d := eI x60) 12 rfl) (fun _ => puI _) (fun x63 => xa_nil)) (fun _ => rfl) (fun _ => puKF)) (fun _ _ h => op_ixKF kkI h)) (fun x65 => (xa_v (x_c (eI 0)) (fun x66 => xa_nil)))) (fun _ => op_ixQ0 puI _)) (fun x67 => (xa_p (x_var (d := eI x58.2) 8 rfl) (fun _ => puI _) (fun x68 => xa_nil)))) (fun _ => op_eq eqI (by decide) _ _)))) (fun x59 x60 x62 => (x_var (d := eI x60) 12 rfl)) (.inr puI) (fun _ _ => by repeat (first | exact wk_nil | apply wk_a | apply wk_s)))) (fun x71 => xa_nil)) (fun _ => op_sortL' _)) (fun x72 => xa_nil)) rfl puI (fun _ => it_L _)) (fun x73 (x74 : ((List Int) × (List Int) × (List (Int × (Int × Int × Int))) × (List (Int × (Int × Int × Int))))) => [some ((eQ eI (eT (eP eI eI)) (eT eI)) a0), some ((eT (eQ eI eI eI)) a1), some ((eL eI) x74.1), some ((eL eI) x74.2.1), some ((eK koI (eQ eI eI eI)) x74.2.2.1), none, none, some ((eK koI (eQ eI eI eI)) x74.2.2.2), some (eI x58.2), none, none, none, none, none, none, none, none]) (fun x73 => (x46.1, x46.2.1, x46.2.2.1, x46.2.2.2)) (fun _ => rfl) (fun x73 => by repeat (first | exact wk_nil | apply wk_a | apply wk_s)) (fun x73 x74 x75 => as_nm) (fun x73 x74 x75 => (b_asg (x_popK kkI (puQ puI puI puI) rfl (x_var (d := eI x75) 5 rfl) (fun _ => rfl)) (.inl rfl) (fun _ => (as_tp (ass_cons as_nm (ass_cons as_nm (ass_cons as_nm ass_nil))))) (fun x80 => (b_set (x_compP (ee := eI) (xi_mkP (xa_p (x_var (d := eI x80.2.1.2.2) 11 rfl) (fun _ => puI _) (fun x81 => (xa_v (x_primT (xa_v (x_primT (xa_p (x_var (d := (eQ eI (eT (eP eI eI)) (eT eI)) a0) 0 rfl) (fun _ => (puQ puI (puT (puP puI puI)) (puT puI)) _) (fun x82 => (xa_v (x_c (eI 1)) (fun x83 => xa_nil)))) (fun _ => op_ixQ1 (puT (puP puI puI)) _)) (fun x84 => xa_nil)) (fun _ => op_lenT _)) (fun x85 => xa_nil)))) rfl puI (fun _ _ h => it_r2 h)) rfl (fun x87 x88 => as_nm) (fun x87 x88 => (xt_tst (x_primT (xa_p (x_var (d := eI x80.2.1.2.1) 10 rfl) (fun _ => puI _) (fun x91 => (xa_v (x_prim (xa_v (x_primT (xa_p (x_var (d := (eQ eI (eT (eP eI eI)) (eT eI)) a0) 0 rfl) (fun _ => (puQ puI (puT (puP puI puI)) (puT puI)) _) (fun x92 => (xa_v (x_c (eI 1)) (fun x93 => xa_nil)))) (fun _ => op_ixQ1 (puT (puP puI puI)) _)) (fun x94 => (xa_p (x_var (d := eI x88) 14 rfl) (fun _ => puI _) (fun x95 => xa_nil)))) (fun _ _ h => op_ixT (puP puI puI) h)) (fun x97 => xa_nil)))) (fun _ => op_inP _ _)))) (fun x87 x88 x90 => (x_var (d := eI x88) 14 rfl)) (.inr puI) (fun _ _ => by repeat (first | exact wk_nil | apply wk_a | apply wk_s))) (.inl rfl) (fun x100 => (b_last (b_if (xt_tst (x_primT (xa_s 13 rfl (xa_v (X.as (x_lst xa_nil rfl (by decide)) (fun x101 => (eL eI) ([] : (List Int))) rfl) (fun x102 => xa_nil)) (fun _ => rfl) (fun _ => puL)) (fun _ => op_eq (eqL eqI) (by decide) _ _))) (fun x103 => (b_asc (b_set (x_idx (x_primT (xa_p (x_var (d := (eQ eI (eT (eP eI eI)) (eT eI)) a0) 0 rfl) (fun _ => (puQ puI (puT (puP puI puI)) (puT puI)) _) (fun x104 => (xa_v (x_c (eI 2)) (fun x105 => xa_nil)))) (fun _ => op_ixQ2 (puT puI) _)) (fun _ => rfl) (fun x106 => (x_var (d := eI x80.2.1.2.1) 10 rfl)) (fun _ _ _ h => op_idx h)) (.inl rfl) (fun x108 => (b_asc (b_setK (e1 := (eQ eI eI eI)) kkI (X.as (x_tup (xa_v (x_primT (xa_p (x_var (d := eI x108.2.2) 15 rfl) (fun _ => puI _) (fun x109 => (xa_v (x_prim (xa_v (x_primT (xa_p (x_var (d := (eQ eI (eT (eP eI eI)) (eT eI)) a0) 0 rfl) (fun _ => (puQ puI (puT (puP puI puI)) (puT puI)) _) (fun x110 => (xa_v (x_c (eI 0)) (fun x111 => xa_nil)))) (fun _ => op_ixQ0 puI _)) (fun x112 => (xa_v (x_prim (xa_s 3 rfl (xa_p (x_var (d := eI x108.2.2) 15 rfl) (fun _ => puI _) (fun x113 => xa_nil)) (fun _ => rfl) (fun _ => puL)) (fun _ _ h => op_ixL puI h)) (fun x115 => xa_nil)))) (fun _ _ h => op_mul h)) (fun x117 => xa_nil)))) (fun _ => op_add _ _)) (fun x118 => (xa_p (x_var (d := eI x108.2.2) 15 rfl) (fun _ => puI _) (fun x119 => (xa_p (x_var (d := eI x58.2) 8 rfl) (fun _ => puI _) (fun x120 => xa_nil)))))) rfl (by decide)) (fun x121 => (eQ eI eI eI) ((x108.2.2 + x121.1.2.1.2), x108.2.2, x58.2)) rfl) (puQ puI puI puI) (fun _ => ⟨_, rfl⟩) (fun x122 => (x_var (d := eI x75) 5 rfl)) (fun _ _ => .inl rfl) (fun _ _ => rfl) (fun x122 x123 x124 => (b_augIx rfl (x_var (d := eI x108.2.2) 15 rfl) (fun _ => rfl) (fun x126 x128 => (x_c (eI 1))) (fun _ _ _ => rfl) (fun x126 x128 x129 x130 => (b_endC (z := (x74.1, x130, x80.2.2, x124)) (by repeat (first | exact wk_nil | apply wk_a | apply wk_s)))))))))))) (fun x103 => (b_asc (b_set (x_prim (xa_s 13 rfl (xa_v (x_c (eI 0)) (fun x132 => xa_nil)) (fun _ => rfl) (fun _ => puL)) (fun _ _ h => op_ixL puI h)) (.inl rfl) (fun x134 => (b_asc (b_setK (e1 := (eQ eI eI eI)) kkI (X.as (x_tup (xa_v (x_primT (xa_p (x_var (d := eI x58.2) 8 rfl) (fun _ => puI _) (fun x135 => (xa_v (x_primT (xa_v (x_prim (xa_p (x_var (d := (eT (eQ eI eI eI)) a1) 1 rfl) (fun _ => (puT (puQ puI puI puI)) _) (fun x136 => (xa_p (x_var (d := eI x75) 5 rfl) (fun _ => puI _) (fun x137 => xa_nil)))) (fun _ _ h => op_ixT (puQ puI puI puI) h)) (fun x139 => (xa_v (x_c (eI 2)) (fun x140 => xa_nil)))) (fun _ => op_ixQ2 puI _)) (fun x141 => xa_nil)))) (fun _ => op_add _ _)) (fun x142 => (xa_v (x_prim (xa_v (x_prim (xa_v (x_primT (xa_p (x_var (d := (eQ eI (eT (eP eI eI)) (eT eI)) a0) 0 rfl) (fun _ => (puQ puI (puT (puP puI puI)) (puT puI)) _) (fun x143 => (xa_v (x_c (eI 1)) (fun x144 => xa_nil)))) (fun _ => op_ixQ1 (puT (puP puI puI)) _)) (fun x145 => (xa_p (x_var (d := eI x134.2) 16 rfl) (fun _ => puI _) (fun x146 => xa_nil)))) (fun _ _ h => op_ixT (puP puI puI) h)) (fun x148 => (xa_v (x_prim (xa_s 2 rfl (xa_p (x_var (d := eI x134.2) 16 rfl) (fun _ => puI _) (fun x149 => xa_nil)) (fun _ => rfl) (fun _ => puL)) (fun _ _ h => op_ixL puI h)) (fun x151 => xa_nil)))) (fun _ _ h => op_ixPd puI h)) (fun x153 => (xa_v (x_primT (xa_p (x_var (d := eI x134.2) 16 rfl) (fun _ => puI _) (fun x154 => (xa_v (x_c (eI 1)) (fun x155 => xa_nil)))) (fun _ => op_add _ _)) (fun x156 => xa_nil)))))) rfl (by decide)) (fun x157 => (eQ eI eI eI) ((x58.2 + x157.1.2.1.1.2.2.2), x157.2.1.2, (x134.2 + (1 : Int)))) rfl) (puQ puI puI puI) (fun _ => ⟨_, rfl⟩) (fun x158 => (x_var (d := eI x75) 5 rfl)) (fun _ _ => .inl rfl) (fun _ _ => rfl) (fun x158 x159 x160 => (b_setIx (e1 := eI) (x_primT (xa_v (x_c (eI 1)) (fun x162 => (xa_v (x_prim (xa_s 2 rfl (xa_p (x_var (d := eI x134.2) 16 rfl) (fun _ => puI _) (fun x163 => xa_nil)) (fun _ => rfl) (fun _ => puL)) (fun _ _ h => op_ixL puI h)) (fun x165 => xa_nil)))) (fun _ => op_sub' _ _)) puI (fun _ => ⟨_, rfl⟩) (fun x166 => (x_var (d := eI x134.2) 16 rfl)) (fun _ _ => .inl rfl) (fun _ _ => rfl) (fun x166 x167 x168 => (b_endC (z := (x168, x74.2.1, x160, x74.2.2.2)) (by repeat (first | exact wk_nil | apply wk_a | apply wk_s))))))))))))))))))) (fun x73 x74 => (b_endL (z := (x74.1, x74.2.1, x74.2.2.1, x74.2.2.2)) (by repeat (first | exact wk_nil | apply wk_a | apply wk_s))))))))) (fun x183 => qf_ret rfl (by repeat (first | exact wk_nil | apply wk_a | apply wk_s))) (fun x46 => (b_last (b_ret (x_primT (xa_v (x_mapP (ee := (eQ eI eI eI)) (xi_mkP (xa_v (x_primT (xa_p (x_var (d := (eT (eQ eI eI eI)) a1) 1 rfl) (fun _ => (puT (puQ puI puI puI)) _) (fun x170 => xa_nil)) (fun _ => op_lenT _)) (fun x171 => xa_nil)) rfl puI (fun _ _ h => it_r1 h)) rfl (fun x173 x174 => as_nm) (fun x173 x174 => (x_prim (xa_s 7 rfl (xa_p (x_var (d := eI x174) 5 rfl) (fun _ => puI _) (fun x177 => xa_nil)) (fun _ => rfl) (fun _ => puK)) (fun _ _ h => op_ixK kkI (puQ puI puI puI) h))) (.inl rfl) (fun x173 x174 => ((getM x46.2.2.2 x174)).bind fun t178 => some t178) (fun _ _ => by repeat (first | exact wk_nil | apply wk_a | apply wk_s)) (by intro x y z h; simp only [] at h ⊢; repeat (first | (obtain ⟨hl, h⟩ := lim_inv h; simp only [lim_of hl]) | (obtain ⟨_, h1, h⟩ := Option.bind_eq_some_iff.mp h; simp only [h1, Option.bind_some] at h ⊢) | (cases h; rfl)))) (fun x181 => xa_nil)) (fun _ => op_tupL (puQ puI puI puI) _)) (fun x182 => x182.1.2.1) (.inl rfl) (fun x182 => qf_ret rfl (by repeat (first | exact wk_nil | apply wk_a | apply wk_s))))))))))))) (by dsimp only [p__law_ran])) rfl (by simp [okM]) (fun z => (coll_0P rfl (coll_0P rfl coll_nilP)))
theorem tok_law (n : Nat) (a0 : (List Int)) : ∀ z, p_law n a0 = some z → f_law n [eZ a0] = .ok (eB z) [eZ a0] :=
  fn_t (p0 := [some (eZ a0), none, none, none, none, none, none, none]) (m := p_law n a0) (rv := fun (z : Bool) => eB z) (q := fun (z : Bool) => [some (eZ a0), none, none, none, none, none, none, none]) (outs := fun z => [eZ a0]) (B.cv (b_forR (xi_mkP (xa_v (x_primT (xa_v (x_c (eI 1)) (fun x2 => (xa_v (x_primT (xa_v (x_c (eI 5)) (fun x3 => (xa_v (x_primT (xa_p (x_var (d := eZ a0) 0 rfl) (fun _ => puZ _) (fun x4 => xa_nil)) (fun _ => op_lenZ _)) (fun x5 => xa_nil)))) (fun _ => op_min2 _ _)) (fun x6 => xa_nil)))) (fun _ => op_max2 _ _)) (fun x7 => xa_nil)) rfl puI (fun _ _ h => it_r1 h)) (fun x9 (x10 : Unit) => [some (eZ a0), none, none, none, none, none, none, none]) (fun x9 => ()) (fun (z : Bool) => eB z) (fun x9 x61 => [some (eZ a0), none, none, none, none, none, none, none]) (fun z => z) (fun _ => rfl) (fun x9 => by repeat (first | exact wk_nil | apply wk_a | apply wk_s)) (fun x9 x10 x11 => as_nm) (fun x9 x10 x11 => (b_set (x_callP (xa_p (x_var (d := eZ a0) 0 rfl) (fun _ => puZ _) (fun x14 => (xa_p (x_var (d := eI x11) 1 rfl) (fun _ => puI _) (fun x15 => xa_nil)))) rfl (fun _ _ h => tok__law_left  _ _ _ h)) (.inl rfl) (fun x17 => (b_set (x_call (xa_s 2 rfl (xa_v (x_call (xa_s 2 rfl xa_nil (fun _ => rfl) (fun _ => puL)) rfl (fun _ _ h => tok__law_lanes  _ _ h) (fun _ _ => rfl) (fun _ (zz : Int × (List Int)) => [(2, (eL eI) zz.2)]) (fun _ _ => rfl)) (fun x19 => (xa_v (x_call (xa_s 2 rfl (xa_v (X.as (x_lst (xa_v (x_c (eI 4)) (fun x20 => (xa_v (x_c (eI 12)) (fun x21 => (xa_v (x_c (eI 30)) (fun x22 => xa_nil)))))) rfl (by decide)) (fun x23 => (eL eI) [(4 : Int), (12 : Int), (30 : Int)]) rfl) (fun x24 => xa_nil)) (fun _ => rfl) (fun _ => puL)) rfl (fun _ _ h => tok__law_of__at4  _ _ _ h) (fun _ _ => rfl) (fun _ (zz : Int × (List Int)) => [(2, (eL eI) zz.2)]) (fun _ _ => rfl)) (fun x26 => xa_nil)))) (fun _ => rfl) (fun _ => puL)) rfl (fun _ _ h => tok__law_net n _ _ _ _ h) (fun _ _ => rfl) (fun _ (zz : (Int × (List (Int × Int)) × (List Int)) × (List Int)) => [(2, (eL eI) zz.2)]) (fun _ _ => rfl)) (.inl rfl) (fun x28 => (b_last (b_forR (xi_mk (xa_v (x_c (eI 3)) (fun x29 => xa_nil)) rfl puI (fun _ => it_r1C (by decide))) (fun x30 (x31 : ((List Int))) => [some (eZ a0), some (eI x11), some ((eL eI) x31), some ((eQ eI (eT (eP eI eI)) (eT eI)) x28.2.1), none, none, none, none]) (fun x30 => x28.2.2) (fun (z : Bool) => eB z) (fun x30 x59 => [some (eZ a0), none, none, none, none, none, none, none]) Lf.ret (fun _ => rfl) (fun x30 => by repeat (first | exact wk_nil | apply wk_a | apply wk_s)) (fun x30 x31 x32 => as_nm) (fun x30 x31 x32 => (b_set (x_call (xa_s 2 rfl (xa_p (x_var (d := (eQ eI (eT (eP eI eI)) (eT eI)) x28.2.1) 3 rfl) (fun _ => (puQ puI (puT (puP puI puI)) (puT puI)) _) (fun x35 => (xa_v (x_c (eI 24)) (fun x36 => xa_nil)))) (fun _ => rfl) (fun _ => puL)) rfl (fun _ _ h => tok__law_runs  _ _ _ _ h) (fun _ _ => rfl) (fun _ (zz : (List (Int × Int × Int)) × (List Int)) => [(2, (eL eI) zz.2)]) (fun _ _ => rfl)) (.inl rfl) (fun x38 => (b_set (x_callP (xa_p (x_var (d := (eQ eI (eT (eP eI eI)) (eT eI)) x28.2.1) 3 rfl) (fun _ => (puQ puI (puT (puP puI puI)) (puT puI)) _) (fun x39 => (xa_p (x_var (d := (eT (eQ eI eI eI)) x38.2.1) 5 rfl) (fun _ => (puT (puQ puI puI puI)) _) (fun x40 => xa_nil)))) rfl (fun _ _ h => tok__law_ran n _ _ _ h)) (.inl rfl) (fun x42 => (b_last (b_forR (xi_mk (xa_v (x_c (eI 2)) (fun x43 => xa_nil)) rfl puI (fun _ => it_r1C (by decide))) (fun x44 (x45 : Unit) => [some (eZ a0), some (eI x11), some ((eL eI) x38.2.2), some ((eQ eI (eT (eP eI eI)) (eT eI)) x28.2.1), some (eI x32), some ((eT (eQ eI eI eI)) x38.2.1), some ((eT (eQ eI eI eI)) x42.2), none]) (fun x44 => ()) (fun (z : Bool) => eB z) (fun x44 x58 => [some (eZ a0), none, none, none, none, none, none, none]) Lf.ret (fun _ => rfl) (fun x44 => by repeat (first | exact wk_nil | apply wk_a | apply wk_s)) (fun x44 x45 x46 => as_nm) (fun x44 x45 x46 => (b_last (b_if (xt_not (xt_tstA (x_callP (xa_v (x_callP (xa_p (x_var (d := (eQ eI (eT (eP eI eI)) (eT eI)) x28.2.1) 3 rfl) (fun _ => (puQ puI (puT (puP puI puI)) (puT puI)) _) (fun x49 => (xa_p (x_var (d := (eT (eQ eI eI eI)) x38.2.1) 5 rfl) (fun _ => (puT (puQ puI puI puI)) _) (fun x50 => xa_nil)))) rfl (fun _ _ h => tok_ran n _ _ _ h)) (fun x52 => (xa_p (x_mapO (eQ eI eI eI) (x_var (d := (eT (eQ eI eI eI)) x42.2) 6 rfl)) (fun _ => (puT (puO' (puQ puI puI puI))) _) (fun x54 => xa_nil)))) rfl (fun _ _ h => tok__law_same (e := (eT (eO (eQ eI eI eI)))) h)) (fun _ => tr_B _))) (fun x56 => (b_ret (x_c (eB false)) (fun x57 => (Lf.ret false)) (.inl rfl) (fun x57 => ql_ret rfl (by repeat (first | exact wk_nil | apply wk_a | apply wk_s))))) (fun x56 => (b_skip (b_endL (z := ()) (by repeat (first | exact wk_nil | apply wk_a | apply wk_s)))))))) (fun x44 x58 => ql_ret rfl (by repeat (first | exact wk_nil | apply wk_a | apply wk_s))) (fun x44 x45 => (b_endL (z := x38.2.2) (by repeat (first | exact wk_nil | apply wk_a | apply wk_s))))))))))) (fun x30 x59 => ql_ret rfl (by repeat (first | exact wk_nil | apply wk_a | apply wk_s))) (fun x30 x31 => (b_endL (z := ()) (by repeat (first | exact wk_nil | apply wk_a | apply wk_s))))))))))) (fun x9 x61 => qf_ret rfl (by repeat (first | exact wk_nil | apply wk_a | apply wk_s))) (fun x9 x10 => (b_last (b_ret (x_c (eB true)) (fun x60 => true) (.inl rfl) (fun x60 => qf_ret rfl (by repeat (first | exact wk_nil | apply wk_a | apply wk_s))))))) (by dsimp only [p_law])) rfl (by simp [okM]) (fun z => (coll_0P rfl coll_nilP))
/-! digits picked of a cell's own and of numbers mixed -/
def St2 (s : List Int) : Prop := ∃ a b : Int, s = [a, b] ∧ 0 ≤ a ∧ 0 ≤ b ∧ b < 2147483647
theorem pick_w {s : List Int} {m : Int} (h : St2 s) (hm : 0 < m) (hm2 : m < 10000000) : Sp (p__law_pick s m) (fun r => 0 ≤ r.1 ∧ r.1 < m ∧ St2 r.2) := by
  obtain ⟨a, b, rfl, ha, hb, hb2⟩ := h
  unfold p__law_pick
  simp only [at0, at1, set0, set1, Option.bind_some]
  refine w_ite (fun c0 => ?_) fun c0 => ?_
  · rw [modT_of hm, Option.bind_some, divT_of hm (by omega)]
    exact w_some ⟨Int.emod_nonneg _ (by omega), Int.emod_lt_of_pos _ hm, _, _, rfl, Int.ediv_nonneg ha (by omega), hb, hb2⟩
  · rw [mulT_l (by omega) (by omega), Option.bind_some, modT_of hm]
    exact w_some ⟨Int.emod_nonneg _ (by omega), Int.emod_lt_of_pos _ hm, _, _, rfl, ha, by omega, by omega⟩
theorem tenN_pos (n : Nat) : 0 < tenN n := by
  unfold tenN
  exact Int.natCast_pos.mpr (Nat.pow_pos (by decide))
theorem cell_at_w (ns : List Int) (k : Int) (h : 0 ≤ k) : Sp (p__law_cell_at ns k) (fun _ => True) := by
  unfold p__law_cell_at
  refine w_ite (fun c => ?_) fun c => w_some trivial
  have c := of_decide_eq_true c
  rw [atI_get' h c]
  exact w_some trivial
theorem left_w (ns : List Int) (k : Int) (h0 : 0 ≤ k) (h1 : k < 1000000) : Sp (p__law_left ns k) St2 := by
  unfold p__law_left
  have hp : 0 < max (1 : Int) (ns.length : Int) := by omega
  rw [modT_of hp, Option.bind_some]
  refine w_bind (cell_at_w ns _ (Int.emod_nonneg _ (by omega))) fun cell _ => ?_
  rw [mulT_r (by omega) (by omega), Option.bind_some]
  refine w_let fun seed hs => ?_
  rw [modT_of (tenN_pos 2000), Option.bind_some]
  refine w_some ⟨_, _, rfl, Int.emod_nonneg _ (by have := tenN_pos 2000; omega), ?_, ?_⟩
  · rw [hs]; exact Int.emod_nonneg _ (by decide)
  · rw [hs]; exact Int.emod_lt_of_pos _ (by decide)
/-! nets that are drawn -/
abbrev Net := Int × List (Int × Int) × List Int
def GoodF (L : Int) (p : Int × Int) : Prop := 0 ≤ p.1 ∧ p.1 < L ∧ 0 ≤ p.2 ∧ p.2 < L ∧ p.1 ≠ p.2
structure GoodN (N : Net) : Prop where
  l1 : 1 ≤ N.1
  l16 : N.1 ≤ 16
  many : N.2.1.length ≤ 128
  forks : ∀ p ∈ N.2.1, GoodF N.1 p
  ends : N.2.2.Perm (rngI 0 N.1.toNat)
theorem GoodN.elen {N : Net} (h : GoodN N) : N.2.2.length = N.1.toNat := by rw [h.ends.length_eq, rngI_len]
theorem GoodN.eget {N : Net} (h : GoodN N) {x : Int} (hx : x ∈ N.2.2) : 0 ≤ x ∧ x < N.1 := by
  have := rngI_mem (h.ends.mem_iff.mp hx)
  have := h.l1
  omega
theorem ring_ne {L a b : Int} (hL : 2 ≤ L) (a0 : 0 ≤ a) (a1 : a < L) (b0 : 0 ≤ b) (b1 : b < L - 1) : (a + 1 + b) % L ≠ a := by
  intro z
  rcases Int.lt_or_le (a + 1 + b) L with y | y
  · rw [Int.emod_eq_of_lt (by omega) y] at z; omega
  · rw [show a + 1 + b = (a + 1 + b - L) + L * 1 by omega, Int.add_mul_emod_self_left, Int.emod_eq_of_lt (by omega) (by omega)] at z; omega
theorem next_ne {L k : Int} (hL : 2 ≤ L) : k % L ≠ (k + 1) % L := by
  intro z
  have q1 := Int.emod_nonneg k (show L ≠ 0 by omega)
  have q2 := Int.emod_lt_of_pos k (show 0 < L by omega)
  have := ring_ne (b := 0) hL q1 q2 (by omega) (by omega)
  apply this
  rw [Int.add_zero, Int.emod_add_emod]
  exact z.symm
theorem perm_pop {α : Type} (lf en : List α) (j : Nat) (hj : j < lf.length) : (lf.eraseIdx j ++ (en ++ [lf[j]])).Perm (lf ++ en) := by
  have e : lf.Perm (lf[j] :: lf.eraseIdx j) := by
    rw [List.eraseIdx_eq_take_drop_succ]
    have z : lf = lf.take j ++ lf[j] :: lf.drop (j + 1) := by
      rw [← List.drop_eq_getElem_cons hj, List.take_append_drop]
    conv => lhs; rw [z]
    exact List.perm_middle
  refine .trans ?_ (e.append_right en).symm
  rw [← List.append_assoc]
  exact (List.perm_append_comm (l₁ := lf.eraseIdx j ++ en) (l₂ := [lf[j]]))
/-! what is drawn out of a list, one by one -/
def placedF : (List Int) × (List Int) × (List Int) → Option (Option (Lf ((List Int) × (List Int) × (List Int)) ((List Int) × (List Int)))) := (fun (s7 : ((List Int) × (List Int) × (List Int))) => if (!decide (s7.2.1 = ([] : (List Int)))) = true then (((p__law_pick  s7.1 (s7.2.1.length : Int))).bind fun t13 => ((popT s7.2.1 t13.1)).bind fun t15 => ((appT s7.2.2 t15.1)).bind fun found => some (.go (t13.2, t15.2, found))).bind fun w => some (some w) else some none)
theorem placed_while : ∀ (m n : Nat) (s xs fs : List Int), xs.length = m → m < n → St2 s → fs.length + m ≤ 1000 →
    Sp (lpW placedF n (s, xs, fs)) (Go fun w => St2 w.1 ∧ w.2.2.Perm (xs ++ fs))
  | _, 0, _, _, _, _, h, _, _ => by omega
  | 0, n + 1, s, xs, fs, hr, _, hs, _ => by
    have : xs = [] := List.length_eq_zero_iff.mp hr
    subst this
    exact ⟨_, rfl, _, rfl, hs, .refl _⟩
  | m + 1, n + 1, s, xs, fs, hr, hn, hs, hl => by
    have hne : decide (xs = ([] : List Int)) = false := by cases xs with
      | nil => simp at hr
      | cons _ _ => simp
    obtain ⟨u, e, u0, u1, hu⟩ := pick_w hs (m := (xs.length : Int)) (by omega) (by omega)
    have hk : u.1.toNat < xs.length := by omega
    have ep := popT_of (xs := xs) (by omega) u0 (by omega)
    have hp := perm_pop xs fs u.1.toNat hk
    have hlen : (xs.eraseIdx u.1.toNat).length = m := by rw [List.length_eraseIdx_of_lt hk]; omega
    generalize xs.eraseIdx u.1.toNat = xs2 at hp hlen ep
    generalize xs[u.1.toNat] = f at hp ep
    have st : placedF (s, xs, fs) = some (some (.go (u.2, xs2, fs ++ [f]))) := by
      unfold placedF
      simp only [hne, Bool.not_false, if_true]
      rw [e, Option.bind_some, ep, Option.bind_some]
      simp only []
      rw [appT_of (by omega)]; rfl
    rw [lpW, st, Option.bind_some]
    obtain ⟨x, x1, y, x2, y1, y2⟩ := placed_while m n u.2 xs2 (fs ++ [f]) hlen (by omega) hu (by simp; omega)
    exact ⟨x, x1, y, x2, y1, y2.trans hp⟩
theorem placed_w {n : Nat} {s xs : List Int} (hn : xs.length < n) (hx : xs.length ≤ 900) (h : St2 s) : Sp (p__law_placed n s xs) (fun r => r.1.Perm xs ∧ St2 r.2) := by
  unfold p__law_placed
  refine w_let fun f0 hf0 => ?_
  subst hf0
  refine w_on (placed_while _ n s xs [] rfl hn h (by simp; omega)) fun w ⟨w1, w2⟩ => w_some ⟨by simpa using w2, w1⟩
/-! a net drawn, its ends placed -/
theorem netP_w {n : Nat} (hn : 17 ≤ n) {s : List Int} (h : St2 s) {L most : Int} (hL : 1 ≤ L) (hL2 : L ≤ 16) (hm0 : 0 ≤ most) (hm1 : most ≤ 128) : Sp (p__law_net n s L most) (fun r => GoodN r.1 ∧ r.1.1 = L ∧ St2 r.2) := by
  unfold p__law_net
  refine w_let fun f0 hf0 => ?_
  subst hf0
  refine w_bind (pick_w h (by omega) (by omega)) fun r1 ⟨a0, a1, s1⟩ => ?_
  obtain ⟨many, hmany⟩ : ∃ x, x = r1.1 * (if decide (1 < L) = true then 1 else 0) := ⟨_, rfl⟩
  rw [← hmany]
  have hmany : 0 ≤ many ∧ many ≤ most ∧ (0 < many → 2 ≤ L) := by
    rw [hmany]
    by_cases c : (1 : Int) < L
    · rw [decide_eq_true c, if_pos rfl]; omega
    · rw [decide_eq_false c, if_neg (by simp)]; omega
  rw [rngO_of (by omega), Option.bind_some]
  refine w_bind (w_lpN (fun i s => s.2.length = i ∧ (∀ p ∈ s.2, GoodF L p) ∧ St2 s.1) ⟨rfl, by simp, s1⟩ fun i s y hy hi => ?_) fun sF hF => ?_
  · obtain ⟨y1, y2⟩ := rngI_get hy
    obtain ⟨h1, h2, h3⟩ := hi
    have hL2 : 2 ≤ L := by omega
    refine w_bind (pick_w h3 (by omega) (by omega)) fun u1 ⟨c0, c1, t1⟩ => ?_
    refine w_bind (pick_w t1 (by omega) (by omega)) fun u2 ⟨d0, d1, t2⟩ => ?_
    rw [modT_of (by omega), Option.bind_some]
    have m0 := Int.emod_nonneg (u1.1 + 1 + u2.1) (show L ≠ 0 by omega)
    have m1 := Int.emod_lt_of_pos (u1.1 + 1 + u2.1) (show 0 < L by omega)
    have g0 : GoodF L (u1.1, (u1.1 + 1 + u2.1) % L) := ⟨c0, c1, m0, m1, fun z => ring_ne hL2 c0 c1 d0 (by omega) z.symm⟩
    refine w_bind (P := fun x => (x.1 = true → s.2 ≠ []) ∧ St2 x.2) ?_ fun x hx => ?_
    · refine w_ite (fun c => ?_) fun c => w_some ⟨fun z => by simp at z, t2⟩
      refine w_bind (pick_w t2 (by decide) (by decide)) fun u3 ⟨e0, e1, t3⟩ => w_some ⟨fun _ => by simpa using c, t3⟩
    refine w_bind (P := fun x => St2 x.1 ∧ GoodF L (x.2.1, x.2.2)) ?_ fun x2 hx2 => ?_
    · refine w_ite (fun c => ?_) fun c => w_some ⟨hx.2, g0⟩
      have hne := hx.1 c
      rw [atI_lastne hne, Option.bind_some]
      have hg := h2 _ (List.getLast_mem hne)
      unfold p__law_of__at0
      refine w_bind (P := fun r => (r.1 = 1 ∨ r.1 = -1) ∧ St2 r.2) ?_ fun r hr => ?_
      · refine w_bind (pick_w hx.2 (by decide) (by decide)) fun u4 ⟨i0, i1, t4⟩ => ?_
        refine w_bind (w_atI i0 i1) fun q hq => w_some ⟨?_, t4⟩
        simpa using hq
      · rcases hr.1 with z | z
        · rw [z]
          exact w_some ⟨hr.2, hg⟩
        · rw [z]
          exact w_some ⟨hr.2, ⟨hg.2.2.1, hg.2.2.2.1, hg.1, hg.2.1, fun z => hg.2.2.2.2 z.symm⟩⟩
    rw [appT_of (by omega), Option.bind_some]
    refine w_some ⟨by simp [h1], fun p hp => ?_, hx2.1⟩
    rcases List.mem_append.mp hp with z | z
    · exact h2 p z
    · rw [List.mem_singleton.mp z]; exact hx2.2
  obtain ⟨f1, f2, f3⟩ := hF
  rw [rngI_len] at f1
  rw [rngO_of (by omega), Option.bind_some]
  refine w_bind (pick_w f3 (by decide) (by decide)) fun u ⟨u0, u1, us⟩ => ?_
  refine w_bind (P := fun x => St2 x.1 ∧ List.Perm x.2 (rngI 0 L.toNat)) ?_ fun x hx => ?_
  · refine w_ite (fun c => ?_) fun c => w_some ⟨us, .refl _⟩
    refine w_bind (placed_w (by rw [rngI_len]; omega) (by rw [rngI_len]; omega) us) fun r hr => w_some ⟨hr.2, hr.1⟩
  · exact w_some ⟨⟨hL, hL2, (show sF.2.length ≤ 128 by omega), f2, hx.2⟩, rfl, hx.1⟩
/-! what comes of counts -/
def manyL (c : List Int) (p : Int × Int) : Int := c.getD p.1.toNat 0 + c.getD p.2.toNat 0
def hafL (c : List Int) (p : Int × Int) : List Int := (c.set p.1.toNat ((manyL c p + 1) / 2)).set p.2.toNat (manyL c p / 2)
def lanesL : List Int → List (Int × Int) → List Int
  | c, [] => c
  | c, p :: fs => lanesL (hafL c p) fs
def totalsL : List Int → List (Int × Int) → List Int
  | _, [] => []
  | c, p :: fs => manyL c p :: totalsL (hafL c p) fs
theorem haf_len (c : List Int) (p : Int × Int) : (hafL c p).length = c.length := by unfold hafL; simp
theorem lanesL_len : ∀ (fs : List (Int × Int)) (c : List Int), (lanesL c fs).length = c.length
  | [], _ => rfl
  | p :: fs, c => by rw [lanesL, lanesL_len fs, haf_len]
theorem totalsL_len : ∀ (fs : List (Int × Int)) (c : List Int), (totalsL c fs).length = fs.length
  | [], _ => rfl
  | p :: fs, c => by rw [totalsL, List.length_cons, List.length_cons, totalsL_len fs]
theorem GoodN.lens {N : Net} (h : GoodN N) {c : List Int} (hc : (c.length : Int) = N.1) : ∀ p ∈ N.2.1, GoodF c.length p := fun p hp => by rw [hc]; exact h.forks p hp
def endsL (N : Net) (c : List Int) : List Int := N.2.2.map fun e => (lanesL c N.2.1).getD e.toNat 0
def turnsL (N : Net) (c : List Int) : List Int := (totalsL c N.2.1).map fun m => m % 2
theorem endsL_len {N : Net} {c : List Int} : (endsL N c).length = N.2.2.length := by unfold endsL; simp
theorem turnsL_len {N : Net} {c : List Int} : (turnsL N c).length = N.2.1.length := by unfold turnsL; rw [List.length_map, totalsL_len]
theorem sum_set : ∀ (xs : List Int) (i : Nat) (v : Int), i < xs.length → (xs.set i v).sum = xs.sum - xs.getD i 0 + v
  | [], i, v, h => by simp at h
  | x :: xs, 0, v, _ => by simp; omega
  | x :: xs, i + 1, v, h => by
    have := sum_set xs i v (by simpa using h)
    rw [List.set_cons_succ, List.sum_cons, List.sum_cons, this, List.getD_cons_succ]; omega
theorem haf_sum {c : List Int} {p : Int × Int} (h : GoodF c.length p) : (hafL c p).sum = c.sum := by
  obtain ⟨g1, g2, g3, g4, g5⟩ := h
  unfold hafL
  rw [sum_set _ _ _ (by rw [List.length_set]; omega), sum_set _ _ _ (by omega)]
  have : (c.set p.1.toNat ((manyL c p + 1) / 2)).getD p.2.toNat 0 = c.getD p.2.toNat 0 := by
    rw [List.getD_eq_getElem?_getD, List.getElem?_set, if_neg (by omega), List.getD_eq_getElem?_getD]
  rw [this]
  have e : manyL c p = c.getD p.1.toNat 0 + c.getD p.2.toNat 0 := rfl
  omega
theorem lanesL_sum : ∀ (fs : List (Int × Int)) (c : List Int), (∀ p ∈ fs, GoodF c.length p) → (lanesL c fs).sum = c.sum
  | [], _, _ => rfl
  | p :: fs, c, h => by
    rw [lanesL, lanesL_sum fs _ fun q hq => by rw [haf_len]; exact h q (List.mem_cons_of_mem _ hq), haf_sum (h p (List.mem_cons_self ..))]
theorem map_range_get (xs : List Int) : (rngI 0 xs.length).map (fun e => xs.getD e.toNat 0) = xs := by
  unfold rngI
  rw [List.map_map]
  refine List.ext_getElem (by simp) fun i h1 h2 => ?_
  rw [List.getElem_map, List.getElem_range]
  simp only [Function.comp]
  rw [show ((0 : Int) + (i : Nat)).toNat = i by omega, List.getD_eq_getElem?_getD, List.getElem?_eq_getElem h2]; rfl
theorem perm_sum : ∀ {a b : List Int}, a.Perm b → a.sum = b.sum := fun h => by
  induction h with
  | nil => rfl
  | cons x _ ih => rw [List.sum_cons, List.sum_cons, ih]
  | swap x y l => simp only [List.sum_cons]; omega
  | trans _ _ a b => exact a.trans b
theorem ends_sum {N : Net} {c : List Int} (h : GoodN N) (hc : (c.length : Int) = N.1) : (endsL N c).sum = c.sum := by
  have h1 := perm_sum (h.ends.map fun e => (lanesL c N.2.1).getD e.toNat 0)
  have h2 : N.1.toNat = (lanesL c N.2.1).length := by rw [lanesL_len]; omega
  unfold endsL
  rw [h1, h2, map_range_get, lanesL_sum _ _ (h.lens hc)]
/-! balls one by one -/
def addL (c : List Int) (a : Nat) (d : Int) : List Int := c.set a (c.getD a 0 + d)
theorem addL_len (c : List Int) (a : Nat) (d : Int) : (addL c a d).length = c.length := by unfold addL; simp
theorem get_set' (c : List Int) (i j : Nat) (v : Int) (h : i < c.length) : (c.set i v).getD j 0 = if i = j then v else c.getD j 0 := by
  rw [List.getD_eq_getElem?_getD, List.getElem?_set, List.getD_eq_getElem?_getD]
  by_cases e : i = j
  · rw [if_pos e, if_pos h, if_pos e]; rfl
  · rw [if_neg e, if_neg e]
theorem ext_D {a b : List Int} (hl : a.length = b.length) (h : ∀ i, i < a.length → a.getD i 0 = b.getD i 0) : a = b := by
  refine List.ext_getElem hl fun i h1 h2 => ?_
  have := h i h1
  rw [List.getD_eq_getElem?_getD, List.getElem?_eq_getElem h1, List.getD_eq_getElem?_getD, List.getElem?_eq_getElem h2] at this
  exact this
theorem add_get {c : List Int} {a : Nat} (d : Int) (h : a < c.length) (i : Nat) : (addL c a d).getD i 0 = if a = i then c.getD a 0 + d else c.getD i 0 := get_set' _ _ _ _ h
theorem haf_get {c : List Int} {p : Int × Int} (h : GoodF c.length p) (i : Nat) : (hafL c p).getD i 0 = if p.2.toNat = i then manyL c p / 2 else if p.1.toNat = i then (manyL c p + 1) / 2 else c.getD i 0 := by
  obtain ⟨g1, g2, g3, g4, g5⟩ := h
  unfold hafL
  rw [get_set' _ _ _ _ (by rw [List.length_set]; omega), get_set' _ _ _ _ (by omega)]
def onF' (a : Int) (p : Int × Int) : Bool := decide (p.1 = a) || decide (p.2 = a)
def nxtL (d t : Int) (p : Int × Int) : Int := if (d = 1) = (t = 0) then p.1 else p.2
theorem nx_p0 (p : Int × Int) : nxtL 1 0 p = p.1 := by simp [nxtL]
theorem nx_p1 (p : Int × Int) : nxtL 1 1 p = p.2 := by simp [nxtL]
theorem nx_m0 (p : Int × Int) : nxtL (-1) 0 p = p.2 := by simp [nxtL]
theorem nx_m1 (p : Int × Int) : nxtL (-1) 1 p = p.1 := by simp [nxtL]
theorem haf_off {c : List Int} {p : Int × Int} (h : GoodF c.length p) {a : Nat} (ha : a < c.length) (d : Int) (ho : onF' a p = false) : hafL (addL c a d) p = addL (hafL c p) a d ∧ manyL (addL c a d) p = manyL c p := by
  obtain ⟨g1, g2, g3, g4, g5⟩ := id h
  unfold onF' at ho
  rw [Bool.or_eq_false_iff] at ho
  have o1 := of_decide_eq_false ho.1
  have o2 := of_decide_eq_false ho.2
  have e : manyL (addL c a d) p = manyL c p := by
    unfold manyL
    rw [add_get d ha, add_get d ha, if_neg (by omega), if_neg (by omega)]
  refine ⟨ext_D (by rw [haf_len, addL_len, addL_len, haf_len]) fun i _ => ?_, e⟩
  rw [haf_get (by rw [addL_len]; exact h), e, add_get (c := c) d ha, add_get (c := hafL c p) d (show a < (hafL c p).length by rw [haf_len]; exact ha) i, haf_get h, haf_get h]
  rw [if_neg (by omega : ¬ p.2.toNat = a), if_neg (by omega : ¬ p.1.toNat = a)]
  by_cases c1 : a = i
  · subst c1
    rw [if_neg (by omega), if_neg (by omega), if_pos rfl, if_pos rfl]
  · rw [if_neg c1, if_neg c1]
theorem haf_on {c : List Int} {p : Int × Int} (h : GoodF c.length p) {a : Nat} (ha : a < c.length) {d : Int} (hd : d = 1 ∨ d = -1) (ho : onF' a p = true) :
    hafL (addL c a d) p = addL (hafL c p) (nxtL d (manyL c p % 2) p).toNat d ∧ manyL (addL c a d) p = manyL c p + d := by
  obtain ⟨g1, g2, g3, g4, g5⟩ := id h
  unfold onF' at ho
  rw [Bool.or_eq_true] at ho
  have e : manyL (addL c a d) p = manyL c p + d := by
    unfold manyL
    rw [add_get d ha, add_get d ha]
    rcases ho with ho | ho
    · have ho := of_decide_eq_true ho
      rw [if_pos (by omega), if_neg (by omega), show a = p.1.toNat by omega]; omega
    · have ho := of_decide_eq_true ho
      rw [if_neg (by omega), if_pos (by omega), show a = p.2.toNat by omega]; omega
  have hn : (nxtL d (manyL c p % 2) p).toNat < c.length := by unfold nxtL; split <;> omega
  refine ⟨ext_D (by rw [haf_len, addL_len, addL_len, haf_len]) fun i _ => ?_, e⟩
  rw [haf_get (by rw [addL_len]; exact h), e, add_get (c := c) d ha, add_get (c := hafL c p) d (show (nxtL d (manyL c p % 2) p).toNat < (hafL c p).length by rw [haf_len]; exact hn) i, haf_get h, haf_get h]
  have hm : manyL c p % 2 = 0 ∨ manyL c p % 2 = 1 := by omega
  have ho' : p.1 = a ∨ p.2 = a := ho.imp of_decide_eq_true of_decide_eq_true
  rcases hd with rfl | rfl <;> rcases hm with hm | hm
  · rw [hm, nx_p0]; (repeat' split) <;> omega
  · rw [hm, nx_p1]; (repeat' split) <;> omega
  · rw [hm, nx_m0]; (repeat' split) <;> omega
  · rw [hm, nx_m1]; (repeat' split) <;> omega
/-- a ball's way: its last lane, the turns behind it -/
def walkL (d : Int) : List (Int × Int) → List Int → Int → Int × List Int
  | p :: fs, t :: ts, a => if onF' a p = true then ((walkL d fs ts (nxtL d t p)).1, (1 - t) :: (walkL d fs ts (nxtL d t p)).2) else ((walkL d fs ts a).1, t :: (walkL d fs ts a).2)
  | _, ts, a => (a, ts)
def modsL (c : List Int) (fs : List (Int × Int)) : List Int := (totalsL c fs).map fun m => m % 2
theorem walk_ok {d : Int} (hd : d = 1 ∨ d = -1) : ∀ (fs : List (Int × Int)) (c : List Int) (a : Int), (∀ p ∈ fs, GoodF c.length p) → 0 ≤ a → a < c.length →
    0 ≤ (walkL d fs (modsL c fs) a).1 ∧ (walkL d fs (modsL c fs) a).1 < c.length ∧ lanesL (addL c a.toNat d) fs = addL (lanesL c fs) (walkL d fs (modsL c fs) a).1.toNat d ∧ modsL (addL c a.toNat d) fs = (walkL d fs (modsL c fs) a).2
  | [], c, a, _, h0, h1 => ⟨h0, h1, rfl, rfl⟩
  | p :: fs, c, a, hg, h0, h1 => by
    have g := hg p (List.mem_cons_self ..)
    have hg' : ∀ q ∈ fs, GoodF (hafL c p).length q := fun q hq => by rw [haf_len]; exact hg q (List.mem_cons_of_mem _ hq)
    have em : modsL c (p :: fs) = manyL c p % 2 :: modsL (hafL c p) fs := rfl
    rw [em, walkL]
    by_cases ho : onF' a p = true
    · rw [if_pos ho]
      have ho' : onF' (a.toNat : Nat) p = true := by rw [show ((a.toNat : Nat) : Int) = a by omega]; exact ho
      obtain ⟨e1, e2⟩ := haf_on g (by omega) hd ho'
      have n0 : 0 ≤ nxtL d (manyL c p % 2) p := by unfold nxtL; have := g.1; have := g.2.2.1; split <;> omega
      have n1 : nxtL d (manyL c p % 2) p < c.length := by unfold nxtL; have := g.2.1; have := g.2.2.2.1; split <;> omega
      obtain ⟨i1, i2, i3, i4⟩ := walk_ok hd fs (hafL c p) (nxtL d (manyL c p % 2) p) hg' n0 (by rw [haf_len]; exact n1)
      rw [haf_len] at i2
      refine ⟨i1, i2, ?_, ?_⟩
      · rw [lanesL, e1, i3]; rfl
      · show manyL (addL c a.toNat d) p % 2 :: modsL (hafL (addL c a.toNat d) p) fs = _
        rw [e1, e2, i4]
        congr 1
        rcases hd with rfl | rfl <;> omega
    · have ho : onF' a p = false := by simpa using ho
      rw [if_neg (by simp [ho])]
      have ho' : onF' (a.toNat : Nat) p = false := by rw [show ((a.toNat : Nat) : Int) = a by omega]; exact ho
      obtain ⟨e1, e2⟩ := haf_off g (by omega) d ho'
      obtain ⟨i1, i2, i3, i4⟩ := walk_ok hd fs (hafL c p) a hg' h0 (by rw [haf_len]; exact h1)
      rw [haf_len] at i2
      refine ⟨i1, i2, ?_, ?_⟩
      · rw [lanesL, e1, i3]; rfl
      · show manyL (addL c a.toNat d) p % 2 :: modsL (hafL (addL c a.toNat d) p) fs = _
        rw [e1, e2, i4]
/-! a ball's end -/
theorem idx_ex (b : Int) : ∀ {xs : List Int}, b ∈ xs → ∃ e : Nat, xs.findIdx? (fun z => decide (z = b)) = some e ∧ xs[e]? = some b
  | [], h => by cases h
  | x :: xs, h => by
    rw [List.findIdx?_cons]
    by_cases c : x = b
    · exact ⟨0, by simp [c], by simp [c]⟩
    · obtain ⟨e, e1, e2⟩ := idx_ex b (xs := xs) (by
        rcases List.mem_cons.mp h with z | z
        · exact absurd z.symm c
        · exact z)
      exact ⟨e + 1, by simp [c, e1], by simpa using e2⟩
theorem GoodN.nodup {N : Net} (h : GoodN N) : N.2.2.Nodup := h.ends.nodup_iff.mpr (by
  unfold rngI
  exact List.Pairwise.map _ (fun a b (z : a ≠ b) => by omega) List.nodup_range)
theorem end_of {N : Net} (h : GoodN N) {b : Int} (b0 : 0 ≤ b) (b1 : b < N.1) : ∃ e : Nat, idxT N.2.2 b = some (e : Int) ∧ e < N.2.2.length ∧ N.2.2[e]? = some b := by
  have hm : b ∈ N.2.2 := h.ends.mem_iff.mpr (by
    unfold rngI
    exact List.mem_map.mpr ⟨b.toNat, List.mem_range.mpr (by omega), by omega⟩)
  obtain ⟨e, e1, e2⟩ := idx_ex b hm
  refine ⟨e, ?_, (List.getElem?_eq_some_iff.mp e2).1, e2⟩
  unfold idxT
  rw [e1]; rfl
theorem ends_add {N : Net} (h : GoodN N) {c : List Int} (hc : (c.length : Int) = N.1) {a : Int} (a0 : 0 ≤ a) (a1 : a < N.1) {d : Int} (hd : d = 1 ∨ d = -1) :
    ∃ e : Nat, idxT N.2.2 (walkL d N.2.1 (turnsL N c) a).1 = some (e : Int) ∧ e < N.2.2.length ∧ turnsL N (addL c a.toNat d) = (walkL d N.2.1 (turnsL N c) a).2 ∧ endsL N (addL c a.toNat d) = addL (endsL N c) e d := by
  obtain ⟨w0, w1, w2, w3⟩ := walk_ok hd N.2.1 c a (h.lens hc) a0 (by omega)
  have w0 : 0 ≤ (walkL d N.2.1 (turnsL N c) a).1 := w0
  have w1 : (walkL d N.2.1 (turnsL N c) a).1 < c.length := w1
  obtain ⟨e, e1, e2, e3⟩ := end_of h w0 (by omega)
  refine ⟨e, e1, e2, w3, ?_⟩
  have w2 : lanesL (addL c a.toNat d) N.2.1 = addL (lanesL c N.2.1) (walkL d N.2.1 (turnsL N c) a).1.toNat d := w2
  refine ext_D (by rw [endsL_len, addL_len, endsL_len]) fun i hi => ?_
  rw [endsL_len] at hi
  have ge : ∀ c : List Int, (endsL N c).getD i 0 = (lanesL c N.2.1).getD (N.2.2[i]).toNat 0 := fun c => by
    unfold endsL
    rw [List.getD_eq_getElem?_getD, List.getElem?_map, List.getElem?_eq_getElem hi]; rfl
  have gb : N.2.2[i] ∈ N.2.2 := List.getElem_mem hi
  have gr := h.eget gb
  rw [ge, w2, add_get d (by rw [lanesL_len]; omega), add_get d (by rw [endsL_len]; exact e2), ge c]
  by_cases c1 : e = i
  · subst c1
    have : N.2.2[e] = (walkL d N.2.1 (turnsL N c) a).1 := by
      rw [List.getElem?_eq_getElem e2] at e3
      exact Option.some.inj e3
    rw [if_pos (by rw [this]), if_pos rfl, ge c, this]
  · have : ¬ (walkL d N.2.1 (turnsL N c) a).1.toNat = (N.2.2[i]).toNat := fun z => c1 (by
      rw [List.getElem?_eq_getElem e2] at e3
      have e3 := Option.some.inj e3
      exact (List.getElem_inj h.nodup).mp (by omega))
    rw [if_neg this, if_neg c1]
/-! the program's walks -/
theorem mods_01 (c : List Int) (fs : List (Int × Int)) : ∀ t ∈ modsL c fs, t = 0 ∨ t = 1 := fun t ht => by
  obtain ⟨m, _, rfl⟩ := List.mem_map.mp ht
  omega
theorem at_mid (l : List Int) (t : Int) (r : List Int) : atI (l ++ t :: r) (l.length : Int) = some t := atI_nat (by rw [List.getElem?_append_right (Nat.le_refl _), Nat.sub_self]; rfl)
theorem set_mid (l : List Int) (t v : Int) (r : List Int) : setT (l ++ t :: r) (l.length : Int) v = some (l ++ v :: r) := by
  rw [setT_nn (by omega) (by simp; omega), Int.toNat_natCast]
  congr 1
  rw [List.set_append_right _ _ (Nat.le_refl _), Nat.sub_self]; rfl
theorem atP0 (p : Int × Int) : atP p 0 = some p.1 := at0 _ _
theorem atP1 (p : Int × Int) : atP p 1 = some p.2 := at1 _ _ _
/-! dicts by their keys -/
section
variable {κ τ : Type} [DecidableEq κ]
def ksM (l : List (κ × τ)) : List κ := l.map Prod.fst
theorem getM_some {l : List (κ × τ)} {k : κ} : (getM l k).isSome = true ↔ k ∈ ksM l := by
  unfold getM ksM
  rw [Option.isSome_map, List.find?_isSome]
  constructor
  · rintro ⟨p, hp, h⟩
    exact List.mem_map.mpr ⟨p, hp, by simpa using h⟩
  · intro h
    obtain ⟨p, hp, rfl⟩ := List.mem_map.mp h
    exact ⟨p, hp, by simp⟩
theorem getM_mem {l : List (κ × τ)} {k : κ} {v : τ} (h : getM l k = some v) : (k, v) ∈ l := by
  unfold getM at h
  obtain ⟨p, hp, rfl⟩ := Option.map_eq_some_iff.mp h
  have h1 := List.mem_of_find?_eq_some hp
  have h2 : p.1 = k := by simpa using List.find?_some hp
  rw [← h2]
  exact h1
theorem any_ks {l : List (κ × τ)} {k : κ} : (l.any fun p => decide (p.1 = k)) = true ↔ k ∈ ksM l := by
  unfold ksM
  rw [List.any_eq_true]
  constructor
  · rintro ⟨p, hp, h⟩
    exact List.mem_map.mpr ⟨p, hp, by simpa using h⟩
  · intro h
    obtain ⟨p, hp, rfl⟩ := List.mem_map.mp h
    exact ⟨p, hp, by simp⟩
theorem ks_put (l : List (κ × τ)) (k : κ) (v : τ) : ksM (putM l k v) = if k ∈ ksM l then ksM l else ksM l ++ [k] := by
  unfold putM
  by_cases h : k ∈ ksM l
  · rw [if_pos (any_ks.mpr h), if_pos h]
    unfold ksM
    rw [List.map_map]
    refine List.map_congr_left fun p _ => ?_
    show (if p.1 = k then (p.1, v) else p).1 = p.1
    split <;> rfl
  · rw [if_neg (fun z => h (any_ks.mp z)), if_neg h]
    unfold ksM
    rw [List.map_append]
    rfl
theorem mem_put {l : List (κ × τ)} {k : κ} {v : τ} {p : κ × τ} (h : p ∈ putM l k v) : p ∈ l ∨ p = (k, v) := by
  unfold putM at h
  split at h
  · obtain ⟨q, hq, e⟩ := List.mem_map.mp h
    by_cases hk : q.1 = k
    · rw [if_pos hk] at e
      right
      rw [← e, hk]
    · rw [if_neg hk] at e
      left
      rw [← e]
      exact hq
  · rcases List.mem_append.mp h with h | h
    · exact .inl h
    · exact .inr (List.mem_singleton.mp h)
theorem len_ks (l : List (κ × τ)) : (ksM l).length = l.length := List.length_map ..
theorem len_put (l : List (κ × τ)) (k : κ) (v : τ) : (putM l k v).length ≤ l.length + 1 := by
  rw [← len_ks, ks_put, ← len_ks l]
  split
  · omega
  · rw [List.length_append, List.length_singleton]
    exact Nat.le_refl _
theorem mem_ks_put {l : List (κ × τ)} {k x : κ} {v : τ} : x ∈ ksM (putM l k v) ↔ x ∈ ksM l ∨ x = k := by
  rw [ks_put]
  split
  · rename_i h
    exact ⟨.inl, fun z => z.elim id fun e => e ▸ h⟩
  · rw [List.mem_append, List.mem_singleton]
theorem nd_put {l : List (κ × τ)} {k : κ} {v : τ} (h : (ksM l).Nodup) : (ksM (putM l k v)).Nodup := by
  rw [ks_put]
  split
  · exact h
  · rename_i hk
    rw [List.nodup_append]
    exact ⟨h, (by simp), fun a ha b hb e => by
      rw [List.mem_singleton] at hb
      rw [e, hb] at ha
      exact hk ha⟩
theorem put_new {l : List (κ × τ)} {k : κ} {v : τ} (h : k ∉ ksM l) : putM l k v = l ++ [(k, v)] := by
  unfold putM
  rw [if_neg fun z => h (any_ks.mp z)]
/-- one dict put behind another that shares no key -/
theorem merge_new : ∀ (more l : List (κ × τ)), (ksM more).Nodup → (∀ k ∈ ksM more, k ∉ ksM l) → mergeM l more = l ++ more
  | [], l, _, _ => by simp [mergeM]
  | (k, v) :: more, l, h, d => by
    have e : mergeM l ((k, v) :: more) = mergeM (putM l k v) more := rfl
    have hn : k ∉ ksM l := d k (by simp [ksM])
    have h1 : (ksM more).Nodup ∧ k ∉ ksM more := by
      have : (k :: ksM more).Nodup := h
      rw [List.nodup_cons] at this
      exact ⟨this.2, this.1⟩
    rw [e, put_new hn, merge_new more (l ++ [(k, v)]) h1.1 fun x hx hm => ?_, List.append_assoc]
    · rfl
    · have : x ∈ ksM l ∨ x = k := by
        unfold ksM at hm ⊢
        rw [List.map_append, List.mem_append] at hm
        exact hm.imp id fun z => by simpa using z
      rcases this with w | w
      · exact d x (by show x ∈ k :: ksM more; exact List.mem_cons_of_mem _ hx) w
      · rw [w] at hx
        exact h1.2 hx
end
/-! least of rows of numbers, orders of them: fine for any rows -/
theorem alikeAll_ints : ∀ xs ys : List Int, PySem.W.alikeAll (xs.map PyData.int) (ys.map PyData.int) = true
  | [], [] => rfl
  | [], _ :: _ => rfl
  | _ :: _, [] => rfl
  | x :: xs, y :: ys => by
    rw [List.map_cons, List.map_cons, PySem.W.alikeAll, alikeAll_ints xs ys]
    rfl
theorem ok_minT (xs : List (List Int)) : okMin (xs.map (eT eI)) = true := by
  have all : ∀ ys : List (List Int), purs (ys.map (eT eI)) = true ∧ noDs (ys.map (eT eI)) = true ∧ PyData.canLayAll0 (ys.map (eT eI)) = true ∧ PyData.depthAll (ys.map (eT eI)) ≤ 1 := fun ys => by
    induction ys with
    | nil => exact ⟨rfl, rfl, rfl, Nat.zero_le _⟩
    | cons y ys ih =>
      obtain ⟨i1, i2, i3, i4⟩ := ih
      refine ⟨by rw [List.map_cons, purs_cons, puT puI y, i1]; rfl, by rw [List.map_cons, noDs, (eqT eqI).nod y, i2]; rfl, by rw [List.map_cons, PyData.canLayAll0, (eqT eqI).lay y, i3]; rfl, ?_⟩
      rw [List.map_cons, PyData.depthAll]
      exact Nat.max_le.mpr ⟨(eqT eqI).dep y, i4⟩
  obtain ⟨a1, a2, a3, a4⟩ := all xs
  unfold okMin
  rw [a1, a2, a3, decide_eq_true (by omega : PyData.depthAll (xs.map (eT eI)) ≤ 40)]
  simp only [Bool.true_and, List.all_eq_true, Bool.and_eq_true]
  intro x hx
  obtain ⟨x', hx', rfl⟩ := List.mem_map.mp hx
  refine ⟨fun y hy => ?_, rfl⟩
  obtain ⟨y', hy', rfl⟩ := List.mem_map.mp hy
  show PySem.W.alikeAll (x'.map PyData.int) (y'.map PyData.int) = true
  exact alikeAll_ints _ _
theorem w_ltO (x y : List Int) : Sp (ltO (eT eI) x y) fun _ => True := by
  unfold ltO
  have := ok_minT [x, y]
  rw [List.map_cons, List.map_cons, List.map_nil] at this
  rw [if_pos this]
  exact w_some trivial
theorem w_minVO {xs : List (List Int)} (h : xs ≠ []) : Sp (minVO xs) fun z => z ∈ xs := by
  cases xs with
  | nil => exact absurd rfl h
  | cons x r =>
    unfold minVO
    simp only
    rw [if_pos (ok_minT (x :: r))]
    refine w_some ?_
    unfold minV
    have key : ∀ (r : List (List Int)) (a : List Int), r.foldl (fun a y => if ltV y a = true then y else a) a ∈ a :: r := fun r => by
      induction r with
      | nil => intro a; exact List.mem_cons_self ..
      | cons y r ih =>
        intro a
        rw [List.foldl_cons]
        have := ih (if ltV y a = true then y else a)
        rcases List.mem_cons.mp this with w | w
        · rw [w]
          split
          · exact List.mem_cons_of_mem _ (List.mem_cons_self ..)
          · exact List.mem_cons_self ..
        · exact List.mem_cons_of_mem _ (List.mem_cons_of_mem _ w)
    exact key r x
/-! ### one level of states further, of any kind of state -/
section
variable {κ : Type} [DecidableEq κ]
abbrev LvG (κ : Type) := List (κ × Bool) × List (κ × List Int) × List (List κ)
def st1G (w1 : List Int → Int → Option (List Int)) (all : List (κ × Bool)) (c : List Int) (found : List (κ × List Int)) (y : Int × κ) : Option (List (κ × List Int)) :=
  ((w1 c y.1)).bind fun more => ((if (!(getM all y.2).isSome) = true then ((if (!(getM found y.2).isSome) = true then some true else ((getM found y.2)).bind fun t27 => ((ltO (eT eI) more t27)).bind fun t29 => some t29)).bind fun t30 => some t30 else some false)).bind fun t31 => if t31 = true then ((setMO found y.2 more)).bind fun found => some found else some found
def goG (ek : κ → D) (w1 : List Int → Int → Option (List Int)) (ways : κ → Option (List (Int × κ))) (me : LvG κ) : Option (Unit × LvG κ) :=
  (some ([] : List (κ × List Int))).bind fun found => ((lpN (fun (found : List (κ × List Int)) (y7 : κ × List Int) => ((ways y7.1)).bind fun t10 => ((lpN (fun (found : List (κ × List Int)) (y14 : Int × κ) => st1G w1 me.1 y7.2 found y14) t10 found)).bind fun found => some found) me.2.1 found)).bind fun found => lim ((found.map Prod.fst).length) (((if (me.1).isEmpty = false ∧ (me.1).length + ((mergeM [] (List.map (fun state => (state, true)) (found.map Prod.fst)))).length ≤ 1000000 then some (mergeM me.1 (mergeM [] (List.map (fun state => (state, true)) (found.map Prod.fst)))) else none)).bind fun self_all_met => (if (!found.isEmpty) = true then ((sortMO ek (found.map Prod.fst))).bind fun t52 => ((appT me.2.2 t52)).bind fun self_rows_met => some self_rows_met else some me.2.2).bind fun t58 => some ((), (self_all_met, found, t58)))
/-- what is found on the way: keys once each, of property P, counts of L numbers -/
structure Fd (L : Nat) (P : κ → Prop) (f : List (κ × List Int)) : Prop where
  nd : (ksM f).Nodup
  val : ∀ p ∈ f, p.2.length = L ∧ P p.1
theorem w_st1 {w1 : List Int → Int → Option (List Int)} {L : Nat} {P : κ → Prop} {all : List (κ × Bool)} {c : List Int} {found : List (κ × List Int)} {y : Int × κ} (hw : ∃ m, w1 c y.1 = some m ∧ m.length = L) (F : Fd L P found) (hl : found.length < 1000000) (hP : P y.2) :
    Sp (st1G w1 all c found y) fun f => Fd L P f ∧ f.length ≤ found.length + 1 ∧ ∀ k, k ∈ ksM f ↔ k ∈ ksM found ∨ (k = y.2 ∧ k ∉ ksM all) := by
  obtain ⟨m, hm, ml⟩ := hw
  unfold st1G
  refine w_eq hm ?_
  have put : Sp ((setMO found y.2 m).bind fun found => some found) fun f => f = putM found y.2 m := by
    unfold setMO
    rw [if_pos hl]
    exact w_some rfl
  have stay : y.2 ∈ ksM all ∨ y.2 ∈ ksM found → ∀ k, k ∈ ksM found ↔ k ∈ ksM found ∨ (k = y.2 ∧ k ∉ ksM all) := fun h k => ⟨.inl, fun z => z.elim id fun ⟨e, n⟩ => by
    subst e
    rcases h with h | h
    · exact absurd h n
    · exact h⟩
  have done : ∀ f, f = putM found y.2 m → y.2 ∉ ksM all → Fd L P f ∧ f.length ≤ found.length + 1 ∧ ∀ k, k ∈ ksM f ↔ k ∈ ksM found ∨ (k = y.2 ∧ k ∉ ksM all) := fun f hf hn => by
    subst hf
    refine ⟨⟨nd_put F.nd, fun p hp => ?_⟩, len_put _ _ _, fun k => ?_⟩
    · rcases mem_put hp with h | rfl
      · exact F.val p h
      · exact ⟨ml, hP⟩
    · rw [mem_ks_put]
      exact or_congr Iff.rfl ⟨fun e => ⟨e, e ▸ hn⟩, fun h => h.1⟩
  by_cases ha : y.2 ∈ ksM all
  · rw [getM_some.mpr ha]
    refine w_let fun t e => ?_
    subst e
    exact w_some ⟨F, Nat.le_succ _, stay (.inl ha)⟩
  · have hna : (getM all y.2).isSome = false := by
      cases h : (getM all y.2).isSome with
      | false => rfl
      | true => exact absurd (getM_some.mp h) ha
    rw [hna]
    by_cases hf : y.2 ∈ ksM found
    · have hs := getM_some.mpr hf
      obtain ⟨c0, hc0⟩ := Option.isSome_iff_exists.mp hs
      rw [hs, hc0]
      obtain ⟨b, hb, _⟩ := w_ltO m c0
      simp only [Bool.not_false, Bool.not_true, if_true, Bool.false_eq_true, if_false, Option.bind_some, hb]
      cases b with
      | true => exact put.mono fun f hf' => done f hf' ha
      | false => exact w_some ⟨F, Nat.le_succ _, stay (.inr hf)⟩
    · have hnf : (getM found y.2).isSome = false := by
        cases h : (getM found y.2).isSome with
        | false => rfl
        | true => exact absurd (getM_some.mp h) hf
      rw [hnf]
      exact put.mono fun f hf' => done f hf' ha
theorem w_ways {w1 : List Int → Int → Option (List Int)} {L : Nat} {P : κ → Prop} {all : List (κ × Bool)} {c : List Int} (hw : ∀ a, 0 ≤ a → a < (L : Int) → ∃ m, w1 c a = some m ∧ m.length = L) : ∀ (l : List (Int × κ)) (found : List (κ × List Int)), Fd L P found → found.length + l.length ≤ 1000000 → (∀ y ∈ l, 0 ≤ y.1 ∧ y.1 < (L : Int) ∧ P y.2) →
    Sp (lpN (fun found y14 => st1G w1 all c found y14) l found) fun f => Fd L P f ∧ f.length ≤ found.length + l.length ∧ ∀ k, k ∈ ksM f ↔ k ∈ ksM found ∨ (k ∉ ksM all ∧ ∃ a, (a, k) ∈ l)
  | [], found, F, _, _ => w_some ⟨F, Nat.le_refl _, fun k => ⟨.inl, fun z => z.elim id fun ⟨_, a, h⟩ => by cases h⟩⟩
  | y :: l, found, F, hl, hy => by
    rw [List.length_cons] at hl
    obtain ⟨h1, h2, h3⟩ := hy y (List.mem_cons_self ..)
    refine w_bind (w_st1 (all := all) (hw y.1 h1 h2) F (by omega) h3) fun f1 ⟨F1, l1, k1⟩ => ?_
    refine (w_ways hw l f1 F1 (by omega) fun z hz => hy z (List.mem_cons_of_mem _ hz)).mono fun f ⟨F2, l2, k2⟩ => ⟨F2, by rw [List.length_cons]; omega, fun k => ?_⟩
    rw [k2, k1]
    constructor
    · rintro ((h | ⟨rfl, h⟩) | ⟨h, a, ha⟩)
      · exact .inl h
      · exact .inr ⟨h, y.1, List.mem_cons_self ..⟩
      · exact .inr ⟨h, a, List.mem_cons_of_mem _ ha⟩
    · rintro (h | ⟨h, a, ha⟩)
      · exact .inl (.inl h)
      · rcases List.mem_cons.mp ha with e | ha
        · exact .inl (.inr ⟨by rw [← e], h⟩)
        · exact .inr ⟨h, a, ha⟩
theorem w_level {w1 : List Int → Int → Option (List Int)} {L W : Nat} {P : κ → Prop} {all : List (κ × Bool)} {ways : κ → Option (List (Int × κ))} (hw : ∀ c a, c.length = L → 0 ≤ a → a < (L : Int) → ∃ m, w1 c a = some m ∧ m.length = L)
    (hy : ∀ s, P s → ∃ l, ways s = some l ∧ l.length ≤ W ∧ ∀ y ∈ l, 0 ≤ y.1 ∧ y.1 < (L : Int) ∧ P y.2) : ∀ (last : List (κ × List Int)) (found : List (κ × List Int)), Fd L P found → found.length + last.length * W ≤ 1000000 → (∀ p ∈ last, p.2.length = L ∧ P p.1) →
    Sp (lpN (fun (found : List (κ × List Int)) (y7 : κ × List Int) => ((ways y7.1)).bind fun t10 => ((lpN (fun (found : List (κ × List Int)) (y14 : Int × κ) => st1G w1 all y7.2 found y14) t10 found)).bind fun found => some found) last found)
      fun f => Fd L P f ∧ f.length ≤ found.length + last.length * W ∧ ∀ k, k ∈ ksM f ↔ k ∈ ksM found ∨ (k ∉ ksM all ∧ ∃ s ∈ ksM last, ∃ l a, ways s = some l ∧ (a, k) ∈ l)
  | [], found, F, _, _ => w_some ⟨F, by omega, fun k => ⟨.inl, fun z => z.elim id fun ⟨_, s, h, _⟩ => by cases h⟩⟩
  | p :: last, found, F, hl, hp => by
    rw [List.length_cons, Nat.add_mul, Nat.one_mul] at hl
    obtain ⟨h1, h2⟩ := hp p (List.mem_cons_self ..)
    obtain ⟨l, el, ll, hl2⟩ := hy p.1 h2
    refine w_bind (P := fun f => Fd L P f ∧ f.length ≤ found.length + W ∧ ∀ k, k ∈ ksM f ↔ k ∈ ksM found ∨ (k ∉ ksM all ∧ ∃ a, (a, k) ∈ l)) ?_ fun f1 ⟨F1, l1, k1⟩ => ?_
    · refine w_eq el (w_bind (w_ways (all := all) (fun a b c => hw p.2 a h1 b c) l found F (by omega) hl2) fun f ⟨a, b, c⟩ => w_some ⟨a, by omega, c⟩)
    · refine (w_level hw hy last f1 F1 (by omega) fun q hq => hp q (List.mem_cons_of_mem _ hq)).mono fun f ⟨F2, l2, k2⟩ => ⟨F2, by rw [List.length_cons, Nat.add_mul, Nat.one_mul]; omega, fun k => ?_⟩
      rw [k2, k1]
      constructor
      · rintro ((h | ⟨h, a, ha⟩) | ⟨h, s, hs, l', a, e, ha⟩)
        · exact .inl h
        · exact .inr ⟨h, p.1, List.mem_cons_self .., l, a, el, ha⟩
        · exact .inr ⟨h, s, List.mem_cons_of_mem _ hs, l', a, e, ha⟩
      · rintro (h | ⟨h, s, hs, l', a, e, ha⟩)
        · exact .inl (.inl h)
        · rcases List.mem_cons.mp hs with rfl | hs
          · rw [el] at e
            cases e
            exact .inl (.inr ⟨h, a, ha⟩)
          · exact .inr ⟨h, s, hs, l', a, e, ha⟩
/-- one level further: what is met, what is new -/
theorem w_go1 {ek : κ → D} {w1 : List Int → Int → Option (List Int)} {L W : Nat} {P : κ → Prop} {ways : κ → Option (List (Int × κ))} (hw : ∀ c a, c.length = L → 0 ≤ a → a < (L : Int) → ∃ m, w1 c a = some m ∧ m.length = L)
    (hy : ∀ s, P s → ∃ l, ways s = some l ∧ l.length ≤ W ∧ ∀ y ∈ l, 0 ≤ y.1 ∧ y.1 < (L : Int) ∧ P y.2) (hs : ∀ l : List κ, (∀ k ∈ l, P k) → Sp (sortMO ek l) fun z => z.Perm l)
    {me : LvG κ} (hne : me.1 ≠ []) (hlast : ∀ p ∈ me.2.1, p.2.length = L ∧ P p.1) (h1 : me.1.length + me.2.1.length * W ≤ 1000000) (h2 : me.2.2.length < 1000000) :
    Sp (goG ek w1 ways me) fun z => ∃ f, z.2.1 = me.1 ++ (ksM f).map (fun k => (k, true)) ∧ z.2.2.1 = f ∧ Fd L P f ∧ f.length ≤ me.2.1.length * W ∧ (∀ k, k ∈ ksM f ↔ k ∉ ksM me.1 ∧ ∃ s ∈ ksM me.2.1, ∃ l a, ways s = some l ∧ (a, k) ∈ l) ∧
      ∃ r, r.Perm (ksM f) ∧ z.2.2.2 = if f = [] then me.2.2 else me.2.2 ++ [r] := by
  unfold goG
  refine w_let fun f0 e0 => ?_
  subst e0
  refine w_bind (w_level (all := me.1) hw hy me.2.1 [] ⟨by simp [ksM], fun p hp => by cases hp⟩ (by simp; omega) hlast) fun f ⟨F, lf, kf⟩ => ?_
  have kf' : ∀ k, k ∈ ksM f ↔ k ∉ ksM me.1 ∧ ∃ s ∈ ksM me.2.1, ∃ l a, ways s = some l ∧ (a, k) ∈ l := fun k => by
    rw [kf]
    exact ⟨fun z => z.elim (fun h => by cases h) id, .inr⟩
  have lf' : f.length ≤ me.2.1.length * W := by simpa using lf
  refine w_lim (by rw [List.length_map]; omega) ?_
  have em : mergeM ([] : List (κ × Bool)) (List.map (fun state => (state, true)) (f.map Prod.fst)) = (ksM f).map (fun k => (k, true)) := by
    rw [merge_new _ _ (by unfold ksM; rw [List.map_map]; have := F.nd; unfold ksM at this; simpa [Function.comp_def] using this) fun k _ h => by cases h]
    rfl
  have e2 : mergeM me.1 ((ksM f).map (fun k => (k, true))) = me.1 ++ (ksM f).map (fun k => (k, true)) :=
    merge_new _ _ (by unfold ksM; rw [List.map_map]; have := F.nd; unfold ksM at this; simpa [Function.comp_def] using this) fun k hk => by
      have : k ∈ ksM f := by
        unfold ksM at hk
        rw [List.map_map] at hk
        obtain ⟨x, hx, rfl⟩ := List.mem_map.mp hk
        exact hx
      exact ((kf' k).mp this).1
  rw [em, e2, if_pos ⟨by cases hm : me.1 with | nil => exact absurd hm hne | cons a b => rfl, by rw [List.length_map, len_ks]; omega⟩]
  refine w_let fun a ea => ?_
  subst ea
  obtain ⟨r, hr, pr⟩ := hs (f.map Prod.fst) fun k hk => by
    obtain ⟨p, hp, rfl⟩ := List.mem_map.mp hk
    exact (F.val p hp).2
  cases f with
  | nil => exact w_some ⟨[], rfl, rfl, F, lf', kf', [], List.Perm.refl _, by rw [if_pos rfl]⟩
  | cons p f =>
    show Sp ((((sortMO ek ((p :: f).map Prod.fst))).bind fun t52 => ((appT me.2.2 t52)).bind fun self_rows_met => some self_rows_met).bind fun t58 => some ((), (me.1 ++ (ksM (p :: f)).map (fun k => (k, true)), p :: f, t58))) _
    rw [hr]
    show Sp (((appT me.2.2 r).bind fun self_rows_met => some self_rows_met).bind fun t58 => some ((), (me.1 ++ (ksM (p :: f)).map (fun k => (k, true)), p :: f, t58))) _
    unfold appT
    rw [if_pos h2]
    exact w_some ⟨p :: f, rfl, rfl, F, lf', kf', r, pr, by rw [if_neg (by simp)]⟩
end
/-! rows of numbers in their order -/
theorem ltV_toks (zs ws : List Int) : ltV zs ws = PyProof.Rows.lexLt PyProof.Rows.itemOrd (PySem.W.keyToksAll (zs.map PyData.int)) (PySem.W.keyToksAll (ws.map PyData.int)) := PySem.W.dataLt_tuple _ _
theorem ltV_cons (x y : Int) (xs ys : List Int) : ltV (x :: xs) (y :: ys) = if x = y then ltV xs ys else decide (x < y) := by
  rw [ltV_toks, ltV_toks]
  show PyProof.Rows.lexLt PyProof.Rows.itemOrd (PySem.W.keyToksAll (.int x :: xs.map PyData.int)) (PySem.W.keyToksAll (.int y :: ys.map PyData.int)) = _
  split
  · rename_i h
    subst h
    exact PySem.W.dataLt_all_yes rfl (by simp [PyData.eqv])
  · rename_i h
    rw [PySem.W.dataLt_all_no rfl (by simp [PyData.eqv, h])]
    exact PySem.W.dataLt_int x y
theorem ltV_nil : ltV [] [] = false := rfl
theorem ltV_nilc (y : Int) (ys : List Int) : ltV [] (y :: ys) = true := by
  rw [ltV_toks]
  rfl
theorem ltV_cnil (x : Int) (xs : List Int) : ltV (x :: xs) [] = false := by
  rw [ltV_toks]
  rfl
theorem ltV_irr : ∀ x : List Int, ltV x x = false
  | [] => rfl
  | x :: xs => by rw [ltV_cons, if_pos rfl]; exact ltV_irr xs
theorem ltV_asym : ∀ {x y : List Int}, ltV x y = true → ltV y x = false
  | [], [], h => by cases h
  | [], y :: ys, _ => ltV_cnil y ys
  | x :: xs, [], h => by rw [ltV_cnil] at h; cases h
  | x :: xs, y :: ys, h => by
    rw [ltV_cons] at h ⊢
    split at h
    · rename_i e
      rw [if_pos e.symm]
      exact ltV_asym h
    · rename_i e
      rw [if_neg (fun z => e z.symm)]
      have := of_decide_eq_true h
      exact decide_eq_false (by omega)
/-- x no greater than y, y no greater than z -/
theorem ltV_tr : ∀ {x y z : List Int}, ltV y x = false → ltV z y = false → ltV z x = false
  | x, y, [], h1, h2 => by
    cases x with
    | nil => rfl
    | cons a x =>
      cases y with
      | nil => rw [ltV_nilc] at h1; cases h1
      | cons b y => rw [ltV_nilc] at h2; cases h2
  | [], y, c :: z, _, _ => ltV_cnil _ _
  | a :: x, [], c :: z, h1, h2 => by rw [ltV_nilc] at h1; cases h1
  | a :: x, b :: y, c :: z, h1, h2 => by
    rw [ltV_cons] at h1 h2 ⊢
    by_cases e1 : b = a
    · subst e1
      rw [if_pos rfl] at h1
      by_cases e2 : c = b
      · rw [if_pos e2] at h2 ⊢
        exact ltV_tr h1 h2
      · rw [if_neg e2] at h2 ⊢
        exact h2
    · rw [if_neg e1] at h1
      have g1 := of_decide_eq_false h1
      by_cases e2 : c = b
      · subst e2
        rw [if_neg e1]
        exact h1
      · rw [if_neg e2] at h2
        have g2 := of_decide_eq_false h2
        rw [if_neg (by omega)]
        exact decide_eq_false (by omega)
theorem ltV_set : ∀ (x y : List Int) (a : Nat) (d : Int), x.length = y.length → a < x.length → ltV (x.set a (x.getD a 0 + d)) (y.set a (y.getD a 0 + d)) = ltV x y
  | [], _, _, _, _, h => by cases h
  | x :: xs, [], _, _, h, _ => by cases h
  | x :: xs, y :: ys, 0, d, hl, h => by
    simp only [List.set_cons_zero, List.getD_cons_zero, ltV_cons]
    by_cases e : x = y
    · rw [if_pos e, if_pos (by omega)]
    · rw [if_neg e, if_neg (by omega)]
      by_cases h : x < y
      · rw [decide_eq_true h, decide_eq_true (by omega)]
      · rw [decide_eq_false h, decide_eq_false (by omega)]
  | x :: xs, y :: ys, a + 1, d, hl, h => by
    simp only [List.set_cons_succ, List.getD_cons_succ, ltV_cons]
    rw [ltV_set xs ys a d (by simpa using hl) (by simpa using h)]
theorem ltO_eq (x y : List Int) : ltO (eT eI) x y = some (ltV x y) := by
  unfold ltO
  have := ok_minT [x, y]
  rw [List.map_cons, List.map_cons, List.map_nil] at this
  rw [if_pos this]
  rfl
theorem minVO_lst {xs : List (List Int)} (h : xs ≠ []) : Sp (minVO xs) fun z => z ∈ xs ∧ ∀ x ∈ xs, ltV x z = false := by
  refine (w_minVO h).imp fun z hz => ⟨hz.1, hz.2, ?_⟩
  cases xs with
  | nil => exact absurd rfl h
  | cons x r =>
    have e := hz.1
    unfold minVO at e
    simp only at e
    rw [if_pos (ok_minT (x :: r))] at e
    cases e
    unfold minV
    have key : ∀ (r : List (List Int)) (a : List Int), ∀ y ∈ a :: r, ltV y (r.foldl (fun a y => if ltV y a = true then y else a) a) = false := fun r => by
      induction r with
      | nil => intro a y hy; rw [List.mem_singleton.mp hy]; exact ltV_irr a
      | cons b r ih =>
        intro a y hy
        rw [List.foldl_cons]
        have i0 := ih (if ltV b a = true then b else a) (if ltV b a = true then b else a) (List.mem_cons_self ..)
        rcases List.mem_cons.mp hy with rfl | hy
        · refine ltV_tr i0 ?_
          split
          · rename_i hb; exact ltV_asym hb
          · exact ltV_irr _
        · rcases List.mem_cons.mp hy with rfl | hy
          · refine ltV_tr i0 ?_
            split
            · exact ltV_irr _
            · rename_i hb; simpa using hb
          · exact ih _ y (List.mem_cons_of_mem _ hy)
    exact key r x
/-! ### the search: level by level, till no state is new -/
section
variable {κ : Type} [DecidableEq κ] {ρ : Type}
def bfsF (ek : κ → D) (w1 : List Int → Int → Option (List Int)) (ways : κ → Option (List (Int × κ))) (brk : List (κ × List Int) → Option (List (List Int))) (most : Int) (ro : ρ) (rb : List Int → ρ) (levels : LvG κ) : Option (Option (Lf (LvG κ) ρ)) :=
  if (!levels.2.1.isEmpty) = true then ((some (levels.1.length : Int)).bind fun t24 => if (decide (most < t24)) = true then some (Lf.ret ro) else (brk levels.2.1).bind fun broken => if (!decide (broken = ([] : List (List Int)))) = true then (minVO broken).bind fun t41 => some (Lf.ret (rb t41)) else (goG ek w1 ways levels).bind fun levels => some (.go levels.2)).bind fun w => some (some w) else some none
/-- what holds between the levels: start is met; what is met and not new is sound, all its ways lead to met states -/
structure BInv (L W N : Nat) (P : κ → Prop) (ways : κ → Option (List (Int × κ))) (G : κ → Prop) (start : κ) (s : LvG κ) : Prop where
  nd : (ksM s.1).Nodup
  met : start ∈ ksM s.1
  last : Fd L P s.2.1
  sub : ∀ k ∈ ksM s.2.1, k ∈ ksM s.1
  old : ∀ k ∈ ksM s.1, k ∉ ksM s.2.1 → G k ∧ ∀ l a j, ways k = some l → (a, j) ∈ l → j ∈ ksM s.1
  rows : s.2.2.length ≤ s.1.length
  pp : ∀ k ∈ ksM s.1, P k
  few : s.1.length ≤ N * (W + 1)
  flat : s.2.2.flatten.Perm (ksM s.1)
theorem ks_true (l : List κ) : ksM (l.map fun k => (k, true)) = l := by
  unfold ksM
  rw [List.map_map]
  simp [Function.comp_def]
theorem nd_len : ∀ {l m : List κ}, l.Nodup → (∀ k ∈ l, k ∈ m) → l.length ≤ m.length
  | [], m, _, _ => Nat.zero_le _
  | x :: l, m, h, s => by
    rw [List.nodup_cons] at h
    have hx := s x (List.mem_cons_self ..)
    have := nd_len (m := m.erase x) h.2 fun k hk => by
      have hne : k ≠ x := fun e => h.1 (e ▸ hk)
      exact (List.mem_erase_of_ne hne).mpr (s k (List.mem_cons_of_mem _ hk))
    rw [List.length_erase_of_mem hx] at this
    have := List.length_pos_of_mem hx
    rw [List.length_cons]
    omega
theorem w_bfs {ek : κ → D} {w1 : List Int → Int → Option (List Int)} {L W N : Nat} {P G : κ → Prop} {start : κ} {ways : κ → Option (List (Int × κ))} {brk : List (κ × List Int) → Option (List (List Int))} {ro : ρ} {rb : List Int → ρ}
    (hw : ∀ c a, c.length = L → 0 ≤ a → a < (L : Int) → ∃ m, w1 c a = some m ∧ m.length = L)
    (hy : ∀ s, P s → ∃ l, ways s = some l ∧ l.length ≤ W ∧ ∀ y ∈ l, 0 ≤ y.1 ∧ y.1 < (L : Int) ∧ P y.2) (hs : ∀ l : List κ, (∀ k ∈ l, P k) → Sp (sortMO ek l) fun z => z.Perm l)
    (hb : ∀ last : List (κ × List Int), Fd L P last → last.length ≤ N → Sp (brk last) fun b => b = [] → ∀ k ∈ ksM last, G k) (hN : N * (W + 1) ≤ 1000000) (hN2 : N < 1000000) :
    ∀ (m : Nat) (s : LvG κ), BInv L W N P ways G start s → 1 ≤ m → (s.2.1 ≠ [] → N + 3 ≤ m + s.1.length) →
    Sp (lpW (bfsF ek w1 ways brk (N : Int) ro rb) m s) fun w => (w = .ret ro ∨ ∃ c, w = .ret (rb c)) ∨ ∃ t, w = .go t ∧ BInv L W N P ways G start t ∧ t.2.1 = []
  | 0, s, I, h1, _ => absurd h1 (by omega)
  | m + 1, s, I, h1, h2 => by
    rw [lpW]
    cases hl : s.2.1 with
    | nil =>
      have : bfsF ek w1 ways brk (N : Int) ro rb s = some none := by
        unfold bfsF
        rw [hl]
        rfl
      rw [this]
      exact w_some (.inr ⟨s, rfl, I, hl⟩)
    | cons p last =>
      have hne : s.2.1 ≠ [] := by rw [hl]; simp
      have h2 := h2 hne
      have e0 : (!s.2.1.isEmpty) = true := by rw [hl]; rfl
      by_cases hm : (N : Int) < (s.1.length : Int)
      · have : bfsF ek w1 ways brk (N : Int) ro rb s = some (some (.ret ro)) := by
          unfold bfsF
          rw [if_pos e0, Option.bind_some, if_pos (by simpa using hm)]
          rfl
        rw [this]
        exact w_some (.inl (.inl rfl))
      · have hm' : s.1.length ≤ N := by omega
        have ll : s.2.1.length ≤ s.1.length := by
          have := nd_len I.last.nd I.sub
          rwa [len_ks, len_ks] at this
        obtain ⟨b, eb, gb⟩ := hb s.2.1 I.last (by omega)
        by_cases hbe : b = []
        · have hne1 : s.1 ≠ [] := fun z => by
            have := I.met
            rw [z] at this
            cases this
          have bW : s.2.1.length * W ≤ N * W := Nat.mul_le_mul_right W (by omega)
          have bN : N * (W + 1) = N * W + N := by rw [Nat.mul_add, Nat.mul_one]
          obtain ⟨z, ez, f, z1, z2, F, lf, kf, r, pr, z3⟩ := w_go1 (ek := ek) hw hy hs hne1 (fun p hp => I.last.val p hp) (by omega) (by have := I.rows; omega)
          have : bfsF ek w1 ways brk (N : Int) ro rb s = some (some (.go z.2)) := by
            unfold bfsF
            rw [if_pos e0, Option.bind_some, if_neg (by simpa using hm), eb, Option.bind_some, if_neg (by simp [hbe]), ez]
            rfl
          rw [this]
          have k1 : ksM z.2.1 = ksM s.1 ++ ksM f := by
            rw [z1]
            unfold ksM
            rw [List.map_append]
            have := ks_true (ksM f)
            unfold ksM at this
            rw [this]
          have I' : BInv L W N P ways G start z.2 := by
            refine ⟨?_, ?_, by rw [z2]; exact F, fun k hk => ?_, fun k hk hn => ?_, ?_, fun k hk => ?_, ?_, ?_⟩
            · rw [k1, List.nodup_append]
              exact ⟨I.nd, F.nd, fun a ha b hb e => ((kf b).mp hb).1 (e ▸ ha)⟩
            · rw [k1]
              exact List.mem_append_left _ I.met
            · rw [k1]
              rw [z2] at hk
              exact List.mem_append_right _ hk
            · rw [z2] at hn
              rw [k1] at hk ⊢
              rcases List.mem_append.mp hk with hk | hk
              · by_cases hk2 : k ∈ ksM s.2.1
                · refine ⟨gb hbe k hk2, fun l a j e ha => ?_⟩
                  by_cases hj : j ∈ ksM s.1
                  · exact List.mem_append_left _ hj
                  · exact List.mem_append_right _ ((kf j).mpr ⟨hj, k, hk2, l, a, e, ha⟩)
                · obtain ⟨g, h⟩ := I.old k hk hk2
                  exact ⟨g, fun l a j e ha => List.mem_append_left _ (h l a j e ha)⟩
              · exact absurd hk hn
            · have l1 : z.2.1.length = s.1.length + f.length := by rw [← len_ks, k1, List.length_append, len_ks, len_ks]
              rw [z3, l1]
              have := I.rows
              split
              · omega
              · rename_i hf
                have : 1 ≤ f.length := by cases f with | nil => exact absurd rfl hf | cons _ _ => simp
                rw [List.length_append, List.length_singleton]
                omega
            · rw [k1] at hk
              rcases List.mem_append.mp hk with hk | hk
              · exact I.pp k hk
              · obtain ⟨p, hp, rfl⟩ := List.mem_map.mp hk
                exact (F.val p hp).2
            · have l1 : z.2.1.length = s.1.length + f.length := by rw [← len_ks, k1, List.length_append, len_ks, len_ks]
              rw [l1]
              omega
            · rw [k1, z3]
              split
              · rename_i hf
                subst hf
                simpa [ksM] using I.flat
              · rw [List.flatten_append]
                refine I.flat.append ?_
                simpa using pr
          have l1 : z.2.1.length = s.1.length + f.length := by rw [← len_ks, k1, List.length_append, len_ks, len_ks]
          exact w_bfs hw hy hs hb hN hN2 m z.2 I' (by omega) fun hz => by
            rw [z2] at hz
            have : 1 ≤ f.length := by cases f with | nil => exact absurd rfl hz | cons _ _ => simp
            omega
        · obtain ⟨c, ec, _⟩ := w_minVO hbe
          have : bfsF ek w1 ways brk (N : Int) ro rb s = some (some (.ret (rb c))) := by
            unfold bfsF
            rw [if_pos e0, Option.bind_some, if_neg (by simpa using hm), eb, Option.bind_some, if_pos (by simp [hbe]), ec]
            rfl
          rw [this]
          exact w_some (.inl (.inr ⟨c, rfl⟩))
end
/-! pacing: a ball's deed -/
abbrev Tri := Int × Int × Int
abbrev PSt := List Int × List Int × List (Int × Tri) × List (Int × Tri)
def hitL (fs : List (Int × Int)) (l k : Int) : Bool := onF' l (fs.getD k.toNat (0, 0))
def aheadL (fs : List (Int × Int)) (l a : Int) : List Int := (rngI a ((fs.length : Int) - a).toNat).filter (hitL fs l)
def deedL (N : Net) (runs : List Tri) (s : PSt) (b : Int) (v : Tri) : PSt :=
  match aheadL N.2.1 v.2.1 v.2.2 with
  | [] => (s.1, s.2.1.set ((idxT N.2.2 v.2.1).getD 0).toNat (s.2.1.getD ((idxT N.2.2 v.2.1).getD 0).toNat 0 + 1), delM s.2.2.1 b,
      s.2.2.2 ++ [(b, ((idxT N.2.2 v.2.1).getD 0 + N.1 * s.2.1.getD ((idxT N.2.2 v.2.1).getD 0).toNat 0, (idxT N.2.2 v.2.1).getD 0, v.1))])
  | k :: _ => (s.1.set k.toNat (1 - s.1.getD k.toNat 0), s.2.1,
      delM s.2.2.1 b ++ [(b, (v.1 + (runs.getD b.toNat (0, 0, 0)).2.2, nxtL 1 (s.1.getD k.toNat 0) (N.2.1.getD k.toNat (0, 0)), k + 1))], s.2.2.2)
structure PsOk (N : Net) (runs : List Tri) (s : PSt) : Prop where
  tl : s.1.length = N.2.1.length
  t01 : ∀ t ∈ s.1, t = 0 ∨ t = 1
  cl : s.2.1.length = N.1.toNat
  nd : (ksM s.2.2.1).Nodup
  dv : ∀ p ∈ s.2.2.1, (0 ≤ p.1 ∧ p.1 < runs.length) ∧ (0 ≤ p.2.2.1 ∧ p.2.2.1 < N.1) ∧ 0 ≤ p.2.2.2 ∧ p.2.2.2 ≤ N.2.1.length
  fn : (ksM s.2.2.2).Nodup
  dj : ∀ b ∈ ksM s.2.2.1, b ∉ ksM s.2.2.2
  fb : ∀ b ∈ ksM s.2.2.2, 0 ≤ b ∧ b < runs.length
  al : ∀ b : Int, 0 ≤ b → b < runs.length → b ∈ ksM s.2.2.1 ∨ b ∈ ksM s.2.2.2
/-- the law's deed, as it is written -/
def lawDeed (N : Net) (runs : List Tri) (now : Int) : PSt → Int → Option PSt := fun s74 ball => ((popM s74.2.2.1 ball)).bind fun t79 => ((rngO2 t79.1.2.2 (N.2.1.length : Int))).bind fun t86 => lim (t86.length) (((lcS (fun (_ : Unit) k => ((atI N.2.1 k)).bind fun t96 => if ((decide (t96.1 = t79.1.2.1) || decide (t96.2 = t79.1.2.1))) = true then some (some k, ()) else some (none, ())) t86 ())).bind fun t99 => if (decide (t99.1 = ([] : (List Int)))) = true then ((idxT N.2.2 t79.1.2.1)).bind fun end_ => ((atI s74.2.1 end_)).bind fun t114 => ((mulT N.1 t114)).bind fun t116 => ((setMO s74.2.2.2 ball ((end_ + t116), end_, now))).bind fun found => ((atI s74.2.1 end_)).bind fun t127 => ((setT s74.2.1 end_ (t127 + (1 : Int)))).bind fun came => some (s74.1, came, t79.2, found) else ((atI t99.1 (0 : Int))).bind fun fork => ((atI runs ball)).bind fun t138 => ((atI N.2.1 fork)).bind fun t147 => ((atI s74.1 fork)).bind fun t150 => ((atP t147 t150)).bind fun t152 => ((setMO t79.2 ball ((now + t138.2.2), t152, (fork + (1 : Int))))).bind fun due => ((atI s74.1 fork)).bind fun t164 => ((setT s74.1 fork ((1 : Int) - t164))).bind fun turns => some (turns, s74.2.1, due, s74.2.2.2))
theorem atG {α : Type} {xs : List α} {i : Int} (d : α) (h0 : 0 ≤ i) (h1 : i < xs.length) : atI xs i = some (xs.getD i.toNat d) := by
  obtain ⟨n, rfl⟩ : ∃ n : Nat, i = n := ⟨i.toNat, by omega⟩
  have hn : n < xs.length := by omega
  rw [List.getD_eq_getElem?_getD, Int.toNat_natCast, List.getElem?_eq_getElem hn]
  exact atI_nat (List.getElem?_eq_getElem hn)
theorem setG {xs : List Int} {i v : Int} (h0 : 0 ≤ i) (h1 : i < xs.length) : setT xs i v = some (xs.set i.toNat v) := by
  unfold setT
  rw [ixN_nn h0 h1]
  rfl
theorem lcS_flt {α : Type} {F : Unit → α → Option (Option α × Unit)} {c : α → Bool} : ∀ (ys : List α), (∀ y ∈ ys, F () y = if c y = true then some (some y, ()) else some (none, ())) → lcS F ys () = some (ys.filter c, ())
  | [], _ => rfl
  | y :: ys, h => by
    have e := h y (List.mem_cons_self ..)
    have ih := lcS_flt ys fun z hz => h z (List.mem_cons_of_mem _ hz)
    rw [lcS, e]
    cases hc : c y with
    | true =>
      rw [if_pos rfl, Option.bind_some, ih, Option.bind_some, List.filter_cons_of_pos hc]
    | false =>
      rw [if_neg (by simp), Option.bind_some, ih, Option.bind_some, List.filter_cons_of_neg (by simp [hc])]
theorem ahead_mem {fs : List (Int × Int)} {l a k : Int} (h : k ∈ aheadL fs l a) (a0 : 0 ≤ a) : a ≤ k ∧ k < fs.length ∧ hitL fs l k = true := by
  unfold aheadL at h
  obtain ⟨h1, h2⟩ := List.mem_filter.mp h
  have := rngI_mem h1
  exact ⟨by omega, by omega, h2⟩
theorem few_keys {τ : Type} {l : List (Int × τ)} {n : Nat} (nd : (ksM l).Nodup) (h : ∀ b ∈ ksM l, 0 ≤ b ∧ b < n) : l.length ≤ n := by
  have := nd_len (m := rngI 0 n) nd fun x hx => by
    have := h x hx
    unfold rngI
    exact List.mem_map.mpr ⟨x.toNat, List.mem_range.mpr (by omega), by omega⟩
  rw [len_ks, rngI_len] at this
  exact this
theorem deed_eq {N : Net} (g : GoodN N) {runs : List Tri} (hr : runs.length ≤ 1000) {s : PSt} (I : PsOk N runs s) {b : Int} {v : Tri} (hb : getM s.2.2.1 b = some v) : lawDeed N runs v.1 s b = some (deedL N runs s b v) := by
  have l1 := g.l1
  have l16 := g.l16
  have many := g.many
  have hmem : (b, v) ∈ s.2.2.1 := getM_mem hb
  obtain ⟨⟨b0, b1⟩, ⟨v0, v1⟩, a0, a1⟩ := I.dv _ hmem
  have b0 : 0 ≤ b := b0
  have b1 : b < runs.length := b1
  have v0 : 0 ≤ v.2.1 := v0
  have v1 : v.2.1 < N.1 := v1
  have a0 : 0 ≤ v.2.2 := a0
  have a1 : v.2.2 ≤ N.2.1.length := a1
  have tl := I.tl
  have cl := I.cl
  unfold lawDeed popM
  rw [hb, Option.map_some, Option.bind_some]
  simp only []
  rw [show rngO2 v.2.2 (N.2.1.length : Int) = some (rngI v.2.2 ((N.2.1.length : Int) - v.2.2).toNat) from if_pos (by omega), Option.bind_some, lim_of (by rw [rngI_len]; omega)]
  rw [lcS_flt (c := hitL N.2.1 v.2.1) _ fun k hk => by
    have hk := rngI_mem hk
    rw [atG (0, 0) (by omega) (by omega), Option.bind_some]
    rfl, Option.bind_some]
  rw [show List.filter (hitL N.2.1 v.2.1) (rngI v.2.2 ((N.2.1.length : Int) - v.2.2).toNat) = aheadL N.2.1 v.2.1 v.2.2 from rfl]
  have am := fun k (hk : k ∈ aheadL N.2.1 v.2.1 v.2.2) => ahead_mem hk a0
  unfold deedL
  generalize aheadL N.2.1 v.2.1 v.2.2 = A at am
  simp only []
  cases A with
  | nil =>
    obtain ⟨e, e1, e2, _⟩ := end_of g v0 v1
    have el := g.elen
    have hn : b ∉ ksM s.2.2.2 := I.dj b (List.mem_map.mpr ⟨_, hmem, rfl⟩)
    have fl := few_keys I.fn I.fb
    have es : ∀ x, setMO s.2.2.2 b x = some (s.2.2.2 ++ [(b, x)]) := fun x => by
      unfold setMO
      rw [if_pos (by omega), put_new hn]
    rw [if_pos (decide_eq_true rfl), e1, Option.bind_some, atG 0 (by omega) (by omega), Option.bind_some, mulT_l (by omega) (by omega), Option.bind_some, es, Option.bind_some, Option.bind_some, setG (by omega) (by omega), Option.bind_some]
    rfl
  | cons k ks =>
    obtain ⟨k0, k1, k2⟩ := am k (List.mem_cons_self ..)
    have t01 : s.1.getD k.toNat 0 = 0 ∨ s.1.getD k.toNat 0 = 1 := by
      have hl : k.toNat < s.1.length := by omega
      rw [List.getD_eq_getElem?_getD, List.getElem?_eq_getElem hl]
      exact I.t01 _ (List.getElem_mem hl)
    have hp : atP (N.2.1.getD k.toNat (0, 0)) (s.1.getD k.toNat 0) = some (nxtL 1 (s.1.getD k.toNat 0) (N.2.1.getD k.toNat (0, 0))) := by
      rcases t01 with z | z
      · rw [z, nx_p0]; exact at0 _ _
      · rw [z, nx_p1]; exact at1 _ _ _
    have hn : b ∉ ksM (delM s.2.2.1 b) := fun z => by
      obtain ⟨p, hp, e⟩ := List.mem_map.mp z
      unfold delM at hp
      have := (List.mem_filter.mp hp).2
      simp only [decide_eq_true_eq] at this
      exact this e
    have dl : (delM s.2.2.1 b).length ≤ s.2.2.1.length := List.length_filter_le _ _
    have du : s.2.2.1.length ≤ runs.length := by
      have := nd_len (m := rngI 0 runs.length) I.nd fun x hx => by
        obtain ⟨p, hp, rfl⟩ := List.mem_map.mp hx
        have := (I.dv p hp).1
        unfold rngI
        exact List.mem_map.mpr ⟨p.1.toNat, List.mem_range.mpr (by omega), by omega⟩
      rw [len_ks, rngI_len] at this
      omega
    have es : ∀ x, setMO (delM s.2.2.1 b) b x = some (delM s.2.2.1 b ++ [(b, x)]) := fun x => by
      unfold setMO
      rw [if_pos (by omega), put_new hn]
    rw [if_neg (by simp), show atI (k :: ks) 0 = some k from at0 _ _, Option.bind_some, atG (0, 0, 0) b0 b1, Option.bind_some, atG (0, 0) (by omega) k1, Option.bind_some, atG 0 (by omega) (by omega), Option.bind_some, hp, Option.bind_some, es, Option.bind_some, Option.bind_some, setG (by omega) (by omega), Option.bind_some]
/-! a deed keeps the state's sense, and lessens what is ahead -/
theorem del_perm {τ : Type} : ∀ {l : List (Int × τ)} {k : Int} {v : τ}, (ksM l).Nodup → (k, v) ∈ l → l.Perm ((k, v) :: delM l k)
  | [], _, _, _, h => by cases h
  | p :: l, k, v, nd, h => by
    have nd' : p.1 ∉ ksM l ∧ (ksM l).Nodup := List.nodup_cons.mp nd
    by_cases c : p.1 = k
    · have hp : p = (k, v) := by
        rcases List.mem_cons.mp h with h | h
        · exact h.symm
        · exact absurd (List.mem_map.mpr ⟨_, h, rfl⟩) (by rw [← c]; exact nd'.1)
      have hd : delM (p :: l) k = l := by
        unfold delM
        rw [List.filter_cons_of_neg (by simp [c])]
        refine List.filter_eq_self.mpr fun q hq => ?_
        simp only [decide_eq_true_eq]
        intro e
        exact nd'.1 (by rw [c, ← e]; exact List.mem_map.mpr ⟨q, hq, rfl⟩)
      rw [hd, hp]
    · have h : (k, v) ∈ l := by
        rcases List.mem_cons.mp h with h | h
        · exact absurd (by rw [← h]) c
        · exact h
      have hd : delM (p :: l) k = p :: delM l k := by
        unfold delM
        rw [List.filter_cons_of_pos (by simp [c])]
      rw [hd]
      exact ((del_perm nd'.2 h).cons p).trans (List.Perm.swap _ _ _)
theorem del_mem {τ : Type} {l : List (Int × τ)} {k : Int} {p : Int × τ} : p ∈ delM l k ↔ p ∈ l ∧ p.1 ≠ k := by
  unfold delM
  rw [List.mem_filter, decide_eq_true_eq]
theorem del_nd {τ : Type} {l : List (Int × τ)} (h : (ksM l).Nodup) (k : Int) : (ksM (delM l k)).Nodup := by
  unfold ksM delM at *
  exact h.sublist (List.Sublist.map _ List.filter_sublist)
theorem del_no {τ : Type} (l : List (Int × τ)) (k : Int) : k ∉ ksM (delM l k) := fun z => by
  obtain ⟨p, hp, e⟩ := List.mem_map.mp z
  exact (del_mem.mp hp).2 e
theorem ks_app {τ : Type} (l : List (Int × τ)) (p : Int × τ) : ksM (l ++ [p]) = ksM l ++ [p.1] := by unfold ksM; rw [List.map_append]; rfl
theorem nd_app {l : List Int} {b : Int} (h : l.Nodup) (hb : b ∉ l) : (l ++ [b]).Nodup := List.nodup_append.mpr ⟨h, by simp, fun a ha c hc e => hb (by rw [List.mem_singleton.mp hc] at e; rw [← e]; exact ha)⟩
def muP (N : Net) (due : List (Int × Tri)) : Nat := (due.map fun p => N.2.1.length + 1 - p.2.2.2.toNat).sum
theorem mu_perm {N : Net} {a b : List (Int × Tri)} (h : a.Perm b) : muP N a = muP N b := by
  unfold muP
  exact (h.map _).sum_nat
theorem deed_ok {N : Net} (g : GoodN N) {runs : List Tri} {s : PSt} (I : PsOk N runs s) {b : Int} {v : Tri} (hb : getM s.2.2.1 b = some v) : PsOk N runs (deedL N runs s b v) ∧ muP N (deedL N runs s b v).2.2.1 < muP N s.2.2.1 := by
  have l1 := g.l1
  have hmem : (b, v) ∈ s.2.2.1 := getM_mem hb
  obtain ⟨⟨b0, b1⟩, ⟨v0, v1⟩, a0, a1⟩ := I.dv _ hmem
  have b0 : 0 ≤ b := b0
  have b1 : b < runs.length := b1
  have a0 : 0 ≤ v.2.2 := a0
  have a1 : v.2.2 ≤ N.2.1.length := a1
  have hbk : b ∈ ksM s.2.2.1 := List.mem_map.mpr ⟨_, hmem, rfl⟩
  have mp := mu_perm (N := N) (del_perm I.nd hmem)
  have mc : muP N ((b, v) :: delM s.2.2.1 b) = (N.2.1.length + 1 - v.2.2.toNat) + muP N (delM s.2.2.1 b) := by unfold muP; rw [List.map_cons, List.sum_cons]
  have am := fun k (hk : k ∈ aheadL N.2.1 v.2.1 v.2.2) => ahead_mem hk a0
  have keys : ∀ c : Int, c ∈ ksM s.2.2.1 → c ≠ b → c ∈ ksM (delM s.2.2.1 b) := fun c hc hne => by
    obtain ⟨p, hp, rfl⟩ := List.mem_map.mp hc
    exact List.mem_map.mpr ⟨p, del_mem.mpr ⟨hp, hne⟩, rfl⟩
  have back : ∀ c : Int, c ∈ ksM (delM s.2.2.1 b) → c ∈ ksM s.2.2.1 ∧ c ≠ b := fun c hc => by
    obtain ⟨p, hp, rfl⟩ := List.mem_map.mp hc
    exact ⟨List.mem_map.mpr ⟨p, (del_mem.mp hp).1, rfl⟩, (del_mem.mp hp).2⟩
  have hn : b ∉ ksM s.2.2.2 := I.dj b hbk
  unfold deedL
  generalize aheadL N.2.1 v.2.1 v.2.2 = A at am
  cases A with
  | nil =>
    refine ⟨⟨I.tl, I.t01, by show (s.2.1.set _ _).length = _; rw [List.length_set]; exact I.cl, del_nd I.nd b, fun p hp => I.dv p (del_mem.mp hp).1, ?_, fun c hc => ?_, ?_, fun c c0 c1 => ?_⟩, ?_⟩
    · show (ksM (s.2.2.2 ++ [_])).Nodup
      rw [ks_app]
      exact nd_app I.fn hn
    · show c ∉ ksM (s.2.2.2 ++ [_])
      rw [ks_app]
      obtain ⟨h1, h2⟩ := back c hc
      intro z
      rcases List.mem_append.mp z with z | z
      · exact I.dj c h1 z
      · exact h2 (List.mem_singleton.mp z)
    · intro c hc
      rw [show ksM (s.2.2.2 ++ [_]) = _ from ks_app _ _] at hc
      rcases List.mem_append.mp hc with z | z
      · exact I.fb c z
      · rw [List.mem_singleton.mp z]; exact ⟨b0, b1⟩
    · show c ∈ ksM (delM s.2.2.1 b) ∨ c ∈ ksM (s.2.2.2 ++ [_])
      rw [ks_app]
      by_cases e : c = b
      · exact .inr (List.mem_append_right _ (List.mem_singleton.mpr e))
      · rcases I.al c c0 c1 with h | h
        · exact .inl (keys c h e)
        · exact .inr (List.mem_append_left _ h)
    · show muP N (delM s.2.2.1 b) < _
      rw [mp, mc]; omega
  | cons k ks =>
    obtain ⟨k0, k1, k2⟩ := am k (List.mem_cons_self ..)
    have gf := g.forks (N.2.1.getD k.toNat (0, 0)) (by
      have hl : k.toNat < N.2.1.length := by omega
      rw [List.getD_eq_getElem?_getD, List.getElem?_eq_getElem hl]
      exact List.getElem_mem hl)
    refine ⟨⟨by show (s.1.set _ _).length = _; rw [List.length_set]; exact I.tl, fun t ht => ?_, I.cl, ?_, fun p hp => ?_, I.fn, fun c hc => ?_, I.fb, fun c c0 c1 => ?_⟩, ?_⟩
    · rcases List.mem_or_eq_of_mem_set (show t ∈ s.1.set _ _ from ht) with z | z
      · exact I.t01 t z
      · have : s.1.getD k.toNat 0 = 0 ∨ s.1.getD k.toNat 0 = 1 := by
          have hl : k.toNat < s.1.length := by have := I.tl; omega
          rw [List.getD_eq_getElem?_getD, List.getElem?_eq_getElem hl]
          exact I.t01 _ (List.getElem_mem hl)
        omega
    · show (ksM (delM s.2.2.1 b ++ [_])).Nodup
      rw [ks_app]
      exact nd_app (del_nd I.nd b) (del_no _ _)
    · rcases List.mem_append.mp (show p ∈ delM s.2.2.1 b ++ [_] from hp) with z | z
      · exact I.dv p (del_mem.mp z).1
      · rw [List.mem_singleton.mp z]
        refine ⟨⟨b0, b1⟩, ?_, by show 0 ≤ k + 1; omega, by show k + 1 ≤ _; omega⟩
        show 0 ≤ nxtL 1 _ _ ∧ nxtL 1 _ _ < N.1
        unfold nxtL
        obtain ⟨q1, q2, q3, q4, _⟩ := gf
        split <;> omega
    · rw [show ksM (delM s.2.2.1 b ++ [_]) = _ from ks_app _ _] at hc
      rcases List.mem_append.mp hc with z | z
      · exact I.dj c (back c z).1
      · rw [List.mem_singleton.mp z]; exact hn
    · show c ∈ ksM (delM s.2.2.1 b ++ [_]) ∨ _
      rw [ks_app]
      by_cases e : c = b
      · exact .inl (List.mem_append_right _ (List.mem_singleton.mpr e))
      · rcases I.al c c0 c1 with h | h
        · exact .inl (List.mem_append_left _ (keys c h e))
        · exact .inr h
    · have ma : ∀ (l : List (Int × Tri)) (p : Int × Tri), muP N (l ++ [p]) = muP N l + (N.2.1.length + 1 - p.2.2.2.toNat) := fun l p => by unfold muP; rw [List.map_append, List.sum_append]; simp
      show muP N (delM s.2.2.1 b ++ [_]) < _
      rw [ma, mp, mc]
      show muP N (delM s.2.2.1 b) + (N.2.1.length + 1 - (k + 1).toNat) < _
      omega
/-! the ball that is least; paths of deeds -/
def Lst (s : PSt) (b : Int) (v : Tri) : Prop := getM s.2.2.1 b = some v ∧ ∀ p ∈ s.2.2.1, v.1 < p.2.1 ∨ v.1 = p.2.1 ∧ b ≤ p.1
inductive GoP (N : Net) (runs : List Tri) : PSt → PSt → Nat → Prop
  | nil {s : PSt} : GoP N runs s s 0
  | cons {s t : PSt} {b : Int} {v : Tri} {n : Nat} : Lst s b v → GoP N runs (deedL N runs s b v) t n → GoP N runs s t (n + 1)
theorem GoP.app {N : Net} {runs : List Tri} {s t u : PSt} {m n : Nat} (h : GoP N runs s t m) (h2 : GoP N runs t u n) : GoP N runs s u (m + n) := by
  induction h with
  | nil => rw [Nat.zero_add]; exact h2
  | cons l _ ih => rw [show ∀ a b : Nat, a + 1 + b = a + b + 1 by omega]; exact .cons l (ih h2)
theorem GoP.few {N : Net} (g : GoodN N) {runs : List Tri} {s t : PSt} {n : Nat} (h : GoP N runs s t n) (I : PsOk N runs s) : PsOk N runs t ∧ n + muP N t.2.2.1 ≤ muP N s.2.2.1 := by
  induction h with
  | nil => exact ⟨I, by omega⟩
  | cons l _ ih =>
    obtain ⟨J, m⟩ := deed_ok g I l.1
    obtain ⟨K, k⟩ := ih J
    exact ⟨K, by omega⟩
theorem del_get {τ : Type} {l : List (Int × τ)} {b c : Int} (h : c ≠ b) (nd : (ksM l).Nodup) {v : τ} (hc : getM l c = some v) : (c, v) ∈ delM l b := del_mem.mpr ⟨getM_mem hc, h⟩
theorem get_of {τ : Type} : ∀ {l : List (Int × τ)}, (ksM l).Nodup → ∀ {k : Int} {v : τ}, (k, v) ∈ l → getM l k = some v := fun {l} nd {k v} h => by
  cases hg : getM l k with
  | none =>
    have := getM_some.mpr (List.mem_map.mpr ⟨_, h, rfl⟩ : k ∈ ksM l)
    rw [hg] at this
    cases this
  | some w =>
    have h2 := getM_mem hg
    have p := del_perm nd h
    rcases List.mem_cons.mp (p.mem_iff.mp h2) with e | e
    · cases e; rfl
    · exact absurd (List.mem_map.mpr ⟨_, e, rfl⟩) (del_no l k)
/-- what is due after a deed: others as before, the ball itself later -/
theorem due_after {N : Net} {runs : List Tri} {s : PSt} (I : PsOk N runs s) (hp : ∀ r ∈ runs, 1 ≤ r.2.2) {b : Int} {v : Tri} (hb : getM s.2.2.1 b = some v) : ∀ p ∈ (deedL N runs s b v).2.2.1, (p ∈ s.2.2.1 ∧ p.1 ≠ b) ∨ (p.1 = b ∧ v.1 < p.2.1) := fun p hp2 => by
  obtain ⟨⟨b0, b1⟩, _⟩ := I.dv _ (getM_mem hb)
  have b0 : 0 ≤ b := b0
  have b1 : b < runs.length := b1
  have hr : 1 ≤ (runs.getD b.toNat (0, 0, 0)).2.2 := by
    have hl : b.toNat < runs.length := by omega
    rw [List.getD_eq_getElem?_getD, List.getElem?_eq_getElem hl]
    exact hp _ (List.getElem_mem hl)
  unfold deedL at hp2
  generalize aheadL N.2.1 v.2.1 v.2.2 = A at hp2
  cases A with
  | nil => exact .inl (del_mem.mp hp2)
  | cons k ks =>
    rcases List.mem_append.mp (show p ∈ delM s.2.2.1 b ++ [_] from hp2) with z | z
    · exact .inl (del_mem.mp z)
    · rw [List.mem_singleton.mp z]
      exact .inr ⟨rfl, by show v.1 < v.1 + _; omega⟩
theorem due_keeps {N : Net} {runs : List Tri} {s : PSt} {b : Int} {v : Tri} {p : Int × Tri} (hp : p ∈ s.2.2.1) (hne : p.1 ≠ b) : p ∈ (deedL N runs s b v).2.2.1 := by
  have z := del_mem.mpr ⟨hp, hne⟩
  unfold deedL
  generalize aheadL N.2.1 v.2.1 v.2.2 = A
  cases A with
  | nil => exact z
  | cons k ks => exact List.mem_append_left _ z
/-- the law's turn: all balls of one moment, in order -/
theorem batch_w {N : Net} (g : GoodN N) {runs : List Tri} (hr : runs.length ≤ 1000) (hp : ∀ r ∈ runs, 1 ≤ r.2.2) (now : Int) : ∀ (bs : List Int) (s : PSt), PsOk N runs s → bs.Pairwise (fun a b => a < b) → (∀ b ∈ bs, ∃ v, (b, v) ∈ s.2.2.1 ∧ v.1 = now) → (∀ p ∈ s.2.2.1, now < p.2.1 ∨ now = p.2.1 ∧ p.1 ∈ bs) →
    ∃ t, lpN (lawDeed N runs now) bs s = some t ∧ GoP N runs s t bs.length
  | [], s, _, _, _, _ => ⟨s, rfl, .nil⟩
  | b :: bs, s, I, so, h1, h2 => by
    obtain ⟨so1, so2⟩ := List.pairwise_cons.mp so
    obtain ⟨v, hv, hm⟩ := h1 b (List.mem_cons_self ..)
    have hg := get_of I.nd hv
    have e := deed_eq g hr I hg
    rw [hm] at e
    have L : Lst s b v := ⟨hg, fun p hp => by
      rcases h2 p hp with z | ⟨z, zb⟩
      · exact .inl (by omega)
      · refine .inr ⟨by omega, ?_⟩
        rcases List.mem_cons.mp zb with z | z
        · omega
        · have := so1 _ z; omega⟩
    obtain ⟨J, _⟩ := deed_ok g I hg
    obtain ⟨t, et, gt⟩ := batch_w g hr hp now bs (deedL N runs s b v) J so2 (fun c hc => by
      obtain ⟨w, hw, hwm⟩ := h1 c (List.mem_cons_of_mem _ hc)
      have := so1 c hc
      exact ⟨w, due_keeps hw (by show c ≠ b; omega), hwm⟩) fun p hpp => by
      rcases due_after I hp hg p hpp with ⟨z, zne⟩ | ⟨_, z⟩
      · rcases h2 p z with y | ⟨y, yb⟩
        · exact .inl y
        · rcases List.mem_cons.mp yb with q | q
          · exact absurd q zne
          · exact .inr ⟨y, q⟩
      · exact .inl (by omega)
    exact ⟨t, by rw [lpN, e, Option.bind_some, et], .cons L gt⟩
/-! ran's turn is the least ball's deed -/
abbrev RSt := List Int × List Int × List (Option Tri) × List (List Int)
def encB (p : Int × Tri) : List Int := [p.2.1, p.1, p.2.2.1, p.2.2.2 - 1]
structure RelP (runs : List Tri) (s : PSt) (r : RSt) : Prop where
  t : r.1 = s.1
  c : r.2.1 = s.2.1
  f : r.2.2.1 = (rngI 0 runs.length).map (getM s.2.2.2)
  m : r.2.2.2.Perm (s.2.2.1.map encB)
def ranF (N : Net) (runs : List Tri) : RSt → Option (Option (Lf RSt (List (Option Tri)))) := fun s45 => if (!decide (s45.2.2.2 = ([] : (List (List Int))))) = true then (((minVO s45.2.2.2)).bind fun t51 => ((idxG s45.2.2.2 t51)).bind fun t52 => ((popT s45.2.2.2 t52)).bind fun t54 => ((un4 t54.1)).bind fun t55 => ((p_fork_behind N t55.2.2.1 t55.2.2.2)).bind fun fork => if (decide (fork = (N.2.1.length : Int))) = true then ((idxT N.2.2 t55.2.2.1)).bind fun end_ => ((atI s45.2.1 end_)).bind fun t78 => ((mulT N.1 t78)).bind fun t80 => ((setT s45.2.2.1 t55.2.1 (some ((end_ + t80), end_, t55.1)))).bind fun found => ((atI s45.2.1 end_)).bind fun t91 => ((setT s45.2.1 end_ (t91 + (1 : Int)))).bind fun came_out => some (.go (s45.1, came_out, found, t54.2)) else ((atI runs t55.2.1)).bind fun t99 => ((atI N.2.1 fork)).bind fun t109 => ((atI s45.1 fork)).bind fun t112 => ((atP t109 t112)).bind fun t114 => ((appT t54.2 [(t55.1 + t99.2.2), t55.2.1, t114, fork])).bind fun moving => ((atI s45.1 fork)).bind fun t123 => ((setT s45.1 fork ((1 : Int) - t123))).bind fun turns => some (.go (turns, s45.2.1, s45.2.2.1, moving))).bind fun w => some (some w) else some none
theorem onl_eq : ∀ (fs : List (Int × Int)) (k : Nat) (l : Int), (List.map (fun y => y.1) ((enumT k fs).filter fun y : Int × (Int × Int) => ((decide (y.2.1 = l) || decide (y.2.2 = l))))) = (rngI (k : Int) fs.length).filter fun j : Int => onF' l (fs.getD (j - (k : Int)).toNat (0, 0))
  | [], k, l => rfl
  | p :: fs, k, l => by
    have hr : rngI (k : Int) (p :: fs).length = (k : Int) :: rngI ((k + 1 : Nat) : Int) fs.length := by
      unfold rngI
      rw [List.length_cons, List.range_succ_eq_map, List.map_cons, List.map_map]
      refine congr (congrArg List.cons (by simp)) (List.map_congr_left fun i _ => ?_)
      show (k : Int) + ((i + 1 : Nat) : Int) = ((k + 1 : Nat) : Int) + (i : Int)
      omega
    have ih := onl_eq fs (k + 1) l
    have tail : ((rngI ((k + 1 : Nat) : Int) fs.length).filter fun j : Int => onF' l ((p :: fs).getD (j - (k : Int)).toNat (0, 0))) = (rngI ((k + 1 : Nat) : Int) fs.length).filter fun j : Int => onF' l (fs.getD (j - ((k + 1 : Nat) : Int)).toNat (0, 0)) := by
      refine List.filter_congr fun j hj => ?_
      have hj := rngI_mem hj
      rw [show (j - (k : Int)).toNat = (j - ((k + 1 : Nat) : Int)).toNat + 1 by omega, List.getD_cons_succ]
    have e0 : onF' l ((p :: fs).getD ((k : Int) - (k : Int)).toNat (0, 0)) = onF' l p := by
      rw [show ((k : Int) - (k : Int)).toNat = 0 by omega]; rfl
    have he : enumT k (p :: fs) = ((k : Int), p) :: enumT (k + 1) fs := rfl
    rw [hr, he]
    cases c : onF' l p with
    | true =>
      rw [List.filter_cons_of_pos (by exact c), List.filter_cons_of_pos (by rw [e0]; exact c), List.map_cons, ih, tail]
    | false =>
      have c2 : (decide (p.1 = l) || decide (p.2 = l)) = false := c
      rw [List.filter_cons_of_neg (by simp only [c2]; simp), List.filter_cons_of_neg (by rw [e0, c]; simp), ih, tail]
theorem onlane_w {N : Net} (g : GoodN N) (l : Int) : p_on_lane N l = some ((rngI 0 N.2.1.length).filter (hitL N.2.1 l)) := by
  have many := g.many
  unfold p_on_lane
  have hl : (enumT 0 N.2.1).length ≤ 1000000 := by
    have : ∀ (fs : List (Int × Int)) (k : Nat), (enumT k fs).length = fs.length := fun fs => by
      induction fs with
      | nil => intro _; rfl
      | cons p fs ih => intro k; rw [enumT, List.length_cons, ih, List.length_cons]
    rw [this]; omega
  rw [lim_of hl]
  have := onl_eq N.2.1 0 l
  refine congrArg some (this.trans (List.filter_congr fun j hj => ?_))
  show onF' l (N.2.1.getD (j - ((0 : Nat) : Int)).toNat (0, 0)) = onF' l (N.2.1.getD j.toNat (0, 0))
  rw [show j - ((0 : Nat) : Int) = j by omega]
theorem rng_split : ∀ (n : Nat) (a : Int), 0 ≤ a → a ≤ n → rngI 0 n = rngI 0 a.toNat ++ rngI a ((n : Int) - a).toNat := fun n a h0 h1 => by
  obtain ⟨k, rfl⟩ : ∃ k : Nat, a = k := ⟨a.toNat, by omega⟩
  obtain ⟨m, rfl⟩ : ∃ m : Nat, n = k + m := ⟨n - k, by omega⟩
  have e : (((k + m : Nat) : Int) - (k : Int)).toNat = m := by omega
  rw [e, Int.toNat_natCast]
  unfold rngI
  rw [List.range_add, List.map_append, List.map_map]
  congr 1
  refine List.map_congr_left fun i _ => ?_
  show (0 : Int) + ((k + i : Nat) : Int) = (k : Int) + (i : Int)
  omega
theorem lp_first {ρ : Type} (c : Int → Bool) : ∀ (ys : List Int), lpR (ρ := Int) (fun (_ : Unit) (fork : Int) => if c fork = true then some (Lf.ret fork) else some (.go ())) ys () = some (match ys.filter c with | [] => .go () | k :: _ => .ret k)
  | [] => rfl
  | y :: ys => by
    rw [lpR]
    cases h : c y with
    | true => rw [if_pos rfl, List.filter_cons_of_pos h]; rfl
    | false => rw [if_neg (by simp), List.filter_cons_of_neg (by simp [h]), Option.bind_some]; exact lp_first (ρ := ρ) c ys
theorem behindF_w {N : Net} (g : GoodN N) {l a : Int} (a0 : 0 ≤ a) (a1 : a ≤ N.2.1.length) : p_fork_behind N l (a - 1) = some (match aheadL N.2.1 l a with | [] => (N.2.1.length : Int) | k :: _ => k) := by
  unfold p_fork_behind
  rw [onlane_w g, Option.bind_some, lp_first (ρ := Int) (fun fork => decide (a - 1 < fork)), Option.bind_some]
  have e : ((rngI 0 N.2.1.length).filter (hitL N.2.1 l)).filter (fun fork => decide (a - 1 < fork)) = aheadL N.2.1 l a := by
    rw [List.filter_filter, rng_split _ a a0 a1, List.filter_append]
    have e1 : (rngI 0 a.toNat).filter (fun k => decide (a - 1 < k) && hitL N.2.1 l k) = [] := by
      rw [List.filter_eq_nil_iff]
      intro k hk
      have := rngI_mem hk
      rw [Bool.and_eq_true, decide_eq_true_eq]
      omega
    rw [e1, List.nil_append]
    unfold aheadL
    refine List.filter_congr fun k hk => ?_
    have := rngI_mem hk
    rw [decide_eq_true (by omega), Bool.true_and]
  rw [e]
  cases aheadL N.2.1 l a with
  | nil => rfl
  | cons k ks => rfl
theorem setO {α : Type} {xs : List α} {i : Int} {v : α} (h0 : 0 ≤ i) (h1 : i < xs.length) : setT xs i v = some (xs.set i.toNat v) := by
  unfold setT
  rw [ixN_nn h0 h1]
  rfl
theorem get_app {τ : Type} {l : List (Int × τ)} {b : Int} {x : τ} (hn : b ∉ ksM l) (nd : (ksM l).Nodup) (c : Int) : getM (l ++ [(b, x)]) c = if c = b then some x else getM l c := by
  have nd2 : (ksM (l ++ [(b, x)])).Nodup := by rw [ks_app]; exact nd_app nd hn
  by_cases e : c = b
  · subst e
    rw [if_pos rfl]
    exact get_of nd2 (List.mem_append_right _ (List.mem_singleton.mpr rfl))
  · rw [if_neg e]
    cases hg : getM l c with
    | some w => exact get_of nd2 (List.mem_append_left _ (getM_mem hg))
    | none =>
      cases hg2 : getM (l ++ [(b, x)]) c with
      | none => rfl
      | some w =>
        rcases List.mem_append.mp (getM_mem hg2) with z | z
        · rw [get_of nd z] at hg; cases hg
        · have := List.mem_singleton.mp z
          cases this
          exact absurd rfl e
theorem found_set {τ : Type} {l : List (Int × τ)} {n : Nat} {b : Int} {x : τ} (hn : b ∉ ksM l) (nd : (ksM l).Nodup) (b0 : 0 ≤ b) (b1 : b < n) : ((rngI 0 n).map (getM l)).set b.toNat (some x) = (rngI 0 n).map (getM (l ++ [(b, x)])) := by
  refine List.ext_getElem (by simp) fun i h1 h2 => ?_
  have hi : i < (rngI 0 n).length := by simpa using h2
  have e := (rngI_get (List.getElem?_eq_getElem hi)).1
  rw [List.getElem_map, List.getElem_set, List.getElem_map, get_app hn nd]
  by_cases c : b.toNat = i
  · rw [if_pos c, if_pos (by omega)]
  · rw [if_neg c, if_neg (by omega)]
theorem ran_step {N : Net} (g : GoodN N) {runs : List Tri} (hr : runs.length ≤ 1000) {s : PSt} (I : PsOk N runs s) {r : RSt} (R : RelP runs s r) {b : Int} {v : Tri} (L : Lst s b v) : ∃ r', ranF N runs r = some (some (.go r')) ∧ RelP runs (deedL N runs s b v) r' := by
  obtain ⟨r1, r2, r3, mv⟩ := r
  obtain ⟨e1, e2, e3, pm⟩ := R
  have e1 : r1 = s.1 := e1
  have e2 : r2 = s.2.1 := e2
  have e3 : r3 = (rngI 0 runs.length).map (getM s.2.2.2) := e3
  have pm : mv.Perm (s.2.2.1.map encB) := pm
  subst e1; subst e2; subst e3
  have l1 := g.l1
  have l16 := g.l16
  have many := g.many
  have hmem : (b, v) ∈ s.2.2.1 := getM_mem L.1
  obtain ⟨⟨b0, b1⟩, ⟨v0, v1⟩, a0, a1⟩ := I.dv _ hmem
  have b0 : 0 ≤ b := b0
  have b1 : b < runs.length := b1
  have v0 : 0 ≤ v.2.1 := v0
  have v1 : v.2.1 < N.1 := v1
  have a0 : 0 ≤ v.2.2 := a0
  have a1 : v.2.2 ≤ N.2.1.length := a1
  have tl := I.tl
  have cl := I.cl
  have hz0 : encB (b, v) ∈ mv := pm.mem_iff.mpr (List.mem_map.mpr ⟨_, hmem, rfl⟩)
  have hne : mv ≠ [] := List.ne_nil_of_mem hz0
  obtain ⟨z, ez, zm, zl⟩ := minVO_lst hne
  have hz : z = encB (b, v) := by
    obtain ⟨p, hp, rfl⟩ := List.mem_map.mp (pm.mem_iff.mp zm)
    have lt := zl _ hz0
    have pp : p = (b, v) := by
      unfold encB at lt
      rw [ltV_cons] at lt
      rcases L.2 p hp with q | ⟨q, qb⟩
      · rw [if_neg (by show v.1 ≠ p.2.1; omega)] at lt
        have := of_decide_eq_false lt
        exact absurd q this
      · rw [if_pos q, ltV_cons] at lt
        by_cases c : b = p.1
        · have h1 := get_of I.nd (show (p.1, p.2) ∈ s.2.2.1 from hp)
          rw [← c, L.1] at h1
          cases h1
          rw [c]
        · rw [if_neg c] at lt
          have := of_decide_eq_false lt
          omega
    rw [pp]
  subst hz
  obtain ⟨j, hj⟩ : ∃ j, mv.findIdx? (fun y => decide (y = encB (b, v))) = some j := by
    cases hh : mv.findIdx? (fun y => decide (y = encB (b, v))) with
    | some j => exact ⟨j, rfl⟩
    | none =>
      have := List.findIdx?_eq_none_iff.mp hh _ hz0
      simp at this
  obtain ⟨hj1, hj2, _⟩ := List.findIdx?_eq_some_iff_getElem.mp hj
  have hj2 : mv[j] = encB (b, v) := of_decide_eq_true hj2
  have ei : idxG mv (encB (b, v)) = some (j : Int) := by unfold idxG; rw [hj]; rfl
  have du : s.2.2.1.length ≤ runs.length := few_keys I.nd fun c hc => by
    obtain ⟨p, hp, rfl⟩ := List.mem_map.mp hc
    exact (I.dv p hp).1
  have ml : mv.length ≤ 1000 := by rw [pm.length_eq, List.length_map]; omega
  have ep : popT mv (j : Int) = some (encB (b, v), mv.eraseIdx j) := by
    rw [popT_of (by omega) (by omega) (by omega)]
    simp only [Int.toNat_natCast, hj2]
  have pe : (mv.eraseIdx j).Perm ((delM s.2.2.1 b).map encB) := by
    have p1 := perm_pop mv [] j hj1
    rw [List.nil_append, List.append_nil, hj2] at p1
    have p2 := (del_perm I.nd hmem).map encB
    have p3 : (encB (b, v) :: mv.eraseIdx j).Perm (encB (b, v) :: (delM s.2.2.1 b).map encB) := (List.perm_append_singleton _ _).symm.trans (p1.trans (pm.trans p2))
    exact p3.cons_inv
  have el : (mv.eraseIdx j).length ≤ 1000 := by rw [List.length_eraseIdx_of_lt hj1]; omega
  have hn : b ∉ ksM s.2.2.2 := I.dj b (List.mem_map.mpr ⟨_, hmem, rfl⟩)
  have bf := behindF_w g (l := v.2.1) a0 a1
  have am := fun k (hk : k ∈ aheadL N.2.1 v.2.1 v.2.2) => ahead_mem hk a0
  unfold ranF deedL
  simp only []
  rw [if_pos (by rw [decide_eq_false hne]; rfl), ez, Option.bind_some, ei, Option.bind_some, ep, Option.bind_some, show un4 (encB (b, v)) = some (v.1, b, v.2.1, v.2.2 - 1) from rfl, Option.bind_some, bf, Option.bind_some]
  generalize aheadL N.2.1 v.2.1 v.2.2 = A at am
  cases A with
  | nil =>
    obtain ⟨q, q1, q2, _⟩ := end_of g v0 v1
    have qe := g.elen
    simp only []
    rw [if_pos (show decide True = true by simp), q1, Option.bind_some, atG 0 (by omega) (by omega), Option.bind_some, mulT_l (by omega) (by omega), Option.bind_some, setO b0 (by rw [List.length_map, rngI_len]; exact b1), Option.bind_some, Option.bind_some, setG (by omega) (by omega), Option.bind_some, Option.bind_some, found_set hn I.fn b0 b1]
    exact ⟨_, rfl, rfl, rfl, rfl, pe⟩
  | cons k ks =>
    obtain ⟨k0, k1, k2⟩ := am k (List.mem_cons_self ..)
    have t01 : s.1.getD k.toNat 0 = 0 ∨ s.1.getD k.toNat 0 = 1 := by
      have hl : k.toNat < s.1.length := by omega
      rw [List.getD_eq_getElem?_getD, List.getElem?_eq_getElem hl]
      exact I.t01 _ (List.getElem_mem hl)
    have hp : atP (N.2.1.getD k.toNat (0, 0)) (s.1.getD k.toNat 0) = some (nxtL 1 (s.1.getD k.toNat 0) (N.2.1.getD k.toNat (0, 0))) := by
      rcases t01 with z | z
      · rw [z, nx_p0]; exact at0 _ _
      · rw [z, nx_p1]; exact at1 _ _ _
    simp only []
    rw [if_neg (by rw [decide_eq_true_eq]; omega), atG (0, 0, 0) b0 b1, Option.bind_some, atG (0, 0) (by omega) k1, Option.bind_some, atG 0 (by omega) (by omega), Option.bind_some, hp, Option.bind_some, appT_of (by omega), Option.bind_some, Option.bind_some, setG (by omega) (by omega), Option.bind_some, Option.bind_some]
    refine ⟨_, rfl, rfl, rfl, rfl, ?_⟩
    show (mv.eraseIdx j ++ [_]).Perm ((delM s.2.2.1 b ++ [_]).map encB)
    rw [List.map_append]
    refine pe.append ?_
    show List.Perm [[v.1 + _, b, _, k]] [[v.1 + _, b, _, k + 1 - 1]]
    rw [show k + 1 - 1 = k by omega]
theorem ran_path {N : Net} (g : GoodN N) {runs : List Tri} (hr : runs.length ≤ 1000) {s t : PSt} {n : Nat} (h : GoP N runs s t n) : ∀ {r : RSt} {m : Nat}, PsOk N runs s → RelP runs s r → t.2.2.1 = [] → n < m → ∃ r', lpW (ranF N runs) m r = some (.go r') ∧ RelP runs t r' := by
  induction h with
  | nil =>
    intro r m _ R e hm
    have : r.2.2.2 = [] := by
      have := R.m
      rw [e] at this
      exact List.perm_nil.mp this
    obtain ⟨m, rfl⟩ : ∃ k, m = k + 1 := ⟨m - 1, by omega⟩
    refine ⟨r, ?_, R⟩
    rw [lpW]
    have : ranF N runs r = some none := by
      unfold ranF
      rw [if_neg (by rw [this]; simp)]
    rw [this]
    rfl
  | cons L _ ih =>
    intro r m I R e hm
    obtain ⟨m, rfl⟩ : ∃ k, m = k + 1 := ⟨m - 1, by omega⟩
    obtain ⟨r', er, R'⟩ := ran_step g hr I R L
    obtain ⟨r2, e2, R2⟩ := ih (deed_ok g I L.1).1 R' e (show _ < m by omega)
    exact ⟨r2, by rw [lpW, er, Option.bind_some]; exact e2, R2⟩
/-! k97: the law's loop; both tell the same -/
def lawF (N : Net) (runs : List Tri) : PSt → Option (Option (Lf PSt (List Tri))) := fun s46 => if (!s46.2.2.1.isEmpty) = true then (lim ((s46.2.2.1.map Prod.snd).length) (((minO (List.map (fun y => y.1) (s46.2.2.1.map Prod.snd)))).bind fun now => lim ((s46.2.2.1.map Prod.fst).length) (((lcS (fun (_ : Unit) one => ((getM s46.2.2.1 one)).bind fun t64 => if (decide (t64.1 = now)) = true then some (some one, ()) else some (none, ())) (s46.2.2.1.map Prod.fst) ())).bind fun t70 => ((lpN (lawDeed N runs now) (sortI t70.1) (s46.1, s46.2.1, s46.2.2.1, s46.2.2.2))).bind fun s74 => some (.go (s74.1, s74.2.1, s74.2.2.1, s74.2.2.2))))).bind fun w => some (some w) else some none
theorem pw_lt : ∀ {l : List Int}, l.Pairwise (fun a b => a ≤ b) → l.Nodup → l.Pairwise (fun a b => a < b) := fun {l} h nd => by
  induction l with
  | nil => exact .nil
  | cons x l ih =>
    obtain ⟨h1, h2⟩ := List.pairwise_cons.mp h
    obtain ⟨n1, n2⟩ := List.nodup_cons.mp nd
    refine List.pairwise_cons.mpr ⟨fun y hy => ?_, ih h2 n2⟩
    have := h1 y hy
    have : x ≠ y := fun e => n1 (by rw [e]; exact hy)
    omega
theorem law_turn {N : Net} (g : GoodN N) {runs : List Tri} (hr : runs.length ≤ 1000) (hp : ∀ r ∈ runs, 1 ≤ r.2.2) {s : PSt} (I : PsOk N runs s) (hne : s.2.2.1 ≠ []) : ∃ t n, lawF N runs s = some (some (.go t)) ∧ GoP N runs s t n ∧ 1 ≤ n := by
  have du : s.2.2.1.length ≤ runs.length := few_keys I.nd fun c hc => by
    obtain ⟨p, hp, rfl⟩ := List.mem_map.mp hc
    exact (I.dv p hp).1
  have mne : List.map (fun y : Tri => y.1) (s.2.2.1.map Prod.snd) ≠ [] := by simp [hne]
  obtain ⟨now, hnow⟩ : ∃ now, now = minL (List.map (fun y : Tri => y.1) (s.2.2.1.map Prod.snd)) := ⟨_, rfl⟩
  have least : ∀ p ∈ s.2.2.1, now ≤ p.2.1 := fun p hp => by
    rw [hnow]
    exact minL_le (List.mem_map.mpr ⟨p.2, List.mem_map.mpr ⟨p, hp, rfl⟩, rfl⟩)
  obtain ⟨c, hc⟩ : ∃ c : Int → Bool, c = fun y => decide (((getM s.2.2.1 y).getD (0, 0, 0)).1 = now) := ⟨_, rfl⟩
  have gk : ∀ p ∈ s.2.2.1, getM s.2.2.1 p.1 = some p.2 := fun p hp => get_of I.nd hp
  have ec : lcS (fun (_ : Unit) one => ((getM s.2.2.1 one)).bind fun t64 => if (decide (t64.1 = now)) = true then some (some one, ()) else some (none, ())) (s.2.2.1.map Prod.fst) () = some ((s.2.2.1.map Prod.fst).filter c, ()) := lcS_flt _ fun y hy => by
    obtain ⟨p, hp, rfl⟩ := List.mem_map.mp hy
    rw [gk p hp, Option.bind_some, hc]
    simp only [gk p hp, Option.getD_some]
  obtain ⟨bs, hbs⟩ : ∃ bs, bs = sortI ((s.2.2.1.map Prod.fst).filter c) := ⟨_, rfl⟩
  have pb : bs.Perm ((s.2.2.1.map Prod.fst).filter c) := by rw [hbs]; exact sortI_perm _
  have bm : ∀ b, b ∈ bs ↔ ∃ v, (b, v) ∈ s.2.2.1 ∧ v.1 = now := fun b => by
    rw [pb.mem_iff, List.mem_filter]
    constructor
    · rintro ⟨h1, h2⟩
      obtain ⟨p, hp, rfl⟩ := List.mem_map.mp h1
      rw [hc] at h2
      simp only [gk p hp, Option.getD_some, decide_eq_true_eq] at h2
      exact ⟨p.2, hp, h2⟩
    · rintro ⟨v, hv, hm⟩
      refine ⟨List.mem_map.mpr ⟨_, hv, rfl⟩, ?_⟩
      rw [hc]
      simp only [gk _ hv, Option.getD_some, decide_eq_true_eq]
      exact hm
  have so : bs.Pairwise (fun a b => a < b) := pw_lt (by rw [hbs]; exact sortI_rise _) (pb.nodup_iff.mpr (List.Nodup.sublist List.filter_sublist I.nd))
  obtain ⟨t, et, gt⟩ := batch_w g hr hp now bs s I so (fun b hb => (bm b).mp hb) fun p hp => by
    have := least p hp
    by_cases z : now = p.2.1
    · exact .inr ⟨z, (bm p.1).mpr ⟨p.2, hp, z.symm⟩⟩
    · exact .inl (by omega)
  refine ⟨t, bs.length, ?_, gt, ?_⟩
  · unfold lawF
    have z : s.2.2.1.isEmpty = false := by cases h : s.2.2.1 with
      | nil => exact absurd h hne
      | cons _ _ => rfl
    rw [if_pos (by rw [z]; rfl), lim_of (by rw [List.length_map]; omega), minO_of mne, Option.bind_some, ← hnow, lim_of (by rw [List.length_map]; omega), ec, Option.bind_some]
    rw [← hbs, show ((s.1, s.2.1, s.2.2.1, s.2.2.2) : PSt) = s from rfl, et]
    rfl
  · have m := minL_mem mne
    rw [← hnow] at m
    obtain ⟨v, hv, hv2⟩ := List.mem_map.mp m
    obtain ⟨p, hp, rfl⟩ := List.mem_map.mp hv
    have : p.1 ∈ bs := (bm p.1).mpr ⟨p.2, hp, hv2⟩
    exact List.length_pos_of_mem this
theorem law_loop {N : Net} (g : GoodN N) {runs : List Tri} (hr : runs.length ≤ 1000) (hp : ∀ r ∈ runs, 1 ≤ r.2.2) : ∀ (m : Nat) (s : PSt), PsOk N runs s → muP N s.2.2.1 < m → ∃ t n, lpW (lawF N runs) m s = some (.go t) ∧ GoP N runs s t n ∧ t.2.2.1 = []
  | 0, _, _, h => absurd h (Nat.not_lt_zero _)
  | m + 1, s, I, h => by
    by_cases c : s.2.2.1 = []
    · refine ⟨s, 0, ?_, .nil, c⟩
      have : lawF N runs s = some none := by unfold lawF; rw [if_neg (by rw [c]; simp)]
      rw [lpW, this]; rfl
    · obtain ⟨t, n, et, gt, hn⟩ := law_turn g hr hp I c
      obtain ⟨J, hm⟩ := gt.few g I
      obtain ⟨u, k, eu, gu, hu⟩ := law_loop g hr hp m t J (by omega)
      exact ⟨u, n + k, by rw [lpW, et, Option.bind_some]; exact eu, gt.app gu, hu⟩
def due0 (runs : List Tri) : List (Int × Tri) := List.map (fun y => (y.1, (y.2.2.1, y.2.1, (0 : Int)))) (enumT 0 runs)
theorem enum_ks : ∀ (xs : List Tri) (k : Nat), (enumT k xs).map Prod.fst = rngI (k : Int) xs.length
  | [], k => rfl
  | x :: xs, k => by
    rw [enumT, List.map_cons, enum_ks xs (k + 1)]
    unfold rngI
    rw [List.length_cons, List.range_succ_eq_map, List.map_cons, List.map_map]
    refine congr (congrArg List.cons (by simp)) (List.map_congr_left fun i _ => ?_)
    show ((k + 1 : Nat) : Int) + (i : Int) = (k : Int) + ((i + 1 : Nat) : Int)
    omega
theorem enum_mem : ∀ (xs : List Tri) (k : Nat) (p : Int × Tri), p ∈ enumT k xs → p.2 ∈ xs
  | [], _, _, h => by cases h
  | x :: xs, k, p, h => by
    rcases List.mem_cons.mp (show p ∈ ((k : Int), x) :: enumT (k + 1) xs from h) with rfl | h
    · exact List.mem_cons_self ..
    · exact List.mem_cons_of_mem _ (enum_mem xs (k + 1) p h)
theorem due0_ks (runs : List Tri) : ksM (due0 runs) = rngI 0 runs.length := by
  have := enum_ks runs 0
  unfold ksM due0
  rw [List.map_map]
  exact this
theorem rng_nd (a : Int) (n : Nat) : (rngI a n).Nodup := by
  unfold rngI
  refine List.Pairwise.map _ (fun x y h => ?_) (List.nodup_range (n := n))
  omega
structure RunsOk (N : Net) (runs : List Tri) : Prop where
  few : runs.length ≤ 24
  ok : ∀ r ∈ runs, (0 ≤ r.1 ∧ r.1 < N.1) ∧ 1 ≤ r.2.2
theorem start_ok {N : Net} {runs : List Tri} (R : RunsOk N runs) : PsOk N runs (List.replicate N.2.1.length 0, List.replicate N.1.toNat 0, due0 runs, []) := by
  refine ⟨by simp, fun t ht => .inl (List.eq_of_mem_replicate ht), by simp, by show (ksM (due0 runs)).Nodup; rw [due0_ks]; exact rng_nd _ _, fun p hp => ?_, by show (ksM ([] : List (Int × Tri))).Nodup; exact List.nodup_nil, (fun b _ z => by cases z), (fun b z => by cases z), fun b b0 b1 => .inl ?_⟩
  · have hk : p.1 ∈ ksM (due0 runs) := List.mem_map.mpr ⟨p, hp, rfl⟩
    rw [due0_ks] at hk
    have := rngI_mem hk
    obtain ⟨q, hq, rfl⟩ := List.mem_map.mp (show p ∈ List.map _ _ from hp)
    have z := (R.ok _ (enum_mem runs 0 q hq)).1
    exact ⟨by omega, z, Int.le_refl _, by show (0 : Int) ≤ _; omega⟩
  · show b ∈ ksM (due0 runs)
    rw [due0_ks]
    unfold rngI
    exact List.mem_map.mpr ⟨b.toNat, List.mem_range.mpr (by omega), by omega⟩
theorem enum_len (runs : List Tri) : (enumT 0 runs).length = runs.length := by
  have := congrArg List.length (enum_ks runs 0)
  rw [List.length_map, rngI_len] at this
  exact this
theorem mu_few {N : Net} (l : List (Int × Tri)) (h : N.2.1.length ≤ 128) : muP N l ≤ l.length * 129 := by
  induction l with
  | nil => simp [muP]
  | cons p l ih =>
    unfold muP at ih ⊢
    rw [List.map_cons, List.sum_cons, List.length_cons]
    omega
theorem rel_start {N : Net} (runs : List Tri) : RelP runs (List.replicate N.2.1.length 0, List.replicate N.1.toNat 0, due0 runs, []) (List.replicate N.2.1.length 0, List.replicate N.1.toNat 0, List.replicate runs.length none, List.map (fun y => [y.2.2.1, y.1, y.2.1, (-(1 : Int))]) (enumT 0 runs)) := by
  refine ⟨rfl, rfl, ?_, ?_⟩
  · show List.replicate runs.length none = (rngI 0 runs.length).map (getM [])
    refine (List.eq_replicate_iff.mpr ⟨by rw [List.length_map, rngI_len], fun x hx => ?_⟩).symm
    obtain ⟨y, _, rfl⟩ := List.mem_map.mp hx
    rfl
  · show List.Perm _ ((due0 runs).map encB)
    unfold due0
    rw [List.map_map]
    exact .refl _
theorem em_w (runs : List Tri) : mergeM [] (List.map (fun y => (y.1, (y.2.2.1, y.2.1, (0 : Int)))) (enumT 0 runs)) = due0 runs := by
  have := merge_new (due0 runs) [] (by rw [due0_ks]; exact rng_nd _ _) (fun _ _ z => by cases z)
  rw [List.nil_append] at this
  exact this
theorem lawran_w {N : Net} (g : GoodN N) {runs : List Tri} (hr : runs.length ≤ 1000) {t : PSt} {M : Nat} (hM : M = 20 * 256) {xs : Int → Tri} (et : lpW (lawF N runs) M (List.replicate N.2.1.length 0, List.replicate N.1.toNat 0, due0 runs, []) = some (.go t)) (all : ∀ b ∈ rngI 0 runs.length, getM t.2.2.2 b = some (xs b)) : p__law_ran 20 N runs = some ((rngI 0 runs.length).map xs) := by
  have l1 := g.l1
  have l16 := g.l16
  have many := g.many
  unfold p__law_ran
  rw [repT_1 (by omega), Option.bind_some, repT_1 (by omega), Option.bind_some, lim_of (by rw [enum_len]; omega), em_w, Option.bind_some, Option.bind_some, Int.toNat_natCast]
  unfold lawF lawDeed at et
  rw [← hM, et, Option.bind_some]
  rw [Lf.on_go, rngO_of (by omega), Option.bind_some, Int.toNat_natCast, lim_of (by rw [rngI_len]; omega), mapO_eq (g := xs) fun b hb => by rw [all b hb, Option.bind_some], Option.bind_some]
theorem ranran_w {N : Net} (g : GoodN N) {runs : List Tri} (hr : runs.length ≤ 1000) {r : RSt} {M : Nat} (hM : M = 20 * 256) (er : lpW (ranF N runs) M (List.replicate N.2.1.length 0, List.replicate N.1.toNat 0, List.replicate runs.length none, List.map (fun y => [y.2.2.1, y.1, y.2.1, (-(1 : Int))]) (enumT 0 runs)) = some (.go r)) : p_ran 20 N runs = some r.2.2.1 := by
  have l1 := g.l1
  have l16 := g.l16
  have many := g.many
  unfold p_ran
  rw [repT_1 (by omega), Option.bind_some, repT_1 (by omega), Option.bind_some, repT_1 (by omega), Option.bind_some, lim_of (by rw [enum_len]; omega), Int.toNat_natCast, Int.toNat_natCast]
  unfold ranF at er
  rw [← hM, er, Option.bind_some]
  rfl
theorem both_w {N : Net} (g : GoodN N) {runs : List Tri} (R : RunsOk N runs) : ∃ xs : List Tri, xs.length = runs.length ∧ p__law_ran 20 N runs = some xs ∧ p_ran 20 N runs = some (xs.map some) := by
  have many := g.many
  have few := R.few
  have I := start_ok R
  have hr : runs.length ≤ 1000 := by omega
  have dl : (due0 runs).length = runs.length := by unfold due0; rw [List.length_map, enum_len]
  obtain ⟨M, hM⟩ : ∃ M : Nat, M = 20 * 256 := ⟨_, rfl⟩
  have mu : muP N (due0 runs) < M := by
    have := mu_few (due0 runs) many
    rw [dl] at this
    omega
  obtain ⟨t, n, et, gt, ht⟩ := law_loop g hr (fun r h => (R.ok r h).2) M _ I mu
  obtain ⟨J, hn⟩ := gt.few g I
  have hn : n + muP N t.2.2.1 ≤ muP N (due0 runs) := hn
  obtain ⟨r', er, Q⟩ := ran_path g hr gt I (rel_start runs) ht (show n < M by omega)
  have all : ∀ b ∈ rngI 0 runs.length, getM t.2.2.2 b = some ((getM t.2.2.2 b).getD (0, 0, 0)) := fun b hb => by
    have hb := rngI_mem hb
    rcases J.al b (by omega) (by omega) with z | z
    · rw [ht] at z; cases z
    · have := getM_some.mpr z
      cases hg : getM t.2.2.2 b with
      | none => rw [hg] at this; cases this
      | some w => rfl
  refine ⟨(rngI 0 runs.length).map fun b => (getM t.2.2.2 b).getD (0, 0, 0), by rw [List.length_map, rngI_len], lawran_w g hr hM et all, ?_⟩
  rw [ranran_w g hr hM er, Q.f, List.map_map]
  exact congrArg some (List.map_congr_left fun b hb => all b hb)
theorem of1_w {s xs : List Int} (h : St2 s) (h0 : xs ≠ []) (h1 : xs.length ≤ 100) : Sp (p__law_of__at1 s xs) (fun r => r.1 ∈ xs ∧ St2 r.2) := by
  have : 0 < xs.length := List.length_pos_iff.mpr h0
  unfold p__law_of__at1
  refine w_bind (pick_w h (by omega) (by omega)) fun u ⟨i0, i1, t⟩ => ?_
  exact w_bind (w_atI i0 i1) fun q hq => w_some ⟨hq, t⟩
theorem of2_w {s xs : List Int} (h : St2 s) (h0 : xs ≠ []) (h1 : xs.length ≤ 100) : Sp (p__law_of__at2 s xs) (fun r => r.1 ∈ xs ∧ St2 r.2) := of1_w h h0 h1
theorem of3_w {s xs : List Int} (h : St2 s) (h0 : xs ≠ []) (h1 : xs.length ≤ 100) : Sp (p__law_of__at3 s xs) (fun r => r.1 ∈ xs ∧ St2 r.2) := of1_w h h0 h1
theorem of4_w {s xs : List Int} (h : St2 s) (h0 : xs ≠ []) (h1 : xs.length ≤ 100) : Sp (p__law_of__at4 s xs) (fun r => r.1 ∈ xs ∧ St2 r.2) := of1_w h h0 h1
theorem lanes_w {s : List Int} (h : St2 s) : Sp (p__law_lanes s) (fun r => 1 ≤ r.1 ∧ r.1 ≤ 16 ∧ St2 r.2) := by
  unfold p__law_lanes
  refine w_bind (of1_w h (by simp) (by simp)) fun r ⟨hr, hs⟩ => w_some ?_
  have : ∀ x ∈ [(1 : Int), 2, 2, 3, 4, 5, 6, 16], 1 ≤ x ∧ x ≤ 16 := by decide
  exact ⟨(this _ hr).1, (this _ hr).2, hs⟩
theorem tenO_w {k : Int} (h0 : 0 ≤ k) (h1 : k < 29) : Sp (tenO k) (fun v => 1 ≤ v ∧ v ≤ 10000000000000000000000000000) := by
  have e : ∀ i : Fin 29, 1 ≤ (10 : Int) ^ i.1 ∧ (10 : Int) ^ i.1 ≤ 10000000000000000000000000000 := by decide +kernel
  unfold tenO
  rw [if_pos ⟨h0, by omega⟩]
  exact w_some (e ⟨k.toNat, by omega⟩)
theorem runs_w {s : List Int} (h : St2 s) {N : Net} (g : GoodN N) : Sp (p__law_runs s N 24) (fun r => RunsOk N r.1 ∧ St2 r.2) := by
  have l1 := g.l1
  have l16 := g.l16
  unfold p__law_runs
  refine w_bind (pick_w h (by decide) (by decide)) fun u ⟨u0, u1, s1⟩ => ?_
  rw [Option.bind_some]
  refine w_bind (of2_w s1 (by simp) (by simp)) fun m ⟨hm, s2⟩ => ?_
  have hm : 0 ≤ m.1 ∧ m.1 ≤ 24 := by
    simp only [List.mem_cons, List.not_mem_nil, or_false] at hm
    omega
  rw [rngO_of (by omega), Option.bind_some]
  refine w_bind (w_lpN (fun i (st : List Int × List Tri) => St2 st.1 ∧ st.2.length = i ∧ ∀ r ∈ st.2, (0 ≤ r.1 ∧ r.1 < N.1) ∧ 1 ≤ r.2.2) ⟨s2, rfl, fun r hr => by cases hr⟩ fun i st y hy ⟨q1, q2, q3⟩ => ?_) fun st ⟨q1, q2, q3⟩ => ?_
  · obtain ⟨y1, y2⟩ := rngI_get hy
    refine w_bind (w_atI u0 (by simpa using u1)) fun few hfew => ?_
    have hfew : 1 ≤ few ∧ few ≤ 400 := by
      simp only [List.mem_cons, List.not_mem_nil, or_false] at hfew
      omega
    refine w_bind (pick_w q1 (by omega) (by omega)) fun a ⟨a0, a1, s3⟩ => ?_
    refine w_bind (pick_w s3 (by decide) (by decide)) fun d ⟨d0, d1, s4⟩ => ?_
    refine w_bind (P := fun x => St2 x.1) ?_ fun x hx => ?_
    · refine w_ite (fun _ => ?_) fun _ => w_some s4
      refine w_bind (pick_w s4 (by decide) (by decide)) fun k ⟨k0, k1, s5⟩ => ?_
      refine w_bind (tenO_w k0 k1) fun t _ => ?_
      rw [Option.bind_some]
      exact w_some s5
    refine w_bind (of3_w hx (by simp) (by simp)) fun e ⟨he, s6⟩ => ?_
    have he : 1 ≤ e.1 ∧ e.1 ≤ 1000000 := by
      simp only [List.mem_cons, List.not_mem_nil, or_false] at he
      omega
    refine w_bind (pick_w s6 (by omega) (by omega)) fun p ⟨p0, p1, s7⟩ => ?_
    rw [Option.bind_some]
    refine w_bind (pick_w s7 (by omega) (by omega)) fun l ⟨b0, b1, s8⟩ => ?_
    rw [appT_of (by omega), Option.bind_some]
    refine w_some ⟨s8, by simp [q2], fun r hr => ?_⟩
    rcases List.mem_append.mp hr with z | z
    · exact q3 r z
    · rw [List.mem_singleton.mp z]
      exact ⟨⟨b0, b1⟩, by show 1 ≤ 1 + p.1; omega⟩
  · rw [rngI_len] at q2
    exact w_some ⟨⟨(show st.2.length ≤ 24 by omega), q3⟩, q1⟩
theorem same97 {xs : List Tri} (h : xs.length ≤ 24) : sameI 20 (eT (eO (eQ eI eI eI))) (xs.map some) (xs.map some) = some true := by
  refine sameI_some rfl ?_
  have : eT (eO (eQ eI eI eI)) (xs.map some) = eT (eQ eI eI eI) xs := by
    show PyData.tuple ((xs.map some).map (eO (eQ eI eI eI))) = .tuple (xs.map (eQ eI eI eI))
    rw [List.map_map]
    rfl
  rw [this]
  exact sdatI_T (puQ puI puI puI) (by omega) fun x _ => sdatI_Q puI puI puI (sdatI_I _ _) (sdatI_I _ _) (sdatI_I _ _)
theorem p_law_true (ns : List Int) (hlen : ns.length ≤ 63) : p_law 20 ns = some true := by
  have key : Sp (p_law 20 ns) fun b => b = true := by
    unfold p_law
    rw [rngO_of (by omega), Option.bind_some]
    refine w_bind (w_lpR (fun _ (_ : Unit) => True) trivial fun i s k hk _ => ?_) fun w hw => ?_
    · obtain ⟨k1, k2⟩ := rngI_get hk
      refine w_bind (left_w ns k (by omega) (by omega)) fun s0 h0 => ?_
      refine w_bind (lanes_w h0) fun r ⟨r1, r2, h1⟩ => ?_
      refine w_bind (of4_w h1 (by simp) (by simp)) fun m ⟨hm, h2⟩ => ?_
      have hm : 0 ≤ m.1 ∧ m.1 ≤ 30 := by
        simp only [List.mem_cons, List.not_mem_nil, or_false] at hm
        omega
      refine w_bind (netP_w (by decide) h2 r1 r2 hm.1 (by omega)) fun N ⟨g, _, h3⟩ => ?_
      refine w_bind (w_lpR (fun _ (s : List Int) => St2 s) h3 fun j s y hy hs => ?_) fun w hw => ?_
      · refine w_bind (runs_w hs g) fun q ⟨R, h4⟩ => ?_
        obtain ⟨xs, xl, e1, e2⟩ := both_w g R
        have few := R.few
        refine w_eq e1 ?_
        refine w_bind (w_lpR (fun _ (_ : Unit) => True) trivial fun i s y _ _ => ?_) fun w hw => ?_
        · refine w_eq e2 (w_eq (same97 (by omega)) ?_)
          rw [if_neg (by simp)]
          exact w_go trivial
        · obtain ⟨s, rfl, _⟩ := hw
          exact w_go h4
      · obtain ⟨s, rfl, _⟩ := hw
        exact w_go trivial
    · obtain ⟨s, rfl, _⟩ := hw
      exact w_some rfl
  obtain ⟨b, e, rfl⟩ := key
  exact e
theorem law_holds : ∀ ns : List Int, ns.length ≤ 63 → ∃ as, f_law 20 [.dict [(.none, .list (ns.map .int))]] = .ok (.bool true) as := fun ns h => ⟨_, tok_law 20 ns true (p_law_true ns h)⟩
structure Txt (K : PySem.W.Frag) (mg : Str → Option Value) where
  a_on_lane : Addr
  d_on_lane : FuncData
  F_on_lane : Fun K "on_lane" "on_lane" s_on_lane a_on_lane d_on_lane
  g_on_lane : mg "on_lane" = some (.ref a_on_lane)
  b_on_lane : Binds K d_on_lane ["net", "lane"] []
  a_fork_behind : Addr
  d_fork_behind : FuncData
  F_fork_behind : Fun K "fork_behind" "fork_behind" s_fork_behind a_fork_behind d_fork_behind
  g_fork_behind : mg "fork_behind" = some (.ref a_fork_behind)
  b_fork_behind : Binds K d_fork_behind ["net", "lane", "number"] []
  a_ran : Addr
  d_ran : FuncData
  F_ran : Fun K "ran" "ran" s_ran a_ran d_ran
  g_ran : mg "ran" = some (.ref a_ran)
  b_ran : Binds K d_ran ["net", "runs"] []
  a__law_cell_at : Addr
  d__law_cell_at : FuncData
  F__law_cell_at : Fun K "_law_cell_at" "_law_cell_at" s__law_cell_at a__law_cell_at d__law_cell_at
  g__law_cell_at : mg "_law_cell_at" = some (.ref a__law_cell_at)
  b__law_cell_at : Binds K d__law_cell_at ["_law_script", "_law_k"] []
  a__law_left : Addr
  d__law_left : FuncData
  F__law_left : Fun K "_law_left" "_law_left" s__law_left a__law_left d__law_left
  g__law_left : mg "_law_left" = some (.ref a__law_left)
  b__law_left : Binds K d__law_left ["_law_script", "_law_k"] []
  a__law_pick : Addr
  d__law_pick : FuncData
  F__law_pick : Fun K "_law_pick" "_law_pick" s__law_pick a__law_pick d__law_pick
  g__law_pick : mg "_law_pick" = some (.ref a__law_pick)
  b__law_pick : Binds K d__law_pick ["_law_left_here", "_law_many"] []
  a__law_of : Addr
  d__law_of : FuncData
  F__law_of : Fun K "_law_of" "_law_of" s__law_of a__law_of d__law_of
  g__law_of : mg "_law_of" = some (.ref a__law_of)
  b__law_of : Binds K d__law_of ["_law_left_here", "_law_some"] []
  a__law_placed : Addr
  d__law_placed : FuncData
  F__law_placed : Fun K "_law_placed" "_law_placed" s__law_placed a__law_placed d__law_placed
  g__law_placed : mg "_law_placed" = some (.ref a__law_placed)
  b__law_placed : Binds K d__law_placed ["_law_left_here", "_law_some"] []
  a__law_net : Addr
  d__law_net : FuncData
  F__law_net : Fun K "_law_net" "_law_net" s__law_net a__law_net d__law_net
  g__law_net : mg "_law_net" = some (.ref a__law_net)
  b__law_net : Binds K d__law_net ["_law_left_here", "_law_lanes_here", "_law_most"] []
  a__law_lanes : Addr
  d__law_lanes : FuncData
  F__law_lanes : Fun K "_law_lanes" "_law_lanes" s__law_lanes a__law_lanes d__law_lanes
  g__law_lanes : mg "_law_lanes" = some (.ref a__law_lanes)
  b__law_lanes : Binds K d__law_lanes ["_law_left_here"] []
  a__law_runs : Addr
  d__law_runs : FuncData
  F__law_runs : Fun K "_law_runs" "_law_runs" s__law_runs a__law_runs d__law_runs
  g__law_runs : mg "_law_runs" = some (.ref a__law_runs)
  b__law_runs : Binds K d__law_runs ["_law_left_here", "_law_net_here", "_law_most"] []
  a__law_ran : Addr
  d__law_ran : FuncData
  F__law_ran : Fun K "_law_ran" "_law_ran" s__law_ran a__law_ran d__law_ran
  g__law_ran : mg "_law_ran" = some (.ref a__law_ran)
  b__law_ran : Binds K d__law_ran ["_law_net_here", "_law_runs_here"] []
  a__law_same : Addr
  d__law_same : FuncData
  F__law_same : Fun K "_law_same" "_law_same" s__law_same a__law_same d__law_same
  g__law_same : mg "_law_same" = some (.ref a__law_same)
  b__law_same : Binds K d__law_same ["_law_found", "_law_due"] []
  a_law : Addr
  d_law : FuncData
  F_law : Fun K "law" "law" s_law a_law d_law
  g_law : mg "law" = some (.ref a_law)
  b_law : Binds K d_law ["_law_script"] []
  z_abs : mg "abs" = none
  z_all : mg "all" = none
  z_bool : mg "bool" = none
  z_dict : mg "dict" = none
  z_enumerate : mg "enumerate" = none
  z_int : mg "int" = none
  z_isinstance : mg "isinstance" = none
  z_len : mg "len" = none
  z_list : mg "list" = none
  z_max : mg "max" = none
  z_min : mg "min" = none
  z_range : mg "range" = none
  z_sorted : mg "sorted" = none
  z_tuple : mg "tuple" = none
  z_zip : mg "zip" = none
  k_dig : PySem.W.nsIn K cStatics "sys.int_max_str_digits" = some none
section
variable {P : Program} {w : World} {K : PySem.W.Frag} {mg : Str → Option Value} {base : Heap}
theorem ok_on_lane (T : Txt K mg) : FnOk P w K mg base CX0 1 T.a_on_lane T.d_on_lane ["net", "lane"] (spF K 2 f_on_lane) :=
  fn_sim T.F_on_lane sc_on_lane rfl rfl fun cdv A outer s H E hr => ((ss_one (ss_ret (so_callTy call_tuple_ofD pr_tuple (by rfl) T.z_tuple bt_tuple (sa_cons (so_comp (own := [("number", 2), ("fork", 3)]) rfl sc_on_lane.nd (si_enum (by rfl) T.z_enumerate (sa_cons (so_ix (so_var (pv 0)) so_int) sa_nil)) (blkOk_by (by kernel_rfl)) (fun _ _ _ _ _ => (sg_tup rfl (sgs_cons (sg_name sc_on_lane.nd rfl (by first | exact .inl rfl | exact .inr rfl) (by rfl)) (sgs_cons (sg_name sc_on_lane.nd rfl (by first | exact .inl rfl | exact .inr rfl) (by rfl)) sgs_nil)))) (fun _ _ _ _ _ => (spt_one (st_cmp (op_inA (units65 hr)) pr_in (so_var (pv 1)) (so_var (pv 3)) (by rfl)))) (fun _ _ _ _ _ => (so_var (pv 2)))) sa_nil)))))
theorem ok_fork_behind (T : Txt K mg) : FnOk P w K mg base CX0 2 T.a_fork_behind T.d_fork_behind ["net", "lane", "number"] (spF K 3 f_fork_behind) :=
  fn_sim T.F_fork_behind sc_fork_behind rfl rfl fun cdv A outer s H E hr => ((ss_cons (ss_for PassesOwn.never rfl (si_seq (so_call (ok_on_lane T) (hr.mono (by omega)) (by rfl) T.g_on_lane T.F_on_lane.kp T.b_on_lane (sa_cons (so_var (pv 0)) (sa_cons (so_var (pv 1)) sa_nil)) (fun _ _ _ h => mkFn_len h))) (sg_name sc_fork_behind.nd rfl (by first | exact .inl rfl | exact .inr rfl) (by rfl))
  (ss_one (ss_if (st_cmp op_gt pr_gt (so_var (pv 3)) (so_var (pv 2)) (nomark _))
  (ss_one (ss_ret (so_var (pv 3))))
  ss_nil)) (fun _ h => h)) (ss_one (ss_ret (so_callB cr_len pr_len (by rfl) T.z_len bt_len (sa_cons (so_ix (so_var (pv 0)) so_int) sa_nil))))))
theorem ok_ran (n : Nat) (T : Txt K mg) : FnOk P w K mg base CX0 (n + 3) T.a_ran T.d_ran ["net", "runs"] (spF K 2 (f_ran n)) :=
  fn_sim T.F_ran sc_ran rfl rfl fun cdv A outer s H E hr => ((ss_cons (ss_set sc_ran.nd rfl (by first | exact .inl rfl | exact .inr rfl) (by rfl) (so_bin op_mulA pr_mul (so_lst (sa_cons so_int sa_nil)) (so_callB cr_len pr_len (by rfl) T.z_len bt_len (sa_cons (so_ix (so_var (pv 0)) so_int) sa_nil)))) (ss_cons (ss_set sc_ran.nd rfl (by first | exact .inl rfl | exact .inr rfl) (by rfl) (so_bin op_mulA pr_mul (so_lst (sa_cons so_int sa_nil)) (so_ix (so_var (pv 0)) so_int))) (ss_cons (ss_set sc_ran.nd rfl (by first | exact .inl rfl | exact .inr rfl) (by rfl) (so_bin op_mulA pr_mul (so_lst (sa_cons so_non sa_nil)) (so_callB cr_len pr_len (by rfl) T.z_len bt_len (sa_cons (so_var (pv 1)) sa_nil)))) (ss_cons (ss_setLc (own := [("ball", 6), ("run", 7)]) rfl sc_ran.nd rfl rfl (by rfl) (si_enum (by rfl) T.z_enumerate (sa_cons (so_var (pv 1)) sa_nil)) (blkOk_by (by kernel_rfl)) (fun _ _ _ _ _ => (sg_tup rfl (sgs_cons (sg_name sc_ran.nd rfl (by first | exact .inl rfl | exact .inr rfl) (by rfl)) (sgs_cons (sg_name sc_ran.nd rfl (by first | exact .inl rfl | exact .inr rfl) (by rfl)) sgs_nil)))) (fun _ _ _ _ _ => spt_nil) (fun _ _ _ _ _ => (so_tup (sa_cons (so_ix (so_var (pv 7)) so_int) (sa_cons (so_var (pv 6)) (sa_cons (so_ix (so_var (pv 7)) so_int) (sa_cons (so_un un_neg pr_neg so_int) sa_nil))))))) (ss_cons (ss_while (n * 256) PassesOwn.never (st_cmp (op_neD hr.units) pr_ne (so_var (pv 5)) (so_lst sa_nil) (nomark _))
  (ss_cons (ss_asg (so_mt md_popAt PySem.F.slot_list_pop PySem.F.type_list_pop mt_popAt (pv 5) (sa_cons (so_idxD (units65 hr) (so_var (pv 5)) (so_callB (cr_minAny rfl hr.units) pr_minAny (by rfl) T.z_min bt_min (sa_cons (so_var (pv 5)) sa_nil))) sa_nil)) (sg_tup rfl (sgs_cons (sg_name sc_ran.nd rfl (by first | exact .inl rfl | exact .inr rfl) (by rfl)) (sgs_cons (sg_name sc_ran.nd rfl (by first | exact .inl rfl | exact .inr rfl) (by rfl)) (sgs_cons (sg_name sc_ran.nd rfl (by first | exact .inl rfl | exact .inr rfl) (by rfl)) (sgs_cons (sg_name sc_ran.nd rfl (by first | exact .inl rfl | exact .inr rfl) (by rfl)) sgs_nil)))))) (ss_cons (ss_set sc_ran.nd rfl (by first | exact .inl rfl | exact .inr rfl) (by rfl) (so_call (ok_fork_behind T) (hr.mono (by omega)) (by rfl) T.g_fork_behind T.F_fork_behind.kp T.b_fork_behind (sa_cons (so_var (pv 0)) (sa_cons (so_var (pv 9)) (sa_cons (so_var (pv 10)) sa_nil))) (fun _ _ _ h => mkFn_len h))) (ss_one (ss_if (st_cmp (op_eqD hr.units) pr_eq (so_var (pv 11)) (so_callB cr_len pr_len (by rfl) T.z_len bt_len (sa_cons (so_ix (so_var (pv 0)) so_int) sa_nil)) (nomark _))
  (ss_cons (ss_set sc_ran.nd rfl (by first | exact .inl rfl | exact .inr rfl) (by rfl) (so_idxT (so_ix (so_var (pv 0)) so_int) (so_var (pv 9)))) (ss_cons (ss_setIx (pv 4) (so_var (pv 6)) (so_tup (sa_cons (so_bin op_addA pr_add (so_var (pv 12)) (so_bin op_mulA pr_mul (so_ix (so_var (pv 0)) so_int) (so_ix (so_var (pv 3)) (so_var (pv 12))))) (sa_cons (so_var (pv 12)) (sa_cons (so_var (pv 8)) sa_nil))))) (ss_one (ss_augIx ip_add (pv 3) (so_var (pv 12)) so_int))))
  (ss_cons (ss_expr (so_mt md_app PySem.F.slot_list_append PySem.F.type_list_append mt_append (pv 5) (sa_cons (so_tup (sa_cons (so_bin op_addA pr_add (so_var (pv 8)) (so_ix (so_ix (so_var (pv 1)) (so_var (pv 6))) so_int)) (sa_cons (so_var (pv 6)) (sa_cons (so_ix (so_ix (so_ix (so_var (pv 0)) so_int) (so_var (pv 11))) (so_ix (so_var (pv 2)) (so_var (pv 11)))) (sa_cons (so_var (pv 11)) sa_nil))))) sa_nil))) (ss_one (ss_setIx (pv 2) (so_var (pv 11)) (so_bin op_sub pr_sub so_int (so_ix (so_var (pv 2)) (so_var (pv 11)))))))))))) (ss_one (ss_ret (so_callTy call_tuple_ofD pr_tuple (by rfl) T.z_tuple bt_tuple (sa_cons (so_var (pv 4)) sa_nil))))))))))
theorem ok__law_cell_at (T : Txt K mg) : FnOk P w K mg base CX0 1 T.a__law_cell_at T.d__law_cell_at ["_law_script", "_law_k"] (spF K 2 f__law_cell_at) :=
  fn_sim T.F__law_cell_at sc__law_cell_at rfl rfl fun cdv A outer s H E hr => ((ss_cons (ss_if (st_cmp op_lt pr_lt (so_var (pv 1)) (so_callB cr_len pr_len (by rfl) T.z_len bt_len (sa_cons (so_var (pv 0)) sa_nil)) (nomark _))
  (ss_one (ss_ret (so_ix (so_var (pv 0)) (so_var (pv 1)))))
  ss_nil) (ss_one (ss_ret so_int))))
theorem ok__law_left (T : Txt K mg) : FnOk P w K mg base CX0 2 T.a__law_left T.d__law_left ["_law_script", "_law_k"] (spF K 2 f__law_left) :=
  fn_sim T.F__law_left sc__law_left rfl rfl fun cdv A outer s H E hr => ((ss_cons (ss_set sc__law_left.nd rfl (by first | exact .inl rfl | exact .inr rfl) (by rfl) (so_call (ok__law_cell_at T) (hr.mono (by omega)) (by rfl) T.g__law_cell_at T.F__law_cell_at.kp T.b__law_cell_at (sa_cons (so_var (pv 0)) (sa_cons (so_bin op_mod pr_mod (so_var (pv 1)) (so_callB (call_max2 rfl) pr_max2 (by rfl) T.z_max bt_max (sa_cons so_int (sa_cons (so_callB cr_len pr_len (by rfl) T.z_len bt_len (sa_cons (so_var (pv 0)) sa_nil)) sa_nil)))) sa_nil)) (fun _ _ _ h => mkFn_len h))) (ss_cons (ss_set sc__law_left.nd rfl (by first | exact .inl rfl | exact .inr rfl) (by rfl) (so_bin op_mod pr_mod (so_bin op_mulA pr_mul (so_bin op_addA pr_add (so_bin op_addA pr_add (so_bin op_mod pr_mod (so_var (pv 2)) so_int) (so_bin op_mulA pr_mul (so_bin op_mulA pr_mul so_int (so_var (pv 1))) (so_var (pv 1)))) so_int) so_int) so_int)) (ss_one (ss_ret (so_lst (sa_cons (so_bin op_mod pr_mod (so_bin op_mulA pr_mul (so_callB call_abs pr_abs (by rfl) T.z_abs bt_abs (sa_cons (so_var (pv 2)) sa_nil)) (so_callTy call_int1 pr_int (by rfl) T.z_int bt_int (sa_cons (so_cmp op_ge pr_ge (so_callB call_abs pr_abs (by rfl) T.z_abs bt_abs (sa_cons (so_var (pv 2)) sa_nil)) (so_bin op_pow pr_pow so_int so_int) (nomark _)) sa_nil))) (so_callTy (call_int_ten T.k_dig 2000 (by decide) (by decide)) (pr_intTen 2000) (by rfl) T.z_int bt_int (sa_cons (so_bin op_addA pr_add so_str (so_bin op_mulS pr_mulS so_str so_int)) sa_nil))) (sa_cons (so_var (pv 3)) sa_nil))))))))
theorem ok__law_pick (T : Txt K mg) : FnOk P w K mg base CX0 1 T.a__law_pick T.d__law_pick ["_law_left_here", "_law_many"] (spF K 2 f__law_pick) :=
  fn_sim T.F__law_pick sc__law_pick rfl rfl fun cdv A outer s H E hr => ((ss_cons (ss_if (st_cmp op_gt pr_gt (so_ix (so_var (pv 0)) so_int) so_int (nomark _))
  (ss_cons (ss_set sc__law_pick.nd rfl (by first | exact .inl rfl | exact .inr rfl) (by rfl) (so_bin op_mod pr_mod (so_ix (so_var (pv 0)) so_int) (so_var (pv 1)))) (ss_cons (ss_setIx (pv 0) so_int (so_bin op_fdivW pr_div (so_ix (so_var (pv 0)) so_int) (so_var (pv 1)))) (ss_one (ss_ret (so_var (pv 2))))))
  ss_nil) (ss_cons (ss_setIx (pv 0) so_int (so_bin op_mod pr_mod (so_bin op_addA pr_add (so_bin op_mulA pr_mul (so_ix (so_var (pv 0)) so_int) so_int) so_int) so_int)) (ss_one (ss_ret (so_bin op_mod pr_mod (so_bin op_mod pr_mod (so_bin op_mulA pr_mul (so_ix (so_var (pv 0)) so_int) (so_ix (so_var (pv 0)) so_int)) so_int) (so_var (pv 1))))))))
theorem ok__law_of (T : Txt K mg) : FnOk P w K mg base CX0 2 T.a__law_of T.d__law_of ["_law_left_here", "_law_some"] (spF K 2 f__law_of) :=
  fn_sim T.F__law_of sc__law_of rfl rfl fun cdv A outer s H E hr => ((ss_one (ss_ret (so_ix (so_var (pv 1)) (so_call (ok__law_pick T) (hr.mono (by omega)) (by rfl) T.g__law_pick T.F__law_pick.kp T.b__law_pick (sa_cons (so_var (pv 0)) (sa_cons (so_callB cr_len pr_len (by rfl) T.z_len bt_len (sa_cons (so_var (pv 1)) sa_nil)) sa_nil)) (fun _ _ _ h => mkFn_len h))))))
theorem ok__law_placed (n : Nat) (T : Txt K mg) : FnOk P w K mg base CX0 (n + 2) T.a__law_placed T.d__law_placed ["_law_left_here", "_law_some"] (spF K 2 (f__law_placed n)) :=
  fn_sim2 T.F__law_placed sc__law_placed rfl rfl rfl rfl (one2 rfl) (fun cdv A outer s H E hr => ps_set sc__law_placed.nd rfl (by first | exact .inl rfl | exact .inr rfl) (pe_callTy call_list_of (by rfl) T.z_list bt_list (pa_cons (pv 1) pa_nil))) fun cdv A outer s H E hr => ((ss_cons (ss_set sc__law_placed.nd rfl (by first | exact .inl rfl | exact .inr rfl) (by rfl) (so_lst sa_nil)) (ss_cons (ss_while n PassesOwn.never (st_cmp (op_neD hr.units) pr_ne (so_var (pv 1)) (so_lst sa_nil) (nomark _))
  (ss_one (ss_expr (so_mt md_app PySem.F.slot_list_append PySem.F.type_list_append mt_append (pv 2) (sa_cons (so_mt md_popAt PySem.F.slot_list_pop PySem.F.type_list_pop mt_popAt (pv 1) (sa_cons (so_call (ok__law_pick T) (hr.mono (by omega)) (by rfl) T.g__law_pick T.F__law_pick.kp T.b__law_pick (sa_cons (so_var (pv 0)) (sa_cons (so_callB cr_len pr_len (by rfl) T.z_len bt_len (sa_cons (so_var (pv 1)) sa_nil)) sa_nil)) (fun _ _ _ h => mkFn_len h)) sa_nil)) sa_nil))))) (ss_one (ss_ret (so_var (pv 2)))))))
theorem ok__law_net (n : Nat) (T : Txt K mg) : FnOk P w K mg base CX0 (n + 3) T.a__law_net T.d__law_net ["_law_left_here", "_law_lanes_here", "_law_most"] (spF K 3 (f__law_net n)) :=
  fn_sim T.F__law_net sc__law_net rfl rfl fun cdv A outer s H E hr => ((ss_cons (ss_set sc__law_net.nd rfl (by first | exact .inl rfl | exact .inr rfl) (by rfl) (so_lst sa_nil)) (ss_cons (ss_for PassesOwn.never rfl (si_range1 (by rfl) T.z_range (sa_cons (so_bin op_mulA pr_mul (so_call (ok__law_pick T) (hr.mono (by omega)) (by rfl) T.g__law_pick T.F__law_pick.kp T.b__law_pick (sa_cons (so_var (pv 0)) (sa_cons (so_bin op_addA pr_add (so_var (pv 2)) so_int) sa_nil)) (fun _ _ _ h => mkFn_len h)) (so_callTy call_int1 pr_int (by rfl) T.z_int bt_int (sa_cons (so_cmp op_gt pr_gt (so_var (pv 1)) so_int (nomark _)) sa_nil))) sa_nil)) (sg_name sc__law_net.nd rfl (by first | exact .inl rfl | exact .inr rfl) (by rfl))
  (ss_cons (ss_set sc__law_net.nd rfl (by first | exact .inl rfl | exact .inr rfl) (by rfl) (so_call (ok__law_pick T) (hr.mono (by omega)) (by rfl) T.g__law_pick T.F__law_pick.kp T.b__law_pick (sa_cons (so_var (pv 0)) (sa_cons (so_var (pv 1)) sa_nil)) (fun _ _ _ h => mkFn_len h))) (ss_cons (ss_set sc__law_net.nd rfl (by first | exact .inl rfl | exact .inr rfl) (by rfl) (so_bin op_mod pr_mod (so_bin op_addA pr_add (so_bin op_addA pr_add (so_var (pv 5)) so_int) (so_call (ok__law_pick T) (hr.mono (by omega)) (by rfl) T.g__law_pick T.F__law_pick.kp T.b__law_pick (sa_cons (so_var (pv 0)) (sa_cons (so_bin op_sub pr_sub (so_var (pv 1)) so_int) sa_nil)) (fun _ _ _ h => mkFn_len h))) (so_var (pv 1)))) (ss_cons (ss_if (st_w (sw_and (st_cmp (op_neD hr.units) pr_ne (so_var (pv 3)) (so_lst sa_nil) (nomark _)) (sw_and1 (st_cmp (op_eqD hr.units) pr_eq (so_call (ok__law_pick T) (hr.mono (by omega)) (by rfl) T.g__law_pick T.F__law_pick.kp T.b__law_pick (sa_cons (so_var (pv 0)) (sa_cons so_int sa_nil)) (fun _ _ _ h => mkFn_len h)) so_int (nomark _)))))
  (ss_one (ss_asg (so_stE (so_ix (so_var (pv 3)) (so_un un_neg pr_neg so_int)) (sp_some (so_call (ok__law_of T) (hr.mono (by omega)) (by rfl) T.g__law_of T.F__law_of.kp T.b__law_of (sa_cons (so_var (pv 0)) (sa_cons (so_lst (sa_cons so_int (sa_cons (so_un un_neg pr_neg so_int) sa_nil))) sa_nil)) (fun _ _ _ h => mkFn_len h)))) (sg_tup rfl (sgs_cons (sg_name sc__law_net.nd rfl (by first | exact .inl rfl | exact .inr rfl) (by rfl)) (sgs_cons (sg_name sc__law_net.nd rfl (by first | exact .inl rfl | exact .inr rfl) (by rfl)) sgs_nil)))))
  ss_nil) (ss_one (ss_expr (so_mt md_app PySem.F.slot_list_append PySem.F.type_list_append mt_append (pv 3) (sa_cons (so_tup (sa_cons (so_var (pv 5)) (sa_cons (so_var (pv 6)) sa_nil))) sa_nil))))))) (fun _ h => h)) (ss_cons (ss_set sc__law_net.nd rfl (by first | exact .inl rfl | exact .inr rfl) (by rfl) (so_listRg1 rfl (by rfl) T.z_list (by rfl) T.z_range (so_var (pv 1)))) (ss_cons (ss_if (st_cmp (op_eqD hr.units) pr_eq (so_call (ok__law_pick T) (hr.mono (by omega)) (by rfl) T.g__law_pick T.F__law_pick.kp T.b__law_pick (sa_cons (so_var (pv 0)) (sa_cons so_int sa_nil)) (fun _ _ _ h => mkFn_len h)) so_int (nomark _))
  (ss_one (ss_set sc__law_net.nd rfl (by first | exact .inl rfl | exact .inr rfl) (by rfl) (so_call (ok__law_placed n T) (hr.mono (by omega)) (by rfl) T.g__law_placed T.F__law_placed.kp T.b__law_placed (sa_cons (so_var (pv 0)) (sa_cons (so_var (pv 7)) sa_nil)) (fun ds r as h => len__law_placed n ds r as h))))
  ss_nil) (ss_one (ss_ret (so_tup (sa_cons (so_var (pv 1)) (sa_cons (so_callTy call_tuple_ofD pr_tuple (by rfl) T.z_tuple bt_tuple (sa_cons (so_var (pv 3)) sa_nil)) (sa_cons (so_callTy call_tuple_ofD pr_tuple (by rfl) T.z_tuple bt_tuple (sa_cons (so_var (pv 7)) sa_nil)) sa_nil)))))))))))
theorem ok__law_lanes (T : Txt K mg) : FnOk P w K mg base CX0 3 T.a__law_lanes T.d__law_lanes ["_law_left_here"] (spF K 1 f__law_lanes) :=
  fn_sim T.F__law_lanes sc__law_lanes rfl rfl fun cdv A outer s H E hr => ((ss_one (ss_ret (so_call (ok__law_of T) (hr.mono (by omega)) (by rfl) T.g__law_of T.F__law_of.kp T.b__law_of (sa_cons (so_var (pv 0)) (sa_cons (so_lst (sa_cons so_int (sa_cons so_int (sa_cons so_int (sa_cons so_int (sa_cons so_int (sa_cons so_int (sa_cons so_int (sa_cons so_int sa_nil))))))))) sa_nil)) (fun _ _ _ h => mkFn_len h)))))
theorem ok__law_runs (T : Txt K mg) : FnOk P w K mg base CX0 3 T.a__law_runs T.d__law_runs ["_law_left_here", "_law_net_here", "_law_most"] (spF K 3 f__law_runs) :=
  fn_sim T.F__law_runs sc__law_runs rfl rfl fun cdv A outer s H E hr => ((ss_cons (ss_set sc__law_runs.nd rfl (by first | exact .inl rfl | exact .inr rfl) (by rfl) (so_call (ok__law_pick T) (hr.mono (by omega)) (by rfl) T.g__law_pick T.F__law_pick.kp T.b__law_pick (sa_cons (so_var (pv 0)) (sa_cons so_int sa_nil)) (fun _ _ _ h => mkFn_len h))) (ss_cons (ss_set sc__law_runs.nd rfl (by first | exact .inl rfl | exact .inr rfl) (by rfl) (so_lst sa_nil)) (ss_cons (ss_for PassesOwn.never rfl (si_range1 (by rfl) T.z_range (sa_cons (so_call (ok__law_of T) (hr.mono (by omega)) (by rfl) T.g__law_of T.F__law_of.kp T.b__law_of (sa_cons (so_var (pv 0)) (sa_cons (so_lst (sa_cons so_int (sa_cons so_int (sa_cons so_int (sa_cons so_int (sa_cons so_int (sa_cons (so_var (pv 2)) sa_nil))))))) sa_nil)) (fun _ _ _ h => mkFn_len h)) sa_nil)) (sg_name sc__law_runs.nd rfl (by first | exact .inl rfl | exact .inr rfl) (by rfl))
  (ss_cons (ss_set sc__law_runs.nd rfl (by first | exact .inl rfl | exact .inr rfl) (by rfl) (so_call (ok__law_pick T) (hr.mono (by omega)) (by rfl) T.g__law_pick T.F__law_pick.kp T.b__law_pick (sa_cons (so_var (pv 0)) (sa_cons (so_ix (so_lst (sa_cons so_int (sa_cons so_int (sa_cons so_int (sa_cons so_int sa_nil))))) (so_var (pv 3))) sa_nil)) (fun _ _ _ h => mkFn_len h))) (ss_cons (ss_if (st_cmp (op_eqD hr.units) pr_eq (so_call (ok__law_pick T) (hr.mono (by omega)) (by rfl) T.g__law_pick T.F__law_pick.kp T.b__law_pick (sa_cons (so_var (pv 0)) (sa_cons so_int sa_nil)) (fun _ _ _ h => mkFn_len h)) so_int (nomark _))
  (ss_one (ss_set sc__law_runs.nd rfl (by first | exact .inl rfl | exact .inr rfl) (by rfl) (so_bin op_addA pr_add (so_callTy call_int_str pr_intS (by rfl) T.z_int bt_int (sa_cons (so_bin op_addA pr_add so_str (so_bin op_mulV pr_mulV so_str (so_call (ok__law_pick T) (hr.mono (by omega)) (by rfl) T.g__law_pick T.F__law_pick.kp T.b__law_pick (sa_cons (so_var (pv 0)) (sa_cons so_int sa_nil)) (fun _ _ _ h => mkFn_len h)))) sa_nil)) (so_var (pv 6)))))
  ss_nil) (ss_cons (ss_set sc__law_runs.nd rfl (by first | exact .inl rfl | exact .inr rfl) (by rfl) (so_bin op_addA pr_add so_int (so_call (ok__law_pick T) (hr.mono (by omega)) (by rfl) T.g__law_pick T.F__law_pick.kp T.b__law_pick (sa_cons (so_var (pv 0)) (sa_cons (so_call (ok__law_of T) (hr.mono (by omega)) (by rfl) T.g__law_of T.F__law_of.kp T.b__law_of (sa_cons (so_var (pv 0)) (sa_cons (so_lst (sa_cons so_int (sa_cons so_int (sa_cons so_int (sa_cons so_int (sa_cons (so_bin op_pow pr_pow so_int so_int) sa_nil)))))) sa_nil)) (fun _ _ _ h => mkFn_len h)) sa_nil)) (fun _ _ _ h => mkFn_len h)))) (ss_one (ss_expr (so_mt md_app PySem.F.slot_list_append PySem.F.type_list_append mt_append (pv 4) (sa_cons (so_tup (sa_cons (so_call (ok__law_pick T) (hr.mono (by omega)) (by rfl) T.g__law_pick T.F__law_pick.kp T.b__law_pick (sa_cons (so_var (pv 0)) (sa_cons (so_ix (so_var (pv 1)) so_int) sa_nil)) (fun _ _ _ h => mkFn_len h)) (sa_cons (so_var (pv 6)) (sa_cons (so_var (pv 7)) sa_nil)))) sa_nil))))))) (fun _ h => h)) (ss_one (ss_ret (so_callTy call_tuple_ofD pr_tuple (by rfl) T.z_tuple bt_tuple (sa_cons (so_var (pv 4)) sa_nil))))))))
theorem ok__law_ran (n : Nat) (T : Txt K mg) : FnOk P w K mg base CX0 (n + 1) T.a__law_ran T.d__law_ran ["_law_net_here", "_law_runs_here"] (spF K 2 (f__law_ran n)) :=
  fn_sim T.F__law_ran sc__law_ran rfl rfl fun cdv A outer s H E hr => ((ss_cons (ss_par (i := 2) (j := 3) rfl sc__law_ran.nd rfl rfl (by decide) rfl rfl (by rfl) (by rfl) (sa_cons (so_bin op_mulA pr_mul (so_lst (sa_cons so_int sa_nil)) (so_callB cr_len pr_len (by rfl) T.z_len bt_len (sa_cons (so_ix (so_var (pv 0)) so_int) sa_nil))) (sa_cons (so_bin op_mulA pr_mul (so_lst (sa_cons so_int sa_nil)) (so_ix (so_var (pv 0)) so_int)) sa_nil))) (ss_cons (ss_set sc__law_ran.nd rfl (by first | exact .inl rfl | exact .inr rfl) (by rfl) (so_callTy (call_dictK rfl) pr_dictK (by rfl) T.z_dict bt_dict (sa_cons (so_comp (own := [("_law_ball", 5), ("_law_run", 6)]) rfl sc__law_ran.nd (si_enum (by rfl) T.z_enumerate (sa_cons (so_var (pv 1)) sa_nil)) (blkOk_by (by kernel_rfl)) (fun _ _ _ _ _ => (sg_tup rfl (sgs_cons (sg_name sc__law_ran.nd rfl (by first | exact .inl rfl | exact .inr rfl) (by rfl)) (sgs_cons (sg_name sc__law_ran.nd rfl (by first | exact .inl rfl | exact .inr rfl) (by rfl)) sgs_nil)))) (fun _ _ _ _ _ => spt_nil) (fun _ _ _ _ _ => (so_tup (sa_cons (so_var (pv 5)) (sa_cons (so_tup (sa_cons (so_ix (so_var (pv 6)) so_int) (sa_cons (so_ix (so_var (pv 6)) so_int) (sa_cons so_int sa_nil)))) sa_nil))))) sa_nil))) (ss_cons (ss_set sc__law_ran.nd rfl (by first | exact .inl rfl | exact .inr rfl) (by rfl) so_newK) (ss_cons (ss_while (n * 256) PassesOwn.never (st_cmp (op_ne0K (Nat.lt_of_le_of_lt (Nat.le_add_right _ 65) (units65 hr))) pr_ne0K (so_var (pv 4)) so_newK (nomark _))
  (ss_cons (ss_set sc__law_ran.nd rfl (by first | exact .inl rfl | exact .inr rfl) (by rfl) (so_callB (cr_minAny rfl hr.units) pr_minAny (by rfl) T.z_min bt_min (sa_cons (so_compD (own := [("_law_moment", 9), ("_law_lane", 10), ("_law_ahead", 11)]) rfl sc__law_ran.nd (si_valsFK (pv 4) hT_var) (pi_values (pv 4)) (emp_vals hT_var) rfl (blkOk_by (by kernel_rfl)) (fun _ _ _ _ _ => (sg_tup rfl (sgs_cons (sg_name sc__law_ran.nd rfl (by first | exact .inl rfl | exact .inr rfl) (by rfl)) (sgs_cons (sg_name sc__law_ran.nd rfl (by first | exact .inl rfl | exact .inr rfl) (by rfl)) (sgs_cons (sg_name sc__law_ran.nd rfl (by first | exact .inl rfl | exact .inr rfl) (by rfl)) sgs_nil))))) (fun _ _ _ _ _ => spt_nil) (fun _ _ _ _ _ => (so_var (pv 9)))) sa_nil))) (ss_one (ss_for PassesOwn.never rfl (si_seq (so_callB (cr_sortAny (units65 hr)) pr_sortAny (by rfl) T.z_sorted bt_sorted (sa_cons (so_compD (own := [("_law_one", 12)]) rfl sc__law_ran.nd (si_keysFK (pv 4) hT_var) (pi_keys (pv 4)) (emp_keys hT_var) rfl (blkOk_by (by kernel_rfl)) (fun _ _ _ _ _ => (sg_name sc__law_ran.nd rfl (by first | exact .inl rfl | exact .inr rfl) (by rfl))) (fun _ _ _ _ _ => (spt_one (st_cmp (op_eqD hr.units) pr_eq (so_ix (so_ixKF (units65 hr) (so_var (pv 4)) (so_var (pv 12))) so_int) (so_var (pv 8)) (nomark _)))) (fun _ _ _ _ _ => (so_var (pv 12)))) sa_nil))) (sg_name sc__law_ran.nd rfl (by first | exact .inl rfl | exact .inr rfl) (by rfl))
  (ss_cons (ss_asg (so_popK (units65 hr) (pv 4) (so_var (pv 5))) (sg_tup rfl (sgs_cons (sg_name sc__law_ran.nd rfl (by first | exact .inl rfl | exact .inr rfl) (by rfl)) (sgs_cons (sg_name sc__law_ran.nd rfl (by first | exact .inl rfl | exact .inr rfl) (by rfl)) (sgs_cons (sg_name sc__law_ran.nd rfl (by first | exact .inl rfl | exact .inr rfl) (by rfl)) sgs_nil))))) (ss_cons (ss_setLc (own := [("_law_k", 14)]) rfl sc__law_ran.nd rfl rfl (by rfl) (si_range2 (by rfl) T.z_range (sa_cons (so_var (pv 11)) (sa_cons (so_callB cr_len pr_len (by rfl) T.z_len bt_len (sa_cons (so_ix (so_var (pv 0)) so_int) sa_nil)) sa_nil))) (blkOk_by (by kernel_rfl)) (fun _ _ _ _ _ => (sg_name sc__law_ran.nd rfl (by first | exact .inl rfl | exact .inr rfl) (by rfl))) (fun _ _ _ _ _ => (spt_one (st_cmp (op_inA (units65 hr)) pr_in (so_var (pv 10)) (so_ix (so_ix (so_var (pv 0)) so_int) (so_var (pv 14))) (by rfl)))) (fun _ _ _ _ _ => (so_var (pv 14)))) (ss_one (ss_if (st_cmp (op_eqD hr.units) pr_eq (so_var (pv 13)) (so_lst sa_nil) (nomark _))
  (ss_cons (ss_set sc__law_ran.nd rfl (by first | exact .inl rfl | exact .inr rfl) (by rfl) (so_idxT (so_ix (so_var (pv 0)) so_int) (so_var (pv 10)))) (ss_cons (ss_setK (units65 hr) (pv 7) (so_var (pv 5)) (so_tup (sa_cons (so_bin op_addA pr_add (so_var (pv 15)) (so_bin op_mulA pr_mul (so_ix (so_var (pv 0)) so_int) (so_ix (so_var (pv 3)) (so_var (pv 15))))) (sa_cons (so_var (pv 15)) (sa_cons (so_var (pv 8)) sa_nil))))) (ss_one (ss_augIx ip_add (pv 3) (so_var (pv 15)) so_int))))
  (ss_cons (ss_set sc__law_ran.nd rfl (by first | exact .inl rfl | exact .inr rfl) (by rfl) (so_ix (so_var (pv 13)) so_int)) (ss_cons (ss_setK (units65 hr) (pv 4) (so_var (pv 5)) (so_tup (sa_cons (so_bin op_addA pr_add (so_var (pv 8)) (so_ix (so_ix (so_var (pv 1)) (so_var (pv 5))) so_int)) (sa_cons (so_ix (so_ix (so_ix (so_var (pv 0)) so_int) (so_var (pv 16))) (so_ix (so_var (pv 2)) (so_var (pv 16)))) (sa_cons (so_bin op_addA pr_add (so_var (pv 16)) so_int) sa_nil))))) (ss_one (ss_setIx (pv 2) (so_var (pv 16)) (so_bin op_sub pr_sub so_int (so_ix (so_var (pv 2)) (so_var (pv 16)))))))))))) (fun _ h => h))))) (ss_one (ss_ret (so_callTy call_tuple_ofD pr_tuple (by rfl) T.z_tuple bt_tuple (sa_cons (so_comp (own := [("_law_ball", 5)]) rfl sc__law_ran.nd (si_range1 (by rfl) T.z_range (sa_cons (so_callB cr_len pr_len (by rfl) T.z_len bt_len (sa_cons (so_var (pv 1)) sa_nil)) sa_nil)) (blkOk_by (by kernel_rfl)) (fun _ _ _ _ _ => (sg_name sc__law_ran.nd rfl (by first | exact .inl rfl | exact .inr rfl) (by rfl))) (fun _ _ _ _ _ => spt_nil) (fun _ _ _ _ _ => (so_ixK (units65 hr) (so_var (pv 7)) (so_var (pv 5))))) sa_nil)))))))))
theorem ok__law_same : ∀ (n : Nat) (T : Txt K mg), FnOk P w K mg base CX0 (n + 1) T.a__law_same T.d__law_same ["_law_found", "_law_due"] (spF K 2 (f__law_same n))
  | 0, T => fn_sim T.F__law_same sc__law_same rfl rfl fun cdv A outer s H E hr => ss_nevers
  | n + 1, T => by
    have ih := ok__law_same n T
    have hlen := len__law_same n
    rw [show n + 1 + 1 = (n + 1) + 1 by omega]
    exact fn_sim T.F__law_same sc__law_same rfl rfl fun cdv A outer s H E hr => ((ss_cons (ss_if (st_any (so_isi .tup (by rfl) T.z_isinstance (by rfl) T.z_tuple (so_var (pv 1))))
  (ss_cons (ss_if (st_w (sw_or (st_not (st_any (so_isi .tup (by rfl) T.z_isinstance (by rfl) T.z_tuple (so_var (pv 0))))) (sw_or1 (st_cmp (op_neD hr.units) pr_ne (so_callB cr_len pr_len (by rfl) T.z_len bt_len (sa_cons (so_var (pv 0)) sa_nil)) (so_callB cr_len pr_len (by rfl) T.z_len bt_len (sa_cons (so_var (pv 1)) sa_nil)) (nomark _)))))
  (ss_one (ss_ret so_bl))
  ss_nil) (ss_one (ss_ret (so_callB (cr_all rfl) pr_all (by rfl) T.z_all bt_all (sa_cons (so_comp (own := [("_law_one", 2), ("_law_other", 3)]) rfl sc__law_same.nd (si_zip (by rfl) T.z_zip (sa_cons (so_var (pv 0)) (sa_cons (so_var (pv 1)) sa_nil))) (blkOk_by (by kernel_rfl)) (fun _ _ _ _ _ => (sg_tup rfl (sgs_cons (sg_name sc__law_same.nd rfl (by first | exact .inl rfl | exact .inr rfl) (by rfl)) (sgs_cons (sg_name sc__law_same.nd rfl (by first | exact .inl rfl | exact .inr rfl) (by rfl)) sgs_nil)))) (fun _ _ _ _ _ => spt_nil) (fun _ _ _ _ _ => (so_call (ih) (hr.mono (by omega)) (by rfl) T.g__law_same T.F__law_same.kp T.b__law_same (sa_cons (so_var (pv 2)) (sa_cons (so_var (pv 3)) sa_nil)) (hlen)))) sa_nil)))))
  ss_nil) (ss_one (ss_ret (so_and (so_isi .int (by rfl) T.z_isinstance (by rfl) T.z_int (so_var (pv 0))) (so_and (so_not (so_isi .bool (by rfl) T.z_isinstance (by rfl) T.z_bool (so_var (pv 0)))) (so_one (so_cmp (op_eqD hr.units) pr_eq (so_var (pv 0)) (so_var (pv 1)) (nomark _)))))))))
theorem ok_law (n : Nat) (T : Txt K mg) : FnOk P w K mg base CX0 (n + 4) T.a_law T.d_law ["_law_script"] (spF K 1 (f_law n)) :=
  fn_sim T.F_law sc_law rfl rfl fun cdv A outer s H E hr => ((ss_cons (ss_for PassesOwn.never rfl (si_range1 (by rfl) T.z_range (sa_cons (so_callB (call_max2 rfl) pr_max2 (by rfl) T.z_max bt_max (sa_cons so_int (sa_cons (so_callB (call_min2 rfl) pr_min2 (by rfl) T.z_min bt_min (sa_cons so_int (sa_cons (so_callB cr_len pr_len (by rfl) T.z_len bt_len (sa_cons (so_var (pv 0)) sa_nil)) sa_nil))) sa_nil))) sa_nil)) (sg_name sc_law.nd rfl (by first | exact .inl rfl | exact .inr rfl) (by rfl))
  (ss_cons (ss_set sc_law.nd rfl (by first | exact .inl rfl | exact .inr rfl) (by rfl) (so_call (ok__law_left T) (hr.mono (by omega)) (by rfl) T.g__law_left T.F__law_left.kp T.b__law_left (sa_cons (so_var (pv 0)) (sa_cons (so_var (pv 1)) sa_nil)) (fun _ _ _ h => mkFn_len h))) (ss_cons (ss_set sc_law.nd rfl (by first | exact .inl rfl | exact .inr rfl) (by rfl) (so_call (ok__law_net n T) (hr.mono (by omega)) (by rfl) T.g__law_net T.F__law_net.kp T.b__law_net (sa_cons (so_var (pv 2)) (sa_cons (so_call (ok__law_lanes T) (hr.mono (by omega)) (by rfl) T.g__law_lanes T.F__law_lanes.kp T.b__law_lanes (sa_cons (so_var (pv 2)) sa_nil) (fun _ _ _ h => mkFn_len h)) (sa_cons (so_call (ok__law_of T) (hr.mono (by omega)) (by rfl) T.g__law_of T.F__law_of.kp T.b__law_of (sa_cons (so_var (pv 2)) (sa_cons (so_lst (sa_cons so_int (sa_cons so_int (sa_cons so_int sa_nil)))) sa_nil)) (fun _ _ _ h => mkFn_len h)) sa_nil))) (fun ds r as h => len__law_net n ds r as h))) (ss_one (ss_for PassesOwn.never rfl (si_range1 (by rfl) T.z_range (sa_cons so_int sa_nil)) (sg_name sc_law.nd rfl (by first | exact .inl rfl | exact .inr rfl) (by rfl))
  (ss_cons (ss_set sc_law.nd rfl (by first | exact .inl rfl | exact .inr rfl) (by rfl) (so_call (ok__law_runs T) (hr.mono (by omega)) (by rfl) T.g__law_runs T.F__law_runs.kp T.b__law_runs (sa_cons (so_var (pv 2)) (sa_cons (so_var (pv 3)) (sa_cons so_int sa_nil))) (fun _ _ _ h => mkFn_len h))) (ss_cons (ss_set sc_law.nd rfl (by first | exact .inl rfl | exact .inr rfl) (by rfl) (so_call (ok__law_ran n T) (hr.mono (by omega)) (by rfl) T.g__law_ran T.F__law_ran.kp T.b__law_ran (sa_cons (so_var (pv 3)) (sa_cons (so_var (pv 5)) sa_nil)) (fun ds r as h => len__law_ran n ds r as h))) (ss_one (ss_for PassesOwn.never rfl (si_range1 (by rfl) T.z_range (sa_cons so_int sa_nil)) (sg_name sc_law.nd rfl (by first | exact .inl rfl | exact .inr rfl) (by rfl))
  (ss_one (ss_if (st_not (st_any (so_call (ok__law_same n T) (hr.mono (by omega)) (by rfl) T.g__law_same T.F__law_same.kp T.b__law_same (sa_cons (so_call (ok_ran n T) (hr.mono (by omega)) (by rfl) T.g_ran T.F_ran.kp T.b_ran (sa_cons (so_var (pv 3)) (sa_cons (so_var (pv 5)) sa_nil)) (fun ds r as h => len_ran n ds r as h)) (sa_cons (so_var (pv 6)) sa_nil)) (fun ds r as h => len__law_same n ds r as h))))
  (ss_one (ss_ret so_bl))
  ss_nil)) (fun _ h => h))))) (fun _ h => h))))) (fun _ h => h)) (ss_one (ss_ret so_bl))))
end
theorem all_mk {l : PySem.W.OpenLaw} {w : World} {K : PySem.W.Frag} {h : Heap} {mg : Str → Option Value} {fa f1 f2 f3 f4 f5 f6 f7 f8 f9 f10 f11 f12 f13 f14 : Addr} (n : Nat) (X : K.In h) (G : h.Ns mainGlobals mg) (hfa : mg "law" = some (.ref fa))
    {od1 an1 od2 an2 od3 an3 od4 an4 od5 an5 od6 an6 od7 an7 od8 an8 od9 an9 od10 an10 od11 an11 od12 an12 od13 an13 od14 an14 : Option Addr} {sl1 sl2 sl3 sl4 sl5 sl6 sl7 sl8 sl9 sl10 sl11 sl12 sl13 sl14 : Array (Option Value)} {oc1 kV1 dc1 pm1 cd1 ct1 oc2 kV2 dc2 pm2 cd2 ct2 oc3 kV3 dc3 pm3 cd3 ct3 oc4 kV4 dc4 pm4 cd4 ct4 oc5 kV5 dc5 pm5 cd5 ct5 oc6 kV6 dc6 pm6 cd6 ct6 oc7 kV7 dc7 pm7 cd7 ct7 oc8 kV8 dc8 pm8 cd8 ct8 oc9 kV9 dc9 pm9 cd9 ct9 oc10 kV10 dc10 pm10 cd10 ct10 oc11 kV11 dc11 pm11 cd11 ct11 oc12 kV12 dc12 pm12 cd12 ct12 oc13 kV13 dc13 pm13 cd13 ct13 oc14 kV14 dc14 pm14 cd14 ct14 : Value}
    (a1 : PySem.W.nsIn K mainGlobals "on_lane" = some (some (.ref f1))) (l1 : K.lookup f1 = some ⟨oc1, od1, .func (PySem.W.fnOf "on_lane" "on_lane" (defArgs s_on_lane) (defBody s_on_lane) (defScope s_on_lane) .none kV1 dc1 pm1 an1 cd1 ct1), sl1⟩) (c1 : PySem.W.codeIn K cd1 "on_lane" = true) (k1 : PySem.W.keepIn K (.ref f1) = true)
    (a2 : PySem.W.nsIn K mainGlobals "fork_behind" = some (some (.ref f2))) (l2 : K.lookup f2 = some ⟨oc2, od2, .func (PySem.W.fnOf "fork_behind" "fork_behind" (defArgs s_fork_behind) (defBody s_fork_behind) (defScope s_fork_behind) .none kV2 dc2 pm2 an2 cd2 ct2), sl2⟩) (c2 : PySem.W.codeIn K cd2 "fork_behind" = true) (k2 : PySem.W.keepIn K (.ref f2) = true)
    (a3 : PySem.W.nsIn K mainGlobals "ran" = some (some (.ref f3))) (l3 : K.lookup f3 = some ⟨oc3, od3, .func (PySem.W.fnOf "ran" "ran" (defArgs s_ran) (defBody s_ran) (defScope s_ran) .none kV3 dc3 pm3 an3 cd3 ct3), sl3⟩) (c3 : PySem.W.codeIn K cd3 "ran" = true) (k3 : PySem.W.keepIn K (.ref f3) = true)
    (a4 : PySem.W.nsIn K mainGlobals "_law_cell_at" = some (some (.ref f4))) (l4 : K.lookup f4 = some ⟨oc4, od4, .func (PySem.W.fnOf "_law_cell_at" "_law_cell_at" (defArgs s__law_cell_at) (defBody s__law_cell_at) (defScope s__law_cell_at) .none kV4 dc4 pm4 an4 cd4 ct4), sl4⟩) (c4 : PySem.W.codeIn K cd4 "_law_cell_at" = true) (k4 : PySem.W.keepIn K (.ref f4) = true)
    (a5 : PySem.W.nsIn K mainGlobals "_law_left" = some (some (.ref f5))) (l5 : K.lookup f5 = some ⟨oc5, od5, .func (PySem.W.fnOf "_law_left" "_law_left" (defArgs s__law_left) (defBody s__law_left) (defScope s__law_left) .none kV5 dc5 pm5 an5 cd5 ct5), sl5⟩) (c5 : PySem.W.codeIn K cd5 "_law_left" = true) (k5 : PySem.W.keepIn K (.ref f5) = true)
    (a6 : PySem.W.nsIn K mainGlobals "_law_pick" = some (some (.ref f6))) (l6 : K.lookup f6 = some ⟨oc6, od6, .func (PySem.W.fnOf "_law_pick" "_law_pick" (defArgs s__law_pick) (defBody s__law_pick) (defScope s__law_pick) .none kV6 dc6 pm6 an6 cd6 ct6), sl6⟩) (c6 : PySem.W.codeIn K cd6 "_law_pick" = true) (k6 : PySem.W.keepIn K (.ref f6) = true)
    (a7 : PySem.W.nsIn K mainGlobals "_law_of" = some (some (.ref f7))) (l7 : K.lookup f7 = some ⟨oc7, od7, .func (PySem.W.fnOf "_law_of" "_law_of" (defArgs s__law_of) (defBody s__law_of) (defScope s__law_of) .none kV7 dc7 pm7 an7 cd7 ct7), sl7⟩) (c7 : PySem.W.codeIn K cd7 "_law_of" = true) (k7 : PySem.W.keepIn K (.ref f7) = true)
    (a8 : PySem.W.nsIn K mainGlobals "_law_placed" = some (some (.ref f8))) (l8 : K.lookup f8 = some ⟨oc8, od8, .func (PySem.W.fnOf "_law_placed" "_law_placed" (defArgs s__law_placed) (defBody s__law_placed) (defScope s__law_placed) .none kV8 dc8 pm8 an8 cd8 ct8), sl8⟩) (c8 : PySem.W.codeIn K cd8 "_law_placed" = true) (k8 : PySem.W.keepIn K (.ref f8) = true)
    (a9 : PySem.W.nsIn K mainGlobals "_law_net" = some (some (.ref f9))) (l9 : K.lookup f9 = some ⟨oc9, od9, .func (PySem.W.fnOf "_law_net" "_law_net" (defArgs s__law_net) (defBody s__law_net) (defScope s__law_net) .none kV9 dc9 pm9 an9 cd9 ct9), sl9⟩) (c9 : PySem.W.codeIn K cd9 "_law_net" = true) (k9 : PySem.W.keepIn K (.ref f9) = true)
    (a10 : PySem.W.nsIn K mainGlobals "_law_lanes" = some (some (.ref f10))) (l10 : K.lookup f10 = some ⟨oc10, od10, .func (PySem.W.fnOf "_law_lanes" "_law_lanes" (defArgs s__law_lanes) (defBody s__law_lanes) (defScope s__law_lanes) .none kV10 dc10 pm10 an10 cd10 ct10), sl10⟩) (c10 : PySem.W.codeIn K cd10 "_law_lanes" = true) (k10 : PySem.W.keepIn K (.ref f10) = true)
    (a11 : PySem.W.nsIn K mainGlobals "_law_runs" = some (some (.ref f11))) (l11 : K.lookup f11 = some ⟨oc11, od11, .func (PySem.W.fnOf "_law_runs" "_law_runs" (defArgs s__law_runs) (defBody s__law_runs) (defScope s__law_runs) .none kV11 dc11 pm11 an11 cd11 ct11), sl11⟩) (c11 : PySem.W.codeIn K cd11 "_law_runs" = true) (k11 : PySem.W.keepIn K (.ref f11) = true)
    (a12 : PySem.W.nsIn K mainGlobals "_law_ran" = some (some (.ref f12))) (l12 : K.lookup f12 = some ⟨oc12, od12, .func (PySem.W.fnOf "_law_ran" "_law_ran" (defArgs s__law_ran) (defBody s__law_ran) (defScope s__law_ran) .none kV12 dc12 pm12 an12 cd12 ct12), sl12⟩) (c12 : PySem.W.codeIn K cd12 "_law_ran" = true) (k12 : PySem.W.keepIn K (.ref f12) = true)
    (a13 : PySem.W.nsIn K mainGlobals "_law_same" = some (some (.ref f13))) (l13 : K.lookup f13 = some ⟨oc13, od13, .func (PySem.W.fnOf "_law_same" "_law_same" (defArgs s__law_same) (defBody s__law_same) (defScope s__law_same) .none kV13 dc13 pm13 an13 cd13 ct13), sl13⟩) (c13 : PySem.W.codeIn K cd13 "_law_same" = true) (k13 : PySem.W.keepIn K (.ref f13) = true)
    (a14 : PySem.W.nsIn K mainGlobals "law" = some (some (.ref f14))) (l14 : K.lookup f14 = some ⟨oc14, od14, .func (PySem.W.fnOf "law" "law" (defArgs s_law) (defBody s_law) (defScope s_law) .none kV14 dc14 pm14 an14 cd14 ct14), sl14⟩) (c14 : PySem.W.codeIn K cd14 "law" = true) (k14 : PySem.W.keepIn K (.ref f14) = true)
    (z_abs : PySem.W.nsIn K mainGlobals "abs" = some none)
    (z_all : PySem.W.nsIn K mainGlobals "all" = some none)
    (z_bool : PySem.W.nsIn K mainGlobals "bool" = some none)
    (z_dict : PySem.W.nsIn K mainGlobals "dict" = some none)
    (z_enumerate : PySem.W.nsIn K mainGlobals "enumerate" = some none)
    (z_int : PySem.W.nsIn K mainGlobals "int" = some none)
    (z_isinstance : PySem.W.nsIn K mainGlobals "isinstance" = some none)
    (z_len : PySem.W.nsIn K mainGlobals "len" = some none)
    (z_list : PySem.W.nsIn K mainGlobals "list" = some none)
    (z_max : PySem.W.nsIn K mainGlobals "max" = some none)
    (z_min : PySem.W.nsIn K mainGlobals "min" = some none)
    (z_range : PySem.W.nsIn K mainGlobals "range" = some none)
    (z_sorted : PySem.W.nsIn K mainGlobals "sorted" = some none)
    (z_tuple : PySem.W.nsIn K mainGlobals "tuple" = some none)
    (z_zip : PySem.W.nsIn K mainGlobals "zip" = some none)
    (k_dig : PySem.W.nsIn K cStatics "sys.int_max_str_digits" = some none)
    : ∃ fd : FuncData, (∀ (s : Shared) (v : Value), BindsTo s fd ⟨[v], []⟩ [("_law_script", v)]) ∧ ∀ base : Heap, K.In base → base.Ns mainGlobals mg → FnOk l.prog w K mg base CX0 (n + 4) fa fd ["_law_script"] (spF K 1 (f_law n)) := by
  have e := hfa.symm.trans (PySem.W.mg_of X G a14)
  have e2 : f14 = fa := by cases e; rfl
  subst e2
  have F1 := fun_mk (st := s_on_lane) l1 c1 k1
  have b1 := F1.binds (ps := ["net", "lane"]) fun _ _ _ _ _ _ us hl => match us, hl with | [_, _], _ => rfl
  have F2 := fun_mk (st := s_fork_behind) l2 c2 k2
  have b2 := F2.binds (ps := ["net", "lane", "number"]) fun _ _ _ _ _ _ us hl => match us, hl with | [_, _, _], _ => rfl
  have F3 := fun_mk (st := s_ran) l3 c3 k3
  have b3 := F3.binds (ps := ["net", "runs"]) fun _ _ _ _ _ _ us hl => match us, hl with | [_, _], _ => rfl
  have F4 := fun_mk (st := s__law_cell_at) l4 c4 k4
  have b4 := F4.binds (ps := ["_law_script", "_law_k"]) fun _ _ _ _ _ _ us hl => match us, hl with | [_, _], _ => rfl
  have F5 := fun_mk (st := s__law_left) l5 c5 k5
  have b5 := F5.binds (ps := ["_law_script", "_law_k"]) fun _ _ _ _ _ _ us hl => match us, hl with | [_, _], _ => rfl
  have F6 := fun_mk (st := s__law_pick) l6 c6 k6
  have b6 := F6.binds (ps := ["_law_left_here", "_law_many"]) fun _ _ _ _ _ _ us hl => match us, hl with | [_, _], _ => rfl
  have F7 := fun_mk (st := s__law_of) l7 c7 k7
  have b7 := F7.binds (ps := ["_law_left_here", "_law_some"]) fun _ _ _ _ _ _ us hl => match us, hl with | [_, _], _ => rfl
  have F8 := fun_mk (st := s__law_placed) l8 c8 k8
  have b8 := F8.binds (ps := ["_law_left_here", "_law_some"]) fun _ _ _ _ _ _ us hl => match us, hl with | [_, _], _ => rfl
  have F9 := fun_mk (st := s__law_net) l9 c9 k9
  have b9 := F9.binds (ps := ["_law_left_here", "_law_lanes_here", "_law_most"]) fun _ _ _ _ _ _ us hl => match us, hl with | [_, _, _], _ => rfl
  have F10 := fun_mk (st := s__law_lanes) l10 c10 k10
  have b10 := F10.binds (ps := ["_law_left_here"]) fun _ _ _ _ _ _ us hl => match us, hl with | [_], _ => rfl
  have F11 := fun_mk (st := s__law_runs) l11 c11 k11
  have b11 := F11.binds (ps := ["_law_left_here", "_law_net_here", "_law_most"]) fun _ _ _ _ _ _ us hl => match us, hl with | [_, _, _], _ => rfl
  have F12 := fun_mk (st := s__law_ran) l12 c12 k12
  have b12 := F12.binds (ps := ["_law_net_here", "_law_runs_here"]) fun _ _ _ _ _ _ us hl => match us, hl with | [_, _], _ => rfl
  have F13 := fun_mk (st := s__law_same) l13 c13 k13
  have b13 := F13.binds (ps := ["_law_found", "_law_due"]) fun _ _ _ _ _ _ us hl => match us, hl with | [_, _], _ => rfl
  have F14 := fun_mk (st := s_law) l14 c14 k14
  have b14 := F14.binds (ps := ["_law_script"]) fun _ _ _ _ _ _ us hl => match us, hl with | [_], _ => rfl
  let T : Txt K mg := { a_on_lane := f1, d_on_lane := _, F_on_lane := F1, g_on_lane := PySem.W.mg_of X G a1, b_on_lane := b1, a_fork_behind := f2, d_fork_behind := _, F_fork_behind := F2, g_fork_behind := PySem.W.mg_of X G a2, b_fork_behind := b2, a_ran := f3, d_ran := _, F_ran := F3, g_ran := PySem.W.mg_of X G a3, b_ran := b3, a__law_cell_at := f4, d__law_cell_at := _, F__law_cell_at := F4, g__law_cell_at := PySem.W.mg_of X G a4, b__law_cell_at := b4, a__law_left := f5, d__law_left := _, F__law_left := F5, g__law_left := PySem.W.mg_of X G a5, b__law_left := b5, a__law_pick := f6, d__law_pick := _, F__law_pick := F6, g__law_pick := PySem.W.mg_of X G a6, b__law_pick := b6, a__law_of := f7, d__law_of := _, F__law_of := F7, g__law_of := PySem.W.mg_of X G a7, b__law_of := b7, a__law_placed := f8, d__law_placed := _, F__law_placed := F8, g__law_placed := PySem.W.mg_of X G a8, b__law_placed := b8, a__law_net := f9, d__law_net := _, F__law_net := F9, g__law_net := PySem.W.mg_of X G a9, b__law_net := b9, a__law_lanes := f10, d__law_lanes := _, F__law_lanes := F10, g__law_lanes := PySem.W.mg_of X G a10, b__law_lanes := b10, a__law_runs := f11, d__law_runs := _, F__law_runs := F11, g__law_runs := PySem.W.mg_of X G a11, b__law_runs := b11, a__law_ran := f12, d__law_ran := _, F__law_ran := F12, g__law_ran := PySem.W.mg_of X G a12, b__law_ran := b12, a__law_same := f13, d__law_same := _, F__law_same := F13, g__law_same := PySem.W.mg_of X G a13, b__law_same := b13, a_law := f14, d_law := _, F_law := F14, g_law := PySem.W.mg_of X G a14, b_law := b14, z_abs := PySem.W.mg_none_of X G z_abs, z_all := PySem.W.mg_none_of X G z_all, z_bool := PySem.W.mg_none_of X G z_bool, z_dict := PySem.W.mg_none_of X G z_dict, z_enumerate := PySem.W.mg_none_of X G z_enumerate, z_int := PySem.W.mg_none_of X G z_int, z_isinstance := PySem.W.mg_none_of X G z_isinstance, z_len := PySem.W.mg_none_of X G z_len, z_list := PySem.W.mg_none_of X G z_list, z_max := PySem.W.mg_none_of X G z_max, z_min := PySem.W.mg_none_of X G z_min, z_range := PySem.W.mg_none_of X G z_range, z_sorted := PySem.W.mg_none_of X G z_sorted, z_tuple := PySem.W.mg_none_of X G z_tuple, z_zip := PySem.W.mg_none_of X G z_zip, k_dig := k_dig }
  exact ⟨PySem.W.fnOf "law" "law" (defArgs s_law) (defBody s_law) (defScope s_law) .none kV14 dc14 pm14 an14 cd14 ct14, fun s v => .of_eq rfl, fun base _ _ => (ok_law n T)⟩
end Sim

open PySem PySem.W PyProof.Rows in
set_option maxRecDepth 100000 in
set_option maxHeartbeats 0 in
theorem PySem.Challenge.cw_stairlanes_k97_balls_at_their_paces_holds : PySem.Challenge.rw_stairlanes_k97_balls_at_their_paces.Holds := by
  w_on; o_law; k_head; (case hw => w_witness2)
  k_fill
  refine L2.walk_ofK (l := PySem.Challenge.rw_stairlanes_k97_balls_at_their_paces) (n := 63) (k := (20 + 4)) (x := "_law_script") (CX := L2.CX0) (sp := fun K => Sim.spF K 1 (Sim.f_law 20)) rfl (by decide) rfl ⟨rfl, by decide, by decide⟩ (fun w h Y => PySem.W.kIn_of Y) ?F (fun K H a ns h1 h2 h3 => Sim.spF_law Sim.law_holds K H a ns h1 h2 h3) (fun _ _ _ _ h => h)
  case F =>
    intro w mg fa h KX G hmg
    refine' Sim.all_mk 20 KX G hmg ?a1 ?l1 ?c1 ?k1 ?a2 ?l2 ?c2 ?k2 ?a3 ?l3 ?c3 ?k3 ?a4 ?l4 ?c4 ?k4 ?a5 ?l5 ?c5 ?k5 ?a6 ?l6 ?c6 ?k6 ?a7 ?l7 ?c7 ?k7 ?a8 ?l8 ?c8 ?k8 ?a9 ?l9 ?c9 ?k9 ?a10 ?l10 ?c10 ?k10 ?a11 ?l11 ?c11 ?k11 ?a12 ?l12 ?c12 ?k12 ?a13 ?l13 ?c13 ?k13 ?a14 ?l14 ?c14 ?k14 ?z_abs ?z_all ?z_bool ?z_dict ?z_enumerate ?z_int ?z_isinstance ?z_len ?z_list ?z_max ?z_min ?z_range ?z_sorted ?z_tuple ?z_zip ?k_dig
    (case a1 => k_is); (case l1 => k_is); (case c1 => k_is); (case k1 => k_is); (case a2 => k_is); (case l2 => k_is); (case c2 => k_is); (case k2 => k_is); (case a3 => k_is); (case l3 => k_is); (case c3 => k_is); (case k3 => k_is); (case a4 => k_is); (case l4 => k_is); (case c4 => k_is); (case k4 => k_is); (case a5 => k_is); (case l5 => k_is); (case c5 => k_is); (case k5 => k_is); (case a6 => k_is); (case l6 => k_is); (case c6 => k_is); (case k6 => k_is); (case a7 => k_is); (case l7 => k_is); (case c7 => k_is); (case k7 => k_is); (case a8 => k_is); (case l8 => k_is); (case c8 => k_is); (case k8 => k_is); (case a9 => k_is); (case l9 => k_is); (case c9 => k_is); (case k9 => k_is); (case a10 => k_is); (case l10 => k_is); (case c10 => k_is); (case k10 => k_is); (case a11 => k_is); (case l11 => k_is); (case c11 => k_is); (case k11 => k_is); (case a12 => k_is); (case l12 => k_is); (case c12 => k_is); (case k12 => k_is); (case a13 => k_is); (case l13 => k_is); (case c13 => k_is); (case k13 => k_is); (case a14 => k_is); (case l14 => k_is); (case c14 => k_is); (case k14 => k_is); (case z_abs => k_is); (case z_all => k_is); (case z_bool => k_is); (case z_dict => k_is); (case z_enumerate => k_is); (case z_int => k_is); (case z_isinstance => k_is); (case z_len => k_is); (case z_list => k_is); (case z_max => k_is); (case z_min => k_is); (case z_range => k_is); (case z_sorted => k_is); (case z_tuple => k_is); (case z_zip => k_is); (case k_dig => k_is)
